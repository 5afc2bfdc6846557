/- A part of the proof; nothing in it is assumed. -/
import Derived.Test.YtfocnoaoekkloaaGreatDoorDecidesP4
import Derived.Laws.CopyOwn
import Derived.Shelf.Sort.Plain
import Derived.Shelf.Slices.CompactS
import Derived.Sort.OwnSorted
import Derived.Lib.OwnBridge
import Derived.Shelf.Slices.In.SortNone
import Derived.Laws.EntriesVeiled

set_option linter.unusedSimpArgs false
set_option linter.unusedVariables false
set_option linter.defProp false
set_option maxHeartbeats 4000000
set_option maxRecDepth 100000
open Nat renaming le_of_ble_eq_true→Qn,le_refl→Qs,zero_le→Qz,reduceEqDiff→QA,reduceAdd→QL,le_trans→Ze,not_lt_zero→Zi,zero_add→Zm,mul_zero→ZK,sub_zero→ZL,lt_or_ge→ZM,succ_ne_zero→ZN,add_zero→Z3,mul_one→Z4
open List renaming getElem?_eq_getElem→Qo,length_cons→Qr,take_of_length_le→Qu,take_succ_eq_append_getElem→Qw,length_map→Qx,mem_cons_self→Qy,getElem_mem→QB,length_nil→QC,mem_cons_of_mem→QE,getElem?_eq_some_iff→QJ,getD→QK,foldl_cons→QM,mem_map→QN,length_append→QO,append_assoc→QQ,drop_eq_getElem_cons→QR,length_mergeSort→QS,mem_singleton→QT,mem_of_getElem?→QV,getElem?_map→QW,length_eq_zero_iff→QX,length_take→QZ,nodup_iff_pairwise_ne→Q0,getD_eq_getElem?_getD→Q1,findIdx?_eq_some_iff_getElem→Q2,map_append→Q3,getElem_of_mem→Q4,all_eq_true→Q5,drop_eq_nil_of_le→Q6,nil_append→Q8,mem_cons→Q9,take_append_drop→Za,drop_zero→Zb,getElem?_append_right→Zc,take_length→Zd,take_succ_cons→Zf,map_cons→Zg,length_filterMap_le→Zh,mem_append→Zj,append_nil→Zk,mem_range→Zo,take_add_one→Zp,any_eq_true→Zq,cons_append→Zr,eq_nil_of_length_eq_zero→Zt,map_congr_left→Zu,findIdx?_eq_none_iff→Zw,any_eq_false→Zx,flatMap_cons→Zy,length_drop→ZB,map_nil→ZC,range→ZD,range_succ_eq_map→ZE,take_zero→ZG,replicate→ZH,drop_succ_cons→ZI,map_map→ZJ,suffix_cons→ZO,isEmpty_iff→ZP,mem_flatMap→ZQ,length→ZS,nodup_cons→ZV,any_append→ZW,head?_cons→ZX,map_take→ZY,getLast?→ZZ,findIdx?→Z_,map_drop→Z0,take→Z1,any_map→Z2
open Int renaming toNat_natCast→Qp,toNat_of_nonneg→QF,toNat_zero→Zn,lt_irrefl→Zs,toNat→ZR,le_refl→Z5
open Go.Proofs.Tryz renaming prog→Qq
open Bool renaming not_true→Qt,not_false→Qv,and_eq_true→QD,or_eq_false_iff→QP,false_eq_true→Zl,false_and→Zv,true_and→Zz,or_eq_true→ZF
open Option.some renaming injEq→QG
open Array renaming getElem?_eq_some_iff→QH,size_push→QY
open Option renaming map_eq_some_iff→QI,getD_some→Q_,isSome_some→Q7,bind_some→ZA,map_some→ZT
open Prod.mk renaming injEq→QU
open List.cons renaming injEq→ZU
open Iff renaming intro→Z6
open Go.Proofs.Tryz
noncomputable section
namespace Go.Vd
open Go.Proofs Go.RowKit
def aCv{l:List Mt}{p:Bs}:∀j,UG l p j=0∨Op.bytesLess (l.getD (UG l p j-1) m0t).1 p=true
 |0=> .inl rfl
 |j+1=>by
  unfold UG;split
  ·rename_i h;right;exact h
  ·exact aCv j
def qY{l:List Mt}{p:Bs}:∀j i,UG l p j<=i->i<j->Op.bytesLess (l.getD i m0t).1 p=false
 |0,i,_,h=>O
 |j+1,i,h1,h2=>by
  unfold UG at h1;split at h1
  ·omega
  ·rename_i h;by_cases e:i=j
   ·subst e;exact Bool.eq_false_iff.2 h
   ·exact qY j i h1 O
def Sr{α:Type}{l:List α}{m d:α}{k i:Nat}(j:k<=l.length):(l.take k++m::l.drop k).getD i d=if i<k then l.getD i d else if i=k then m else l.getD (i-1) d:=by
 grind
theorem aAL{l:List Mt}{m:Mt}(h:GN l)(f:∀i,i<l.length->(l.getD i m0t).1≠m.1):GN (l.take (UG l m.1 l.length)++m::l.drop (UG l m.1 l.length)):=by
 have g:=kZ l m.1 l.length;have h1:=aCv (l:=l) (p:=m.1) l.length;have q:=qY (l:=l) (p:=m.1) l.length;generalize UG l m.1 l.length=k at g h1 q;have lo:∀i,i<k->Op.bytesLess (l.getD i m0t).1 m.1=true:=λi hi=>by
  rcases h1 with h1|h1
  ·omega
  ·by_cases e:i=k-1
   ·rw[e];exact h1
   ·exact Hy (h i (k-1) O O) h1
 have hi:∀i,k<=i->i<l.length->Op.bytesLess m.1 (l.getD i m0t).1=true:=λi o b=>by
  rw[Gc (λe=>f i b e.symm),q i o b];rfl
 intro i j v y;have u:(l.take k++m::l.drop k).length=l.length+1:=by
  grind
 rw[u]at y;rw[Sr g,Sr g];by_cases t:i<k
 ·rw[if_pos t];by_cases z:j<k
  ·rw[if_pos z];exact h i j v O
  ·rw[if_neg z];by_cases d:j=k
   ·simp_all
   ·rw[if_neg d];exact h i (j-1) O O
 ·rw[if_neg t];have z:¬j<k:=by omega
  have d:¬j=k:=O
  rw[if_neg z,if_neg d];by_cases x:i=k
  ·grind
  ·rw[if_neg x];exact h (i-1) (j-1) O O
def S8{s:Bool×List Mt}{m:Mt}(h:GN s.2):GN (CE s m).2:=by
 unfold CE Gf;by_cases u:DQ m.1 m.2.1≠0
 ·rw[if_pos u];exact h
 ·rw[if_neg u];by_cases q:0<=Bh s.2 m.1
  ·rw[if_pos q];exact h
  ·grind [FU,aAL,UT]
def PF{s:Bool×List Mt}{m:Mt}(h:GN s.2):BZ s m=CE s m:=by
 grind [BZ,CE,O6]
def eJ(w:List Mt):∀s:Bool×List Mt,GN s.2->w.foldl BZ s=w.foldl CE s∧GN (w.foldl CE s).2:=by
 induction w with
 |nil=>exact λs h=>⟨rfl,h⟩
 |cons m r ih=>
  intro s h;rw[QM,QM,PF h];exact ih _ (S8 h)
def Gn(w:List Mt):w.foldl BZ (true,[])=w.foldl CE (true,[])∧GN (w.foldl CE (true,[])).2:=eJ w _ (λi j _ h=>absurd h (Zi _))
def CR(l:List Tk):Prop:=∀i j,i<j->j<l.length->Op.bytesLess (AS l i).1 (AS l j).1=true
def AtT(l:List Tk)(s:Bs)(r:Nat):Prop:=r<=l.length∧(∀i,i<r->Op.bytesLess (AS l i).1 s=true)∧∀i,r<=i->i<l.length->Op.bytesLess (AS l i).1 s=false
def AtT.uniq{l:List Tk}{s:Bs}{r q:Nat}(h:AtT l s r)(k:AtT l s q):r=q:=by
 rcases Nat.lt_trichotomy r q with e|e|e
 ·have u:=h.2.2 r (Qs _) (by have:=k.1;omega);rw[k.2.1 r e]at u;cases u
 ·exact e
 ·have u:=k.2.2 q (Qs _) (by have:=h.1;omega);rw[h.2.1 q e]at u;cases u
theorem OP{l:List Tk}(h:CR l){s:Bs}{i j:Nat}(v:i<=j)(y:j<l.length)(w:Op.bytesLess (AS l j).1 s=true):Op.bytesLess (AS l i).1 s=true:=by
 by_cases e:i=j
 ·rw[e];exact w
 ·exact Hy (h i j O y) w
def nD{l:List Tk}(h:CR l){s:Bs}:∀(f lo hi:Nat),hi-lo<=f->lo<=hi->hi<=l.length->(∀i,i<lo->Op.bytesLess (AS l i).1 s=true)->(∀i,hi<=i->i<l.length->Op.bytesLess (AS l i).1 s=false)->AtT l s (bsR l s f lo hi)
 |0,lo,hi,hf,h1,h2,h3,h4=>by
  have:lo=hi:=O
  subst this;exact⟨h2,h3,h4⟩
 |f+1,lo,hi,hf,h1,h2,h3,h4=>by
  unfold bsR;split
  ·rename_i v;have z:(lo+hi) / 2<hi:=by omega
   have r:lo<=(lo+hi) / 2:=O
   split
   ·rename_i k;have o:Op.bytesLess (AS l ((lo+hi) / 2)).1 s=true:=by rw[←RQ];exact decide_eq_true k
    exact nD h f _ hi O O h2 (λi t=>OP h (show i<=(lo+hi) / 2 by omega) O o) h4
   ·rename_i k;have o:Op.bytesLess (AS l ((lo+hi) / 2)).1 s=false:=by rw[←RQ];exact decide_eq_false k
    refine nD h f lo _ O r O h3 (λi m x=>?_);by_cases e:Op.bytesLess (AS l i).1 s=true
    ·grind [OP]
    ·simpa using e
  ·have:lo=hi:=by omega
   subst this;exact⟨h2,h3,h4⟩
def WH{l:List Tk}(h:CR l)(s:Bs):AtT l s (I3 l s):=nD h l.length 0 l.length O O (Qs _) (λi hi=>absurd hi (Zi _)) (λi u q=>O)
def rA{l:List Tk}(h:CR l){s:Bs}:∀(f j:Nat),l.length=j+f->(∀i,i<j->Op.bytesLess (AS l i).1 s=true)->AtT l s (EZ l s f j)
 |0,j,hj,h1=>⟨by unfold EZ;omega,h1,λi q o=>by unfold EZ at q;omega⟩
 |f+1,j,hj,h1=>by
  unfold EZ;split
  ·rename_i k;refine rA h f (j+1) O (λi hi=>?_);by_cases e:i=j
   ·rw[e];exact k
   ·exact h1 i O
  ·rename_i k;refine⟨O,h1,λi q o=>?_⟩;by_cases e:Op.bytesLess (AS l i).1 s=true
   ·grind [OP]
   ·simpa using e
def fT{l:List Tk}(h:CR l)(s:Bs):I3 l s=EZ l s l.length 0:=(WH h s).uniq (rA h l.length 0 O (λi hi=>absurd hi (Zi _)))
theorem O0{a b:Bs}:decide (Hv a b=0)=decide (a=b):=by
 grind [Hv,GZ]
def LV{l:List Tk}(h:CR l){j:Nat}(y:j<l.length):I3 l (AS l j).1=j∧A0 l (AS l j).1=true:=by
 have e:I3 l (AS l j).1=j:=(WH h _).uniq ⟨O,λi hi=>h i j hi y,λi u q=>by
  by_cases e:i=j
  ·rw[e];exact GZ _
  ·have o:=h j i O q;have c:(AS l i).1≠(AS l j).1:=λe=>by rw[e,GZ]at o;cases o
   rw[Gc c,o];rfl⟩
 refine⟨e,?_⟩;unfold A0;rw[e,O0];simp[y]
def R4{l:List Tk}{j:Nat}(h:j<l.length):AS l j=l[j]:=by simp[AS,Qo h]
def EM{l:List Tk}(h:CR l)(s:Bs):(A0 l s=true∧Bv l s=(I3 l s:Int)∧I3 l s<l.length)∨(A0 l s=false∧Bv l s=-1):=by
 by_cases a:A0 l s=true
 ·left;have u:=a;unfold A0 at u;rw[O0,QD,decide_eq_true_eq,decide_eq_true_eq]at u;obtain⟨w,f⟩:=u;refine⟨a,?_,w⟩;unfold Bv;refine E7 ?_ (λi hi=>?_)
  ·rw[QW,Qo w,ZT];rw[R4 w]at f;rw[decide_eq_true f]
  ·have v:i<l.length:=by omega
   rw[QW,Qo v,ZT];have o:=(WH h s).2.1 i hi;rw[R4 v]at o;have c:l[i].1≠s:=λe=>by rw[e,GZ]at o;cases o
   rw[decide_eq_false c]
 ·right;have n:A0 l s=false:=by simpa using a
  refine⟨n,?_⟩;have x:∀j,j<l.length->(AS l j).1≠s:=λj y e=>by
   have:=(LV h y).2;rw[e,n]at this;cases this
  unfold Bv Bc;cases hx:(l.map λm=>decide (m.1=s)).findIdx? id with
  |none=>rfl
  |some k=>
   obtain⟨g,hp,_⟩:=Q2.1 hx;rw[Qx]at g;simp only[List.getElem_map,id_eq,decide_eq_true_eq]at hp;exact absurd (by rw[R4 g];exact hp) (x k g)
def gF{l:List Tk}(h:CR l)(n p:Bs)(c:Int):Fj l n p c=D7 l n p c:=by
 unfold Fj D7;rcases EM h n with ⟨u,q,o⟩|⟨u,q⟩
 ·rw[u,q];have:(0:Int)<=(I3 l n:Int):=by omega
  rw[decide_eq_true this,Qp];rfl
 ·rw[u,q];rfl
def FJ(k:Tk):Bs×Bs×List Rl:=(k.1,k.2.1,k.2.2.2)
def Co(L M:List Tk):Prop:=L.map FJ=M.map FJ
def Co.len{L M:List Tk}(h:Co L M):L.length=M.length:=by have:=congrArg ZS h;simpa using this
def Co.at{L M:List Tk}(h:Co L M)(j:Nat):(AS L j).1=(AS M j).1∧(AS L j).2.1=(AS M j).2.1∧(AS L j).2.2.2=(AS M j).2.2.2:=by
 have u:(L.map FJ)[j]?=(M.map FJ)[j]?:=by rw[h]
 rw[QW,QW]at u;unfold AS;simp only[QK];cases hL:L[j]?<;>cases hM:M[j]?<;>rw[hL,hM]at u<;>simp[FJ]at u<;>simp[u]
def Co.sort{L M:List Tk}(h:Co L M)(m:CR L):CR M:=λi j v y=>by
 rw[←(h.at i).1,←(h.at j).1];exact m i j v (by rw[h.len];exact y)
def Co.into{L M:List Tk}(h:Co L M)(s:Bs):∀f j,EZ L s f j=EZ M s f j
 |0,_=>rfl
 |f+1,j=>by
  unfold EZ;rw[(h.at j).1,Co.into h s f (j+1)]
def Co.find{L M:List Tk}(h:Co L M)(s:Bs):Bv L s=Bv M s:=by
 unfold Bv;have e:∀K:List Tk,(K.map λm=>decide (m.1=s))=(K.map FJ).map λx=>decide (x.1=s):=λK=>by rw[ZJ];rfl
 rw[e,e,h]
def Co.mid{L M:List Tk}(h:Co L M){k k':Tk}(g:FJ k=FJ k')(j:Nat):Co (L.take j++k::L.drop j) (M.take j++k'::M.drop j):=by
 simp_all [Co]
def OD{l:List Tk}{k:Tk}(h:CR l)(a:A0 l k.1=false):CR (DI l k):=by
 have d:=WH h k.1;have c:∀i,i<l.length->(AS l i).1≠k.1:=λi hi e=>by
  have:=(LV h hi).2;rw[e,a]at this;cases this
 unfold DI;generalize I3 l k.1=q at d;obtain⟨s,lo,hi⟩:=d;have t:∀i,q<=i->i<l.length->Op.bytesLess k.1 (AS l i).1=true:=λi u f=>by
  rw[Gc (λe=>c i f e.symm),hi i u f];rfl
 intro i j v y;have p:(l.take q++k::l.drop q).length=l.length+1:=by
  grind
 rw[p]at y;have w:∀i,AS (l.take q++k::l.drop q) i=if i<q then AS l i else if i=q then k else AS l (i-1):=λi=>Sr s
 rw[w,w];by_cases r:i<q
 ·rw[if_pos r];by_cases o:j<q
  ·rw[if_pos o];exact h i j v O
  ·rw[if_neg o];by_cases m:j=q
   ·simp_all
   ·rw[if_neg m];exact h i (j-1) O O
 ·rw[if_neg r];have o:¬j<q:=by omega
  have m:¬j=q:=O
  rw[if_neg o,if_neg m];by_cases x:i=q
  ·grind
  ·rw[if_neg x];exact h (i-1) (j-1) O O
def vT{s r:Bool×List Tk}{k:Tk}(h:Co s.2 r.2)(j:CR s.2):Co (Bx s k).2 (CB r k).2∧CR (Bx s k).2:=by
 unfold Bx CB De Dr;have e1:(DB k).1=k.1:=rfl;have e2:(DB k).2.1=k.2.1:=rfl;have e3:(DB k).2.2.2=k.2.2.2:=rfl;rw[e1,e2,e3,←h.find,←h.find];by_cases u:GR k.1 k.2.1 k.2.2.2≠0
 ·simp_all
 rw[if_neg u,if_neg u];by_cases q:k.2.1=[]
 ·simp_all
 rw[if_neg q,if_neg q];rcases EM j k.1 with ⟨y,g,c⟩|⟨y,g⟩
 ·simp_all
 have n1:¬A0 s.2 k.1=true:=by rw[y];decide
 have n2:¬0<=Bv s.2 k.1:=by rw[g];decide
 rw[if_neg n1,if_neg n2];rcases EM j k.2.1 with ⟨z,i,d⟩|⟨z,i⟩
 ·have f:¬A0 s.2 k.2.1=false:=by rw[z];decide
  have o:¬Bv s.2 k.2.1<0:=by rw[i];omega
  rw[if_neg f,if_neg o,i,Qp,←(h.at _).2.2];by_cases m:DZ k.2.2.2 (AS s.2 (I3 s.2 k.2.1)).2.2.2=false
  ·simp_all
  rw[if_neg m,if_neg m];refine⟨?_,OD (k:=DB k) j y⟩;show Co (DI s.2 (DB k)) (NM r.2 k);unfold DI NM;rw[e1,fT j,h.into,h.len];exact h.mid (k:=DB k) (k':=k) (show FJ (DB k)=FJ k from rfl) _
 ·have o:Bv s.2 k.2.1<0:=by rw[i];decide
  rw[if_pos z,if_pos o];exact⟨h,j⟩
def eI(e:List Tk):∀s r:Bool×List Tk,Co s.2 r.2->CR s.2->Co (e.foldl Bx s).2 (e.foldl CB r).2∧CR (e.foldl Bx s).2:=by
 induction e with
 |nil=>exact λs r h j=>⟨h,j⟩
 |cons k t ih=>
  intro s r h j;rw[QM,QM];obtain⟨u,q⟩:=vT (k:=k) h j;exact ih _ _ u q
def Gm(e:List Tk):Co (e.foldl Bx (false,[Io])).2 (e.foldl CB (false,[Io])).2∧CR (e.foldl Bx (false,[Io])).2:=
 eI e _ _ rfl (λi j u q=>by simp at q;omega)
def Co.allow{L M:List Tk}(h:Co L M)(n p:Bs)(c:Int):D7 L n p c=D7 M n p c:=by
 unfold D7;rw[h.find,(h.at _).2.2]
def SQ(l:List Bool):decide (Bc l≠-1)=decide (0<=Bc l):=by
 grind [Bc]
structure aPz (v r:Vw):Prop where
 se:v.se=r.se
 te:v.te=r.te
 key:v.key=r.key
 ms:v.ms=r.ms
 ks:Co v.ks r.ks
 sort:CR v.ks
def jM{v r:Vw}(h:aPz v r)(a:Ak):HV v a=Ff r a:=by
 have g:Pq v a=pW r a:=by
  unfold Pq pW;rw[gF h.sort,gF h.sort,h.ks.allow,h.ks.allow]
 have z:¬a.op<=8->GS v a=Nj r a:=λy=>by
  unfold GS Nj Bd;rw[decide_eq_false y,SQ,SQ,h.ms,Bool.false_or,Bool.or_comm]
 have b:a.op<=8->GS v a=true:=λy=>by
  unfold GS;rw[decide_eq_true y,Bool.true_or]
 unfold HV Ff;rw[g,h.se,h.key];by_cases y:a.op<=8
 ·simp[b y,y]
 ·simp[z y,y]
def Hd{v:Vw}:aPz (Gg v) (FA v):=⟨rfl,rfl,rfl,by show(v.ms.foldl BZ (true,[])).2=_;rw[(Gn v.ms).1];rfl,(Gm v.ks).1,(Gm v.ks).2⟩
def iW{v:Vw}(h:IV v):U3 (Gg v).ks (FA v).ks:=by
 obtain⟨h1,q⟩:=Gm v.ks;have f:∀(e:List Tk)(s:Bool×List Tk)(n:Nat),GM s n->(∀k∈s.2,k.2.2.2.length<=1000)->(∀k∈e,TkG k∧k.2.2.2.length<=1000)->GM (e.foldl Bx s) (n+e.length)∧∀k∈(e.foldl Bx s).2,k.2.2.2.length<=1000:=by
  intro e;induction e with
  |nil=>exact λs n h d _=>⟨h,d⟩
  |cons k t ih=>
   intro s n m pa g;rw[QM,Qr,show n+(t.length+1)=n+1+t.length by omega];refine ih _ (n+1) (OO m (g k (Qy ..)).1) ?_ (λx p=>g x (QE _ p));intro x p;unfold Bx at p;split at p
   ·exact pa x p
   ·rename_i l w;unfold De at w
    repeat' split at w
    all_goals first|(cases w;done)|skip
    simp only[QG]at w;subst w;unfold DI at p;rcases Zj.1 p with h1|h1
    ·grind
    ·rcases Q9.1 h1 with rfl|h1
     ·exact(g k (Qy ..)).2
     ·exact pa x (List.mem_of_mem_drop h1)
 obtain⟨a,o⟩:=f v.ks (false,[Io]) 1 LY (λk g=>by rw[QT.1 g];decide) (λk g=>⟨h.kp k g,h.kr k g⟩);have w:=h.kl;refine⟨h1.len,?_,λk g=>(a.2 k g).2.2.1,o,λj y=>?_⟩
 ·have:=a.1;show(v.ks.foldl Bx (false,[Io])).2.length<=1000;omega
 ·obtain⟨e1,e2,e3⟩:=h1.at j;have i:j<(Gg v).ks.length:=by rw[show(Gg v).ks.length=(FA v).ks.length from h1.len];exact y
  obtain⟨z,b⟩:=LV q i;refine⟨e1,e2,e3,?_,?_⟩
  ·grind [AS,FA,Gg]
  ·grind [AS,FA,Gg]
def Od:∀(w:List Mt)(s:Bool×List Mt)(n:Nat),iA s n->(∀x∈s.2,x.1.length<=1000)->(∀m∈w,m.1.length<=1000)->iA (w.foldl CE s) (n+w.length)∧∀x∈(w.foldl CE s).2,x.1.length<=1000
 |[],s,n,h,h',_=>⟨h,h'⟩
 |m::r,s,n,h,h',hm=>by
  obtain⟨u,q⟩:=gI h h' (hm m (Qy ..));rw[QM,Qr,show n+(r.length+1)=n+1+r.length by omega];exact Od r _ _ u q (λx p=>hm x (QE _ p))
def eM:∀(e:List Tk)(s:Bool×List Tk)(n:Nat),GM s n->(∀k∈e,TkG k)->GM (e.foldl Bx s) (n+e.length)
 |[],s,n,h,_=>h
 |k::r,s,n,h,hk=>by
  rw[QM,Qr,show n+(r.length+1)=n+1+r.length by omega];exact eM r _ _ (OO h (hk k (Qy ..))) (λx p=>hk x (QE _ p))
def eL:∀(e:List Tk)(s:Bool×List Tk)(n:Nat),GM s n->(∀k∈e,TkG k)->GM (e.foldl CB s) (n+e.length)
 |[],s,n,h,_=>h
 |k::r,s,n,h,hk=>by
  rw[QM,Qr,show n+(r.length+1)=n+1+r.length by omega];exact eL r _ _ (Uy h (hk k (Qy ..))) (λx p=>hk x (QE _ p))
def aDi{v:Vw}(h:IV v):IG (FA v):=by
 obtain⟨u,q⟩:=Od v.ms (true,[]) 0 ⟨Qs _,λ_=>rfl⟩ (λx p=>XN) h.mp;have o:=eL v.ks (false,[Io]) 1 LY h.kp;have z:=h.ml;have j:=h.kl;refine⟨?_,q,?_,λk j=>⟨(o.2 k j).2.2.1,(o.2 k j).2.2.2⟩⟩
 ·have:=u.1;show(v.ms.foldl CE (true,[])).2.length<=1000;omega
 ·have:=o.1;show(v.ks.foldl CB (false,[Io])).2.length<=1000;omega
def aAZ{v:Vw}(h:IV v):IG (Gg v):=by
 have l:=aDi h;have o:=eM v.ks (false,[Io]) 1 LY h.kp;have j:=h.kl;have e:(Gg v).ms=(FA v).ms:=Hd.ms;refine⟨by rw[e];exact l.ml,by rw[e];exact l.mp,?_,λk j=>⟨(o.2 k j).2.2.1,(o.2 k j).2.2.2⟩⟩;have:=o.1;show(v.ks.foldl Bx (false,[Io])).2.length<=1000;omega
def jQ(k:Tk):Prop:=(k.2.2.1=true->k.2.2.2=[])∧Eh k.2.2.2
theorem LB{l:List Rl}(h:LC l=false):l.length<=8∧∀r∈l,r.1.length<=100:=by
 grind [LC,nG]
def aF7{v:Vw}(h:Sj v=false)(y:∀k∈v.ks,jQ k):IV v:=by
 unfold Sj at h;rw[QP,QP,QP]at h;obtain⟨⟨⟨u,q⟩,o⟩,b⟩:=h;unfold Up at o;rw[QP]at o;have j:∀k∈v.ks,k.1.length<=40∧k.2.1.length<=40∧LC k.2.2.2=false:=λk j=>by
  have w:=Zx.1 o.2 k j;unfold yU at w;rw[Bool.not_eq_true,QP,QP]at w;exact⟨by have:=of_decide_eq_false w.1.1;omega,by have:=of_decide_eq_false w.1.2;omega,w.2⟩
 refine⟨by have:=of_decide_eq_false q;omega,λm z=>?_,by have:=of_decide_eq_false o.1;omega,λk n=>?_,λk n=>?_⟩
 ·grind [nH]
 ·obtain⟨t,x,p⟩:=j k n;obtain⟨l,d⟩:=LB p;obtain⟨s,c2⟩:=y k n;exact⟨O,O,⟨O,s⟩,⟨O,λr y=>by have:=d r y;omega,c2⟩⟩
 ·grind [LB]
def aRA{a:Ak}(h:Sk a=false)(m:0<=a.op)(u:a.op<256)(y:Eh a.rs):ID a:=by
 unfold Sk at h;simp only[QP,decide_eq_false_iff_not]at h;obtain⟨⟨⟨⟨⟨⟨e1,e2⟩,e3⟩,e4⟩,e5⟩,e6⟩,e7⟩:=h;obtain⟨o,d⟩:=LB e6;exact⟨m,u,O,O,O,O,O,O,λr t=>⟨by have:=d r t;omega,(y r t).1⟩,O⟩
def iU(b:Ak)(y:Bool)(c:Int):∃z,Bk {b with nlr:=y} c={Bk b c with nlr:=z}:=by
 by_cases l:c=116
 ·exact⟨y,by unfold Bk;rw[if_pos l,if_pos l]⟩
 by_cases j:c=112
 ·exact⟨y,by unfold Bk;rw[if_neg l,if_pos j,if_neg l,if_pos j]⟩
 by_cases c2:c=109∨c=113
 ·exact⟨y,by unfold Bk;rw[if_neg l,if_neg j,if_pos c2,if_neg l,if_neg j,if_pos c2]⟩
 by_cases p:c=110
 ·exact⟨y,by unfold Bk;rw[if_neg l,if_neg j,if_neg c2,if_pos p,if_neg l,if_neg j,if_neg c2,if_pos p]⟩
 by_cases u:c=99
 ·exact⟨y,by unfold Bk;rw[if_neg l,if_neg j,if_neg c2,if_neg p,if_pos u,if_neg l,if_neg j,if_neg c2,if_neg p,if_pos u]⟩
 by_cases o:c=102
 ·exact⟨y,by unfold Bk;rw[if_neg l,if_neg j,if_neg c2,if_neg p,if_neg u,if_pos o,if_neg l,if_neg j,if_neg c2,if_neg p,if_neg u,if_pos o]⟩
 by_cases m:c=108
 ·exact⟨y,by unfold Bk;rw[if_neg l,if_neg j,if_neg c2,if_neg p,if_neg u,if_neg o,if_pos m,if_neg l,if_neg j,if_neg c2,if_neg p,if_neg u,if_neg o,if_pos m]⟩
 by_cases g:c=100
 ·exact⟨y,by unfold Bk;rw[if_neg l,if_neg j,if_neg c2,if_neg p,if_neg u,if_neg o,if_neg m,if_pos g,if_neg l,if_neg j,if_neg c2,if_neg p,if_neg u,if_neg o,if_neg m,if_pos g]⟩
 by_cases s:c=114
 ·exact⟨true,by unfold Bk;rw[if_neg l,if_neg j,if_neg c2,if_neg p,if_neg u,if_neg o,if_neg m,if_neg g,if_pos s,if_neg l,if_neg j,if_neg c2,if_neg p,if_neg u,if_neg o,if_neg m,if_neg g,if_pos s]⟩
 by_cases k:c=107
 ·exact⟨y,by unfold Bk;rw[if_neg l,if_neg j,if_neg c2,if_neg p,if_neg u,if_neg o,if_neg m,if_neg g,if_neg s,if_pos k,if_neg l,if_neg j,if_neg c2,if_neg p,if_neg u,if_neg o,if_neg m,if_neg g,if_neg s,if_pos k]⟩
 exact⟨y,by unfold Bk;rw[if_neg l,if_neg j,if_neg c2,if_neg p,if_neg u,if_neg o,if_neg m,if_neg g,if_neg s,if_neg k,if_neg l,if_neg j,if_neg c2,if_neg p,if_neg u,if_neg o,if_neg m,if_neg g,if_neg s,if_neg k]⟩
def rZ(a:Ak)(x:Bool):∀(l:Bs)(b:Ak)(y:Bool),∃z,FB {a with nlr:=x} {b with nlr:=y} l=((FB a b l).1,{(FB a b l).2 with nlr:=z})
 |[],b,y=>⟨y,rfl⟩
 |c::r,b,y=>by
  obtain⟨z,p⟩:=iU b y (c.toNat:Int);obtain⟨u,m⟩:=rZ a x r (Bk b (c.toNat:Int)) z;unfold FB;rw[show BI {a with nlr:=x} (c.toNat:Int)=BI a (c.toNat:Int)from rfl];by_cases h:BI a (c.toNat:Int)≠0
  ·simp_all
  ·simp_all
def aDR(a:Ak)(x:Bool):Cc {a with nlr:=x}=Cc a:=by
 obtain⟨z,p⟩:=rZ a x (B8 a.op) (Et a) x;unfold Cc;show(if DK a.op=[]then 22 else if(FB {a with nlr:=x} {Et a with nlr:=x} (B8 a.op)).1≠0 then(FB {a with nlr:=x} {Et a with nlr:=x} (B8 a.op)).1 else if NJ (FB {a with nlr:=x} {Et a with nlr:=x} (B8 a.op)).2=false then 2 else if 400<(Fq a).length then 5 else 0)=_;rw[p];rfl
def aGr(v:Vw)(a:Ak):HV v (Cv a)=HV v a:=by
 unfold HV;rw[show Cc (Cv a)=Cc a from aDR a a.rs.isEmpty];rfl
def HB(l:List Mt):Prop:=l.length<=1000∧∀m∈l,m.1.length<=1000
def kO(p:Bool×Bool×List Mt):List D:=[.agg [.slice p.1 [] (Ar p.2.2)],.slice p.2.1 [] (Ar p.2.2)]
def aB6(x y:Bool×Bool×List Mt)(e:kO x=kO y):x=y:=by
 grind [kO,LH]
def F66:List D->Option D:=FX kO (λp=>HB p.2.2∧(p.1=true->p.2.2=[])) (λ_=> .bool true)
def aS8{n1 n2:Bool}{l:List Mt}(h:HB l)(f:n1=true->l=[]):F66 [.agg [.slice n1 [] (Ar l)],.slice n2 [] (Ar l)]=some (.bool true):=Bl (mk:=kO) (a:=(n1,n2,l)) aB6 ⟨h,f⟩
def kJ(p:Vw×Vw):List D:=[IJ p.1,IJ p.2]
def aB1(x y:Vw×Vw)(e:kJ x=kJ y):x=y:=by
 grind [kJ,Mc]
structure I9 (v r:Vw):Prop where
 se:v.se=r.se
 te:v.te=r.te
 key:v.key=r.key
 ms:v.ms=r.ms
 mo:HB v.ms
 mn:v.nlm=true->v.ms=[]
 ks:U3 v.ks r.ks
def F22:List D->Option D:=FX kJ (λp=>I9 p.1 p.2) (λ_=> .bool true)
def aTg{v r:Vw}(h:I9 v r):F22 [IJ v,IJ r]=some (.bool true):=Bl (mk:=kJ) (a:=(v,r)) aB1 h
def aZ5(ok66:Kq F66 66):Kq F22 22:=by
 obtain⟨S,v,w⟩:=A7 (Aa ok66 (Aa aZW Ad));have a:=w 66 _ rfl;have d:=w 67 _ rfl;clear w;refine Bo v (Ai func22:Fn Qq 22 38 aYF [.t 4]) (λ_=>by simp[kJ]) (λp g=>?_);obtain⟨⟨r,i,y,l,h,s,e⟩,⟨z,b2,j,f,b5,b6,b7⟩⟩:=p;obtain⟨u,q,o,n,m,x,k⟩:=g;simp only at u q o n m x k;subst u q o n;have c:=aS8 (n1:=l) (n2:=f) m x;have b:=aS7 (n1:=s) (n2:=b6) k;unfold aYF kJ IJ Iq;simp only;cases r<;>simp only[↓C2,Is,simprocAttr,Ab a,c,Ab d,b,Ag,Ao,Ap,ZA,ZU,Nat.zero_ne_one,ZN]<;>(try (first|rfl|exact⟨rfl,rfl⟩))
def nO{v:Vw}(h:IV v):I9 (Gg v) (FA v):=by
 have w:=Hd (v:=v);have j:=aAZ h;obtain⟨u,_⟩:=Od v.ms (true,[]) 0 ⟨Qs _,λ_=>rfl⟩ (λx p=>XN) h.mp;refine⟨rfl,rfl,rfl,w.ms,⟨j.ml,j.mp⟩,λe=>?_,iW h⟩;have e2:(v.ms.foldl BZ (true,[])).1=true:=e;rw[(Gn v.ms).1]at e2;show(v.ms.foldl BZ (true,[])).2=[];rw[(Gn v.ms).1];exact u.2 e2
def jJ(s:Bs):Bs:=RR 2 s.length++s
def mtB(m:Mt):Bs:=jJ m.1++[UInt8.ofNat (m.2.1 % 256).toNat,if m.2.2 then 1 else 0]
def Cs(l:List Mt):Bs:=l.flatMap mtB
def Lo(s:Bs):(jJ s).length=2+s.length:=by simp[jJ,Mu]
def qP(m:Mt):(mtB m).length=4+m.1.length:=by simp[mtB,Lo];omega
def OB{l:List Mt}{j:Nat}(h:j<l.length):Cs (l.take (j+1))=Cs (l.take j)++mtB (AZ l j):=by
 have e:AZ l j=l[j]:=by simp[AZ,Qo h]
 rw[e,Cs,Cs,←List.take_append_getElem h,List.flatMap_append];simp
def Sm{l:List Mt}{j:Nat}(h:j<l.length):AZ l j∈l:=by simp[AZ,Qo h]
theorem qU{l:List Mt}:∀(f j a:Nat),l.length=j+f->vY l f j a=a+(Cs (l.drop j)).length
 |0,j,a,h=>by
  rw[Q6 O];rfl
 |f+1,j,a,h=>by
  have y:j<l.length:=O
  unfold vY;rw[qU f (j+1) _ O,QR y];have e:AZ l j=l[j]:=by simp[AZ,Qo y]
  rw[e];simp only[Cs,Zy,QO,qP];omega
def aHo(l:List Mt):aHp l=(Cs l).length:=by
 grind [aHp,qU]
def Vc{l:List Mt}(h:HB l):∀j,j<=l.length->(Cs (l.take j)).length<=1004*j
 |0,_=>by simp[Cs]
 |j+1,hj=>by
  have u:=Vc h j O;have q:=h.2 _ (Sm (show j<l.length by omega));rw[OB O,QO,qP];omega
def aF4(a:Bs)(x y z:UInt8):(a++[x,y]).set ((a++[x,y]).length-1) z=a++[x,z]:=by
 simp_all
def RG:=y1 f126 3 [] []
def aO5:=y0 f126 [] [(3,RG)]
def rU:=y1 f147 3 [] []
def aOR:=y0 f147 [] [(3,rU)]
def aNO:=y0 f231 [] []
def aNu:=y0 f254 [] []
def P5:=y1 f326 2 [] []
def aMI:=y0 f326 [] [(2,P5)]
def P4:=y1 f342 9 [] []
def P3:=y1 f342 5 [] [(9,P4)]
def aMy:=y0 f342 [] [(5,P3)]
def TM:List D->Option (List D×List Nat)
 |[.int .i64 s,.int .u64 n]=>if 1<=s∧s<=8∧0<=n then some (Ax (RR s.toNat n),[13*s.toNat])else none
 |_=>none
set_option maxHeartbeats 1000000 in
def aGQ{S:Ic}{fr:Id}{m0:Ig}{nl0:Bool}{t0:Id}{emp:Bool}{n:Int}{sz:Nat}{Q:Ex->St->Prop}(pa:sz<=8)(v:0<=n)(ea:∀i o,fr<:+i->m0 i o=none)(xa:Cn m0 5 nl0 t0 emp=true):
  ∀(k:Nat)(z:St)(nl:Bool)(t:Id)(xs:List D) g,k<=sz->xs.length+k<=200000000->(nl=true->xs=[])->z.c=5+13*(sz-k)->Gs 5 fr m0 nl0 t0 z.m z.c nl t->
   z.s 7= .int .i64 (8*(k:Int)-8)->z.s 0= .slice nl t xs->z.s 2= .int .u64 n->
   (∀la nl' t',la.s 0= .slice nl' t' (xs++Ax (RR k n))->(k=0->nl'=nl∧t'=t∧la.m=z.m∧z.c<=la.c)->(0<k->nl'=false∧t'=[13*sz]++fr∧Gd 5 fr m0 nl0 t0 la.m la.c t')->Q (.exit 0) la)->A2 S fr P5 Q z g:=by
 intro k;induction k with
 |zero=>
  intro z nl t xs g _ _ _ _ hG w r q e;refine Ae P5.eq_1 ?_;have f:((0:Int)<=8*((0:Nat):Int)-8)=False:=eq_false Z;simp only[↓C2,Ih,Ii,simprocAttr,w,f];exact e _ nl t (by simp only[↓C2,reduceIte,QA,r,RR,Ax,ZC,Zk]) (λ_=>⟨rfl,rfl,rfl,Xb⟩) (λh=>absurd h O)
 |succ k ih=>
  intro z nl t xs g j ka x hc hG w r q e;refine Ae P5.eq_1 ?_;have f:((0:Int)<=8*((k+1:Nat):Int)-8)=True:=eq_true O;have p:((0:Int)<=8*((k+1:Nat):Int)-8):=O
  have y:min (8*((k+1:Nat):Int)-8).toNat IntKind.u64.bits=8*k:=by
   have:IntKind.u64.bits=64:=rfl;omega
  have hw:IntKind.i64.wrap (8*((k+1:Nat):Int)-8-8)=8*(k:Int)-8:=YI
  simp only[↓C2,Ij,simprocAttr,Qr,QC,w,r,q,f,y,NO,and_false];refine AF.intro ⟨O,rfl,Gs.grow (hG.put (l:=[]) (k:=z.c+2+5) O) ea xa⟩ ?_;rw[BN x];simp only[↓C2,Ij,simprocAttr,w,hw];have u:Gd 5 fr m0 nl0 t0 (Ir.app (z.m.put ((z.c+2+5)::fr) 0 [D.tok 6]) (Bm 5 ((z.c+2+6)::fr) (.slice nl t xs))) (z.c+2+8+3) ((z.c+2+6)::fr):=
   Gs.app (l:=[]) (hG.put (l:=[]) (k:=z.c+2+5) O) O O
  refine ih _ false ((z.c+2+6)::fr) (xs++[.int .u8 ((((n.fdiv (2 ^ (8*k))) % 256).toNat:Nat):Int)]) _ O Xc U Xb u.gs rfl rfl q (λla nl' t' e1 e2 e3=>?_);refine e la nl' t' ?_ (λh=>absurd h O) (λ_=>?_)
  ·rw[e1,QQ];simp only[RR,Ax,Zg];rw[EU O];rfl
  ·by_cases oa:k=0
   ·obtain⟨a,b,c,d⟩:=e2 oa;refine⟨a,?_,?_⟩
    ·grind
    ·rw[b,c];exact u.more d
   ·exact e3 O
def aLb:(gQ 5 TM).ok Qq 326:=by
 refine Gy (S:=λ_=>none) AI (Ai func326:Fn Qq 326 23 aMI [.t 6]) aQ9 (λds m fr d u h o=>?_);obtain⟨nl,t,xs,v,ys,l,rfl,w,p,g,rfl,rfl⟩:=aRa h;unfold TM at g;split at g
 ·rename_i s n;split at g
  ·rename_i x;obtain⟨ka,y,a⟩:=x;simp only[QG,QU]at g;obtain⟨rfl,rfl⟩:=g;refine⟨U,?_⟩;clear h;have j:((s.toNat:Nat):Int)=s:=QF O;have r:IntKind.i64.wrap (s-1)=s-1:=IntWalk.i64_in _ ⟨O,O⟩;have w2:IntKind.i64.wrap (8*(s-1))=8*(s.toNat:Int)-8:=by rw[IntWalk.i64_in _ ⟨O,O⟩];omega
   unfold aMI;simp only[↓C2,Ih,simprocAttr,r,w2];refine aGQ (sz:=s.toNat) O a o w s.toNat _ nl t xs _ O O (λh=>?_) Xb Gs.start rfl rfl rfl (λz nl' t' e1 _ e3=>?_)
   ·grind [Cn]
   ·obtain⟨rfl,rfl,k⟩:=e3 O;simp only[↓C2,Ih,Ii,simprocAttr,e1];exact k.fin o w
  ·cases g
 ·cases g
def aKp:List D->Option (List D×List Nat)
 |[.str s]=>if s.length<=65535 then some (Ax (RR 2 s.length++s),[17])else none
 |_=>none
set_option maxHeartbeats 1000000 in
def aU1(f:grownQ.ok Qq 327):(cQ 5 Vp aKp).ok Qq 231:=by
 have hS:Ic.ok Qq (AB [(327,grownQ),(326,gQ 5 TM)]):=Aa f (Aa (aLb) Ad);have a:AB [(327,grownQ),(326,gQ 5 TM)] 327=some grownQ:=rfl;have b:AB [(327,grownQ),(326,gQ 5 TM)] 326=some (gQ 5 TM):=rfl;generalize AB [(327,grownQ),(326,gQ 5 TM)]=S at hS a b;refine Gy (S:=S) hS (Ai func231:Fn Qq 231 22 aNO [.t 4,.t 5]) (λds m m' fr _=>rfl) (λds m fr d u h n=>?_);obtain⟨nl,t,xs,v,ys,l,rfl,q,p,g,rfl,rfl⟩:=nC h;unfold aKp at g;split at g
 ·rename_i s;split at g
  ·rename_i x;simp only[QG,QU]at g;obtain⟨rfl,rfl⟩:=g;refine⟨U,?_⟩;clear h;have w:((65535:Int)<(s.length:Int))=False:=eq_false O;have r:IntKind.i64.wrap (2+(s.length:Int))=2+(s.length:Int):=IntWalk.i64_in _ ⟨O,O⟩;have y:IntKind.u64.wrap (s.length:Int)=(s.length:Int):=Md O O;have c:TM [.int .i64 2,.int .u64 (s.length:Int)]=some (Ax (RR 2 s.length),[26]):=by
    show(if(1:Int)<=2∧(2:Int)<=8∧0<=(s.length:Int)then some (Ax (RR (2:Int).toNat (s.length:Int)),[13*(2:Int).toNat])else none)=_;rw[if_pos ⟨O,O,O⟩];rfl
   have e:∀m fr,grownQ.ex [.slice nl t xs,.int .i64 (2+(s.length:Int))] m fr=some (.slice false (0::fr) xs,[(0::fr,0,[.tok 6])]):=λm fr=>aCP O q O
   unfold aNO;simp only[↓C2,Ih,Ii,simprocAttr,AN a,AN b,e,w,r,y];have hd:Gd 5 fr m true [] (m.put ([0]++9::fr) 0 [.tok 6]) 10 ([0]++9::fr):=
    ⟨⟨[0],9,rfl,O⟩,by rw[BK,if_pos ⟨rfl,rfl⟩],λi o hi=>NU i o hi⟩
   refine aLX (.inr ⟨hd.tok,U⟩) U p c ?_;have z:Gd 5 fr m true [] (Ir.app (m.put (0::9::fr) 0 [.tok 6]) (Bm 5 ([26]++13::fr) (.slice false (0::9::fr) xs))) 14 ([26]++13::fr):=
    Gs.app (l:=[26]) (k:=13) hd.gs O O
   simp only[↓C2,Ih,simprocAttr,false_and,BS];refine AF.intro ⟨YT,?_,.inr ⟨z.tok,U⟩⟩ ?_
   ·cases s<;>rfl
   simp only[↓C2,Ih,simprocAttr];refine⟨by rw[Dw,QQ];rfl,?_⟩;exact(Gs.app (c':=18) (l:=[]) (k:=17) z.gs O O).finc n
  ·cases g
 ·cases g
def aCd{S:Ic}{fr:Id}{n:Int}(h:0<=n)(b:n<18446744073709551616){i:Nat}(hi:i<=8){X Y:D}{M:Ig}{cs:Nat}{Q:Ex->St->Prop}
  (e:∀z,z.s 9= .int .u64 (n.fdiv (2 ^ (8*i)))->z.s 8= .int .i64 (i:Int)->z.s 7=X->z.s 2=Y->z.m=M->z.c=cs+9*i+3->Q (.exit 2) z):
  ∀(r j:Nat) z g,r=i-j->j<=i->z.s 10= .int .i64 (j:Int)->z.s 9= .int .u64 (n.fdiv (2 ^ (8*j)))->z.s 8= .int .i64 (i:Int)->z.s 7=X->z.s 2=Y->z.m=M->z.c=cs+9*j->A2 S fr P4 Q z g:=by
 intro r;induction r with
 |zero=>
  intro j z g hr y la p t w q a k;refine Ae P4.eq_1 ?_;have v:((j:Int)<(i:Int))=False:=eq_false O;obtain rfl:j=i:=O
  simp only[↓C2,Ih,Ii,simprocAttr,la,t,v];exact e _ p t w q a Xb
 |succ r ih=>
  intro j z g hr y la p t w q a k;refine Ae P4.eq_1 ?_;have v:((j:Int)<(i:Int))=True:=eq_true O;have l:IntKind.i64.wrap ((j:Int)+1)=((j+1:Nat):Int):=YI
  have f:((256:Int)=0)=False:=eq_false Z;simp only[↓C2,Ih,Ii,simprocAttr,la,p,t,v,l,yP h b,ne_eq,f];exact ih (j+1) _ _ O O rfl rfl t w q a Xb
set_option maxHeartbeats 1000000 in
def aCc{S:Ic}{fr:Id}{m0:Ig}{n:Int}(h:0<=n)(h':n<18446744073709551616){T:Nat}{Q:Ex->St->Prop}:
  ∀(k:Nat) p (t:Id) (xs:List D) g,k<=8->xs.length+k<=200000000->p.c+Lq k=T->p.s 8= .int .i64 ((k:Int)-1)->p.s 7= .slice false t xs->p.s 2= .int .u64 n->Gd 5 fr m0 true [] p.m p.c t->
   (∀la v,la.s 7= .slice false v (xs++Ax (RR k n))->(k=0->v=t∧la.m=p.m∧p.c<=la.c)->(0<k->v=[T-5]++fr∧Gd 5 fr m0 true [] la.m la.c v)->Q (.exit 0) la)->A2 S fr P3 Q p g:=by
 intro k;induction k with
 |zero=>
  intro p t xs g _ _ hT h8 h7 q y w;refine Ae P3.eq_1 ?_;have r:((0:Int)<=((0:Nat):Int)-1)=False:=eq_false Z;simp only[↓C2,Ih,Ii,simprocAttr,h8,r];exact w _ t (by simp only[↓C2,reduceIte,QA,h7,RR,Ax,ZC,Zk]) (λ_=>⟨rfl,rfl,Xb⟩) (λh=>absurd h O)
 |succ k ih=>
  intro p t xs g hk ka hT h8 h7 q y w;simp only[Lq]at hT;refine Ae P3.eq_1 ?_;have hw:IntKind.i64.wrap ((k:Int)-1)=(k:Int)-1:=IntWalk.i64_in _ ⟨O,O⟩;have da:p.s 8= .int .i64 (k:Int):=by rw[h8];congr 1;omega
  have x:((0:Int)<=(k:Int))=True:=eq_true O;have f:((256:Int)=0)=False:=eq_false Z;simp only[↓C2,Ih,Ii,simprocAttr,da,x,q];refine aCd h h' (i:=k) O (X:= .slice false t xs) (Y:= .int .u64 n) (M:=p.m) (cs:=p.c+5) (λla a9 a8 a7 a2 am ac=>?_) k 0 _ _ rfl O rfl ?_ da h7 q rfl (by first|omega|rfl|(simp only;done))
  ·have z:Gd 5 fr m0 true [] (p.m.put ((la.c+4)::fr) 0 [.tok 6]) p.c t:=y.put (l:=[]) O;have ma:t≠[]:=by
    obtain⟨a,b,e,_⟩:=y.name;rw[e];simp
   simp only[↓C2,Iw,Ii,simprocAttr,and_self,a9,a8,a7,ne_eq,f,NO,yQ h];rw[am];refine AF.intro ⟨O,rfl,.inr ⟨z.tok,ma⟩⟩ ?_;simp only[↓C2,Ij,simprocAttr,a8,hw];have u:Gd 5 fr m0 true [] (Ir.app (p.m.put ((la.c+4)::fr) 0 [.tok 6]) (Bm 5 ((la.c+5)::fr) (.slice false t xs))) (la.c+7+3) ((la.c+5)::fr):=
    Gs.app (l:=[]) z.gs O O
   refine ih _ ((la.c+5)::fr) (xs++[.int .u8 ((((n.fdiv (2 ^ (8*k))) % 256).toNat:Nat):Int)]) _ O Xc Xb rfl rfl a2 u (λo j e e2 e3=>?_);refine w o j ?_ (λh=>absurd h O) (λ_=>?_)
   ·grind [RR,Ax,EU]
   ·by_cases oa:k=0
    ·obtain⟨b,c,d⟩:=e2 oa;subst oa;simp only[Lq]at hT;refine⟨?_,?_⟩
     ·grind
     ·rw[b,c];exact u.more d
    ·exact e3 O
  ·simp only[↓C2,reduceIte,QA,ZK,Int.pow_zero];rw[show n.fdiv 1=n from Int.fdiv_one n]
def aJ8:List D->Option (List D×List Nat)
 |[.int .i64 s,.int .u64 n]=>if 1<=s∧s<=8∧0<=n∧n<18446744073709551616 then some (Ax (RR s.toNat n),[9+Lq s.toNat])else none
 |_=>none
set_option maxHeartbeats 1000000 in
def aUx:(cQ 5 id aJ8).ok Qq 342:=by
 refine Gy (S:=λ_=>none) AI (Ai func342:Fn Qq 342 42 aMy [.t 6]) (λds m m' fr _=>rfl) (λds m fr d u h ea=>?_);obtain⟨nl,t,xs,v,ys,l,rfl,q,p,r,rfl,rfl⟩:=nC h;unfold aJ8 at r;split at r
 ·rename_i s n;split at r
  ·rename_i x;obtain⟨qa,ua,ka,na⟩:=x;simp only[QG,QU]at r;obtain⟨rfl,rfl⟩:=r;refine⟨U,?_⟩;clear h;have j:((s.toNat:Nat):Int)=s:=QF O;have w1:IntKind.i64.wrap (s-1)=((s.toNat:Nat):Int)-1:=by rw[IntWalk.i64_in _ ⟨O,O⟩];omega
   have w:(s<(1:Int))=False:=eq_false O;have c:((8:Int)<s)=False:=eq_false O;have f:aE xs 1=1:=by
    cases xs with
    |nil=>rfl
    |cons a b=>
     simp only[List.all_cons,QD]at q;cases a<;>simp[EQ]at q;rfl
   unfold aMy;simp only[↓C2,Ih,Ii,simprocAttr,QC,Zm,false_and];refine AF.intro ⟨O,f,.inr ⟨by simp[BK],U⟩⟩ ?_;simp only[↓C2,Ih,Ii,simprocAttr,w,c,w1];have k:Gd 5 fr m true [] (Ir.app (m.put (1::fr) 0 [.tok 6]) (Bm 5 (3::fr) (.slice false (1::fr) []))) 14 (3::fr):=by
    have z:Gd 5 fr m true [] (m.put (1::fr) 0 [.tok 6]) 2 (1::fr):=⟨⟨[],1,rfl,O⟩,by simp[BK],λi o hi=>NU (l:=[]) i o hi⟩;exact Gs.app (l:=[]) z.gs O O
   refine aCc ka na (T:=14+Lq s.toNat) s.toNat _ (3::fr) xs _ O O rfl rfl (by simp only[↓C2,Ih,Ii,reduceIte,QA,Q8]) rfl k (λla t' e e2 e3=>?_);obtain⟨rfl,y⟩:=e3 O;have g:14+Lq s.toNat-5=9+Lq s.toNat:=O
   rw[g]at e y;simp only[↓C2,Ih,simprocAttr,e];exact⟨rfl,y.finc ea⟩
  ·cases r
 ·cases r
def aAe:List D->Option (List D×List Nat)
 |[.str s]=>if s.length<=65535 then some (Ax (RR 2 s.length++s),[11])else none
 |_=>none
def aLi:(cQ 5 Vp aAe).ok Qq 254:=by
 obtain⟨S,hS,w⟩:=A7 (Aa aUx Ad);have a:=w 342 _ rfl;clear w;refine Gy (S:=S) hS (Ai func254:Fn Qq 254 16 aNu [.t 4,.t 5]) (λds m m' fr _=>rfl) (λds m fr d u h n=>?_);obtain⟨nl,t,xs,v,ys,l,rfl,q,p,g,rfl,rfl⟩:=nC h;unfold aAe at g;split at g
 ·rename_i s;split at g
  ·rename_i x;simp only[QG,QU]at g;obtain⟨rfl,rfl⟩:=g;refine⟨U,?_⟩;clear h;have g1:((65535:Int)<(s.length:Int))=False:=eq_false O;have z:IntKind.u64.wrap (s.length:Int)=(s.length:Int):=Md O O;have b:aJ8 [.int .i64 2,.int .u64 (s.length:Int)]=some (Ax (RR 2 s.length),[54]):=by
    simp only[aJ8];rw[if_pos ⟨O,O,O,O⟩];rfl
   unfold aNu;simp only[↓C2,Ih,Ii,simprocAttr,AN a,g1,z];refine eG q p b ?_;simp only[↓C2,Ih,simprocAttr,false_and,id,BS];have hd:Gd 5 fr m true [] (m.put ([54]++9::fr) 0 [.tok 6]) 10 ([54]++9::fr):=
    ⟨⟨[54],9,rfl,O⟩,by rw[BK,if_pos ⟨rfl,rfl⟩],λi o hi=>NU i o hi⟩
   refine AF.intro ⟨YT,?_,.inr ⟨hd.tok,U⟩⟩ ?_
   ·cases s<;>rfl
   simp only[↓C2,Ih,simprocAttr];refine⟨by rw[Dw,QQ];rfl,?_⟩;exact(Gs.app (c':=12) (l:=[]) (k:=11) hd.gs O O).finc n
  ·cases g
 ·cases g
set_option maxRecDepth 20000 in
def aFI(w:World)(d:Option Addr)(n c k:Nat)(cs:List Value)(z:cs.length=n)(q:∀v∈cs,v.oneCell'=true)(g:n+k<=140737488355328)
  (b:0<n->∃ad,d=some ad∧∀(j:Nat) v,cs[j]?=some v->w.cell? (ad.add j)=some v):
  Calls Qq 327 #[.slice d n c,.int .i64 (k:Int)] w λe o=>e= .returned (.slice (some ⟨w.heap.size,0,none⟩) n (n+k))∧o=(w.alloc (.cells (madeCells #[.int .u8 0] (n+k)) 5)).setRow w.heap.size (cs++(madeCells #[.int .u8 0] (n+k)).toList.drop n).toArray:=by
 have l:IntKind.i64.wrap ((n:Int)+(k:Int))=(n:Int)+(k:Int):=IntWalk.i64_in _ ⟨O,O⟩;have h:∀u:World,(Instr.makeSlice 264 (.int .i64 (n:Int)) (.int .i64 ((n:Int)+(k:Int)))).run Qq u= .ok (.slice (some ⟨u.heap.size,0,none⟩) n (n+k)) (u.alloc (.cells (madeCells #[.int .u8 0] (n+k)) 5)):=λu=>by
  have e1:((n:Int)+(k:Int)).toNat=n+k:=O
  have:=run_make (P:=Qq) u 264 5 Tryz.t5 (.int .u8 0) underlying264 Xa Xa .i64 .i64 (n:Int) ((n:Int)+(k:Int)) O O (by show((1:Nat):Int)*_<=_;omega) O;simpa[show Tryz.t5.size=1 from rfl,Value.cells,e1]using this
 have a:(Builtin.copy_ #[264,264] 3 #[.slice (some ⟨w.heap.size,0,none⟩) n (n+k),.slice d n c]).run Qq (w.alloc (.cells (madeCells #[.int .u8 0] (n+k)) 5))= .ok (goInt n) ((w.alloc (.cells (madeCells #[.int .u8 0] (n+k)) 5)).setRow w.heap.size (cs++(madeCells #[.int .u8 0] (n+k)).toList.drop n).toArray):=by
  have x:(w.alloc (.cells (madeCells #[.int .u8 0] (n+k)) 5)).heap[w.heap.size]?=some (.cells (madeCells #[.int .u8 0] (n+k)) 5 (0,0)):=heap_alloc_new w _;rcases Nat.eq_zero_or_pos n with h0|h0
  ·have i:cs=[]:=Zt O;subst i;have:=run_copy_none (P:=Qq) (w.alloc (.cells (madeCells #[.int .u8 0] (n+k)) 5)) 264 264 3 5 (some ⟨w.heap.size,0,none⟩) d n (n+k) n c underlying264 Xa (by rw[h0];rfl);rw[this,h0];simp only[Q8,Zb,Array.toArray_toList];rw[setRow_self _ _ _ 5 (0,0) (by rw[h0]at x;exact x)];rfl
  ·obtain⟨ad,rfl,m⟩:=b h0;have:=run_copy_row (P:=Qq) (w.alloc (.cells (madeCells #[.int .u8 0] (n+k)) 5)) 264 264 3 5 w.heap.size 0 n (n+k) ad n c (madeCells #[.int .u8 0] (n+k)) 5 cs underlying264 Xa x (by rw[z];simp) (λj v t=>by rw[World.cell?_alloc_old _ _ _ (Nat.ne_of_lt (World.block_lt_of_cell? _ _ (m j v t)))];exact m j v t) (by simp[madeCells];omega) q;rw[this,z];simp[]
 go_enter func327,ntmps327
 go_wp2
 go_ret
 exact Qm
def WL(w:World)(a b:Array Value)(e:TypeId):(w.alloc (.cells a e)).setRow w.heap.size b=w.alloc (.cells b e):=by
 have h:∀(F:Obj->Obj),(w.heap.push (.cells a e)).modify w.heap.size F=w.heap.push (F (.cells a e)):=by
  grind
 unfold World.setRow World.alloc;simp only[h]
def aUz:grownQ.ok Qq 327:=by
 refine⟨⟨f327,func327,rfl,Xa⟩,λds m m' fr _=>rfl,?_⟩;intro B w0 w m g fr ds vs r u hi b hl f y;simp only[grownQ]at y;split at y
 ·rename_i nl t xs k;split at y
  ·rename_i hc;obtain⟨oa,s,hk⟩:=hc;simp only[QG,QU]at y;obtain⟨rfl,rfl⟩:=y
   match vs,hl with
   |[v0,v1],_=>
    have ua:=f 0 _ v0 rfl rfl;have na:=(f 1 _ v1 rfl rfl).int_inv;subst na;have ga:∀d∈xs,d.cells.length=1∧d.calm=true:=by
     intro d l;have:=Q5.1 s d l;unfold EQ at this;split at this
     ·exact Qm
     ·cases this
    obtain⟨sp,c,cs,e0,aa,qa,bb⟩:∃(sp:Option Addr)(c:Nat)(cs:List Value),v0= .slice sp xs.length c∧cs.length=xs.length∧A8 w g (flat xs) cs∧
      (0<xs.length->∃ad,sp=some ad∧∀(j:Nat) v,cs[j]?=some v->w.cell? (ad.add j)=some v):=by
     cases nl with
     |true=>
      rcases ua.slice_inv with ⟨_,rfl,e⟩|⟨h,_⟩
      ·exact⟨none,0,[],e,rfl,A8.nil w g,λh=>Xe⟩
      ·cases h
     |false=>
      obtain⟨ad,n,c,sz,ws,ev,hn,va,pa,db,o,aa,_⟩:=ua.slice_list;subst hn;refine⟨some ad,c,ws,ev,?_,o,λ_=>⟨ad,rfl,aa⟩⟩;rw[db];cases xs with
      |nil=>simp
      |cons x r=>
       have q:=pa x (Qy ..);rw[(ga x (Qy ..)).1]at q;rw[←q,Z4]
    subst e0;have ka:((k.toNat:Nat):Int)=k:=QF oa;have hw:=aFI w sp xs.length c k.toNat cs aa qa.2.1 O bb;rw[ka]at hw;refine hw.mono ?_;rintro e w' ⟨rfl,rfl⟩;rw[WL];have pa:(cs++(madeCells #[Value.int .u8 0] (xs.length+k.toNat)).toList.drop xs.length).toArray.size=(xs.length+k.toNat)*1:=by simp[madeCells,aa]
    have fb:∃ti z,Tryz.prog.info? 5=some ti∧ti.size=1∧ti.zero=some z∧z.cells.size=1:=⟨Tryz.t5,.int .u8 0,Xa,Xa,Xa,Xa⟩;have ra:=b (0::fr) (ZO 0 fr);have ia:=hi.newTok ra (e:=5) (n:=xs.length) (c:=xs.length+k.toNat) (sz:=1) (cur:=(cs++(madeCells #[Value.int .u8 0] (xs.length+k.toNat)).toList.drop xs.length).toArray) Z fb O Xk pa;have ja:=IF.newTok (w:=w) (t:=0::fr) (n:=xs.length) (c:=xs.length+k.toNat) (sz:=1) (Obj.cells (cs++(madeCells #[Value.int .u8 0] (xs.length+k.toNat)).toList.drop xs.length).toArray 5) hi.gz ra.2.2 rfl;refine⟨_,_,rfl,ia,ja,?_,λi a hn=>DE a (λh=>hn ((ZO 0 fr).trans h)) _ _ _ _ _⟩;refine aH (sz:=1) (cur:=(cs++(madeCells #[Value.int .u8 0] (xs.length+k.toNat)).toList.drop xs.length).toArray) (T:=5) (fz:=(0,0)) (heap_alloc_new w _) rfl O (λd l=>(ga d l).1) (qa.ext ja) (λj v p=>?_) Xi (λ_=>Xi) (λd l=>(ga d l).2);rw[List.getElem?_toArray,List.getElem?_append_left (QJ.1 p).1];exact p
  ·cases y
 ·cases y
def pK{d:D}{n:Bool}{t:Id}{xs ys:List D}(h:d= .slice n t xs)(e:xs=ys):d= .slice n t ys:=e▸h
def aHj{S:Ic}(a:S 231=some (cQ 5 Vp aKp)){l:List Mt}{nl:Bool}{Q:Ex->St->Prop}(w:HB l)
  (e:∀z n t,z.s 3= .slice n t (Ax (Cs l))->Q (.exit 0) z):
  ∀(f j:Nat)(n:Bool)(t:Id)(z:St) g,l.length=j+f->z.s 3= .slice n t (Ax (Cs (l.take j)))->z.s 8= .slice nl [] (Ar l)->z.s 9= .int .i64 (l.length:Int)->z.s 10= .int .i64 (j:Int)->A2 S [] RG Q z g:=by
 intro f;induction f with
 |zero=>
  intro j n t z g hf o h8 h9 la;refine Ae RG.eq_1 ?_;have:¬((j:Int)<l.length):=O
  simp only[↓C2,Ih,Ii,reduceIte,QL,h9,la,this];rw[Qu O]at o;exact e _ n t o
 |succ f ih=>
  intro j n t z g hf o h8 h9 la;refine Ae RG.eq_1 ?_;have y:j<l.length:=O
  have v:((j:Int)<l.length):=O
  have x:=nJ (j:=j);have r:=w.1;have i:=Vc w j O;have hp:=w.2 _ (Sm y);have h:=wJ (j:=j) O;have d:(Ar l)[j]?=some (.agg [.str (AZ l j).1,.int .i64 (AZ l j).2.1,.bool (AZ l j).2.2]):=Dc y;have na:=OB y;generalize AZ l j=m at d hp na;obtain⟨p,k,b⟩:=m;simp only at hp d;have hF:aKp [.str p]=some (Ax (jJ p),[17]):=if_pos O;obtain⟨c,u,q⟩:=z;simp only at o h8 h9 la;cases b with
  |true=>
   simp only[↓C2,Is,simprocAttr,h8,h9,la,o,v,x,Qp,d,AN a,Ag,Ao,Ap,ZA,Zf,ZG,Q7];refine eG (O3 _) Yg hF ?_;simp only[↓C2,Is,simprocAttr,Vp,o,and_false,NO,Ag,and_false];refine AF.intro ⟨YU,rfl,.inr ⟨by simp[BK],U⟩⟩ ?_;simp only[↓C2,Ij,simprocAttr,la,h];refine ih (j+1) false _ _ _ O (pK rfl ?_) h8 h9 rfl;rw[na];simp only[mtB,Dw,QQ];simp only[Ax,Zg,ZC];rw[EU O];rfl
  |false=>
   simp only[↓C2,Is,simprocAttr,h8,h9,la,o,v,x,Qp,d,AN a,Ag,Ao,Ap,ZA,Zf,ZG,Q7];refine eG (O3 _) Yg hF ?_;simp only[↓C2,Is,simprocAttr,Vp,o,and_false,NO,Ag,and_false];refine AF.intro ⟨YU,rfl,.inr ⟨by simp[BK],U⟩⟩ ?_;simp only[↓C2,Ij,simprocAttr,la,h];refine ih (j+1) false _ _ _ O (pK rfl ?_) h8 h9 rfl;rw[na];simp only[mtB,Dw,QQ];simp only[Ax,Zg,ZC];rw[EU O];rfl
def Sq(p:Bool×List Mt):List D:=[.agg [.slice p.1 [] (Ar p.2)]]
def vR(x y:Bool×List Mt)(e:Sq x=Sq y):x=y:=by
 grind [Sq,LH]
def aKU:List D->Option D:=FX Sq (λp=>HB p.2) (λp=> .str (Cs p.2))
def bJ{n:Bool}{l:List Mt}(h:HB l):aKU [.agg [.slice n [] (Ar l)]]=some (.str (Cs l)):=Bl (mk:=Sq) (a:=(n,l)) vR h
def aBL:Kq aKU 126:=by
 obtain⟨S,v,w⟩:=A7 (Aa (aU1 aUz) Ad);have a:=w 231 _ rfl;clear w;refine Bo v (Ai func126:Fn Qq 126 35 aO5 [.t 2]) (λ_=>by simp[Sq]) (λp g=>?_);obtain⟨n,l⟩:=p;have w:HB l:=g;unfold aO5 Sq;simp only[↓C2,Iw,simprocAttr,Au,Ag,Qz,ZL,List.getElem?_cons_zero,and_self];refine aHj a w (λz r x e=>?_) l.length 0 true [] _ _ O rfl rfl rfl rfl;simp only[↓C2,Ih,IM,simprocAttr,e,aD6,Cy,and_self]
def qQ(o:Oc)(nl:Bool)(l:List Mt):Oc:={o with vw:={o.vw with nlm:=nl,ms:=l}}
def aQs(o:Oc)(nl:Bool)(l:List Mt):Oc:={(qQ o nl l).op 1 (AO 4 [] 0) (Cs l)with rep:=IY .done}
def umO(o:Oc)(nl:Bool)(l:List Mt)(p:Bs):Oc:={((((qQ o nl l).op 1 (AO 4 [] 0) (Cs l)).op 3 ([109,47]++p++[47]) []).op 3 ([100,47]++p++[47]) [])with rep:=IY .done}
def S58:=AB [(45,Af F45),(54,wQ PG),(123,Af Gj),(126,Af aKU),(122,wQ O8),(56,wQ W56)]
def W58:Wb->Oc->List D->Option WY:=RW S58 aRi [] 48
def bAG:(wQ W58).ok Qq 58:=D9 (Ai func58) (Aa aUi (Aa Tt (Aa LP (Aa aBL (Aa N5 (Aa kW Ad))))))
def bNz{p K:Prop}{t:Tag K}(k:K) (h:p:=by
 intro f hpp l w;simp only[List.mem_cons,List.not_mem_nil,or_false]at hpp
 repeat (rcases hpp with rfl|hpp;· first|exact EX w|exact⟨λh=>EX h,λh=>EX h⟩|(have d:=EE w;refine⟨λh=>?_,λh=>EX h⟩;first|(change l∈A4 _ _ _ at h;first|exact(n0 _).mp ((F9 h).symm.trans d)|(have:=d.symm.trans (F9 h);simp at this;done))|(rcases List.mem_append.1 h with h|h;· exact(n0 _).mp ((F9 h).symm.trans d);· rw[a1]at h;rw[List.mem_singleton.1 h]at d;exact c1.loc _ d)))):AF p K t:=⟨h,k⟩
def aEq(w:Wb)(o:Oc)(k:Oc)(ol:Option (List Nat))(r:o.nl=true->o.ops=[])(c:Bool)(l2:List Mt)(e:Int)(la:F45 [.agg [.slice w.v.nlm [] (Ar w.v.ms)],.agg [.str w.a.pa,.int .i64 w.a.n,.bool w.a.fl]]=some (.tup [.agg [.slice c [] (Ar l2)],.int .i64 e]))(x:e≠0)(y:PG w o [.int .i64 e]=some (.tup [],k,ol)):W58 w o []=some (.tup [],k,ol.map (·++[33])):=by
 refine Bt r ⟨Qn rfl,λh=>Da y h,λl h=>C9 y h,λi m fr t q z f n0=>?_⟩;have p:=Wt.start q z;unfold aRi;have g:=AY q.1;simp only[↓C2,Ie,simprocAttr,g,Ac S58 45,la];refine bNz ?_;simp only[↓C2,Il,simprocAttr,eq_false x,AR S58 54];refine AC p.put.put y (λM j c2=>?_);simp only[↓C2,Ih,simprocAttr];exact j.endc q.2.2
def aEp(w:Wb)(o:Oc)(x:Bool)(l2:List Mt)(la:F45 [.agg [.slice w.v.nlm [] (Ar w.v.ms)],.agg [.str w.a.pa,.int .i64 w.a.n,.bool w.a.fl]]=some (.tup [.agg [.slice x [] (Ar l2)],.int .i64 0]))(r:iR o)(d:HB l2):W58 w o []=some (.tup [],aQs o x l2,some ([11,42])):=by
 refine Bt (λ_=>r.ops) ⟨Qn rfl,λh=>Xd,λl h=>XH,λi m fr t q z f n0=>?_⟩;have hW:=Wt.start q z;unfold aRi;have g:=AY q.1;have j:=DG 4 0 [] U;have y:=j;have c:=bJ (n:=x) d;have e:=Eu w (qQ o x l2) 1 (AO 4 [] 0) (Cs l2) (λ_=>r.ops) Ys;have b:=L6 w ((qQ o x l2).op 1 (AO 4 [] 0) (Cs l2)) (λh=>Xd);simp only[↓C2,Ie,simprocAttr,g,Ac S58 45,la];refine bNz ?_;simp only[↓C2,Ie,simprocAttr,g,n0,Ac S58 123,y,Ac S58 126,c,AR S58 122];refine CY (hW.put.put.cellp (p:=28) (ys:=[.slice x [] (Ar l2)]) (o':=qQ o x l2) (Qn rfl) rfl rfl rfl) e (λM u k s c2=>?_);simp only[↓C2,Ih,IM,simprocAttr];refine bNz ?_;simp only[↓C2,Ih,Ii,simprocAttr,AR S58 56];refine AC s b (λM2 d1 d2=>?_);simp only[↓C2,Ih,simprocAttr];exact d1.endl (l:=[11,42]) U
def S59:=AB [(127,Af zV),(54,wQ PG),(123,Af Gj),(126,Af aKU),(122,wQ O8),(128,Af zU),(56,wQ W56)]
def W59:Wb->Oc->List D->Option WY:=RW S59 aRh [] 53
def bAF:(wQ W59).ok Qq 59:=D9 (Ai func59) (Aa aXu (Aa Tt (Aa LP (Aa aBL (Aa N5 (Aa aLU (Aa kW Ad)))))))
def aEo(w:Wb)(o:Oc)(k:Oc)(ol:Option (List Nat))(r:o.nl=true->o.ops=[])(c:Bool)(l2:List Mt)(e:Int)(b:zV [.agg [.slice w.v.nlm [] (Ar w.v.ms)],.str w.a.pa]=some (.tup [.agg [.slice c [] (Ar l2)],.int .i64 e]))(x:e≠0)(y:PG w o [.int .i64 e]=some (.tup [],k,ol)):W59 w o []=some (.tup [],k,ol.map (·++[21])):=by
 refine Bt r ⟨Qn rfl,λh=>Da y h,λl h=>C9 y h,λi m fr t q n f n0=>?_⟩;have p:=Wt.start q n;unfold aRh;have g:=AY q.1;simp only[↓C2,Ie,simprocAttr,g,Ac S59 127,b];refine bNz ?_;simp only[↓C2,Il,simprocAttr,eq_false x,AR S59 54];refine AC p.put.put y (λM j c2=>?_);simp only[↓C2,Ih,simprocAttr];exact j.endc q.2.2
def aRF(w:Wb)(o:Oc)(x:Bool)(l2:List Mt)(b:zV [.agg [.slice w.v.nlm [] (Ar w.v.ms)],.str w.a.pa]=some (.tup [.agg [.slice x [] (Ar l2)],.int .i64 0]))(r:iR o)(d:HB l2)(k:w.a.pa.length<=1000000):W59 w o []=some (.tup [],umO o x l2 w.a.pa,some ([11,54])):=by
 refine Bt (λ_=>r.ops) ⟨Qn rfl,λh=>Xd,λl h=>XH,λi m fr t q ea f n0=>?_⟩;have hW:=Wt.start q ea;unfold aRh;have xx:=AY q.1;have j:=DG 4 0 [] U;have z:=j;have c:=bJ (n:=x) d;have e:=Eu w (qQ o x l2) 1 (AO 4 [] 0) (Cs l2) (λ_=>r.ops) Ys;have y:=WZ w.a.pa k;generalize oa:([109,47]++w.a.pa++[47]:Bs)=q1 at y;generalize g:([100,47]++w.a.pa++[47]:Bs)=q2 at y;have wa:=Eu w ((qQ o x l2).op 1 (AO 4 [] 0) (Cs l2)) 3 q1 [] (λh=>Xd) (by simp[Oc.op,qQ,r.ops]);have va:=Eu w (((qQ o x l2).op 1 (AO 4 [] 0) (Cs l2)).op 3 q1 []) 3 q2 [] (λh=>Xd) (by simp[Oc.op,qQ,r.ops]);have ya:=L6 w ((((qQ o x l2).op 1 (AO 4 [] 0) (Cs l2)).op 3 q1 []).op 3 q2 []) (λh=>Xd);have y0:((0:Nat):Int)=0:=rfl;have y1:((1:Nat):Int)=1:=rfl;have y2:((2:Nat):Int)=2:=rfl;have w1:IntKind.i64.wrap 1=1:=rfl;have w2:IntKind.i64.wrap 2=2:=rfl;have z1:(0:Int)+1=1:=rfl;have z2:(1:Int)+1=2:=rfl;unfold umO;rw[oa,g];simp only[↓C2,Ie,simprocAttr,xx,Ac S59 127,b];refine bNz ?_;simp only[↓C2,Ie,simprocAttr,xx,n0,Ac S59 123,z,Ac S59 126,c,AR S59 122];refine CY (hW.put.put.cellp (p:=28) (ys:=[.slice x [] (Ar l2)]) (o':=qQ o x l2) (Qn rfl) rfl rfl rfl) e (λM u hu s c2=>?_);have xx:=AY s.at_.1;simp only[↓C2,Ih,IM,simprocAttr];refine bNz ?_;simp only[↓C2,Il,simprocAttr,xx.2.2.2.2.2.2.2.1,Ac S59 128,y,Qr,QC];refine Ae V1.eq_1 ?_;simp only[↓C2,Il,simprocAttr,Zn,Qr,QC,AR S59 122];refine AC s wa (λM2 d1 d2=>?_);simp only[↓C2,Ih,simprocAttr,w1,z1];refine Ae V1.eq_1 ?_;simp only[↓C2,Il,simprocAttr,Int.toNat_one,Qr,QC,AR S59 122];refine AC d1 va (λM3 e1 e2=>?_);simp only[↓C2,Ih,simprocAttr,w2,z2];refine Ae V1.eq_1 ?_;simp only[↓C2,Il,simprocAttr,AR S59 56];refine AC e1 ya (λM4 f1 f2=>?_);simp only[↓C2,Ih,simprocAttr];exact f1.endl (l:=[11,54]) U
def Ws:=y1 f233 5 [] []
def Wr:=y1 f233 13 [] []
def aNM:=y0 f233 [] [(5,Ws),(13,Wr)]
def aO2:=y0 f130 [] []
def aGg(s:Bs):Bs:=RR 2 (s.length:Int)++s
def Cu(l:List Bs):Bs:=l.flatMap aGg
def Pp(l:List Bs)(s:Bs):Cu (l++[s])=Cu l++RR 2 (s.length:Int)++s:=by simp[Cu,aGg]
def Ng:∀{l:List Bs},(∀s∈l,s.length<=60000)->(Cu l).length<=60002*l.length
 |[],_=>by simp[Cu]
 |x::r,h=>by
  have ih:=Ng (l:=r) (λs j=>h s (QE _ j));have p:=h x Qy;have e:Cu (x::r)=aGg x++Cu r:=by simp[Cu]
  rw[e];simp only[QO,aGg,Mu,Qr];omega
def aZa:=AB [(326,gQ 5 TM)]
def aJi:=RF aZa aNM [.t 2,.t 3] 46
def aW0:Kq aJi 233:=Az (Ai func233) (Aa aLb Ad)
def aJh(nl:Bool)(l:List Bs)(w:l.length<=1024)(hs:∀s∈l,s.length<=60000):aJi [.slice nl [] (An l)]=some (.tup [.slice false [] (Ax (Cu l)),.int .i64 0]):=by
 refine Aq (Qn rfl) ?_;unfold aNM;have ka:((1024:Int)<(l.length:Int))=False:=eq_false O;simp only[↓C2,Ih,Ii,IU,reduceIte,QA,QL,reduceCtorEq,Am,ka];refine AV (n:=l.length) (I:=λj z=>z.s 13= .slice nl [] (An l)∧z.s 14= .int .i64 l.length∧z.s 15= .int .i64 (j:Int)∧z.s 0= .slice nl [] (An l)∧∃a:Int,z.s 4= .int .i64 a∧0<=a∧a<=60002*(j:Int)) (λj y ih z g hI=>?_) (λz g hI=>?_) 0 (Qz _) _ _ ⟨rfl,rfl,rfl,rfl,0,rfl,O,O⟩
 ·obtain⟨ja,u,q⟩:=z;obtain⟨ma,sa,ra,r,a,h4,wa,va⟩:=hI;simp only at ma sa ra r h4;refine Ae Ws.eq_1 ?_;have v:((j:Int)<(l.length:Int))=True:=eq_true O;have qa:=nJ (j:=j);have hw:IntKind.i64.wrap ((j:Int)+1)=((j+1:Nat):Int):=by rw[Iz O O];omega
  have ga:=Ej (l:=l) (j:=j) y;have p:=hs l[j] (QB y);generalize l[j]=x at ga p;have hb:((65535:Int)<(x.length:Int))=False:=eq_false O;have w1:IntKind.i64.wrap (2+(x.length:Int))=2+(x.length:Int):=Iz O O;have w2:IntKind.i64.wrap (a+(2+(x.length:Int)))=a+(2+(x.length:Int)):=Iz O O;simp only[↓C2,Il,reduceIte,QA,QL,ma,sa,ra,h4,v,qa,Qp,ga,hb,w1,w2,hw];exact ih _ _ ⟨ma,sa,rfl,r,_,rfl,O,O⟩
 ·obtain⟨ja,u,q⟩:=z;obtain⟨ma,sa,ra,r,a,h4,wa,va⟩:=hI;simp only at ma sa ra r h4;refine Ae Ws.eq_1 ?_;have f:¬(a<0):=by omega
  simp only[↓C2,Il,reduceIte,QA,QL,Int.reduceLE,sa,ra,h4,Zs,wa];refine AF.intro (by have e2:((1:Nat):Int)+1=2:=rfl;rw[e2];omega) ?_;simp only[↓C2,Ih,IU,reduceIte,QA,QL,reduceCtorEq,r,Am,Zn,List.replicate_zero];refine AV (n:=l.length) (I:=λj z=>z.s 30= .slice nl [] (An l)∧z.s 31= .int .i64 l.length∧z.s 32= .int .i64 (j:Int)∧∃t,z.s 7= .slice false t (Ax (Cu (l.take j)))∧Gd 5 [] (λ_ _=>none) true [] z.m z.c t) (λj y ih z g hI=>?_) (λz g hI=>?_) 0 (Qz _) _ _ ⟨rfl,rfl,rfl,_,rfl,⟨[],_,rfl,Xb⟩,Xh,λi o hi=>absurd ⟨i,U⟩ hi⟩
  ·obtain⟨ja,u,q⟩:=z;obtain⟨d,b,e,t,h7,hG⟩:=hI;simp only at d b e h7 hG;refine Ae Wr.eq_1 ?_;have v:((j:Int)<(l.length:Int))=True:=eq_true O;have qa:=nJ (j:=j);have hw:IntKind.i64.wrap ((j:Int)+1)=((j+1:Nat):Int):=by rw[Iz O O];omega
   have ga:=Ej (l:=l) (j:=j) y;have p:=hs l[j] (QB y);have na:l.take (j+1)=l.take j++[l[j]]:=Qw y;have ta:(Cu (l.take j)).length<=60002*j:=by
    have:=Ng (l:=l.take j) (λs hh=>hs s (List.mem_of_mem_take hh));rw[QZ]at this;omega
   generalize l[j]=x at ga p na;have wu:IntKind.u64.wrap (x.length:Int)=(x.length:Int):=by
    unfold IntKind.wrap;simp only;rw[show IntKind.u64.bits=64 from rfl,show IntKind.u64.signed=false from rfl,Zv,if_neg Bool.false_ne_true];omega
   have hF:TM [.int .i64 2,.int .u64 (x.length:Int)]=some (Ax (RR 2 (x.length:Int)),[26]):=by
    show(if 1<=(2:Int)∧(2:Int)<=8∧0<=(x.length:Int)then some (Ax (RR (2:Int).toNat (x.length:Int)),[13*(2:Int).toNat])else none)=_;rw[if_pos ⟨O,O,O⟩];rfl
   have ia:=hG.gs;have xa:Cn (λ_ _=>none) 5 true [] true=true:=rfl;simp only[↓C2,Il,reduceIte,QA,QL,d,b,e,h7,v,qa,Qp,ga,wu,AR aZa 326];refine aLX (ia.grow (λ_ _ _=>rfl) xa) (λh=>Xd) (by simp[Ax];omega) hF ?_;have hA:=ia.app (k:=q+1+3+4) (c':=q+1+3+5) (l:=[26]) (xs:=Ax (Cu (l.take j))) O O;simp only[↓C2,Ih,IM,IU,reduceIte,QA,QL];refine AF.intro ⟨by simp only[QO,Ax,Qx,Mu];omega,by cases x<;>rfl,hA.gs.grow (λ_ _ _=>rfl) xa⟩ ?_;have hB:=hA.gs.app (k:=q+1+3+6+2) (c':=q+1+3+6+3) (l:=[]) (xs:=Ax (Cu (l.take j))++Ax (RR 2 (x.length:Int))) O O;simp only[↓C2,Ih,IU,reduceIte,QA,QL,e,hw];refine ih _ _ ⟨d,b,rfl,_,?_,hB.more Xb⟩;rw[na,Pp];show D.slice _ _ _=_;simp[Ax]
  ·obtain⟨ja,u,q⟩:=z;obtain⟨d,b,e,t,h7,hG⟩:=hI;simp only at d b e h7 hG;refine Ae Wr.eq_1 ?_;rw[Zd]at h7;simp only[↓C2,Il,reduceIte,QA,QL,b,e,h7,Zs]
   all_goals exact Qi
def aIm:=AB [(113,Af PS),(232,Af oN),(233,Af aJi)]
def aJU:=RF aIm aO2 [.t 2,.t 3] 31
def aXt:Kq aJU 130:=Az (Ai func130) (Aa aLx (Aa aLj (Aa aW0 Ad)))
def aJT(n p:Bs)(a:Bool)(rs:List Rl)(rt:Bs)(e2:Int)(v:PS [.agg [.str n,.str p,.slice a [] (Aj rs)]]=some (.int .i64 0))(g:oN [.slice a [] (Aj rs)]=some (.tup [.str rt,.int .i64 e2]))(m:p.length<=60000)(y:rt.length<=60000):aJU [.agg [.str n,.str p,.slice a [] (Aj rs)]]=some (.tup [.str (Cu [p,rt]),.int .i64 0]):=by
 refine Aq (Qn rfl) ?_;unfold aO2;have b:aJi [.slice false [] [.str p,.str rt]]=some (.tup [.slice false [] (Ax (Cu [p,rt])),.int .i64 0]):=aJh false [p,rt] U (by
  intro s j;simp only[Q9,List.not_mem_nil,or_false]at j;rcases j with rfl|rfl
  ·exact m
  ·exact y)
 simp only[↓C2,Ie,reduceIte,QA,QL,Nat.reduceLT,Ac aIm 113,v,Ac aIm 232,g,Ac aIm 233,b,Cy]
 all_goals exact Qi
def iN(o:Oc)(nl:Bool)(l:List Tk):Oc:={o with vw:={o.vw with nlt:=nl,ks:=l}}
def mkO(o:Oc)(nl:Bool)(l:List Tk)(n f:Bs):Oc:={(iN o nl l).op 1 (AO 3 n 0) f with rep:=IY .done}
def S60:=AB [(50,Af F50),(129,Af oP),(130,Af aJU),(54,wQ PG),(123,Af Gj),(122,wQ O8),(56,wQ W56)]
def W60:Wb->Oc->List D->Option WY:=RW S60 aHN [] 72
def bAE:(wQ W60).ok Qq 60:=D9 (Ai func60) (Aa aUe (Aa aLv (Aa aXt (Aa Tt (Aa LP (Aa N5 (Aa kW Ad)))))))
def aEn(w:Wb)(o:Oc)(k:Oc)(ol:Option (List Nat))(r:o.nl=true->o.ops=[])(c:Bool)(s:List Tk)(e:Int)(u:F50 [.agg [.slice w.v.nlt [] (Ay w.v.ks)],.agg [.str w.a.ot,.str w.a.tk,.slice w.a.nlr [] (Aj w.a.rs)]]=some (.tup [.agg [.slice c [] (Ay s)],.int .i64 e]))(x:e≠0)(y:PG w o [.int .i64 e]=some (.tup [],k,ol)):W60 w o []=some (.tup [],k,ol.map (·++[47])):=by
 refine Bt r ⟨Qn rfl,λh=>Da y h,λl h=>C9 y h,λi m fr t q n f n0=>?_⟩;have p:=Wt.start q n;unfold aHN;have g:=AY q.1;simp only[↓C2,Ie,simprocAttr,g];refine bNz ?_;simp only[↓C2,Ie,simprocAttr,g,n0,Ac S60 50,u];refine bNz ?_;simp only[↓C2,Il,simprocAttr,eq_false x,AR S60 54];refine AC p.put.put.put.put y (λM j c2=>?_);simp only[↓C2,Ih,simprocAttr];exact j.endc q.2.2
def aEm(w:Wb)(o:Oc)(k:Oc)(ol:Option (List Nat))(r:o.nl=true->o.ops=[])(x:Bool)(s:List Tk)(u:F50 [.agg [.slice w.v.nlt [] (Ay w.v.ks)],.agg [.str w.a.ot,.str w.a.tk,.slice w.a.nlr [] (Aj w.a.rs)]]=some (.tup [.agg [.slice x [] (Ay s)],.int .i64 0]))(nb:Bool)(ns:List D)(z:oP [.agg [.slice w.v.nlt [] (Ay w.v.ks)]]=some (.slice nb [] ns))(c:(24:Int)<=(ns.length:Int))(y:PG w o [.int .i64 24]=some (.tup [],k,ol)):W60 w o []=some (.tup [],k,ol.map (·++[48])):=by
 refine Bt r ⟨Qn rfl,λh=>Da y h,λl h=>C9 y h,λi m fr t q n f n0=>?_⟩;have p:=Wt.start q n;unfold aHN;have g:=AY q.1;simp only[↓C2,Ie,simprocAttr,g];refine bNz ?_;simp only[↓C2,Ie,simprocAttr,g,n0,Ac S60 50,u];refine bNz ?_;simp only[↓C2,Ie,simprocAttr,g,n0,Ac S60 129,z,eq_true c,AR S60 54];refine AC p.put.put.put.put y (λM j c2=>?_);simp only[↓C2,Ih,simprocAttr];exact j.endc q.2.2
def aRE(w:Wb)(o:Oc)(x:Bool)(b:List Tk)(u:F50 [.agg [.slice w.v.nlt [] (Ay w.v.ks)],.agg [.str w.a.ot,.str w.a.tk,.slice w.a.nlr [] (Aj w.a.rs)]]=some (.tup [.agg [.slice x [] (Ay b)],.int .i64 0]))(nb:Bool)(ns:List D)(z:oP [.agg [.slice w.v.nlt [] (Ay w.v.ks)]]=some (.slice nb [] ns))(r:iR o)(c:¬(24:Int)<=(ns.length:Int))(f:Bs)(e3:Int)(j:aJU [.agg [.str w.a.ot,.str w.a.tk,.slice w.a.nlr [] (Aj w.a.rs)]]=some (.tup [.str f,.int .i64 e3]))(g:w.a.ot.length<=1000000):W60 w o []=some (.tup [],mkO o x b w.a.ot f,some ([11,67])):=by
 refine Bt (λ_=>r.ops) ⟨Qn rfl,λh=>Xd,λl h=>XH,λi m fr t q n sa n0=>?_⟩;have d:=Wt.start q n;unfold aHN;have y:=DG 3 0 w.a.ot g;have e:=Eu w (iN o x b) 1 (AO 3 w.a.ot 0) f (λ_=>r.ops) Ys;have k:=L6 w ((iN o x b).op 1 (AO 3 w.a.ot 0) f) (λh=>Xd);have xx:=AY q.1;simp only[↓C2,Ie,simprocAttr,xx];refine bNz ?_;simp only[↓C2,Ie,simprocAttr,xx,n0,Ac S60 50,u];refine bNz ?_;simp only[↓C2,Ie,simprocAttr,xx,n0,Ac S60 129,z,eq_false c,Ac S60 130,j,Ac S60 123,y,AR S60 122];refine AC (d.put.put.put.put.cellp (p:=29) (ys:=[.slice x [] (Ay b)]) (o':=iN o x b) (Qn rfl) rfl rfl rfl) e (λM s c2=>?_);simp only[↓C2,Ih,Ii,simprocAttr,AR S60 56];refine AC s k (λM2 d1 d2=>?_);simp only[↓C2,Ih,simprocAttr];exact d1.endl (l:=[11,67]) U
def aMj:=y0 f382 [] []
def aMF:=y0 f332 [] []
def aNJ:=y0 f238 [] []
def mJ:=y1 f62 6 [] []
def aHL:=y0 f62 [] [(6,mJ)]
def lA:∀(l:Bs)(c:UInt8),Lib.indexByte l c=-1∨(0<=Lib.indexByte l c∧Lib.indexByte l c<(l.length:Int))
 |[],_=> .inl rfl
 |b::l,c=>by
  have ih:=lA l c;simp only[Lib.indexByte,beq_iff_eq,Qr];split
  ·omega
  ·omega
def CF(s:Bs)(c:UInt8):Bs×Bs×Bool:=if Lib.indexByte s c<0 then(s,[],false)else(s.take (Lib.indexByte s c).toNat,s.drop ((Lib.indexByte s c).toNat+1),true)
def BO(s y:Bs):Bs×Bool:=if Bu s y=false then([],false)else if(CF (Dp s y) 47).2.2=true then((CF (Dp s y) 47).1++[47],true)else(Dp s y,true)
def aZs{s:Bs}{c:UInt8}:IX [.str s,.str [c]]=some (.int .i64 (Lib.indexByte s c)):=rfl
def aRL:=AB [(356,Af IX)]
def aSk:=RF aRL aMj [.t 4,.t 5,.t 6] 23
def aWl:Kq aSk 382:=Az (Ai func382) (Aa aWn Ad)
def aIB(s:Bs)(c:UInt8)(w:s.length<=1000000):aSk [.str s,.str [c]]=some (.tup [.str (CF s c).1,.str (CF s c).2.1,.bool (CF s c).2.2]):=by
 refine Aq (Qn rfl) ?_;unfold aMj;have a:=aZs (s:=s) (c:=c);have i:=lA s c;unfold CF;generalize Lib.indexByte s c=q at *;by_cases u:q<0
 ·have b:((0:Int)<=q)=False:=eq_false O;rw[if_pos u];simp only[↓C2,Il,simprocAttr,Ac aRL 356,a,b]
  all_goals exact Qi
 ·have b:(0:Int)<=q:=by omega
  have e1:(q<=(s.length:Int))=True:=eq_true O;have e2:(q+1<=(s.length:Int))=True:=eq_true O;have e3:(0:Int)<=q+1:=O
  have e4:(q+1).toNat=q.toNat+1:=O
  have o:q.toNat<=s.length:=O
  have m:q.toNat+1<=s.length:=O
  have l:IntKind.i64.wrap (q+1)=q+1:=Iz O O;have y1:((1:Nat):Int)=1:=rfl;have z:Z1 (s.length-(q.toNat+1)) (s.drop (q.toNat+1))=s.drop (q.toNat+1):=Qu Xt;rw[if_neg u];simp only[↓C2,Il,simprocAttr,Ac aRL 356,a,b,e1,e2,e3,e4,l,y1,z,Zb,Qr,QC];refine AF.intro (λp g=>Xm) ?_;simp only[↓C2,Il,simprocAttr]
  all_goals exact Qi
def aYZ:=AB [(382,Af aSk)]
def aSr:=RF aYZ aMF [.t 4,.t 5,.t 6] 13
def aWw:Kq aSr 332:=Az (Ai func332) (Aa aWl Ad)
def aIL(s:Bs)(c:UInt8)(w:s.length<=1000000):aSr [.str s,.str [c]]=some (.tup [.str (CF s c).1,.str (CF s c).2.1,.bool (CF s c).2.2]):=by
 refine Aq (Qn rfl) ?_;unfold aMF;have a:=aIB s c w;simp only[↓C2,Il,simprocAttr,Ac aYZ 382,a]
 all_goals exact Qi
def zL:=AB [(331,Af aAc),(332,Af aSr)]
def aZp:=RF zL aNJ [.t 4,.t 5] 29
def aWY:Kq aZp 238:=Az (Ai func238) (Aa aLa (Aa aWw Ad))
def aJf(s y:Bs)(w:s.length<=1000000)(hr:(Dp s y).length<=s.length):aZp [.str s,.str y]=some (.tup [.str (BO s y).1,.bool (BO s y).2]):=by
 refine Aq (Qn rfl) ?_;unfold aNJ;have c:aAc [.str s,.str y]=some (.tup [.str (Dp s y),.bool (Bu s y)]):=rfl;have d:=aIL (Dp s y) 47 O;have v:(CF (Dp s y) 47).1.length<=(Dp s y).length:=by
  grind [CF]
 unfold BO;generalize CF (Dp s y) 47=q at *;generalize Dp s y=r at *;obtain⟨g,f,h⟩:=q;simp only at v d ⊢;cases hb:Bu s y with
 |false=>
  rw[hb]at c;simp only[↓C2,Il,simprocAttr,Ac zL 331,c]
  all_goals exact Qi
 |true=>
  rw[hb]at c;have x:=BY (a:=g) (b:=[47]) YS;cases h with
  |false=>
   simp only[↓C2,Il,simprocAttr,Ac zL 331,c,Ac zL 332,d]
   all_goals exact Qi
  |true=>
   have ta:(g.length+1<=9223372036854775807)=True:=eq_true O;simp only[↓C2,Il,simprocAttr,Ac zL 331,c,Ac zL 332,d,x]
   all_goals exact Qi
def pY{l:List Op1}{j:Nat}(h:j<l.length):(BH l)[j]?=some (.agg [.int .u8 l[j].1,.str l[j].2.1,.str l[j].2.2]):=by simp[BH,opD,Qo h]
def Wd:=y1 Tryz.f330 2 [] []
def aMH:=y0 Tryz.f330 [] [(2,Wd)]
def aNL:=y0 f236 [] []
def wZ{l:List Bs}{n:Bs}{j:Nat}(y:j<l.length)(p:n=l[j])(c:∀i (h:i<j),n≠l[i]'(by omega)):Bc (l.map λx=>decide (n=x))=j:=by
 unfold Bc;have:(l.map λx=>decide (n=x)).findIdx? id=some j:=by
  rw[Q2];refine⟨X0,Xz,λi hi=>?_⟩;have:=c i hi;simpa using this
 rw[this]
def wY{l:List Bs}{n:Bs}(c:∀i (h:i<l.length),n≠l[i]):Bc (l.map λx=>decide (n=x))=-1:=by
 unfold Bc;have:(l.map λx=>decide (n=x)).findIdx? id=none:=by
  rw[Zw];intro b j;obtain⟨x,p,rfl⟩:=QN.1 j;obtain⟨i,hi,rfl⟩:=Q4 p;simpa using c i hi
 rw[this]
def LR(l:List Bs)(n:Bs):Bool:=l.any λx=>decide (n=x)
def eD(l:List Bs)(n:Bs):decide (0<=Bc (l.map λx=>decide (n=x)))=LR l n:=by
 rw[F8,Z2];rfl
def bBa:=AB []
def aSs:=RF bBa aMH [.t 4] 19
def aWx:Kq aSs 330:=Az (Ai func330) Ad
def aIM{nl:Bool}{l:List Bs}(n:Bs)(w:l.length<=100000):aSs [.slice nl [] (An l),.str n]=some (.int .i64 (Bc (l.map λx=>decide (n=x)))):=by
 refine Aq (Qn rfl) ?_;unfold aMH;simp only[↓C2,Ih,simprocAttr,Am];refine AV (n:=l.length) (I:=λj z=>z.s 0= .slice nl [] (An l)∧z.s 1= .str n∧z.s 7= .int .i64 l.length∧z.s 8= .int .i64 (j:Int)∧∀i (h:i<j) (q:i<l.length),n≠l[i]) (λj y ih z g m=>?_) (λz g m=>?_) 0 (Qz _) _ _ ⟨rfl,rfl,rfl,rfl,λi h=>absurd h (Zi _)⟩
 ·obtain⟨ja,f,o⟩:=z;obtain⟨r,u,k,t,c⟩:=m;simp only at r u k t;refine Ae Wd.eq_1 ?_;have v:((j:Int)<l.length):=by omega
  have a:=nJ (j:=j);have hw:=wJ (j:=j) O;have d:=Ej (l:=l) (j:=j) y;by_cases p:n=l[j]
  ·have e:=wZ y p (λi h=>c i h O);have b:(n=l[j])=True:=eq_true p;simp only[↓C2,Il,simprocAttr,r,u,k,t,v,a,Qp,d,b];rw[e]
   all_goals exact Qi
  ·have b:(n=l[j])=False:=eq_false p;simp only[↓C2,Il,simprocAttr,r,u,k,t,v,a,Qp,d,b,hw];refine ih _ _ ⟨r,u,k,rfl,λi h q=>?_⟩;rcases Nat.lt_or_eq_of_le (Nat.le_of_lt_succ h)with h|rfl
   ·exact c i h q
   ·exact p
 ·obtain⟨r,u,k,t,c⟩:=m;refine Ae Wd.eq_1 ?_;have e:=wY (λi h=>c i h h);simp only[↓C2,Il,simprocAttr,k,t,Zs];rw[e]
  all_goals exact Qi
def aY9:=AB [(330,Af aSs)]
def aZq:=RF aY9 aNL [.t 4] 9
def aWZ:Kq aZq 236:=Az (Ai func236) (Aa aWx Ad)
def aJg{nl:Bool}{l:List Bs}(n:Bs)(w:l.length<=100000):aZq [.slice nl [] (An l),.str n]=some (.bool (LR l n)):=by
 refine Aq (Qn rfl) ?_;unfold aNL;have a:=aIM (nl:=nl) n w;have e:=eD l n;generalize Bc (l.map λx=>decide (n=x))=i at *;simp only[↓C2,Il,simprocAttr,Ac aY9 330,a];rw[←e]
 all_goals exact Qi
def A1(l:List Bs):List Bs:=l.filterMap λs=>if(B4 s).2=0∧(B4 s).1.1=1 then some (B4 s).1.2.1 else none
def Ps(l:List Bs)(s:Bs):A1 (l++[s])=A1 l++if(B4 s).2=0∧(B4 s).1.1=1 then [(B4 s).1.2.1]else []:=by
 grind [A1]
def Gx(e:Nat)(fr:Id)(m:Ig)(c:Nat)(nl:Bool)(t:Id):Prop:=(nl=true∧t=[])∨(nl=false∧∃k,t=k::fr∧k<c∧m t 0=some (.tok (e+1)))
def Gx.more{e:Nat}{fr:Id}{m:Ig}{c c':Nat}{nl:Bool}{t:Id}(h:Gx e fr m c nl t)(x:c<=c'):Gx e fr m c' nl t:=by
 rcases h with h|⟨u,k,q,o,b⟩
 ·exact .inl h
 ·exact .inr ⟨u,k,q,O,b⟩
def Gx.put{e:Nat}{fr:Id}{m:Ig}{c:Nat}{nl:Bool}{t:Id}{k o:Nat}{ds:List D}(h:Gx e fr m c nl t)(j:c<=k:=by omega):Gx e fr (m.put (k::fr) o ds) c nl t:=by
 rcases h with h|⟨u,q,f,y,b⟩
 ·exact .inl h
 ·refine .inr ⟨u,q,f,y,?_⟩;rw[aA]
  ·exact b
  ·rw[f];simp;omega
def Gx.grow{e:Nat}{fr:Id}{m:Ig}{c:Nat}{nl:Bool}{t:Id}{xs:List D}(h:Gx e fr m c nl t):L8 m e (.slice nl t xs):=by
 rcases h with h|⟨u,q,f,o,b⟩
 ·exact .inl h.1
 ·exact .inr ⟨b,by rw[f];simp⟩
def Gx.app{e:Nat}{fr:Id}{m:Ig}{c' k:Nat}{nl:Bool}{t:Id}{xs:List D}(j:k<c'):Gx e fr (Ir.app m (Bm e (k::fr) (.slice nl t xs))) c' false (k::fr):=
 .inr ⟨rfl,k,rfl,j,by rw[Du,if_pos ⟨rfl,rfl⟩]⟩
def Wt.own{i fr t0 t:Id}{m0 m:Ig}{nl0:Bool}{w:Wb}{o:Oc}{e c k:Nat}{nl:Bool}{v:Id}{xs:List D}(h:Wt i fr m0 nl0 t0 m w o t)(n:∀j x,fr<:+j->m0 j x=none)(f:∀k,(i=k::fr)=False)(y:Gx e fr m c nl v):Wt i fr m0 nl0 t0 (Ir.app m (Bm e (k::fr) (.slice nl v xs))) w o t:=by
 rcases y with ⟨rfl,_⟩|⟨rfl,q,rfl,_,_⟩
 ·exact h.put n f
 ·exact(h.put n f).put n f
def S62(G:List D->Option D):Ic:=AB [(128,Af zU),(132,Af oH),(133,wQ WU),(38,Af R38),(134,Af G),(55,wQ gP)]
def W62(G:List D->Option D):Wb->Oc->List D->Option WY:=RW (S62 G) aHL [] 72
def bAC{G:List D->Option D}(h:Kq G 134):(wQ (W62 G)).ok Qq 62:=D9 (Ai func62:Fn Qq 62 72 aHL []) (Aa aLU (Aa aXs (Aa aCs (Aa bAL (Aa h (Aa kX Ad))))))
def aEk(G:List D->Option D)(w:Wb)(o:Oc)(o2:Oc)(ol:Option (List Nat))(u:o.nl=true->o.ops=[])(s:Bool)(d:List Bs)(g:w.a.pa.length<=1000000)(r:oH [.agg (IQ w.k),.str ([109,47]++w.a.pa++[47])]=some (.tup [.slice s [] (An d),.bool false]))(e:WU w o [.str ([109,47]++w.a.pa++[47]),.bool true]=some (.tup [],o2,ol)):W62 G w o []=some (.tup [],o2,ol.map (·++[24])):=by
 refine Bt u ⟨Qn rfl,λh=>Da e h,λl h=>C9 e h,λi m fr t q n f n0=>?_⟩;have x:S62 G 128=some (Af zU):=rfl;have c:S62 G 132=some (Af oH):=rfl;have b:S62 G 133=some (wQ WU):=rfl;have p:=Wt.start q n;unfold aHL;have v:=AY q.1;have y:=WZ w.a.pa g;generalize z:([109,47]++w.a.pa++[47]:Bs)=q1 at *;generalize ([100,47]++w.a.pa++[47]:Bs)=q2 at *;unfold IQ at r;have y1:((1:Nat):Int)=1:=rfl;have y2:((2:Nat):Int)=2:=rfl;have db:(0:Int)<=0:=Z5 _;simp only[↓C2,Ie,simprocAttr,v,db,Zn,Qr,QC,Ab x,y,Ab c,r,AN b];refine AC p e (λM j c2=>?_);simp only[↓C2,Ih,simprocAttr];exact j.endc q.2.2
def aRC(G:List D->Option D)(w:Wb)(o:Oc)(o2:Oc)(ho:o.nl=true->o.ops=[])(bb:Bool)(d:List Bs)(hp:w.a.pa.length<=1000000)(r:oH [.agg (IQ w.k),.str ([109,47]++w.a.pa++[47])]=some (.tup [.slice bb [] (An d),.bool true]))(hl:d.length<=1000)(hs:∀s∈d,s.length<=1000000)(nn:Bool)(f:List Bs)(hb:∀b,(b=true->A1 d=[])->G [.str w.a.pa,.slice b [] (An (A1 d))]=some (.slice nn [] (An f)))(ia:f.length<=1000)(ib:nn=true->f=[])(va:gP w o [.agg (IL (.names nn (f.take 64)))]=some (.tup [],o2,none)):W62 G w o []=some (.tup [],o2,none):=by
 refine Bt ho ⟨Qn rfl,λh=>((FL va).2.1 rfl),λl h=>Xd,λi m fr t ha ea sa n0=>?_⟩;have ca:S62 G 128=some (Af zU):=rfl;have ma:S62 G 132=some (Af oH):=rfl;have fb:S62 G 38=some (Af R38):=rfl;have eb:S62 G 134=some (Af G):=rfl;have ya:S62 G 55=some (wQ gP):=rfl;have hW:=Wt.start ha ea;unfold aHL;have xx:=AY ha.1;have y:=WZ w.a.pa hp;generalize oa:([109,47]++w.a.pa++[47]:Bs)=q1 at *;generalize ([100,47]++w.a.pa++[47]:Bs)=q2 at *;unfold IQ at r;have y1:((1:Nat):Int)=1:=rfl;have y2:((2:Nat):Int)=2:=rfl;have db:(0:Int)<=0:=Z5 _;simp only[↓C2,Ie,simprocAttr,xx,db,Zn,Qr,QC,Ab ca,y,Ab ma,r,Am];refine AV (n:=d.length) (I:=λj st=>st.s 33= .slice bb [] (An d)∧st.s 34= .int .i64 d.length∧st.s 35= .int .i64 (j:Int)∧st.s 0= .ptr i 0∧∃nl' t',st.s 5= .slice nl' t' (An (A1 (d.take j)))∧(nl'=true->A1 (d.take j)=[])∧Gx 9 fr st.m st.c nl' t'∧Wt i fr m o.nl t st.m w o t) (λj hj ih st g hI=>?_) (λst g hI=>?_) 0 (Qz _) _ _ ⟨rfl,rfl,rfl,rfl,true,[],rfl,λ_=>rfl,.inl ⟨rfl,rfl⟩,hW⟩
 ·obtain⟨ja,da,fa⟩:=st;obtain⟨z,u,la,ua,nl',t',h5,xa,hG,hw⟩:=hI;simp only at z u la ua h5 hG hw;refine Ae mJ.eq_1 ?_;have aa:((j:Int)<(d.length:Int))=True:=eq_true O;have qa:=nJ (j:=j);have wa:IntKind.i64.wrap ((j:Int)+1)=((j+1:Nat):Int):=by rw[Iz O O];omega
  have ga:=Ej (l:=d) (j:=j) hj;have v:=aSg d[j] (hs _ (QB hj));have na:d.take (j+1)=d.take j++[d[j]]:=Qw hj;have ta:(A1 (d.take j)).length<=j:=by
   have:=Zh (λs=>if(B4 s).2=0∧(B4 s).1.1=1 then some (B4 s).1.2.1 else none) (d.take j);rw[QZ]at this;unfold A1;omega
  have ka:=Ps (d.take j) d[j];rw[←na]at ka;generalize d[j]=x at *;generalize B4 x=px at *;obtain⟨⟨kk,nm,vv⟩,e⟩:=px;simp only at ka v;unfold vZ at v;by_cases he:e=0
  ·subst he;by_cases hk:kk=1
   ·subst hk;simp only[and_self,if_true]at ka;simp only[↓C2,Ie,simprocAttr,z,u,la,h5,aa,qa,Qp,ga,Am,Ab fb,v];have ra:=((hG.put (k:=fa+1+3+5) (o:=0) (ds:=[.int .u8 0,.str [],.int .i64 0]) O).put (k:=fa+1+3+5) (o:=0) (ds:=[.int .u8 1,.str nm,.int .i64 vv]) O).put (k:=fa+1+3+8+7+3) (o:=0) (ds:=[.tok 10]) O;have cb:=((hw.put (q:=fa+1+3+5) (p:=0) (ys:=[.int .u8 0,.str [],.int .i64 0])).put (q:=fa+1+3+5) (p:=0) (ys:=[.int .u8 1,.str nm,.int .i64 vv])).put (q:=fa+1+3+8+7+3) (p:=0) (ys:=[.tok 10]);refine AF.intro ⟨O,rfl,ra.grow⟩ ?_;rw[BN (λh=>by rw[xa h];rfl),OH];have gb:=cb.own (e:=9) (k:=fa+1+3+8+7+4) (xs:=An (A1 (d.take j))) ea n0 ra;have kb:=Gx.app (e:=9) (fr:=fr) (m:=((da.put ((fa+1+3+5)::fr) 0 [D.int .u8 0,.str [],.int .i64 0]).put ((fa+1+3+5)::fr) 0 [.int .u8 1,.str nm,.int .i64 vv]).put ((fa+1+3+8+7+3)::fr) 0 [.tok 10]) (k:=fa+1+3+8+7+4) (c':=fa+1+3+8+7+5) (nl:=nl') (t:=t') (xs:=An (A1 (d.take j))) O;simp only[↓C2,Ih,simprocAttr,la,wa];exact ih _ _ ⟨z,u,rfl,ua,false,(fa+1+3+8+7+4)::fr,(by rw[ka];show D.slice _ _ _=_;simp[An]),(λh=>Xd),kb.more (c':=fa+1+3+8+7+6+2) O,gb⟩
   ·rw[if_neg (λh=>hk h.2),Zk]at ka;simp only[↓C2,Ie,simprocAttr,z,u,la,aa,qa,Qp,ga,Ab fb,v,eq_false hk,wa];exact ih _ _ ⟨z,u,rfl,ua,nl',t',by rw[ka];exact h5,by rw[ka];exact xa,hG.put.put.more Xb,hw.put.put⟩
  ·rw[if_neg (λh=>he h.1),Zk]at ka;simp only[↓C2,Ie,simprocAttr,z,u,la,aa,qa,Qp,ga,Ab fb,v,eq_false he,wa];exact ih _ _ ⟨z,u,rfl,ua,nl',t',by rw[ka];exact h5,by rw[ka];exact xa,hG.put.put.more Xb,hw.put.put⟩
 ·obtain⟨ja,da,fa⟩:=st;obtain⟨z,u,la,ua,nl',t',h5,xa,hG,hw⟩:=hI;simp only at z u la ua h5 hG hw;refine Ae mJ.eq_1 ?_;rw[Zd]at h5 xa;have za:=hb nl' xa;have ab:Z1 64 (An f)=An (f.take 64):=(ZY ..).symm;have xx:=AY hw.at_.1;have hq:∃q:Int,min (f.length:Int) 64=q∧0<=q∧q<=(f.length:Int)∧q.toNat<=f.length∧Z1 q.toNat (An f)=An (f.take 64):=by
   refine⟨_,rfl,O,O,O,?_⟩;rw[←ab];by_cases c:f.length<=64
   ·rw[Qu (by rw[Am];omega),Qu (by rw[Am];omega)]
   ·grind
  obtain⟨q,ba,q0,jb,lb,q3⟩:=hq;have hd:aE (An f) 1=1:=by cases f<;>rfl
  simp only[IL]at va;simp only[↓C2,Il,simprocAttr,ua,u,la,h5,Zs,xx.2.2.2.2.2.2.2.1,Ab eb,za,Am,ba,q0,jb,hd,Zb,q3,AN ya];refine AC hw va (λM c1 c2=>?_);simp only[↓C2,Ih,simprocAttr];exact c1.end0 ha.2.2
def E5(o:Oc)(l:List Bs):Oc:={o with nl:=o.nl&&l.isEmpty,ops:=o.ops++l.map λn=>(2,AO 3 n 0,[])}
def aCT{o:Oc}{l:List Bs}{n:Bs}:(E5 o l).op 2 (AO 3 n 0) []=E5 o (l++[n]):=by
 simp[E5,Oc.op]
def wR{o:Oc}:E5 o []=o:=by simp[E5]
def aQa(o:Oc)(nl:Bool)(k:List Tk)(gnl:Bool)(gone:List Bs):Oc:={E5 (iN o nl k) gone with rep:=IY (.names gnl gone)}
def S61(G:List D->Option D):Ic:=AB [(131,Af G),(54,wQ PG),(123,Af Gj),(122,wQ O8),(55,wQ gP)]
def W61(G:List D->Option D):Wb->Oc->List D->Option WY:=RW (S61 G) aHM [] 48
def bAD{G:List D->Option D}(h:Kq G 131):(wQ (W61 G)).ok Qq 61:=D9 (Ai func61:Fn Qq 61 48 aHM []) (Aa h (Aa Tt (Aa LP (Aa N5 (Aa kX Ad)))))
def aEl(G:List D->Option D)(w:Wb)(o:Oc)(k:Oc)(ol:Option (List Nat))(r:o.nl=true->o.ops=[])(s:Bool)(k2:List Tk)(gnl:Bool)(gone:List Bs)(e:Int)(f:G [.agg [.slice w.v.nlt [] (Ay w.v.ks)],.str w.a.ot]=some (.tup [.agg [.slice s [] (Ay k2)],.slice gnl [] (An gone),.int .i64 e]))(x:e≠0)(y:PG w o [.int .i64 e]=some (.tup [],k,ol)):W61 G w o []=some (.tup [],k,ol.map (·++[23])):=by
 refine Bt r ⟨Qn rfl,λh=>Da y h,λl h=>C9 y h,λi m fr t q n sa n0=>?_⟩;have b:S61 G 131=some (Af G):=rfl;have c:S61 G 54=some (wQ PG):=rfl;have p:=Wt.start q n;unfold aHM;have g:=AY q.1;simp only[↓C2,Ie,simprocAttr,g,Ab b,f];refine bNz ?_;simp only[↓C2,Il,simprocAttr,eq_false x,AN c];refine AC p.put.put y (λM j c2=>?_);simp only[↓C2,Ih,simprocAttr];exact j.endc q.2.2
def aRD(G:List D->Option D)(w:Wb)(o:Oc)(ca:Bool)(k2:List Tk)(gnl:Bool)(gone:List Bs)(f:G [.agg [.slice w.v.nlt [] (Ay w.v.ks)],.str w.a.ot]=some (.tup [.agg [.slice ca [] (Ay k2)],.slice gnl [] (An gone),.int .i64 0]))(h0:iR o)(hg:gone≠[])(q:gone.length<=900)(hs:∀s∈gone,s.length<=1000000)(y:gnl=true->gone=[]):W61 G w o []=some (.tup [],aQa o ca k2 gnl gone,some ([11,28+10*gone.length])):=by
 refine Bt (λ_=>h0.ops) ⟨Qn rfl,λh=>Xd,λl h=>(by simp only[QG]at h;subst h;exact⟨by cases gone with|nil=>exact absurd rfl hg|cons a r=>simp[aQa,E5],U⟩),λi m fr t x ea sa n0=>?_⟩;have b:S61 G 131=some (Af G):=rfl;have d:S61 G 123=some (Af Gj):=rfl;have k:S61 G 122=some (wQ O8):=rfl;have ya:S61 G 55=some (wQ gP):=rfl;have hW:=Wt.start x ea;unfold aHM;have xx:=AY x.1;have va:=H8 w (E5 (iN o ca k2) gone) (.names gnl gone) (λh=>by
  simp only[E5,QD,ZP]at h;exact absurd h.2 hg) (by show gone.length<=1000;omega) y
 simp only[IL]at va;have oa:(iN o ca k2).nl=o.nl∧(iN o ca k2).ops=[]:=⟨rfl,h0.ops⟩;simp only[↓C2,Ie,simprocAttr,xx,Ab b,f];refine bNz ?_;simp only[↓C2,Ie,simprocAttr,xx,n0,Am];refine AV (n:=gone.length) (I:=λj st=>st.s 33= .slice gnl [] (An gone)∧st.s 34= .int .i64 gone.length∧st.s 35= .int .i64 (j:Int)∧st.s 0= .ptr i 0∧st.s 3= .slice gnl [] (An gone)∧st.c=31+10*j∧Wt i fr m o.nl t st.m w (E5 (iN o ca k2) (gone.take j)) (if j=0 then t else [11,28+10*j]++fr)) (λj hj ih st g hI=>?_) (λst g hI=>?_) 0 (Qz _) _ _ ⟨rfl,rfl,rfl,rfl,rfl,rfl,?_⟩
 ·obtain⟨ja,da,fa⟩:=st;obtain⟨z,u,la,ua,h3,hc,hw⟩:=hI;simp only at z u la ua h3 hc hw;refine Ae mK.eq_1 ?_;have aa:((j:Int)<(gone.length:Int))=True:=eq_true O;have qa:=nJ (j:=j);have ga:=Ej (l:=gone) (j:=j) hj;have wa:IntKind.i64.wrap ((j:Int)+1)=((j+1:Nat):Int):=by rw[Iz O O];omega
  have ba:=DG 3 0 gone[j] (hs _ (QB hj));have ka:(E5 (iN o ca k2) (gone.take j)).nl=true->(E5 (iN o ca k2) (gone.take j)).ops=[]:=λh=>by
   simp only[E5,QD,ZP]at h ⊢;rw[oa.2,h.2];rfl
  have na:(E5 (iN o ca k2) (gone.take j)).ops.length<=1000:=by simp[E5,oa.2];omega
  have ia:=Eu w (E5 (iN o ca k2) (gone.take j)) 2 (AO 3 gone[j] 0) [] ka na;rw[aCT,←Qw hj]at ia;simp only[↓C2,Il,simprocAttr,ua,z,u,la,aa,qa,Qp,ga,Ab d,ba,AN k];refine AC hw ia (λM c1 c2=>?_);have e:NZ (if j=0 then t else [11,28+10*j]++fr) ((fa+1+3+3)::fr) (some [11])=(if j+1=0 then t else [11,28+10*(j+1)]++fr):=by
   rw[if_neg (ZN j)];show [11]++_::fr=_;rw[show fa+1+3+3=28+10*(j+1)by omega];rfl
  rw[e]at c1;simp only[↓C2,Ih,simprocAttr,la,wa];exact ih _ _ ⟨z,u,rfl,ua,h3,Xb,c1⟩
 ·obtain⟨ja,da,fa⟩:=st;obtain⟨z,u,la,ua,h3,hc,hw⟩:=hI;simp only at z u la ua h3 hc hw;refine Ae mK.eq_1 ?_;have ma:gone.length≠0:=λh=>hg (QX.1 h)
  rw[Zd,if_neg ma]at hw;simp only[↓C2,Il,simprocAttr,ua,u,la,h3,Zs,AN ya];refine AC hw va (λM c1 c2=>?_);simp only[↓C2,Ih,simprocAttr];exact c1.endl (l:=[11,28+10*gone.length]) U
 ·simp only[ZG,wR,if_true];exact(hW.put.put.cellp (p:=29) (ys:=[.slice ca [] (Ay k2)]) (o':=iN o ca k2) (Qn rfl) rfl rfl rfl)
def sK(G1 G2:List D->Option D):Ic:=AB [(25,Af F25),(54,wQ PG),(55,wQ gP),(56,wQ W56),(57,wQ W57),(58,wQ W58),(59,wQ W59),(60,wQ W60),(61,wQ (W61 G1)),(62,wQ (W62 G2)),(63,wQ bO),(64,wQ U1)]
def WX(G1 G2:List D->Option D):List D->Option D:=RF (sK G1 G2) aHT [.cell (some 9) 6] 88
def aW6{G1 G2:List D->Option D}(u:Kq G1 131)(q:Kq G2 134):(Af (WX G1 G2)).ok Qq 19:=Az (Ai func19:Fn Qq 19 88 aHT [.cell (some 9) 6]) (Aa aU0 (Aa Tt (Aa kX (Aa kW (Aa bAH (Aa bAG (Aa bAF (Aa bAE (Aa (bAD u) (Aa (bAC q) (Aa bAB (Aa bAA Ad))))))))))))
def Ix(v:Vw):Oc:=⟨[],false,[],true,[],v⟩
def IA(o:Oc):List D:=[.str o.need,.bool o.li,.str o.rep,.slice o.nl [] (BH o.ops)]++Iq o.vw
def aPT{m:Ig}{i:Id}{w:Wb}{o o':Oc}{k:Nat}{d:D}{ol:Option (List Nat)}(r:o.nl=true)(hi:∀l,i≠l++[k]):Ah (Ir.app m (bV i w o [] [k] (d,o',ol))) i 0 30=some (I1 w o' (NZ [] [k] ol)):=by
 cases ol with
 |none=>exact II (Dy _ _ _)
 |some l=>
  show Ah _ i 0 30=some (I1 w o' (l++[k]));rw[←II (m:=m) (i:=i) (Dy w o' (l++[k]))];refine B2 (λq s=>?_);have b:q.1=i:=F9 s;show Ir.app (m.put i 0 (I1 w o' (l++[k]))) (Bm 107 (l++[k]) (.slice o.nl [] (BH o.ops))) q.1 q.2=_;rw[HA,b,if_neg (λe=>hi l e.1),if_neg (λe=>by rw[r]at e;cases e.1)]
def aFL{m:Ig}{i j:Id}{w:Wb}{o o':Oc}{k x:Nat}{d:D}{ol:Option (List Nat)}(r:o.nl=true)(hi:∀l,j≠l++[k])(y:j≠i):Ir.app m (bV i w o [] [k] (d,o',ol)) j x=m j x:=by
 cases ol with
 |none=>exact aA y
 |some l=>
  show Ir.app (m.put i 0 (I1 w o' (l++[k]))) (Bm 107 (l++[k]) (.slice o.nl [] (BH o.ops))) j x=_;rw[HA,if_neg (λe=>hi l e.1),if_neg (λe=>by rw[r]at e;cases e.1),aA y]
def VC{a k:Nat}(h:a≠k):∀l:List Nat,([a]:Id)≠l++[k]:=λl e=>h (by have:=congrArg ZZ e;simpa using this)
def rC{i:Id}{m:Ig}{w:Wb}{o o':Oc}{v:List D}{d:D}{ol:Option (List Nat)}{F:Wb->Oc->List D->Option WY}{S:Ic}{c k n:Nat}{ops l:List DOper}{s:Nat->D}{dst:Option Nat}{K:Nat->(Nat->D)->Ig->Prop}{g}
  (z:F w o v=some (d,o',ol)) (ha:WJ m i (w,o,[])) (r:o.nl=true) (hi:∀l,i≠l++[n])
  (h:∀M,Ah M i 0 30=some (I1 w o' (NZ [] [n] ol))->(∀j x,(∀l,j≠l++[n])->j≠i->M j x=m j x)->CJ S [] c ops l k (Ct s dst d) M K):
  IE ((wQ F).ex (.ptr i 0::v) m [n]) (λx=>cS S [] c ops l k s dst m K x.1 x.2) g:=
 rB ha z (h _ (aPT r hi) (λ_ _ u q=>aFL r u q))
inductive MO (G1 G2:List D->Option D) (v:Vw):Int->Oc->List D->(Wb->Oc->List D->Option WY)->Prop
 |o1:MO G1 G2 v 1 (Ix v) [.agg (IL (.state v.se))] gP
 |o2:MO G1 G2 v 2 {Ix v with vw:={v with se:=false}} [] W56
 |o3:MO G1 G2 v 3 {Ix v with vw:={v with se:=true}} [] W56
 |o4:MO G1 G2 v 4 (Ix v) [] W57
 |o5:MO G1 G2 v 5 (Ix v) [] W58
 |o6:MO G1 G2 v 6 (Ix v) [] W59
 |o7:MO G1 G2 v 7 (Ix v) [] W60
 |o8:MO G1 G2 v 8 (Ix v) [] (W61 G1)
 |o17:MO G1 G2 v 17 (Ix v) [] (W62 G2)
 |o9:MO G1 G2 v 9 (Ix v) [] bO
 |o18:MO G1 G2 v 18 (Ix v) [] bO
 |o10:MO G1 G2 v 10 (Ix v) [] U1
 |o11:MO G1 G2 v 11 (Ix v) [] U1
 |o12:MO G1 G2 v 12 (Ix v) [] U1
 |o13:MO G1 G2 v 13 (Ix v) [] U1
 |o14:MO G1 G2 v 14 (Ix v) [] U1
 |o15:MO G1 G2 v 15 (Ix v) [] U1
 |o16:MO G1 G2 v 16 (Ix v) [] U1
def BT{G1 G2:List D->Option D}{v:Vw}{op:Int}{oc:Oc}{z:List D}{W:Wb->Oc->List D->Option WY}(r:MO G1 G2 v op oc z W)(a:Ak)(k:Kn)(oa:a.op=op)(s:F25 [IJ v,IB a]=some (.int .i64 0))(w:Oc)(ol:Option (List Nat))(hm:W ⟨v,a,k⟩ oc z=some (.tup [],w,ol)):WX G1 G2 [IJ v,IB a,.agg (IQ k)]=some (.agg (IA w)):=by
 refine Aq (Qn rfl) ?_;have b:sK G1 G2 25=some (Af F25):=rfl;have ya:sK G1 G2 55=some (wQ gP):=rfl;have e:sK G1 G2 56=some (wQ W56):=rfl;have j:sK G1 G2 57=some (wQ W57):=rfl;have m:sK G1 G2 58=some (wQ W58):=rfl;have h:sK G1 G2 59=some (wQ W59):=rfl;have o:sK G1 G2 60=some (wQ W60):=rfl;have c:sK G1 G2 61=some (wQ (W61 G1)):=rfl;have g:sK G1 G2 62=some (wQ (W62 G2)):=rfl;have i:sK G1 G2 63=some (wQ bO):=rfl;have l:sK G1 G2 64=some (wQ U1):=rfl;unfold aHT;obtain⟨op,tk,pa,ot,n,cas,q,f,ns,t,d,rs,u⟩:=a;simp only at oa;subst oa;unfold IJ IB at *;unfold Iq It IQ at *;cases r<;>simp only[↓C2,Ie,simprocAttr,Ab b,s,AN ya,AN e,AN j,AN m,AN h,AN o,AN c,AN g,AN i,AN l]
 all_goals
  refine rC hm ⟨by first|exact II rfl|exact(jN (show Ah _ [10] 0 30=some (I1 ⟨v,⟨_,tk,pa,ot,n,cas,q,f,ns,t,d,rs,u⟩,k⟩ (Ix v) [])from II rfl) (Qn rfl)).trans rfl,rfl,λ_=>rfl⟩ rfl (VC Z) (λM y c2=>?_);have xx:=AY y;have p:∀x,M [3] x=_:=λx=>c2 [3] x (VC Z) Z
  simp only[↓C2,Ie,simprocAttr,xx,p]
  all_goals exact Qi
def hY(G1 G2:List D->Option D)(v:Vw)(a:Ak)(k:Kn)(e:Int)(j:e≠0)(s:F25 [IJ v,IB a]=some (.int .i64 e))(w:Oc)(ol:Option (List Nat))(z:PG ⟨v,a,k⟩ (Ix v) [.int .i64 e]=some (.tup [],w,ol)):WX G1 G2 [IJ v,IB a,.agg (IQ k)]=some (.agg (IA w)):=by
 refine Aq (Qn rfl) ?_;have b:sK G1 G2 25=some (Af F25):=rfl;have c:sK G1 G2 54=some (wQ PG):=rfl;unfold aHT;obtain⟨op,tk,pa,r,n,cas,q,f,ns,t,d,rs,u⟩:=a;unfold IJ IB at *;unfold Iq It IQ at *;simp only[↓C2,Ie,simprocAttr,Ab b,s,eq_false j,AN c];refine rC z ⟨II rfl,rfl,λ_=>rfl⟩ rfl (VC Z) (λM y c2=>?_);have g:=AY y;have p:∀x,M [3] x=_:=λx=>c2 [3] x (VC Z) Z
 simp only[↓C2,Ie,simprocAttr,g,p]
 all_goals exact Qi
def CD(l:List Tk)(s:Bs):List Bs:=(l.filter λt=>decide (t.2.1=s)&&decide (t.1≠s)).map (·.1)
def EN(l:List Tk):Nat->Bs->List Bs
 |0,s=>[s]
 |f+1,s=>s::(CD l s).flatMap (EN l f)
structure I_ (l:List Tk) (r:Bs->Nat):Prop where
 up:∀t∈l,r t.2.1<r t.1
 top:∀t∈l,r t.1<=l.length
 one:l.Pairwise λt u=>t.1≠u.1
def I_.eq{l:List Tk}{r:Bs->Nat}(h:I_ l r){t u:Tk}(d:t∈l)(m:u∈l)(e:t.1=u.1):t=u:=by
 have q:=h.one;clear h;induction l with
 |nil=>cases d
 |cons a l ih=>
  rw[List.pairwise_cons]at q;rcases Q9.1 d with ht'|ht'
  ·grind
  ·grind
inductive I6 (l:List Tk) (s:Bs):Bs->Prop
 |refl:I6 l s s
 |step (t:Tk):t∈l->I6 l s t.2.1->I6 l s t.1
def I6.trans{l:List Tk}{a b c:Bs}(h:I6 l a b)(k:I6 l b c):I6 l a c:=by
 induction k with
 |refl=>exact h
 |step t d _ ih=>exact .step t d ih
def VM{l:List Tk}{s c:Bs}(h:c∈CD l s):∃t∈l,t.2.1=s∧t.1=c∧c≠s:=by
 grind [CD]
def Mr{l:List Tk}:∀(f:Nat)(s x:Bs),x∈EN l f s->I6 l s x
 |0,s,x,h=>by
  rw[EN,QT]at h;subst h;exact .refl
 |f+1,s,x,h=>by
  rw[EN]at h;rcases Q9.1 h with rfl|h
  ·exact .refl
  ·obtain⟨c,k,p⟩:=ZQ.1 h;obtain⟨t,d,rfl,rfl,_⟩:=VM k;exact(I6.step t d .refl).trans (Mr f _ x p)
section
variable{l:List Tk}{r:Bs->Nat}(T:I_ l r)
include T
def S7{s x:Bs}(h:I6 l s x):r s<=r x:=by
 induction h with
 |refl=>exact Qs _
 |step t d _ ih=>exact Ze ih (Nat.le_of_lt (T.up t d))
def aEd{a b x:Bs}(h:I6 l a x)(k:I6 l b x):I6 l a b∨I6 l b a:=by
 induction h with
 |refl=>exact .inr k
 |step t d q ih=>
  generalize e:t.1=y at k;cases k with
  |refl=>subst e;exact .inl (.step t d q)
  |step u m r=>
   have:=T.eq d m e;subst this;exact ih r
def LQ{s c:Bs}(h:c∈CD l s):r s<r c∧r c<=l.length:=by
 obtain⟨t,d,rfl,rfl,_⟩:=VM h;exact⟨T.up t d,T.top t d⟩
theorem qW{s a b:Bs}(x:a∈CD l s)(i:b∈CD l s)(h:I6 l a b):a=b:=by
 have q:=(LQ T x).1;obtain⟨u,m,c,rfl,_⟩:=VM i;generalize e:u.1=y at h;cases h with
 |refl=>rfl
 |step t d f=>
  have:=T.eq d m e.symm;subst this;have:=S7 T f;rw[c]at this;omega
def kY(s:Bs):(CD l s).Nodup:=by
 unfold CD;have h:=(T.one.filter (λt=>decide (t.2.1=s)&&decide (t.1≠s)));rw[Q0];exact List.pairwise_map.2 h
def OZ:∀(f:Nat)(s:Bs),(EN l f s).Nodup
 |0,s=>by simp[EN]
 |f+1,s=>by
  rw[EN,ZV];refine⟨λh=>?_,?_⟩
  ·obtain⟨c,k,p⟩:=ZQ.1 h;have:=S7 T (Mr f c s p);have:=(LQ T k).1;omega
  ·rw[Q0,List.pairwise_flatMap];refine⟨λc _=>Q0.1 (OZ f c),?_⟩;have j:=Q0.1 (kY T s);refine List.Pairwise.imp_of_mem ?_ j;intro a b q i n x p y d e;subst e;rcases aEd T (Mr f a x p) (Mr f b x d)with h|h
   ·grind [qW]
   ·grind [qW]
omit T in
def VV{f:Nat}{s x:Bs}(h:x∈EN l f s):x∈s::l.map (·.1):=by
 have:=Mr f s x h;cases this with
 |refl=>exact Qy ..
 |step t d _=>exact QE _ (QN.2 ⟨t,d,rfl⟩)
omit T in
def Ur:∀(a b:List Bs),a.Nodup->(∀x∈a,x∈b)->a.length<=b.length
 |[],b,_,_=>Qz _
 |x::a,b,h,k=>by
  rw[ZV]at h;have p:=k x (Qy ..);have:=Ur a (b.erase x) h.2 (λy d=>by
   have i:=k y (QE _ d);exact(List.mem_erase_of_ne (λ(e:y=x)=>h.1 (by rw[←e];exact d))).2 i)
  rw[List.length_erase_of_mem p]at this;have u:0<b.length:=List.length_pos_of_mem p;rw[Qr];omega
def rL(f:Nat)(s:Bs):(EN l f s).length<=l.length+1:=by
 have:=Ur _ _ (OZ T f s) (λx p=>VV p);simpa using this
end
end Go.Vd
namespace Go.Proofs
open Go.Shelf
def aW:Go.Shelf.Ren:=⟨λ|190=>235|125=>209|258=>329|128=>310|129=>311|302=>373|303=>374|304=>375|305=>376|306=>377|307=>378|308=>379|309=>380|310=>381|333=>401|329=>362|330=>363|334=>402|335=>403|336=>210|344=>411|n=>n,λ|31=>28|9=>9|3=>3|46=>137|0=>0|51=>392|53=>394|4=>4|183=>386|182=>385|131=>178|5=>5|218=>429|222=>433|228=>453|229=>435|n=>n,λ|n=>n⟩
def aS:Go.Proofs.Lays.n190 Qq aW:={
 mixed:=Xa
 f125:=func209.trans (congrArg some Xa)
 f128:=func310.trans (congrArg some Xa)
 f129:=func311.trans (congrArg some Xa)
 f190:=func235.trans (congrArg some Xa)
 f258:=func329.trans (congrArg some Xa)
 f302:=func373.trans (congrArg some Xa)
 f303:=func374.trans (congrArg some Xa)
 f304:=func375.trans (congrArg some Xa)
 f305:=func376.trans (congrArg some Xa)
 f306:=func377.trans (congrArg some Xa)
 f307:=func378.trans (congrArg some Xa)
 f308:=func379.trans (congrArg some Xa)
 f309:=func380.trans (congrArg some Xa)
 f310:=func381.trans (congrArg some Xa)
 f329:=func362.trans (congrArg some Xa)
 f330:=func363.trans (congrArg some Xa)
 f333:=func401.trans (congrArg some Xa)
 f334:=func402.trans (congrArg some Xa)
 f335:=func403.trans (congrArg some Xa)
 f336:=func210.trans (congrArg some Xa)
 f344:=func411.trans (congrArg some Xa)
 t0:=underlying0
 a0:=isAgg0
 z0:=sizeOf0
 v0:=zeroValue0
 t3:=underlying3
 a3:=isAgg3
 z3:=sizeOf3
 v3:=zeroValue3
 t4:=underlying4
 a4:=isAgg4
 z4:=sizeOf4
 v4:=zeroValue4
 t5:=underlying5
 a5:=isAgg5
 z5:=sizeOf5
 v5:=zeroValue5
 t9:=underlying9
 a9:=isAgg9
 z9:=sizeOf9
 v9:=zeroValue9
 t31:=underlying28
 a31:=isAgg28
 z31:=sizeOf28
 v31:=zeroValue28
 t46:=underlying137
 a46:=isAgg137
 z46:=sizeOf137
 v46:=zeroValue137
 t51:=underlying392
 a51:=isAgg392
 z51:=sizeOf392
 v51:=zeroValue392
 t53:=underlying394
 a53:=isAgg394
 z53:=sizeOf394
 v53:=zeroValue394
 t131:=underlying178
 a131:=isAgg178
 z131:=sizeOf178
 v131:=zeroValue178
 t182:=underlying385
 a182:=isAgg385
 z182:=sizeOf385
 v182:=zeroValue385
 t183:=underlying386
 a183:=isAgg386
 z183:=sizeOf386
 v183:=zeroValue386
 t218:=underlying429
 a218:=isAgg429
 z218:=sizeOf429
 v218:=zeroValue429
 t222:=underlying433
 a222:=isAgg433
 z222:=sizeOf433
 v222:=zeroValue433
 t228:=underlying453
 a228:=isAgg453
 z228:=sizeOf453
 v228:=zeroValue453
 t229:=underlying435
 a229:=isAgg435
 z229:=sizeOf435
 v229:=zeroValue435}
def aX:Go.Shelf.Ren:=⟨λ|194=>239|n=>n,λ|31=>28|9=>9|3=>3|4=>4|0=>0|n=>n,λ|n=>n⟩
def aV:Go.Proofs.Lays.n194 Qq aX:={
 mixed:=Xa
 f194:=func239.trans (congrArg some Xa)
 t0:=underlying0
 a0:=isAgg0
 z0:=sizeOf0
 v0:=zeroValue0
 t3:=underlying3
 a3:=isAgg3
 z3:=sizeOf3
 v3:=zeroValue3
 t4:=underlying4
 a4:=isAgg4
 z4:=sizeOf4
 v4:=zeroValue4
 t9:=underlying9
 a9:=isAgg9
 z9:=sizeOf9
 v9:=zeroValue9
 t31:=underlying28
 a31:=isAgg28
 z31:=sizeOf28
 v31:=zeroValue28}
end Go.Proofs
namespace Go.Vd
open Go.Proofs Go.RowKit
def Gh.base(G:Nat->Nat):Gh:={G:=G,G0:=G,dl:=λ_=>none,tb:=λ_=>none}
theorem N0 {P : Program} {f : FuncId} {F : List D → Option D} (ma : ∃ fn, P.funcs[f]? = some fn ∧ fn.body.isSome = true ∧ (fn.name == "runtime.NumGoroutine") = false)
  (h : ∀ ds r, F ds = some r → ∀ (vs : List Value) (w : World) (G : Nat → Nat), vs.length = ds.length → (∀ (j : Nat) d v, ds[j]? = some d → vs[j]? = some v → Im w (Gh.base G) d v) → (∀ b, w.heap.size ≤ b → G b = 0) →
   r.calmR = true ∧ Calls P f vs.toArray w fun e w' => ∃ v G', e = .returned v ∧ Below w.heap.size w w' ∧ (∀ b, w'.heap.size ≤ b → G' b = 0) ∧ (∀ b, b < w.heap.size → G' b = G b) ∧ Im w' (Gh.base G') r v) : (Af F).ok P f := by
 refine ⟨ma, fun ds m m' fr _ => rfl, ?_⟩
 intro B w0 w m g fr ds vs r u hi o z t y
 simp only [Af] at y
 split at y
 ·rename_i q
  rw [QI] at y
  obtain ⟨r', hr, y⟩ := y
  simp only [QU] at y
  obtain ⟨rfl, rfl⟩ := y
  have n : ∀ (j : Nat) d v, (ds.map D.un)[j]? = some d → vs[j]? = some v → Im w (Gh.base g.G) d v := by
   intro j d v l hv
   have k := Q5.1 q d (QV l)
   rw [QW, QI] at l
   obtain ⟨d', ta, rfl⟩ := l
   exact (t j d' v ta hv).un.calm_to k (fun _ _ => rfl) (fun _ => Qs _)
  obtain ⟨x, k⟩ := h _ _ hr vs w g.G (by rw [Qx]; exact z) n hi.gz
  refine k.mono ?_
  rintro e w' ⟨v, G', rfl, p, hz, ho, s⟩
  have c : ∀ b, (g.glue w G').G b = G' b := by
   grind [Gh.glue]
  refine ⟨v, g.glue w G', rfl, hi.glue p hz, IF.glue hi.gz p, ?_, fun i a _ => a⟩
  exact s.calmR_to x (fun _ _ => rfl) (fun b => by rw [c]; exact Qs _)
 ·cases y
def Ho{P:Program}{f:FuncId}{F:List D->Option D}(ga:(Af F).ok P f){ds:List D}{r:D}(g:F ds=some r)(q:ds.all D.calm=true)(y:ds.map D.un=ds){vs:List Value}{w:World}{G:Nat->Nat}
  (z:vs.length=ds.length) (t:∀(j:Nat) d v,ds[j]?=some d->vs[j]?=some v->Im w (Gh.base G) d v) (c:∀b,w.heap.size<=b->G b=0):
  Calls P f vs.toArray w λe n=>∃v l,e= .returned v∧Below w.heap.size w n∧Im n l r v:=by
 have va:Iv P w.heap.size w (λ_ _=>none) w (Gh.base G):=
  ⟨Below.refl _ _,Qs _,c,λ_ _=>rfl,λi b h=>by simp[Gh.base]at h,λi a b h=>by simp[Gh.base]at h,λi o d h=>Xe,λi e h=>Xe,λi a e k b x x' h=>Xe,λi s p h=>Xe,λi a s p s' p' b x x' h=>Xe⟩
 refine(ga.run (fr:=[0]) (ds:=ds) (r:=r) (u:=[]) va (λi _=>⟨λ_=>rfl,rfl,rfl⟩) z t ?_).mono ?_
 ·grind [Af]
 ·rintro e n ⟨v,l,rfl,m⟩;exact⟨v,l,rfl,m.inv.below,m.rep⟩
def Lv{P:Program}{f:FuncId}{F:List D->Option D}(ga:(Af F).ok P f){ds:List D}{r:D}(z:F ds=some r)(m:ds.all (λd=>match d with| .str _| .int _ _| .bool _=>true|_=>false)=true)(w:World):
  Calls P f (ds.map plV).toArray w λe o=>∃v y,e= .returned v∧Below w.heap.size w o∧Im o y r v:=by
 have u:∀d∈ds,d.calm=true∧d.un=d∧∀w g,Im w g d (plV d):=by
  intro d l;have:=Q5.1 m d l;cases d with
  |str s=>exact⟨rfl,rfl,λw g=> .str s⟩
  |int k n=>exact⟨rfl,rfl,λw g=> .int k n⟩
  |bool b=>exact⟨rfl,rfl,λw g=> .bool b⟩
  |_=>cases this
 refine Ho ga z (Q5.2 λd l=>(u d l).1) ?_ (G:=λ_=>0) U (λj d v l t=>?_) (λ_ _=>rfl)
 ·conv=>rhs;rw[←List.map_id ds]
  exact Zu λd l=>(u d l).2.1
 ·grind
def Nr:∀l:List Bs,flat (An l)=An l
 |[]=>rfl
 |s::l=>by
  show(D.str s).cells++flat (An l)=_;rw[Nr l];rfl
def jD{w:World}{g:Gh}{nl:Bool}{t:Id}{l:List Bs}{v:Value}(h:Im w g (.slice nl t (An l)) v):
  ∃d c,v= .slice d l.length c∧∀j s,l[j]?=some s->∃a,d=some a∧w.cell? (a.add j)=some (encStr s):=by
 rcases h.slice_inv with ⟨_,r,rfl⟩|⟨_,ad,n,c,sz,i,rfl,f,k,e,p,u,b,m,q,o⟩
 ·have:l=[]:=by cases l with|nil=>rfl|cons=>cases r
  subst this;exact⟨none,0,rfl,λj s h=>Xe⟩
 ·rw[Am]at f;subst f;refine⟨some ad,c,rfl,λj s y=>⟨ad,rfl,?_⟩⟩;have z:j<l.length:=(QJ.1 y).1;have pa:sz=1:=(e (.str s) (QN.2 ⟨s,QV y,rfl⟩)).symm;subst pa;have x:=b j (.str s) (by rw[Nr];simp[An,y]);rw[p j O];cases hv:i j<;>rw[hv]at x<;>cases x;rfl
def Sg{w:World}{B e n b c:Nat}{ys:List Bs}{g:Gh}(h:w.ownsRow B e 1 (.slice (some ⟨b,0,none⟩) n c) n (ys.map encStr))(p:n<=g.G b):Im w g (.slice false [] (An ys)) (.slice (some ⟨b,0,none⟩) n c):=by
 have f:ys.length=n:=by simpa using h.1
 have v:n<=c:=by
  rcases h.2 with ⟨r,_⟩|⟨x,cap,cur,t,_,_,o,_⟩
  ·cases r
  ·cases t;exact o
 refine .slice [] _ ⟨b,0,none⟩ n c 1 (λj=>encStr (ys.getD j [])) (by rw[Am,f]) v (λd l=>?_) (λj y=>?_) (λj y=>rfl) (λj d l=>?_) (λ_=>Xb) (λh=>absurd rfl h) (λd l=>?_)
 ·obtain⟨s,_,rfl⟩:=QN.1 l;rfl
 ·have q:j<ys.length:=by omega
  exact h.cells rfl j _ (by simp[QK,q])
 ·rw[Nr]at l;simp only[An,QW,QI]at l;obtain⟨s,m,rfl⟩:=l;have:ys.getD j []=s:=by simp[QK,m]
  rw[this];exact .str s
 ·obtain⟨s,_,rfl⟩:=QN.1 l;rfl
end Go.Vd
namespace Go.Vd
open Go.Proofs Go.RowKit Go.Sort Go.Shelf
def CZ(y:Bs)(l:List Bs):List Bs:=l.filterMap λs=>if(BO s y).2=true then some (BO s y).1 else none
def UE(y s:Bs)(l:List Bs):CZ y (s::l)=if(BO s y).2=true then(BO s y).1::CZ y l else CZ y l:=by
 grind [CZ]
def aPA(w:World)(d:List Bs)(e:Ending)(n:World):Prop:=
 ∃v,e= .returned v∧Below w.heap.size w n∧((v= .slice none 0 0∧d=[])∨(d≠[]∧∃g cap,v= .slice (some ⟨g,0,none⟩) (Lib.compact (d.mergeSort λx y=>decide (x<=y))).length cap∧w.heap.size<=g∧g<n.heap.size∧
  n.ownsRow w.heap.size 9 1 v (Lib.compact (d.mergeSort λx y=>decide (x<=y))).length ((Lib.compact (d.mergeSort λx y=>decide (x<=y))).map encStr)))
def aCk{w w1:World}{g cap n nn q:Nat}{os:Array Obj}{ss:List (List UInt8)}(e:w1.ownsRow w.heap.size 9 1 (.slice (some ⟨g,0,none⟩) n cap) n (ss.map encStr))(a:Below w.heap.size w w1)(u:w.heap.size<=g)(h:ss.length=n)(c:ss≠[]):
  aPA w ss (.returned (.slice (some ⟨g,0,none⟩) (Lib.compact (ss.mergeSort λx y=>decide (x<=y))).length cap))
   (putRow encStr (Sort.ahead (grow (putRow encStr (Sort.ahead w1 nn) g 0 (ss.mergeSort λx y=>decide (x<=y)).toArray) os) q) g 0 (Lib.compact (ss.mergeSort λx y=>decide (x<=y))++ZH (n-(Lib.compact (ss.mergeSort λx y=>decide (x<=y))).length) []).toArray):=by
 have z:(ss.mergeSort λx y=>decide (x<=y)).length=ss.length:=QS ss;have ta:=Lib.compact_length_le (ss.mergeSort λx y=>decide (x<=y));subst h;rcases e.2 with ⟨r,_⟩|⟨l,d,cur,p,t,i,h1,f,o,b⟩
 ·cases r
 cases p;have m:=ownsRow_sorted (n:=nn) (os:=os) (ts:=ss.mergeSort λx y=>decide (x<=y)) z t i h1 f o;have v:=Lib.ownsRow_putRow (q:=q) (k:=(Lib.compact (ss.mergeSort λx y=>decide (x<=y))).length) (ys:=Lib.compact (ss.mergeSort λx y=>decide (x<=y))++ZH (ss.length-(Lib.compact (ss.mergeSort λx y=>decide (x<=y))).length) []) m Xc O;rw[List.take_left]at v;exact⟨_,rfl,Lib.below_putRow (a.grown (grownBy_sorted _) a.size (λj s=>by cases s;exact t)) u,.inr ⟨c,g,cap,rfl,u,(v.lt g rfl).2,v⟩⟩
def aCH:(Tryz.prog.info? 9).map (λi=>(i.zero,i.size,i.bytes))=some (some (.string ByteArray.empty),1,16):=Xa
def Si(v:Value):v.ownBlock=none∨v.ownBlock≠none:=Classical.em _
def CN{B:Nat}{w n:World}(h:Below B w n)(d:w.heap.size<=B)(row:Option Nat)(m:w.heap.size<=n.heap.size):w.grownBy n row:=⟨h.os,h.tape,h.output,m,λk j _=>h.block k O⟩
def Ed{w m:World}{a:Addr}{v:Value}(i:Below w.heap.size w m)(h:w.cell? a=some v):m.cell? a=some v:=(i.cell (World.block_lt_of_cell? _ _ h)).trans h
def ST{α:Type}{l:List α}{j:Nat}{x:α}(h:l[j]?=some x):l.drop j=x::l.drop (j+1):=by
 obtain⟨u,rfl⟩:=QJ.1 h;exact QR u
def aZJ(w:World)(ba:Bs)(l:List Bs)(ao:Option Addr)(c:Nat)(hl:l.length<=1000)
  (ga:∀j s,l[j]?=some s->∃a,ao=some a∧w.cell? (a.add j)=some (encStr s))
  (t:∀s∈l,∀w,Calls Qq 238 #[encStr s,encStr ba] w λe w'=>e= .returned (.tuple #[encStr (BO s ba).1,.bool (BO s ba).2])∧Below w.heap.size w w'):
  Calls Qq 134 #[encStr ba,.slice ao l.length c] w (aPA w (CZ ba l)):=by
 obtain⟨i0,hi,hx⟩:=QI.1 aCH;simp only[QU]at hx;obtain⟨xa,bb,ya⟩:=hx;have HC:Aside (∀j s,l[j]?=some s->∃a,ao=some a∧w.cell? (a.add j)=some (encStr s)):=ga;have H2:Aside (∀s∈l,∀w,Calls Qq 238 #[encStr s,encStr ba] w λe w'=>e= .returned (.tuple #[encStr (BO s ba).1,.bool (BO s ba).2])∧Below w.heap.size w w'):=t;clear ga t;generalize la:encStr ba=vt at *;generalize hn:l.length=n at *
 go_enter func134,ntmps134
 go_wp2_with fail
 go_loopg [5,12] n (λg s5 aa wx=>∃(k:Nat)(ks:List Bs),k+g=n∧aa= .int .i64 k∧Aside (ks++CZ ba (l.drop k)=CZ ba l)∧ks.length<=k∧
  wx.ownsRow w.heap.size 9 1 s5 ks.length (ks.map encStr)∧Aside (s5= .slice none 0 0↔ks=[])∧Below w.heap.size w wx)
 case atStart=>exact⟨0,[],O,rfl,rfl,Qs _,World.ownsRow_nil _ _ _ _,Z6 (λ_=>rfl) (λ_=>rfl),Below.refl _ _⟩
 case round=>
  obtain⟨k,ks,ja,rfl,HI,sa,ha,ia,o⟩:=hrel;cases gk with
  |zero=>
   have na:¬((k:Int)<(n:Int)):=O
   have HK:Aside (ks=CZ ba l):=by
    have:=HI.out;rw[Q6 O]at this;show ks=_;simpa[CZ]using this
   by_cases oa:ks=[]
   ·subst oa;have e0:u5= .slice none 0 0:=ia.out.2 rfl;subst e0;clear ia
    go_wp2_with (first
     |(go_at_call 235;refine(Any.slices_Sort_string_none aS none 0 _).mono ?_;rintro e w2 ⟨rfl,rfl⟩)
     |(go_at_call 239;refine(Any.slices_Compact_string_empty aV none 0 _).mono ?_;rintro e w3 ⟨rfl,rfl⟩))
    go_ret
    exact⟨_,rfl,o,.inl ⟨rfl,HK.out.symm⟩⟩
   ·have kb:u5≠ .slice none 0 0:=λe=>oa (ia.out.1 e)
    obtain⟨g0,h,rfl,u,ta,fa,ib,ka,hH⟩:=Lib.holds_of_ownsRow ha kb;have m:Calls Qq 235 #[.slice (some ⟨g0,0,none⟩) ks.length h] wr λe w'=>e= .returned (.tuple #[])∧∃n os,w'=grow (putRow encStr (Sort.ahead wr n) g0 0 (ks.mergeSort λx y=>decide (x<=y)).toArray) os:=Any.slices_Sort_string aS g0 0 h ks wr hH ta O
    have r:∀nn os,Calls Qq 239 #[.slice (some ⟨g0,0,none⟩) ks.length h] (grow (putRow encStr (Sort.ahead wr nn) g0 0 (ks.mergeSort λx y=>decide (x<=y)).toArray) os) λe w'=>
      e= .returned (.slice (some ⟨g0,0,none⟩) (Lib.compact (ks.mergeSort λx y=>decide (x<=y))).length h)∧∃q,w'=putRow encStr (Sort.ahead (grow (putRow encStr (Sort.ahead wr nn) g0 0 (ks.mergeSort λx y=>decide (x<=y)).toArray) os) q) g0 0 (Lib.compact (ks.mergeSort λx y=>decide (x<=y))++ZH (ks.length-(Lib.compact (ks.mergeSort λx y=>decide (x<=y))).length) []).toArray:=λnn os=>by
     have ea:(ks.mergeSort λx y=>decide (x<=y)).length=ks.length:=QS ks;have ma:Go.Sort.Holds encStr (grow (putRow encStr (Sort.ahead wr nn) g0 0 (ks.mergeSort λx y=>decide (x<=y)).toArray) os) g0 0 (ks.mergeSort λx y=>decide (x<=y)).toArray:=
      holds_grow encStr _ os g0 0 _ (by simpa[putRow,mapBlock,Sort.ahead]using ta) (holds_putRow encStr _ g0 0 _ _ (holds_ahead encStr wr nn g0 0 _ hH) U)
     have:=Any.slices_Compact_string aV g0 0 h (ks.mergeSort λx y=>decide (x<=y)) _ ma O O;rw[ea]at this;exact this
    have X:Aside (wr.ownsRow w.heap.size 9 1 (.slice (some ⟨g0,0,none⟩) ks.length h) ks.length (ks.map encStr)∧Below w.heap.size w wr):=⟨ha,o⟩;clear ha o hH ia kb
    go_wp2_with (first
     |(go_at_call 235;refine m.mono ?_;rintro e w2 ⟨rfl,nn,os,rfl⟩)
     |(go_at_call 239;refine(r _ _).mono ?_;rintro e w3 ⟨rfl,q,rfl⟩))
    go_ret
    rw[←HK.out];exact aCk X.out.1 X.out.2 u rfl oa
  |succ g=>
   have na:(k:Int)<(n:Int):=O
   obtain⟨s,hs⟩:∃s,l[k]?=some s:=⟨_,Qo O⟩;obtain⟨a,rfl,da⟩:=HC.out k s hs;have v:wr.cell? (a.add k)=some (encStr s):=Ed o da;have hd:Aside (l.drop k=s::l.drop (k+1)):=ST hs;have c2:=H2.out s (QV hs) wr;clear hs da;have pa:=o.size;generalize z:encStr s=vs at *;cases hb:(BO s ba).2 with
   |true=>
    rw[hb]at c2;generalize hp:(BO s ba).1=p at c2;have d:Aside (CZ ba (l.drop k)=p::CZ ba (l.drop (k+1))):=by
     show _=_;rw[hd.out,UE,if_pos hb,hp]
    clear hp hb
    go_wp2_with (first
     |(go_at_call 238;refine c2.mono ?_;rintro e w2 ⟨rfl,ra⟩;have ua:=ra.size;have f:=ha.kept (CN ra (Qs _) none ua) (Si _))
     |(at_builtin;refine wpList_append_own _ rfl _ _ 28 rfl w.heap.size 9 i0 (.string ByteArray.empty) 1 16 underlying28 hi xa bb ya rfl Z _ _ _ rfl (f.alloc _) ⟨w2.heap.size,0,none⟩ 1 1 [encStr p] rfl rfl (cell_one_new _ _ _) (λx hx=>by simp at hx;subst hx;rfl) Xk O Xc ?_;intro v' w3 ca b i))
    go_roundg g
    case measure=>omega
    case rel=>exact⟨k+1,ks++[p],O,Xv,Yt,Xc,by simpa using ca,by show _↔_;rw[i];simp,
      ((o.grown (CN ra (Qs _) none ua) pa (λj hj=>by cases hj)).alloc O _).grown b Xc (λj hj=>(f.lt j hj).1)⟩
   |false=>
    rw[hb]at c2;generalize hp:(BO s ba).1=p at c2;have d:Aside (CZ ba (l.drop k)=CZ ba (l.drop (k+1))):=by
     show _=_;rw[hd.out,UE,if_neg (by rw[hb];decide)]
    clear hp hb
    go_wp2_with (first
     |(go_at_call 238;refine c2.mono ?_;rintro e w2 ⟨rfl,ra⟩;have ua:=ra.size;have f:=ha.kept (CN ra (Qs _) none ua) (Si _)))
    go_roundg g
    case measure=>omega
    case rel=>exact⟨k+1,ks,O,Xv,X8,O,f,ia,o.grown (CN ra (Qs _) none ua) pa (λj hj=>by cases hj)⟩
abbrev pB(b:Nat):Value:= .pointer (some ⟨b,0,none⟩)
section
variable(w0:World)(bg bs bt b4:Nat)(l:List Tk)(ao:Option Addr)(c:Nat)
structure Iy (w:World) (vg:Value) (xs:List Bs):Prop where
 own:w.ownsRow w0.heap.size 9 1 vg xs.length (xs.map encStr)
 g:w.heap[bg]?=some (.cells #[vg] 28 (0,0))
 s:w.heap[bs]?=some (.cells #[.slice ao l.length c] 55 (0,0))
 t:w.heap[bt]?=some (.cells #[.func (.func 234) #[] #[pB bg,pB bs,pB bt]] 332 (0,0))
 nl:vg= .slice none 0 0↔xs=[]
 r:w.heap[b4]?=some (.cells #[.slice none 0 0] 55 (0,0))
 below:Below w0.heap.size w0 w
theorem DO{w:World}{B e size n b:Nat}{v:Value}{xs:List Value}{cs:Array Value}{T:TypeId}{fr:Nat×Nat}(h:w.ownsRow B e size v n xs)(i:w.heap[b]?=some (.cells cs T fr))(p:T≠e):some b≠v.ownBlock:=by
 rcases h.2 with ⟨rfl,_⟩|⟨g,cap,cur,rfl,_,x,_⟩
 ·intro h;cases h
 ·intro h;simp only[Value.ownBlock,QG]at h;subst h;rw[i]at x;simp only[QG,Obj.cells.injEq]at x;exact p x.2.1
variable{w0 bg bs bt b4 l ao c}
def Iy.app{w w3:World}{vg v':Value}{xs:List Bs}{o:Obj}{name:Bs}(u:w0.heap.size<=bg)(T:Iy w0 bg bs bt b4 l ao c w vg xs)(ia:w3.ownsRow w0.heap.size 9 1 v' (xs.length+1) (xs.map encStr++[encStr name]))(d:(w.alloc o).grownBy w3 vg.ownBlock)(x:v'= .slice none 0 0↔vg= .slice none 0 0∧(1:Nat)=0):
  ∃g cap,v'= .slice (some ⟨g,0,none⟩) (xs.length+1) cap∧w3.cell? ⟨bg,0,none⟩=some vg∧w3.frozen? ⟨bg,0,none⟩=false∧(w3.setCell ⟨bg,0,none⟩ v').cell? ⟨bs,0,none⟩=some (.slice ao l.length c)∧Iy w0 bg bs bt b4 l ao c (w3.setCell ⟨bg,0,none⟩ v') v' (xs++[name]):=by
 have z:∀{b:Nat} {cs:Array Value} {T:TypeId},w.heap[b]?=some (.cells cs T (0,0))->T≠9->w3.heap[b]?=some (.cells cs T (0,0)):=λ{b cs Ty} i hT=>by
  have v:b<w.heap.size:=(QH.1 i).1;rw[d.block b Xc (DO T.own i hT),heap_alloc_old w o v];exact i
 have g1:=z T.g Z;have s1:=z T.s Z;have t1:=z T.t Z;have r1:=z T.r Z;have h:v'≠ .slice none 0 0:=λe=>by have:=(x.1 e).2;omega
 rcases ia.2 with ⟨m,_⟩|⟨g,cap,cur,p,da,i,q,h2,h3,h4⟩
 ·exact absurd m h
 have a:g≠bg:=λe=>by
  subst e;rw[g1]at i;simp only[QG,Obj.cells.injEq]at i;exact absurd i.2.1 Z
 have y:∀k,k≠bg->(w3.setCell ⟨bg,0,none⟩ v').heap[k]?=w3.heap[k]?:=λk j=>heap_setCell_other w3 ⟨bg,0,none⟩ k _ j
 have ga:bs≠bg:=λe=>by have:=T.s;rw[e,T.g]at this;simp at this
 have n:bt≠bg:=λe=>by have:=T.t;rw[e,T.g]at this;simp at this
 have f:b4≠bg:=λe=>by have:=T.r;rw[e,T.g]at this;simp at this
 have s2:(w3.setCell ⟨bg,0,none⟩ v').heap[bs]?=some (.cells #[.slice ao l.length c] 55 (0,0)):=(y bs ga).trans s1;refine⟨g,cap,p,by simp[World.cell?,g1],by simp[World.frozen?,g1],by simp[World.cell?,s2],⟨?_,?_,s2,(y bt n).trans t1,⟨λe=>absurd e h,λe=>by simp at e⟩,(y b4 f).trans r1,?_⟩⟩
 ·refine⟨U,.inr ⟨g,cap,cur,by rw[p];simp,da,?_,by simpa using q,h2,h3,by simpa using h4⟩⟩;rw[y g a];exact i
 ·rw[heap_setCell_same w3 bg 0 _ _ _ g1];rfl
 ·exact((T.below.alloc T.below.size o).grown d (by have:=T.below.size;simp;omega) (λk j=>(T.own.lt k j).1)).setCell u _
def gH(a:Addr)(n j:Nat):(a.add n).add j=a.add (n+j):=by
 unfold Addr.add;by_cases u:n=0
 ·subst u;simp
 ·grind
def gR(w0:World)(G:Nat->Nat)(l:List Tk)(d:Option Addr):Prop:=∀j k,l[j]?=some k->∃a m f q,d=some a∧w0.cell? (a.add (j*3))=some (encStr k.1)∧w0.cell? (a.add (j*3+1))=some (encStr k.2.1)∧w0.cell? (a.add (j*3+2))=some (.slice m f q)∧Im w0 (Gh.base G) (.slice k.2.2.1 [] (Aj k.2.2.2)) (.slice m f q)
def gR.load{G:Nat->Nat}{w:World}{j:Nat}{k:Tk}(h:gR w0 G l ao)(p:Below w0.heap.size w0 w)(y:l[j]?=some k):∃a m f q,ao=some a∧w.cell? (a.add (j*3))=some (encStr k.1)∧w.cell? ⟨(a.add (j*3)).block,(a.add (j*3)).off+1,none⟩=some (encStr k.2.1)∧w.cell? ⟨(a.add (j*3)).block,(a.add (j*3)).off+2,none⟩=some (.slice m f q)∧Im w0 (Gh.base G) (.slice k.2.2.1 [] (Aj k.2.2.2)) (.slice m f q):=by
 obtain⟨a,m,f,q,e,s,c2,v,u⟩:=h j k y;have e1:∀i,i≠0->(⟨(a.add (j*3)).block,(a.add (j*3)).off+i,none⟩:Addr)=a.add (j*3+i):=λi hi=>by
  rw[←gH];generalize a.add (j*3)=b;unfold Addr.add;rw[if_neg hi]
 refine⟨a,m,f,q,e,Ed p s,?_,?_,u⟩
 ·rw[e1 1 Z];exact Ed p c2
 ·rw[e1 2 Z];exact Ed p v
def Nl(l:List Tk)(t:Tk)(s:Bs):CD (t::l) s=if t.2.1=s∧t.1≠s then t.1::CD l s else CD l s:=by
 grind [CD]
def Iy.alloc{w:World}{v:Value}{xs:List Bs}(T:Iy w0 bg bs bt b4 l ao c w v xs)(o:Obj):Iy w0 bg bs bt b4 l ao c (w.alloc o) v xs:=
 have z:∀{b:Nat} {x:Obj},w.heap[b]?=some x->(w.alloc o).heap[b]?=some x:=λ{b x} h=>by
  rw[heap_alloc_old w o (QH.1 h).1];exact h
 ⟨T.own.alloc o,z T.g,z T.s,z T.t,T.nl,z T.r,T.below.alloc T.below.size o⟩
def aTD(hg:w0.heap.size<=bg)(z:l.length<=1000){G:Nat->Nat}(hT:gR w0 G l ao)(name:Bs)(f:Bs->List Bs)(w:World)(vg:Value)(xs:List Bs)
  (ta:∀t∈l,t.2.1=name->t.1≠name->∀w vg ys,Iy w0 bg bs bt b4 l ao c w vg ys->ys.length+(f t.1).length<=1000->Calls Qq 234 #[encStr t.1,pB bg,pB bs,pB bt] w λe r=>e= .returned (.tuple #[])∧∃j,Iy w0 bg bs bt b4 l ao c r j (ys++f t.1))
  (ka:xs.length+1+((CD l name).flatMap f).length<=1000) (T:Iy w0 bg bs bt b4 l ao c w vg xs):
  Calls Qq 234 #[encStr name,pB bg,pB bs,pB bt] w λe r=>e= .returned (.tuple #[])∧∃j,Iy w0 bg bs bt b4 l ao c r j (xs++name::(CD l name).flatMap f):=by
 obtain⟨i0,hi,p⟩:=QI.1 aCH;simp only[QU]at p;obtain⟨xa,bb,ya⟩:=p;have C1:w.cell? ⟨bg,0,none⟩=some vg:=by simp[World.cell?,T.g]
 have C3:w.frozen? ⟨bg,0,none⟩=false:=by simp[World.frozen?,T.g]
 have pa:xs.length<1000:=O
 have qa:w0.heap.size<=w.heap.size:=T.below.size;have TT:Aside (Iy w0 bg bs bt b4 l ao c w vg xs):=T;have HT:Aside (gR w0 G l ao):=hT;have HS:Aside (∀t∈l,t.2.1=name->t.1≠name->∀w vg ys,Iy w0 bg bs bt b4 l ao c w vg ys->ys.length+(f t.1).length<=1000->Calls Qq 234 #[encStr t.1,pB bg,pB bs,pB bt] w λe r=>e= .returned (.tuple #[])∧∃j,Iy w0 bg bs bt b4 l ao c r j (ys++f t.1)):=ta;have HL:Aside (xs.length+1+((CD l name).flatMap f).length<=1000):=ka;have ha:=T.own;clear T ka ta hT
 go_enter func234,ntmps234
 go_wp2_with (first
  |(
   at_builtin;refine wpList_append_own _ rfl _ _ 28 rfl w0.heap.size 9 i0 (.string ByteArray.empty) 1 16 underlying28 hi xa bb ya rfl Z _ _ _ rfl (ha.alloc _) ⟨w.heap.size,0,none⟩ 1 1 [encStr name] rfl rfl (cell_one_new _ _ _) (λx p=>by simp at p;subst p;rfl) Xk O Xc ?_;intro v' w3 s b i
   obtain⟨g2,m,rfl,D1,D2,D3,T2⟩:=TT.out.app hg s b i;have T3:Aside (Iy w0 bg bs bt b4 l ao c (w3.setCell ⟨bg,0,none⟩ (.slice (some ⟨g2,0,none⟩) (xs.length+1) m)) (.slice (some ⟨g2,0,none⟩) (xs.length+1) m) (xs++[name])):=T2;clear i s b T2))
 go_loopg [14] l.length (λg n wx=>∃(k:Nat)(ys:List Bs)(vy:Value),k+g=l.length∧n= .int .i64 k∧Aside (ys++(CD (l.drop k) name).flatMap f=xs++name::(CD l name).flatMap f)∧Aside (Iy w0 bg bs bt b4 l ao c wx vy ys))
 case atStart=>exact⟨0,xs++[name],_,O,rfl,by show _=_;simp,T3⟩
 case round=>
  obtain⟨k,ys,vy,ja,rfl,HI,TY⟩:=hrel;cases gk with
  |zero=>
   have na:¬((k:Int)<(l.length:Int)):=O
   go_wp2_with fail
   go_end0
   refine⟨rfl,vy,?_⟩;have:=HI.out;rw[Q6 O]at this;rw[←this];simpa[CD]using TY.out
  |succ g=>
   have na:(k:Int)<(l.length:Int):=O
   obtain⟨t,hs⟩:∃t,l[k]?=some t:=⟨_,Qo O⟩;obtain⟨a,ro,rn,rc,rfl,c1,c2,c3,_⟩:=HT.out.load TY.out.below hs;have hd:Aside (l.drop k=t::l.drop (k+1)):=ST hs;have ea:t∈l:=QV hs;by_cases u:t.2.1=name
   ·by_cases q:t.1=name
    ·have d:Aside (CD (l.drop k) name=CD (l.drop (k+1)) name):=by
      show _=_;rw[hd.out,Nl,if_neg (λh=>h.2 q)]
     go_wp2_with fail
     go_roundg g
     case measure=>omega
     case rel=>exact⟨k+1,ys,vy,O,Xv,X8,TY.out.alloc _⟩
    ·have d:Aside (CD (l.drop k) name=t.1::CD (l.drop (k+1)) name):=by
      show _=_;rw[hd.out,Nl,if_pos ⟨u,q⟩]
     have gb:∀o,Calls Qq 234 #[encStr t.1,pB bg,pB bs,pB bt] (wr.alloc o) λe r=>e= .returned (.tuple #[])∧∃j,Iy w0 bg bs bt b4 l (some a) c r j (ys++f t.1):=λo=>
      HS.out t ea u q _ vy ys (TY.out.alloc o) (by
       have h3:=congrArg ZS HI.out;rw[d.out]at h3;have h4:=HL.out;simp only[Zy,QO,Qr]at h3;omega)
     have y:(t.1==name)=false:=by simpa using q
     have F:∀o,(wr.alloc o).cell? ⟨bt,0,none⟩=some (.func (.func 234) #[] #[pB bg,pB bs,pB bt]):=λo=>by simp[World.cell?,(TY.out.alloc o).t]
     go_wp2_with (go_at_call 234;refine(gb _).mono ?_;rintro e r ⟨rfl,vz,TZ⟩)
     go_roundg g
     case measure=>omega
     case rel=>exact⟨k+1,ys++f t.1,vz,O,Xv,Yt,TZ⟩
   ·have d:Aside (CD (l.drop k) name=CD (l.drop (k+1)) name):=by
     show _=_;rw[hd.out,Nl,if_neg (λh=>u h.1)]
    have v:(t.2.1==name)=false:=Xx
    go_wp2_with fail
    go_roundg g
    case measure=>omega
    case rel=>exact⟨k+1,ys,vy,O,Xv,X8,TY.out.alloc _⟩
def Iy.kept{w n:World}{v:Value}{xs:List Bs}{row:Option Nat}(T:Iy w0 bg bs bt b4 l ao c w v xs)(h:w.grownBy n row)(y:∀(b:Nat) cs e,w.heap[b]?=some (.cells cs e (0,0))->e≠97->some b≠row)(d:∀k,row=some k->w0.heap.size<=k):Iy w0 bg bs bt b4 l ao c n v xs:=by
 have z:∀{b:Nat} {cs:Array Value} {T:TypeId},w.heap[b]?=some (.cells cs T (0,0))->T≠97->n.heap[b]?=some (.cells cs T (0,0)):=λ{b cs e} i p=>by
  rw[h.block b (QH.1 i).1 (y b cs e i p)];exact i
 refine⟨T.own.kept h ?_,z T.g Z,z T.s Z,z T.t Z,T.nl,z T.r Z,T.below.grown h T.below.size d⟩;rcases T.own.2 with ⟨rfl,_⟩|⟨g,cap,cur,rfl,_,i,_⟩
 ·exact .inl rfl
 ·exact .inr (y g cur 9 i Z)
def Iy.sorted{w:World}{a:Value}{xs:List Bs}(T:Iy w0 bg bs bt b4 l ao c w a xs)(p:xs≠[]):∃g cap,a= .slice (some ⟨g,0,none⟩) xs.length cap∧g<w.heap.size∧Go.Sort.Holds encStr w g 0 xs.toArray∧
  ∀nn os,Iy w0 bg bs bt b4 l ao c (grow (putRow encStr (Sort.ahead w nn) g 0 (xs.mergeSort λx y=>decide (x<=y)).toArray) os) a (xs.mergeSort λx y=>decide (x<=y)):=by
 have h:a≠ .slice none 0 0:=λe=>p (T.nl.1 e)
 have ea:(xs.mergeSort λx y=>decide (x<=y)).length=xs.length:=QS xs;rcases T.own.2 with ⟨m,_⟩|⟨g,cap,cur,hv,f,i,u,q,o,h4⟩
 ·exact absurd m h
 refine⟨g,cap,hv,(QH.1 i).1,Go.holds_of_block i (by simpa using h4),λnn os=>?_⟩;have fa:=Go.grownBy_sorted (w:=w) (g:=g) (n:=nn) (os:=os) (xs.mergeSort λx y=>decide (x<=y)).toArray;have z:∀{b:Nat} {cs:Array Value} {T:TypeId},w.heap[b]?=some (.cells cs T (0,0))->T≠9->(grow (putRow encStr (Sort.ahead w nn) g 0 (xs.mergeSort λx y=>decide (x<=y)).toArray) os).heap[b]?=some (.cells cs T (0,0)):=λ{b cs Ty} v d=>by
  rw[fa.block b (QH.1 v).1 (λe=>by
   have:=DO T.own v d;rw[hv]at this;exact this e)];exact v
 refine⟨?_,z T.g Z,z T.s Z,z T.t Z,⟨λe=>absurd e h,λe=>?_⟩,z T.r Z,T.below.grown fa T.below.size (λk j=>by cases j;exact f)⟩
 ·rw[hv,ea];exact Go.ownsRow_sorted ea f i u q o
 ·grind
def aK6(x:w0.heap.size<=bg)(z:l.length<=1000){G:Nat->Nat}(p:gR w0 G l ao){r:Bs->Nat}(T:I_ l r):∀(f:Nat)(name:Bs),l.length<=r name+f->∀(w:World)(v:Value)(xs:List Bs),Iy w0 bg bs bt b4 l ao c w v xs->xs.length+(EN l f name).length<=1000->
  Calls Qq 234 #[encStr name,pB bg,pB bs,pB bt] w λe w'=>e= .returned (.tuple #[])∧∃j,Iy w0 bg bs bt b4 l ao c w' j (xs++EN l f name)
 |0,name,hr,w,v,xs,h,hlen=>by
  have g:CD l name=[]:=by
   cases hc:CD l name with
   |nil=>rfl
   |cons a t=>have:=LQ T (show a∈CD l name by rw[hc];exact Qy ..);omega
  have:=aTD x z p name (λ_=>[]) w v xs (λt d u q=>by
   have o:=T.up t d;have n:=T.top t d;rw[u]at o;omega) (by rw[g];simpa[EN]using hlen) h
  rw[g]at this;exact this
 |f+1,name,hr,w,v,xs,h,hlen=>by
  refine aTD x z p name (EN l f) w v xs (λt d u q w v ys m b=>?_) (by simp only[EN,Qr]at hlen;omega) h;have o:=T.up t d;rw[u]at o;exact aK6 x z p T f t.1 O w v ys m b
end
def aHz:(Tryz.prog.info? 97).map (λi=>(i.zero,i.size,i.bytes))=some (some (.agg #[.string ByteArray.empty,.string ByteArray.empty,.slice none 0 0]),3,56):=Xa
def tkV(p:Tk×Value):List Value:=[encStr p.1.1,encStr p.1.2.1,p.2]
def yE(w:World)(a b c:Value)(t:TypeId):∀j u,[a,b,c][j]?=some u->(w.alloc (.cells #[a,b,c] t)).cell? ((⟨w.heap.size,0,none⟩:Addr).add j)=some u:=by
 intro j u y
 match j,y with
 |0,y=>simp at y;subst y;simp[Addr.add]
 |1,y=>simp at y;subst y;simp[Addr.add]
 |2,y=>simp at y;subst y;simp[Addr.add]
def TO{w z:World}{d k:Obj}(h:Below ((w.alloc d).alloc k).heap.size ((w.alloc d).alloc k) z):z.heap[w.heap.size]?=some d∧z.heap[w.heap.size+1]?=some k∧Below w.heap.size w z∧w.heap.size+2<=z.heap.size:=by
 have p:(w.alloc d).heap.size=w.heap.size+1:=QY _;have b:((w.alloc d).alloc k).heap.size=w.heap.size+2:=(QY _).trans (by rw[p]);have e1:(w.alloc d).heap[w.heap.size]?=some d:=heap_alloc_new w d;have e2:((w.alloc d).alloc k).heap[w.heap.size]?=some d:=by rw[heap_alloc_old _ _ O];exact e1
 have e3:((w.alloc d).alloc k).heap[w.heap.size+1]?=some k:=by have:=heap_alloc_new (w.alloc d) k;rwa [p]at this
 exact⟨by rw[h.block _ O];exact e2,by rw[h.block _ O];exact e3,(((Below.refl _ w).alloc (Qs _) _).alloc O _).trans (h.mono O),by have:=h.size;omega⟩
def Ms{w:World}{b:Nat}{v:Value}{T:TypeId}(h:w.heap[b]?=some (.cells #[v] T (0,0))):w.cell? ⟨b,0,none⟩=some v:=by simp[World.cell?,h]
def rG{w:World}{b:Nat}{v:Value}{T:TypeId}(h:w.heap[b]?=some (.cells #[v] T (0,0))):w.frozen? ⟨b,0,none⟩=false:=by simp[World.frozen?,h]
def aTF(w:World)(l:List Tk)(d:Option Addr)(c:Nat)(name:Bs)(q:Int)
  (y:∀m,Below w.heap.size w m->Calls Qq 93 #[.agg #[.slice d l.length c],encStr name] m λe n=>e= .returned (.tuple #[.int .i64 q,.bool false])∧Below m.heap.size m n):
  Calls Qq 131 #[.agg #[.slice d l.length c],encStr name] w λe n=>e= .returned (.tuple #[.agg #[.slice d l.length c],.slice none 0 0,.int .i64 6])∧Below w.heap.size w n:=by
 go_enter func131,ntmps131
 go_wp2_with fail
 refine(y _ (((Below.refl _ w).alloc (Qs _) _).alloc U _)).mono ?_;rintro e z ⟨rfl,s⟩;obtain⟨u,r,i,f⟩:=TO s;have o:z.cell? ⟨w.heap.size,0,none⟩=some (.slice d l.length c):=by simp[World.cell?,u]
 have h:z.cell? ⟨w.heap.size+1,0,none⟩=some (.slice none 0 0):=by simp[World.cell?,r]
 have a:z.frozen? ⟨w.heap.size+1,0,none⟩=false:=by simp[World.frozen?,r]
 have b:∀v,(z.setCell ⟨w.heap.size+1,0,none⟩ v).cell? ⟨w.heap.size+1,0,none⟩=some v:=λv=>World.cell?_setCell_same' _ _ _ (by rw[h];rfl)
 go_wp2_with fail
 refine bodyPost_ret (v:= .tuple #[.agg #[.slice d l.length c],.slice none 0 0,.int .i64 6]) (by simp[results,results131,go_sem,b]) rfl ⟨rfl,i.setCell U _⟩
def EC(l:List Tk)(gone:List Bs):List Tk:=l.filter λt=>!LR gone t.1
def Sx(t:Tk)(l:List Tk)(gone:List Bs):EC (t::l) gone=if LR gone t.1=true then EC l gone else t::EC l gone:=by
 grind [EC,LR]
def Pt{w:World}{B e size n b:Nat}{v u:Value}{xs:List Value}(h:w.ownsRow B e size v n xs)(c:some b≠v.ownBlock):(w.setCell ⟨b,0,none⟩ u).ownsRow B e size v n xs:=by
 refine⟨h.1,?_⟩;rcases h.2 with h|⟨g,cap,cur,rfl,q,f,o⟩
 ·exact .inl h
 ·refine .inr ⟨g,cap,cur,rfl,q,?_,o⟩;rw[heap_setCell_other _ _ _ _ (λe=>c (congrArg some (show b=g from e.symm)))];exact f
def jA{w z:World}{l:List Tk}{d:Option Addr}{c:Nat}(u:z.heap[w.heap.size]?=some (.cells #[.slice d l.length c] 55 (0,0)))(r:z.heap[w.heap.size+1]?=some (.cells #[.slice none 0 0] 55 (0,0)))(i:Below w.heap.size w z)(s:w.heap.size+2<=z.heap.size):
  Iy w z.heap.size w.heap.size (z.heap.size+1) (w.heap.size+1) l d c ((z.alloc (Obj.cells #[Value.slice none 0 0] 28)).alloc (Obj.cells #[Value.func (Fn.func 234) #[] #[pB z.heap.size,pB w.heap.size,pB (z.heap.size+1)]] 332)) (.slice none 0 0) []:=by
 have p:(z.alloc (Obj.cells #[Value.slice none 0 0] 28)).heap.size=z.heap.size+1:=QY _;have n:∀o {k:Nat} {x:Obj},z.heap[k]?=some x->((z.alloc (Obj.cells #[Value.slice none 0 0] 28)).alloc o).heap[k]?=some x:=λo k x h=>by
  have j:=(QH.1 h).1;rw[heap_alloc_old _ _ O,heap_alloc_old _ _ j];exact h
 refine⟨World.ownsRow_nil _ _ _ _,?_,n _ u,?_,⟨λ_=>rfl,λ_=>rfl⟩,n _ r,(i.alloc O _).alloc O _⟩
 ·rw[heap_alloc_old _ _ O];exact heap_alloc_new _ _
 ·have:=heap_alloc_new (z.alloc (Obj.cells #[Value.slice none 0 0] 28)) (Obj.cells #[Value.func (Fn.func 234) #[] #[pB z.heap.size,pB w.heap.size,pB (z.heap.size+1)]] 332)
  rwa [p]at this
def aTE(w:World)(G:Nat->Nat)(l:List Tk)(ao:Option Addr)(c:Nat)(name:Bs)(q:Int)(r:Bs->Nat)(hl:l.length<=900)(hT:gR w G l ao)(T:I_ l r)
  (ba:∀wx,Below w.heap.size w wx->Calls Qq 93 #[.agg #[.slice ao l.length c],encStr name] wx λe w'=>e= .returned (.tuple #[.int .i64 q,.bool true])∧Below wx.heap.size wx w')
  (fa:∀(wx:World)(v:Value)(ys:List Bs)(s:Bs),wx.ownsRow w.heap.size 9 1 v ys.length (ys.map encStr)->ys≠[]->ys.length<=1000->(v= .slice none 0 0↔ys=[])->Calls Qq 236 #[v,encStr s] wx λe w'=>e= .returned (.bool (LR ys s))∧Below wx.heap.size wx w'):
  Calls Qq 131 #[.agg #[.slice ao l.length c],encStr name] w λe w'=>∃gv lv ps,e= .returned (.tuple #[.agg #[lv],gv,.int .i64 0])∧Below w.heap.size w w'∧
   w'.ownsRow w.heap.size 9 1 gv (EN l l.length name).length (((EN l l.length name).mergeSort λx y=>decide (x<=y)).map encStr)∧gv≠ .slice none 0 0∧
   w'.ownsRow w.heap.size 97 3 lv ps.length (ps.flatMap tkV)∧(lv= .slice none 0 0↔ps=[])∧ps.map (·.1)=EC l ((EN l l.length name).mergeSort λx y=>decide (x<=y))∧
   ∀p∈ps,Im w (Gh.base G) (.slice p.1.2.2.1 [] (Aj p.1.2.2.2)) p.2:=by
 obtain⟨i0,hi,hx⟩:=QI.1 aHz;simp only[QU]at hx;obtain⟨xa,bb,ya⟩:=hx;have va:=rL T l.length name;have pa:EN l l.length name≠[]:=by cases l.length<;>simp[EN]
 go_enter func131,ntmps131
 go_wp2_with fail
 refine(ba _ (((Below.refl _ w).alloc (Qs _) _).alloc U _)).mono ?_;rintro e w2 ⟨rfl,ra⟩;obtain⟨x1,x2,x3,x4⟩:=TO ra;clear ra;have D0:((w2.alloc (Obj.cells #[Value.slice none 0 0] 28)).alloc (Obj.cells #[Value.nilFunc] 332)).heap[w2.heap.size+1]?=some (Obj.cells #[Value.nilFunc] 332):=by
  have:=heap_alloc_new (w2.alloc (Obj.cells #[Value.slice none 0 0] 28)) (Obj.cells #[Value.nilFunc] 332)
  rwa [show(w2.alloc (Obj.cells #[Value.slice none 0 0] 28)).heap.size=w2.heap.size+1 from QY _]at this
 have D1:((w2.alloc (Obj.cells #[Value.slice none 0 0] 28)).alloc (Obj.cells #[Value.nilFunc] 332)).cell? ⟨w2.heap.size+1,0,none⟩=some Value.nilFunc:=Ms D0;have D2:((w2.alloc (Obj.cells #[Value.slice none 0 0] 28)).alloc (Obj.cells #[Value.nilFunc] 332)).frozen? ⟨w2.heap.size+1,0,none⟩=false:=rG D0
 go_wp2_with fail
 have T0:=jA x1 x2 x3 x4;refine(aK6 O O hT T l.length name O _ _ _ T0 Xc).mono ?_;rintro e w3 ⟨rfl,v3,T3⟩;clear T0 D0 D1 D2;rw[Q8]at T3;generalize hD:EN l l.length name=ds at *;obtain⟨g,cap,rfl,ib,hH,T4⟩:=T3.sorted pa;have E1:w3.cell? ⟨w2.heap.size,0,none⟩=some (.slice (some ⟨g,0,none⟩) ds.length cap):=Ms T3.g;have m:Calls Qq 235 #[.slice (some ⟨g,0,none⟩) ds.length cap] w3 λe w'=>e= .returned (.tuple #[])∧∃n os,w'=grow (putRow encStr (Sort.ahead w3 n) g 0 (ds.mergeSort λx y=>decide (x<=y)).toArray) os:=Any.slices_Sort_string aS g 0 cap ds w3 hH ib O
 go_wp2_with fail
 refine m.mono ?_;rintro e w4 ⟨rfl,nn,os,gb⟩;replace T4:=T4 nn os;rw[←gb]at T4;clear m gb T3 hH E1;have ea:(ds.mergeSort λx y=>decide (x<=y)).length=ds.length:=QS ds;have ka:(ds.mergeSort λx y=>decide (x<=y))≠[]:=λe=>by rw[e]at ea;exact pa (Zt ea.symm)
 generalize ma:(ds.mergeSort λx y=>decide (x<=y))=ss at *;have E2:w4.cell? ⟨w.heap.size,0,none⟩=some (.slice ao l.length c):=Ms T4.s;have HT:Aside (gR w G l ao):=hT;have H2:Aside (∀(wx:World)(v:Value)(ys:List Bs)(s:Bs),wx.ownsRow w.heap.size 9 1 v ys.length (ys.map encStr)->ys≠[]->ys.length<=1000->(v= .slice none 0 0↔ys=[])->Calls Qq 236 #[v,encStr s] wx λe w'=>e= .returned (.bool (LR ys s))∧Below wx.heap.size wx w'):=fa;clear hT fa ba;generalize la:ds.length=n at *
 go_wp2_with fail
 go_loopg [11,32] l.length (λgg fb ua wx=>∃(k:Nat)(ps:List (Tk×Value)),k+gg=l.length∧ua= .int .i64 k∧ps.length<=k∧Aside (ps.map (·.1)++EC (l.drop k) ss=EC l ss)∧
  wx.ownsRow w.heap.size 97 3 fb ps.length (ps.flatMap tkV)∧Aside (fb= .slice none 0 0↔ps=[])∧Aside (∀p∈ps,Im w (Gh.base G) (.slice p.1.2.2.1 [] (Aj p.1.2.2.2)) p.2)∧
  Aside (Iy w w2.heap.size w.heap.size (w2.heap.size+1) (w.heap.size+1) l ao c wx (.slice (some ⟨g,0,none⟩) n cap) ss))
 case atStart=>exact⟨0,[],O,rfl,Qs _,rfl,World.ownsRow_nil _ _ _ _,Z6 (λ_=>rfl) (λ_=>rfl),(by show ∀p∈([]:List (Tk×Value)),_;intro p hp;cases hp),T4⟩
 case round=>
  obtain⟨k,ps,ja,rfl,oa,HI,ha,ia,HR,TY⟩:=hrel;have qa:=TY.out.below.size;cases gk with
  |zero=>
   have na:¬((k:Int)<(l.length:Int)):=O
   have G1:wr.cell? ⟨w2.heap.size,0,none⟩=some (.slice (some ⟨g,0,none⟩) n cap):=Ms TY.out.g;have G2:wr.cell? ⟨w.heap.size+1,0,none⟩=some (.slice none 0 0):=Ms TY.out.r;have G3:wr.frozen? ⟨w.heap.size+1,0,none⟩=false:=rG TY.out.r;have G0:w.heap.size+1≠w2.heap.size:=O
   have G4:∀v,(wr.setCell ⟨w.heap.size+1,0,none⟩ v).cell? ⟨w2.heap.size,0,none⟩=some (.slice (some ⟨g,0,none⟩) n cap):=λv=>(World.cell?_setCell_other _ _ _ _ (λe=>G0 (congrArg Addr.block e))).trans G1
   have G5:∀v,(wr.setCell ⟨w.heap.size+1,0,none⟩ v).cell? ⟨w.heap.size+1,0,none⟩=some v:=λv=>World.cell?_setCell_same' _ _ _ (by rw[G2];rfl)
   obtain⟨lo,ln,lc,rfl⟩:∃lo ln lc,u11= .slice lo ln lc:=by
    rcases ha.2 with ⟨h,_⟩|⟨_,_,_,h,_⟩<;>exact⟨_,_,_,h⟩
   go_wp2_with fail
   go_region
   all_goals (
    go_wp2_with fail
    have za:=Pt (u:= .slice lo ln lc) ha (DO ha TY.out.r Z);have f:=Pt (u:= .slice lo ln lc) TY.out.own (DO TY.out.own TY.out.r Z);have wa:=TY.out.below.setCell (p:=⟨w.heap.size+1,0,none⟩) U (.slice lo ln lc);refine bodyPost_ret (v:= .tuple #[.agg #[.slice lo ln lc],.slice (some ⟨g,0,none⟩) n cap,.int .i64 0]) (by simp[results,results131,go_sem,G5]) rfl ⟨_,_,ps,rfl,⟨wa.os,wa.tape,wa.output,wa.size,wa.block⟩,?_,U,za,ia.out,?_,HR.out⟩
    ·rw[ea]at f;rw[hD,ma,la];exact f
    ·have:=HI.out;rw[Q6 O]at this;rw[hD,ma,←this];simp[EC])
  |succ gg=>
   have na:(k:Int)<(l.length:Int):=O
   obtain⟨t,hs⟩:∃t,l[k]?=some t:=⟨_,Qo O⟩;obtain⟨a,ro,rn,rc,rfl,c1,c2,c3,c4⟩:=HT.out.load TY.out.below hs;have hd:Aside (l.drop k=t::l.drop (k+1)):=ST hs;have ga:∀o,Calls Qq 236 #[.slice (some ⟨g,0,none⟩) n cap,encStr t.1] (wr.alloc o) λe w'=>e= .returned (.bool (LR ss t.1))∧Below (wr.alloc o).heap.size (wr.alloc o) w':=λo=>
    H2.out _ _ ss t.1 (TY.out.alloc o).own ka O ⟨λe=>by simp at e,λe=>absurd e ka⟩
   have E3:∀o,(wr.alloc o).cell? ⟨w2.heap.size,0,none⟩=some (.slice (some ⟨g,0,none⟩) n cap):=λo=>Ms (TY.out.alloc o).g
   have C4:Aside (Im w (Gh.base G) (.slice t.2.2.1 [] (Aj t.2.2.2)) (.slice ro rn rc)):=c4;clear c4 hs
   go_wp2_with fail
   refine(ga _).mono ?_;rintro e w5 ⟨rfl,f⟩;generalize ho:Obj.cells #[encStr t.1,encStr t.2.1,.slice ro rn rc] 97 (0,0)=ob at *;have da:=f.size;have ta:(wr.alloc ob).heap.size=wr.heap.size+1:=QY _;have T5:Aside (Iy w w2.heap.size w.heap.size (w2.heap.size+1) (w.heap.size+1) l (some a) c w5 (.slice (some ⟨g,0,none⟩) n cap) ss):=
    (TY.out.alloc ob).kept (CN f (Qs _) none da) (λ_ _ _ _ _ h=>Xd) (λ_ h=>Xd)
   have aa:=(ha.alloc ob).kept (CN f (Qs _) none da) (Si _);have F0:w5.heap[wr.heap.size]?=some ob:=by rw[f.block _ O];exact heap_alloc_new _ _
   subst ho;have F1:w5.cell? ⟨wr.heap.size,0,none⟩=some (encStr t.1):=Yo
   have F2:w5.cell? ⟨wr.heap.size,1,none⟩=some (encStr t.2.1):=Yo
   have F3:w5.cell? ⟨wr.heap.size,2,none⟩=some (.slice ro rn rc):=Yo
   clear ga E3 f F0;cases hb:LR ss t.1 with
   |true=>
    have d:Aside (EC (l.drop k) ss=EC (l.drop (k+1)) ss):=by show _=_;rw[hd.out,Sx,if_pos hb]
    clear hb
    go_wp2_with fail
    go_roundg gg
    case measure=>omega
    case rel=>exact⟨k+1,ps,O,Xv,O,X8,aa,ia,HR,T5⟩
   |false=>
    have d:Aside (EC (l.drop k) ss=t::EC (l.drop (k+1)) ss):=by show _=_;rw[hd.out,Sx,if_neg (by rw[hb];decide)]
    clear hb
    go_wp2_with (at_builtin;refine wpList_append_own _ rfl _ _ 53 rfl w.heap.size 97 i0 (.agg #[.string ByteArray.empty,.string ByteArray.empty,.slice none 0 0]) 3 56 underlying53 hi xa bb ya rfl Z _ _ _ rfl (aa.alloc _) ⟨w5.heap.size,0,none⟩ 1 1 [encStr t.1,encStr t.2.1,.slice ro rn rc] rfl rfl (yE _ _ _ _ _) (λx hx=>by simp at hx;rcases hx with rfl|rfl|rfl<;>rfl) Xk O Xc ?_;intro v' w6 ca i z)
    have sa:(w5.alloc (Obj.cells #[encStr t.1,encStr t.2.1,.slice ro rn rc] 97 (0,0))).heap.size=w5.heap.size+1:=QY _;have T6:Aside (Iy w w2.heap.size w.heap.size (w2.heap.size+1) (w.heap.size+1) l (some a) c w6 (.slice (some ⟨g,0,none⟩) n cap) ss):=
     (T5.out.alloc _).kept i (λb cs Ty hb hT=>DO (aa.alloc _) hb hT) (λj hj=>(aa.lt j hj).1)
    go_roundg gg
    case measure=>omega
    case rel=>exact⟨k+1,ps++[(t,.slice ro rn rc)],O,Xv,Xc,Yt,by simpa[tkV]using ca,by show _↔_;rw[z];simp,(by
      show ∀p∈_,_;intro p hp;rcases Zj.1 hp with h|h
      ·exact HR.out p h
      ·rw[QT.1 h];exact C4.out),T6⟩
def EI{w m:World}{G:Nat->Nat}{d:D}{v:Value}(h:Im w (Gh.base G) d v)(k:d.calm=true)(c:∀b,w.heap.size<=b->G b=0)(i:Below w.heap.size w m){G':Nat->Nat}(y:∀b,b<w.heap.size->G b<=G' b):Im m (Gh.base G') d v:=
 h.calm_to k (λp g=>by
  have z:p.block<w.heap.size:=by
   grind [Gh.base]
  exact i.cell z) (λb=>by
  rcases ZM b w.heap.size with h|h
  ·exact y b h
  ·show G b<=_;rw[c b h];exact Qz _)
def uO{w:World}{G:Nat->Nat}{nl:Bool}{t:Id}{l:List Tk}{v:Value}(h:Im w (Gh.base G) (.slice nl t (Ay l)) v):∃d c,v= .slice d l.length c∧gR w G l d:=by
 rcases h.slice_inv with ⟨_,r,rfl⟩|⟨_,ad,n,c,sz,b,rfl,f,x,e,p,r5,a,r7,r8,r9⟩
 ·have:l=[]:=by cases l with|nil=>rfl|cons=>cases r
  subst this;exact⟨none,0,rfl,λj s h=>Xe⟩
 ·rw[show(Ay l).length=l.length from Qx ..]at f;subst f;refine⟨some ad,c,rfl,λj k y=>?_⟩;have z:j<l.length:=(QJ.1 y).1;have pa:sz=3:=(e (I2 k) (QN.2 ⟨k,QV y,rfl⟩)).symm;subst pa;have g:l[j]=k:=(QJ.1 y).2;have o:∀i,i<3->(flat (Ay l))[j*3+i]?=(I2 k).cells[i]?:=λi hi=>by
   rw[E6 e (by simpa[Ay]using z) hi];simp[Ay,g]
  have u:=(a _ _ ((o 0 Z).trans rfl)).str_inv;have e1:=(a _ _ ((o 1 Z).trans rfl)).str_inv;have e2:=a _ _ ((o 2 Z).trans rfl);obtain⟨m,q,ev,_⟩:=e2.len_slice;rw[ev]at e2;exact⟨ad,m,_,q,rfl,by rw[p _ O];exact congrArg some u,by rw[p _ O];exact congrArg some e1,by rw[p _ O,ev],e2⟩
def SL{w:World}{g:Gh}:∀(ps:List (Tk×Value))(_:∀p∈ps,Im w g (.slice p.1.2.2.1 [] (Aj p.1.2.2.2)) p.2)(j:Nat)(d:D),(flat (Ay (ps.map (·.1))))[j]?=some d->∃v,(ps.flatMap tkV)[j]?=some v∧v.oneCell'=true∧Im w g d v
 |[],_,j,d,h=>by simp[Ay,flat]at h
 |p::ps,hp,j,d,h=>by
  have e:flat (Ay ((p::ps).map (·.1)))=[D.str p.1.1,D.str p.1.2.1,D.slice p.1.2.2.1 [] (Aj p.1.2.2.2)]++flat (Ay (ps.map (·.1))):=rfl;rw[e]at h;rw[Zy];have y:=hp p (Qy ..)
  match j,h with
  |0,h=>cases h;exact⟨_,rfl,rfl,.str _⟩
  |1,h=>cases h;exact⟨_,rfl,rfl,.str _⟩
  |2,h=>
   cases h;refine⟨p.2,rfl,?_,y⟩;obtain⟨_,_,ev,_⟩:=y.len_slice;rw[ev];rfl
  |j+3,h=>exact SL ps (λq s=>hp q (QE _ s)) j d h
def aGw{w:World}{B e:Nat}{k:Value}{ps:List (Tk×Value)}{g:Gh}(h:w.ownsRow B e 3 k ps.length (ps.flatMap tkV))(x:k= .slice none 0 0↔ps=[])(m:∀p∈ps,Im w g (.slice p.1.2.2.1 [] (Aj p.1.2.2.2)) p.2)(hG:∀b,k.ownBlock=some b->ps.length*3<=g.G b):Im w g (.slice (decide (ps.map (·.1)=[])) [] (Ay (ps.map (·.1)))) k:=by
 rcases h.2 with ⟨r,hz⟩|⟨b,c,cur,t,_,_,va,_⟩
 ·have:=x.1 r;subst this;subst r;exact .nils _
 ·have n:ps≠[]:=λe=>by rw[x.2 e]at t;cases t
  have i:=hG b XL;rw[decide_eq_false (by simpa using n)];have u:=h;subst t;refine .slice [] _ ⟨b,0,none⟩ ps.length c 3 (λj=>(ps.flatMap tkV).getD j .nilFunc) (by simp[Ay]) va (λd l=>?_) (λj y=>?_) (λj y=>?_) (λj d l=>?_) (λ_=>Xb) (λh=>absurd rfl h) (λd l=>?_)
  ·obtain⟨s,_,rfl⟩:=QN.1 l;rfl
  ·have q:j<(ps.flatMap tkV).length:=by rw[h.1];exact y
   exact u.cells rfl j _ (by simp only[QK];rw[Qo q];rfl)
  ·have la:j<(flat (Ay (ps.map (·.1)))).length:=by
    rw[Cx (sz:=3) (λd l=>by obtain⟨s,_,rfl⟩:=QN.1 l;rfl)];simpa[Ay]using y
   obtain⟨v,o,z,_⟩:=SL ps m j _ (Qo la);simp only[QK,o,Q_];exact z
  ·obtain⟨v,o,_,a⟩:=SL ps m j d l;simp only[QK,o,Q_];exact a
  ·obtain⟨s,_,rfl⟩:=QN.1 l;rfl
def Uh(s y:Bs):(Dp s y).length<=s.length:=by
 grind [Dp]
def PK(l:List Bs):List Bs:=l.mergeSort λx y=>decide (x<=y)
def NC(y:Bs)(l:List Bs):List Bs:=Lib.compact (PK (CZ y l))
def dK(p:Bs×Bool×List Bs):List D:=[.str p.1,.slice p.2.1 [] (An p.2.2)]
theorem uR{a b:List Bs}(h:An a=An b):a=b:=by
 unfold An at h;exact List.map_inj_right (λx y e=>by cases e;rfl) |>.1 h
def vQ(x y)(h:dK x=dK y):x=y:=by
 grind [dK,uR]
def Fc:List D->Option D:=FX dK (λp=>p.2.2.length<=1000∧∀s∈p.2.2,s.length<=1000000) λp=> .slice (decide (CZ p.1 p.2.2=[])) [] (An (NC p.1 p.2.2))
def aJ2{y:Bs}{nl:Bool}{l:List Bs}(h:l.length<=1000)(j:∀s∈l,s.length<=1000000):Fc [.str y,.slice nl [] (An l)]=some (.slice (decide (CZ y l=[])) [] (An (NC y l))):=
 Bl (mk:=dK) (a:=(y,nl,l)) vQ ⟨h,j⟩
def aLt:Kq Fc 134:=by
 refine N0 ⟨_,func134,Xa,Xa⟩ λds r hF vs w G z f o=>⟨?_,?_⟩
 ·obtain⟨p,_,_,rfl⟩:=C6 hF;rfl
 ·obtain⟨⟨y,nl,l⟩,⟨ka,m⟩,rfl,rfl⟩:=C6 hF;simp only at ka m
  match vs,z with
  |[v0,v1],_=>
   have q:=(f 0 _ v0 rfl rfl).str_inv;subst q;obtain⟨ao,c,rfl,d⟩:=jD (f 1 _ v1 rfl rfl);refine(aZJ w y l ao c ka d (λs a w=>?_)).mono ?_
   ·refine(Lv aWY (aJf s y (m s a) (Uh s y)) rfl w).mono ?_;rintro e n ⟨v,x,rfl,i,hR⟩;refine⟨?_,i⟩;obtain⟨us,rfl,va,k⟩:=hR.tup_inv
    match us,va with
    |[u0,u1],_=>
     rw[(k 0 _ u0 rfl rfl).str_inv,(k 1 _ u1 rfl rfl).bool_inv]
   ·rintro e n ⟨v,rfl,i,⟨rfl,j⟩|⟨j,g,cap,rfl,ab,t,u⟩⟩
    ·refine⟨_,G,rfl,i,λb h=>o b (Ze i.size h),λ_ _=>rfl,?_⟩;have e:NC y l=[]:=by unfold NC PK;rw[j,List.mergeSort_nil];rfl
     rw[e,decide_eq_true j];exact .nils _
    ·refine⟨_,λb=>if b<w.heap.size then G b else if b=g then(NC y l).length else 0,rfl,i,λb h=>?_,λb h=>if_pos h,?_⟩
     ·grind
     ·rw[decide_eq_false j];exact Sg u (by simp only[Gh.base];rw[if_neg O,if_pos trivial];exact Qs _)
def Dg(l:List Tk)(s:Bs):List Bs:=PK (EN l l.length s)
def Ux(p:Bool×List Tk×Bs):List D:=[.agg [.slice p.1 [] (Ay p.2.1)],.str p.2.2]
def Uw(x y)(h:Ux x=Ux y):x=y:=by
 grind [Ux,Hg]
def Lt(p:Bool×List Tk×Bs):D:=if A0 p.2.1 p.2.2=false then .tup [.agg [.slice p.1 [] (Ay p.2.1)],.slice true [] (An []),.int .i64 6]
 else .tup [.agg [.slice (decide (EC p.2.1 (Dg p.2.1 p.2.2)=[])) [] (Ay (EC p.2.1 (Dg p.2.1 p.2.2)))],.slice false [] (An (Dg p.2.1 p.2.2)),.int .i64 0]
def EP:List D->Option D:=FX Ux (λp=>p.2.1.length<=900∧∃r,I_ p.2.1 r) Lt
def aJ3{nl:Bool}{l:List Tk}{s:Bs}{r:Bs->Nat}(h:l.length<=900)(y:I_ l r)(k:A0 l s=false):EP [.agg [.slice nl [] (Ay l)],.str s]=some (.tup [.agg [.slice nl [] (Ay l)],.slice true [] (An []),.int .i64 6]):=by
 have:=Bl (mk:=Ux) (ok:=λp=>p.2.1.length<=900∧∃r,I_ p.2.1 r) (res:=Lt) (a:=(nl,l,s)) Uw ⟨h,r,y⟩;rw[show Lt (nl,l,s)=_ from if_pos k]at this;exact this
def aEV{nl:Bool}{l:List Tk}{s:Bs}{r:Bs->Nat}(h:l.length<=900)(y:I_ l r)(k:A0 l s=true):EP [.agg [.slice nl [] (Ay l)],.str s]=some (.tup [.agg [.slice (decide (EC l (Dg l s)=[])) [] (Ay (EC l (Dg l s)))],.slice false [] (An (Dg l s)),.int .i64 0]):=by
 have:=Bl (mk:=Ux) (ok:=λp=>p.2.1.length<=900∧∃r,I_ p.2.1 r) (res:=Lt) (a:=(nl,l,s)) Uw ⟨h,r,y⟩;rw[show Lt (nl,l,s)=_ from if_neg (by rw[k];decide)]at this;exact this
def aLu:Kq EP 131:=by
 refine N0 ⟨_,func131,Xa,Xa⟩ λds r hF vs w G q da ja=>⟨?_,?_⟩
 ·obtain⟨p,_,_,rfl⟩:=C6 hF;unfold Lt;split<;>rfl
 ·obtain⟨⟨nl,l,s⟩,⟨ka,rk,hT⟩,rfl,rfl⟩:=C6 hF;simp only at ka hT
  match vs,q with
  |[v0,v1],_=>
   have e1:=(da 1 _ v1 rfl rfl).str_inv;subst e1;have ua:=da 0 _ v0 rfl rfl;obtain⟨us,rfl,va,m,hu⟩:=aG ua
   match us,va with
   |[u0],_=>
    have na:=hu 0 _ u0 rfl rfl;obtain⟨ao,c,rfl,ra⟩:=uO na;have z:∀wx,Below w.heap.size w wx->Calls Qq 93 #[.agg #[.slice ao l.length c],encStr s] wx λe w'=>e= .returned (.tuple #[.int .i64 (I3 l s:Int),.bool (A0 l s)])∧Below wx.heap.size wx w':=λwx hb=>by
     refine(Ho (vs:=[.agg #[.slice ao l.length c],encStr s]) (G:=G) aBE (Pf (nl:=nl) (t:=[]) (l:=l) (s:=s) O) rfl rfl rfl (λj d v u hv=>?_) (λb h=>ja b (Ze hb.size h))).mono ?_
     ·match j,u,hv with
      |0,u,hv=>cases u;cases hv;exact EI ua rfl ja hb (λ_ _=>Qs _)
      |1,u,hv=>cases u;cases hv;exact .str _
     ·rintro e w' ⟨v,g',rfl,sa,hR⟩;refine⟨?_,sa⟩;obtain⟨us,rfl,va,hu⟩:=hR.tup_inv
      match us,va with
      |[u0,u1],_=>rw[(hu 0 _ u0 rfl rfl).int_inv,(hu 1 _ u1 rfl rfl).bool_inv]
    cases hf:A0 l s with
    |false=>
     rw[hf]at z;refine(aTF w l ao c s _ z).mono ?_;rintro e w' ⟨rfl,hb⟩;refine⟨_,G,rfl,hb,λb h=>ja b (Ze hb.size h),λ_ _=>rfl,?_⟩;rw[show Lt (nl,l,s)=_ from if_pos hf];refine .tup _ [_,_,_] rfl (λj d v u hv=>?_)
     match j,u,hv with
     |0,u,hv=>cases u;cases hv;exact EI ua rfl ja hb (λ_ _=>Qs _)
     |1,u,hv=>cases u;cases hv;exact .nils _
     |2,u,hv=>cases u;cases hv;exact .int _ _
    |true=>
     rw[hf]at z;have fa:∀(wx:World)(v:Value)(ys:List Bs)(n:Bs),wx.ownsRow w.heap.size 9 1 v ys.length (ys.map encStr)->ys≠[]->ys.length<=1000->(v= .slice none 0 0↔ys=[])->Calls Qq 236 #[v,encStr n] wx λe w'=>e= .returned (.bool (LR ys n))∧Below wx.heap.size wx w':=λwx v ys n ho ma ta x=>by
      obtain⟨g,cap,rfl,ab,za,_⟩:=Lib.holds_of_ownsRow ho (λe=>ma (x.1 e));refine(Ho (vs:=[.slice (some ⟨g,0,none⟩) ys.length cap,encStr n]) (G:=λb=>if b=g then ys.length else 0) aWZ (aJg (nl:=false) (l:=ys) n O) rfl rfl rfl (λj d v u hv=>?_) (λb h=>if_neg O)).mono ?_
      ·match j,u,hv with
       |0,u,hv=>cases u;cases hv;exact Sg ho (by simp[Gh.base])
       |1,u,hv=>cases u;cases hv;exact .str _
      ·rintro e w' ⟨v,g',rfl,sa,hR⟩;exact⟨by rw[hR.bool_inv],sa⟩
     refine(aTE w G l ao c s _ rk ka ra hT z fa).mono ?_;rintro e w' ⟨gv,lv,ps,rfl,hb,f,y,a,o,qa,k⟩;have ea:(Dg l s).length=(EN l l.length s).length:=QS _;rw[←ea]at f;obtain⟨gb,cap,rfl,ab,za,_⟩:=Lib.holds_of_ownsRow f y;have aa:=a.lt;rw[show Lt (nl,l,s)=_ from if_neg (show ¬A0 l s=false by rw[hf];decide)];have ma:lv.ownBlock≠some gb:=λe=>by
      rcases f.2 with ⟨h0,_⟩|⟨g',ga,cur,hv,_,hh,_⟩
      ·cases h0
      ·grind [DO]
     have pa:=hb.size
     let G':Nat->Nat:=λb=>if b<w.heap.size then G b else if b=gb then(Dg l s).length else if some b=lv.ownBlock then ps.length*3 else 0
     have ia:∀b,b<w.heap.size->G' b=G b:=λb h=>if_pos h
     refine⟨_,G',rfl,hb,λb h=>?_,ia,?_⟩
     ·grind
     ·refine .tup _ [_,_,_] rfl (λj d v u hv=>?_)
      match j,u,hv with
      |0,u,hv=>
       cases u;cases hv;refine .agg _ [lv] rfl (λv hv=>?_) (λj d v u hv=>?_)
       ·rw[QT.1 hv];rcases a.2 with ⟨h,_⟩|⟨_,_,_,h,_⟩<;>rw[h]<;>rfl
       ·match j,u,hv with
        |0,u,hv=>
         cases u;cases hv;have:=aGw (g:=Gh.base G') a o (λp hp=>EI (k p hp) rfl ja hb (λb h=>Nat.le_of_eq (ia b h).symm)) (λb i=>by
          show _<=(if _ then _ else _);rw[if_neg (by have:=(aa b i).1;omega),if_neg (λe=>ma (by rw[i,e])),if_pos i.symm];exact Qs _)
         rw[qa]at this;exact this
      |1,u,hv=>
       cases u;cases hv;exact Sg f (by
        show _<=(if _ then _ else _);rw[if_neg O,if_pos rfl];exact Qs _)
      |2,u,hv=>cases u;cases hv;exact .int _ _
end Go.Vd
namespace Go.Vd
open Go.Proofs Go.RowKit
theorem Mg{s:Bs}(h:Bf s=0):s.length<=64:=by
 grind [Bf]
def aT0{y:Ry}(h:MD y=0):IY y≠[]:=by
 unfold IY;rw[if_pos h];intro e;have q:=aA2 y;cases y<;>simp[Nc,spJ,Lib.join]at e<;>(try split at e)<;>simp[]at e
def Gr(s:Bs):Prop:=∃y,MD y=0∧ryN y∧s=IY y
def Gr.ne{s:Bs}:Gr s->s≠[]:=λ⟨y,h,_,e⟩=>by rw[e];exact aT0 h
def bM(s:Bs):Prop:=∀c∈s,c≠32∧c≠44
def fJ{s:Bs}(h:∀j,j<s.length->at' s j≠32∧at' s j≠44):bM s:=λc k=>by
 obtain⟨j,y,rfl⟩:=Q4 k;have:=h j y;unfold at' at this;rw[Q1,Qo y]at this;simp only[Q_]at this;exact⟨λe=>by rw[e]at this;exact this.1 rfl,λe=>by rw[e]at this;exact this.2 rfl⟩
theorem xY{s:Bs}(h:bM s):MY s 32=false∧MY s 44=false:=by
 constructor<;>(unfold MY;rw[Zx];intro c k;simp only[beq_iff_eq])
 ·exact(h c k).1
 ·exact(h c k).2
def jZ{s:Bs}(h:bM s)(u:s≠[])(q:s≠[45])(o:s.length<=64):Tr s=true:=by
 grind [Tr,xY]
def kF{s:Bs}{i:Nat}(hi:i<s.length)(h:D4 (Dq s i).1=true):1<=(Dq s i).2∧∀j,i<=j->j<i+(Dq s i).2->at' s j≠32∧at' s j≠44:=by
 grind [L4,D8,Dq,D4]
def Pj{s:Bs}:∀(f p n:Nat),s.length<=p+f->D_ s f p n≠4->∀j,p<=j->j<s.length->at' s j≠32∧at' s j≠44
 |0,p,n,hf,h,j,h1,h2=>O
 |f+1,p,n,hf,h,j,h1,h2=>by
  unfold D_ at h;rw[if_pos O]at h;split at h
  ·rename_i o;obtain⟨l,k⟩:=kF O o;by_cases y:j<p+(Dq s p).2
   ·exact k j h1 y
   ·exact Pj f _ _ O h j O h2
  ·exact absurd rfl h
def jU{s:Bs}(h:Fp s=0):bM s∧s≠[]∧s≠[45]:=by
 unfold Fp at h;split at h
 ·cases h
 ·rename_i u;exact⟨fJ λj y=>Pj s.length 0 0 O (by rw[h];decide) j (Qz _) y,λe=>u (.inl e),λe=>u (.inr (.inr (.inr e)))⟩
theorem grade_parts:∀{l:List Bs} {w:Bool},EL w l=some false->∀p∈l,Fp p=0
 |[],w,h,p,hp=>by cases hp
 |x::r,w,h,p,hp=>by
  unfold EL at h;split at h
  ·cases h
  ·rename_i u;have m:∀{w:Bool} {l:List Bs},EL w l=some false->w=false:=by
    intro w l;induction l generalizing w with
    |nil=>intro h;simpa[EL]using h
    |cons y t ih=>
     intro h;unfold EL at h;split at h
     ·cases h
     ·grind
   rcases Q9.1 hp with rfl|hp
   ·grind [Lz]
   ·exact grade_parts h p hp
def cU{s:Bs}(h:Bf s=0):∀p∈splitC 47 s,Fp p=0:=by
 grind [Bf,H1,grade_parts]
def TW:∀(a b:Bs),splitC 47 (a++47::b)=splitC 47 a++splitC 47 b
 |[],b=>by
  show splitC 47 (47::b)=_
  conv=>lhs;unfold splitC
  rfl
 |c::r,b=>by
  have ih:=TW r b;show splitC 47 (c::(r++47::b))=_
  conv=>lhs;unfold splitC
  conv=>rhs;arg 1;unfold splitC
  rw[ih];split
  ·rfl
  ·grind [splitC,uT]
def TX:∀(s:Bs),∃t,splitC 47 s=(CF s 47).1::t∧((CF s 47).2.2=true->(CF s 47).1.length+1<=s.length)∧((CF s 47).2.2=false->(CF s 47).1=s)
 |[]=>⟨[],rfl,λh=>by simp[CF,Lib.indexByte]at h,λ_=>rfl⟩
 |c::r=>by
  obtain⟨t,u,f,o⟩:=TX r;by_cases k:c=47
  ·subst k;have e:Lib.indexByte (47::r) 47=0:=by unfold Lib.indexByte;simp
   refine⟨splitC 47 r,?_,?_,?_⟩
   ·simp_all [CF,splitC]
   ·grind [CF]
   ·grind [CF]
  ·have z:(c==47)=false:=by simpa using k
   unfold splitC;rw[if_neg k,u];refine⟨t,?_⟩;have e:Lib.indexByte (c::r) 47=if Lib.indexByte r 47==-1 then-1 else Lib.indexByte r 47+1:=by
    conv=>lhs;unfold Lib.indexByte
    rw[z];rfl
   rcases lA r 47 with e1|⟨e1,e2⟩
   ·have e3:CF r 47=(r,[],false):=by unfold CF;rw[e1];rfl
    have e4:CF (c::r) 47=(c::r,[],false):=by unfold CF;rw[e,e1];rfl
    rw[e3,e4];exact⟨rfl,λh=>Xd,λ_=>rfl⟩
   ·have v:(Lib.indexByte r 47==-1)=false:=by rw[beq_eq_false_iff_ne];omega
    have e5:Lib.indexByte (c::r) 47=Lib.indexByte r 47+1:=by rw[e,v];rfl
    generalize b:Lib.indexByte r 47=q at *;have e6:(q+1).toNat=q.toNat+1:=O
    have e3:CF r 47=(r.take q.toNat,r.drop (q.toNat+1),true):=by unfold CF;rw[b,if_neg O]
    have e4:CF (c::r) 47=(c::r.take q.toNat,r.drop (q.toNat+1),true):=by unfold CF;rw[e5,if_neg O,e6];rfl
    rw[e3,e4];refine⟨rfl,λ_=>?_,λh=>Xd⟩;simp only[Qr,QZ];omega
def yW{s y:Bs}(h:Bu s y=true):Dp s y=s∨s=y++47::Dp s y:=by
 unfold Bu at h;unfold Dp;by_cases d:y=[]
 ·simp_all
 ·rw[if_neg d]at h ⊢;rw[QD]at h;rw[if_pos h.1,if_pos h.2];right;have u:s.take y.length=y:=by simpa[B7]using h.1
  have q:(s.drop y.length).take 1=[47]:=by simpa[B7]using h.2
  have e1:s=y++s.drop y.length:=by
   conv=>lhs;rw[←Za y.length s,u]
  have e2:s.drop y.length=47::(s.drop y.length).drop 1:=by
   conv=>lhs;rw[←Za 1 (s.drop y.length),q]
   rfl
  conv=>lhs;rw[e1,e2]
theorem mS{s y:Bs}(q:Bf s=0)(h:(BO s y).2=true):Tr (BO s y).1=true:=by
 have p:=Mg q;have g:=cU q;have i:Bu s y=true:=by
  grind [BO]
 have z:=yW i;have w:=Uh s y;obtain⟨t,e1,e2,e3⟩:=TX (Dp s y);have n:(CF (Dp s y) 47).1∈splitC 47 s:=by
  rcases z with e|e
  ·simp_all
  ·rw[e,TW,←e,e1];exact List.mem_append_right _ (Qy ..)
 obtain⟨j,c2,v⟩:=jU (g _ n);unfold BO;rw[if_neg (by rw[i];decide)];split
 ·rename_i u;have:=e2 u;refine jZ (λc k=>?_) U (λe=>?_) Xc
  ·rcases Zj.1 k with h|h
   ·exact j c h
   ·simp_all
  ·have:=congrArg ZZ e;simp at this
 ·rename_i u;have:=e3 Xx;rw[this]at j c2 v;exact jZ j c2 v (show(Dp s y).length<=64 by omega)
def Sl{s:Bs}:∀(f p:Nat),s.length<=p+f->Gz s f p=true->∀j,p<=j->j<s.length->DP (at' s j)=true
 |0,p,hf,h,j,h1,h2=>O
 |f+1,p,hf,h,j,h1,h2=>by
  unfold Gz at h;rw[if_pos O,QD]at h;by_cases e:j=p
  ·rw[e];exact h.1
  ·exact Sl f (p+1) O h.2 j O h2
def aGI{s:Bs}(h:BV s=true):Tr s=true:=by
 unfold BV at h;simp only[QD,decide_eq_true_eq]at h;have k:∀j,j<s.length->DP (at' s j)=true:=λj y=>Sl s.length 0 O h.2 j (Qz _) y
 have i:∀j,j<s.length->at' s j≠32∧at' s j≠44∧at' s j≠45:=λj y=>by
  have:=k j y;unfold DP at this;simp only[ZF,decide_eq_true_eq]at this;omega
 refine jZ (fJ λj y=>⟨(i j y).1,(i j y).2.1⟩) (λe=>by rw[e]at h;simp at h) (λe=>?_) O;have:=(i 0 O).2.2;rw[e]at this;exact this rfl
def fH{zs:List Bs}{x:Bs}(h:x∈Lib.compact zs):x∈zs:=by
 unfold Lib.compact Lib.compactUpTo at h;obtain⟨j,y,rfl⟩:=QN.1 h;have u:=Zo.1 (List.mem_filter.1 y).1;rw[getElem!_pos _ _ Xx];simp
def pI{l:List Bs}{x:Bs}(h:x∈PK l):x∈l:=(List.mergeSort_perm l _).mem_iff.1 h
theorem aRs{y:Bs}{l:List Bs}{x:Bs}(h:x∈NC y l):∃s∈l,(BO s y).2=true∧(BO s y).1=x:=by
 have:=pI (fH h);unfold CZ at this;obtain⟨s,j,e⟩:=List.mem_filterMap.1 this;split at e
 ·simp_all
 ·cases e
def aRt(y:Bs)(l:List Bs):(NC y l).length<=l.length:=by
 unfold NC;refine Ze (Lib.compact_length_le _) ?_;unfold PK;rw[QS];exact Zh _ _
theorem Pr{l:List Bs}{s:Bs}(h:s∈A1 l):Bf s=0:=by
 grind [A1,B4,Cm]
def vJ(l:List Bs):(A1 l).length<=l.length:=Zh _ _
def fL(y:Bs)(l:List Bs):(((NC y (A1 l)).take 64).any λs=>!Tr s)=false:=by
 grind [aRs,mS,Pr]
def wP(l:List Bs):0<=H1 l∧H1 l<=99:=by
 grind [H1]
def Mh(s:Bs):0<=Bf s∧Bf s<=99:=by
 unfold Bf;split
 ·decide
 ·exact wP _
def aC4(b:Bool):0<=GD b∧GD b<=99:=by cases b<;>decide
def aA7(r:Rl)(l:List Rl):0<=Hi r l∧Hi r l<=99:=by
 unfold Hi;have:=Mh r.1
 repeat' split
 all_goals omega
def Ud(l:List Rl):∀f j,0<=DN l f j∧DN l f j<=99
 |0,j=>by unfold DN;decide
 |f+1,j=>by
  unfold DN;have:=aA7 (BL l j) (l.take j);have:=Ud l f (j+1)
  repeat' split
  all_goals omega
def pV(l:List Rl):0<=CT l∧CT l<=99:=by
 unfold CT;have:=Ud l l.length 0;split<;>omega
def xB(a:Ak)(c:Int):0<=BI a c∧BI a c<=99:=by
 unfold BI;have:=Mh a.pa;have:=Mh a.ot;have:=pV a.rs
 repeat' split
 all_goals first|exact aC4 _|omega
def sA(a:Ak):∀(l:Bs)(b:Ak),0<=(FB a b l).1∧(FB a b l).1<=99
 |[],b=>by unfold FB;simp
 |c::r,b=>by
  unfold FB;have:=xB a (c.toNat:Int);have:=sA a r (Bk b (c.toNat:Int));split<;>omega
def xZ(a:Ak):0<=Cc a∧Cc a<=99:=by
 unfold Cc;have:=sA a (B8 a.op) (Et a)
 repeat' split
 all_goals omega
def aGt(v:Vw)(a:Ak):0<=HV v a∧HV v a<=99:=by
 unfold HV;have:=xZ a
 repeat' split
 all_goals omega
def mT{v:Vw}{a:Ak}(h:HV v a=0):Cc a=0:=by
 grind [HV]
def aT9{a:Ak}(h:Cc a=0)(r:0<=a.op):1<=a.op∧a.op<=18:=by
 have k:DK a.op≠[]:=λe=>by unfold Cc at h;rw[if_pos e]at h;cases h
 unfold DK at k;have u:a.op.toNat<19:=by
  rcases ZM a.op.toNat 19 with h|h
  ·exact h
  ·simp_all [Fr]
 have q:a.op.toNat≠0:=λe=>by rw[e]at k;exact k rfl
 omega
def aFY(n p:Bs)(l:List Rl):0<=GR n p l∧GR n p l<=99:=by
 unfold GR;have:=pV l
 repeat' split
 all_goals omega
def uN{n p:Bs}{l:List Rl}(h:GR n p l=0):BV n=true:=by
 grind [GR]
def dM(l:List Tk)(k:Tk):((∃t,De l k=(some t,0))∧GR k.1 k.2.1 k.2.2.2=0∧k.2.1≠[]∧A0 l k.1=false∧A0 l k.2.1=true∧(De l k).1=some (DI l k))∨((De l k).1=none∧1<=(De l k).2∧(De l k).2<=99):=by
 unfold De;have h:=aFY k.1 k.2.1 k.2.2.2;by_cases u:GR k.1 k.2.1 k.2.2.2≠0
 ·rw[if_pos u];exact .inr ⟨rfl,Xb⟩
 rw[if_neg u];by_cases q:k.2.1=[]
 ·rw[if_pos q];exact .inr ⟨rfl,Z,Z⟩
 rw[if_neg q];by_cases o:A0 l k.1=true
 ·rw[if_pos o];exact .inr ⟨rfl,Z,Z⟩
 rw[if_neg o];by_cases b:A0 l k.2.1=false
 ·rw[if_pos b];exact .inr ⟨rfl,Z,Z⟩
 rw[if_neg b];by_cases m:DZ k.2.2.2 (AS l (I3 l k.2.1)).2.2.2=false
 ·rw[if_pos m];exact .inr ⟨rfl,Z,Z⟩
 rw[if_neg m];exact .inl ⟨⟨_,rfl⟩,Decidable.not_not.1 u,q,Xy,XT,rfl⟩
structure iB (l:List Tk):Prop where
 sort:CR l
 tree:∃r,I_ l r∧r []=0
 name:∀k∈l,BV k.1=true
 par:∀k∈l,k.2.1=[]∨∃u∈l,u.1=k.2.1
def uU{l:List Tk}(h:CR l):l.Pairwise λt u=>t.1≠u.1:=by
 rw[List.pairwise_iff_getElem];intro i j hi y v e;have:=h i j v y;unfold AS at this;rw[Q1,Q1,Qo hi,Qo y]at this;simp only[Q_]at this;rw[e,GZ]at this;cases this
def OT{l:List Tk}{s:Bs}(h:A0 l s=true):∃k∈l,k.1=s:=by
 grind [A0,O0,Ln]
def aCU{l:List Tk}{s:Bs}(m:CR l)(h:A0 l s=false):∀k∈l,k.1≠s:=λk g e=>by
 obtain⟨j,y,rfl⟩:=Q4 g;have:=(LV m y).2;unfold AS at this;rw[Q1,Qo y]at this;simp only[Q_]at this;rw[e,h]at this;cases this
def qJ{s:Bs}(h:BV s=true):s≠[]:=λe=>by rw[e]at h;cases h
def ES{l:List Tk}{k x:Tk}:x∈DI l k↔x∈l∨x=k:=by
 unfold DI;rw[Zj,Q9];constructor
 ·grind
 ·rintro(h|h)
  ·rw[←Za (I3 l k.1) l,Zj]at h;rcases h with h|h
   ·exact .inl h
   ·exact .inr (.inr h)
  ·exact .inr (.inl h)
theorem bR(l:List Tk)(k:Tk):(DI l k).length=l.length+1:=by
 grind [DI]
theorem aCD{l:List Tk}{k:Tk}(h:iB l)(q:GR k.1 k.2.1 k.2.2.2=0)(f:A0 l k.1=false)(o:A0 l k.2.1=true):iB (DI l k):=by
 obtain⟨r,y,z⟩:=h.tree;have c:=uN q;have j:CR (DI l k):=OD h.sort f;have n:=aCU h.sort f;obtain⟨u,m,a⟩:=OT o;have b:k.2.1≠k.1:=λe=>n u m (a.trans e)
 refine⟨j,⟨λs=>if s=k.1 then l.length+1 else r s,⟨λt ht=>?_,λt ht=>?_,uU j⟩,?_⟩,λt ht=>?_,λt ht=>?_⟩
 ·rcases ES.1 ht with ht|rfl
  ·have e1:t.1≠k.1:=n t ht;have e2:t.2.1≠k.1:=λe=>by
    rcases h.par t ht with e3|⟨x,p,e3⟩
    ·simp_all [qJ,e3]
    ·exact n x p (e3.trans e)
   simp only[if_neg e1,if_neg e2];exact y.up t ht
  ·simp only[if_neg b,if_true];have:=y.top u m;rw[a]at this;omega
 ·rw[bR];rcases ES.1 ht with ht|rfl
  ·simp only[if_neg (n t ht)];have:=y.top t ht;omega
  ·simp
 ·simp_all [Bs,qJ]
 ·rcases ES.1 ht with ht|rfl
  ·exact h.name t ht
  ·exact c
 ·rcases ES.1 ht with ht|rfl
  ·rcases h.par t ht with e|⟨x,p,e⟩
   ·exact .inl e
   ·exact .inr ⟨x,ES.2 (.inl p),e⟩
  ·exact .inr ⟨u,ES.2 (.inl m),a⟩
def wD:iB [Io]:=by
 refine⟨λi j u q=>by simp at q;omega,⟨λs=>if s=[]then 0 else 1,⟨λt d=>?_,λt d=>?_,List.pairwise_singleton _ _⟩,rfl⟩,λt d=>?_,λt d=>?_⟩
 ·rw[QT.1 d];decide
 ·grind
 ·rw[QT.1 d];decide
 ·rw[QT.1 d];exact .inl rfl
def dY:∀(e:List Tk)(s:Bool×List Tk),iB s.2->s.1=false->iB (e.foldl Bx s).2∧(e.foldl Bx s).1=false∧(e.foldl Bx s).2.length<=s.2.length+e.length
 |[],s,h,h0=>⟨h,h0,Qs _⟩
 |k::e,s,h,h0=>by
  rw[QM];have d:iB (Bx s k).2∧(Bx s k).1=false∧(Bx s k).2.length<=s.2.length+1:=by
   unfold Bx;rcases dM s.2 (DB k)with ⟨_,u,_,q,o,n⟩|⟨u,_⟩
   ·grind [aCD,bR]
   ·simp_all
  obtain⟨a,b,c⟩:=dY e _ d.1 d.2.1;exact⟨a,b,by rw[Qr];omega⟩
def w8{x:Int}(r:0<=x)(u:x<256):IntKind.u8.wrap x=x:=by show x % 256=x;omega
def opV(x:Op1):Prop:=x.2.1.length<=100∧x.2.2.length<=900∧((x.1=1∧x.2.1≠[])∨(x.1=2∧x.2.1≠[]∧x.2.2=[])∨(x.1=3∧x.2.2=[]))
def opK(x:Op1):Prop:=opV x∧(x.1≠3->Cm (A3 x.2.1).1 (A3 x.2.1).2.1 (A3 x.2.1).2.2=0)
theorem SG(p s:Bs):B7 (p++s) p=true:=by simp[B7]
def jK{s:Bs}(h:Bf s=0):1<=s.length:=by
 cases s with
 |nil=>exact absurd h Z
 |cons c s=>simp
def UM{k n:Int}{name:Bs}(h:Cm k name n=0):A3 (AO k name n)=(k,name,n):=by
 unfold AO;rw[if_neg (λe=>e h)];unfold Cm at h;by_cases u:k=1
 ·grind [A3,SG]
 rw[if_neg u]at h ⊢;by_cases q:k=2
 ·subst q;rw[if_pos rfl]at h;split at h
  ·rename_i c;obtain⟨n1,n2,y⟩:=c;have w:=jK y;rw[if_pos rfl];have m:(IntKind.u8.wrap n).toNat=n.toNat:=by
    have:IntKind.u8.wrap n=n:=by show n % 256=n;omega
    rw[this]
   rw[m];have g:([100,47]++name++[0,UInt8.ofNat n.toNat]).drop 2=name++[0,UInt8.ofNat n.toNat]:=U
   have p:(name++[0,UInt8.ofNat n.toNat]).length=name.length+2:=U
   unfold A3;have e1:(name++[0,UInt8.ofNat n.toNat]).take (name.length+2-2)=name:=U
   have e2:(name++[0,UInt8.ofNat n.toNat]).getD (name.length+2-1) 0=UInt8.ofNat n.toNat:=by simp[QK]
   have e4:(name++[0,UInt8.ofNat n.toNat]).getD (name.length+2-2) 0=0:=by simp[QK]
   have e3:(((UInt8.ofNat n.toNat).toNat:Nat):Int)=n:=by
    rw[UInt8.toNat_ofNat'];omega
   rw[g,p,if_neg U,if_neg U,if_neg (by simp[B7]),if_neg (by simp[B7]),if_pos ⟨by rw[QQ];exact SG _ _,O,e4⟩,e1,e2,e3]
  ·cases h
 rw[if_neg q]at h ⊢;by_cases o:k=3
 ·simp_all [A3,B7,SG]
 rw[if_neg o]at h ⊢;split at h
 ·rename_i la;split at h
  ·rename_i c;obtain⟨rfl,rfl⟩:=c;rcases la with rfl|rfl
   ·rfl
   ·rfl
  ·cases h
 ·cases h
structure bBA (l:List Op1):Prop where
 n:l.length<=40
 ok:∀x∈l,opK x
def aH8{l u:List Mt}{m:Mt}(e:(FD l m).1=some u):Bf m.1=0∧l.length<4:=by
 grind [FD,DQ]
def Uc{l:List Rl}:∀f j,DN l f j=0->∀i,j<=i->i<j+f->i<l.length->Hi (BL l i) (l.take i)=0
 |0,j,_,i,h1,h2,_=>O
 |f+1,j,h,i,h1,h2,hi=>by
  unfold DN at h;rw[if_pos O]at h;split at h
  ·omega
  ·rename_i k;rcases Nat.eq_or_lt_of_le h1 with rfl|h1
   ·exact Decidable.not_not.1 k
   ·exact Uc f (j+1) h i O O hi
def aBq{l:List Rl}(h:CT l=0):∀r∈l,r.1.length<=64:=λr y=>by
 unfold CT at h;split at h
 ·cases h
 ·obtain⟨i,hi,rfl⟩:=Q4 y;have q:=Uc l.length 0 h i (Qz _) O hi;have e:BL l i=l[i]:=by simp[BL,Qo hi]
  rw[e]at q;unfold Hi at q;split at q
  ·omega
  ·grind [Bf,Mg]
def vC{l:List Rl}(h:CT l=0):(BW (BD l)).length<=300:=by
 have b:=(Mk h).1;have g:=aBq h;have j:Cg (BD l)<=71*(BD l).length:=HH λx p=>by
  obtain⟨r,y,rfl⟩:=QN.1 p;have:=g r y;have:=Ds r.2.toNat;simp only[FM,QO,Qr,QC];omega
 have:=EK (BD l);rw[CA]at *;omega
def gJ{l u:List Mt}{m:Mt}(h:GN l)(e:(FD l m).1=some u):∀x∈u,x∈l∨x=m:=by
 grind [O6,Gf]
def Ta(l:List Mt)(m:Mt):(∃t,(FD l m).1=some t∧(FD l m).2=0∧t.length=l.length+1)∨((FD l m).1=none∧1<=(FD l m).2∧(FD l m).2<=99):=by
 unfold FD;have h:=Mh m.1;by_cases u:DQ m.1 m.2.1≠0
 ·grind [DQ]
 rw[if_neg u];by_cases q:0<=Bh l m.1
 ·simp_all
 rw[if_neg q];by_cases o:FU m.1 (l.map (·.1))=true
 ·simp_all
 rw[if_neg o];by_cases b:4<=l.length
 ·simp_all
 rw[if_neg b];exact .inl ⟨_,rfl,rfl,by rw[HY,QO];rfl⟩
structure PH (v:Vw):Prop where
 ok:IG v
 inv:iB v.ks
 srt:GN v.ms
 nlm:v.nlm=true->v.ms=[]
 te:1<=v.te∧v.te<=6
 kl:v.ks.length<=39
 ml:v.ms.length<=4
 mr:∀m∈v.ms,m.1.length<=64
structure aAm (a:Ak):Prop where
 ok:ID a
 cap:Eh a.rs
 nlr:a.nlr=true->a.rs=[]
structure NG (k:Kn):Prop where
 es:k.es.length<=20
 ls:k.ls.length<=20
 et:∀x∈k.es,x.2.1.length<=400
 lt:∀x∈k.ls,x.2.2.length<=1000∧∀s∈x.2.2,s.length<=1000000
def BJ(v:Vw)(e:Int):Oc:=⟨[],false,IY (.fail e),true,[],v⟩
def DW(v:Vw)(q:Bs)(b:Bool):Oc:=⟨q,b,[],true,[],v⟩
def aZt(v:Vw)(a:Ak)(o:Oc):Prop:=
 ∃y,MD y=0∧ryN y∧o.rep=IY y∧(((∃e,y= .fail e)∧o.ops=[]∧o.vw=v)∨((∀e,y≠ .fail e)∧((L9 a.op=false∧o.ops=[]∧∃b,o.vw={v with se:=b})∨(L9 a.op=true∧o.ops≠[]∧bBA o.ops))))
structure aZB (v:Vw) (a:Ak) (dec:Kn->Oc):Prop where
 run:∀k,NG k->WX EP Fc [IJ v,IB a,.agg (IQ k)]=some (.agg (IA (dec k)))
 rep:∀k,NG k->(dec k).need=[]->aZt v a (dec k)
 nd:∀k,NG k->(dec k).need≠[]->∃q li,dec k=DW v q li
def aCS{v:Vw}{a:Ak}{o:Oc}(y:Ry)(h:MD y=0)(f:ryN y)(q:o.rep=IY y)(d:∀e,y≠ .fail e)(l:L9 a.op=false)(r:o.ops=[])(b:Bool)(t:o.vw={v with se:=b}):aZt v a o:=
 ⟨y,h,f,q,.inr ⟨d,.inl ⟨l,r,b,t⟩⟩⟩
def aTC{op:Int}(h:op=1∨op=2∨op=3∨op=9∨op=14∨op=17):L9 op=false:=decide_eq_false O
def aBW{s:Bs}(h:BV s=true):s.length<=8:=by
 grind [BV]
def Lg(v:Vw):iR (Ix v):=⟨rfl,rfl⟩
def uH(v:Vw)(a:Ak)(k:Kn){e:Int}(x:1<=e∧e<=99):PG ⟨v,a,k⟩ (Ix v) [.int .i64 e]=some (.tup [],BJ v e,none):=nU ⟨v,a,k⟩ (Ix v) e (Lg v) x
theorem Mq{k:Kn}(h:NG k)(q:Bs):(DX k q).1.length<=400:=by
 unfold DX;split
 ·decide
 ·rename_i f;have:=(LO (Em k) q).2;unfold Em at this f;rw[Qx]at this;simp only[QK,Em];rw[Qo O];exact h.et _ (QB O)
def aQv{k:Kn}(h:NG k)(q:Bs):(MF k q).2.1.length<=1000∧∀s∈(MF k q).2.1,s.length<=1000000:=by
 unfold MF;split
 ·simp_all
 ·rename_i f;have:=(LO (k.ls.map (·.1)) q).2;rw[Qx]at this;simp only[QK];rw[Qo O];exact h.lt _ (QB O)
structure ScI (s:Sc):Prop where
 bad:BF s 6=false
 nl:s.nl=true->s.rs=[]
theorem GK{s:Sc}{q:Int}(h:BF s q=false):(1<=q∧q<=6)∧(0<=s.mx∧s.mx<=6)∧(0<=s.la∧s.la<=30)∧(s.rs.length:Int)<=6∧FO s.rs 0=true∧Li s.rs=s.la:=by
 grind [BF,BE]
def ScI.len{s:Sc}(h:ScI s):s.rs.length<=6:=by have:=(GK h.bad).2.2.2.1;omega
def aP1:ScI sc0:=⟨Z,λ_=>rfl⟩
theorem uI{t:Bs}(h:(Cq t).2=0):ScI (Cq t).1:=by
 unfold Cq at h ⊢;split at h
 ·cases h
 ·rename_i u;rw[if_neg u];split at h
  ·cases h
  ·rename_i q;rw[if_neg q];refine⟨by
    cases hb:BF (U7 t) 6 with
    |false=>rfl
    |true=>exact absurd (.inr (.inr hb)) q,λf=>?_⟩
   simp only[U7,decide_eq_true_eq]at f;show(Dz t).1=[];unfold Dz;rw[f];rfl
def Ch(z:Bs×Bool×Bool):Option Sc:=if z.2.1=false∨(Cq z.1).2≠0 then none else some (Cq z.1).1
def DT(o:Option Sc):Sc:=o.getD sc0
def pO{z:Bs×Bool×Bool}{s:Sc}(h:Ch z=some s):ScI s:=by
 grind [Ch,uI]
def Ft(z:Bs×Bool×Bool):ScI (DT (Ch z)):=by
 cases h:Ch z with
 |none=>exact aP1
 |some s=>exact pO h
def AW(k:Kn)(p:Bs):Bs×Bool×Bool:=DX k (AO 1 p 0)
section
variable{v:Vw}{a:Ak}{k:Kn}
def Mb(j:NG k){p:Bs}(g:p.length<=1000000)(h:(AW k p).2.2=false):DS ⟨v,a,k⟩ (Ix v) [.str p]=some (.tup [.agg (Ik sc0),.bool false,.bool false],DW v (AO 1 p 0) false,none):=
 zH ⟨v,a,k⟩ (Ix v) p (Lg v) g (by have:=j.es;simp only;omega) (AW k p) rfl h
def HD(j:NG k){p:Bs}(g:p.length<=1000000)(h:(AW k p).2.2=true):DS ⟨v,a,k⟩ (Ix v) [.str p]=some (.tup [.agg (Ik (DT (Ch (AW k p)))),.bool (Ch (AW k p)).isSome,.bool true],Ix v,none):=by
 have w:(AW k p).1.length<=1000000:=by have:=Mq j (AO 1 p 0);unfold AW;omega
 have f:(Wb.mk v a k).k.es.length<=1000:=by have:=j.es;simp only;omega
 by_cases x:(AW k p).2.1=false∨(Cq (AW k p).1).2≠0
 ·have e:Ch (AW k p)=none:=if_pos x;rw[e];exact aIe ⟨v,a,k⟩ (Ix v) p (Lg v) g f (AW k p) rfl h w x
 ·have e:Ch (AW k p)=some (Cq (AW k p).1).1:=if_neg x;rw[e];rw[not_or]at x;exact aEs ⟨v,a,k⟩ (Ix v) p (Lg v) g f (AW k p) rfl h w (by simpa using x.1) (Decidable.not_not.1 x.2)
def ED(v:Vw)(p:Bs)(s:Sc)(cas:Int)(data:Bs):Oc:=
 if(Cr s (B_ v p).1 (B_ v p).2 cas data.length).2.2.2≠0 then BJ v (Cr s (B_ v p).1 (B_ v p).2 cas data.length).2.2.2 else aAr (Ix v) p (Cr s (B_ v p).1 (B_ v p).2 cas data.length) data
theorem aGs(s:Sc)(q:Int)(b:Bool)(cas size:Int):0<=Hl s q b cas size∧Hl s q b cas size<=99:=by
 grind [Hl]
def U6{s:Sc}(j:s.rs.length<=6)(q:Int)(b:Bool)(cas size:Int):(0<=(Cr s q b cas size).2.2.2∧(Cr s q b cas size).2.2.2<=99)∧(Cr s q b cas size).1.rs.length<=7∧(Cr s q b cas size).2.2.1.length<=7∧((Cr s q b cas size).2.2.2=0->0<=(Cr s q b cas size).2.1∧(Cr s q b cas size).2.1<=31):=by
 grind [aGs,Cr,Hl,Nu,Dd,Nv,BF,GK]
def aPQ(t:PH v){p:Bs}(g:p.length<=1000000){s:Sc}(j:ScI s){cas:Int}{data:Bs}(l:data.length<=1000000):∃ol,WT ⟨v,a,k⟩ (Ix v) [.str p,.agg (Ik s),.int .i64 cas,.str data]=some (.tup [],ED v p s cas data,ol):=by
 have w:=j.len;obtain⟨u,q,o,b⟩:=U6 w (B_ v p).1 (B_ v p).2 cas data.length;have z:(Wb.mk v a k).v.ms.length<=1000:=by have:=t.ml;simp only;omega
 unfold ED;by_cases h:(Cr s (B_ v p).1 (B_ v p).2 cas data.length).2.2.2≠0
 ·rw[if_pos h];exact⟨_,zG ⟨v,a,k⟩ (Ix v) p s cas data (Lg v) O j.nl g l z _ rfl O⟩
 ·rw[if_neg h];exact⟨_,aId ⟨v,a,k⟩ (Ix v) p s cas data (Lg v) O j.nl g l z _ rfl (Decidable.not_not.1 h) O O⟩
def aF8{s:Sc}(j:ScI s):∀x∈s.rs,1<=x.1∧x.1<=30:=(U_ j.bad Z).2
def ET(v:Vw)(p:Bs)(s:Sc)(gone:List Int)(e:Int):Oc:=if e≠0 then BJ v e else M7 (Ix v) p s gone
def aFK{s:Sc}(j:s.rs.length<=1000){gnl:Bool}{gone:List Int}(n:gone.length<=900){e:Int}(x:0<=e∧e<=99)(g:a.pa.length<=1000000):∃ol,WR ⟨v,a,k⟩ (Ix v) [.agg (Ik s),.slice gnl [] (AE gone),.int .i64 e]=some (.tup [],ET v a.pa s gone e,ol):=by
 unfold ET;by_cases h:e≠0
 ·rw[if_pos h];exact⟨_,zE ⟨v,a,k⟩ (Ix v) s gnl gone e (Lg v) O⟩
 ·rw[if_neg h];obtain rfl:=Decidable.not_not.1 h;exact⟨_,aIc ⟨v,a,k⟩ (Ix v) s gnl gone (Lg v) n j g⟩
theorem TP(ns:List Int)(n:Nat):∀(l:List Rw)(j:Nat),(CV ns n j l).length<=l.length
 |[],j=>Qs _
 |x::r,j=>by
  unfold CV;have:=TP ns n r (j+1);split<;>simp only[Qr]<;>omega
def FI{s:Sc}(j:s.rs.length<=6)(ns:List Int)(c:Nat):(0<=(Be s ns c).2.2∧(Be s ns c).2.2<=99)∧(Be s ns c).1.rs.length<=6∧(Be s ns c).2.1.length<=6:=by
 grind [Be,Mf,TP]
def SW{s:Sc}(j:s.rs.length<=6)(q v:Int)(b:Bool):(0<=(CO s q v b).2.2∧(CO s q v b).2.2<=99)∧(CO s q v b).1.rs.length<=6∧(CO s q v b).2.1.length<=6:=by
 grind [CO,Nu,Nv]
end
def Wv:=y3 f182 4 [] []
def aOm:=y2 f182 [(1,[(34,30)])] [(4,Wv)]
def aOl:=y2 f183 [] []
def aM5:=y2 f279 [] []
def Wi:=y3 f277 2 [(2,[(5,1)])] []
def aM7:=y2 f277 [] [(2,Wi)]
def Wh:=y3 f278 2 [] []
def aM6:=y2 f278 [] [(2,Wh)]
def mF:=y3 f83 4 [] []
def aXX:=y2 f83 [(1,[(1,0)])] [(4,mF)]
def aOj:=y2 f185 [(11,[(7,1),(7,3),(7,5),(7,9),(7,12),(10,1),(10,3),(10,5),(10,12),(10,15),(10,18),(15,1),(15,3),(15,5),(15,9),(15,10),(16,1),(16,3),(16,5),(16,18),(18,1),(18,3),(18,5),(18,9),(18,10),(18,12),(18,16)]),(13,[(4,2)])] []
def aHU:=y3 f181 8 [] []
def aDt:=y2 f181 [(1,[(1,0)]),(5,[(6,1),(6,3),(6,5),(6,8),(9,1),(9,3),(9,5),(9,11),(11,1),(11,3),(11,5),(11,8),(11,9)])] [(8,aHU)]
def aOq:=y2 f177 [] []
def aM9:=y2 f275 [] []
def aOs:=y2 f175 [] []
def aHP:=y3 f276 7 [] []
def aM8:=y2 f276 [(1,[(1,0)])] [(7,aHP)]
def WA:=y3 f176 6 [(8,[(23,1)])] []
def aOr:=y2 f176 [] [(6,WA)]
def aXZ:=y2 f80 [] []
def aXW:=y2 f84 [] []
def aOv:=y2 f171 [] []
def RA:=y3 f173 7 [] []
def aOu:=y2 f173 [] [(7,RA)]
def SX:List Rw->Int->Int->Bool
 |[],_,_=>true
 |x::r,a,la=>decide (a<x.1∧x.1<=la)&&SX r x.1 la
def rY:∀{l:List Rw} {a la:Int},SX l a la=true->FO l a=true
 |[],_,_,_=>rfl
 |x::r,a,la,h=>by
  simp only[SX,QD,decide_eq_true_eq]at h;simp only[FO,QD,decide_eq_true_eq];exact⟨h.1.1,rY h.2⟩
def pS:∀{l:List Rw} {a la:Int},FO l a=true->(∀x∈l,x.1<=la)->SX l a la=true
 |[],_,_,_,_=>rfl
 |x::r,a,la,h,hm=>by
  simp only[FO,QD,decide_eq_true_eq]at h;simp only[SX,QD,decide_eq_true_eq];exact⟨⟨h.1,hm x (Qy ..)⟩,pS h.2 λy d=>hm y (QE _ d)⟩
section
variable{s:Sc}{q:Int}
def aRz(u:1<=q∧q<=6)(f:0<=s.mx∧s.mx<=6)(o:0<=s.la∧s.la<=30)(b:¬BE s q<s.rs.length)(m:FO s.rs 0=true)(x:Li s.rs=s.la):BF s q=false:=by
 grind [BF]
def aRy(h:q<1∨6<q∨s.mx<0∨6<s.mx∨s.la<0∨30<s.la∨BE s q<s.rs.length):BF s q=true:=by
 grind [BF]
def aH6(r:0<=s.la)(h:SX s.rs 0 s.la=false):BF s q=true:=by
 cases hb:BF s q with
 |true=>rfl
 |false=>
  have b:=GK hb;have:=pS b.2.2.2.2.1 (la:=s.la) λx p=>by
   have:=(Sd b.2.2.2.2.1 x p).2;rw[←dF,b.2.2.2.2.2]at this;exact this
  rw[h]at this;cases this
theorem sG(h:Li s.rs≠s.la):BF s q=true:=by
 grind [BF,GK]
def aDQ{l:List Rw}(h:SX l 0 0=true):l=[]:=by
 cases l with
 |nil=>rfl
 |cons x r=>simp only[SX,QD,decide_eq_true_eq]at h;omega
end
def bBi:=AB []
def aEE:=RF bBi aM5 [.t 4] 12
def aLI:Kq aEE 279:=Az (Ai func279) Ad
def sS(s:Sc)(q:Int)(b:Bool):aEE [.agg (Ik s),.agg [.int .i64 q,.bool b]]=some (.int .i64 (BE s q)):=by
 refine Aq (Qn rfl) ?_;unfold aM5;unfold BE Ik;by_cases h:s.mx=0
 all_goals
  simp only[↓C2,Ie,simprocAttr,h]
  all_goals exact Qi
def bBs:=AB []
def zQ:=RF bBs aOl [.cell (some 2) 0] 2
def UD:Kq zQ 183:=Az (Ai func183) Ad
def Ib:zQ []=some (.agg [.int .i64 6,.bool false]):=by
 refine Aq (Qn rfl) ?_;unfold aOl;simp only[↓C2,Ie,simprocAttr]
 all_goals exact Qi
def bBj:=AB []
def aZo:=RF bBj aM6 [.t 6] 36
def aWL:Kq aZo 278:=Az (Ai func278) Ad
def Ts(ns:List Int)(n j:Nat)(x:Rw):Bool:=Tu ns x.1||(ns.isEmpty&&decide (j+1=n))
def aHE{l:List Int}{k:Nat}(h:k<l.length){n:Int}(e:l[k]=n):Tu l n=true:=Zq.2 ⟨l[k],QB h,decide_eq_true e.symm⟩
def wN{l:List Int}{k:Nat}(h:k<l.length){n:Int}(e:l[k]≠n)(r:Tu (l.take k) n=false):Tu (l.take (k+1)) n=false:=by
 unfold Tu at *;rw[Zp,Qo h,ZW,r];simp[e.symm]
def aIZ{s:Sc}{nn:Bool}{ns:List Int}{j:Nat}{x:Rw}(w:s.rs.length<=1000)(hs:ns.length<=1000)(hj:j<s.rs.length)(p:s.rs[j]=x):aZo [.agg (Ik s),.int .i64 (j:Int),.slice nn [] (AE ns)]=some (.bool (Ts ns s.rs.length j x)):=by
 refine Aq (Qn rfl) ?_;unfold aM6;have d:=C8 hj;rw[p]at d;have qa:=nJ (j:=j);unfold Ik;simp only[↓C2,Ie,simprocAttr];refine AV (n:=ns.length) (I:=λk z=>z.s 2= .slice nn [] (AE ns)∧z.s 1= .int .i64 (j:Int)∧z.s 3= .ptr [0] 0∧z.s 7= .int .i64 (k:Int)∧z.m [0] 3=some (.slice s.nl [] (AU s.rs))∧Tu (ns.take k) x.1=false) (λk i ih z g t=>?_) (λz g t=>?_) 0 (Qz _) _ _ ⟨rfl,rfl,rfl,rfl,rfl,rfl⟩
 ·obtain⟨ja,f,b⟩:=z;obtain⟨q,u,o,h7,c,hh⟩:=t;simp only at q u o h7 c;refine Ae Wh.eq_1 ?_;have v:((k:Int)<ns.length)=True:=eq_true O;have oa:(0:Int)<=(k:Int):=by omega
  have l:IntKind.i64.wrap ((k:Int)+1)=((k+1:Nat):Int):=Iz O O;have a:=Mo i;by_cases e:ns[k]=x.1
  ·have hb:Ts ns s.rs.length j x=true:=by unfold Ts;rw[aHE i e];rfl
   simp only[↓C2,Ie,simprocAttr,q,u,o,h7,c,v,oa,qa,Qp,d,a,Bb,e];refine Al ?_;simp only[↓C2,Ie,simprocAttr,e,decide_true];rw[hb]
   all_goals exact Qi
  ·simp only[↓C2,Ie,simprocAttr,q,u,o,h7,c,v,oa,qa,Qp,d,a,Bb,e];refine Al ?_;simp only[↓C2,Ie,simprocAttr,h7,e,decide_false,l];exact ih _ _ ⟨q,u,o,rfl,c,wN i e hh⟩
 ·obtain⟨ja,f,b⟩:=z;obtain⟨q,u,o,h7,c,hh⟩:=t;simp only at q u o h7 c;refine Ae Wh.eq_1 ?_;have v:((ns.length:Int)<ns.length)=False:=eq_false O;rw[Qu (Qs _)]at hh;have l:IntKind.i64.wrap ((s.rs.length:Int)-1)=(s.rs.length:Int)-1:=Iz O O;unfold Ts;rw[hh];by_cases e:ns=[]
  ·have e1:((ns.length:Int)=0)=True:=eq_true (by rw[e];rfl);have e2:decide ((j:Int)=(s.rs.length:Int)-1)=decide (j+1=s.rs.length):=decide_eq_decide.2 O;simp only[↓C2,Ie,simprocAttr,q,u,o,h7,c,v,Bb,As,e1,l,e2];rw[e]
   all_goals exact Qi
  ·have e1:((ns.length:Int)=0)=False:=eq_false (λh=>e (QX.1 O));simp only[↓C2,Ie,simprocAttr,q,u,o,h7,c,v,Bb,As,e1];cases ns with
   |nil=>exact absurd rfl e
   |cons y r=>all_goals first|rfl|exact⟨rfl,rfl⟩|simp[*]
def aRU:=AB [(279,Af aEE)]
def hZ:=RF aRU aOm [.t 4] 101
def Px:Kq hZ 182:=Az (Ai func182) (Aa aLI Ad)
def FE(s:Sc)(q:Int)(b:Bool)(w:s.rs.length<=1000):hZ [.agg (Ik s),.agg [.int .i64 q,.bool b]]=some (.bool (!BF s q)):=by
 refine Aq (Qn rfl) ?_;unfold aOm;have f:=sS s q b;by_cases c:q<1∨6<q∨s.mx<0∨6<s.mx∨s.la<0∨30<s.la∨BE s q<s.rs.length
 ·rw[aRy c];unfold Ik at *;have h:True:=trivial
  repeat' (first|(refine aD (λh=>?_) (λh=>?_)<;>try (exfalso;omega))|refine Al ?_ |(simp only[↓C2,Ie,simprocAttr,h,decide_true,decide_false,Zl,Ac aRU 279,f,As]))
  all_goals exact Qi
 have e1:(q<1)=False:=eq_false O;have e2:(6<q)=False:=eq_false O;have e3:(s.mx<0)=False:=eq_false O;have e4:(6<s.mx)=False:=eq_false O;have e5:(s.la<0)=False:=eq_false O;have e6:(30<s.la)=False:=eq_false O;have e7:(BE s q<s.rs.length)=False:=eq_false O;have r:FO s.rs 0=true->Li s.rs=s.la->BF s q=false:=aRz O O O O;have p:0<=s.la:=O
 unfold Ik at *;simp only[↓C2,Ie,simprocAttr,Ac aRU 279,f,As,e1,e2,e3,e4,e5,e6,e7,decide_false];refine Al ?_;simp only[↓C2,Ie,simprocAttr,e7,decide_false];refine AV (n:=s.rs.length) (I:=λk z=>z.s 2= .ptr [0] 0∧z.s 5= .int .i64 (k:Int)∧z.m [0] 2=some (.int .i64 s.la)∧z.m [0] 3=some (.slice s.nl [] (AU s.rs))∧∃a,SX (s.rs.drop k) a s.la=SX s.rs 0 s.la∧((k=0∧a=0)∨(1<=k∧1<=a∧∃y:Rw,(AU s.rs)[k-1]?=some (.agg [.int .i64 y.1,.bool y.2.1,.bool y.2.2])∧y.1=a))) (λk hk ih z g hI=>?_) (λz g hI=>?_) 0 (Qz _) _ _ ⟨rfl,rfl,rfl,rfl,0,rfl,.inl ⟨rfl,rfl⟩⟩
 ·obtain⟨ja,da,fa⟩:=z;obtain⟨t,h5,ra,d,a,hc,ha⟩:=hI;simp only at t h5 ra d;refine Ae Wv.eq_1 ?_;have v:((k:Int)<s.rs.length)=True:=eq_true O;have oa:(0:Int)<=(k:Int):=by omega
  have hw:IntKind.i64.wrap ((k:Int)+1)=((k+1:Nat):Int):=Iz O O;have ga:=C8 hk;have u:s.rs.drop k=s.rs[k]::s.rs.drop (k+1):=QR hk;rw[u]at hc;generalize s.rs[k]=x at ga hc;simp only[SX]at hc;have o:0<=a:=O
  by_cases hx:a<x.1∧x.1<=s.la
  ·rw[decide_eq_true hx,Zz]at hc;have f1:(x.1<1)=False:=eq_false O;have f2:(s.la<x.1)=False:=eq_false O;rcases ha with ⟨wa,va⟩|⟨wa,va,y,e,i⟩
   ·have f3:((0:Int)<(k:Int))=False:=eq_false O;simp only[↓C2,Ie,simprocAttr,t,h5,ra,d,v,oa,Qp,ga,As,f1,f2,f3,decide_false,hw];exact ih _ _ ⟨t,rfl,ra,d,x.1,hc,.inr ⟨O,O,x,ga,rfl⟩⟩
   ·have f3:((0:Int)<(k:Int))=True:=eq_true O;have f4:(x.1<=y.1)=False:=eq_false O;have w1:IntKind.i64.wrap ((k:Int)-1)=(k:Int)-1:=Iz O O;have w2:((k:Int)-1).toNat=k-1:=by omega
    have w3:(0:Int)<=(k:Int)-1:=O
    simp only[↓C2,Ie,simprocAttr,t,h5,ra,d,v,oa,Qp,ga,As,f1,f2,f3,f4,w1,w2,w3,e,decide_false,decide_true,hw];exact ih _ _ ⟨t,rfl,ra,d,x.1,hc,.inr ⟨O,O,x,ga,rfl⟩⟩
  ·rw[decide_eq_false hx,Zv]at hc;rw[aH6 p hc.symm];by_cases f1:x.1<1
   ·simp only[↓C2,Ie,simprocAttr,t,h5,ra,d,v,oa,Qp,ga,As,f1,decide_true]
    all_goals exact Qi
   by_cases f2:s.la<x.1
   ·simp only[↓C2,Ie,simprocAttr,t,h5,ra,d,v,oa,Qp,ga,As,f1,f2,decide_true,decide_false]
    all_goals exact Qi
   rcases ha with ⟨wa,va⟩|⟨wa,va,y,e,i⟩
   ·omega
   ·have f3:((0:Int)<(k:Int))=True:=eq_true O;have f4:(x.1<=y.1)=True:=eq_true O;have w1:IntKind.i64.wrap ((k:Int)-1)=(k:Int)-1:=Iz O O;have w2:((k:Int)-1).toNat=k-1:=by omega
    have w3:(0:Int)<=(k:Int)-1:=O
    simp only[↓C2,Ie,simprocAttr,t,h5,ra,d,v,oa,Qp,ga,As,f1,f2,f3,f4,w1,w2,w3,e,decide_false,decide_true]
    all_goals exact Qi
 ·obtain⟨ja,da,fa⟩:=z;obtain⟨t,h5,ra,d,a,hc,ha⟩:=hI;simp only at t h5 ra d;refine Ae Wv.eq_1 ?_;have v:((s.rs.length:Int)<s.rs.length)=False:=eq_false O;rw[List.drop_length]at hc;have hr:=rY hc.symm;by_cases f1:0<s.la
  ·by_cases f2:0<s.rs.length
   ·have ga:=C8 (l:=s.rs) (j:=s.rs.length-1) O;have hn:Li s.rs=s.rs[s.rs.length-1].1:=by unfold Li;rw[List.getLast?_eq_getElem?,Qo O]
    have f3:(0:Int)<(s.rs.length:Int):=O
    have w1:IntKind.i64.wrap ((s.rs.length:Int)-1)=(s.rs.length:Int)-1:=Iz O O;have w2:((s.rs.length:Int)-1).toNat=s.rs.length-1:=O
    have w3:(0:Int)<=(s.rs.length:Int)-1:=O
    generalize s.rs[s.rs.length-1]=x at ga hn;have hb:decide (x.1=s.la)=!BF s q:=by
     grind [sG]
    simp only[↓C2,Ie,simprocAttr,t,h5,ra,d,v,As,f1,f3,w1,w2,w3,ga,decide_true];refine Al ?_;simp only[↓C2,Ie,simprocAttr,hb]
    all_goals exact Qi
   ·have f3:((0:Int)<(s.rs.length:Int))=False:=eq_false O;have hn:Li s.rs≠s.la:=by
     have:s.rs=[]:=QX.1 O;rw[this];show(0:Int)≠_;omega
    rw[sG hn];simp only[↓C2,Ie,simprocAttr,t,h5,ra,d,v,As,f1,f3,decide_true,decide_false];refine Al ?_;simp only[↓C2,Ie,simprocAttr]
    all_goals exact Qi
  ·have h0:s.la=0:=by omega
   rw[h0]at hc;have hn:Li s.rs=s.la:=by rw[aDQ hc.symm,h0];rfl
   rw[r hr hn];simp only[↓C2,Ie,simprocAttr,t,h5,ra,d,v,As,f1,decide_false]
   all_goals exact Qi
end Go.Vd
namespace Go.Vd
open Go.Proofs Go.RowKit Go.Sort Go.Shelf
def eN:∀{l:List Rw} {j:Nat} {x:Rw},l[j]?=some x->(flat (AU l))[j*3]?=some (.int .i64 x.1)∧(flat (AU l))[j*3+1]?=some (.bool x.2.1)∧(flat (AU l))[j*3+2]?=some (.bool x.2.2)
 |y::r,0,x,h=>by cases h;exact⟨rfl,rfl,rfl⟩
 |y::r,j+1,x,h=>by
  have ih:=eN (l:=r) (j:=j) (x:=x) h;have e:flat (AU (y::r))=[.int .i64 y.1,.bool y.2.1,.bool y.2.2]++flat (AU r):=rfl;rw[e,Zc Xc,Zc Xc,Zc Xc];simp only[Qr,QC];rw[show(j+1)*3-(0+1+1+1)=j*3 by omega,show(j+1)*3+1-(0+1+1+1)=j*3+1 by omega,show(j+1)*3+2-(0+1+1+1)=j*3+2 by omega];exact ih
def TG(w:World)(l:List Rw)(d:Option Addr):Prop:=∀j x,l[j]?=some x->∃a,d=some a∧w.cell? (a.add (j*3))=some (.int .i64 x.1)∧w.cell? (a.add (j*3+1))=some (.bool x.2.1)∧w.cell? (a.add (j*3+2))=some (.bool x.2.2)
def Ua{w:World}{g:Gh}{nl:Bool}{t:Id}{l:List Rw}{v:Value}(h:Im w g (.slice nl t (AU l)) v):∃d c,v= .slice d l.length c∧TG w l d:=by
 rcases h.slice_inv with ⟨_,r,rfl⟩|⟨_,ad,n,c,sz,i,rfl,f,k,e,p,u,b,m,q,r9⟩
 ·have:l=[]:=by cases l with|nil=>rfl|cons=>cases r
  subst this;exact⟨none,0,rfl,λj s h=>Xe⟩
 ·rw[As]at f;subst f;refine⟨some ad,c,rfl,λj x y=>⟨ad,rfl,?_⟩⟩;have z:j<l.length:=(QJ.1 y).1;have pa:sz=3:=(e (rwD x) (QN.2 ⟨x,QV y,rfl⟩)).symm;subst pa;obtain⟨f0,a,o⟩:=eN y;rw[p _ O,p _ O,p _ O,(b _ _ f0).int_inv,(b _ _ a).bool_inv,(b _ _ o).bool_inv];exact⟨rfl,rfl,rfl⟩
def TG.later{w m:World}{l:List Rw}{d:Option Addr}(h:TG w l d)(i:Below w.heap.size w m):TG m l d:=λj x y=>by
 obtain⟨a,e,u,q,o⟩:=h j x y;exact⟨a,e,Ed i u,Ed i q,Ed i o⟩
def TG.load{w m:World}{l:List Rw}{d:Option Addr}(h:TG w l d)(p:Below w.heap.size w m){j:Nat}{x:Rw}(y:l[j]?=some x):∃a,d=some a∧m.cell? (a.add (j*3))=some (.int .i64 x.1)∧m.cell? ⟨(a.add (j*3)).block,(a.add (j*3)).off+1,none⟩=some (.bool x.2.1)∧m.cell? ⟨(a.add (j*3)).block,(a.add (j*3)).off+2,none⟩=some (.bool x.2.2):=by
 obtain⟨a,e,s,c2,v⟩:=h.later p j x y;have e1:∀i,i≠0->(⟨(a.add (j*3)).block,(a.add (j*3)).off+i,none⟩:Addr)=a.add (j*3+i):=λi hi=>by
  rw[←gH];generalize a.add (j*3)=b;unfold Addr.add;rw[if_neg hi]
 refine⟨a,e,s,?_,?_⟩
 ·simp_all
 ·simp_all
def aQ0:(Tryz.prog.info? 5).map (λi=>(i.zero,i.size,i.bytes))=some (some (.int .u8 0),1,1):=Xa
def Bw(w m:World)(a b c d:Value)(T:TypeId):Prop:=m.heap[w.heap.size]?=some (.cells #[a,b,c,d] T (0,0))∧Below w.heap.size w m∧w.heap.size<m.heap.size
def Bw.start{w:World}{a b c d:Value}{T:TypeId}:Bw w (w.alloc (.cells #[a,b,c,d] T)) a b c d T:=⟨heap_alloc_new w _,(Below.refl _ w).alloc (Qs _) _,by rw[show(w.alloc _).heap.size=w.heap.size+1 from QY _];omega⟩
def Bw.drew{w m:World}{a b c d:Value}{T:TypeId}(h:Bw w m a b c d T):Bw w m.drew a b c d T:=⟨h.1,h.2.1.drew,h.2.2⟩
def Bw.later{w m z:World}{a b c d:Value}{T:TypeId}(h:Bw w m a b c d T)(i:Below m.heap.size m z):Bw w z a b c d T:=⟨(i.block _ h.2.2).trans h.1,h.2.1.trans (i.mono h.2.1.size),Nat.lt_of_lt_of_le h.2.2 i.size⟩
def Bw.alloc{w m:World}{a b c d:Value}{T:TypeId}(h:Bw w m a b c d T)(o:Obj):Bw w (m.alloc o) a b c d T:=h.later ((Below.refl _ m).alloc (Qs _) o)
def Bw.set{w m:World}{a b c d u:Value}{T:TypeId}{x:Addr}(h:Bw w m a b c d T)(p:w.heap.size<x.block):Bw w (m.setCell x u) a b c d T:=⟨(heap_setCell_other _ _ _ _ O).trans h.1,h.2.1.setCell O _,by rw[show(m.setCell x u).heap.size=m.heap.size from World.size_setCell _ _ _];exact h.2.2⟩
def Bw.cells{w m:World}{a b c d:Value}{T:TypeId}(h:Bw w m a b c d T):m.cell? ⟨w.heap.size,0,none⟩=some a∧m.cell? ⟨w.heap.size,1,none⟩=some b∧m.cell? ⟨w.heap.size,2,none⟩=some c∧m.cell? ⟨w.heap.size,3,none⟩=some d:=by
 refine⟨?_,?_,?_,?_⟩<;>simp[World.cell?,h.1]
def yF(w:World)(a b:Value)(t:TypeId):∀j u,[a,b][j]?=some u->(w.alloc (.cells #[a,b] t)).cell? ((⟨w.heap.size,0,none⟩:Addr).add j)=some u:=by
 intro j u y
 match j,y with
 |0,y=>simp at y;subst y;simp[Addr.add]
 |1,y=>simp at y;subst y;simp[Addr.add]
def u8V(l:List Int):List Value:=l.map (Value.int .u8)
def SK:∀(ns:List Int)(s:ByteArray),ns.foldl (λr n=>r.push (UInt8.ofNat n.toNat)) s=⟨s.data++(GX ns).toArray⟩
 |[],s=>by simp[GX]
 |n::r,s=>by
  rw[QM,SK r];simp[GX,ByteArray.push]
def aDJ{w:World}{B n:Nat}{v:Value}{l:List Int}(h:w.ownsRow B 5 1 v n (u8V l))(f:0<n):(convert 264 9 v).run Qq w= .ok (encStr (GX l)) w:=by
 have z:l.length=n:=by have:=h.1;simpa[u8V]using this
 rcases h.2 with ⟨_,r⟩|⟨g,cap,cur,rfl,_⟩
 ·omega
 ·have k:=run_loadCells_list (P:=Qq) w ⟨g,0,none⟩ (u8V l) (λj u y=>h.cells rfl j u y);rw[show(u8V l).length=n by simp[u8V,z]]at k;rw[run_convert_bytes_string w 264 9 5 _ n cap underlying264 underlying5 underlying9,run_bytesToString w _ n cap l k,SK];simp[encStr]
theorem jH(l:List Rw)(x:Rw):Db (l++[x])=Db l++OJ x:=by
 induction l with
 |nil=>simp[Db]
 |cons y r ih=>simp[Db,ih]
def Bw.grow{w m z:World}{a b c d v:Value}{T e:TypeId}{n:Nat}{xs:List Value}(h:Bw w m a b c d T)(r:m.ownsRow w.heap.size e 1 v n xs)(hT:T≠e)(o:Obj)(x:(m.alloc o).grownBy z v.ownBlock):Bw w z a b c d T:=by
 have p:(m.alloc o).heap.size=m.heap.size+1:=QY _;have y:=h.2.2;refine⟨?_,(h.2.1.alloc h.2.1.size o).grown x O (λj k=>(r.lt j k).1),by have:=x.size;omega⟩;rw[x.block _ O (DO r h.1 hT)];exact(h.alloc o).1
theorem aGl(n:Int):OJ (n,false,false)=[n % 256,0]:=by
 show [IntKind.u8.wrap n,bits .or .u8 0 (IntKind.u8.wrap 0)]=_;rw[show bits .or .u8 0 (IntKind.u8.wrap 0)=0 by decide];rfl
theorem aGj(n:Int):OJ (n,true,false)=[n % 256,1]:=by
 show [IntKind.u8.wrap n,bits .or .u8 1 (IntKind.u8.wrap 0)]=_;rw[show bits .or .u8 1 (IntKind.u8.wrap 0)=1 by decide];rfl
theorem aGk(n:Int):OJ (n,false,true)=[n % 256,2]:=by
 show [IntKind.u8.wrap n,bits .or .u8 0 (IntKind.u8.wrap 2)]=_;rw[show bits .or .u8 0 (IntKind.u8.wrap 2)=2 by decide];rfl
theorem aGi(n:Int):OJ (n,true,true)=[n % 256,3]:=by
 show [IntKind.u8.wrap n,bits .or .u8 1 (IntKind.u8.wrap 2)]=_;rw[show bits .or .u8 1 (IntKind.u8.wrap 2)=3 by decide];rfl
def aZH(w:World)(s:Sc)(ao:Option Addr)(c:Nat)(q:s.rs.length<=6)(r:TG w s.rs ao)
  (qa:∀m,Calls Qq 183 #[] m λe w'=>e= .returned (.agg #[.int .i64 6,.bool false])∧Below m.heap.size m w')
  (y:∀m,Below w.heap.size w m->Calls Qq 182 #[.agg #[.int .i64 s.mx,.bool s.cas,.int .i64 s.la,.slice ao s.rs.length c],.agg #[.int .i64 6,.bool false]] m λe w'=>e= .returned (.bool true)∧Below m.heap.size m w'):
  Calls Qq 276 #[.agg #[.int .i64 s.mx,.bool s.cas,.int .i64 s.la,.slice ao s.rs.length c]] w λe w'=>e= .returned (.tuple #[encStr (GX ([IntKind.u8.wrap s.mx,MG s.cas,IntKind.u8.wrap s.la,IntKind.u8.wrap s.rs.length]++Db s.rs)),.int .i64 0])∧Below w.heap.size w w':=by
 obtain⟨i0,hi,p⟩:=QI.1 aQ0;simp only[QU]at p;obtain⟨t,h,ya⟩:=p;have db:IntKind.u8.wrap (s.rs.length:Int)=(s.rs.length:Int):=by show(s.rs.length:Int) % 256=_;omega
 go_enter func276,ntmps276
 go_wp2_with fail
 have B0:Bw w (w.alloc (Obj.cells #[Value.int IntKind.i64 s.mx,Value.bool s.cas,Value.int IntKind.i64 s.la,Value.slice ao s.rs.length c] 159)) _ _ _ _ _:=Bw.start;replace B0:=B0.drew;obtain⟨k0,k1,k2,k3⟩:=B0.cells
 go_region_with (first
   |(go_at_call 183;refine(qa _).mono ?_;rintro e w2 ⟨rfl,ra⟩;replace B0:=B0.later ra;obtain⟨k0,k1,k2,k3⟩:=B0.cells)
   |(go_at_call 182;refine(y _ B0.2.1).mono ?_;rintro e w3 ⟨rfl,pa⟩;replace B0:=B0.later pa;obtain⟨k0,k1,k2,k3⟩:=B0.cells))
 all_goals
  clear y qa;have R0:=λb:Int=>World.ownsRow_lit (base:=w.heap.size) (e:=5) (size:=1) w3 #[Value.int IntKind.u8 (s.mx % 256),Value.int IntKind.u8 b,Value.int IntKind.u8 (s.la % 256),Value.int IntKind.u8 ↑s.rs.length] 4 B0.2.1.size Z rfl
  have kA:∀o,(w3.alloc o).cell? ⟨w.heap.size,1,none⟩=some (.bool s.cas):=λo=>(B0.alloc o).cells.2.1
  have kB:=(R0 0).cellAt 1 Z;have kC:=(R0 0).frozenAt 1;cases hcas:s.cas
  all_goals
   rw[hcas]at kA
   go_wp2_with fail
   clear kA kB kC
   go_loopg [4,5] s.rs.length (λg s4 s5 m=>∃k:Nat,k+g=s.rs.length∧s5= .int .i64 k∧m.ownsRow w.heap.size 5 1 s4 (4+2*k) (u8V ([IntKind.u8.wrap s.mx,MG s.cas,IntKind.u8.wrap s.la,IntKind.u8.wrap s.rs.length]++Db (s.rs.take k)))∧Aside (Bw w m (.int .i64 s.mx) (.bool s.cas) (.int .i64 s.la) (.slice ao s.rs.length c) 159))
   case atStart=>
    refine⟨0,O,rfl,?_,?_⟩
    ·rw[db,hcas];exact R0 _
    ·rw[hcas]at B0 ⊢;exact B0.alloc _
   case round=>
    obtain⟨k,i,rfl,n,hB⟩:=hrel;obtain⟨k0,k1,k2,k3⟩:=hB.out.cells;cases gk with
    |zero=>
     have na:¬((k:Int)<(s.rs.length:Int)):=O
     have u:=aDJ n O;rw[Qu (show s.rs.length<=k by omega)]at u
     go_wp2_with fail
     exact bodyPost_ret (v:= .tuple #[encStr (GX (s.mx % 256::MG s.cas::s.la % 256::(s.rs.length:Int)::Db s.rs)),.int .i64 0]) (by rw[hcas];simp[results,results276,go_sem]) rfl ⟨by rw[hcas];rfl,hB.out.2.1⟩
    |succ gk=>
     have na:(k:Int)<(s.rs.length:Int):=O
     have z:k<s.rs.length:=O
     obtain⟨a,rfl,j,ta,cb⟩:=r.load hB.out.2.1 (Qo z);have ea:s.rs.take (k+1)=s.rs.take k++[s.rs[k]]:=Qw z;generalize s.rs[k]=x at j ta cb ea;obtain⟨xn,xg,xd⟩:=x;simp only at j ta cb;cases xg<;>cases xd
     all_goals
      go_wp2_with (at_builtin;refine wpList_append_own _ rfl _ _ 264 rfl w.heap.size 5 i0 (.int .u8 0) 1 1 underlying264 hi t h ya rfl Z _ _ _ rfl (n.alloc _) ⟨wr.heap.size,0,none⟩ 2 2 [_,_] rfl rfl (yF _ _ _ _) (λx p=>by simp at p;rcases p with rfl|rfl<;>rfl) Xk O (by simp;have:=hB.out.2.1.size;omega) ?_;intro l w' ca d f)
      go_roundg gk
      case measure=>omega
      case rel=>
       refine⟨k+1,O,rfl,?_,?_⟩
       ·grind [jH,u8V,aGl,aGj,aGk,aGi]
       ·exact hB.out.grow n Z _ d
end Go.Vd
namespace Go.Vd
open Go.Proofs Go.RowKit
def IR(s:Bs)(i:Nat):Int:=((s.getD i 0).toNat:Int)
def rwU(s:Bs)(p:Nat):Rw:=(IR s p,decide (IR s (p+1) % 2=1),decide (IR s (p+1) / 2=1))
def HN(s:Bs)(p k:Nat):List Rw:=(ZD k).map λi=>rwU s (p+2*i)
def Ez(s:Bs):Sc:=⟨IR s 0,decide (IR s 1=1),IR s 2,decide ((s.getD 3 0).toNat=0),HN s 4 (s.getD 3 0).toNat⟩
def aDj(s:Bs):Sc×Int:=if s.length<4∨s.length<4+2*(s.getD 3 0).toNat then(sc0,3)else if BF (Ez s) 6=true∨B1 (Ez s)≠s then(sc0,4)else(Ez s,0)
def S2(s:Bs)(i:Nat):0<=IR s i∧IR s i<256:=by
 unfold IR;have:=(s.getD i 0).toNat_lt;omega
def LE{s:Bs}{p:Nat}(h:p<s.length):BM s p 0=(IR s p,p+1,0):=by
 grind [BM,IR]
theorem aBQ{s:Bs}{p:Nat}(h:s.length<=p):BM s p 0=(0,p,3):=by
 grind [BM]
theorem aBR{s:Bs}{p:Nat}{e:Int}(h:e≠0):BM s p e=(0,p,e):=by
 unfold BM;rw[if_pos h]
def bAW:(ZD 256).all (λn=>decide (bits .and .i64 (n:Int) 1≠0)==decide ((n:Int) % 2=1))=true:=Xp
def bAV:(ZD 256).all (λn=>decide (bits .and .i64 (n:Int) 2≠0)==decide (((n:Int) / 2) % 2=1))=true:=Xp
def aH4(s:Bs)(i:Nat):decide (bits .and .i64 (IR s i) 1≠0)=decide (IR s i % 2=1):=by
 have:=Q5.1 bAW (s.getD i 0).toNat (Zo.2 (s.getD i 0).toNat_lt);exact eq_of_beq this
def aH3(s:Bs)(i:Nat):decide (bits .and .i64 (IR s i) 2≠0)=decide ((IR s i / 2) % 2=1):=by
 have:=Q5.1 bAV (s.getD i 0).toNat (Zo.2 (s.getD i 0).toNat_lt);exact eq_of_beq this
def rwV(s:Bs)(p:Nat):Rw:=(IR s p,decide (IR s (p+1) % 2=1),decide ((IR s (p+1) / 2) % 2=1))
def oT{s:Bs}:∀(k p:Nat),p+2*k<=s.length->GQ s k p 0=((ZD k).map λi=>rwV s (p+2*i),(ZD k).any λi=>decide (3<IR s (p+2*i+1)),p+2*k,0)
 |0,p,_=>rfl
 |k+1,p,h=>by
  have ih:=oT (s:=s) k (p+2) O;unfold GQ;rw[LE (show p<s.length by omega)];simp only;rw[LE (show p+1<s.length by omega)];simp only;rw[ih,aH4,aH3,ZE,Zg,List.any_cons,ZJ,Z2];have e:∀i,p+2+2*i=p+2*(i+1):=λi=>O
  simp only[e,Function.comp_def,Nat.succ_eq_add_one,ZK,Z3];rfl
theorem PU{s:Bs}:∀(k p:Nat)(e:Int),e≠0->(GQ s k p e).2.2.2=e
 |0,p,e,_=>rfl
 |k+1,p,e,h=>by
  unfold GQ;simp only[aBR h];exact PU k _ _ h
theorem oU{s:Bs}:∀(k p:Nat),p<=s.length->s.length<p+2*k->(GQ s k p 0).2.2.2=3
 |0,p,h,h2=>O
 |k+1,p,h,h2=>by
  unfold GQ;by_cases u:p<s.length
  ·simp only[LE u];by_cases o:p+1<s.length
   ·simp only[LE o];exact oU k (p+2) O O
   ·grind [aBQ,PU]
  ·grind [aBQ,aBR,PU]
def Sb(x:Rw):∃f:Int,OJ x=[x.1 % 256,f]∧0<=f∧f<=3:=by
 obtain⟨n,a,b⟩:=x;refine⟨bits .or .u8 (MG a) (IntKind.u8.wrap (MG b*2)),rfl,?_⟩;cases a<;>cases b<;>decide
def aGh(n:Int):∀f:Nat,f<=3->OJ (n,decide ((f:Int) % 2=1),decide ((f:Int) / 2=1))=[n % 256,(f:Int)]:=by
 intro f k;have:f=0∨f=1∨f=2∨f=3:=O
 unfold OJ;rcases this with rfl|rfl|rfl|rfl
 all_goals
  congr 1;simp only;decide
theorem jI(l:List Rw):(Db l).length=2*l.length:=by
 induction l with
 |nil=>rfl
 |cons x r ih=>
  obtain⟨f,k,_⟩:=Sb x;simp only[Db,QO,ih,k,Qr,QC];omega
def Uf:∀(l:List Rw)(i:Nat),i<l.length->((GX (Db l)).getD (2*i+1) 0).toNat<=3
 |x::r,0,_=>by
  obtain⟨f,k,m,o⟩:=Sb x;rw[Db,k];have:f.toNat<=3:=O
  simp[GX];omega
 |x::r,i+1,h=>by
  obtain⟨f,k,m,o⟩:=Sb x;have ih:=Uf r i Xl;rw[Db,k];rw[show 2*(i+1)+1=2*i+1+1+1 by omega];exact ih
def Ue{s:Bs}:∀(k p:Nat),p+2*k<=s.length->(∀i,i<k->IR s (p+2*i+1)<=3)->GX (Db (HN s p k))=(s.drop p).take (2*k)
 |0,p,_,_=>by simp[HN,Db,GX]
 |k+1,p,h,hf=>by
  have ih:=Ue (s:=s) k (p+2) O (λi hi=>by have:=hf (i+1) O;rw[show p+2+2*i+1=p+2*(i+1)+1 by omega];exact this);have e:HN s p (k+1)=rwU s p::HN s (p+2) k:=by
   unfold HN;rw[ZE,Zg,ZJ];congr 1;refine Zu λi _=>?_
   show rwU s (p+2*(i+1))=_;rw[show p+2*(i+1)=p+2+2*i by omega]
  have r:=hf 0 O;have n:OJ (rwU s p)=[IR s p % 256,IR s (p+1)]:=aGh (IR s p) (s.getD (p+1) 0).toNat (by unfold IR at r;simp only[ZK,Z3]at r;omega);have g:p<s.length:=O
  have a:p+1<s.length:=O
  rw[e,Db,n,QR g,QR a,show 2*(k+1)=2*k+1+1 by omega,Zf,Zf,←ih];have b:=S2 s p;have u:IR s p % 256=IR s p:=O
  rw[u];simp only[GX,Zg,Zr,Q8,ZU];refine⟨?_,?_,trivial⟩<;>simp[IR,QK,Qo g,Qo a]
def vK{x:Sc}(h:BF x 6≠true):(B1 x).length=4+2*x.rs.length:=by
 grind [B1,GX,jI]
def aHH(s:Bs):aDj s=Cq s:=by
 unfold aDj Cq;by_cases n:s.length<4
 ·have e3:∀p e,e≠0->(Dz s).2.2.2=e->Og s.length p e=e:=λp e h _=>by unfold Og;rw[if_pos h]
  have:(Dz s).2.2.2=3:=by
   have na:(FT s).2.2=3:=by
    unfold FT ME HW Ni;rcases s with _|⟨a,_|⟨b,_|⟨c,_|⟨d,t⟩⟩⟩⟩
    all_goals first|rfl|(simp only[Qr]at n;omega)
   unfold Dz;rw[PU _ _ _ (by rw[na];decide),na]
  rw[if_pos (.inl n),this,if_pos (by unfold Og;rfl)]
 have n1:Ni s=(IR s 0,1,0):=LE O;have n2:HW s=(IR s 1,2,0):=by unfold HW;rw[n1];exact LE (show 1<s.length by omega)
 have n3:ME s=(IR s 2,3,0):=by unfold ME;rw[n2];exact LE (show 2<s.length by omega)
 have n4:FT s=(IR s 3,4,0):=by unfold FT;rw[n3];exact LE (show 3<s.length by omega)
 have hA:Dz s=GQ s (s.getD 3 0).toNat 4 0:=by unfold Dz;rw[n4];rfl
 by_cases hs:s.length<4+2*(s.getD 3 0).toNat
 ·grind [Dz,oU,Og]
 rw[if_neg (by simp only[not_or];exact⟨n,hs⟩)];have hR:=oT (s:=s) (s.getD 3 0).toNat 4 O;rw[←hA]at hR;have v:(s.getD 3 0).toNat<256:=(s.getD 3 0).toNat_lt;have ia:(FT s).1.toNat=(s.getD 3 0).toNat:=by rw[n4];rfl
 have ma:(Ez s).rs.length=(s.getD 3 0).toNat:=by simp[Ez,HN]
 by_cases g:s.length=4+2*(s.getD 3 0).toNat∧IR s 1<=1∧∀i,i<(s.getD 3 0).toNat->IR s (4+2*i+1)<=3
 ·obtain⟨g1,g2,g3⟩:=g;have ex:U7 s=Ez s:=by
   unfold U7 Ez;rw[n1,n2,n3,ia,hR];congr 1;unfold HN;refine Zu λi hi=>?_
   have:=g3 i (Zo.1 hi);have b0:=S2 s (4+2*i+1);unfold rwV rwU;rw[show(IR s (4+2*i+1) / 2) % 2=IR s (4+2*i+1) / 2 by omega]
  have j:(decide (1<(HW s).1)||(Dz s).2.1)=false:=by
   grind
  have r:Og s.length (Dz s).2.2.1 (Dz s).2.2.2=0:=by
   rw[hR];unfold Og;rw[if_neg U,if_neg Xb]
  rw[r,j,ex,if_neg (show ¬((0:Int)=3)by decide)];by_cases hb:BF (Ez s) 6=true
  ·simp_all
  ·have m:B1 (Ez s)=s:=by
    unfold B1;rw[if_neg hb];have q:=Ue (s:=s) (s.getD 3 0).toNat 4 O g3;have f:GX (Db (Ez s).rs)=s.drop 4:=by
     rw[show(Ez s).rs=HN s 4 (s.getD 3 0).toNat from rfl,q,Qu Xt]
    have y:∀a b:List Int,GX (a++b)=GX a++GX b:=λa b=>Q3
    rw[y,f,ma];have ua:MG (Ez s).cas=IR s 1:=by
     have b1:=S2 s 1;show MG (decide (IR s 1=1))=_;unfold MG;by_cases u:IR s 1=1
     ·rw[decide_eq_true u,if_pos rfl,u]
     ·rw[decide_eq_false u,if_neg Z];omega
    rw[ua];have w:∀x:Int,0<=x∧x<256->IntKind.u8.wrap x=x:=λx h=>by show x % 256=x;omega
    rw[w ((Ez s).mx) (S2 s 0),w ((Ez s).la) (S2 s 2),w _ O];rcases s with _|⟨a,_|⟨b,_|⟨c,_|⟨d,t⟩⟩⟩⟩
    all_goals first|(simp only[Qr,QC]at n;omega)|skip
    simp[GX,Ez,IR]
   rw[if_neg (by simp only[not_or];exact⟨hb,by simp[m]⟩),if_neg (by simp only[not_or];exact⟨Z,Z,hb⟩)]
 ·have z:BF (Ez s) 6=true∨B1 (Ez s)≠s:=by
   by_cases hb:BF (Ez s) 6=true
   ·exact .inl hb
   ·refine .inr λm=>g ?_
    have ka:=vK hb;rw[m,ma]at ka;refine⟨ka,?_,λi hi=>?_⟩
    ·have:=congrArg (λl=>IR l 1) m;rw[←this];unfold B1;rw[if_neg hb];cases(Ez s).cas
     ·exact(show(0:Int)<=1 by decide)
     ·exact(show(1:Int)<=1 by decide)
    ·have:=congrArg (λl=>IR l (4+2*i+1)) m;rw[←this];unfold B1;rw[if_neg hb];have hf:=Uf (Ez s).rs i (by rw[ma];exact hi);unfold IR;rw[show 4+2*i+1=(2*i+1)+1+1+1+1 by omega];have:((GX (Db (Ez s).rs)).getD (2*i+1) 0).toNat<=3:=hf
     exact_mod_cast this
  rw[if_pos z];have k:Og s.length (Dz s).2.2.1 (Dz s).2.2.2≠0∨(decide (1<(HW s).1)||(Dz s).2.1)=true:=by
   rw[hR,n2];by_cases c1:s.length=4+2*(s.getD 3 0).toNat
   ·right;by_cases c2:IR s 1<=1
    ·rw[ZF];right;refine Zq.2 ?_;have:¬∀i,i<(s.getD 3 0).toNat->IR s (4+2*i+1)<=3:=λh=>g ⟨c1,c2,h⟩
     simp only[Classical.not_forall,Int.not_le]at this;obtain⟨i,hi,o⟩:=this;exact⟨i,Zo.2 hi,decide_eq_true o⟩
    ·rw[ZF];left;exact decide_eq_true Xb
   ·left;unfold Og;rw[if_neg U,if_pos Xb];decide
  have r:Og s.length (Dz s).2.2.1 (Dz s).2.2.2≠3:=by
   rw[hR];unfold Og;rw[if_neg U];split<;>decide
  rw[if_neg r];rcases k with h|h
  ·rw[if_pos (.inl h)]
  ·rw[if_pos (.inr (.inl h))]
def gU:=AB [(211,Af TN),(217,Af bH)]
def aSG:=RF gU aM9 [.t 2] 75
def aWN:Kq aSG 275:=Az (Ai func275) (Aa qD (Aa aBJ Ad))
def aI2(k n:Int)(name:Bs)(w:name.length<=1000000):aSG [.agg [.int .u8 k,.str name,.int .i64 n]]=some (.int .i64 (Cm k name n)):=by
 refine Aq (Qn rfl) ?_;unfold aM9;have a:TN [.str name]=some (.int .i64 (Bf name)):=if_pos w;have c:bH [.str name]=some (.bool (BV name)):=rfl;unfold Cm;generalize Bf name=r at *;generalize BV name=b at *;by_cases d:k<1∨5<k
 ·have e:(if k=1 then(if n=0∧r=0 then(0:Int)else 2)else if k=2 then(if 1<=n∧n<=30∧r=0 then 0 else 2)else if k=3 then(if n=0∧b=true then 0 else 2)else if k=4∨k=5 then(if n=0∧name=[]then 0 else 2)else 22)=22:=by
   rw[if_neg O,if_neg O,if_neg O,if_neg O]
  rw[e];have h:True:=trivial
  repeat' (first|(refine aD (λh=>?_) (λh=>?_)<;>try (exfalso;omega))|refine Al ?_ |(simp only[↓C2,Ie,simprocAttr,h,decide_true,decide_false,Zl,Ac gU 211,a]))
  all_goals exact Qi
 rcases(by omega:k=1∨k=2∨k=3∨k=4∨k=5)with rfl|rfl|rfl|rfl|rfl
 ·by_cases j:r=0<;>by_cases c2:n=0
  all_goals
   simp only[↓C2,Ie,simprocAttr,Ac gU 211,a,j,c2,decide_true,decide_false,and_true,and_false,and_self,false_and,true_and]
   all_goals exact Qi
 ·by_cases j:r=0<;>by_cases c2:1<=n<;>by_cases p:n<=30
  all_goals
   simp only[↓C2,Ie,simprocAttr,Ac gU 211,a,j,c2,p,decide_true,decide_false,and_true,and_false,and_self,false_and,true_and]
   all_goals exact Qi
 ·cases b<;>by_cases c2:n=0
  all_goals
   simp only[↓C2,Ie,simprocAttr,Ac gU 211,a,Ac gU 217,c,c2,decide_true,decide_false,and_true,and_false,and_self,false_and,true_and]
   all_goals exact Qi
 all_goals
  by_cases c2:n=0
  all_goals
   by_cases j:name=[]
   ·have d1:decide (name=[])=true:=decide_eq_true j;simp only[↓C2,Ie,simprocAttr,Ac gU 211,a,d1,c2,decide_true,decide_false]
    all_goals exact Qi
   ·have d1:decide (name=[])=false:=decide_eq_false j;simp only[↓C2,Ie,simprocAttr,Ac gU 211,a,d1,c2,decide_true,decide_false]
    all_goals exact Qi
def aRV:=AB [(275,Af aSG)]
def zS:=RF aRV aOs [.t 2,.t 3] 37
def qV:Kq zS 175:=Az (Ai func175) (Aa aWN Ad)
def RU(k n:Int)(name:Bs)(q:name.length<=1000000):zS [.agg [.int .u8 k,.str name,.int .i64 n]]=some (.tup [.str (AO k name n),.int .i64 (Cm k name n)]):=by
 refine Aq (Qn rfl) ?_;unfold aOs;have a:=aI2 k n name q;have d:Cm k name n=0->1<=k∧k<=5:=λh=>by unfold Cm at h;repeat' split at h;all_goals first|omega|cases h
 have t:∀x y,AJ .add (.str [x,y]) (.str name)=some (.str ([x,y]++name)):=λx y=>BY XV
 have i:∀x y z w,AJ .add (.str ([x,y]++name)) (.str [z,w])=some (.str ([x,y]++name++[z,w])):=λx y z w=>BY XI
 unfold AO;by_cases e:Cm k name n=0
 ·have j:=d e;rw[e]at a ⊢;rcases(by omega:k=1∨k=2∨k=3∨k=4∨k=5)with rfl|rfl|rfl|rfl|rfl
  all_goals
   simp only[↓C2,Ie,simprocAttr,Ac aRV 275,a,t,i]
   all_goals exact Qi
 ·simp only[↓C2,Ie,simprocAttr,Ac aRV 275,a,e]
  all_goals exact Qi
def S80:=AB [(175,Af zS)]
def R80:=RF S80 aXZ [.t 2] 12
def aQV:Kq R80 80:=Az (Ai func80) (Aa qV Ad)
def Pd(p:Bs)(w:p.length<=1000000):R80 [.str p]=some (.str (AO 1 p 0)):=by
 refine Aq (Qn rfl) ?_;unfold aXZ;have y:=RU 1 0 p w;simp only[↓C2,Ie,simprocAttr,Ac S80 175,y]
 all_goals exact Qi
def aZc:=AB [(175,Af zS)]
def aSY:=RF aZc aOv [.t 2] 12
def aXg:Kq aSY 171:=Az (Ai func171) (Aa qV Ad)
def tH(p:Bs)(w:p.length<=1000000):aSY [.str p]=some (.str (AO 3 p 0)):=by
 refine Aq (Qn rfl) ?_;unfold aOv;have y:=RU 3 0 p w;simp only[↓C2,Ie,simprocAttr,Ac aZc 175,y]
 all_goals exact Qi
def S84:=AB [(175,Af zS)]
def R84:=RF S84 aXW [.t 4] 15
def aQU:Kq R84 84:=Az (Ai func84) (Aa qV Ad)
def nZ(p:Bs)(n:Int)(w:p.length<=1000000):R84 [.str p,.int .i64 n]=some (.str (AO 2 p n)):=by
 refine Aq (Qn rfl) ?_;unfold aXW;have y:=RU 2 n p w;simp only[↓C2,Ie,simprocAttr,Ac S84 175,y]
 all_goals exact Qi
def SU:=y2 f281 [] []
def aC0:Fn Qq 281 17 SU [.t 2]:=Ai func281
def aM3:=y2 f283 [] []
def Wg:=y3 f284 3 [] []
def aM2:=y2 f284 [] [(3,Wg)]
def Wf:=y3 f285 3 [] []
def aM1:=y2 f285 [] [(3,Wf)]
def Wa:=y3 f351 4 [] []
def aMq:=y2 f351 [] [(4,Wa)]
def rN:=y3 f352 4 [] []
def aMp:=y2 f352 [] [(4,rN)]
def IZ:=y3 f280 9 [] []
def SV:=y2 f280 [(13,[(5,4)])] [(9,IZ)]
def aOk:=y2 f184 [(11,[(2,6)]),(13,[(3,8),(3,14),(3,19),(9,14),(9,19),(15,19)])] []
def aOz:=y2 f166 [] []
def aXV:=y2 f85 [] []
def aX3:=y2 f75 [(1,[(1,2)])] []
def aX1:=y2 f78 [] []
def aOy:=y2 f167 [] []
def aOx:=y2 f168 [] []
def mG:=y3 f79 2 [] []
def aX0:=y2 f79 [] [(2,mG)]
def aXY:=y2 f81 [] []
def dg1(n:Nat)(h:n<10):UInt8.ofNat (IntKind.u8.wrap (IntKind.i64.wrap (48+(n:Int)))).toNat=H_ n:=by have:=dgO n;rwa [Nat.mod_eq_of_lt h]at this
def aY5:=AB []
def sR:=RF aY5 SU [.t 2] 17
def aQX:Kq sR 281:=Az aC0 Ad
def gZ(n:Nat)(h:n<10):sR [.int .i64 (n:Int)]=some (.str (BC n)):=by
 refine Aq (Qn rfl) ?_;unfold SU;have f:=h
 first
 |have l:=dg1 n O
  have c:(n:Int)<10:=O
  unfold BC;rw[if_pos O];simp only[↓C2,Ie,simprocAttr,c,decide_true,un1,l]
  all_goals exact Qi
def aPw:=AB [(281,Af sR)]
def aED:=RF aPw SU [.t 2] 17
def aQW:Kq aED 281:=Az aC0 (Aa aQX Ad)
def gY(n:Nat)(h:n<100):aED [.int .i64 (n:Int)]=some (.str (BC n)):=by
 refine Aq (Qn rfl) ?_;have a:aPw 281=some (Af sR):=rfl;unfold SU;have l:=dg1 n;have y:AJ .rem (.int .i64 (n:Int)) (.int .i64 10)=some (.int .i64 ((n % 10:Nat):Int)):=by rw[←M8];rfl
 have s:AJ .quo (.int .i64 (n:Int)) (.int .i64 10)=some (.int .i64 ((n / 10:Nat):Int)):=by rw[←M9 n O];rfl
 have g:=gZ (n / 10) O;have w:=gZ (n % 10) O;have q:AJ .add (.str (BC (n / 10))) (.str (BC (n % 10)))=some (.str (BC (n / 10)++BC (n % 10))):=BY Qb;by_cases j:n<10
 ·have c:(n:Int)<10:=by omega
  have l:=dg1 n j;unfold BC;rw[if_pos j];simp only[↓C2,Ie,simprocAttr,c,decide_true,un1,l]
  all_goals exact Qi
 ·have c:((n:Int)<10)=False:=eq_false O;have f:BC n=BC (n / 10)++BC (n % 10):=by
   grind [BC]
  rw[f];simp only[↓C2,Ie,simprocAttr,c,decide_false,y,s,Ab a,g,w,q]
  all_goals exact Qi
def aY6:=AB [(281,Af aED)]
def aIY:=RF aY6 SU [.t 2] 17
def aLH:Kq aIY 281:=Az aC0 (Aa aQW Ad)
def Mw(n:Nat)(h:n<1000):aIY [.int .i64 (n:Int)]=some (.str (BC n)):=by
 refine Aq (Qn rfl) ?_;unfold SU;have l:=dg1 n;have y:AJ .rem (.int .i64 (n:Int)) (.int .i64 10)=some (.int .i64 ((n % 10:Nat):Int)):=by rw[←M8];rfl
 have s:AJ .quo (.int .i64 (n:Int)) (.int .i64 10)=some (.int .i64 ((n / 10:Nat):Int)):=by rw[←M9 n O];rfl
 have g:=gY (n / 10) O;have w:=gY (n % 10) O;have q:AJ .add (.str (BC (n / 10))) (.str (BC (n % 10)))=some (.str (BC (n / 10)++BC (n % 10))):=BY Qb;by_cases j:n<10
 ·have c:(n:Int)<10:=by omega
  have l:=dg1 n j;unfold BC;rw[if_pos j];simp only[↓C2,Ie,simprocAttr,c,decide_true,un1,l]
  all_goals exact Qi
 ·have c:((n:Int)<10)=False:=eq_false O;have f:BC n=BC (n / 10)++BC (n % 10):=by
   grind [BC]
  rw[f];simp only[↓C2,Ie,simprocAttr,c,decide_false,y,s,Ac aY6 281,g,w,q]
  all_goals exact Qi
def bBh:=AB []
def aSE:=RF bBh aM3 [.t 2] 4
def aWJ:Kq aSE 283:=Az (Ai func283) Ad
def aIX(b:Bool):aSE [.bool b]=some (.str [if b=true then 49 else 48]):=by
 refine Aq (Qn rfl) ?_;unfold aM3;cases b
 all_goals
  simp only[↓C2,Ie,simprocAttr]
  all_goals exact Qi
def bA7:=AB []
def aSm:=RF bA7 aMq [.t 2] 32
def aWp:Kq aSm 351:=Az (Ai func351) Ad
def aGH{s:Bs}{k:Nat}(h:k<s.length)(u:s[k]≠32)(q:s[k]≠44)(f:((s.take k).any λc=>c==32||c==44)=false):((s.take (k+1)).any λc=>c==32||c==44)=false:=by
 rw[Zp,Qo h,ZW,f];simp[u,q]
def aQp(s:Bs):(!MY s 32&&!MY s 44)=!(s.any λc=>c==32||c==44):=by
 grind [MY]
def aID(s:Bs)(w:s.length<=10000000):aSm [.str s]=some (.bool (Tr s)):=by
 refine Aq (Qn rfl) ?_;unfold aMq;unfold Tr;rw[aQp];by_cases y:s.length<1
 ·have:s=[]:=QX.1 O;subst this;have e1:((([]:Bs).length:Int)<1)=True:=eq_true Z;simp only[↓C2,Ie,simprocAttr,e1]
  all_goals exact Qi
 have n1:s≠[]:=λe=>by rw[e]at y;exact y Z
 have e1:((s.length:Int)<1)=False:=eq_false O;rw[decide_eq_true n1,Zz];by_cases c2:64<s.length
 ·have e2:((64:Int)<s.length)=True:=eq_true O;have e3:decide (s.length<=64)=false:=decide_eq_false O;rw[e3];simp only[↓C2,Ie,simprocAttr,e1,e2,decide_true,decide_false,Zv,Bool.and_false]
  all_goals exact Qi
 have e2:((64:Int)<s.length)=False:=eq_false O;have e3:decide (s.length<=64)=true:=decide_eq_true O;rw[e3];by_cases p:s=[45]
 ·have e4:decide (s=[45])=true:=decide_eq_true p;have e5:decide (s≠[45])=false:=decide_eq_false Xz;rw[e5];simp only[↓C2,Ie,simprocAttr,e1,e2,e4,decide_true,decide_false,Zv]
  all_goals exact Qi
 have e4:decide (s=[45])=false:=decide_eq_false p;have e5:decide (s≠[45])=true:=decide_eq_true p;rw[e5,Zz,Zz];simp only[↓C2,Ie,simprocAttr,e1,e2,e4,decide_true,decide_false];refine AV (n:=s.length) (I:=λk z=>z.s 0= .str s∧z.s 3= .int .i64 (k:Int)∧((s.take k).any λc=>c==32||c==44)=false) (λk j ih z g t=>?_) (λz g t=>?_) 0 (Qz _) _ _ ⟨rfl,rfl,rfl⟩
 ·obtain⟨i,f,b⟩:=z;obtain⟨r,o,x⟩:=t;simp only at r o;refine Ae Wa.eq_1 ?_;have v:((k:Int)<s.length)=True:=eq_true O;have u:(0:Int)<=(k:Int):=by omega
  have l:IntKind.i64.wrap ((k:Int)+1)=((k+1:Nat):Int):=Iz O O;have d:s[k]?=some s[k]:=Qo j;have m:∀n:UInt8,((s[k].toNat:Int)=(n.toNat:Int))=(s[k]=n):=λn=>by
   refine propext ⟨λh=>UInt8.toNat_inj.1 O,λh=>by rw[h]⟩
  have u1:((s[k].toNat:Int)=32)=(s[k]=32):=m 32;have u2:((s[k].toNat:Int)=44)=(s[k]=44):=m 44;by_cases a:s[k]=32
  ·have hy:(s.any λc=>c==32||c==44)=true:=Zq.2 ⟨s[k],QB j,by simp[a]⟩;rw[hy];simp only[↓C2,Ie,simprocAttr,r,o,v,u,Qp,d,u1,u2,eq_true a,decide_true]
   all_goals exact Qi
  by_cases q:s[k]=44
  ·have hy:(s.any λc=>c==32||c==44)=true:=Zq.2 ⟨s[k],QB j,by simp[q]⟩;rw[hy];simp only[↓C2,Ie,simprocAttr,r,o,v,u,Qp,d,u1,u2,eq_false a,eq_true q,decide_true,decide_false]
   all_goals exact Qi
  simp only[↓C2,Ie,simprocAttr,r,o,v,u,Qp,d,u1,u2,eq_false a,eq_false q,decide_true,decide_false,l];exact ih _ _ ⟨r,rfl,aGH j a q x⟩
 ·obtain⟨i,f,b⟩:=z;obtain⟨r,o,x⟩:=t;simp only at r o;refine Ae Wa.eq_1 ?_;have v:((s.length:Int)<s.length)=False:=eq_false O;rw[Qu (Qs _)]at x;rw[x];simp only[↓C2,Ie,simprocAttr,r,o,v]
  all_goals exact Qi
def bA6:=AB []
def gW:=RF bA6 aMp [.t 4] 52
def aWo:Kq gW 352:=Az (Ai func352) Ad
def Ot:gW [.agg (Ik sc0),.agg (Ik sc0)]=some (.bool true):=by
 refine Aq (Qn rfl) ?_;unfold aMp;have w:(AU ([]:List Rw)).length=0:=rfl;unfold sc0 Ik;generalize AU []=l at *;simp only[↓C2,Ie,simprocAttr,w];refine Ae rN.eq_1 ?_;have u:((0:Int)<((l.length:Nat):Int))=False:=eq_false O;simp only[↓C2,Ie,simprocAttr,u]
 all_goals exact Qi
theorem aBs{l:List Rw}{n:Int}{k:Nat}(j:k<l.length)(e:l[k].1=n)(h:∀i (hi:i<k),(l[i]'(by omega)).1≠n):Lx l n=k:=by
 unfold Lx Bc;rw[show Z_ id (l.map λr=>decide (r.1=n))=some k from ?_];rw[Q2];refine⟨by simpa using j,by simp[e],λi hi=>?_⟩;have:=h i hi;simpa using this
theorem aBr{l:List Rw}{n:Int}(h:∀i (hi:i<l.length),l[i].1≠n):Lx l n=-1:=by
 unfold Lx Bc;rw[show Z_ id (l.map λr=>decide (r.1=n))=none from ?_];rw[Zw];intro b j;obtain⟨x,p,rfl⟩:=QN.1 j;obtain⟨i,hi,rfl⟩:=Q4 p;have:=h i hi;simpa using this
def S83:=AB [(182,Af hZ),(183,Af zQ)]
def R83:=RF S83 aXX [.cell (some 3) 4,.t 5] 50
def bAs:Kq R83 83:=Az (Ai func83) (Aa Px (Aa UD Ad))
def aR2(s:Sc)(n:Int)(w:s.rs.length<=1000):R83 [.agg (Ik s),.int .i64 n]=some (.tup [.agg [.int .i64 (El s n).1.1,.bool (El s n).1.2.1,.bool (El s n).1.2.2],.int .i64 (El s n).2]):=by
 refine Aq (Qn rfl) ?_;unfold aXX;have y:=FE s 6 false w;have qa:=Ib;have f:=@GK s 6;unfold El;unfold Ik at *;cases hb:BF s 6 with
 |true=>
  rw[hb]at y;rw[if_pos rfl];simp only[↓C2,Ie,simprocAttr,Ac S83 182,Ac S83 183,y,qa,Qt];refine Al ?_;simp only[↓C2,Ie,simprocAttr,Qv]
  all_goals exact Qi
 |false=>
  rw[hb]at y;rw[if_neg Z];have ra:∀x∈s.rs,1<=x.1:=λx hx=>by have:=(Sd (f hb).2.2.2.2.1 x hx).1;omega
  simp only[↓C2,Ie,simprocAttr,Ac S83 182,Ac S83 183,y,qa,Qv];refine Al ?_;simp only[↓C2,Ie,simprocAttr,Qt,Qv];refine AV (n:=s.rs.length) (I:=λk z=>z.s 1= .int .i64 n∧z.s 2= .ptr [0] 0∧z.s 4= .ptr [1] 0∧z.s 6= .int .i64 (k:Int)∧z.m [0] 3=some (.slice s.nl [] (AU s.rs))∧2<=z.c∧(z.m [1] 0=some (.int .i64 0)∧z.m [1] 1=some (.bool false)∧z.m [1] 2=some (.bool false))∧(∀i (hi:i<s.rs.length),i<k->s.rs[i].1≠n)∧(n=0->k≠s.rs.length∨s.rs.length=0)) (λk hk ih z g hI=>?_) (λz g hI=>?_) 0 (Qz _) _ _ ⟨rfl,rfl,rfl,rfl,rfl,Xb,⟨rfl,rfl,rfl⟩,λ_ _ h=>absurd h (Zi _),λ_=>O⟩
  ·obtain⟨ja,da,fa⟩:=z;obtain⟨u,t,h4,h6,hm,hc,⟨b0,b1,b2⟩,ha,hz⟩:=hI;simp only at u t h4 h6 hm hc b0 b1 b2;refine Ae mF.eq_1 ?_;have v:((k:Int)<s.rs.length)=True:=eq_true O;have oa:(0:Int)<=(k:Int):=by omega
   have hw:IntKind.i64.wrap ((k:Int)+1)=((k+1:Nat):Int):=Iz O O;have w1:IntKind.i64.wrap ((s.rs.length:Int)-1)=(s.rs.length:Int)-1:=Iz O O;have ga:=C8 hk;have eb:=ra _ (QB hk);have ma:∀j,fa+j≠0:=λj=>O
   have hp:∀(c:Nat)(l:List D)(o:Nat),2<=c->(Ig.put da [c] o l) [0] 3=some (.slice s.nl [] (AU s.rs)):=λc l o h=>by rw[aA Xc];exact hm
   have la:∀(c:Nat)(l:List D)(o p:Nat),2<=c->(Ig.put da [c] o l) [1] p=da [1] p:=λc l o p h=>aA Xc
   have ca:2<=fa+5+5:=O
   have bb:s.rs.getD k rw0=s.rs[k]:=by simp only[QK,Qo hk,Q_]
   by_cases ka:s.rs[k].1=n∨(n=0∧k=s.rs.length-1)
   ·have hf:E8 s n=k:=by
     unfold E8;by_cases h0:n=0
     ·rw[if_pos h0];omega
     ·grind [aBs]
    rw[hf,if_neg O,Qp,bb];generalize s.rs[k]=x at ga ka eb;obtain⟨xn,g1,d1⟩:=x;simp only at ga ka eb ⊢;have e1:∀b:Bool,(if b=true then(if(xn=n)=True then b else b)else b)=b:=λb=>by cases b<;>simp
    by_cases e:xn=n
    ·cases g1<;>cases d1
     all_goals
      simp only[↓C2,Ie,simprocAttr,u,t,h4,h6,hm,hp,la,ca,b0,b1,b2,v,oa,Qp,ga,As,e,decide_true,decide_false]
      all_goals exact Qi
    ·have e2:n=0:=by omega
     have e3:decide ((k:Int)=(s.rs.length:Int)-1)=true:=decide_eq_true O;subst e2;cases g1<;>cases d1
     all_goals
      simp only[↓C2,Ie,simprocAttr,u,t,h4,h6,hm,hp,la,ca,b0,b1,b2,v,oa,Qp,ga,As,e,e3,w1,decide_true,decide_false]
      all_goals exact Qi
   ·have e:s.rs[k].1≠n:=λe=>ka (.inl e)
    have a:∀i (hi:i<s.rs.length),i<k+1->s.rs[i].1≠n:=λi hi q=>by
     rcases ZM i k with h|h
     ·exact ha i hi h
     ·grind
    have ya:n=0->k+1≠s.rs.length∨s.rs.length=0:=λh0=> .inl λh=>ka (.inr ⟨h0,O⟩)
    have e3:n=0->decide ((k:Int)=(s.rs.length:Int)-1)=false:=λh0=>decide_eq_false (λh=>ka (.inr ⟨h0,O⟩))
    generalize s.rs[k]=x at ga e;obtain⟨xn,g1,d1⟩:=x;simp only at ga e;have hq:∀l l' (r p:Nat),r<2->((Ig.put da [fa+5+5] 0 l).put [fa+5+5] 0 l') [r] p=da [r] p:=λl l' r p hr=>by rw[aA Xc,aA Xc]
    by_cases h0:n=0
    ·have d:=e3 h0;subst h0;simp only[↓C2,Ie,simprocAttr,u,t,h4,h6,hm,hp,la,ca,v,oa,Qp,ga,As,e,d,w1,decide_true,decide_false,hw];refine ih _ _ ⟨u,t,h4,rfl,?_,Xb,⟨?_,?_,?_⟩,a,ya⟩
     all_goals (simp only;rw[hq _ _ _ _ Z];assumption)
    ·simp only[↓C2,Ie,simprocAttr,u,t,h4,h6,hm,hp,la,ca,v,oa,Qp,ga,As,e,h0,decide_true,decide_false,hw];refine ih _ _ ⟨u,t,h4,rfl,?_,Xb,⟨?_,?_,?_⟩,a,ya⟩
     all_goals (simp only;rw[hq _ _ _ _ Z];assumption)
  ·obtain⟨ja,da,fa⟩:=z;obtain⟨u,t,h4,h6,hm,hc,⟨b0,b1,b2⟩,ha,hz⟩:=hI;simp only at u t h4 h6 hm hc b0 b1 b2;refine Ae mF.eq_1 ?_;have v:((s.rs.length:Int)<s.rs.length)=False:=eq_false O;have hf:E8 s n<0:=by
    grind [E8,aBr]
   rw[if_pos hf];simp only[↓C2,Ie,simprocAttr,u,t,h4,h6,hm,v,As,b0,b1,b2]
   all_goals exact Qi
def LG.low_put{l e c o q:Nat}{m:Ig}{nl:Bool}{t:Id}{ds:List D}(h:LG l m e m c nl t)(s:q<l):LG l (m.put [q] o ds) e (m.put [q] o ds) c nl t:=by
 obtain⟨_,h2,y⟩:=h;refine⟨λ_ _ _=>rfl,?_,y⟩;rcases h2 with h2|⟨j,rfl,a,b,d⟩
 ·exact .inl h2
 ·grind [aA]
def LG.base{l e c:Nat}{m0 m:Ig}{nl:Bool}{t:Id}(h:LG l m0 e m c nl t):LG l m e m c nl t:=⟨λ_ _ _=>rfl,h.tok,h.le⟩
def aGv{m:Ig}{i j:Id}{o p:Nat}{ds:List D}(l:ds.length=1)(h:¬(j=i∧p=o)):(m.put i o ds) j p=m j p:=by
 grind [Ig.put]
def aRN:=AB [(279,Af aEE)]
def aI0:=RF aRN aM7 [.cell (some 4) 4,.t 5] 30
def aLJ:Kq aI0 277:=Az (Ai func277) (Aa aLI Ad)
def sT(s:Sc)(q:Int)(b:Bool)(w:s.rs.length<=1000)(hk:0<=BE s q∧BE s q<=1000)(ta:s.nl=true->s.rs=[]):aI0 [.agg (Ik s),.agg [.int .i64 q,.bool b]]=some (.tup [.agg (Ik (Nu s q)),.slice (decide (CM s q=0)) [] (AE (Nv s q))]):=by
 refine Aq (Qn rfl) ?_;unfold aM7;have f:∀nl rs,aEE [.agg [.int .i64 s.mx,.bool s.cas,.int .i64 s.la,.slice nl [] (AU rs)],.agg [.int .i64 q,.bool b]]=some (.int .i64 (BE s q)):=λnl rs=>sS ⟨s.mx,s.cas,s.la,nl,rs⟩ q b
 have u:CM s q=s.rs.length-(BE s q).toNat:=rfl;unfold Ik at *;simp only[↓C2,Ie,simprocAttr];refine AV (n:=CM s q) (I:=λj z=>z.s 2= .ptr [0] 0∧z.s 3= .ptr [1] 0∧z.s 4= .ptr [2] 0∧(∃t,z.s 6= .slice (decide (j=0)) t (AE ((s.rs.take j).map (·.1)))∧LG 3 z.m 3 z.m z.c (decide (j=0)) t)∧z.m [0] 0=some (.int .i64 s.mx)∧z.m [0] 1=some (.bool s.cas)∧z.m [0] 2=some (.int .i64 s.la)∧(∃t,z.m [0] 3=some (.slice s.nl t (AU (s.rs.drop j))))∧z.m [1] 0=some (.int .i64 q)∧z.m [1] 1=some (.bool b)∧z.m [2] 0=some (.int .i64 0)∧z.m [2] 1=some (.bool false)∧z.m [2] 2=some (.int .i64 0)∧z.m [2] 3=some (.slice true [] [])) (λj hj ih z g hI=>?_) (λz g hI=>?_) 0 (Qz _) _ _ ⟨rfl,rfl,rfl,⟨_,rfl,LG.start Xb⟩,rfl,rfl,rfl,⟨_,rfl⟩,rfl,rfl,rfl,rfl,rfl,rfl⟩
 ·obtain⟨ja,da,fa⟩:=z;obtain⟨h2,h3,h4,⟨t6,h6,hG⟩,m0,m1,m2,⟨t3,m3⟩,n0,n1,p0,p1,p2,p3⟩:=hI;simp only at h2 h3 h4 h6 hG m0 m1 m2 m3 n0 n1 p0 p1 p2 p3;refine Ae Wi.eq_1 ?_;have ya:j<s.rs.length:=by omega
  have va:(s.rs.drop j).length=s.rs.length-j:=ZB;have v:(BE s q<((s.rs.drop j).length:Nat))=True:=eq_true (by rw[va];omega);have h:s.nl=false:=by
   grind
  have ga:(AU (s.rs.drop j))[0]?=some (.agg [.int .i64 s.rs[j].1,.bool s.rs[j].2.1,.bool s.rs[j].2.2]):=by
   grind [C8]
  have wa:(AU (s.rs.drop j)).drop 1=AU (s.rs.drop (j+1)):=by unfold AU;rw[←Z0,List.drop_drop]
  have z0:((0:Int):Int).toNat=0:=rfl;have l1:(1:Int)<=((AU (s.rs.drop j)).length:Nat):=by rw[As,va];omega
  rw[h]at m3;simp only[↓C2,Ie,simprocAttr,h2,h3,h4,h6,m0,m1,m2,m3,n0,n1,Ac aRN 279,f,As,v];refine Al ?_;simp only[↓C2,Ie,simprocAttr,h2,h3,h4,h6,m0,m1,m2,m3,n0,n1,As,v,decide_true,z0,ga,Zn,Bb];refine AF.intro ⟨by rw[Qx,QZ];omega,rfl,Xw⟩ ?_;have ia:=LG.app (xs:=AE ((s.rs.take j).map (·.1))) (hG.put (o:=0) (ds:=[.tok 4]) (c':=fa+7+6) O) (c':=fa+7+7) O (c2:=fa+7+9) O;simp only[↓C2,Ie,simprocAttr];generalize Ir.app (da.put [fa+7+6] 0 [.tok 4]) (Bm 3 [fa+7+7] (.slice (decide (j=0)) t6 (AE ((s.rs.take j).map (·.1)))))=M1 at ia ⊢;have k:=ia.low;have k3:=(k 0 3 Z).trans m3;have ua:(0:Int)<=1∧(1:Int)<=(((s.rs.drop j).length:Nat):Int):=⟨Z,by rw[va];omega⟩;have z1:(1:Int).toNat=1:=rfl;have na:(AU (s.rs.drop (j+1))).take ((s.rs.drop j).length-1)=AU (s.rs.drop (j+1)):=Qu (by rw[As,ZB,va];omega);simp only[↓C2,Ie,simprocAttr,h2,h3,h4,k3,wa,Fu,ua,As,z1,na];refine AF.intro ⟨Xt,.inr ⟨Xh,U⟩⟩ ?_;have q3:∀(c d e:Nat)(l l' i:List D)(r p:Nat),3<=c->3<=d->3<=e->r<3->(((M1.put [c] 0 l).put [d] 0 l').put [e] 0 i) [r] p=M1 [r] p:=λc d e l l' i r p y h2 h3 h4=>by
   rw[aA Xc,aA Xc,aA Xc]
  have a:∀x,3<=fa+7+9+x:=λx=>by have:=hG.le;omega
  simp only[↓C2,Ie,simprocAttr,h2,h3,h4,q3,a,k3];have hT:AE ((s.rs.take (j+1)).map (·.1))=AE ((s.rs.take j).map (·.1))++[.int .i64 s.rs[j].1]:=by
   rw[Qw ya,Q3];simp[AE]
  refine ih _ _ ⟨h2,h3,h4,⟨[fa+7+7],?_,?_⟩,?_,?_,?_,⟨[fa+7+9+4],?_⟩,?_,?_,?_,?_,?_,?_⟩
  ·rw[hT];by_cases qa:j=0
   ·subst qa;rfl
   ·show D.slice _ _ (if j=0 then _ else _)=_;rw[if_neg qa];rfl
  ·rw[qK];exact(ia.put.put.put.base.low_put Z).more Xb
  all_goals first|(simp only[qK];rw[h];simp[Ig.put,D.cells];done)|(simp only[qK];rw[aGv rfl Z,q3 _ _ _ _ _ _ _ _ O O O Z,k _ _ Z];assumption)
 ·obtain⟨ja,da,fa⟩:=z;obtain⟨h2,h3,h4,⟨t6,h6,hG⟩,m0,m1,m2,⟨t3,m3⟩,n0,n1,p0,p1,p2,p3⟩:=hI;simp only at h2 h3 h4 h6 hG m0 m1 m2 m3 n0 n1 p0 p1 p2 p3;refine Ae Wi.eq_1 ?_;have v:(BE s q<((s.rs.drop (CM s q)).length:Nat))=False:=eq_false Xt;simp only[↓C2,Ie,simprocAttr,h2,h3,h4,h6,m0,m1,m2,m3,n0,n1,p0,p1,p2,p3,Ac aRN 279,f,As,v];refine Al ?_;simp only[↓C2,Ie,simprocAttr,h2,h3,h4,h6,m0,m1,m2,m3,n0,n1,p0,p1,p2,p3,As,v,decide_false]
  all_goals exact Qi
def wB{l:List Bs}(h:l≠[])(y a:Bs):Lib.join (l++[y]) a=Lib.join l a++a++y:=by
 cases l with
 |nil=>exact absurd rfl h
 |cons x r=>
  rw[Zr,Lib.join_cons,Lib.join_cons];simp[Lib.joinTail]
def cG:∀a b:List Bs,Cg (a++b)=Cg a+Cg b
 |[],b=>by simp[Cg]
 |x::a,b=>by simp[Cg,cG a b];omega
def cF:∀{l:List Bs} {x:Bs},x∈l->x.length<=Cg l
 |y::l,x,h=>by
  rcases Q9.1 h with rfl|h
  ·simp[Cg]
  ·have:=cF h;simp only[Cg];omega
def LG.low2{l e c c' c2 q p:Nat}{m0 m:Ig}{nl:Bool}{t:Id}{ds xs:List D}(h:LG l m0 e m c nl t)(u:c<=c')(f:c<=c2)(s:q<l):Ir.app (m.put [c'] 0 ds) (Bm e [c2] (.slice nl t xs)) [q] p=m0 [q] p:=((h.put u).app f (Nat.lt_succ_self _)).low q p s
def bBg:=AB []
def aSD:=RF bBg aM2 [.t 2] 25
def aWI:Kq aSD 284:=Az (Ai func284) Ad
def sQ(nl:Bool)(l:List Bs)(h:l.length<=1000)(q:Cg l<=1000000):aSD [.slice nl [] (An l)]=some (.str (FY l)):=by
 refine Aq (Qn rfl) ?_;unfold aM2;have w:∀k,(Lib.join (l.take k) [44]).length<=1001000:=λk=>by
  have u:=EY (l.take k) [44];have o:Cg (l.take k)<=Cg l:=by
   have:=congrArg Cg (Za k l);rw[cG]at this;omega
  have b:(l.take k).length<=1000:=Xg
  simp only[Qr,QC,Z4,Zm]at u;omega
 simp only[↓C2,Ie,reduceIte,Nat.reduceEqDiff,Nat.reduceAdd,Nat.reduceLT,Nat.reduceLeDiff,Nat.reduceSub,reduceCtorEq,Int.reduceEq,Int.reduceNe,Int.reduceLT,Int.reduceLE];refine AV (n:=l.length) (I:=λk p=>p.s 0= .slice nl [] (An l)∧p.s 4= .int .i64 (k:Int)∧p.s 3= .str (Lib.join (l.take k) [44])) (λk j ih p g t=>?_) (λp g t=>?_) 0 (Qz _) _ _ ⟨rfl,rfl,rfl⟩
 ·obtain⟨c,f,fa⟩:=p;obtain⟨r,b,o⟩:=t;simp only at r o b;refine Ae Wg.eq_1 ?_;have v:((k:Int)<l.length)=True:=eq_true O;have oa:(0:Int)<=(k:Int):=by omega
  have hw:IntKind.i64.wrap ((k:Int)+1)=((k+1:Nat):Int):=Iz O O;have d:(An l)[k]?=some (.str l[k]):=by simp[An,Qo j]
  have ib:=cF (QB j);have b1:=w k;have m:l.take (k+1)=l.take k++[l[k]]:=Qw j;generalize l[k]=x at d ib m;by_cases z:k=0
  ·subst z;have e1:((0:Int)<((0:Nat):Int))=False:=eq_false Z;have a1:AJ .add (.str (Lib.join (l.take 0) [44])) (.str x)=some (.str x):=BY (a:=[]) (by simp only[QC,Zm];omega);have y:Lib.join (l.take (0+1)) [44]=x:=by rw[m];exact Lib.join_one _ _
   simp only[↓C2,Ie,reduceIte,Nat.reduceEqDiff,Nat.reduceAdd,Nat.reduceLT,Nat.reduceLeDiff,Nat.reduceSub,reduceCtorEq,Int.reduceEq,Int.reduceNe,Int.reduceLT,Int.reduceLE,r,o,b,v,Am,e1,oa,Qp,d,a1,hw];exact ih _ _ ⟨r,rfl,by rw[y];rfl⟩
  ·have e1:((0:Int)<(k:Int))=True:=eq_true O;have a1:AJ .add (.str (Lib.join (l.take k) [44])) (.str [44])=some (.str (Lib.join (l.take k) [44]++[44])):=BY Xc;have i:AJ .add (.str (Lib.join (l.take k) [44]++[44])) (.str x)=some (.str (Lib.join (l.take k) [44]++[44]++x)):=BY XI;have y:Lib.join (l.take (k+1)) [44]=Lib.join (l.take k) [44]++[44]++x:=by
    rw[m];exact wB (by intro e;have:=congrArg ZS e;rw[QZ,QC]at this;omega) _ _
   simp only[↓C2,Ie,reduceIte,Nat.reduceEqDiff,Nat.reduceAdd,Nat.reduceLT,Nat.reduceLeDiff,Nat.reduceSub,reduceCtorEq,Int.reduceEq,Int.reduceNe,Int.reduceLT,Int.reduceLE,r,o,b,v,Am,e1,oa,Qp,d,a1,i,hw];exact ih _ _ ⟨r,rfl,by rw[y];rfl⟩
 ·obtain⟨c,f,fa⟩:=p;obtain⟨r,b,o⟩:=t;simp only at r o b;refine Ae Wg.eq_1 ?_;have v:((l.length:Int)<l.length)=False:=eq_false O;rw[Qu (Qs _)]at o;unfold FY;by_cases e:l=[]
  ·have e1:((l.length:Int)=0)=True:=eq_true (by rw[e];rfl);rw[if_pos e];simp only[↓C2,Ie,reduceIte,Nat.reduceEqDiff,Nat.reduceAdd,Nat.reduceLT,Nat.reduceLeDiff,Nat.reduceSub,reduceCtorEq,Int.reduceEq,Int.reduceNe,Int.reduceLT,Int.reduceLE,r,o,b,v,Am,e1]
   all_goals exact Qi
  ·have e1:((l.length:Int)=0)=False:=eq_false (λh=>e (QX.1 O));rw[if_neg e];simp only[↓C2,Ie,reduceIte,Nat.reduceEqDiff,Nat.reduceAdd,Nat.reduceLT,Nat.reduceLeDiff,Nat.reduceSub,reduceCtorEq,Int.reduceEq,Int.reduceNe,Int.reduceLT,Int.reduceLE,r,o,b,v,Am,e1]
   all_goals exact Qi
def aY4:=AB [(281,Af aIY)]
def aSC:=RF aY4 aM1 [.t 2] 41
def aWH:Kq aSC 285:=Az (Ai func285) (Aa aLH Ad)
def aIW(s:Sc)(q:s.rs.length<=1000)(o:∀x∈s.rs,0<=x.1∧x.1<1000):aSC [.agg (Ik s)]=some (.slice (decide (s.rs.length=0)) [] (An (s.rs.map Cj))):=by
 refine Aq (Qn rfl) ?_;unfold aM1;unfold Ik;simp only[↓C2,Ie,simprocAttr];refine AV (n:=s.rs.length) (I:=λk p=>p.s 1= .ptr [0] 0∧p.s 4= .int .i64 (k:Int)∧p.m [0] 3=some (.slice s.nl [] (AU s.rs))∧∃t,p.s 3= .slice (decide (k=0)) t (An ((s.rs.take k).map Cj))∧LG 1 p.m 9 p.m p.c (decide (k=0)) t) (λk j ih p g hI=>?_) (λp g hI=>?_) 0 (Qz _) _ _ ⟨rfl,rfl,rfl,_,rfl,LG.start Xb⟩
 ·obtain⟨ja,f,fa⟩:=p;obtain⟨u,b,hm,t,y,hG⟩:=hI;simp only at u b hm y hG;refine Ae Wf.eq_1 ?_;have v:((k:Int)<s.rs.length)=True:=eq_true O;have oa:(0:Int)<=(k:Int):=by omega
  have l:IntKind.i64.wrap ((k:Int)+1)=((k+1:Nat):Int):=Iz O O;have r:=C8 j;have hs:An ((s.rs.take (k+1)).map Cj)=An ((s.rs.take k).map Cj)++[.str (Cj s.rs[k])]:=by
   rw[Qw j,Q3];simp[An]
  have i:=o _ (QB j);have a:=Mw s.rs[k].1.toNat O;rw[QF i.1]at a;have hn:=B6 s.rs[k].1.toNat;have ia:(An ((s.rs.take k).map Cj)).length=k:=by rw[Am,Qx,QZ];omega
  have fin:∀z,z=Cj s.rs[k]->(if k=0 then [D.str z]else An ((s.rs.take k).map Cj)++[.str z])=An ((s.rs.take (k+1)).map Cj):=λz e=>by
   rw[e,hs];split
   ·rename_i h;subst h;rfl
   ·rfl
  have wa:Cj s.rs[k]=BC s.rs[k].1.toNat++(if s.rs[k].2.1=true then [33]else [])++(if s.rs[k].2.2=true then [35]else []):=rfl;generalize BC s.rs[k].1.toNat=w at *;generalize Cj s.rs[k]=rw at *;generalize s.rs[k]=x at *;obtain⟨n,b1,b2⟩:=x;simp only at r a wa;have a1:∀c:UInt8,AJ .add (.str w) (.str [c])=some (.str (w++[c])):=λc=>BY Xc
  have a2:∀c d:UInt8,AJ .add (.str (w++[c])) (.str [d])=some (.str (w++[c]++[d])):=λc d=>BY Xc
  cases b1<;>cases b2
  all_goals
   simp only[if_true,if_false,Zk,Zl]at wa;simp only[↓C2,Ie,simprocAttr,u,b,hm,y,v,As,oa,Qp,r,Ac aY4 281,a,a1,a2];refine AF.intro ⟨by simp only[ia];omega,rfl,Xw⟩ ?_;simp only[↓C2,Ie,simprocAttr,b,l];refine ih _ _ ⟨u,rfl,?_,_,congrArg (D.slice false _) (fin _ wa.symm),?_⟩
   ·exact(hG.low2 O O Z).trans hm
   ·exact(hG.put.app O Xb).base
 ·obtain⟨ja,f,fa⟩:=p;obtain⟨u,b,hm,t,y,hG⟩:=hI;simp only at u b hm y hG;refine Ae Wf.eq_1 ?_;have v:((s.rs.length:Int)<s.rs.length)=False:=eq_false O;rw[Qu (Qs _)]at y;simp only[↓C2,Ie,simprocAttr,u,b,hm,y,v,As]
  all_goals exact Qi
def Pa:=AB [(182,Af hZ),(183,Af zQ),(351,Af aSm),(352,Af gW)]
def Ou:=RF Pa SV [.t 2] 125
def aWK:Kq Ou 280:=Az (Ai func280) (Aa Px (Aa UD (Aa aWp (Aa aWo Ad))))
def zO(e:Int)(x:1<=e∧e<=99)(l:List Bs)(w:l.length=0):Ou [.agg [.int .u8 0,.int .i64 e,.int .i64 0,.str [],.slice true [] (An l),.int .i64 0,.bool false,.int .i64 0,.slice true [] [],.bool false]]=some (.int .i64 0):=by
 refine Aq (Qn rfl) ?_;unfold SV;have y:gW [.agg [.int .i64 0,.bool false,.int .i64 0,.slice true [] []],.agg [.int .i64 0,.bool false,.int .i64 0,.slice true [] []]]=some (.bool true):=Ot;have u:(e=0)=False:=eq_false O;have e1:(e<1)=False:=eq_false O;have e2:(99<e)=False:=eq_false O;have q:IntKind.i64.wrap 0=0:=Z
 have k:((400:Int)<((([]:Bs).length:Nat):Int))=False:=eq_false Z;have v:((l.length:Nat):Int)=0:=O
 have o:((0:Int)<(l.length:Nat))=False:=eq_false O;have p:((64:Int)<(l.length:Nat))=False:=eq_false O;simp only[↓C2,Ie,simprocAttr,q,k,Am,o,p,ne_eq,not_true_eq_false,not_false_eq_true,decide_true,decide_false,u,e1,e2];refine Ae IZ.eq_1 ?_;simp only[↓C2,Ie,simprocAttr,Am,o,Ac Pa 352,y,ne_eq,not_false_eq_true,not_true_eq_false,decide_true,decide_false,q];refine Al ?_;simp only[↓C2,Ie,simprocAttr,Ac Pa 352,y,Qt,ne_eq,not_false_eq_true,decide_true,decide_false]
 all_goals exact Qi
def hJ(n:Int)(f:0<=n∧n<=999)(l:List Bs)(w:l.length=0):Ou [.agg [.int .u8 2,.int .i64 0,.int .i64 n,.str [],.slice true [] (An l),.int .i64 0,.bool false,.int .i64 0,.slice true [] [],.bool false]]=some (.int .i64 0):=by
 refine Aq (Qn rfl) ?_;unfold SV;have y:gW [.agg [.int .i64 0,.bool false,.int .i64 0,.slice true [] []],.agg [.int .i64 0,.bool false,.int .i64 0,.slice true [] []]]=some (.bool true):=Ot;have e1:(n<0)=False:=eq_false O;have e2:(999<n)=False:=eq_false O;have q:IntKind.i64.wrap 2=2:=Z
 have k:((400:Int)<((([]:Bs).length:Nat):Int))=False:=eq_false Z;have v:((l.length:Nat):Int)=0:=O
 have o:((0:Int)<(l.length:Nat))=False:=eq_false O;have p:((64:Int)<(l.length:Nat))=False:=eq_false O;simp only[↓C2,Ie,simprocAttr,q,k,Am,o,p,ne_eq,not_true_eq_false,not_false_eq_true,decide_true,decide_false,e1,e2];refine Ae IZ.eq_1 ?_;simp only[↓C2,Ie,simprocAttr,Am,o,Ac Pa 352,y,ne_eq,not_false_eq_true,not_true_eq_false,decide_true,decide_false,q];refine Al ?_;simp only[↓C2,Ie,simprocAttr,Ac Pa 352,y,Qt,ne_eq,not_false_eq_true,decide_true,decide_false]
 all_goals exact Qi
def oF(n:Int)(d:Bs)(f:0<=n∧n<=999)(u:d.length<=400)(l:List Bs)(w:l.length=0):Ou [.agg [.int .u8 3,.int .i64 0,.int .i64 n,.str d,.slice true [] (An l),.int .i64 0,.bool false,.int .i64 0,.slice true [] [],.bool false]]=some (.int .i64 0):=by
 refine Aq (Qn rfl) ?_;unfold SV;have y:gW [.agg [.int .i64 0,.bool false,.int .i64 0,.slice true [] []],.agg [.int .i64 0,.bool false,.int .i64 0,.slice true [] []]]=some (.bool true):=Ot;have e1:(n<0)=False:=eq_false O;have e2:(999<n)=False:=eq_false O;have e3:((400:Int)<(d.length:Nat))=False:=eq_false O;have q:IntKind.i64.wrap 3=3:=Z
 have k:((400:Int)<((([]:Bs).length:Nat):Int))=False:=eq_false Z;have v:((l.length:Nat):Int)=0:=O
 have o:((0:Int)<(l.length:Nat))=False:=eq_false O;have p:((64:Int)<(l.length:Nat))=False:=eq_false O;simp only[↓C2,Ie,simprocAttr,q,k,Am,o,p,ne_eq,not_true_eq_false,not_false_eq_true,decide_true,decide_false,e1,e2,e3];refine Ae IZ.eq_1 ?_;simp only[↓C2,Ie,simprocAttr,Am,o,Ac Pa 352,y,ne_eq,not_false_eq_true,not_true_eq_false,decide_true,decide_false,q];refine Al ?_;simp only[↓C2,Ie,simprocAttr,Ac Pa 352,y,Qt,ne_eq,not_false_eq_true,decide_true,decide_false]
 all_goals exact Qi
def oD(b:Bool)(l:List Bs)(w:l.length=0):Ou [.agg [.int .u8 6,.int .i64 0,.int .i64 0,.str [],.slice true [] (An l),.int .i64 0,.bool false,.int .i64 0,.slice true [] [],.bool b]]=some (.int .i64 0):=by
 refine Aq (Qn rfl) ?_;unfold SV;have y:gW [.agg [.int .i64 0,.bool false,.int .i64 0,.slice true [] []],.agg [.int .i64 0,.bool false,.int .i64 0,.slice true [] []]]=some (.bool true):=Ot;have q:IntKind.i64.wrap 6=6:=Z
 have k:((400:Int)<((([]:Bs).length:Nat):Int))=False:=eq_false Z;have v:((l.length:Nat):Int)=0:=O
 have o:((0:Int)<(l.length:Nat))=False:=eq_false O;have p:((64:Int)<(l.length:Nat))=False:=eq_false O;simp only[↓C2,Ie,simprocAttr,q,k,Am,o,p,ne_eq,not_true_eq_false,not_false_eq_true,decide_true,decide_false];refine Ae IZ.eq_1 ?_;simp only[↓C2,Ie,simprocAttr,Am,o,Ac Pa 352,y,ne_eq,not_false_eq_true,not_true_eq_false,decide_true,decide_false,q];refine Al ?_;simp only[↓C2,Ie,simprocAttr,Ac Pa 352,y,Qt,ne_eq,not_false_eq_true,decide_true,decide_false]
 all_goals exact Qi
def oG(s:Sc)(i:BF s 6=false)(l:List Bs)(w:l.length=0):Ou [.agg [.int .u8 4,.int .i64 0,.int .i64 0,.str [],.slice true [] (An l),.int .i64 s.mx,.bool s.cas,.int .i64 s.la,.slice s.nl [] (AU s.rs),.bool false]]=some (.int .i64 0):=by
 refine Aq (Qn rfl) ?_;unfold SV;have n:=Ib;have a:=(GK i).2.2.2.1;have y:=FE s 6 false O;rw[i]at y;unfold Ik at y;have q:IntKind.i64.wrap 4=4:=Z
 have k:((400:Int)<((([]:Bs).length:Nat):Int))=False:=eq_false Z;have v:((l.length:Nat):Int)=0:=O
 have o:((0:Int)<(l.length:Nat))=False:=eq_false O;have p:((64:Int)<(l.length:Nat))=False:=eq_false O;simp only[↓C2,Ie,simprocAttr,q,k,Am,o,p,ne_eq,not_true_eq_false,not_false_eq_true,decide_true,decide_false];refine Ae IZ.eq_1 ?_;simp only[↓C2,Ie,simprocAttr,Am,o,Ac Pa 183,Ac Pa 182,n,y,Qv,Qt,ne_eq,not_false_eq_true,not_true_eq_false,decide_true,decide_false,q];refine Al ?_;simp only[↓C2,Ie,simprocAttr,Qt,Qv,ne_eq,not_false_eq_true,not_true_eq_false,decide_true,decide_false]
 all_goals exact Qi
def oE(nl:Bool)(l:List Bs)(w:l.length<=64)(r:∀s∈l,Tr s=true):Ou [.agg [.int .u8 5,.int .i64 0,.int .i64 0,.str [],.slice nl [] (An l),.int .i64 0,.bool false,.int .i64 0,.slice true [] [],.bool false]]=some (.int .i64 0):=by
 refine Aq (Qn rfl) ?_;unfold SV;have y:gW [.agg [.int .i64 0,.bool false,.int .i64 0,.slice true [] []],.agg [.int .i64 0,.bool false,.int .i64 0,.slice true [] []]]=some (.bool true):=Ot;have e:IntKind.i64.wrap 5=5:=Z
 have d4:((400:Int)<((([]:Bs).length:Nat):Int))=False:=eq_false Z;have p:((64:Int)<(l.length:Nat))=False:=eq_false O;simp only[↓C2,Ie,simprocAttr,e,d4,Am,p,ne_eq,not_true_eq_false,not_false_eq_true,decide_true,decide_false];refine AV (n:=l.length) (I:=λk z=>z.s 1= .ptr [0] 0∧z.s 3= .int .i64 5∧z.s 4= .int .i64 (k:Int)∧z.m [0] 4=some (.slice nl [] (An l))∧z.m [0] 5=some (.int .i64 0)∧z.m [0] 6=some (.bool false)∧z.m [0] 7=some (.int .i64 0)∧z.m [0] 8=some (.slice true [] [])) (λk j ih z g t=>?_) (λz g t=>?_) 0 (Qz _) _ _ ⟨rfl,rfl,rfl,rfl,rfl,rfl,rfl,rfl⟩
 ·obtain⟨c,f,q⟩:=z;obtain⟨u,o,b,x,m5,m6,m7,m8⟩:=t;simp only at u o b x m5 m6 m7 m8;refine Ae IZ.eq_1 ?_;have v:((k:Int)<l.length)=True:=eq_true O;have oa:(0:Int)<=(k:Int):=by omega
  have h:IntKind.i64.wrap ((k:Int)+1)=((k+1:Nat):Int):=Iz O O;have d:(An l)[k]?=some (.str l[k]):=by simp[An,Qo j]
  have i:=r _ (QB j);have ea:l[k].length<=10000000:=by
   grind [Tr]
  have a:=aID l[k] ea;rw[i]at a;simp only[↓C2,Ie,simprocAttr,u,o,b,x,v,Am,oa,Qp,d,Ac Pa 351,a,Qt,h];exact ih _ _ ⟨u,o,rfl,x,m5,m6,m7,m8⟩
 ·obtain⟨c,f,q⟩:=z;obtain⟨u,o,b,x,m5,m6,m7,m8⟩:=t;simp only at u o b x m5 m6 m7 m8;refine Ae IZ.eq_1 ?_;have v:((l.length:Int)<l.length)=False:=eq_false O;simp only[↓C2,Ie,simprocAttr,u,o,b,x,m5,m6,m7,m8,v,Am,Ac Pa 352,y,ne_eq,not_false_eq_true,not_true_eq_false,decide_true,decide_false];refine Al ?_;simp only[↓C2,Ie,simprocAttr,Qt,Qv,ne_eq,not_false_eq_true,not_true_eq_false,decide_true,decide_false]
  all_goals exact Qi
def sp2(a b:Bs):spJ [a,b]=a++32::b:=X2
def sp3(a b c:Bs):spJ [a,b,c]=a++32::(b++32::c):=X2
def sp4(a b c d:Bs):spJ [a,b,c,d]=a++32::(b++32::(c++32::d)):=X2
def sp6(a b c d e f:Bs):spJ [a,b,c,d,e,f]=a++32::(b++32::(c++32::(d++32::(e++32::f)))):=X2
def Ll:=AB [(280,Af Ou),(281,Af aIY),(282,Af aFc),(283,Af aSE),(284,Af aSD),(285,Af aSC)]
def aJr:=RF Ll aOk [.t 2,.t 3] 92
def aLP:Kq aJr 184:=Az (Ai func184) (Aa aWK (Aa aLH (Aa aLe (Aa aWJ (Aa aWI (Aa aWH Ad))))))
def sZ(y:Ry)(h:MD y=0)(hg:ryG y)(hd:y≠ .done):aJr [.agg (IL y)]=some (.tup [.str (IY y),.int .i64 0]):=by
 refine Aq (Qn rfl) ?_;unfold aOk;have q0:((0:Int)<((0:Nat):Int))=False:=eq_false Z;have ht:IY y=spJ (Nc y):=if_pos h;rw[ht];cases y with
 |done=>exact absurd rfl hd
 |fail e=>
  have he:1<=e∧e<=99:=XZ
  have f:Ou [.agg (IL (.fail e))]=some (.int .i64 0):=zO e he [] rfl;have a:=Mw e.toNat O;rw[QF O]at a;have w:=B6 e.toNat;have t:AJ .add (.str [101,114,114,111,114,32]) (.str (BC e.toNat))=some (.str ([101,114,114,111,114,32]++BC e.toNat)):=BY Xc;simp only[Nc,IL]at *;rw[sp2];simp only[↓C2,Ie,simprocAttr,Ac Ll 280,f,Ac Ll 281,a,t]
  all_goals exact Qi
 |number n=>
  have he:0<=n∧n<=999:=XZ
  have f:Ou [.agg (IL (.number n))]=some (.int .i64 0):=hJ n he [] rfl;have a:=Mw n.toNat O;rw[QF O]at a;have w:=B6 n.toNat;have t:AJ .add (.str [111,107,32,110,117,109,98,101,114,32]) (.str (BC n.toNat))=some (.str ([111,107,32,110,117,109,98,101,114,32]++BC n.toNat)):=BY Xc;simp only[Nc,IL]at *;rw[sp3];simp only[↓C2,Ie,simprocAttr,Ac Ll 280,f,Ac Ll 281,a,t]
  all_goals exact Qi
 |found n d=>
  have he:0<=n∧n<=999∧d.length<=400:=XZ
  have f:Ou [.agg (IL (.found n d))]=some (.int .i64 0):=oF n d ⟨he.1,he.2.1⟩ he.2.2 [] rfl;have a:=Mw n.toNat O;rw[QF O]at a;have w:=B6 n.toNat;have t:AJ .add (.str [111,107,32,102,111,117,110,100,32]) (.str (BC n.toNat))=some (.str ([111,107,32,102,111,117,110,100,32]++BC n.toNat)):=BY Xc;have q:AJ .add (.str ([111,107,32,102,111,117,110,100,32]++BC n.toNat)) (.str [32,45])=some (.str ([111,107,32,102,111,117,110,100,32]++BC n.toNat++[32,45])):=BY Xc;have a3:AJ .add (.str ([111,107,32,102,111,117,110,100,32]++BC n.toNat)) (.str [32])=some (.str ([111,107,32,102,111,117,110,100,32]++BC n.toNat++[32])):=BY Xc;have a4:AJ .add (.str ([111,107,32,102,111,117,110,100,32]++BC n.toNat++[32])) (.str (Lj d))=some (.str ([111,107,32,102,111,117,110,100,32]++BC n.toNat++[32]++Lj d)):=BY (by simp[F4];omega);have i:=MB (s:=d) O;simp only[Nc,IL]at *;rw[sp4];by_cases c:d=[]
  ·have d1:decide (d=[])=true:=decide_eq_true c;rw[if_pos c];simp only[↓C2,Ie,simprocAttr,Ac Ll 280,f,Ac Ll 281,a,t,q,d1]
   all_goals simp
  ·have d1:decide (d=[])=false:=decide_eq_false c;rw[if_neg c];simp only[↓C2,Ie,simprocAttr,Ac Ll 280,f,Ac Ll 281,a,t,a3,a4,d1,Ac Ll 282,i];refine Al ?_;simp only[↓C2,Ie,simprocAttr,QQ,Zr,Q8]
   all_goals exact Qi
 |state b=>
  have f:Ou [.agg (IL (.state b))]=some (.int .i64 0):=oD b [] rfl;simp only[Nc,IL]at *;cases b
  all_goals
   simp only[if_true,Zl,if_false,sp2];simp only[↓C2,Ie,simprocAttr,Ac Ll 280,f]
   all_goals exact Qi
 |names nl l=>
  have he:l.length<=64∧(l.any λs=>!Tr s)=false:=XZ
  have r:∀s∈l,Tr s=true:=λs hs=>by
   have:=Zx.1 he.2 s hs;simpa using this
  have f:Ou [.agg (IL (.names nl l))]=some (.int .i64 0):=oE nl l he.1 r;have za:Cg l<=1000000:=hg.2.2;have k:=sQ nl l O za;have x:(FY l).length<=2000000:=by
   grind [FY,EY]
  have t:AJ .add (.str [111,107,32,110,97,109,101,115,32]) (.str (FY l))=some (.str ([111,107,32,110,97,109,101,115,32]++FY l)):=BY Xc;simp only[Nc,IL]at *;rw[sp3];simp only[↓C2,Ie,simprocAttr,Ac Ll 280,f,Ac Ll 284,k,t]
  all_goals exact Qi
 |about s=>
  have p:BF s 6=false:=by
   grind [MD]
  have f:Ou [.agg (IL (.about s))]=some (.int .i64 0):=oG s p [] rfl;obtain⟨g1,g2,g3,g4⟩:=hg;have j:=Mw s.mx.toNat O;rw[QF g2.1]at j;have g:=Mw s.la.toNat O;rw[QF g3.1]at g;have o:=aIX s.cas;have m:=aIW s O g4;have u:=NP s.rs;have k:=sQ (decide (s.rs.length=0)) (s.rs.map Cj) YE O;have x:(FY (s.rs.map Cj)).length<=2000000:=by
   grind [FY,EY,Cj]
  have l1:=B6 s.mx.toNat;have l2:=B6 s.la.toNat;simp only[Nc,IL]at *;rw[sp6];unfold Ik at m;generalize FY (s.rs.map Cj)=w3 at *;generalize An (s.rs.map Cj)=rw at *;generalize BC s.mx.toNat=v at *;generalize BC s.la.toNat=z at *;generalize (if s.cas=true then(49:UInt8)else 48)=cc at *;have t:AJ .add (.str [111,107,32,97,98,111,117,116,32]) (.str v)=some (.str ([111,107,32,97,98,111,117,116,32]++v)):=BY Xc;have q:AJ .add (.str ([111,107,32,97,98,111,117,116,32]++v)) (.str [32])=some (.str ([111,107,32,97,98,111,117,116,32]++v++[32])):=BY Xc;have a3:AJ .add (.str ([111,107,32,97,98,111,117,116,32]++v++[32])) (.str [cc])=some (.str ([111,107,32,97,98,111,117,116,32]++v++[32]++[cc])):=BY Xc;have a4:AJ .add (.str ([111,107,32,97,98,111,117,116,32]++v++[32]++[cc])) (.str [32])=some (.str ([111,107,32,97,98,111,117,116,32]++v++[32]++[cc]++[32])):=BY Xc;have a5:AJ .add (.str ([111,107,32,97,98,111,117,116,32]++v++[32]++[cc]++[32])) (.str z)=some (.str ([111,107,32,97,98,111,117,116,32]++v++[32]++[cc]++[32]++z)):=BY Xc;have a6:AJ .add (.str ([111,107,32,97,98,111,117,116,32]++v++[32]++[cc]++[32]++z)) (.str [32])=some (.str ([111,107,32,97,98,111,117,116,32]++v++[32]++[cc]++[32]++z++[32])):=BY Xc;have a7:AJ .add (.str ([111,107,32,97,98,111,117,116,32]++v++[32]++[cc]++[32]++z++[32])) (.str w3)=some (.str ([111,107,32,97,98,111,117,116,32]++v++[32]++[cc]++[32]++z++[32]++w3)):=BY Xc;simp only[↓C2,Ie,simprocAttr,Ac Ll 280,f,Ac Ll 281,j,g,Ac Ll 283,o,Ac Ll 285,m,Ac Ll 284,k,t,q,a3,a4,a5,a6,a7];refine Al ?_;simp only[↓C2,Ie,simprocAttr,QQ,Zr,Q8]
  all_goals exact Qi
def Wl:=y3 f271 5 [] []
def aNd:=y2 f271 [] [(5,Wl)]
def Wk:=y3 f272 2 [] []
def aNc:=y2 f272 [] [(2,Wk)]
def Rd:=y3 f273 7 [] []
def aNb:=y2 f273 [] [(7,Rd)]
def Wj:=y3 f274 2 [] []
def aNa:=y2 f274 [] [(2,Wj)]
def WB:=y3 f174 3 [] []
def aOt:=y2 f174 [] [(3,WB)]
def aDv:=y2 f169 [] []
def aOw:=y2 f170 [] []
def WC:=y3 f172 6 [] []
def aDu:=y2 f172 [] [(6,WC)]
def aOp:=y2 f178 [] []
def Wz:=y3 f179 3 [] []
def aOo:=y2 f179 [] [(3,Wz)]
def Ww:=y3 f180 3 [] []
def aOn:=y2 f180 [] [(3,Ww)]
def aXU:=y2 f86 [(1,[(5,1),(5,9),(9,1),(9,3),(9,5),(9,8)]),(6,[(2,4)])] []
def mH:=y3 f77 3 [] []
def aX2:=y2 f77 [(11,[(2,3)])] [(3,mH)]
def aRg:=y2 f82 [(5,[(6,1),(6,10),(10,1),(10,3),(10,5),(10,6),(10,9)]),(9,[(4,0),(4,7),(5,0),(5,7),(5,9),(9,0),(9,5),(10,0)]),(13,[(2,3)])] []
def mI:=y3 f76 41 [] []
def Oh:=y2 f76 [(3,[(3,4)]),(12,[(5,0),(7,0),(8,0)]),(18,[(2,0),(3,0),(4,0)]),(24,[(2,0),(2,5),(2,10),(3,0),(3,5),(3,10),(14,0)]),(34,[(3,0),(5,0),(6,0)]),(44,[(2,4)])] [(41,mI)]
def mN:=y3 f31 9 [] []
def fD:=y2 f31 [(14,[(3,0),(3,8),(4,8),(8,0),(8,2),(8,3),(8,4)]),(16,[(3,0)]),(28,[(5,0),(5,10),(6,10),(10,0),(10,2),(10,4),(10,5),(10,6)]),(30,[(5,0)]),(35,[(4,5)]),(36,[(3,0),(3,8),(4,8),(8,0),(8,2),(8,3),(8,4)]),(38,[(3,0)])] [(9,mN)]
def mM:=y3 f32 4 [] []
def aYy:=y2 f32 [] [(4,mM)]
def mL:=y3 f33 3 [] []
def aYx:=y2 f33 [] [(3,mL)]
def dc6:=y2 f6 [(4,[(2,0),(2,3),(2,6),(4,0),(4,6),(5,6),(6,0),(6,1),(6,2),(6,3),(6,4),(6,5)]),(6,[(22,24)])] []
def GY(y:Ry):Prop:=MD y=0∧ryG y∧y≠ .done
def S85:=AB [(184,Af aJr)]
def R85:=RF S85 aXV [.t 2] 11
def aCn:Kq R85 85:=Az (Ai func85) (Aa aLP Ad)
def NF(y:Ry)(h:GY y):R85 [.agg (IL y)]=some (.str (IY y)):=by
 refine Aq (Qn rfl) ?_;unfold aXV;have a:=sZ y h.1 h.2.1 h.2.2;simp only[IL]at a;cases y
 all_goals
  simp only[IL]at a ⊢;simp only[↓C2,Ie,simprocAttr,Ac S85 184,a]
  all_goals exact Qi
def aZd:=AB [(184,Af aJr)]
def aSZ:=RF aZd aOz [.t 2] 14
def aXj:Kq aSZ 166:=Az (Ai func166) (Aa aLP Ad)
def aJG(e:Int)(x:1<=e∧e<=99):aSZ [.int .i64 e]=some (.str (IY (.fail e))):=by
 refine Aq (Qn rfl) ?_;unfold aOz;have a:=sZ (.fail e) (if_pos x) (show 0<=e∧e<1000 by omega) Xu;have u:(e=0)=False:=eq_false O;simp only[IL]at a;simp only[↓C2,Ie,simprocAttr,u,decide_false,Ac aZd 184,a]
 all_goals exact Qi
def S75:=AB [(166,Af aSZ)]
def R75:=RF S75 aX3 [.cell (some 9) 4] 9
def aHv:Kq R75 75:=Az (Ai func75) (Aa aXj Ad)
def CC(v:Vw)(e:Int)(x:1<=e∧e<=99):R75 [.agg (Iq v),.int .i64 e]=some (.agg (IA (BJ v e))):=by
 refine Aq (Qn rfl) ?_;unfold aX3;have a:=aJG e x;unfold IA BJ Iq;simp only[↓C2,Ie,simprocAttr,Ac S75 166,a];refine Al ?_;simp only[↓C2,Ie,simprocAttr]
 all_goals exact Qi
def S78:=AB []
def R78:=RF S78 aX1 [.cell (some 9) 6] 11
def bAx:Kq R78 78:=Az (Ai func78) Ad
def Tf(v:Vw)(q:Bs)(b:Bool):R78 [.agg (Iq v),.str q,.bool b]=some (.agg (IA (DW v q b))):=by
 refine Aq (Qn rfl) ?_;unfold aX1;unfold IA DW Iq;simp only[↓C2,Ie,simprocAttr]
 all_goals exact Qi
def bBu:=AB []
def Ow:=RF bBu aOy [.cell (some 9) 4] 8
def aCr:Kq Ow 167:=Az (Ai func167) Ad
def ER(v:Vw)(nl:Bool)(ops:List Op1):Ow [.agg (Iq v),.slice nl [] (BH ops)]=some (.agg (IA ⟨[],false,[111,107],nl,ops,v⟩)):=by
 refine Aq (Qn rfl) ?_;unfold aOy;unfold IA Iq;simp only[↓C2,Ie,simprocAttr]
 all_goals exact Qi
def bBt:=AB []
def aEM:=RF bBt aOx [.cell (some 3) 4] 8
def aCq:Kq aEM 168:=Az (Ai func168) Ad
def My(k v:Bs):aEM [.str k,.str v]=some (.agg [.int .u8 1,.str k,.str v]):=by
 refine Aq (Qn rfl) ?_;unfold aOx;simp only[↓C2,Ie,simprocAttr]
 all_goals exact Qi
def aZb:=AB [(84,Af R84)]
def zR:=RF aZb aOo [.t 4] 24
def aCp:Kq zR 179:=Az (Ai func179) (Aa aQU Ad)
def Di(p:Bs)(ns:List Int):List Op1:=ns.map λn=>(2,AO 2 p n,[])
def Mx(p:Bs)(nn:Bool)(ns:List Int)(hp:p.length<=1000000)(w:ns.length<=1000):zR [.str p,.slice nn [] (AE ns)]=some (.slice (decide (ns.length=0)) [] (BH (Di p ns))):=by
 refine Aq (Qn rfl) ?_;unfold aOo;simp only[↓C2,Ie,simprocAttr];refine AV (n:=ns.length) (I:=λk z=>z.s 0= .str p∧z.s 1= .slice nn [] (AE ns)∧z.s 6= .int .i64 (k:Int)∧∃t,z.s 5= .slice (decide (k=0)) t (BH (Di p (ns.take k)))∧LG 0 z.m 172 z.m z.c (decide (k=0)) t) (λk j ih z g a=>?_) (λz g a=>?_) 0 (Qz _) _ _ ⟨rfl,rfl,rfl,_,rfl,LG.start Xb⟩
 ·obtain⟨ja,f,o⟩:=z;obtain⟨r,u,x,t,q,y⟩:=a;simp only at r u x q y;refine Ae Wz.eq_1 ?_;have v:((k:Int)<ns.length)=True:=eq_true O;have b:(0:Int)<=(k:Int):=by omega
  have l:IntKind.i64.wrap ((k:Int)+1)=((k+1:Nat):Int):=Iz O O;have d:=Mo j;have i:=nZ p ns[k] hp;have hs:BH (Di p (ns.take (k+1)))=BH (Di p (ns.take k))++[.agg [.int .u8 2,.str (AO 2 p ns[k]),.str []]]:=by
   unfold Di BH;rw[Qw j,Q3,Q3];rfl
  have fin:(if k=0 then [D.agg [.int .u8 2,.str (AO 2 p ns[k]),.str []]]else BH (Di p (ns.take k))++[.agg [.int .u8 2,.str (AO 2 p ns[k]),.str []]])=BH (Di p (ns.take (k+1))):=by
   rw[hs];split
   ·rename_i h;subst h;rfl
   ·rfl
  have e:(BH (Di p (ns.take k))).length=k:=by unfold BH Di;rw[Qx,Qx,QZ];omega
  simp only[↓C2,Ie,simprocAttr,r,u,x,q,v,Bb,b,Qp,d,Ac aZb 84,i];refine AF.intro ⟨by simp only[e];omega,rfl,Qf⟩ ?_;simp only[↓C2,Ie,simprocAttr,x,l];refine ih _ _ ⟨r,u,rfl,_,congrArg (D.slice false _) fin,?_⟩;exact(y.put.app O Xb).base
 ·obtain⟨ja,f,o⟩:=z;obtain⟨r,u,x,t,q,y⟩:=a;simp only at r u x q y;refine Ae Wz.eq_1 ?_;have v:((ns.length:Int)<ns.length)=False:=eq_false O;rw[Qu (Qs _)]at q;simp only[↓C2,Ie,simprocAttr,r,u,x,q,v,Bb]
  all_goals exact Qi
def NN(m:Ig):Ir.app m []=m:=rfl
def aRO:=AB [(182,Af hZ),(183,Af zQ)]
def aSF:=RF aRO aM8 [.t 2,.t 3] 62
def aWM:Kq aSF 276:=Az (Ai func276) (Aa Px (Aa UD Ad))
def aI1(s:Sc)(w:s.rs.length<=1000)(i:BF s 6=true):aSF [.agg (Ik s)]=some (.tup [.str [],.int .i64 2]):=by
 refine Aq (Qn rfl) ?_;unfold aM8;have y:=FE s 6 false w;have a:=Ib;rw[i]at y;unfold Ik at y ⊢;simp only[↓C2,Ie,simprocAttr,Ac aRO 182,y,Ac aRO 183,a,Qt];refine Al ?_;simp only[↓C2,Ie,simprocAttr]
 all_goals exact Qi
def dJ(s:Sc):List D:=[.agg (Ik s)]
def Uv(x y)(h:dJ x=dJ y):x=y:=by
 grind [dJ,Vi]
def aJ1:List D->Option D:=FX dJ (λs=>s.rs.length<=6∧BF s 6=false) λs=> .tup [.str (B1 s),.int .i64 0]
def aJ0{s:Sc}(h:s.rs.length<=6)(i:BF s 6=false):aJ1 [.agg (Ik s)]=some (.tup [.str (B1 s),.int .i64 0]):=Bl (mk:=dJ) (a:=s) Uv ⟨h,i⟩
def aQj:Kq aJ1 276:=by
 refine N0 ⟨_,func276,Xa,Xa⟩ λds r hF vs w G z f ja=>⟨?_,?_⟩
 ·obtain⟨p,_,_,rfl⟩:=C6 hF;rfl
 ·obtain⟨s,⟨u,hs⟩,rfl,rfl⟩:=C6 hF
  match vs,z with
  |[v0],_=>
   have q:=f 0 _ v0 rfl rfl;obtain⟨us,rfl,va,m,k⟩:=aG q
   match us,va with
   |[a,b,c,d],_=>
    have n:=(k 0 _ a rfl rfl).int_inv;have eb:=(k 1 _ b rfl rfl).bool_inv;have ec:=(k 2 _ c rfl rfl).int_inv;subst n eb ec;obtain⟨ao,cp,rfl,ra⟩:=Ua (k 3 _ d rfl rfl);have x:∀wx,Calls Qq 183 #[] wx λe o=>e= .returned (.agg #[.int .i64 6,.bool false])∧Below wx.heap.size wx o:=λwx=>by
     refine(Lv UD Ib rfl wx).mono ?_;rintro e o ⟨v,g',rfl,sa,hR⟩;refine⟨?_,sa⟩;obtain⟨ys,rfl,db,_,hy⟩:=aG hR
     match ys,db with
     |[y0,y1],_=>rw[(hy 0 _ y0 rfl rfl).int_inv,(hy 1 _ y1 rfl rfl).bool_inv]
    have y:∀wx,Below w.heap.size w wx->Calls Qq 182 #[.agg #[.int .i64 s.mx,.bool s.cas,.int .i64 s.la,.slice ao s.rs.length cp],.agg #[.int .i64 6,.bool false]] wx λe o=>e= .returned (.bool true)∧Below wx.heap.size wx o:=λwx i=>by
     have e2:=FE s 6 false O;rw[hs]at e2;refine(Ho (vs:=[.agg #[.int .i64 s.mx,.bool s.cas,.int .i64 s.la,.slice ao s.rs.length cp],.agg #[.int .i64 6,.bool false]]) (G:=G) Px e2 rfl rfl rfl (λj d v l t=>?_) (λb h=>ja b (Ze i.size h))).mono ?_
     ·match j,l,t with
      |0,l,t=>cases l;cases t;exact EI q rfl ja i (λ_ _=>Qs _)
      |1,l,t=>
       cases l;cases t;refine .agg _ [_,_] rfl Yp (λj d v l t=>?_)
       match j,l,t with
       |0,l,t=>cases l;cases t;exact .int _ _
       |1,l,t=>cases l;cases t;exact .bool _
     ·rintro e o ⟨v,g',rfl,sa,hR⟩;exact⟨by rw[hR.bool_inv];rfl,sa⟩
    refine(aZH w s ao cp u ra x y).mono ?_;rintro e o ⟨rfl,i⟩;refine⟨_,G,rfl,i,λb h=>ja b (Ze i.size h),λ_ _=>rfl,?_⟩;have g:B1 s=GX ([IntKind.u8.wrap s.mx,MG s.cas,IntKind.u8.wrap s.la,IntKind.u8.wrap s.rs.length]++Db s.rs):=if_neg (by rw[hs];decide);rw[g];refine .tup _ [_,_] rfl (λj d v l t=>?_)
    match j,l,t with
    |0,l,t=>cases l;cases t;exact .str _
    |1,l,t=>cases l;cases t;exact .int _ _
def iF:List D->Option D:=λds=>(aJ1 ds).or (aSF ds)
def aBF:Kq iF 276:=aBz aQj aWM
def SJ{s:Sc}(i:BF s 6=false):s.rs.length<=6:=by
 grind [BF,BE]
def iE{s:Sc}(w:s.rs.length<=1000):iF [.agg (Ik s)]=some (.tup [.str (B1 s),.int .i64 (NQ s 6)]):=by
 unfold iF;cases hb:BF s 6 with
 |true=>
  have e1:B1 s=[]:=if_pos hb;have e2:NQ s 6=2:=if_pos hb;cases h:aJ1 [.agg (Ik s)]with
  |none=>rw[aI1 s w hb,e1,e2];rfl
  |some r=>
   obtain⟨p,⟨_,q⟩,e,_⟩:=C6 h;rw[Uv s p e.symm]at hb;rw[hb]at q;cases q
 |false=>
  have e2:NQ s 6=0:=if_neg (by rw[hb];decide);rw[aJ0 (SJ hb) hb,e2];rfl
def aIj:=AB [(276,Af iF)]
def aSV:=RF aIj aOr [.cell (some 4) 2,.t 3] 80
def aXc:Kq aSV 176:=Az (Ai func176) (Aa aBF Ad)
def aJw(s:Bs)(hl:s.length<=1000000):aSV [.str s]=some (.tup [.agg (Ik (aDj s).1),.int .i64 (aDj s).2]):=by
 refine Aq (Qn rfl) ?_;unfold aOr;have z0:Ik sc0=[.int .i64 0,.bool false,.int .i64 0,.slice true [] []]:=rfl;unfold aDj;by_cases h4:s.length<4
 ·rw[if_pos (.inl h4),z0];have ea:((s.length:Int)<4)=True:=eq_true O;simp only[↓C2,Ie,reduceIte,Nat.reduceEqDiff,Nat.reduceAdd,Nat.reduceLT,Nat.reduceLeDiff,Nat.reduceSub,reduceCtorEq,Int.reduceEq,Int.reduceNe,Int.reduceLT,Int.reduceLE,ea]
  all_goals exact Qi
 have ea:((s.length:Int)<4)=False:=eq_false O;have b:s[ZR 0]?=some (s.getD 0 0):=by show s[0]?=_;rw[QK,Qo (by omega:0<s.length)];rfl
 have f:s[ZR 1]?=some (s.getD 1 0):=by show s[1]?=_;rw[QK,Qo (by omega:1<s.length)];rfl
 have l:s[ZR 2]?=some (s.getD 2 0):=by show s[2]?=_;rw[QK,Qo (by omega:2<s.length)];rfl
 have a:s[ZR 3]?=some (s.getD 3 0):=by show s[3]?=_;rw[QK,Qo (by omega:3<s.length)];rfl
 have l3:(3:Int).toNat<s.length:=O
 have w3:IntKind.i64.wrap (((s.getD 3 0).toNat:Nat):Int)=(((s.getD 3 0).toNat:Nat):Int):=by have:=(s.getD 3 0).toNat_lt;exact Iz O O
 have hn:=(s.getD 3 0).toNat_lt;have w5:IntKind.i64.wrap (2*(((s.getD 3 0).toNat:Nat):Int))=2*(((s.getD 3 0).toNat:Nat):Int):=Iz O O;have w6:IntKind.i64.wrap (4+2*(((s.getD 3 0).toNat:Nat):Int))=4+2*(((s.getD 3 0).toNat:Nat):Int):=Iz O O;by_cases hs:s.length<4+2*(s.getD 3 0).toNat
 ·rw[if_pos (.inr hs),z0];have c:((s.length:Int)<4+2*(((s.getD 3 0).toNat:Nat):Int))=True:=eq_true O;simp only[↓C2,Ie,reduceIte,Nat.reduceEqDiff,Nat.reduceAdd,Nat.reduceLT,Nat.reduceLeDiff,Nat.reduceSub,reduceCtorEq,Int.reduceEq,Int.reduceNe,Int.reduceLT,Int.reduceLE,ea,a,l3,w3,w5,w6,c]
  all_goals exact Qi
 have c:((s.length:Int)<4+2*(((s.getD 3 0).toNat:Nat):Int))=False:=eq_false O;rw[if_neg (by simp only[not_or];exact⟨h4,hs⟩)];have hF:=iE (s:=Ez s) (by show(HN s 4 _).length<=1000;simp only[HN,Qx,List.length_range];omega);have w0:IntKind.i64.wrap (((s.getD 0 0).toNat:Nat):Int)=IR s 0:=by have:=(s.getD 0 0).toNat_lt;exact Iz O O
 have w2:IntKind.i64.wrap (((s.getD 2 0).toNat:Nat):Int)=IR s 2:=by have:=(s.getD 2 0).toNat_lt;exact Iz O O
 simp only[↓C2,Ie,reduceIte,Nat.reduceEqDiff,Nat.reduceAdd,Nat.reduceLT,Nat.reduceLeDiff,Nat.reduceSub,reduceCtorEq,Int.reduceEq,Int.reduceNe,Int.reduceLT,Int.reduceLE,ea,a,l3,w3,w5,w6,c,b,f,l,w0,w2];refine Al ?_;simp only[↓C2,Ie,reduceIte,Nat.reduceEqDiff,Nat.reduceAdd,Nat.reduceLT,Nat.reduceLeDiff,Nat.reduceSub,reduceCtorEq,Int.reduceEq,Int.reduceNe,Int.reduceLT,Int.reduceLE];refine AV (n:=(s.getD 3 0).toNat) (I:=λk p=>p.s 0= .str s∧p.s 6= .int .i64 (k:Int)∧p.s 5= .ptr [26] 0∧p.s 2= .ptr [0] 0∧p.s 4= .ptr [2] 0∧∃t,(p.m [26] 0=some (.int .i64 (IR s 0))∧p.m [26] 1=some (.bool (decide (IR s 1=1)))∧p.m [26] 2=some (.int .i64 (IR s 2))∧p.m [26] 3=some (.slice (decide (k=0)) t (AU (HN s 4 k))))∧LX [26] 27 _ 164 p.m p.c (decide (k=0)) t) (λk hk ih p g hI=>?_) (λp g hI=>?_) 0 (Qz _) _ _ ⟨rfl,rfl,rfl,rfl,rfl,[],⟨rfl,rfl,rfl,rfl⟩,LX.start Xb⟩
 ·obtain⟨ja,da,fa⟩:=p;obtain⟨h0,h6,h5,h2,ea,t,⟨x0,x1,x2,x3⟩,hG⟩:=hI;simp only at h0 h6 h5 h2 ea x0 x1 x2 x3 hG;refine Ae WA.eq_1 ?_;have v:((k:Int)<(((s.getD 3 0).toNat:Nat):Int))=True:=eq_true O;have hw:IntKind.i64.wrap ((k:Int)+1)=((k+1:Nat):Int):=Iz O O;have k1:IntKind.i64.wrap (2*(k:Int))=2*(k:Int):=Iz O O;have k2:IntKind.i64.wrap (4+2*(k:Int))=((4+2*k:Nat):Int):=Iz O O |>.trans O
  have k3:IntKind.i64.wrap (5+2*(k:Int))=((4+2*k+1:Nat):Int):=Iz O O |>.trans O
  have p1:(0:Int)<=((4+2*k:Nat):Int):=O
  have p2:(0:Int)<=((4+2*k+1:Nat):Int):=O
  have a1:s[4+2*k]?=some (s.getD (4+2*k) 0):=by rw[QK,Qo (by omega:4+2*k<s.length)];rfl
  have a2:s[4+2*k+1]?=some (s.getD (4+2*k+1) 0):=by rw[QK,Qo (by omega:4+2*k+1<s.length)];rfl
  have b1:IntKind.i64.wrap (((s.getD (4+2*k) 0).toNat:Nat):Int)=IR s (4+2*k):=by have:=(s.getD (4+2*k) 0).toNat_lt;exact Iz O O
  have b2:Int.tmod (((s.getD (4+2*k+1) 0).toNat:Nat):Int) 2=IR s (4+2*k+1) % 2:=Int.tmod_eq_emod_of_nonneg O;have b3:IntKind.u8.wrap (Int.tdiv (((s.getD (4+2*k+1) 0).toNat:Nat):Int) 2)=IR s (4+2*k+1) / 2:=by
   rw[Int.tdiv_eq_ediv_of_nonneg O];have:=(s.getD (4+2*k+1) 0).toNat_lt;show _ % 256=_;unfold IR;omega
  have ma:(AU (HN s 4 k)).length=k:=by rw[As];simp[HN]
  have w:decide (k=0)=true->AU (HN s 4 k)=[]:=λh=>by rw[of_decide_eq_true h];rfl
  have oa:AU (HN s 4 k)++[.agg [.int .i64 (IR s (4+2*k)),.bool (decide (IR s (4+2*k+1) % 2=1)),.bool (decide (IR s (4+2*k+1) / 2=1))]]=AU (HN s 4 (k+1)):=by
   unfold HN;rw[List.range_succ,Q3];simp[AU,rwD,rwU]
  simp only[↓C2,Ie,reduceIte,Nat.reduceEqDiff,Nat.reduceAdd,Nat.reduceLT,Nat.reduceLeDiff,Nat.reduceSub,reduceCtorEq,Int.reduceEq,Int.reduceNe,Int.reduceLT,Int.reduceLE,h0,h6,h5,x3,a,w3,v,k1,k2,k3,p1,p2,Qp,a1,a2,b1,b2,b3];refine AF.intro ⟨O,rfl,(LX.put hG O).grow⟩ ?_;rw[BN w,oa];have z:∀(c1 c2 k':Nat)(ds xs:List D),fa<=c1->fa<=c2->∀q,q<27->Ir.app (da.put [c1] 0 ds) (Bm 164 [c2] (.slice (decide (k=0)) t xs)) [q] k'=da [q] k':=λc1 c2 k' ds xs e1 e2 q hq=>by
   have:=hG.le;rw[aQ (LX.put hG e1) e2 hq,aA Xc]
  have zz:=λ(c1 c2 k':Nat)(ds xs:List D) e1 e2=>z c1 c2 k' ds xs e1 e2 26 O
  have x:∀(c1 c2:Nat)(ds xs:List D),fa<=c1->fa<=c2->(Ah (Ir.app (da.put [c1] 0 ds) (Bm 164 [c2] (.slice (decide (k=0)) t xs))) [26] 3 1).isSome=true:=λc1 c2 ds xs e1 e2=>by
   simp only[Ah,zz c1 c2 3 ds xs e1 e2,x3];rfl
  simp only[↓C2,Ij,h5,reduceIte,QA,QL,Zm];refine AF.intro (x _ _ _ _ O O) ?_;simp only[↓C2,Ih,reduceIte,QA];refine Al ?_;simp only[↓C2,Ie,reduceIte,Nat.reduceEqDiff,Nat.reduceAdd,Nat.reduceLT,Nat.reduceLeDiff,Nat.reduceSub,reduceCtorEq,Int.reduceEq,Int.reduceNe,Int.reduceLT,Int.reduceLE,h6,hw];refine ih _ _ ⟨h0,rfl,h5,h2,ea,_,⟨?_,?_,?_,?_⟩,LX.putx (LX.app (LX.put hG O) O Xb) U O⟩
  ·simp only[NN];rw[aC U];exact(zz _ _ 0 _ _ O O).trans x0
  ·simp only[NN];rw[aC U];exact(zz _ _ 1 _ _ O O).trans x1
  ·simp only[NN];rw[aC U];exact(zz _ _ 2 _ _ O O).trans x2
  ·simp only[NN];rw[Fa];exact NS
 ·obtain⟨ja,da,fa⟩:=p;obtain⟨h0,h6,h5,h2,ea,t,⟨x0,x1,x2,x3⟩,hG⟩:=hI;simp only at h0 h6 h5 h2 ea x0 x1 x2 x3 hG;refine Ae WA.eq_1 ?_;have pa:da [0] 0=some (.int .i64 0):=hG.low 0 0 O U;have i:da [0] 1=some (.bool false):=hG.low 0 1 O U;have d:da [0] 2=some (.int .i64 0):=hG.low 0 2 O U;have r:da [0] 3=some (.slice true [] []):=hG.low 0 3 O U;have u:da [2] 0=some (.int .i64 0):=hG.low 2 0 O U;have y:da [2] 1=some (.bool false):=hG.low 2 1 O U;have o:da [2] 2=some (.int .i64 0):=hG.low 2 2 O U;have j:da [2] 3=some (.slice true [] []):=hG.low 2 3 O U;have v:((((s.getD 3 0).toNat:Nat):Int)<(((s.getD 3 0).toNat:Nat):Int))=False:=eq_false O;have hS:Ik (Ez s)=[.int .i64 (IR s 0),.bool (decide (IR s 1=1)),.int .i64 (IR s 2),.slice (decide ((s.getD 3 0).toNat=0)) [] (AU (HN s 4 (s.getD 3 0).toNat))]:=rfl;rw[hS]at hF;by_cases hb:BF (Ez s) 6=true
  ·rw[if_pos (.inl hb),z0];rw[show NQ (Ez s) 6=2 from if_pos hb]at hF;simp only[↓C2,Ie,reduceIte,Nat.reduceEqDiff,Nat.reduceAdd,Nat.reduceLT,Nat.reduceLeDiff,Nat.reduceSub,reduceCtorEq,Int.reduceEq,Int.reduceNe,Int.reduceLT,Int.reduceLE,h0,h6,h5,h2,ea,x0,x1,x2,x3,a,w3,v,Ac aIj 276,hF,pa,i,d,r,u,y,o,j]
   all_goals exact Qi
  ·rw[show NQ (Ez s) 6=0 from if_neg hb]at hF;by_cases hp:B1 (Ez s)=s
   ·rw[if_neg (by simp only[not_or];exact⟨hb,λe=>e hp⟩),hS];have ka:(B1 (Ez s)=s)=True:=eq_true hp;rw[hp]at hF;simp only[↓C2,Ie,reduceIte,Nat.reduceEqDiff,Nat.reduceAdd,Nat.reduceLT,Nat.reduceLeDiff,Nat.reduceSub,reduceCtorEq,Int.reduceEq,Int.reduceNe,Int.reduceLT,Int.reduceLE,h0,h6,h5,h2,ea,x0,x1,x2,x3,a,w3,v,Ac aIj 276,hF,pa,i,d,r,u,y,o,j]
    all_goals exact Qi
   ·rw[if_pos (.inr hp),z0];have ka:=eq_false hp;simp only[↓C2,Ie,reduceIte,Nat.reduceEqDiff,Nat.reduceAdd,Nat.reduceLT,Nat.reduceLeDiff,Nat.reduceSub,reduceCtorEq,Int.reduceEq,Int.reduceNe,Int.reduceLT,Int.reduceLE,h0,h6,h5,h2,ea,x0,x1,x2,x3,a,w3,v,Ac aIj 276,hF,pa,i,d,r,u,y,o,j,ka]
    all_goals exact Qi
def mP:=y1 f11 3 [] []
def mO:=y1 f11 7 [] []
def aYN:=y0 f11 [] [(3,mP),(7,mO)]
def Bg(d:Dk):Kn:=⟨d.its,d.lss⟩
def S11:=AB [(12,Af R12),(13,Af R13)]
def R11:=RF S11 aYN [.cell (some 5) 2] 55
def bAQ:Kq R11 11:=Az (Ai func11) (Aa aXy (Aa bAP Ad))
def aS3(d:Dk)(l:aZA d):R11 [.agg (IW d)]=some (.agg (IQ (Bg d))):=by
 refine Aq (Qn rfl) ?_;unfold aYN;obtain⟨l1,l2,ls⟩:=l;have e0:∀k:Kn,(IQ k).length=5:=λ_=>rfl
 have u1:∀k:Kn,(IQ k).map D.un1=IQ k:=λ_=>rfl
 have u2:∀k:Kn,(IQ k).all D.calm1=true:=λ_=>rfl
 unfold IW Bg;simp only[↓C2,Ih,IM,IU,QL];refine AV (n:=d.its.length) (I:=λj z=>z.s 1= .ptr [0] 0∧z.s 2= .ptr [1] 0∧z.s 3= .ptr [2] 0∧z.s 4= .int .i64 (j:Int)∧z.m [0] 0=some (.slice d.n1 [] (d.its.map itD))∧z.m [0] 1=some (.slice d.n2 [] (d.lss.map ltD))∧Ah z.m [1] 0 5=some (IQ ⟨[],[]⟩)∧Ah z.m [2] 0 5=some (IQ ⟨d.its.take j,[]⟩)) (λj y ih z g t=>?_) (λz g t=>?_) 0 (Qz _) _ _ ⟨rfl,rfl,rfl,rfl,rfl,rfl,rfl,rfl⟩
 ·obtain⟨i,f,fa⟩:=z;obtain⟨u,q,o,b,m0,r,m2,m3⟩:=t;simp only at u q o b m0 r m2 m3;refine Ae mP.eq_1 ?_;have v:((j:Int)<d.its.length):=by omega
  have a:=nJ (j:=j);have h:=wJ (j:=j) O;have w:(d.its.map itD)[j]?=some (.agg [.str d.its[j].1,.str d.its[j].2.1,.bool d.its[j].2.2]):=by simp[Qo y,itD]
  have e:=aEP ⟨d.its.take j,[]⟩ d.its[j].1 d.its[j].2.1 d.its[j].2.2 Xc;have ht:d.its.take j++[(d.its[j].1,d.its[j].2.1,d.its[j].2.2)]=d.its.take (j+1):=by rw[Zp,Qo y];rfl
  simp only[ht]at e;generalize d.its[j]=x at *;simp (disch:=omega)only[↓C2,Iw,Ii,simprocAttr,Zb,ZI,ZX,u,o,b,v,a,Qp,m0,m3,w,Qx,Ac S11 12,e,u1,u2,e0,Q7,and_self];refine AF.intro (λp hp=>by cases hp) ?_;simp (disch:=omega)only[↓C2,Ih,simprocAttr,b,h];refine ih _ _ ?_;exact⟨u,q,o,rfl,m0,r,m2,AX rfl⟩
 ·obtain⟨i,f,fa⟩:=z;obtain⟨u,q,o,b,m0,r,m2,m3⟩:=t;simp only at u q o b m0 r m2 m3;refine Ae mP.eq_1 ?_;have v:((d.its.length:Int)<d.its.length)=False:=eq_false O;have a:True:=trivial;have w:True:=trivial;simp (disch:=omega)only[↓C2,Ih,Ii,simprocAttr,u,b,v,m0,Qx,Zm];rw[Zd]at m3;refine AV (n:=d.lss.length) (I:=λj z=>z.s 1= .ptr [0] 0∧z.s 2= .ptr [1] 0∧z.s 3= .ptr [2] 0∧z.s 5= .int .i64 (j:Int)∧z.m [0] 1=some (.slice d.n2 [] (d.lss.map ltD))∧Ah z.m [1] 0 5=some (IQ ⟨[],[]⟩)∧Ah z.m [2] 0 5=some (IQ ⟨d.its,d.lss.take j⟩)) (λj y ih z g t=>?_) (λz g t=>?_) 0 (Qz _) _ _ ⟨u,q,o,rfl,r,m2,m3⟩
  ·obtain⟨i,f,fa⟩:=z;obtain⟨u,q,o,b,r,m2,m3⟩:=t;simp only at u q o b r m2 m3;refine Ae mO.eq_1 ?_;have v:((j:Int)<d.lss.length):=by omega
   have a:=nJ (j:=j);have h:=wJ (j:=j) O;have w:(d.lss.map ltD)[j]?=some (.agg [.str d.lss[j].1,.slice d.lss[j].2.1 [] (An d.lss[j].2.2)]):=by simp[Qo y,ltD]
   have ea:=ls _ (QB y);have c:=aS0 ⟨d.its,d.lss.take j⟩ d.lss[j].1 d.lss[j].2.1 d.lss[j].2.2 Xc O ea.2;have ht:d.lss.take j++[(d.lss[j].1,d.lss[j].2.1,d.lss[j].2.2)]=d.lss.take (j+1):=by rw[Zp,Qo y];rfl
   simp only[ht]at c;generalize d.lss[j]=x at *;simp (disch:=omega)only[↓C2,Iw,Ii,simprocAttr,Zb,ZI,ZX,u,o,b,v,a,Qp,r,m3,w,Qx,Ac S11 13,c,u1,u2,e0,Q7,and_self];refine AF.intro (λp hp=>by cases hp) ?_;simp (disch:=omega)only[↓C2,Ih,simprocAttr,b,h];refine ih _ _ ?_;exact⟨u,q,o,rfl,r,m2,AX rfl⟩
  ·obtain⟨i,f,fa⟩:=z;obtain⟨u,q,o,b,r,m2,m3⟩:=t;simp only at u q o b r m2 m3;refine Ae mO.eq_1 ?_;have v:((d.lss.length:Int)<d.lss.length)=False:=eq_false O;rw[Zd]at m3;simp (disch:=omega)only[↓C2,Ij,simprocAttr,u,q,o,b,v,r,m2,m3,Qx,Zm,e0,Q7,and_self];rw[BA];simp only[↓C2,Ih,simprocAttr,q,A6,AX (e0 _)]
   all_goals exact Qj
def S79:=AB []
def R79:=RF S79 aX0 [.cell (some 3) 4,.t 5] 29
def bAw:Kq R79 79:=Az (Ai func79) Ad
def Te(d:Dk)(q:Bs)(w:d.its.length<=1000):R79 [.agg (IW d),.str q]=some (.tup [.agg [.str (if(DX (Bg d) q).2.2=true then q else []),.str (DX (Bg d) q).1,.bool (DX (Bg d) q).2.1],.bool (DX (Bg d) q).2.2]):=by
 refine Aq (Qn rfl) ?_;unfold aX0;have ma:IntKind.i64.wrap ((d.its.length:Int)-1)=(d.its.length:Int)-1:=Iz O O;have sa:(Em (Bg d)).length=d.its.length:=by unfold Em Bg;rw[Qx]
 have b:∀i (h:i<d.its.length),(Em (Bg d))[i]' O=d.its[i].1:=λi h=>by simp[Em,Bg]
 unfold DX;unfold IW;simp only[↓C2,Ie,simprocAttr,Qx,ma];refine AV (n:=d.its.length) (I:=λj z=>z.s 1= .str q∧z.s 2= .ptr [0] 0∧z.s 4= .ptr [1] 0∧z.s 6= .int .i64 ((d.its.length:Int)-1-j)∧z.m [0] 0=some (.slice d.n1 [] (d.its.map itD))∧z.m [1] 0=some (.str [])∧z.m [1] 1=some (.str [])∧z.m [1] 2=some (.bool false)∧∀i (h:i<d.its.length),d.its.length<=i+j->d.its[i].1≠q) (λj y ih z g a=>?_) (λz g a=>?_) 0 (Qz _) _ _ ⟨rfl,rfl,rfl,congrArg (D.int .i64) O,rfl,rfl,rfl,rfl,λi h f=>O⟩
 ·obtain⟨ja,t,o⟩:=z;obtain⟨u,f,h4,k,m0,p0,p1,p2,c⟩:=a;simp only at u f h4 k m0 p0 p1 p2;refine Ae mG.eq_1 ?_;have ra:(0:Int)<=(d.its.length:Int)-1-j:=by omega
  have hw:IntKind.i64.wrap ((d.its.length:Int)-1-j-1)=(d.its.length:Int)-1-((j+1:Nat):Int):=Xn
  have hi:((d.its.length:Int)-1-j).toNat=d.its.length-1-j:=O
  have v:d.its.length-1-j<d.its.length:=O
  have r:(d.its.map itD)[d.its.length-1-j]?=some (.agg [.str (d.its[d.its.length-1-j]'v).1,.str (d.its[d.its.length-1-j]'v).2.1,.bool (d.its[d.its.length-1-j]'v).2.2]):=by rw[QW,Qo v];rfl
  by_cases p:(d.its[d.its.length-1-j]'v).1=q
  ·have e:=N4 (l:=Em (Bg d)) (s:=q) (j:=d.its.length-1-j) O (by rw[b _ v];exact p) (λi h f=>Y4);have oa:=decide_eq_true p;have bb:(Bg d).es.getD (d.its.length-1-j) ([],[],false)=d.its[d.its.length-1-j]'v:=by simp only[Bg,QK,Qo v,Q_]
   have hn:¬(((d.its.length-1-j:Nat):Int)<0):=O
   rw[e,if_neg hn,Qp,bb];generalize d.its[d.its.length-1-j]'v=x at *;simp only[↓C2,Ie,simprocAttr,u,f,h4,k,m0,p0,p1,p2,ra,hi,r,oa];rw[p]
   all_goals exact Qi
  ·have oa:=eq_false p;simp only[↓C2,Ie,simprocAttr,u,f,h4,k,m0,ra,hi,r,oa,decide_false,hw];refine ih _ _ ⟨u,f,h4,rfl,m0,p0,p1,p2,λi h f=>?_⟩;by_cases la:d.its.length<=i+j
   ·exact c i h la
   ·grind
 ·obtain⟨ja,t,o⟩:=z;obtain⟨u,f,h4,k,m0,p0,p1,p2,c⟩:=a;simp only at u f h4 k m0 p0 p1 p2;refine Ae mG.eq_1 ?_;have ra:((0:Int)<=(d.its.length:Int)-1-(d.its.length:Int))=False:=eq_false O;have e:=LN (l:=Em (Bg d)) (s:=q) (λi h=>Y4);rw[e];simp only[↓C2,Ie,simprocAttr,u,f,h4,k,m0,p0,p1,p2,ra]
  all_goals exact Qi
def aRW:=AB [(74,Af F74)]
def aJF:=RF aRW aDv [.t 4,.t 5] 23
def aXi:Kq aJF 169:=Az (Ai func169) (Aa aQl Ad)
def aJE(nl:Bool)(l:List Mt)(p:Bs)(w:l.length<=1000)(k:Bh l p<0):aJF [.slice nl [] (Ar l),.str p]=some (.tup [.slice nl [] (Ar l),.int .i64 14]):=by
 refine Aq (Qn rfl) ?_;unfold aDv;have d:=W0 (nl:=nl) (t:=[]) (l:=l) (p:=p) O;have f:(Bh l p<0)=True:=eq_true k;simp only[↓C2,Ie,simprocAttr,Ac aRW 74,d,f,decide_true]
 all_goals exact Qi
def aEL(nl:Bool)(l:List Mt)(p:Bs)(w:l.length<=1000)(k:¬Bh l p<0)(hi:(Bh l p).toNat<l.length):aJF [.slice nl [] (Ar l),.str p]=some (.tup [.slice false [] (Ar (NR l p)),.int .i64 0]):=by
 refine Aq (Qn rfl) ?_;unfold aDv;have r:=W0 (nl:=nl) (t:=[]) (l:=l) (p:=p) O;have f:(Bh l p<0)=False:=eq_false k;unfold NR;have g:(Ar l).take (Bh l p).toNat=Ar (l.take (Bh l p).toNat):=by unfold Ar;rw[ZY]
 have u:(Ar l).drop ((Bh l p).toNat+1)=Ar (l.drop ((Bh l p).toNat+1)):=by unfold Ar;rw[Z0]
 have m:∀l:List Mt,(Ar l).length=l.length:=λl=>Qx ..
 have c:∀a b:List Mt,Ar (a++b)=Ar a++Ar b:=λa b=>Q3
 have j:∀l:List Mt,aE (Ar l) 3=3:=λl=>Xq
 have n:(0:Int)<=Bh l p∧Bh l p<=((l.length:Nat):Int):=O
 have h:IntKind.i64.wrap (Bh l p+1)=Bh l p+1:=Iz O O;have e:(0:Int)<=Bh l p+1∧Bh l p+1<=((l.length:Nat):Int):=O
 have d:(Bh l p+1).toNat=(Bh l p).toNat+1:=O
 have o:(Ar (l.drop ((Bh l p).toNat+1))).take (l.length-((Bh l p).toNat+1))=Ar (l.drop ((Bh l p).toNat+1)):=Qu (by rw[m,ZB];omega);rw[c];generalize Bh l p=i at *;simp only[↓C2,Ie,simprocAttr,Ac aRW 74,r,f,decide_false,m,j,n,e,h,g,u,d,ZL,Zb];refine AF.intro ⟨Xg,.inr ⟨Xh,U⟩⟩ ?_;simp only[↓C2,Ie,simprocAttr,m,j,n,e,h,g,u,d,o,ZL];refine AF.intro ⟨Yb,.inr ⟨Xh,U⟩⟩ ?_;simp only[↓C2,Ie,simprocAttr];refine Al ?_;simp only[↓C2,Ie,simprocAttr]
 all_goals exact Qi
def zM:=AB [(182,Af hZ),(277,Af aI0)]
def aSU:=RF zM aOq [.cell (some 4) 8,.t 9,.t 10] 40
def aXb:Kq aSU 177:=Az (Ai func177) (Aa Px (Aa aLJ Ad))
def aJv(s:Sc)(q:Int)(b:Bool)(v:Int)(cas:Bool)(w:s.rs.length<=1000)(ta:s.nl=true->s.rs=[]):aSU [.agg (Ik s),.agg [.int .i64 q,.bool b],.int .i64 v,.bool cas]=some (.tup [.agg (Ik (CO s q v cas).1),.slice (decide ((CO s q v cas).2.1=[])) [] (AE (CO s q v cas).2.1),.int .i64 (CO s q v cas).2.2]):=by
 refine Aq (Qn rfl) ?_;unfold aOq;have y:=FE s q b w;by_cases c:BF s q=true∨¬(0<=v∧v<=6)
 ·have e:CO s q v cas=(s,[],2):=if_pos c;rw[e];cases i:BF s q with
  |true=>
   rw[i]at y;unfold Ik at *;simp only[↓C2,Ie,simprocAttr,Ac zM 182,y,Qt,Qv,decide_true]
   all_goals exact Qi
  |false=>
   rw[i]at y;have c2:v<0∨6<v:=by rw[i]at c;simp at c;omega
   unfold Ik at *;by_cases p:v<0
   ·simp only[↓C2,Ie,simprocAttr,Ac zM 182,y,Qt,Qv,p,decide_true,decide_false]
    all_goals exact Qi
   ·have u:6<v:=by omega
    simp only[↓C2,Ie,simprocAttr,Ac zM 182,y,Qt,Qv,p,u,decide_true,decide_false]
    all_goals exact Qi
 ·have i:BF s q=false:=by
   cases i:BF s q with
   |false=>rfl
   |true=>exact absurd (.inl i) c
  have z:0<=v∧v<=6:=Decidable.not_not.1 λh=>c (.inr h)
  rw[i]at y;obtain⟨o,m,j,_⟩:=Hz i;have a:=sT {s with mx:=v,cas:=cas} q b w (N6 o z) ta;have e:CO s q v cas=(Nu {s with mx:=v,cas:=cas} q,Nv {s with mx:=v,cas:=cas} q,0):=if_neg c;rw[e];simp only[Of];have d:(v<0)=False:=eq_false O;have k:(6<v)=False:=eq_false O;generalize Nu {s with mx:=v,cas:=cas} q=l at *;generalize Nv {s with mx:=v,cas:=cas} q=l2 at *;generalize CM {s with mx:=v,cas:=cas} q=n2 at *;unfold Ik at *;simp only[↓C2,Ie,simprocAttr,Ac zM 182,y,Ac zM 277,a,Qt,Qv,d,k,decide_true,decide_false]
  all_goals exact Qi
def Oq:=AB [(182,Af hZ),(277,Af aI0)]
def aSS:=RF Oq aOj [.cell (some 4) 8,.t 9,.t 10,.t 11] 82
def aW8:Kq aSS 185:=Az (Ai func185) (Aa Px (Aa aLJ Ad))
def aJq(s:Sc)(q:Int)(b:Bool)(cas size:Int)(w:s.rs.length<=900)(ta:s.nl=true->s.rs=[]):aSS [.agg (Ik s),.agg [.int .i64 q,.bool b],.int .i64 cas,.int .i64 size]=some (.tup [.agg (Ik (Cr s q b cas size).1),.int .i64 (Cr s q b cas size).2.1,.slice (decide ((Cr s q b cas size).2.2.1=[])) [] (AE (Cr s q b cas size).2.2.1),.int .i64 (Cr s q b cas size).2.2.2]):=by
 refine Aq (Qn rfl) ?_;unfold aOj;have y:=FE s q b O;have ia:∀e,Hl s q b cas size=e->e≠0->Cr s q b cas size=(s,0,[],e):=λe u f=>by unfold Cr;rw[if_pos (by rw[u];exact f),u]
 by_cases c:BF s q=true∨cas< -1∨size<0
 ·rw[ia 2 (if_pos c) Z];cases i:BF s q with
  |true=>
   rw[i]at y;unfold Ik at *;simp only[↓C2,Ie,simprocAttr,Ac Oq 182,y,Qt,Qv,decide_true]
   all_goals exact Qi
  |false=>
   rw[i]at y;unfold Ik at *;by_cases p:cas< -1
   ·simp only[↓C2,Ie,simprocAttr,Ac Oq 182,y,Qt,Qv,p,decide_true,decide_false]
    all_goals exact Qi
   ·have t:size<0:=by rw[i]at c;simp at c;omega
    simp only[↓C2,Ie,simprocAttr,Ac Oq 182,y,Qt,Qv,p,t,decide_true,decide_false]
    all_goals exact Qi
 have i:BF s q=false:=by
  simp_all
 rw[i]at y;have d1:(cas< -1)=False:=eq_false λh=>c (.inr (.inl h))
 have d2:(size<0)=False:=eq_false λh=>c (.inr (.inr h))
 by_cases p:96<size
 ·rw[ia 18 (by unfold Hl;rw[if_neg c,if_pos p]) Z];unfold Ik at *;simp only[↓C2,Ie,simprocAttr,Ac Oq 182,y,Qt,Qv,d1,d2,p,decide_true,decide_false]
  all_goals exact Qi
 by_cases t:cas=-1∧(s.cas=true∨b=true)
 ·rw[ia 17 (by unfold Hl;rw[if_neg c,if_neg p,if_pos t]) Z];unfold Ik at *;obtain⟨c5,k⟩:=t;cases hc:s.cas with
  |true=>
   rw[hc]at y;simp only[↓C2,Ie,simprocAttr,Ac Oq 182,y,Qt,Qv,d1,d2,p,hc,c5,decide_true,decide_false]
   all_goals exact Qi
  |false=>
   have r:b=true:=by rw[hc]at k;simpa using k
   subst r;rw[hc]at y;simp only[↓C2,Ie,simprocAttr,Ac Oq 182,y,Qt,Qv,d1,d2,p,hc,c5,decide_true,decide_false]
   all_goals exact Qi
 have g:(s.cas=false∧b=false)∨cas≠-1:=by
  grind
 by_cases c7:cas≠-1∧cas≠s.la
 ·rw[ia 16 (by unfold Hl;rw[if_neg c,if_neg p,if_neg t,if_pos c7]) Z];unfold Ik at *;obtain⟨c8,c9⟩:=c7;cases hc:s.cas<;>cases b
  all_goals
   rw[hc]at y;simp only[↓C2,Ie,simprocAttr,Ac Oq 182,y,Qt,Qv,d1,d2,p,hc,c8,c9,decide_true,decide_false,ne_eq,not_false_eq_true]
   all_goals exact Qi
 have d:(cas=-1∧s.cas=false∧b=false)∨(cas≠-1∧cas=s.la):=by
  grind
 by_cases c8:s.la=30
 ·rw[ia 19 (by unfold Hl;rw[if_neg c,if_neg p,if_neg t,if_neg c7,if_pos c8]) Z];unfold Ik at *;have d8:decide (s.la=30)=true:=decide_eq_true c8;rcases d with ⟨e1,e2,e3⟩|⟨e1,e2⟩
  ·subst e3;rw[e2]at y;simp only[↓C2,Ie,simprocAttr,Ac Oq 182,y,Qt,Qv,d1,d2,p,e1,e2,d8,decide_true,decide_false,ne_eq,not_true_eq_false]
   all_goals exact Qi
  ·subst e2;cases hc:s.cas<;>cases b
   all_goals
    rw[hc]at y;simp only[↓C2,Ie,simprocAttr,Ac Oq 182,y,Qt,Qv,d1,d2,p,hc,e1,d8,decide_true,decide_false,ne_eq,not_false_eq_true,not_true_eq_false]
    all_goals exact Qi
 have v:Hl s q b cas size=0:=by unfold Hl;rw[if_neg c,if_neg p,if_neg t,if_neg c7,if_neg c8]
 obtain⟨o,m,x,_⟩:=Hz i;have a:=sT (Dd s) q b (by simp[Dd];omega) (N6 o m) (by simp[Dd]);have l:IntKind.i64.wrap (s.la+1)=s.la+1:=Iz O O;have j:(Nu (Dd s) q).la=s.la+1:=rfl;have e:Cr s q b cas size=(Nu (Dd s) q,s.la+1,Nv (Dd s) q,0):=by unfold Cr;rw[if_neg (λh=>h v)]
 rw[e];simp only[Of];generalize Nu (Dd s) q=n at *;generalize Nv (Dd s) q=l2 at *;generalize CM (Dd s) q=n2 at *;have z:Ik (Dd s)=[.int .i64 s.mx,.bool s.cas,.int .i64 (s.la+1),.slice false [] (AU s.rs++[.agg [.int .i64 (s.la+1),.bool false,.bool false]])]:=by simp[Dd,Ik,AU,rwD]
 rw[z]at a;unfold Ik at *;rcases d with ⟨e1,e2,e3⟩|⟨e1,e2⟩
 ·subst e3;rw[e2]at y a;simp only[↓C2,Ie,simprocAttr,Ac Oq 182,y,Qt,Qv,d1,d2,p,e1,e2,c8,l,decide_true,decide_false,ne_eq,not_true_eq_false];refine AF.intro ⟨Xo,Fu _,.inr ⟨Xh,U⟩⟩ ?_;simp only[↓C2,Ie,simprocAttr];refine AF.intro ⟨Xo,rfl,.inr ⟨Xh,U⟩⟩ ?_;simp only[↓C2,Ie,simprocAttr];refine Al ?_;simp only[↓C2,Ie,simprocAttr,l,e2,Ac Oq 277,a];refine Al ?_;simp only[↓C2,Ie,simprocAttr,j]
  all_goals exact Qi
 ·subst e2;cases hc:s.cas<;>cases b
  all_goals
   rw[hc]at y a;simp only[↓C2,Ie,simprocAttr,Ac Oq 182,y,Qt,Qv,d1,d2,p,hc,e1,c8,l,decide_true,decide_false,ne_eq,not_false_eq_true,not_true_eq_false];refine AF.intro ⟨Xo,Fu _,.inr ⟨Xh,U⟩⟩ ?_;simp only[↓C2,Ie,simprocAttr];refine AF.intro ⟨Xo,rfl,.inr ⟨Xh,U⟩⟩ ?_;simp only[↓C2,Ie,simprocAttr];refine Al ?_;simp only[↓C2,Ie,simprocAttr,l,hc,Ac Oq 277,a];refine Al ?_;simp only[↓C2,Ie,simprocAttr,j]
   all_goals exact Qi
end Go.Vd
end
