/- A part of the proof; nothing in it is assumed. -/
import Derived.Test.YtfocnoaoekkloaaGreatDoorDecidesP2
import Derived.Lib.AppendZeros
import Derived.Shelf.Strings.BuilderRune

set_option linter.unusedSimpArgs false
set_option linter.unusedVariables false
set_option linter.defProp false
set_option maxHeartbeats 4000000
set_option maxRecDepth 100000
open Nat renaming le_of_ble_eq_true→Qn,reduceEqDiff→Qo,reduceAdd→Qq,zero_le→Qy,succ_ne_zero→Qz,zero_ne_one→QC,sub_zero→QF,reduceLT→QM,reduceLeDiff→QO,zero_add→QR,lt_or_eq_of_le→Q2,le_of_lt_succ→Q3,le_refl→Q7,not_lt_zero→Ze,one_ne_zero→Zq,add_zero→Zr,reduceSub→ZE,sub_self→ZK
open Int renaming toNat_natCast→Qp,lt_irrefl→QN,toNat_of_nonneg→Q1,cast_ofNat_Int→ZG,toNat_zero→ZQ,reduceLT→ZW,reduceLE→ZX,reduceNe→ZY,le_refl→Z_
open List renaming getElem?_eq_getElem→Qr,getElem?_cons_zero→Qv,drop_zero→QA,length_map→QD,take_succ_cons→QE,head?_cons→QG,length_cons→QH,take_zero→QI,drop_succ_cons→QK,getElem?_cons_succ→QL,length_append→QP,length_nil→QQ,append_assoc→QT,nil_append→QV,take_of_length_le→QW,findIdx?_eq_some_iff_getElem→QX,getElem?_append_right→Q_,map_nil→Q0,map_congr_left→Q4,all_nil→Q5,map_cons→Q6,getElem?_eq_some_iff→Q8,drop_eq_getElem_cons→Q9,take_succ_eq_append_getElem→Za,length_eq_zero_iff→Zb,mem_map→Zc,map_append→Zd,append_nil→Zf,drop→Zg,getElem?_map→Zh,all_eq_true→Zj,cons_append→Zk,getElem_of_mem→Zl,take→Zm,map_map→Zn,drop_length→Zo,getD→Zs,map_inj_right→Zt,getElem?_append_left→Zv,findIdx?_eq_none_iff→Zw,length_drop→Zx,mem_nil_iff→ZA,length_set→ZB,all_cons→ZD,mem_cons→ZF,any_eq_false→ZH,flatMap_cons→ZI,any_map→ZJ,length_take→ZL,take_length→ZM,flatMap_nil→ZN,getElem_mem→ZO,all_append→ZP,getLast?→ZS,map_take→ZT,map_drop→ZU,length→ZZ,range→Z0
open Option.some renaming injEq→Qs,inj→Z1
open Option renaming bind_some→Qt,isSome_some→Qx,map_some→QS,map_eq_some_iff→QZ,getD_some→Zz
open Go.Proofs.Tryz renaming prog→Qu
open List.cons renaming injEq→Qw
open And renaming intro→QB
open Bool renaming false_eq_true→QJ,false_ne_true→QU,false_or→Zp,false_and→Zu,or_false→ZC,and_false→ZR,or_true→ZV
open Prod.mk renaming injEq→QY
open Array renaming size_append→Zi
open Prod renaming ext→Zy
open Go.Proofs.Tryz
noncomputable section
namespace Go.Vd
open Go.RowKit
def mQ(n:Nat)(F:List D->List D->Option (D×List D)):IS where
 rd:=λds _=>match ds with
  | .ptr i 0::_=>A4 i 0 n
  |_=>[]
 ex:=λds m _=>match ds with
  | .ptr i 0::rest=>match Ah m i 0 n with
   |some cs=>(F cs rest).map λy=>(y.1,[(i,0,y.2)])
   |none=>none
  |_=>none
def aQt{n:Nat}{F:List D->List D->Option (D×List D)}(ds:List D)(m m':Ig)(fr:Id)(h:∀l∈(mQ n F).rd ds m,m l.1 l.2=m' l.1 l.2):(mQ n F).ex ds m fr=(mQ n F).ex ds m' fr:=by
 grind [mQ,B2]
def VJ{n:Nat}{F:List D->List D->Option (D×List D)}{i:Id}{m:Ig}{v:List D}{fr:Id}:(mQ n F).ex (.ptr i 0::v) m fr=(Ah m i 0 n).bind λcs=>(F cs v).map λy=>(y.1,[(i,0,y.2)]):=by
 grind [mQ,Ah]
def aQu{n:Nat}{F:List D->List D->Option (D×List D)}{ds:List D}{m:Ig}{fr:Id}{r:D}{u:Ir}(h:(mQ n F).ex ds m fr=some (r,u)):
  ∃i v cs q,ds= .ptr i 0::v∧Ah m i 0 n=some cs∧F cs v=some (r,q)∧u=[(i,0,q)]:=by
 simp only[mQ]at h;split at h
 ·rename_i i v;split at h
  ·rename_i cs c;rw[QZ]at h;obtain⟨y,g,h⟩:=h;simp only[QY]at h;obtain⟨rfl,rfl⟩:=h;exact⟨i,v,cs,y.2,rfl,c,g,rfl⟩
  ·cases h
 ·cases h
section
variable{m m':Ig}{i j:Id}{n o k:Nat}{cs ys:List D}{d:D}{fr:Id}
def BU(h:Ah m i 0 n=some cs)(l:cs[k]?=some d):m i k=some d:=by
 grind [Ci]
def jO:∀{ds:List D} {m:Ig} {p:Nat},(∀k d,ds[k]?=some d->m i (p+k)=some d)->Ah m i p ds.length=some ds
 |[],m,p,_=>rfl
 |x::r,m,p,h=>by
  have f:=h 0 x rfl;rw[Zr]at f;have u:=jO (ds:=r) (m:=m) (p:=p+1) (λk d l=>by
   have:=h (k+1) d XQ;rw[show p+(k+1)=p+1+k by omega]at this;exact this)
  simp only[Ah,QH,f,u,QS]
def jN(h:Ah m i 0 n=some cs)(j:o+ys.length<=n):Ah (m.put i o ys) i 0 n=some (cs.take o++ys++cs.drop (o+ys.length)):=by
 obtain⟨u,f⟩:=Ci h;have w:(cs.take o++ys++cs.drop (o+ys.length)).length=n:=by simp only[QP,ZL,Zx];omega
 have:=jO (i:=i) (m:=m.put i o ys) (p:=0) (ds:=cs.take o++ys++cs.drop (o+ys.length)) (λq d l=>by
  rw[QR];simp only[Ig.put];have a:(cs.take o).length=o:=Xg
  by_cases s:q<o
  ·have k:¬(True∧o<=q∧q<o+ys.length):=by omega
   first
    |rw[if_neg Xc]
    |skip
   rw[QT,Zv O,List.getElem?_take,if_pos s]at l;exact BU h l
  ·by_cases g:q<o+ys.length
   ·rw[if_pos Xc];rw[QT,Q_ O,a,Zv O]at l;exact l
   ·rw[if_neg Xc];rw[QT,Q_ O,a,Q_ O,List.getElem?_drop]at l;rw[show o+ys.length+(q-o-ys.length)=q by omega]at l;exact BU h l)
 rw[w]at this;exact this
def Gk(n:Nat)(i:Id)(m m':Ig):Prop:=∀(j:Id)(o:Nat)(x:D),(j≠i∨n<=o)->m j o=some x->m' j o=some x
def Gk.refl:Gk n i m m:=λ_ _ _ _ h=>h
def Gk.own(h:Gk n i m m')(d:o+ys.length<=n):Gk n i m (m'.put i o ys):=λj p x y r=>by
 have u:=h j p x y r;simp only[Ig.put];split
 ·grind
 ·exact u
def Gk.new(z:∀i o,fr<:+i->m i o=none)(l:List Nat)(h:Gk n i m m'):Gk n i m (m'.put (l++k::fr) o ys):=λj p x y r=>by
 have u:=h j p x y r;have c:j≠l++k::fr:=λe=>by
  rw[e,z _ _ ⟨l++[k],U⟩]at r;cases r
 rw[aA c];exact u
def bD(z:∀i o,fr<:+i->m i o=none)(h:Gk n i m m'):Gk n i m (m'.put (k::fr) o ys):=Gk.new z [] h
end
theorem bAn {P : Program} {S : Ic} {f : FuncId} {N : Nat} {dc : DC} {rs : List RV} (hS : Ic.ok P S) (hf : Fn P f N dc rs) {n : Nat} {F : List D → List D → Option (D × List D)} (c : 0 < n) (hN : ∀ cs v y, F cs v = some y → v.length + 1 ≤ N)
  (h : ∀ (i : Id) (m : Ig) (fr : Id) (cs v : List D) (r : D) (ha : List D), Ah m i 0 n = some cs → F cs v = some (r, ha) → (∀ j o, fr <:+ j → m j o = none) → (∀ k l, (i = l ++ k :: fr) = False) → (∀ k, (i = k :: fr) = False) →
   dc.wp S fr (Ew rs fun d m' => d = r ∧ Ah m' i 0 n = some ha ∧ Gk n i m m') ⟨BR (.ptr i 0 :: v), m, 0⟩) : (mQ n F).ok P f := by
 refine Gy hS hf aQt (fun ds m fr r u z ea => ?_)
 obtain ⟨i, v, cs, ha, rfl, xa, g, rfl⟩ := aQu z
 have va : ∃ x, m i 0 = some x := by
  obtain ⟨q, t⟩ := Ci xa
  have := t 0 c
  rw [Qr O] at this
  exact ⟨_, this⟩
 obtain ⟨x0, b⟩ := va
 have sa : ∀ k l, (i = l ++ k :: fr) = False := fun k l => eq_false (fun e => by
  rw [e, ea _ _ ⟨l ++ [k], U⟩] at b
  cases b)
 refine ⟨hN _ _ _ g, ?_⟩
 have hw := h i m fr cs v r ha xa g ea sa (fun k => sa k [])
 refine NK hw (fun e la he => ?_)
 obtain ⟨ma, d, da, rfl, fa, ho⟩ := he
 refine ⟨ma, d, da, rfl, fun j o x p => ?_⟩
 obtain ⟨q, t⟩ := Ci fa
 have oa : (m.put i 0 ha) j o = some x := p
 by_cases s : j = i
 ·subst s
  by_cases a : o < n
  ·grind [Ig.put]
  ·have w : m j o = some x := by
    simp only [Ig.put] at oa
    rw [if_neg (by simp; omega)] at oa
    exact oa
   exact ho j o x (.inr O) w
 ·rw [aA s] at oa
  exact ho j o x (.inl s) oa
section
variable{α:Type}{mk:α->List D}{ok:α->Prop}{res:α->D}
open Classical in
def FX(mk:α->List D)(ok:α->Prop)(res:α->D):List D->Option D:=λds=>if h:∃a,ok a∧mk a=ds then some (res (Classical.choose h))else none
def Bl(inj:∀a b,mk a=mk b->a=b){a:α}(q:ok a):FX mk ok res (mk a)=some (res a):=by
 have h:∃b,ok b∧mk b=mk a:=⟨a,q,rfl⟩;unfold FX;rw[dif_pos h,inj _ _ (Classical.choose_spec h).2]
def C6{ds:List D}{r:D}(h:FX mk ok res ds=some r):∃a,ok a∧mk a=ds∧res a=r:=by
 unfold FX at h;split at h
 ·grind
 ·cases h
def Bo{P:Program}{S:Ic}{f:FuncId}{N:Nat}{p:DC}{rs:List RV}(v:Ic.ok P S)(k:Fn P f N p rs)(b:∀a,(mk a).length<=N)
  (g:∀a,ok a->p.wp S [] (Ew rs λd _=>d.unR=res a∧(res a).calmR=true) ⟨BR (mk a),λ_ _=>none,0⟩):(Af (FX mk ok res)).ok P f:=by
 refine AD v k (λds r h=>?_) (λds r h=>?_)
 ·obtain⟨a,_,rfl,_⟩:=C6 h;exact b a
 ·obtain⟨a,q,rfl,rfl⟩:=C6 h;exact g a q
end
def mkJ(p:List (List UInt8)×List UInt8):List D:=[.slice false [] (p.1.map .str),.str p.2]
def aGK(x y:List (List UInt8)×List UInt8)(e:mkJ x=mkJ y):x=y:=by
 simp only[mkJ,Qw,D.slice.injEq,D.str.injEq,true_and,and_true]at e;exact Zy ((Zt (λa b h=>Xl)).1 e.1) e.2
def aL6:∀l:List (List UInt8),flat (l.map D.str)=l.map D.str
 |[]=>rfl
 |x::r=>by
  have ih:=aL6 r;simp only[Q6,flat,ih];rfl
def dV:List D->Option D:=FX mkJ (λp=>p.1≠[]∧p.1.length<=1000∧Cg p.1<=1000000∧p.2.length<=1000∧(Lib.join p.1 p.2).length<=10000000) (λp=> .str (Lib.join p.1 p.2))
def aCx {P:Program} {ρ:Go.Shelf.Ren} (L:Go.Proofs.Lays.n156 P ρ) (X:Go.Proofs.Builder.Extra P ρ) (ma:∃fn,P.funcs[ρ.f 156]?=some fn∧fn.body.isSome=true∧(fn.name== "runtime.NumGoroutine")=false):(Af dV).ok P (ρ.f 156):=by
 refine⟨ma,λds m m' fr _=>rfl,?_⟩;intro B w0 w m g fr ds vs r u hi fa hl da y;simp only[Af]at y;split at y
 ·rename_i ha;rw[QZ]at y;obtain⟨r',hr,y⟩:=y;simp only[QY]at y;obtain⟨rfl,rfl⟩:=y;obtain⟨⟨l,s⟩,⟨q,t,h3,h4,h5⟩,h,rfl⟩:=C6 hr;simp only at q t h3 h4 h5;have ea:∀(j:Nat) d v,(mkJ (l,s))[j]?=some d->vs[j]?=some v->Im w g d v:=by
   intro j d v k hv;rw[h,Zh,QZ]at k;obtain⟨d',ta,rfl⟩:=k;exact(da j d' v ta hv).un
  have ka:ds.length=2:=by
   have:=congrArg ZZ h;simpa[mkJ]using this.symm
  match vs,hl.trans ka with
  |[v,v1],_=>
   have r0:=ea 0 _ v rfl rfl;have r1:=ea 1 _ v1 rfl rfl;rw[r1.str_inv];obtain⟨ad,n,c,sz,ws,rfl,hn,va,pa,db,o,aa,_⟩:=r0.slice_list;have qa:n=l.length:=by simpa using hn
   subst qa;have sa:sz=1:=by
    cases l with
    |nil=>exact absurd rfl q
    |cons x r=>exact(pa (.str x) U).symm
   subst sa;have za:=aL6 l;rw[za]at o;have ga:∀(j:Nat) z,l[j]?=some z->w.cell? (ad.add j)=some (.string ⟨z.toArray⟩):=by
    intro j z hz;have hj:j<l.length:=(Q8.1 hz).1;have e:j<ws.length:=by rw[db];omega
    have k:(l.map D.str)[j]?=some (.str z):=by rw[Zh,hz];rfl
    have:=o.2.2 j (.str z) ws[j] k (Qr e);rw[aa j ws[j] (Qr e),this.str_inv]
   obtain⟨b,off,jb⟩:=ad;have na:0<l.length:=List.length_pos_iff.2 q;have ja:=ga 0 _ (Qr na);have a:jb=none:=by simpa[Addr.add]using World.cell?_spot ja
   subst a;have ia:b<w.heap.size:=by simpa[Addr.add]using World.block_lt_of_cell? _ _ ja
   have ca:(l.map λx=>(⟨x.toArray⟩:ByteArray)).map (·.data.toList)=l:=YQ
   have hj:(⟨s.toArray⟩:ByteArray).data.toList=s:=rfl;have:=Go.Proofs.Any.strings_Join L X b off c (l.map λx=>(⟨x.toArray⟩:ByteArray)) ⟨s.toArray⟩ w (λj x p=>by
    rw[Zh,QZ]at p;obtain⟨z,hz,rfl⟩:=p;have:=ga j z hz;rw[Fg]at this;exact this) ia Xc Xc (by rw[ca,hj];omega)
   rw[ca,hj,QD]at this;refine this.mono ?_;rintro ev w' ⟨rfl,hb⟩;exact⟨_,g.over w w',rfl,hi.over hb,IF.over hi.gz hb,.str _,λi hf _=>hf⟩
 ·cases y
section
variable{α:Type}{mk:α->List D×List D}{ok:α->Prop}{res:α->D×List D}
end
section
variable{α:Type}{mk:α->List D×List D}{ok:α->Prop}{res:α->D×Id×(Id->List D)}
end
def aQw{R:St->Ex->St->Prop}(s:∀z e1 v e2 l,R z e1 v->R z e2 l->e1=e2∧v=l):∀{n1 z e1 v},Lp R n1 z e1 v->∀{n2 e2 l},Lp R n2 z e2 l->e1=e2∧v=l:=by
 intro n1 z e1 v u;induction u with
 |stop z e la h c=>
  intro n2 e2 l q;cases q with
  |stop _ _ _ b _=>exact s _ _ _ _ _ h b
  |more n _ d _ _ b _=>exact absurd (s _ _ _ _ _ h b).1 c
 |more n z d e la h w ih=>
  intro n2 e2 l q;cases q with
  |stop _ _ _ b c=>exact absurd (s _ _ _ _ _ h b).1.symm c
  |more a _ pa _ _ b o=>
   have:=(s _ _ _ _ _ h b).2;subst this;exact ih o
def aRd{S:Ic}{ns:Id}:∀{p:DC} {z:St} {e1:Ex} {s1:St} {e2:Ex} {l:St},Ev S ns p z e1 s1->Ev S ns p z e2 l->e1=e2∧s1=l:=by
 intro p;induction p with
 |skip=>rintro z e1 s1 e2 l ⟨rfl,rfl⟩ ⟨rfl,rfl⟩;exact⟨rfl,rfl⟩
 |ret=>rintro z e1 s1 e2 l ⟨rfl,rfl⟩ ⟨rfl,rfl⟩;exact⟨rfl,rfl⟩
 |exit i=>rintro z e1 s1 e2 l ⟨rfl,rfl⟩ ⟨rfl,rfl⟩;exact⟨rfl,rfl⟩
 |row ops=>
  rintro z e1 ⟨t,o,j⟩ e2 ⟨x,m,c2⟩ ⟨rfl,u,v⟩ ⟨rfl,q,y⟩;rw[u]at q;simp only[Qs,QY]at q;simp only at v y;exact⟨rfl,by rw[q.1,q.2,v,y]⟩
 |drawn ops ps=>
  rintro z e1 ⟨t,o,j⟩ e2 ⟨x,m,c2⟩ ⟨rfl,⟨n,u,_⟩,v⟩ ⟨rfl,⟨g,q,_⟩,y⟩;rw[u]at q;simp only[Qs,QY]at q;simp only at v y;exact⟨rfl,by rw[q.1,q.2.1,v,y]⟩
 |seq a b d e=>
  rintro z e1 s1 e2 l ⟨f,y1,u,k1⟩ ⟨r,y2,q,s⟩;obtain⟨rfl,rfl⟩:=d u q;rcases k1 with ⟨n1,k1⟩|⟨n1,rfl,rfl⟩<;>rcases s with ⟨n2,s⟩|⟨n2,rfl,rfl⟩
  ·exact e k1 s
  ·exact absurd n1 n2
  ·exact absurd n2 n1
  ·exact Qm
 |cond c a b d e=>
  rintro z e1 s1 e2 l u q;rcases u with ⟨t1,u⟩|⟨t1,u⟩<;>rcases q with ⟨k,q⟩|⟨k,q⟩
  ·exact d u q
  ·rw[t1]at k;simp at k
  ·rw[t1]at k;simp at k
  ·exact e u q
 |block i c ih=>
  rintro z e1 s1 e2 l ⟨f,u,k1⟩ ⟨r,q,s⟩;obtain⟨rfl,rfl⟩:=ih u q;rcases k1 with ⟨n1,rfl⟩|⟨n1,rfl⟩<;>rcases s with ⟨n2,rfl⟩|⟨n2,rfl⟩
  ·exact Qm
  ·exact absurd n1 n2
  ·exact absurd n2 n1
  ·exact Qm
 |loop c ih=>
  rintro z e1 s1 e2 l ⟨n1,u⟩ ⟨n2,q⟩;exact aQw (R:=Ev S ns c) (λz e1 s1 e2 l h w=>@ih z e1 s1 e2 l h w) u q
def SS{S:Ic}{ns:Id}{p:DC}{rs:List RV}{a w:D->Ig->Prop}{z:St}(u:p.wp S ns (Ew rs a) z)(q:p.wp S ns (Ew rs w) z):∃d m,a d m∧w d m:=by
 obtain⟨e1,v,v1,_,d1,g,l⟩:=u;obtain⟨e2,n,v2,_,d2,f,t⟩:=q;obtain⟨rfl,rfl⟩:=aRd v1 v2;rw[g]at f;simp only[Qs]at f;subst f;exact⟨_,_,l,t⟩
def aA5(S:Ic)(p:DC)(rs:List RV)(N:Nat)(ds:List D)(r:D):Prop:=ds.length<=N∧p.wp S [] (Ew rs λd _=>d.unR=r∧r.calmR=true) ⟨BR ds,λ_ _=>none,0⟩
open Classical in
def RF(S:Ic)(p:DC)(rs:List RV)(N:Nat):List D->Option D:=λds=>if h:∃r,aA5 S p rs N ds r then some (Classical.choose h)else none
def aBf{S:Ic}{p:DC}{rs:List RV}{N:Nat}{ds:List D}{r:D}(h:RF S p rs N ds=some r):aA5 S p rs N ds r:=by
 unfold RF at h;split at h
 ·grind
 ·cases h
def Aq{S:Ic}{g:DC}{rs:List RV}{N:Nat}{ds:List D}{r:D}(b:ds.length<=N)(h:g.wp S [] (Ew rs λd _=>d.unR=r∧r.calmR=true) ⟨BR ds,λ_ _=>none,0⟩):RF S g rs N ds=some r:=by
 have p:∃r,aA5 S g rs N ds r:=⟨r,b,h⟩;unfold RF;rw[dif_pos p];obtain⟨d,_,u,q⟩:=SS (Classical.choose_spec p).2 h;rw[←u.1,q.1]
def Az{P:Program}{S:Ic}{f:FuncId}{N:Nat}{p:DC}{rs:List RV}(k:Fn P f N p rs)(v:Ic.ok P S):(Af (RF S p rs N)).ok P f:=
 AD v k (λds r h=>(aBf h).1) (λds r h=>(aBf h).2)
theorem II{m:Ig}{i:Id}{ds:List D}{n:Nat}(h:ds.length=n):Ah (m.put i 0 ds) i 0 n=some ds:=by
 subst h;exact jO (λk d l=>by rw[aF (Q8.1 l).1,l])
def AV{S:Ic}{ns:Id}{b:DC}{Q:Ex->St->Prop}{n:Nat}{I:Nat->St->Prop}(m:∀j,j<n->(∀z g,I (j+1) z->A2 S ns b Q z g)->∀z g,I j z->A2 S ns b Q z g)(x:∀z g,I n z->A2 S ns b Q z g):∀j,j<=n->∀z g,I j z->A2 S ns b Q z g:=by
 have e:∀f j,n=j+f->∀z g,I j z->A2 S ns b Q z g:=by
  intro f;induction f with
  |zero=>
   intro j y z g t;have:j=n:=O
   subst this;exact x z g t
  |succ f ih=>intro j y z g t;exact m j O (λz g h=>ih (j+1) O z g h) z g t
 exact λj y=>e (n-j) j O
def aA4(S:Ic)(p:DC)(rs:List RV)(N n:Nat)(cs v:List D)(y:D×List D):Prop:=cs.length=n∧v.length+1<=N∧∀(i:Id)(m:Ig)(fr:Id),Ah m i 0 n=some cs->(∀j o,fr<:+j->m j o=none)->(∀k l,(i=l++k::fr)=False)->(∀k,(i=k::fr)=False)->
 p.wp S fr (Ew rs λd m'=>d=y.1∧Ah m' i 0 n=some y.2∧Gk n i m m') ⟨BR (.ptr i 0::v),m,0⟩
def aGD(cs:List D)(n:Nat)(w:cs.length=n)(f:0<n):∃m:Ig,Ah m [0] 0 n=some cs∧(∀j o,[1]<:+j->m j o=none)∧(∀k l,(([0]:Id)=l++k::[1])=False)∧(∀k,(([0]:Id)=k::[1])=False):=by
 refine⟨Ig.put (λ_ _=>none) [0] 0 cs,II w,λj o y=>?_,λk l=>eq_false (λe=>?_),λk=>eq_false (λe=>by simp at e)⟩
 ·rw[aA];rintro rfl;obtain⟨t,d⟩:=y;have:=congrArg ZS d;simp at this
 ·have:=congrArg ZS e;simp at this
open Classical in
def RM(S:Ic)(p:DC)(rs:List RV)(N n:Nat):List D->List D->Option (D×List D):=λcs v=>if h:∃y,aA4 S p rs N n cs v y then some (Classical.choose h)else none
def aBd{S:Ic}{p:DC}{rs:List RV}{N n:Nat}{cs v:List D}{y:D×List D}(h:RM S p rs N n cs v=some y):aA4 S p rs N n cs v y:=by
 unfold RM at h;split at h
 ·grind
 ·cases h
def aT4{S:Ic}{g:DC}{rs:List RV}{N n:Nat}{cs v:List D}{y:D×List D}(f:0<n)(w:cs.length=n)(e:v.length+1<=N) (h:∀(i:Id)(m:Ig)(fr:Id),Ah m i 0 n=some cs->(∀j o,fr<:+j->m j o=none)->(∀k l,(i=l++k::fr)=False)->(∀k,(i=k::fr)=False)->
  g.wp S fr (Ew rs λd m'=>d=y.1∧Ah m' i 0 n=some y.2∧Gk n i m m') ⟨BR (.ptr i 0::v),m,0⟩):RM S g rs N n cs v=some y:=by
 have p:∃y,aA4 S g rs N n cs v y:=⟨y,w,e,h⟩;unfold RM;rw[dif_pos p];obtain⟨m,r,b,z,x⟩:=aGD cs n w f;obtain⟨d,m',u,q⟩:=SS ((Classical.choose_spec p).2.2 [0] m [1] r b z x) (h [0] m [1] r b z x);have e1:=u.1.symm.trans q.1;have e2:=u.2.1.symm.trans q.2.1;simp only[Qs]at e2;rw[show Classical.choose p=y from Zy e1 e2]
def aT3{P:Program}{S:Ic}{f:FuncId}{N n:Nat}{p:DC}{rs:List RV}(k:Fn P f N p rs)(c:0<n)(s:Ic.ok P S):(mQ n (RM S p rs N n)).ok P f:=by
 refine bAn s k c (λcs v y d=>(aBd d).2.1) (λi m fr cs v r x j g z u q=>?_);exact(aBd g).2.2 i m fr j z u q
end Go.Vd
namespace Go.Vd
open Go.Proofs Go.RowKit
def aVM{x:D}{l:List D}{n:Nat}:(x::l).take (n+1)=x::l.take n:=rfl
def aVN{l:List D}:l.take 0=[]:=rfl
def aV1{l:List D}:l.drop 0=l:=rfl
def aV0{x:D}{l:List D}{n:Nat}:(x::l).drop (n+1)=l.drop n:=rfl
def bAc{x:D}{f:D->Option (List D)}:(some x).bind f=f x:=rfl
def aVT{f:D->Option (List D)}:(none:Option D).bind f=none:=rfl
def bAb{x:List D}{f:List D->List D}:(some x).map f=some (f x):=rfl
def aVS{x:List D}{f:List D->D}:(some x).map f=some (f x):=rfl
def aVR{x:D}{f:D->D}:(some x).map f=some (f x):=rfl
def aVQ{x:D}{f:D->List D}:(some x).map f=some (f x):=rfl
def bAd{x:List D}:(some x).isSome=true:=rfl
def aVX{x:D}:(some x).isSome=true:=rfl
def bAf{a b:Nat}{l u:List Nat}:(a::l=b::u)=(a=b∧l=u):=U
def aV2{a:Nat}{l:List Nat}:(a::l=[])=False:=U
def bAg:(true=false)=False:=U
def bAh:(false=true)=False:=U
def aVW{m:Ig}{n:Nat}{i:Id}{o:Nat}:Tl m (some n) (.ptr i o)=(Ah m i o n).map .agg:=rfl
def aVV{m:Ig}{i:Id}{o:Nat}:Tl m none (.ptr i o)=m i o:=rfl
def aGp{s:Nat->D}{m:Ig}{k:Option Nat}{a b:Nat}:Cw [.t b,.cell k a] s m=(Tl m k (s a)).map λd=> .tup [s b,d]:=by
 simp only[Cw,Gt,RV.of];cases Tl m k (s a)<;>rfl
def aBi{s:Nat->D}{m:Ig}{k:Option Nat}{a b c:Nat}:Cw [.cell k a,.t b,.t c] s m=(Tl m k (s a)).map λd=> .tup [d,s b,s c]:=by
 simp only[Cw,Gt,RV.of];cases Tl m k (s a)<;>rfl
def Vr{s:Nat->D}{m:Ig}{k:Option Nat}{a b c e:Nat}:Cw [.cell k a,.t b,.t c,.t e] s m=(Tl m k (s a)).map λd=> .tup [d,s b,s c,s e]:=by
 simp only[Cw,Gt,RV.of];cases Tl m k (s a)<;>rfl
def cW{s:Nat->D}{m:Ig}{k:Option Nat}{a b:Nat}:Cw [.cell k a,.t b] s m=(Tl m k (s a)).map λd=> .tup [d,s b]:=by
 simp only[Cw,Gt,RV.of];cases Tl m k (s a)<;>rfl
def aVZ{cs:List D}:Cd cs []=some cs:=rfl
def bAe{cs:List D}{o n:Nat}{d:D}{r:List (Nat×Nat×D)}:Cd cs ((o,n,d)::r)=if d.data=true∧d.cells.length=n∧o+n<=cs.length then Cd (DV cs o d.cells) r else none:=rfl
def bAa{cs ds:List D}{o:Nat}:DV cs o ds=cs.take o++ds++cs.drop (o+ds.length):=rfl
def aVU{nl:Bool}{t u:Id}{xs:List D}:NY 0 (.slice nl t xs) (.slice true u [])=some nl:=by cases nl<;>rfl
def aV6:(true !=false)=true:=rfl
def aV5:(false !=false)=false:=rfl
def aV4:(true !=true)=false:=rfl
def aV3:(false !=true)=true:=rfl
def aVY{m:Ig}{e:Nat}{f t:Id}{xs:List D}:Ir.app m (Bm e f (.slice true t xs))=m.put f 0 [.tok (e+1)]:=rfl
def qK{m:Ig}{e:Nat}{f t:Id}{xs:List D}:Ir.app m (Bm e f (.slice false t xs))=(m.put t 0 [.tok 0]).put f 0 [.tok (e+1)]:=rfl
def aVP{x y:D}{l:List D}:(x::l).set 0 y=y::l:=rfl
def aVO{x y:D}{l:List D}{n:Nat}:(x::l).set (n+1) y=x::l.set n y:=rfl
set_option linter.defProp false
def IU:=QB @Ag <| QB @Ao <| QB @Ap <| QB @BA <| QB @cW <| QB @aGp <| QB @aBi <| QB @Vr <| QB @aVW <| QB @aVV <| QB @aVM <| QB @aVN <| QB @aV1 <| QB @aV0 <| QB @bAc <| QB @aVT <| QB @bAb <| QB @aVS <| QB @aVR <| QB @aVQ <| QB @bAd <| QB @aVX <| QB @bAf <| QB @aV2 <| QB @bAg <| QB @bAh <| QB @Qy <| QB @QF <| QB @QR <| QB @true_and <| QB @and_true <| QB @false_and <| QB @and_false <| QB @and_self <| QB @QC <| QB @Zq <| QB @Qz <| QB @Nat.add_eq_right <| QB @Bool.true_or <| QB @ZV <| QB @Zp <| QB @ZC <| QB @Bool.not_true <| QB @Bool.not_false <| QB @not_true_eq_false <| QB @not_false_eq_true <| QB @aVZ <| QB @bAe <| QB @bAa <| QB @aVP <| QB @aVO <| QB @aVU <| QB @aVY <| QB @qK <| QB aV6 <| QB aV5 <| QB aV4 aV3
def Ie:=QB gB1 IU
def Il:=QB Ij IU
abbrev Rw:=Int×Bool×Bool
def rwD(r:Rw):D:= .agg [.int .i64 r.1,.bool r.2.1,.bool r.2.2]
def AU(l:List Rw):List D:=l.map rwD
def As(l:List Rw):(AU l).length=l.length:=QD ..
theorem C8{l:List Rw}{j:Nat}(h:j<l.length):(AU l)[j]?=some (.agg [.int .i64 l[j].1,.bool l[j].2.1,.bool l[j].2.2]):=by simp[AU,rwD,Qr h]
structure Sc where
 mx:Int
 cas:Bool
 la:Int
 nl:Bool
 rs:List Rw
def Ik(s:Sc):List D:=[.int .i64 s.mx,.bool s.cas,.int .i64 s.la,.slice s.nl [] (AU s.rs)]
def FO:List Rw->Int->Bool
 |[],_=>true
 |x::r,a=>decide (a<x.1)&&FO r x.1
def BE(s:Sc)(q:Int):Int:=if s.mx=0 then q else s.mx
def Li(l:List Rw):Int:=match l.getLast? with
 |some x=>x.1
 |none=>0
def BF(s:Sc)(q:Int):Bool:=!decide (1<=q∧q<=6)||(!decide (0<=s.mx∧s.mx<=6)||(!decide (0<=s.la∧s.la<=30)||(decide (BE s q<s.rs.length)||(!FO s.rs 0||!decide (Li s.rs=s.la)))))
def NQ(s:Sc)(q:Int):Int:=if BF s q=true then 2 else 0
def bBd:=AB []
def aSy:=RF bBd aMY [.t 2] 5
def aWC:Kq aSy 296:=Az (Ai func296) Ad
def aIR(r:Rw):aSy [.agg [.int .i64 r.1,.bool r.2.1,.bool r.2.2]]=some (.int .i64 r.1):=by
 refine Aq (Qn rfl) ?_;unfold aMY;simp only[↓C2,Il,simprocAttr]
 all_goals exact Qi
def bA9:=AB []
def aII:=RF bA9 aMD [.cell (some 2) 0] 2
def aLE:Kq aII 335:=Az (Ai func335) Ad
def sN:aII []=some (.agg [.int .i64 6,.bool false]):=by
 refine Aq (Qn rfl) ?_;unfold aMD;simp only[↓C2,Il,simprocAttr]
 all_goals exact Qi
def bBo:=AB []
def Tg:=RF bBo aNH [.cell (some 2) 0] 2
def aLM:Kq Tg 241:=Az (Ai func241) Ad
def sW:Tg []=some (.agg [.int .i64 6,.bool false]):=by
 refine Aq (Qn rfl) ?_;unfold aNH;simp only[↓C2,Il,simprocAttr]
 all_goals exact Qi
def bBe:=AB []
def aIT:=RF bBe rQ [.t 4] 12
def aLG:Kq aIT 294:=Az aL1 Ad
def sP(s:Sc)(q:Int)(b:Bool):aIT [.agg (Ik s),.agg [.int .i64 q,.bool b]]=some (.int .i64 (BE s q)):=by
 refine Aq (Qn rfl) ?_;unfold rQ;unfold BE Ik;by_cases h:s.mx=0
 ·simp only[↓C2,Il,simprocAttr,h]
  all_goals exact Qi
 ·simp only[↓C2,Il,simprocAttr,h]
  all_goals exact Qi
def aRM:=AB [(296,Af aSy)]
def aSz:=RF aRM rP [.t 4] 23
def aWD:Kq aSz 295:=Az aL0 (Aa aWC Ad)
def aIS{nl:Bool}{l:List Rw}(w:l.length<=1000):aSz [.slice nl [] (AU l),.fn 296 []]=some (.bool (FO l 0)):=by
 refine Aq (Qn rfl) ?_;unfold rP;simp only[↓C2,Ih,simprocAttr,As];refine AV (n:=l.length) (I:=λj z=>z.s 8= .slice nl [] (AU l)∧z.s 9= .int .i64 l.length∧z.s 10= .int .i64 (j:Int)∧z.s 1= .fn 296 []∧∃a,z.s 5= .int .i64 a∧FO (l.drop j) a=FO l 0) (λj y ih z g hI=>?_) (λz g hI=>?_) 0 (Qy _) _ _ ⟨rfl,rfl,rfl,rfl,0,rfl,rfl⟩
 ·obtain⟨c,f,o⟩:=z;obtain⟨t,r,la,u,a,m,q⟩:=hI;simp only at t r la u m;refine Ae Rb.eq_1 ?_;have v:((j:Int)<l.length):=by omega
  have qa:=nJ (j:=j);have h:=wJ (j:=j) O;have d:=C8 y;have k:l.drop j=l[j]::l.drop (j+1):=Q9 y;have b:=aIR l[j];rw[k]at q;generalize l[j]=x at d q b k;by_cases p:x.1<=a
  ·have e:FO l 0=false:=by rw[←q];simp[FO];omega
   simp only[↓C2,Il,simprocAttr,t,r,la,u,m,v,qa,Qp,d,Ac aRM 296,b,p];rw[e]
   all_goals exact Qi
  ·have e:FO (l.drop (j+1)) x.1=FO l 0:=by rw[←q];simp only[FO];rw[decide_eq_true O];rfl
   simp only[↓C2,Il,simprocAttr,t,r,la,u,m,v,qa,Qp,d,Ac aRM 296,b,p,h];exact ih _ _ ⟨t,r,rfl,u,_,rfl,e⟩
 ·obtain⟨t,r,la,u,a,m,q⟩:=hI;refine Ae Rb.eq_1 ?_;have e:FO l 0=true:=by rw[←q];simp[FO]
  simp only[↓C2,Il,simprocAttr,r,la,QN];rw[e]
  all_goals exact Qi
def Ha:Ic:=AB [(246,Af iH),(294,Af aIT),(295,Af aSz)]
def MI:List D->Option D:=RF Ha rT [.t 4] 52
def Sy:Kq MI 191:=Az aL3 (Aa aBI (Aa aLG (Aa aWD Ad)))
def H9(s:Sc)(q:Int)(b:Bool)(w:s.rs.length<=1000):MI [.agg (Ik s),.agg [.int .i64 q,.bool b]]=some (.int .i64 (NQ s q)):=by
 refine Aq (Qn rfl) ?_;unfold rT;have d:=sP s q b;have f:=aIS (nl:=s.nl) (l:=s.rs) w;have c:∀x a b:Int,iH [.int .i64 x,.int .i64 a,.int .i64 b]=some (.bool (decide (a<=x∧x<=b))):=λ_ _ _=>rfl
 have r:IntKind.i64.wrap ((s.rs.length:Int)-1)=(s.rs.length:Int)-1:=Iz O O;have g:0<s.rs.length->∃x:Rw,Li s.rs=x.1∧(AU s.rs)[((s.rs.length:Int)-1).toNat]?=some (.agg [.int .i64 x.1,.bool x.2.1,.bool x.2.2]):=λh=>by
  have hk:((s.rs.length:Int)-1).toNat=s.rs.length-1:=O
  refine⟨s.rs[s.rs.length-1],?_,by rw[hk];exact C8 O⟩;unfold Li;rw[List.getLast?_eq_getElem?,Qr O]
 have t:¬0<s.rs.length->Li s.rs=0:=λh=>by
  have:s.rs=[]:=Zb.1 O;rw[this];rfl
 unfold NQ BF;unfold Ik at d ⊢;generalize BE s q=z at d;generalize FO s.rs 0=k at f;generalize Li s.rs=n at g t;by_cases y:1<=q∧q<=6
 case neg=>
  simp only[↓C2,Il,simprocAttr,Ac Ha 246,c,y]
  all_goals exact Qi
 by_cases c2:0<=s.mx∧s.mx<=6
 case neg=>
  simp only[↓C2,Il,simprocAttr,Ac Ha 246,c,y,c2]
  all_goals exact Qi
 by_cases p:0<=s.la∧s.la<=30
 case neg=>
  simp only[↓C2,Il,simprocAttr,Ac Ha 246,c,y,c2,p]
  all_goals exact Qi
 by_cases u:z<s.rs.length
 case pos=>
  simp only[↓C2,Il,simprocAttr,Ac Ha 246,c,Ac Ha 294,d,y,c2,p,u,As];refine Al ?_;simp only[↓C2,Il,simprocAttr,u]
  all_goals exact Qi
 cases k with
 |false=>
  simp only[↓C2,Il,simprocAttr,Ac Ha 246,c,Ac Ha 294,d,Ac Ha 295,f,y,c2,p,u,As];refine Al ?_;simp only[↓C2,Il,simprocAttr,u]
  all_goals exact Qi
 |true=>
  by_cases o:0<s.rs.length
  ·obtain⟨x,e1,e2⟩:=g o;have i:(0:Int)<(s.rs.length:Int):=by omega
   have j:(0:Int)<=(s.rs.length:Int)-1:=O
   subst e1;by_cases m:x.1=s.la
   ·simp only[↓C2,Il,simprocAttr,Ac Ha 246,c,Ac Ha 294,d,Ac Ha 295,f,y,c2,p,u,m,As];refine Al ?_;simp only[↓C2,Il,simprocAttr,y,c2,p,u,i,j,r,e2,m,As]
    all_goals exact Qi
   ·simp only[↓C2,Il,simprocAttr,Ac Ha 246,c,Ac Ha 294,d,Ac Ha 295,f,y,c2,p,u,m,As];refine Al ?_;simp only[↓C2,Il,simprocAttr,y,c2,p,u,i,j,r,e2,m,As]
    all_goals exact Qi
  ·have e1:=t o;have i:¬(0:Int)<(s.rs.length:Int):=by omega
   subst e1;by_cases m:(0:Int)=s.la
   ·have e:((0:Int)=s.la)=True:=eq_true m;simp only[↓C2,Il,simprocAttr,Ac Ha 246,c,Ac Ha 294,d,Ac Ha 295,f,y,c2,p,u,e,As];refine Al ?_;simp only[↓C2,Il,simprocAttr,y,c2,p,u,i,e,As]
    all_goals exact Qi
   ·have e:((0:Int)=s.la)=False:=eq_false m;simp only[↓C2,Il,simprocAttr,Ac Ha 246,c,Ac Ha 294,d,Ac Ha 295,f,y,c2,p,u,e,As];refine Al ?_;simp only[↓C2,Il,simprocAttr,y,c2,p,u,i,e,As]
    all_goals exact Qi
def aYl:=y0 f48 [] []
def aPh:=y0 f112 [] []
def aPg:=y0 f113 [] []
def aXS:=y0 f93 [] []
def Rz:=y1 f195 3 [] []
def aOe:=y0 f195 [] [(3,Rz)]
def aOd:=y0 f196 [] []
def aPe:=y0 f115 [(2,[(5,1),(5,8),(6,1),(6,8)])] []
def aXR:=y0 f94 [] []
def aOc:=y0 f197 [] []
def aHS:=y1 f216 3 [] []
def aHR:=y1 f216 11 [] []
def aYG:=y0 f216 [] [(3,aHS),(11,aHR)]
def aYj:=y0 f50 [] []
def aYw:=y0 f35 [] []
def aYv:=y0 f36 [] []
def RE:=y1 f129 3 [] []
def aO3:=y0 f129 [] [(3,RE)]
def M6{a b:Bs}:AJ .lss (.str a) (.str b)=some (.bool (Op.bytesLess a b)):=Xj
def aAz{a b:Bs}:AJ .gtr (.str a) (.str b)=some (.bool (!(Op.bytesLess a b||a==b))):=Xj
def Hv(a b:Bs):Int:=if Op.bytesLess a b=true then-1 else if a=b then 0 else 1
def aKr:List D->Option D
 |[.str s]=>some (.bool false)
 |_=>none
def aU6:Kq aKr 210:=by
 refine AD (S:=λ_=>none) AI (Ai func210:Fn Qu 210 6 aN1 [.t 2]) (λds r h=>?_) (λds r h=>?_)
 ·unfold aKr at h;split at h
  ·simp
  ·cases h
 ·unfold aKr at h;split at h
  ·rename_i s;simp only[Qs]at h;subst h;unfold aN1;simp only[↓C2,Ij,reduceIte,Qo,Qq,and_self]
  ·cases h
def aFr:List D->Option D
 |[.str a,.str b]=>some (.int .i64 (Hv a b))
 |_=>none
def aLy:Kq aFr 109:=by
 obtain⟨S,v,w⟩:=A7 (Aa aU6 Ad);have c:=w 210 _ rfl;clear w;refine AD (S:=S) v (Ai func109:Fn Qu 109 20 aPk [.t 4]) (λds r h=>?_) (λds r h=>?_)
 ·unfold aFr at h;split at h
  ·simp
  ·cases h
 ·unfold aFr at h;split at h
  ·rename_i a b;simp only[Qs]at h;subst h;unfold aPk;have d:∀s,aKr [.str s]=some (.bool false):=λ_=>rfl
   unfold Hv;cases w:Op.bytesLess a b with
   |true=>simp only[↓C2,Ij,reduceIte,Qo,Qq,and_self,Ab c,d,M6,w]
   |false=>
    by_cases x:a=b
    ·subst x;have o:(a==a)=true:=by simp
     simp only[↓C2,Ij,reduceIte,Qo,Qq,and_self,Ab c,d,M6,aAz,w,o,Zp]
    ·have o:(a==b)=false:=by simpa using x
     simp only[↓C2,Ij,reduceIte,Qo,Qq,and_self,Ab c,d,M6,aAz,w,o,x,ZC]
  ·cases h
def aAl:List D->Option D
 |[.agg [.str p,.int .i64 q,.bool b],.agg [.str p2,.int .i64 q2,.bool b2]]=>some (.int .i64 (Hv p p2))
 |_=>none
def aVC:Kq aAl 108:=by
 obtain⟨S,v,w⟩:=A7 (Aa aLy Ad);have c:=w 109 _ rfl;clear w;refine AD (S:=S) v (Ai func108:Fn Qu 108 10 aPl [.t 4]) (λds r h=>?_) (λds r h=>?_)
 ·unfold aAl at h;split at h
  ·simp
  ·cases h
 ·unfold aAl at h;split at h
  ·rename_i p q b o f m;simp only[Qs]at h;subst h;unfold aPl;have x:∀a b,aFr [.str a,.str b]=some (.int .i64 (Hv a b)):=λ_ _=>rfl
   simp only[↓C2,Iw,Ii,reduceIte,Qo,Qq,Ag,Qy,QM,QF,Qv,and_self,Qw,QC,Zq,Ab c,x]
  ·cases h
def aAj:List D->Option D
 |[.agg [.str n,.str p,.slice nl t xs],.str s]=>some (.int .i64 (Hv n s))
 |_=>none
def aVd:Kq aAj 196:=by
 obtain⟨S,v,w⟩:=A7 (Aa aLy Ad);have c:=w 109 _ rfl;clear w;refine AD (S:=S) v (Ai func196:Fn Qu 196 9 aOd [.t 4]) (λds r h=>?_) (λds r h=>?_)
 ·unfold aAj at h;split at h
  ·simp
  ·cases h
 ·unfold aAj at h;split at h
  ·rename_i n p nl t xs s;simp only[Qs]at h;subst h;unfold aOd;have x:∀a b,aFr [.str a,.str b]=some (.int .i64 (Hv a b)):=λ_ _=>rfl
   simp only[↓C2,Iw,Ii,reduceIte,Qo,Qq,Ag,Qy,QM,QF,Qv,and_self,Ab c,x]
  ·cases h
abbrev Tk:=Bs×Bs×Bool×List Rl
def I2(k:Tk):D:= .agg [.str k.1,.str k.2.1,.slice k.2.2.1 [] (Aj k.2.2.2)]
def Ay(l:List Tk):List D:=l.map I2
def tkT:D->Tk
 | .agg [.str n,.str p,.slice nl _ xs]=>(n,p,nl,Br xs)
 |_=>([],[],true,[])
def Cz(xs:List D):List Tk:=xs.map tkT
def By(l:List Tk):Cz (Ay l)=l:=by
 simp only[Cz,Ay,Zn]
 conv=>rhs;rw[←List.map_id l]
 exact Q4 λr _=>by simp only[Function.comp,I2,tkT,A_,id]
theorem AH(l:List Tk):(Ay l).length=l.length:=QD ..
def AS(l:List Tk)(j:Nat):Tk:=l.getD j ([],[],true,[])
def DY{l:List Tk}{j:Nat}(h:j<l.length):(Ay l)[j]?=some (I2 (AS l j)):=by
 grind [Ay,AS]
def bsR(l:List Tk)(s:Bs):Nat->Nat->Nat->Nat
 |0,lo,_=>lo
 |f+1,lo,hi=>if lo<hi then(if Hv (AS l ((lo+hi) / 2)).1 s<0 then bsR l s f ((lo+hi) / 2+1) hi else bsR l s f lo ((lo+hi) / 2))else lo
def I3(l:List Tk)(s:Bs):Nat:=bsR l s l.length 0 l.length
def A0(l:List Tk)(s:Bs):Bool:=decide (I3 l s<l.length)&&decide (Hv (AS l (I3 l s)).1 s=0)
def aRu{lo hi:Nat}(h:lo+hi<1000000000):IntKind.i64.wrap ((IntKind.u64.wrap (IntKind.i64.wrap ((lo:Int)+(hi:Int)))).fdiv (2 ^ min (1:Int).toNat IntKind.u64.bits))=(((lo+hi) / 2:Nat):Int):=by
 have u:IntKind.i64.wrap ((lo:Int)+(hi:Int))=((lo+hi:Nat):Int):=Xn
 have q:IntKind.u64.wrap ((lo+hi:Nat):Int)=((lo+hi:Nat):Int):=by
  simp only[IntKind.wrap,IntKind.signed,IntKind.bits,Zu,QJ,if_false];omega
 have o:(((lo+hi:Nat):Int)).fdiv (2 ^ min (1:Int).toNat IntKind.u64.bits)=(((lo+hi) / 2:Nat):Int):=by
  rw[show(2:Int) ^ min (1:Int).toNat IntKind.u64.bits=2 from rfl,Int.fdiv_eq_ediv_of_nonneg _ O];omega
 rw[u,q,o,Iz O O]
def aHc{S:Ic}{ns:Id}{l:List Tk}{nl:Bool}{t:Id}{s:Bs}{Q:Ex->St->Prop}{e:Nat}(a:S 196=some (Af aAj))(i:l.length<=1000000)
  (ia:∀z,z.s 0= .slice nl t (Ay l)->z.s 1= .str s->z.s 2= .fn 196 []->z.s 8= .int .i64 (l.length:Int)->z.s 9= .int .i64 (e:Int)->Q (.exit 0) z):
  ∀(f lo hi:Nat) z g,hi<=lo+f->hi<=l.length->bsR l s f lo hi=e->z.s 0= .slice nl t (Ay l)->z.s 1= .str s->z.s 2= .fn 196 []->z.s 8= .int .i64 (l.length:Int)->z.s 9= .int .i64 (lo:Int)->z.s 10= .int .i64 (hi:Int)->A2 S ns Rz Q z g:=by
 intro f;induction f with
 |zero=>
  intro lo hi z g hf hh x m u q y h9 la;refine Ae Rz.eq_1 ?_;have:¬((lo:Int)<hi):=O
  simp only[↓C2,Ih,Ii,reduceIte,Qo,Qq,h9,la,this];exact ia _ m u q y (by rw[←x];exact h9)
 |succ f ih=>
  intro lo hi z g hf hh x m u q y h9 la;refine Ae Rz.eq_1 ?_;unfold bsR at x;by_cases v:lo<hi
  ·rw[if_pos v]at x;have ca:((lo:Int)<hi):=by omega
   have d:=aRu (lo:=lo) (hi:=hi) O;have sa:(lo+hi) / 2<hi:=O
   have r:lo<=(lo+hi) / 2:=O
   generalize (lo+hi) / 2=mid at x d sa r;have ka:(0:Int)<=(mid:Int):=O
   have h:(0:Int)<=1:=O
   have hw:IntKind.i64.wrap ((mid:Int)+1)=((mid+1:Nat):Int):=Iz O O;have w:=DY (l:=l) (j:=mid) O;generalize AS l mid=k at w x;obtain⟨n,p,o,rs⟩:=k;replace w:(Ay l)[mid]?=some (.agg [.str n,.str p,.slice o [] (Aj rs)]):=w;have b:aAj [.agg [.str n,.str p,.slice o [] (Aj rs)],.str s]=some (.int .i64 (Hv n s)):=rfl;simp only at x;generalize Hv n s=c at x b;obtain⟨ja,da,fa⟩:=z;simp only at m u q y h9 la;by_cases hc:c<0
   ·rw[if_pos hc]at x;simp only[↓C2,Iw,Ii,reduceIte,Qo,Qq,m,u,q,h9,la,ca,d,ka,h,hw,w,hc,Qp,Ab a,b,QO,QE,QI];exact ih (mid+1) hi _ _ O hh x m u q y rfl la
   ·rw[if_neg hc]at x;simp only[↓C2,Iw,Ii,reduceIte,Qo,Qq,m,u,q,h9,la,ca,d,ka,h,w,hc,Qp,Ab a,b,QO,QE,QI];exact ih lo mid _ _ O O x m u q y h9 rfl
  ·rw[if_neg v]at x;have ca:¬((lo:Int)<hi):=by omega
   simp only[↓C2,Ih,Ii,reduceIte,Qo,Qq,h9,la,ca];exact ia _ m u q y (by rw[←x];exact h9)
def WG(l:List Tk)(s:Bs):∀(f lo hi:Nat),lo<=hi->bsR l s f lo hi<=hi
 |0,lo,hi,h=>by simpa[bsR]using h
 |f+1,lo,hi,h=>by
  unfold bsR;split
  ·split
   ·exact WG l s f _ _ O
   ·exact Nat.le_trans (WG l s f _ _ O) O
  ·exact h
open Classical in
def aKy:List D->Option D
 |[.slice _ _ xs,.str s,.fn 196 []]=>if xs=Ay (Cz xs)∧xs.length<=1000000 then some (.tup [.int .i64 (I3 (Cz xs) s:Int),.bool (A0 (Cz xs) s)])else none
 |_=>none
open Classical in
def aKx{nl:Bool}{t:Id}{l:List Tk}{s:Bs}(w:l.length<=1000000):aKy [.slice nl t (Ay l),.str s,.fn 196 []]=some (.tup [.int .i64 (I3 l s:Int),.bool (A0 l s)]):=by
 have h:Ay l=Ay (Cz (Ay l))∧(Ay l).length<=1000000:=by rw[By,AH];exact⟨rfl,w⟩
 show(if _ then _ else _)=_;rw[if_pos h,By]
def aVe:Kq aKy 195:=by
 obtain⟨S,v,w⟩:=A7 (Aa aVd Ad);have a:=w 196 _ rfl;clear w;refine AD (S:=S) v (Ai func195:Fn Qu 195 49 aOe [.t 6,.t 7]) (λds r h=>?_) (λds r h=>?_)
 ·unfold aKy at h;split at h
  ·simp
  ·cases h
 ·unfold aKy at h;split at h
  ·rename_i nl t xs s;split at h
   ·rename_i x;obtain⟨o,w⟩:=x;simp only[Qs]at h;subst h;generalize Cz xs=l at o;subst o;rw[AH]at w;have ta:I3 l s<=l.length:=WG l s _ _ _ O;unfold aOe;simp only[↓C2,Ih,reduceIte,Qo,Qq,AH];refine aHc (l:=l) (nl:=nl) (t:=t) (s:=s) (e:=I3 l s) a w (λz m u q y h9=>?_) l.length 0 l.length _ _ O O rfl rfl rfl rfl rfl rfl rfl;unfold A0;generalize I3 l s=i at h9 ta;by_cases hi:i<l.length
    ·have f:((i:Int)<l.length):=by omega
     have va:(0:Int)<=(i:Int):=O
     have d:=DY (l:=l) (j:=i) hi;generalize AS l i=k at d;obtain⟨n,p,ea,rs⟩:=k;replace d:(Ay l)[i]?=some (.agg [.str n,.str p,.slice ea [] (Aj rs)]):=d;have b:aAj [.agg [.str n,.str p,.slice ea [] (Aj rs)],.str s]=some (.int .i64 (Hv n s)):=rfl;simp only[↓C2,Iw,Ii,reduceIte,Qo,Qq,m,u,q,y,h9,f,va,d,Qp,Ab a,b,QO,QE,QI];simp[hi]
    ·have f:¬((i:Int)<l.length):=by omega
     simp only[↓C2,Ij,reduceIte,Qo,Qq,y,h9,f];simp[hi]
   ·cases h
  ·cases h
def pA(l:List Tk):(Ay l).map D.un=Ay l:=by rw[Ay,Zn];exact Q4 λ_ _=>rfl
def TR(l:List Tk):aE (Ay l) 3=3:=Xq
def Fm(xs:List D):Prop:=xs=Ay (Cz xs)∧xs.length<=1000000
def EV{l:List Tk}(w:l.length<=1000000):Fm (Ay l):=⟨by rw[By],Yh⟩
def EG{xs:List D}(h:Fm xs):∃l:List Tk,xs=Ay l∧l.length<=1000000∧Cz xs=l:=by
 refine⟨Cz xs,h.1,?_,rfl⟩;have:=h.2;rw[h.1,AH]at this;exact this
open Classical in
def F93:List D->Option D
 |[.agg [.slice _ _ xs],.str s]=>if Fm xs then some (.tup [.int .i64 (I3 (Cz xs) s:Int),.bool (A0 (Cz xs) s)])else none
 |_=>none
open Classical in
def Pf{nl:Bool}{t:Id}{l:List Tk}{s:Bs}(w:l.length<=1000000):F93 [.agg [.slice nl t (Ay l)],.str s]=some (.tup [.int .i64 (I3 l s:Int),.bool (A0 l s)]):=by
 show(if _ then _ else _)=_;rw[if_pos (EV w),By]
def aBE:Kq F93 93:=by
 obtain⟨S,v,w⟩:=A7 (Aa aVe Ad);have b:=w 195 _ rfl;clear w;refine AD (S:=S) v (Ai func93:Fn Qu 93 12 aXS [.t 4,.t 5]) (λds r h=>?_) (λds r h=>?_)
 ·unfold F93 at h;split at h
  ·simp
  ·cases h
 ·unfold F93 at h;split at h
  ·rename_i nl t xs s;split at h
   ·rename_i k;obtain⟨l,rfl,w,e⟩:=EG k;simp only[Qs]at h;subst h;rw[e];have a:=aKx (nl:=nl) (t:=[]) (s:=s) w;unfold aXS;simp only[↓C2,Is,simprocAttr,Ag,Ab b,a]
   ·cases h
  ·cases h
open Classical in
def F36:List D->Option D
 |[.agg [.slice _ _ xs],.str s,.str p]=>if Fm xs∧∀k∈Cz xs,k.2.2.2.length<=1000000 then some (.int .u8 (if A0 (Cz xs) s=true then CP (AS (Cz xs) (I3 (Cz xs) s)).2.2.2 p else 0))else none
 |_=>none
def aZ0:Kq F36 36:=by
 obtain⟨S,v,w⟩:=A7 (Aa aBE (Aa aQk Ad));have f:=w 93 _ rfl;have ka:=w 95 _ rfl;clear w;refine AD (S:=S) v (Ai func36:Fn Qu 36 25 aYv [.t 6]) (λds r h=>?_) (λds r h=>?_)
 ·unfold F36 at h;split at h
  ·simp
  ·cases h
 ·unfold F36 at h;split at h
  ·rename_i nl t xs s p;split at h
   ·rename_i x;obtain⟨x,g⟩:=x;obtain⟨l,rfl,w,e⟩:=EG x;rw[e]at g h;simp only[Qs]at h;subst h;have y:=Pf (nl:=nl) (t:=[]) (s:=s) w;have m:=pA l;unfold aYv;cases hf:A0 l s with
    |false=>simp only[↓C2,Is,simprocAttr,Ag,Ao,Ap,Qt,Ab f,y,hf]
    |true=>
     have hi:I3 l s<l.length:=by
      grind [A0]
     rw[hf]at y;generalize I3 l s=i at y hi;have o:(0:Int)<=(i:Int):=O
     have d:=DY (l:=l) (j:=i) hi;have c:AS l i∈l:=by simp[AS,Qr hi]
     have u:=g _ c;generalize AS l i=k at d u;obtain⟨n,q,z,rs⟩:=k;replace d:(Ay l)[i]?=some (.agg [.str n,.str q,.slice z [] (Aj rs)]):=d;have a:=oK (nl:=z) (t:=[]) (s:=p) u;simp only[↓C2,Is,simprocAttr,Ag,Ao,Ap,Qt,QA,QK,QG,Ab f,y,Ab ka,a,o,d,Qp]
   ·cases h
  ·cases h
def GR(n p:Bs)(l:List Rl):Int:=if BV n=false then 2 else if CT l≠0 then CT l else if p=[]∧n=[114,111,111,116]then 0 else if BV p=true∧p≠n then 0 else 2
open Classical in
def PS:List D->Option D
 |[.agg [.str n,.str p,.slice _ _ xs]]=>if(xs=Aj (Br xs)∧xs.length<=1000000∧Ca (Br xs))∧n.length<=1000000∧p.length<=1000000 then some (.int .i64 (GR n p (Br xs)))else none
 |_=>none
open Classical in
def bK{n p:Bs}{nl:Bool}{t:Id}{l:List Rl}(w:l.length<=1000000)(g:Ca l)(u:n.length<=1000000)(q:p.length<=1000000):PS [.agg [.str n,.str p,.slice nl t (Aj l)]]=some (.int .i64 (GR n p l)):=by
 have h:(Aj l=Aj (Br (Aj l))∧(Aj l).length<=1000000∧Ca (Br (Aj l)))∧n.length<=1000000∧p.length<=1000000:=by rw[A_,Aw];exact⟨⟨rfl,w,g⟩,u,q⟩
 show(if _ then _ else _)=_;rw[if_pos h,A_]
def aLx:Kq PS 113:=by
 obtain⟨S,s,w⟩:=A7 (Aa aU4 (Aa qC Ad));have c:=w 213 _ rfl;have u:=w 214 _ rfl;clear w;refine AD (S:=S) s (Ai func113:Fn Qu 113 34 aPg [.t 2]) (λds r h=>?_) (λds r h=>?_)
 ·unfold PS at h;split at h
  ·simp
  ·cases h
 ·unfold PS at h;split at h
  ·rename_i n p nl t xs;split at h
   ·rename_i k;obtain⟨⟨o,w,g⟩,f,ga⟩:=k;simp only[Qs]at h;subst h;generalize Br xs=l at o g;subst o;rw[Aw]at w;have b:aFk [.str n]=some (.bool (BV n)):=if_pos f;have d:aFk [.str p]=some (.bool (BV p)):=if_pos ga;have a:=MA (nl:=nl) (t:=[]) w g;have m:=Gu l;have v:=Ea l;unfold aPg GR;generalize CT l=e at *;generalize BV p=j at *;generalize BV n=i at *;cases i with
    |false=>simp only[↓C2,Iw,Ii,simprocAttr,Ag,Qy,QF,Qv,and_self,Ab c,b]
    |true=>
     simp only[↓C2,Is,simprocAttr,Ag,Ab c,b,Ab u,a]
     repeat' (first|(refine aD (λh=>?_) (λh=>?_)<;>try (exfalso;omega))|(simp only[↓C2,Is,simprocAttr,h,Ag,false_and,Ab c,d]))
     all_goals (try simp_all)
   ·cases h
  ·cases h
def Bz{s:Nat->D}{m:Ig}{k:Option Nat}{a b:Nat}:Cw [.cell k a,.t b] s m=(Tl m k (s a)).map λd=> .tup [d,s b]:=by
 simp only[Cw,Gt,RV.of];cases Tl m k (s a)<;>rfl
def aD1:(true !=false)=true:=rfl
def aD2:(false !=false)=false:=rfl
def MR(nl:Bool)(xs:List D):Prop:=xs=Aj (Br xs)∧xs.length<=1000000∧(nl=true->xs=[])
def Lr{nl:Bool}{l:List Rl}(w:l.length<=1000000)(f:nl=true->l=[]):MR nl (Aj l):=⟨by rw[A_],by rw[Aw];exact w,λh=>by rw[f h];rfl⟩
def Hk{nl:Bool}{xs:List D}(h:MR nl xs):∃l:List Rl,xs=Aj l∧l.length<=1000000∧(nl=true->l=[])∧Br xs=l:=by
 refine⟨Br xs,h.1,?_,λf=>?_,rfl⟩
 ·have:=h.2.1;rw[h.1,Aw]at this;exact this
 ·rw[h.2.2 f];rfl
open Classical in
def aKw:List D->Option D
 |[.slice nl _ xs]=>if MR nl xs then some (.slice nl [] xs)else none
 |_=>none
open Classical in
def aKv{nl:Bool}{t:Id}{l:List Rl}(w:l.length<=1000000)(f:nl=true->l=[]):aKw [.slice nl t (Aj l)]=some (.slice nl [] (Aj l)):=by
 show(if _ then _ else _)=_;rw[if_pos (Lr w f)]
def aVc:Kq aKw 197:=by
 refine AD (S:=λ_=>none) AI (Ai func197:Fn Qu 197 8 aOc [.t 2]) (λds r h=>?_) (λds r h=>?_)
 ·unfold aKw at h;split at h
  ·simp
  ·cases h
 ·unfold aKw at h;split at h
  ·rename_i nl t xs;split at h
   ·rename_i k;obtain⟨l,rfl,w,f,e⟩:=Hk k;simp only[Qs]at h;subst h;have n1:(Aj l).length*25<=140737488355328:=by rw[Aw];omega
    unfold aOc;cases nl with
    |true=>
     have:=f rfl;subst this;simp only[↓C2,Ij,simprocAttr,aD1,NY];rfl
    |false=>simp only[↓C2,Iw,Ii,simprocAttr,Ag,Qy,QF,Qv,and_self,false_and,aD2,n1,F6,E_,OK,false_or,QV,ne_eq,Q0,Q5,NY]
   ·cases h
  ·cases h
open Classical in
def F94:List D->Option D
 |[.agg [.str n,.str p,.slice nl _ xs]]=>if MR nl xs then some (.agg [.str n,.str p,.slice nl [] xs])else none
 |_=>none
open Classical in
def aEY{n p:Bs}{nl:Bool}{t:Id}{l:List Rl}(w:l.length<=1000000)(f:nl=true->l=[]):F94 [.agg [.str n,.str p,.slice nl t (Aj l)]]=some (.agg [.str n,.str p,.slice nl [] (Aj l)]):=by
 show(if _ then _ else _)=_;rw[if_pos (Lr w f)]
def aUb:Kq F94 94:=by
 obtain⟨S,v,w⟩:=A7 (Aa aVc Ad);have a:=w 197 _ rfl;clear w;refine AD (S:=S) v (Ai func94:Fn Qu 94 8 aXR [.cell (some 3) 2]) (λds r h=>?_) (λds r h=>?_)
 ·unfold F94 at h;split at h
  ·simp
  ·cases h
 ·unfold F94 at h;split at h
  ·rename_i n p nl t xs;split at h
   ·rename_i k;obtain⟨l,rfl,w,f,e⟩:=Hk k;simp only[Qs]at h;subst h;have b:=aKv (t:=[]) w f;unfold aXR;simp only[↓C2,Is,simprocAttr,Ag,Ao,Ap,Qt,Qx,Qw,QC,and_false,Qz,BA,A6,Ab a,b]
   ·cases h
  ·cases h
def iY(k:Tk):Prop:=k.2.2.2.length<=1000000∧(k.2.2.1=true->k.2.2.2=[])
open Classical in
def F35:List D->Option D
 |[.agg [.slice _ _ xs],.str s]=>if Fm xs∧∀k∈Cz xs,iY k then some (.tup (if A0 (Cz xs) s=true then [I2 (AS (Cz xs) (I3 (Cz xs) s)),.bool true]else [.agg [.str [],.str [],.slice true [] []],.bool false]))else none
 |_=>none
def aUs:Kq F35 35:=by
 obtain⟨S,v,w⟩:=A7 (Aa aBE (Aa aUb Ad));have f:=w 93 _ rfl;have a:=w 94 _ rfl;clear w;refine AD (S:=S) v (Ai func35:Fn Qu 35 23 aYw [.cell (some 3) 4,.t 5]) (λds r h=>?_) (λds r h=>?_)
 ·unfold F35 at h;split at h
  ·simp
  ·cases h
 ·unfold F35 at h;split at h
  ·rename_i nl t xs s;split at h
   ·rename_i x;obtain⟨x,g⟩:=x;obtain⟨l,rfl,w,e⟩:=EG x;rw[e]at g h;simp only[Qs]at h;subst h;have y:=Pf (nl:=nl) (t:=[]) (s:=s) w;have m:=pA l;unfold aYw;cases hf:A0 l s with
    |false=>simp only[↓C2,Is,simprocAttr,Ag,Ao,Ap,Qt,Qx,Qw,QC,and_false,Qz,A6,Bz,Cd,Ab f,y,hf]
    |true=>
     have hi:I3 l s<l.length:=by
      grind [A0]
     rw[hf]at y;generalize I3 l s=i at y hi;have o:(0:Int)<=(i:Int):=O
     have d:=DY (l:=l) (j:=i) hi;have c:AS l i∈l:=by simp[AS,Qr hi]
     have u:=g _ c;generalize AS l i=k at d u;obtain⟨n,q,z,rs⟩:=k;replace d:(Ay l)[i]?=some (.agg [.str n,.str q,.slice z [] (Aj rs)]):=d;have ka:=aEY (n:=n) (p:=q) (t:=[]) u.1 u.2;simp only[↓C2,Is,simprocAttr,Ag,Ao,Ap,Qt,QE,QI,Qx,Qw,QC,and_false,Qz,A6,Bz,Ab f,y,Ab a,ka,o,d,Qp,I2]
   ·cases h
  ·cases h
def aHW:=y1 f106 3 [] []
def aHV:=y1 f106 11 [] []
def aYO:=y0 f106 [] [(3,aHW),(11,aHV)]
def aL5:Fn Qu 106 36 aYO [.t 2]:=Ai func106
abbrev sz3:D->Bool:=iL 3
def PI:List D->Option D
 |[.slice _ _ L]=>match Ga L with
  |some ys=>if L.length<=1000∧0<ys.length∧ys.length<=100000∧ys.all sz3=true then some (.slice false [] ys)else none
  |none=>none
 |_=>none
set_option maxRecDepth 20000 in
def bS(w:World)(k:Nat)(r:0<k)(j:k<=1000000):
  Calls Qu 315 #[.slice none 0 0,.int .i64 (k:Int)] w λe n=>e= .returned (.slice (some ⟨w.heap.size,0,none⟩) 0 (grownCap w k 0 97))∧n=w.drew.alloc (.cells (Builtin.zeroCells #[.string .empty,.string .empty,.slice none 0 0] k++Builtin.zeroCells #[.string .empty,.string .empty,.slice none 0 0] (grownCap w k 0 97-k)) 97):=by
 have y:=Lib.run_append_nil_zeros (P:=Qu) w 53 3 53 97 t97 (.agg #[.string .empty,.string .empty,.slice none 0 0]) .i64 .i64 underlying53 underlying3 Xa Xa k r Z O (by show k*56<=_;omega)
 go_enter func315,ntmps315
 go_wp2_with (first|(at_builtin;refine Lib.wpList_append_run _ rfl _ _ _ _ rfl _ _ rfl rfl _ _ y ?_))
 all_goals go_ret
 all_goals exact⟨rfl,rfl⟩
def aUB:(En 97).ok Qu 315:=by
 refine Oa (sz:=3) ⟨_,func315,Xa,Xa⟩ Z ⟨t97,(.agg #[.string .empty,.string .empty,.slice none 0 0]),Xa,Xa,Xa,Xa⟩ (λw k r j=>?_);refine(bS w k r j).mono ?_;rintro e n ⟨rfl,rfl⟩;refine⟨_,_,grownCap_le_maxLen w k 0 97 Xk,?_,rfl,rfl⟩;have s:=grownCap_ge w k 0 97;simp only[Zi,size_zeroCells];simp;omega
def UU{ds:List D}{r:D}(h:PI ds=some r):∃nl t L ys,ds=[.slice nl t L]∧Ga L=some ys∧L.length<=1000∧0<ys.length∧ys.length<=100000∧ys.all (iL 3)=true∧r= .slice false [] ys:=by
 unfold PI at h;split at h
 ·grind
 ·cases h
def aU2(a:(En 97).ok Qu 315):Kq PI 216:=sD (pt:=9) (bytes:=56) (Ai func216:Fn Qu 216 36 aYG [.t 2]) O a λ_ _ h=>UU h
set_option maxRecDepth 20000 in
def bT(w:World)(k:Nat)(r:0<k)(j:k<=1000000):
  Calls Qu 207 #[.slice none 0 0,.int .i64 (k:Int)] w λe n=>e= .returned (.slice (some ⟨w.heap.size,0,none⟩) 0 (grownCap w k 0 124))∧n=w.drew.alloc (.cells (Builtin.zeroCells #[.string .empty,.int .i64 0,.bool false] k++Builtin.zeroCells #[.string .empty,.int .i64 0,.bool false] (grownCap w k 0 124-k)) 124):=by
 have y:=Lib.run_append_nil_zeros (P:=Qu) w 50 3 50 124 t124 (.agg #[.string .empty,.int .i64 0,.bool false]) .i64 .i64 underlying50 underlying3 Xa Xa k r Z O (by show k*32<=_;omega)
 go_enter func207,ntmps207
 go_wp2_with (first|(at_builtin;refine Lib.wpList_append_run _ rfl _ _ _ _ rfl _ _ rfl rfl _ _ y ?_))
 all_goals go_ret
 all_goals exact⟨rfl,rfl⟩
def aLm:(En 124).ok Qu 207:=by
 refine Oa (sz:=3) ⟨_,func207,Xa,Xa⟩ Z ⟨t124,(.agg #[.string .empty,.int .i64 0,.bool false]),Xa,Xa,Xa,Xa⟩ (λw k r j=>?_);refine(bT w k r j).mono ?_;rintro e n ⟨rfl,rfl⟩;refine⟨_,_,grownCap_le_maxLen w k 0 124 Xk,?_,rfl,rfl⟩;have s:=grownCap_ge w k 0 124;simp only[Zi,size_zeroCells];simp;omega
def aVE(a:(En 124).ok Qu 207):Kq PI 106:=sD (pt:=9) (bytes:=32) aL5 O a λ_ _ h=>UU h
def Io:Tk:=([114,111,111,116],[],false,[([],63)])
def aKZ:List D->Option D
 |[]=>some (I2 Io)
 |_=>none
def aVz:Kq aKZ 112:=by
 refine AD (S:=λ_=>none) AI (Ai func112:Fn Qu 112 4 aPh [.cell (some 3) 0]) (λds r h=>?_) (λds r h=>?_)
 ·grind [aKZ]
 ·unfold aKZ at h;split at h
  ·simp only[Qs]at h;subst h;unfold aPh;simp only[↓C2,Is,simprocAttr,Ag,Ao,Ap,Qt,QE,QI,Qx,QA,QK,Qw,QC,and_false,Qz,BA,A6,Cd,DV,QV,Q0,Q5,I2,Io,Aj,iM,Q6,Q0]
  ·cases h
def F48:List D->Option D
 |[]=>some (.agg [.slice false [] (Ay [Io])])
 |_=>none
def aUf:Kq F48 48:=by
 obtain⟨S,v,w⟩:=A7 (Aa aVz Ad);have a:=w 112 _ rfl;clear w;refine AD (S:=S) v (Ai func48:Fn Qu 48 4 aYl [.cell (some 1) 0]) (λds r h=>?_) (λds r h=>?_)
 ·grind [F48]
 ·unfold F48 at h;split at h
  ·simp only[Qs]at h;subst h;have d:aKZ []=some (.agg [.str [114,111,111,116],.str [],.slice false [] [.agg [.str [],.int .u8 63]]]):=rfl;unfold aYl;simp only[↓C2,Iw,Ii,simprocAttr,Ag,Ao,Ap,Qy,QF,Qv,and_self,Qt,QI,Qx,QA,QK,Qw,QC,Qz,BA,A6,Cd,DV,QV,Q0,Q5,Ab a,d,Ay,I2,Io,Aj,iM,Q6,Q0]
  ·cases h
def DI(l:List Tk)(k:Tk):List Tk:=l.take (I3 l k.1)++k::l.drop (I3 l k.1)
open Classical in
def aKY:List D->Option D
 |[.agg [.slice _ _ xs],.agg [.str n,.str p,.slice nl _ ys]]=>if Fm xs∧xs.length<=90000∧MR nl ys then some (.agg [.slice false [] (Ay (DI (Cz xs) (n,p,nl,Br ys)))])else none
 |_=>none
open Classical in
def aKX{nl0 nl:Bool}{t0 t:Id}{l:List Tk}{n p:Bs}{rs:List Rl}(w:l.length<=90000)(y:rs.length<=1000000)(f:nl=true->rs=[]):
  aKY [.agg [.slice nl0 t0 (Ay l)],.agg [.str n,.str p,.slice nl t (Aj rs)]]=some (.agg [.slice false [] (Ay (DI l (n,p,nl,rs)))]):=by
 have h:Fm (Ay l)∧(Ay l).length<=90000∧MR nl (Aj rs):=⟨EV O,Yh,Lr y f⟩;show(if _ then _ else _)=_;rw[if_pos h,By,A_]
def aVx:Kq aKY 115:=by
 obtain⟨S,hS,w⟩:=A7 (Aa aBE (Aa aUb (Aa (aU2 aUB) Ad)));have f:=w 93 _ rfl;have a:=w 94 _ rfl;have b:=w 216 _ rfl;clear w;refine AD (S:=S) hS (Ai func115:Fn Qu 115 28 aPe [.cell (some 1) 4]) (λds r h=>?_) (λds r h=>?_)
 ·unfold aKY at h;split at h
  ·simp
  ·cases h
 ·unfold aKY at h;split at h
  ·rename_i nl0 t0 xs n p nl t ys;split at h
   ·rename_i k;obtain⟨k,h9,q⟩:=k;obtain⟨l,rfl,w,e⟩:=EG k;obtain⟨rs,rfl,ma,qa,e2⟩:=Hk q;rw[e,e2]at h;rw[AH]at h9;simp only[Qs]at h;subst h;have z:=Pf (nl:=nl0) (t:=[]) (s:=n) w;have u:=aEY (n:=n) (p:=p) (t:=[]) ma qa;have ta:I3 l n<=l.length:=WG l n _ _ _ O;unfold DI;generalize I3 l n=i at z ta;generalize A0 l n=m at z;have j:(0:Int)<=(i:Int):=by omega
    have v:(i:Int)<=(l.length:Int):=O
    have xa:l.length<=l.length:=Q7 _;have na:(Ay l).take i=Ay (l.take i):=(ZT ..).symm;have g:((Ay l).drop i).take (l.length-i)=Ay (l.drop i):=by
     rw[QW (by rw[Zx,AH];omega)];exact(ZU ..).symm
    have c:PI [.slice false [] [.slice nl0 [] (Ay (l.take i)),.slice false [] [.agg [.str n,.str p,.slice nl [] (Aj rs)]],.slice nl0 [] (Ay (l.drop i))]]=some (.slice false [] (Ay (l.take i++(n,p,nl,rs)::l.drop i))):=by
     have e1:Ga [.slice nl0 [] (Ay (l.take i)),.slice false [] [.agg [.str n,.str p,.slice nl [] (Aj rs)]],.slice nl0 [] (Ay (l.drop i))]=some (Ay (l.take i++(n,p,nl,rs)::l.drop i)):=by
      simp[Ga,Ay,I2]
     simp only[PI,e1];rw[if_pos];refine⟨U,?_,?_,?_⟩
     ·grind [AH]
     ·grind [AH]
     ·rw[Zj];intro x o;obtain⟨y,_,rfl⟩:=Zc.1 o;rfl
    unfold aPe;simp only[↓C2,Is,simprocAttr,Ag,Ao,Ap,Qt,QI,Qx,QA,QK,Qw,QC,and_false,Qz,Cd,DV,TR,QV,Q0,Q5,Ab f,z,Ab a,u,Ab b,c,AH,j,v,na,g,Qp,Q7];refine Al ?_;simp only[↓C2,Iw,Ii,simprocAttr,Ag,Ao,Ap,QF,Qv,and_self,Qt,QA,Qw,Qz,BA,A6,Q0,Q5,na,g,Q7]
   ·cases h
  ·cases h
def dP{S:Ic}{ns:Id}{a b l:List Rl}{nl na nb:Bool}{t ta tb:Id}{Q:Ex->St->Prop}{e:Bool}{n:D}{i:Int}(ka:S 95=some (Af F95))(c:S 215=some (Af aAf))
  (la:a.length<=1000000) (lb:b.length<=1000000) (pb:Ca b) (ca:Eh a) (cb:Eh b) (hb:l.length<=1000000) (xa:Ca l)
  (ma:∀z,e=false->z.s 4= .bool false->Q .ret z) (ia:∀z,e=true->z.s 0= .slice na ta (Aj a)->z.s 1= .slice nb tb (Aj b)->z.s 19=n->z.s 20= .int .i64 i->Q (.exit 2) z):
  ∀(f j:Nat) z g,l.length=j+f->Er a b l f j=e->z.s 0= .slice na ta (Aj a)->z.s 1= .slice nb tb (Aj b)->z.s 19=n->z.s 20= .int .i64 i->z.s 23= .slice nl t (Aj l)->z.s 24= .int .i64 (l.length:Int)->z.s 25= .int .i64 (j:Int)->A2 S ns RN Q z g:=by
 intro f;induction f with
 |zero=>
  intro j z g hf x h0 u ua d o m ra;refine Ae RN.eq_1 ?_;have:¬((j:Int)<l.length):=O
  simp only[↓C2,Ih,Ii,reduceIte,Qq,m,ra,this];exact ia _ x.symm h0 u ua d
 |succ f ih=>
  intro j z g hf x h0 u ua d o m ra;refine Ae RN.eq_1 ?_;unfold Er at x;have hj:j<l.length:=O
  have v:((j:Int)<l.length):=O
  have qa:=nJ (j:=j);have hw:=wJ (j:=j) O;have w:(Aj l)[j]?=some (.agg [.str (BL l j).1,.int .u8 (BL l j).2]):=Ek hj;have hq:=Lu xa hj;unfold VD at x;generalize BL l j=r at w hq x;obtain⟨q,k⟩:=r;simp only at w hq x;have p:=oK (nl:=na) (t:=[]) (s:=q) la;have y:=Ok (s:=q) ca;have h:=uA (nl:=nb) (t:=[]) (s:=q) lb cb pb hq y.1 y.2;unfold H5 at h;generalize N9 (CP b q).toNat (CP a q).toNat=hh at x h;obtain⟨ja,da,fa⟩:=z;simp only at h0 u ua d o m ra;cases hh with
  |true=>
   rw[if_pos rfl]at x;simp only[↓C2,Is,reduceIte,Qo,Qq,h0,u,o,m,ra,v,qa,Qp,w,Ab ka,p,Ab c,h,Ag,Ao,Ap,QM,QO,Qt,QE,QI,Qx];refine Al ?_;simp only[↓C2,Ih,IM,reduceIte,Qo,Qq,ra,hw];exact ih (j+1) _ _ O x h0 u ua d o m rfl
  |false=>
   rw[if_neg U]at x;simp only[↓C2,Is,reduceIte,Qo,Qq,h0,u,o,m,ra,v,qa,Qp,w,Ab ka,p,Ab c,h,Ag,Ao,Ap,QM,QO,Qt,QE,QI,Qx];refine Al ?_;simp only[↓C2,Ih,IM,reduceIte,Qo,Qq];exact ma _ x.symm rfl
def aVy:Kq aFq 114:=by
 obtain⟨S,v,w⟩:=A7 (Aa qC (Aa aQk (Aa aU3 Ad)));have ia:=w 214 _ rfl;have ka:=w 95 _ rfl;have c:=w 215 _ rfl;clear w;refine AD (S:=S) v (Ai func114:Fn Qu 114 40 aPf [.t 4]) (λds r h=>?_) (λds r h=>?_)
 ·grind [OA]
 ·obtain⟨na,ta,a,nb,tb,b,rfl,la,lb,pa,pb,s,cb,rfl⟩:=OA h;have o:=MA (nl:=na) (t:=[]) la pa;have eb:=MA (nl:=nb) (t:=[]) lb pb;have k:=Ea a;have i:=Ea b;have n:=Gu a;have m:=Gu b;unfold aPf DZ;generalize CT a=xa at *;generalize CT b=xb at *;by_cases f:xa=0
  ·by_cases g:xb=0
   ·subst f g;have z2:((2:Nat):Int)=2:=rfl;have w1:IntKind.i64.wrap ((0:Int)+1)=1:=Iz O O;have y:IntKind.i64.wrap ((1:Int)+1)=2:=Iz O O;rw[ZP];have x:a.all (VD a b)=Er a b a a.length 0:=by rw[GF _ _ _ _ _ O];rfl
    have p:b.all (VD a b)=Er a b b b.length 0:=by rw[GF _ _ _ _ _ O];rfl
    rw[x,p];simp only[↓C2,Iw,Ii,reduceIte,Qo,Qq,Ab ia,o,eb,Cd,DV,QO,and_self,QE,QI,QA,QK];refine Ae RL.eq_1 ?_;simp only[↓C2,Ih,Ii,reduceIte,Qo,Qq,Aw,z2,ZW,ZQ,Z_,Qv,and_self];refine dP (a:=a) (b:=b) (l:=a) (e:=Er a b a a.length 0) ka c la lb pb s cb la pa (λz u q=>?_) (λz j h0 u ua d=>?_) a.length 0 _ _ O rfl rfl rfl rfl rfl rfl rfl rfl
    ·simp only[↓C2,Ij,u,q,Zu,ZR]
    ·simp only[↓C2,Ij,reduceIte,Qo,Qq,d,j,w1];refine Ae RL.eq_1 ?_;simp only[↓C2,Ih,Ii,reduceIte,Qo,Qq,ua,d,Aw,z2,ZW,Int.toNat_one,ZX,Qv,QL,and_self];refine dP (a:=a) (b:=b) (l:=b) (e:=Er a b b b.length 0) ka c la lb pb s cb lb pb (λz u q=>?_) (λz da h0 u ua d=>?_) b.length 0 _ _ O rfl h0 u ua rfl rfl rfl rfl
     ·simp only[↓C2,Ij,u,q,j,ZR]
     ·simp only[↓C2,Ij,reduceIte,Qo,Qq,d,j,da,y];refine Ae RL.eq_1 ?_;simp only[↓C2,Ij,reduceIte,Qo,Qq,d,j,da,QN]
   ·simp only[↓C2,Ij,reduceIte,Qo,Qq,Ab ia,o,eb,g,f]
    try simp
  ·simp only[↓C2,Ij,reduceIte,Qo,Qq,Ab ia,o,f]
   try simp
def De(l:List Tk)(k:Tk):Option (List Tk)×Int:=
 if GR k.1 k.2.1 k.2.2.2≠0 then(none,GR k.1 k.2.1 k.2.2.2)else if k.2.1=[]then(none,2)else if A0 l k.1=true then(none,20)else if A0 l k.2.1=false then(none,6)
 else if DZ k.2.2.2 (AS l (I3 l k.2.1)).2.2.2=false then(none,13)else(some (DI l k),0)
def Vh(nl:Bool)(l:List Tk)(o:Option (List Tk)):D:=match o with
 |none=> .agg [.slice nl [] (Ay l)]
 |some u=> .agg [.slice false [] (Ay u)]
def EB(l:List Rl):Prop:=l.length<=1000000∧Ca l∧Eh l
open Classical in
def F50:List D->Option D
 |[.agg [.slice nl0 _ xs],.agg [.str n,.str p,.slice nl _ ys]]=>if(Fm xs∧xs.length<=90000∧∀k∈Cz xs,EB k.2.2.2)∧MR nl ys∧EB (Br ys)∧n.length<=1000000∧p.length<=1000000
   then some (.tup [Vh nl0 (Cz xs) (De (Cz xs) (n,p,nl,Br ys)).1,.int .i64 (De (Cz xs) (n,p,nl,Br ys)).2])else none
 |_=>none
def aUe:Kq F50 50:=by
 obtain⟨S,q,w⟩:=A7 (Aa aLx (Aa aBE (Aa aVy (Aa aVx Ad))));have c:=w 113 _ rfl;have u:=w 93 _ rfl;have f:=w 114 _ rfl;have g:=w 115 _ rfl;clear w;refine AD (S:=S) q (Ai func50:Fn Qu 50 54 aYj [.cell (some 1) 4,.t 5]) (λds r h=>?_) (λds r h=>?_)
 ·unfold F50 at h;split at h
  ·simp
  ·cases h
 ·unfold F50 at h;split at h
  ·rename_i nl0 t0 xs n p nl t ys;split at h
   ·rename_i hc;obtain⟨⟨hc,h9,hk⟩,y,a,hn,hp⟩:=hc;obtain⟨l,rfl,w,e⟩:=EG hc;obtain⟨rs,rfl,ma,qa,e2⟩:=Hk y;rw[e,e2]at h;rw[e]at hk;rw[e2]at a;rw[AH]at h9;simp only[Qs]at h;subst h;have v:=bK (n:=n) (p:=p) (nl:=nl) (t:=[]) ma a.2.1 hn hp;have d:=Pf (nl:=nl0) (t:=[]) (s:=n) w;have b:=Pf (nl:=nl0) (t:=[]) (s:=p) w;have o:=aKX (nl0:=nl0) (t0:=[]) (n:=n) (p:=p) (t:=[]) h9 ma qa;unfold aYj De;simp only;generalize GR n p rs=e at *;by_cases x:e=0
    ·subst x;by_cases la:p=[]
     ·subst la;simp only[↓C2,Is,simprocAttr,Ag,Ao,Ap,Qt,Qx,Qw,QC,and_false,Qz,A6,Bz,Ab c,v,ne_eq];simp[Vh];rfl
     ·cases h1:A0 l n with
      |true=>
       rw[h1]at d;simp only[↓C2,Is,simprocAttr,Ag,Ao,Ap,Qt,Qx,Qw,QC,and_false,Qz,A6,Bz,Ab c,v,Ab u,d,ne_eq,la];simp[Vh];rfl
      |false=>
       rw[h1]at d;cases h2:A0 l p with
       |false=>
        rw[h2]at b;simp only[↓C2,Is,simprocAttr,Ag,Ao,Ap,Qt,Qx,Qw,QC,and_false,Qz,A6,Bz,Ab c,v,Ab u,d,b,ne_eq,la];simp[Vh];rfl
       |true=>
        have hi:I3 l p<l.length:=by
         grind [A0]
        rw[h2]at b;generalize I3 l p=i at b hi;have va:(0:Int)<=(i:Int):=O
        have ga:=DY (l:=l) (j:=i) hi;have hm:AS l i∈l:=by simp[AS,Qr hi]
        have ia:=hk _ hm;generalize AS l i=k at ga ia;obtain⟨n2,p2,ca,m⟩:=k;replace ga:(Ay l)[i]?=some (.agg [.str n2,.str p2,.slice ca [] (Aj m)]):=ga;have z:=uD (na:=nl) (nb:=ca) (ta:=[]) (tb:=[]) ma ia.1 a.2.1 ia.2.1 a.2.2 ia.2.2;simp only at z;cases h3:DZ rs m with
        |false=>
         rw[h3]at z;simp only[↓C2,Is,simprocAttr,Ag,Ao,Ap,Qt,QA,QK,QG,Qw,QC,and_false,Qz,Ab c,v,Ab u,d,b,ne_eq,la,va,ga,Qp,Ab f,z];refine Al ?_;simp only[↓C2,Iw,Ii,simprocAttr,Ag,Ao,Ap,Qy,QF,Qv,and_self,Qt,Qx,Qw,QC,Qz,A6,Bz,la];simp[Vh];rfl
        |true=>
         rw[h3]at z;simp only[↓C2,Is,simprocAttr,Ag,Ao,Ap,Qt,QA,QK,QG,Qw,QC,and_false,Qz,Ab c,v,Ab u,d,b,ne_eq,la,va,ga,Qp,Ab f,z];refine Al ?_;simp only[↓C2,Is,simprocAttr,Ag,Ao,Ap,Qt,Qx,Qw,QC,and_false,Qz,A6,Bz,Ab g,o,la];simp[Vh];rfl
    ·simp only[↓C2,Is,simprocAttr,Ag,Ao,Ap,Qt,Qx,Qw,QC,and_false,Qz,A6,Bz,Ab c,v,ne_eq,x];simp[Vh];rfl
   ·cases h
  ·cases h
def aHi{S:Ic}{l:List Tk}{nl0:Bool}{t0:Id}{Q:Ex->St->Prop}(i:l.length<=1000000)
  (e:∀z nl t,nl=decide (l.length=0)->z.s 3= .slice nl t (l.map λk=> .str k.1)->Q (.exit 0) z):
  ∀(f j:Nat) nl t z g,l.length=j+f->nl=decide (j=0)->Gw z.m z.c 9 nl t->z.s 3= .slice nl t ((l.take j).map λk=> .str k.1)->z.s 7= .slice nl0 t0 (Ay l)->z.s 8= .int .i64 (l.length:Int)->z.s 9= .int .i64 (j:Int)->A2 S [] RE Q z g:=by
 intro f;induction f with
 |zero=>
  intro j nl t z g a r hG o w h8 h9;refine Ae RE.eq_1 ?_;have:¬((j:Int)<l.length):=O
  simp only[↓C2,Ih,Ii,reduceIte,Qq,h8,h9,this];refine e _ nl t (by rw[r,show j=l.length by omega]) ?_;rw[show j=l.length by omega,ZM]at o;exact o
 |succ f ih=>
  intro j nl t z g a r hG o w h8 h9;refine Ae RE.eq_1 ?_;have y:j<l.length:=O
  have v:((j:Int)<l.length):=O
  have qa:=nJ (j:=j);have hw:=wJ (j:=j) O;have d:=DY (l:=l) (j:=j) y;have na:(l.take (j+1)).map (λk:Tk=>D.str k.1)=(l.take j).map (λk:Tk=>D.str k.1)++[.str (AS l j).1]:=by
   rw[Za y,Zd];simp[AS,Qr y]
  have h:((l.take j).map (λk:Tk=>D.str k.1)).length=j:=Xc
  have x:nl=true->(l.take j).map (λk:Tk=>D.str k.1)=[]:=by
   simp_all
  generalize (l.take j).map (λk:Tk=>D.str k.1)=q at o na h x;generalize AS l j=k at d na;obtain⟨n,p,ea,rs⟩:=k;replace d:(Ay l)[j]?=some (.agg [.str n,.str p,.slice ea [] (Aj rs)]):=d;obtain⟨ja,u,b⟩:=z;simp only at o w h8 h9 hG na;simp only[↓C2,Is,simprocAttr,o,w,h8,h9,v,qa,Qp,d,Ag,Ao,Ap,Qt,QE,QI,Qx,and_false];refine AF.intro ⟨O,rfl,?_⟩ ?_
  ·first
    |exact(hG.put.put.more O).grow O
    |exact(Gw.put (Gw.put hG O) O).grow O
  rw[BN x,←na];simp only[↓C2,Ij,simprocAttr,h9,hw];refine ih (j+1) false _ _ _ O U ?_ rfl w h8 rfl;exact Gw.new Xb
open Classical in
def oP:List D->Option D
 |[.agg [.slice _ _ xs]]=>if Fm xs then some (.slice (decide ((Cz xs).length=0)) [] ((Cz xs).map λk=> .str k.1))else none
 |_=>none
def aLv:Kq oP 129:=by
 refine AD (S:=λ_=>none) AI (Ai func129:Fn Qu 129 20 aO3 [.t 2]) (λds r h=>?_) (λds r h=>?_)
 ·unfold oP at h;split at h
  ·simp
  ·cases h
 ·unfold oP at h;split at h
  ·rename_i nl t xs;split at h
   ·rename_i k;obtain⟨l,rfl,w,e⟩:=EG k;rw[e]at h;simp only[Qs]at h;subst h;unfold aO3;simp only[↓C2,Iw,simprocAttr,AH,Ag,Qy,QF,Qv,and_self];refine aHi (l:=l) (nl0:=nl) (t0:=t) w (λz nl' x u q=>?_) l.length 0 true [] _ _ O U (.inl rfl) rfl rfl rfl rfl;simp only[↓C2,Ij,simprocAttr,q];rw[u]
    first|done|rfl|exact⟨rfl,rfl⟩
   ·cases h
  ·cases h
def aOS:=y0 f146 [] []
def aNv:=y0 f253 [] []
def RD:=y1 f148 3 [] []
def aOQ:=y0 f148 [] [(3,RD)]
def aOG:=y0 f158 [] []
def aMx:=y0 f344 [] []
def aNp:=y0 f259 [] []
def Ph:List D->Option D
 |[.int .i64 n,.int .i64 lo,.int .i64 hi]=>some (.bool (decide (lo<=n∧n<=hi)))
 |_=>none
def aLh:Kq Ph 259:=by
 refine AD (S:=λ_=>none) AI (Ai func259:Fn Qu 259 15 aNp [.t 6]) (λds r h=>?_) (λds r h=>?_)
 ·unfold Ph at h;split at h
  ·simp
  ·cases h
 ·unfold Ph at h;split at h
  ·rename_i n lo hi;simp only[Qs]at h;subst h;unfold aNp;simp only[↓C2,Ih,simprocAttr]
   repeat' (first|(refine aD (λh=>?_) (λh=>?_)<;>try (exfalso;omega))|(simp only[↓C2,Ij,simprocAttr,h,and_self,false_and]))
   all_goals (simp_all<;>omega)
  ·cases h
def zX:D->D->Option D
 | .junk,.int .i64 x=>some (.bool (!decide (1<=x∧x<=999)))
 |_,_=>none
def aRm:(L3 zX).ok Qu 344:=by
 obtain⟨S,v,w⟩:=A7 (Aa aLh Ad);have e:=w 259 _ rfl;clear w;refine O1 (S:=S) v (Ai func344:Fn Qu 344 6 aMx [.t 2]) (λx caps m fr c d s g z w=>⟨O,?_⟩);unfold zX at g;split at g
 ·rename_i n;simp only[Qs]at g;subst g;have a:∀n lo hi,Ph [.int .i64 n,.int .i64 lo,.int .i64 hi]=some (.bool (decide (lo<=n∧n<=hi))):=λ_ _ _=>rfl
  unfold aMx;simp only[↓C2,Ij,simprocAttr,Ab e,a]
  try exact λi o y h=>h
 ·cases g
def aQ4:(GU 344 none zX).ok Qu 388:=OS O aXK rfl aRm
def aYR:(iO 344 none zX).ok Qu 343:=rX O aXL aQ4
def Ut(l:List Mt):aE (Ar l) 3=3:=Xq
def Pu(nl:Bool)(xs:List D):Prop:=xs=Ar (Cb xs)∧xs.length<=1000000∧(nl=true->xs=[])
def N_{nl:Bool}{l:List Mt}(w:l.length<=1000000)(f:nl=true->l=[]):Pu nl (Ar l):=⟨by rw[Bj],by rw[Au];exact w,λh=>by rw[f h];rfl⟩
def Mm{nl:Bool}{xs:List D}(h:Pu nl xs):∃l:List Mt,xs=Ar l∧l.length<=1000000∧(nl=true->l=[])∧Cb xs=l:=by
 refine⟨Cb xs,h.1,?_,λf=>?_,rfl⟩
 ·have:=h.2.1;rw[h.1,Au]at this;exact this
 ·rw[h.2.2 f];rfl
open Classical in
def aKo:List D->Option D
 |[.slice nl _ xs]=>if Pu nl xs then some (.slice nl [] xs)else none
 |_=>none
open Classical in
def aKn{nl:Bool}{t:Id}{l:List Mt}(w:l.length<=1000000)(f:nl=true->l=[]):aKo [.slice nl t (Ar l)]=some (.slice nl [] (Ar l)):=by
 show(if _ then _ else _)=_;rw[if_pos (N_ w f)]
def aUZ:Kq aKo 253:=by
 refine AD (S:=λ_=>none) AI (Ai func253:Fn Qu 253 8 aNv [.t 2]) (λds r h=>?_) (λds r h=>?_)
 ·unfold aKo at h;split at h
  ·simp
  ·cases h
 ·unfold aKo at h;split at h
  ·rename_i nl t xs;split at h
   ·rename_i k;obtain⟨l,rfl,w,f,e⟩:=Mm k;simp only[Qs]at h;subst h;have n1:(Ar l).length*33<=140737488355328:=by rw[Au];omega
    unfold aNv;cases nl with
    |true=>
     have:=f rfl;subst this;simp only[↓C2,Ij,simprocAttr,aD1,NY];rfl
    |false=>simp only[↓C2,Iw,Ii,simprocAttr,Ag,Qy,QF,Qv,and_self,false_and,aD2,n1,Ut,F6,E_,false_or,QV,ne_eq,Q0,Q5,NY]
   ·cases h
  ·cases h
open Classical in
def aKT:List D->Option D
 |[.agg [.slice nl _ xs]]=>if Pu nl xs then some (.slice nl [] xs)else none
 |_=>none
def aVu:Kq aKT 146:=by
 obtain⟨S,v,w⟩:=A7 (Aa aUZ Ad);have a:=w 253 _ rfl;clear w;refine AD (S:=S) v (Ai func146:Fn Qu 146 6 aOS [.t 2]) (λds r h=>?_) (λds r h=>?_)
 ·unfold aKT at h;split at h
  ·simp
  ·cases h
 ·unfold aKT at h;split at h
  ·rename_i nl t xs;split at h
   ·rename_i k;obtain⟨l,rfl,w,f,e⟩:=Mm k;simp only[Qs]at h;subst h;have b:=aKn (t:=[]) w f;unfold aOS;simp only[↓C2,Iw,Ii,simprocAttr,Ag,Qy,QF,Qv,and_self,Ab a,b]
   ·cases h
  ·cases h
def Mp(bs:List Bool):Bc bs<bs.length:=by
 unfold Bc;cases h:bs.findIdx? id with
 |none=>simp only;omega
 |some k=>
  rw[QX]at h;obtain⟨j,_⟩:=h;simp only;omega
def eP(l:List Mt)(p:Bs):Bh l p<l.length:=by
 have:=Mp (l.map λm=>decide (m.1=p));rw[QD]at this;exact this
open Classical in
def aFo:List D->Option D
 |[.agg [.slice _ _ xs],.str p]=>if xs=Ar (Cb xs)∧xs.length<=1000000 then some (.tup (if Bh (Cb xs) p<0 then [I0 ([],0,false),.int .i64 14]else [I0 (AZ (Cb xs) (Bh (Cb xs) p).toNat),.int .i64 0]))else none
 |_=>none
def aVl:Kq aFo 158:=by
 obtain⟨S,s,w⟩:=A7 (Aa aBN Ad);have a:=w 103 _ rfl;clear w;refine AD (S:=S) s (Ai func158:Fn Qu 158 18 aOG [.cell (some 3) 4,.t 5]) (λds r h=>?_) (λds r h=>?_)
 ·unfold aFo at h;split at h
  ·simp
  ·cases h
 ·unfold aFo at h;split at h
  ·rename_i nl t xs p;split at h
   ·rename_i x;obtain⟨o,w⟩:=x;simp only[Qs]at h;subst h;generalize Cb xs=l at o;subst o;rw[Au]at w;have y:=RZ (nl:=nl) (t:=[]) (p:=p) w;have v:=eP l p;unfold aOG;generalize Bh l p=i at y v;by_cases hi:i<0
    ·simp only[↓C2,Is,simprocAttr,Ag,Ao,Ap,Qt,Qx,Qw,QC,Zq,and_false,A6,Bz,Cd,Ab a,y,hi];simp[I0];rfl
    ·obtain⟨j,rfl⟩:=Int.eq_ofNat_of_zero_le (show 0<=i by omega);have k:j<l.length:=by omega
     have n:=nJ (j:=j);have d:(Ar l)[j]?=some (.agg [.str (AZ l j).1,.int .i64 (AZ l j).2.1,.bool (AZ l j).2.2]):=Dc k;simp only[↓C2,Is,simprocAttr,Ag,Ao,Ap,Qt,QE,QI,Qx,Qw,QC,Zq,and_false,A6,Bz,Ab a,y,hi,n,d,Qp];simp[I0];rfl
   ·cases h
  ·cases h
def vY(l:List Mt):Nat->Nat->Nat->Nat
 |0,_,a=>a
 |f+1,j,a=>vY l f (j+1) (a+(4+(AZ l j).1.length))
def aHp(l:List Mt):Nat:=vY l l.length 0 0
def aHh{S:Ic}{ns:Id}{l:List Mt}{nl:Bool}{t:Id}{Q:Ex->St->Prop}{e:Nat}(i:l.length<=1000)(k:∀m∈l,m.1.length<=1000000)
  (w:∀z,z.s 3= .int .i64 (e:Int)->Q (.exit 0) z):
  ∀(f j a:Nat) z g,l.length=j+f->a<=j*1000004->vY l f j a=e->z.s 3= .int .i64 (a:Int)->z.s 7= .slice nl t (Ar l)->z.s 8= .int .i64 (l.length:Int)->z.s 9= .int .i64 (j:Int)->A2 S ns RD Q z g:=by
 intro f;induction f with
 |zero=>
  intro j a z g hf q x o h7 p r;refine Ae RD.eq_1 ?_;have:¬((j:Int)<l.length):=O
  simp only[↓C2,Ih,Ii,reduceIte,Qq,p,r,this];exact w _ (by rw[←x];exact o)
 |succ f ih=>
  intro j a z g hf q x o h7 p r;refine Ae RD.eq_1 ?_;unfold vY at x;have y:j<l.length:=O
  have v:((j:Int)<l.length):=O
  have n:=nJ (j:=j);have h:=wJ (j:=j) O;have d:(Ar l)[j]?=some (.agg [.str (AZ l j).1,.int .i64 (AZ l j).2.1,.bool (AZ l j).2.2]):=Dc y;have c:AZ l j∈l:=by simp[AZ,Qr y]
  have xa:=k _ c;generalize AZ l j=m at d x xa;have b:IntKind.i64.wrap ((4:Int)+(m.1.length:Int))=((4+m.1.length:Nat):Int):=Xn
  have cb:IntKind.i64.wrap ((a:Int)+((4+m.1.length:Nat):Int))=((a+(4+m.1.length):Nat):Int):=Xn
  obtain⟨ja,u,fa⟩:=z;simp only at o h7 p r;simp only[↓C2,Is,simprocAttr,o,h7,p,r,v,n,h,b,cb,Qp,d,Ag,Ao,Ap,Qt,QE,QI,Qx];exact ih (j+1) _ _ _ O O x rfl h7 p rfl
open Classical in
def aKR:List D->Option D
 |[.agg [.slice _ _ xs]]=>if xs=Ar (Cb xs)∧xs.length<=1000∧∀m∈Cb xs,m.1.length<=1000000 then some (.int .i64 (aHp (Cb xs):Int))else none
 |_=>none
def aVt:Kq aKR 148:=by
 refine AD (S:=λ_=>none) AI (Ai func148:Fn Qu 148 21 aOQ [.t 2]) (λds r h=>?_) (λds r h=>?_)
 ·unfold aKR at h;split at h
  ·simp
  ·cases h
 ·unfold aKR at h;split at h
  ·rename_i nl t xs;split at h
   ·rename_i k;obtain⟨p,w,g⟩:=k;simp only[Qs]at h;subst h;generalize Cb xs=l at p g;subst p;rw[Au]at w;unfold aOQ;simp only[↓C2,Iw,simprocAttr,Au,Ag,Qy,QF,Qv,and_self];refine aHh (l:=l) (nl:=nl) (t:=t) (e:=aHp l) w g (λz u=>?_) l.length 0 0 _ _ O O rfl rfl rfl rfl rfl;simp only[↓C2,Ij,simprocAttr,u]
   ·cases h
  ·cases h
def aPj:=y0 f110 [] []
def VW:=y1 f74 2 [] []
def aX4:=y0 f74 [] [(2,VW)]
def VX:=y1 f73 2 [] []
def aX5:=y0 f73 [] [(2,VX)]
def aPd:=y0 f116 [] []
def RK:=y1 f117 2 [] []
def aPc:=y0 f117 [] [(2,RK)]
def aK0:List D->Option D
 |[.agg [.str p,.int .i64 q,.bool b]]=>if p.length<=1000000 then some (.int .i64 (DQ p q))else none
 |_=>none
def aVA:Kq aK0 110:=by
 obtain⟨S,v,w⟩:=A7 (Aa qD Ad);have x:=w 211 _ rfl;clear w;refine AD (S:=S) v (Ai func110:Fn Qu 110 20 aPj [.t 2]) (λds r h=>?_) (λds r h=>?_)
 ·unfold aK0 at h;split at h
  ·simp
  ·cases h
 ·unfold aK0 at h;split at h
  ·rename_i p q b;split at h
   ·rename_i k;simp only[Qs]at h;subst h;unfold aPj;have a:TN [.str p]=some (.int .i64 (Bf p)):=if_pos k;unfold DQ;generalize Bf p=e at *;simp only[↓C2,Iw,Ii,simprocAttr,Ag,Qy,QF,Qv,and_self,Ab x,a]
    repeat' (first|(refine aD (λh=>?_) (λh=>?_)<;>try (exfalso;omega))|(simp only[↓C2,Is,simprocAttr,h,Ag]))
    all_goals (first|rfl|(rw[D.int.injEq];refine⟨rfl,?_⟩;(repeat' split)<;>first|rfl|(exfalso;simp_all;done)|(exfalso;simp_all;omega)))
   ·cases h
  ·cases h
def E7{bs:List Bool}{j:Nat}(h:bs[j]?=some true)(x:∀i,i<j->bs[i]?=some false):Bc bs=j:=by
 have y:j<bs.length:=(Q8.1 h).1;have:bs.findIdx? id=some j:=by
  rw[QX];refine⟨y,by rw[Qr y]at h;simpa using h,λi hi=>?_⟩;have:=x i hi;rw[Qr O]at this;simp[Qs]at this;simp[this]
 simp only[Bc,this]
def GC{bs:List Bool}(x:∀i,i<bs.length->bs[i]?=some false):Bc bs=-1:=by
 have:bs.findIdx? id=none:=Zw.2 λb f=>by
  obtain⟨i,hi,rfl⟩:=Zl f;have:=x i hi;rw[Qr hi]at this;simpa using Z1 this
 simp only[Bc,this]
def aQx{S:Ic}{ns:Id}{l:List Mt}{p:Bs}{nl:Bool}{t:Id}{Q:Ex->St->Prop}(hb:l.length<=1000000)
  (h:∀z,z.s 4= .int .i64 (Bc (l.map λm=>decide (m.1=p)))->Q .ret z) (e:∀z,Bc (l.map λm=>decide (m.1=p))=-1->Q (.exit 0) z):
  ∀(f j:Nat) z g,l.length=j+f->(∀i,i<j->(l.map λm=>decide (m.1=p))[i]?=some false)->z.s 0= .slice nl t (Ar l)->z.s 1= .str p->z.s 5= .int .i64 (j:Int)->A2 S ns VW Q z g:=by
 intro f;induction f with
 |zero=>
  intro j z g k x r u w;refine Ae VW.eq_1 ?_;have:¬((j:Int)<l.length):=O
  simp only[↓C2,Ih,Ii,simprocAttr,r,w,this,Au];exact e _ (GC YF)
 |succ f ih=>
  intro j z g k x r u w;refine Ae VW.eq_1 ?_;have y:j<l.length:=O
  have v:((j:Int)<l.length):=O
  have a:=nJ (j:=j);have hw:=wJ (j:=j) O;have d:(Ar l)[j]?=some (.agg [.str (AZ l j).1,.int .i64 (AZ l j).2.1,.bool (AZ l j).2.2]):=Dc y;have q:(l.map λm=>decide (m.1=p))[j]?=some (decide ((AZ l j).1=p)):=by simp[AZ,Qr y]
  have c:AZ l j∈l:=by simp[AZ,Qr y]
  generalize AZ l j=m at d q;obtain⟨ja,da,o⟩:=z;simp only at r u w;by_cases b:m.1=p
  ·have n:=q;simp only[b,decide_true]at n;simp only[↓C2,Iw,Ii,simprocAttr,r,u,w,v,a,Qp,d,Au,Qy,QA,QG,b];exact h _ (by rw[E7 n x];rfl)
  ·have n:=q;simp only[b,decide_false]at n;simp only[↓C2,Iw,Ii,simprocAttr,r,u,w,v,a,hw,Qp,d,Au,Qy,QA,QG,b];refine ih (j+1) _ _ O (λi hi=>?_) r u rfl;rcases Q2 (Q3 hi)with hi|rfl
   ·exact x i hi
   ·exact n
def aQy{S:Ic}{ns:Id}{l:List Mt}{p:Bs}{nl:Bool}{t:Id}{Q:Ex->St->Prop}(hb:l.length<=1000000)(b:S 165=some (Af oO))(k:∀m∈l,m.1.length<=1000000)(hs:p.length<=1000000)
  (h:∀z,z.s 4= .int .i64 (Bc (l.map λm=>Bu p m.1))->Q .ret z) (e:∀z,Bc (l.map λm=>Bu p m.1)=-1->Q (.exit 0) z):
  ∀(f j:Nat) z g,l.length=j+f->(∀i,i<j->(l.map λm=>Bu p m.1)[i]?=some false)->z.s 0= .slice nl t (Ar l)->z.s 1= .str p->z.s 5= .int .i64 (j:Int)->A2 S ns VX Q z g:=by
 intro f;induction f with
 |zero=>
  intro j z g hf x r u w;refine Ae VX.eq_1 ?_;have:¬((j:Int)<l.length):=O
  simp only[↓C2,Ih,Ii,simprocAttr,r,w,this,Au];exact e _ (GC YF)
 |succ f ih=>
  intro j z g hf x r u w;refine Ae VX.eq_1 ?_;have y:j<l.length:=O
  have v:((j:Int)<l.length):=O
  have qa:=nJ (j:=j);have hw:=wJ (j:=j) O;have d:(Ar l)[j]?=some (.agg [.str (AZ l j).1,.int .i64 (AZ l j).2.1,.bool (AZ l j).2.2]):=Dc y;have q:(l.map λm=>Bu p m.1)[j]?=some (Bu p (AZ l j).1):=by simp[AZ,Qr y]
  have c:AZ l j∈l:=by simp[AZ,Qr y]
  have a:oO [.str p,.str (AZ l j).1]=some (.bool (Bu p (AZ l j).1)):=if_pos ⟨hs,k _ c⟩;generalize AZ l j=m at d q a;obtain⟨ja,da,o⟩:=z;simp only at r u w;by_cases hq:Bu p m.1=true
  ·have n:=q;simp only[hq]at n;simp only[↓C2,Iw,Ii,simprocAttr,r,u,w,v,qa,Qp,d,Au,Qy,QA,QG,Ab b,a,hq];exact h _ (by rw[E7 n x];rfl)
  ·have n:=q;simp only[hq]at n;simp only[↓C2,Iw,Ii,simprocAttr,r,u,w,v,qa,hw,Qp,d,Au,Qy,QA,QG,Ab b,a,hq];refine ih (j+1) _ _ O (λi hi=>?_) r u rfl;rcases Q2 (Q3 hi)with hi|rfl
   ·exact x i hi
   ·exact n
open Classical in
def F74:List D->Option D
 |[.slice _ _ xs,.str p]=>if xs=Ar (Cb xs)∧xs.length<=1000000 then some (.int .i64 (Bh (Cb xs) p))else none
 |_=>none
def aQl:Kq F74 74:=by
 refine AD (S:=λ_=>none) AI (Ai func74:Fn Qu 74 20 aX4 [.t 4]) (λds r h=>?_) (λds r h=>?_)
 ·unfold F74 at h;split at h
  ·simp
  ·cases h
 ·unfold F74 at h;split at h
  ·rename_i nl t xs p;split at h
   ·rename_i k;obtain⟨o,w⟩:=k;simp only[Qs]at h;subst h;generalize Cb xs=l at o;subst o;rw[Au]at w;unfold aX4 Bh;simp only[↓C2,Ih,Qq];refine aQx (l:=l) (p:=p) (nl:=nl) (t:=t) w (λz u=>?_) (λz u=>?_) l.length 0 _ _ O U rfl rfl rfl
    ·simp only[↓C2,Ij,u]
    ·simp only[↓C2,Ij,reduceIte,Qq,u]
   ·cases h
  ·cases h
def Bd(l:List Mt)(p:Bs):Int:=Bc (l.map λm=>Bu p m.1)
open Classical in
def F73:List D->Option D
 |[.slice _ _ xs,.str p]=>if xs=Ar (Cb xs)∧xs.length<=1000000∧(∀m∈Cb xs,m.1.length<=1000000)∧p.length<=1000000 then some (.int .i64 (Bd (Cb xs) p))else none
 |_=>none
def aQm:Kq F73 73:=by
 obtain⟨S,v,w⟩:=A7 (Aa aLp Ad);have b:=w 165 _ rfl;clear w;refine AD (S:=S) v (Ai func73:Fn Qu 73 20 aX5 [.t 4]) (λds r h=>?_) (λds r h=>?_)
 ·unfold F73 at h;split at h
  ·simp
  ·cases h
 ·unfold F73 at h;split at h
  ·rename_i nl t xs p;split at h
   ·rename_i k;obtain⟨o,w,c,g⟩:=k;simp only[Qs]at h;subst h;generalize Cb xs=l at o c;subst o;rw[Au]at w;unfold aX5 Bd;simp only[↓C2,Ih,Qq];refine aQy (l:=l) (p:=p) (nl:=nl) (t:=t) w b c g (λz u=>?_) (λz u=>?_) l.length 0 _ _ O U rfl rfl rfl
    ·simp only[↓C2,Ij,u]
    ·simp only[↓C2,Ij,reduceIte,Qq,u]
   ·cases h
  ·cases h
def aHm{S:Ic}{ns:Id}{l:List Tk}{p:Bs}{nl:Bool}{t:Id}{Q:Ex->St->Prop}(hb:l.length<=1000000)
  (h:∀z,z.s 4= .int .i64 (Bc (l.map λm=>decide (m.1=p)))->Q .ret z) (e:∀z,Bc (l.map λm=>decide (m.1=p))=-1->Q (.exit 0) z):
  ∀(f j:Nat) z g,l.length=j+f->(∀i,i<j->(l.map λm=>decide (m.1=p))[i]?=some false)->z.s 0= .slice nl t (Ay l)->z.s 1= .str p->z.s 5= .int .i64 (j:Int)->A2 S ns RK Q z g:=by
 intro f;induction f with
 |zero=>
  intro j z g k x r u w;refine Ae RK.eq_1 ?_;have:¬((j:Int)<l.length):=O
  simp only[↓C2,Ih,Ii,simprocAttr,r,w,this,AH];exact e _ (GC YF)
 |succ f ih=>
  intro j z g k x r u w;refine Ae RK.eq_1 ?_;have y:j<l.length:=O
  have v:((j:Int)<l.length):=O
  have a:=nJ (j:=j);have hw:=wJ (j:=j) O;have d:(Ay l)[j]?=some (.agg [.str (AS l j).1,.str (AS l j).2.1,.slice (AS l j).2.2.1 [] (Aj (AS l j).2.2.2)]):=DY y;have q:(l.map λm=>decide (m.1=p))[j]?=some (decide ((AS l j).1=p)):=by simp[AS,Qr y]
  have c:AS l j∈l:=by simp[AS,Qr y]
  generalize AS l j=m at d q;obtain⟨ja,da,o⟩:=z;simp only at r u w;by_cases b:m.1=p
  ·have n:=q;simp only[b,decide_true]at n;simp only[↓C2,Iw,Ii,simprocAttr,r,u,w,v,a,Qp,d,AH,Qy,QA,QG,b];exact h _ (by rw[E7 n x];rfl)
  ·have n:=q;simp only[b,decide_false]at n;simp only[↓C2,Iw,Ii,simprocAttr,r,u,w,v,a,hw,Qp,d,AH,Qy,QA,QG,b];refine ih (j+1) _ _ O (λi hi=>?_) r u rfl;rcases Q2 (Q3 hi)with hi|rfl
   ·exact x i hi
   ·exact n
def Bv(l:List Tk)(p:Bs):Int:=Bc (l.map λm=>decide (m.1=p))
open Classical in
def aAk:List D->Option D
 |[.slice _ _ xs,.str p]=>if xs=Ay (Cz xs)∧xs.length<=1000000 then some (.int .i64 (Bv (Cz xs) p))else none
 |_=>none
def qF:Kq aAk 117:=by
 refine AD (S:=λ_=>none) AI (Ai func117:Fn Qu 117 20 aPc [.t 4]) (λds r h=>?_) (λds r h=>?_)
 ·unfold aAk at h;split at h
  ·simp
  ·cases h
 ·unfold aAk at h;split at h
  ·rename_i nl t xs p;split at h
   ·rename_i k;obtain⟨o,w⟩:=k;simp only[Qs]at h;subst h;generalize Cz xs=l at o;subst o;rw[AH]at w;unfold aPc Bv;simp only[↓C2,Ih,Qq];refine aHm (l:=l) (p:=p) (nl:=nl) (t:=t) w (λz u=>?_) (λz u=>?_) l.length 0 _ _ O U rfl rfl rfl
    ·simp only[↓C2,Ij,u]
    ·simp only[↓C2,Ij,reduceIte,Qq,u]
   ·cases h
  ·cases h
def aLw:Kq PS 116:=by
 obtain⟨S,s,w⟩:=A7 (Aa aBJ (Aa qB Ad));have f:=w 217 _ rfl;have u:=w 218 _ rfl;clear w;refine AD (S:=S) s (Ai func116:Fn Qu 116 34 aPd [.t 2]) (λds r h=>?_) (λds r h=>?_)
 ·unfold PS at h;split at h
  ·simp
  ·cases h
 ·unfold PS at h;split at h
  ·rename_i n p nl t xs;split at h
   ·rename_i k;obtain⟨⟨o,w,g⟩,hn,d⟩:=k;simp only[Qs]at h;subst h;generalize Br xs=l at o g;subst o;rw[Aw]at w;have b:bH [.str n]=some (.bool (BV n)):=rfl;have c:bH [.str p]=some (.bool (BV p)):=rfl;have a:=MA (nl:=nl) (t:=[]) w g;have m:=Gu l;have v:=Ea l;unfold aPd GR;generalize CT l=e at *;generalize BV p=j at *;generalize BV n=i at *;cases i with
    |false=>simp only[↓C2,Iw,Ii,simprocAttr,Ag,Qy,QF,Qv,and_self,Ab f,b]
    |true=>
     simp only[↓C2,Is,simprocAttr,Ag,Ab f,b,Ab u,a]
     repeat' (first|(refine aD (λh=>?_) (λh=>?_)<;>try (exfalso;omega))|(simp only[↓C2,Is,simprocAttr,h,Ag,false_and,and_false,Ab f,c]))
     all_goals (try simp_all)
   ·cases h
  ·cases h
def RH:=y1 f119 2 [] []
def aPa:=y0 f119 [(4,[(0,5),(4,5),(4,6),(6,4)])] [(2,RH)]
def aYh:=y0 f52 [] []
def aYk:=y0 f49 [] []
def F49:List D->Option D
 |[]=>some (.slice false [] (Ay [Io]))
 |_=>none
def aZY:Kq F49 49:=by
 refine AD (S:=λ_=>none) AI (Ai func49:Fn Qu 49 5 aYk [.t 0]) (λds r h=>?_) (λds r h=>?_)
 ·grind [F49]
 ·unfold F49 at h;split at h
  ·simp only[Qs]at h;subst h;unfold aYk;simp only[↓C2,Iw,Ii,simprocAttr,and_self,QE,QI,QA,QK,QC,Qz,Cd,DV,QV,Q0,Q5,Ay,I2,Io,Aj,iM,Q6,Q0]
  ·cases h
def aPm:=y0 f107 [] []
def rS:=y1 f208 2 [] []
def aN3:=y0 f208 [] [(2,rS)]
def Ra:=y1 f302 4 [] []
def P9:=y1 f302 1 [] [(4,Ra)]
def aMT:=y0 f302 [] [(1,P9)]
def aN2:=y0 f209 [] []
def aMS:=y0 f311 [] []
def aYo:=y0 f45 [(6,[(3,1)])] []
def m0t:Mt:=([],0,false)
def kS(a b:Mt):Bool:=decide (Hv a.1 b.1<0)
def bBy(i:Id)(m:Ig)(xs:List Mt):Prop:=∀j,j<xs.length->m i (j*3)=some (.str (xs.getD j m0t).1)∧m i (j*3+1)=some (.int .i64 (xs.getD j m0t).2.1)∧m i (j*3+2)=some (.bool (xs.getD j m0t).2.2)
structure Pc (i:Id) (m0 m:Ig) (xs:List Mt):Prop where
 row:bBy i m xs
 out:∀i' o,(i'≠i∨xs.length*3<=o)->m i' o=m0 i' o
def Pc.put{i:Id}{m0 m:Ig}{xs:List Mt}(h:Pc i m0 m xs){j:Nat}(y:j<xs.length){p:Bs}{q:Int}{b:Bool}:Pc i m0 (m.put i (j*3) [.str p,.int .i64 q,.bool b]) (xs.set j (p,q,b)):=by
 refine⟨λk g=>?_,λa o ho=>?_⟩
 ·rw[ZB]at g;by_cases e:k=j
  ·grind [m0t,Ag]
  ·have n:(xs.set j (p,q,b)).getD k m0t=xs.getD k m0t:=by simp[Zs,List.getElem?_set_ne (Ne.symm e)]
   rw[n];have f:∀d,d<3->¬(i=i∧j*3<=k*3+d∧k*3+d<j*3+[D.str p,.int .i64 q,.bool b].length):=by
    intro d l;simp;omega
   obtain⟨t,x,z⟩:=h.row k g;exact⟨by rw[Ag,if_neg (by have:=f 0 O;rwa [Zr]at this)];exact t,by rw[Ag,if_neg (f 1 O)];exact x,by rw[Ag,if_neg (f 2 O)];exact z⟩
 ·rw[ZB]at ho;rw[Ag,if_neg (by rintro⟨e,h1,h2⟩;simp at h2;rcases ho with ho|ho;exact ho e;omega)];exact h.out a o ho
def Pc.swp{i:Id}{m0 m:Ig}{xs:List Mt}(h:Pc i m0 m xs){j:Nat}(k:j+1<xs.length){x y:Mt}(p:xs.getD j m0t=x)(d:xs.getD (j+1) m0t=y):
  Pc i m0 ((m.put i ((j+1)*3) [.str x.1,.int .i64 x.2.1,.bool x.2.2]).put i (j*3) [.str y.1,.int .i64 y.2.1,.bool y.2.2]) (Go.Vd.swp m0t xs j):=by
 unfold Go.Vd.swp;rw[p,d];exact(h.put (j:=j+1) k).put (by rw[ZB];omega)
def h108(a b:Mt):aAl [I0 a,I0 b]=some (.int .i64 (Hv a.1 b.1)):=rfl
def aCf{S:Ic}{fr i:Id}{n:Nat}{m0:Ig}{i8:Nat}{Q:Ex->St->Prop}(a:S 108=some (Af aAl))(hn:n<=1000):
  ∀(j:Nat)(xs:List Mt) z g,xs.length=n->j<n->z.s 0= .row i n->z.s 1= .int .i64 0->z.s 2= .int .i64 (n:Int)->z.s 3= .fn 108 []->z.s 8= .int .i64 (i8:Int)->z.s 9= .int .i64 (j:Int)->Pc i m0 z.m xs->
   (∀la,la.s 0= .row i n->la.s 1= .int .i64 0->la.s 2= .int .i64 (n:Int)->la.s 3= .fn 108 []->la.s 8= .int .i64 (i8:Int)->Pc i m0 la.m (SF kS m0t xs j)->Q (.exit 2) la)->A2 S fr Ra Q z g:=by
 intro j;induction j with
 |zero=>
  intro xs z g w k r u q l t h9 I p;refine Ae Ra.eq_1 ?_;have c:¬((0:Int)<((0:Nat):Int)):=O
  simp only[↓C2,Ih,Ii,simprocAttr,u,h9,c];refine Al ?_;simp only[↓C2,Ih,reduceIte,Qo];exact p _ r u q l t I
 |succ j ih=>
  intro xs z g w k r u q l t h9 I p;refine Ae Ra.eq_1 ?_;have c:((0:Int)<((j+1:Nat):Int)):=O
  have w1:IntKind.i64.wrap (((j+1:Nat):Int)-1)=(j:Int):=Xn
  have qa:=nJ (j:=j);have d:(0:Int)<=((j+1:Nat):Int):=O
  have e:((j:Int)<(n:Int)):=O
  have b:(((j+1:Nat):Int)<(n:Int)):=O
  have bn:(3=1)=False:=U
  obtain⟨a0,a1,a2⟩:=I.row j O;obtain⟨b0,b1,b2⟩:=I.row (j+1) O;obtain⟨x,o⟩:∃x,xs.getD j m0t=x:=⟨_,rfl⟩;obtain⟨y,hy⟩:∃y,xs.getD (j+1) m0t=y:=⟨_,rfl⟩;have h:=p;unfold SF at h;have v:kS (xs.getD (j+1) m0t) (xs.getD j m0t)=decide (Hv (xs.getD (j+1) m0t).1 (xs.getD j m0t).1<0):=rfl;rw[v]at h;rw[o]at a0 a1 a2 h;rw[hy]at b0 b1 b2 h;clear v;have hc:=h108 y x;simp only[I0]at hc;obtain⟨ja,f,fa⟩:=z;simp only at r u q l t h9 a0 a1 a2 b0 b1 b2 I;by_cases v:Hv y.1 x.1<0
  ·rw[if_pos (by simpa using v)]at h;have q1:((j+1)*3<=j*3)=False:=eq_false O;have q2:((j+1)*3<=j*3+1)=False:=eq_false O;have q3:((j+1)*3<=j*3+1+1)=False:=eq_false O;have ca:decide (Hv y.1 x.1<0)=true:=by simpa using v
   simp only[↓C2,Ij,simprocAttr,r,u,l,h9,c,qa,d,e,b,w1,bn,Qp,a0,a1,a2,b0,b1,b2,v,Ab a,hc,Ao,Ap,and_self,Qt];refine Al ?_;simp only[↓C2,Iw,simprocAttr,r,h9,qa,d,e,b,w1,bn,Qp,a0,a1,a2,b0,b1,b2,q1,q2,q3,false_and,and_false,Ag,Ao,Ap,and_self,Qt,Qx];refine Al ?_;simp only[↓C2,Ih,simprocAttr,h9,w1,bn];refine ih _ _ _ (by rw[pC];exact w) O r u q l t rfl ?_ h;exact I.swp O o hy
  ·rw[if_neg (by simpa using v)]at h;simp only[↓C2,Ij,simprocAttr,r,u,l,h9,c,qa,d,e,b,w1,bn,Qp,a0,a1,a2,b0,b1,b2,v,Ab a,hc,Ao,Ap,and_self,Qt];refine Al ?_;simp only[↓C2,Ih,reduceIte,Qo,bn];exact h _ r u q l t I
def aCe{S:Ic}{fr i:Id}{n:Nat}{m0:Ig}{Q:Ex->St->Prop}(a:S 108=some (Af aAl))(c:n<=1000){zs:List Mt}
  (e:∀z,Pc i m0 z.m zs->Q (.exit 0) z):
  ∀(f k:Nat)(xs:List Mt) z g,xs.length=n->k+f=n->D6 kS m0t f k xs=zs->z.s 0= .row i n->z.s 1= .int .i64 0->z.s 2= .int .i64 (n:Int)->z.s 3= .fn 108 []->z.s 8= .int .i64 (k:Int)->Pc i m0 z.m xs->
   A2 S fr P9 Q z g:=by
 intro f;induction f with
 |zero=>
  intro k xs z g w j p r u q o y I;refine Ae P9.eq_1 ?_;have:¬((k:Int)<n):=O
  simp only[↓C2,Ih,Ii,simprocAttr,q,y,this];exact e _ (by rw[←p];exact I)
 |succ f ih=>
  intro k xs z g w j p r u q o y I;refine Ae P9.eq_1 ?_;have v:((k:Int)<n):=O
  have l:IntKind.i64.wrap ((k:Int)+1)=((k+1:Nat):Int):=Iz O O;simp only[↓C2,Ih,Ii,simprocAttr,q,y,v];refine aCf (i8:=k) (m0:=m0) a c k xs _ _ w O r u q o y rfl I (λla g0 t b d x h=>?_);simp only[↓C2,Ih,simprocAttr,x,l];exact ih (k+1) _ _ _ (by rw[SE];exact w) O p g0 t b d rfl h
def OI(m:Ig)(i:Id):Nat->Nat->Option (List Mt)
 |0,_=>some []
 |f+1,j=>match m i (j*3),m i (j*3+1),m i (j*3+2),OI m i f (j+1)with
  |some (.str p),some (.int .i64 q),some (.bool b),some l=>some ((p,q,b)::l)
  |_,_,_,_=>none
def Ug{m:Ig}{i:Id}:∀{f j:Nat} {xs:List Mt},OI m i f j=some xs->xs.length=f∧∀k,k<f->m i ((j+k)*3)=some (.str (xs.getD k m0t).1)∧m i ((j+k)*3+1)=some (.int .i64 (xs.getD k m0t).2.1)∧m i ((j+k)*3+2)=some (.bool (xs.getD k m0t).2.2)
 |0,j,xs,h=>by
  simp only[OI,Qs]at h;subst h;exact⟨rfl,λk g=>absurd g (Ze _)⟩
 |f+1,j,xs,h=>by
  unfold OI at h;split at h
  ·rename_i p q b l e1 e2 e3 e4;simp only[Qs]at h;subst h;obtain⟨s,t⟩:=Ug e4;refine⟨by simp[s],λk g=>?_⟩;cases k with
   |zero=>exact⟨e1,e2,e3⟩
   |succ k=>
    have:=t k O;rw[show j+1+k=j+(k+1)by omega]at this;exact this
  ·cases h
def cT{m m':Ig}{i:Id}:∀{f j n:Nat},j+f<=n->(∀o,o<n*3->m i o=m' i o)->OI m i f j=OI m' i f j
 |0,j,n,_,_=>rfl
 |f+1,j,n,hn,h=>by
  unfold OI;rw[h (j*3) O,h (j*3+1) O,h (j*3+2) O,cT (f:=f) (j:=j+1) O h]
def aGf{m:Ig}{i:Id}{xs:List Mt}(h:∀j d,(flat (Ar xs))[j]?=some d->m i j=some d):OI m i xs.length 0=some xs:=by
 have e:∀(ys b:List Mt),b++ys=xs->OI m i ys.length b.length=some ys:=by
  intro ys;induction ys with
  |nil=>intro b _;rfl
  |cons y r ih=>
   intro b g;have pa:∀x∈Ar xs,x.cells.length=3:=λx p=>Or
   have v:b.length<(Ar xs).length:=by rw[Au,←g];simp
   have n:(Ar xs)[b.length]=I0 y:=by simp[Ar,←g]
   have u:=h _ _ ((E6 pa v (j:=0) O).trans (by rw[n];rfl));have e1:=h _ _ ((E6 pa v (j:=1) O).trans (by rw[n];rfl));have e2:=h _ _ ((E6 pa v (j:=2) O).trans (by rw[n];rfl));have:=ih (b++[y]) (by rw[←g];simp);rw[QP]at this;rw[Zr]at u;have this:OI m i r.length (b.length+1)=some r:=this;simp only[QH,OI,u,e1,e2,this]
 exact e xs [] rfl
def T_(m:Ig)(i:Id)(n:Nat):Option (D×Ir):=if n<=12∧1<=n then(OI m i n 0).map λxs=>(.tup [],[(i,0,flat (Ar (D6 kS m0t (n-1) 1 xs)))])else none
def FK(w:List D->Option (Id×Nat)):IS where
 rd:=λds _=>match w ds with
  |some (i,n)=>(Z0 (n*3)).map λo=>(i,o)
  |none=>[]
 ex:=λds m _=>match w ds with
  |some (i,n)=>T_ m i n
  |none=>none
def OE(w:List D->Option (Id×Nat)):∀ds m m' fr,(∀l∈(FK w).rd ds m,m l.1 l.2=m' l.1 l.2)->(FK w).ex ds m fr=(FK w).ex ds m' fr:=by
 intro ds m m' fr h;simp only[FK]at h ⊢;cases hs:w ds with
 |none=>rfl
 |some p=>
  obtain⟨i,n⟩:=p;simp only[hs]at h ⊢;unfold T_;split
  ·rw[cT (m:=m) (m':=m') (n:=n) O λo r=>h (i,o) (Zc.2 ⟨o,by simpa using r,rfl⟩)]
  ·rfl
def Nb{w:List D->Option (Id×Nat)}{ds:List D}{m:Ig}{fr:Id}{r:D}{u:Ir}(h:(FK w).ex ds m fr=some (r,u)):
  ∃i n xs,w ds=some (i,n)∧n<=12∧1<=n∧OI m i n 0=some xs∧xs.length=n∧Pc i m m xs∧r= .tup []∧u=[(i,0,flat (Ar (D6 kS m0t (n-1) 1 xs)))]:=by
 simp only[FK]at h;cases hs:w ds with
 |none=>rw[hs]at h;cases h
 |some p=>
  obtain⟨i,n⟩:=p;simp only[hs]at h;unfold T_ at h;split at h
  ·rename_i k;rw[QZ]at h;obtain⟨xs,o,h⟩:=h;simp only[QY]at h;obtain⟨rfl,rfl⟩:=h;obtain⟨l,t⟩:=Ug o;exact⟨i,n,xs,rfl,k.1,k.2,o,l,⟨λj y=>by have:=t j O;rwa [QR]at this,λ_ _ _=>rfl⟩,rfl,rfl⟩
  ·cases h
def Pc.fin{i:Id}{m0 m:Ig}{xs:List Mt}(h:Pc i m0 m xs):∀a o x,(m0.put i 0 (flat (Ar xs))) a o=some x->m a o=some x:=by
 intro a o x p;have pa:∀x∈Ar xs,x.cells.length=3:=λx p=>Or
 have g:=Cx pa;rw[Au]at g;rw[Ag]at p;split at p
 ·rename_i k;obtain⟨rfl,_,r⟩:=k;rw[QF]at p;have j:o / 3<xs.length:=by omega
  have v:o / 3<(Ar xs).length:=by rw[Au];exact j
  have n:(Ar xs)[o / 3]=I0 (xs.getD (o / 3) m0t):=by simp[Ar,Qr j]
  obtain⟨b,t,q⟩:=h.row (o / 3) j;have y:o % 3<3:=Nat.mod_lt _ O;have e:o / 3*3+o % 3=o:=O
  have:=E6 pa v y;rw[e,p,n]at this;have h3:o % 3=0∨o % 3=1∨o % 3=2:=O
  rcases h3 with h3|h3|h3
  ·rw[h3]at this e;rw[Zr]at e;rw[←e,b,this];rfl
  ·rw[h3]at this e;rw[←e,t,this];rfl
  ·rw[h3]at this e;rw[←e,q,this];rfl
 ·rename_i k;rw[←p];refine h.out a o ?_;by_cases e:a=i
  ·simp_all
  ·exact .inl e
def pL:List D->Option (Id×Nat)
 |[.row i n,.int .i64 0,.int .i64 k,.fn 108 []]=>if k=(n:Int)then some (i,n)else none
 |_=>none
def aUG:(FK pL).ok Qu 302:=by
 obtain⟨S,s,w⟩:=A7 (Aa aVC Ad);have a:=w 108 _ rfl;clear w;refine OM s (Ai func302:Fn Qu 302 53 aMT []) (OE _) (λds m fr r u y z=>?_);obtain⟨i,n,xs,q,f,p,v,w,I,rfl,rfl⟩:=Nb y;unfold pL at q;split at q
 ·split at q
  ·rename_i j;simp only[Qs,QY]at q;obtain⟨rfl,rfl⟩:=q;subst j;refine⟨U,?_⟩;rename_i i n;have l:IntKind.i64.wrap ((0:Int)+1)=((1:Nat):Int):=rfl;unfold aMT;simp only[↓C2,Ih,simprocAttr,l];refine aCe (m0:=m) (zs:=D6 kS m0t (n-1) 1 xs) a O (λla h=>?_) (n-1) 1 xs _ _ w O rfl rfl rfl rfl rfl rfl I;simp only[↓C2,Ih,Ii,reduceIte];exact h.fin
  ·cases q
 ·cases q
def pM:List D->Option (Id×Nat)
 |[.row i n,.int .i64 0,.int .i64 k,.int .i64 _,.fn 108 []]=>if k=(n:Int)then some (i,n)else none
 |_=>none
def aU8:(FK pM).ok Qu 208:=by
 obtain⟨S,s,w⟩:=A7 (Aa aUG Ad);have a:=w 302 _ rfl;clear w;refine OM s (Ai func208:Fn Qu 208 148 aN3 []) (OE _) (λds m fr r u y z=>?_);obtain⟨i,n,xs,q,f,p,v,w,I,rfl,rfl⟩:=Nb y;unfold pM at q;split at q
 ·split at q
  ·rename_i j;simp only[Qs,QY]at q;obtain⟨rfl,rfl⟩:=q;subst j;refine⟨U,?_⟩;rename_i i n _;have l:IntKind.i64.wrap ((n:Int)-0)=(n:Int):=by rw[Iz O O];omega
   have ta:((n:Int)<=12):=O
   have x:∀fr,(FK pL).ex ([.row i n,.int .i64 0,.int .i64 (n:Int),.fn 108 []]++[]) m fr=some (.tup [],[(i,0,flat (Ar (D6 kS m0t (n-1) 1 xs)))]):=by
    grind [FK,pL,T_]
   unfold aN3;simp only[↓C2,Ih,Qq];refine Ae rS.eq_1 ?_;simp only[↓C2,Ih,Ii,simprocAttr,l,ta];rw[AN a];refine aI (x _) ?_;simp only[↓C2,Ih,Ii];exact λ_ _ _ h=>h
  ·cases q
 ·cases q
def aZn:List D->Option D:=H3 (λ_=>none) 25 aMS [.t 2] 60
def aUF:Kq aZn 311:=FH AI (Ai func311:Fn Qu 311 25 aMS [.t 2]) 60
def aJm:List D->Option D:=H3 (AB [(311,Af aZn)]) 8 aN2 [.t 2] 60
def aU7:Kq aJm 209:=FH (Aa aUF Ad) (Ai func209:Fn Qu 209 8 aN2 [.t 2]) 60
def isI:Option D->Bool
 |some (.int .i64 _)=>true
 |_=>false
def aEI:(Z0 13).all (λn=>isI (aJm [.int .u64 (n:Nat)]))=true:=Xa
def aEH{n:Nat}(h:n<=12):∃k,aJm [.int .u64 (n:Nat)]=some (.int .i64 k):=by
 have:=Zj.1 aEI n Xc;generalize aJm [.int .u64 (n:Nat)]=r at this;unfold isI at this;split at this
 ·exact⟨_,rfl⟩
 ·cases this
def pN:List D->Option (Id×Nat)
 |[.row i n,.fn 108 []]=>some (i,n)
 |_=>none
def aVD:(FK pN).ok Qu 107:=by
 obtain⟨S,s,w⟩:=A7 (Aa aU7 (Aa aU8 Ad));have a:=w 209 _ rfl;have b:=w 208 _ rfl;clear w;refine OM s (Ai func107:Fn Qu 107 14 aPm []) (OE _) (λds m fr r u y z=>?_);obtain⟨i,n,xs,q,f,p,v,w,I,rfl,rfl⟩:=Nb y;unfold pN at q;split at q
 ·simp only[Qs,QY]at q;obtain⟨rfl,rfl⟩:=q;refine⟨U,?_⟩;rename_i i n;have l:IntKind.u64.wrap ((n:Nat):Int)=((n:Nat):Int):=by simp only[IntKind.wrap,IntKind.signed,IntKind.bits,Zu,QJ,if_false];omega
  obtain⟨k,j⟩:=aEH f;have x:∀fr,(FK pM).ex ([.row i n,.int .i64 0,.int .i64 (n:Int),.int .i64 k,.fn 108 []]++[]) m fr=some (.tup [],[(i,0,flat (Ar (D6 kS m0t (n-1) 1 xs)))]):=by
   grind [FK,pM,T_]
  unfold aPm;simp only[↓C2,Ij,simprocAttr,l,Ab a,j];rw[AN b];refine aI (x _) ?_;simp only[↓C2,Ih,Ii];exact λ_ _ _ h=>h
 ·cases q
def aC1:Fn Qu 106 36 (Hu 9 124 3 32 207) [.t 2]:=aL5
def aQi:(LA λds=>(U4 3 ds).bind λys=>if(flat ys).all D.plain=true then some ys else none).ok Qu 106:=aHY aC1 O aLm
def FC:List D->Option (List D):=λds=>(U4 3 ds).bind λys=>if(flat ys).all D.plain=true then some ys else none
def kH(l:List Mt):(flat (Ar l)).all D.plain=true:=by
 induction l with
 |nil=>rfl
 |cons m r ih=>simp only[Ar,Q6,flat,I0,D.cells,ZP,ZD,Q5,D.plain,Bool.and_self,Bool.true_and];exact ih
def dH(a b:List Mt):Ar (a++b)=Ar a++Ar b:=Zd
theorem qO(l:List Mt):(Ar l).all (iL 3)=true:=Ye
def aZu{l:List Mt}{m:Mt}{nl:Bool}(w:l.length<=1000):FC [.slice false [] [.slice nl [] (Ar l),.slice false [] [I0 m]]]=some (Ar (l++[m])):=by
 have k:Ga [.slice nl [] (Ar l),.slice false [] [I0 m]]=some (Ar (l++[m])):=by
  simp only[Ga,QS,Zf,dH];rfl
 have u:(Ar (l++[m])).length=l.length+1:=by rw[Au,QP];rfl
 simp only[FC,U4,k];rw[if_pos ⟨U,O,O,qO _⟩,Qt,if_pos (kH _)]
def FD(l:List Mt)(m:Mt):Option (List Mt)×Int:=
 if DQ m.1 m.2.1≠0 then(none,DQ m.1 m.2.1)else if 0<=Bh l m.1 then(none,20)else if FU m.1 (l.map (·.1))=true then(none,15)else if 4<=l.length then(none,24)
 else(some (D6 kS m0t l.length 1 (l++[m])),0)
def aF1(nl:Bool)(l:List Mt)(o:Option (List Mt)):D:=match o with
 |none=> .agg [.slice nl [] (Ar l)]
 |some u=> .agg [.slice false [] (Ar u)]
open Classical in
def F45:List D->Option D
 |[.agg [.slice nl _ xs],.agg [.str p,.int .i64 q,.bool b]]=>if Pu nl xs∧xs.length<=1000∧p.length<=1000000 then some (.tup [aF1 nl (Cb xs) (FD (Cb xs) (p,q,b)).1,.int .i64 (FD (Cb xs) (p,q,b)).2])else none
 |_=>none
open Classical in
def oM{nl:Bool}{t:Id}{l:List Mt}{m:Mt}(w:l.length<=1000)(f:nl=true->l=[])(g:m.1.length<=1000000):F45 [.agg [.slice nl t (Ar l)],I0 m]=some (.tup [aF1 nl l (FD l m).1,.int .i64 (FD l m).2]):=by
 have h:Pu nl (Ar l)∧(Ar l).length<=1000∧m.1.length<=1000000:=⟨N_ O f,by rw[Au];exact w,g⟩;show(if _ then _ else _)=_;rw[if_pos h,Bj]
def aBa{i:Id}{n:Nat}:(D.row i n).data=true:=rfl
def vD{i:Id}{n:Nat}:(D.row i n).cells=[.row i n]:=rfl
def kI(nl:Bool)(l:List Mt)(o:Option (List Mt))(e:Int):(D.tup [aF1 nl l o,.int .i64 e]).calmR=true:=by
 cases o<;>rfl
def aUi:Kq F45 45:=by
 obtain⟨S,hS,hl⟩:=A7 (Aa aVH (Aa aBN (Aa aVG (Aa aVF (Aa aQi (Aa aVD Ad))))));have g:=hl 102 _ rfl;have a:=hl 103 _ rfl;have i:=hl 104 _ rfl;have n:=hl 105 _ rfl;have v:=hl 106 _ rfl;have u:=hl 107 _ rfl;clear hl;refine rF hS (Ai func45:Fn Qu 45 44 aYo [.cell (some 1) 4,.t 5]) (λds r h=>?_) (λds r h=>?_)
 ·unfold F45 at h;split at h
  ·simp
  ·cases h
 ·unfold F45 at h;split at h
  ·rename_i nl t xs p q b;split at h
   ·rename_i hc;obtain⟨hc,ka,hp⟩:=hc;obtain⟨l,rfl,hl,hn,e⟩:=Mm hc;rw[e]at h;rw[Au]at ka;simp only[Qs]at h;subst h;refine⟨kI ..,?_⟩;have f:aK4 [.agg [.str p,.int .i64 q,.bool b]]=some (.int .i64 (DQ p q)):=if_pos hp;have z:=RZ (nl:=nl) (t:=[]) (p:=p) hl;have o:=aK1 (nl:=nl) (t:=t) hl;have k:=aK3 (s:=p) (nl:=false) (t:=[]) (l:=l.map (·.1)) XC;have ia:∀mm fr,(LA FC).ex [D.slice false [30] [D.slice nl [] (Ar l),D.slice false [] [D.agg [D.str p,D.int IntKind.i64 q,D.bool b]]]] mm fr=some (.row fr (l.length+1),[(fr,0,flat (Ar (l++[(p,q,b)])))]):=by
     intro mm fr;have h1:FC ([D.slice false [30] [D.slice nl [] (Ar l),D.slice false [] [D.agg [D.str p,D.int IntKind.i64 q,D.bool b]]]].map D.un)=some (Ar (l++[(p,q,b)])):=aZu (m:=(p,q,b)) ka;simp only[LA,h1];refine(if_pos rfl).trans ?_;rw[QS,Au,QP];rfl
    have c:l.length<4->∀mm fr,(∀(j:Nat) d,(flat (Ar (l++[(p,q,b)])))[j]?=some d->mm [31] j=some d)->(FK pN).ex [.row [31] (l.length+1),.fn 108 []] mm fr=some (.tup [],[([31],0,flat (Ar (D6 kS m0t l.length 1 (l++[(p,q,b)]))))]):=by
     intro w mm fr hm;have hr:=aGf hm;rw[QP]at hr;simp only[FK,pN,T_];rw[if_pos ⟨O,O⟩,show l.length+1=l.length+[(p,q,b)].length from rfl,hr];rfl
    unfold aYo FD;simp only;generalize DQ p q=e1 at *;generalize Bh l p=e2 at *;generalize FU p (l.map (·.1))=e3 at *;by_cases he:e1=0
    ·subst he;by_cases da:0<=e2
     ·simp only[↓C2,Is,simprocAttr,Ab g,f,Ab a,z,ne_eq,Ag,Ao,Ap,Qt,Qx,Qw,QC,and_false,Qz,A6,Bz,da];exact .inr ⟨_,_,rfl,rfl,.inl (.inl rfl),.inl (.inl rfl),trivial⟩
     ·cases e3 with
      |true=>
       simp only[↓C2,Is,simprocAttr,Ab g,f,Ab a,z,Ab i,k,AN n,Vq,o,ne_eq,Ag,Ao,Ap,Qt,Qw,QC,and_false,Qz,da];refine Al ?_;simp only[↓C2,Iw,Ii,simprocAttr,Ag,Ao,Ap,Qy,QF,Qv,and_self,Qt,Qx,Qw,QC,Qz,A6,Bz,da];exact .inr ⟨_,_,rfl,rfl,.inl (.inl rfl),.inl (.inl rfl),trivial⟩
      |false=>
       by_cases h4:4<=l.length
       ·have ea:(4:Int)<=(l.length:Int):=by omega
        simp only[↓C2,Is,simprocAttr,Ab g,f,Ab a,z,Ab i,k,AN n,Vq,o,ne_eq,Ag,Ao,Ap,Qt,Qw,QC,and_false,Qz,da];refine Al ?_;simp only[↓C2,Iw,Ii,simprocAttr,Au,Ag,Ao,Ap,Qy,QF,Qv,and_self,Qt,Qx,Qw,QC,Qz,A6,Bz,da,ea,h4];exact .inr ⟨_,_,rfl,rfl,.inl (.inl rfl),.inl (.inl rfl),trivial⟩
       ·have ea:¬(4:Int)<=(l.length:Int):=by omega
        simp only[↓C2,Is,simprocAttr,Ab g,f,Ab a,z,Ab i,k,AN n,Vq,o,ne_eq,Ag,Ao,Ap,Qt,Qw,QC,and_false,Qz,da];refine Al ?_;simp only[↓C2,Is,simprocAttr,AN v,Au,Ag,Ao,Ap,Qt,Qw,QC,and_false,Qz,ea];refine aI (ia _ _) ?_;simp only[↓C2,Ij,simprocAttr,AN u];refine aI (c O _ _ (λj d hd=>?_)) ?_
        ·grind [Ag]
        simp only[↓C2,Iw,Ii,simprocAttr,aBa,vD,Cd,DV,Ag,Ao,Ap,Qy,QF,Qv,and_self,Qt,QI,Qx,QA,QK,Qw,false_and,Qz,A6,Bz,da,h4];refine .inr ⟨_,_,rfl,rfl,.inr ⟨_,_,rfl,rfl,.inr ⟨[31],_,3,?_,rfl,?_,?_⟩,trivial⟩,.inl (.inl rfl),trivial⟩
        ·grind [Au,HY]
        ·intro x hx;obtain⟨y,_,rfl⟩:=Zc.1 hx;exact⟨rfl,rfl⟩
        ·grind [aA,Ag]
    ·simp only[↓C2,Is,simprocAttr,Ab g,f,ne_eq,Ag,Ao,Ap,Qt,Qx,Qw,QC,and_false,Qz,A6,Bz,he];exact .inr ⟨_,_,rfl,rfl,.inl (.inl rfl),.inl (.inl rfl),trivial⟩
   ·cases h
  ·cases h
def Rj:=y1 f248 2 [] []
def aNA:=y0 f248 [] [(2,Rj)]
def aDx:=y0 f159 [] []
def V3:=y1 f47 8 [] []
def aYm:=y0 f47 [(16,[(0,5),(4,5),(4,6),(6,4)])] [(8,V3)]
def aG0{S:Ic}{l:List Mt}{p:Bs}{nl:Bool}{t:Id}{Q:Ex->St->Prop}(hb:l.length<=1000000)(d:S 301=some (Af aAd))
  (ma:∀z (m:Mt),Bd l p≠-1->m=AZ l (Bd l p).toNat->z.s 4= .ptr [1] 0->z.s 5= .int .i64 0->z.m [1] 0=some (.str m.1)->z.m [1] 1=some (.int .i64 m.2.1)->z.m [1] 2=some (.bool m.2.2)->Q .ret z)
  (ia:∀z a b c,Bd l p=-1->z.s 4= .ptr [1] 0->z.m [1] 0=some a->z.m [1] 1=some b->z.m [1] 2=some c->Q (.exit 0) z):
  ∀(f j:Nat) z g a b c,l.length=j+f->(∀i,i<j->(l.map λm=>Bu p m.1)[i]?=some false)->2<=z.c->z.s 1= .str p->z.s 4= .ptr [1] 0->z.s 9= .slice nl t (Ar l)->z.s 10= .int .i64 (l.length:Int)->z.s 11= .int .i64 (j:Int)->
   z.m [1] 0=some a->z.m [1] 1=some b->z.m [1] 2=some c->A2 S [] Rj Q z g:=by
 intro f;induction f with
 |zero=>
  intro j z g a b c hf ca hc u h4 h9 la y h na r;refine Ae Rj.eq_1 ?_;have v:¬((j:Int)<l.length):=O
  simp only[↓C2,Ih,Ii,reduceIte,Qq,la,y,v];exact ia _ a b c (GC (by rw[QD];intro i hi;exact ca i O)) h4 h na r
 |succ f ih=>
  intro j z g a b c hf ca hc u h4 h9 la y h na r;refine Ae Rj.eq_1 ?_;have k:j<l.length:=O
  have v:((j:Int)<l.length):=O
  have qa:=nJ (j:=j);have hw:=wJ (j:=j) O;have w:(Ar l)[j]?=some (.agg [.str (AZ l j).1,.int .i64 (AZ l j).2.1,.bool (AZ l j).2.2]):=Dc k;have x:(l.map λm=>Bu p m.1)[j]?=some (Bu p (AZ l j).1):=by simp[AZ,Qr k]
  have oa:([z.c+1+2]=([1]:Id))=False:=eq_false U;have n:(([1]:Id)=[z.c+1+2])=False:=eq_false U;obtain⟨m,q⟩:∃m,AZ l j=m:=⟨_,rfl⟩;rw[q]at w x;have e:aAd [.str p,.str m.1]=some (.bool (Bu p m.1)):=rfl;obtain⟨ja,da,o⟩:=z;simp only at u h4 h9 la y h na r oa n hc;cases hq:Bu p m.1 with
  |true=>
   rw[hq]at x e;have hr:Bd l p=(j:Int):=E7 x ca;simp only[↓C2,Is,simprocAttr,u,h4,h9,la,y,v,qa,Qp,w,n,h,na,r,Ab d,e,Q7,Ag,Ao,Ap,Qt,QE,QI,Qx];refine ma _ m (by rw[hr];omega) (by rw[hr];exact q.symm) h4 rfl ?_ ?_ ?_<;>simp only[Ii,simprocAttr,n,h,na,r,Q7,Ag,Qy,QF,QH,QQ,QR,Qv,QL,and_self]
  |false=>
   rw[hq]at x e;simp only[↓C2,Is,simprocAttr,u,h9,la,y,v,qa,hw,Qp,w,Ab d,e,Q7,Ag,Ao,Ap,Qt,QE,QI,Qx];refine ih (j+1) _ _ a b c O (λi hi=>?_) Xb u h4 h9 la rfl ?_ ?_ ?_
   ·grind
   all_goals simp only[IM,Ii,simprocAttr,n,h,na,r,Q7,Ag,Qy,QF,QH,QQ,QR,Qv,QL,and_self]
def Nd(l:List Mt)(p:Bs):D:=if Bd l p=-1 then .tup [I0 m0t,.int .i64 14]else .tup [I0 (AZ l (Bd l p).toNat),.int .i64 0]
open Classical in
def aFh:List D->Option D
 |[.agg [.slice _ _ xs],.str p]=>if xs=Ar (Cb xs)∧xs.length<=1000000 then some (Nd (Cb xs) p)else none
 |_=>none
open Classical in
def tY{nl:Bool}{t:Id}{l:List Mt}{p:Bs}(w:l.length<=1000000):aFh [.agg [.slice nl t (Ar l)],.str p]=some (Nd l p):=by
 have h:Ar l=Ar (Cb (Ar l))∧(Ar l).length<=1000000:=XM
 show(if _ then _ else _)=_;rw[if_pos h,Bj]
def aBH:Kq aFh 248:=by
 obtain⟨S,v,w⟩:=A7 (Aa aLd Ad);have d:=w 301 _ rfl;clear w;refine AD (S:=S) v (Ai func248:Fn Qu 248 22 aNA [.cell (some 3) 4,.t 5]) (λds r h=>?_) (λds r h=>?_)
 ·unfold aFh at h;split at h
  ·simp
  ·cases h
 ·unfold aFh at h;split at h
  ·rename_i nl t xs p;split at h
   ·rename_i k;obtain⟨o,w⟩:=k;simp only[Qs]at h;subst h;generalize Cb xs=l at o;subst o;rw[Au]at w;unfold aNA;simp only[↓C2,Iw,Ii,simprocAttr,Au,Ag,Qy,QF,Qv,and_self,Qw,QC];refine aG0 (l:=l) (p:=p) (nl:=nl) (t:=t) w d (λz m f u n q m0 s j=>?_) (λz a b c f n m0 s j=>?_) l.length 0 _ _ (.str []) (.int .i64 0) (.bool false) O U Xb rfl rfl rfl rfl rfl ?_ ?_ ?_
    ·unfold Nd;rw[if_neg f,←u];simp only[↓C2,Ij,Qq,n,q,m0,s,j,Ao,Ap,QR,Qt,A6,Bz];exact⟨rfl,rfl⟩
    ·unfold Nd;rw[if_pos f];simp only[↓C2,Is,simprocAttr,n,m0,s,j,Cd,Ag,Ao,Ap,Qt,Qx,A6,Bz];exact⟨rfl,rfl⟩
    all_goals simp only[IM,Ii,simprocAttr,Ag,Qy,QF,QH,QQ,QR,Qv,QL,and_self,Qw,and_false,Qz]
   ·cases h
  ·cases h
open Classical in
def aFn:List D->Option D
 |[.agg [.bool se,.int .i64 te,.str key,.slice nlm tm xs,.slice nlt tt ys],.str p]=>if xs=Ar (Cb xs)∧xs.length<=1000000 then some (.bool (decide (Bd (Cb xs) p≠-1)))else none
 |_=>none
def aVk:Kq aFn 159:=by
 obtain⟨S,v,w⟩:=A7 (Aa aBH Ad);have b:=w 248 _ rfl;clear w;refine AD (S:=S) v (Ai func159:Fn Qu 159 16 aDx [.t 4]) (λds r h=>?_) (λds r h=>?_)
 ·unfold aFn at h;split at h
  ·simp
  ·cases h
 ·unfold aFn at h;split at h
  ·rename_i s j e c q xs d f ys p;split at h
   ·rename_i k;obtain⟨o,w⟩:=k;simp only[Qs]at h;subst h;generalize Cb xs=l at o;subst o;rw[Au]at w;have a:=tY (nl:=c) (t:=[]) (p:=p) w;unfold Nd at a;by_cases y:Bd l p=-1
    ·rw[if_pos y]at a;simp only[y,ne_eq,not_true_eq_false,decide_false];unfold aDx;simp only[↓C2,Is,simprocAttr,Ab b,a,I0,Ag,Ao,Ap,Qt,Qx,Qw,Qz]
     all_goals rfl
    ·rw[if_neg y]at a;simp only[y,ne_eq,not_false_eq_true,decide_true];unfold aDx;simp only[↓C2,Is,simprocAttr,Ab b,a,I0,Ag,Ao,Ap,Qt,Qx,Qw,Qz]
     all_goals rfl
   ·cases h
  ·cases h
def UG(l:List Mt)(p:Bs):Nat->Nat
 |0=>0
 |j+1=>if Op.bytesLess (AZ l j).1 p=true then j+1 else UG l p j
def kZ(l:List Mt)(p:Bs):∀j,UG l p j<=j
 |0=>Q7 _
 |j+1=>by
  unfold UG;split
  ·exact Q7 _
  ·exact Nat.le_succ_of_le (kZ l p j)
def aBU{l:List Mt}{s:Bs}{j:Nat}(y:j<l.length)(h:(Ba (AZ l j).1 s||Ba s (AZ l j).1)=true):FU s (l.map (·.1))=true:=by
 grind [FU,AZ]
def kG{l:List Mt}{s:Bs}(h:∀i,i<l.length->(Ba (AZ l i).1 s||Ba s (AZ l i).1)=false):FU s (l.map (·.1))=false:=by
 unfold FU;rw[ZH];intro q b;obtain⟨m,z,rfl⟩:=Zc.1 b;obtain⟨i,hi,rfl⟩:=Zl z;have:=h i hi;simp only[AZ,Zs,Qr hi,Zz]at this;rw[Bool.or_comm,this];exact QU
def aQE{S:Ic}{l:List Mt}{p:Bs}{nl:Bool}{t:Id}{d1 d2:D}{Q:Ex->St->Prop}(hb:l.length<=1000)(y:S 111=some (Af bL))(hp:∀m∈l,m.1.length<=1000000)(hs:p.length<=1000000)
  (ma:∀z,FU p (l.map (·.1))=true->z.s 4= .slice nl t (Ar l)->z.s 5= .int .i64 15->Q .ret z)
  (e:∀z,FU p (l.map (·.1))=false->z.s 0= .slice nl t (Ar l)->z.s 3= .ptr [0] 0->z.s 7= .int .i64 (UG l p l.length:Int)->z.m [0] 0=some (.str p)->z.m [0] 1=some d1->z.m [0] 2=some d2->Q (.exit 0) z):
  ∀(f j:Nat) z g,l.length=j+f->(∀i,i<j->(Ba (AZ l i).1 p||Ba p (AZ l i).1)=false)->z.s 0= .slice nl t (Ar l)->z.s 3= .ptr [0] 0->z.s 7= .int .i64 (UG l p j:Int)->z.s 8= .int .i64 (j:Int)->
   z.m [0] 0=some (.str p)->z.m [0] 1=some d1->z.m [0] 2=some d2->A2 S [] V3 Q z g:=by
 intro f;induction f with
 |zero=>
  intro j z g hf x r o h7 h8 h na ra;refine Ae V3.eq_1 ?_;have v:¬((j:Int)<l.length):=O
  simp only[↓C2,Ih,Ii,simprocAttr,r,h8,v,Au];obtain rfl:j=l.length:=O
  exact e _ (kG x) r o h7 h na ra
 |succ f ih=>
  intro j z g hf x r o h7 h8 h na ra;refine Ae V3.eq_1 ?_;have k:j<l.length:=O
  have v:((j:Int)<l.length):=O
  have qa:=nJ (j:=j);have hw:=wJ (j:=j) O;have d:(Ar l)[j]?=some (.agg [.str (AZ l j).1,.int .i64 (AZ l j).2.1,.bool (AZ l j).2.2]):=Dc k;have n:AZ l j∈l:=by simp[AZ,Qr k]
  have w:=hp _ n;have hn:=aBU (s:=p) k;have hk:UG l p (j+1)=if Op.bytesLess (AZ l j).1 p=true then j+1 else UG l p j:=rfl
  have b:(Ba (AZ l j).1 p||Ba p (AZ l j).1)=false->∀i,i<j+1->(Ba (AZ l i).1 p||Ba p (AZ l i).1)=false:=by
   grind
  generalize AZ l j=m at d w hn hk b;have a:bL [.str m.1,.str p]=some (.bool (Ba m.1 p)):=if_pos ⟨w,hs⟩;have c:bL [.str p,.str m.1]=some (.bool (Ba p m.1)):=if_pos ⟨hs,w⟩;obtain⟨ja,u,q⟩:=z;simp only at r o h7 h8 h na ra;cases hwa:Ba m.1 p with
  |true=>
   rw[hwa]at hn a;simp only[↓C2,Iw,Ii,simprocAttr,r,o,h8,v,qa,Qp,d,Au,h,Ab y,a,Qy,QA,QG];refine Al ?_;simp only[↓C2,Ih,IM,simprocAttr,r];exact ma _ (hn rfl) rfl rfl
  |false=>
   cases hwb:Ba p m.1 with
   |true=>
    rw[hwa,hwb]at hn;rw[hwa]at a;rw[hwb]at c;simp only[↓C2,Iw,Ii,simprocAttr,r,o,h8,v,qa,Qp,d,Au,h,Ab y,a,c,Qy,QA,QG];refine Al ?_;simp only[↓C2,Ih,IM,simprocAttr,r];exact ma _ (hn rfl) rfl rfl
   |false=>
    rw[hwa,hwb]at b;rw[hwa]at a;rw[hwb]at c;cases hbl:Op.bytesLess m.1 p with
    |true=>
     rw[hbl,if_pos rfl]at hk;simp only[↓C2,Iw,Ii,simprocAttr,r,o,h8,v,qa,Qp,d,Au,h,Ab y,a,c,Qy,QA,QG];refine Al ?_;simp only[↓C2,Iw,simprocAttr,r,o,h8,qa,Qp,d,h,Qy,QA,QG,M6,hbl];refine Al ?_;simp only[↓C2,Ih,IM,simprocAttr,h8,hw];exact ih (j+1) _ _ O (b rfl) r o (by rw[hk];rfl) rfl h na ra
    |false=>
     rw[hbl,if_neg QU]at hk;simp only[↓C2,Iw,Ii,simprocAttr,r,o,h8,v,qa,Qp,d,Au,h,Ab y,a,c,Qy,QA,QG];refine Al ?_;simp only[↓C2,Iw,simprocAttr,r,o,h8,qa,Qp,d,h,Qy,QA,QG,M6,hbl];refine Al ?_;simp only[↓C2,Ih,IM,simprocAttr,h8,hw];exact ih (j+1) _ _ O (b rfl) r o (by rw[hk];exact h7) rfl h na ra
def Us(l:List Mt)(k:Nat):Zm k (Ar l)=Ar (l.take k):=by simp[Ar]
def Uu(l:List Mt)(k:Nat):Zg k (Ar l)=Ar (l.drop k):=by simp[Ar]
def Gf(l:List Mt)(m:Mt):Option (List Mt)×Int:=
 if DQ m.1 m.2.1≠0 then(none,DQ m.1 m.2.1)else if 0<=Bh l m.1 then(none,20)else if FU m.1 (l.map (·.1))=true then(none,15)else if 4<=l.length then(none,24)
 else(some (l.take (UG l m.1 l.length)++m::l.drop (UG l m.1 l.length)),0)
def aAJ(nl:Bool)(l:List Mt)(o:Option (List Mt)):D:=match o with
 |none=> .slice nl [] (Ar l)
 |some u=> .slice false [] (Ar u)
open Classical in
def F47:List D->Option D
 |[.slice nl _ xs,.agg [.str p,.int .i64 q,.bool b]]=>if Pu nl xs∧xs.length<=1000∧p.length<=1000000∧(∀m∈Cb xs,m.1.length<=1000000)then some (.tup [aAJ nl (Cb xs) (Gf (Cb xs) (p,q,b)).1,.int .i64 (Gf (Cb xs) (p,q,b)).2])else none
 |_=>none
open Classical in
def oL{nl:Bool}{t:Id}{l:List Mt}{m:Mt}(w:l.length<=1000)(f:nl=true->l=[])(g:m.1.length<=1000000)(x:∀m∈l,m.1.length<=1000000):F47 [.slice nl t (Ar l),I0 m]=some (.tup [aAJ nl l (Gf l m).1,.int .i64 (Gf l m).2]):=by
 have h:Pu nl (Ar l)∧(Ar l).length<=1000∧m.1.length<=1000000∧(∀m∈Cb (Ar l),m.1.length<=1000000):=⟨N_ O f,by rw[Au];exact w,g,by rw[Bj];exact x⟩;show(if _ then _ else _)=_;rw[if_pos h,Bj]
open Classical in
def W0{nl:Bool}{t:Id}{l:List Mt}{p:Bs}(w:l.length<=1000000):F74 [.slice nl t (Ar l),.str p]=some (.int .i64 (Bh l p)):=by
 have h:Ar l=Ar (Cb (Ar l))∧(Ar l).length<=1000000:=XM
 show(if _ then _ else _)=_;rw[if_pos h,Bj]
def aUg:Kq F47 47:=by
 obtain⟨S,hS,w⟩:=A7 (Aa aVA (Aa aQl (Aa aBM Ad)));have c:=w 110 _ rfl;have x:=w 74 _ rfl;have y:=w 111 _ rfl;clear w;refine AD (S:=S) hS (Ai func47:Fn Qu 47 72 aYm [.t 4,.t 5]) (λds r h=>?_) (λds r h=>?_)
 ·unfold F47 at h;split at h
  ·simp
  ·cases h
 ·unfold F47 at h;split at h
  ·rename_i nl t xs p q b;split at h
   ·rename_i v;obtain⟨v,ka,hp,s⟩:=v;obtain⟨l,rfl,w,hn,e⟩:=Mm v;rw[e]at h s;rw[Au]at ka;simp only[Qs]at h;subst h;have fa:aK0 [.agg [.str p,.int .i64 q,.bool b]]=some (.int .i64 (DQ p q)):=if_pos hp;have d:=W0 (nl:=nl) (t:=[]) (p:=p) w;unfold aYm Gf;simp only;generalize DQ p q=e1 at *;generalize Bh l p=e2 at *;by_cases j:e1=0
    ·subst j;by_cases f:0<=e2
     ·simp only[↓C2,Is,simprocAttr,Ab c,fa,Ab x,d,ne_eq,Ag,Ao,Ap,Qt,f];cases nl<;>exact⟨rfl,rfl⟩
     ·simp only[↓C2,Is,simprocAttr,Ab c,fa,Ab x,d,ne_eq,Ag,Ao,Ap,Qt,f];refine aQE (l:=l) (p:=p) (nl:=nl) (t:=t) (d1:= .int .i64 q) (d2:= .bool b) ka y s hp (λz u h4 h5=>?_) (λz u m o h7 m0 m1 m2=>?_) l.length 0 _ _ O (λi hi=>absurd hi (Ze _)) rfl rfl rfl rfl ?_ ?_ ?_
      ·rw[u];simp only[↓C2,Ij,reduceIte,f,h4,h5];cases nl<;>exact⟨rfl,rfl⟩
      ·rw[u];by_cases h4:4<=l.length
       ·have n:(4:Int)<=(l.length:Int):=by omega
        simp only[↓C2,Ij,simprocAttr,Au,f,m,h4,n];cases nl<;>exact⟨rfl,rfl⟩
       ·have n:¬(4:Int)<=(l.length:Int):=by omega
        have g:=kZ l p l.length;generalize UG l p l.length=k at h7 g;have oa:(0:Int)<=(k:Int):=O
        have sa:(k:Int)<=(l.length:Int):=O
        have ua:((l.take k).length*33<=140737488355328)=True:=eq_true Xg;have ra:(((l.take k).length+1)*33<=140737488355328)=True:=eq_true Xg;have pa:(((l.take k).length+1+(l.drop k).length)*33<=140737488355328)=True:=eq_true Yb;have wa:Zm (l.length-k) (Zg k l)=Zg k l:=QW Y5;have la:aE [D.agg [.str p,.int .i64 q,.bool b]] 3=3:=rfl;have a:(k<=l.length)=True:=eq_true g;simp only[↓C2,Is,simprocAttr,ne_eq,Au,Ag,Ao,Ap,Qt,QA,Qw,false_and,and_false,m,o,h7,m0,m1,m2,n,oa,sa,Qp,F6,E_,QV,Ut,Us,Uu,QA,QP,ua,ra,pa,or_true,la,ite_self,wa];refine AF.intro (Ce ?_) ?_
        ·simp only[Ec,ZD,Q5,Zs,Qv,QL,Zz,BP,QH,QQ,ZI,ZN,Lf,↓C2,reduceIte,Qo,o];simp[A4]
        simp only[↓C2,Ij,reduceIte,Qo,QA,f,h4,Us,Uu,QA,ite_self,wa];have e9:Ar (Zm k l)++[D.agg [.str p,.int .i64 q,.bool b]]++Ar (Zg k l)=Ar (Zm k l++(p,q,b)::Zg k l):=by simp[Ar,I0]
        rw[e9];exact⟨rfl,rfl⟩
      all_goals simp only[IM,simprocAttr,Ag,Qy,QF,QH,QQ,QR,Qv,QL,and_self]
    ·simp only[↓C2,Is,simprocAttr,Ab c,fa,ne_eq,Ag,Ao,Ap,Qt,j];cases nl<;>exact⟨rfl,rfl⟩
   ·cases h
  ·cases h
def TQ(l:List Tk)(k:Nat):Zm k (Ay l)=Ay (l.take k):=by simp[Ay]
def TS(l:List Tk)(k:Nat):Zg k (Ay l)=Ay (l.drop k):=by simp[Ay]
def EZ(l:List Tk)(n:Bs):Nat->Nat->Nat
 |0,j=>j
 |f+1,j=>if Op.bytesLess (AS l j).1 n=true then EZ l n f (j+1)else j
def dZ(l:List Tk)(n:Bs):∀f j,EZ l n f j<=j+f
 |0,j=>Q7 _
 |f+1,j=>by
  unfold EZ;split
  ·have:=dZ l n f (j+1);omega
  ·omega
def aHk{S:Ic}{l:List Tk}{n:Bs}{nl:Bool}{t:Id}{d1 d2:D}{e:Nat}{Q:Ex->St->Prop}(i:l.length<=1000000)
  (w:∀z,1<=z.c->z.s 0= .slice nl t (Ay l)->z.s 3= .ptr [0] 0->z.s 5= .int .i64 (e:Int)->z.m [0] 0=some (.str n)->z.m [0] 1=some d1->z.m [0] 2=some d2->Q (.exit 0) z):
  ∀(f j:Nat) z g,l.length=j+f->EZ l n f j=e->1<=z.c->z.s 0= .slice nl t (Ay l)->z.s 3= .ptr [0] 0->z.s 5= .int .i64 (j:Int)->
   z.m [0] 0=some (.str n)->z.m [0] 1=some d1->z.m [0] 2=some d2->A2 S [] RH Q z g:=by
 intro f;induction f with
 |zero=>
  intro j z g a x k r o q p na ra;refine Ae RH.eq_1 ?_;have v:¬((j:Int)<l.length):=O
  simp only[↓C2,Ih,Ii,simprocAttr,r,q,v,AH];refine Al ?_;simp only[↓C2,Ih,reduceIte,Qo];exact w _ Xb r o (by rw[←x];exact q) p na ra
 |succ f ih=>
  intro j z g a x k r o q p na ra;refine Ae RH.eq_1 ?_;have y:j<l.length:=O
  have v:((j:Int)<l.length):=O
  have qa:=nJ (j:=j);have h:=wJ (j:=j) O;have d:(Ay l)[j]?=some (.agg [.str (AS l j).1,.str (AS l j).2.1,.slice (AS l j).2.2.1 [] (Aj (AS l j).2.2.2)]):=DY y;unfold EZ at x;generalize AS l j=m at d x;obtain⟨ja,u,b⟩:=z;simp only at r o q p na ra k;cases hbl:Op.bytesLess m.1 n with
  |true=>
   rw[hbl,if_pos rfl]at x;simp only[↓C2,Iw,Ii,simprocAttr,r,o,q,v,qa,Qp,d,AH,p,M6,Qy,QA,QG,hbl];refine Al ?_;simp only[↓C2,Ih,IM,simprocAttr,q,h];exact ih (j+1) _ _ O x Xb r o rfl p na ra
  |false=>
   rw[hbl,if_neg QU]at x;simp only[↓C2,Iw,Ii,simprocAttr,r,o,q,v,qa,Qp,d,AH,p,M6,Qy,QA,QG,hbl];refine Al ?_;simp only[↓C2,Ih,IM,reduceIte,Qo];exact w _ Xb r o (by rw[←x];exact q) p na ra
def NM(l:List Tk)(k:Tk):List Tk:=l.take (EZ l k.1 l.length 0)++k::l.drop (EZ l k.1 l.length 0)
open Classical in
def aKW:List D->Option D
 |[.slice _ _ xs,.agg [.str n,.str p,.slice nl _ ys]]=>if(xs=Ay (Cz xs)∧xs.length<=90000)∧ys=Aj (Br ys)then some (.slice false [] (Ay (NM (Cz xs) (n,p,nl,Br ys))))else none
 |_=>none
open Classical in
def aKV{nl0 nl:Bool}{t0 t:Id}{l:List Tk}{n p:Bs}{rs:List Rl}(w:l.length<=90000):aKW [.slice nl0 t0 (Ay l),.agg [.str n,.str p,.slice nl t (Aj rs)]]=some (.slice false [] (Ay (NM l (n,p,nl,rs)))):=by
 have h:(Ay l=Ay (Cz (Ay l))∧(Ay l).length<=90000)∧Aj rs=Aj (Br (Aj rs)):=by rw[By,AH,A_];exact⟨⟨rfl,w⟩,rfl⟩
 show(if _ then _ else _)=_;rw[if_pos h,By,A_]
def aVv:Kq aKW 119:=by
 refine AD (S:=λ_=>none) AI (Ai func119:Fn Qu 119 34 aPa [.t 4]) (λds r h=>?_) (λds r h=>?_)
 ·unfold aKW at h;split at h
  ·simp
  ·cases h
 ·unfold aKW at h;split at h
  ·rename_i nl0 t0 xs n p nl t ys;split at h
   ·rename_i x;obtain⟨⟨o,u⟩,d⟩:=x;simp only[Qs]at h;subst h;generalize Cz xs=l at *;generalize Br ys=rs at *;subst o d;rw[AH]at u;unfold aPa;simp only[↓C2,Ih,IM,Qq,QR];refine aHk (l:=l) (n:=n) (nl:=nl0) (t:=t0) (d1:= .str p) (d2:= .slice nl t (Aj rs)) (e:=EZ l n l.length 0) O (λz x m y q m0 w v=>?_) l.length 0 _ _ O rfl Xb rfl rfl rfl ?_ ?_ ?_
    ·unfold NM;simp only;have j:=dZ l n l.length 0;generalize EZ l n l.length 0=k at q j;rw[QR]at j;have b:(0:Int)<=(k:Int):=by omega
     have f:(k:Int)<=(l.length:Int):=O
     have ua:((l.take k).length*57<=140737488355328)=True:=eq_true Xg;have s:(((l.take k).length+1)*57<=140737488355328)=True:=eq_true Xg;have pa:(((l.take k).length+1+(l.drop k).length)*57<=140737488355328)=True:=eq_true Yb;have g:Zm (l.length-k) (Zg k l)=Zg k l:=QW Y5;have la:aE [D.agg [.str n,.str p,.slice nl [] (Aj rs)]] 3=3:=rfl;have i:(0=z.c+0)=False:=eq_false O;have a:(k<=l.length)=True:=eq_true j;simp only[↓C2,Is,simprocAttr,i,m,y,q,m0,w,v,b,f,Qp,F6,E_,QV,TR,TQ,TS,QA,QP,ua,s,pa,or_true,la,ite_self,g,AH,ne_eq,Ag,Ao,Ap,Qt,QA,Qw,false_and,and_false];refine AF.intro (Ce ?_) ?_
     ·simp only[Ec,ZD,Q5,Zs,Qv,QL,Zz,BP,QH,QQ,ZI,ZN,Lf,↓C2,reduceIte,Qo,y];simp[A4];omega
     simp only[↓C2,Ij,reduceIte,Qo,TQ,TS,QA,ite_self,g,QA];have e9:Ay (Zm k l)++[D.agg [.str n,.str p,.slice nl [] (Aj rs)]]++Ay (Zg k l)=Ay (Zm k l++(n,p,nl,rs)::Zg k l):=by simp[Ay,I2]
     rw[e9]
    all_goals simp only[IM,simprocAttr,Ag,Qy,QF,QH,QQ,QR,Qv,QL,and_self]
   ·cases h
  ·cases h
def Dr(l:List Tk)(k:Tk):Option (List Tk)×Int:=
 if GR k.1 k.2.1 k.2.2.2≠0 then(none,GR k.1 k.2.1 k.2.2.2)else if k.2.1=[]then(none,2)else if 0<=Bv l k.1 then(none,20)else if Bv l k.2.1<0 then(none,6)
 else if DZ k.2.2.2 (AS l (Bv l k.2.1).toNat).2.2.2=false then(none,13)else(some (NM l k),0)
def PL(nl:Bool)(l:List Tk)(o:Option (List Tk)):D:=match o with
 |none=> .slice nl [] (Ay l)
 |some u=> .slice false [] (Ay u)
open Classical in
def F52:List D->Option D
 |[.slice nl0 _ xs,.agg [.str n,.str p,.slice nl _ ys]]=>if(Fm xs∧xs.length<=90000∧∀k∈Cz xs,EB k.2.2.2)∧MR nl ys∧EB (Br ys)∧n.length<=1000000∧p.length<=1000000
   then some (.tup [PL nl0 (Cz xs) (Dr (Cz xs) (n,p,nl,Br ys)).1,.int .i64 (Dr (Cz xs) (n,p,nl,Br ys)).2])else none
 |_=>none
open Classical in
def MC{nl:Bool}{t:Id}{l:List Tk}{p:Bs}(w:l.length<=1000000):aAk [.slice nl t (Ay l),.str p]=some (.int .i64 (Bv l p)):=by
 have h:Ay l=Ay (Cz (Ay l))∧(Ay l).length<=1000000:=by rw[By,AH];exact⟨rfl,w⟩
 show(if _ then _ else _)=_;rw[if_pos h,By]
def Oe(l:List Tk)(p:Bs):Bv l p<l.length:=by
 have:=Mp (l.map λm=>decide (m.1=p));rw[QD]at this;exact this
def aUd:Kq F52 52:=by
 obtain⟨S,hS,w⟩:=A7 (Aa aLw (Aa qF (Aa aVw (Aa aVv Ad))));have d:=w 116 _ rfl;have b:=w 117 _ rfl;have i:=w 118 _ rfl;have q:=w 119 _ rfl;clear w;refine AD (S:=S) hS (Ai func52:Fn Qu 52 44 aYh [.t 4,.t 5]) (λds r h=>?_) (λds r h=>?_)
 ·unfold F52 at h;split at h
  ·simp
  ·cases h
 ·unfold F52 at h;split at h
  ·rename_i nl0 t0 xs n p nl t ys;split at h
   ·rename_i hc;obtain⟨⟨hc,h9,hk⟩,hr,a,hn,hp⟩:=hc;obtain⟨l,rfl,w,e⟩:=EG hc;obtain⟨rs,rfl,ma,qa,e2⟩:=Hk hr;rw[e,e2]at h;rw[e]at hk;rw[e2]at a;rw[AH]at h9;simp only[Qs]at h;subst h;have y:=bK (n:=n) (p:=p) (nl:=nl) (t:=[]) ma a.2.1 hn hp;have c:=MC (nl:=nl0) (t:=[]) (p:=n) w;have g:=MC (nl:=nl0) (t:=[]) (p:=p) w;have o:=aKV (nl0:=nl0) (t0:=[]) (n:=n) (p:=p) (nl:=nl) (t:=[]) (rs:=rs) h9;have v:=Oe l p;unfold aYh Dr;simp only;generalize GR n p rs=e at *;generalize Bv l n=fn at *;generalize Bv l p=fp at *;by_cases x:e=0
    ·subst x;by_cases la:p=[]
     ·subst la;simp only[↓C2,Is,simprocAttr,Ab d,y,ne_eq,Ag,Ao,Ap,Qt];simp[PL];rfl
     ·by_cases u:0<=fn
      ·simp only[↓C2,Is,simprocAttr,Ab d,y,Ab b,c,ne_eq,Ag,Ao,Ap,Qt,la,u];simp[PL];rfl
      ·by_cases h2:fp<0
       ·simp only[↓C2,Is,simprocAttr,Ab d,y,Ab b,c,g,ne_eq,Ag,Ao,Ap,Qt,la,u,h2];simp[PL];rfl
       ·have va:(0:Int)<=fp:=by omega
        have hi:fp.toNat<l.length:=O
        have ga:=DY (l:=l) (j:=fp.toNat) hi;have z:AS l fp.toNat∈l:=by simp[AS,Qr hi]
        have ia:=hk _ z;generalize AS l fp.toNat=k at ga ia;obtain⟨n2,p2,s,m⟩:=k;replace ga:(Ay l)[fp.toNat]?=some (.agg [.str n2,.str p2,.slice s [] (Aj m)]):=ga;have f:=uD (na:=nl) (nb:=s) (ta:=[]) (tb:=[]) ma ia.1 a.2.1 ia.2.1 a.2.2 ia.2.2;simp only at f;cases h3:DZ rs m with
        |false=>
         rw[h3]at f;simp only[↓C2,Is,simprocAttr,Ab d,y,Ab b,c,g,ne_eq,Ag,Ao,Ap,Qt,QA,QK,QG,la,u,h2,va,ga,Ab i,f];refine Al ?_;simp only[↓C2,Ij,simprocAttr,la,u,h2];simp[PL];rfl
        |true=>
         rw[h3]at f;simp only[↓C2,Is,simprocAttr,Ab d,y,Ab b,c,g,ne_eq,Ag,Ao,Ap,Qt,QA,QK,QG,la,u,h2,va,ga,Ab i,f];refine Al ?_;simp only[↓C2,Is,simprocAttr,Ab q,o,Ag,Ao,Ap,Qt,la,u,h2];simp[PL];rfl
    ·simp only[↓C2,Is,simprocAttr,Ab d,y,ne_eq,Ag,Ao,Ap,Qt,x];simp[PL];rfl
   ·cases h
  ·cases h
def aNr:=y0 f257 [] []
def aNq:=y0 f258 [] []
def aNo:=y0 f260 [] []
def rR:=y1 f261 4 [] []
def aNn:=y0 f261 [] [(4,rR)]
def aMu:=y0 f347 [] []
def I8:=y1 f346 3 [] []
def aMv:=y0 f346 [] [(3,I8)]
def aNm:=y0 f262 [] []
def rO:=y1 f345 4 [] []
def aMw:=y0 f345 [] [(4,rO)]
def P6:=y1 f317 3 [] []
def aMN:=y0 f317 [] [(3,P6)]
def P2:=y1 f348 3 [] []
def aMt:=y0 f348 [] [(3,P2)]
def Rk:=y1 f232 6 [(8,[(7,3)])] []
def aNN:=y0 f232 [] [(6,Rk)]
structure Ak where
 op:Int
 tk:Bs
 pa:Bs
 ot:Bs
 n:Int
 cas:Int
 fl:Bool
 nln:Bool
 ns:List Int
 da:Bs
 nlr:Bool
 rs:List Rl
 key:Bs
def AE(l:List Int):List D:=l.map (.int .i64)
def Bb(l:List Int):(AE l).length=l.length:=QD ..
def Mn:∀{a b:List Int},AE a=AE b->a=b
 |[],[],_=>rfl
 |[],_::_,h=>by simp[AE]at h
 |_::_,[],h=>by simp[AE]at h
 |x::a,y::b,h=>by
  simp only[AE,Q6,Qw,D.int.injEq,true_and]at h;rw[h.1,Mn (a:=a) (b:=b) h.2]
def aCE(l:List Int):(AE l).all (rJ none)=true:=Ye
theorem Ls{a b:List Rl}(h:Aj a=Aj b):a=b:=by rw[←A_ a,h,A_]
theorem LH{a b:List Mt}(h:Ar a=Ar b):a=b:=by rw[←Bj a,h,Bj]
theorem Hg{a b:List Tk}(h:Ay a=Ay b):a=b:=by rw[←By a,h,By]
def It(a:Ak):List D:=[.int .u8 a.op,.str a.tk,.str a.pa,.str a.ot,.int .i64 a.n,.int .i64 a.cas,.bool a.fl,.slice a.nln [] (AE a.ns),.str a.da,.slice a.nlr [] (Aj a.rs),.str a.key]
def IB(a:Ak):D:= .agg (It a)
theorem DF{a b:Ak}(h:IB a=IB b):a=b:=by
 cases a;cases b;simp only[IB,It,D.agg.injEq,Qw,D.int.injEq,D.str.injEq,D.bool.injEq,D.slice.injEq,true_and,and_true]at h;obtain⟨u,q,o,n,m,x,w,⟨t,p⟩,la,⟨y,e⟩,c⟩:=h;have d:=Mn p;have f:=Ls e;subst u q o n m x w t la y c d f;rfl
def GD(b:Bool):Int:=if b=true then 0 else 4
def aTf:List D->Option D:=FX (λb:Bool=>[.bool b]) (λ_=>True) (λb=> .int .i64 (GD b))
def IP(b:Bool):aTf [.bool b]=some (.int .i64 (GD b)):=Bl (mk:=λb:Bool=>[.bool b]) (λa b h=>Xl) trivial
def aUW:Kq aTf 257:=by
 refine Bo (S:=λ_=>none) AI (Ai func257:Fn Qu 257 4 aNr [.t 2]) (λ_=>U) (λb _=>?_);unfold aNr;cases b<;>simp only[↓C2,Ij,reduceIte,Qo,Qq]
 all_goals exact Qj
def aZx:List D->Option D:=FX (λs:Bs=>[.str s]) (λs=>s.length<=1000000) (λs=> .bool (BV s))
def tW{s:Bs}(h:s.length<=1000000):aZx [.str s]=some (.bool (BV s)):=Bl (mk:=λs:Bs=>[.str s]) (λa b h=>Xl) h
def aUV:Kq aZx 258:=by
 obtain⟨S,v,w⟩:=A7 (Aa aGF Ad);have a:=w 98 _ rfl;clear w;refine Bo v (Ai func258:Fn Qu 258 7 aNq [.t 2]) (λ_=>U) (λs j=>?_);have f:F98 [.agg [.int .u8 3,.str s,.int .i64 0]]=some (.int .i64 (Cm 3 s 0)):=if_pos j;have y:Cm 3 s 0=if BV s=true then 0 else 2:=by simp[Cm]
 rw[y]at f;unfold aNq;cases hn:BV s<;>rw[hn]at f<;>simp only[if_true,QJ,if_false]at f
 ·simp only[↓C2,Iw,Ii,reduceIte,Qo,Qq,Ab a,f,Cd,DV,QO,and_self,QE,QI,QA,QK]
  all_goals exact Qj
 ·simp only[↓C2,Iw,Ii,reduceIte,Qo,Qq,Ab a,f,Cd,DV,QO,and_self,QE,QI,QA,QK]
  all_goals exact Qj
def countB(l:List Int):Bool:=decide (l.length<=6)&&!(l.any λx=>!decide (1<=x∧x<=999))
def aTe:List D->Option D:=FX (λp:Bool×List Int=>[.slice p.1 [] (AE p.2)]) (λp=>p.2.length<=1000000) (λp=> .bool (countB p.2))
def tV{nl:Bool}{l:List Int}(h:l.length<=1000000):aTe [.slice nl [] (AE l)]=some (.bool (countB l)):=
 Bl (mk:=λp:Bool×List Int=>[.slice p.1 [] (AE p.2)]) (a:=(nl,l)) (λa b h=>by
  simp only[Qw,D.slice.injEq,true_and,and_true]at h;exact Zy h.1 (Mn h.2)) h
def aDN{l:List Int}{nl:Bool}{t:Id}(w:l.length<=1000000)(m:Ig)(fr:Id):
  (iO 344 none zX).ex [.slice nl t (AE l),.fn 344 []] m fr=some (.bool (l.any λx=>!decide (1<=x∧x<=999)),[]):=by
 have e:(AE l).map (zX .junk)=(l.map λx=>!decide (1<=x∧x<=999)).map λb=>some (.bool b):=by
  simp only[AE,Zn];exact Q4 λr _=>rfl
 simp only[iO,Bb,w,aCE,and_self,if_true,GW,Qt,e,Ee,QS,ZJ];rfl
def aUU:Kq aTe 260:=by
 obtain⟨S,v,w⟩:=A7 (Aa aYR Ad);have d:=w 343 _ rfl;clear w;refine Bo v (Ai func260:Fn Qu 260 11 aNo [.t 2]) (λ_=>U) (λp j=>?_);obtain⟨nl,l⟩:=p;have a:=aDN (nl:=nl) (t:=[]) j;unfold aNo countB;simp only;generalize (l.any λx=>!decide (1<=x∧x<=999))=b at a;by_cases q:l.length<=6
 ·have c:((l.length:Int)<=6):=by omega
  simp only[↓C2,Ij,reduceIte,Qo,Qq,AN d,a,q,c,Bb]
  all_goals exact Qj
 ·have c:¬((l.length:Int)<=6):=by omega
  simp only[↓C2,Ij,reduceIte,Qo,Qq,q,c,Bb,Zu,and_self]
  all_goals exact Qj
def aKk:List D->Option D:=FX (λp:Bool×List D×Bool=>[.slice p.1 [] p.2.1,.slice p.2.2 [] []]) (λp=>p.2.1.length<=1000000) (λp=> .bool p.2.1.isEmpty)
def W6{nl nl':Bool}{l:List D}(h:l.length<=1000000):aKk [.slice nl [] l,.slice nl' [] []]=some (.bool l.isEmpty):=
 Bl (mk:=λp:Bool×List D×Bool=>[.slice p.1 [] p.2.1,.slice p.2.2 [] []]) (a:=(nl,l,nl')) (λa b h=>by
  simp only[Qw,D.slice.injEq,true_and,and_true]at h;exact Zy h.1.1 (Zy h.1.2 h.2)) h
def aUT:Kq aKk 261:=by
 refine Bo (S:=λ_=>none) AI (Ai func261:Fn Qu 261 26 aNn [.t 4]) (λ_=>U) (λp j=>?_);obtain⟨nl,l,nl'⟩:=p;unfold aNn;cases l with
 |nil=>
  simp only[↓C2,Ih,Ii,reduceIte,Qo,Qq,QQ];have a:((0:Int)<((0:Nat):Int))=False:=U
  refine Ae rR.eq_1 ?_;simp only[↓C2,Ij,reduceIte,Qo,Qq,a]
  all_goals exact Qj
 |cons x r=>
  have c:(((r.length+1:Nat):Int)=((0:Nat):Int))=False:=eq_false O;simp only[↓C2,Ij,reduceIte,Qo,Qq,QH,QQ,c]
  all_goals exact Qj
def aUw:Kq aKk 345:=by
 refine Bo (S:=λ_=>none) AI (Ai func345:Fn Qu 345 26 aMw [.t 4]) (λ_=>U) (λp j=>?_);obtain⟨nl,l,nl'⟩:=p;unfold aMw;cases l with
 |nil=>
  simp only[↓C2,Ih,Ii,reduceIte,Qo,Qq,QQ];have a:((0:Int)<((0:Nat):Int))=False:=U
  refine Ae rO.eq_1 ?_;simp only[↓C2,Ij,reduceIte,Qo,Qq,a]
  all_goals exact Qj
 |cons x r=>
  have c:(((r.length+1:Nat):Int)=((0:Nat):Int))=False:=eq_false O;simp only[↓C2,Ij,reduceIte,Qo,Qq,QH,QQ,c]
  all_goals exact Qj
structure LG (c0:Nat) (m0:Ig) (e:Nat) (m:Ig) (c:Nat) (nl:Bool) (t:Id):Prop where
 low:∀q o,q<c0->m [q] o=m0 [q] o
 tok:nl=true∨∃j,t=[j]∧c0<=j∧j<c∧m t 0=some (.tok (e+1))
 le:c0<=c
section
variable{c0 e c c' c2 o:Nat}{m0 m:Ig}{nl:Bool}{t:Id}{ds xs:List D}
def LG.start(h:c0<=c):LG c0 m0 e m0 c true t:=⟨λ_ _ _=>rfl,.inl rfl,h⟩
def LG.put(h:LG c0 m0 e m c nl t)(k:c<=c':=by omega):LG c0 m0 e (m.put [c'] o ds) c nl t:=by
 obtain⟨u,f,y⟩:=h;refine⟨λq o' s=>?_,?_,y⟩
 ·grind [aA]
 ·grind [aA]
def LG.more(h:LG c0 m0 e m c nl t)(k:c<=c'):LG c0 m0 e m c' nl t:=by
 obtain⟨u,h2,o⟩:=h;refine⟨u,?_,O⟩;rcases h2 with h2|⟨j,a,b,z,d⟩
 ·exact .inl h2
 ·grind
def LG.grow(h:LG c0 m0 e m c nl t):L8 m e (.slice nl t xs):=by
 rcases h.tok with h|⟨j,rfl,_,_,d⟩
 ·exact .inl h
 ·exact .inr ⟨d,U⟩
def LG.app(h:LG c0 m0 e m c nl t)(k:c<=c')(f:c'<c2):LG c0 m0 e (Ir.app m (Bm e [c'] (.slice nl t xs))) c2 false [c']:=by
 obtain⟨u,d,y⟩:=h;refine⟨λq o s=>?_,.inr ⟨c',rfl,O,f,?_⟩,O⟩
 ·grind [Du]
 ·rw[Du,if_pos ⟨rfl,rfl⟩]
def LG.appf(h:LG c0 m0 e m c false t)(k:c<=c')(q:c'<c2):LG c0 m0 e ((m.put t 0 [.tok 0]).put [c'] 0 [.tok (e+1)]) c2 false [c']:=LG.app (xs:=[]) h k q
def LG.nil(h:LG c0 m0 e m c nl t):LG c0 m0 e (Ir.app m []) c nl t:=h
def LG.rd(h:LG c0 m0 e m c nl t){q p n:Nat}(s:q<c0):Ah m [q] p n=Ah m0 [q] p n:=by
 have:∀n p,Ah m [q] p n=Ah m0 [q] p n:=by
  intro n;induction n with
  |zero=>intro p;rfl
  |succ n ih=>intro p;simp only[Ah,h.low q p s,ih]
 exact this n p
end
def Fu(l:List Rw):aE (AU l) 3=3:=Xq
def IK(l:List Int):(AE l).length=l.length:=QD ..
def aDT{m:Ig}{caps:List D}{k:IntKind}{n:Int}(h:GW m caps=some (.int k n)):∃i,caps=[.ptr i 0]∧m i 0=some (.int k n):=by
 unfold GW at h;split at h
 ·simp at h
 ·simp_all
 ·cases h
def zY:D->D->Option D
 | .int .i64 n,.agg [.int .i64 a,.bool _,.bool _]=>some (.bool (decide (a=n)))
 |_,_=>none
def aRn:(L3 zY).ok Qu 337:=by
 refine O1 (S:=λ_=>none) AI (Ai func337:Fn Qu 337 8 aMC [.t 3]) (λx caps m fr c d s g n w=>⟨O,?_⟩);unfold zY at g;split at g
 ·simp only[Qs]at g;subst g;obtain⟨i,rfl,z⟩:=aDT s;have hi:i≠0::fr:=by rintro rfl;have:=n 0 (0::fr) 0 (List.suffix_refl _);rw[z]at this;cases this
  unfold aMC;simp only[↓C2,Il,simprocAttr,z,hi];intro i o y h;split
  ·grind
  ·exact h
 ·cases g
def aXM:Fn Qu 336 19 (dcI 3 (some 3)) [.t 4]:=⟨f336,_,func336,rfl,Xa,rfl,Xa,Xa⟩
def aQ5:(GU 337 (some 3) zY).ok Qu 336:=OS O aXM rfl aRn
def Lx(l:List Rw)(n:Int):Int:=Bc (l.map λr=>decide (r.1=n))
def wL{l:List Rw}{nl:Bool}{t:Id}(w:l.length<=1000000){n:Int}(m:Ig)(fr i:Id)(z:m i 0=some (.int .i64 n)):
  (GU 337 (some 3) zY).ex [.slice nl t (AU l),.fn 337 [.ptr i 0]] m fr=some (.int .i64 (Lx l n),[]):=by
 have e:(AU l).map (zY (.int .i64 n))=(l.map λr=>decide (r.1=n)).map λb=>some (.bool b):=by
  simp only[AU,Zn];exact Q4 λr _=>rfl
 have j:(AU l).all (rJ (some 3))=true:=by
  rw[Zj];intro x p;obtain⟨r,_,rfl⟩:=Zc.1 p;rfl
 simp only[GU,As,w,j,and_self,if_true,GW,z,Qt,e,Ee,QS];rfl
def E8(s:Sc)(n:Int):Int:=if n=0 then(s.rs.length:Int)-1 else Lx s.rs n
def aY8:=AB [(336,GU 337 (some 3) zY)]
def aSM:=RF aY8 aNG [.t 4] 15
def aWW:Kq aSM 242:=Az (Ai func242) (Aa aQ5 Ad)
def aJe(s:Sc)(n:Int)(w:s.rs.length<=1000):aSM [.agg (Ik s),.int .i64 n]=some (.int .i64 (E8 s n)):=by
 refine Aq (Qn rfl) ?_;unfold aNG;have f:IntKind.i64.wrap ((s.rs.length:Int)-1)=(s.rs.length:Int)-1:=Iz O O;unfold E8 Ik;by_cases j:n=0
 ·simp only[↓C2,Il,simprocAttr,j,f,As]
  all_goals exact Qi
 ·simp only[↓C2,Il,simprocAttr,j,AR aY8 336,wL (n:=n) (show s.rs.length<=1000000 by omega)]
  all_goals exact Qi
def rw0:Rw:=(0,false,false)
def El(s:Sc)(n:Int):Rw×Int:=if BF s 6=true then(rw0,2)else if E8 s n<0 then(rw0,6)else
 if((s.rs.getD (E8 s n).toNat rw0).2.1||(s.rs.getD (E8 s n).toNat rw0).2.2)=true then(s.rs.getD (E8 s n).toNat rw0,21)else(s.rs.getD (E8 s n).toNat rw0,0)
def Ul(l:List Rw)(n:Int):Lx l n<l.length:=by
 unfold Lx Bc;split
 ·rename_i k h;rw[QX]at h;obtain⟨j,_⟩:=h;rw[QD]at j;omega
 ·omega
def aC5(s:Sc)(n:Int):E8 s n<s.rs.length:=by
 unfold E8;split
 ·omega
 ·exact Ul _ _
def WW:=AB [(191,Af MI),(241,Af Tg),(242,Af aSM)]
def Pe:=RF WW aOZ [.cell (some 3) 4,.t 5] 32
def aXr:Kq Pe 136:=Az (Ai func136) (Aa Sy (Aa aLM (Aa aWW Ad)))
def aJR(s:Sc)(n:Int)(w:s.rs.length<=1000):Pe [.agg (Ik s),.int .i64 n]=some (.tup [rwD (El s n).1,.int .i64 (El s n).2]):=by
 refine Aq (Qn rfl) ?_;unfold aOZ;have y:=H9 s 6 false w;have o:=sW;have b:=aJe s n w;have v:=aC5 s n;unfold El;unfold NQ at y;unfold Ik at y b ⊢;generalize E8 s n=i at b v;cases hb:BF s 6 with
 |true=>
  rw[hb]at y;simp only[if_true]at y;simp only[↓C2,Il,simprocAttr,Ac WW 191,y,Ac WW 241,o];refine Al ?_;simp only[↓C2,Il,simprocAttr]
  all_goals exact Qi
 |false=>
  rw[hb]at y;simp only[if_false,QJ]at y;simp only[↓C2,Il,simprocAttr,Ac WW 191,y,Ac WW 241,o];refine Al ?_;by_cases j:i<0
  ·simp only[↓C2,Il,simprocAttr,Ac WW 242,b,j]
   all_goals exact Qi
  ·have z:0<=i:=by omega
   have k:i.toNat<s.rs.length:=O
   have r:=C8 k;have hg:s.rs.getD i.toNat rw0=s.rs[i.toNat]:=by simp[Zs,Qr k]
   rw[hg];generalize s.rs[i.toNat]=x at r;obtain⟨a,g,d⟩:=x;simp only at r;cases g with
   |true=>
    simp only[↓C2,Il,simprocAttr,Ac WW 242,b,j,z,r]
    all_goals exact Qi
   |false=>
    cases d with
    |true=>
     simp only[↓C2,Il,simprocAttr,Ac WW 242,b,j,z,r]
     all_goals exact Qi
    |false=>
     simp only[↓C2,Il,simprocAttr,Ac WW 242,b,j,z,r]
     all_goals exact Qi
def Hl(s:Sc)(q:Int)(b:Bool)(cas size:Int):Int:=if BF s q=true∨cas< -1∨size<0 then 2 else if 96<size then 18 else if cas=-1∧(s.cas=true∨b=true)then 17 else if cas≠-1∧cas≠s.la then 16 else if s.la=30 then 19 else 0
def PP:=AB [(191,Af MI)]
def aSq:=RF PP aMB [.t 8] 49
def aWt:Kq aSq 338:=Az (Ai func338) (Aa Sy Ad)
def aIH(s:Sc)(q:Int)(b:Bool)(cas size:Int)(w:s.rs.length<=1000):aSq [.agg (Ik s),.agg [.int .i64 q,.bool b],.int .i64 cas,.int .i64 size]=some (.int .i64 (Hl s q b cas size)):=by
 refine Aq (Qn rfl) ?_;unfold aMB;have z:=H9 s q b w;unfold Hl;unfold NQ at z;unfold Ik at z ⊢;generalize BF s q=y at z;cases y with
 |true=>
  simp only[if_true]at z;simp only[↓C2,Il,simprocAttr,Ac PP 191,z,ne_eq]
  all_goals exact Qi
 |false=>
  simp only[if_false,QJ]at z;by_cases j:cas< -1
  ·simp only[↓C2,Il,simprocAttr,Ac PP 191,z,ne_eq,j]
   all_goals exact Qi
  by_cases c2:size<0
  ·simp only[↓C2,Il,simprocAttr,Ac PP 191,z,ne_eq,j,c2]
   all_goals exact Qi
  by_cases p:96<size
  ·simp only[↓C2,Il,simprocAttr,Ac PP 191,z,ne_eq,j,c2,p]
   all_goals exact Qi
  by_cases u:cas=-1
  ·have g:(cas=-1)=True:=eq_true u;cases h1:s.cas with
   |true=>
    rw[h1]at z;simp only[↓C2,Il,simprocAttr,Ac PP 191,z,ne_eq,j,c2,p,g]
    all_goals exact Qi
   |false=>
    rw[h1]at z;cases b with
    |true=>
     simp only[↓C2,Il,simprocAttr,Ac PP 191,z,ne_eq,j,c2,p,g]
     all_goals exact Qi
    |false=>
     by_cases m:s.la=30
     ·have e:(s.la=30)=True:=eq_true m;simp only[↓C2,Il,simprocAttr,Ac PP 191,z,ne_eq,j,c2,p,g,e]
      all_goals exact Qi
     ·have e:(s.la=30)=False:=eq_false m;simp only[↓C2,Il,simprocAttr,Ac PP 191,z,ne_eq,j,c2,p,g,e]
      all_goals exact Qi
  ·have g:(cas=-1)=False:=eq_false u;by_cases o:cas=s.la
   ·have i:(cas=s.la)=True:=eq_true o;by_cases m:s.la=30
    ·have e:(s.la=30)=True:=eq_true m;simp only[↓C2,Il,simprocAttr,Ac PP 191,z,ne_eq,j,c2,p,g,i,e]
     all_goals exact Qi
    ·have e:(s.la=30)=False:=eq_false m;simp only[↓C2,Il,simprocAttr,Ac PP 191,z,ne_eq,j,c2,p,g,i,e]
     all_goals exact Qi
   ·have i:(cas=s.la)=False:=eq_false o;simp only[↓C2,Il,simprocAttr,Ac PP 191,z,ne_eq,j,c2,p,g,i]
    all_goals exact Qi
def bA8:=AB []
def aSp:=RF bA8 fC [.t 2] 8
def aWs:Kq aSp 339:=Az aCZ Ad
def aIG{nl:Bool}{l:List Rw}(w:l.length<=100000)(f:nl=true->l=[]):aSp [.slice nl [] (AU l)]=some (.slice nl [] (AU l)):=by
 refine Aq (Qn rfl) ?_;unfold fC;cases nl with
 |true=>
  rw[f rfl];simp only[↓C2,Ih,IM,IU,simprocAttr]
  all_goals exact Qi
 |false=>
  simp only[↓C2,Ih,Ii,IU,simprocAttr];refine AF.intro ⟨Xo,Fu l,.inr ⟨rfl,U⟩⟩ ?_;simp only[↓C2,Il,simprocAttr]
def CM(s:Sc)(q:Int):Nat:=s.rs.length-(BE s q).toNat
def Nu(s:Sc)(q:Int):Sc:={s with rs:=s.rs.drop (CM s q)}
def Nv(s:Sc)(q:Int):List Int:=(s.rs.take (CM s q)).map (·.1)
def aRQ:=AB [(294,Af aIT),(339,Af aSp)]
def aJd:=RF aRQ aNB [.cell (some 4) 4,.t 5] 41
def aLK:Kq aJd 247:=Az (Ai func247) (Aa aLG (Aa aWs Ad))
def sU(s:Sc)(q:Int)(b:Bool)(w:s.rs.length<=1000)(hk:0<=BE s q∧BE s q<=1000)(ta:s.nl=true->s.rs=[]):aJd [.agg (Ik s),.agg [.int .i64 q,.bool b]]=some (.tup [.agg (Ik (Nu s q)),.slice (decide (CM s q=0)) [] (AE (Nv s q))]):=by
 refine Aq (Qn rfl) ?_;unfold aNB;have d:=sP s q b;have a:=aIG (nl:=s.nl) (l:=s.rs.drop (CM s q)) Xt (λh=>by rw[ta h,List.drop_nil]);have hw:IntKind.i64.wrap ((s.rs.length:Int)-BE s q)=(s.rs.length:Int)-BE s q:=Iz O O;have hm:max 0 ((s.rs.length:Int)-BE s q)=(CM s q:Int):=by unfold CM;omega
 have hn:CM s q<=s.rs.length:=by unfold CM;omega
 have ua:(0:Int)<=(CM s q:Int)∧(CM s q:Int)<=((s.rs.length:Nat):Int):=⟨O,O⟩;have na:(AU s.rs).take (CM s q)=AU (s.rs.take (CM s q)):=ZT.symm;have wa:(AU s.rs).drop (CM s q)=AU (s.rs.drop (CM s q)):=ZU.symm;have r:Nu s q={s with rs:=s.rs.drop (CM s q)}:=rfl;unfold Nv;rw[r];unfold Ik at d ⊢;generalize CM s q=n at *;generalize BE s q=kp at *;clear r;simp only[↓C2,Il,simprocAttr,Ac aRQ 294,d,As,hw,hm];refine Al ?_;simp only[↓C2,Il,simprocAttr,As,Fu,ua,Qp,na,QF,ZL,Nat.min_eq_left hn];refine AV (n:=n) (I:=λj z=>z.s 21= .slice s.nl [] (AU (s.rs.take n))∧z.s 22= .int .i64 (n:Int)∧z.s 23= .int .i64 (j:Int)∧z.s 2= .ptr [0] 0∧z.s 4= .ptr [2] 0∧z.s 6= .int .i64 (n:Int)∧∃nl t,z.s 7= .slice nl t (AE (((s.rs.take n).take j).map (·.1)))∧nl=decide (j=0)∧LG 4 _ 3 z.m z.c nl t) (λj y ih z g hI=>?_) (λz g hI=>?_) 0 (Qy _) _ _ ⟨(by show D.slice _ _ (Zm n (Zg 0 (AU s.rs)))=_;rw[QA,na]),rfl,rfl,rfl,rfl,rfl,true,[],rfl,rfl,LG.start Xb⟩
 ·obtain⟨ja,da,fa⟩:=z;obtain⟨p,e,o,h2,h4,h6,nl,t,h7,f,hG⟩:=hI;simp only at p e o h2 h4 h6 h7 hG;refine Ae Wn.eq_1 ?_;have v:((j:Int)<n):=by omega
  have qa:=nJ (j:=j);have hw:=wJ (j:=j) O;have ka:(s.rs.take n).length=n:=Xg
  generalize s.rs.take n=l at *;have ga:=C8 (l:=l) (j:=j) O;have na:AE ((l.take (j+1)).map (·.1))=AE ((l.take j).map (·.1))++[.int .i64 (l[j]' O).1]:=by
   rw[Za O,Zd];simp[AE]
  have ma:(AE ((l.take j).map (·.1))).length=j:=by simp[AE];omega
  have ca:nl=true->AE ((l.take j).map (·.1))=[]:=by
   grind
  generalize AE ((l.take j).map (·.1))=ha at h7 na ma ca;generalize l[j]' O=x at ga na;simp only[↓C2,Il,simprocAttr,p,e,o,h7,v,qa,Qp,ga];refine AF.intro ⟨O,rfl,Xw⟩ ?_;rw[BN ca,←na];simp only[↓C2,Ih,simprocAttr,o,hw];exact ih _ _ ⟨p,e,rfl,h2,h4,h6,false,_,rfl,U,Qg⟩
 ·obtain⟨ja,da,fa⟩:=z;obtain⟨p,e,o,h2,h4,h6,nl,t,h7,f,hG⟩:=hI;simp only at p e o h2 h4 h6 h7 hG;refine Ae Wn.eq_1 ?_;have m0:∀k,da [0] k=_:=λk=>hG.low 0 k O
  have m2:∀k,da [2] k=_:=λk=>hG.low 2 k O
  have oa:(AU s.rs).take s.rs.length=AU s.rs:=QW Xo;have i:(AU (s.rs.drop n)).take (s.rs.length-n)=AU (s.rs.drop n):=QW (by rw[As,Zx];omega);have u:(s.rs.take n).take n=s.rs.take n:=QW Xg;rw[u]at h7;simp only[↓C2,Il,simprocAttr,e,o,h2,h4,h6,h7,QN,m0,m2,As,Fu,ua,Qp,i,wa,Ac aRQ 339,a];subst f
  all_goals exact Qi
def clQ:IS where
 rd:=λ_ _=>[]
 ex:=λds _ fr=>match ds with
  |[.slice nl _ xs]=>if xs.length<=100000∧(nl=true->xs=[])∧aE xs 3=3 then(if nl=true then some (.slice true [] [],[])else some (.slice false (5::fr) xs,[(5::fr,0,[.tok 229])]))else none
  |_=>none
theorem fI{nl:Bool}{t:Id}{xs:List D}{m:Ig}{fr:Id}(u:xs.length<=100000)(q:nl=true->xs=[])(o:aE xs 3=3)(S:Ic){R:D->Ig->Prop}(s:if nl=true then R (.slice true [] []) m else R (.slice false (5::fr) xs) (((m.put (3::fr) 0 [.tok 229]).put (3::fr) 0 [.tok 0]).put (5::fr) 0 [.tok 229])):fC.wp S fr (Ew [.t 2] R) ⟨BR [.slice nl t xs],m,0⟩:=by
 unfold fC;cases nl with
 |true=>
  simp only[↓C2,Ih,IU,reduceIte,Qo,Qq,reduceCtorEq];simpa using s
 |false=>
  simp only[↓C2,Ih,Ii,IU,reduceIte,Qo,Qq,reduceCtorEq];refine AF.intro ⟨O,o,.inr ⟨BK ..▸by simp,U⟩⟩ ?_;simp only[↓C2,Ih,Ii,IU,reduceIte,Qo,Qq];simp only[QJ,if_false]at s;exact s
def aQn:clQ.ok Qu 339:=by
 refine Gy (S:=λ_=>none) AI aCZ (λds m m' fr _=>rfl) (λds m fr r u y n=>?_);simp only[clQ]at y;split at y
 ·rename_i nl t xs;split at y
  ·rename_i k;obtain⟨q,f,l⟩:=k;refine⟨U,fI q f l _ ?_⟩;cases nl with
   |true=>
    simp only[if_true,Qs,QY]at y ⊢;obtain⟨rfl,rfl⟩:=y;exact⟨rfl,λ_ _ _ h=>h⟩
   |false=>
    simp only[QJ,if_false,Qs,QY]at y ⊢;obtain⟨rfl,rfl⟩:=y;refine⟨rfl,λi o x h=>?_⟩;have b:(m.put (5::fr) 0 [.tok 229]) i o=some x:=h;rw[BK]at b ⊢;split at b
    ·simp_all
    ·grind [BK]
  ·cases y
 ·cases y
def aRr{nl:Bool}{t:Id}{l:List Rw}{m:Ig}{fr:Id}(u:l.length<=1000)(q:nl=true->l=[]):clQ.ex [.slice nl t (AU l)] m fr=if nl=true then some (.slice true [] [],[])else some (.slice false (5::fr) (AU l),[(5::fr,0,[.tok 229])]):=
 if_pos ⟨Xo,λh=>by rw[q h];rfl,Fu l⟩
def Hz{s:Sc}{q:Int}(h:BF s q=false):(1<=q∧q<=6)∧(0<=s.mx∧s.mx<=6)∧(0<=s.la∧s.la<=30)∧(s.rs.length:Int)<=BE s q∧FO s.rs 0=true∧Li s.rs=s.la:=by
 simpa[BF]using h
def aBj{s:Sc}{q:Int}{b:Bool}{cas size:Int}(h:Hl s q b cas size=0):BF s q=false:=by
 grind [Hl,BF]
def N6{s:Sc}{q:Int}(u:1<=q∧q<=6)(f:0<=s.mx∧s.mx<=6):0<=BE s q∧BE s q<=1000:=by
 grind [BE]
def Dd(s:Sc):Sc:={s with la:=s.la+1,nl:=false,rs:=s.rs++[(s.la+1,false,false)]}
def Cr(s:Sc)(q:Int)(b:Bool)(cas size:Int):Sc×Int×List Int×Int:=if Hl s q b cas size≠0 then(s,0,[],Hl s q b cas size)else(Nu (Dd s) q,s.la+1,Nv (Dd s) q,0)
def Of{s:Sc}{q:Int}:(Nv s q=[])=(CM s q=0):=by
 simp_all [Nv,CM]
def gV:=AB [(338,Af aSq),(247,Af aJd),(339,clQ)]
def aSL:=RF gV aNF [.cell (some 4) 8,.t 9,.t 10,.t 11] 47
def aWV:Kq aSL 243:=Az (Ai func243) (Aa aWt (Aa aLK (Aa aQn Ad)))
def sV(s:Sc)(q:Int)(b:Bool)(cas size:Int)(w:s.rs.length<=900)(ta:s.nl=true->s.rs=[]):aSL [.agg (Ik s),.agg [.int .i64 q,.bool b],.int .i64 cas,.int .i64 size]=some (.tup [.agg (Ik (Cr s q b cas size).1),.int .i64 (Cr s q b cas size).2.1,.slice (decide ((Cr s q b cas size).2.2.1=[])) [] (AE (Cr s q b cas size).2.2.1),.int .i64 (Cr s q b cas size).2.2.2]):=by
 refine Aq (Qn rfl) ?_;unfold aNF;have c:=aIH s q b cas size O;have a:=λ(m:Ig)(fr:Id)=>aRr (nl:=s.nl) (t:=[]) (l:=s.rs) (m:=m) (fr:=fr) O ta
 unfold Cr;by_cases x:Hl s q b cas size=0
 ·obtain⟨z,k,i,_⟩:=Hz (aBj x);have j:BE (Dd s) q=BE s q:=rfl;have d:=sU (Dd s) q b (by simp[Dd];omega) (by rw[j];exact N6 z k) (by simp[Dd]);have hw:IntKind.i64.wrap (s.la+1)=s.la+1:=Iz O O;have g:(Nu (Dd s) q).la=s.la+1:=rfl;have f:=Of (s:=Dd s) (q:=q);rw[x]at c;rw[x];simp only[ne_eq,not_true_eq_false,if_false,f];generalize decide (CM (Dd s) q=0)=ca at d ⊢;generalize Nv (Dd s) q=l2 at *;generalize Nu (Dd s) q=s2 at *;have h:AU (s.rs++[(s.la+1,false,false)])=AU s.rs++[.agg [.int .i64 (s.la+1),.bool false,.bool false]]:=by simp[AU,rwD]
  unfold Dd Ik at d;simp only[h]at d;unfold Ik at c ⊢;rw[g]at d;clear j;have n:(AU s.rs).length=s.rs.length:=As _;cases hn:s.nl with
  |true=>
   rw[hn]at c a;rw[ta hn]at c d a n ⊢;simp only[if_true]at a;have u:AU []=[]:=rfl;rw[u]at c d a n ⊢;rw[QV]at d;simp only[↓C2,Il,simprocAttr,Ac gV 338,c,AR gV 339,a,hw];refine AF.intro ⟨by first|rfl|simp|decide|omega,.inl rfl⟩ ?_;simp only[↓C2,Il,simprocAttr];refine Al ?_;simp only[↓C2,Il,simprocAttr,Ac gV 247,d];refine Al ?_;simp only[↓C2,Il,reduceIte,Qo,Qq,QM,QO,ZE,g]
   all_goals exact Qi
  |false=>
   rw[hn]at c a;simp only[if_false,QJ]at a;simp only[↓C2,Il,simprocAttr,Ac gV 338,c,AR gV 339,a,hw];refine AF.intro ⟨by simp only[n];omega,rfl,.inr ⟨Xh,U⟩⟩ ?_;simp only[↓C2,Il,simprocAttr];refine Al ?_;simp only[↓C2,Il,simprocAttr,Ac gV 247,d];refine Al ?_;simp only[↓C2,Il,simprocAttr,g]
   all_goals exact Qi
 ·have o:(Hl s q b cas size=0)=False:=eq_false x;unfold Ik at c ⊢;simp only[ne_eq,o,not_false_eq_true,if_true];generalize Hl s q b cas size=e at *;simp only[↓C2,Il,reduceIte,Qo,Qq,QM,reduceCtorEq,Ac gV 338,c,o]
  all_goals exact Qi
def CO(s:Sc)(q:Int)(v:Int)(cas:Bool):Sc×List Int×Int:=if BF s q=true∨¬(0<=v∧v<=6)then(s,[],2)else(Nu {s with mx:=v,cas:=cas} q,Nv {s with mx:=v,cas:=cas} q,0)
def nX:=AB [(246,Af iH),(191,Af MI),(247,Af aJd)]
def aJQ:=RF nX aOX [.cell (some 4) 8,.t 9,.t 10] 35
def aXq:Kq aJQ 139:=Az (Ai func139) (Aa aBI (Aa Sy (Aa aLK Ad)))
def aJP(s:Sc)(q:Int)(b:Bool)(v:Int)(cas:Bool)(w:s.rs.length<=1000)(ta:s.nl=true->s.rs=[]):aJQ [.agg (Ik s),.agg [.int .i64 q,.bool b],.int .i64 v,.bool cas]=some (.tup [.agg (Ik (CO s q v cas).1),.slice (decide ((CO s q v cas).2.1=[])) [] (AE (CO s q v cas).2.1),.int .i64 (CO s q v cas).2.2]):=by
 refine Aq (Qn rfl) ?_;unfold aOX;have y:=H9 s q b w;have c:∀x a b:Int,iH [.int .i64 x,.int .i64 a,.int .i64 b]=some (.bool (decide (a<=x∧x<=b))):=λ_ _ _=>rfl
 unfold CO;unfold NQ at y;cases hb:BF s q with
 |true=>
  rw[hb]at y;simp only[if_true]at y;unfold Ik at y ⊢;simp only[↓C2,Il,reduceIte,Qo,Qq,QM,reduceCtorEq,Int.reduceEq,Ac nX 191,y,true_or,if_true]
  all_goals exact Qi
 |false=>
  rw[hb]at y;simp only[if_false,QJ]at y;by_cases j:0<=v∧v<=6
  ·obtain⟨o,m,i,_⟩:=Hz hb;have d:=sU {s with mx:=v,cas:=cas} q b w (N6 o j) ta;have f:=Of (s:={s with mx:=v,cas:=cas}) (q:=q);simp only[j,and_self,not_true_eq_false,or_self,if_false,QJ,f];generalize decide (CM {s with mx:=v,cas:=cas} q=0)=ca at d ⊢;generalize Nv {s with mx:=v,cas:=cas} q=l2 at *;generalize Nu {s with mx:=v,cas:=cas} q=l at *;unfold Ik at y d ⊢;simp only[↓C2,Il,simprocAttr,Ac nX 191,y,Ac nX 246,c,Ac nX 247,d,j]
   all_goals exact Qi
  ·unfold Ik at y ⊢;simp only[↓C2,Il,reduceIte,Qo,Qq,QM,reduceCtorEq,Ac nX 191,y,Ac nX 246,c,j,or_true,if_true]
   all_goals exact Qi
def aRb{α:Type}{mk:α->List D}{ok:α->Prop}{res:α->D}{P:Program}{S:Ic}{f:FuncId}{N:Nat}{p:DC}{rs:List RV}(v:Ic.ok P S)(k:Fn P f N p rs)(b:∀a,(mk a).length<=N)
  (g:∀a,ok a->(res a).calmR=true∧p.wp S [] (Ew rs λd m'=>aYW m' d (res a)) ⟨BR (mk a),λ_ _=>none,0⟩):(Af (FX mk ok res)).ok P f:=by
 refine rF v k (λds r h=>?_) (λds r h=>?_)
 ·obtain⟨a,_,rfl,_⟩:=C6 h;exact b a
 ·obtain⟨a,q,rfl,rfl⟩:=C6 h;exact g a q
def wX{l:List Int}{n:Int}{j:Nat}(y:j<l.length)(p:n=l[j])(c:∀i (h:i<j),n≠l[i]'(by omega)):Bc (l.map λx=>decide (n=x))=j:=by
 unfold Bc;have:(l.map λx=>decide (n=x)).findIdx? id=some j:=by
  rw[QX];refine⟨X0,Xz,λi hi=>?_⟩;have:=c i hi;simpa using this
 rw[this]
def wW{l:List Int}{n:Int}(c:∀i (h:i<l.length),n≠l[i]):Bc (l.map λx=>decide (n=x))=-1:=by
 unfold Bc;have:(l.map λx=>decide (n=x)).findIdx? id=none:=by
  rw[Zw];intro b j;obtain⟨x,p,rfl⟩:=Zc.1 j;obtain⟨i,hi,rfl⟩:=Zl p;simpa using c i hi
 rw[this]
def Mo{l:List Int}{j:Nat}(h:j<l.length):(AE l)[j]?=some (.int .i64 l[j]):=by simp[AE,Qr h]
def Tu(l:List Int)(n:Int):Bool:=l.any λx=>decide (n=x)
def lK(l:List Int)(n:Int):decide (0<=Bc (l.map λx=>decide (n=x)))=Tu l n:=by
 rw[F8,ZJ];rfl
def bA1:=AB []
def aSh:=RF bA1 aMe [.t 4] 19
def aWi:Kq aSh 387:=Az (Ai func387) Ad
def aIw{nl:Bool}{l:List Int}(n:Int)(w:l.length<=1000):aSh [.slice nl [] (AE l),.int .i64 n]=some (.int .i64 (Bc (l.map λx=>decide (n=x)))):=by
 refine Aq (Qn rfl) ?_;unfold aMe;simp only[↓C2,Ih,simprocAttr,IK];refine AV (n:=l.length) (I:=λj z=>z.s 0= .slice nl [] (AE l)∧z.s 1= .int .i64 n∧z.s 7= .int .i64 l.length∧z.s 8= .int .i64 (j:Int)∧∀i (h:i<j) (q:i<l.length),n≠l[i]) (λj y ih z g m=>?_) (λz g m=>?_) 0 (Qy _) _ _ ⟨rfl,rfl,rfl,rfl,λi h=>absurd h (Ze _)⟩
 ·obtain⟨ja,f,o⟩:=z;obtain⟨r,u,k,t,c⟩:=m;simp only at r u k t;refine Ae V7.eq_1 ?_;have v:((j:Int)<l.length):=by omega
  have a:=nJ (j:=j);have hw:=wJ (j:=j) O;have d:=Mo y;by_cases p:n=l[j]
  ·have e:=wX y p (λi h=>c i h O);have b:(n=l[j])=True:=eq_true p;simp only[↓C2,Il,simprocAttr,r,u,k,t,v,a,Qp,d,b];rw[e]
   all_goals exact Qi
  ·have b:(n=l[j])=False:=eq_false p;simp only[↓C2,Il,simprocAttr,r,u,k,t,v,a,Qp,d,b,hw];refine ih _ _ ⟨r,u,k,rfl,λi h q=>?_⟩;rcases Q2 (Q3 h)with h|rfl
   ·exact c i h q
   ·exact p
 ·obtain⟨r,u,k,t,c⟩:=m;refine Ae V7.eq_1 ?_;have e:=wW (λi h=>c i h h);simp only[↓C2,Il,simprocAttr,k,t,QN];rw[e]
  all_goals exact Qi
def aYX:=AB [(387,Af aSh)]
def TH:=RF aYX aMz [.t 4] 9
def aWq:Kq TH 341:=Az (Ai func341) (Aa aWi Ad)
def aIE{nl:Bool}{l:List Int}(n:Int)(w:l.length<=1000):TH [.slice nl [] (AE l),.int .i64 n]=some (.bool (Tu l n)):=by
 refine Aq (Qn rfl) ?_;unfold aMz;have a:=aIw (nl:=nl) n w;have e:=lK l n;generalize Bc (l.map λx=>decide (n=x))=i at *;simp only[↓C2,Il,simprocAttr,Ac aYX 387,a];rw[←e]
 all_goals exact Qi
def bBn:=AB []
def TK:=RF bBn aNy [.cell (some 3) 2] 6
def aWU:Kq TK 250:=Az (Ai func250) Ad
def aJc(r:Rw):TK [.agg [.int .i64 r.1,.bool r.2.1,.bool r.2.2]]=some (.agg [.int .i64 r.1,.bool true,.bool false]):=by
 refine Aq (Qn rfl) ?_;unfold aNy;simp only[↓C2,Il,simprocAttr]
 all_goals exact Qi
def bBm:=AB []
def TJ:=RF bBm aNx [.cell (some 3) 2] 6
def aWT:Kq TJ 251:=Az (Ai func251) Ad
def aJb(r:Rw):TJ [.agg [.int .i64 r.1,.bool r.2.1,.bool r.2.2]]=some (.agg [.int .i64 r.1,.bool false,.bool false]):=by
 refine Aq (Qn rfl) ?_;unfold aNx;simp only[↓C2,Il,simprocAttr]
 all_goals exact Qi
def bBl:=AB []
def TI:=RF bBl aNw [.cell (some 3) 2] 6
def aWS:Kq TI 252:=Az (Ai func252) Ad
def aJa(r:Rw):TI [.agg [.int .i64 r.1,.bool r.2.1,.bool r.2.2]]=some (.agg [.int .i64 r.1,.bool false,.bool true]):=by
 refine Aq (Qn rfl) ?_;unfold aNw;simp only[↓C2,Il,simprocAttr]
 all_goals exact Qi
def chR(k:Nat)(r:Rw):Rw:=if k=250 then(r.1,true,false)else if k=251 then(r.1,false,false)else(r.1,false,true)
def Hq(ns:List Int)(n j:Nat)(x:Rw):Bool:=(Tu ns x.1||(ns.isEmpty&&decide (j+1=n)))&&!x.2.2
def Ei(ns:List Int)(k n:Nat):Nat->List Rw->List Rw
 |_,[]=>[]
 |j,x::r=>(if Hq ns n j x=true then chR k x else x)::Ei ns k n (j+1) r
def CV(ns:List Int)(n:Nat):Nat->List Rw->List Int
 |_,[]=>[]
 |j,x::r=>if Hq ns n j x=true then x.1::CV ns n (j+1) r else CV ns n (j+1) r
theorem Mf(ns:List Int)(k n:Nat):∀(l:List Rw)(j:Nat),(Ei ns k n j l).length=l.length
 |[],_=>rfl
 |x::r,j=>by simp[Ei,Mf ns k n r]
def Be(s:Sc)(ns:List Int)(k:Nat):Sc×List Int×Int:=if BF s 6=true then(s,[],2)else if s.rs=[]then(s,[],6)else({s with rs:=Ei ns k s.rs.length 0 s.rs},CV ns s.rs.length 0 s.rs,0)
def kK(p:Sc×Bool×List Int×Nat):List D:=[.agg (Ik p.1),.slice p.2.1 [] (AE p.2.2.1),.fn p.2.2.2 []]
def aA3{a b:List Rw}(h:AU a=AU b):a=b:=(Zt (λx y e=>by
 simp only[rwD,D.agg.injEq,Qw,D.int.injEq,D.bool.injEq,true_and,and_true]at e;exact Zy e.1 (Zy e.2.1 e.2.2))).1 h
theorem Vi{a b:Sc}(h:Ik a=Ik b):a=b:=by
 cases a;cases b;simp only[Ik,Qw,D.int.injEq,D.bool.injEq,D.slice.injEq,true_and,and_true]at h;obtain⟨u,q,o,n,m⟩:=h;have:=aA3 m;subst u q o n this;rfl
theorem SD{a b:List Int}(h:AE a=AE b):a=b:=(Zt (λx y e=>by simpa using e)).1 h
def aB2(x y:Sc×Bool×List Int×Nat)(e:kK x=kK y):x=y:=by
 grind [kK,Vi,SD]
def Ui(p:Sc×Bool×List Int×Nat):D:= .tup [.agg (Ik (Be p.1 p.2.2.1 p.2.2.2).1),.slice (decide ((Be p.1 p.2.2.1 p.2.2.2).2.1=[])) [] (AE (Be p.1 p.2.2.1 p.2.2.2).2.1),.int .i64 (Be p.1 p.2.2.1 p.2.2.2).2.2]
structure aYV (p:Sc×Bool×List Int×Nat):Prop where
 hl:p.1.rs.length<=1000
 hn:p.1.nl=true->p.1.rs=[]
 hs:p.2.2.1.length<=1000
 hk:p.2.2.2=250∨p.2.2.2=251∨p.2.2.2=252
def aFg:List D->Option D:=FX kK aYV Ui
def OW:List D->Option (List D):=λds=>match ds with|[.slice false _ xs]=>if xs.length<=100000∧aE xs 3=3∧(flat xs).all D.plain=true then some xs else none|_=>none
def aQh:(LA OW).ok Qu 339:=by
 unfold OW;refine aBv (S:=λ_=>none) AI aCZ (λds r h=>?_) (λds xs h=>?_)
 ·grind
 ·grind [fI,Ig.put]
def Ub(l:List Rw):(flat (AU l)).all D.plain=true:=by
 rw[Zj];induction l with
 |nil=>intro x p;cases p
 |cons y r ih=>
  intro x p;have b:x∈[D.int .i64 y.1,.bool y.2.1,.bool y.2.2]++flat (AU r):=p;rcases List.mem_append.1 b with h|h
  ·simp only[ZF,ZA,or_false]at h;rcases h with rfl|rfl|rfl<;>rfl
  ·exact ih x h
def aQg{l:List Rw}{t:Id}{m:Ig}{fr:Id}(h:l.length<=1000):(LA OW).ex [.slice false t (AU l)] m fr=some (.row fr l.length,[(fr,0,flat (AU l))]):=by
 have e:OW [.slice false [] ((AU l).map D.un)]=some (AU l):=by
  have:(AU l).map D.un=AU l:=by rw[AU,Zn];exact Q4 λ_ _=>rfl
  rw[this];exact if_pos ⟨Xo,Fu l,Ub l⟩
 have e2:OW ([D.slice false t (AU l)].map D.un)=some (AU l):=if_pos ⟨Xo,Fu l,Ub l⟩;simp only[LA];refine(if_pos rfl).trans ?_;rw[e2,QS,As]
def Hb(m:Ig)(i:Id)(l:List Rw):Prop:=∀k x,l[k]?=some x->Ah m i (k*3) 3=some [.int .i64 x.1,.bool x.2.1,.bool x.2.2]
def Tp{m:Ig}{i:Id}{o:Nat}{a b c:D}:Ah m i o 3=some [a,b,c]↔(m i o=some a∧m i (o+1)=some b∧m i (o+2)=some c):=by
 simp only[Ah];cases m i o<;>cases m i (o+1)<;>cases m i (o+1+1)<;>simp
def bC{m:Ig}{i:Id}:∀{l:List Rw} {p:Nat},(∀k x,l[k]?=some x->Ah m i (p+k*3) 3=some [.int .i64 x.1,.bool x.2.1,.bool x.2.2])->∀(j:Nat) d,(flat (AU l))[j]?=some d->m i (p+j)=some d
 |[],p,_,j,d,h=>by simp[AU,Vd.flat]at h
 |x::r,p,hr,j,d,h=>by
  have b:([D.int .i64 x.1,.bool x.2.1,.bool x.2.2]++Vd.flat (AU r))[j]?=some d:=h;obtain⟨w,t,q⟩:=Tp.1 (hr 0 x rfl);simp only[Nat.zero_mul,Zr]at w t q
  match j,b with
  |0,b=>simp only[Zk,Qv,Qs]at b;subst b;exact w
  |1,b=>simp only[Zk,QL,Qv,Qs]at b;subst b;exact t
  |2,b=>simp only[Zk,QL,Qv,Qs]at b;subst b;exact q
  |j+3,b=>
   have:=bC (p:=p+3) (l:=r) (λk y g=>by
    have:=hr (k+1) y XS;rw[show p+(k+1)*3=p+3+k*3 by omega]at this;exact this) j d XT
   rw[show p+3+j=p+(j+3)by omega]at this;exact this
def Hb.of{m:Ig}{i:Id}:∀{l:List Rw} {p:Nat},(∀(j:Nat) d,(flat (AU l))[j]?=some d->m i (p+j)=some d)->∀k x,l[k]?=some x->Ah m i (p+k*3) 3=some [.int .i64 x.1,.bool x.2.1,.bool x.2.2]
 |[],p,_,k,x,h=>Xe
 |y::r,p,hr,k,x,h=>by
  match k,h with
  |0,h=>
   simp only[Qv,Qs]at h;subst h;exact Tp.2 ⟨by simpa using hr 0 _ rfl,by simpa using hr 1 _ rfl,by simpa using hr 2 _ rfl⟩
  |k+1,h=>
   have:=Hb.of (p:=p+3) (l:=r) (λj d s=>by
    have:=hr (j+3) d s;rw[show p+(j+3)=p+3+j by omega]at this;exact this) k x Xl
   rw[show p+3+k*3=p+(k+1)*3 by omega]at this;exact this
def Hb.set{m:Ig}{i:Id}{A B:List Rw}{x y:Rw}(h:Hb m i (A++x::B)):Hb (m.put i (A.length*3) [.int .i64 y.1,.bool y.2.1,.bool y.2.2]) i (A++y::B):=by
 intro k z p;by_cases j:k=A.length
 ·subst j;rw[Q_ (Q7 _),ZK,Qv,Qs]at p;subst p;refine Tp.2 ⟨?_,?_,?_⟩<;>simp[Ig.put]
 ·have pa:(A++x::B)[k]?=some z:=by
   rcases Nat.lt_or_gt_of_ne j with h1|h1
   ·grind
   ·grind
  obtain⟨b,t,q⟩:=Tp.1 (h k z pa);have r:∀o,(o=k*3∨o=k*3+1∨o=k*3+2)->(m.put i (A.length*3) [.int .i64 y.1,.bool y.2.1,.bool y.2.2]) i o=m i o:=λo r=>by
   refine aC ?_;simp only[QH,QQ];omega
  exact Tp.2 ⟨by rw[r _ (.inl rfl)];exact b,by rw[r _ (.inr (.inl rfl))];exact t,by rw[r _ (.inr (.inr rfl))];exact q⟩
def Hb.other{m:Ig}{i j:Id}{o:Nat}{ds:List D}{l:List Rw}(h:Hb m i l)(c:i≠j):Hb (m.put j o ds) i l:=λk x g=>by
 obtain⟨b,t,q⟩:=Tp.1 (h k x g);exact Tp.2 ⟨by rw[aA c];exact b,by rw[aA c];exact t,by rw[aA c];exact q⟩
def Hb.grow{m:Ig}{i f t:Id}{e:Nat}{nl:Bool}{xs:List D}{l:List Rw}(h:Hb m i l)(u:i≠f)(q:nl=false->i≠t):Hb (Ir.app m (Bm e f (.slice nl t xs))) i l:=by
 cases nl with
 |true=>exact h.other u
 |false=>exact(h.other (q rfl)).other u
def LG.row{l e c r o:Nat}{m0 m:Ig}{nl:Bool}{t:Id}{ds:List D}(h:LG l m0 e m c nl t)(v:l<=r)(d:nl=false->t≠[r]):LG l m0 e (m.put [r] o ds) c nl t:=by
 obtain⟨u,f,y⟩:=h;refine⟨λq o' s=>?_,?_,y⟩
 ·grind [aA]
 ·grind [aA]
def jP{m:Ig}{i:Id}{o:Nat}{a b c:D}(h:Ah m i o 3=some [a,b,c]):m i o=some a∧m i (o+1)=some b∧m i (o+1+1)=some c:=Tp.1 h
def aP7{i:Id}{n:Nat}:D.data (.row i n)=true:=rfl
def aP8{i:Id}{n:Nat}:D.cells (.row i n)=[.row i n]:=rfl
def aBG:Kq aFg 249:=by
 have hS:Ic.ok Qu (AB [(191,Af MI),(241,Af Tg),(339,LA OW),(341,Af TH),(250,Af TK),(251,Af TJ),(252,Af TI)]):=Aa Sy (Aa aLM (Aa aQh (Aa aWq (Aa aWU (Aa aWT (Aa aWS Ad))))));have f:AB [(191,Af MI),(241,Af Tg),(339,LA OW),(341,Af TH),(250,Af TK),(251,Af TJ),(252,Af TI)] 191=some (Af MI):=rfl;have q:AB [(191,Af MI),(241,Af Tg),(339,LA OW),(341,Af TH),(250,Af TK),(251,Af TJ),(252,Af TI)] 241=some (Af Tg):=rfl;have ea:AB [(191,Af MI),(241,Af Tg),(339,LA OW),(341,Af TH),(250,Af TK),(251,Af TJ),(252,Af TI)] 339=some (LA OW):=rfl;have b:AB [(191,Af MI),(241,Af Tg),(339,LA OW),(341,Af TH),(250,Af TK),(251,Af TJ),(252,Af TI)] 341=some (Af TH):=rfl;have sk:∀k,k=250∨k=251∨k=252->∃F,AB [(191,Af MI),(241,Af Tg),(339,LA OW),(341,Af TH),(250,Af TK),(251,Af TJ),(252,Af TI)] k=some (Af F)∧∀x:Rw,F [.agg [.int .i64 x.1,.bool x.2.1,.bool x.2.2]]=some (.agg [.int .i64 (chR k x).1,.bool (chR k x).2.1,.bool (chR k x).2.2]):=λk hk=>by
  rcases hk with rfl|rfl|rfl
  ·exact⟨TK,rfl,aJc⟩
  ·exact⟨TJ,rfl,aJb⟩
  ·exact⟨TI,rfl,aJa⟩
 generalize AB [(191,Af MI),(241,Af Tg),(339,LA OW),(341,Af TH),(250,Af TK),(251,Af TJ),(252,Af TI)]=S at hS f q ea b sk;refine aRb hS (Ai func249:Fn Qu 249 72 aNz [.cell (some 4) 6,.t 7,.t 8]) (λ_=>by simp[kK]) (λp hp=>⟨by rfl,?_⟩);obtain⟨s,bn,ns,k⟩:=p;obtain⟨hl,hn,hs,hk⟩:=hp;simp only at hl hn hs hk;obtain⟨F,sF,hF⟩:=sk k hk;have ba:=H9 s 6 false hl;have o:=sW;unfold aNz kK Ui Be;simp only;unfold NQ at ba;cases hb:BF s 6 with
 |true=>
  rw[hb]at ba;simp only[if_true]at ba ⊢;unfold Ik at ba ⊢;simp only[↓C2,Il,simprocAttr,Ab f,ba,Ab q,o];refine Al ?_;simp only[↓C2,Il,simprocAttr];exact .inr ⟨_,_,rfl,rfl,.inl (.inl rfl),.inl (.inl rfl),.inl (.inl rfl),trivial⟩
 |false=>
  rw[hb]at ba;simp only[if_false,QJ]at ba ⊢;by_cases hz:s.rs=[]
  ·have pa:((s.rs.length:Int)=0)=True:=eq_true (by rw[hz];rfl);simp only[if_pos hz];unfold Ik at ba ⊢;simp only[↓C2,Il,simprocAttr,Ab f,ba,Ab q,o];refine Al ?_;simp only[↓C2,Il,simprocAttr,As,pa];exact .inr ⟨_,_,rfl,rfl,.inl (.inl rfl),.inl (.inl rfl),.inl (.inl rfl),trivial⟩
  ·have na:0<s.rs.length:=by
    rcases Nat.eq_zero_or_pos s.rs.length with h|h
    ·simp_all
    ·exact h
   have pa:((s.rs.length:Int)=0)=False:=eq_false O;have ka:s.nl=false:=by
    simp_all
   have ia:=λ(m:Ig)(fr:Id)=>aQg (l:=s.rs) (t:=[]) (m:=m) (fr:=fr) hl
   simp only[if_neg hz];unfold Ik at ba ⊢;simp only[ka]at ba ⊢;simp only[↓C2,Il,simprocAttr,Ab f,ba,Ab q,o];refine Al ?_;simp only[↓C2,Il,simprocAttr,As,pa,AN ea,ia];have za:Hb (Ig.put (λ_ _=>none) [14] 0 (flat (AU s.rs))) [14] s.rs:=λk x hk=>by
    have:=Hb.of (m:=Ig.put (λ_ _=>none) [14] 0 (flat (AU s.rs))) (i:=[14]) (p:=0) (l:=s.rs) (λj d hj=>by
     have ya:=(Q8.1 hj).1;rw[aF ya,hj]) k x hk
    rwa [QR]at this
   refine AV (n:=s.rs.length) (I:=λj st=>st.s 27= .row [14] s.rs.length∧st.s 28= .int .i64 s.rs.length∧st.s 29= .int .i64 (j:Int)∧st.s 9= .row [14] s.rs.length∧st.s 1= .slice bn [] (AE ns)∧st.s 2= .fn k []∧st.s 3= .ptr [0] 0∧st.s 6= .ptr [1] 0∧∃A B nl t,A.length=j∧A++Ei ns k s.rs.length j (s.rs.drop j)=Ei ns k s.rs.length 0 s.rs∧B++CV ns s.rs.length j (s.rs.drop j)=CV ns s.rs.length 0 s.rs∧st.s 10= .slice nl t (AE B)∧nl=decide (B=[])∧Hb st.m [14] (A++s.rs.drop j)∧15<=st.c∧(nl=false->t≠[14])∧LG 14 _ 3 st.m st.c nl t) (λj hj ih st g hI=>?_) (λst g hI=>?_) 0 (Qy _) _ _ ⟨rfl,rfl,rfl,rfl,rfl,rfl,rfl,rfl,[],[],true,[],rfl,rfl,rfl,rfl,rfl,?_,Xb,U,LG.start Xb⟩
   rotate_left 2
   ·intro k x hk;obtain⟨a0,a1,a2⟩:=Tp.1 (za k x hk);have xa:k*3+2<(flat (AU s.rs)).length:=by
     grind [flat,AU,aC]
    refine Tp.2 ⟨?_,?_,?_⟩
    ·rw[←a0];simp[Ig.put]
    ·rw[←a1];simp[Ig.put]
    ·rw[←a2];simp[Ig.put]
   ·obtain⟨ja,da,fa⟩:=st;obtain⟨ma,ca,u,h9,h1,h2,h3,h6,A,B,nl,t,v,hA,hB,la,ta,hR,hc,ht,hG⟩:=hI;simp only at ma ca u h9 h1 h2 h3 h6 la hR hc hG;refine Ae Wm.eq_1 ?_;have aa:((j:Int)<s.rs.length):=by omega
    have qa:=nJ (j:=j);have ua:((j:Int)<((s.rs.length:Nat):Int)):=O
    have hw:=wJ (j:=j) O;have db:IntKind.i64.wrap ((s.rs.length:Int)-1)=(s.rs.length:Int)-1:=Iz O O;have hd:s.rs.drop j=s.rs[j]::s.rs.drop (j+1):=Q9 hj;rw[hd]at hA hB hR;generalize s.rs[j]=x at hA hB hR;have ha:Ah da [14] (j*3) 3=some [.int .i64 x.1,.bool x.2.1,.bool x.2.2]:=hR j x (by rw[Q_ O,v,ZK];rfl);have a:=aIE (nl:=bn) (l:=ns) x.1 hs;have va:(AE B).length<=100000:=by
     have h1:=congrArg ZZ hB;have h2:∀(l:List Rw)(j:Nat),(CV ns s.rs.length j l).length<=l.length:=λl=>by
      induction l with
      |nil=>intro j;simp[CV]
      |cons y r ih=>intro j;unfold CV;split<;>have:=ih (j+1)<;>simp only[QH]<;>omega
     have h3:=h2 s.rs 0;rw[QP]at h1;rw[IK];omega
    have ab:B.length<=100000:=by rw[←IK];exact va
    have w:nl=true->AE B=[]:=by rw[ta];intro h;rw[of_decide_eq_true h];rfl
    have e1:Ei ns k s.rs.length j (x::s.rs.drop (j+1))=(if Hq ns s.rs.length j x=true then chR k x else x)::Ei ns k s.rs.length (j+1) (s.rs.drop (j+1)):=rfl;have e2:CV ns s.rs.length j (x::s.rs.drop (j+1))=if Hq ns s.rs.length j x=true then x.1::CV ns s.rs.length (j+1) (s.rs.drop (j+1))else CV ns s.rs.length (j+1) (s.rs.drop (j+1)):=rfl
    have oa:AE (B++[x.1])=AE B++[.int .i64 x.1]:=by simp[AE]
    have wa:=hF x;subst v;generalize z:Tu ns x.1=cb at a;have h0:((ns.length:Int)=0)=(ns.isEmpty=true):=by cases ns<;>simp<;>omega
    have sa:(14=fa+1+3)=False:=eq_false O;have ra:(fa=10)=False:=eq_false O;have ga:((A.length:Int)=(s.rs.length:Int)-1)=(A.length+1=s.rs.length):=propext O;cases cb with
    |true=>
     cases hxd:x.2.2 with
     |true=>
      rw[hxd]at ha;obtain⟨a0,a1,a2⟩:=jP ha;have hh:Hq ns s.rs.length A.length x=false:=by simp[Hq,z,hxd]
      rw[hh,if_neg QU]at e1 e2;simp only[↓C2,Il,simprocAttr,ma,ca,u,h1,aa,qa,Qp,a0,a1,a2,Ab b,a,hw];refine ih _ _ ⟨ma,ca,rfl,h9,h1,h2,h3,h6,A++[x],B,nl,t,U,XK,X_,la,ta,?_,Xb,ht,Yj⟩;rw[QT];exact(hR.other Xf).other Xf
     |false=>
      rw[hxd]at ha;obtain⟨a0,a1,a2⟩:=jP ha;rw[hxd]at wa;have hh:Hq ns s.rs.length A.length x=true:=by simp[Hq,z,hxd]
      rw[if_pos hh]at e1 e2;simp only[↓C2,Il,simprocAttr,ma,ca,u,h9,h1,h2,la,aa,qa,Qp,a0,a1,a2,sa,ra,Ab b,a,IK,Ab sF,wa];refine AF.intro ⟨O,rfl,Qd⟩ ?_;rw[BN w,←oa];simp only[↓C2,Ih,simprocAttr,u,hw];refine ih _ _ ⟨ma,ca,rfl,h9,h1,h2,h3,h6,A++[chR k x],B++[x.1],false,_,U,XK,by rw[←hB,e2];simp,rfl,U,?_,Xb,Xf,Qe⟩;rw[QT]
      first|exact(Hb.set ((hR.other Xf).other Xf)).grow Xf (λh e=>ht h e.symm)|exact((Hb.set ((hR.other Xf).other Xf)).other Xf).grow Xf (λh e=>ht h e.symm)
    |false=>
     cases hle:ns.isEmpty with
     |false=>
      rw[hle]at h0;obtain⟨a0,a1,a2⟩:=jP ha;have hh:Hq ns s.rs.length A.length x=false:=by simp[Hq,z,hle]
      rw[hh,if_neg QU]at e1 e2;simp only[↓C2,Il,simprocAttr,ma,ca,u,h1,aa,qa,Qp,a0,a1,a2,Ab b,a,IK,h0,hw];refine ih _ _ ⟨ma,ca,rfl,h9,h1,h2,h3,h6,A++[x],B,nl,t,U,XK,X_,la,ta,?_,Xb,ht,Yj⟩;rw[QT];exact(hR.other Xf).other Xf
     |true=>
      rw[hle]at h0;by_cases ya:A.length+1=s.rs.length
      ·rw[eq_true ya]at ga;cases hxd:x.2.2 with
       |true=>
        rw[hxd]at ha;obtain⟨a0,a1,a2⟩:=jP ha;have hh:Hq ns s.rs.length A.length x=false:=by simp[Hq,z,hle,ya,hxd]
        rw[hh,if_neg QU]at e1 e2;simp only[↓C2,Il,simprocAttr,ma,ca,u,h9,h1,aa,qa,Qp,a0,a1,a2,Ab b,a,IK,h0,db,ga,hw];refine ih _ _ ⟨ma,ca,rfl,h9,h1,h2,h3,h6,A++[x],B,nl,t,U,XK,X_,la,ta,?_,Xb,ht,Yj⟩;rw[QT];exact(hR.other Xf).other Xf
       |false=>
        rw[hxd]at ha;obtain⟨a0,a1,a2⟩:=jP ha;rw[hxd]at wa;have hh:Hq ns s.rs.length A.length x=true:=by simp[Hq,z,hle,ya,hxd]
        rw[if_pos hh]at e1 e2;simp only[↓C2,Il,simprocAttr,ma,ca,u,h9,h1,h2,la,aa,qa,Qp,a0,a1,a2,sa,ra,Ab b,a,IK,Ab sF,wa,h0,db,ga];refine AF.intro ⟨O,rfl,Qd⟩ ?_;rw[BN w,←oa];simp only[↓C2,Ih,simprocAttr,u,hw];refine ih _ _ ⟨ma,ca,rfl,h9,h1,h2,h3,h6,A++[chR k x],B++[x.1],false,_,U,XK,by rw[←hB,e2];simp,rfl,U,?_,Xb,Xf,Qe⟩;rw[QT]
        first|exact(Hb.set ((hR.other Xf).other Xf)).grow Xf (λh e=>ht h e.symm)|exact((Hb.set ((hR.other Xf).other Xf)).other Xf).grow Xf (λh e=>ht h e.symm)
      ·rw[eq_false ya]at ga;obtain⟨a0,a1,a2⟩:=jP ha;have hh:Hq ns s.rs.length A.length x=false:=by simp[Hq,z,hle,ya]
       rw[hh,if_neg QU]at e1 e2;simp only[↓C2,Il,simprocAttr,ma,ca,u,h9,h1,aa,qa,Qp,a0,a1,a2,Ab b,a,IK,h0,db,ga,hw];refine ih _ _ ⟨ma,ca,rfl,h9,h1,h2,h3,h6,A++[x],B,nl,t,U,XK,X_,la,ta,?_,Xb,ht,Yj⟩;rw[QT];exact(hR.other Xf).other Xf
   ·obtain⟨ja,da,fa⟩:=st;obtain⟨ma,ca,u,h9,h1,h2,h3,h6,A,B,nl,t,v,hA,hB,la,ta,hR,hc,ht,hG⟩:=hI;simp only at ma ca u h9 h1 h2 h3 h6 la hR hc hG;refine Ae Wm.eq_1 ?_;have m0:∀k,da [0] k=_:=λk=>hG.low 0 k O
    have m1:∀k,da [1] k=_:=λk=>hG.low 1 k O
    rw[Zo,Ei,Zf]at hA;rw[Zo,CV,Zf]at hB;rw[Zo,Zf,hA]at hR;subst ta hB;simp only[↓C2,Il,simprocAttr,ca,u,h9,la,h3,h6,QN,m0,m1,aP7,aP8];refine .inr ⟨_,_,rfl,rfl,.inr ⟨_,_,rfl,rfl,.inl rfl,.inl rfl,.inl rfl,.inr ⟨[14],AU (Ei ns k s.rs.length 0 s.rs),3,?_,rfl,?_,?_⟩,trivial⟩,.inl (.inl rfl),.inl (.inl rfl),trivial⟩
    ·rw[As,Mf]
    ·intro x hx;obtain⟨y,_,rfl⟩:=Zc.1 hx;exact⟨rfl,rfl⟩
    ·intro j x hx;have:=bC (m:=da) (i:=[14]) (p:=0) (l:=Ei ns k s.rs.length 0 s.rs) (λk x hk=>by rw[QR];exact hR k x hk) j x hx;rw[QR]at this;rw[←this];simp[Ig.put]
def W7(s:Sc)(i:Bool)(ns:List Int)(k:Nat)(h:aYV (s,i,ns,k)):aFg [.agg (Ik s),.slice i [] (AE ns),.fn k []]=some (Ui (s,i,ns,k)):=Bl (mk:=kK) (a:=(s,i,ns,k)) aB2 h
def aZg:=AB [(249,Af aFg)]
def aJO:=RF aZg aOV [.cell (some 4) 4,.t 5] 18
def aXm:Kq aJO 143:=Az (Ai func143) (Aa aBG Ad)
def aJN(s:Sc)(i:Bool)(ns:List Int)(w:s.rs.length<=1000)(f:s.nl=true->s.rs=[])(j:ns.length<=1000):aJO [.agg (Ik s),.slice i [] (AE ns)]=some (.tup [.agg (Ik (Be s ns 250).1),.int .i64 (Be s ns 250).2.2]):=by
 refine Aq (Qn rfl) ?_;unfold aOV;have a:=W7 s i ns 250 ⟨w,f,j,U⟩;unfold Ui at a;simp only at a;generalize Be s ns 250=r at *;unfold Ik at *;simp only[↓C2,Il,simprocAttr,Ac aZg 249,a]
 all_goals exact Qi
def aZf:=AB [(249,Af aFg)]
def aJM:=RF aZf aOU [.cell (some 4) 4,.t 5] 18
def aXl:Kq aJM 144:=Az (Ai func144) (Aa aBG Ad)
def aJL(s:Sc)(i:Bool)(ns:List Int)(w:s.rs.length<=1000)(f:s.nl=true->s.rs=[])(j:ns.length<=1000):aJM [.agg (Ik s),.slice i [] (AE ns)]=some (.tup [.agg (Ik (Be s ns 251).1),.int .i64 (Be s ns 251).2.2]):=by
 refine Aq (Qn rfl) ?_;unfold aOU;have a:=W7 s i ns 251 ⟨w,f,j,U⟩;unfold Ui at a;simp only at a;generalize Be s ns 251=r at *;unfold Ik at *;simp only[↓C2,Il,simprocAttr,Ac aZf 249,a]
 all_goals exact Qi
def aZe:=AB [(249,Af aFg)]
def aJK:=RF aZe aOT [.cell (some 4) 4,.t 5,.t 6] 13
def aXk:Kq aJK 145:=Az (Ai func145) (Aa aBG Ad)
def aJJ(s:Sc)(i:Bool)(ns:List Int)(w:s.rs.length<=1000)(f:s.nl=true->s.rs=[])(j:ns.length<=1000):aJK [.agg (Ik s),.slice i [] (AE ns)]=some (.tup [.agg (Ik (Be s ns 252).1),.slice (decide ((Be s ns 252).2.1=[])) [] (AE (Be s ns 252).2.1),.int .i64 (Be s ns 252).2.2]):=by
 refine Aq (Qn rfl) ?_;unfold aOT;have a:=W7 s i ns 252 ⟨w,f,j,U⟩;unfold Ui at a;simp only at a;generalize Be s ns 252=r at *;unfold Ik at *;simp only[↓C2,Il,simprocAttr,Ac aZe 249,a]
 all_goals exact Qi
def MG(b:Bool):Int:=if b=true then 1 else 0
def fS(l:List Int):List D:=l.map (.int .u8)
def GX(l:List Int):Bs:=l.map λn=>UInt8.ofNat n.toNat
def aDY(l:List Int):(fS l).length=l.length:=QD ..
def sE:∀l:List Int,BQ (fS l)=some (GX l)
 |[]=>rfl
 |n::r=>by
  show(BQ (fS r)).map _=_;rw[sE r];rfl
def OJ(x:Rw):List Int:=[IntKind.u8.wrap x.1,bits .or .u8 (MG x.2.1) (IntKind.u8.wrap (MG x.2.2*2))]
def Db:List Rw->List Int
 |[]=>[]
 |x::r=>OJ x++Db r
def B1(s:Sc):Bs:=if BF s 6=true then []else GX ([IntKind.u8.wrap s.mx,MG s.cas,IntKind.u8.wrap s.la,IntKind.u8.wrap s.rs.length]++Db s.rs)
def aK8(s:Sc):Int:=if BF s 6=true then 2 else 0
def bA2:=AB []
def aSi:=RF bA2 aMf [.t 2] 4
def aWj:Kq aSi 386:=Az (Ai func386) Ad
def aIx(b:Bool):aSi [.bool b]=some (.int .u8 (MG b)):=by
 refine Aq (Qn rfl) ?_;unfold aMf;cases b with
 |true=>
  simp only[↓C2,Ih,IM,IU,simprocAttr]
  all_goals exact Qi
 |false=>
  simp only[↓C2,Ih,IM,IU,simprocAttr]
  all_goals exact Qi
def nV:=AB [(191,Af MI),(335,Af aII),(386,Af aSi)]
def aSn:=RF nV aMA [.t 2,.t 3] 49
def aWr:Kq aSn 340:=Az (Ai func340) (Aa Sy (Aa aLE (Aa aWj Ad)))
def aIF(s:Sc)(w:s.rs.length<=1000):aSn [.agg (Ik s)]=some (.tup [.str (B1 s),.int .i64 (aK8 s)]):=by
 refine Aq (Qn rfl) ?_;unfold aMA;have y:=H9 s 6 false w;have i:=sN;have b:=aIx;unfold B1 aK8;unfold NQ at y;unfold Ik at *;cases hb:BF s 6 with
 |true=>
  rw[hb]at y;simp only[if_true]at y;simp only[↓C2,Il,simprocAttr,Ac nV 191,y,Ac nV 335,i];refine Al ?_;simp only[↓C2,Il,simprocAttr]
  all_goals exact Qi
 |false=>
  rw[hb]at y;simp only[if_false,QJ]at y;simp only[↓C2,Il,simprocAttr,Ac nV 191,y,Ac nV 335,i];refine Al ?_;simp only[↓C2,Il,simprocAttr,Ac nV 386,b,As];refine Al ?_;simp only[↓C2,Il,simprocAttr,As];refine AV (n:=s.rs.length) (I:=λj z=>z.s 26= .slice s.nl [] (AU s.rs)∧z.s 27= .int .i64 s.rs.length∧z.s 28= .int .i64 (j:Int)∧∃B t,B.length=4+2*j∧B++Db (s.rs.drop j)=[IntKind.u8.wrap s.mx,MG s.cas,IntKind.u8.wrap s.la,IntKind.u8.wrap s.rs.length]++Db s.rs∧z.s 4= .slice false t (fS B)∧LG 1 _ 5 z.m z.c false t) (λj k ih z g hI=>?_) (λz g hI=>?_) 0 (Qy _) _ _ ⟨rfl,rfl,rfl,_,_,rfl,rfl,rfl,⟨λ_ _ _=>rfl,.inr ⟨_,rfl,O,Xb,by simp[Ig.put,Ir.app]⟩,Xb⟩⟩
  ·obtain⟨ja,f,fa⟩:=z;obtain⟨o,h,ca,B,t,va,r,e,p⟩:=hI;simp only at o h ca e p;refine Ae Wc.eq_1 ?_;have v:((j:Int)<s.rs.length):=by omega
   have qa:=nJ (j:=j);have hw:=wJ (j:=j) O;have d:=C8 k;have l:s.rs.drop j=s.rs[j]::s.rs.drop (j+1):=Q9 k;rw[l]at r;generalize s.rs[j]=x at d r;have u:fS B++[.int .u8 (IntKind.u8.wrap x.1),.int .u8 (bits .or .u8 (MG x.2.1) (IntKind.u8.wrap (MG x.2.2*2)))]=fS (B++OJ x):=by simp[fS,OJ]
   have q:∀a:Int,AJ .shl (.int .u8 a) (.int .u64 1)=some (.int .u8 (IntKind.u8.wrap (a*2))):=λa=>rfl
   have wa:(fS B).length=4+2*j:=by rw[aDY];exact va
   simp only[↓C2,Il,simprocAttr,o,h,ca,e,v,qa,Qp,d,Ac nV 386,b,q];refine AF.intro ⟨by simp only[wa];omega,rfl,(by first|exact p.grow|exact p.put.grow|exact p.put.put.grow|exact p.put.put.put.grow|exact p.put.put.put.put.grow|exact p.put.put.put.put.put.grow)⟩ ?_;rw[u];simp only[↓C2,Il,simprocAttr];refine Al ?_;simp only[↓C2,Ih,simprocAttr,ca,hw];exact ih _ _ ⟨o,h,rfl,_,_,by rw[QP,va];simp[OJ];omega,by rw[←r,Db,QT],rfl,(by first|exact LG.nil (p.appf O Xb)|exact LG.nil (p.put.appf O Xb)|exact LG.nil (p.put.put.appf O Xb)|exact LG.nil (p.put.put.put.appf O Xb)|exact LG.nil (p.put.put.put.put.appf O Xb)|exact LG.nil (p.put.put.put.put.put.appf O Xb))⟩
  ·obtain⟨o,h,ca,B,t,va,r,e,p⟩:=hI;refine Ae Wc.eq_1 ?_;rw[Zo,Db,Zf]at r;subst r;simp only[↓C2,Il,simprocAttr,h,ca,e,QN,sE]
   all_goals exact Qi
def aMh:=y0 f384 [] []
def aMg:=y0 f385 [] []
def aMa:=y0 f404 [] []
def aL9:=y0 f405 [] []
def V8:=y1 f383 9 [] []
def aMi:=y0 f383 [] [(9,V8)]
def aDs:=y0 f333 [] []
def aME:=y0 f334 [] []
def Wp:=y1 Tryz.f240 7 [] []
def aNI:=y0 Tryz.f240 [(15,[(7,6)])] [(7,Wp)]
def We:=y1 f292 4 [] []
def aM0:=y0 f292 [] [(4,We)]
def V9:=y1 f359 4 [] []
def aMo:=y0 f359 [] [(4,V9)]
def aMZ:=y0 f293 [] []
def aOi:=y0 f189 [] []
def aOh:=y0 f190 [] []
def PW(s:Bs)(p:Nat)(e:Int):List D:=[.str s,.int .i64 (p:Int),.int .i64 e]
def or0:∀n:Fin 256,bits .or .u64 0 ((n.val:Nat):Int)=n.val:=Z
def aZP(x:UInt8):bits .or .u64 0 (x.toNat:Int)=x.toNat:=or0 ⟨x.toNat,x.toNat_lt⟩
def BM(s:Bs)(p:Nat)(e:Int):Int×Nat×Int:=if e≠0 then(0,p,e)else if h:p<s.length then(s[p].toNat,p+1,0)else(0,p,3)
def bA4:=AB []
def aIz:=RF bA4 aMh [.t 2] 14
def aLD:Kq aIz 384:=Az (Ai func384) Ad
def sM(s:Bs)(p:Nat)(e:Int)(g:p<=s.length):aIz [.agg (PW s p e)]=some (.bool true):=by
 refine Aq (Qn rfl) ?_;unfold aMh;have u:(0:Int)<=(p:Int):=O
 have q:(p:Int)<=(s.length:Int):=O
 unfold PW;simp only[↓C2,Il,reduceIte,Qo,Qq,QM,u,q]
 all_goals exact Qi
def bA3:=AB []
def aIy:=RF bA3 aMg [.t 2] 9
def aLC:Kq aIy 385:=Az (Ai func385) Ad
def sL(s:Bs)(p:Nat)(e:Int)(w:s.length<=1000000)(g:p<=s.length):aIy [.agg (PW s p e)]=some (.int .i64 ((s.length-p:Nat):Int)):=by
 refine Aq (Qn rfl) ?_;unfold aMg;have l:IntKind.i64.wrap ((s.length:Int)-(p:Int))=((s.length-p:Nat):Int):=Xn
 unfold PW;simp only[↓C2,Il,reduceIte,Qo,Qq,QM,l]
 all_goals exact Qi
def bA0:=AB []
def aSf:=RF bA0 aMa [.t 2] 9
def aWg:Kq aSf 404:=Az (Ai func404) Ad
def aIv:aSf [.int .i64 1]=some (.bool true):=by
 refine Aq (Qn rfl) ?_;unfold aMa;simp only[↓C2,Il,reduceIte,Qo,Qq,reduceCtorEq,ZX]
 all_goals exact Qi
def bAZ:=AB []
def aSe:=RF bAZ aL9 [.cell (some 3) 4] 8
def aWf:Kq aSe 405:=Az (Ai func405) Ad
def aIu(s:Bs)(p:Nat)(e x:Int):aSe [.agg (PW s p e),.int .i64 x]=some (.agg (PW s p x)):=by
 refine Aq (Qn rfl) ?_;unfold aL9;unfold PW;simp only[↓C2,Il,reduceIte,Qo,Qq,QM,QO,ZE]
 all_goals exact Qi
def gT:=AB [(384,Af aIz),(404,Af aSf),(405,Af aSe),(385,Af aIy)]
def aSj:=RF gT aMi [.t 4,.cell (some 3) 5] 60
def aWk:Kq aSj 383:=Az (Ai func383) (Aa aLD (Aa aWg (Aa aWf (Aa aLC Ad))))
def aIA(s:Bs)(p:Nat)(e:Int)(w:s.length<=1000000)(g:p<=s.length):aSj [.agg (PW s p e),.int .i64 1]=some (.tup [.int .u64 (BM s p e).1,.agg (PW s (BM s p e).2.1 (BM s p e).2.2)]):=by
 refine Aq (Qn rfl) ?_;unfold aMi;have b:=sM s p e g;have a:=sL s p e w g;have d:=aIv;have f:=λx=>aIu s p e x
 unfold BM PW at *;by_cases j:e=0
 ·subst j;by_cases c2:p<s.length
  ·have v:(((s.length-p:Nat):Int)<1)=False:=eq_false O;have h:IntKind.i64.wrap ((p:Int)+1)=((p+1:Nat):Int):=Iz O O;have o:((0:Int)<=((p+1:Nat):Int)∧((p+1:Nat):Int)<=((s.length:Nat):Int))=True:=eq_true O;have k:((0:Int)<=(p:Int)∧(p:Int)<=((p+1:Nat):Int))=True:=eq_true O;have c:(s.drop p).take (p+1-p)=[s[p]]:=by rw[Q9 c2,show p+1-p=1 by omega];rfl
   have i:Ax [s[p]]=[.int .u8 (s[p].toNat:Int)]:=rfl;have q:AJ .shl (.int .u64 0) (.int .u64 8)=some (.int .u64 0):=rfl;have l:=aZP s[p];have m:IntKind.u64.wrap (s[p].toNat:Int)=(s[p].toNat:Int):=Md O (by have:=s[p].toNat_lt;omega);have u:IntKind.i64.wrap ((0:Int)+1)=1:=rfl;simp only[ne_eq,not_true_eq_false,if_false,dif_pos c2];generalize s[p]=x at *;simp only[↓C2,Il,reduceIte,Qo,Qq,QM,reduceCtorEq,Ac gT 384,b,Ac gT 385,a,Ac gT 404,d,v,h,o,k,Qp,c,i];refine Ae V8.eq_1 ?_;simp only[↓C2,Il,reduceIte,Qo,Qq,q,l,m,u,ZQ,c,Int.zero_lt_one,ZG,Z_];refine Ae V8.eq_1 ?_;simp only[↓C2,Il,simprocAttr,QN,h]
   repeat refine Al ?_
   simp only[↓C2,Il,reduceIte,Qo,Qq,QM,QO,ZE]
   all_goals exact Qi
  ·have v:(((s.length-p:Nat):Int)<1)=True:=eq_true O;simp only[ne_eq,not_true_eq_false,if_false,dif_neg c2];simp only[↓C2,Il,reduceIte,Qo,Qq,QM,reduceCtorEq,Ac gT 384,b,Ac gT 385,a,Ac gT 404,d,Ac gT 405,f,v]
   all_goals exact Qi
 ·have n:(e=0)=False:=eq_false j;simp only[ne_eq,n,not_false_eq_true,if_true];simp only[↓C2,Il,reduceIte,Qo,Qq,QM,reduceCtorEq,n]
  repeat refine Al ?_
  simp only[↓C2,Il,reduceIte,Qo,Qq,QM]
  all_goals exact Qi
def aEt:=AB [(384,Af aIz),(385,Af aIy)]
def aIK:=RF aEt aME [.t 2] 17
def aWu:Kq aIK 334:=Az (Ai func334) (Aa aLD (Aa aLC Ad))
def aIJ(s:Bs)(p:Nat)(e:Int)(w:s.length<=1000000)(g:p<=s.length):aIK [.agg (PW s p e)]=some (.int .i64 (if e≠0 then e else if p<s.length then 4 else 0)):=by
 refine Aq (Qn rfl) ?_;unfold aME;have b:=sM s p e g;have a:=sL s p e w g;unfold PW at *;by_cases j:e=0
 ·subst j;have v:((0:Int)<((s.length-p:Nat):Int))=(p<s.length):=propext O;by_cases c2:p<s.length
  ·simp only[↓C2,Il,reduceIte,Qo,Qq,QM,ZY,Ac aEt 384,b,Ac aEt 385,a,v,c2]
   all_goals exact Qi
  ·simp only[↓C2,Il,reduceIte,Qo,Qq,QM,ZY,Ac aEt 384,b,Ac aEt 385,a,v,c2]
   all_goals exact Qi
 ·have n:(e=0)=False:=eq_false j;simp only[↓C2,Il,reduceIte,Qo,Qq,QM,n];simp[j]
def Fx{s:Bs}{p:Nat}{e:Int}(g:p<=s.length):(BM s p e).2.1<=s.length∧0<=(BM s p e).1∧(BM s p e).1<256:=by
 unfold BM;split
 ·exact⟨g,U,U⟩
 ·split
  ·rename_i h;have:=s[p].toNat_lt;exact⟨h,Xf,Xf⟩
  ·exact⟨g,U,U⟩
def aYY:=AB [(383,Af aSj)]
def oJ:List D->List D->Option (D×List D):=RM aYY aDs [.t 2] 17 3
def aWv:(mQ 3 oJ).ok Qu 333:=aT3 (Ai func333:Fn Qu 333 17 aDs [.t 2]) Z (Aa aWk Ad)
theorem PX{m:Ig}{i j:Id}{o:Nat}{ds:List D}(h:j≠i):∀{n p:Nat},Ah (m.put i o ds) j p n=Ah m j p n
 |0,p=>rfl
 |n+1,p=>by simp only[Ah,aA h,PX h]
def aT7{i fr:Id}(h:∀k,(i=k::fr)=False)(m:Ig)(k o:Nat)(ys:List D)(p n:Nat):Ah (m.put (k::fr) o ys) i p n=Ah m i p n:=PX (λe=>(h k).mp e)
def Mz(s:Bs)(p:Nat)(e:Int)(w:s.length<=1000000)(g:p<=s.length):oJ (PW s p e) []=some (.int .i64 (BM s p e).1,PW s (BM s p e).2.1 (BM s p e).2.2):=by
 refine aT4 Z rfl (Qn rfl) (λi m fr c n f n0=>?_);have a:=aIA s p e w g;obtain⟨_,o,d⟩:=Fx (e:=e) g;have l:IntKind.i64.wrap (BM s p e).1=(BM s p e).1:=Iz O O;generalize BM s p e=r at *;unfold PW at *;obtain⟨b,t,q⟩:=jP c;unfold aDs;simp only[↓C2,Il,reduceIte,Qo,Qq,QM,reduceCtorEq,b,t,q,aT7 n0,n0,Ac aYY 383,a,l]
 first|exact Gk.own (bD n (bD n Gk.refl)) U|exact Gk.own (bD n Gk.refl) U
structure LX (ex:List Nat) (c0:Nat) (m0:Ig) (e:Nat) (m:Ig) (c:Nat) (nl:Bool) (t:Id):Prop where
 low:∀q o,q<c0->q∉ex->m [q] o=m0 [q] o
 tok:nl=true∨∃j,t=[j]∧c0<=j∧j<c∧m t 0=some (.tok (e+1))
 le:c0<=c
section
variable{ex:List Nat}{c0 e c c' c2 o q:Nat}{m0 m:Ig}{nl:Bool}{t:Id}{ds xs:List D}
def LX.start(h:c0<=c):LX ex c0 m0 e m0 c true t:=⟨λ_ _ _ _=>rfl,.inl rfl,h⟩
def LX.put(h:LX ex c0 m0 e m c nl t)(k:c<=c':=by omega):LX ex c0 m0 e (m.put [c'] o ds) c nl t:=by
 obtain⟨u,f,y⟩:=h;refine⟨λq o' s p=>?_,?_,y⟩
 ·grind [aA]
 ·grind [aA]
def LX.putx(h:LX ex c0 m0 e m c nl t)(s:q∈ex)(w:q<c0):LX ex c0 m0 e (m.put [q] o ds) c nl t:=by
 obtain⟨u,f,y⟩:=h;refine⟨λd o' b p=>?_,?_,y⟩
 ·grind [aA]
 ·grind [aA]
def LX.more(h:LX ex c0 m0 e m c nl t)(k:c<=c'):LX ex c0 m0 e m c' nl t:=by
 obtain⟨u,h2,o⟩:=h;refine⟨u,?_,O⟩;rcases h2 with h2|⟨j,a,b,z,d⟩
 ·exact .inl h2
 ·grind
def LX.grow(h:LX ex c0 m0 e m c nl t):L8 m e (.slice nl t xs):=by
 rcases h.tok with h|⟨j,rfl,_,_,d⟩
 ·exact .inl h
 ·exact .inr ⟨d,U⟩
def LX.app(h:LX ex c0 m0 e m c nl t)(k:c<=c')(f:c'<c2):LX ex c0 m0 e (Ir.app m (Bm e [c'] (.slice nl t xs))) c2 false [c']:=by
 obtain⟨u,d,y⟩:=h;refine⟨λq o s p=>?_,.inr ⟨c',rfl,O,f,?_⟩,O⟩
 ·grind [Du]
 ·rw[Du,if_pos ⟨rfl,rfl⟩]
def aQ(h:LX ex c0 m0 e m c nl t)(k:c<=c')(s:q<c0):Ir.app m (Bm e [c'] (.slice nl t xs)) [q] o=m [q] o:=by
 obtain⟨u,i,y⟩:=h;rw[Du,if_neg Xc];rcases i with rfl|⟨j,rfl,a,b,d⟩
 ·rw[if_neg U]
 ·rw[if_neg Xc]
end
def NS{m:Ig}{i:Id}{o:Nat}{d:D}:m.put i o [d] i o=some d:=Xh
def GQ(s:Bs):Nat->Nat->Int->List Rw×Bool×Nat×Int
 |0,p,e=>([],false,p,e)
 |k+1,p,e=>(((BM s p e).1,decide (bits .and .i64 (BM s (BM s p e).2.1 (BM s p e).2.2).1 1≠0),decide (bits .and .i64 (BM s (BM s p e).2.1 (BM s p e).2.2).1 2≠0))::(GQ s k (BM s (BM s p e).2.1 (BM s p e).2.2).2.1 (BM s (BM s p e).2.1 (BM s p e).2.2).2.2).1,
   decide (3<(BM s (BM s p e).2.1 (BM s p e).2.2).1)||(GQ s k (BM s (BM s p e).2.1 (BM s p e).2.2).2.1 (BM s (BM s p e).2.1 (BM s p e).2.2).2.2).2.1,(GQ s k (BM s (BM s p e).2.1 (BM s p e).2.2).2.1 (BM s (BM s p e).2.1 (BM s p e).2.2).2.2).2.2)
def sc0:Sc:=⟨0,false,0,true,[]⟩
def Ni(s:Bs):=BM s 0 0
def HW(s:Bs):=BM s (Ni s).2.1 (Ni s).2.2
def ME(s:Bs):=BM s (HW s).2.1 (HW s).2.2
def FT(s:Bs):=BM s (ME s).2.1 (ME s).2.2
def Dz(s:Bs):=GQ s (FT s).1.toNat (FT s).2.1 (FT s).2.2
def U7(s:Bs):Sc:=⟨(Ni s).1,decide ((HW s).1=1),(ME s).1,decide ((FT s).1.toNat=0),(Dz s).1⟩
def Og(n p:Nat)(e:Int):Int:=if e≠0 then e else if p<n then 4 else 0
def Cq(s:Bs):Sc×Int:=if Og s.length (Dz s).2.2.1 (Dz s).2.2.2=3 then(sc0,3)else if Og s.length (Dz s).2.2.1 (Dz s).2.2.2≠0∨(decide (1<(HW s).1)||(Dz s).2.1)=true∨BF (U7 s) 6=true then(sc0,4)else(U7 s,0)
def oV{s:Bs}:∀{k p:Nat} {e:Int},p<=s.length->(GQ s k p e).2.2.1<=s.length
 |0,p,e,h=>h
 |k+1,p,e,h=>by
  show(GQ s k (BM s (BM s p e).2.1 (BM s p e).2.2).2.1 (BM s (BM s p e).2.1 (BM s p e).2.2).2.2).2.2.1<=_;exact oV (Fx (Fx h).1).1
def bW{s:Bs}:∀{k p:Nat} {e:Int},(GQ s k p e).1.length=k
 |0,p,e=>rfl
 |k+1,p,e=>by simp[GQ,bW]
def Oo:=AB [(333,mQ 3 oJ),(334,Af aIK),(335,Af aII),(191,Af MI)]
def aSN:=RF Oo aNI [.cell (some 4) 2,.t 3] 77
def aWX:Kq aSN 240:=Az (Ai func240) (Aa aWv (Aa aWu (Aa aLE (Aa Sy Ad))))
def sX(s:Bs)(hl:s.length<=1000000):aSN [.str s]=some (.tup [.agg (Ik (Cq s).1),.int .i64 (Cq s).2]):=by
 refine Aq (Qn rfl) ?_;unfold aNI;have b1:(Ni s).2.1<=s.length∧0<=(Ni s).1∧(Ni s).1<256:=Fx (Qy _);have b2:(HW s).2.1<=s.length∧0<=(HW s).1∧(HW s).1<256:=Fx b1.1;have b3:(ME s).2.1<=s.length∧0<=(ME s).1∧(ME s).1<256:=Fx b2.1;have b4:(FT s).2.1<=s.length∧0<=(FT s).1∧(FT s).1<256:=Fx b3.1;have g1:oJ [.str s,.int .i64 0,.int .i64 0] []=some (.int .i64 (Ni s).1,PW s (Ni s).2.1 (Ni s).2.2):=Mz s 0 0 hl (Qy _);have g2:oJ (PW s (Ni s).2.1 (Ni s).2.2) []=some (.int .i64 (HW s).1,PW s (HW s).2.1 (HW s).2.2):=Mz s _ _ hl b1.1;have g3:oJ (PW s (HW s).2.1 (HW s).2.2) []=some (.int .i64 (ME s).1,PW s (ME s).2.1 (ME s).2.2):=Mz s _ _ hl b2.1;have g4:oJ (PW s (ME s).2.1 (ME s).2.2) []=some (.int .i64 (FT s).1,PW s (FT s).2.1 (FT s).2.2):=Mz s _ _ hl b3.1;have hn:((FT s).1.toNat:Int)=(FT s).1:=Q1 b4.2.1;have f:(Dz s).2.2.1<=s.length:=oV b4.1;have pa:(Dz s).1.length=(FT s).1.toNat:=bW;have d:aIK [.agg [.str s,.int .i64 ((Dz s).2.2.1:Int),.int .i64 (Dz s).2.2.2]]=some (.int .i64 (Og s.length (Dz s).2.2.1 (Dz s).2.2.2)):=aIJ s _ _ hl f;have i:=sN;have ba:=H9 (U7 s) 6 false (by show(Dz s).1.length<=1000;omega);have hA:Dz s=GQ s (FT s).1.toNat (FT s).2.1 (FT s).2.2:=rfl;unfold Cq;unfold NQ at ba;unfold PW at g1 g2 g3 g4;have hS:U7 s=⟨(Ni s).1,decide ((HW s).1=1),(ME s).1,decide ((FT s).1.toNat=0),(Dz s).1⟩:=rfl;unfold Ik at ba ⊢;generalize BF (U7 s) 6=y at *;generalize Og s.length (Dz s).2.2.1 (Dz s).2.2.2=en at *;rw[hS]at ba ⊢;clear hS;generalize Dz s=tot at *;generalize Ni s=n1 at *;generalize HW s=n2 at *;generalize ME s=n3 at *;generalize FT s=n4 at *;obtain⟨v4,p4,e4⟩:=n4;simp only at *;generalize na:v4.toNat=n at *;rw[←hn]at g4;simp only[↓C2,Ie,simprocAttr,AR Oo 333,VJ,g1,g2,g3,g4];refine AV (n:=n) (I:=λj st=>st.s 28= .int .i64 (n:Int)∧st.s 29= .int .i64 (j:Int)∧st.s 4= .ptr [4] 0∧st.s 5= .ptr [9] 0∧st.s 2= .ptr [0] 0∧∃A od p e nl t,A.length=j∧p<=s.length∧A++(GQ s (n-j) p e).1=tot.1∧(od||(GQ s (n-j) p e).2.1)=(decide (1<n2.1)||tot.2.1)∧(GQ s (n-j) p e).2.2=tot.2.2∧st.s 7= .bool od∧(st.m [4] 0=some (.str s)∧st.m [4] 1=some (.int .i64 (p:Int))∧st.m [4] 2=some (.int .i64 e))∧(st.m [9] 0=some (.int .i64 n1.1)∧st.m [9] 1=some (.bool (decide (n2.1=1)))∧st.m [9] 2=some (.int .i64 n3.1)∧st.m [9] 3=some (.slice nl t (AU A)))∧nl=decide (j=0)∧LX [4,9] 10 _ 228 st.m st.c nl t) (λj hj ih st g hI=>?_) (λst g hI=>?_) 0 (Qy _) _ _ ⟨rfl,rfl,rfl,rfl,rfl,[],decide (1<n2.1),p4,e4,true,[],rfl,b4.1,by rw[hA];rfl,by rw[hA];rfl,by rw[hA];rfl,rfl,?_,?_,rfl,LX.start Xb⟩
 rotate_left 2
 ·grind [Ig.put]
 ·simp_all [Ig.put,AU]
 ·obtain⟨ja,da,fa⟩:=st;obtain⟨ca,u,h4,h5,h2,A,od,p,e,nl,t,v,hp,r,l,ga,h7,⟨x0,x1,x2⟩,⟨y0,y1,y2,y3⟩,ta,hG⟩:=hI;simp only at ca u h4 h5 h2 h7 x0 x1 x2 y0 y1 y2 y3 hG;refine Ae Wp.eq_1 ?_;have aa:((j:Int)<n):=by omega
  have qa:=nJ (j:=j);have hw:=wJ (j:=j) O;have q1:=Fx (e:=e) hp;have k1:=Mz s p e hl hp;have k2:=Mz s _ (BM s p e).2.2 hl q1.1;have q2:=Fx (e:=(BM s p e).2.2) q1.1;have ma:n-j=(n-(j+1))+1:=O
  rw[ma]at r l ga;unfold GQ at r l ga;simp only at r l ga;generalize BM s p e=a at *;generalize BM s a.2.1 a.2.2=b at *;unfold PW at k1 k2;have ia:=(hG.putx (q:=4) (o:=0) (ds:=[.str s,.int .i64 (a.2.1:Int),.int .i64 a.2.2]) U O).putx (q:=4) (o:=0) (ds:=[.str s,.int .i64 (b.2.1:Int),.int .i64 b.2.2]) U O;have w:nl=true->AU A=[]:=by
   rw[ta];intro h;have:A=[]:=Zb.1 (by rw[v];simpa using h);rw[this];rfl
  have oa:AU A++[.agg [.int .i64 a.1,.bool (decide (bits .and .i64 b.1 1≠0)),.bool (decide (bits .and .i64 b.1 2≠0))]]=AU (A++[(a.1,decide (bits .and .i64 b.1 1≠0),decide (bits .and .i64 b.1 2≠0))]):=by simp[AU,rwD]
  have va:(AU A).length<256:=Xo
  have la:(9=4)=False:=U
  have ka:(4=9)=False:=U
  cases od with
  |true=>
   simp only[↓C2,Ie,simprocAttr,ca,u,aa,h4,h5,h7,AR Oo 333,VJ,x0,x1,x2,y3,k1,k2];refine AF.intro ⟨O,rfl,(LX.put ia O).grow⟩ ?_;rw[BN w,oa];have z:∀(c1 c2 k:Nat)(ds:List D)(xs:List D),fa<=c1->fa<=c2->∀q,q<10->Ir.app ((((da.put [4] 0 [.str s,.int .i64 (a.2.1:Int),.int .i64 a.2.2]).put [4] 0 [.str s,.int .i64 (b.2.1:Int),.int .i64 b.2.2]).put [c1] 0 ds)) (Bm 228 [c2] (.slice nl t xs)) [q] k=((da.put [4] 0 [.str s,.int .i64 (a.2.1:Int),.int .i64 a.2.2]).put [4] 0 [.str s,.int .i64 (b.2.1:Int),.int .i64 b.2.2]) [q] k:=λc1 c2 k ds xs e1 e2 q hq=>by
    have:=hG.le;rw[aQ (LX.put ia e1) e2 hq,aA Xc]
   have zz:=λ(c1 c2 k:Nat)(ds:List D)(xs:List D) e1 e2=>z c1 c2 k ds xs e1 e2 9 O
   have z4:=λ(c1 c2 k:Nat)(ds:List D)(xs:List D) e1 e2=>z c1 c2 k ds xs e1 e2 4 O
   have x:∀(c1 c2:Nat)(ds xs:List D),fa<=c1->fa<=c2->(Ah (Ir.app ((((da.put [4] 0 [.str s,.int .i64 (a.2.1:Int),.int .i64 a.2.2]).put [4] 0 [.str s,.int .i64 (b.2.1:Int),.int .i64 b.2.2]).put [c1] 0 ds)) (Bm 228 [c2] (.slice nl t xs))) [9] 3 1).isSome=true:=λc1 c2 ds xs e1 e2=>by
    simp only[Ah,zz c1 c2 3 ds xs e1 e2];simp[Ig.put,y3]
   simp only[↓C2,Ij,h5,simprocAttr,QR];refine AF.intro (x _ _ _ _ O O) ?_;simp only[↓C2,Ih,simprocAttr,u,hw];refine ih _ _ ⟨ca,rfl,h4,h5,h2,A++[(a.1,decide (bits .and .i64 b.1 1≠0),decide (bits .and .i64 b.1 2≠0))],true,b.2.1,b.2.2,false,_,by simp[v],q2.1,by rw[←r];simp,by rw[←l];simp[],ga,rfl,⟨?_,?_,?_⟩,⟨?_,?_,?_,?_⟩,U,LX.putx (LX.app (LX.put ia O) O Xb) U O⟩
   ·simp only;rw[aA U,z4 _ _ _ _ _ O O];simp[Ig.put]
   ·simp only;rw[aA U,z4 _ _ _ _ _ O O];simp[Ig.put]
   ·simp only;rw[aA U,z4 _ _ _ _ _ O O];simp[Ig.put]
   ·simp only;rw[aC U,zz _ _ _ _ _ O O];simp[Ig.put,y0]
   ·simp only;rw[aC U,zz _ _ _ _ _ O O];simp[Ig.put,y1]
   ·simp only;rw[aC U,zz _ _ _ _ _ O O];simp[Ig.put,y2]
   ·simp only;rw[Fa];exact NS
  |false=>
   by_cases c3:3<b.1
   ·simp only[↓C2,Ie,simprocAttr,ca,u,aa,h4,h5,h7,AR Oo 333,VJ,x0,x1,x2,y3,k1,k2,c3];refine AF.intro ⟨O,rfl,(LX.put ia O).grow⟩ ?_;rw[BN w,oa];have z:∀(c1 c2 k:Nat)(ds:List D)(xs:List D),fa<=c1->fa<=c2->∀q,q<10->Ir.app ((((da.put [4] 0 [.str s,.int .i64 (a.2.1:Int),.int .i64 a.2.2]).put [4] 0 [.str s,.int .i64 (b.2.1:Int),.int .i64 b.2.2]).put [c1] 0 ds)) (Bm 228 [c2] (.slice nl t xs)) [q] k=((da.put [4] 0 [.str s,.int .i64 (a.2.1:Int),.int .i64 a.2.2]).put [4] 0 [.str s,.int .i64 (b.2.1:Int),.int .i64 b.2.2]) [q] k:=λc1 c2 k ds xs e1 e2 q hq=>by
     have:=hG.le;rw[aQ (LX.put ia e1) e2 hq,aA Xc]
    have zz:=λ(c1 c2 k:Nat)(ds:List D)(xs:List D) e1 e2=>z c1 c2 k ds xs e1 e2 9 O
    have z4:=λ(c1 c2 k:Nat)(ds:List D)(xs:List D) e1 e2=>z c1 c2 k ds xs e1 e2 4 O
    have x:∀(c1 c2:Nat)(ds xs:List D),fa<=c1->fa<=c2->(Ah (Ir.app ((((da.put [4] 0 [.str s,.int .i64 (a.2.1:Int),.int .i64 a.2.2]).put [4] 0 [.str s,.int .i64 (b.2.1:Int),.int .i64 b.2.2]).put [c1] 0 ds)) (Bm 228 [c2] (.slice nl t xs))) [9] 3 1).isSome=true:=λc1 c2 ds xs e1 e2=>by
     simp only[Ah,zz c1 c2 3 ds xs e1 e2];simp[Ig.put,y3]
    simp only[↓C2,Ij,h5,simprocAttr,QR];refine AF.intro (x _ _ _ _ O O) ?_;simp only[↓C2,Ih,simprocAttr,u,hw];refine ih _ _ ⟨ca,rfl,h4,h5,h2,A++[(a.1,decide (bits .and .i64 b.1 1≠0),decide (bits .and .i64 b.1 2≠0))],true,b.2.1,b.2.2,false,_,by simp[v],q2.1,by rw[←r];simp,by rw[←l];simp[c3],ga,rfl,⟨?_,?_,?_⟩,⟨?_,?_,?_,?_⟩,U,LX.putx (LX.app (LX.put ia O) O Xb) U O⟩
    ·simp only;rw[aA U,z4 _ _ _ _ _ O O];simp[Ig.put]
    ·simp only;rw[aA U,z4 _ _ _ _ _ O O];simp[Ig.put]
    ·simp only;rw[aA U,z4 _ _ _ _ _ O O];simp[Ig.put]
    ·simp only;rw[aC U,zz _ _ _ _ _ O O];simp[Ig.put,y0]
    ·simp only;rw[aC U,zz _ _ _ _ _ O O];simp[Ig.put,y1]
    ·simp only;rw[aC U,zz _ _ _ _ _ O O];simp[Ig.put,y2]
    ·simp only;rw[Fa];exact NS
   ·simp only[↓C2,Ie,simprocAttr,ca,u,aa,h4,h5,h7,AR Oo 333,VJ,x0,x1,x2,y3,k1,k2,c3];refine AF.intro ⟨O,rfl,(LX.put ia O).grow⟩ ?_;rw[BN w,oa];have z:∀(c1 c2 k:Nat)(ds:List D)(xs:List D),fa<=c1->fa<=c2->∀q,q<10->Ir.app ((((da.put [4] 0 [.str s,.int .i64 (a.2.1:Int),.int .i64 a.2.2]).put [4] 0 [.str s,.int .i64 (b.2.1:Int),.int .i64 b.2.2]).put [c1] 0 ds)) (Bm 228 [c2] (.slice nl t xs)) [q] k=((da.put [4] 0 [.str s,.int .i64 (a.2.1:Int),.int .i64 a.2.2]).put [4] 0 [.str s,.int .i64 (b.2.1:Int),.int .i64 b.2.2]) [q] k:=λc1 c2 k ds xs e1 e2 q hq=>by
     have:=hG.le;rw[aQ (LX.put ia e1) e2 hq,aA Xc]
    have zz:=λ(c1 c2 k:Nat)(ds:List D)(xs:List D) e1 e2=>z c1 c2 k ds xs e1 e2 9 O
    have z4:=λ(c1 c2 k:Nat)(ds:List D)(xs:List D) e1 e2=>z c1 c2 k ds xs e1 e2 4 O
    have x:∀(c1 c2:Nat)(ds xs:List D),fa<=c1->fa<=c2->(Ah (Ir.app ((((da.put [4] 0 [.str s,.int .i64 (a.2.1:Int),.int .i64 a.2.2]).put [4] 0 [.str s,.int .i64 (b.2.1:Int),.int .i64 b.2.2]).put [c1] 0 ds)) (Bm 228 [c2] (.slice nl t xs))) [9] 3 1).isSome=true:=λc1 c2 ds xs e1 e2=>by
     simp only[Ah,zz c1 c2 3 ds xs e1 e2];simp[Ig.put,y3]
    simp only[↓C2,Ij,h5,simprocAttr,QR];refine AF.intro (x _ _ _ _ O O) ?_;simp only[↓C2,Ih,simprocAttr,u,hw];refine ih _ _ ⟨ca,rfl,h4,h5,h2,A++[(a.1,decide (bits .and .i64 b.1 1≠0),decide (bits .and .i64 b.1 2≠0))],false,b.2.1,b.2.2,false,_,by simp[v],q2.1,by rw[←r];simp,by rw[←l];simp[c3],ga,rfl,⟨?_,?_,?_⟩,⟨?_,?_,?_,?_⟩,U,LX.putx (LX.app (LX.put ia O) O Xb) U O⟩
    ·simp only;rw[aA U,z4 _ _ _ _ _ O O];simp[Ig.put]
    ·simp only;rw[aA U,z4 _ _ _ _ _ O O];simp[Ig.put]
    ·simp only;rw[aA U,z4 _ _ _ _ _ O O];simp[Ig.put]
    ·simp only;rw[aC U,zz _ _ _ _ _ O O];simp[Ig.put,y0]
    ·simp only;rw[aC U,zz _ _ _ _ _ O O];simp[Ig.put,y1]
    ·simp only;rw[aC U,zz _ _ _ _ _ O O];simp[Ig.put,y2]
    ·simp only;rw[Fa];exact NS
 ·obtain⟨ja,da,fa⟩:=st;obtain⟨ca,u,h4,h5,h2,A,od,p,e,nl,t,v,hp,r,l,ga,h7,⟨x0,x1,x2⟩,⟨y0,y1,y2,y3⟩,ta,hG⟩:=hI;simp only at ca u h4 h5 h2 h7 x0 x1 x2 y0 y1 y2 y3 hG;refine Ae Wp.eq_1 ?_;have m0:∀k,da [0] k=_:=λk=>hG.low 0 k O U
  rw[ZK]at r l ga;unfold GQ at r l ga;simp only[Zf,ZC]at r l ga;rw[←l];rw[←r]at ba ⊢;rw[←ga]at d;simp only at d;rw[←ta]at ba ⊢;by_cases c1:en=3
  ·simp only[↓C2,Ie,simprocAttr,ca,u,h4,h2,QN,x0,x1,x2,m0,Ac Oo 334,d,c1]
   all_goals (first|rfl|exact⟨rfl,rfl⟩|(simp[*,sc0];done)|(simp[*,sc0];rfl))
  ·have ea:(en=3)=False:=eq_false c1;by_cases c2:en=0
   ·subst c2;cases od with
    |true=>
     simp only[↓C2,Ie,simprocAttr,ca,u,h4,h7,QN,x0,x1,x2,Ac Oo 334,d];refine Al ?_;simp only[↓C2,Ie,simprocAttr,h2,m0]
     all_goals (first|rfl|exact⟨rfl,rfl⟩|(simp[*,sc0];done)|(simp[*,sc0];rfl))
    |false=>
     cases y with
     |true=>
      simp only[if_true]at ba;simp only[↓C2,Ie,simprocAttr,ca,u,h4,h5,h7,QN,x0,x1,x2,y0,y1,y2,y3,Ac Oo 334,d,Ac Oo 335,i,Ac Oo 191,ba];refine Al ?_;simp only[↓C2,Ie,simprocAttr,h2,m0]
      all_goals (first|rfl|exact⟨rfl,rfl⟩|(simp[*,sc0];done)|(simp[*,sc0];rfl))
     |false=>
      simp only[if_false,QJ]at ba;simp only[↓C2,Ie,simprocAttr,ca,u,h4,h5,h7,QN,x0,x1,x2,y0,y1,y2,y3,Ac Oo 334,d,Ac Oo 335,i,Ac Oo 191,ba];refine Al ?_;simp only[↓C2,Ie,simprocAttr,h2,h5,m0,y0,y1,y2,y3]
      all_goals (first|rfl|exact⟨rfl,rfl⟩|(simp[*,sc0];done)|(simp[*,sc0];rfl))
   ·have ha:(en=0)=False:=eq_false c2;simp only[↓C2,Ie,simprocAttr,ca,u,h4,QN,x0,x1,x2,Ac Oo 334,d,ea,ha];refine Al ?_;simp only[↓C2,Ie,simprocAttr,h2,m0]
    all_goals (first|rfl|exact⟨rfl,rfl⟩|(simp[*,sc0];done)|(simp[*,sc0];rfl))
def aO4:=y0 f128 [] []
def aXP:=y0 f97 [] []
def aYt:=y0 f38 [] []
def aO1:=y0 f132 [] []
def aXT:=y0 f92 [(3,[(2,0)])] []
def P7:=y1 f316 2 [] []
def aMO:=y0 f316 [] [(2,P7)]
def Wu:=y1 f222 14 [] []
def aNR:=y0 f222 [(18,[(3,6),(3,10),(7,10)])] [(14,Wu)]
def aO8:=y0 f121 [] []
def aO9:=y0 f120 [] []
def aNQ:=y0 f223 [] []
def aDC:=y0 f123 [] []
def aO7:=y0 f122 [] []
def Wq:=y1 f237 2 [] []
def aNK:=y0 f237 [] [(2,Wq)]
def aOY:=y0 f137 [] []
def aYM:=y0 f12 [] []
def AO(k:Int)(name:Bs)(n:Int):Bs:=if Cm k name n≠0 then []else if k=1 then [109,47]++name else if k=2 then [100,47]++name++[0,UInt8.ofNat (IntKind.u8.wrap n).toNat]else if k=3 then [116,47]++name else if k=4 then [115,47,109,111,117,110,116,115]else [115,47,114,105,110,103]
def aEX{k n:Int}{name:Bs}(h:name.length<=1000000):F98 [.agg [.int .u8 k,.str name,.int .i64 n]]=some (.int .i64 (Cm k name n)):=if_pos h
def BY{a b:Bs}(h:a.length+b.length<=9223372036854775807):AJ .add (.str a) (.str b)=some (.str (a++b)):=by simp[AJ,h]
def nW:=AB [(98,Af F98)]
def aSP:=RF nW aNQ [.t 2,.t 3] 35
def aW2:Kq aSP 223:=Az (Ai func223) (Aa aGF Ad)
def aJk(k n:Int)(name:Bs)(w:name.length<=1000000):aSP [.agg [.int .u8 k,.str name,.int .i64 n]]=some (.tup [.str (AO k name n),.int .i64 (Cm k name n)]):=by
 refine Aq (Qn rfl) ?_;unfold aNQ;have f:=aEX (k:=k) (n:=n) w;have t:∀x y,AJ .add (.str [x,y]) (.str name)=some (.str ([x,y]++name)):=λx y=>BY XV
 have j:∀a,BQ [.int .u8 0,.int .u8 a]=some [0,UInt8.ofNat a.toNat]:=λ_=>rfl
 unfold AO;generalize Cm k name n=e at *;by_cases l:e=0
 ·subst l;by_cases s:k=1
  ·have o:=eq_true s;simp only[↓C2,Ie,simprocAttr,Ac nW 98,f,o,t]
   all_goals exact Qi
  have o:=eq_false s;by_cases c2:k=2
  ·have q:=eq_true c2;have a3:=λz (p:z.length<=100)=>BY (a:=[100,47]++name) (b:=z) XI
   have r:=λc d=>a3 [c,d] U
   simp only[↓C2,Ie,simprocAttr,Ac nW 98,f,o,q,t,r,j]
   all_goals exact Qi
  have q:=eq_false c2;by_cases v:k=3
  ·have i:=eq_true v;simp only[↓C2,Ie,simprocAttr,Ac nW 98,f,o,q,i,t]
   all_goals exact Qi
  have i:=eq_false v;by_cases u:k=4
  ·have g:=eq_true u;simp only[↓C2,Ie,simprocAttr,Ac nW 98,f,o,q,i,g]
   all_goals exact Qi
  ·have g:=eq_false u;simp only[↓C2,Ie,simprocAttr,Ac nW 98,f,o,q,i,g]
   all_goals exact Qi
 ·have h:=eq_false l;simp only[↓C2,Ie,simprocAttr,Ac nW 98,f,h]
  all_goals exact Qi
def aZi:=AB [(223,Af aSP)]
def Gj:List D->Option D:=RF aZi aDC [.t 6] 18
def LP:Kq Gj 123:=Az (Ai func123:Fn Qu 123 18 aDC [.t 6]) (Aa aW2 Ad)
def DG(k n:Int)(name:Bs)(w:name.length<=1000000):Gj [.int .u8 k,.str name,.int .i64 n]=some (.str (AO k name n)):=by
 refine Aq (Qn rfl) ?_;unfold aDC;have a:=aJk k n name w;simp only[↓C2,Il,simprocAttr,Ac aZi 223,a]
 all_goals exact Qi
def bBw:=AB []
def zU:=RF bBw aO4 [.t 2] 10
def aLU:Kq zU 128:=Az (Ai func128) Ad
def WZ(p:Bs)(w:p.length<=1000000):zU [.str p]=some (.slice false [] [.str ([109,47]++p++[47]),.str ([100,47]++p++[47])]):=by
 refine Aq (Qn rfl) ?_;unfold aO4;have t:∀x y,AJ .add (.str [x,y]) (.str p)=some (.str ([x,y]++p)):=λx y=>BY XV
 have q:∀x y,AJ .add (.str ([x,y]++p)) (.str [47])=some (.str ([x,y]++p++[47])):=λx y=>BY XI
 simp only[↓C2,Il,simprocAttr,t,q]
 all_goals exact Qi
def A3(s:Bs):Int×Bs×Int:=if s=[115,47,109,111,117,110,116,115]then(4,[],0)else if s=[115,47,114,105,110,103]then(5,[],0)else if B7 s [109,47]=true then(1,s.drop 2,0)else if B7 s [116,47]=true then(3,s.drop 2,0)else
 if B7 s [100,47]=true∧2<(s.drop 2).length∧(s.drop 2).getD ((s.drop 2).length-2) 0=0 then(2,(s.drop 2).take ((s.drop 2).length-2),((s.drop 2).getD ((s.drop 2).length-1) 0).toNat)else(0,[],0)
def B4(s:Bs):(Int×Bs×Int)×Int:=if Cm (A3 s).1 (A3 s).2.1 (A3 s).2.2≠0 then((0,[],0),4)else(A3 s,0)
def vZ(k:Int×Bs×Int):D:= .agg [.int .u8 k.1,.str k.2.1,.int .i64 k.2.2]
def wO(s:Bs):(A3 s).2.1.length<=s.length:=by
 grind [A3]
def S97:=AB [(200,Af aAh)]
def R97:=RF S97 aXP [.cell (some 3) 2] 64
def bAq:Kq R97 97:=Az (Ai func97) (Aa aLo Ad)
def aR0(s:Bs)(w:s.length<=1000000):R97 [.str s]=some (vZ (A3 s)):=by
 refine Aq (Qn rfl) ?_;unfold aXP;have c:∀a b:UInt8,aAh [.str s,.str [a,b]]=some (.tup [.str (if B7 s [a,b]=true then s.drop 2 else s),.bool (B7 s [a,b])]):=λ_ _=>rfl
 unfold A3 vZ;by_cases j:s=[115,47,109,111,117,110,116,115]
 ·have n:=eq_true j;simp only[↓C2,Ie,simprocAttr,n]
  all_goals exact Qi
 have n:=eq_false j;by_cases c2:s=[115,47,114,105,110,103]
 ·have q:=eq_true c2;simp only[↓C2,Ie,simprocAttr,n,q]
  all_goals exact Qi
 have q:=eq_false c2;cases c3:B7 s [109,47]with
 |true=>
  simp only[↓C2,Ie,simprocAttr,Ac S97 200,c,n,q,c3]
  all_goals exact Qi
 |false=>
  cases c4:B7 s [116,47]with
  |true=>
   simp only[↓C2,Ie,simprocAttr,Ac S97 200,c,n,q,c3,c4]
   all_goals exact Qi
  |false=>
   cases c5:B7 s [100,47]with
   |false=>
    simp only[↓C2,Ie,simprocAttr,Ac S97 200,c,n,q,c3,c4,c5]
    all_goals exact Qi
   |true=>
    have o:(s.drop 2).length<=1000000:=Xt
    generalize hr:s.drop 2=r at *;by_cases m:2<r.length
    ·have e:((2:Int)<(r.length:Int))=True:=eq_true O;have l:IntKind.i64.wrap ((r.length:Int)-2)=((r.length-2:Nat):Int):=by rw[Iz O O];omega
     have z:IntKind.i64.wrap (((r.length-2:Nat):Int)+1)=((r.length-1:Nat):Int):=Xn
     have k:(0:Int)<=((r.length-2:Nat):Int):=O
     have v:(0:Int)<=((r.length-1:Nat):Int):=O
     have u:(((r.length-2:Nat):Int)<=((r.length:Nat):Int))=True:=eq_true O;have t:r[r.length-2]?=some (r.getD (r.length-2) 0):=by simp[Zs,Qr (show r.length-2<r.length by omega)]
     have i:r[r.length-1]?=some (r.getD (r.length-1) 0):=by simp[Zs,Qr (show r.length-1<r.length by omega)]
     have p:((r.getD (r.length-2) 0).toNat:Int)=0↔r.getD (r.length-2) 0=0:=by
      constructor
      ·intro h;exact UInt8.toNat_inj.1 (by
        have:(r.getD (r.length-2) 0).toNat=0:=O
        rw[this];rfl)
      ·intro h;rw[h];rfl
     have f:IntKind.i64.wrap ((r.getD (r.length-1) 0).toNat:Int)=((r.getD (r.length-1) 0).toNat:Int):=Iz O (by have:=(r.getD (r.length-1) 0).toNat_lt;omega);generalize r.getD (r.length-1) 0=y at *;generalize r.getD (r.length-2) 0=x at *;by_cases g:x=0
     ·have d:((x.toNat:Int)=0)=True:=eq_true (p.2 g);simp only[↓C2,Ie,simprocAttr,Ac S97 200,c,n,q,c3,c4,c5,e,l,z,k,v,u,t,i,d,f,Qp];refine Al ?_;simp only[↓C2,Ie,simprocAttr]
      all_goals exact Qi
     ·have d:((x.toNat:Int)=0)=False:=eq_false (λh=>g (p.1 h));simp only[↓C2,Ie,simprocAttr,Ac S97 200,c,n,q,c3,c4,c5,e,l,k,t,d,Qp]
      all_goals exact Qi
    ·have e:((2:Int)<(r.length:Int))=False:=eq_false O;simp only[↓C2,Ie,simprocAttr,Ac S97 200,c,n,q,c3,c4,c5,e]
     all_goals exact Qi
def S38:=AB [(97,Af R97),(98,Af F98)]
def R38:=RF S38 aYt [.cell (some 3) 2,.t 3] 12
def bAL:Kq R38 38:=Az (Ai func38) (Aa bAq (Aa aGF Ad))
def aSg(s:Bs)(w:s.length<=1000000):R38 [.str s]=some (.tup [vZ (B4 s).1,.int .i64 (B4 s).2]):=by
 refine Aq (Qn rfl) ?_;unfold aYt;have a:=aR0 s w;have f:=aEX (k:=(A3 s).1) (n:=(A3 s).2.2) (name:=(A3 s).2.1) (by have:=wO s;omega);unfold B4;unfold vZ at *;generalize Cm (A3 s).1 (A3 s).2.1 (A3 s).2.2=e at *;generalize A3 s=g at *;by_cases l:e=0
 ·subst l;simp only[↓C2,Ie,simprocAttr,Ac S38 97,a,Ac S38 98,f]
  all_goals exact Qi
 ·have h:=eq_false l;simp only[↓C2,Ie,simprocAttr,Ac S38 97,a,Ac S38 98,f,h]
  all_goals exact Qi
def aYL:=y0 f13 [(2,[(3,1),(4,1)])] []
def aYr:=y0 f42 [] []
def aDr:=y1 f9 4 [] []
def aDq:=y1 f9 14 [] []
def aDp:=y1 f9 9 [] [(14,aDq)]
def dc9:=y0 f9 [] [(4,aDr),(9,aDp)]
def aFJ(w:World)(k:Nat)(r:0<k)(j:k<=1000000):
  Calls Qu 99 #[.slice none 0 0,.int .i64 (k:Int)] w λe n=>e= .returned (.slice (some ⟨w.heap.size,0,none⟩) 0 (grownCap w k 0 9))∧n=w.drew.alloc (.cells (Builtin.zeroCells #[.string .empty] k++Builtin.zeroCells #[.string .empty] (grownCap w k 0 9-k)) 9):=by
 have y:=Lib.run_append_nil_zeros (P:=Qu) w 28 3 28 9 Tryz.t9 (.string .empty) .i64 .i64 underlying28 underlying3 Xa Xa k r Z O (by show k*16<=_;omega)
 go_enter func99,ntmps99
 go_wp2_with (first|(at_builtin;refine Lib.wpList_append_run _ rfl _ _ _ _ rfl _ _ rfl rfl _ _ y ?_))
 all_goals go_ret
 all_goals exact⟨rfl,rfl⟩
def bAp:(En 9).ok Qu 99:=by
 refine Oa (sz:=1) ⟨_,func99,Xa,Xa⟩ Z ⟨Tryz.t9,(.string .empty),Xa,Xa,Xa,Xa⟩ (λw k r j=>?_);refine(aFJ w k r j).mono ?_;rintro e n ⟨rfl,rfl⟩;refine⟨_,_,grownCap_le_maxLen w k 0 9 Xk,?_,rfl,rfl⟩;have s:=grownCap_ge w k 0 9;simp only[Zi,size_zeroCells];simp;omega
def aAy(w:World)(k:Nat)(r:0<k)(j:k<=1000000):
  Calls Qu 100 #[.slice none 0 0,.int .i64 (k:Int)] w λe n=>e= .returned (.slice (some ⟨w.heap.size,0,none⟩) 0 (grownCap w k 0 4))∧n=w.drew.alloc (.cells (Builtin.zeroCells #[.bool false] k++Builtin.zeroCells #[.bool false] (grownCap w k 0 4-k)) 4):=by
 have y:=Lib.run_append_nil_zeros (P:=Qu) w 29 3 29 4 Tryz.t4 (.bool false) .i64 .i64 underlying29 underlying3 Xa Xa k r Z O (by show k*1<=_;omega)
 go_enter func100,ntmps100
 go_wp2_with (first|(at_builtin;refine Lib.wpList_append_run _ rfl _ _ _ _ rfl _ _ rfl rfl _ _ y ?_))
 all_goals go_ret
 all_goals exact⟨rfl,rfl⟩
def aXA:(En 4).ok Qu 100:=by
 refine Oa (sz:=1) ⟨_,func100,Xa,Xa⟩ Z ⟨Tryz.t4,(.bool false),Xa,Xa,Xa,Xa⟩ (λw k r j=>?_);refine(aAy w k r j).mono ?_;rintro e n ⟨rfl,rfl⟩;refine⟨_,_,grownCap_le_maxLen w k 0 4 Xk,?_,rfl,rfl⟩;have s:=grownCap_ge w k 0 4;simp only[Zi,size_zeroCells];simp;omega
def aAx(w:World)(k:Nat)(r:0<k)(j:k<=1000000):
  Calls Qu 101 #[.slice none 0 0,.int .i64 (k:Int)] w λe n=>e= .returned (.slice (some ⟨w.heap.size,0,none⟩) 0 (grownCap w k 0 28))∧n=w.drew.alloc (.cells (Builtin.zeroCells #[.slice none 0 0] k++Builtin.zeroCells #[.slice none 0 0] (grownCap w k 0 28-k)) 28):=by
 have y:=Lib.run_append_nil_zeros (P:=Qu) w 30 3 30 28 t28 (.slice none 0 0) .i64 .i64 underlying30 underlying3 Xa Xa k r Z O (by show k*24<=_;omega)
 go_enter func101,ntmps101
 go_wp2_with (first|(at_builtin;refine Lib.wpList_append_run _ rfl _ _ _ _ rfl _ _ rfl rfl _ _ y ?_))
 all_goals go_ret
 all_goals exact⟨rfl,rfl⟩
def aXz:(En 28).ok Qu 101:=by
 refine Oa (sz:=1) ⟨_,func101,Xa,Xa⟩ Z ⟨t28,(.slice none 0 0),Xa,Xa,Xa,Xa⟩ (λw k r j=>?_);refine(aAx w k r j).mono ?_;rintro e n ⟨rfl,rfl⟩;refine⟨_,_,grownCap_le_maxLen w k 0 28 Xk,?_,rfl,rfl⟩;have s:=grownCap_ge w k 0 28;simp only[Zi,size_zeroCells];simp;omega
def aXJ:Fn Qu 39 36 (Hu 9 9 1 16 99) [.t 2]:=⟨f39,_,func39,rfl,Xa,rfl,Xa,Xa⟩
def S39:=AB [(99,En 9)]
def R39:=RF S39 (Hu 9 9 1 16 99) [.t 2] 36
def aWh:Kq R39 39:=Az aXJ (Aa bAp Ad)
def oB{nl:Bool}{xs:List D}{x:D}(w:xs.length<=1000)(j:(xs++[x]).all (iL 1)=true):R39 [.slice false [] [.slice nl [] xs,.slice false [] [x]]]=some (.slice false [] (xs++[x])):=
 Aq (Qn rfl) (SY (P:=Qu) (f:=39) O rfl (by simp[Ga]) (Qn rfl) U Xc j λt m o=>⟨rfl,rfl⟩)
def aXI:Fn Qu 40 36 (Hu 9 4 1 1 100) [.t 2]:=⟨f40,_,func40,rfl,Xa,rfl,Xa,Xa⟩
def S40:=AB [(100,En 4)]
def R40:=RF S40 (Hu 9 4 1 1 100) [.t 2] 36
def bAK:Kq R40 40:=Az aXI (Aa aXA Ad)
def aSd{nl:Bool}{xs:List D}{x:D}(w:xs.length<=1000)(j:(xs++[x]).all (iL 1)=true):R40 [.slice false [] [.slice nl [] xs,.slice false [] [x]]]=some (.slice false [] (xs++[x])):=
 Aq (Qn rfl) (SY (P:=Qu) (f:=40) O rfl (by simp[Ga]) (Qn rfl) U Xc j λt m o=>⟨rfl,rfl⟩)
def aXH:Fn Qu 41 36 (Hu 9 28 1 24 101) [.t 2]:=⟨f41,_,func41,rfl,Xa,rfl,Xa,Xa⟩
def S41:=AB [(101,En 28)]
def R41:=RF S41 (Hu 9 28 1 24 101) [.t 2] 36
def bAJ:Kq R41 41:=Az aXH (Aa aXz Ad)
def aSc{nl:Bool}{xs:List D}{x:D}(w:xs.length<=1000)(j:(xs++[x]).all (iL 1)=true):R41 [.slice false [] [.slice nl [] xs,.slice false [] [x]]]=some (.slice false [] (xs++[x])):=
 Aq (Qn rfl) (SY (P:=Qu) (f:=41) O rfl (by simp[Ga]) (Qn rfl) U Xc j λt m o=>⟨rfl,rfl⟩)
def An(l:List Bs):List D:=l.map .str
def cJ(l:List Bs):aE (An l) 1=1:=Xq
def Am(l:List Bs):(An l).length=l.length:=QD ..
def Ej{l:List Bs}{j:Nat}(h:j<l.length):(An l)[j]?=some (.str l[j]):=by simp[An,Qr h]
structure Kn where
 es:List (Bs×Bs×Bool)
 ls:List (Bs×Bool×List Bs)
def lsD(x:Bs×Bool×List Bs):D:= .slice x.2.1 [] (An x.2.2)
def IQ(k:Kn):List D:=[.slice k.es.isEmpty [] (k.es.map λx=> .str x.1),.slice k.es.isEmpty [] (k.es.map λx=> .str x.2.1),.slice k.es.isEmpty [] (k.es.map λx=> .bool x.2.2),.slice k.ls.isEmpty [] (k.ls.map λx=> .str x.1),.slice k.ls.isEmpty [] (k.ls.map lsD)]
def aEf{α:Type}{f:α->D}(h:∀x,iL 1 (f x)=true)(l:List α)(y:α):(l.map f++[f y]).all (iL 1)=true:=by
 simp_all
def aYT{α:Type}(l:List α)(x:α):(l++[x]).isEmpty=false:=Xq
def S42:=AB []
def R42:=RF S42 aYr [.t 2] 8
def bAI:Kq R42 42:=Az (Ai func42) Ad
def aSb{nl:Bool}{l:List Bs}(w:l.length<=100000)(f:nl=true->l=[]):R42 [.slice nl [] (An l)]=some (.slice nl [] (An l)):=by
 refine Aq (Qn rfl) ?_;unfold aYr;cases nl with
 |true=>
  rw[f rfl];simp only[↓C2,Ih,IM,IU,simprocAttr]
  all_goals exact Qi
 |false=>
  simp only[↓C2,Ih,Ii,IU,simprocAttr];refine AF.intro ⟨by rw[Am];omega,cJ l,.inr ⟨rfl,U⟩⟩ ?_;simp only[↓C2,Il,simprocAttr]
def S12:=AB [(39,Af R39),(40,Af R40)]
def R12:=RF S12 aYM [.cell (some 5) 8] 31
def aXy:Kq R12 12:=Az (Ai func12) (Aa aWh (Aa bAK Ad))
def aEP(k:Kn)(e t:Bs)(d:Bool)(w:k.es.length<=1000):R12 [.agg (IQ k),.str e,.str t,.bool d]=some (.agg (IQ {k with es:=k.es++[(e,t,d)]})):=by
 refine Aq (Qn rfl) ?_;unfold aYM;have u:=oB (nl:=k.es.isEmpty) (xs:=k.es.map λx=> .str x.1) (x:= .str e) Xr (aEf (f:=λx:Bs×Bs×Bool=> .str x.1) (λ_=>rfl) k.es (e,t,d));have q:=oB (nl:=k.es.isEmpty) (xs:=k.es.map λx=> .str x.2.1) (x:= .str t) Xr (aEf (f:=λx:Bs×Bs×Bool=> .str x.2.1) (λ_=>rfl) k.es (e,t,d));have o:=aSd (nl:=k.es.isEmpty) (xs:=k.es.map λx=> .bool x.2.2) (x:= .bool d) Xr (aEf (f:=λx:Bs×Bs×Bool=> .bool x.2.2) (λ_=>rfl) k.es (e,t,d));unfold IQ;simp only[Zd,Q6,Q0,aYT];simp only[↓C2,Ie,simprocAttr,Ac S12 39,u,q,Ac S12 40,o]
 all_goals exact Qi
def S13:=AB [(39,Af R39),(41,Af R41),(42,Af R42)]
def R13:=RF S13 aYL [.cell (some 5) 6] 23
def bAP:Kq R13 13:=Az (Ai func13) (Aa aWh (Aa bAJ (Aa bAI Ad)))
def aS0(k:Kn)(p:Bs)(nl:Bool)(l:List Bs)(w:k.ls.length<=1000)(n:l.length<=100000)(r:nl=true->l=[]):R13 [.agg (IQ k),.str p,.slice nl [] (An l)]=some (.agg (IQ {k with ls:=k.ls++[(p,nl,l)]})):=by
 refine Aq (Qn rfl) ?_;unfold aYL;have u:=oB (nl:=k.ls.isEmpty) (xs:=k.ls.map λx=> .str x.1) (x:= .str p) Xr (aEf (f:=λx:Bs×Bool×List Bs=> .str x.1) (λ_=>rfl) k.ls (p,nl,l));have q:=aSb (nl:=nl) (l:=l) n r;have o:=aSc (nl:=k.ls.isEmpty) (xs:=k.ls.map lsD) (x:=lsD (p,nl,l)) Xr (aEf (f:=lsD) (λ_=>rfl) k.ls (p,nl,l));have e1:lsD (p,nl,l)= .slice nl [] (An l):=rfl;rw[e1]at o;unfold IQ;simp only[Zd,Q6,Q0,aYT,e1];simp only[↓C2,Ie,simprocAttr,Ac S13 39,u,Ac S13 42,q,Ac S13 41,o];refine Al ?_;simp only[↓C2,Ie,simprocAttr]
 all_goals exact Qi
def DJ:List Bs->Bs->Int
 |[],_=>-1
 |x::r,s=>if 0<=DJ r s then DJ r s+1 else if x=s then 0 else-1
def LO:∀(l:List Bs)(s:Bs),-1<=DJ l s∧DJ l s<l.length
 |[],s=>by simp[DJ]
 |x::r,s=>by
  have:=LO r s;unfold DJ;simp only[QH];split
  ·omega
  ·split<;>omega
def LN:∀{l:List Bs} {s:Bs},(∀i (h:i<l.length),l[i]≠s)->DJ l s=-1
 |[],s,_=>rfl
 |x::r,s,h=>by
  have ih:=LN (l:=r) (s:=s) (λi hi=>h (i+1) (by simpa using hi));have m:x≠s:=h 0 U;simp[DJ,ih,m]
def N4:∀{l:List Bs} {s:Bs} {j:Nat} (y:j<l.length),l[j]=s->(∀i (h:i<l.length),j<i->l[i]≠s)->DJ l s=j
 |x::r,s,0,y,hx,h=>by
  have ih:=LN (l:=r) (s:=s) (λi hi=>h (i+1) (by simpa using hi) O);have m:x=s:=hx;simp[DJ,ih,m]
 |x::r,s,j+1,y,hx,h=>by
  have ih:=N4 (l:=r) (s:=s) (j:=j) X0 (by simpa using hx) (λi hi w=>h (i+1) (by simpa using hi) O);unfold DJ;rw[if_pos O,ih];omega
def bBp:=AB []
def zP:=RF bBp aNK [.t 4] 20
def aLN:Kq zP 237:=Az (Ai func237) Ad
def sY{nl:Bool}{l:List Bs}(q:Bs)(w:l.length<=1000):zP [.slice nl [] (An l),.str q]=some (.int .i64 (DJ l q)):=by
 refine Aq (Qn rfl) ?_;unfold aNK;have c:IntKind.i64.wrap ((l.length:Int)-1)=(l.length:Int)-1:=Iz O O;simp only[↓C2,Ih,simprocAttr,Am,c];refine AV (n:=l.length) (I:=λj z=>z.s 0= .slice nl [] (An l)∧z.s 1= .str q∧z.s 5= .int .i64 ((l.length:Int)-1-j)∧∀i (h:i<l.length),l.length<=i+j->l[i]≠q) (λj y ih z g a=>?_) (λz g a=>?_) 0 (Qy _) _ _ ⟨rfl,rfl,by rw[show((0:Nat):Int)=0 from rfl,Int.sub_zero];rfl,λi h f=>O⟩
 ·obtain⟨ja,t,o⟩:=z;obtain⟨r,u,m,x⟩:=a;simp only at r u m;refine Ae Wq.eq_1 ?_;have v:(0:Int)<=(l.length:Int)-1-j:=by omega
  have hw:IntKind.i64.wrap ((l.length:Int)-1-j-1)=(l.length:Int)-1-((j+1:Nat):Int):=Xn
  have hi:((l.length:Int)-1-j).toNat=l.length-1-j:=O
  have d:=Ej (l:=l) (j:=l.length-1-j) O;by_cases p:l[l.length-1-j]' O=q
  ·have e:=N4 O p (λi h f=>x i h O);have b:=eq_true p;have e2:((l.length-1-j:Nat):Int)=(l.length:Int)-1-j:=by omega
   simp only[↓C2,Il,simprocAttr,r,u,m,v,hi,d,b];rw[e,e2]
   all_goals exact Qi
  ·have b:=eq_false p;simp only[↓C2,Il,simprocAttr,r,u,m,v,hi,d,b,hw];refine ih _ _ ⟨r,u,rfl,λi h f=>?_⟩;by_cases la:l.length<=i+j
   ·exact x i h la
   ·grind
 ·obtain⟨r,u,m,x⟩:=a;refine Ae Wq.eq_1 ?_;have v:¬(0:Int)<=(l.length:Int)-1-(l.length:Int):=by omega
  have e:=LN (l:=l) (s:=q) (λi h=>x i h O);simp only[↓C2,Il,simprocAttr,m,v];rw[e]
  all_goals exact Qi
def Em(k:Kn):List Bs:=k.es.map (·.1)
def DX(k:Kn)(q:Bs):Bs×Bool×Bool:=if DJ (Em k) q<0 then([],false,false)else((k.es.getD (DJ (Em k) q).toNat ([],[],false)).2.1,(k.es.getD (DJ (Em k) q).toNat ([],[],false)).2.2,true)
def MF(k:Kn)(q:Bs):Bool×List Bs×Bool:=if DJ (k.ls.map (·.1)) q<0 then(true,[],false)else((k.ls.getD (DJ (k.ls.map (·.1)) q).toNat ([],true,[])).2.1,(k.ls.getD (DJ (k.ls.map (·.1)) q).toNat ([],true,[])).2.2,true)
def aRX:=AB [(237,Af zP)]
def PR:=RF aRX aOY [.t 4,.t 5,.t 6] 37
def aLS:Kq PR 137:=Az (Ai func137) (Aa aLN Ad)
def RX(k:Kn)(q:Bs)(w:k.es.length<=1000):PR [.agg (IQ k),.str q]=some (.tup [.str (DX k q).1,.bool (DX k q).2.1,.bool (DX k q).2.2]):=by
 refine Aq (Qn rfl) ?_;unfold aOY;have a:zP [.slice k.es.isEmpty [] (k.es.map λx=> .str x.1),.str q]=some (.int .i64 (DJ (Em k) q)):=by
  have e:=sY (nl:=k.es.isEmpty) (l:=Em k) q (by simpa[Em]using w);simpa[An,Em,Function.comp_def]using e
 have j:=LO (Em k) q;have f:(Em k).length=k.es.length:=QD ..;rw[f]at j;unfold DX IQ;generalize DJ (Em k) q=i at *;by_cases c:i<0
 ·simp only[↓C2,Il,simprocAttr,Ac aRX 237,a,c]
  all_goals exact Qi
 ·have hi:i.toNat<k.es.length:=by omega
  have n:(0:Int)<=i:=O
  have y:(i<(k.es.length:Int))=True:=eq_true O;have z:(k.es.map λx=>D.str x.2.1)[i.toNat]?=some (.str (k.es.getD i.toNat ([],[],false)).2.1):=by simp[Qr hi]
  have b:(k.es.map λx=>D.bool x.2.2)[i.toNat]?=some (.bool (k.es.getD i.toNat ([],[],false)).2.2):=by simp[Qr hi]
  generalize k.es.getD i.toNat ([],[],false)=x at *;simp only[↓C2,Il,simprocAttr,Ac aRX 237,a,c,n,y,z,b,QD];refine Al ?_;simp only[↓C2,Il,simprocAttr]
  all_goals exact Qi
def aRY:=AB [(237,Af zP)]
def oH:=RF aRY aO1 [.t 4,.t 5] 27
def aXs:Kq oH 132:=Az (Ai func132) (Aa aLN Ad)
def aJS(k:Kn)(q:Bs)(w:k.ls.length<=1000):oH [.agg (IQ k),.str q]=some (.tup [.slice (MF k q).1 [] (An (MF k q).2.1),.bool (MF k q).2.2]):=by
 refine Aq (Qn rfl) ?_;unfold aO1;have a:zP [.slice k.ls.isEmpty [] (k.ls.map λx=> .str x.1),.str q]=some (.int .i64 (DJ (k.ls.map (·.1)) q)):=by
  have e:=sY (nl:=k.ls.isEmpty) (l:=k.ls.map (·.1)) q Xr;simpa[An,Function.comp_def]using e
 have j:=LO (k.ls.map (·.1)) q;have f:(k.ls.map (·.1)).length=k.ls.length:=QD ..;rw[f]at j;unfold MF IQ;generalize DJ (k.ls.map (·.1)) q=i at *;by_cases c:i<0
 ·have n:¬(0:Int)<=i:=by omega
  simp only[↓C2,Il,simprocAttr,Ac aRY 237,a,c,n]
  all_goals exact Qi
 ·have hi:i.toNat<k.ls.length:=by omega
  have n:(0:Int)<=i:=O
  have y:((k.ls.length:Int)<=i)=False:=eq_false O;have z:(k.ls.map lsD)[i.toNat]?=some (.slice (k.ls.getD i.toNat ([],true,[])).2.1 [] (An (k.ls.getD i.toNat ([],true,[])).2.2)):=by simp[Qr hi,lsD]
  generalize k.ls.getD i.toNat ([],true,[])=x at *;simp only[↓C2,Il,simprocAttr,Ac aRY 237,a,c,n,y,z,QD]
  all_goals exact Qi
structure Dk where
 n1:Bool
 its:List (Bs×Bs×Bool)
 n2:Bool
 lss:List (Bs×Bool×List Bs)
def itD(x:Bs×Bs×Bool):D:= .agg [.str x.1,.str x.2.1,.bool x.2.2]
def ltD(x:Bs×Bool×List Bs):D:= .agg [.str x.1,.slice x.2.1 [] (An x.2.2)]
def IW(k:Dk):List D:=[.slice k.n1 [] (k.its.map itD),.slice k.n2 [] (k.lss.map ltD)]
def fX(x:Bs×Bs×Bool):Bool:=decide (200<x.1.length)||decide (200<x.2.1.length)
def TD(x:Bs×Bool×List Bs):Bool:=decide (100<x.2.2.length)||decide (200<x.1.length)||x.2.2.any λs=>decide (200<s.length)
def Lc(k:Dk):Bool:=decide (12<k.its.length)||decide (4<k.lss.length)||k.its.any fX||k.lss.any TD
def O4{α:Type}{l:List α}{p:α->Bool}{j:Nat}(y:j<l.length)(h:p l[j]=true):l.any p=true:=List.any_eq_true.2 ⟨_,ZO y,h⟩
theorem nM{α:Type}{l:List α}{p:α->Bool}(h:∀i (hi:i<l.length),p l[i]=false):l.any p=false:=by
 rw[ZH];intro x o;obtain⟨i,hi,rfl⟩:=Zl o;simp[h i hi]
def S9:=AB []
def R9:=RF S9 dc9 [.t 2] 88
def ko9:Kq R9 9:=Az (Ai func9) Ad
def aZl(k:Dk):R9 [.agg (IW k)]=some (.bool (Lc k)):=by
 refine Aq (Qn rfl) ?_;unfold dc9;unfold Lc IW;by_cases c1:12<k.its.length
 ·have ea:((12:Int)<(k.its.length:Int))=True:=eq_true O;simp only[↓C2,Il,simprocAttr,ea,QD];simp[c1]
 have ea:((12:Int)<(k.its.length:Int))=False:=eq_false O;by_cases c2:4<k.lss.length
 ·have x:((4:Int)<(k.lss.length:Int))=True:=eq_true O;simp only[↓C2,Il,simprocAttr,ea,x,QD];simp[c1,c2]
 have x:((4:Int)<(k.lss.length:Int))=False:=eq_false O;simp only[decide_eq_false c1,decide_eq_false c2,Zp];simp only[↓C2,Il,simprocAttr,ea,x,QD];refine AV (n:=k.its.length) (I:=λj z=>z.s 1= .ptr [0] 0∧z.s 3= .int .i64 (j:Int)∧(∀i (hi:i<k.its.length),i<j->fX k.its[i]=false)∧z.m=_) (λj hj ih z g hI=>?_) (λz g hI=>?_) 0 (Qy _) _ _ ⟨rfl,rfl,λi hi h=>absurd h (Ze _),rfl⟩
 ·obtain⟨ja,t,fa⟩:=z;obtain⟨u,y,ca,hm⟩:=hI;simp only at u y hm;subst hm;refine Ae aDr.eq_1 ?_;have v:((j:Int)<k.its.length):=by omega
  have qa:=nJ (j:=j);have hw:=wJ (j:=j) O;have w:(k.its.map itD)[j]?=some (.agg [.str k.its[j].1,.str k.its[j].2.1,.bool k.its[j].2.2]):=by simp[Qr hj,itD]
  by_cases d1:200<k.its[j].1.length
  ·have a:((200:Int)<(k.its[j].1.length:Int))=True:=eq_true O;have e:k.its.any fX=true:=O4 hj (by simp[fX,d1]);rw[e];simp only[↓C2,Il,simprocAttr,u,y,v,qa,Qp,w,a,QD]
   all_goals exact Qi
  ·have a:((200:Int)<(k.its[j].1.length:Int))=False:=eq_false O;by_cases d2:200<k.its[j].2.1.length
   ·have c:((200:Int)<(k.its[j].2.1.length:Int))=True:=eq_true O;have e:k.its.any fX=true:=O4 hj (by simp[fX,d2]);rw[e];simp only[↓C2,Il,simprocAttr,u,y,v,qa,Qp,w,a,c,QD]
    all_goals exact Qi
   ·have c:((200:Int)<(k.its[j].2.1.length:Int))=False:=eq_false O;simp only[↓C2,Il,simprocAttr,u,y,v,qa,Qp,w,a,c,hw,QD];refine ih _ _ ⟨u,rfl,λi hi h=>?_,rfl⟩;rcases Q2 (Q3 h)with h|rfl
    ·exact ca i hi h
    ·simp[fX,d1,d2]
 ·obtain⟨ja,t,fa⟩:=z;obtain⟨u,y,ca,hm⟩:=hI;simp only at u y hm;subst hm;refine Ae aDr.eq_1 ?_;rw[nM (λi hi=>ca i hi hi),Zp];simp only[↓C2,Il,simprocAttr,u,y,QN,QD];refine AV (n:=k.lss.length) (I:=λj z=>z.s 1= .ptr [0] 0∧z.s 4= .int .i64 (j:Int)∧(∀i (hi:i<k.lss.length),i<j->TD k.lss[i]=false)∧z.m=_) (λj hj ih z g hI=>?_) (λz g hI=>?_) 0 (Qy _) _ _ ⟨u,rfl,λi hi h=>absurd h (Ze _),rfl⟩
  ·obtain⟨ja,t,fa⟩:=z;obtain⟨u,y,ca,hm⟩:=hI;simp only at u y hm;subst hm;refine Ae aDp.eq_1 ?_;have v:((j:Int)<k.lss.length):=by omega
   have qa:=nJ (j:=j);have hw:=wJ (j:=j) O;have w:(k.lss.map ltD)[j]?=some (.agg [.str k.lss[j].1,.slice k.lss[j].2.1 [] (An k.lss[j].2.2)]):=by simp[Qr hj,ltD]
   by_cases d1:100<k.lss[j].2.2.length
   ·have a:((100:Int)<(k.lss[j].2.2.length:Int))=True:=eq_true O;have e:k.lss.any TD=true:=O4 hj (by simp[TD,d1]);rw[e];simp only[↓C2,Il,simprocAttr,u,y,v,qa,Qp,w,a,QD,Am]
    all_goals exact Qi
   ·have a:((100:Int)<(k.lss[j].2.2.length:Int))=False:=eq_false O;by_cases d2:200<k.lss[j].1.length
    ·have c:((200:Int)<(k.lss[j].1.length:Int))=True:=eq_true O;have e:k.lss.any TD=true:=O4 hj (by simp[TD,d2]);rw[e];simp only[↓C2,Il,simprocAttr,u,y,v,qa,Qp,w,a,c,QD,Am]
     all_goals exact Qi
    ·have c:((200:Int)<(k.lss[j].1.length:Int))=False:=eq_false O;simp only[↓C2,Il,simprocAttr,u,y,v,qa,Qp,w,a,c,QD,Am];refine AV (n:=k.lss[j].2.2.length) (I:=λq z=>z.s 1= .ptr [0] 0∧z.s 4= .int .i64 (j:Int)∧z.s 5= .int .i64 (q:Int)∧(∀i (hi:i<k.lss[j].2.2.length),i<q->k.lss[j].2.2[i].length<=200)∧z.m=_) (λq hq r z g hI=>?_) (λz g hI=>?_) 0 (Qy _) _ _ ⟨u,y,rfl,λi hi h=>absurd h (Ze _),rfl⟩
     ·obtain⟨ja,t,fa⟩:=z;obtain⟨u,y,h5,b,hm⟩:=hI;simp only at u y h5 hm;subst hm;refine Ae aDq.eq_1 ?_;have o:((q:Int)<k.lss[j].2.2.length):=by omega
      have l:(0:Int)<=(q:Int):=O
      have p:IntKind.i64.wrap ((q:Int)+1)=((q+1:Nat):Int):=Iz O O;have f:=Ej hq;by_cases d3:200<k.lss[j].2.2[q].length
      ·have d:((200:Int)<(k.lss[j].2.2[q].length:Int))=True:=eq_true O;have e:k.lss.any TD=true:=O4 hj (by
        have:k.lss[j].2.2.any (λs=>decide (200<s.length))=true:=O4 hq (by simp[d3]);simp only[TD,this,ZV])
       rw[e];simp only[↓C2,Il,simprocAttr,u,y,h5,qa,o,l,Qp,w,f,d,Am]
       all_goals exact Qi
      ·have d:((200:Int)<(k.lss[j].2.2[q].length:Int))=False:=eq_false O;simp only[↓C2,Il,simprocAttr,u,y,h5,qa,o,l,Qp,w,f,d,p,Am];refine r _ _ ⟨u,y,rfl,λi hi h=>?_,rfl⟩;rcases Q2 (Q3 h)with h|rfl
       ·exact b i hi h
       ·omega
     ·obtain⟨ja,t,fa⟩:=z;obtain⟨u,y,h5,b,hm⟩:=hI;simp only at u y h5 hm;subst hm;refine Ae aDq.eq_1 ?_;simp only[↓C2,Il,simprocAttr,u,y,h5,qa,QN,Qp,w,hw,Am];refine ih _ _ ⟨u,rfl,λi hi h=>?_,rfl⟩;rcases Q2 (Q3 h)with h|rfl
      ·exact ca i hi h
      ·grind [nM,TD]
  ·obtain⟨ja,t,fa⟩:=z;obtain⟨u,y,ca,hm⟩:=hI;simp only at u y hm;subst hm;refine Ae aDp.eq_1 ?_;rw[nM (λi hi=>ca i hi hi)];simp only[↓C2,Il,simprocAttr,u,y,QN,QD]
   all_goals exact Qi
structure aZA (d:Dk):Prop where
 l1:d.its.length<=1000
 l2:d.lss.length<=1000
 ls:∀x∈d.lss,x.2.2.length<=1000∧(x.2.1=true->x.2.2=[])
def aMX:=y0 f298 [] []
def aOf:=y0 f194 [] []
def aOg:=y0 f193 [] []
def aMM:=y0 f318 [] []
def aML:=y0 f319 [] []
def aMK:=y0 f320 [] []
def plV:D->Value
 | .str s=> .string ⟨s.toArray⟩
 | .int k n=> .int k n
 | .bool b=> .bool b
 |_=>undef
def aQb{w:World}{g:Gh}{d:D}{v:Value}(h:Im w g d v)(m:d.plain=true):v=plV d:=by
 cases h with
 |bool b=>rfl
 |int k n=>rfl
 |str s=>rfl
 |_=>cases m
def Vt {P:Program} {f:FuncId} {F:List D→Option D} (c:∃b,P.funcs[f]?=some b∧b.body.isSome=true∧(b.name== "runtime.NumGoroutine")=false)
  (h:∀ds r,F ds=some r->(∀d∈ds,d.plain=true)∧∃v,(∀w g,Im w g r v)∧∀w:World,Calls P f (ds.map plV).toArray w λe n=>e= .returned v∧Below w.heap.size w n):(Af F).ok P f:=by
 refine⟨c,λds m m' fr _=>rfl,?_⟩;intro B w0 w m g fr ds vs r u hi o q t y;simp only[Af]at y;split at y
 ·rename_i x;rw[QZ]at y;obtain⟨s,hr,y⟩:=y;simp only[QY]at y;obtain⟨rfl,rfl⟩:=y;obtain⟨hp,v,hv,hc⟩:=h _ _ hr;have z:vs=(ds.map D.un).map plV:=by
   apply List.ext_getElem?;intro j;by_cases k:j<vs.length
   ·have la:j<ds.length:=by omega
    have e:=(t j _ _ (Qr la) (Qr k)).un;have l:(ds.map D.un)[j]?=some ds[j].un:=by rw[Zh,Qr la];rfl
    rw[Qr k,Zh,l,aQb e (hp _ (List.mem_of_getElem? l))];rfl
   ·simp_all
  subst z;refine(hc w).mono ?_;rintro ev n ⟨rfl,p⟩;exact⟨_,g.over w n,rfl,hi.over p,IF.over hi.gz p,hv _ _,λi a _=>a⟩
 ·cases y
def IX:List D->Option D
 |[.str s,.str [c]]=>some (.int .i64 (Lib.indexByte s c))
 |_=>none
def aWG:Kq IX 288:=Vt ⟨_,func288,Xa,Xa⟩ λds r h=>by
 unfold IX at h;split at h
 ·rename_i s c;simp only[Qs]at h;subst h;refine⟨λd l=>?_,_,λw g=> .int _ _,λw=>?_⟩
  ·simp only[ZF,ZA,or_false]at l;rcases l with rfl|rfl<;>rfl
  ·refine(Go.Proofs.Any.strings_Index_one (P:=Qu) (ρ:=aL) {aP with} ⟨s.toArray⟩ c w).mono ?_;rintro e n ⟨rfl,rfl⟩;exact⟨rfl,Below.refl _ _⟩
 ·cases h
def aWn:Kq IX 356:=Vt ⟨_,func356,Xa,Xa⟩ λds r h=>by
 unfold IX at h;split at h
 ·rename_i s c;simp only[Qs]at h;subst h;refine⟨λd l=>?_,_,λw g=> .int _ _,λw=>?_⟩
  ·simp only[ZF,ZA,or_false]at l;rcases l with rfl|rfl<;>rfl
  ·refine(Go.Proofs.Any.stringslite_Index_one (P:=Qu) (ρ:=aL) {aP with} ⟨s.toArray⟩ c w).mono ?_;rintro e n ⟨rfl,rfl⟩;exact⟨rfl,Below.refl _ _⟩
 ·cases h
def aCy:∀(s:Bs)(c:UInt8),decide (0<=Lib.indexByte s c)=s.any (·==c)
 |[],c=>rfl
 |b::l,c=>by
  have ih:=aCy l c;unfold Lib.indexByte;cases hb:b==c with
  |true=>simp[hb]
  |false=>
   simp only[List.any_cons,hb,Zp,←ih];rw[if_neg QU];cases h1:Lib.indexByte l c==-1 with
   |true=>rw[if_pos rfl];have:=beq_iff_eq.1 h1;rw[this]
   |false=>
    rw[if_neg QU];have h:Lib.indexByte l c≠-1:=by intro e;rw[e]at h1;simp at h1
    have v:-1<=Lib.indexByte l c:=by
     clear ih hb h1 h;induction l with
     |nil=>simp[Lib.indexByte]
     |cons x r ih=>unfold Lib.indexByte;split<;>first|omega|(split<;>omega)
    congr 1;exact propext O
def MY(s:Bs)(c:UInt8):Bool:=s.any (·==c)
def Tr(s:Bs):Bool:=decide (s≠[])&&(decide (s≠[45])&&(decide (s.length<=64)&&(!MY s 32&&!MY s 44)))
def aY2:=AB [(288,Af IX)]
def aSx:=RF aY2 aMX [.t 4] 9
def aWB:Kq aSx 298:=Az (Ai func298) (Aa aWG Ad)
def aIQ(s:Bs)(c:UInt8):aSx [.str s,.str [c]]=some (.bool (MY s c)):=by
 refine Aq (Qn rfl) ?_;unfold aMX;have a:IX [.str s,.str [c]]=some (.int .i64 (Lib.indexByte s c)):=rfl;have e:=aCy s c;simp only[↓C2,Il,simprocAttr,Ac aY2 288,a];rw[e]
 all_goals exact Qi
def aRS:=AB [(298,Af aSx)]
def aZr:=RF aRS aOf [.t 2] 24
def aW4:Kq aZr 194:=Az (Ai func194) (Aa aWB Ad)
def aJn(s:Bs):aZr [.str s]=some (.bool (Tr s)):=by
 refine Aq (Qn rfl) ?_;unfold aOf;have a:=aIQ s;unfold Tr;by_cases j:s=[]
 ·have n:=eq_true j;simp only[↓C2,Il,simprocAttr,n]
  all_goals exact Qi
 have n:=eq_false j;by_cases c2:s=[45]
 ·have q:=eq_true c2;simp only[↓C2,Il,simprocAttr,n,q]
  all_goals exact Qi
 have q:=eq_false c2;by_cases p:s.length<=64
 ·have i:((s.length:Int)<=64)=True:=eq_true O;cases c4:MY s 32 with
  |true=>
   simp only[↓C2,Il,simprocAttr,n,q,i,c4,Ac aRS 298,a]
   all_goals exact Qi
  |false=>
   simp only[↓C2,Il,simprocAttr,n,q,i,c4,Ac aRS 298,a]
   all_goals exact Qi
 ·have i:((s.length:Int)<=64)=False:=eq_false O;simp only[↓C2,Il,simprocAttr,n,q,i]
  all_goals exact Qi
def aRq:(L3 λc x=>match x with| .str s=>some (.bool (!Tr s))|_=>none).ok Qu 193:=by
 obtain⟨S,v,w⟩:=A7 (Aa aW4 Ad);have a:=w 194 _ rfl;clear w;refine O1 (S:=S) v (Ai func193:Fn Qu 193 6 aOg [.t 2]) (λx caps m fr c d r g n w=>⟨O,?_⟩);split at g
 ·rename_i s;simp only[Qs]at g;subst g;have b:=aJn s;unfold aOg;simp only[↓C2,Il,simprocAttr,Ab a,b]
  try exact λi o y h=>h
 ·cases g
def KN:D->D->Option D:=λc x=>match x with| .str s=>some (.bool (!Tr s))|_=>none
def aHC:(GU 193 none KN).ok Qu 297:=OS O aLZ rfl aRq
def aRk:(iO 193 none KN).ok Qu 192:=rX O aL2 aHC
def xX{l:List Bs}{nl:Bool}{t:Id}(w:l.length<=1000000)(m:Ig)(fr:Id):
  (iO 193 none KN).ex [.slice nl t (An l),.fn 193 []] m fr=some (.bool (l.any λs=>!Tr s),[]):=by
 have e:(An l).map (KN .junk)=(l.map λs=>!Tr s).map λb=>some (.bool b):=by
  simp only[An,Zn];exact Q4 λr _=>rfl
 have n:(An l).all (rJ none)=true:=by
  rw[Zj];intro x p;obtain⟨r,_,rfl⟩:=Zc.1 p;rfl
 simp only[iO,Am,w,n,and_self,if_true,GW,Qt,e,Ee,QS];simp only[ZJ];rfl
def bBf:=AB []
def aSB:=RF bBf aM0 [.t 4] 26
def aWF:Kq aSB 292:=Az (Ai func292) Ad
def aIV{n1 n2:Bool}{l:List Bs}(w:l.length<=100000):aSB [.slice n1 [] (An l),.slice n2 [] (An l)]=some (.bool true):=by
 refine Aq (Qn rfl) ?_;unfold aM0;simp only[↓C2,Ih,Ii,IU,simprocAttr,Am];refine AV (n:=l.length) (I:=λj z=>z.s 0= .slice n1 [] (An l)∧z.s 1= .slice n2 [] (An l)∧z.s 12= .int .i64 l.length∧z.s 13= .int .i64 (j:Int)) (λj y ih z g t=>?_) (λz g t=>?_) 0 (Qy _) _ _ ⟨rfl,rfl,rfl,rfl⟩
 ·obtain⟨i,f,o⟩:=z;obtain⟨r,u,e,c⟩:=t;simp only at r u e c;refine Ae We.eq_1 ?_;have v:((j:Int)<l.length):=by omega
  have a:=nJ (j:=j);have h:=wJ (j:=j) O;have d:=Ej y;simp only[↓C2,Il,simprocAttr,r,u,e,c,v,a,Qp,d];refine Al ?_;simp only[↓C2,Ih,IU,simprocAttr,c,h];exact ih _ _ ⟨r,u,e,rfl⟩
 ·obtain⟨r,u,e,c⟩:=t;refine Ae We.eq_1 ?_;simp only[↓C2,Il,simprocAttr,e,c,QN]
  all_goals exact Qi
def bA5:=AB []
def aSl:=RF bA5 aMo [.t 4] 26
def aWm:Kq aSl 359:=Az (Ai func359) Ad
def aIC{n1 n2:Bool}{l:List Rw}(w:l.length<=100000):aSl [.slice n1 [] (AU l),.slice n2 [] (AU l)]=some (.bool true):=by
 refine Aq (Qn rfl) ?_;unfold aMo;simp only[↓C2,Ih,Ii,IU,simprocAttr,As];refine AV (n:=l.length) (I:=λj z=>z.s 0= .slice n1 [] (AU l)∧z.s 1= .slice n2 [] (AU l)∧z.s 12= .int .i64 l.length∧z.s 13= .int .i64 (j:Int)) (λj y ih z g t=>?_) (λz g t=>?_) 0 (Qy _) _ _ ⟨rfl,rfl,rfl,rfl⟩
 ·obtain⟨i,f,o⟩:=z;obtain⟨r,u,e,c⟩:=t;simp only at r u e c;refine Ae V9.eq_1 ?_;have v:((j:Int)<l.length):=by omega
  have a:=nJ (j:=j);have h:=wJ (j:=j) O;have d:=C8 y;have ta:Bn [.int .i64 l[j].1,.bool l[j].2.1,.bool l[j].2.2] [.int .i64 l[j].1,.bool l[j].2.1,.bool l[j].2.2] [(0,0),(1,1),(1,2)]=some true:=by simp[Bn,LJ]
  simp only[QS,↓C2,Il,simprocAttr,r,u,e,c,v,a,Qp,d,ta];refine Al ?_;simp only[↓C2,Ih,IU,simprocAttr,c,h];exact ih _ _ ⟨r,u,e,rfl⟩
 ·obtain⟨r,u,e,c⟩:=t;refine Ae V9.eq_1 ?_;simp only[↓C2,Il,simprocAttr,e,c,QN]
  all_goals exact Qi
def aY3:=AB [(359,Af aSl)]
def aSA:=RF aY3 aMZ [.t 4] 31
def aWE:Kq aSA 293:=Az (Ai func293) (Aa aWm Ad)
def aIU(s:Sc)(w:s.rs.length<=100000):aSA [.agg (Ik s),.agg (Ik s)]=some (.bool true):=by
 refine Aq (Qn rfl) ?_;unfold aMZ;have a:=aIC (n1:=s.nl) (n2:=s.nl) w;unfold Ik;simp only[↓C2,Il,simprocAttr,Ac aY3 359,a]
 all_goals exact Qi
def aZw:List D->Option D:=FX (λs:Bs=>[.str s]) (λ_=>True) (λs=> .str (if s=[]then [45]else s))
def W4(s:Bs):aZw [.str s]=some (.str (if s=[]then [45]else s)):=Bl (mk:=λs:Bs=>[.str s]) (λa b h=>Xl) trivial
def aUv:Kq aZw 347:=by
 refine Bo (S:=λ_=>none) AI (Ai func347:Fn Qu 347 6 aMu [.t 2]) (λ_=>U) (λs _=>?_);unfold aMu;cases s with
 |nil=>
  simp only[↓C2,Ij,reduceIte,Qo,Qq,and_self]
  all_goals exact Qj
 |cons x r=>
  have j:((x::r)==([]:Bs))=false:=rfl;simp only[↓C2,Ij,reduceIte,Qo,Qq,reduceCtorEq]
  all_goals exact Qj
def BC(n:Nat):Bs:=if n<10 then [H_ n]else if n<100 then [H_ (n / 10),H_ (n % 10)]else [H_ (n / 100),H_ (n / 10 % 10),H_ (n % 10)]
def aTd:List D->Option D:=FX (λn:Nat=>[.int .i64 (n:Int)]) (λn=>n<1000) (λn=> .str (BC n))
def W5{n:Nat}(h:n<1000):aTd [.int .i64 (n:Int)]=some (.str (BC n)):=Bl (mk:=λn:Nat=>[.int .i64 (n:Int)]) (λa b h=>YV) h
def M8(n:Nat):(n:Int).tmod 10=((n % 10:Nat):Int):=Y7
def M9(n:Nat)(h:n<1000):IntKind.i64.wrap ((n:Int).tdiv 10)=((n / 10:Nat):Int):=by
 grind [Iz]
def aK9:Kq aTd 346:=by
 refine Bo (S:=λ_=>none) AI (Ai func346:Fn Qu 346 23 aMv [.t 2]) (λ_=>U) (λn f=>?_);have t0:=Np (n % 10) O;have t1:=Np (n / 10 % 10) O;have k:=Np (n / 10 / 10 % 10) O;have m0:=M8 n;have r:=M8 (n / 10);have j:=M8 (n / 10 / 10);have l:=M9 n f;have d1:=M9 (n / 10) O;have d2:=M9 (n / 10 / 10) O;have z0:(0:Int)<=((n % 10:Nat):Int):=O
 have p:(0:Int)<=((n / 10 % 10:Nat):Int):=O
 have x:(0:Int)<=((n / 10 / 10 % 10:Nat):Int):=O
 have a:((10:Int)=0)=False:=U
 unfold aMv BC;by_cases u:n<10
 ·have g:¬((0:Int)<((n / 10:Nat):Int)):=by omega
  have e:n % 10=n:=O
  simp only[↓C2,Iw,Ii,reduceIte,Qo,Qq,m0,z0,t0,l,a,ne_eq,Qp];refine Ae I8.eq_1 ?_;simp only[↓C2,Ij,reduceIte,Qo,Qq,g,u];rw[e,UInt8.ofNat_toNat]
  all_goals exact Qj
 ·have g:((0:Int)<((n / 10:Nat):Int)):=by omega
  by_cases q:n<100
  ·have i:¬((0:Int)<((n / 10 / 10:Nat):Int)):=by omega
   have e:n / 10 % 10=n / 10:=O
   rw[e]at t1 r p;simp only[↓C2,Iw,Ii,reduceIte,Qo,Qq,m0,z0,t0,l,a,ne_eq,Qp];refine Ae I8.eq_1 ?_;simp only[↓C2,Iw,Ii,reduceIte,Qo,Qq,g,r,p,t1,d1,a,ne_eq,Qp,QO,Qz];refine Ae I8.eq_1 ?_;simp only[↓C2,Ij,reduceIte,Qo,Qq,i,u,q,UInt8.ofNat_toNat,Zk,QV]
   all_goals exact Qj
  ·have i:((0:Int)<((n / 10 / 10:Nat):Int)):=by omega
   have s:¬((0:Int)<((n / 10 / 10 / 10:Nat):Int)):=O
   have e:n / 10 / 10 % 10=n / 100:=O
   rw[e]at k j x;simp only[↓C2,Iw,Ii,reduceIte,Qo,Qq,m0,z0,t0,l,a,ne_eq,Qp];refine Ae I8.eq_1 ?_;simp only[↓C2,Iw,Ii,reduceIte,Qo,Qq,g,r,p,t1,d1,a,ne_eq,Qp,QO,Qz];refine Ae I8.eq_1 ?_;simp only[↓C2,Iw,Ii,reduceIte,Qo,Qq,i,j,x,k,d2,a,ne_eq,Qp,QP,QO,Qz];refine Ae I8.eq_1 ?_;simp only[↓C2,Ij,reduceIte,Qo,Qq,s,u,q,UInt8.ofNat_toNat,Zk,QV]
   all_goals exact Qj
def aFc:List D->Option D:=FX (λs:Bs=>[.str s]) (λs=>s.length<=1000000) (λs=> .str (Lj s))
def MB{s:Bs}(h:s.length<=1000000):aFc [.str s]=some (.str (Lj s)):=Bl (mk:=λs:Bs=>[.str s]) (λa b h=>Xl) h
def aGR{S:Ic}{l:Bs}{Q:Ex->St->Prop}(i:l.length<=1000000)
  (e:∀z t,z.s 3= .slice false t (Ax (Lj l))->Q (.exit 0) z):
  ∀(n k:Nat)(t:Id) z g,n=l.length-k->k<=l.length->z.s 13= .int .i64 (k:Int)->z.s 12= .int .i64 (l.length:Int)->z.s 11= .slice false [] (Ax l)->z.s 3= .slice false t (Ax (Lj (l.take k)))->Gw z.m z.c 5 false t->
   A2 S [] P6 Q z g:=by
 intro n;induction n with
 |zero=>
  intro k t z g f j h q y o hg;refine Ae P6.eq_1 ?_;have:¬((k:Int)<l.length):=O
  simp only[↓C2,Ih,Ii,reduceIte,Qq,h,q,this];refine e _ t ?_;rw[QW O]at o;simp only[↓C2,reduceIte,Qo,o]
 |succ n ih=>
  intro k t z g f j h q y o hg;refine Ae P6.eq_1 ?_;have v:((k:Int)<l.length):=O
  have b:(0:Int)<=(k:Int):=O
  have w:k<l.length:=O
  have p:(Ax l)[(k:Int).toNat]?=some (.int .u8 (l[k].toNat:Int)):=by simp[Ax,w]
  have d:IntKind.i64.wrap ((k:Int)+1)=(k:Int)+1:=IntWalk.i64_in _ ⟨O,O⟩;have x:=l[k].toNat_lt;have na:l.take (k+1)=l.take k++[l[k]]:=by rw[List.take_add_one,Qr w];rfl
  have u:(l.take k).length=k:=Xc
  have a:(0:Int)<=4:=Z
  have r:=aZM l[k].toNat O;have a2:=aYU l[k].toNat O;have p1:(0:Int)<=((l[k].toNat / 16:Nat):Int):=O
  have p2:(0:Int)<=((l[k].toNat % 16:Nat):Int):=O
  have q1:(((l[k].toNat / 16:Nat):Int)).toNat=l[k].toNat / 16:=Qp _;have q2:(((l[k].toNat % 16:Nat):Int)).toNat=l[k].toNat % 16:=Qp _;have t1:=Np (l[k].toNat / 16) O;have t2:=Np (l[k].toNat % 16) O;simp only[↓C2,Ij,reduceIte,Qo,Qq,QH,QQ,h,q,y,o,v,b,p,a,r,a2,p1,p2,q1,q2,t1,t2,false_and,reduceCtorEq];refine AF.intro ⟨by rw[BS,F4,u];omega,rfl,hg.grow O⟩ ?_;simp only[↓C2,Ij,reduceIte,Qo,Qq];refine Al ?_;simp only[↓C2,Ij,reduceIte,Qo,Qq,h,d];refine ih (k+1) [z.c+1+3+8] _ _ O O rfl q y ?_ ?_
  ·rw[na,UJ,Dw];rfl
  ·grind [Gw.new]
def aLc:Kq aFc 317:=by
 refine Bo (S:=λ_=>none) AI (Ai func317:Fn Qu 317 29 aMN [.t 2]) (λ_=>U) (λs i=>?_);have h:IntKind.i64.wrap (2*(s.length:Int))=2*(s.length:Int):=IntWalk.i64_in _ ⟨O,O⟩;have o:(0:Int)<=0:=Z
 have m:(0:Int)<=2*(s.length:Int):=O
 have j:2*(s.length:Int)*2<=140737488355328:=O
 have v:(0:Int).toNat=0:=rfl;unfold aMN;simp only[↓C2,Ij,reduceIte,Qo,Qq,h,o,m];refine AF.intro O ?_;simp only[↓C2,Ih,reduceIte,Qo,Qq,v,List.replicate_zero,BS];refine aGR (l:=s) i (λz x u=>?_) s.length 0 [4] _ _ rfl O rfl rfl rfl rfl (.inr ⟨4,rfl,Xb,by simp[BK]⟩);simp only[↓C2,Ij,reduceIte,Qo,Qq,u,Cy]
 all_goals exact Qj
end Go.Vd
namespace Go.Proofs
open Go.Shelf
def aN:Go.Shelf.Ren:=⟨λ|156=>221|165=>226|166=>227|169=>229|240=>324|241=>325|276=>370|277=>371|n=>n,λ|31=>28|9=>9|3=>3|4=>4|0=>0|20=>20|72=>322|76=>326|70=>320|37=>264|75=>325|127=>402|164=>439|5=>5|80=>216|n=>n,λ|n=>n⟩
def aU:Go.Proofs.Lays.n156 Qu aN:={
 mixed:=Xa
 f156:=func221.trans (congrArg some Xa)
 f165:=func226.trans (congrArg some Xa)
 f166:=func227.trans (congrArg some Xa)
 f169:=func229.trans (congrArg some Xa)
 f240:=func324.trans (congrArg some Xa)
 f241:=func325.trans (congrArg some Xa)
 f276:=func370.trans (congrArg some Xa)
 f277:=func371.trans (congrArg some Xa)
 t0:=underlying0
 a0:=isAgg0
 z0:=sizeOf0
 v0:=zeroValue0
 t3:=underlying3
 a3:=isAgg3
 z3:=sizeOf3
 v3:=zeroValue3
 t4:=underlying4
 a4:=isAgg4
 z4:=sizeOf4
 v4:=zeroValue4
 t9:=underlying9
 a9:=isAgg9
 z9:=sizeOf9
 v9:=zeroValue9
 t20:=underlying20
 a20:=isAgg20
 z20:=sizeOf20
 v20:=zeroValue20
 t31:=underlying28
 a31:=isAgg28
 z31:=sizeOf28
 v31:=zeroValue28
 t37:=underlying264
 a37:=isAgg264
 z37:=sizeOf264
 v37:=zeroValue264
 t70:=underlying320
 a70:=isAgg320
 z70:=sizeOf320
 v70:=zeroValue320
 t72:=underlying322
 a72:=isAgg322
 z72:=sizeOf322
 v72:=zeroValue322
 t75:=underlying325
 a75:=isAgg325
 z75:=sizeOf325
 v75:=zeroValue325
 t76:=underlying326
 a76:=isAgg326
 z76:=sizeOf326
 v76:=zeroValue326
 t127:=underlying402
 a127:=isAgg402
 z127:=sizeOf402
 v127:=zeroValue402
 t164:=underlying439
 a164:=isAgg439
 z164:=sizeOf439
 v164:=zeroValue439}
def aK:Builder.Extra Qu aN:={
 sizeBuilder:=Xa
 liesBuilder:=Xa
 t5:=underlying5
 a5:=isAgg5
 z5:=sizeOf5
 v5:=zeroValue5
 infoByte:=Xa
 cellsByte:=Xa
 sizeByte:=Xa
 neB5:=Z}
end Go.Proofs
namespace Go.Vd
open Go.Proofs Go.RowKit
inductive Ry where
 |fail (e:Int)
 |done
 |number (n:Int)
 |found (n:Int) (d:Bs)
 |about (s:Sc)
 |names (nl:Bool) (l:List Bs)
 |state (b:Bool)
def z0:List D:=[.int .i64 0,.bool false,.int .i64 0,.slice true [] []]
def IL:Ry->List D
 | .fail e=>[.int .u8 0,.int .i64 e,.int .i64 0,.str [],.slice true [] [],.int .i64 0,.bool false,.int .i64 0,.slice true [] [],.bool false]
 | .done=>[.int .u8 1,.int .i64 0,.int .i64 0,.str [],.slice true [] [],.int .i64 0,.bool false,.int .i64 0,.slice true [] [],.bool false]
 | .number n=>[.int .u8 2,.int .i64 0,.int .i64 n,.str [],.slice true [] [],.int .i64 0,.bool false,.int .i64 0,.slice true [] [],.bool false]
 | .found n d=>[.int .u8 3,.int .i64 0,.int .i64 n,.str d,.slice true [] [],.int .i64 0,.bool false,.int .i64 0,.slice true [] [],.bool false]
 | .about s=>[.int .u8 4,.int .i64 0,.int .i64 0,.str [],.slice true [] [],.int .i64 s.mx,.bool s.cas,.int .i64 s.la,.slice s.nl [] (AU s.rs),.bool false]
 | .names nl l=>[.int .u8 5,.int .i64 0,.int .i64 0,.str [],.slice nl [] (An l),.int .i64 0,.bool false,.int .i64 0,.slice true [] [],.bool false]
 | .state b=>[.int .u8 6,.int .i64 0,.int .i64 0,.str [],.slice true [] [],.int .i64 0,.bool false,.int .i64 0,.slice true [] [],.bool b]
def aGb:Ry->Prop
 | .about s=>s.rs.length<=1000
 | .names _ l=>l.length<=1000
 |_=>True
def MD:Ry->Int
 | .fail e=>if 1<=e∧e<=99 then 0 else 2
 | .number n=>if 0<=n∧n<=999 then 0 else 2
 | .found n d=>if 0<=n∧n<=999∧d.length<=400 then 0 else 2
 | .about s=>if BF s 6=true then 2 else 0
 | .names _ l=>if l.length<=64∧(l.any λs=>!Tr s)=false then 0 else 2
 |_=>0
def aRT:=AB [(292,Af aSB),(293,Af aSA)]
def aJp:=RF aRT aOi [.t 4] 52
def aW7:Kq aJp 189:=Az (Ai func189) (Aa aWF (Aa aWE Ad))
def Ia(k e n:Int)(f:Bs)(nl:Bool)(l:List Bs)(s:Sc)(q:Bool)(w:l.length<=1000)(j:s.rs.length<=1000):aJp [.agg [.int .u8 k,.int .i64 e,.int .i64 n,.str f,.slice nl [] (An l),.int .i64 s.mx,.bool s.cas,.int .i64 s.la,.slice s.nl [] (AU s.rs),.bool q],.agg [.int .u8 k,.int .i64 e,.int .i64 n,.str f,.slice nl [] (An l),.int .i64 s.mx,.bool s.cas,.int .i64 s.la,.slice s.nl [] (AU s.rs),.bool q]]=some (.bool true):=by
 refine Aq (Qn rfl) ?_;unfold aOi;have b:=aIV (n1:=nl) (n2:=nl) (l:=l) O;have a:=aIU s O;unfold Ik at a;simp only[↓C2,Ie,simprocAttr,Ac aRT 292,b,Ac aRT 293,a]
 all_goals exact Qi
def aF9(y:Ry)(h:aGb y):aJp [.agg (IL y),.agg (IL y)]=some (.bool true):=by
 have u:An []=[]:=rfl;have e1:AU []=[]:=rfl;cases y with
 |fail e=>exact Ia 0 e 0 [] true [] sc0 false U XD
 |done=>exact Ia 1 0 0 [] true [] sc0 false U XD
 |number n=>exact Ia 2 0 n [] true [] sc0 false U XD
 |found n d=>exact Ia 3 0 n d true [] sc0 false U XD
 |about s=>exact Ia 4 0 0 [] true [] s false U h
 |names nl l=>exact Ia 5 0 0 [] nl l sc0 false h XD
 |state b=>exact Ia 6 0 0 [] true [] sc0 b U XD
def bBr:=AB []
def aSR:=RF bBr aOh [.cell (some 10) 2] 52
def aW5:Kq aSR 190:=Az (Ai func190) Ad
def aJo(y:Ry):aSR [.agg (IL y)]=some (.agg (IL y)):=by
 refine Aq (Qn rfl) ?_;unfold aOh;cases y<;>unfold IL
 all_goals
  simp only[↓C2,Ie,simprocAttr]
  all_goals exact Qi
def WV:=AB [(190,Af aSR),(189,Af aJp),(191,Af MI),(192,iO 193 none KN)]
def R92:=RF WV aXT [.t 2] 73
def bAr:Kq R92 92:=Az (Ai func92) (Aa aW5 (Aa aW7 (Aa Sy (Aa aRk Ad))))
def aR1(y:Ry)(h:aGb y):R92 [.agg (IL y)]=some (.int .i64 (MD y)):=by
 refine Aq (Qn rfl) ?_;unfold aXT;have c:=aJo y;have a:=aF9 y h;cases y with
 |fail e=>
  unfold IL MD at *;simp only[↓C2,Ie,simprocAttr,Ac WV 190,c,Ac WV 189,a];refine Al ?_;by_cases j:1<=e
  ·by_cases c2:e<=99
   ·simp only[↓C2,Il,simprocAttr,j,c2]
    all_goals exact Qi
   ·simp only[↓C2,Il,simprocAttr,j,c2]
    all_goals exact Qi
  ·simp only[↓C2,Il,simprocAttr,j]
   all_goals exact Qi
 |done=>
  unfold IL MD at *;simp only[↓C2,Ie,simprocAttr,Ac WV 190,c,Ac WV 189,a];refine Al ?_;simp only[↓C2,Il,simprocAttr]
  all_goals exact Qi
 |number n=>
  unfold IL MD at *;simp only[↓C2,Ie,simprocAttr,Ac WV 190,c,Ac WV 189,a];refine Al ?_;by_cases j:0<=n
  ·by_cases c2:n<=999
   ·simp only[↓C2,Il,simprocAttr,j,c2,QQ,ZG]
    all_goals exact Qi
   ·simp only[↓C2,Il,simprocAttr,j,c2]
    all_goals exact Qi
  ·simp only[↓C2,Il,simprocAttr,j]
   all_goals exact Qi
 |found n d=>
  unfold IL MD at *;simp only[↓C2,Ie,simprocAttr,Ac WV 190,c,Ac WV 189,a];refine Al ?_;by_cases j:0<=n
  ·by_cases c2:n<=999
   ·by_cases p:d.length<=400
    ·have i:((d.length:Int)<=400)=True:=eq_true O;simp only[↓C2,Il,simprocAttr,j,c2,i]
     all_goals exact Qi
    ·have i:((d.length:Int)<=400)=False:=eq_false O;simp only[↓C2,Il,simprocAttr,j,c2,i]
     all_goals exact Qi
   ·simp only[↓C2,Il,simprocAttr,j,c2]
    all_goals exact Qi
  ·simp only[↓C2,Il,simprocAttr,j]
   all_goals exact Qi
 |about s=>
  have z:=H9 s 6 false h;unfold NQ Ik at z;unfold IL MD at *;simp only[↓C2,Ie,simprocAttr,Ac WV 190,c,Ac WV 189,a];refine Al ?_;cases hb:BF s 6 with
  |true=>
   rw[hb]at z;simp only[if_true]at z;simp only[↓C2,Ie,simprocAttr,Ac WV 191,z]
   all_goals exact Qi
  |false=>
   rw[hb]at z;simp only[if_false,QJ]at z;simp only[↓C2,Ie,simprocAttr,Ac WV 191,z]
   all_goals exact Qi
 |names nl l=>
  have f:=λ(m:Ig)(fr:Id)=>xX (l:=l) (nl:=nl) (t:=[]) (by have:l.length<=1000:=h;omega) m fr
  unfold IL MD at *;simp only[↓C2,Ie,simprocAttr,Ac WV 190,c,Ac WV 189,a];refine Al ?_;by_cases j:l.length<=64
  ·have o:((l.length:Int)<=64)=True:=eq_true O;cases c2:l.any λs=>!Tr s with
   |true=>
    rw[c2]at f;simp only[↓C2,Il,simprocAttr,o,Am,AR WV 192,f]
    all_goals exact Qi
   |false=>
    rw[c2]at f;simp only[↓C2,Il,simprocAttr,o,Am,AR WV 192,f]
    all_goals exact Qi
  ·have o:((l.length:Int)<=64)=False:=eq_false O;simp only[↓C2,Il,simprocAttr,o,Am]
   all_goals exact Qi
 |state b=>
  unfold IL MD at *;simp only[↓C2,Ie,simprocAttr,Ac WV 190,c,Ac WV 189,a];refine Al ?_;simp only[↓C2,Il,simprocAttr]
  all_goals exact Qi
def dgB:∀d:Fin 10,UInt8.ofNat (IntKind.u8.wrap (48+((d.val:Nat):Int))).toNat=H_ d.val:=Z
def dgO(n:Nat):UInt8.ofNat (IntKind.u8.wrap (IntKind.i64.wrap (48+((n % 10:Nat):Int)))).toNat=H_ (n % 10):=by
 rw[Iz O O];exact dgB ⟨n % 10,O⟩
def un1(a:Int):BQ [.int .u8 a]=some [UInt8.ofNat a.toNat]:=rfl
theorem B6(n:Nat):(BC n).length<=3:=by
 grind [BC]
def bBc:=AB []
def aIP:=RF bBc aMO [.t 2] 17
def aLF:Kq aIP 316:=Az (Ai func316) Ad
def Mv(n:Nat)(h:n<1000):aIP [.int .i64 (n:Int)]=some (.str (BC n)):=by
 refine Aq (Qn rfl) ?_;unfold aMO;have l:∀k:Nat,k<1000->IntKind.i64.wrap ((k:Int).tdiv 10)=((k / 10:Nat):Int):=M9;have t1:=l n h;have u:=l (n / 10) O;have r:=l (n / 10 / 10) O;have b:∀c:UInt8,AJ .add (.str [c]) (.str [])=some (.str [c]):=λc=>BY U
 have t:∀c d:UInt8,AJ .add (.str [c]) (.str [d])=some (.str [c,d]):=λc d=>BY U
 have q:∀c d e:UInt8,AJ .add (.str [c]) (.str [d,e])=some (.str [c,d,e]):=λc d e=>BY U
 have y:∀k:Nat,AJ .rem (.int .i64 (k:Int)) (.int .i64 10)=some (.int .i64 ((k % 10:Nat):Int)):=λk=>by rw[←M8];rfl
 have s:∀k:Nat,AJ .quo (.int .i64 (k:Int)) (.int .i64 10)=some (.int .i64 (IntKind.i64.wrap ((k:Int).tdiv 10))):=λk=>rfl
 unfold BC;simp only[↓C2,Ih,simprocAttr];refine Ae P7.eq_1 ?_;by_cases j:n<10
 ·have p:(((n / 10:Nat):Int)=0)=True:=eq_true O;have x:n % 10=n:=by omega
  simp only[QS,↓C2,Il,simprocAttr,y,s,t1,dgO,b,p];rw[x,if_pos j]
 ·have p:(((n / 10:Nat):Int)=0)=False:=eq_false O;simp only[QS,↓C2,Il,simprocAttr,y,s,t1,dgO,b,p];refine Ae P7.eq_1 ?_;by_cases c2:n<100
  ·have x:(((n / 10 / 10:Nat):Int)=0)=True:=eq_true O;have f:n / 10 % 10=n / 10:=by omega
   simp only[QS,↓C2,Il,simprocAttr,y,s,u,dgO,t,x];rw[f,if_neg j,if_pos c2]
  ·have x:(((n / 10 / 10:Nat):Int)=0)=False:=eq_false O;simp only[QS,↓C2,Il,simprocAttr,y,s,u,dgO,t,x];refine Ae P7.eq_1 ?_;have w:(((n / 10 / 10 / 10:Nat):Int)=0)=True:=eq_true O;have z5:n / 10 / 10 % 10=n / 100:=by omega
   simp only[QS,↓C2,Il,simprocAttr,y,s,r,dgO,q,w];rw[z5,if_neg j,if_neg c2]
def Cj(x:Rw):Bs:=BC x.1.toNat++(if x.2.1=true then [33]else [])++(if x.2.2=true then [35]else [])
def aY1:=AB [(316,Af aIP)]
def aSw:=RF aY1 aMM [.t 2] 16
def aWA:Kq aSw 318:=Az (Ai func318) (Aa aLF Ad)
def aIO(x:Rw)(h:0<=x.1∧x.1<1000):aSw [.agg [.int .i64 x.1,.bool x.2.1,.bool x.2.2]]=some (.str (Cj x)):=by
 refine Aq (Qn rfl) ?_;unfold aMM;have a:=Mv x.1.toNat O;rw[Q1 h.1]at a;have w:=B6 x.1.toNat;unfold Cj;generalize BC x.1.toNat=s at *;have t:∀c:UInt8,AJ .add (.str s) (.str [c])=some (.str (s++[c])):=λc=>BY Xc
 have q:∀c d:UInt8,AJ .add (.str (s++[c])) (.str [d])=some (.str (s++[c]++[d])):=λc d=>BY Xc
 obtain⟨n,g,d⟩:=x;simp only at *;cases g<;>cases d
 all_goals
  simp only[↓C2,Il,simprocAttr,Ac aY1 316,a,t,q]
  all_goals exact Qi
def bBb:=AB []
def aSv:=RF bBb aML [.t 2] 4
def aWz:Kq aSv 319:=Az (Ai func319) Ad
def aIN(b:Bool):aSv [.bool b]=some (.str [if b=true then 49 else 48]):=by
 refine Aq (Qn rfl) ?_;unfold aML;cases b
 all_goals
  simp only[↓C2,Ih,IM,IU,simprocAttr]
  all_goals exact Qi
def FY(l:List Bs):Bs:=if l=[]then [45]else Lib.join l [44]
def aLO:Kq dV 221:=aCx aU aK ⟨_,func221,Xa,Xa⟩
def dT{l:List Bs}{s:Bs}(h:l≠[]∧l.length<=1000∧Cg l<=1000000∧s.length<=1000∧(Lib.join l s).length<=10000000):dV [.slice false [] (An l),.str s]=some (.str (Lib.join l s)):=Bl (mk:=mkJ) (a:=(l,s)) aGK h
def aY0:=AB [(221,Af dV)]
def aSu:=RF aY0 aMK [.t 2] 8
def aWy:Kq aSu 320:=Az (Ai func320) (Aa aLO Ad)
def sO(nl:Bool)(l:List Bs)(f:nl=true->l=[])(h:l.length<=1000∧Cg l<=1000000∧(Lib.join l [44]).length<=10000000):aSu [.slice nl [] (An l)]=some (.str (FY l)):=by
 refine Aq (Qn rfl) ?_;unfold aMK;unfold FY;by_cases c:l=[]
 ·have c':((l.length:Int)=0)=True:=eq_true (by rw[c];rfl);simp only[↓C2,Il,simprocAttr,c',Am];simp[c]
 ·have c':((l.length:Int)=0)=False:=eq_false (by
   intro e;exact c (Zb.1 O))
  have ta:nl=false:=by
   simp_all
  subst ta;have m:=dT (l:=l) (s:=[44]) ⟨c,h.1,h.2.1,U,h.2.2⟩;simp only[↓C2,Il,simprocAttr,c',Am,Ac aY0 221,m];simp[c]
def Nc:Ry->List Bs
 | .fail e=>[[101,114,114,111,114],BC e.toNat]
 | .done=>[[111,107]]
 | .number n=>[[111,107],[110,117,109,98,101,114],BC n.toNat]
 | .found n d=>[[111,107],[102,111,117,110,100],BC n.toNat,if d=[]then [45]else Lj d]
 | .about s=>[[111,107],[97,98,111,117,116],BC s.mx.toNat,[if s.cas=true then 49 else 48],BC s.la.toNat,FY (s.rs.map Cj)]
 | .names _ l=>[[111,107],[110,97,109,101,115],FY l]
 | .state b=>if b=true then [[111,107],[115,101,97,108,101,100]]else [[111,107],[111,112,101,110]]
def ryG:Ry->Prop
 | .fail e=>0<=e∧e<1000
 | .number n=>0<=n∧n<1000
 | .found n d=>0<=n∧n<1000∧d.length<=1000
 | .about s=>s.rs.length<=100∧(0<=s.mx∧s.mx<1000)∧(0<=s.la∧s.la<1000)∧∀x∈s.rs,0<=x.1∧x.1<1000
 | .names nl l=>l.length<=1000∧(nl=true->l=[])∧Cg l<=1000000
 |_=>True
theorem EY:∀(l:List Bs)(s:Bs),(Lib.join l s).length<=Cg l+l.length*s.length
 |[],s=>by simp[Lib.join]
 |[x],s=>by simp[Lib.join,Cg]
 |x::y::r,s=>by
  have ih:=EY (y::r) s;have e:Lib.join (x::y::r) s=x++s++Lib.join (y::r) s:=by simp[Lib.join]
  rw[e,QP,QP];simp only[Cg,QH]at ih ⊢;rw[Nat.succ_mul];omega
def vE(x:Rw):(Cj x).length<=5:=by
 grind [B6,Cj]
def NP:∀l:List Rw,Cg (l.map Cj)<=5*l.length
 |[]=>by simp[Cg]
 |x::r=>by
  have:=NP r;have:=vE x;simp only[Q6,Cg,QH];omega
def Tc:=AB [(316,Af aIP),(319,Af aSv),(320,Af aSu),(318,Af aSw),(317,Af aFc)]
def aSQ:=RF Tc aNR [.t 2] 78
def aW3:Kq aSQ 222:=Az (Ai func222) (Aa aLF (Aa aWz (Aa aWy (Aa aWA (Aa aLc Ad)))))
def aJl(y:Ry)(h:ryG y):aSQ [.agg (IL y)]=some (.slice false [] (An (Nc y))):=by
 refine Aq (Qn rfl) ?_;unfold aNR;cases y with
 |fail e=>
  have a:=Mv e.toNat YO;rw[Q1 h.1]at a;unfold IL Nc An;simp only[↓C2,Il,simprocAttr,Ac Tc 316,a]
  all_goals exact Qi
 |done=>
  unfold IL Nc An;simp only[↓C2,Il,simprocAttr]
  all_goals exact Qi
 |number n=>
  have a:=Mv n.toNat YO;rw[Q1 h.1]at a;unfold IL Nc An;simp only[↓C2,Il,simprocAttr,Ac Tc 316,a]
  all_goals exact Qi
 |found n d=>
  have a:=Mv n.toNat YO;rw[Q1 h.1]at a;have i:=MB (s:=d) (by have:=h.2.2;omega);unfold IL Nc An;by_cases c:d=[]
  ·have c':=eq_true c;simp only[↓C2,Il,simprocAttr,Ac Tc 316,a,c'];simp[]
  ·have c':=eq_false c;simp only[↓C2,Il,simprocAttr,Ac Tc 316,a,Ac Tc 317,i,c'];simp[]
 |names nl l=>
  obtain⟨h1,h2,h3⟩:=h;have f:=sO nl l h2 ⟨h1,h3,by have:=EY l [44];simp at this;omega⟩;unfold IL Nc;simp only[↓C2,Il,simprocAttr,Ac Tc 320,f]
  all_goals exact Qi
 |state b=>
  unfold IL Nc An;cases b with
  |true=>
   simp only[↓C2,Il,simprocAttr]
   all_goals exact Qi
  |false=>
   simp only[↓C2,Il,simprocAttr]
   all_goals exact Qi
 |about s=>
  obtain⟨g1,g2,g3,g4⟩:=h;have h1:=Mv s.mx.toNat O;rw[Q1 g2.1]at h1;have h2:=Mv s.la.toNat O;rw[Q1 g3.1]at h2;have r:=aIN s.cas;have u:=NP s.rs;have f:=λnl hn=>sO nl (s.rs.map Cj) hn ⟨Xc,O,by have:=EY (s.rs.map Cj) [44];simp at this;omega⟩
  unfold IL Nc;simp only[↓C2,Il,simprocAttr,As];refine AV (n:=s.rs.length) (I:=λj z=>z.s 38= .slice s.nl [] (AU s.rs)∧z.s 39= .int .i64 s.rs.length∧z.s 40= .int .i64 (j:Int)∧z.s 1= .ptr [0] 0∧∃nl t,z.s 4= .slice nl t (An ((s.rs.take j).map Cj))∧nl=decide (j=0)∧LG 1 _ 9 z.m z.c nl t) (λj hj ih z g hI=>?_) (λz g hI=>?_) 0 (Qy _) _ _ ⟨rfl,rfl,rfl,rfl,true,[],rfl,rfl,LG.start Xb⟩
  ·obtain⟨ja,da,fa⟩:=z;obtain⟨v,o,p,hp,nl,t,h4,ta,hG⟩:=hI;simp only at v o p hp h4 hG;refine Ae Wu.eq_1 ?_;have aa:((j:Int)<s.rs.length):=by omega
   have qa:=nJ (j:=j);have hw:=wJ (j:=j) O;have w:=C8 hj;have q:=aIO s.rs[j] (g4 _ (ZO hj));have na:An ((s.rs.take (j+1)).map Cj)=An ((s.rs.take j).map Cj)++[.str (Cj s.rs[j])]:=by
    rw[Za hj,Zd];simp[An]
   have ma:(An ((s.rs.take j).map Cj)).length=j:=by simp[An];omega
   have ca:nl=true->An ((s.rs.take j).map Cj)=[]:=by
    grind
   generalize An ((s.rs.take j).map Cj)=ha at h4 na ma ca;generalize s.rs[j]=x at w na q;simp only[↓C2,Ie,simprocAttr,v,o,p,h4,aa,qa,Qp,w,Ac Tc 318,q];refine AF.intro ⟨O,rfl,Xw⟩ ?_;rw[BN ca,←na];simp only[↓C2,Ih,simprocAttr,p,hw];exact ih _ _ ⟨v,o,rfl,hp,false,_,rfl,U,Qg⟩
  ·obtain⟨ja,da,fa⟩:=z;obtain⟨v,o,p,hp,nl,t,h4,ta,hG⟩:=hI;simp only at v o p hp h4 hG;refine Ae Wu.eq_1 ?_;have m0:∀k,da [0] k=_:=λk=>hG.low 0 k O
   rw[ZM]at h4;have hh:=f nl (by
    rw[ta];intro h;have:s.rs.length=0:=Xl
    simp[Zb.1 this])
   unfold An at h4 hh ⊢;simp only[↓C2,Il,simprocAttr,o,p,hp,h4,QN,m0,Ac Tc 316,h1,h2,Ac Tc 319,r,Ac Tc 320,hh];refine Al ?_;simp only[↓C2,Ih,IM,IU,simprocAttr]
   all_goals exact Qi
def spJ(l:List Bs):Bs:=Lib.join l [32]
def IY(y:Ry):Bs:=if MD y=0 then spJ (Nc y)else []
def aA2(y:Ry):Nc y≠[]:=by
 cases y<;>simp[Nc];split<;>simp
end Go.Vd
namespace Go.Proofs
open Go.Shelf
def aM:Go.Shelf.Ren:=⟨λ|168=>372|169=>229|240=>324|242=>400|276=>370|278=>410|277=>371|n=>n,λ|31=>28|9=>9|3=>3|4=>4|0=>0|20=>20|21=>21|72=>322|76=>326|70=>320|37=>264|75=>325|127=>402|164=>439|5=>5|80=>216|46=>137|51=>392|n=>n,λ|n=>n⟩
def bA:Go.Proofs.Lays.n168 Qu aM:={
 mixed:=Xa
 f168:=func372.trans (congrArg some Xa)
 f240:=func324.trans (congrArg some Xa)
 f242:=func400.trans (congrArg some Xa)
 f276:=func370.trans (congrArg some Xa)
 f278:=func410.trans (congrArg some Xa)
 t0:=underlying0
 a0:=isAgg0
 z0:=sizeOf0
 v0:=zeroValue0
 t3:=underlying3
 a3:=isAgg3
 z3:=sizeOf3
 v3:=zeroValue3
 t4:=underlying4
 a4:=isAgg4
 z4:=sizeOf4
 v4:=zeroValue4
 t5:=underlying5
 a5:=isAgg5
 z5:=sizeOf5
 v5:=zeroValue5
 t9:=underlying9
 a9:=isAgg9
 z9:=sizeOf9
 v9:=zeroValue9
 t20:=underlying20
 a20:=isAgg20
 z20:=sizeOf20
 v20:=zeroValue20
 t21:=underlying21
 a21:=isAgg21
 z21:=sizeOf21
 v21:=zeroValue21
 t37:=underlying264
 a37:=isAgg264
 z37:=sizeOf264
 v37:=zeroValue264
 t46:=underlying137
 a46:=isAgg137
 z46:=sizeOf137
 v46:=zeroValue137
 t51:=underlying392
 a51:=isAgg392
 z51:=sizeOf392
 v51:=zeroValue392
 t70:=underlying320
 a70:=isAgg320
 z70:=sizeOf320
 v70:=zeroValue320
 t72:=underlying322
 a72:=isAgg322
 z72:=sizeOf322
 v72:=zeroValue322
 t75:=underlying325
 a75:=isAgg325
 z75:=sizeOf325
 v75:=zeroValue325
 t164:=underlying439
 a164:=isAgg439
 z164:=sizeOf439
 v164:=zeroValue439}
def bB:Go.Proofs.Lays.n169 Qu aM:={
 mixed:=Xa
 f169:=func229.trans (congrArg some Xa)
 t0:=underlying0
 a0:=isAgg0
 z0:=sizeOf0
 v0:=zeroValue0
 t3:=underlying3
 a3:=isAgg3
 z3:=sizeOf3
 v3:=zeroValue3
 t9:=underlying9
 a9:=isAgg9
 z9:=sizeOf9
 v9:=zeroValue9
 t37:=underlying264
 a37:=isAgg264
 z37:=sizeOf264
 v37:=zeroValue264
 t70:=underlying320
 a70:=isAgg320
 z70:=sizeOf320
 v70:=zeroValue320
 t72:=underlying322
 a72:=isAgg322
 z72:=sizeOf322
 v72:=zeroValue322
 t127:=underlying402
 a127:=isAgg402
 z127:=sizeOf402
 v127:=zeroValue402}
def aY:Builder.Extra Qu aM:={
 sizeBuilder:=Xa
 liesBuilder:=Xa
 t5:=underlying5
 a5:=isAgg5
 z5:=sizeOf5
 v5:=zeroValue5
 infoByte:=Xa
 cellsByte:=Xa
 sizeByte:=Xa
 neB5:=Z}
end Go.Proofs
end
