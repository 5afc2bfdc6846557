/-
  A part of the proof: the layers over the model. Nothing in it is assumed.
-/
import Derived.Below
import Derived.Maps.AppendAt
import Derived.Laws.Rows
import Derived.Laws.Cells
import Derived.Laws.Entries
import Derived.Tactics2
import Derived.WideLaws
import Derived.Laws.Strings
import Derived.Laws.Concat
import Derived.Laws.Unary
import Derived.Laws.StructEq
import Derived.Laws.Runes
import Derived.Laws.AppendOwnNone
import Derived.Laws.MakeOwn
import Derived.Laws.BytesString
import Derived.Lib.ConvBytes
import Derived.Lib.AppendStr
import Derived.Laws.IdiomStrings
import Derived.Tactics

set_option linter.unusedSimpArgs false
set_option linter.unusedVariables false
set_option linter.defProp false
set_option maxHeartbeats 4000000
set_option maxRecDepth 100000
open Option.some renaming injEq→Qa,inj→QJ
open Option renaming map_eq_some_iff→Qb,map_some→QB,getD_some→QD,isSome_iff_exists→Zi,bind_eq_some_iff→Zl
open List renaming getElem?_eq_getElem→Qc,getElem?_eq_some_iff→Qd,mem_append→Qh,getElem?_map→Qi,getElem?_append_left→Qj,mem_range→Qk,getElem?_take_of_lt→Ql,getElem?_append_right→Qm,getElem?_eq_none→Qn,mem_map→Qp,getElem?_drop→Qq,mem_cons_self→Qr,all_eq_true→Qs,range→Qt,getElem?_cons_zero→Qv,mem_of_mem_drop→Qw,mem_cons_of_mem→Qx,length_cons→Qy,map_cons→Qz,replicate→QA,eq_of_mem_replicate→QE,mem_of_mem_take→QG,eq_nil_of_length_eq_zero→QH,getElem?_range→QK,getElem?_toArray→QL,append_assoc→QN,mem_of_getElem?→QS,length_take→QV,extract_eq_take_drop→QW,map_congr_left→QY,foldl_cons→QZ,mem_singleton→Q0,getElem?_cons_succ→Q1,getElem_mem→Q2,cons_append→Q3,suffix_refl→Q4,mem_flatMap→Q6,filter_cons→Q7,extract_toArray→Q8,range_eq_range'→Q9,getElem_of_mem→Za,getD→Zc,getElem?_eq_none_iff→Ze,flatMap_cons→Zg,range'_succ→Zj,map_nil→Zo,nil_append→Zp,length_map→Zq,mem_filter→Zr,contains_iff_mem→Zs,length_take_le→Zt,mem_cons→Zv,range'→Zy,length→Zz
open Prod.mk renaming injEq→Qe
open Array renaming getElem?_eq_some_iff→Qf,getD_eq_getD_getElem?→Qg,toArray_toList→QI,toList_map→QQ,getElem?_append_left→QT,length_toList→QX,toList_inj→Q5
open Nat renaming le_refl→Qo,mul_le_mul_right→QF,zero_add→QM,mul_le_mul_left→QO,add_mul→QR,lt_of_lt_of_le→Q_,le_trans→Zb,zero_le→Zf,add_right_cancel_iff→Zh,add_zero→Zm,lt_or_ge→Zn,succ_mul→Zw,mul_comm→Zx
open Bool renaming false_eq_true→Qu,or_eq_true→QC,and_eq_true→QP,or_eq_false_iff→QU,not_false→Zd,not_true→Zu
open Int renaming eq_ofNat_of_zero_le→Zk
open List.cons renaming injEq→ZA
namespace Go.Vd
open Go.RowKit
abbrev Id:=List Nat
inductive D where
 |junk
 |bool (b:Bool)
 |int (k:IntKind) (n:Int)
 |str (s:List UInt8)
 |slice (nl:Bool) (t:Id) (xs:List D)
 |ptr (i:Id) (o:Nat)
 |eptr (ds:List D)
 |row (i:Id) (n:Nat)
 |nilptr
 |agg (cs:List D)
 |tup (vs:List D)
 |iface (t:TypeId) (d:D)
 |nilIface
 |fn (f:FuncId) (caps:List D)
 |nilFunc
 |nilMap
 |tok (e:Nat)
 |it (s:List UInt8) (p:Nat)
 |itp (i:Id)
instance:Inhabited D:=⟨.junk⟩
def D.leaf:D->Bool
 | .agg _| .tup _| .junk| .tok _| .it _ _=>false
 |_=>true
def D.gh:D->Bool
 | .tok _| .it _ _=>true
 |_=>false
def D.isRw:D->Bool
 | .nilIface| .str []=>true
 |_=>false
def D.cells:D->List D
 | .agg cs=>cs
 |d=>[d]
def D.un1:D->D
 | .slice nl _ xs=> .slice nl [] xs
 |d=>d
def D.un:D->D
 | .agg cs=> .agg (cs.map D.un1)
 | .slice nl _ xs=> .slice nl [] xs
 |d=>d
def D.calm1:D->Bool
 | .slice _ t _=>t.isEmpty
 | .ptr _ _| .eptr _| .row _ _| .itp _| .it _ _=>false
 | .fn _ cs=>cs.isEmpty
 | .agg _| .tup _=>false
 |_=>true
def D.calm:D->Bool
 | .agg cs=>cs.all D.calm1
 |d=>d.calm1
def flat:List D->List D
 |[]=>[]
 |x::xs=>x.cells++flat xs
structure Gh where
 G:Nat->Nat
 G0:Nat->Nat
 dl:Id->Option Nat
 tb:Id->Option (Nat×Nat×Nat×Nat)
inductive Rep (w:World) (g:Gh):D->Value->Prop
 |junk (v:Value):Rep w g .junk v
 |bool (b:Bool):Rep w g (.bool b) (.bool b)
 |int (k:IntKind) (n:Int):Rep w g (.int k n) (.int k n)
 |str (s:List UInt8):Rep w g (.str s) (.string ⟨s.toArray⟩)
 |nils (t:Id):Rep w g (.slice true t []) (.slice none 0 0)
 |slice (t:Id) (xs:List D) (a:Addr) (n c sz:Nat) (vv:Nat->Value):
   n=xs.length->n<=c->(∀d∈xs,d.cells.length=sz)->
   (∀j,j<n*sz->w.cell? (a.add j)=some (vv j))->
   (∀j,j<n*sz->(vv j).oneCell'=true)->
   (∀(j:Nat) d,(flat xs)[j]?=some d->Rep w g d (vv j))->
   (0<n*sz->a.off+n*sz<=g.G a.block)->
   (t≠[]->a.off=0∧a.spot=none∧g.tb t=some (a.block,n,c,sz))->(∀d∈xs,d.calm=true)->
   Rep w g (.slice false t xs) (.slice (some a) n c)
 |ptr (i:Id) (o b:Nat):g.dl i=some b->Rep w g (.ptr i o) (.pointer (some ⟨b,o,none⟩))
 |row (i:Id) (n c b:Nat):n<=c->g.dl i=some b->Rep w g (.row i n) (.slice (some ⟨b,0,none⟩) n c)
 |eptr (ds:List D) (a:Addr) (vv:Nat->Value):
   (∀j,j<ds.length->w.cell? (a.add j)=some (vv j))->
   (∀j,j<ds.length->(vv j).oneCell'=true)->
   (∀(j:Nat) d,ds[j]?=some d->Rep w g d (vv j))->
   (0<ds.length->a.off+ds.length<=g.G a.block)->(∀d∈ds,d.calm=true)->
   Rep w g (.eptr ds) (.pointer (some a))
 |nilp:Rep w g .nilptr (.pointer none)
 |agg (ds:List D) (vs:List Value):vs.length=ds.length->(∀v∈vs,v.oneCell'=true)->
   (∀(j:Nat) d v,ds[j]?=some d->vs[j]?=some v->Rep w g d v)->Rep w g (.agg ds) (.agg vs.toArray)
 |tup (ds:List D) (vs:List Value):vs.length=ds.length->
   (∀(j:Nat) d v,ds[j]?=some d->vs[j]?=some v->Rep w g d v)->Rep w g (.tup ds) (.tuple vs.toArray)
 |iface (t:TypeId) (d:D) (v:Value):d.calm=true->Rep w g d v->Rep w g (.iface t d) (.iface t v)
 |nili:Rep w g .nilIface .nilIface
 |fn (f:FuncId) (ds:List D) (vs:List Value):vs.length=ds.length->
   (∀(j:Nat) d v,ds[j]?=some d->vs[j]?=some v->Rep w g d v)->Rep w g (.fn f ds) (.func (.func f) #[] vs.toArray)
 |nilf:Rep w g .nilFunc .nilFunc
 |nilm:Rep w g .nilMap (.map none)
 |itp (i:Id) (b:Nat):g.tb i=some (b,0,0,0)->Rep w g (.itp i) (.pointer (some ⟨b,0,none⟩))
structure Ext (w:World) (g:Gh) (w':World) (g':Gh):Prop where
 cell:∀p:Addr,p.off<g.G p.block->w'.cell? p=w.cell? p
 G:∀b,g.G b<=g'.G b
 dl:∀i b,g.dl i=some b->g'.dl i=some b
 G0:g'.G0=g.G0
 tb:∀i x,g.tb i=some x->g'.tb i=some x
def Ext.refl(w:World)(g:Gh):Ext w g w g:=⟨λ_ _=>rfl,λ_=>Qo _,λ_ _ h=>h,rfl,λ_ _ h=>h⟩
theorem Ext.trans {w w' w'' : World} {g g' g'' : Gh} (h : Ext w g w' g') (k : Ext w' g' w'' g'') : Ext w g w'' g'' :=
 ⟨fun p hp => (k.cell p (Q_ hp (h.G _))).trans (h.cell p hp), fun b => Zb (h.G b) (k.G b),
  fun i b hi => k.dl i b (h.dl i b hi), k.G0.trans h.G0, fun i x hi => k.tb i x (h.tb i x hi)⟩
def DX(a:Addr)(j:Nat):(a.add j).block=a.block:=by unfold Addr.add;split<;>rfl
def GE(a:Addr)(j:Nat):(a.add j).off=a.off+j:=by unfold Addr.add;split<;>simp_all
def add_add(a:Addr)(i j:Nat):(a.add i).add j=a.add (i+j):=by
 unfold Addr.add;by_cases hi:i=0<;>by_cases hj:j=0<;>simp[hi,hj,Nat.add_assoc]
def Rep.ext{w w':World}{g g':Gh}{d:D}{v:Value}(h:Rep w g d v)(x:Ext w g w' g'):Rep w' g' d v:=by
 induction h with
 |junk v=>exact .junk v
 |bool b=>exact .bool b
 |int k n=>exact .int k n
 |str s=>exact .str s
 |nils t=>exact .nils t
 |slice t xs a n c sz vv h1 h2 h3 h4 h5 _ h7 h8 h9 ih=>
  refine .slice t xs a n c sz vv h1 h2 h3 (λj hj=>?_) h5 ih (λh=>Zb (h7 h) (x.G _)) (λht=>?_) h9
  ·rw[x.cell _ (by rw[DX,GE];have:=h7 (by omega);omega)];exact h4 j hj
  ·obtain⟨p,q,r⟩:=h8 ht;exact⟨p,q,x.tb _ _ r⟩
 |ptr i o b h1=>exact .ptr i o b (x.dl _ _ h1)
 |row i n c b h0 h1=>exact .row i n c b h0 (x.dl _ _ h1)
 |eptr ds a vv h1 h2 _ h4 h5 ih=>
  refine .eptr ds a vv (λj hj=>?_) h2 ih (λh=>Zb (h4 h) (x.G _)) h5;rw[x.cell _ (by rw[DX,GE];have:=h4 (by omega);omega)];exact h1 j hj
 |nilp=>exact .nilp
 |agg ds vs h1 h2 _ ih=>exact .agg ds vs h1 h2 ih
 |tup ds vs h1 _ ih=>exact .tup ds vs h1 ih
 |iface t d v h1 _ ih=>exact .iface t d v h1 ih
 |nili=>exact .nili
 |fn f ds vs h1 _ ih=>exact .fn f ds vs h1 ih
 |nilf=>exact .nilf
 |nilm=>exact .nilm
 |itp i b h1=>exact .itp i b (x.tb _ _ h1)
abbrev Mem:=Id->Nat->Option D
def ItrOk(B:Nat)(m:Mem)(w:World)(g:Gh):Prop:=
 (∀i s p,m i 1=some (.it s p)->∃b,g.tb i=some (b,0,0,0)∧B<=b∧w.heap[b]?=some (.stringIter ⟨s.toArray⟩ p)∧g.G b=0∧∀i',g.dl i'≠some b)∧
 ∀i i' s p s' p' b x x',m i 1=some (.it s p)->m i' 1=some (.it s' p')->g.tb i=some (b,x)->g.tb i'=some (b,x')->i=i'
theorem ItrOk.to {B : Nat} {m m' : Mem} {w w' : World} {g g' : Gh} (h : ItrOk B m w g) (hm : ∀ i s p, m' i 1 = some (.it s p) → m i 1 = some (.it s p))
  (hb : ∀ i b s p, m i 1 = some (.it s p) → g.tb i = some (b, 0, 0, 0) → B ≤ b → w.heap[b]? = some (.stringIter ⟨s.toArray⟩ p) → g.G b = 0 → (∀ i', g.dl i' ≠ some b) →
   g'.tb i = g.tb i ∧ w'.heap[b]? = w.heap[b]? ∧ g'.G b = 0 ∧ ∀ i', g'.dl i' ≠ some b) : ItrOk B m' w' g' := by
 refine ⟨fun i s p hi => ?_, fun i i' s p s' p' b x x' h1 h2 h3 h4 => ?_⟩
 ·obtain ⟨b, t1, t2, t3, t4, t5⟩ := h.1 i s p (hm _ _ _ hi)
  obtain ⟨q1, q2, q3, q4⟩ := hb i b s p (hm _ _ _ hi) t1 t2 t3 t4 t5
  exact ⟨b, q1.trans t1, t2, q2.trans t3, q3, q4⟩
 ·obtain ⟨c, t1, t2, t3, t4, t5⟩ := h.1 i s p (hm _ _ _ h1)
  obtain ⟨c', u1, u2, u3, u4, u5⟩ := h.1 i' s' p' (hm _ _ _ h2)
  rw [(hb i c s p (hm _ _ _ h1) t1 t2 t3 t4 t5).1] at h3
  rw [(hb i' c' s' p' (hm _ _ _ h2) u1 u2 u3 u4 u5).1] at h4
  exact h.2 i i' s p s' p' b x x' (hm _ _ _ h1) (hm _ _ _ h2) h3 h4
structure InvM (P:Program) (B:Nat) (w0:World) (m:Mem) (w:World) (g:Gh):Prop where
 below:Below B w0 w
 size:B<=w.heap.size
 gz:∀b,w.heap.size<=b->g.G b=0
 old:∀b,b<B->g.G b=g.G0 b
 obj:∀i b,g.dl i=some b->B<=b∧g.G b=0∧∃vs T,w.heap[b]?=some (.cells vs T (0,0))∧
  ∀o d,m i o=some d->∃v,vs[o]?=some v∧v.oneCell'=true∧Rep w g d v
 inj:∀i i' b,g.dl i=some b->g.dl i'=some b->i=i'
 kind:∀i o d,m i o=some d->g.dl i=none->d.gh=true
 tok:∀i e,m i 0=some (.tok (e+1))->∃b n c sz cur,g.tb i=some (b,n,c,sz)∧B<=b∧0<sz∧
  (∃t z,P.info? e=some t∧t.size=sz∧t.zero=some z∧z.cells.size=sz)∧
  w.heap[b]?=some (.cells cur e (0,0))∧n<=c∧c<=maxLen∧cur.size=c*sz∧g.G b=n*sz∧∀i',g.dl i'≠some b
 tinj:∀i i' e e' b x x',m i 0=some (.tok (e+1))->m i' 0=some (.tok (e'+1))->g.tb i=some (b,x)->g.tb i'=some (b,x')->i=i'
 itr:ItrOk B m w g
def BR(m:Mem)(g:Gh)(i:Id):Prop:=(∀o,m i o=none)∧g.dl i=none∧g.tb i=none
def Mem.put(m:Mem)(i:Id)(o:Nat)(ds:List D):Mem:=λi' o'=>if i'=i∧o<=o'∧o'<o+ds.length then ds[o'-o]? else m i' o'
def Mem.put_other{m:Mem}{i i':Id}{o o':Nat}{ds:List D}(h:i'≠i):m.put i o ds i' o'=m i' o':=by simp[Mem.put,h]
def Mem.put_same{m:Mem}{i:Id}{o j:Nat}{ds:List D}(h:j<ds.length):m.put i o ds i (o+j)=ds[j]?:=by
 simp[Mem.put,h,Nat.add_sub_cancel_left]
def Mem.put_out{m:Mem}{i:Id}{o o':Nat}{ds:List D}(h:¬(o<=o'∧o'<o+ds.length)):m.put i o ds i o'=m i o':=by
 simp only[Mem.put,true_and];rw[if_neg h]
def A3(w:World)(g:Gh)(ds:List D)(vs:List Value):Prop:=
 vs.length=ds.length∧(∀v∈vs,v.oneCell'=true)∧∀(j:Nat) d v,ds[j]?=some d->vs[j]?=some v->Rep w g d v
def A3.ext{w w':World}{g g':Gh}{ds:List D}{vs:List Value}(h:A3 w g ds vs)(x:Ext w g w' g'):A3 w' g' ds vs:=
 ⟨h.1,h.2.1,λj d v hd hv=>(h.2.2 j d v hd hv).ext x⟩
def A3.no_it{w:World}{g:Gh}{ds:List D}{vs:List Value}(h:A3 w g ds vs){j:Nat}{s:List UInt8}{p:Nat}(hj:ds[j]?=some (.it s p)):False:=by
 have hl:j<vs.length:=by rw[h.1];exact(Qd.1 hj).1
 have:=h.2.2 j _ vs[j] hj (Qc hl);cases this
def put_it{w:World}{g:Gh}{m:Mem}{ds:List D}{vs:List Value}(h:A3 w g ds vs){i i':Id}{o:Nat}{s:List UInt8}{p:Nat}(hj:m.put i o ds i' 1=some (.it s p)):m i' 1=some (.it s p)∧(i'=i->¬(o<=1∧1<o+ds.length)):=by
 unfold Mem.put at hj;split at hj
 ·exact(h.no_it hj).elim
 ·rename_i hn;exact⟨hj,λe hc=>hn ⟨e,hc⟩⟩
def A3.nil(w:World)(g:Gh):A3 w g [] []:=⟨rfl,by simp,by simp⟩
def A3.one{w:World}{g:Gh}{d:D}{v:Value}(h:Rep w g d v)(hl:v.oneCell'=true):A3 w g [d] [v]:=by
 refine⟨rfl,by simpa using hl,λj d' v' hd hv=>?_⟩;cases j with
 |zero=>simp at hd hv;subst hd hv;exact h
 |succ j=>simp at hd
def A3.append{w:World}{g:Gh}{ds ds':List D}{vs vs':List Value}(h:A3 w g ds vs)(k:A3 w g ds' vs'):A3 w g (ds++ds') (vs++vs'):=by
 refine⟨by simp[h.1,k.1],λv hv=>?_,λj d v hd hv=>?_⟩
 ·rcases Qh.1 hv with hv|hv
  ·exact h.2.1 v hv
  ·exact k.2.1 v hv
 ·by_cases hj:j<ds.length
  ·rw[Qj hj]at hd;rw[Qj (by rw[h.1];exact hj)]at hv;exact h.2.2 j d v hd hv
  ·rw[Qm (by omega)]at hd;rw[Qm (by rw[h.1];omega),h.1]at hv;exact k.2.2 _ d v hd hv
section
variable{P:Program}{B:Nat}{w0 w w':World}{m:Mem}{g g':Gh}
def InvM.lt(h:InvM P B w0 m w g){i:Id}{b:Nat}(hb:g.dl i=some b):b<w.heap.size:=by
 obtain⟨_,_,vs,T,hh,_⟩:=h.obj i b hb;exact(Qf.1 hh).1
def Gh.over(g:Gh)(w w':World):Gh:=
 {g with G:=λb=>if b<w.heap.size then g.G b else match w'.heap[b]? with|some (.cells c _ _)=>c.size|_=>0}
def Ext.over(hgz:∀b,w.heap.size<=b->g.G b=0)(hb:Below w.heap.size w w'):Ext w g w' (g.over w w'):=by
 refine⟨λp hp=>?_,λb=>?_,λi b h=>h,rfl,λi x h=>h⟩
 ·by_cases hlt:p.block<w.heap.size
  ·exact hb.cell hlt
  ·rw[hgz _ (by omega)]at hp;omega
 ·simp only[Gh.over];split
  ·exact Qo _
  ·rw[hgz b (by omega)];exact Zf _
def InvM.over(h:InvM P B w0 m w g)(hb:Below w.heap.size w w'):InvM P B w0 m w' (g.over w w'):=by
 have x:=Ext.over h.gz hb;refine⟨h.below.trans (hb.mono h.size),Zb h.size hb.size,λb hbz=>?_,λb hlt=>by simp only[Gh.over];rw[if_pos (Q_ hlt h.size)];exact h.old b hlt,λi b hi=>?_,h.inj,h.kind,λi e hi=>?_,h.tinj,h.itr.to (λ_ _ _ e=>e) λi b s p _ _ _ e1 e2 e3=>?_⟩
 rotate_right
 ·have hlt:b<w.heap.size:=(Qf.1 e1).1;exact⟨rfl,hb.block b hlt,by simp[Gh.over,hlt,e2],e3⟩
 ·simp only[Gh.over];rw[if_neg (by have:=hb.size;omega),Array.getElem?_eq_none hbz]
 ·obtain⟨p,q,vs,T,hh,r⟩:=h.obj i b hi;have hlt:=h.lt hi;refine⟨p,by simp[Gh.over,hlt,q],vs,T,(hb.block b hlt).trans hh,λo d hm=>?_⟩;obtain⟨v,r1,r2,r3⟩:=r o d hm;exact⟨v,r1,r2,r3.ext x⟩
 ·obtain⟨b,n,c,sz,cur,t1,t2,t3,t4,t5,t6,t7,t8,t9,t10⟩:=h.tok i e hi;have hlt:b<w.heap.size:=(Qf.1 t5).1;exact⟨b,n,c,sz,cur,t1,t2,t3,t4,(hb.block b hlt).trans t5,t6,t7,t8,by simp[Gh.over,hlt,t9],t10⟩
def InvM.drew(h:InvM P B w0 m w g):InvM P B w0 m w.drew g:=by
 have x:Ext w g w.drew g:=⟨λ_ _=>rfl,λ_=>Qo _,λ_ _ h=>h,rfl,λ_ _ h=>h⟩;refine⟨h.below.drew,h.size,h.gz,h.old,λi b hi=>?_,h.inj,h.kind,λi e hi=>?_,h.tinj,h.itr.to (λ_ _ _ e=>e) λi b s p _ _ _ e1 e2 e3=>⟨rfl,rfl,e2,e3⟩⟩
 ·obtain⟨p,q,vs,T,hh,r⟩:=h.obj i b hi;exact⟨p,q,vs,T,hh,λo d hm=>let⟨v,r1,r2,r3⟩:=r o d hm;⟨v,r1,r2,r3.ext x⟩⟩
 ·exact h.tok i e hi
def Ext.drew(w:World)(g:Gh):Ext w g w.drew g:=⟨λ_ _=>rfl,λ_=>Qo _,λ_ _ h=>h,rfl,λ_ _ h=>h⟩
def Gh.obj(g:Gh)(i:Id)(b:Nat):Gh:={g with dl:=λi'=>if i'=i then some b else g.dl i'}
def Ext.newObj{i:Id}(o:Obj)(hgz:∀b,w.heap.size<=b->g.G b=0)(hf:g.dl i=none):Ext w g (w.alloc o) (g.obj i w.heap.size):=by
 refine⟨λp hp=>?_,λb=>Qo _,λi' b h=>?_,rfl,λi x h=>h⟩
 ·by_cases hlt:p.block<w.heap.size
  ·exact World.cell?_alloc_lt w o p hlt
  ·rw[hgz _ (by omega)]at hp;omega
 ·simp only[Gh.obj];split
  ·rename_i e;subst e;rw[hf]at h;cases h
  ·exact h
def InvM.newObj(h:InvM P B w0 m w g){i:Id}(hf:BR m g i){ds:List D}{vs:List Value}(T:TypeId)(hr:A3 w g ds vs):
  InvM P B w0 (m.put i 0 ds) (w.alloc (.cells vs.toArray T)) (g.obj i w.heap.size):=by
 have x:=Ext.newObj (i:=i) (Obj.cells vs.toArray T) h.gz hf.2.1;have ne:∀i' b,g.dl i'=some b->i'≠i:=λi' b hb e=>by subst e;rw[hf.2.1]at hb;cases hb
 refine⟨h.below.alloc h.size _,by have:=h.size;simp;omega,λb hb=>h.gz b (by simp at hb;omega),h.old,λi' b hi=>?_,λi1 i2 b h1 h2=>?_,λi' o d hm hd=>?_,λi' e hi=>?_,λi1 i2 e e' b y y' h1 h2 h3 h4=>?_,h.itr.to (λi' s p e=>(put_it hr e).1) λi' b s p _ _ _ e1 e2 e3=>?_⟩
 rotate_right
 ·have hlt:b<w.heap.size:=(Qf.1 e1).1;refine⟨rfl,Below.heap_alloc w _ b hlt,e2,λi1 h1=>?_⟩;simp only[Gh.obj]at h1;split at h1
  ·simp only[Qa]at h1;omega
  ·exact e3 i1 h1
 ·simp only[Gh.obj]at hi;split at hi
  ·rename_i e;subst e;simp only[Qa]at hi;subst hi;refine⟨h.size,h.gz _ (Qo _),vs.toArray,T,heap_alloc_new w _,λo d hm=>?_⟩;by_cases ho:o<ds.length
   ·have hm':m.put i' 0 ds i' (0+o)=ds[o]?:=Mem.put_same ho;rw[QM]at hm';rw[hm']at hm;have hv:o<vs.length:=by rw[hr.1];exact ho
    refine⟨vs[o],by simp[hv],hr.2.1 _ (Q2 hv),?_⟩;exact(hr.2.2 o d vs[o] hm (Qc hv)).ext x
   ·rw[Mem.put_out (by omega),hf.1 o]at hm;cases hm
  ·rename_i hne;obtain⟨p,q,vs',T',hh,r⟩:=h.obj i' b hi;refine⟨p,q,vs',T',(Below.heap_alloc w _ b (h.lt hi)).trans hh,λo d hm=>?_⟩;rw[Mem.put_other hne]at hm;obtain⟨v,r1,r2,r3⟩:=r o d hm;exact⟨v,r1,r2,r3.ext x⟩
 ·simp only[Gh.obj]at h1 h2;split at h1<;>split at h2
  ·simp_all
  ·simp only[Qa]at h1;subst h1;have:=h.lt h2;omega
  ·simp only[Qa]at h2;subst h2;have:=h.lt h1;omega
  ·exact h.inj _ _ _ h1 h2
 ·simp only[Gh.obj]at hd;split at hd
  ·cases hd
  ·rename_i hne;rw[Mem.put_other hne]at hm;exact h.kind _ _ _ hm hd
 ·by_cases hne:i'=i
  ·subst hne;by_cases ho:0<ds.length
   ·have hm':m.put i' 0 ds i' (0+0)=ds[0]?:=Mem.put_same ho;rw[Zm]at hm';rw[hm']at hi;have hv:0<vs.length:=by rw[hr.1];exact ho
    have:=hr.2.2 0 _ vs[0] hi (Qc hv);cases this
   ·rw[Mem.put_out (by omega),hf.1 0]at hi;cases hi
  ·rw[Mem.put_other hne]at hi;obtain⟨b,n,c,sz,cur,t1,t2,t3,t4,t5,t6,t7,t8,t9,t10⟩:=h.tok i' e hi;have hlt:b<w.heap.size:=(Qf.1 t5).1;refine⟨b,n,c,sz,cur,t1,t2,t3,t4,(Below.heap_alloc w _ b hlt).trans t5,t6,t7,t8,t9,λi1 h1=>?_⟩;simp only[Gh.obj]at h1;split at h1
   ·simp only[Qa]at h1;omega
   ·exact t10 i1 h1
 ·have nt:∀e,m.put i 0 ds i 0≠some (.tok (e+1)):=by
   intro e hi;by_cases ho:0<ds.length
   ·have hm':m.put i 0 ds i (0+0)=ds[0]?:=Mem.put_same ho;rw[Zm]at hm';rw[hm']at hi;have hv:0<vs.length:=by rw[hr.1];exact ho
    have:=hr.2.2 0 _ vs[0] hi (Qc hv);cases this
   ·rw[Mem.put_out (by omega),hf.1 0]at hi;cases hi
  have n1:i1≠i:=λe=>by subst e;exact nt _ h1
  have n2:i2≠i:=λe=>by subst e;exact nt _ h2
  rw[Mem.put_other n1]at h1;rw[Mem.put_other n2]at h2;exact h.tinj _ _ _ _ _ _ _ h1 h2 h3 h4
def Rep.newObj(w:World)(g:Gh)(i:Id)(b:Nat):Rep w (g.obj i b) (.ptr i 0) (.pointer (some ⟨b,0,none⟩)):=
 .ptr i 0 b (by simp[Gh.obj])
def Dv(w:World)(b:Nat)(cs:Array Value)(p:Addr)(h:p.block≠b):(w.setRow b cs).cell? p=w.cell? p:=by
 simp only[World.cell?];rw[setRow_other w b p.block cs h]
def Ext.setRow{b:Nat}{cs:Array Value}(hG:g.G b=0):Ext w g (w.setRow b cs) g:=by
 refine⟨λp hp=>Dv w b cs p (λe=>?_),λ_=>Qo _,λ_ _ h=>h,rfl,λ_ _ h=>h⟩;subst e;omega
def InvM.store(h:InvM P B w0 m w g){i:Id}{b o:Nat}(hd:g.dl i=some b){vs:Array Value}{T:TypeId}(hh:w.heap[b]?=some (.cells vs T (0,0)))
  {ds:List D} {us:List Value} (hr:A3 w g ds us) (ho:o+ds.length<=vs.size):
  InvM P B w0 (m.put i o ds) (w.setRow b (vs.toList.take o++us++vs.toList.drop (o+us.length)).toArray) g:=by
 obtain⟨hB,hG,vs',T',hh',hobj⟩:=h.obj i b hd;rw[hh]at hh';simp only[Qa,Obj.cells.injEq]at hh';obtain⟨rfl,rfl,_⟩:=hh';have x:Ext w g (w.setRow b (vs.toList.take o++us++vs.toList.drop (o+us.length)).toArray) g:=Ext.setRow hG;have hsz:(w.setRow b (vs.toList.take o++us++vs.toList.drop (o+us.length)).toArray).heap.size=w.heap.size:=by simp[World.setRow]
 have hoth:∀k,k≠b->(w.setRow b (vs.toList.take o++us++vs.toList.drop (o+us.length)).toArray).heap[k]?=w.heap[k]?:=λk hk=>setRow_other w b k _ hk
 refine⟨⟨h.below.os,h.below.tape,h.below.output,by rw[hsz];exact h.below.size,λk hk=>(hoth k (by omega)).trans (h.below.block k hk)⟩,by rw[hsz];exact h.size,by rw[hsz];exact h.gz,h.old,λi' b' hi=>?_,h.inj,λi' o' d hm hn=>?_,λi' e hi=>?_,λi1 i2 e e' b' y y' h1 h2 h3 h4=>?_,h.itr.to (λi' s p e=>(put_it hr e).1) λi' b' s p _ _ _ e1 e2 e3=>⟨rfl,hoth b' (λe=>e3 i (by rw[e];exact hd)),e2,e3⟩⟩
 ·by_cases hib:i'=i
  ·subst hib;rw[hd]at hi;simp only[Qa]at hi;subst hi;refine⟨hB,hG,_,T,setRow_heap w b vs _ T _ hh,λo' d hm=>?_⟩;have hlen:us.length=ds.length:=hr.1;by_cases hin:o<=o'∧o'<o+ds.length
   ·have hm':m.put i' o ds i' (o+(o'-o))=ds[o'-o]?:=Mem.put_same (by omega);rw[show o+(o'-o)=o' by omega]at hm';rw[hm']at hm;have hv:o'-o<us.length:=by omega
    refine⟨us[o'-o],?_,hr.2.1 _ (Q2 hv),(hr.2.2 _ d _ hm (Qc hv)).ext x⟩;have ht:(vs.toList.take o).length=o:=by rw[QV];simp;omega
    simp only[QL,QN];rw[Qm (by omega),ht,Qj hv];exact Qc hv
   ·rw[Mem.put_out hin]at hm;obtain⟨v,r1,r2,r3⟩:=hobj o' d hm;refine⟨v,?_,r2,r3.ext x⟩;have ht:(vs.toList.take o).length=o:=by rw[QV];simp;omega
    simp only[QL,QN];by_cases hlo:o'<o
    ·rw[Qj (by omega),Ql hlo];simpa using r1
    ·rw[Qm (by omega),ht,Qm (by omega),Qq];rw[show o+us.length+(o'-o-us.length)=o' by omega];simpa using r1
  ·obtain⟨p,q,vs1,T1,hh1,r⟩:=h.obj i' b' hi;have hne:b'≠b:=λe=>hib (h.inj i' i b' hi (by rw[e];exact hd))
   refine⟨p,q,vs1,T1,(hoth b' hne).trans hh1,λo' d hm=>?_⟩;rw[Mem.put_other hib]at hm;obtain⟨v,r1,r2,r3⟩:=r o' d hm;exact⟨v,r1,r2,r3.ext x⟩
 ·have:i'≠i:=λe=>by subst e;rw[hd]at hn;cases hn
  rw[Mem.put_other this]at hm;exact h.kind _ _ _ hm hn
 ·have hne:i'≠i:=by
   rintro rfl;by_cases hin:o<=0∧0<o+ds.length
   ·have hm':m.put i' o ds i' (o+(0-o))=ds[0-o]?:=Mem.put_same (by omega);rw[show o+(0-o)=0 by omega]at hm';rw[hm']at hi;have hv:0-o<us.length:=by have:=hr.1;omega
    have:=hr.2.2 _ _ _ hi (Qc hv);cases this
   ·rw[Mem.put_out hin]at hi;obtain⟨v,r1,r2,r3⟩:=hobj 0 _ hi;cases r3
  rw[Mem.put_other hne]at hi;obtain⟨b1,n,c,sz,cur,t1,t2,t3,t4,t5,t6,t7,t8,t9,t10⟩:=h.tok i' e hi;exact⟨b1,n,c,sz,cur,t1,t2,t3,t4,(hoth b1 (λe=>t10 i (by rw[e];exact hd))).trans t5,t6,t7,t8,t9,t10⟩
 ·have nt:∀e,m.put i o ds i 0≠some (.tok (e+1)):=by
   intro e hi;by_cases hin:o<=0∧0<o+ds.length
   ·have hm':m.put i o ds i (o+(0-o))=ds[0-o]?:=Mem.put_same (by omega);rw[show o+(0-o)=0 by omega]at hm';rw[hm']at hi;have hv:0-o<us.length:=by have:=hr.1;omega
    have:=hr.2.2 _ _ _ hi (Qc hv);cases this
   ·rw[Mem.put_out hin]at hi;obtain⟨v,r1,r2,r3⟩:=hobj 0 _ hi;cases r3
  have n1:i1≠i:=λe=>by subst e;exact nt _ h1
  have n2:i2≠i:=λe=>by subst e;exact nt _ h2
  rw[Mem.put_other n1]at h1;rw[Mem.put_other n2]at h2;exact h.tinj _ _ _ _ _ _ _ h1 h2 h3 h4
end
def Gh.tok(g:Gh)(t:Id)(b n c sz:Nat):Gh:=
 {g with G:=λb'=>if b'=b then n*sz else g.G b',tb:=λi=>if i=t then some (b,n,c,sz)else g.tb i}
section
variable{P:Program}{B:Nat}{w0 w w':World}{m:Mem}{g g':Gh}
def InvM.kill(h:InvM P B w0 m w g){t:Id}(hd:g.dl t=none):InvM P B w0 (m.put t 0 [.tok 0]) w g:=by
 have hput:∀i o,m.put t 0 [.tok 0] i o=if i=t∧o=0 then some (.tok 0)else m i o:=by
  intro i o;by_cases hi:i=t
  ·subst hi;cases o with
   |zero=>simp[Mem.put]
   |succ o=>simp[Mem.put]
  ·simp[Mem.put,hi]
 refine⟨h.below,h.size,h.gz,h.old,λi b hi=>?_,h.inj,λi o d hm hn=>?_,λi e hi=>?_,λi1 i2 e e' b y y' h1 h2 h3 h4=>?_,h.itr.to (λi s p e=>by rw[hput,if_neg (by simp)]at e;exact e) λi b s p _ _ _ e1 e2 e3=>⟨rfl,rfl,e2,e3⟩⟩
 ·obtain⟨p,q,vs,T,hh,r⟩:=h.obj i b hi;refine⟨p,q,vs,T,hh,λo d hm=>?_⟩;rw[hput,if_neg (by rintro⟨rfl,_⟩;rw[hd]at hi;cases hi)]at hm;exact r o d hm
 ·rw[hput]at hm;split at hm
  ·rw[←QJ hm];rfl
  ·exact h.kind _ _ _ hm hn
 ·rw[hput]at hi;split at hi
  ·simp at hi
  ·exact h.tok i e hi
 ·rw[hput]at h1 h2;split at h1
  ·simp at h1
  ·split at h2
   ·simp at h2
   ·exact h.tinj _ _ _ _ _ _ _ h1 h2 h3 h4
def BR.kill{t t':Id}(h:BR m g t)(hne:t≠t'):BR (m.put t' 0 [.tok 0]) g t:=
 ⟨λo=>by rw[Mem.put_other hne];exact h.1 o,h.2⟩
def Bf(m:Mem)(t:Id)(x:Nat)(i:Id)(o:Nat):m.put t 0 [.tok x] i o=if i=t∧o=0 then some (.tok x)else m i o:=by
 by_cases hi:i=t
 ·subst hi;cases o with
  |zero=>simp[Mem.put]
  |succ o=>simp[Mem.put]
 ·simp[Mem.put,hi]
def Ext.newTok{t:Id}{b n c sz:Nat}(o:Obj)(hgz:∀b,w.heap.size<=b->g.G b=0)(hf:g.tb t=none)(hb:b=w.heap.size):Ext w g (w.alloc o) (g.tok t b n c sz):=by
 refine⟨λp hp=>?_,λb'=>?_,λi' b h=>h,rfl,λi x h=>?_⟩
 ·by_cases hlt:p.block<w.heap.size
  ·exact World.cell?_alloc_lt w o p hlt
  ·rw[hgz _ (by omega)]at hp;omega
 ·simp only[Gh.tok];split
  ·rename_i e;subst e;rw[hgz _ (by omega)];exact Zf _
  ·exact Qo _
 ·simp only[Gh.tok];split
  ·rename_i e;subst e;rw[hf]at h;cases h
  ·exact h
def InvM.newTok(h:InvM P B w0 m w g){t:Id}(hf:BR m g t){e n c sz:Nat}{cur:Array Value}(hsz:0<sz)
  (hi:∃ti z,P.info? e=some ti∧ti.size=sz∧ti.zero=some z∧z.cells.size=sz) (hnc:n<=c) (hc:c<=maxLen) (hcur:cur.size=c*sz):
  InvM P B w0 (m.put t 0 [.tok (e+1)]) (w.alloc (.cells cur e)) (g.tok t w.heap.size n c sz):=by
 have x:=Ext.newTok (t:=t) (n:=n) (c:=c) (sz:=sz) (Obj.cells cur e) h.gz hf.2.2 rfl;refine⟨h.below.alloc h.size _,by have:=h.size;simp;omega,λb hb=>?_,λb hlt=>by simp only[Gh.tok];rw[if_neg (by have:=h.size;omega)];exact h.old b hlt,λi b hi'=>?_,h.inj,λi o d hm hn=>?_,λi e' hi'=>?_,λi1 i2 e1 e2 b y y' h1 h2 h3 h4=>?_,h.itr.to (λi s p e=>by rw[Bf,if_neg (by simp)]at e;exact e) λi b s p e0 _ _ e1 e2 e3=>?_⟩
 rotate_right
 ·have hlt:b<w.heap.size:=(Qf.1 e1).1;have hit:i≠t:=by rintro rfl;rw[hf.1 1]at e0;cases e0
  exact⟨by simp[Gh.tok,hit],Below.heap_alloc w _ b hlt,by simp only[Gh.tok];rw[if_neg (by omega)];exact e2,e3⟩
 ·simp only[Gh.tok];simp at hb;rw[if_neg (by omega)];exact h.gz b (by omega)
 ·obtain⟨p,q,vs,T,hh,r⟩:=h.obj i b hi';have hlt:=h.lt hi';refine⟨p,by simp only[Gh.tok];rw[if_neg (by omega)];exact q,vs,T,(Below.heap_alloc w _ b hlt).trans hh,λo d hm=>?_⟩;rw[Bf,if_neg (by rintro⟨rfl,_⟩;simp only[Gh.tok]at hi';rw[hf.2.1]at hi';cases hi')]at hm;obtain⟨v,r1,r2,r3⟩:=r o d hm;exact⟨v,r1,r2,r3.ext x⟩
 ·rw[Bf]at hm;split at hm
  ·rw[←QJ hm];rfl
  ·exact h.kind _ _ _ hm hn
 ·rw[Bf]at hi';split at hi'
  ·rename_i hc';obtain⟨rfl,_⟩:=hc';simp only[Qa,D.tok.injEq,Zh]at hi';subst hi';refine⟨w.heap.size,n,c,sz,cur,by simp[Gh.tok],h.size,hsz,hi,heap_alloc_new w _,hnc,hc,hcur,by simp[Gh.tok],λi' h'=>?_⟩;have:=h.lt h';omega
  ·rename_i hne;obtain⟨b,n',c',sz',cur',t1,t2,t3,t4,t5,t6,t7,t8,t9,t10⟩:=h.tok i e' hi';have hlt:b<w.heap.size:=(Qf.1 t5).1;have hit:i≠t:=by
    rintro rfl;rw[hf.1 0]at hi';cases hi'
   exact⟨b,n',c',sz',cur',by simp[Gh.tok,hit,t1],t2,t3,t4,(Below.heap_alloc w _ b hlt).trans t5,t6,t7,t8,by simp only[Gh.tok];rw[if_neg (by omega)];exact t9,t10⟩
 ·have old:∀i e,m i 0=some (.tok (e+1))->∀b y,(g.tok t w.heap.size n c sz).tb i=some (b,y)->i≠t∧g.tb i=some (b,y)∧b<w.heap.size:=by
   intro i e hm b y hb;have hit:i≠t:=by rintro rfl;rw[hf.1 0]at hm;cases hm
   simp only[Gh.tok,if_neg hit]at hb;obtain⟨b',n',c',sz',cur',t1,t2,t3,t4,t5,_⟩:=h.tok i e hm;rw[t1]at hb;simp only[Qa,Qe]at hb;obtain⟨rfl,rfl⟩:=hb;exact⟨hit,t1,(Qf.1 t5).1⟩
  rw[Bf]at h1 h2;split at h1<;>split at h2
  ·rename_i p q;exact p.1.trans q.1.symm
  ·rename_i p q;obtain⟨rfl,_⟩:=p;obtain⟨_,_,lt⟩:=old _ _ h2 _ _ h4;simp only[Gh.tok,if_true,Qa,Qe]at h3;omega
  ·rename_i p q;obtain⟨rfl,_⟩:=q;obtain⟨_,_,lt⟩:=old _ _ h1 _ _ h3;simp only[Gh.tok,if_true,Qa,Qe]at h4;omega
  ·obtain⟨_,k3,_⟩:=old _ _ h1 _ _ h3;obtain⟨_,k4,_⟩:=old _ _ h2 _ _ h4;exact h.tinj _ _ _ _ _ _ _ h1 h2 k3 k4
def Ext.inPlace{t:Id}{b n n' c sz:Nat}{cur cur':Array Value}{T:TypeId}{fr:Nat×Nat}(hf:g.tb t=none)(hG:g.G b=n*sz)(hn:n<=n')
  (hh:w.heap[b]?=some (.cells cur T fr)) (hsame:∀j,j<n*sz->cur'[j]?=cur[j]?):Ext w g (w.setRow b cur') (g.tok t b n' c sz):=by
 refine⟨λp hp=>?_,λb'=>?_,λi' b h=>h,rfl,λi x h=>?_⟩
 ·by_cases hpb:p.block=b
  ·have h1:(w.setRow b cur').heap[p.block]?=some (.cells cur' T fr):=by rw[hpb];exact setRow_heap w b cur cur' T fr hh
   have h2:w.heap[p.block]?=some (.cells cur T fr):=by rw[hpb];exact hh
   simp only[World.cell?,h1,h2];split
   ·rfl
   ·rw[hpb,hG]at hp;exact hsame _ hp
  ·exact Dv w b cur' p hpb
 ·simp only[Gh.tok];split
  ·rename_i e;subst e;rw[hG];exact QF _ hn
  ·exact Qo _
 ·simp only[Gh.tok];split
  ·rename_i e;subst e;rw[hf]at h;cases h
  ·exact h
def InvM.inPlace(h:InvM P B w0 m w g){t0 t:Id}(hf:BR m g t){e b n n' c sz:Nat}{cur cur':Array Value}(h0:m t0 0=some (.tok (e+1)))
  (htb:g.tb t0=some (b,n,c,sz)) (hn:n<=n') (hc:n'<=c) (hh:w.heap[b]?=some (.cells cur e (0,0))) (hs:cur'.size=cur.size)
  (hsame:∀j,j<n*sz->cur'[j]?=cur[j]?):
  InvM P B w0 ((m.put t0 0 [.tok 0]).put t 0 [.tok (e+1)]) (w.setRow b cur') (g.tok t b n' c sz):=by
 obtain⟨b0,n0,c0,sz0,cur0,u1,u2,u3,u4,u5,u6,u7,u8,u9,u10⟩:=h.tok t0 e h0;rw[htb]at u1;simp only[Qa,Qe]at u1;obtain⟨rfl,rfl,rfl,rfl⟩:=u1;rw[hh]at u5;simp only[Qa,Obj.cells.injEq,and_true]at u5;subst u5;have x:Ext w g (w.setRow b cur') (g.tok t b n' c sz):=Ext.inPlace hf.2.2 u9 hn hh hsame;have hsz:(w.setRow b cur').heap.size=w.heap.size:=by simp[World.setRow]
 have hblt:b<w.heap.size:=(Qf.1 hh).1;have hoth:∀k,k≠b->(w.setRow b cur').heap[k]?=w.heap[k]?:=λk hk=>setRow_other w b k cur' hk
 have htt:t≠t0:=by rintro rfl;rw[hf.1 0]at h0;cases h0
 have hm':∀i o,((m.put t0 0 [.tok 0]).put t 0 [.tok (e+1)]) i o=if i=t∧o=0 then some (.tok (e+1))else if i=t0∧o=0 then some (.tok 0)else m i o:=by
  intro i o;rw[Bf,Bf]
 have hd0:g.dl t0=none:=by
  cases hd:g.dl t0 with
  |none=>rfl
  |some b'=>
   obtain⟨_,_,vs,T,_,r⟩:=h.obj t0 b' hd;obtain⟨v,_,_,r3⟩:=r 0 _ h0;cases r3
 refine⟨⟨h.below.os,h.below.tape,h.below.output,by rw[hsz];exact h.below.size,λk hk=>(hoth k (by omega)).trans (h.below.block k hk)⟩,by rw[hsz];exact h.size,λb' hb'=>?_,λb' hlt=>by simp only[Gh.tok];rw[if_neg (by omega)];exact h.old b' hlt,λi b' hi=>?_,h.inj,λi o d hm hd=>?_,λi e' hi=>?_,λi1 i2 e1 e2 b' y y' h1 h2 h3 h4=>?_,h.itr.to (λi s p e=>by rw[hm',if_neg (by simp),if_neg (by simp)]at e;exact e) λi b' s p e0 _ _ e1 e2 e3=>?_⟩
 rotate_right
 ·have hne:b'≠b:=by rintro rfl;rw[hh]at e1;cases e1
  have hit:i≠t:=by rintro rfl;rw[hf.1 1]at e0;cases e0
  exact⟨by simp[Gh.tok,hit],hoth b' hne,by simp only[Gh.tok];rw[if_neg hne];exact e2,e3⟩
 ·rw[hsz]at hb';simp only[Gh.tok];rw[if_neg (by omega)];exact h.gz b' hb'
 ·obtain⟨p,q,vs,T,hh',r⟩:=h.obj i b' hi;have hne:b'≠b:=λe=>u10 i (by rw[←e];exact hi)
  refine⟨p,by simp[Gh.tok,hne,q],vs,T,(hoth b' hne).trans hh',λo d hm=>?_⟩;rw[hm',if_neg (by rintro⟨rfl,_⟩;have h':=hf.2.1;simp only[Gh.tok]at hi;rw[h']at hi;cases hi),if_neg (by rintro⟨rfl,_⟩;simp only[Gh.tok]at hi;rw[hd0]at hi;cases hi)]at hm;obtain⟨v,r1,r2,r3⟩:=r o d hm;exact⟨v,r1,r2,r3.ext x⟩
 ·rw[hm']at hm;split at hm
  ·rw[←QJ hm];rfl
  ·split at hm
   ·rw[←QJ hm];rfl
   ·exact h.kind _ _ _ hm hd
 ·rw[hm']at hi;split at hi
  ·rename_i hc';obtain⟨rfl,_⟩:=hc';simp only[Qa,D.tok.injEq,Zh]at hi;subst hi;exact⟨b,n',c,sz,cur',by simp[Gh.tok],u2,u3,u4,setRow_heap w b cur cur' e _ hh,hc,u7,by rw[hs];exact u8,by simp[Gh.tok],u10⟩
  ·split at hi
   ·simp at hi
   ·rename_i n1 n2;obtain⟨b1,n1',c1,sz1,cur1,t1,t2,t3,t4,t5,t6,t7,t8,t9,t10⟩:=h.tok i e' hi;have hit:i≠t:=by rintro rfl;rw[hf.1 0]at hi;cases hi
    have hb1:b1≠b:=by
     rintro rfl;have:=h.tinj i t0 e' e b1 _ _ hi h0 t1 htb;subst this;simp at n2
    exact⟨b1,n1',c1,sz1,cur1,by simp[Gh.tok,hit,t1],t2,t3,t4,(hoth b1 hb1).trans t5,t6,t7,t8,by simp[Gh.tok,hb1,t9],t10⟩
 ·have old:∀i e',m i 0=some (.tok (e'+1))->i≠t0->∀b' y,(g.tok t b n' c sz).tb i=some (b',y)->i≠t∧g.tb i=some (b',y)∧b'≠b:=by
   intro i e' hm hi0 b' y hb;have hit:i≠t:=by rintro rfl;rw[hf.1 0]at hm;cases hm
   simp only[Gh.tok,if_neg hit]at hb;refine⟨hit,hb,?_⟩;rintro rfl;exact hi0 (h.tinj i t0 e' e b' _ _ hm h0 hb htb)
  rw[hm']at h1 h2;split at h1
  ·split at h2
   ·rename_i p q;exact p.1.trans q.1.symm
   ·split at h2
    ·simp at h2
    ·rename_i p q r;obtain⟨rfl,_⟩:=p;obtain⟨_,_,lt⟩:=old _ _ h2 (λe=>r ⟨e,rfl⟩) _ _ h4;simp only[Gh.tok,if_true,Qa,Qe]at h3;exact absurd h3.1.symm lt
  ·split at h1
   ·simp at h1
   ·rename_i p q;split at h2
    ·rename_i r;obtain⟨rfl,_⟩:=r;obtain⟨_,_,lt⟩:=old _ _ h1 (λe=>q ⟨e,rfl⟩) _ _ h3;simp only[Gh.tok,if_true,Qa,Qe]at h4;exact absurd h4.1.symm lt
    ·split at h2
     ·simp at h2
     ·rename_i r s;obtain⟨_,k3,_⟩:=old _ _ h1 (λe=>q ⟨e,rfl⟩) _ _ h3;obtain⟨_,k4,_⟩:=old _ _ h2 (λe=>s ⟨e,rfl⟩) _ _ h4;exact h.tinj _ _ _ _ _ _ _ h1 h2 k3 k4
end
end Go.Vd
namespace Go.Vd
inductive Arg where
 |t (n:Nat)
 |c (d:D)
def Arg.ev(s:Nat->D):Arg->D
 | .t n=>s n
 | .c d=>d
abbrev Upd:=List (Id×Nat×List D)
def Upd.app(m:Mem):Upd->Mem
 |[]=>m
 |(i,o,ds)::u=>Upd.app (m.put i o ds) u
structure Summ where
 rd:List D->Mem->List (Id×Nat)
 ex:List D->Mem->Id->Option (D×Upd)
abbrev Summs:=FuncId->Option Summ
inductive DOp where
 |mv (x:Arg)
 |pick (c a b:Arg)
 |alloc (zs:List D)
 |box (x:Arg)
 |build (zs:List D) (parts:List (Nat×Nat×Arg))
 |bslice (e sz:Nat) (parts:List Arg)
 |load (k:Option Nat) (x:Arg)
 |store (n:Nat) (x v:Arg)
 |nilchk (x:Arg)
 |bin (op:BinOp) (x y:Arg)
 |beq (ne:Bool) (x y:Arg)
 |seq (ne:Bool) (offs:List (Nat×Nat)) (x y:Arg)
 |nileq (ne:Bool) (k:Nat) (x y:Arg)
 |un (op:UnOp) (x:Arg)
 |conv (k:IntKind) (x:Arg)
 |s2s (x:Arg)
 |s2b (x:Arg)
 |b2s (x:Arg)
 |faddr (off:Nat) (x:Arg)
 |field (k:Option Nat) (off:Nat) (x:Arg)
 |iaddr (sz:Nat) (x i:Arg)
 |idxs (x i:Arg)
 |idxa (len:Nat) (x i:Arg)
 |idxm (len sz:Nat) (x i:Arg)
 |mxm (mx:Bool) (x y:Arg)
 |iadda (len sz:Nat) (x i:Arg)
 |cuts (x:Arg) (lo hi:Option Arg)
 |cutl (sz:Nat) (x:Arg) (lo hi:Option Arg)
 |mkif (t:TypeId) (x:Arg)
 |tass (t:TypeId) (ok:Bool) (z:D) (x:Arg)
 |ext (i:Nat) (x:Arg)
 |mkfn (f:FuncId) (caps:List Arg)
 |len (isStr:Bool) (x:Arg)
 |app (e sz bytes:Nat) (x y:Arg)
 |mksl (e sz bytes:Nat) (z:D) (n c:Arg)
 |range (x:Arg)
 |next (x:Arg)
 |call (f:Arg) (xs:List Arg)
 |stop
def D.data:D->Bool
 | .junk| .tok _| .tup _| .it _ _=>false
 |_=>true
def Ag(m:Mem)(i:Id):Nat->Nat->Option (List D)
 |_,0=>some []
 |o,n+1=>match m i o with
  |some d=>(Ag m i (o+1) n).map (d::·)
  |none=>none
def C0(cs:List D)(off:Nat)(ds:List D):List D:=cs.take off++ds++cs.drop (off+ds.length)
def BK:List D->List (Nat×Nat×D)->Option (List D)
 |cs,[]=>some cs
 |cs,(off,sz,d)::r=>if d.data=true∧d.cells.length=sz∧off+sz<=cs.length then BK (C0 cs off d.cells) r else none
def A_(op:BinOp)(x y:D):Option D:=
 match x,y with
 | .int k a,.int k' b=>
  match op with
  | .shl=>if 0<=b then some (.int k (k.wrap (a*2 ^ min b.toNat k.bits)))else none
  | .shr=>if 0<=b then some (.int k (a.fdiv (2 ^ min b.toNat k.bits)))else none
  |op=>if k≠k' then none else match op with
   | .add=>some (.int k (k.wrap (a+b)))
   | .sub=>some (.int k (k.wrap (a-b)))
   | .mul=>some (.int k (k.wrap (a*b)))
   | .quo=>if b=0 then none else some (.int k (k.wrap (a.tdiv b)))
   | .rem=>if b=0 then none else some (.int k (a.tmod b))
   | .and=>some (.int k (bits .and k a b))
   | .or=>some (.int k (bits .or k a b))
   | .xor=>some (.int k (bits .xor k a b))
   | .andNot=>some (.int k (bits .andNot k a b))
   | .eql=>some (.bool (a==b))
   | .neq=>some (.bool (a !=b))
   | .lss=>some (.bool (a<b))
   | .leq=>some (.bool (a<=b))
   | .gtr=>some (.bool (a>b))
   | .geq=>some (.bool (a≥b))
   |_=>none
 | .str a,.str b=>
  match op with
  | .add=>if a.length+b.length<=9223372036854775807 then some (.str (a++b))else none
  | .eql=>some (.bool (a==b))
  | .neq=>some (.bool (!(a==b)))
  | .lss=>some (.bool (Op.bytesLess a b))
  | .leq=>some (.bool (Op.bytesLess a b||a==b))
  | .gtr=>some (.bool (!(Op.bytesLess a b||a==b)))
  | .geq=>some (.bool (!(Op.bytesLess a b)))
  |_=>none
 |_,_=>none
def evUn(op:UnOp)(x:D):Option D:=
 match op,x with
 | .neg,.int k n=>some (.int k (k.wrap (0-n)))
 | .not,.bool b=>some (.bool (!b))
 | .xor,.int k n=>some (.int k (bits .xor k (if k.signed then-1 else k.max) n))
 |_,_=>none
def leafEq:Nat->D->D->Option Bool
 |0,.int k a,.int k' b=>if k=k' then some (a==b)else none
 |1,.bool a,.bool b=>some (a==b)
 |2,.str a,.str b=>some (a==b)
 |_,_,_=>none
def Bl(xs ys:List D):List (Nat×Nat)->Option Bool
 |[]=>some true
 |(k,o)::r=>match xs[o]?,ys[o]? with
  |some x,some y=>match leafEq k x y with
   |some true=>Bl xs ys r
   |some false=>some false
   |none=>none
  |_,_=>none
def nilEq:Nat->D->D->Option Bool
 |0,.slice n _ _,.slice true _ _=>some n
 |0,.slice true _ _,.slice n _ _=>some n
 |1,.nilptr,.nilptr=>some true
 |1,.nilptr,.ptr _ _=>some false
 |1,.ptr _ _,.nilptr=>some false
 |2,.nilIface,.nilIface=>some true
 |2,.nilIface,.iface _ _=>some false
 |2,.iface _ _,.nilIface=>some false
 |3,.nilFunc,.nilFunc=>some true
 |3,.nilFunc,.fn _ _=>some false
 |3,.fn _ _,.nilFunc=>some false
 |_,_,_=>none
def Au(s:List UInt8):List D:=s.map λb=> .int .u8 b.toNat
def BE:List D->Option (List UInt8)
 |[]=>some []
 | .int .u8 n::r=>(BE r).map (UInt8.ofNat n.toNat::·)
 |_=>none
def lenD:Bool->D->Option Nat
 |true,.str s=>some s.length
 |false,.slice _ _ xs=>some xs.length
 |false,.row _ n=>some n
 |_,_=>none
def Fw(s:Nat->D)(x:Option Arg)(dflt:Nat)(most:Nat):Option Nat:=
 match x with
 |none=>some dflt
 |some a=>match a.ev s with
  | .int _ n=>if 0<=n∧n<=most then some n.toNat else none
  |_=>none
def D.headSz:List D->Nat->Nat
 |[],k=>k
 |d::_,_=>d.cells.length
def appSrc(sz:Nat):D->Option (List D)
 | .slice _ _ ys=>some ys
 | .str b=>if sz=1 then some (Au b)else none
 |_=>none
def AB(S:Summs)(s:Nat->D)(m:Mem)(fr:Id):DOp->Option (D×Upd)
 | .mv x=>some (x.ev s,[])
 | .pick c a b=>match c.ev s with
  | .bool t=>some (if t then a.ev s else b.ev s,[])
  |_=>none
 | .alloc zs=>some (.ptr fr 0,[(fr,0,zs)])
 | .box x=>if(x.ev s).data then some (.ptr fr 0,[(fr,0,(x.ev s).cells)])else none
 | .build zs parts=>(BK zs (parts.map λp=>(p.1,p.2.1,p.2.2.ev s))).map λcs=>(.agg cs,[])
 | .bslice e sz parts=>
  if(parts.all λp=>(p.ev s).data&&(p.ev s).cells.length==sz&&(p.ev s).un.calm)then some (.slice false fr (parts.map λp=>(p.ev s).un),[(fr,0,[.tok (e+1)])])else none
 | .load k x=>match x.ev s,k with
  | .ptr i o,none=>(m i o).map λd=>(d,[])
  | .ptr i o,some n=>(Ag m i o n).map λds=>(.agg ds,[])
  | .eptr ds,none=>ds.head?.map λd=>(d,[])
  | .eptr ds,some n=>if n<=ds.length then some (.agg (ds.take n),[])else none
  |_,_=>none
 | .store n x v=>match x.ev s with
  | .ptr i o=>if(v.ev s).data=true∧(v.ev s).cells.length=n∧(Ag m i o n).isSome=true then some (.junk,[(i,o,(v.ev s).cells)])else none
  |_=>none
 | .nilchk x=>match x.ev s with
  | .ptr i o=>some (.ptr i o,[])
  | .eptr ds=>some (.eptr ds,[])
  | .fn f cs=>some (.fn f cs,[])
  |_=>none
 | .bin op x y=>(A_ op (x.ev s) (y.ev s)).map λd=>(d,[])
 | .beq ne x y=>match x.ev s,y.ev s with
  | .bool a,.bool b=>some (.bool ((a==b)!=ne),[])
  |_,_=>none
 | .seq ne offs x y=>match x.ev s,y.ev s with
  | .agg xs,.agg ys=>(Bl xs ys offs).map λb=>(.bool (b !=ne),[])
  |_,_=>none
 | .nileq ne k x y=>(nilEq k (x.ev s) (y.ev s)).map λb=>(.bool (b !=ne),[])
 | .un op x=>(evUn op (x.ev s)).map λd=>(d,[])
 | .conv k x=>match x.ev s with
  | .int _ n=>some (.int k (k.wrap n),[])
  |_=>none
 | .s2s x=>match x.ev s with
  | .str b=>some (.str b,[])
  |_=>none
 | .s2b x=>match x.ev s with
  | .str b=>some (.slice false [] (Au b),[])
  |_=>none
 | .b2s x=>match x.ev s with
  | .slice _ _ xs=>(BE xs).map λb=>(.str b,[])
  |_=>none
 | .faddr off x=>match x.ev s with
  | .ptr i o=>some (.ptr i (o+off),[])
  | .eptr ds=>if off<=ds.length then some (.eptr (ds.drop off),[])else none
  |_=>none
 | .field k off x=>match x.ev s,k with
  | .agg cs,none=>cs[off]?.map λd=>(d,[])
  | .agg cs,some n=>if off+n<=cs.length then some (.agg ((cs.drop off).take n),[])else none
  |_,_=>none
 | .iaddr sz x i=>match x.ev s,i.ev s with
  | .slice _ _ xs,.int _ n=>if 0<=n then match xs[n.toNat]? with
   |some d=>if d.cells.length=sz then some (.eptr d.cells,[])else none
   |none=>none
   else none
  | .row i l,.int _ n=>if 0<=n∧n<(l:Int)then some (.ptr i (if sz=1 then n.toNat else n.toNat*sz),[])else none
  |_,_=>none
 | .idxs x i=>match x.ev s,i.ev s with
  | .str b,.int _ n=>if 0<=n then(b[n.toNat]?).map λc=>(.int .u8 c.toNat,[])else none
  |_,_=>none
 | .iadda len sz x i=>match x.ev s,i.ev s with
  | .ptr j o,.int _ n=>if 0<=n∧n<(len:Int)then some (.ptr j (o+n.toNat*sz),[])else none
  |_,_=>none
 | .idxm len sz x i=>match x.ev s,i.ev s with
  | .agg cs,.int _ n=>if 0<=n∧n<(len:Int)∧n.toNat*sz+sz<=cs.length then some (.agg ((cs.drop (n.toNat*sz)).take sz),[])else none
  |_,_=>none
 | .mxm mx x y=>match x.ev s,y.ev s with
  | .int k a,.int _ b=>some (.int k (if mx=true then max a b else min a b),[])
  |_,_=>none
 | .idxa len x i=>match x.ev s,i.ev s with
  | .agg cs,.int _ n=>if 0<=n∧n<(len:Int)then(cs[n.toNat]?).map λd=>(d,[])else none
  |_,_=>none
 | .cuts x lo hi=>match x.ev s with
  | .str b=>match Fw s hi b.length b.length with
   |some h=>match Fw s lo 0 h with
    |some l=>some (.str ((b.drop l).take (h-l)),[])
    |none=>none
   |none=>none
  |_=>none
 | .cutl sz x lo hi=>match x.ev s with
  | .slice nl _ xs=>if D.headSz xs sz=sz then match Fw s hi xs.length xs.length with
   |some h=>match Fw s lo 0 h with
    |some l=>some (.slice nl [] ((xs.drop l).take (h-l)),[])
    |none=>none
   |none=>none
   else none
  |_=>none
 | .mkif t x=>if(x.ev s).data=true∧(x.ev s).un.calm=true then some (.iface t (x.ev s).un,[])else none
 | .tass t ok z x=>match x.ev s with
  | .iface t' d=>if t'=t then some (if ok then .tup [d,.bool true]else d,[])else if ok then some (.tup [z,.bool false],[])else none
  | .nilIface=>if ok then some (.tup [z,.bool false],[])else none
  |_=>none
 | .ext i x=>match x.ev s with
  | .tup vs=>vs[i]?.map λd=>(d,[])
  |_=>none
 | .mkfn f caps=>some (.fn f (caps.map (·.ev s)),[])
 | .len k x=>(lenD k (x.ev s)).map λ(n:Nat)=>(.int .i64 (n:Int),[])
 | .stop=>none
 | .app e sz bytes x y=>match x.ev s,appSrc sz (y.ev s)with
  | .slice nl t xs,some ys=>
   if nl=true∧ys=[]then some (.slice true [] [],[])
   else if(xs.length+ys.length)*(bytes+1)<=140737488355328∧D.headSz ys sz=sz then
    if nl=true then some (.slice false fr ys,[(fr,0,[.tok (e+1)])])
    else match m t 0 with
     |some (.tok k)=>if k=e+1∧t≠[]then some (.slice false fr (xs++ys),[(t,0,[.tok 0]),(fr,0,[.tok (e+1)])])else none
     |_=>none
   else none
  |_,_=>none
 | .mksl e sz bytes z n c=>match n.ev s,c.ev s with
  | .int _ n,.int _ c=>if 0<=n∧n<=c∧c*(bytes+1)<=140737488355328∧z.cells.length=sz then(if z.isRw=true then(if n=c then some (.row fr n.toNat,[(fr,0,QA n.toNat z)])else none)
   else some (.slice false fr (QA n.toNat z),[(fr,0,[.tok (e+1)])]))else none
  |_,_=>none
 | .range x=>match x.ev s with
  | .str b=>some (.itp fr,[(fr,1,[.it b 0])])
  |_=>none
 | .next x=>match x.ev s with
  | .itp i=>match m i 1 with
   |some (.it b pos)=>if pos<b.length then
     some (.tup [.bool true,.int .i64 (pos:Nat),.int .i32 (Utf8.decode ⟨b.toArray⟩ pos).1],[(i,1,[.it b (pos+(Utf8.decode ⟨b.toArray⟩ pos).2)])])
    else some (.tup [.bool false],[])
   |_=>none
  |_=>none
 | .call f xs=>match f.ev s with
  | .fn f caps=>match S f with
   |some q=>q.ex (xs.map (·.ev s)++caps) m fr
   |none=>none
  |_=>none
def ofLeaf:Value->Option D
 | .bool b=>some (.bool b)
 | .int k n=>some (.int k n)
 | .string s=>some (.str s.data.toList)
 | .slice none 0 0=>some (.slice true [] [])
 | .pointer none=>some .nilptr
 | .nilIface=>some .nilIface
 | .nilFunc=>some .nilFunc
 | .map none=>some .nilMap
 |_=>none
def ofLeaves:List Value->Option (List D)
 |[]=>some []
 |v::r=>match ofLeaf v,ofLeaves r with
  |some d,some ds=>some (d::ds)
  |_,_=>none
def ofVal:Value->Option D
 | .agg cs=>(ofLeaves cs.toList).map .agg
 |v=>ofLeaf v
def AC:Operand->Option Arg
 | .tmp t=>some (.t t)
 | .const v=>(ofVal v).map .c
 | .func f=>some (.c (.fn f []))
 | .global _=>none
def DP:List Operand->Option (List Arg)
 |[]=>some []
 |x::r=>match AC x,DP r with
  |some a,some l=>some (a::l)
  |_,_=>none
def trOpt:Option Operand->Option (Option Arg)
 |none=>some none
 |some x=>(AC x).map some
def CF(P:Program)(t:TypeId):Option Nat:=(P.info? t).map (·.size)
def kOf(P:Program)(t:TypeId):Option (Option Nat):=
 match P.underlying t with
 |some (.struct _)|some (.array _ _)=>(CF P t).map some
 |some _=>some none
 |none=>none
def CU(P:Program)(t:TypeId):Option D:=
 match P.info? t with
 |some i=>match i.zero with
  |some z=>ofVal z
  |none=>none
 |none=>none
def elemOf(P:Program)(e:TypeId):Option (Nat×Nat):=
 match P.info? e with
 |some i=>match i.zero with
  |some z=>if 0<i.size∧z.cells.size=i.size then some (i.size,i.bytes)else none
  |none=>none
 |none=>none
def elemOf_some{P:Program}{e sz bytes:Nat}(h:elemOf P e=some (sz,bytes)):
  0<sz∧∃i z,P.info? e=some i∧i.size=sz∧i.zero=some z∧z.cells.size=sz∧i.bytes=bytes:=by
 unfold elemOf at h;split at h
 ·rename_i i hi;split at h
  ·rename_i z hz;split at h
   ·rename_i hc;simp only[Qa,Qe]at h;obtain⟨rfl,rfl⟩:=h;exact⟨hc.1,i,z,hi,rfl,hz,hc.2,rfl⟩
   ·cases h
  ·cases h
 ·cases h
def Dh(P:Program)(fields:Array Field):List (Nat×Operand)->Option (List (Nat×Nat×Arg))
 |[]=>some []
 |(i,x)::r=>match fields[i]?,AC x,Dh P fields r with
  |some f,some y,some l=>match CF P f.type with
   |some n=>some ((f.offset,n,y)::l)
   |none=>none
  |_,_,_=>none
def fieldsOk(P:Program)(fields:List Field):Bool:=fields.all λf=>(CF P f.type).isSome
def eqOffs(P:Program):List Field->Option (List (Nat×Nat))
 |[]=>some []
 |f::r=>if f.name= "_" then none else match P.underlying f.type,eqOffs P r with
  |some (.int _),some l=>some ((0,f.offset)::l)
  |some .bool,some l=>some ((1,f.offset)::l)
  |some .string,some l=>some ((2,f.offset)::l)
  |_,_=>none
def Fr(P:Program):List Field->Option (List (Nat×Nat))
 |[]=>some []
 |f::r=>if f.name= "_" then none else match P.underlying f.type,Fr P r with
  |some (.int _),some l=>some ((0,f.offset)::l)
  |some .bool,some l=>some ((1,f.offset)::l)
  |some .string,some l=>some ((2,f.offset)::l)
  |some (.struct fs),some l=>match CF P f.type,eqOffs P fs.toList with
   |some n,some l2=>if P.stoodInHeld f.type=false∧(l2.all λp=>decide (p.2<n))=true then some ((l2.map λp=>(p.1,f.offset+p.2))++l)else none
   |_,_=>none
  |_,_=>none
def Gq:Operand->Bool
 | .const _=>true
 |_=>false
def trEq(P:Program)(ne:Bool)(t:TypeId)(x y:Operand)(a b:Arg):Option DOp:=
 match P.underlying t with
 |some .bool=>some (.beq ne a b)
 |some (.int _)|some .string=>some (.bin (if ne then .neq else .eql) a b)
 |some (.struct fs)=>if P.stoodInHeld t=false∧P.eqGuardType P.depth t=false then(Fr P fs.toList).map λl=> .seq ne l a b else none
 |some (.slice _)=>some (.nileq ne 0 a b)
 |some (.pointer _)=>some (.nileq ne 1 a b)
 |some (.func ..)=>some (.nileq ne 3 a b)
 |some (.interface _)=>if Gq x||Gq y then some (.nileq ne 2 a b)else none
 |_=>none
def isStr(P:Program)(u:TypeId):Bool:=match P.underlying u with
 |some .string=>true
 |_=>false
def isStr_some{P:Program}{u:TypeId}(h:isStr P u=true):P.underlying u=some .string:=by
 unfold isStr at h;split at h
 ·assumption
 ·cases h
def Gf(P:Program)(c:Call):Option DOp:=
 match c.callee with
 | .value f=>match AC f,DP c.args.toList with
  |some g,some xs=>some (.call g xs)
  |_,_=>none
 | .builtin .len=>match c.args.toList,c.argTypes.toList with
  |[x],[t]=>match P.underlying t with
   |some .string=>(AC x).map (.len true)
   |some (.slice _)=>(AC x).map (.len false)
   |_=>none
  |_,_=>none
 | .builtin .append=>match c.args.toList,c.argTypes.toList with
  |[x,y],[t,u]=>if u=t∨isStr P u=true then match P.underlying t with
   |some (.slice e)=>match elemOf P e,AC x,AC y with
    |some (sz,bytes),some a,some b=>some (.app e sz bytes a b)
    |_,_,_=>none
   |_=>none
   else none
  |_,_=>none
 | .builtin .max=>match c.args.toList with
  |[x,y]=>match AC x,AC y with
   |some a,some b=>some (.mxm true a b)
   |_,_=>none
  |_=>none
 | .builtin .min=>match c.args.toList with
  |[x,y]=>match AC x,AC y with
   |some a,some b=>some (.mxm false a b)
   |_,_=>none
  |_=>none
 |_=>none
def FS(sz:Nat):List (Nat×Operand)->Option (List (Nat×Nat×Arg))
 |[]=>some []
 |(i,x)::r=>match AC x,FS sz r with
  |some a,some l=>some ((i*sz,sz,a)::l)
  |_,_=>none
def tr(P:Program)(op:Op):Option DOp:=
 match op with
 | .move x| .assign x=>(AC x).map .mv
 | .pick c a b=>match AC c,AC a,AC b with
  |some c,some a,some b=>some (.pick c a b)
  |_,_,_=>none
 | .alloc t=>(CU P t).map λd=> .alloc d.cells
 | .box _ x=>(AC x).map .box
 | .build t parts=>match P.underlying t,CU P t with
  |some (.struct fields),some (.agg zs)=>if fieldsOk P fields.toList=true then(Dh P fields parts.toList).map λl=> .build zs l else none
  |some (.array _ e),some (.agg zs)=>match CF P e with
   |some sz=>(FS sz parts.toList).map λl=> .build zs l
   |none=>none
  |_,_=>none
 | .buildSlice t len parts=>match P.underlying t with
  |some (.slice e)=>match elemOf P e,DP (parts.toList.map (·.2))with
   |some (sz,_),some l=>if parts.toList.map (·.1)=Qt len∧len*sz<=2 ^ 24 then some (.bslice e sz l)else none
   |_,_=>none
  |_=>none
 | .load t x=>match kOf P t,AC x with
  |some k,some x=>some (.load k x)
  |_,_=>none
 | .store t x v=>match CF P t,AC x,AC v with
  |some (n+1),some x,some v=>some (.store (n+1) x v)
  |_,_,_=>none
 | .nilCheck x=>(AC x).map .nilchk
 | .binOp .eql t x y _=>match AC x,AC y with
  |some a,some b=>trEq P false t x y a b
  |_,_=>none
 | .binOp .neq t x y _=>match AC x,AC y with
  |some a,some b=>trEq P true t x y a b
  |_,_=>none
 | .binOp op _ x y _=>match AC x,AC y with
  |some a,some b=>some (.bin op a b)
  |_,_=>none
 | .unOp op _ x=>(AC x).map (.un op)
 | .convert src dst x=>match P.underlying src,P.underlying dst,AC x with
  |some (.int _),some (.int k),some x=>some (.conv k x)
  |some .string,some .string,some x=>some (.s2s x)
  |some .string,some (.slice e),some x=>match P.underlying e with
   |some (.int .u8)=>some (.s2b x)
   |_=>none
  |some (.slice e),some .string,some x=>match P.underlying e with
   |some (.int .u8)=>some (.b2s x)
   |_=>none
  |_,_,_=>none
 | .fieldAddr t x f=>match P.underlying t,AC x with
  |some (.struct fields),some x=>match fields[f]? with
   |some fd=>match CF P fd.type with
    |some (_+1)=>some (.faddr fd.offset x)
    |_=>none
   |none=>none
  |_,_=>none
 | .field t x f=>match P.underlying t,AC x with
  |some (.struct fields),some x=>match fields[f]? with
   |some fd=>(kOf P fd.type).map λk=> .field k fd.offset x
   |none=>none
  |_,_=>none
 | .indexAddr t x i=>match P.underlying t,AC x,AC i with
  |some (.slice e),some x,some i=>(CF P e).map λn=> .iaddr n x i
  |some (.array len e),some x,some i=>(CF P e).map λn=> .iadda len n x i
  |_,_,_=>none
 | .index t x i=>match P.underlying t,AC x,AC i with
  |some .string,some x,some i=>some (.idxs x i)
  |some (.array len e),some x,some i=>match kOf P e with
   |some none=>if CF P e=some 1 then some (.idxa len x i)else none
   |some (some sz)=>some (.idxm len sz x i)
   |none=>none
  |_,_,_=>none
 | .slice t x lo hi none=>match P.underlying t,AC x,trOpt lo,trOpt hi with
  |some .string,some x,some l,some h=>some (.cuts x l h)
  |some (.slice e),some x,some l,some h=>(CF P e).map λn=> .cutl n x l h
  |_,_,_,_=>none
 | .makeInterface t x=>match P.underlying t,AC x with
  |some (.interface _),_=>none
  |some _,some x=>some (.mkif t x)
  |_,_=>none
 | .typeAssert x _ t ok=>match P.underlying t,CU P t,AC x with
  |some (.interface _),_,_=>none
  |some _,some z,some x=>some (.tass t ok z x)
  |_,_,_=>none
 | .extract x i=>(AC x).map (.ext i)
 | .makeFunc (.func f) first caps=>match first.toList,DP caps.toList with
  |[],some l=>some (.mkfn f l)
  |_,_=>none
 | .makeSlice t n c=>match P.underlying t with
  |some (.slice e)=>match elemOf P e,CU P e,AC n,AC c with
   |some (sz,bytes),some z,some n,some c=>some (.mksl e sz bytes z n c)
   |_,_,_,_=>none
  |_=>none
 | .range t x=>match P.underlying t,AC x with
  |some .string,some x=>some (.range x)
  |_,_=>none
 | .next x true=>(AC x).map .next
 | .call c=>Gf P c
 |_=>none
def Rep.ofLeaf{w:World}{g:Gh}{v:Value}{d:D}(h:ofLeaf v=some d):Rep w g d v∧v.oneCell'=true∧d.leaf=true:=by
 unfold Vd.ofLeaf at h;split at h<;>first|(simp only[Qa]at h;subst h)|cases h
 ·exact⟨.bool _,rfl,rfl⟩
 ·exact⟨.int _ _,rfl,rfl⟩
 ·rename_i s;exact⟨.str s.data.toList,rfl,rfl⟩
 ·exact⟨.nils _,rfl,rfl⟩
 ·exact⟨.nilp,rfl,rfl⟩
 ·exact⟨.nili,rfl,rfl⟩
 ·exact⟨.nilf,rfl,rfl⟩
 ·exact⟨.nilm,rfl,rfl⟩
def A3.ofLeaves{w:World}{g:Gh}:∀{vs:List Value} {ds:List D},ofLeaves vs=some ds->A3 w g ds vs
 |[],ds,h=>by simp only[Vd.ofLeaves,Qa]at h;subst h;exact A3.nil w g
 |v::r,ds,h=>by
  unfold Vd.ofLeaves at h;split at h
  ·rename_i d ds' h1 h2;simp only[Qa]at h;subst h;obtain⟨p,q,_⟩:=Rep.ofLeaf (w:=w) (g:=g) h1;exact A3.append (A3.one p q) (A3.ofLeaves h2)
  ·cases h
def Rep.aggOf{w:World}{g:Gh}{ds:List D}{vs:List Value}(h:A3 w g ds vs):Rep w g (.agg ds) (.agg vs.toArray):= .agg ds vs h.1 h.2.1 h.2.2
def A3.ofAgg{w:World}{g:Gh}{ds:List D}{v:Value}(h:Rep w g (.agg ds) v):∃vs:List Value,v= .agg vs.toArray∧A3 w g ds vs:=by
 cases h with
 |agg _ vs h1 h2 h3=>exact⟨vs,rfl,h1,h2,h3⟩
def Rep.ofVal{w:World}{g:Gh}{v:Value}{d:D}(h:ofVal v=some d):Rep w g d v:=by
 cases v with
 |agg cs=>
  simp only[Vd.ofVal,Qb]at h;obtain⟨ds,h1,rfl⟩:=h;exact Rep.aggOf (A3.ofLeaves h1)
 |_=>simp only[Vd.ofVal]at h;exact(Rep.ofLeaf h).1
def data_ofLeaf{v:Value}{d:D}(h:ofLeaf v=some d):d.data=true:=by
 unfold ofLeaf at h;split at h<;>first|(simp only[Qa]at h;subst h;rfl)|cases h
def Dq(w:World)(g:Gh)(s:Nat->D)(a:Act):Prop:=∀t,Rep w g (s t) (a.tmps.getD t undef)
def Dq.ext{w w':World}{g g':Gh}{s:Nat->D}{a:Act}(h:Dq w g s a)(x:Ext w g w' g'):Dq w' g' s a:=λt=>(h t).ext x
section
variable{P:Program}{w:World}{g:Gh}{s:Nat->D}{a:Act}
def Dq.arg(h:Dq w g s a){x:Operand}{y:Arg}(hx:AC x=some y):Rep w g (y.ev s) (a.eval x):=by
 cases x with
 |tmp t=>simp only[AC,Qa]at hx;subst hx;exact h t
 |const v=>
  simp only[AC,Qb]at hx;obtain⟨d,h1,rfl⟩:=hx;exact Rep.ofVal h1
 |func f=>
  simp only[AC,Qa]at hx;subst hx;exact .fn f [] [] rfl (by simp)
 |global _=>cases hx
def Dq.args(h:Dq w g s a):∀{xs:List Operand} {ys:List Arg},DP xs=some ys->
  (xs.map a.eval).length=(ys.map (·.ev s)).length∧∀(j:Nat) d v,(ys.map (·.ev s))[j]?=some d->(xs.map a.eval)[j]?=some v->Rep w g d v
 |[],ys,hx=>by simp only[DP,Qa]at hx;subst hx;simp
 |x::r,ys,hx=>by
  unfold DP at hx;split at hx
  ·rename_i y l h1 h2;simp only[Qa]at hx;subst hx;obtain⟨p,q⟩:=Dq.args h h2;refine⟨by simpa using p,λj d v hd hv=>?_⟩;cases j with
   |zero=>
    simp only[Qz,Qv,Qa]at hd hv;subst hd hv;exact h.arg h1
   |succ j=>
    simp only[Qz,Q1]at hd hv;exact q j d v hd hv
  ·cases hx
def Rep.bool_inv{b:Bool}{v:Value}(h:Rep w g (.bool b) v):v= .bool b:=by cases h;rfl
def Rep.int_inv{k:IntKind}{n:Int}{v:Value}(h:Rep w g (.int k n) v):v= .int k n:=by cases h;rfl
def Rep.str_inv{b:List UInt8}{v:Value}(h:Rep w g (.str b) v):v= .string ⟨b.toArray⟩:=by cases h;rfl
def Rep.cells{d:D}{v:Value}(h:Rep w g d v)(hd:d.data=true):A3 w g d.cells v.cells.toList:=by
 cases h with
 |agg ds vs h1 h2 h3=>exact(⟨h1,h2,h3⟩:A3 w g ds vs)
 |junk=>cases hd
 |tup=>cases hd
 |bool b=>exact A3.one (.bool b) rfl
 |int k n=>exact A3.one (.int k n) rfl
 |str b=>exact A3.one (.str b) rfl
 |nils t=>exact A3.one (.nils t) rfl
 |slice t xs a n c sz vv h1 h2 h3 h4 h5 h6 h7 h8 h9=>exact A3.one (.slice t xs a n c sz vv h1 h2 h3 h4 h5 h6 h7 h8 h9) rfl
 |ptr i o b h1=>exact A3.one (.ptr i o b h1) rfl
 |row i n c b h0 h1=>exact A3.one (.row i n c b h0 h1) rfl
 |eptr ds a vv h1 h2 h3 h4 h5=>exact A3.one (.eptr ds a vv h1 h2 h3 h4 h5) rfl
 |nilp=>exact A3.one .nilp rfl
 |iface t d v h1 h2=>exact A3.one (.iface t d v h1 h2) rfl
 |nili=>exact A3.one .nili rfl
 |fn f ds vs h1 h2=>exact A3.one (.fn f ds vs h1 h2) rfl
 |nilf=>exact A3.one .nilf rfl
 |nilm=>exact A3.one .nilm rfl
 |itp i b h1=>exact A3.one (.itp i b h1) rfl
end
end Go.Vd
namespace Go.Vd
open Go.RowKit
structure Step (P:Program) (B:Nat) (w0:World) (m:Mem) (g:Gh) (fr:Id) (w:World) (m':Mem) (d:D) (v':Value) (w':World) (g':Gh):Prop where
 inv:InvM P B w0 m' w' g'
 ext:Ext w g w' g'
 rep:Rep w' g' d v'
 fresh:∀i,BR m g i->¬fr<:+i->BR m' g' i
def CQ(P:Program)(B:Nat)(w0:World)(m:Mem)(g:Gh)(fr:Id)(w:World)(m':Mem)(d:D)(x:Sem Next):Prop:=
 ∃v' w' g' r,x.run P w= .ok r w'∧(r= .value v'∨(r= .skip∧v'=undef))∧Step P B w0 m g fr w m' d v' w' g'
section
variable{P:Program}{B:Nat}{w0 w:World}{m:Mem}{g:Gh}{fr:Id}{s:Nat->D}{a:Act}
def CQ.pure{x:Sem Next}{v:Value}{d:D}(hi:InvM P B w0 m w g)(hr:x.run P w= .ok (.value v) w)(hd:Rep w g d v):CQ P B w0 m g fr w m d x:=
 ⟨v,w,g,_,hr,.inl rfl,hi,Ext.refl w g,hd,λ_ h _=>h⟩
theorem Rep.slice_inv {nl : Bool} {t : Id} {xs : List D} {v : Value} (h : Rep w g (.slice nl t xs) v) :
  (nl = true ∧ xs = [] ∧ v = .slice none 0 0) ∨
  (nl = false ∧ ∃ ad n c sz, ∃ vv : Nat → Value, v = .slice (some ad) n c ∧ n = xs.length ∧ n ≤ c ∧ (∀ d ∈ xs, d.cells.length = sz) ∧
   (∀ j, j < n * sz → w.cell? (ad.add j) = some (vv j)) ∧ (∀ j, j < n * sz → (vv j).oneCell' = true) ∧
   (∀ (j : Nat) d, (flat xs)[j]? = some d → Rep w g d (vv j)) ∧ (0 < n * sz → ad.off + n * sz ≤ g.G ad.block) ∧
   (t ≠ [] → ad.off = 0 ∧ ad.spot = none ∧ g.tb t = some (ad.block, n, c, sz)) ∧ (∀ d ∈ xs, d.calm = true)) := by
 cases h with
 | nils t => exact .inl ⟨rfl, rfl, rfl⟩
 | slice t xs ad n c sz vv h1 h2 h3 h4 h5 h6 h7 h8 h9 => exact .inr ⟨rfl, ad, n, c, sz, vv, rfl, h1, h2, h3, h4, h5, h6, h7, h8, h9⟩
def Rep.len_slice{nl:Bool}{t:Id}{xs:List D}{v:Value}(h:Rep w g (.slice nl t xs) v):∃ad c,v= .slice ad xs.length c∧(nl=ad.isNone):=by
 rcases h.slice_inv with ⟨rfl,rfl,rfl⟩|⟨rfl,ad,n,c,sz,vv,rfl,rfl,_⟩
 ·exact⟨none,0,rfl,rfl⟩
 ·exact⟨some ad,c,rfl,rfl⟩
def Rep.ptr_inv{i:Id}{o:Nat}{v:Value}(h:Rep w g (.ptr i o) v):∃b,v= .pointer (some ⟨b,o,none⟩)∧g.dl i=some b:=by
 cases h with
 |ptr _ _ b hb=>exact⟨b,rfl,hb⟩
def Rep.row_inv{i:Id}{n:Nat}{v:Value}(h:Rep w g (.row i n) v):∃b c,v= .slice (some ⟨b,0,none⟩) n c∧n<=c∧g.dl i=some b:=by
 cases h with
 |row _ _ c b hc hb=>exact⟨b,c,rfl,hc,hb⟩
def Rep.eptr_inv{ds:List D}{v:Value}(h:Rep w g (.eptr ds) v):∃ad,∃vv:Nat->Value,v= .pointer (some ad)∧(∀j,j<ds.length->w.cell? (ad.add j)=some (vv j))∧
  (∀j,j<ds.length->(vv j).oneCell'=true)∧(∀(j:Nat) d,ds[j]?=some d->Rep w g d (vv j))∧(0<ds.length->ad.off+ds.length<=g.G ad.block)∧(∀d∈ds,d.calm=true):=by
 cases h with
 |eptr _ ad vv h1 h2 h3 h4 h5=>exact⟨ad,vv,rfl,h1,h2,h3,h4,h5⟩
def Rep.tup_inv{ds:List D}{v:Value}(h:Rep w g (.tup ds) v):∃vs:List Value,v= .tuple vs.toArray∧vs.length=ds.length∧∀(j:Nat) d v,ds[j]?=some d->vs[j]?=some v->Rep w g d v:=by
 cases h with
 |tup _ vs h1 h2=>exact⟨vs,rfl,h1,h2⟩
def Rep.iface_inv{t:TypeId}{d:D}{v:Value}(h:Rep w g (.iface t d) v):∃u,v= .iface t u∧Rep w g d u∧d.calm=true:=by
 cases h with
 |iface _ _ u h1 h2=>exact⟨u,rfl,h2,h1⟩
def Rep.fn_inv{f:FuncId}{ds:List D}{v:Value}(h:Rep w g (.fn f ds) v):∃vs:List Value,v= .func (.func f) #[] vs.toArray∧vs.length=ds.length∧∀(j:Nat) d v,ds[j]?=some d->vs[j]?=some v->Rep w g d v:=by
 cases h with
 |fn _ _ vs h1 h2=>exact⟨vs,rfl,h1,h2⟩
def Rep.nilp_inv{v:Value}(h:Rep w g .nilptr v):v= .pointer none:=by cases h;rfl
def Rep.nili_inv{v:Value}(h:Rep w g .nilIface v):v= .nilIface:=by cases h;rfl
def Rep.nilf_inv{v:Value}(h:Rep w g .nilFunc v):v= .nilFunc:=by cases h;rfl
def guard_plain(op:BinOp)(t:TypeId)(x y:Operand)(va vb:Value)(h:∀cs,va≠ .agg cs)(h2:va≠ .nilIface)(W:World):(eqGuard op t x y va vb).run P W= .ok () W:=by
 cases va with
 |nilIface=>exact absurd rfl h2
 |agg c=>exact absurd rfl (h c)
 |_=>cases op<;>rfl
theorem bin_sound {op : BinOp} {t : TypeId} {x y : D} {d : D} {va vb : Value} (hx : Rep w g x va) (hy : Rep w g y vb) (h : A_ op x y = some d) :
    ∃ v, (binOp op t va vb).run P w = .ok v w ∧ Rep w g d v ∧ (∀ cs, va ≠ .agg cs) ∧ va ≠ .nilIface := by
  unfold A_ at h
  split at h
  · rename_i k n k' n'
    rw [hx.int_inv, hy.int_inv]
    split at h
    · split at h
      · rename_i hb
        simp only [Qa] at h; subst h
        refine ⟨_, ?_, .int _ _, by simp, by simp⟩
        have : ¬ n' < 0 := by omega
        simp [binOp, Op.shift, this]
      · cases h
    · split at h
      · rename_i hb
        simp only [Qa] at h; subst h
        refine ⟨_, ?_, .int _ _, by simp, by simp⟩
        have : ¬ n' < 0 := by omega
        simp [binOp, Op.shift, this]
      · cases h
    · rename_i h1 h2
      by_cases hk : k ≠ k'
      · rw [if_pos hk] at h; cases h
      rw [if_neg hk] at h
      have hk : k = k' := Classical.not_not.1 hk
      subst hk
      cases op <;> simp only [reduceCtorEq, Qa] at h <;>
        first
        | (subst h; first
            | exact ⟨_, by simp [binOp, Op.intArith, intBits_and, intBits_or, intBits_xor, intBits_andNot, Op.intCmp], .int _ _, by simp, by simp⟩
            | exact ⟨_, by simp [binOp, Op.intCmp], .bool _, by simp, by simp⟩)
        | (exact absurd rfl h1)
        | (exact absurd rfl h2)
        | (split at h
           · cases h
           · rename_i h0
             simp only [Qa] at h; subst h
             exact ⟨_, by simp [binOp, Op.intDiv, h0], .int _ _, by simp, by simp⟩)
  · rename_i b c
    rw [hx.str_inv, hy.str_inv]
    split at h
    · split at h
      · rename_i hl
        simp only [Qa] at h; subst h
        refine ⟨.string ⟨(b ++ c).toArray⟩, ?_, .str _, by simp, by simp⟩
        have := run_string_add_sum (P := P) (w := w) ⟨b.toArray⟩ ⟨c.toArray⟩ (by simpa [ByteArray.size] using hl)
        simp only [binOp, this]
        congr 2
      · cases h
    all_goals first | (cases h; done) | skip
    all_goals
      simp only [Qa] at h; subst h
      exact ⟨_, by simp [binOp, Op.stringOp, ByteArray.toList_mk], .bool _, by simp, by simp⟩
  · cases h
def un_sound{op:UnOp}{x d:D}{va:Value}(hx:Rep w g x va)(h:evUn op x=some d):∃v,(Op.unary op va).run P w= .ok v w∧Rep w g d v:=by
 unfold evUn at h;split at h
 ·simp only[Qa]at h;subst h;rw[hx.int_inv];exact⟨_,by simp[Op.unary,Op.intArith],.int _ _⟩
 ·simp only[Qa]at h;subst h;rw[hx.bool_inv];exact⟨_,by simp[Op.unary],.bool _⟩
 ·simp only[Qa]at h;subst h;rw[hx.int_inv];exact⟨_,by simp only[Op.unary,intBits_xor];rfl,.int _ _⟩
 ·cases h
end
section
variable{P:Program}{B:Nat}{w0 w:World}{m:Mem}{g:Gh}{fr:Id}{s:Nat->D}{a:Act}
def GD:TypeDesc->Bool
 | .struct _| .array _ _=>true
 |_=>false
def Ct{t:TypeId}{d:TypeDesc}(hu:P.underlying t=some d)(hd:GD d=false){cs:Array Value}{o:Nat}{v:Value}(hv:cs[o]?=some v):
  (part t cs o).run P w= .ok v w:=by
 unfold part isAgg;simp only[Sem.run_bind,run_underlying hu];cases d<;>simp_all [GD]
def EB{k:Nat}{x y:D}{va vb:Value}{b:Bool}{t:TypeId}{td:TypeDesc}(hx:Rep w g x va)(hy:Rep w g y vb)(h:leafEq k x y=some b)(hu:P.underlying t=some td)
  (htd:(k=0∧∃k,td= .int k)∨(k=1∧td= .bool)∨(k=2∧td= .string)) (n:Nat):(Op.equalIn (n+1) t va vb).run P w= .ok b w:=by
 unfold leafEq at h;split at h
 ·rename_i k1 a k2 b';split at h
  ·rename_i hk;subst hk;simp only[Qa]at h;subst h;rw[hx.int_inv,hy.int_inv];rcases htd with ⟨_,k',rfl⟩|⟨h1,_⟩|⟨h1,_⟩
   ·exact run_equalIn_int w n t _ _ _ _ hu
   ·cases h1
   ·cases h1
  ·cases h
 ·simp only[Qa]at h;subst h;rw[hx.bool_inv,hy.bool_inv];rcases htd with ⟨h1,_⟩|⟨_,rfl⟩|⟨h1,_⟩
  ·cases h1
  ·exact run_equalIn_bool' w n t _ _ hu
  ·cases h1
 ·simp only[Qa]at h;subst h;rw[hx.str_inv,hy.str_inv];rcases htd with ⟨h1,_⟩|⟨h1,_⟩|⟨_,rfl⟩
  ·cases h1
  ·cases h1
  ·rw[run_equalIn_string w n t _ _ hu];simp[ByteArray.toList_mk]
 ·cases h
def leaves_sound{xs ys:List D}{vx vy:List Value}(hx:A3 w g xs vx)(hy:A3 w g ys vy)(n:Nat):∀{fs:List Field} {l:List (Nat×Nat)} {b:Bool},
  eqOffs P fs=some l->Bl xs ys l=some b->(Op.eqFields (n+1) vx.toArray vy.toArray fs).run P w= .ok b w
 |[],l,b,h1,h2=>by
  simp only[eqOffs,Qa]at h1;subst h1;simp only[Bl,Qa]at h2;subst h2;rfl
 |f::r,l,b,h1,h2=>by
  unfold eqOffs at h1;split at h1
  ·cases h1
  rename_i hname;have key:∃k l' td,P.underlying f.type=some td∧eqOffs P r=some l'∧l=(k,f.offset)::l'∧((k=0∧∃k,td= .int k)∨(k=1∧td= .bool)∨(k=2∧td= .string)):=by
   split at h1<;>first|(simp only[Qa]at h1;subst h1;rename_i e1 e2;first|exact⟨0,_,_,e1,e2,rfl,.inl ⟨rfl,_,rfl⟩⟩|exact⟨1,_,_,e1,e2,rfl,.inr (.inl ⟨rfl,rfl⟩)⟩|exact⟨2,_,_,e1,e2,rfl,.inr (.inr ⟨rfl,rfl⟩)⟩)|(exfalso;simp at h1)
  obtain⟨k,l',td,hu,hl,rfl,htd⟩:=key;unfold Bl at h2;split at h2
  ·rename_i x y ex ey;have hvx:f.offset<vx.length:=by rw[hx.1];exact(Qd.1 ex).1
   have hvy:f.offset<vy.length:=by rw[hy.1];exact(Qd.1 ey).1
   have rx:=hx.2.2 _ x vx[f.offset] ex (Qc hvx);have ry:=hy.2.2 _ y vy[f.offset] ey (Qc hvy);have hd:GD td=false:=by rcases htd with ⟨_,k',rfl⟩|⟨_,rfl⟩|⟨_,rfl⟩<;>rfl
   have px:=Ct (w:=w) hu hd (cs:=vx.toArray) (o:=f.offset) (v:=vx[f.offset]) (by simp[hvx]);have py:=Ct (w:=w) hu hd (cs:=vy.toArray) (o:=f.offset) (v:=vy[f.offset]) (by simp[hvy]);have ih:=λb' (hb:Bl xs ys l'=some b')=>leaves_sound hx hy n hl hb
   split at h2
   ·rename_i he;have e:=EB rx ry he hu htd n;simp only[Op.eqFields,ne_eq,hname,not_false_eq_true,if_true,Sem.run_bind,px,Result.andThen_ok,py,e,Zu,Qu,if_false];exact ih b h2
   ·rename_i he;have e:=EB rx ry he hu htd n;simp only[Qa]at h2;subst h2;simp only[Op.eqFields,ne_eq,hname,not_false_eq_true,if_true,Sem.run_bind,px,Result.andThen_ok,py,e,Zd,if_true,Sem.run_pure]
   ·cases h2
  ·cases h2
def A3.part{ds:List D}{vs:List Value}(h:A3 w g ds vs)(o n:Nat):A3 w g ((ds.drop o).take n) ((vs.drop o).take n):=by
 refine⟨by simp[h.1],λv hv=>h.2.1 v (Qw (QG hv)),λj d v hd hv=>?_⟩;rw[List.getElem?_take]at hd hv;split at hd
 ·rw[if_pos (by assumption)]at hv;rw[Qq]at hd hv;exact h.2.2 _ d v hd hv
 ·cases hd
def leavesEq_part{xs ys:List D}{o n:Nat}{l:List (Nat×Nat)}{b:Bool}:∀{l2:List (Nat×Nat)},(l2.all λp=>decide (p.2<n))=true->Bl xs ys ((l2.map λp=>(p.1,o+p.2))++l)=some b->
  ∃b2,Bl ((xs.drop o).take n) ((ys.drop o).take n) l2=some b2∧(b2=true->Bl xs ys l=some b)∧(b2=false->b=false)
 |[],_,h=>⟨true,rfl,λ_=>h,λh=>by cases h⟩
 |(k,q)::r,hn,h=>by
  rw[List.all_cons,QP,decide_eq_true_eq]at hn;obtain⟨hq,hr⟩:=hn;have ex:∀zs:List D,((zs.drop o).take n)[q]?=zs[o+q]?:=λzs=>by
   rw[List.getElem?_take,if_pos hq,Qq]
  simp only[Qz,Q3,Bl]at h ⊢;rw[ex,ex];split at h
  ·rename_i x y e1 e2;revert h;cases leafEq k x y with
   |none=>intro h;cases h
   |some v=>
    cases v with
    |true=>intro h;exact leavesEq_part hr h
    |false=>
     intro h;simp only[Qa]at h;exact⟨false,rfl,λe=>(nomatch e),λ_=>h.symm⟩
  ·cases h
def run_part_struct{t:TypeId}{n:Nat}{fs:Array Field}(hu:P.underlying t=some (.struct fs))(hn:CF P t=some n){cs:List Value}{o:Nat}:
  (part t cs.toArray o).run P w= .ok (.agg ((cs.drop o).take n).toArray) w:=by
 unfold CF at hn;rw[Qb]at hn;obtain⟨i,hi,rfl⟩:=hn;unfold part isAgg;simp only[Sem.run_bind,run_underlying hu,Result.andThen_ok,Sem.run_pure,if_true];simp[sizeOf,typeInfo,hi,List.extract]
def FD{xs ys:List D}{vx vy:List Value}(hx:A3 w g xs vx)(hy:A3 w g ys vy)(n:Nat):∀{fs:List Field} {l:List (Nat×Nat)} {b:Bool},
  Fr P fs=some l->Bl xs ys l=some b->(Op.eqFields (n+2) vx.toArray vy.toArray fs).run P w= .ok b w
 |[],l,b,h1,h2=>by
  simp only[Fr,Qa]at h1;subst h1;simp only[Bl,Qa]at h2;subst h2;rfl
 |f::r,l,b,h1,h2=>by
  unfold Fr at h1;split at h1
  ·cases h1
  rename_i hname;have key:(∃k l' td,P.underlying f.type=some td∧Fr P r=some l'∧l=(k,f.offset)::l'∧((k=0∧∃k,td= .int k)∨(k=1∧td= .bool)∨(k=2∧td= .string)))∨
    ∃fs' l' l2 sz,P.underlying f.type=some (.struct fs')∧Fr P r=some l'∧CF P f.type=some sz∧eqOffs P fs'.toList=some l2∧P.stoodInHeld f.type=false∧(l2.all λp=>decide (p.2<sz))=true∧l=(l2.map λp=>(p.1,f.offset+p.2))++l':=by
   split at h1
   ·simp only[Qa]at h1;subst h1;rename_i e1 e2;exact .inl ⟨0,_,_,e1,e2,rfl,.inl ⟨rfl,_,rfl⟩⟩
   ·simp only[Qa]at h1;subst h1;rename_i e1 e2;exact .inl ⟨1,_,_,e1,e2,rfl,.inr (.inl ⟨rfl,rfl⟩)⟩
   ·simp only[Qa]at h1;subst h1;rename_i e1 e2;exact .inl ⟨2,_,_,e1,e2,rfl,.inr (.inr ⟨rfl,rfl⟩)⟩
   ·rename_i fs' l' e1 e2;split at h1
    ·rename_i sz l2 e3 e4;split at h1
     ·rename_i hc;simp only[Qa]at h1;exact .inr ⟨fs',l',l2,sz,e1,e2,e3,e4,hc.1,hc.2,h1.symm⟩
     ·cases h1
    ·cases h1
   ·cases h1
  rcases key with ⟨k,l',td,hu,hl,rfl,htd⟩|⟨fs',l',l2,sz,hu,hl,hsz,hl2,hp,hall,rfl⟩
  ·unfold Bl at h2;split at h2
   ·rename_i x y ex ey;have hvx:f.offset<vx.length:=by rw[hx.1];exact(Qd.1 ex).1
    have hvy:f.offset<vy.length:=by rw[hy.1];exact(Qd.1 ey).1
    have rx:=hx.2.2 _ x vx[f.offset] ex (Qc hvx);have ry:=hy.2.2 _ y vy[f.offset] ey (Qc hvy);have hd:GD td=false:=by rcases htd with ⟨_,k',rfl⟩|⟨_,rfl⟩|⟨_,rfl⟩<;>rfl
    have px:=Ct (w:=w) hu hd (cs:=vx.toArray) (o:=f.offset) (v:=vx[f.offset]) (by simp[hvx]);have py:=Ct (w:=w) hu hd (cs:=vy.toArray) (o:=f.offset) (v:=vy[f.offset]) (by simp[hvy]);have ih:=λb' (hb:Bl xs ys l'=some b')=>FD hx hy n hl hb
    split at h2
    ·rename_i he;have e:=EB rx ry he hu htd (n+1);simp only[Op.eqFields,ne_eq,hname,not_false_eq_true,if_true,Sem.run_bind,px,Result.andThen_ok,py,e,Zu,Qu,if_false];exact ih b h2
    ·rename_i he;have e:=EB rx ry he hu htd (n+1);simp only[Qa]at h2;subst h2;simp only[Op.eqFields,ne_eq,hname,not_false_eq_true,if_true,Sem.run_bind,px,Result.andThen_ok,py,e,Zd,if_true,Sem.run_pure]
    ·cases h2
   ·cases h2
  ·obtain⟨b2,hb2,ht,hf⟩:=leavesEq_part hall h2;have px:=run_part_struct (w:=w) hu hsz (cs:=vx) (o:=f.offset);have py:=run_part_struct (w:=w) hu hsz (cs:=vy) (o:=f.offset);have hfo:P.fieldsOf f.type=fs':=by simp[Program.fieldsOf,hu]
   have e:(Op.equalIn (n+2) f.type (.agg ((vx.drop f.offset).take sz).toArray) (.agg ((vy.drop f.offset).take sz).toArray)).run P w= .ok b2 w:=by
    rw[run_equalIn_struct w (n+1) f.type _ _ (by rw[hfo];exact hu) hp,hfo];exact leaves_sound (hx.part f.offset sz) (hy.part f.offset sz) n hl2 hb2
   cases b2 with
   |true=>
    simp only[Op.eqFields,ne_eq,hname,not_false_eq_true,if_true,Sem.run_bind,px,Result.andThen_ok,py,e,Zu,Qu,if_false];exact FD hx hy n hl (ht rfl)
   |false=>
    rw[hf rfl];simp only[Op.eqFields,ne_eq,hname,not_false_eq_true,if_true,Sem.run_bind,px,Result.andThen_ok,py,e,Zd,if_true,Sem.run_pure]
def struct_sound{xs ys:List D}{va vb:Value}{b:Bool}{t:TypeId}{fs:Array Field}{l:List (Nat×Nat)}(hx:Rep w g (.agg xs) va)(hy:Rep w g (.agg ys) vb)
  (hu:P.underlying t=some (.struct fs)) (hp:P.stoodInHeld t=false) (hg:P.eqGuardType P.depth t=false) (hl:Fr P fs.toList=some l) (h:Bl xs ys l=some b) (x y:Operand) (op:BinOp):
  (Op.equal t va vb).run P w= .ok b w∧(eqGuard op t x y va vb).run P w= .ok () w:=by
 obtain⟨vx,rfl,rx⟩:=A3.ofAgg hx;obtain⟨vy,rfl,ry⟩:=A3.ofAgg hy;constructor
 ·have hf:P.fieldsOf t=fs:=by simp[Program.fieldsOf,hu]
  unfold Op.equal Op.maxDepth;rw[run_equalIn_struct w 9999 t _ _ (by rw[hf];exact hu) hp,hf];exact FD rx ry 9997 hl h
 ·cases op<;>first|rfl|(simp[eqGuard,hg])
def eqByType:Value->Bool
 | .int .. | .string .. | .float .. | .complex ..=>false
 |_=>true
def run_eql{t:TypeId}{va vb:Value}{b:Bool}(hv:eqByType va=true)(ne:Bool)(h:(Op.equal t va vb).run P w= .ok b w):
  (binOp (if ne then .neq else .eql) t va vb).run P w= .ok (.bool (b !=ne)) w:=by
 cases ne<;>cases va<;>first|(simp[eqByType]at hv;done)|(cases vb<;>simp[binOp,h])
def descOf:Nat->TypeDesc->Prop
 |0,d=>∃e,d= .slice e
 |1,d=>∃e,d= .pointer e
 |2,d=>∃e,d= .interface e
 |3,d=>∃p r v,d= .func p r v
 |_,_=>False
def nilEq_sound{k:Nat}{x y:D}{va vb:Value}{b:Bool}{t:TypeId}{td:TypeDesc}(hx:Rep w g x va)(hy:Rep w g y vb)(h:nilEq k x y=some b)(hu:P.underlying t=some td)
  (htd:descOf k td) (n:Nat):(Op.equalIn (n+1) t va vb).run P w= .ok b w∧eqByType va=true∧(∀cs,va≠ .agg cs)∧(va= .nilIface->k=2):=by
 unfold nilEq at h;split at h<;>first|(exfalso;simp at h;done)|(simp only[Qa]at h;subst h)
 ·obtain⟨e,rfl⟩:=htd;obtain⟨ad,c,rfl,rfl⟩:=hx.len_slice;obtain⟨ad',c',rfl,h2⟩:=hy.len_slice;have:ad'=none:=by
   cases ad' with
   |none=>rfl
   |some x=>cases h2
  subst this;refine⟨?_,rfl,by simp,by simp⟩;cases ad<;>simp[Op.equalIn,run_underlying hu]
 ·obtain⟨e,rfl⟩:=htd;obtain⟨ad,c,rfl,h1⟩:=hx.len_slice;obtain⟨ad',c',rfl,rfl⟩:=hy.len_slice;have:ad=none:=by
   cases ad with
   |none=>rfl
   |some x=>cases h1
  subst this;refine⟨?_,rfl,by simp,by simp⟩;simp[Op.equalIn,run_underlying hu]
 ·obtain⟨e,rfl⟩:=htd;rw[hx.nilp_inv,hy.nilp_inv];exact⟨by simp[Op.equalIn,run_underlying hu],rfl,by simp,by simp⟩
 ·obtain⟨e,rfl⟩:=htd;obtain⟨b,rfl,_⟩:=hy.ptr_inv;rw[hx.nilp_inv];exact⟨by simp[Op.equalIn,run_underlying hu],rfl,by simp,by simp⟩
 ·obtain⟨e,rfl⟩:=htd;obtain⟨b,rfl,_⟩:=hx.ptr_inv;rw[hy.nilp_inv];exact⟨by simp[Op.equalIn,run_underlying hu],rfl,by simp,by simp⟩
 ·obtain⟨e,rfl⟩:=htd;rw[hx.nili_inv,hy.nili_inv];exact⟨by simp[Op.equalIn,run_underlying hu],rfl,by simp,λ_=>rfl⟩
 ·obtain⟨e,rfl⟩:=htd;obtain⟨u,rfl,_,_⟩:=hy.iface_inv;rw[hx.nili_inv];exact⟨by simp[Op.equalIn,run_underlying hu],rfl,by simp,λ_=>rfl⟩
 ·obtain⟨e,rfl⟩:=htd;obtain⟨u,rfl,_,_⟩:=hx.iface_inv;rw[hy.nili_inv];exact⟨by simp[Op.equalIn,run_underlying hu],rfl,by simp,by simp⟩
 ·obtain⟨p,r,v,rfl⟩:=htd;rw[hx.nilf_inv,hy.nilf_inv];exact⟨by simp[Op.equalIn,run_underlying hu],rfl,by simp,by simp⟩
 ·obtain⟨p,r,v,rfl⟩:=htd;obtain⟨vs,rfl,_⟩:=hy.fn_inv;rw[hx.nilf_inv];exact⟨by simp[Op.equalIn,run_underlying hu],rfl,by simp,by simp⟩
 ·obtain⟨p,r,v,rfl⟩:=htd;obtain⟨vs,rfl,_⟩:=hx.fn_inv;rw[hy.nilf_inv];exact⟨by simp[Op.equalIn,run_underlying hu],rfl,by simp,by simp⟩
def guard_const(op:BinOp)(t:TypeId)(x y:Operand)(va vb:Value)(h:∀cs,va≠ .agg cs)(h2:va= .nilIface->(Gq x||Gq y)=true)(W:World):(eqGuard op t x y va vb).run P W= .ok () W:=by
 cases va with
 |nilIface=>
  have:=h2 rfl;cases op<;>first|rfl|(cases vb<;>first|rfl|(cases x<;>cases y<;>first|rfl|(simp[Gq]at this)))
 |agg c=>exact absurd rfl (h c)
 |_=>cases op<;>rfl
end
def szOf_some{P:Program}{t n:Nat}(h:CF P t=some n):∃i,P.info? t=some i∧i.size=n:=by
 unfold CF at h;rw[Qb]at h;exact h
def run_sizeOf'{P:Program}{t n:Nat}(h:CF P t=some n)(w:World):(sizeOf t).run P w= .ok n w:=by
 obtain⟨i,hi,rfl⟩:=szOf_some h;simp[sizeOf,typeInfo,hi]
def run_isAgg'{P:Program}{t:TypeId}{d:TypeDesc}(h:P.underlying t=some d)(w:World):(isAgg t).run P w= .ok (GD d) w:=by
 unfold isAgg;simp only[Sem.run_bind,run_underlying h,Result.andThen_ok];cases d<;>rfl
def Rep.un1{w:World}{g:Gh}{d:D}{v:Value}(h:Rep w g d v):Rep w g d.un1 v:=by
 cases h with
 |nils t=>exact .nils []
 |slice t xs a n c sz vv h1 h2 h3 h4 h5 h6 h7 h8 h9=>exact .slice [] xs a n c sz vv h1 h2 h3 h4 h5 h6 h7 (λh=>absurd rfl h) h9
 |junk v=>exact .junk v
 |bool b=>exact .bool b
 |int k n=>exact .int k n
 |str s=>exact .str s
 |ptr i o b h1=>exact .ptr i o b h1
 |row i n c b h0 h1=>exact .row i n c b h0 h1
 |eptr ds a vv h1 h2 h3 h4 h5=>exact .eptr ds a vv h1 h2 h3 h4 h5
 |nilp=>exact .nilp
 |agg ds vs h1 h2 h3=>exact .agg ds vs h1 h2 h3
 |tup ds vs h1 h2=>exact .tup ds vs h1 h2
 |iface t d v h1 h2=>exact .iface t d v h1 h2
 |nili=>exact .nili
 |fn f ds vs h1 h2=>exact .fn f ds vs h1 h2
 |nilf=>exact .nilf
 |nilm=>exact .nilm
 |itp i b h1=>exact .itp i b h1
def Rep.un{w:World}{g:Gh}{d:D}{v:Value}(h:Rep w g d v):Rep w g d.un v:=by
 cases d with
 |agg cs=>
  obtain⟨vs,rfl,h1,h2,h3⟩:=A3.ofAgg h;refine .agg _ vs (by simp[h1]) h2 (λj d v hd hv=>?_);rw[Qi,Qb]at hd;obtain⟨d',hd',rfl⟩:=hd;exact(h3 j d' v hd' hv).un1
 |slice nl t xs=>exact h.un1
 |_=>exact h
def un_data{d:D}(h:d.data=true):d.un.data=true:=by cases d<;>first|exact h|rfl
def un_cells(d:D):d.un.cells.length=d.cells.length:=by cases d<;>simp[D.un,D.cells]
def kOf_none{P:Program}{t:TypeId}(h:kOf P t=some none):∃d,P.underlying t=some d∧GD d=false:=by
 unfold kOf at h;split at h
 ·simp at h
 ·simp at h
 ·rename_i d n1 n2 hd;refine⟨d,hd,?_⟩;cases d<;>first|rfl|(exact absurd rfl (n1 _))|(exact absurd rfl (n2 _ _))
 ·cases h
def kOf_some{P:Program}{t n:Nat}(h:kOf P t=some (some n)):∃d,P.underlying t=some d∧GD d=true∧CF P t=some n:=by
 unfold kOf at h;split at h
 ·rename_i hd;simp only[Qb,Qa]at h;obtain⟨x,hx,rfl⟩:=h;exact⟨_,hd,rfl,hx⟩
 ·rename_i hd;simp only[Qb,Qa]at h;obtain⟨x,hx,rfl⟩:=h;exact⟨_,hd,rfl,hx⟩
 ·simp at h
 ·cases h
def B_{sz:Nat}:∀{xs:List D},(∀d∈xs,d.cells.length=sz)->(flat xs).length=xs.length*sz
 |[],_=>by simp[flat]
 |x::r,h=>by
  have ih:=B_ (xs:=r) (λd hd=>h d (Qx _ hd));simp only[flat,List.length_append,Qy,ih,h x (Qr ..),QR,Nat.one_mul];omega
def Eg{sz:Nat}:∀{xs:List D} {k j:Nat},(∀d∈xs,d.cells.length=sz)->(hk:k<xs.length)->j<sz->(flat xs)[k*sz+j]?=(xs[k]).cells[j]?
 |x::r,0,j,h,hk,hj=>by
  simp only[flat,Nat.zero_mul,QM,List.getElem_cons_zero];rw[Qj (by rw[h x (Qr ..)];exact hj)]
 |x::r,k+1,j,h,hk,hj=>by
  have hx:=h x (Qr ..);have ih:=Eg (xs:=r) (k:=k) (j:=j) (λd hd=>h d (Qx _ hd)) (by simpa using hk) hj;simp only[flat,List.getElem_cons_succ];rw[Qm (by rw[hx,QR];omega),hx,←ih];congr 1;rw[QR];omega
def flat_drop{sz:Nat}:∀{xs:List D} (l:Nat),(∀d∈xs,d.cells.length=sz)->flat (xs.drop l)=(flat xs).drop (l*sz)
 |[],l,_=>by simp[flat]
 |x::r,0,_=>by simp
 |x::r,l+1,h=>by
  have hx:=h x (Qr ..);rw[List.drop_succ_cons,flat_drop l (λd hd=>h d (Qx _ hd))];simp only[flat];rw[show(l+1)*sz=x.cells.length+l*sz by rw[hx,QR];omega,←List.drop_drop,List.drop_left]
def flat_append:∀(xs ys:List D),flat (xs++ys)=flat xs++flat ys
 |[],ys=>by simp[flat]
 |x::r,ys=>by simp[flat,flat_append r ys]
def flat_take_get{sz:Nat}{xs:List D}{n:Nat}{j:Nat}{d:D}(h:(flat (xs.take n))[j]?=some d):(flat xs)[j]?=some d:=by
 have e:flat xs=flat (xs.take n)++flat (xs.drop n):=by rw[←flat_append,List.take_append_drop]
 rw[e,Qj (Qd.1 h).1];exact h
def bytes_get(l:List UInt8)(n:Nat):(ByteArray.mk l.toArray)[n]?=l[n]?:=by
 by_cases h:n<l.length
 ·rw[Qc h];rw[getElem?_pos (ByteArray.mk l.toArray) n (by simpa[ByteArray.size]using h)];rfl
 ·rw[Qn (by omega)];exact getElem?_neg (ByteArray.mk l.toArray) n (by simpa[ByteArray.size]using h)
def bytes_extract(l:List UInt8)(a b:Nat):(ByteArray.mk l.toArray).extract a b=⟨((l.drop a).take (b-a)).toArray⟩:=by
 apply ByteArray.ext;rw[ByteArray.data_extract];simp[Q8,QW]
section
variable{P:Program}{B:Nat}{w0 w:World}{m:Mem}{g:Gh}{fr:Id}{s:Nat->D}{a:Act}
def Fu(h:Dq w g s a){x:Option Operand}{y:Option Arg}(hx:trOpt x=some y){dflt most n:Nat}(hb:Fw s y dflt most=some n):
  (x=none∧n=dflt∧y=none)∨(∃o k,x=some o∧a.eval o= .int k (n:Int)∧n<=most):=by
 cases x with
 |none=>
  simp only[trOpt,Qa]at hx;subst hx;simp only[Fw,Qa]at hb;exact .inl ⟨rfl,hb.symm,rfl⟩
 |some o=>
  simp only[trOpt,Qb]at hx;obtain⟨z,hz,rfl⟩:=hx;have hr:=h.arg hz;simp only[Fw]at hb;split at hb
  ·rename_i k q he;rw[he]at hr;split at hb
   ·rename_i hc;simp only[Qa]at hb;refine .inr ⟨o,k,rfl,?_,by omega⟩;rw[hr.int_inv];congr 1;omega
   ·cases hb
  ·cases hb
def Ej(h:Dq w g s a){lo hi:Option Operand}{l' h':Option Arg}(hlo:trOpt lo=some l')(hhi:trOpt hi=some h')(isS:Bool){len cap l hh:Nat}(hc:len<=cap)
  (eh:Fw s h' len len=some hh) (el:Fw s l' 0 hh=some l):
  (Instr.sliceBounds isS len cap (lo.map a.eval) (hi.map a.eval) none).run P w= .ok (l,hh,cap) w∧l<=hh∧hh<=len:=by
 have hle:hh<=len:=by
  rcases Fu h hhi eh with ⟨_,rfl,_⟩|⟨_,_,_,_,h1⟩<;>omega
 have hle2:l<=hh:=by
  rcases Fu h hlo el with ⟨_,rfl,_⟩|⟨_,_,_,_,h1⟩<;>omega
 refine⟨?_,hle2,hle⟩;unfold Instr.sliceBounds;rcases Fu h hhi eh with ⟨rfl,rfl,_⟩|⟨o,k,rfl,eo,h1⟩<;>rcases Fu h hlo el with ⟨rfl,rfl,_⟩|⟨o',k',rfl,eo',h1'⟩
 ·simp
 ·simp[Instr.sliceBound,asIntOf,eo'];intro;omega
 ·simp[Instr.sliceBound,asIntOf,eo];intro;omega
 ·simp[Instr.sliceBound,asIntOf,eo,eo'];rw[if_pos (by omega)];simp;intro;omega
end
section
variable{P:Program}{B:Nat}{w0 w:World}{m:Mem}{g:Gh}{fr:Id}{s:Nat->D}{a:Act}
def BM:∀{n o:Nat} {i:Id} {ds:List D},Ag m i o n=some ds->ds.length=n∧∀j,j<n->m i (o+j)=ds[j]?
 |0,o,i,ds,h=>by simp only[Ag,Qa]at h;subst h;simp
 |n+1,o,i,ds,h=>by
  unfold Ag at h;split at h
  ·rename_i d hd;rw[Qb]at h;obtain⟨r,hr,rfl⟩:=h;obtain⟨p,q⟩:=BM hr;refine⟨by simp[p],λj hj=>?_⟩;cases j with
   |zero=>simpa using hd
   |succ j=>
    have:=q j (by omega);rw[show o+(j+1)=o+1+j by omega,this];simp
  ·cases h
def InvM.cells(h:InvM P B w0 m w g){i:Id}{b o n:Nat}{ds:List D}(hb:g.dl i=some b)(hr:Ag m i o n=some ds):
  ∃vs:List Value,A3 w g ds vs∧∀j v,vs[j]?=some v->w.cell? ⟨b,o+j,none⟩=some v:=by
 obtain⟨_,_,cs,T,hh,hobj⟩:=h.obj i b hb;obtain⟨hl,hg⟩:=BM hr;have key:∀j,j<n->∃d v,ds[j]?=some d∧cs[o+j]?=some v∧v.oneCell'=true∧Rep w g d v:=by
  intro j hj;have hd:ds[j]?=some ds[j]:=Qc (by omega);have:=hg j hj;rw[hd]at this;obtain⟨v,r1,r2,r3⟩:=hobj _ _ this;exact⟨_,v,hd,r1,r2,r3⟩
 refine⟨(Qt n).map λj=>cs.getD (o+j) undef,⟨by simp[hl],λv hv=>?_,λj d v hd hv=>?_⟩,λj v hv=>?_⟩
 ·rw[Qp]at hv;obtain⟨j,hj,rfl⟩:=hv;obtain⟨d,v,_,r1,r2,_⟩:=key j (Qk.1 hj);rw[Qg,r1];exact r2
 ·have hj:j<n:=by have:=(Qd.1 hd).1;omega
  obtain⟨d',v',e1,r1,r2,r3⟩:=key j hj;rw[e1]at hd;simp only[Qa]at hd;subst hd;rw[Qi,QK hj,QB,Qa,Qg,r1]at hv;subst hv;exact r3
 ·have hj:j<n:=by have:=(Qd.1 hv).1;simpa using this
  obtain⟨d',v',e1,r1,r2,r3⟩:=key j hj;rw[Qi,QK hj,QB,Qa,Qg,r1]at hv;subst hv;simp[World.cell?,hh,r1]
def InvM.cell(h:InvM P B w0 m w g){i:Id}{b o:Nat}{d:D}(hb:g.dl i=some b)(hm:m i o=some d):
  ∃v,w.cell? ⟨b,o,none⟩=some v∧v.oneCell'=true∧Rep w g d v:=by
 obtain⟨_,_,cs,T,hh,hobj⟩:=h.obj i b hb;obtain⟨v,r1,r2,r3⟩:=hobj _ _ hm;exact⟨v,by simp[World.cell?,hh,r1],r2,r3⟩
def DU(b o j:Nat):(⟨b,o,none⟩:Addr).add j=⟨b,o+j,none⟩:=by unfold Addr.add;split<;>simp_all
def DR{t:TypeId}(hk:kOf P t=some none){ad:Addr}{v:Value}(hc:w.cell? ad=some v):(loadVar t ad).run P w= .ok v w:=by
 obtain⟨d,hu,hd⟩:=kOf_none hk;simp[loadVar,run_isAgg' hu,hd,hc]
def Ek{t n:Nat}(hk:kOf P t=some (some n)){ad:Addr}{vs:List Value}(hl:vs.length=n)(hc:∀j v,vs[j]?=some v->w.cell? (ad.add j)=some v):
  (loadVar t ad).run P w= .ok (.agg vs.toArray) w:=by
 obtain⟨d,hu,hd,hs⟩:=kOf_some hk;subst hl;simp[loadVar,run_isAgg' hu,hd,run_sizeOf' hs,run_loadCells_list w ad vs hc]
def run_storeVar'{t n:Nat}(hs:CF P t=some n){b o:Nat}{cs:Array Value}{T:TypeId}(hh:w.heap[b]?=some (.cells cs T (0,0))){v:Value}(hv:v.cells.size=n)
  (h1:∀u∈v.cells.toList,u.oneCell'=true) (ho:o+n<=cs.size):
  (storeVar t ⟨b,o,none⟩ v).run P w= .ok () (w.setRow b (cs.toList.take o++v.cells.toList++cs.toList.drop (o+v.cells.toList.length)).toArray):=by
 unfold storeVar;simp only[Sem.run_bind,run_sizeOf' hs,Result.andThen_ok];rw[if_neg (by simp[hv])];have:=run_storeCells_at (P:=P) b o T v.cells.toList 0 cs w hh (by simp[hv];omega) h1;simpa using this
def Gm(e:TypeId)(cells:Array Value)(w:World):(newRow e cells).run P w= .ok ⟨w.heap.size,0,none⟩ (w.alloc (.cells cells e)):=by
 simp only[newRow,Sem.run_bind,run_newObj,Result.andThen_ok,Sem.run_pure];rfl
def A3.flat{sz:Nat}:∀{xs:List D} {vs:List Value},(∀d∈xs,d.data=true∧d.cells.length=sz)->vs.length=xs.length->(∀(j:Nat) d v,xs[j]?=some d->vs[j]?=some v->Rep w g d v)->
  A3 w g (flat xs) (vs.flatMap λv=>v.cells.toList)
 |[],vs,_,hl,_=>by
  have:vs=[]:=QH (by simpa using hl);subst this;exact A3.nil w g
 |x::r,[],_,hl,_=>by cases hl
 |x::r,v::vs,h,hl,hr=>by
  have h0:=hr 0 x v rfl rfl;simp only[Vd.flat,Zg];exact A3.append (h0.cells (h x (Qr ..)).1) (A3.flat (λd hd=>h d (Qx _ hd)) (by simpa using hl) (λj d u hd hu=>hr (j+1) d u (by simpa using hd) (by simpa using hu)))
def Rep.ofRow{t:Id}{xs:List D}{vs:List Value}{b n c sz:Nat}{cur:Array Value}{T:TypeId}{fz:Nat×Nat}(hh:w.heap[b]?=some (.cells cur T fz))(hn:n=xs.length)(hc:n<=c)
  (hx:∀d∈xs,d.cells.length=sz) (hr:A3 w g (flat xs) vs) (hv:∀(j:Nat) v,vs[j]?=some v->cur[j]?=some v) (hG:n*sz<=g.G b) (ht:t≠[]->g.tb t=some (b,n,c,sz)) (hcm:∀d∈xs,d.calm=true):
  Rep w g (.slice false t xs) (.slice (some ⟨b,0,none⟩) n c):=by
 have hfl:=B_ hx;have hvl:vs.length=n*sz:=by rw[hr.1,hfl,hn]
 refine .slice t xs ⟨b,0,none⟩ n c sz (λj=>vs.getD j undef) hn hc hx (λj hj=>?_) (λj hj=>?_) (λj d hd=>?_) (λ_=>by simpa using hG) (λh=>⟨rfl,rfl,ht h⟩) hcm
 ·have hj':j<vs.length:=by omega
  rw[DU,QM];have:=hv j vs[j] (Qc hj');simp[World.cell?,hh,this,Zc,Qc hj']
 ·have hj':j<vs.length:=by omega
  simp only[Zc,Qc hj',QD];exact hr.2.1 _ (Q2 hj')
 ·have hj':j<vs.length:=by have:=(Qd.1 hd).1;rw[hr.1];exact this
  simp only[Zc,Qc hj',QD];exact hr.2.2 j d _ hd (Qc hj')
def foldl_setAt:∀(vs:List Value)(k:Nat)(off:Nat)(cs:Array Value),off+k+vs.length<=cs.size->
  ((vs.zipIdx k).foldl (λcs (x:Value×Nat)=>cs.setIfInBounds (off+x.2) x.1) cs).toList=cs.toList.take (off+k)++vs++cs.toList.drop (off+k+vs.length)
 |[],k,off,cs,_=>by simp
 |v::r,k,off,cs,h=>by
  simp only[List.zipIdx_cons,QZ];rw[foldl_setAt r (k+1) off (cs.setIfInBounds (off+k) v) (by simp at h ⊢;omega)];simp only[Array.toList_setIfInBounds,Qy];have hl:off+k<cs.toList.length:=by simp at h ⊢;omega
  rw[show off+(k+1)=off+k+1 by omega];rw[List.take_succ_eq_append_getElem (by simpa using hl)];rw[List.take_set_of_le (by omega)];rw[List.drop_set_of_lt (by omega)];simp only[List.getElem_set_self,QN,Q3,Zp];rw[show off+k+1+r.length=off+k+(r.length+1)by omega]
def EW(vs:Array Value)(off:Nat)(cs:Array Value)(h:off+vs.size<=cs.size):
  (vs.zipIdx.foldl (λcs (x:Value×Nat)=>cs.setIfInBounds (off+x.2) x.1) cs).toList=cs.toList.take off++vs.toList++cs.toList.drop (off+vs.toList.length):=by
 have:=foldl_setAt vs.toList 0 off cs (by simpa using h);rw[←Array.foldl_toList,Array.toList_zipIdx];simpa using this
end
structure At (P:Program) (B:Nat) (w0 w:World) (m:Mem) (g:Gh) (fr:Id) (s:Nat->D) (a:Act):Prop where
 inv:InvM P B w0 m w g
 slots:Dq w g s a
 fresh:∀i,fr<:+i->BR m g i
section
variable{P:Program}{B:Nat}{w0 w:World}{m:Mem}{g:Gh}{fr:Id}{s:Nat->D}{a:Act}{S:Summs}{d:D}{u:Upd}
def At.self(h:At P B w0 w m g fr s a):BR m g fr:=h.fresh fr (Q4 fr)
def EC{i:Id}(hf:BR m g i)(hne:¬fr<:+i)(ds:List D)(b:Nat):BR (m.put fr 0 ds) (g.obj fr b) i:=by
 have:i≠fr:=λe=>hne (by rw[e];exact Q4 _)
 exact⟨λo=>by rw[Mem.put_other this];exact hf.1 o,by simp only[Gh.obj];rw[if_neg this];exact hf.2.1,hf.2.2⟩
def CO{i:Id}(hf:BR m g i)(hne:¬fr<:+i)(x b n c sz:Nat):BR (m.put fr 0 [.tok x]) (g.tok fr b n c sz) i:=by
 have:i≠fr:=λe=>hne (by rw[e];exact Q4 _)
 exact⟨λo=>by rw[Mem.put_other this];exact hf.1 o,hf.2.1,by simp only[Gh.tok];rw[if_neg this];exact hf.2.2⟩
def does_alloc{t:TypeId}{o:Oper}(h:At P B w0 w m g fr s a){z:D}(hz:CU P t=some z)(ho:o.op= .alloc t):
  CQ P B w0 m g fr w (m.put fr 0 z.cells) (.ptr fr 0) (execOp a.eval o):=by
 unfold CU at hz;split at hz
 ·rename_i i hi;split at hz
  ·rename_i v hv;have hr:Rep w g z v:=Rep.ofVal hz;have hd:z.data=true:=by
    cases v<;>first|(simp only[ofVal,Qb]at hz;obtain⟨l,_,rfl⟩:=hz;rfl)|(simp only[ofVal]at hz;exact data_ofLeaf hz)
   have hc:=hr.cells hd;refine⟨.pointer (some ⟨w.heap.size,0,none⟩),w.alloc (.cells v.cells t),g.obj fr w.heap.size,.value (.pointer (some ⟨w.heap.size,0,none⟩)),?_,.inl rfl,?_⟩
   ·simp only[execOp,ho,Instr.alloc,zeroValue,Sem.run_bind,typeInfo,run_program,Result.andThen_ok,hi,hv,Sem.run_pure,newVar,Gm]
   ·have:=h.inv.newObj h.self (ds:=z.cells) (vs:=v.cells.toList) t hc;rw[QI]at this;exact⟨this,Ext.newObj _ h.inv.gz h.self.2.1,Rep.newObj _ g fr _,λi hf hne=>EC hf hne _ _⟩
  ·cases hz
 ·cases hz
def does_box{t:TypeId}{o:Oper}{x:Operand}{y:Arg}(h:At P B w0 w m g fr s a)(hx:AC x=some y)(hd:(y.ev s).data=true)(ho:o.op= .box t x):
  CQ P B w0 m g fr w (m.put fr 0 (y.ev s).cells) (.ptr fr 0) (execOp a.eval o):=by
 have hr:=h.slots.arg hx;have hc:=hr.cells hd;refine⟨.pointer (some ⟨w.heap.size,0,none⟩),w.alloc (.cells (a.eval x).cells t),g.obj fr w.heap.size,.value (.pointer (some ⟨w.heap.size,0,none⟩)),?_,.inl rfl,?_⟩
 ·simp only[execOp,ho,Instr.box,Sem.run_bind,Result.andThen_ok,Sem.run_pure,newVar,Gm]
 ·have:=h.inv.newObj h.self (ds:=(y.ev s).cells) (vs:=(a.eval x).cells.toList) t hc;rw[QI]at this;exact⟨this,Ext.newObj _ h.inv.gz h.self.2.1,Rep.newObj _ g fr _,λi hf hne=>EC hf hne _ _⟩
def does_load{t:TypeId}{o:Oper}{x:Operand}{y:Arg}{k:Option Nat}(h:At P B w0 w m g fr s a)(hk:kOf P t=some k)(hx:AC x=some y)(ho:o.op= .load t x)
  (he:AB S s m fr (.load k y)=some (d,u)):u=[]∧CQ P B w0 m g fr w m d (execOp a.eval o):=by
 have hr:=h.slots.arg hx;have hrun:∀ad v,a.eval x= .pointer (some ad)->(loadVar t ad).run P w= .ok v w->(execOp a.eval o).run P w= .ok (.value v) w:=by
  intro ad v e1 e2;simp only[execOp,ho,Instr.loadAt,e1,Instr.sureAddr,Sem.run_bind,Result.andThen_ok,Sem.run_pure,e2]
 simp only[AB]at he;split at he
 ·rename_i i o' e;rw[e]at hr;obtain⟨b,e1,hb⟩:=hr.ptr_inv;rw[Qb]at he;obtain⟨d',hm,he⟩:=he;simp only[Qe]at he;obtain⟨rfl,rfl⟩:=he;obtain⟨v,c1,c2,c3⟩:=h.inv.cell hb hm;exact⟨rfl,.pure h.inv (hrun _ _ e1 (DR hk c1)) c3⟩
 ·rename_i i o' n e;rw[e]at hr;obtain⟨b,e1,hb⟩:=hr.ptr_inv;rw[Qb]at he;obtain⟨ds,hm,he⟩:=he;simp only[Qe]at he;obtain⟨rfl,rfl⟩:=he;obtain⟨vs,c1,c2⟩:=h.inv.cells hb hm;have hl:=(BM hm).1;exact⟨rfl,.pure h.inv (hrun _ _ e1 (Ek hk (by rw[c1.1,hl]) (λj v hv=>by rw[DU];exact c2 j v hv))) (Rep.aggOf c1)⟩
 ·rename_i ds e;rw[e]at hr;obtain⟨ad,vv,e1,q1,q2,q3,q4,q5⟩:=hr.eptr_inv;rw[Qb]at he;obtain⟨d',hm,he⟩:=he;simp only[Qe]at he;obtain⟨rfl,rfl⟩:=he;have h0:ds[0]?=some d':=by rw[←List.head?_eq_getElem?];exact hm
  have hl:0<ds.length:=(Qd.1 h0).1;exact⟨rfl,.pure h.inv (hrun _ _ e1 (DR hk (by have:=q1 0 hl;simpa[Addr.add]using this))) (q3 0 _ h0)⟩
 ·rename_i ds n e;rw[e]at hr;obtain⟨ad,vv,e1,q1,q2,q3,q4,q5⟩:=hr.eptr_inv;split at he
  ·rename_i hn;simp only[Qa,Qe]at he;obtain⟨rfl,rfl⟩:=he;have hlen:((Qt n).map vv).length=n:=by simp
   refine⟨rfl,.pure h.inv (hrun _ _ e1 (Ek hk hlen (λj v hv=>?_))) (Rep.aggOf ⟨by simp;omega,λv hv=>?_,λj d v hd hv=>?_⟩)⟩
   ·have hj:j<n:=by have:=(Qd.1 hv).1;simpa using this
    rw[Qi,QK hj]at hv;simp only[QB,Qa]at hv;subst hv;exact q1 j (by omega)
   ·rw[Qp]at hv;obtain⟨j,hj,rfl⟩:=hv;exact q2 j (by have:=Qk.1 hj;omega)
   ·have hj:j<n:=by have:=(Qd.1 hv).1;simpa using this
    rw[Qi,QK hj]at hv;simp only[QB,Qa]at hv;subst hv;exact q3 j d (by rw[Ql hj]at hd;exact hd)
  ·cases he
 ·cases he
def does_store{t:TypeId}{o:Oper}{x v:Operand}{y z:Arg}{n:Nat}(h:At P B w0 w m g fr s a)(hn:CF P t=some n)(hpos:0<n)(hx:AC x=some y)(hv:AC v=some z)(ho:o.op= .store t x v)
  (he:AB S s m fr (.store n y z)=some (d,u)):CQ P B w0 m g fr w (Upd.app m u) d (execOp a.eval o):=by
 have hr:=h.slots.arg hx;have hrv:=h.slots.arg hv;simp only[AB]at he;split at he
 ·rename_i i o' e;rw[e]at hr;obtain⟨b,e1,hb⟩:=hr.ptr_inv;split at he
  ·rename_i hc;obtain⟨c1,c2,c3⟩:=hc;simp only[Qa,Qe]at he;obtain⟨rfl,rfl⟩:=he;rw[Zi]at c3;obtain⟨old,hold⟩:=c3;obtain⟨vs,r1,r2⟩:=h.inv.cells hb hold;obtain⟨_,_,cs,T,hh,hobj⟩:=h.inv.obj i b hb;have hcells:=hrv.cells c1;have hsz:(a.eval v).cells.size=n:=by have:=hcells.1;simp at this;omega
   have hfit:o'+n<=cs.size:=by
    have hl:=(BM hold).1;have hv':vs[n-1]?=some (vs[n-1]'(by rw[r1.1];omega)):=Qc _;have:=r2 (n-1) _ hv';simp only[World.cell?,hh]at this;have:=(Qf.1 (by simpa using this)).1;omega
   refine⟨undef,w.setRow b (cs.toList.take o'++(a.eval v).cells.toList++cs.toList.drop (o'+(a.eval v).cells.toList.length)).toArray,g,.skip,?_,.inr ⟨rfl,rfl⟩,?_⟩
   ·have:=run_storeVar' hn hh (v:=a.eval v) hsz hcells.2.1 hfit;simp only[execOp,ho,Instr.storeAt,e1,Instr.sureAddr,Sem.run_bind,Result.andThen_ok,Sem.run_pure,this]
   ·have hG:=(h.inv.obj i b hb).2.1;refine⟨?_,Ext.setRow hG,.junk _,λi' hf hne=>?_⟩
    ·exact h.inv.store hb hh (ds:=(z.ev s).cells) (us:=(a.eval v).cells.toList) hcells (by omega)
    ·refine⟨λo=>?_,hf.2⟩;simp only[Upd.app];rw[Mem.put_other (by rintro rfl;rw[hf.2.1]at hb;cases hb)];exact hf.1 o
  ·cases he
 ·cases he
end
section
variable{P:Program}{B:Nat}{w0 w:World}{m:Mem}{g:Gh}{fr:Id}{s:Nat->D}{a:Act}{S:Summs}{d:D}{u:Upd}
def does_faddr{t:TypeId}{f:Nat}{o:Oper}{x:Operand}{y:Arg}{fields:Array Field}{fd:Field}{n:Nat}(h:At P B w0 w m g fr s a)(hu:P.underlying t=some (.struct fields))(hf:fields[f]?=some fd)
  (hn:CF P fd.type=some (n+1)) (hx:AC x=some y) (ho:o.op= .fieldAddr t x f) (he:AB S s m fr (.faddr fd.offset y)=some (d,u)):u=[]∧CQ P B w0 m g fr w m d (execOp a.eval o):=by
 have hr:=h.slots.arg hx;have hrun:∀ad,a.eval x= .pointer (some ad)->(execOp a.eval o).run P w= .ok (.value (.pointer (some (ad.add fd.offset)))) w:=by
  intro ad e;simp[execOp,ho,Instr.fieldAt,run_underlying hu,hf,e,Instr.sureAddr,fieldPlace,run_sizeOf' hn]
 simp only[AB]at he;split at he
 ·rename_i i o' e;rw[e]at hr;obtain⟨b,e1,hb⟩:=hr.ptr_inv;simp only[Qa,Qe]at he;obtain⟨rfl,rfl⟩:=he;refine⟨rfl,.pure h.inv (hrun _ e1) ?_⟩;rw[DU];exact .ptr i _ b hb
 ·rename_i ds e;rw[e]at hr;obtain⟨ad,vv,e1,q1,q2,q3,q4,q5⟩:=hr.eptr_inv;split at he
  ·rename_i hl;simp only[Qa,Qe]at he;obtain⟨rfl,rfl⟩:=he;refine⟨rfl,.pure h.inv (hrun _ e1) (.eptr _ _ (λj=>vv (fd.offset+j)) (λj hj=>?_) (λj hj=>?_) (λj d hd=>?_) (λhp=>?_) (λd hd=>q5 d (Qw hd)))⟩
   ·rw[add_add];exact q1 _ (by simp at hj;omega)
   ·exact q2 _ (by simp at hj;omega)
   ·exact q3 _ d (by rw[Qq]at hd;exact hd)
   ·rw[DX,GE];simp at hp ⊢;have:=q4 (by omega);omega
  ·cases he
 ·cases he
def does_field{t:TypeId}{f:Nat}{o:Oper}{x:Operand}{y:Arg}{fields:Array Field}{fd:Field}{k:Option Nat}(h:At P B w0 w m g fr s a)(hu:P.underlying t=some (.struct fields))(hf:fields[f]?=some fd)
  (hk:kOf P fd.type=some k) (hx:AC x=some y) (ho:o.op= .field t x f) (he:AB S s m fr (.field k fd.offset y)=some (d,u)):u=[]∧CQ P B w0 m g fr w m d (execOp a.eval o):=by
 have hr:=h.slots.arg hx;simp only[AB]at he;split at he
 ·rename_i cs e;rw[e]at hr;obtain⟨vs,e1,r1⟩:=A3.ofAgg hr;rw[Qb]at he;obtain⟨d',hd,he⟩:=he;simp only[Qe]at he;obtain⟨rfl,rfl⟩:=he;obtain⟨td,hu',hagg⟩:=kOf_none hk;have hv:fd.offset<vs.length:=by rw[r1.1];exact(Qd.1 hd).1
  refine⟨rfl,.pure (v:=vs[fd.offset]) h.inv ?_ (r1.2.2 _ _ _ hd (Qc hv))⟩;have:=Ct (w:=w) hu' hagg (cs:=vs.toArray) (o:=fd.offset) (v:=vs[fd.offset]) (by simp[hv]);simp[execOp,ho,Instr.field,run_underlying hu,hf,e1,asAgg,this]
 ·rename_i cs n e;rw[e]at hr;obtain⟨vs,e1,r1⟩:=A3.ofAgg hr;split at he
  ·rename_i hl;simp only[Qa,Qe]at he;obtain⟨rfl,rfl⟩:=he;obtain⟨td,hu',hagg,hs⟩:=kOf_some hk;refine⟨rfl,.pure (v:= .agg ((vs.drop fd.offset).take n).toArray) h.inv ?_ (Rep.aggOf ⟨by simp[r1.1],λv hv=>?_,λj d v hd hv=>?_⟩)⟩
   ·simp only[execOp,ho,Instr.field,Sem.run_bind,run_underlying hu,hf,e1,asAgg,part,run_isAgg' hu',hagg,Result.andThen_ok,run_sizeOf' hs,Sem.run_pure,if_true];congr 3;simp[Q8,QW]
   ·exact r1.2.1 v (Qw (QG hv))
   ·have hj:j<n:=by
     rcases Zn j n with h1|h1
     ·exact h1
     ·rw[Qn (by simp;omega)]at hd;cases hd
    rw[Ql hj,Qq]at hd hv;exact r1.2.2 _ d v hd hv
  ·cases he
 ·cases he
def calm_cells{d:D}(h:d.calm=true):∀x∈d.cells,x.calm=true:=by
 intro x hx;have go:∀x:D,x.calm1=true->x.calm=true:=by
  intro x hx;cases x<;>first|exact hx|(simp[D.calm1]at hx)
 cases d with
 |agg cs=>exact go x (Qs.1 h x hx)
 |_=>simp only[D.cells,Q0]at hx;subst hx;exact h
def does_iaddr{t e:TypeId}{o:Oper}{x i:Operand}{y z:Arg}{sz:Nat}(h:At P B w0 w m g fr s a)(hu:P.underlying t=some (.slice e))(hs:CF P e=some sz)
  (hx:AC x=some y) (hi:AC i=some z) (ho:o.op= .indexAddr t x i) (he:AB S s m fr (.iaddr sz y z)=some (d,u)):u=[]∧CQ P B w0 m g fr w m d (execOp a.eval o):=by
 have hr:=h.slots.arg hx;have hri:=h.slots.arg hi;simp only[AB]at he;split at he
 ·rename_i nl t' xs k n ex ei;rw[ex]at hr;rw[ei]at hri;split at he
  ·rename_i h0;split at he
   ·rename_i d' hd;split at he
    ·rename_i hsz;simp only[Qa,Qe]at he;obtain⟨rfl,rfl⟩:=he;have hlt:n.toNat<xs.length:=(Qd.1 hd).1;rcases hr.slice_inv with ⟨_,rfl,_⟩|⟨rfl,ad,n',c,sz',vv,ev,rfl,h2,h3,h4,h5,h6,h7,h8,h9⟩
     ·simp at hlt
     ·have hdm:d'∈xs:=QS hd;have:sz'=sz:=by rw[←h3 d' hdm];exact hsz
      subst this;have hxk:xs[n.toNat]=d':=by rw[Qc hlt]at hd;simpa using hd
      have hmul:n.toNat*sz'+sz'<=xs.length*sz':=by rw[←Zw];exact QF _ hlt
      refine⟨rfl,.pure (v:= .pointer (some (ad.add (n.toNat*sz')))) h.inv ?_ (.eptr _ _ (λj=>vv (n.toNat*sz'+j)) (λj hj=>?_) (λj hj=>?_) (λj d2 hd2=>?_) (λhp=>?_) (calm_cells (h9 d' hdm)))⟩
      ·have hin:(0:Int)<=n∧n<(xs.length:Int):=by omega
       simp[execOp,ho,Instr.indexAt,asIntOf,hri.int_inv,ev,run_underlying hu,hin,run_sizeOf' hs]
      ·rw[add_add];exact h4 _ (by omega)
      ·exact h5 _ (by omega)
      ·have hj:j<sz':=by have:=(Qd.1 hd2).1;omega
       refine h6 _ d2 ?_;rw[Eg h3 hlt hj,hxk];exact hd2
      ·rw[DX,GE];have hz:0<xs.length*sz':=by omega
       have:=h7 hz;omega
    ·cases he
   ·cases he
  ·cases he
 ·rename_i i' l k n ex ei;rw[ex]at hr;rw[ei]at hri;split at he
  ·rename_i hc;obtain⟨h0,hlt⟩:=hc;simp only[Qa,Qe]at he;obtain⟨rfl,rfl⟩:=he;obtain⟨b,cap,ev,_,hb⟩:=hr.row_inv;have hoff:(if sz=1 then n.toNat else n.toNat*sz)=n.toNat*sz:=by
    split
    ·rename_i e;rw[e,Nat.mul_one]
    ·rfl
   rw[hoff];have hadd:(Addr.mk b 0 none).add (n.toNat*sz)=⟨b,n.toNat*sz,none⟩:=by rw[DU,QM]
   refine⟨rfl,.pure (v:= .pointer (some ⟨b,n.toNat*sz,none⟩)) h.inv ?_ (.ptr _ _ b hb)⟩;have hin:(0:Int)<=n∧n<(l:Int):=⟨h0,hlt⟩;simp only[←hadd];simp[execOp,ho,Instr.indexAt,asIntOf,hri.int_inv,ev,run_underlying hu,hin,run_sizeOf' hs]
  ·cases he
 ·cases he
def does_idxs{t:TypeId}{o:Oper}{x i:Operand}{y z:Arg}(h:At P B w0 w m g fr s a)(hu:P.underlying t=some .string)
  (hx:AC x=some y) (hi:AC i=some z) (ho:o.op= .index t x i) (he:AB S s m fr (.idxs y z)=some (d,u)):u=[]∧CQ P B w0 m g fr w m d (execOp a.eval o):=by
 have hr:=h.slots.arg hx;have hri:=h.slots.arg hi;simp only[AB]at he;split at he
 ·rename_i b k n ex ei;rw[ex]at hr;rw[ei]at hri;split at he
  ·rename_i h0;rw[Qb]at he;obtain⟨c,hc,he⟩:=he;simp only[Qe]at he;obtain⟨rfl,rfl⟩:=he;refine⟨rfl,.pure (v:= .int .u8 c.toNat) h.inv ?_ (.int _ _)⟩;simp[execOp,ho,Instr.index,asIntOf,hri.int_inv,hr.str_inv,run_underlying hu,h0,bytes_get,hc]
  ·cases he
 ·cases he
def does_idxa{t e:TypeId}{len:Nat}{o:Oper}{x i:Operand}{y z:Arg}(h:At P B w0 w m g fr s a)(hu:P.underlying t=some (.array len e))(hk:kOf P e=some none)(hs:CF P e=some 1)
  (hx:AC x=some y) (hi:AC i=some z) (ho:o.op= .index t x i) (he:AB S s m fr (.idxa len y z)=some (d,u)):u=[]∧CQ P B w0 m g fr w m d (execOp a.eval o):=by
 have hr:=h.slots.arg hx;have hri:=h.slots.arg hi;simp only[AB]at he;split at he
 ·rename_i cs k n ex ei;rw[ex]at hr;rw[ei]at hri;split at he
  ·rename_i h0;rw[Qb]at he;obtain⟨d',hd,he⟩:=he;simp only[Qe]at he;obtain⟨rfl,rfl⟩:=he;obtain⟨vs,e1,r1⟩:=A3.ofAgg hr;obtain⟨td,hu',hagg⟩:=kOf_none hk;have hv:n.toNat<vs.length:=by rw[r1.1];exact(Qd.1 hd).1
   refine⟨rfl,.pure (v:=vs[n.toNat]) h.inv ?_ (r1.2.2 _ _ _ hd (Qc hv))⟩;have:=Ct (w:=w) hu' hagg (cs:=vs.toArray) (o:=n.toNat) (v:=vs[n.toNat]) (by simp[hv]);simp[execOp,ho,Instr.index,asIntOf,hri.int_inv,run_underlying hu,e1,h0,run_sizeOf' hs,this]
  ·cases he
 ·cases he
def does_iadda{t e:TypeId}{len sz:Nat}{o:Oper}{x i:Operand}{y z:Arg}(h:At P B w0 w m g fr s a)(hu:P.underlying t=some (.array len e))(hs:CF P e=some sz)
  (hx:AC x=some y) (hi:AC i=some z) (ho:o.op= .indexAddr t x i) (he:AB S s m fr (.iadda len sz y z)=some (d,u)):u=[]∧CQ P B w0 m g fr w m d (execOp a.eval o):=by
 have hr:=h.slots.arg hx;have hri:=h.slots.arg hi;simp only[AB]at he;split at he
 ·rename_i j off k n ex ei;rw[ex]at hr;rw[ei]at hri;split at he
  ·rename_i hc;obtain⟨h0,h1⟩:=hc;simp only[Qa,Qe]at he;obtain⟨rfl,rfl⟩:=he;obtain⟨b,ev,hb⟩:=hr.ptr_inv;refine⟨rfl,.pure (v:= .pointer (some ⟨b,off+n.toNat*sz,none⟩)) h.inv ?_ (.ptr _ _ b hb)⟩;have hin:(0:Int)<=n∧n<(len:Int):=⟨h0,h1⟩;simp only[←DU b off (n.toNat*sz)];simp[execOp,ho,Instr.indexAt,asIntOf,Instr.sureAddr,hri.int_inv,ev,run_underlying hu,hin,run_sizeOf' hs]
  ·cases he
 ·cases he
def does_idxm{t e:TypeId}{len sz:Nat}{o:Oper}{x i:Operand}{y z:Arg}(h:At P B w0 w m g fr s a)(hu:P.underlying t=some (.array len e))(hk:kOf P e=some (some sz))
  (hx:AC x=some y) (hi:AC i=some z) (ho:o.op= .index t x i) (he:AB S s m fr (.idxm len sz y z)=some (d,u)):u=[]∧CQ P B w0 m g fr w m d (execOp a.eval o):=by
 have hr:=h.slots.arg hx;have hri:=h.slots.arg hi;simp only[AB]at he;split at he
 ·rename_i cs k n ex ei;rw[ex]at hr;rw[ei]at hri;split at he
  ·rename_i hc;obtain⟨h0,h1,hl⟩:=hc;simp only[Qa,Qe]at he;obtain⟨rfl,rfl⟩:=he;obtain⟨vs,e1,r1⟩:=A3.ofAgg hr;obtain⟨td,hu',hagg,hs⟩:=kOf_some hk;refine⟨rfl,.pure (v:= .agg ((vs.drop (n.toNat*sz)).take sz).toArray) h.inv ?_ (Rep.aggOf ⟨by simp[r1.1],λv hv=>?_,λj d v hd hv=>?_⟩)⟩
   ·simp only[execOp,ho,Instr.index,Sem.run_bind,run_underlying hu,e1,hri.int_inv,asIntOf,Result.andThen_ok,Sem.run_pure,h0,h1,and_self,if_true,run_sizeOf' hs,part,run_isAgg' hu',hagg];congr 3;simp[Q8,QW]
   ·exact r1.2.1 v (Qw (QG hv))
   ·have hj:j<sz:=by
     rcases Zn j sz with h1|h1
     ·exact h1
     ·rw[Qn (by simp;omega)]at hd;cases hd
    rw[Ql hj,Qq]at hd hv;exact r1.2.2 _ d v hd hv
  ·cases he
 ·cases he
def does_cuts{t:TypeId}{o:Oper}{x:Operand}{lo hi:Option Operand}{y:Arg}{l' h':Option Arg}(h:At P B w0 w m g fr s a)(hu:P.underlying t=some .string)
  (hx:AC x=some y) (hlo:trOpt lo=some l') (hhi:trOpt hi=some h') (ho:o.op= .slice t x lo hi none) (he:AB S s m fr (.cuts y l' h')=some (d,u)):
  u=[]∧CQ P B w0 m g fr w m d (execOp a.eval o):=by
 have hr:=h.slots.arg hx;simp only[AB]at he;split at he
 ·rename_i b e;rw[e]at hr;split at he
  ·rename_i hh eh;split at he
   ·rename_i l el;simp only[Qa,Qe]at he;obtain⟨rfl,rfl⟩:=he;obtain⟨hb,_,_⟩:=Ej (P:=P) (w:=w) h.slots hlo hhi false (len:=b.length) (cap:=b.length) (Qo _) eh el;refine⟨rfl,.pure (v:= .string ⟨((b.drop l).take (hh-l)).toArray⟩) h.inv ?_ (.str _)⟩;have hsz:(ByteArray.mk b.toArray).size=b.length:=by simp[ByteArray.size]
    simp only[execOp,ho,Instr.sliceAt,Sem.run_bind,run_underlying hu,Result.andThen_ok,Instr.slice,hr.str_inv,Option.map_none,Option.isSome_none,Qu,if_false,hsz,hb,Sem.run_pure,bytes_extract]
   ·cases he
  ·cases he
 ·cases he
def headSz_eq{xs:List D}{sz k:Nat}(h:∀d∈xs,d.cells.length=sz)(hk:D.headSz xs k=k):xs=[]∨sz=k:=by
 cases xs with
 |nil=>exact .inl rfl
 |cons x r=>right;rw[←h x (Qr ..)];exact hk
def does_cutl{t e:TypeId}{o:Oper}{x:Operand}{lo hi:Option Operand}{y:Arg}{l' h':Option Arg}{sz:Nat}(h:At P B w0 w m g fr s a)(hu:P.underlying t=some (.slice e))(hs:CF P e=some sz)
  (hx:AC x=some y) (hlo:trOpt lo=some l') (hhi:trOpt hi=some h') (ho:o.op= .slice t x lo hi none) (he:AB S s m fr (.cutl sz y l' h')=some (d,u)):
  u=[]∧CQ P B w0 m g fr w m d (execOp a.eval o):=by
 have hr:=h.slots.arg hx;simp only[AB]at he;split at he
 ·rename_i nl t' xs e';rw[e']at hr;split at he
  ·rename_i hhead;split at he
   ·rename_i hh eh;split at he
    ·rename_i l el;simp only[Qa,Qe]at he;obtain⟨rfl,rfl⟩:=he;have hrun:∀ad n c l hh m',a.eval x= .slice ad n c->(Instr.sliceBounds true n c (lo.map a.eval) (hi.map a.eval) none).run P w= .ok (l,hh,m') w->
       (execOp a.eval o).run P w= .ok (.value (.slice (if m'=l then ad else ad.map (·.add (l*sz))) (hh-l) (m'-l))) w:=by
      intro ad n c l hh m' e1 e2;simp only[execOp,ho,Instr.sliceAt,Sem.run_bind,run_underlying hu,Result.andThen_ok,Instr.slice,e1,Option.map_none,e2,run_sizeOf' hs,Sem.run_pure]
     rcases hr.slice_inv with ⟨rfl,rfl,ev⟩|⟨rfl,ad,n,c,sz',vv,ev,hn,h2,h3,h4,h5,h6,h7,h8,h9⟩
     ·obtain⟨hb,q1,q2⟩:=Ej (P:=P) (w:=w) h.slots hlo hhi true (len:=0) (cap:=0) (Qo _) eh el;obtain rfl:hh=0:=by omega
      obtain rfl:l=0:=by omega
      exact⟨rfl,.pure h.inv (hrun _ _ _ _ _ _ ev hb) (.nils _)⟩
     ·subst hn;obtain⟨hb,q1,q2⟩:=Ej (P:=P) (w:=w) h.slots hlo hhi true (len:=xs.length) (cap:=c) h2 eh el;refine⟨rfl,.pure h.inv (hrun _ _ _ _ _ _ ev hb) ?_⟩;have hsub:∀d∈(xs.drop l).take (hh-l),d.cells.length=sz':=λd hd=>h3 d (Qw (QG hd))
      have hlen:((xs.drop l).take (hh-l)).length=hh-l:=by simp;omega
      by_cases hcl:c=l
      ·have h0:hh-l=0:=by omega
       rw[if_pos hcl,h0];refine .slice [] _ ad 0 _ sz' vv (by simp) (Zf _) (by simp) (by simp) (by simp) (by simp[flat]) (by simp) (by simp) (by simp)
      ·rw[if_neg hcl,QB];by_cases h0:hh-l=0
       ·rw[h0];exact .slice [] _ _ 0 _ sz' vv (by simp) (Zf _) (by simp) (by simp) (by simp) (by simp[flat]) (by simp) (by simp) (by simp)
       ·have hne:xs≠[]:=by rintro rfl;simp at q2;omega
        have hsz:sz'=sz:=(headSz_eq h3 hhead).resolve_left hne;subst hsz;have hm1:l*sz'+(hh-l)*sz'<=xs.length*sz':=by rw[←QR];exact QF _ (by omega)
        refine .slice [] _ _ _ _ sz' (λj=>vv (l*sz'+j)) hlen.symm (by omega) hsub (λj hj=>?_) (λj hj=>h5 _ (by omega)) (λj d hd=>h6 _ d ?_) (λhp=>?_) (by simp) (λd hd=>h9 d (Qw (QG hd)))
        ·rw[add_add];exact h4 _ (by omega)
        ·have:=flat_take_get (sz:=sz') hd;rw[flat_drop l h3,Qq]at this;exact this
        ·rw[DX,GE];have:=h7 (by omega);omega
    ·cases he
   ·cases he
  ·cases he
 ·cases he
end
section
variable{P:Program}{B:Nat}{w0 w:World}{m:Mem}{g:Gh}{fr:Id}{s:Nat->D}{a:Act}{S:Summs}{d:D}{u:Upd}
def fill_sound:∀{l:List (Nat×Nat×D)} {ps:List (Nat×Value)} {zs cs:List D} {zv:Array Value} {place:Nat->Option (Nat×Nat)},
  A3 w g zs zv.toList->l.length=ps.length->(∀(j:Nat) x p,l[j]?=some x->ps[j]?=some p->place p.1=some (x.1,x.2.1)∧Rep w g x.2.2 p.2)->
  BK zs l=some cs->∃cv:Array Value,Instr.fill place zv ps=some cv∧A3 w g cs cv.toList
 |[],[],zs,cs,zv,place,hz,_,_,h=>by
  simp only[BK,Qa]at h;subst h;exact⟨zv,rfl,hz⟩
 |(off,sz,d)::l,[],zs,cs,zv,place,hz,hl,_,h=>by cases hl
 |[],p::ps,zs,cs,zv,place,hz,hl,_,h=>by cases hl
 |(off,sz,d)::l,(i,v)::ps,zs,cs,zv,place,hz,hl,hp,h=>by
  unfold BK at h;split at h
  ·rename_i hc;obtain⟨c1,c2,c3⟩:=hc;obtain⟨e1,e2⟩:=hp 0 _ _ rfl rfl;simp only at e1 e2;have hcells:=e2.cells c1;have hvs:v.cells.size=sz:=by have:=hcells.1;simp at this;omega
   have hzl:=hz.1;simp only[QX]at hzl;have hfit:off+v.cells.size<=zv.size:=by omega
   have hset:=EW v.cells off zv hfit;have hreps:A3 w g (C0 zs off d.cells) ((v.cells.zipIdx.foldl (λcs (x:Value×Nat)=>cs.setIfInBounds (off+x.2) x.1) zv)).toList:=by
    rw[hset];unfold C0;have h1:A3 w g (zs.take off) (zv.toList.take off):=by
     refine⟨by simp;omega,λv hv=>hz.2.1 v (QG hv),λj d v hd hv=>?_⟩;have hj:j<off:=by
      rcases Zn j off with h1|h1
      ·exact h1
      ·rw[Qn (by simp;omega)]at hd;cases hd
     rw[Ql hj]at hd hv;exact hz.2.2 j d v hd hv
    have h2:A3 w g (zs.drop (off+d.cells.length)) (zv.toList.drop (off+v.cells.toList.length)):=by
     rw[hcells.1];refine⟨by simp;omega,λv hv=>hz.2.1 v (Qw hv),λj d v hd hv=>?_⟩;rw[Qq]at hd hv;exact hz.2.2 _ d v hd hv
    exact A3.append (A3.append h1 hcells) h2
   obtain⟨cv,f1,f2⟩:=fill_sound (ps:=ps) (place:=place) hreps (by simpa using hl) (λj x p hx hp'=>hp (j+1) x p (by simpa using hx) (by simpa using hp')) h;refine⟨cv,?_,f2⟩;unfold Instr.fill;rw[e1];simp only;rw[if_neg (by simp[hvs];omega)];exact f1
  ·cases h
def run_mapM_places{fields:List Field}(W:World)(h:∀f∈fields,∃n,CF P f.type=some n):
  ∃pl:List (Nat×Nat),(fields.mapM (m:=Sem) λ(f:Field)=>do pure (f.offset,←sizeOf f.type)).run P W= .ok pl W∧pl.length=fields.length∧∀(i:Nat)(f:Field) n,fields[i]?=some f->CF P f.type=some n->pl[i]?=some (f.offset,n):=by
 induction fields with
 |nil=>exact⟨[],by simp,rfl,by simp⟩
 |cons f r ih=>
  obtain⟨n,hn⟩:=h f (Qr ..);obtain⟨pl,e1,e2,e3⟩:=ih (λf hf=>h f (Qx _ hf));refine⟨(f.offset,n)::pl,?_,by simp[e2],λi f' n' hi hs=>?_⟩
  ·rw[List.mapM_cons];simp only[Sem.run_bind,run_sizeOf' hn,Result.andThen_ok,Sem.run_pure,e1]
  ·cases i with
   |zero=>
    simp only[Qv,Qa]at hi;subst hi;rw[hn]at hs;simp only[Qa]at hs;subst hs;rfl
   |succ i=>simp only[Q1]at hi ⊢;exact e3 i f' n' hi hs
def FR{fields:Array Field}:∀{ps:List (Nat×Operand)} {l:List (Nat×Nat×Arg)},Dh P fields ps=some l->
  l.length=ps.length∧∀(j:Nat) x p,l[j]?=some x->ps[j]?=some p->∃f:Field,fields[p.1]?=some f∧CF P f.type=some x.2.1∧x.1=f.offset∧AC p.2=some x.2.2
 |[],l,h=>by simp only[Dh,Qa]at h;subst h;simp
 |(i,x)::r,l,h=>by
  unfold Dh at h;split at h
  ·rename_i f y l' e1 e2 e3;split at h
   ·rename_i n e4;simp only[Qa]at h;subst h;obtain⟨q1,q2⟩:=FR e3;refine⟨by simp[q1],λj x' p hx hp=>?_⟩;cases j with
    |zero=>
     simp only[Qv,Qa]at hx hp;subst hx hp;exact⟨f,e1,e4,rfl,e2⟩
    |succ j=>exact q2 j x' p (by simpa using hx) (by simpa using hp)
   ·cases h
  ·cases h
def partsArr_some{sz:Nat}:∀{ps:List (Nat×Operand)} {l:List (Nat×Nat×Arg)},FS sz ps=some l->
  l.length=ps.length∧∀(j:Nat) x p,l[j]?=some x->ps[j]?=some p->x.1=p.1*sz∧x.2.1=sz∧AC p.2=some x.2.2
 |[],l,h=>by simp only[FS,Qa]at h;subst h;simp
 |(i,x)::r,l,h=>by
  unfold FS at h;split at h
  ·rename_i y l' e2 e3;simp only[Qa]at h;subst h;obtain⟨q1,q2⟩:=partsArr_some e3;refine⟨by simp[q1],λj x' p hx hp=>?_⟩;cases j with
   |zero=>
    simp only[Qv,Qa]at hx hp;subst hx hp;exact⟨rfl,rfl,e2⟩
   |succ j=>exact q2 j x' p (by simpa using hx) (by simpa using hp)
  ·cases h
def does_buildA{t e:TypeId}{len sz:Nat}{parts:Array (Nat×Operand)}{o:Oper}{zs:List D}{l:List (Nat×Nat×Arg)}(h:At P B w0 w m g fr s a)(hu:P.underlying t=some (.array len e))
  (hs1:CF P e=some sz) (hz:CU P t=some (.agg zs)) (hl:FS sz parts.toList=some l) (ho:o.op= .build t parts) (he:AB S s m fr (.build zs l)=some (d,u)):
  u=[]∧CQ P B w0 m g fr w m d (execOp a.eval o):=by
 simp only[AB]at he;rw[Qb]at he;obtain⟨cs,hcs,he⟩:=he;simp only[Qe]at he;obtain⟨rfl,rfl⟩:=he;unfold CU at hz;split at hz
 ·rename_i inf hinf;split at hz
  ·rename_i zv hzv;have hr:Rep w g (.agg zs) zv:=Rep.ofVal hz;obtain⟨vs,rfl,rz⟩:=A3.ofAgg hr;obtain⟨q1,q2⟩:=partsArr_some hl;have hfill:=fill_sound (w:=w) (g:=g) (l:=l.map λp=>(p.1,p.2.1,p.2.2.ev s)) (ps:=(parts.map λ(i,x)=>(i,a.eval x)).toList) (zs:=zs) (cs:=cs) (zv:=vs.toArray) (place:=λi=>some (i*sz,sz))
    (by simpa using rz) (by simp[q1]) (λj x p hx hp=>?_) hcs
   ·obtain⟨cv,f1,f2⟩:=hfill;refine⟨rfl,.pure (v:= .agg cv) h.inv ?_ ?_⟩
    ·simp only[execOp,ho,Instr.build,zeroValue,typeInfo,Sem.run_bind,run_program,Result.andThen_ok,hinf,hzv,Sem.run_pure,run_underlying hu,run_sizeOf' hs1,Value.cells,f1]
    ·have:=Rep.aggOf f2
     rwa [QI]at this
   ·rw[Qi,Qb]at hx;obtain⟨x',hx',rfl⟩:=hx;rw[QQ,Qi,Qb]at hp;obtain⟨p',hp',rfl⟩:=hp;obtain⟨r1,r2,r4⟩:=q2 j x' p' hx' hp';refine⟨?_,h.slots.arg r4⟩;simp[r1,r2]
  ·cases hz
 ·cases hz
def does_build{t:TypeId}{parts:Array (Nat×Operand)}{o:Oper}{fields:Array Field}{zs:List D}{l:List (Nat×Nat×Arg)}(h:At P B w0 w m g fr s a)(hu:P.underlying t=some (.struct fields))
  (hok:fieldsOk P fields.toList=true) (hz:CU P t=some (.agg zs)) (hl:Dh P fields parts.toList=some l) (ho:o.op= .build t parts) (he:AB S s m fr (.build zs l)=some (d,u)):
  u=[]∧CQ P B w0 m g fr w m d (execOp a.eval o):=by
 simp only[AB]at he;rw[Qb]at he;obtain⟨cs,hcs,he⟩:=he;simp only[Qe]at he;obtain⟨rfl,rfl⟩:=he;unfold CU at hz;split at hz
 ·rename_i inf hinf;split at hz
  ·rename_i zv hzv;have hr:Rep w g (.agg zs) zv:=Rep.ofVal hz;obtain⟨vs,rfl,rz⟩:=A3.ofAgg hr;have hfo:∀f∈fields.toList,∃n,CF P f.type=some n:=by
    intro f hf;have:=Qs.1 hok f hf;rw[Zi]at this;exact this
   obtain⟨pl,p1,p2,p3⟩:=run_mapM_places (P:=P) w hfo;obtain⟨q1,q2⟩:=FR hl;have hfill:=fill_sound (w:=w) (g:=g) (l:=l.map λp=>(p.1,p.2.1,p.2.2.ev s)) (ps:=(parts.map λ(i,x)=>(i,a.eval x)).toList) (zs:=zs) (cs:=cs) (zv:=vs.toArray) (place:=λi=>pl.toArray[i]?)
    (by simpa using rz) (by simp[q1]) (λj x p hx hp=>?_) hcs
   ·obtain⟨cv,f1,f2⟩:=hfill;refine⟨rfl,.pure (v:= .agg cv) h.inv ?_ ?_⟩
    ·have hm:(fields.mapM (m:=Sem) λ(f:Field)=>do pure (f.offset,←sizeOf f.type)).run P w= .ok pl.toArray w:=by
      rw[Array.mapM_eq_mapM_toList,Sem.run_map,p1];rfl
     simp only[execOp,ho,Instr.build,zeroValue,typeInfo,Sem.run_bind,run_program,Result.andThen_ok,hinf,hzv,Sem.run_pure,run_underlying hu,hm,Value.cells,f1]
    ·have:=Rep.aggOf f2
     rwa [QI]at this
   ·rw[Qi,Qb]at hx;obtain⟨x',hx',rfl⟩:=hx;rw[QQ,Qi,Qb]at hp;obtain⟨p',hp',rfl⟩:=hp;obtain⟨f,r1,r2,r3,r4⟩:=q2 j x' p' hx' hp';refine⟨?_,h.slots.arg r4⟩;have:=p3 p'.1 f x'.2.1 (by simpa using r1) r2;simp only[QL];rw[this,r3]
  ·cases hz
 ·cases hz
end
section
variable{P:Program}{B:Nat}{w0 w:World}{m:Mem}{g:Gh}{fr:Id}{s:Nat->D}{a:Act}{S:Summs}{d:D}{u:Upd}
def trArgs_get:∀{xs:List Operand} {ys:List Arg},DP xs=some ys->xs.length=ys.length∧∀(j:Nat) x y,xs[j]?=some x->ys[j]?=some y->AC x=some y
 |[],ys,h=>by simp only[DP,Qa]at h;subst h;simp
 |x::r,ys,h=>by
  unfold DP at h;split at h
  ·rename_i y l h1 h2;simp only[Qa]at h;subst h;obtain⟨p,q⟩:=trArgs_get h2;refine⟨by simp[p],λj x' y' hx hy=>?_⟩;cases j with
   |zero=>simp only[Qv,Qa]at hx hy;subst hx hy;exact h1
   |succ j=>exact q j x' y' (by simpa using hx) (by simpa using hy)
  ·cases h
def fill_row{sz:Nat}(hsz:0<sz):∀{ps:List (Nat×Value)} {k:Nat} {cs:Array Value},ps.map (·.1)=Zy k ps.length->(∀p∈ps,p.2.cells.size=sz)->cs.size=(k+ps.length)*sz->
  ∃cv:Array Value,Instr.fill (λi=>some (i*sz,sz)) cs ps=some cv∧cv.toList=cs.toList.take (k*sz)++ps.flatMap λp=>p.2.cells.toList
 |[],k,cs,_,_,hcs=>⟨cs,rfl,by simp at hcs;simp[List.take_of_length_le,hcs]⟩
 |(i,v)::r,k,cs,hk,hp,hcs=>by
  simp only[Qz,Qy,Zj,ZA]at hk;obtain⟨rfl,hk⟩:=hk;have hv:=hp (i,v) (Qr ..);simp only at hv;have hle:i*sz+v.cells.size<=cs.size:=by
   rw[hcs,hv,←Zw];exact QF _ (by simp only[Qy];omega)
  have hset:=EW v.cells (i*sz) cs hle;have hsize:(v.cells.zipIdx.foldl (λcs (x:Value×Nat)=>cs.setIfInBounds (i*sz+x.2) x.1) cs).size=cs.size:=by
   rw[←QX,hset];simp;omega
  obtain⟨cv,f1,f2⟩:=fill_row (k:=i+1) (ps:=r) (cs:=v.cells.zipIdx.foldl (λcs (x:Value×Nat)=>cs.setIfInBounds (i*sz+x.2) x.1) cs) hsz hk (λp hp'=>hp p (Qx _ hp')) (by rw[hsize,hcs];congr 1;simp only[Qy];omega);refine⟨cv,?_,?_⟩
  ·unfold Instr.fill;simp only;rw[if_neg (by simp[hv];first|done|omega)];exact f1
  ·rw[f2,hset];have hl:(cs.toList.take (i*sz)).length=i*sz:=by rw[QV];simp;omega
   have hvl:v.cells.toList.length=sz:=by simpa using hv
   simp only[Zg];rw[←QN];congr 1;rw[show(i+1)*sz=(cs.toList.take (i*sz)++v.cells.toList).length by rw[List.length_append,hl,hvl,Zw]];exact List.take_left
def does_bslice{t e:TypeId}{parts:Array (Nat×Operand)}{len:Nat}{o:Oper}{sz bytes:Nat}{l:List Arg}(h:At P B w0 w m g fr s a)(hu:P.underlying t=some (.slice e))(he:elemOf P e=some (sz,bytes))
  (hl:DP (parts.toList.map (·.2))=some l) (hrange:parts.toList.map (·.1)=Qt len) (hbig:len*sz<=2 ^ 24) (ho:o.op= .buildSlice t len parts)
  (hx:AB S s m fr (.bslice e sz l)=some (d,u)):CQ P B w0 m g fr w (Upd.app m u) d (execOp a.eval o):=by
 obtain⟨hpos,ti,z,hi,hsize,hz,hzs,hby⟩:=elemOf_some he;simp only[AB]at hx;split at hx
 ·rename_i hall;simp only[Qa,Qe]at hx;obtain⟨rfl,rfl⟩:=hx;have hall0:∀p∈l,((p.ev s).data=true∧(p.ev s).cells.length=sz)∧(p.ev s).un.calm=true:=by
   intro p hp;have:=Qs.1 hall p hp;simp only[QP,beq_iff_eq]at this;exact this
  have hall':∀p∈l,(p.ev s).data=true∧(p.ev s).cells.length=sz:=λp hp=>(hall0 p hp).1
  obtain⟨hlen,hget⟩:=trArgs_get hl;have hlen':parts.toList.length=len:=by have:=congrArg Zz hrange;simpa using this
  simp only[Zq]at hlen;have hrep:∀(j:Nat) d v,(l.map λp=>(p.ev s).un)[j]?=some d->(parts.toList.map λp=>a.eval p.2)[j]?=some v->Rep w g d v:=by
   intro j d v hd hv;rw[Qi,Qb]at hd hv;obtain⟨y,hy,rfl⟩:=hd;obtain⟨p,hp,rfl⟩:=hv;exact(h.slots.arg (hget j p.2 y (by rw[Qi,hp];rfl) hy)).un
  have hreps:=A3.flat (w:=w) (g:=g) (sz:=sz) (xs:=l.map λp=>(p.ev s).un) (vs:=parts.toList.map λp=>a.eval p.2) (λd hd=>by
   rw[Qp]at hd;obtain⟨y,hy,rfl⟩:=hd;exact⟨un_data (hall' y hy).1,by rw[un_cells];exact(hall' y hy).2⟩) (by simp;omega) hrep
  have hcsz:∀p∈(parts.map λ(i,x)=>(i,a.eval x)).toList,p.2.cells.size=sz:=by
   intro p hp;rw[QQ,Qp]at hp;obtain⟨q,hq,rfl⟩:=hp;obtain⟨j,hj,hjq⟩:=Za hq;have hy:l[j]?=some (l[j]'(by omega)):=Qc _;have hr:=h.slots.arg (hget j q.2 _ (by rw[Qi,Qc hj,hjq];rfl) hy);have hd:=hall' _ (Q2 (by omega:j<l.length));have:=(hr.cells hd.1).1;simp at this ⊢;omega
  let row:Array Value:=(Array.range (len*sz)).map (z.cells[· % z.cells.size]!)
  have hrow:row.size=(0+(parts.map λ(i,x)=>(i,a.eval x)).toList.length)*sz:=by
   have:parts.size=len:=by simpa using hlen'
   simp[row,this]
  obtain⟨cv,f1,f2⟩:=fill_row hpos (ps:=(parts.map λ(i,x)=>(i,a.eval x)).toList) (k:=0) (cs:=row) (by
   rw[←Q9];simp only[QQ,List.map_map,Zq,hlen'];rw[←hrange];apply QY;intro p _;rfl) hcsz hrow
  have hcv:cv.toList=(parts.toList.map λp=>a.eval p.2).flatMap λv=>v.cells.toList:=by
   rw[f2];simp[List.flatMap_map]
  have hcvs:cv.size=len*sz:=by
   have:=hreps.1;rw[←hcv]at this;rw[B_ (sz:=sz) (λd hd=>by
    rw[Qp]at hd;obtain⟨y,hy,rfl⟩:=hd;rw[un_cells];exact(hall' y hy).2)]at this
   simp only[QX,Zq]at this;rw[this];congr 1;omega
  have hml:len<=maxLen:=by
   have:len*1<=len*sz:=QO _ hpos;unfold maxLen;omega
  have hinv:=h.inv.newTok h.self (e:=e) (n:=len) (c:=len) (sz:=sz) (cur:=cv) hpos ⟨ti,z,hi,hsize,hz,hzs⟩ (Qo _) hml hcvs;have hext:=Ext.newTok (t:=fr) (n:=len) (c:=len) (sz:=sz) (Obj.cells cv e) h.inv.gz h.self.2.2 rfl;refine⟨.slice (some ⟨w.heap.size,0,none⟩) len len,w.alloc (.cells cv e),g.tok fr w.heap.size len len sz,.value (.slice (some ⟨w.heap.size,0,none⟩) len len),?_,.inl rfl,hinv,hext,?_,λi hf hne=>CO hf hne _ _ _ _ _⟩
  ·have hnb:¬(len*sz>2 ^ 24):=by omega
   have hs':CF P e=some sz:=by simp[CF,hi,hsize]
   by_cases h0:len*sz=0
   ·have hr0:(Array.range 0).map ((#[]:Array Value)[· % (#[]:Array Value).size]!)=row:=by simp[row,h0]
    simp only[execOp,ho,Instr.buildSlice,Sem.run_bind,run_underlying hu,Result.andThen_ok,run_sizeOf' hs',show ¬((0:Nat)>2 ^ 24)from by omega,if_false,h0,if_true,Sem.run_pure,hr0,f1,Gm]
   ·simp only[execOp,ho,Instr.buildSlice,Sem.run_bind,run_underlying hu,Result.andThen_ok,run_sizeOf' hs',hnb,if_false,h0,Sem.run_pure,zeroValue,typeInfo,run_program,hi,hz];change (Sem.run P (match Instr.fill (λi=>some (i*sz,sz)) row (parts.map λ(i,x)=>(i,a.eval x)).toList with|some cells=>_|_=>_) w).andThen _=_;rw[f1];simp only[Sem.run_bind,Gm,Result.andThen_ok,Sem.run_pure]
  ·refine Rep.ofRow (sz:=sz) (cur:=cv) (T:=e) (fz:=(0,0)) (heap_alloc_new w _) (by simp;omega) (Qo _) (λd hd=>?_) (hreps.ext hext) (λj v hv=>?_) (by simp[Gh.tok]) (λ_=>by simp[Gh.tok]) (λd hd=>?_)
   ·rw[Qp]at hd;obtain⟨y,hy,rfl⟩:=hd;rw[un_cells];exact(hall' y hy).2
   ·rw[←hcv]at hv;simpa using hv
   ·rw[Qp]at hd;obtain⟨y,hy,rfl⟩:=hd;exact(hall0 y hy).2
 ·cases hx
end
structure Src (P:Program) (w:World) (size:Nat) (y:Value) (n:Nat) (ws:List Value):Prop where
 len:∀W:World,(Builtin.lenOf y).run P W= .ok n W
 cells:(Builtin.firstCells size n y).run P w= .ok ws.toArray w
 drew:(Builtin.firstCells size n y).run P w.drew= .ok ws.toArray w.drew
 wl:ws.length=n*size
section
variable{P:Program}{w:World}
def Src.slice{size n c:Nat}{ad:Addr}{ws:List Value}(hl:ws.length=n*size)(h:∀j u,ws[j]?=some u->w.cell? (ad.add j)=some u):Src P w size (.slice (some ad) n c) n ws:=
 ⟨λW=>by simp[Builtin.lenOf],run_firstCells_some (P:=P) w size n ad n c ws hl h,run_firstCells_some (P:=P) w.drew size n ad n c ws hl (by simpa using h),hl⟩
def Src.string(s:ByteArray):Src P w 1 (.string s) s.size (Lib.strCells s):=
 ⟨λW=>by simp[Builtin.lenOf],Lib.run_firstCells_string w 1 s,Lib.run_firstCells_string w.drew 1 s,by rw[Lib.strCells_length];omega⟩
def run_app_nil{t ty e:TypeId}{i:TypeInfo}{z:Value}(ht:P.underlying t=some (.slice e))(hi:P.info? e=some i)(hz:i.zero=some z)
  {y:Value} {n:Nat} {ws:List Value} (hs:Src P w i.size y n ws)
  (h0:0<n) (h63:(n:Int)<=9223372036854775807) (h48:n*i.bytes<=281474976710656):
  (Builtin.append_ #[t,t] ty #[.slice none 0 0,y]).run P w=
   .ok (.slice (some ⟨w.heap.size,0,none⟩) n (grownCap w n 0 e)) (w.drew.alloc (.cells (ws.toArray++Builtin.zeroCells z.cells (grownCap w n 0 e-n)) e)):=by
 have hn:n≠0:=by omega
 have h63':¬(9223372036854775807<(n:Int)):=by omega
 have h48':¬(281474976710656<Builtin.nextslicecap n 0*i.bytes):=by rw[nextslicecap_zero h0];omega
 have hf:=hs.drew;have hl:=hs.len;simp[Builtin.append_,run_underlying ht,sizeOf,typeInfo,zeroValue,hi,hz,hl,hn,h63',h48',Question.forced,run_firstCells_none,hf,newRow,grownCap]
def run_app_grow{t ty e:TypeId}{i:TypeInfo}{z:Value}(ht:P.underlying t=some (.slice e))(hi:P.info? e=some i)(hz:i.zero=some z)
  {b:Addr} {sLen sCap:Nat} {olds:List Value} (hlo:olds.length=sLen*i.size) (holds:∀j v,olds[j]?=some v->w.cell? (b.add j)=some v)
  {y:Value} {n:Nat} {ws:List Value} (hs:Src P w i.size y n ws)
  (hg:sCap<sLen+n) (h63:((sLen+n:Nat):Int)<=9223372036854775807) (hfit:Builtin.nextslicecap (sLen+n) sCap*i.bytes<=281474976710656):
  (Builtin.append_ #[t,t] ty #[.slice (some b) sLen sCap,y]).run P w=
   .ok (.slice (some ⟨w.heap.size,0,none⟩) (sLen+n) (grownCap w (sLen+n) sCap e))
    (w.drew.alloc (.cells (olds.toArray++ws.toArray++Builtin.zeroCells z.cells (grownCap w (sLen+n) sCap e-(sLen+n))) e)):=by
 have hn:¬(sLen+n<=sCap):=by omega
 have h63':¬(9223372036854775807<((sLen:Int)+(n:Int))):=by omega
 have h48':¬(281474976710656<Builtin.nextslicecap (sLen+n) sCap*i.bytes):=by omega
 have hf:=hs.drew;have hl:=hs.len;have hfo:=run_firstCells_some (P:=P) w.drew i.size sLen b sLen sCap olds hlo (by simpa using holds);simp[Builtin.append_,run_underlying ht,sizeOf,typeInfo,zeroValue,hi,hz,hl,hn,h63',h48',Question.forced,hf,hfo,newRow,grownCap];congr 2;apply Array.ext';simp[QN]
def run_app_room{t ty e:TypeId}{i:TypeInfo}(ht:P.underlying t=some (.slice e))(hi:P.info? e=some i)
  {g sLen sCap:Nat} {cur:Array Value} (hg:w.heap[g]?=some (.cells cur e (0,0))) {y:Value} {n:Nat} {ws:List Value} (hs:Src P w i.size y n ws) (h1:∀u∈ws,u.oneCell'=true)
  (hroom:sLen+n<=sCap) (hfit:sLen*i.size+ws.length<=cur.size):
  (Builtin.append_ #[t,t] ty #[.slice (some ⟨g,0,none⟩) sLen sCap,y]).run P w=
   .ok (.slice (some ⟨g,0,none⟩) (sLen+n) sCap) (w.setRow g (cur.toList.take (sLen*i.size)++ws++cur.toList.drop (sLen*i.size+ws.length)).toArray):=by
 have hf:=hs.cells;have hl:=hs.len;have hst:=run_storeCells_at P g (sLen*i.size) e ws 0 cur w hg (by simpa using hfit) h1;simp only[Zm]at hst;simp[Builtin.append_,run_underlying ht,sizeOf,typeInfo,hi,hl,hroom,hf,Addr.add_lit,hst]
def Src.nil{size:Nat}:Src P w size (.slice none 0 0) 0 []:=
 ⟨λW=>by simp[Builtin.lenOf],by simp[Builtin.firstCells],by simp[Builtin.firstCells],by simp⟩
def run_app_none{t ty e:TypeId}{i:TypeInfo}(ht:P.underlying t=some (.slice e))(hi:P.info? e=some i){y:Value}{ws:List Value}(hs:Src P w i.size y 0 ws):
  (Builtin.append_ #[t,t] ty #[.slice none 0 0,y]).run P w= .ok (.slice none 0 0) w:=by
 have hf:=hs.cells;have hl:=hs.len;simp[Builtin.append_,run_underlying ht,sizeOf,typeInfo,hi,hl,hf]
def run_app_type{t u ty e:TypeId}(ht:P.underlying t=some (.slice e))(hu:P.underlying u=some .string)(x y:Value):
  (Builtin.append_ #[t,u] ty #[x,y]).run P w=(Builtin.append_ #[t,t] ty #[x,y]).run P w:=by
 cases x<;>simp[Builtin.append_,run_underlying ht,run_underlying hu,sizeOf]
end
section
variable{P:Program}{B:Nat}{w0 w:World}{m:Mem}{g:Gh}{fr:Id}{s:Nat->D}{a:Act}{S:Summs}{d:D}{u:Upd}
def Rep.slice_list{t:Id}{xs:List D}{v:Value}(h:Rep w g (.slice false t xs) v):∃ad n c sz,∃ws:List Value,v= .slice (some ad) n c∧n=xs.length∧n<=c∧(∀d∈xs,d.cells.length=sz)∧
  ws.length=n*sz∧A3 w g (flat xs) ws∧(∀j u,ws[j]?=some u->w.cell? (ad.add j)=some u)∧(0<n*sz->ad.off+n*sz<=g.G ad.block)∧
  (t≠[]->ad.off=0∧ad.spot=none∧g.tb t=some (ad.block,n,c,sz))∧(∀d∈xs,d.calm=true):=by
 rcases h.slice_inv with ⟨h0,_⟩|⟨_,ad,n,c,sz,vv,ev,h1,h2,h3,h4,h5,h6,h7,h8,h9⟩
 ·cases h0
 ·have hl:=B_ h3;refine⟨ad,n,c,sz,(Qt (n*sz)).map vv,ev,h1,h2,h3,by simp,⟨by simp[hl,h1],λv hv=>?_,λj d v hd hv=>?_⟩,λj u hu=>?_,h7,h8,h9⟩
  ·rw[Qp]at hv;obtain⟨j,hj,rfl⟩:=hv;exact h5 j (Qk.1 hj)
  ·have hj:j<n*sz:=by have:=(Qd.1 hv).1;simpa using this
   rw[Qi,QK hj]at hv;simp only[QB,Qa]at hv;subst hv;exact h6 j d hd
  ·have hj:j<n*sz:=by have:=(Qd.1 hu).1;simpa using this
   rw[Qi,QK hj]at hu;simp only[QB,Qa]at hu;subst hu;exact h4 j hj
def flat_one:∀{ys:List D},(∀d∈ys,d.cells=[d])->flat ys=ys
 |[],_=>rfl
 |d::r,h=>by
  rw[flat,h d (Qr ..),flat_one λd hd=>h d (Qx _ hd)];rfl
def src_rep{y:D}{v:Value}{ys:List D}{sz:Nat}(h:Rep w g y v)(hs:appSrc sz y=some ys)(hh:D.headSz ys sz=sz):
  ∃ws:List Value,Src P w sz v ys.length ws∧A3 w g (flat ys) ws∧(∀d∈ys,d.cells.length=sz)∧∀d∈ys,d.calm=true:=by
 unfold appSrc at hs;split at hs
 ·rename_i nl t ys';simp only[Qa]at hs;subst hs;cases nl with
  |true=>
   rcases h.slice_inv with ⟨_,rfl,rfl⟩|⟨h0,_⟩
   ·exact⟨[],Src.nil,A3.nil w g,by simp,by simp⟩
   ·cases h0
  |false=>
   obtain⟨ad,n,c,sz',ws,rfl,hn,hnc,hsz',hwl,hrep,hcell,hG,htk,hcy⟩:=h.slice_list;subst hn;rcases headSz_eq hsz' hh with rfl|rfl
   ·have hw0:ws=[]:=QH (by rw[hwl];simp);subst hw0;exact⟨[],Src.slice (by simp) (by simp),A3.nil w g,by simp,by simp⟩
   ·exact⟨ws,Src.slice hwl hcell,hrep,hsz',hcy⟩
 ·rename_i b;split at hs
  ·rename_i h1;subst h1;simp only[Qa]at hs;subst hs;have hv:v= .string ⟨b.toArray⟩:=by cases h;rfl
   subst hv;have hlen:(Au b).length=(⟨b.toArray⟩:ByteArray).size:=by simp[Au];rfl
   have h1:∀d∈Au b,d.cells=[d]∧d.calm=true:=by
    intro d hd;simp only[Au,Qp]at hd;obtain⟨c,_,rfl⟩:=hd;exact⟨rfl,rfl⟩
   refine⟨Lib.strCells ⟨b.toArray⟩,hlen▸Src.string _,⟨?_,Lib.strCells_oneCell _,λj d u hd hu=>?_⟩,λd hd=>by rw[(h1 d hd).1];rfl,λd hd=>(h1 d hd).2⟩
   ·rw[flat_one λd hd=>(h1 d hd).1,Lib.strCells_length,hlen]
   ·rw[flat_one λd hd=>(h1 d hd).1]at hd;simp only[Au,Lib.strCells,Qi,Qb]at hd hu;obtain⟨c,hc,rfl⟩:=hd;obtain⟨c',hc',rfl⟩:=hu;rw[hc]at hc';simp only[Qa]at hc';subst hc';exact .int _ _
  ·cases hs
 ·cases hs
def does_app{t t2 e:TypeId}{o:Oper}{x y:Operand}{p q:Arg}{sz bytes:Nat}(h:At P B w0 w m g fr s a)(hu:P.underlying t=some (.slice e))(he:elemOf P e=some (sz,bytes))
  (hx:AC x=some p) (hy:AC y=some q) (ho:o.op= .call {callee:= .builtin .append,args:=#[x,y],argTypes:=#[t,t2]}) (ht2:t2=t∨P.underlying t2=some .string)
  (hex:AB S s m fr (.app e sz bytes p q)=some (d,u)):CQ P B w0 m g fr w (Upd.app m u) d (execOp a.eval o):=by
 obtain⟨hpos,ti,z,hi,hsize,hz,hzs,hby⟩:=elemOf_some he;have hs':CF P e=some sz:=by simp[CF,hi,hsize]
 have hrx:=h.slots.arg hx;have hry:=h.slots.arg hy;have hinfo:∃ti z,P.info? e=some ti∧ti.size=sz∧ti.zero=some z∧z.cells.size=sz:=⟨ti,z,hi,hsize,hz,hzs⟩;have hrun:∀v' w',(Builtin.append_ #[t,t] o.type #[a.eval x,a.eval y]).run P w= .ok v' w'->(execOp a.eval o).run P w= .ok (.value v') w':=by
  intro v' w' e1;have e1:(Builtin.append_ #[t,t2] o.type #[a.eval x,a.eval y]).run P w= .ok v' w':=by
   rcases ht2 with rfl|ht2
   ·exact e1
   ·rw[run_app_type hu ht2];exact e1
  simp only[execOp,ho,resolve,invoke,builtin,Sem.run_bind,Sem.run_pure,Result.andThen_ok,List.map_toArray,Qz,Zo,e1]
 simp only[AB]at hex;split at hex
 ·rename_i nl t' xs ys ex ey;rw[ex]at hrx;split at hex
  ·rename_i hc;obtain⟨rfl,rfl⟩:=hc;simp only[Qa,Qe]at hex;obtain⟨rfl,rfl⟩:=hex;rcases hrx.slice_inv with ⟨_,rfl,ev⟩|⟨h0,_⟩
   ·obtain⟨ws,hsrc,_⟩:=src_rep (P:=P) hry ey (show D.headSz [] sz=sz from rfl);have hv:=run_app_none (ty:=o.type) hu hi (hsize▸hsrc);exact .pure h.inv (hrun _ _ (by rw[ev];exact hv)) (.nils _)
   ·cases h0
  ·rename_i hnc;split at hex
   ·rename_i hc;obtain⟨hbd,hhd⟩:=hc;obtain⟨ws,hsrc,hrep,hysz,hycalm⟩:=src_rep (P:=P) hry ey hhd;have hwl:ws.length=ys.length*sz:=hsrc.wl;have hsrc':Src P w ti.size (a.eval y) ys.length ws:=by rw[hsize];exact hsrc
    have hbd':xs.length+ys.length<=140737488355328:=by
     have:(xs.length+ys.length)*1<=(xs.length+ys.length)*(bytes+1):=QO _ (by omega);omega
    have hbb:(xs.length+ys.length)*bytes<=140737488355328:=by
     have:(xs.length+ys.length)*bytes<=(xs.length+ys.length)*(bytes+1):=QO _ (by omega);omega
    split at hex
    ·-- onto nil
     rename_i hnl;subst hnl;simp only[Qa,Qe]at hex;obtain⟨rfl,rfl⟩:=hex;have hys:ys≠[]:=λe=>hnc ⟨rfl,e⟩
     rcases hrx.slice_inv with ⟨_,rfl,ev⟩|⟨h0,_⟩
     ·have hlen:0<ys.length:=List.length_pos_iff.2 hys;simp only[List.length_nil,QM]at hbd' hbb;have hr:=run_app_nil (P:=P) (ty:=o.type) hu hi hz hsrc' hlen (by omega) (by rw[hby];omega);have hge:=grownCap_ge w ys.length 0 e;have hcm:grownCap w ys.length 0 e<=maxLen:=grownCap_le_maxLen w ys.length 0 e (by unfold maxLen;omega);have hsz2:(ws.toArray++Builtin.zeroCells z.cells (grownCap w ys.length 0 e-ys.length)).size=grownCap w ys.length 0 e*sz:=by
       simp only[Array.size_append,List.size_toArray,size_zeroCells,hzs,hwl,←QR];congr 1;omega
      have hinv:=h.inv.drew.newTok h.self (e:=e) (n:=ys.length) (c:=grownCap w ys.length 0 e) (sz:=sz) (cur:=ws.toArray++Builtin.zeroCells z.cells (grownCap w ys.length 0 e-ys.length)) hpos hinfo hge hcm hsz2;have hext:Ext w g (w.drew.alloc (.cells (ws.toArray++Builtin.zeroCells z.cells (grownCap w ys.length 0 e-ys.length)) e)) (g.tok fr w.heap.size ys.length (grownCap w ys.length 0 e) sz):=
       (Ext.drew w g).trans (Ext.newTok (w:=w.drew) _ h.inv.gz h.self.2.2 rfl)
      refine⟨_,_,_,_,hrun _ _ (by rw[ev];exact hr),.inl rfl,hinv,hext,?_,λi hf hne=>CO hf hne _ _ _ _ _⟩;refine Rep.ofRow (sz:=sz) (cur:=ws.toArray++Builtin.zeroCells z.cells (grownCap w ys.length 0 e-ys.length)) (T:=e) (fz:=(0,0)) (heap_alloc_new w.drew _) rfl hge hysz (hrep.ext hext) (λj v hv=>?_) (by simp[Gh.tok]) (λ_=>by simp[Gh.tok]) hycalm;rw[QT (by simpa using (Qd.1 hv).1)];simpa using hv
     ·cases h0
    ·-- onto a growing slice
     rename_i hnl;have hnl:nl=false:=by cases nl<;>simp_all
     subst hnl;split at hex
     ·rename_i k hk;split at hex
      ·rename_i hke;obtain⟨hke,htne⟩:=hke;subst hke;simp only[Qa,Qe]at hex;obtain⟨rfl,rfl⟩:=hex;obtain⟨ad,n0,c0,szx,wsx,ev,hn,hnc',hszx,hwlx,hrepx,hcellx,hGx,htkx,hcx⟩:=hrx.slice_list;obtain⟨b,n,c,sz1,cur,t1,t2,t3,t4,t5,t6,t7,t8,t9,t10⟩:=h.inv.tok t' e hk;obtain⟨q1,q2,q3⟩:=htkx htne;rw[t1]at q3;simp only[Qa,Qe]at q3;obtain⟨rfl,rfl,rfl,rfl⟩:=q3;have hsz1:sz1=sz:=by obtain⟨ti',z',i1,i2,_⟩:=t4;rw[hi]at i1;simp only[Qa]at i1;subst i1;omega
       subst hsz1;have had:ad=⟨ad.block,0,none⟩:=by cases ad;simp_all
       have hg0:w.heap[ad.block]?=some (.cells cur e (0,0)):=t5;have hx1:∀(j:Nat) v,wsx[j]?=some v->cur[j]?=some v:=by
        intro j v hv;have:=hcellx j v hv;rw[had,DU,QM]at this;simpa[World.cell?,hg0]using this
       have htake:cur.toList.take (n*sz1)=wsx:=by
        apply List.ext_getElem?;intro j;by_cases hj:j<n*sz1
        ·rw[Ql hj];have:wsx[j]?=some (wsx[j]'(by omega)):=Qc _;rw[this];simpa using hx1 j _ this
        ·rw[Qn (by simp;omega),Qn (by omega)]
       have hkill:InvM P B w0 (m.put t' 0 [.tok 0]) w g:=h.inv.kill (by
        cases hd:g.dl t' with
        |none=>rfl
        |some b'=>
         obtain⟨_,_,vs,T,_,r⟩:=h.inv.obj t' b' hd;obtain⟨v,_,_,r3⟩:=r 0 _ hk;cases r3)
       have htfr:fr≠t':=by rintro rfl;rw[h.self.1 0]at hk;cases hk
       have hfk:BR (m.put t' 0 [.tok 0]) g fr:=BR.kill h.self htfr;have hfresh:∀b' n' c' s',∀i,BR m g i->¬fr<:+i->BR ((m.put t' 0 [.tok 0]).put fr 0 [.tok (e+1)]) (g.tok fr b' n' c' s') i:=by
        intro b' n' c' s' i hf hne;exact CO (BR.kill hf (by rintro rfl;rw[hf.1 0]at hk;cases hk)) hne _ _ _ _ _
       have hall:∀dd∈xs++ys,dd.cells.length=sz1:=by
        intro dd hdd;rcases Qh.1 hdd with hd|hd
        ·exact hszx dd hd
        ·exact hysz dd hd
       have hcall:∀dd∈xs++ys,dd.calm=true:=by
        intro dd hdd;rcases Qh.1 hdd with hd|hd
        ·exact hcx dd hd
        ·exact hycalm dd hd
       have hreps:A3 w g (flat (xs++ys)) (wsx++ws):=by rw[flat_append];exact A3.append hrepx hrep
       have hlen:n+ys.length=(xs++ys).length:=by simp;omega
       have hcm0:(n+ys.length)<=maxLen:=by unfold maxLen;omega
       by_cases hroom:n+ys.length<=c
       ·-- there is room
        have hfit:n*ti.size+ws.length<=cur.size:=by rw[hwl,hsize,t8,←QR];exact QF _ hroom
        have hr:=run_app_room (P:=P) (ty:=o.type) hu hi hg0 hsrc' hrep.2.1 hroom hfit;rw[hsize]at hr hfit
        let cur':Array Value:=(cur.toList.take (n*sz1)++ws++cur.toList.drop (n*sz1+ws.length)).toArray
        have hlt:(cur.toList.take (n*sz1)).length=n*sz1:=by rw[QV];simp;omega
        have hs2:cur'.size=cur.size:=by simp[cur'];omega
        have hsame:∀j,j<n*sz1->cur'[j]?=cur[j]?:=by
         intro j hj;simp only[cur',QL,QN];rw[Qj (by omega),Ql hj];simp
        have hinv:=h.inv.inPlace h.self hk t1 (Nat.le_add_right n ys.length) hroom hg0 hs2 hsame;have hext:Ext w g (w.setRow ad.block cur') (g.tok fr ad.block (n+ys.length) c sz1):=Ext.inPlace h.self.2.2 t9 (Nat.le_add_right n ys.length) hg0 hsame;refine⟨_,_,_,_,hrun _ _ (by rw[ev,had];exact hr),.inl rfl,hinv,hext,?_,hfresh _ _ _ _⟩;refine Rep.ofRow (sz:=sz1) (cur:=cur') (T:=e) (fz:=(0,0)) (setRow_heap w ad.block cur cur' e _ hg0) hlen hroom hall (hreps.ext hext) (λj v hv=>?_) (by simp[Gh.tok]) (λ_=>by simp[Gh.tok]) hcall;simp only[cur',QL,htake];rw[Qj (Qd.1 hv).1];exact hv
       ·-- there is none
        have hr:=run_app_grow (P:=P) (ty:=o.type) hu hi hz (b:=ad) (sLen:=n) (sCap:=c) (olds:=wsx) (by rw[hwlx,hsize]) hcellx hsrc' (by omega) (by omega) (growslice_fits (by omega) (by rw[hby,hn];exact hbb));have hge:=grownCap_ge w (n+ys.length) c e;have hcm:grownCap w (n+ys.length) c e<=maxLen:=grownCap_le_maxLen w (n+ys.length) c e hcm0;have hsz2:(wsx.toArray++ws.toArray++Builtin.zeroCells z.cells (grownCap w (n+ys.length) c e-(n+ys.length))).size=grownCap w (n+ys.length) c e*sz1:=by
         simp only[Array.size_append,List.size_toArray,size_zeroCells,hzs,hwl,hwlx,←QR];congr 1;omega
        have hinv:=hkill.drew.newTok hfk (e:=e) (n:=n+ys.length) (c:=grownCap w (n+ys.length) c e) (sz:=sz1) (cur:=wsx.toArray++ws.toArray++Builtin.zeroCells z.cells (grownCap w (n+ys.length) c e-(n+ys.length))) hpos hinfo hge hcm hsz2;have hext:Ext w g (w.drew.alloc (.cells (wsx.toArray++ws.toArray++Builtin.zeroCells z.cells (grownCap w (n+ys.length) c e-(n+ys.length))) e)) (g.tok fr w.heap.size (n+ys.length) (grownCap w (n+ys.length) c e) sz1):=
         (Ext.drew w g).trans (Ext.newTok (w:=w.drew) _ h.inv.gz h.self.2.2 rfl)
        refine⟨_,_,_,_,hrun _ _ (by rw[ev];exact hr),.inl rfl,hinv,hext,?_,hfresh _ _ _ _⟩;refine Rep.ofRow (sz:=sz1) (cur:=wsx.toArray++ws.toArray++Builtin.zeroCells z.cells (grownCap w (n+ys.length) c e-(n+ys.length))) (T:=e) (fz:=(0,0)) (heap_alloc_new w.drew _) hlen hge hall (hreps.ext hext) (λj v hv=>?_) (by simp[Gh.tok]) (λ_=>by simp[Gh.tok]) hcall;have hj:=(Qd.1 hv).1;rw[QT (by simpa using hj)];simpa using hv
      ·cases hex
     ·cases hex
   ·cases hex
 ·cases hex
end
section
variable{P:Program}{B:Nat}{w0 w:World}{m:Mem}{g:Gh}{fr:Id}{s:Nat->D}{a:Act}{S:Summs}{d:D}{u:Upd}
def calm_ofLeaf{v:Value}{d:D}(h:ofLeaf v=some d):d.calm1=true∧d.calm=true:=by
 unfold ofLeaf at h;split at h<;>first|(simp only[Qa]at h;subst h;exact⟨rfl,rfl⟩)|cases h
def calm_ofVal{v:Value}{d:D}(h:ofVal v=some d):d.calm=true:=by
 cases v with
 |agg cs=>
  simp only[ofVal,Qb]at h;obtain⟨l,hl,rfl⟩:=h;have go:∀{vs:List Value} {l:List D},ofLeaves vs=some l->l.all D.calm1=true:=by
   intro vs;induction vs with
   |nil=>intro l h;simp only[ofLeaves,Qa]at h;subst h;rfl
   |cons v r ih=>
    intro l h;unfold ofLeaves at h;split at h
    ·rename_i d ds h1 h2;simp only[Qa]at h;subst h;simp only[List.all_cons,(calm_ofLeaf h1).1,ih h2,Bool.and_self]
    ·cases h
  exact go hl
 |_=>simp only[ofVal]at h;exact(calm_ofLeaf h).2
theorem does_mksl {t e : TypeId} {o : Oper} {x y : Operand} {p q : Arg} {sz bytes : Nat} {z : D} (h : At P B w0 w m g fr s a) (hu : P.underlying t = some (.slice e)) (he : elemOf P e = some (sz, bytes))
    (hz : CU P e = some z) (hx : AC x = some p) (hy : AC y = some q) (ho : o.op = .makeSlice t x y)
    (hex : AB S s m fr (.mksl e sz bytes z p q) = some (d, u)) : CQ P B w0 m g fr w (Upd.app m u) d (execOp a.eval o) := by
  obtain ⟨hpos, ti, zv, hi, hsize, hzv, hzs, hby⟩ := elemOf_some he
  have hrx := h.slots.arg hx
  have hry := h.slots.arg hy
  have hrz : Rep w g z zv := by
    unfold CU at hz
    simp only [hi, hzv] at hz
    exact Rep.ofVal hz
  have hzd : z.data = true := by
    unfold CU at hz
    simp only [hi, hzv] at hz
    cases zv <;> first | (simp only [ofVal, Qb] at hz; obtain ⟨l, _, rfl⟩ := hz; rfl) | (simp only [ofVal] at hz; exact data_ofLeaf hz)
  have hzc : z.calm = true := by
    unfold CU at hz
    simp only [hi, hzv] at hz
    exact calm_ofVal hz
  simp only [AB] at hex
  split at hex
  · rename_i k n k' c ex ey
    rw [ex] at hrx; rw [ey] at hry
    split at hex
    · rename_i hc
      obtain ⟨h0, hnc, hbd, hzl⟩ := hc
      obtain ⟨n, rfl⟩ := Zk h0
      obtain ⟨c, rfl⟩ := Zk (Int.le_trans h0 hnc)
      have hbd2 : c * (bytes + 1) ≤ 140737488355328 := by
        have : ((c * (bytes + 1) : Nat) : Int) ≤ 140737488355328 := by simpa using hbd
        omega
      have hbb : bytes * c ≤ 140737488355328 := by
        have : c * bytes ≤ c * (bytes + 1) := QO _ (by omega)
        rw [Zx]; omega
      have hcc : c ≤ 140737488355328 := by
        have : c * 1 ≤ c * (bytes + 1) := QO _ (by omega)
        omega
      have hb3 : (ti.bytes : Int) * (c : Int) ≤ 281474976710656 := by
        rw [hby]
        have : ((bytes * c : Nat) : Int) ≤ 281474976710656 := by omega
        simpa using this
      have hr := run_make (P := P) w t e ti zv hu hi hzv k k' (n : Int) (c : Int) (by omega) (by omega) hb3 (by omega)
      simp only [Int.toNat_natCast, hsize] at hr
      split at hex
      · rename_i hni
        split at hex
        · rename_i hnc'
          simp only [Qa, Qe] at hex
          obtain ⟨rfl, rfl⟩ := hex
          obtain rfl : n = c := by omega
          have hz1 : z.cells.length = 1 ∧ zv.cells = #[zv] ∧ zv.oneCell' = true := by
            cases z with
            | nilIface => obtain rfl : zv = .nilIface := by cases hrz; rfl
                          exact ⟨rfl, rfl, rfl⟩
            | str b => obtain ⟨v, rfl⟩ : ∃ v, zv = .string v := by cases hrz; exact ⟨_, rfl⟩
                       exact ⟨rfl, rfl, rfl⟩
            | _ => cases hni
          obtain ⟨hz2, hz3, hz4⟩ := hz1
          obtain rfl : 1 = sz := hz2.symm.trans hzl
          have hcell : ∀ (j : Nat), j < n → (madeCells #[zv] (n * 1)).toList[j]? = some zv := by
            intro j hj
            simp [madeCells, hj, Nat.mod_one]
          have hlen : (madeCells #[zv] (n * 1)).toList.length = n := by simp [madeCells]
          have hcs : A3 w g (QA n z) (madeCells #[zv] (n * 1)).toList := by
            refine ⟨by rw [hlen]; simp, fun v hv => ?_, fun j d v hd hv => ?_⟩
            · obtain ⟨j, hj, rfl⟩ := Za hv
              have := hcell j (by rw [hlen] at hj; exact hj)
              rw [Qc hj] at this
              rw [QJ this]; exact hz4
            · have hj : j < n := by have := (Qd.1 hd).1; simpa using this
              rw [hcell j hj] at hv
              have hd' : d = z := by
                have := QS hd
                exact QE this
              rw [hd', ← QJ hv]; exact hrz
          refine ⟨.slice (some ⟨w.heap.size, 0, none⟩) n n, w.alloc (.cells (madeCells #[zv] (n * 1)) e), g.obj fr w.heap.size, .value (.slice (some ⟨w.heap.size, 0, none⟩) n n), ?_, .inl rfl, ?_⟩
          · simp only [execOp, ho, hrx.int_inv, hry.int_inv, Sem.run_bind, Sem.run_pure]
            rw [hz3] at hr
            rw [hr]; rfl
          · have := h.inv.newObj h.self (ds := QA n z) (vs := (madeCells #[zv] (n * 1)).toList) e hcs
            rw [QI] at this
            exact ⟨this, Ext.newObj _ h.inv.gz h.self.2.1, .row fr n n w.heap.size (Qo _) (by simp [Gh.obj]), fun i hf hne => EC hf hne _ _⟩
        · cases hex
      · simp only [Qa, Qe] at hex
        obtain ⟨rfl, rfl⟩ := hex
        have hzz : zv.cells.size = sz := hzs
        have hrz' := hrz.cells hzd
        have hinv := h.inv.newTok h.self (e := e) (n := n) (c := c) (sz := sz) (cur := madeCells zv.cells (c * sz)) hpos ⟨ti, zv, hi, hsize, hzv, hzs⟩ (by omega) (by unfold maxLen; omega) (by simp [size_madeCells])
        have hext := Ext.newTok (t := fr) (n := n) (c := c) (sz := sz) (Obj.cells (madeCells zv.cells (c * sz)) e) h.inv.gz h.self.2.2 rfl
        refine ⟨.slice (some ⟨w.heap.size, 0, none⟩) n c, _, _, .value (.slice (some ⟨w.heap.size, 0, none⟩) n c), ?_, .inl rfl, hinv, hext, ?_, fun i hf hne => CO hf hne _ _ _ _ _⟩
        · simp only [execOp, ho, hrx.int_inv, hry.int_inv, Sem.run_bind, hr, Result.andThen_ok, Sem.run_pure]
        · have hflat : ∀ k, flat (QA k z) = (QA k z.cells).flatten := by
            intro k
            induction k with
            | zero => rfl
            | succ k ih => simp [List.replicate_succ, flat, ih]
          have hget : ∀ (j : Nat), j < n * sz → (flat (QA n z))[j]? = z.cells[j % sz]? := by
            intro j hj
            have hq : j / sz < n := Nat.div_lt_of_lt_mul (by rw [Zx]; exact hj)
            have := Eg (sz := sz) (xs := QA n z) (k := j / sz) (j := j % sz) (fun d hd => by rw [QE hd]; exact hzl) (by simpa using hq) (Nat.mod_lt _ hpos)
            rw [show j / sz * sz + j % sz = j by rw [Zx]; exact Nat.div_add_mod j sz] at this
            rw [this]; simp
          have hfl : (flat (QA n z)).length = n * sz := by
            rw [B_ (sz := sz) (fun d hd => by rw [QE hd]; exact hzl)]; simp
          have hws : A3 w g (flat (QA n z)) ((madeCells zv.cells (c * sz)).toList.take (n * sz)) := by
            have hle : n * sz ≤ c * sz := QF _ (by omega)
            have hcell : ∀ j, j < n * sz → ((madeCells zv.cells (c * sz)).toList.take (n * sz))[j]? = zv.cells.toList[j % sz]? := by
              intro j hj
              rw [Ql hj]
              have hm : j % sz < zv.cells.size := by rw [hzs]; exact Nat.mod_lt _ hpos
              simp [madeCells, hzs, show j < c * sz by omega]
              rw [getElem!_pos zv.cells _ hm, getElem?_pos zv.cells _ hm]
            refine ⟨by rw [QV, hfl, QX, size_madeCells]; omega, fun v hv => ?_, fun j d v hd hv => ?_⟩
            · obtain ⟨j, hj, rfl⟩ := Za hv
              have hj' : j < n * sz := Q_ hj (Zt _ _)
              have := hcell j hj'
              rw [Qc hj] at this
              exact hrz'.2.1 _ (QS this.symm)
            · have hj' : j < n * sz := by have := (Qd.1 hd).1; omega
              rw [hget j hj'] at hd
              rw [hcell j hj'] at hv
              exact hrz'.2.2 _ d v hd hv
          refine Rep.ofRow (sz := sz) (cur := madeCells zv.cells (c * sz)) (T := e) (fz := (0, 0)) (heap_alloc_new w _) (by simp) (by omega) (fun d hd => by rw [QE hd]; exact hzl) (hws.ext hext) (fun j v hv => ?_) (by simp [Gh.tok]) (fun _ => by simp [Gh.tok]) (fun d hd => by rw [QE hd]; exact hzc)
          have hj : j < n * sz := Q_ (Qd.1 hv).1 (Zt _ _)
          rw [Ql hj] at hv
          simpa using hv
    · cases hex
  · cases hex
def Fo:∀b:List UInt8,flat (Au b)=Au b
 |[]=>rfl
 |c::r=>by
  have:=Fo r;simp only[Au]at this;simp only[Au,Qz,flat,D.cells,Q3,Zp,this]
def does_s2b{src dst e:TypeId}{o:Oper}{x:Operand}{y:Arg}(h:At P B w0 w m g fr s a)(hs:P.underlying src=some .string)(hd:P.underlying dst=some (.slice e))(he:P.underlying e=some (.int .u8))
  (hx:AC x=some y) (ho:o.op= .convert src dst x) (hex:AB S s m fr (.s2b y)=some (d,u)):u=[]∧CQ P B w0 m g fr w m d (execOp a.eval o):=by
 have hr:=h.slots.arg hx;simp only[AB]at hex;split at hex
 ·rename_i b e1;rw[e1]at hr;simp only[Qa,Qe]at hex;obtain⟨rfl,rfl⟩:=hex;have hrun:=Lib.run_convert_string_bytes (P:=P) w src dst e ⟨b.toArray⟩ hs hd he;have hbelow:Below w.heap.size w (Lib.bytesWorld w e ⟨b.toArray⟩):=
   ⟨rfl,rfl,rfl,by rw[Lib.bytesWorld_size];omega,λk hk=>Lib.bytesWorld_at_old w e _ k hk⟩
  have hsz:(ByteArray.mk b.toArray).size=b.length:=by simp[ByteArray.size]
  rw[hsz]at hrun;refine⟨rfl,.slice (some ⟨w.heap.size,0,none⟩) b.length (grownCap w b.length 0 e),_,_,.value (.slice (some ⟨w.heap.size,0,none⟩) b.length (grownCap w b.length 0 e)),?_,.inl rfl,h.inv.over hbelow,Ext.over h.inv.gz hbelow,?_,λi hf _=>hf⟩
  ·simp only[execOp,ho,hr.str_inv,Sem.run_bind,hrun,Result.andThen_ok,Sem.run_pure]
  ·have hnew:=Lib.bytesWorld_at_new w e ⟨b.toArray⟩;have hfl:=Fo b;refine Rep.ofRow (sz:=1) (cur:=Lib.bytesCells w e ⟨b.toArray⟩) (vs:=b.map λc=> .int .u8 c.toNat) hnew (by simp[Au]) (grownCap_ge w _ 0 e) (λd hd=>?_) ⟨?_,?_,?_⟩ (λj v hv=>?_) ?_ (by simp) (λd hd=>by simp only[Au,Qp]at hd;obtain⟨c,_,rfl⟩:=hd;rfl)
   ·simp only[Au,Qp]at hd;obtain⟨c,_,rfl⟩:=hd;rfl
   ·rw[hfl];simp[Au]
   ·intro v hv;simp only[Qp]at hv;obtain⟨c,_,rfl⟩:=hv;rfl
   ·intro j d v hd hv;rw[hfl]at hd;simp only[Au,Qi,Qb]at hd hv;obtain⟨c,hc,rfl⟩:=hd;obtain⟨c',hc',rfl⟩:=hv;rw[hc]at hc';simp only[Qa]at hc';subst hc';exact .int _ _
   ·simp only[Lib.bytesCells];have hj:=(Qd.1 hv).1;rw[QT (by simpa using hj)];simpa using hv
   ·simp only[Gh.over];rw[if_neg (by omega),hnew];simp[Lib.bytesCells,hsz]
 ·cases hex
def unbytesD_some:∀{xs:List D} {b:List UInt8},BE xs=some b->∃ns:List Int,xs=ns.map (D.int .u8)∧b=ns.map λn=>UInt8.ofNat n.toNat
 |[],b,h=>by simp only[BE,Qa]at h;subst h;exact⟨[],rfl,rfl⟩
 |x::r,b,h=>by
  unfold BE at h;split at h
  ·rename_i heq;cases heq
  ·rename_i n r' heq;cases heq;rw[Qb]at h;obtain⟨b',hb,rfl⟩:=h;obtain⟨ns,rfl,rfl⟩:=unbytesD_some hb;exact⟨n::ns,rfl,rfl⟩
  ·cases h
def F4:∀(ns:List Int)(r:List UInt8),ns.foldl (λ(r:ByteArray) n=>r.push (UInt8.ofNat n.toNat)) ⟨r.toArray⟩=⟨(r++ns.map λn=>UInt8.ofNat n.toNat).toArray⟩
 |[],r=>by simp
 |n::ns,r=>by
  simp only[QZ,Qz];have:(ByteArray.mk r.toArray).push (UInt8.ofNat n.toNat)=⟨(r++[UInt8.ofNat n.toNat]).toArray⟩:=by
   simp[ByteArray.push]
  rw[this,F4 ns];simp
def does_b2s{src dst e:TypeId}{o:Oper}{x:Operand}{y:Arg}(h:At P B w0 w m g fr s a)(hs:P.underlying src=some (.slice e))(hd:P.underlying dst=some .string)(he:P.underlying e=some (.int .u8))
  (hx:AC x=some y) (ho:o.op= .convert src dst x) (hex:AB S s m fr (.b2s y)=some (d,u)):u=[]∧CQ P B w0 m g fr w m d (execOp a.eval o):=by
 have hr:=h.slots.arg hx;simp only[AB]at hex;split at hex
 ·rename_i nl t' xs e1;rw[e1]at hr;rw[Qb]at hex;obtain⟨b,hb,hex⟩:=hex;simp only[Qe]at hex;obtain⟨rfl,rfl⟩:=hex;cases nl with
  |true=>
   rcases hr.slice_inv with ⟨_,rfl,ev⟩|⟨h0,_⟩
   ·simp only[BE,Qa]at hb;subst hb;refine⟨rfl,.pure (v:= .string ⟨([]:List UInt8).toArray⟩) h.inv ?_ (.str _)⟩;simp[execOp,ho,ev,convert,run_underlying hs,run_underlying hd,run_underlying he,Conv.bytesToString];rfl
   ·cases h0
  |false=>
   obtain⟨ns,rfl,rfl⟩:=unbytesD_some hb;obtain⟨ad,n,c,sz,ws,ev,hn,hnc,hsz,hwl,hrep,hcell,hG,_,_⟩:=hr.slice_list;have hfl:∀l:List Int,flat (l.map (D.int .u8))=l.map (D.int .u8):=by
    intro l;induction l with
    |nil=>rfl
    |cons c r ih=>simp only[Qz,flat,D.cells,Q3,Zp,ih]
   rw[hfl]at hrep;have hws:ws=ns.map (Value.int .u8):=by
    apply List.ext_getElem?;intro j;have hl:=hrep.1;by_cases hj:j<ws.length
    ·have hj2:j<ns.length:=by simpa[hl]using hj
     have:=hrep.2.2 j (.int .u8 ns[j]) ws[j] (by simp[hj2]) (Qc hj);rw[Qc hj,this.int_inv];simp[hj2]
    ·rw[Qn (by omega),Qn (by simp;simp at hl;omega)]
   have hl2:ws.length=n:=by rw[hws,hn];simp
   have hload:(loadCells ad n).run P w= .ok (ns.map (Value.int .u8)).toArray w:=by
    have:=run_loadCells_list (P:=P) w ad ws hcell;rw[hl2,hws]at this;exact this
   have hrun:=run_bytesToString (P:=P) w ad n c ns hload;have hfold:=F4 ns [];refine⟨rfl,.pure (v:= .string ⟨(ns.map λn=>UInt8.ofNat n.toNat).toArray⟩) h.inv ?_ (.str _)⟩;have hconv:(convert src dst (.slice (some ad) n c)).run P w=(Conv.bytesToString (.slice (some ad) n c)).run P w:=by
    simp[convert,run_underlying hs,run_underlying hd,run_underlying he]
   simp only[execOp,ho,ev,Sem.run_bind,hconv,hrun,Result.andThen_ok,Sem.run_pure];rw[show ByteArray.empty=⟨([]:List UInt8).toArray⟩from rfl,hfold];rfl
 ·cases hex
end
section
variable{P:Program}{B:Nat}{w0 w:World}{m:Mem}{g:Gh}{fr:Id}{s:Nat->D}{a:Act}{S:Summs}{d:D}{u:Upd}
def CQ.of_nil{x:Sem Next}(h:u=[]∧CQ P B w0 m g fr w m d x):CQ P B w0 m g fr w (Upd.app m u) d x:=by
 obtain⟨rfl,h⟩:=h;exact h
def Rep.tup2{w:World}{g:Gh}{d e:D}{v u:Value}(h:Rep w g d v)(k:Rep w g e u):Rep w g (.tup [d,e]) (.tuple #[v,u]):=by
 refine .tup [d,e] [v,u] rfl (λj d' v' hd hv=>?_)
 match j with
 |0=>simp at hd hv;subst hd hv;exact h
 |1=>simp at hd hv;subst hd hv;exact k
 |j+2=>simp at hd
def does_eq{ne:Bool}{t:TypeId}{x y:Operand}{yt:TypeId}{o:Oper}{p q:Arg}{dop:DOp}(h:At P B w0 w m g fr s a)(hx:AC x=some p)(hy:AC y=some q)
  (htr:trEq P ne t x y p q=some dop) (ho:o.op= .binOp (if ne then .neq else .eql) t x y yt) (hex:AB S s m fr dop=some (d,u)):u=[]∧CQ P B w0 m g fr w m d (execOp a.eval o):=by
 have hrx:=h.slots.arg hx;have hry:=h.slots.arg hy;have hrun:∀v,(eqGuard (if ne then .neq else .eql) t x y (a.eval x) (a.eval y)).run P w= .ok () w->(binOp (if ne then .neq else .eql) t (a.eval x) (a.eval y)).run P w= .ok v w->(execOp a.eval o).run P w= .ok (.value v) w:=by
  intro v e1 e2;simp only[execOp,ho,Sem.run_bind,e1,e2,Result.andThen_ok,Sem.run_pure]
 have binCase:dop= .bin (if ne then .neq else .eql) p q->u=[]∧CQ P B w0 m g fr w m d (execOp a.eval o):=by
  rintro rfl;simp only[AB]at hex;rw[Qb]at hex;obtain⟨d',h1,hex⟩:=hex;simp only[Qe]at hex;obtain⟨rfl,rfl⟩:=hex;obtain⟨v,e1,e2,e3,e4⟩:=bin_sound (P:=P) (t:=t) hrx hry h1;exact⟨rfl,.pure h.inv (hrun v (guard_plain _ t x y _ _ e3 e4 w) e1) e2⟩
 have nilCase:∀k td,P.underlying t=some td->descOf k td->(k=2->(Gq x||Gq y)=true)->dop= .nileq ne k p q->u=[]∧CQ P B w0 m g fr w m d (execOp a.eval o):=by
  rintro k td hu hd hc rfl;simp only[AB]at hex;rw[Qb]at hex;obtain⟨b,h1,hex⟩:=hex;simp only[Qe]at hex;obtain⟨rfl,rfl⟩:=hex;obtain⟨e1,e2,e3,e4⟩:=nilEq_sound hrx hry h1 hu hd 9999;exact⟨rfl,.pure h.inv (hrun _ (guard_const _ t x y _ _ e3 (λe=>hc (e4 e)) w) (run_eql e2 ne e1)) (.bool _)⟩
 unfold trEq at htr;split at htr
 ·rename_i hu;simp only[Qa]at htr;subst htr;simp only[AB]at hex;split at hex
  ·rename_i b c ex ey;rw[ex]at hrx;rw[ey]at hry;simp only[Qa,Qe]at hex;obtain⟨rfl,rfl⟩:=hex;refine⟨rfl,.pure h.inv (hrun _ (guard_plain _ t x y _ _ (by rw[hrx.bool_inv];simp) (by rw[hrx.bool_inv];simp) w) (run_eql (by rw[hrx.bool_inv];rfl) ne (b:=b==c) ?_)) (.bool _)⟩;rw[hrx.bool_inv,hry.bool_inv];exact run_equalIn_bool' w 9999 t _ _ hu
  ·cases hex
 ·simp only[Qa]at htr;exact binCase htr.symm
 ·simp only[Qa]at htr;exact binCase htr.symm
 ·rename_i fs hu;split at htr
  ·rename_i hc;rw[Qb]at htr;obtain⟨l,hl,rfl⟩:=htr;simp only[AB]at hex;split at hex
   ·rename_i xs ys ex ey;rw[ex]at hrx;rw[ey]at hry;rw[Qb]at hex;obtain⟨b,h1,hex⟩:=hex;simp only[Qe]at hex;obtain⟨rfl,rfl⟩:=hex;obtain⟨e1,e2⟩:=struct_sound hrx hry hu hc.1 hc.2 hl h1 x y (if ne then .neq else .eql);refine⟨rfl,.pure h.inv (hrun _ e2 (run_eql ?_ ne e1)) (.bool _)⟩;obtain⟨vs,e3,_⟩:=A3.ofAgg hrx;rw[e3];rfl
   ·cases hex
  ·cases htr
 ·rename_i e hu;simp only[Qa]at htr;exact nilCase 0 _ hu ⟨e,rfl⟩ (by simp) htr.symm
 ·rename_i e hu;simp only[Qa]at htr;exact nilCase 1 _ hu ⟨e,rfl⟩ (by simp) htr.symm
 ·rename_i p' r' v' hu;simp only[Qa]at htr;exact nilCase 3 _ hu ⟨p',r',v',rfl⟩ (by simp) htr.symm
 ·rename_i ms hu;split at htr
  ·rename_i hc;simp only[Qa]at htr;exact nilCase 2 _ hu ⟨ms,rfl⟩ (λ_=>hc) htr.symm
  ·cases htr
 ·cases htr
def does_bin{op:BinOp}{t:TypeId}{x y:Operand}{yt:TypeId}{o:Oper}{p q:Arg}(h:At P B w0 w m g fr s a)(hx:AC x=some p)(hy:AC y=some q)
  (ho:o.op= .binOp op t x y yt) (hex:AB S s m fr (.bin op p q)=some (d,u)):u=[]∧CQ P B w0 m g fr w m d (execOp a.eval o):=by
 simp only[AB]at hex;rw[Qb]at hex;obtain⟨d',h1,hex⟩:=hex;simp only[Qe]at hex;obtain⟨rfl,rfl⟩:=hex;obtain⟨v,e1,e2,e3,e4⟩:=bin_sound (P:=P) (t:=t) (h.slots.arg hx) (h.slots.arg hy) h1;refine⟨rfl,.pure h.inv ?_ e2⟩;simp only[execOp,ho,Sem.run_bind,guard_plain op t x y _ _ e3 e4 w,e1,Result.andThen_ok,Sem.run_pure]
def does_tass{x:Operand}{xt t:TypeId}{ok:Bool}{z:D}{o:Oper}{p:Arg}{td:TypeDesc}(h:At P B w0 w m g fr s a)(hu:P.underlying t=some td)(hni:∀ms,td≠ .interface ms)(hz:CU P t=some z)
  (hx:AC x=some p) (ho:o.op= .typeAssert x xt t ok) (hex:AB S s m fr (.tass t ok z p)=some (d,u)):u=[]∧CQ P B w0 m g fr w m d (execOp a.eval o):=by
 have hrx:=h.slots.arg hx;obtain⟨zv,hzr,hzero⟩:∃zv,Rep w g z zv∧(zeroValue t).run P w= .ok zv w:=by
  unfold CU at hz;split at hz
  ·rename_i i hi;split at hz
   ·rename_i v hv;exact⟨v,Rep.ofVal hz,by simp[zeroValue,typeInfo,hi,hv]⟩
   ·cases hz
  ·cases hz
 have hgo:∀v,(Instr.typeAssert (a.eval x) xt t ok).run P w= .ok v w->(execOp a.eval o).run P w= .ok (.value v) w:=by
  intro v e;simp only[execOp,ho,Sem.run_bind,e,Result.andThen_ok,Sem.run_pure]
 simp only[AB]at hex;split at hex
 ·rename_i t' d' ex;rw[ex]at hrx;obtain⟨v,ev,hv,_⟩:=hrx.iface_inv;split at hex
  ·rename_i htt;subst htt;simp only[Qa,Qe]at hex;obtain⟨rfl,rfl⟩:=hex;refine⟨rfl,.pure (v:=if ok then .tuple #[v,.bool true]else v) h.inv (hgo _ ?_) ?_⟩
   ·rw[ev];unfold Instr.typeAssert;simp only[Sem.run_bind,run_underlying hu,Result.andThen_ok];cases td<;>first|exact absurd rfl (hni _)|(cases ok<;>simp)
   ·cases ok
    ·exact hv
    ·exact Rep.tup2 hv (.bool true)
  ·rename_i htt;split at hex
   ·rename_i hok;subst hok;simp only[Qa,Qe]at hex;obtain⟨rfl,rfl⟩:=hex;refine⟨rfl,.pure (v:= .tuple #[zv,.bool false]) h.inv (hgo _ ?_) (Rep.tup2 hzr (.bool false))⟩;rw[ev];unfold Instr.typeAssert;simp only[Sem.run_bind,run_underlying hu,Result.andThen_ok];have htt':¬t'=t:=htt;cases td<;>first|exact absurd rfl (hni _)|(simp[htt',hzero])
   ·cases hex
 ·rename_i ex;rw[ex]at hrx;have ev:=hrx.nili_inv;split at hex
  ·rename_i hok;subst hok;simp only[Qa,Qe]at hex;obtain⟨rfl,rfl⟩:=hex;refine⟨rfl,.pure (v:= .tuple #[zv,.bool false]) h.inv (hgo _ ?_) (Rep.tup2 hzr (.bool false))⟩;rw[ev];unfold Instr.typeAssert;simp only[Sem.run_bind,run_underlying hu,Result.andThen_ok];cases td<;>first|exact absurd rfl (hni _)|(simp[hzero])
  ·cases hex
 ·cases hex
def args_rep{xs:Array Operand}{l:List Arg}(h:At P B w0 w m g fr s a)(hl:DP xs.toList=some l):
  ((xs.map a.eval).toList).length=(l.map (·.ev s)).length∧∀(j:Nat) d v,(l.map (·.ev s))[j]?=some d->((xs.map a.eval).toList)[j]?=some v->Rep w g d v:=by
 have:=h.slots.args hl;simpa using this
end
def itr_setObj_other{w:World}{b k:Nat}{o:Obj}(h:k≠b):({w with heap:=w.heap.setIfInBounds b o}:World).heap[k]?=w.heap[k]?:=by
 have h':¬b=k:=λe=>h e.symm
 simp[h']
def itr_setObj_same{w:World}{b:Nat}{o:Obj}(h:b<w.heap.size):({w with heap:=w.heap.setIfInBounds b o}:World).heap[b]?=some o:=by
 simp[h]
def Gh.itr(g:Gh)(t:Id)(b:Nat):Gh:={g with tb:=λi=>if i=t then some (b,0,0,0)else g.tb i}
section
variable{P:Program}{B:Nat}{w0 w w':World}{m:Mem}{g g':Gh}{fr:Id}{s:Nat->D}{a:Act}{S:Summs}{d:D}{u:Upd}
def Fh(m:Mem)(t:Id)(x:D)(i:Id)(o:Nat):m.put t 1 [x] i o=if i=t∧o=1 then some x else m i o:=by
 unfold Mem.put;by_cases hi:i=t
 ·by_cases ho:o=1
  ·subst hi ho;simp
  ·rw[if_neg (by simp;omega),if_neg (by simp[ho])]
 ·rw[if_neg (by simp[hi]),if_neg (by simp[hi])]
def Ext.newItr{t:Id}(o:Obj)(hgz:∀b,w.heap.size<=b->g.G b=0)(hf:g.tb t=none):Ext w g (w.alloc o) (g.itr t w.heap.size):=by
 refine⟨λp hp=>?_,λb'=>Qo _,λi' b h=>h,rfl,λi x h=>?_⟩
 ·by_cases hlt:p.block<w.heap.size
  ·exact World.cell?_alloc_lt w o p hlt
  ·rw[hgz _ (by omega)]at hp;omega
 ·simp only[Gh.itr];split
  ·rename_i e;subst e;rw[hf]at h;cases h
  ·exact h
def InvM.newItr(h:InvM P B w0 m w g){t:Id}(hf:BR m g t)(bs:List UInt8):InvM P B w0 (m.put t 1 [.it bs 0]) (w.alloc (.stringIter ⟨bs.toArray⟩ 0)) (g.itr t w.heap.size):=by
 have x:=Ext.newItr (t:=t) (Obj.stringIter ⟨bs.toArray⟩ 0) h.gz hf.2.2;have hput:=Fh m t (.it bs 0);refine⟨h.below.alloc h.size _,by have:=h.size;simp;omega,λb hb=>h.gz b (by simp at hb;omega),h.old,λi b hi=>?_,h.inj,λi o d hm hn=>?_,λi e hi=>?_,λi1 i2 e1 e2 b y y' h1 h2 h3 h4=>?_,λi s p hi=>?_,λi i' s p s' p' b y y' h1 h2 h3 h4=>?_⟩
 ·obtain⟨p,q,vs,T,hh,r⟩:=h.obj i b hi;refine⟨p,q,vs,T,(Below.heap_alloc w _ b (h.lt hi)).trans hh,λo d hm=>?_⟩;rw[hput,if_neg (by rintro⟨rfl,_⟩;simp only[Gh.itr]at hi;rw[hf.2.1]at hi;cases hi)]at hm;obtain⟨v,r1,r2,r3⟩:=r o d hm;exact⟨v,r1,r2,r3.ext x⟩
 ·rw[hput]at hm;split at hm
  ·rw[←QJ hm];rfl
  ·exact h.kind _ _ _ hm hn
 ·rw[hput,if_neg (by simp)]at hi;obtain⟨b,n,c,sz,cur,t1,t2,t3,t4,t5,t6,t7,t8,t9,t10⟩:=h.tok i e hi;have hlt:b<w.heap.size:=(Qf.1 t5).1;have hit:i≠t:=by rintro rfl;rw[hf.1 0]at hi;cases hi
  exact⟨b,n,c,sz,cur,by simp[Gh.itr,hit,t1],t2,t3,t4,(Below.heap_alloc w _ b hlt).trans t5,t6,t7,t8,t9,t10⟩
 ·rw[hput,if_neg (by simp)]at h1 h2;have n1:i1≠t:=by rintro rfl;rw[hf.1 0]at h1;cases h1
  have n2:i2≠t:=by rintro rfl;rw[hf.1 0]at h2;cases h2
  simp only[Gh.itr,if_neg n1]at h3;simp only[Gh.itr,if_neg n2]at h4;exact h.tinj _ _ _ _ _ _ _ h1 h2 h3 h4
 ·rw[hput]at hi;split at hi
  ·rename_i hc;obtain⟨rfl,_⟩:=hc;simp only[Qa,D.it.injEq]at hi;obtain⟨rfl,rfl⟩:=hi;exact⟨w.heap.size,by simp[Gh.itr],h.size,heap_alloc_new w _,h.gz _ (Qo _),λi' h'=>by have:=h.lt h';omega⟩
  ·obtain⟨b,t1,t2,t3,t4,t5⟩:=h.itr.1 i s p hi;have hlt:b<w.heap.size:=(Qf.1 t3).1;have hit:i≠t:=by rintro rfl;rw[hf.1 1]at hi;cases hi
   exact⟨b,by simp[Gh.itr,hit,t1],t2,(Below.heap_alloc w _ b hlt).trans t3,t4,t5⟩
 ·have old:∀i s p,m i 1=some (.it s p)->∀b y,(g.itr t w.heap.size).tb i=some (b,y)->i≠t∧g.tb i=some (b,y)∧b<w.heap.size:=by
   intro i s p hm b y hb;have hit:i≠t:=by rintro rfl;rw[hf.1 1]at hm;cases hm
   simp only[Gh.itr,if_neg hit]at hb;obtain⟨b',t1,t2,t3,t4,t5⟩:=h.itr.1 i s p hm;rw[t1]at hb;simp only[Qa,Qe]at hb;obtain⟨rfl,rfl⟩:=hb;exact⟨hit,t1,(Qf.1 t3).1⟩
  rw[hput]at h1 h2;split at h1<;>split at h2
  ·rename_i p q;exact p.1.trans q.1.symm
  ·rename_i p q;obtain⟨rfl,_⟩:=p;obtain⟨_,_,lt⟩:=old _ _ _ h2 _ _ h4;simp only[Gh.itr,if_true,Qa,Qe]at h3;omega
  ·rename_i p q;obtain⟨rfl,_⟩:=q;obtain⟨_,_,lt⟩:=old _ _ _ h1 _ _ h3;simp only[Gh.itr,if_true,Qa,Qe]at h4;omega
  ·obtain⟨_,k3,_⟩:=old _ _ _ h1 _ _ h3;obtain⟨_,k4,_⟩:=old _ _ _ h2 _ _ h4;exact h.itr.2 _ _ _ _ _ _ _ _ _ h1 h2 k3 k4
def InvM.nextItr(h:InvM P B w0 m w g){i:Id}{b:Nat}{bs:List UInt8}{p q:Nat}(hm:m i 1=some (.it bs p))(hb:g.tb i=some (b,0,0,0)):
  InvM P B w0 (m.put i 1 [.it bs q]) {w with heap:=w.heap.setIfInBounds b (.stringIter ⟨bs.toArray⟩ q)} g∧Ext w g {w with heap:=w.heap.setIfInBounds b (.stringIter ⟨bs.toArray⟩ q)} g:=by
 obtain⟨b0,t1,t2,t3,t4,t5⟩:=h.itr.1 i bs p hm;rw[hb]at t1;simp only[Qa,Qe,and_true]at t1;subst t1;have hlt:b<w.heap.size:=(Qf.1 t3).1;have hoth:∀k,k≠b->({w with heap:=w.heap.setIfInBounds b (.stringIter ⟨bs.toArray⟩ q)}:World).heap[k]?=w.heap[k]?:=λk hk=>itr_setObj_other hk
 have hput:=Fh m i (.it bs q);have x:Ext w g {w with heap:=w.heap.setIfInBounds b (.stringIter ⟨bs.toArray⟩ q)} g:=by
  refine⟨λr hr=>?_,λ_=>Qo _,λ_ _ h=>h,rfl,λ_ _ h=>h⟩;have hne:r.block≠b:=by rintro e;rw[e,t4]at hr;omega
  simp only[World.cell?];rw[hoth _ hne]
 have hsz:({w with heap:=w.heap.setIfInBounds b (.stringIter ⟨bs.toArray⟩ q)}:World).heap.size=w.heap.size:=by simp
 refine⟨⟨⟨h.below.os,h.below.tape,h.below.output,by rw[hsz];exact h.below.size,λk hk=>(hoth k (by omega)).trans (h.below.block k hk)⟩,by rw[hsz];exact h.size,by rw[hsz];exact h.gz,h.old,λi' b' hi=>?_,h.inj,λi' o d hm' hn=>?_,λi' e hi=>?_,λi1 i2 e1 e2 b' y y' h1 h2 h3 h4=>?_,λi' s' p' hi=>?_,λi1 i2 s1 p1 s2 p2 b' y y' h1 h2 h3 h4=>?_⟩,x⟩
 ·obtain⟨p1,q1,vs,T,hh,r⟩:=h.obj i' b' hi;have hne:b'≠b:=by rintro rfl;exact t5 i' hi
  refine⟨p1,q1,vs,T,(hoth b' hne).trans hh,λo d hm'=>?_⟩;rw[hput]at hm';split at hm'
  ·rename_i hc;obtain⟨rfl,rfl⟩:=hc;obtain⟨v,_,_,r3⟩:=r 1 _ hm;cases r3
  ·obtain⟨v,r1,r2,r3⟩:=r o d hm';exact⟨v,r1,r2,r3.ext x⟩
 ·rw[hput]at hm';split at hm'
  ·rw[←QJ hm'];rfl
  ·exact h.kind _ _ _ hm' hn
 ·rw[hput,if_neg (by simp)]at hi;obtain⟨b1,n,c,sz,cur,u1,u2,u3,u4,u5,u6,u7,u8,u9,u10⟩:=h.tok i' e hi;have hne:b1≠b:=by rintro rfl;rw[t3]at u5;cases u5
  exact⟨b1,n,c,sz,cur,u1,u2,u3,u4,(hoth b1 hne).trans u5,u6,u7,u8,u9,u10⟩
 ·rw[hput,if_neg (by simp)]at h1 h2;exact h.tinj _ _ _ _ _ _ _ h1 h2 h3 h4
 ·rw[hput]at hi;split at hi
  ·rename_i hc;obtain⟨rfl,_⟩:=hc;simp only[Qa,D.it.injEq]at hi;obtain⟨rfl,rfl⟩:=hi;exact⟨b,hb,t2,itr_setObj_same hlt,t4,t5⟩
  ·rename_i hc;obtain⟨b1,u1,u2,u3,u4,u5⟩:=h.itr.1 i' s' p' hi;have hne:b1≠b:=by
    rintro rfl;exact hc ⟨h.itr.2 _ _ _ _ _ _ _ _ _ hi hm u1 hb,rfl⟩
   exact⟨b1,u1,u2,(hoth b1 hne).trans u3,u4,u5⟩
 ·have old:∀i' s' p',m.put i 1 [.it bs q] i' 1=some (.it s' p')->∃s p,m i' 1=some (.it s p):=by
   intro i' s' p' hi;rw[hput]at hi;split at hi
   ·rename_i hc;exact⟨_,_,by rw[hc.1];exact hm⟩
   ·exact⟨_,_,hi⟩
  obtain⟨_,_,k1⟩:=old _ _ _ h1;obtain⟨_,_,k2⟩:=old _ _ _ h2;exact h.itr.2 _ _ _ _ _ _ _ _ _ k1 k2 h3 h4
def Rep.itp_inv{i:Id}{v:Value}(h:Rep w g (.itp i) v):∃b,v= .pointer (some ⟨b,0,none⟩)∧g.tb i=some (b,0,0,0):=by
 cases h with
 |itp _ b hb=>exact⟨b,rfl,hb⟩
def does_range{t:TypeId}{o:Oper}{x:Operand}{y:Arg}(h:At P B w0 w m g fr s a)(hu:P.underlying t=some .string)(hx:AC x=some y)(ho:o.op= .range t x)
  (he:AB S s m fr (.range y)=some (d,u)):CQ P B w0 m g fr w (Upd.app m u) d (execOp a.eval o):=by
 have hr:=h.slots.arg hx;simp only[AB]at he;split at he
 ·rename_i b ex;rw[ex]at hr;simp only[Qa,Qe]at he;obtain⟨rfl,rfl⟩:=he;refine⟨.pointer (some ⟨w.heap.size,0,none⟩),w.alloc (.stringIter ⟨b.toArray⟩ 0),g.itr fr w.heap.size,.value (.pointer (some ⟨w.heap.size,0,none⟩)),?_,.inl rfl,?_⟩
  ·have e1:a.eval x= .string ⟨b.toArray⟩:=hr.str_inv;simp[execOp,ho,Instr.range,run_underlying hu,e1]
  ·refine⟨h.inv.newItr h.self b,Ext.newItr _ h.inv.gz h.self.2.2,.itp fr _ (by simp[Gh.itr]),λi hf hne=>?_⟩;have:i≠fr:=λe=>hne (by rw[e];exact Q4 _)
   exact⟨λo=>by show m.put fr 1 _ i o=none;rw[Fh,if_neg (by simp[this])];exact hf.1 o,hf.2.1,by simp only[Gh.itr];rw[if_neg this];exact hf.2.2⟩
 ·cases he
def does_next{o:Oper}{x:Operand}{y:Arg}(h:At P B w0 w m g fr s a)(hx:AC x=some y)(ho:o.op= .next x true)
  (he:AB S s m fr (.next y)=some (d,u)):CQ P B w0 m g fr w (Upd.app m u) d (execOp a.eval o):=by
 have hr:=h.slots.arg hx;simp only[AB]at he;split at he
 ·rename_i i ex;rw[ex]at hr;obtain⟨b,e1,hb⟩:=hr.itp_inv;split at he
  ·rename_i bs pos hm;obtain⟨b',t1,t2,t3,t4,t5⟩:=h.inv.itr.1 i bs pos hm;rw[hb]at t1;simp only[Qa,Qe,and_true]at t1;subst t1;have hlt:b<w.heap.size:=(Qf.1 t3).1;have hget:(getObj b).run P w= .ok (.stringIter ⟨bs.toArray⟩ pos) w:=by simp[getObj,Sem.run,t3]
   have hset:∀o',(setObj b o').run P w= .ok () {w with heap:=w.heap.setIfInBounds b o'}:=by intro o';simp[setObj,Sem.run,t3]
   have hsz:(ByteArray.mk bs.toArray).size=bs.length:=by simp[ByteArray.size]
   split at he
   ·rename_i hp;simp only[Qa,Qe]at he;obtain⟨rfl,rfl⟩:=he;obtain⟨hi,hx2⟩:=h.inv.nextItr (q:=pos+(Utf8.decode ⟨bs.toArray⟩ pos).2) hm hb;refine⟨.tuple #[.bool true,.int .i64 (pos:Nat),.int .i32 (Utf8.decode ⟨bs.toArray⟩ pos).1],_,g,.value (.tuple #[.bool true,.int .i64 (pos:Nat),.int .i32 (Utf8.decode ⟨bs.toArray⟩ pos).1]),?_,.inl rfl,⟨hi,hx2,?_,λj hf hne=>?_⟩⟩
    ·simp only[execOp,ho,Instr.next,e1,Sem.run_bind,hget,Result.andThen_ok,hsz,hp,if_true];cases hd:Utf8.decode ⟨bs.toArray⟩ pos with
     |mk c wd=>
      simp only[hset,Result.andThen_ok,Sem.run_pure];rfl
    ·refine .tup [_,_,_] [_,_,_] rfl (λj d v hd hv=>?_)
     match j with
     |0=>simp at hd hv;subst hd hv;exact .bool _
     |1=>simp at hd hv;subst hd hv;exact .int _ _
     |2=>simp at hd hv;subst hd hv;exact .int _ _
     |j+3=>simp at hd
    ·have:j≠i:=by rintro rfl;rw[hf.1 1]at hm;cases hm
     exact⟨λo=>by show m.put i 1 _ j o=none;rw[Fh,if_neg (by simp[this])];exact hf.1 o,hf.2⟩
   ·rename_i hp;simp only[Qa,Qe]at he;obtain⟨rfl,rfl⟩:=he;refine .pure (v:= .tuple #[.bool false]) h.inv ?_ (.tup [_] [_] rfl (λj d v hd hv=>?_))
    ·simp only[execOp,ho,Instr.next,e1,Sem.run_bind,hget,Result.andThen_ok,hsz,hp,if_false,Sem.run_pure]
    ·match j with
     |0=>simp at hd hv;subst hd hv;exact .bool _
     |j+1=>simp at hd
  ·cases he
 ·cases he
end
structure Summ.ok (P:Program) (f:FuncId) (q:Summ):Prop where
 ent:∃fn,P.funcs[f]?=some fn∧fn.body.isSome=true∧(fn.name== "runtime.NumGoroutine")=false
 loc:∀ds m m' fr,(∀l∈q.rd ds m,m l.1 l.2=m' l.1 l.2)->q.ex ds m fr=q.ex ds m' fr
 run:∀{B:Nat} {w0 w:World} {m:Mem} {g:Gh} {fr:Id} {ds:List D} {vs:List Value} {r:D} {u:Upd},InvM P B w0 m w g->(∀i,fr<:+i->BR m g i)->
  vs.length=ds.length->(∀(j:Nat) d v,ds[j]?=some d->vs[j]?=some v->Rep w g d v)->q.ex ds m fr=some (r,u)->
  Calls P f vs.toArray w λe w'=>∃v g',e= .returned v∧Step P B w0 m g fr w (Upd.app m u) r v w' g'
def Summs.ok(P:Program)(S:Summs):Prop:=∀f q,S f=some q->q.ok P f
section
variable{P:Program}{B:Nat}{w0 w:World}{m:Mem}{g:Gh}{fr:Id}{s:Nat->D}{a:Act}{S:Summs}{d:D}{u:Upd}
def op_does{o:Oper}{dop:DOp}(h:At P B w0 w m g fr s a)(htr:tr P o.op=some dop)(hnc:∀f xs,dop≠ .call f xs)(hex:AB S s m fr dop=some (d,u)):
  CQ P B w0 m g fr w (Upd.app m u) d (execOp a.eval o):=by
 have map1:∀{x:Operand} {F:Arg->DOp},(AC x).map F=some dop->∃y,AC x=some y∧dop=F y:=by
  intro x F e;rw[Qb]at e;obtain⟨y,h1,h2⟩:=e;exact⟨y,h1,h2.symm⟩
 have pureD:∀{v:Value} {d':D},(execOp a.eval o).run P w= .ok (.value v) w->Rep w g d' v->some (d',([]:Upd))=some (d,u)->CQ P B w0 m g fr w (Upd.app m u) d (execOp a.eval o):=by
  intro v d' e1 e2 e3;simp only[Qa,Qe]at e3;obtain⟨rfl,rfl⟩:=e3;exact .pure h.inv e1 e2
 cases hop:o.op<;>rw[hop]at htr<;>first|(simp only[tr]at htr;done)|skip
 case move x=>
  obtain⟨y,hx,rfl⟩:=map1 htr;exact pureD (by simp[execOp,hop]) (h.slots.arg hx) hex
 case assign x=>
  obtain⟨y,hx,rfl⟩:=map1 htr;exact pureD (by simp[execOp,hop]) (h.slots.arg hx) hex
 case pick c x y=>
  simp only[tr]at htr;split at htr
  ·rename_i c' x' y' e1 e2 e3;simp only[Qa]at htr;subst htr;simp only[AB]at hex;split at hex
   ·rename_i b eb;have hb:=h.slots.arg e1;rw[eb]at hb;have hrun:(execOp a.eval o).run P w= .ok (.value (if b then a.eval x else a.eval y)) w:=by
     simp[execOp,hop,hb.bool_inv,asBool]
    refine pureD hrun ?_ hex;cases b
    ·exact h.slots.arg e3
    ·exact h.slots.arg e2
   ·cases hex
  ·cases htr
 case alloc t=>
  simp only[tr]at htr;rw[Qb]at htr;obtain⟨z,hz,rfl⟩:=htr;simp only[AB,Qa,Qe]at hex;obtain⟨rfl,rfl⟩:=hex;exact does_alloc h hz hop
 case box t x=>
  obtain⟨y,hx,rfl⟩:=map1 htr;simp only[AB]at hex;split at hex
  ·rename_i hd;simp only[Qa,Qe]at hex;obtain⟨rfl,rfl⟩:=hex;exact does_box h hx hd hop
  ·cases hex
 case build t parts=>
  simp only[tr]at htr;split at htr
  ·rename_i fields zs hu hz;split at htr
   ·rename_i hok;rw[Qb]at htr;obtain⟨l,hl,rfl⟩:=htr;exact .of_nil (does_build h hu hok hz hl hop hex)
   ·cases htr
  ·rename_i len e zs hu hz;split at htr
   ·rename_i hs1;rw[Qb]at htr;obtain⟨l,hl,rfl⟩:=htr;exact .of_nil (does_buildA h hu hs1 hz hl hop hex)
   ·cases htr
  ·cases htr
 case buildSlice t len parts=>
  simp only[tr]at htr;split at htr
  ·rename_i e hu;split at htr
   ·rename_i sz bytes l he hl;split at htr
    ·rename_i hc;simp only[Qa]at htr;subst htr;exact does_bslice h hu he hl hc.1 hc.2 hop hex
    ·cases htr
   ·cases htr
  ·cases htr
 case load t x=>
  simp only[tr]at htr;split at htr
  ·rename_i k y hk hx;simp only[Qa]at htr;subst htr;exact .of_nil (does_load h hk hx hop hex)
  ·cases htr
 case store t x v=>
  simp only[tr]at htr;split at htr
  ·rename_i n y z hn hx hv;simp only[Qa]at htr;subst htr;exact does_store h hn (Nat.succ_pos _) hx hv hop hex
  ·cases htr
 case nilCheck x=>
  obtain⟨y,hx,rfl⟩:=map1 htr;have hr:=h.slots.arg hx;simp only[AB]at hex;split at hex
  ·rename_i i o' e;rw[e]at hr;obtain⟨b,e1,hb⟩:=hr.ptr_inv;exact pureD (v:=a.eval x) (by simp[execOp,hop,e1]) hr hex
  ·rename_i ds e;rw[e]at hr;obtain⟨ad,vv,e1,_⟩:=hr.eptr_inv;exact pureD (v:=a.eval x) (by simp[execOp,hop,e1]) hr hex
  ·rename_i f cs e;rw[e]at hr;obtain⟨vs,e1,_⟩:=hr.fn_inv;exact pureD (v:=a.eval x) (by simp[execOp,hop,e1]) hr hex
  ·cases hex
 case binOp op t x y yt=>
  cases op
  case eql=>
   simp only[tr]at htr;split at htr
   ·rename_i p q hx hy;exact .of_nil (does_eq (ne:=false) h hx hy htr hop hex)
   ·cases htr
  case neq=>
   simp only[tr]at htr;split at htr
   ·rename_i p q hx hy;exact .of_nil (does_eq (ne:=true) h hx hy htr hop hex)
   ·cases htr
  all_goals
   simp only[tr]at htr;split at htr
   ·rename_i p q hx hy;simp only[Qa]at htr;subst htr;exact .of_nil (does_bin h hx hy hop hex)
   ·cases htr
 case unOp op t x=>
  obtain⟨y,hx,rfl⟩:=map1 htr;simp only[AB]at hex;rw[Qb]at hex;obtain⟨d',h1,hex⟩:=hex;obtain⟨v,e1,e2⟩:=un_sound (P:=P) (h.slots.arg hx) h1;exact pureD (by simp only[execOp,hop,Sem.run_bind,e1,Result.andThen_ok,Sem.run_pure]) e2 (by rw[hex])
 case convert src dst x=>
  simp only[tr]at htr;split at htr
  ·rename_i k1 k y hs hd hx;simp only[Qa]at htr;subst htr;have hr:=h.slots.arg hx;simp only[AB]at hex;split at hex
   ·rename_i k' n e;rw[e]at hr;refine pureD (v:= .int k (k.wrap n)) ?_ (.int _ _) hex;simp[execOp,hop,hr.int_inv,convert,run_underlying hs,run_underlying hd,Conv.intToInt]
   ·cases hex
  ·rename_i y hs hd hx;simp only[Qa]at htr;subst htr;have hr:=h.slots.arg hx;simp only[AB]at hex;split at hex
   ·rename_i b e;rw[e]at hr;refine pureD (v:=a.eval x) ?_ hr hex;simp[execOp,hop,hr.str_inv,convert,run_underlying hs,run_underlying hd]
   ·cases hex
  ·rename_i e y hs hd hx;split at htr
   ·rename_i he;simp only[Qa]at htr;subst htr;exact .of_nil (does_s2b h hs hd he hx hop hex)
   ·cases htr
  ·rename_i e y hs hd hx;split at htr
   ·rename_i he;simp only[Qa]at htr;subst htr;exact .of_nil (does_b2s h hs hd he hx hop hex)
   ·cases htr
  ·cases htr
 case fieldAddr t x f=>
  simp only[tr]at htr;split at htr
  ·rename_i fields y hu hx;split at htr
   ·rename_i fd hf;split at htr
    ·rename_i n hn;simp only[Qa]at htr;subst htr;exact .of_nil (does_faddr h hu hf hn hx hop hex)
    ·cases htr
   ·cases htr
  ·cases htr
 case field t x f=>
  simp only[tr]at htr;split at htr
  ·rename_i fields y hu hx;split at htr
   ·rename_i fd hf;rw[Qb]at htr;obtain⟨k,hk,rfl⟩:=htr;exact .of_nil (does_field h hu hf hk hx hop hex)
   ·cases htr
  ·cases htr
 case indexAddr t x i=>
  simp only[tr]at htr;split at htr
  ·rename_i e y z hu hx hi;rw[Qb]at htr;obtain⟨n,hn,rfl⟩:=htr;exact .of_nil (does_iaddr h hu hn hx hi hop hex)
  ·rename_i len e y z hu hx hi;rw[Qb]at htr;obtain⟨n,hn,rfl⟩:=htr;exact .of_nil (does_iadda h hu hn hx hi hop hex)
  ·cases htr
 case index t x i=>
  simp only[tr]at htr;split at htr
  ·rename_i y z hu hx hi;simp only[Qa]at htr;subst htr;exact .of_nil (does_idxs h hu hx hi hop hex)
  ·rename_i len e y z hu hx hi;split at htr
   ·rename_i hk;split at htr
    ·rename_i hc;simp only[Qa]at htr;subst htr;exact .of_nil (does_idxa h hu hk hc hx hi hop hex)
    ·cases htr
   ·rename_i sz hk;simp only[Qa]at htr;subst htr;exact .of_nil (does_idxm h hu hk hx hi hop hex)
   ·cases htr
  ·cases htr
 case slice t x lo hi mx=>
  cases mx with
  |some mx=>simp only[tr]at htr;cases htr
  |none=>
   simp only[tr]at htr;split at htr
   ·rename_i y l' h' hu hx hlo hhi;simp only[Qa]at htr;subst htr;exact .of_nil (does_cuts h hu hx hlo hhi hop hex)
   ·rename_i e y l' h' hu hx hlo hhi;rw[Qb]at htr;obtain⟨n,hn,rfl⟩:=htr;exact .of_nil (does_cutl h hu hn hx hlo hhi hop hex)
   ·cases htr
 case makeInterface t x=>
  simp only[tr]at htr;split at htr
  ·cases htr
  ·rename_i td y hni hu hx;simp only[Qa]at htr;subst htr;have hr:=h.slots.arg hx;simp only[AB]at hex;split at hex
   ·rename_i hc;refine pureD (v:= .iface t (a.eval x)) ?_ (.iface t _ _ hc.2 hr.un) hex;simp only[execOp,hop,Instr.makeInterface,Sem.run_bind,run_underlying hu,Result.andThen_ok];cases td<;>first|exact absurd rfl (hni _)|rfl
   ·cases hex
  ·cases htr
 case typeAssert x xt t ok=>
  simp only[tr]at htr;split at htr
  ·cases htr
  ·rename_i td z y hni hu hz hx;simp only[Qa]at htr;subst htr;exact .of_nil (does_tass h hu (λms e=>hni ms (by rw[←e])) hz hx hop hex)
  ·cases htr
 case extract x i=>
  obtain⟨y,hx,rfl⟩:=map1 htr;have hr:=h.slots.arg hx;simp only[AB]at hex;split at hex
  ·rename_i ds e;rw[e]at hr;obtain⟨vs,e1,e2,e3⟩:=hr.tup_inv;rw[Qb]at hex;obtain⟨d',hd,hex⟩:=hex;have hv:i<vs.length:=by rw[e2];exact(Qd.1 hd).1
   exact pureD (v:=vs[i]) (by simp[execOp,hop,e1,Instr.extract,hv]) (e3 i d' _ hd (Qc hv)) (by rw[hex])
  ·cases hex
 case makeFunc fn first caps=>
  cases fn with
  |func f=>
   simp only[tr]at htr;split at htr
   ·rename_i l hf hl;simp only[Qa]at htr;subst htr;have hf0:first=#[]:=Array.toList_eq_nil_iff.1 hf
    subst hf0;obtain⟨a1,a2⟩:=args_rep h hl;simp only[AB]at hex;refine pureD (v:= .func (.func f) #[] (caps.map a.eval)) (by simp[execOp,hop,Instr.makeFunc]) ?_ hex;have:=Rep.fn (w:=w) (g:=g) f (l.map (·.ev s)) (caps.map a.eval).toList a1 a2
    rwa [QI]at this
   ·cases htr
  |_=>simp only[tr]at htr;cases htr
 case makeSlice t x y=>
  simp only[tr]at htr;split at htr
  ·rename_i e hu;split at htr
   ·rename_i sz bytes z p q he hz hx hy;simp only[Qa]at htr;subst htr;exact does_mksl h hu he hz hx hy hop hex
   ·cases htr
  ·cases htr
 case range t x=>
  simp only[tr]at htr;split at htr
  ·rename_i y hu hx;simp only[Qa]at htr;subst htr;exact does_range h hu hx hop hex
  ·cases htr
 case next x b=>
  cases b with
  |true=>
   obtain⟨y,hx,rfl⟩:=map1 htr;exact does_next h hx hop hex
  |false=>simp only[tr]at htr;cases htr
 case call c=>
  simp only[tr,Gf]at htr;split at htr
  ·split at htr
   ·simp only[Qa]at htr;exact absurd htr.symm (hnc _ _)
   ·cases htr
  ·rename_i hcal;split at htr
   ·rename_i x t hargs htys;have hc:c={callee:= .builtin .len,args:=#[x],argTypes:=#[t]}:=by
     cases c;simp only at hcal hargs htys ⊢;subst hcal;congr
     ·exact Q5.1 hargs
     ·exact Q5.1 htys
    subst hc;have lenRun:∀n,(Builtin.len_ #[t] o.type #[a.eval x]).run P w= .ok (goInt n) w->(execOp a.eval o).run P w= .ok (.value (.int .i64 n)) w:=by
     intro n e;simp only[execOp,hop,resolve,invoke,builtin,Sem.run_bind,Sem.run_pure,Result.andThen_ok,List.map_toArray,Qz,Zo,e];rfl
    split at htr
    ·rename_i hu;obtain⟨y,hx,rfl⟩:=map1 htr;have hr:=h.slots.arg hx;simp only[AB]at hex;rw[Qb]at hex;obtain⟨n,hn,hex⟩:=hex;unfold lenD at hn;split at hn
     ·rename_i b _ e;rw[e]at hr;simp only[Qa]at hn;subst hn;have hl:(Builtin.len_ #[t] o.type #[a.eval x]).run P w= .ok (goInt (b.length:Int)) w:=by
       have hsz:(ByteArray.mk b.toArray).size=b.length:=by simp[ByteArray.size]
       simp[Builtin.len_,run_underlying hu,hr.str_inv,hsz]
      exact pureD (lenRun _ hl) (.int _ _) (by rw[hex])
     ·rename_i heq _;cases heq
     ·rename_i heq _;cases heq
     ·cases hn
    ·rename_i e hu;obtain⟨y,hx,rfl⟩:=map1 htr;have hr:=h.slots.arg hx;simp only[AB]at hex;rw[Qb]at hex;obtain⟨n,hn,hex⟩:=hex;unfold lenD at hn;split at hn
     ·rename_i heq _;cases heq
     ·rename_i nl t' xs _ e';rw[e']at hr;obtain⟨ad,cc,e1,_⟩:=hr.len_slice;simp only[Qa]at hn;subst hn;have hl:(Builtin.len_ #[t] o.type #[a.eval x]).run P w= .ok (goInt (xs.length:Int)) w:=by
       simp[Builtin.len_,run_underlying hu,e1]
      exact pureD (lenRun _ hl) (.int _ _) (by rw[hex])
     ·rename_i i' n' _ e';rw[e']at hr;obtain⟨b',cc,e1,_,_⟩:=hr.row_inv;simp only[Qa]at hn;subst hn;have hl:(Builtin.len_ #[t] o.type #[a.eval x]).run P w= .ok (goInt (n':Int)) w:=by
       simp[Builtin.len_,run_underlying hu,e1]
      exact pureD (lenRun _ hl) (.int _ _) (by rw[hex])
     ·cases hn
    ·cases htr
   ·cases htr
  ·rename_i hcal;split at htr
   ·rename_i x y t t' hargs htys;split at htr
    ·rename_i htt;have hc:c={callee:= .builtin .append,args:=#[x,y],argTypes:=#[t,t']}:=by
      cases c;simp only at hcal hargs htys ⊢;subst hcal;congr
      ·exact Q5.1 hargs
      ·exact Q5.1 htys
     subst hc;split at htr
     ·rename_i e hu;split at htr
      ·rename_i sz bytes p q he hx hy;simp only[Qa]at htr;subst htr;exact does_app h hu he hx hy hop (htt.imp id isStr_some) hex
      ·cases htr
     ·cases htr
    ·cases htr
   ·cases htr
  ·rename_i hcal;split at htr
   ·rename_i x y hargs;split at htr
    ·rename_i p q hx hy;simp only[Qa]at htr;subst htr;have hr1:=h.slots.arg hx;have hr2:=h.slots.arg hy;simp only[AB]at hex;split at hex
     ·rename_i k n k' n' e1 e2;rw[e1]at hr1;rw[e2]at hr2;refine pureD (v:= .int k (max n n')) ?_ (.int _ _) hex;simp only[execOp,hop,resolve,invoke,builtin,hcal,Sem.run_bind,Sem.run_pure,Result.andThen_ok];simp only[Builtin.max_,QQ,hargs,Qz,Zo,hr1.int_inv,hr2.int_inv,List.foldlM,Builtin.max2,Sem.run_bind,Sem.run_pure,Result.andThen_ok];have:(if n'>n then n' else n)=max n n':=by omega
      simp[this]
     ·cases hex
    ·cases htr
   ·cases htr
  ·rename_i hcal;split at htr
   ·rename_i x y hargs;split at htr
    ·rename_i p q hx hy;simp only[Qa]at htr;subst htr;have hr1:=h.slots.arg hx;have hr2:=h.slots.arg hy;simp only[AB]at hex;split at hex
     ·rename_i k n k' n' e1 e2;rw[e1]at hr1;rw[e2]at hr2;refine pureD (v:= .int k (min n n')) ?_ (.int _ _) hex;simp only[execOp,hop,resolve,invoke,builtin,hcal,Sem.run_bind,Sem.run_pure,Result.andThen_ok];simp only[Builtin.min_,QQ,hargs,Qz,Zo,hr1.int_inv,hr2.int_inv,List.foldlM,Builtin.min2,Sem.run_bind,Sem.run_pure,Result.andThen_ok];have:(if n'<n then n' else n)=min n n':=by omega
      simp[this]
     ·cases hex
    ·cases htr
   ·cases htr
  ·cases htr
 all_goals (simp[tr]at htr)
end
section
variable{P:Program}{B:Nat}{w0 w:World}{m:Mem}{g:Gh}{fr:Id}{s:Nat->D}{a:Act}{S:Summs}{d:D}{u:Upd}
def trCall_call{c:Call}{f:Arg}{xs:List Arg}(h:Gf P c=some (.call f xs)):∃fo,c.callee= .value fo∧AC fo=some f∧DP c.args.toList=some xs:=by
 unfold Gf at h;split at h
 ·rename_i fo hc;split at h
  ·rename_i g xs' h1 h2;simp only[Qa,DOp.call.injEq]at h;obtain⟨rfl,rfl⟩:=h;exact⟨fo,hc,h1,h2⟩
  ·cases h
 ·exfalso
  repeat' (split at h)
  all_goals first|(simp at h;done)|(rw[Qb]at h;obtain⟨_,_,h⟩:=h;cases h)
 ·exfalso
  repeat' (split at h)
  all_goals first|(simp at h;done)|(rw[Qb]at h;obtain⟨_,_,h⟩:=h;cases h)
 ·exfalso
  repeat' (split at h)
  all_goals (simp at h;done)
 ·exfalso
  repeat' (split at h)
  all_goals (simp at h;done)
 ·cases h
def tr_call{op:Op}{f:Arg}{xs:List Arg}(h:tr P op=some (.call f xs)):∃c,op= .call c∧Gf P c=some (.call f xs):=by
 cases op with
 |call c=>exact⟨c,rfl,h⟩
 |binOp op t x y yt=>
  exfalso;cases op<;>simp only[tr,trEq]at h<;>repeat' (split at h)
  all_goals first|(simp at h;done)|(rw[Qb]at h;obtain⟨_,_,h⟩:=h;cases h)
 |makeFunc fn x y=>
  exfalso;cases fn<;>simp only[tr]at h<;>repeat' (split at h)
  all_goals first|(simp at h;done)|(rw[Qb]at h;obtain⟨_,_,h⟩:=h;cases h)
 |slice t x lo hi mx=>
  exfalso;cases mx<;>simp only[tr]at h<;>repeat' (split at h)
  all_goals first|(simp at h;done)|(rw[Qb]at h;obtain⟨_,_,h⟩:=h;cases h)
 |next x b=>
  exfalso;cases b<;>simp only[tr]at h
  all_goals first|(simp at h;done)|(rw[Qb]at h;obtain⟨_,_,h⟩:=h;cases h)
 |_=>
  exfalso;simp only[tr]at h<;>repeat' (split at h)
  all_goals first|(simp at h;done)|(rw[Qb]at h;obtain⟨_,_,h⟩:=h;cases h)
def op_wp{o:Oper}{dop:DOp}{K:Act->World->Prop}{Q:Exit->Act->World->Prop}(hS:Summs.ok P S)(h:At P B w0 w m g fr s a)(htr:tr P o.op=some dop)(hex:AB S s m fr dop=some (d,u))
  (hK:∀v' w' g',Step P B w0 m g fr w (Upd.app m u) d v' w' g'->K (a.put o.dst v') w'):o.wp P a w K Q:=by
 by_cases hc:∃f xs,dop= .call f xs
 ·obtain⟨f,xs,rfl⟩:=hc;obtain⟨c,hop,htc⟩:=tr_call htr;obtain⟨fo,hcal,hf,hxs⟩:=trCall_call htc;simp only[AB]at hex;split at hex
  ·rename_i fid caps ef;split at hex
   ·rename_i q hq;have hok:=hS fid q hq;have hrf:=h.slots.arg hf;rw[ef]at hrf;obtain⟨vs,e1,e2,e3⟩:=hrf.fn_inv;obtain⟨a1,a2⟩:=args_rep h hxs;obtain⟨fn,hfn,hbody,hname⟩:=hok.ent;have hbn:fn.body.isNone=false:=by cases hb:fn.body<;>simp_all
    have hlen:((c.args.map a.eval).toList++vs).length=(xs.map (·.ev s)++caps).length:=by simp at a1 ⊢;omega
    have hrep:∀(j:Nat) d v,(xs.map (·.ev s)++caps)[j]?=some d->((c.args.map a.eval).toList++vs)[j]?=some v->Rep w g d v:=by
     intro j d v hd hv;by_cases hj:j<(xs.map (·.ev s)).length
     ·rw[Qj hj]at hd;rw[Qj (by rw[a1];exact hj)]at hv;exact a2 j d v hd hv
     ·rw[Qm (by omega)]at hd;rw[Qm (by rw[a1];omega),a1]at hv;exact e3 _ d v hd hv
    have hcalls:=hok.run h.inv h.fresh hlen hrep hex;have harr:((c.args.map a.eval).toList++vs).toArray=c.args.map a.eval++vs.toArray:=by simp
    rw[harr]at hcalls;have hrun:(execOp a.eval o).run P w= .ok (.enter fid (c.args.map a.eval++vs.toArray)) w:=by
     simp only[execOp,hop,resolve,hcal,e1,Deferred.ofValue,Sem.run_bind,Sem.run_pure,Result.andThen_ok,invoke,callFunc,run_program,hfn,hname,hbn,Qu,if_false];simp
    unfold Oper.wp;rw[hrun,Oper.upon_enter];refine hcalls.mono ?_;rintro e w' ⟨v,g',rfl,hst⟩;exact hK v w' g' hst
   ·cases hex
  ·cases hex
 ·obtain⟨v',w',g',r,e1,e2,e3⟩:=op_does h htr (λf xs e=>hc ⟨f,xs,e⟩) hex;unfold Oper.wp;rw[e1];rcases e2 with rfl|⟨rfl,rfl⟩
  ·exact hK v' w' g' e3
  ·exact hK undef w' g' e3
end
end Go.Vd
namespace Go.Vd
structure DOper where
 dst:Option Nat
 op:DOp
 after:List Nat
 guard:Option (Nat×Bool)
abbrev Loc:=Id×Nat
structure Eff where
 d:D
 u:Upd
def BS(s:Nat->D)(t:Option Nat)(d:D):Nat->D:=
 match t with
 |some t=>λt'=>if t'=t then d else s t'
 |none=>s
def FZ(ops:List DOper)(o:DOper):Option Nat:=
 match o.guard with
 |none=>none
 |some (j,_)=>(ops[j]?).bind (·.dst)
def Bo(ops:List DOper)(s:Nat->D)(o:DOper):Option Bool:=
 match o.guard with
 |none=>some true
 |some (j,b)=>match (ops[j]?).bind (·.dst)with
  |some t=>match s t with
   | .bool b'=>some (b'==b)
   | .tup []=>some false
   |_=>none
  |none=>none
def BG(S:Summs)(ops:List DOper)(fr:Id)(o:DOper)(s:Nat->D)(m:Mem):Option Eff:=
 match Bo ops s o with
 |some true=>match AB S s m fr o.op with
  |some (d,u)=>some ⟨d,u⟩
  |none=>none
 |some false=>some ⟨.tup [],[]⟩
 |none=>none
def CD(S:Summs)(ns:Id)(c:Nat)(ops:List DOper):List Nat->(Nat->D)->Mem->Option ((Nat->D)×Mem)
 |[],s,m=>some (s,m)
 |i::l,s,m=>match ops[i]? with
  |none=>CD S ns c ops l s m
  |some o=>match BG S ops ((c+i)::ns) o s m with
   |some e=>CD S ns c ops l (BS s o.dst e.d) (Upd.app m e.u)
   |none=>none
def Arg.uses:Arg->List Nat
 | .t n=>[n]
 | .c _=>[]
def optUses:Option Arg->List Nat
 |some a=>a.uses
 |none=>[]
def DOp.uses:DOp->List Nat
 | .range x| .next x| .mv x| .box x| .load _ x| .nilchk x| .un _ x| .conv _ x| .s2s x| .s2b x| .b2s x| .faddr _ x| .field _ _ x| .mkif _ x| .tass _ _ _ x| .ext _ x| .len _ x=>x.uses
 | .pick c a b=>c.uses++a.uses++b.uses
 | .alloc _| .stop=>[]
 | .build _ ps=>ps.flatMap λp=>p.2.2.uses
 | .bslice _ _ ps=>ps.flatMap Arg.uses
 | .store _ x y| .bin _ x y| .beq _ x y| .seq _ _ x y| .nileq _ _ x y| .iaddr _ x y| .idxs x y| .idxa _ x y| .idxm _ _ x y| .mxm _ x y| .iadda _ _ x y| .app _ _ _ x y| .mksl _ _ _ _ x y=>x.uses++y.uses
 | .cuts x l h| .cutl _ x l h=>x.uses++optUses l++optUses h
 | .mkfn _ cs=>cs.flatMap Arg.uses
 | .call f xs=>f.uses++xs.flatMap Arg.uses
def Ai(i:Id)(o n:Nat):List Loc:=(Qt n).map λj=>(i,o+j)
def rds(S:Summs)(s:Nat->D)(m:Mem):DOp->List Loc
 | .load k x=>match x.ev s with
  | .ptr i o=>Ai i o (k.getD 1)
  |_=>[]
 | .store n x _=>match x.ev s with
  | .ptr i o=>Ai i o n
  |_=>[]
 | .app _ _ _ x _=>match x.ev s with
  | .slice _ t _=>[(t,0)]
  |_=>[]
 | .next x=>match x.ev s with
  | .itp i=>[(i,1)]
  |_=>[]
 | .call f xs=>match f.ev s with
  | .fn f caps=>match S f with
   |some q=>q.rd (xs.map (·.ev s)++caps) m
   |none=>[]
  |_=>[]
 |_=>[]
def Arg.ev_congr{x:Arg}{s s':Nat->D}(h:∀t∈x.uses,s t=s' t):x.ev s=x.ev s':=by
 cases x with
 |t n=>exact h n (Q0.2 rfl)
 |c d=>rfl
def args_congr{xs:List Arg}{s s':Nat->D}(h:∀t∈xs.flatMap Arg.uses,s t=s' t):xs.map (·.ev s)=xs.map (·.ev s'):=
 QY λx hx=>Arg.ev_congr λt ht=>h t (Q6.2 ⟨x,hx,ht⟩)
def BC{m m':Mem}{i:Id}:∀{n o:Nat},(∀l∈Ai i o n,m l.1 l.2=m' l.1 l.2)->Ag m i o n=Ag m' i o n
 |0,o,_=>rfl
 |n+1,o,h=>by
  have h0:m i o=m' i o:=h (i,o) (by simp only[Ai,Qp,Qk];exact⟨0,by omega,rfl⟩);have ih:=BC (m:=m) (m':=m') (i:=i) (n:=n) (o:=o+1) (λl hl=>h l (by
   simp only[Ai,Qp,Qk]at hl ⊢;obtain⟨j,hj,rfl⟩:=hl;exact⟨j+1,by omega,by rw[show o+(j+1)=o+1+j by omega]⟩))
  unfold Ag;rw[h0,ih]
def Fv{x:Option Arg}{s s':Nat->D}(h:∀t∈optUses x,s t=s' t)(a b:Nat):Fw s x a b=Fw s' x a b:=by
 cases x with
 |none=>rfl
 |some x=>simp only[Fw];rw[Arg.ev_congr h]
def exec_congr{P:Program}{S:Summs}(hS:Summs.ok P S){op:DOp}{s s':Nat->D}{m m':Mem}{fr:Id}(hs:∀t∈op.uses,s t=s' t)(hm:∀l∈rds S s m op,m l.1 l.2=m' l.1 l.2):
  AB S s m fr op=AB S s' m' fr op:=by
 cases op with
 |mv x=>simp only[AB];rw[Arg.ev_congr hs]
 |box x=>simp only[AB];rw[Arg.ev_congr hs]
 |nilchk x=>simp only[AB];rw[Arg.ev_congr hs]
 |un op x=>simp only[AB];rw[Arg.ev_congr hs]
 |conv k x=>simp only[AB];rw[Arg.ev_congr hs]
 |s2s x=>simp only[AB];rw[Arg.ev_congr hs]
 |s2b x=>simp only[AB];rw[Arg.ev_congr hs]
 |b2s x=>simp only[AB];rw[Arg.ev_congr hs]
 |faddr off x=>simp only[AB];rw[Arg.ev_congr hs]
 |field k off x=>simp only[AB];rw[Arg.ev_congr hs]
 |mkif t x=>simp only[AB];rw[Arg.ev_congr hs]
 |tass t ok z x=>simp only[AB];rw[Arg.ev_congr hs]
 |ext i x=>simp only[AB];rw[Arg.ev_congr hs]
 |len k x=>simp only[AB];rw[Arg.ev_congr hs]
 |alloc zs=>rfl
 |pick c a b=>
  simp only[DOp.uses,Qh]at hs;simp only[AB];rw[Arg.ev_congr (λt ht=>hs t (.inl (.inl ht))),Arg.ev_congr (λt ht=>hs t (.inl (.inr ht))),Arg.ev_congr (λt ht=>hs t (.inr ht))]
 |build zs ps=>
  simp only[AB];have:(ps.map λp=>(p.1,p.2.1,p.2.2.ev s))=ps.map λp=>(p.1,p.2.1,p.2.2.ev s'):=
   QY λp hp=>by rw[Arg.ev_congr λt ht=>hs t (Q6.2 ⟨p,hp,ht⟩)]
  rw[this]
 |bslice e sz ps=>
  have hp:∀p∈ps,p.ev s=p.ev s':=λp hp=>Arg.ev_congr λt ht=>hs t (Q6.2 ⟨p,hp,ht⟩)
  simp only[AB];have hmap:(ps.map λp=>(p.ev s).un)=ps.map λp=>(p.ev s').un:=QY λp hp'=>by rw[hp p hp']
  rw[hmap];have:(ps.all λp=>(p.ev s).data&&(p.ev s).cells.length==sz&&(p.ev s).un.calm)=ps.all λp=>(p.ev s').data&&(p.ev s').cells.length==sz&&(p.ev s').un.calm:=by
   rw[Bool.eq_iff_iff,Qs,Qs];constructor
   ·intro h p hp';rw[←hp p hp'];exact h p hp'
   ·intro h p hp';rw[hp p hp'];exact h p hp'
  rw[this]
 |load k x=>
  have hx:x.ev s=x.ev s':=Arg.ev_congr hs;simp only[rds]at hm;simp only[AB];rw[←hx];cases hxe:x.ev s<;>simp only[hxe]at hm ⊢
  case eptr ds=>cases k<;>rfl
  rename_i i o;cases k with
  |none=>
   have:=hm (i,o) (by simp only[Ai,Qp,Qk];exact⟨0,by simp,rfl⟩);simp only at this;simp only[this]
  |some n=>
   simp only[QD]at hm;simp only;rw[BC hm]
 |store n x v=>
  simp only[DOp.uses,Qh]at hs;have hx:x.ev s=x.ev s':=Arg.ev_congr λt ht=>hs t (.inl ht)
  have hv:v.ev s=v.ev s':=Arg.ev_congr λt ht=>hs t (.inr ht)
  simp only[rds]at hm;simp only[AB];rw[←hx,←hv];cases hxe:x.ev s<;>simp only[hxe]at hm ⊢;rw[BC hm]
 |bin op x y=>
  simp only[DOp.uses,Qh]at hs;simp only[AB];rw[Arg.ev_congr (λt ht=>hs t (.inl ht)),Arg.ev_congr (λt ht=>hs t (.inr ht))]
 |beq ne x y=>
  simp only[DOp.uses,Qh]at hs;simp only[AB];rw[Arg.ev_congr (λt ht=>hs t (.inl ht)),Arg.ev_congr (λt ht=>hs t (.inr ht))]
 |seq ne l x y=>
  simp only[DOp.uses,Qh]at hs;simp only[AB];rw[Arg.ev_congr (λt ht=>hs t (.inl ht)),Arg.ev_congr (λt ht=>hs t (.inr ht))]
 |nileq ne k x y=>
  simp only[DOp.uses,Qh]at hs;simp only[AB];rw[Arg.ev_congr (λt ht=>hs t (.inl ht)),Arg.ev_congr (λt ht=>hs t (.inr ht))]
 |iaddr sz x y=>
  simp only[DOp.uses,Qh]at hs;simp only[AB];rw[Arg.ev_congr (λt ht=>hs t (.inl ht)),Arg.ev_congr (λt ht=>hs t (.inr ht))]
 |idxs x y=>
  simp only[DOp.uses,Qh]at hs;simp only[AB];rw[Arg.ev_congr (λt ht=>hs t (.inl ht)),Arg.ev_congr (λt ht=>hs t (.inr ht))]
 |iadda len sz x y=>
  simp only[DOp.uses,Qh]at hs;simp only[AB];rw[Arg.ev_congr (λt ht=>hs t (.inl ht)),Arg.ev_congr (λt ht=>hs t (.inr ht))]
 |idxm len sz x y=>
  simp only[DOp.uses,Qh]at hs;simp only[AB];rw[Arg.ev_congr (λt ht=>hs t (.inl ht)),Arg.ev_congr (λt ht=>hs t (.inr ht))]
 |mxm mx x y=>
  simp only[DOp.uses,Qh]at hs;simp only[AB];rw[Arg.ev_congr (λt ht=>hs t (.inl ht)),Arg.ev_congr (λt ht=>hs t (.inr ht))]
 |idxa len x y=>
  simp only[DOp.uses,Qh]at hs;simp only[AB];rw[Arg.ev_congr (λt ht=>hs t (.inl ht)),Arg.ev_congr (λt ht=>hs t (.inr ht))]
 |mksl e sz b z x y=>
  simp only[DOp.uses,Qh]at hs;simp only[AB];rw[Arg.ev_congr (λt ht=>hs t (.inl ht)),Arg.ev_congr (λt ht=>hs t (.inr ht))]
 |app e sz b x y=>
  simp only[DOp.uses,Qh]at hs;have hx:x.ev s=x.ev s':=Arg.ev_congr λt ht=>hs t (.inl ht)
  have hy:y.ev s=y.ev s':=Arg.ev_congr λt ht=>hs t (.inr ht)
  simp only[rds]at hm;simp only[AB];rw[←hx,←hy];cases hxe:x.ev s<;>simp only[hxe]at hm ⊢;rename_i nl t xs;have:=hm (t,0) (Q0.2 rfl);simp only at this;cases appSrc sz (y.ev s)<;>simp only[this]
 |stop=>rfl
 |range x=>simp only[AB];rw[Arg.ev_congr hs]
 |next x=>
  have hx:x.ev s=x.ev s':=Arg.ev_congr hs;simp only[rds]at hm;simp only[AB];rw[←hx];cases hxe:x.ev s<;>simp only[hxe]at hm ⊢;rename_i i;have:=hm (i,1) (Q0.2 rfl);simp only at this;rw[this]
 |cuts x l h=>
  simp only[DOp.uses,Qh]at hs;simp only[AB];rw[Arg.ev_congr (λt ht=>hs t (.inl (.inl ht)))];cases x.ev s'<;>simp only;rw[Fv (λt ht=>hs t (.inr ht))];split
  ·rw[Fv (λt ht=>hs t (.inl (.inr ht)))]
  ·rfl
 |cutl sz x l h=>
  simp only[DOp.uses,Qh]at hs;simp only[AB];rw[Arg.ev_congr (λt ht=>hs t (.inl (.inl ht)))];cases x.ev s'<;>simp only;rw[Fv (λt ht=>hs t (.inr ht))];split
  ·split
   ·rw[Fv (λt ht=>hs t (.inl (.inr ht)))]
   ·rfl
  ·rfl
 |mkfn f cs=>
  simp only[AB];rw[args_congr hs]
 |call f xs=>
  simp only[DOp.uses,Qh]at hs;have hf:f.ev s=f.ev s':=Arg.ev_congr λt ht=>hs t (.inl ht)
  have hx:xs.map (·.ev s)=xs.map (·.ev s'):=args_congr λt ht=>hs t (.inr ht)
  simp only[rds]at hm;simp only[AB];rw[←hf,←hx];cases hfe:f.ev s<;>simp only[hfe]at hm ⊢;rename_i fid caps;cases hSf:S fid<;>simp only[hSf]at hm ⊢;rename_i q;exact(hS fid q hSf).loc _ _ _ _ hm
def DF(ops:List DOper)(k:Nat):Option Nat:=(ops[k]?).bind (·.dst)
def ER:Upd->Id->Nat->Option D
 |[],_,_=>none
 |(i',o',ds)::r,i,o=>match ER r i o with
  |some d=>some d
  |none=>if i=i'∧o'<=o∧o<o'+ds.length then ds[o-o']? else none
def app_look:∀(u:Upd)(m:Mem)(i:Id)(o:Nat),Upd.app m u i o=match ER u i o with|some d=>some d|none=>m i o
 |[],m,i,o=>rfl
 |(i',o',ds)::r,m,i,o=>by
  simp only[Upd.app,ER];rw[app_look r (m.put i' o' ds) i o];cases ER r i o with
  |some d=>rfl
  |none=>
   simp only[Mem.put];split
   ·rename_i hc;obtain⟨rfl,h1,h2⟩:=hc;have:o-o'<ds.length:=by omega
    simp[this]
   ·rfl
def AL(u:Upd):List Loc:=u.flatMap λx=>Ai x.1 x.2.1 x.2.2.length
def look_mem:∀{u:Upd} {i:Id} {o:Nat},ER u i o≠none->(i,o)∈AL u
 |[],i,o,h=>absurd rfl h
 |(i',o',ds)::r,i,o,h=>by
  simp only[AL,Zg,Qh];simp only[ER]at h;split at h
  ·rename_i d hd;exact .inr (look_mem (by rw[hd];simp))
  ·split at h
   ·rename_i hc;obtain⟨rfl,h1,h2⟩:=hc;left;simp only[Ai,Qp,Qk];exact⟨o-o',by omega,by rw[show o'+(o-o')=o by omega]⟩
   ·exact absurd rfl h
section
variable(ops:List DOper)(E:Nat->Eff)
def lastS(X:Nat->Bool)(t:Nat):Nat->Option D
 |0=>none
 |k+1=>if X k=true∧DF ops k=some t then some (E k).d else lastS X t k
def lastM(X:Nat->Bool)(i:Id)(o:Nat):Nat->Option D
 |0=>none
 |k+1=>if X k=true then match ER (E k).u i o with
  |some d=>some d
  |none=>lastM X i o k
  else lastM X i o k
variable(s0:Nat->D)(m0:Mem)
def stS(X:Nat->Bool)(n:Nat):Nat->D:=λt=>(lastS ops E X t n).getD (s0 t)
def stM(X:Nat->Bool)(n:Nat):Mem:=λi o=>match lastM E X i o n with|some d=>some d|none=>m0 i o
variable{ops E s0 m0}
def lastS_congr{X Y:Nat->Bool}{t:Nat}:∀{n:Nat},(∀k,k<n->DF ops k=some t->X k=Y k)->lastS ops E X t n=lastS ops E Y t n
 |0,_=>rfl
 |n+1,h=>by
  have ih:=lastS_congr (X:=X) (Y:=Y) (t:=t) (n:=n) (λk hk=>h k (by omega));simp only[lastS];by_cases hd:DF ops n=some t
  ·rw[h n (by omega) hd,ih]
  ·simp[hd,ih]
def lastM_congr{X Y:Nat->Bool}{i:Id}{o:Nat}:∀{n:Nat},(∀k,k<n->ER (E k).u i o≠none->X k=Y k)->lastM E X i o n=lastM E Y i o n
 |0,_=>rfl
 |n+1,h=>by
  have ih:=lastM_congr (X:=X) (Y:=Y) (i:=i) (o:=o) (n:=n) (λk hk=>h k (by omega));simp only[lastM];cases hl:ER (E n).u i o with
  |none=>simp[ih]
  |some d=>rw[h n (by omega) (by rw[hl];simp)];simp[ih]
def ins(X:Nat->Bool)(k:Nat):Nat->Bool:=λj=>X j||j==k
def lastS_ins{X:Nat->Bool}{t k:Nat}(hX:X k=false):∀{n:Nat},k<n->(DF ops k=some t->∀j,k<j->j<n->X j=true->DF ops j≠some t)->
  lastS ops E (ins X k) t n=if DF ops k=some t then some (E k).d else lastS ops E X t n
 |n+1,hk,h=>by
  by_cases hd:DF ops k=some t
  ·rw[if_pos hd];by_cases hn:k=n
   ·subst hn;simp[lastS,ins,hd]
   ·have ih:=lastS_ins hX (n:=n) (by omega) (λhd' j h1 h2 h3=>h hd' j h1 (by omega) h3);rw[if_pos hd]at ih;simp only[lastS];have:¬(ins X k n=true∧DF ops n=some t):=by
     rintro⟨h1,h2⟩;simp only[ins,QC,beq_iff_eq]at h1;rcases h1 with h1|h1
     ·exact h hd n (by omega) (by omega) h1 h2
     ·omega
    rw[if_neg this,ih]
  ·rw[if_neg hd];refine lastS_congr (λj hj hdj=>?_);have:j≠k:=by rintro rfl;exact hd hdj
   simp[ins,this]
def lastM_ins{X:Nat->Bool}{i:Id}{o k:Nat}(hX:X k=false):∀{n:Nat},k<n->(ER (E k).u i o≠none->∀j,k<j->j<n->X j=true->ER (E j).u i o=none)->
  lastM E (ins X k) i o n=match ER (E k).u i o with|some d=>some d|none=>lastM E X i o n
 |n+1,hk,h=>by
  cases hl:ER (E k).u i o with
  |none=>
   simp only;refine lastM_congr (λj hj hdj=>?_);have:j≠k:=by rintro rfl;exact hdj hl
   simp[ins,this]
  |some d=>
   simp only;by_cases hn:k=n
   ·subst hn;simp[lastM,ins,hl]
   ·have ih:=lastM_ins (i:=i) (o:=o) hX (n:=n) (by omega) (λhd' j h1 h2 h3=>h hd' j h1 (by omega) h3);rw[hl]at ih;simp only at ih;simp only[lastM];split
    ·rename_i h1;simp only[ins,QC,beq_iff_eq]at h1;rcases h1 with h1|h1
     ·rw[h (by rw[hl];simp) n (by omega) (by omega) h1];exact ih
     ·omega
    ·exact ih
def stS_ins{X:Nat->Bool}{k n:Nat}(hX:X k=false)(hk:k<n)(h:∀t,DF ops k=some t->∀j,k<j->j<n->X j=true->DF ops j≠some t):
  stS ops E s0 (ins X k) n=BS (stS ops E s0 X n) (DF ops k) (E k).d:=by
 funext t;simp only[stS];rw[lastS_ins hX hk (h t)];cases hd:DF ops k with
 |none=>simp[BS,stS]
 |some t'=>
  simp only[BS,stS,Qa];by_cases ht:t=t'
  ·subst ht;simp
  ·rw[if_neg (λe=>ht e.symm),if_neg ht]
def stM_ins{X:Nat->Bool}{k n:Nat}(hX:X k=false)(hk:k<n)(h:∀i o,ER (E k).u i o≠none->∀j,k<j->j<n->X j=true->ER (E j).u i o=none):
  stM E m0 (ins X k) n=Upd.app (stM E m0 X n) (E k).u:=by
 funext i o;rw[app_look];simp only[stM];rw[lastM_ins hX hk (h i o)];cases ER (E k).u i o<;>rfl
def below(k:Nat):Nat->Bool:=λj=>decide (j<k)
def ins_below(k:Nat):ins (below k) k=below (k+1):=by
 funext j;simp only[ins,below];rw[Bool.eq_iff_iff];simp only[QC,decide_eq_true_eq,beq_iff_eq];omega
structure Indep (ops:List DOper) (E:Nat->Eff) (rd:Nat->List Loc) (bef:Nat->Nat->Prop):Prop where
 lt:∀j k,bef j k->j<k
 slot:∀j k t oj ok,j≠k->ops[j]?=some oj->ops[k]?=some ok->oj.dst=some t->(t∈ok.op.uses∨FZ ops ok=some t∨ok.dst=some t)->bef j k∨bef k j
 mem:∀j k i o,j≠k->j<ops.length->k<ops.length->ER (E j).u i o≠none->((i,o)∈rd k∨ER (E k).u i o≠none)->bef j k∨bef k j
def Goes(ops:List DOper)(bef:Nat->Nat->Prop):(Nat->Bool)->List Nat->Prop
 |_,[]=>True
 |X,i::l=>i<ops.length∧X i=false∧(∀j,bef j i->X j=true)∧Goes ops bef (ins X i) l
def Closed(bef:Nat->Nat->Prop)(X:Nat->Bool):Prop:=∀j k,X k=true->bef j k->X j=true
def guardOf_congr{s s':Nat->D}{o:DOper}(h:∀t,FZ ops o=some t->s t=s' t):Bo ops s o=Bo ops s' o:=by
 unfold Bo;unfold FZ at h;cases hg:o.guard with
 |none=>rfl
 |some p=>
  obtain⟨j,b⟩:=p;simp only[hg]at h ⊢;cases hd:(ops[j]?).bind (·.dst)with
  |none=>rfl
  |some t=>simp only;rw[h t hd]
def effOf_congr{P:Program}{S:Summs}(hS:Summs.ok P S){o:DOper}{fr:Id}{s s':Nat->D}{m m':Mem}(hs:∀t,(t∈o.op.uses∨FZ ops o=some t)->s t=s' t)(hm:∀l∈rds S s m o.op,m l.1 l.2=m' l.1 l.2):
  BG S ops fr o s m=BG S ops fr o s' m':=by
 unfold BG;rw[guardOf_congr (λt ht=>hs t (.inr ht)),exec_congr hS (λt ht=>hs t (.inl ht)) hm]
variable{P:Program}{S:Summs}{ns:Id}{c:Nat}{rd:Nat->List Loc}{bef:Nat->Nat->Prop}
def eff_at(hS:Summs.ok P S)(hI:Indep ops E rd bef){k:Nat}{o:DOper}(ho:ops[k]?=some o)
  (hrd:rd k=rds S (stS ops E s0 (below k) ops.length) (stM E m0 (below k) ops.length) o.op)
  (hE:BG S ops ((c+k)::ns) o (stS ops E s0 (below k) ops.length) (stM E m0 (below k) ops.length)=some (E k))
  {X:Nat->Bool} (hX:Closed bef X) (hk:X k=false) (hpre:∀j,bef j k->X j=true):
  BG S ops ((c+k)::ns) o (stS ops E s0 X ops.length) (stM E m0 X ops.length)=some (E k):=by
 have hkn:k<ops.length:=(Qd.1 ho).1;rw[←hE];symm;have key:∀j,j<ops.length->bef j k∨bef k j->below k j=X j:=by
  intro j hj hc;rcases hc with h1|h1
  ·rw[hpre j h1];simp[below,hI.lt j k h1]
  ·have:=hI.lt k j h1;have hxj:X j=false:=by
    cases hx:X j with
    |false=>rfl
    |true=>rw[hX k j hx h1]at hk;cases hk
   rw[hxj];simp[below];omega
 have self:∀j,j<ops.length->j=k->below k j=X j:=by
  rintro j hj rfl;rw[hk];simp[below]
 refine effOf_congr hS (λt ht=>?_) (λl hl=>?_)
 ·simp only[stS];rw[lastS_congr (λj hj hd=>?_)];by_cases hjk:j=k
  ·exact self j hj hjk
  ·have hoj:ops[j]?=some ops[j]:=Qc hj;refine key j hj (hI.slot j k t _ o hjk hoj ho ?_ (by rcases ht with ht|ht;exact .inl ht;exact .inr (.inl ht)));simpa[DF,hoj]using hd
 ·simp only[stM];rw[lastM_congr (λj hj hd=>?_)];by_cases hjk:j=k
  ·exact self j hj hjk
  ·exact key j hj (hI.mem j k l.1 l.2 hjk hj hkn hd (.inl (by rw[hrd];exact hl)))
def Closed.ins{X:Nat->Bool}{k:Nat}(hX:Closed bef X)(hpre:∀j,bef j k->X j=true):Closed bef (ins X k):=by
 intro j k' hk' hb;simp only[Vd.ins,QC,beq_iff_eq]at hk' ⊢;rcases hk' with h|rfl
 ·exact .inl (hX j k' h hb)
 ·exact .inl (hpre j hb)
def sched_goes(hS:Summs.ok P S)(hI:Indep ops E rd bef)(hrd:∀k o,ops[k]?=some o->rd k=rds S (stS ops E s0 (below k) ops.length) (stM E m0 (below k) ops.length) o.op)
  (hE:∀k o,ops[k]?=some o->BG S ops ((c+k)::ns) o (stS ops E s0 (below k) ops.length) (stM E m0 (below k) ops.length)=some (E k)):
  ∀(l:List Nat)(X:Nat->Bool),Closed bef X->Goes ops bef X l->
   CD S ns c ops l (stS ops E s0 X ops.length) (stM E m0 X ops.length)=some (stS ops E s0 (l.foldl ins X) ops.length,stM E m0 (l.foldl ins X) ops.length)
 |[],X,_,_=>rfl
 |i::l,X,hX,hg=>by
  obtain⟨hi,hxi,hpre,hgo⟩:=hg;have ho:ops[i]?=some ops[i]:=Qc hi;have he:=eff_at hS hI ho (hrd i _ ho) (hE i _ ho) hX hxi hpre;have hnot:∀j,i<j->X j=true->¬(bef j i∨bef i j):=by
   intro j hj hxj hb;rcases hb with hb|hb
   ·have:=hI.lt j i hb;omega
   ·rw[hX i j hxj hb]at hxi;cases hxi
  have e1:=stS_ins (ops:=ops) (E:=E) (s0:=s0) hxi hi (λt hd j h1 h2 h3 hd'=>by
   have hoj:ops[j]?=some ops[j]:=Qc h2;refine hnot j h1 h3 (hI.slot j i t _ _ (by omega) hoj ho ?_ (.inr (.inr ?_)))
   ·simpa[DF,hoj]using hd'
   ·simpa[DF,ho]using hd)
  have e2:=stM_ins (E:=E) (m0:=m0) hxi hi (λi' o hl j h1 h2 h3=>by
   cases hlj:ER (E j).u i' o with
   |none=>rfl
   |some d=>exact absurd (hI.mem j i i' o (by omega) h2 hi (by rw[hlj];simp) (.inr hl)) (hnot j h1 h3))
  have hd:DF ops i=(ops[i]).dst:=by simp[DF,ho]
  rw[hd]at e1;simp only[CD,ho,he,QZ];rw[←e1,←e2];exact sched_goes hS hI hrd hE l (ins X i) (hX.ins hpre) hgo
end
def goodFrom(m:Region.Mode)(ops:Array Oper):List Nat->List Nat->Bool
 |_,[]=>true
 |done,i::r=>(match ops[i]? with
  |some o=>o.after.all λe=>!Region.binds m e||done.contains e.on
  |none=>false)&&goodFrom m ops (i::done) r
def Fm(m:Region.Mode)(ops:Array Oper)(ord:List Nat):Bool:=(Qt ops.size).all (λi=>ord.contains i)&&goodFrom m ops [] ord
def Ey(m:Region.Mode)(ops:Array Oper)(listed:Array Bool):List Nat:=
 (Qt ops.size).filter λi=>!listed.getD i true&&((ops[i]?).map (·.after.all λe=>!Region.binds m e||listed.getD e.on false)).getD false
def getD_in{a:Array Bool}{i:Nat}(h:i<a.size)(x y:Bool):a.getD i x=a.getD i y:=by
 simp[Qg,h]
def ready_from{m:Region.Mode}{ops:Array Oper}{listed:Array Bool}(hsz:listed.size=ops.size):∀{ord done:List Nat},goodFrom m ops done ord=true->(∀j∈done,listed.getD j false=true)->
  (∃i∈ord,i<ops.size∧listed.getD i false=false)->∃i,i∈Ey m ops listed
 |[],done,_,_,⟨i,hi,_⟩=>by cases hi
 |i::r,done,h,hd,⟨k,hk,hkn,hkl⟩=>by
  unfold goodFrom at h;rw[QP]at h;obtain⟨h1,h2⟩:=h;split at h1
  ·rename_i o ho;have hin:i<ops.size:=(Qf.1 ho).1;by_cases hli:listed.getD i false=false
   ·refine⟨i,?_⟩;simp only[Ey,Zr,Qk];refine⟨hin,?_⟩;rw[getD_in (by omega) true false,hli];simp only[Zd,Bool.true_and,ho,QB,QD];rw[Array.all_eq_true]at h1 ⊢;intro j hj;have:=h1 j hj;simp only[QC,Zs]at this ⊢;rcases this with h3|h3
    ·exact .inl h3
    ·exact .inr (hd _ h3)
   ·have hli':listed.getD i false=true:=by simpa using hli
    refine ready_from hsz h2 (λj hj=>?_) ?_
    ·rcases Zv.1 hj with rfl|hj
     ·exact hli'
     ·exact hd j hj
    ·rcases Zv.1 hk with rfl|hk
     ·exact absurd hkl hli
     ·exact⟨k,hk,hkn,hkl⟩
  ·cases h1
def El(listed:Array Bool):Nat->Bool:=λi=>listed.getD i false
def marked_set{listed:Array Bool}{i:Nat}(h:i<listed.size):El (listed.setIfInBounds i true)=ins (El listed) i:=by
 funext j;simp only[El,ins,Qg,Array.getElem?_setIfInBounds];by_cases hj:i=j
 ·subst hj;simp[h]
 ·have:¬j=i:=λe=>hj e.symm
  simp[hj,this]
def FM(listed:Array Bool)(n:Nat):Nat:=((Qt n).filter λi=>!listed.getD i false).length
def filter_less{p q:Nat->Bool}{i:Nat}(hi:p i=true)(hq:∀j,q j=(p j&&j !=i)):∀{l:List Nat},i∈l->(l.filter q).length<(l.filter p).length:=by
 have hle:∀l:List Nat,(l.filter q).length<=(l.filter p).length:=by
  intro l;induction l with
  |nil=>exact Qo _
  |cons x l ih=>
   rw[Q7,Q7,hq x];cases hp:p x
   ·exact ih
   ·by_cases hx:x=i
    ·subst hx;simp only[bne_self_eq_false,Bool.and_false,Qu,if_false,if_true,Qy];omega
    ·have:(x !=i)=true:=by simpa using hx
     simp only[this,Bool.and_true,if_true,Qy];omega
 intro l;induction l with
 |nil=>intro h;cases h
 |cons x l ih=>
  intro hm;rw[Q7,Q7,hq x];by_cases hx:x=i
  ·subst hx;have:=hle l;simp only[hi,bne_self_eq_false,Bool.and_false,Qu,if_false,if_true,Qy];omega
  ·have hx':(x !=i)=true:=by simpa using hx
   have:=ih (by rcases Zv.1 hm with h|h;exact absurd h.symm hx;exact h);cases hp:p x
   ·simpa using this
   ·simp only[hx',Bool.and_true,if_true,Qy];omega
def unlisted_set{listed:Array Bool}{n i:Nat}(hsz:listed.size=n)(hi:i<n)(hl:listed.getD i false=false):FM (listed.setIfInBounds i true) n<FM listed n:=by
 unfold FM;refine filter_less (i:=i) (by rw[hl];rfl) (λj=>?_) (Qk.2 hi);by_cases hj:j=i
 ·subst hj;simp[Qg,hsz,hi]
 ·have hj':¬i=j:=λe=>hj e.symm
  simp[Qg,hj',hj]
def preds(o:Oper):List Nat:=(o.after.toList.filter (Region.binds .any)).map (·.on)
def binds_any{m:Region.Mode}{e:Edge}(h:Region.binds .any e=true):Region.binds m e=true:=by
 unfold Region.binds at h ⊢;split at h<;>simp_all
def EX(befs:List (List Nat))(j k:Nat):Prop:=j∈befs.getD k []
def FF(ps:List (List Nat))(befs:List (List Nat)):Bool:=
 (Qt befs.length).all λk=>(befs.getD k []).all λj=>decide (j<k)&&((ps.getD k []).any λp=>p==j||(decide (p<k)&&(befs.getD p []).contains j))
def befs_lt{ps befs:List (List Nat)}(h:FF ps befs=true){j k:Nat}(hb:EX befs j k):j<k∧∃p∈ps.getD k [],p=j∨(p<k∧EX befs j p):=by
 unfold EX at hb;have hk:k<befs.length:=by
  rcases Zn k befs.length with h1|h1
  ·exact h1
  ·simp[Zc,Qn h1]at hb
 have h1:=Qs.1 h k (Qk.2 hk);have h2:=Qs.1 h1 j hb;simp only[QP,decide_eq_true_eq,List.any_eq_true,QC,beq_iff_eq,Zs]at h2;exact⟨h2.1,h2.2⟩
def befs_closed{ps befs:List (List Nat)}(h:FF ps befs=true){X:Nat->Bool}(hX:∀k,X k=true->∀p∈ps.getD k [],X p=true):∀{k j:Nat},X k=true->EX befs j k->X j=true:=by
 intro k;induction k using Nat.strongRecOn with
 |_ k ih=>
  intro j hk hb;obtain⟨_,p,hp,hc⟩:=befs_lt h hb;rcases hc with rfl|⟨hlt,hb'⟩
  ·exact hX k hk p hp
  ·exact ih p hlt (hX k hk p hp) hb'
def befs_pre{ps befs:List (List Nat)}(h:FF ps befs=true){X:Nat->Bool}(hX:∀k,X k=true->∀p∈ps.getD k [],X p=true){k:Nat}(hk:∀p∈ps.getD k [],X p=true){j:Nat}(hb:EX befs j k):X j=true:=by
 obtain⟨_,p,hp,hc⟩:=befs_lt h hb;rcases hc with rfl|⟨hlt,hb'⟩
 ·exact hk p hp
 ·exact befs_closed h hX (hk p hp) hb'
def go_goes{m:Region.Mode}{ops:Array Oper}{dops:List DOper}{befs:List (List Nat)}(hlen:dops.length=ops.size)(hps:∀(k:Nat) o,ops[k]?=some o->(dops.map (·.after)).getD k []=preds o)
  (hb:FF (dops.map (·.after)) befs=true) {ord:List Nat} (hord:Fm m ops ord=true):
  ∀(fuel t:Nat)(listed:Array Bool)(acc:List Nat),listed.size=ops.size->FM listed ops.size<=fuel->
   (∀k,El listed k=true->∀p∈(dops.map (·.after)).getD k [],El listed p=true)->
   ∃l,Region.linearise.go m ops fuel t listed acc=acc.reverse++l∧Goes dops (EX befs) (El listed) l∧∀i,i<ops.size->l.foldl ins (El listed) i=true
 |0,t,listed,acc,hsz,hu,hcl=>by
  refine⟨[],by simp[Region.linearise.go],trivial,λi hi=>?_⟩;have h0:((Qt ops.size).filter λi=>!listed.getD i false)=[]:=QH (by unfold FM at hu;omega);rw[List.filter_eq_nil_iff]at h0;have:=h0 i (Qk.2 hi);simpa[El]using this
 |fuel+1,t,listed,acc,hsz,hu,hcl=>by
  have hgo:Region.linearise.go m ops (fuel+1) t listed acc=match (Ey m ops listed)[t % (Ey m ops listed).length]? with
   |some i=>Region.linearise.go m ops fuel (t / (Ey m ops listed).length) (listed.setIfInBounds i true) (i::acc)
   |none=>acc.reverse:=rfl
  rw[hgo];split
  ·rename_i i hi;have hmem:i∈Ey m ops listed:=QS hi;simp only[Ey,Zr,Qk,QP]at hmem;obtain⟨hin,hnl,hall⟩:=hmem;have hnl':listed.getD i false=false:=by
    rw[getD_in (by omega) true false]at hnl;simpa using hnl
   have ho:ops[i]?=some ops[i]:=Array.getElem?_eq_getElem hin;rw[ho]at hall;simp only[QB,QD,Array.all_eq_true]at hall;have hpre:∀p∈(dops.map (·.after)).getD i [],El listed p=true:=by
    intro p hp;rw[hps i _ ho]at hp;simp only[preds,Qp,Zr]at hp;obtain⟨e,⟨he,hbe⟩,rfl⟩:=hp;obtain⟨j,hj,rfl⟩:=Array.getElem_of_mem (Array.mem_toList_iff.1 he);have:=hall j hj;simp only[QC]at this;rcases this with h1|h1
    ·rw[binds_any hbe]at h1;cases h1
    ·exact h1
   have hset:=marked_set (listed:=listed) (i:=i) (by omega);obtain⟨l,e1,e2,e3⟩:=go_goes hlen hps hb hord fuel (t / (Ey m ops listed).length) (listed.setIfInBounds i true) (i::acc) (by simpa using hsz)
    (by have:=unlisted_set hsz hin hnl';omega) (λk hk p hp=>by
     rw[hset]at hk ⊢;simp only[ins,QC,beq_iff_eq]at hk ⊢;rcases hk with hk|rfl
     ·exact .inl (hcl k hk p hp)
     ·exact .inl (hpre p hp))
   refine⟨i::l,?_,⟨by omega,hnl',λj hj=>befs_pre hb hcl hpre hj,?_⟩,?_⟩
   ·rw[e1];simp
   ·rw[←hset];exact e2
   ·rw[QZ,←hset];exact e3
  ·rename_i hn;refine⟨[],by simp,trivial,λi hi=>?_⟩;simp only[List.foldl_nil];cases hmi:El listed i with
   |true=>rfl
   |false=>
    exfalso;unfold Fm at hord;rw[QP]at hord;have hio:=Qs.1 hord.1 i (Qk.2 hi);obtain⟨k,hk⟩:=ready_from hsz hord.2 (by simp) ⟨i,by simpa using hio,hi,hmi⟩;have hpos:0<(Ey m ops listed).length:=List.length_pos_of_mem hk;rw[Ze]at hn;have:=Nat.mod_lt t hpos;omega
def ET{m:Region.Mode}{ops:Array Oper}{dops:List DOper}{befs:List (List Nat)}(hlen:dops.length=ops.size)(hps:∀(k:Nat) o,ops[k]?=some o->(dops.map (·.after)).getD k []=preds o)
  (hb:FF (dops.map (·.after)) befs=true) {ord:List Nat} (hord:Fm m ops ord=true) (t:Nat):
  Goes dops (EX befs) (λ_=>false) (Region.linearise m ops t)∧(Region.linearise m ops t).foldl ins (λ_=>false)=below ops.size:=by
 have h0:El (Array.replicate ops.size false)=λ_=>false:=by
  funext i;by_cases hi:i<ops.size<;>simp[El,Qg,hi]
 obtain⟨l,e1,e2,e3⟩:=go_goes hlen hps hb hord ops.size t (Array.replicate ops.size false) [] (by simp) (by
  unfold FM;exact Zb (List.length_filter_le _ _) (by simp)) (by rw[h0];simp)
 rw[h0]at e2 e3;have hl:Region.linearise m ops t=l:=by
  unfold Region.linearise;simpa using e1
 rw[hl];refine⟨e2,?_⟩;funext i;by_cases hi:i<ops.size
 ·rw[e3 i hi];simp[below,hi]
 ·have hgen:∀(l:List Nat)(X:Nat->Bool),Goes dops (EX befs) X l->X i=false->l.foldl ins X i=false:=by
   intro l;induction l with
   |nil=>intro X _ h;exact h
   |cons k l ih=>
    intro X hg hx;obtain⟨g1,g2,g3,g4⟩:=hg;refine ih _ g4 ?_;have:¬i=k:=by omega
    simp[ins,hx,this]
  rw[hgen l _ e2 rfl];simp[below,hi]
end Go.Vd
namespace Go.Vd
open Go.RowKit
def dstOk(N:Nat):Option Nat->Bool
 |some t=>decide (t<N)
 |none=>true
def trOper(P:Program)(N:Nat)(o:Oper):Option DOper:=
 if dstOk N o.dst=true then some ⟨o.dst,(tr P o.op).getD .stop,preds o,o.guard⟩else none
def CN(P:Program)(N:Nat):List Oper->Option (List DOper)
 |[]=>some []
 |o::r=>match trOper P N o,CN P N r with
  |some d,some l=>some (d::l)
  |_,_=>none
def Cg{P:Program}{N:Nat}{o:Oper}{d:DOper}(h:trOper P N o=some d):(tr P o.op).getD .stop=d.op∧d.dst=o.dst∧d.after=preds o∧d.guard=o.guard∧∀t,o.dst=some t->t<N:=by
 unfold trOper at h;split at h
 ·rename_i hc;simp only[Qa]at h;subst h;refine⟨rfl,rfl,rfl,rfl,λt ht=>?_⟩;rw[ht]at hc;simpa[dstOk]using hc
 ·cases h
def tr_runs{P:Program}{S:Summs}{op:Op}{d:DOp}{s:Nat->D}{m:Mem}{fr:Id}{x:D×Upd}(h:(tr P op).getD .stop=d)(he:AB S s m fr d=some x):tr P op=some d:=by
 cases htr:tr P op with
 |none=>rw[htr]at h;simp only[Option.getD_none]at h;subst h;simp[AB]at he
 |some d'=>rw[htr]at h;simp only[QD]at h;rw[h]
def Ck{P:Program}{N:Nat}:∀{l:List Oper} {dl:List DOper},CN P N l=some dl->dl.length=l.length∧∀(i:Nat) o,l[i]?=some o->∃d,dl[i]?=some d∧trOper P N o=some d
 |[],dl,h=>by simp only[CN,Qa]at h;subst h;simp
 |o::r,dl,h=>by
  unfold CN at h;split at h
  ·rename_i d l h1 h2;simp only[Qa]at h;subst h;obtain⟨p,q⟩:=Ck h2;refine⟨by simp[p],λi o' hi=>?_⟩;cases i with
   |zero=>simp only[Qv,Qa]at hi;subst hi;exact⟨d,rfl,h1⟩
   |succ i=>simp only[Q1]at hi ⊢;exact q i o' hi
  ·cases h
def EG(ns:Id)(m:Mem)(g:Gh)(m':Mem)(g':Gh):Prop:=∀i,BR m g i->¬ns<:+i->BR m' g' i
def EG.refl(ns:Id)(m:Mem)(g:Gh):EG ns m g m g:=λ_ h _=>h
def EG.trans{ns:Id}{m m' m'':Mem}{g g' g'':Gh}(h:EG ns m g m' g')(k:EG ns m' g' m'' g''):EG ns m g m'' g'':=λi hf hn=>k i (h i hf hn) hn
structure InX (P:Program) (B:Nat) (w0:World) (N:Nat) (ns:Id) (c:Nat) (X:Nat->Bool) (s:Nat->D) (m:Mem) (a:Act) (w:World) (g:Gh):Prop where
 inv:InvM P B w0 m w g
 slots:Dq w g s a
 size:a.tmps.size=N
 defers:a.defers=[]
 fresh:∀k i,c<=k->X (k-c)=false->(k::ns)<:+i->BR m g i
def Fits:(Nat->Bool)->List Nat->Prop
 |_,[]=>True
 |X,i::l=>X i=false∧Fits (ins X i) l
def suffix_same{k k':Nat}{ns i:Id}(h:(k::ns)<:+i)(h':(k'::ns)<:+i):k=k':=by
 obtain⟨x,hx⟩:=h;obtain⟨y,hy⟩:=h';have hl:x.length=y.length:=by have:=congrArg Zz (hx.trans hy.symm);simpa using this
 have:=List.append_inj (hx.trans hy.symm) hl;simpa using this.2
def Dq.put{w:World}{g:Gh}{s:Nat->D}{a:Act}{dst:Option Nat}{d:D}{v:Value}(h:Dq w g s a)(hr:Rep w g d v)(hlt:∀t,dst=some t->t<a.tmps.size):Dq w g (BS s dst d) (a.put dst v):=by
 intro t;cases dst with
 |none=>exact h t
 |some t'=>
  have ht':=hlt t' rfl;simp only[BS,Act.put];by_cases ht:t=t'
  ·subst ht;rw[if_pos rfl];have:(a.tmps.setIfInBounds t v).getD t undef=v:=by simp[Qg,ht']
   rw[this];exact hr
  ·rw[if_neg ht];have hne:¬t'=t:=λe=>ht e.symm
   have:(a.tmps.setIfInBounds t' v).getD t undef=a.tmps.getD t undef:=by simp[Qg,hne]
   rw[this];exact h t
def put_size(a:Act)(dst:Option Nat)(v:Value):(a.put dst v).tmps.size=a.tmps.size∧(a.put dst v).defers=a.defers:=by
 cases dst<;>simp[Act.put]
section
variable{P:Program}{B:Nat}{w0:World}{N:Nat}{ns:Id}{c:Nat}{S:Summs}{ops:Array Oper}{dops:List DOper}{Q:Exit->Act->World->Prop}
def fresh_sub{k:Nat}{i:Id}(h:¬ns<:+i):¬(k::ns)<:+i:=λh'=>h ((List.suffix_cons k ns).trans h')
def Eu{w:World}{g:Gh}{s:Nat->D}{a:Act}(hops:CN P N ops.toList=some dops)(hs:Dq w g s a){o:Oper}{d:DOper}(hd:d.guard=o.guard){b:Bool}(hg:Bo dops s d=some b):
  Region.wanted o (yielded ops a.tmps)=b:=by
 obtain⟨hl,hall⟩:=Ck hops;unfold Bo at hg;unfold Region.wanted;rw[←hd];cases hgd:d.guard with
 |none=>rw[hgd]at hg;simp only[Qa]at hg;exact hg
 |some p=>
  obtain⟨j,want⟩:=p;rw[hgd]at hg;simp only at hg ⊢;split at hg
  ·rename_i t ht;split at hg
   ·rename_i b' hb';simp only[Qa]at hg;have hr:=hs t;rw[hb']at hr;have hv:=hr.bool_inv;have hoj:∃oj,ops[j]?=some oj∧oj.dst=some t:=by
     cases hdj:dops[j]? with
     |none=>rw[hdj]at ht;cases ht
     |some dj=>
      rw[hdj]at ht;simp only[Option.bind_some]at ht;have hjlt:j<ops.toList.length:=by have:=(Qd.1 hdj).1;omega
      obtain⟨d2,e1,e2⟩:=hall j _ (Qc hjlt);rw[hdj]at e1;simp only[Qa]at e1;subst e1;refine⟨ops.toList[j],by simp at hjlt;simp[hjlt],?_⟩;rw[←(Cg e2).2.1];exact ht
    obtain⟨oj,e1,e2⟩:=hoj;have hin:a.tmps[t]?=some (.bool b'):=by
     rw[Qg]at hv;cases hh:a.tmps[t]? with
     |none=>rw[hh]at hv;simp[undef]at hv
     |some x=>rw[hh]at hv;simp at hv;rw[hv]
    have hy:yielded ops a.tmps j=some b':=by
     simp[yielded,e1,e2,hin]
    rw[hy,←hg];cases b'<;>cases want<;>rfl
   ·rename_i hb';simp only[Qa]at hg;subst hg;have hr:=hs t;rw[hb']at hr;obtain⟨us,hv,hl,_⟩:=hr.tup_inv;have hu:us=[]:=QH (by simpa using hl);subst hu;have hy:yielded ops a.tmps j=none:=by
     unfold yielded;split
     ·rename_i b2 e;exfalso;rw[Zl]at e;obtain⟨t2,e1,e2⟩:=e;rw[Zl]at e1;obtain⟨oj,e3,e4⟩:=e1;have hoj:(dops[j]?).bind (·.dst)=some t2:=by
       obtain⟨d2,q1,q2⟩:=hall j oj (by simpa using e3);rw[q1];simp only[Option.bind_some];rw[(Cg q2).2.1];exact e4
      rw[ht]at hoj;simp only[Qa]at hoj;subst hoj;rw[Qg,e2]at hv;cases hv
     ·rfl
    rw[hy];rfl
   ·cases hg
  ·cases hg
def D9(hS:Summs.ok P S)(hops:CN P N ops.toList=some dops):∀(l:List Nat)(X:Nat->Bool)(s:Nat->D)(m:Mem)(a:Act)(w:World)(g:Gh)(s':Nat->D)(m':Mem),
  Fits X l->CD S ns c dops l s m=some (s',m')->InX P B w0 N ns c X s m a w g->
  (∀a' w' g',InX P B w0 N ns c (l.foldl ins X) s' m' a' w' g'->Ext w g w' g'->EG ns m g m' g'->Q .normal a' w')->wpOps P ops Q l a w
 |[],X,s,m,a,w,g,s',m',_,he,hx,hq=>by
  simp only[CD,Qa,Qe]at he;obtain⟨rfl,rfl⟩:=he;exact hq a w g hx (Ext.refl w g) (EG.refl ns m g)
 |i::l,X,s,m,a,w,g,s',m',hf,he,hx,hq=>by
  obtain⟨hxi,hfl⟩:=hf;obtain⟨hlen,hall⟩:=Ck hops;simp only[wpOps];cases ho:ops[i]? with
  |none=>
   simp only;have hd:dops[i]?=none:=by
    rw[Ze];rw[Array.getElem?_eq_none_iff]at ho;simp at hlen;omega
   simp only[CD,hd]at he;have hx':InX P B w0 N ns c (ins X i) s m a w g:=⟨hx.inv,hx.slots,hx.size,hx.defers,λk i' h1 h2 h3=>hx.fresh k i' h1 (by simp only[ins,QU]at h2;exact h2.1) h3⟩;exact D9 hS hops l (ins X i) s m a w g s' m' hfl he hx' hq
  |some o=>
   simp only;obtain⟨d,hd,htr⟩:=hall i o (by simpa using ho);obtain⟨t1,t2,t3,t4,t5⟩:=Cg htr;simp only[CD,hd]at he;split at he
   ·rename_i e hef;unfold BG at hef;have hfi:∀i',((c+i)::ns)<:+i'->BR m g i':=λi' h=>hx.fresh (c+i) i' (by omega) (by rw[show c+i-c=i by omega];exact hxi) h
    have hdst:∀t,o.dst=some t->t<a.tmps.size:=λt ht=>by rw[hx.size];exact t5 t ht
    split at hef
    ·rename_i hg;rw[Eu hops hx.slots t4 hg];simp only[if_true];split at hef
     ·rename_i dd u hex;simp only[Qa]at hef;subst hef;left;refine op_wp hS ⟨hx.inv,hx.slots,hfi⟩ (tr_runs t1 hex) hex (λv' w' g' hst=>?_);have hps:=put_size a o.dst v';have hx':InX P B w0 N ns c (ins X i) (BS s d.dst dd) (Upd.app m u) (a.put o.dst v') w' g':=by
       refine⟨hst.inv,?_,by rw[hps.1];exact hx.size,by rw[hps.2];exact hx.defers,λk i' h1 h2 h3=>?_⟩
       ·rw[t2];exact(hx.slots.ext hst.ext).put hst.rep hdst
       ·simp only[ins,QU,beq_eq_false_iff_ne]at h2;refine hst.fresh i' (hx.fresh k i' h1 h2.1 h3) (λh4=>?_);have:=suffix_same h3 h4;omega
      exact D9 hS hops l (ins X i) _ _ _ w' g' s' m' hfl he hx' (λa'' w'' g'' h1 h2 h3=>hq a'' w'' g'' h1 (hst.ext.trans h2) (EG.trans (λi' hf hn=>hst.fresh i' hf (fresh_sub hn)) h3))
     ·cases hef
    ·rename_i hg;rw[Eu hops hx.slots t4 hg];simp only[Qu,if_false];simp only[Qa]at hef;subst hef;have hps:=put_size a o.dst undef;have hx':InX P B w0 N ns c (ins X i) (BS s d.dst (.tup [])) m (a.put o.dst undef) w g:=by
      refine⟨hx.inv,?_,by rw[hps.1];exact hx.size,by rw[hps.2];exact hx.defers,λk i' h1 h2 h3=>?_⟩
      ·rw[t2];exact hx.slots.put (.tup [] [] rfl (by simp)) hdst
      ·simp only[ins,QU]at h2;exact hx.fresh k i' h1 h2.1 h3
     exact D9 hS hops l (ins X i) _ _ _ w g s' m' hfl he hx' hq
    ·cases hef
   ·cases he
def fits_goes{bef:Nat->Nat->Prop}:∀{l:List Nat} {X:Nat->Bool},Goes dops bef X l->Fits X l
 |[],_,_=>trivial
 |i::l,X,h=>⟨h.2.1,fits_goes h.2.2.2⟩
def fits_range(n:Nat):∀k,Fits (below k) (Zy k n):=by
 induction n with
 |zero=>intro k;trivial
 |succ n ih=>
  intro k;rw[Zj];exact⟨by simp[below],by rw[ins_below];exact ih (k+1)⟩
def foldl_range(n:Nat):∀k,(Zy k n).foldl ins (below k)=below (k+n):=by
 induction n with
 |zero=>intro k;rfl
 |succ n ih=>
  intro k;rw[Zj,QZ,ins_below,ih (k+1)];congr 1;omega
structure InS (P:Program) (B:Nat) (w0:World) (N:Nat) (ns:Id) (c:Nat) (s:Nat->D) (m:Mem) (a:Act) (w:World) (g:Gh):Prop where
 inv:InvM P B w0 m w g
 slots:Dq w g s a
 size:a.tmps.size=N
 defers:a.defers=[]
 fresh:∀k i,c<=k->(k::ns)<:+i->BR m g i
def InS.start{s:Nat->D}{m:Mem}{a:Act}{w:World}{g:Gh}(h:InS P B w0 N ns c s m a w g)(X:Nat->Bool):InX P B w0 N ns c X s m a w g:=
 ⟨h.inv,h.slots,h.size,h.defers,λk i h1 _ h3=>h.fresh k i h1 h3⟩
def InX.done{s:Nat->D}{m:Mem}{a:Act}{w:World}{g:Gh}{n:Nat}(h:InX P B w0 N ns c (below n) s m a w g):InS P B w0 N ns (c+n) s m a w g:=
 ⟨h.inv,h.slots,h.size,h.defers,λk i h1 h3=>h.fresh k i (by omega) (by simp[below];omega) h3⟩
def region_wp(hS:Summs.ok P S)(hops:CN P N ops.toList=some dops){s:Nat->D}{m:Mem}{a:Act}{w:World}{g:Gh}{s':Nat->D}{m':Mem}{id:Nat}
  (he:CD S ns c dops (Qt dops.length) s m=some (s',m')) (hx:InS P B w0 N ns c s m a w g)
  (hq:∀a' w' g',InS P B w0 N ns (c+dops.length) s' m' a' w' g'->Ext w g w' g'->EG ns m g m' g'->Q .normal a' w'):(Code.region id ops false).wp P Q a w:=by
 have hl:dops.length=ops.size:=by simpa using (Ck hops).1
 refine wp_region ?_;rw[←hl];have h0:below 0=λ_=>false:=by funext j;simp[below]
 refine D9 hS hops (Qt dops.length) (below 0) s m a w g s' m' ?_ he (hx.start _) (λa' w' g' h1 h2 h3=>?_)
 ·rw[Q9];exact fits_range _ 0
 ·rw[Q9,foldl_range]at h1;rw[QM]at h1;exact hq a' w' g' h1.done h2 h3
end
abbrev Foot:=List Loc×List Loc
def Cc(S:Summs)(ns:Id)(c:Nat)(ops:List DOper):List DOper->Nat->(Nat->D)->Mem->Option ((Nat->D)×Mem×List Foot)
 |[],_,s,m=>some (s,m,[])
 |o::l,k,s,m=>match BG S ops ((c+k)::ns) o s m with
  |some e=>match Cc S ns c ops l (k+1) (BS s o.dst e.d) (Upd.app m e.u)with
   |some (s',m',f)=>some (s',m',(rds S s m o.op,AL e.u)::f)
   |none=>none
  |none=>none
def DOp.mayW:DOp->Bool
 | .alloc _| .box _| .bslice .. | .mksl .. | .store .. | .app .. | .call .. | .range _| .next _=>true
 |_=>false
def DOp.ownW:DOp->Bool
 | .alloc _| .box _| .bslice .. | .mksl ..=>true
 |_=>false
def DOp.mayR:DOp->Bool
 | .load .. | .store .. | .app .. | .call .. | .next _=>true
 |_=>false
def clash(a b:DOp):Bool:=a.mayW&&(b.mayR||b.mayW)&&!(a.ownW&&b.ownW)
def befB(befs:List (List Nat))(j k:Nat):Bool:=(befs.getD k []).contains j
def pairsOf(ops:List DOper)(befs:List (List Nat)):List (Nat×Nat):=
 (Qt ops.length).flatMap λj=>(Qt ops.length).filterMap λk=>
  match ops[j]?,ops[k]? with
  |some a,some b=>if(j !=k)&&!befB befs j k&&!befB befs k j&&clash a.op b.op then some (j,k)else none
  |_,_=>none
def slotsOk(ops:List DOper)(befs:List (List Nat)):Bool:=
 (Qt ops.length).all λj=>(Qt ops.length).all λk=>
  match ops[j]?,ops[k]? with
  |some a,some b=>match a.dst with
   |some t=>(j==k)||befB befs j k||befB befs k j||!(b.op.uses.contains t||FZ ops b==some t||b.dst==some t)
   |none=>true
  |_,_=>true
def feetOk(f:List Foot)(ps:List (Nat×Nat)):Prop:=∀p∈ps,∀l∈(f.getD p.1 ([],[])).2,l∉(f.getD p.2 ([],[])).1∧l∉(f.getD p.2 ([],[])).2
section
variable{S:Summs}{ns:Id}{c:Nat}{ops:List DOper}
def Dr(S:Summs)(ns:Id)(c:Nat)(ops:List DOper)(s0:Nat->D)(m0:Mem):Nat->(Nat->D)×Mem
 |0=>(s0,m0)
 |k+1=>match ops[k]? with
  |some o=>
   let e:=(BG S ops ((c+k)::ns) o (Dr S ns c ops s0 m0 k).1 (Dr S ns c ops s0 m0 k).2).getD ⟨.junk,[]⟩
   (BS (Dr S ns c ops s0 m0 k).1 o.dst e.d,Upd.app (Dr S ns c ops s0 m0 k).2 e.u)
  |none=>Dr S ns c ops s0 m0 k
def effR(S:Summs)(ns:Id)(c:Nat)(ops:List DOper)(s0:Nat->D)(m0:Mem)(k:Nat):Eff:=
 match ops[k]? with
 |some o=>(BG S ops ((c+k)::ns) o (Dr S ns c ops s0 m0 k).1 (Dr S ns c ops s0 m0 k).2).getD ⟨.junk,[]⟩
 |none=>⟨.junk,[]⟩
variable{s0:Nat->D}{m0:Mem}
def Gn:∀k,k<=ops.length->(Dr S ns c ops s0 m0 k).1=stS ops (effR S ns c ops s0 m0) s0 (below k) ops.length∧(Dr S ns c ops s0 m0 k).2=stM (effR S ns c ops s0 m0) m0 (below k) ops.length
 |0,_=>by
  have h0:below 0=λ_=>false:=by funext j;simp[below]
  constructor
  ·funext t;simp only[Dr,stS,h0];have:∀n,lastS ops (effR S ns c ops s0 m0) (λ_=>false) t n=none:=by
    intro n;induction n with
    |zero=>rfl
    |succ n ih=>simp[lastS,ih]
   rw[this];rfl
  ·funext i o;simp only[Dr,stM,h0];have:∀n,lastM (effR S ns c ops s0 m0) (λ_=>false) i o n=none:=by
    intro n;induction n with
    |zero=>rfl
    |succ n ih=>simp[lastM,ih]
   rw[this]
 |k+1,hk=>by
  obtain⟨h1,h2⟩:=Gn k (by omega);have ho:ops[k]?=some ops[k]:=Qc (by omega);have hE:effR S ns c ops s0 m0 k=(BG S ops ((c+k)::ns) ops[k] (Dr S ns c ops s0 m0 k).1 (Dr S ns c ops s0 m0 k).2).getD ⟨.junk,[]⟩:=by
   simp only[effR,ho]
  have hb:below k k=false:=by simp[below]
  have e1:=stS_ins (ops:=ops) (E:=effR S ns c ops s0 m0) (s0:=s0) hb (n:=ops.length) (by omega) (λt _ j h1 _ h3=>by simp[below]at h3;omega);have e2:=stM_ins (E:=effR S ns c ops s0 m0) (m0:=m0) hb (n:=ops.length) (by omega) (λi o _ j h1 _ h3=>by simp[below]at h3;omega);rw[ins_below]at e1 e2;have hd:DF ops k=(ops[k]).dst:=by simp[DF,ho]
  rw[hd]at e1;simp only[Dr,ho];rw[←hE,h1,h2,←e1,←e2];exact⟨rfl,rfl⟩
def evText_some:∀{l:List DOper} {k:Nat} {s':Nat->D} {m':Mem} {f:List Foot},l=ops.drop k->Cc S ns c ops l k (Dr S ns c ops s0 m0 k).1 (Dr S ns c ops s0 m0 k).2=some (s',m',f)->
  (s',m')=Dr S ns c ops s0 m0 (k+l.length)∧∀j o,ops[k+j]?=some o->
   BG S ops ((c+(k+j))::ns) o (Dr S ns c ops s0 m0 (k+j)).1 (Dr S ns c ops s0 m0 (k+j)).2=some (effR S ns c ops s0 m0 (k+j))∧
   f[j]?=some (rds S (Dr S ns c ops s0 m0 (k+j)).1 (Dr S ns c ops s0 m0 (k+j)).2 o.op,AL (effR S ns c ops s0 m0 (k+j)).u)
 |[],k,s',m',f,hl,h=>by
  simp only[Cc,Qa,Qe]at h;obtain⟨rfl,rfl,rfl⟩:=h;refine⟨rfl,λj o ho=>?_⟩;have:ops.length<=k:=by
   have:=congrArg Zz hl;simp at this;omega
  rw[Qn (by omega)]at ho;cases ho
 |o::l,k,s',m',f,hl,h=>by
  have hok:ops[k]?=some o:=by
   have:(ops.drop k)[0]?=some o:=by rw[←hl];rfl
   rw[Qq]at this;simpa using this
  have hl':l=ops.drop (k+1):=by
   have:(ops.drop k).drop 1=ops.drop (k+1):=by rw[List.drop_drop]
   rw[←this,←hl];rfl
  unfold Cc at h;split at h
  ·rename_i e he;have hE:effR S ns c ops s0 m0 k=e:=by simp only[effR,hok,he,QD]
   have hR:Dr S ns c ops s0 m0 (k+1)=(BS (Dr S ns c ops s0 m0 k).1 o.dst e.d,Upd.app (Dr S ns c ops s0 m0 k).2 e.u):=by
    simp only[Dr,hok,he,QD]
   split at h
   ·rename_i s1 m1 f1 h1;simp only[Qa,Qe]at h;obtain⟨rfl,rfl,rfl⟩:=h;obtain⟨p,q⟩:=evText_some (k:=k+1) hl' (by rw[hR];exact h1);refine⟨by rw[p];congr 1;simp;omega,λj o' ho'=>?_⟩;cases j with
    |zero=>
     simp only[Zm]at ho' ⊢;rw[hok]at ho';simp only[Qa]at ho';subst ho';refine⟨by rw[he,hE],?_⟩;rw[hE];rfl
    |succ j=>
     have:=q j o' (by rw[show k+1+j=k+(j+1)by omega];exact ho');rw[show k+1+j=k+(j+1)by omega]at this;exact⟨this.1,by simpa using this.2⟩
   ·cases h
  ·cases h
def exec_writes{P:Program}(hS:Summs.ok P S){op:DOp}{s:Nat->D}{m:Mem}{fr:Id}{d:D}{u:Upd}(h:AB S s m fr op=some (d,u)):
  (op.mayW=false->u=[])∧(op.ownW=true->∀i o,ER u i o≠none->i=fr):=by
 have own1:∀ds,∀i o,ER [(fr,0,ds)] i o≠none->i=fr:=by
  intro ds i o hl;simp only[ER]at hl;split at hl
  ·rename_i hc;exact hc.1
  ·exact absurd rfl hl
 cases op<;>(constructor<;>intro hk<;>first|(simp[DOp.mayW]at hk;done)|(simp[DOp.ownW]at hk;done)|skip)
 all_goals simp only[AB]at h
 case alloc zs=>simp only[Qa,Qe]at h;obtain⟨rfl,rfl⟩:=h;exact own1 _
 case box x=>split at h;(simp only[Qa,Qe]at h;obtain⟨rfl,rfl⟩:=h;exact own1 _);cases h
 case bslice=>split at h;(simp only[Qa,Qe]at h;obtain⟨rfl,rfl⟩:=h;exact own1 _);cases h
 case mksl=>
  split at h
  ·split at h
   ·split at h
    ·split at h
     ·simp only[Qa,Qe]at h;obtain⟨rfl,rfl⟩:=h;exact own1 _
     ·cases h
    ·simp only[Qa,Qe]at h;obtain⟨rfl,rfl⟩:=h;exact own1 _
   ·cases h
  ·cases h
 all_goals
  repeat' (split at h)
 all_goals first
  |(simp at h;done)
  |(simp only[Qa,Qe]at h;exact h.2.symm)
  |(rw[Qb]at h;obtain⟨_,_,h⟩:=h;simp only[Qe]at h;exact h.2.symm)
def rds_none{op:DOp}{s:Nat->D}{m:Mem}(h:op.mayR=false):rds S s m op=[]:=by
 cases op<;>first|rfl|(simp[DOp.mayR]at h)
def ownW_mayR{op:DOp}(h:op.ownW=true):op.mayR=false:=by
 cases op<;>first|rfl|(simp[DOp.ownW]at h)
def befB_iff{befs:List (List Nat)}{j k:Nat}:befB befs j k=true↔EX befs j k:=by
 simp[befB,EX]
def indep_of{P:Program}(hS:Summs.ok P S){befs:List (List Nat)}(hb:FF (ops.map (·.after)) befs=true)(hs:slotsOk ops befs=true){s':Nat->D}{m':Mem}{f:List Foot}
  (he:Cc S ns c ops ops 0 s0 m0=some (s',m',f)) (hf:feetOk f (pairsOf ops befs)):
  Indep ops (effR S ns c ops s0 m0) (λk=>(f.getD k ([],[])).1) (EX befs):=by
 obtain⟨_,hall⟩:=evText_some (k:=0) (ops:=ops) rfl he;simp only[QM]at hall;refine⟨λj k h=>(befs_lt hb h).1,λj k t oj ok hjk hj hk hd ht=>?_,λj k i o hjk hj hk hl ht=>?_⟩
 ·have hjn:j<ops.length:=(Qd.1 hj).1;have hkn:k<ops.length:=(Qd.1 hk).1;have h1:=Qs.1 hs j (Qk.2 hjn);have h2:=Qs.1 h1 k (Qk.2 hkn);simp only[hj,hk,hd]at h2;simp only[QC,beq_iff_eq,Bool.not_eq_true',QU]at h2;rcases h2 with ((h2|h2)|h2)|h2
  ·exact absurd h2 hjk
  ·exact .inl (befB_iff.1 h2)
  ·exact .inr (befB_iff.1 h2)
  ·exfalso;rcases ht with ht|ht|ht
   ·have:=h2.1.1;simp at this;exact this ht
   ·have:=h2.1.2;rw[ht]at this;simp at this
   ·have:=h2.2;rw[ht]at this;simp at this
 ·by_cases hc:EX befs j k∨EX befs k j
  ·exact hc
  exfalso;have hoj:ops[j]?=some ops[j]:=Qc hj;have hok:ops[k]?=some ops[k]:=Qc hk;obtain⟨ej,fj⟩:=hall j _ hoj;obtain⟨ek,fk⟩:=hall k _ hok;have fj':f.getD j ([],[])=(rds S (Dr S ns c ops s0 m0 j).1 (Dr S ns c ops s0 m0 j).2 ops[j].op,AL (effR S ns c ops s0 m0 j).u):=by simp[Zc,fj]
  have fk':f.getD k ([],[])=(rds S (Dr S ns c ops s0 m0 k).1 (Dr S ns c ops s0 m0 k).2 ops[k].op,AL (effR S ns c ops s0 m0 k).u):=by simp[Zc,fk]
  have wr:∀{k o e s m},BG S ops ((c+k)::ns) o s m=some e->(o.op.mayW=false->e.u=[])∧(o.op.ownW=true->∀i o',ER e.u i o'≠none->i=(c+k)::ns):=by
   intro k o e s m h;unfold BG at h;split at h
   ·split at h
    ·rename_i dd uu hex;simp only[Qa]at h;subst h;exact exec_writes hS hex
    ·cases h
   ·simp only[Qa]at h;subst h;exact⟨λ_=>rfl,λ_ i o' hl=>absurd rfl hl⟩
   ·cases h
  by_cases hcl:clash (ops[j]).op (ops[k]).op=true
  ·have hmem:(j,k)∈pairsOf ops befs:=by
    unfold pairsOf;rw[Q6];refine⟨j,Qk.2 hj,?_⟩;rw[List.mem_filterMap];refine⟨k,Qk.2 hk,?_⟩;simp only[hoj,hok];have n1:befB befs j k=false:=by
     cases h:befB befs j k with
     |false=>rfl
     |true=>exact absurd (.inl (befB_iff.1 h)) hc
    have n2:befB befs k j=false:=by
     cases h:befB befs k j with
     |false=>rfl
     |true=>exact absurd (.inr (befB_iff.1 h)) hc
    have n3:(j !=k)=true:=by simpa using hjk
    rw[n1,n2,n3,hcl];rfl
   have hff:=hf (j,k) hmem (i,o) (by simp only;rw[fj'];exact look_mem hl);rcases ht with ht|ht
   ·exact hff.1 ht
   ·refine hff.2 ?_;simp only;rw[fk'];exact look_mem ht
  ·obtain⟨w1,w2⟩:=wr ej;obtain⟨w3,w4⟩:=wr ek;have hmw:(ops[j]).op.mayW=true:=by
    cases h:(ops[j]).op.mayW with
    |true=>rfl
    |false=>rw[w1 h]at hl;exact absurd rfl hl
   by_cases hrk:(ops[k]).op.mayR=true∨(ops[k]).op.mayW=true
   ·have hown:(ops[j]).op.ownW=true∧(ops[k]).op.ownW=true:=by
     unfold clash at hcl;rw[hmw]at hcl;have:((ops[k]).op.mayR||(ops[k]).op.mayW)=true:=by rcases hrk with h|h<;>simp[h]
     rw[this]at hcl;simpa using hcl
    have hi:=w2 hown.1 i o hl;rcases ht with ht|ht
    ·have:(ops[k]).op.mayR=false:=ownW_mayR hown.2;rw[fk',rds_none this]at ht;cases ht
    ·have hi':=w4 hown.2 i o ht;rw[hi]at hi';simp only[ZA,and_true]at hi';omega
   ·have h1:(ops[k]).op.mayR=false:=by simpa using (λh=>hrk (.inl h))
    have h2:(ops[k]).op.mayW=false:=by simpa using (λh=>hrk (.inr h))
    rcases ht with ht|ht
    ·rw[fk',rds_none h1]at ht;cases ht
    ·rw[w3 h2]at ht;exact absurd rfl ht
def text_sched{P:Program}(hS:Summs.ok P S){befs:List (List Nat)}(hb:FF (ops.map (·.after)) befs=true)(hs:slotsOk ops befs=true){s':Nat->D}{m':Mem}{f:List Foot}
  (he:Cc S ns c ops ops 0 s0 m0=some (s',m',f)) (hf:feetOk f (pairsOf ops befs)) {l:List Nat} (hg:Goes ops (EX befs) (λ_=>false) l) (hl:l.foldl ins (λ_=>false)=below ops.length):
  CD S ns c ops l s0 m0=some (s',m'):=by
 obtain⟨hend,hall⟩:=evText_some (k:=0) (ops:=ops) rfl he;simp only[QM,List.drop_zero]at hall hend;have hI:=indep_of hS hb hs he hf;have h00:=Gn (S:=S) (ns:=ns) (c:=c) (ops:=ops) (s0:=s0) (m0:=m0) 0 (Zf _);have hb0:below 0=λ_=>false:=by funext j;simp[below]
 rw[hb0]at h00;simp only[Dr]at h00;have hn:=Gn (S:=S) (ns:=ns) (c:=c) (ops:=ops) (s0:=s0) (m0:=m0) ops.length (Qo _);have main:=sched_goes (c:=c) (ns:=ns) (s0:=s0) (m0:=m0) hS hI (λk o ho=>by
  have hk:k<ops.length:=(Qd.1 ho).1;have:=(hall k o ho).2;rw[(Gn k (by omega)).1,(Gn k (by omega)).2]at this;simp[Zc,this]) (λk o ho=>by
  have hk:k<ops.length:=(Qd.1 ho).1;have:=(hall k o ho).1;rw[(Gn k (by omega)).1,(Gn k (by omega)).2]at this;exact this) l (λ_=>false) (λj k h _=>by cases h) hg
 rw[←h00.1,←h00.2,hl,←hn.1,←hn.2]at main;rw[main,←hend]
end
end Go.Vd
