/- A part of the proof; nothing in it is assumed. -/
import Derived.Below
import Derived.Maps.AppendAt
import Derived.Laws.Concat
import Derived.Laws.Unary
import Derived.Laws.StructEq
import Derived.Laws.Runes
import Derived.Laws.AppendOwnNone
import Derived.Lib.ConvBytes
import Derived.Lib.AppendStr
import Derived.Laws.IdiomStrings

set_option linter.unusedSimpArgs false
set_option linter.unusedVariables false
set_option linter.defProp false
set_option maxHeartbeats 4000000
set_option maxRecDepth 100000
open Option.some renaming injEq→Qa,inj→QJ
open Option renaming map_eq_some_iff→Qb,getD_some→QE,map_some→QY,isSome_iff_exists→Zf,bind_eq_some_iff→Zi,bind_some→ZE,map_none→ZG
open List renaming getElem?_eq_getElem→Qc,getElem?_eq_some_iff→Qe,mem_append→Qg,getElem?_map→Qi,getElem?_eq_none→Qj,mem_range→Ql,getElem?_append_left→Qm,mem_cons_self→Qn,length_cons→Qo,getElem?_take_of_lt→Qp,mem_cons_of_mem→Qq,mem_of_getElem?→Qr,map_cons→Qs,range→Qt,mem_map→Qv,getElem?_drop→Qw,mem_of_mem_drop→Qx,all_eq_true→Qy,replicate→Qz,mem_of_mem_take→QB,getElem?_cons_zero→QD,getElem?_append_right→QF,getElem?_toArray→QI,append_assoc→QK,eq_nil_of_length_eq_zero→QM,range_eq_range'→QR,length_take→QT,extract_eq_take_drop→QV,map_congr_left→QX,length_map→QZ,mem_singleton→Q_,getD→Q0,getElem_mem→Q1,cons_append→Q2,range'_succ→Q3,mem_flatMap→Q5,filter_cons→Q6,extract_toArray→Q7,foldl_cons→Q8,getElem_of_mem→Za,flatMap_cons→Zd,getElem?_cons_succ→Zg,map_nil→Zk,nil_append→Zl,mem_filter→Zm,contains_iff_mem→Zn,drop_drop→Zo,range'→Zp,getElem?_range→Zq,length_take_le→Zr,getElem?_take→Zt,length_append→Zu,size_toArray→Zy,ext_getElem?→Zz,map_toArray→ZB,suffix_cons→ZD,length→ZL,foldlM→ZN
open Prod.mk renaming injEq→Qd
open Array renaming getElem?_eq_some_iff→Qf,getD_eq_getD_getElem?→Qh,toArray_toList→QC,getElem?_append_left→QH,toList_map→QL,length_toList→QW,toList_inj→Q4,replicate→Q9,mapM_eq_mapM_toList→Zc,size_append→Zx,all_eq_true→ZA,range→ZM
open Nat renaming le_refl→Qk,zero_add→Qu,mul_le_mul_right→QA,lt_of_lt_of_le→QN,le_trans→QO,add_mul→QQ,add_right_cancel_iff→Ze,add_zero→Zj,lt_or_ge→Zv,succ_mul→Zw,le_add_right→ZC,zero_le→ZF,strongRecOn→ZI,mod_lt→ZJ,mul_comm→ZK
open Bool renaming false_eq_true→QG,or_eq_true→QP,or_eq_false_iff→QS,and_eq_true→QU,not_false→Zb,not_true→Zs
open Int renaming eq_ofNat_of_zero_le→Zh
open List.cons renaming injEq→ZH
open And renaming intro→ZO
noncomputable section
namespace Go
def O{P:Prop}(h:P:=by omega):P:=h
def U{P:Prop}(h:P:=by simp):P:=h
def V{P:Prop}(h:P:=by decide):P:=h
def Z{P:Prop}(h:P:=by kernel_rfl):P:=h
def Xa{P:Prop}(h:P:=by first|omega|(simp only;omega)):P:=h
def Xb{P:Prop}(h:P:=by simp;omega):P:=h
def Xc{P:Prop}(h:P:=by cases h):P:=h
def Xd{P:Prop}(h:P:=by simp at h):P:=h
def Xe{P:Prop}(h:P:=by first|(simp;done)|(simp;omega)):P:=h
def Xf{P:Prop}(h:P:=by simp only[Tr.wgt];omega):P:=h
def Xg{P:Prop}(h:P:=by simp only[Tr.cnt];omega):P:=h
def Xh{P:Prop}(h:P:=by rw[GS (by omega) (by omega)];omega):P:=h
def Xi{P:Prop}(h:P:=by cases t<;>rfl):P:=h
def Xj{P:Prop}(h:P:=by simpa using hl):P:=h
def Xk{P:Prop}(h:P:=by simp[Gh.tok]):P:=h
def Xl{P:Prop}(h:P:=by decide+kernel):P:=h
def Xm{P:Prop}(h:P:=by simp[AM]):P:=h
def Xn{P:Prop}(h:P:=by simpa using h):P:=h
def Xo{P:Prop}(h:P:=by simp[AH,Ay,GK,Ai,Ac,Gz.ev,BG,h5,w,q,ea]):P:=h
def Xp{P:Prop}(h:P:=by rw[ja];exact hr):P:=h
def Xq{P:Prop}(h:P:=by intro e h;cases h):P:=h
def Xr{P:Prop}(h:P:=by cases y):P:=h
def Xs{P:Prop}(h:P:=by unfold maxLen;omega):P:=h
def Xt{P:Prop}(h:P:=by simp[Op.equalIn,run_underlying m]):P:=h
def Xu{P:Prop}(h:P:=by simpa using q):P:=h
def Xv{P:Prop}(h:P:=by simp only[g];omega):P:=h
def Xw{P:Prop}(h:P:=by cases e):P:=h
def Xx{P:Prop}(h:P:=by rw[List.length_cons,show k+(l.length+1)=k+1+l.length by omega];exact z):P:=h
def Xy{P:Prop}(h:P:=by first|rfl|simp):P:=h
def Xz{P:Prop}(h:P:=by simpa using r):P:=h
def XA{P:Prop}(h:P:=by simp[sc0]):P:=h
def XB{P:Prop}(h:P:=by simp[Gh.base]at h):P:=h
def XC{P:Prop}(h:P:=by simp only[Option.some.injEq]at h;subst h;exact⟨rfl,by simp⟩):P:=h
def XD{P:Prop}(h:P:=by rw[←hA,e1];simp):P:=h
def XE{P:Prop}(h:P:=by rw[List.length_take];omega):P:=h
def XF{P:Prop}(h:P:=by rw[AN];omega):P:=h
def XG{P:Prop}(h:P:=by cases q):P:=h
def XH{P:Prop}(h:P:=by cases l<;>rfl):P:=h
def XI{P:Prop}(h:P:=by cases h;rfl):P:=h
def XJ{P:Prop}(h:P:=by simpa using t):P:=h
def XK{P:Prop}(h:P:=by simpa using d):P:=h
def XL{P:Prop}(h:P:=by simpa using a):P:=h
def XN{P:Prop}(h:P:=by simp[flat]):P:=h
def XO{P:Prop}(h:P:=by simp[Lib.join]):P:=h
def XP{P:Prop}(h:P:=by simp[Gu.put]):P:=h
def XQ{P:Prop}(h:P:=by rw[List.length_drop];omega):P:=h
def XS{P:Prop}(h:P:=by rw[By,AV];exact⟨rfl,hl⟩):P:=h
def XT{P:Prop}(h:P:=by have:=h.1;have:=h.2;omega):P:=h
def XU{P:Prop}(h:P:=by simpa using b):P:=h
def XV{P:Prop}(h:P:=by simp[ByteArray.size]):P:=h
def XX{P:Prop}(h:P:=by simp only[E_];decide):P:=h
def XY{P:Prop}(h:P:=by simp only[Az,Aw];rw[Co]):P:=h
def XZ{P:Prop}(h:P:=by show _=_;rw[←HI.out,d.out]):P:=h
def X0{P:Prop}(h:P:=by rw[←hB,e2]):P:=h
def X1{P:Prop}(h:P:=by rw[x.int_inv]):P:=h
def X2{P:Prop}(h:P:=by rw[show l.length=j by omega];exact I):P:=h
def X3{P:Prop}(h:P:=by rw[List.all_eq_true];intro x q;obtain⟨y,_,rfl⟩:=List.mem_map.1 q;rfl):P:=h
def X4{P:Prop}(h:P:=by rw[IntWalk.i64_in _ ⟨by omega,by omega⟩];omega):P:=h
def X5{P:Prop}(h:P:=by first|exact hG.more (by simp only;omega)|exact hG.put.more (by simp only;omega)|exact hG.put.put.more (by simp only;omega)|exact hG.put.put.put.more (by simp only;omega)|exact hG.put.put.put.put.more (by simp only;omega)|exact hG.put.put.put.put.put.more (by simp only;omega)):P:=h
def X6{P:Prop}(h:P:=by cases y<;>rfl):P:=h
def X7{P:Prop}(h:P:=by subst u z;exact h):P:=h
def X8{P:Prop}(h:P:=by simp[execOp,hop,e1]):P:=h
def X9{P:Prop}(h:P:=by simp[World.cell?,F0]):P:=h
def X_{P:Prop}(h:P:=by simp[Builtin.lenOf]):P:=h
def Ya{P:Prop}(h:P:=by simp only[];rw[DO,if_pos ⟨rfl,rfl⟩]):P:=h
def Yb{P:Prop}(h:P:=by simp at hx;subst hx;rfl):P:=h
def Yc{P:Prop}(h:P:=by show o.ops.length<=_;rw[q.ops];simp):P:=h
def Yd{P:Prop}(h:P:=by show _=_;rw[←HI.out,d.out];simp):P:=h
def Ye{P:Prop}(h:P:=by rw[w8 (by omega) (by omega)];omega):P:=h
def Yf{P:Prop}(h:P:=by rw[ja];exact h.size):P:=h
def Yg{P:Prop}(h:P:=by rw[ja];exact h.below.size):P:=h
def Yh{P:Prop}(h:P:=by rw[e];exact List.suffix_refl _):P:=h
def Yi{P:Prop}(h:P:=by rw[e];exact List.suffix_cons _ _):P:=h
def Yj{P:Prop}(h:P:=by rw[IntWalk.i64_in _ ⟨by omega,by omega⟩];simp):P:=h
def Yk{P:Prop}(h:P:=by rw[Bool.eq_iff_iff];simp;omega):P:=h
def Yl{P:Prop}(h:P:=by rw[Bk,if_pos ⟨rfl,rfl⟩]):P:=h
def Ym{P:Prop}(h:P:=by have:=x.ok.pa;omega):P:=h
def Yn{P:Prop}(h:P:=by have:=ha.ok.tk;omega):P:=h
def Yo{P:Prop}(h:P:=by have:=ha.ok.rl;omega):P:=h
def Yp{P:Prop}(h:P:=by have:=h.size;simp;omega):P:=h
def Yq{P:Prop}(h:P:=by funext j;simp[below]):P:=h
def Yr{P:Prop}(h:P:=by first|exact hG.grow|exact hG.put.grow|exact hG.put.put.grow|exact hG.put.put.put.grow|exact hG.put.put.put.put.grow|exact hG.put.put.put.put.put.grow):P:=h
def Ys{P:Prop}(h:P:=by unfold N2;rw[List.length_append,List.length_take,List.length_drop];omega):P:=h
def Yt{P:Prop}(h:P:=by simpa using (List.mem_filter.1 q).2):P:=h
def Yu{P:Prop}(h:P:=by simp[List.map_map,Function.comp_def]):P:=h
def Yv{P:Prop}(h:P:=by simp[IntKind.wrap,IntKind.bits,IntKind.signed]):P:=h
def Yw{P:Prop}(h:P:=by simp only[↓C2,reduceIte,Nat.reduceEqDiff,v]):P:=h
def Yx{P:Prop}(h:P:=by simp only[iP,D.dep.D.depL,D.dep,IC];omega):P:=h
def Yy{P:Prop}(h:P:=by simp only[List.length_singleton];omega):P:=h
def Yz{P:Prop}(h:P:=by simp only[List.length_cons]at h;omega):P:=h
def YA{P:Prop}(h:P:=by simp only[List.length_cons,List.length_nil];omega):P:=h
def YB{P:Prop}(h:P:=by simp only[List.length_append,List.length_cons,List.length_nil];omega):P:=h
def YC{P:Prop}(h:P:=by simp only[List.length_append,BL,O6];omega):P:=h
def YD{P:Prop}(h:P:=by show(0:Int)<=((N4 (BD x 58).2.1).1:Int);omega):P:=h
def YE{P:Prop}(h:P:=by rw[List.length_take,List.length_drop];omega):P:=h
def YF{P:Prop}(h:P:=by rw[List.eq_of_mem_replicate hd];exact ca):P:=h
def YG{P:Prop}(h:P:=by rw[Int.tmod_eq_emod_of_nonneg (by omega)];omega):P:=h
def YH{P:Prop}(h:P:=by rw[C6,Ff];have:=h7 (by omega);omega):P:=h
def YI{P:Prop}(h:P:=by rw[C6,Ff];have:=e (by omega);omega):P:=h
def YJ{P:Prop}(h:P:=by rw[Ar,List.map_map];exact List.map_congr_left λ_ _=>rfl):P:=h
def YK{P:Prop}(h:P:=by rintro rfl;rw[hf.1 0]at hm;cases hm):P:=h
def YL{P:Prop}(h:P:=by obtain⟨z,_,rfl⟩:=List.mem_map.1 q;rfl):P:=h
def YM{P:Prop}(h:P:=by have:=congrArg List.length e;rw[DY]at this;simp at this;omega):P:=h
def YN{P:Prop}(h:P:=by have:=(six[k]?.getD 0).toNat_lt;omega):P:=h
def YO{P:Prop}(h:P:=by first|exact(hG.put.put.row (by omega) ht).grow|exact((hG.put.put.row (by omega) ht).put).grow):P:=h
def YP{P:Prop}(h:P:=by first|exact(hG.put.put.row (by omega) ht).app (by omega) (by simp only;omega)|exact((hG.put.put.row (by omega) ht).put).app (by omega) (by simp only;omega)):P:=h
def YQ{P:Prop}(h:P:=by first|exact hG.grow|exact(hG.put (by omega)).grow|exact((hG.put (by omega)).put (by omega)).grow|exact(((hG.put (by omega)).put (by omega)).put (by omega)).grow|exact((((hG.put (by omega)).put (by omega)).put (by omega)).put (by omega)).grow|exact(((((hG.put (by omega)).put (by omega)).put (by omega)).put (by omega)).put (by omega)).grow):P:=h
def YR{P:Prop}(h:P:=by first|exact hG.app (by omega) (by simp only;omega)|exact hG.put.app (by omega) (by simp only;omega)|exact hG.put.put.app (by omega) (by simp only;omega)|exact hG.put.put.put.app (by omega) (by simp only;omega)|exact hG.put.put.put.put.app (by omega) (by simp only;omega)|exact hG.put.put.put.put.put.app (by omega) (by simp only;omega)):P:=h
def YS{P:Prop}(h:P:=by cases y<;>exact⟨_,_,_,_,_,_,_,_,_,_,rfl⟩):P:=h
def YT{P:Prop}(h:P:=by first|rfl|exact⟨rfl,rfl⟩|simp[*]):P:=h
def YU{P:Prop}(h:P:=by first|rfl|exact⟨rfl,rfl⟩):P:=h
def YV{P:Prop}(h:P:=by first|exact(Ft.set ((hR.other (by first|(simp;done)|(simp;omega))).other (by first|(simp;done)|(simp;omega)))).grow (by first|(simp;done)|(simp;omega)) (λh e=>ht h e.symm)|exact((Ft.set ((hR.other (by first|(simp;done)|(simp;omega))).other (by first|(simp;done)|(simp;omega)))).other (by first|(simp;done)|(simp;omega))).grow (by first|(simp;done)|(simp;omega)) (λh e=>ht h e.symm)):P:=h
def YW{P:Prop}(h:P:=by first|(simp at h;done)|(rw[Option.map_eq_some_iff]at h;obtain⟨_,_,h⟩:=h;cases h)):P:=h
def YX{P:Prop}(h:P:=by exact⟨rfl,rfl⟩):P:=h
def YY{P:Prop}(h:P:=by exact⟨rfl,rfl⟩):P:=h
end Go
namespace Go.Vd
open Go.RowKit
abbrev Id:=List Nat
inductive D where
 |junk
 |bool (b:Bool)
 |int (k:IntKind) (n:Int)
 |str (s:List UInt8)
 |slice (nl:Bool) (t:Id) (xs:List D)
 |ptr (i:Id) (o:Nat)
 |eptr (ds:List D)
 |row (i:Id) (n:Nat)
 |nilptr
 |agg (cs:List D)
 |tup (vs:List D)
 |iface (t:TypeId) (d:D)
 |nilIface
 |fn (f:FuncId) (caps:List D)
 |nilFunc
 |nilMap
 |tok (e:Nat)
 |it (s:List UInt8) (p:Nat)
 |itp (i:Id)
instance:Inhabited D:=⟨.junk⟩
def D.leaf:D->Bool
 | .agg _| .tup _| .junk| .tok _| .it _ _=>false
 |_=>true
def D.gh:D->Bool
 | .tok _| .it _ _=>true
 |_=>false
def D.isRw:D->Bool
 | .nilIface| .str []=>true
 |_=>false
def D.cells:D->List D
 | .agg cs=>cs
 |d=>[d]
def D.un1:D->D
 | .slice nl _ xs=> .slice nl [] xs
 |d=>d
def D.un:D->D
 | .agg cs=> .agg (cs.map D.un1)
 | .slice nl _ xs=> .slice nl [] xs
 |d=>d
def D.calm1:D->Bool
 | .slice _ t _=>t.isEmpty
 | .ptr _ _| .row _ _| .itp _| .it _ _=>false
 | .fn _ cs=>cs.isEmpty
 | .agg _| .tup _=>false
 |_=>true
def D.calm:D->Bool
 | .agg cs=>cs.all D.calm1
 |d=>d.calm1
def flat:List D->List D
 |[]=>[]
 |x::xs=>x.cells++flat xs
structure Gh where
 G:Nat->Nat
 G0:Nat->Nat
 dl:Id->Option Nat
 tb:Id->Option (Nat×Nat×Nat×Nat)
inductive Rep (w:World) (g:Gh):D->Value->Prop
 |junk (v:Value):Rep w g .junk v
 |bool (b:Bool):Rep w g (.bool b) (.bool b)
 |int (k:IntKind) (n:Int):Rep w g (.int k n) (.int k n)
 |str (s:List UInt8):Rep w g (.str s) (.string ⟨s.toArray⟩)
 |nils (t:Id):Rep w g (.slice true t []) (.slice none 0 0)
 |slice (t:Id) (xs:List D) (a:Addr) (n c sz:Nat) (vv:Nat->Value):
   n=xs.length->n<=c->(∀d∈xs,d.cells.length=sz)->
   (∀j,j<n*sz->w.cell? (a.add j)=some (vv j))->
   (∀j,j<n*sz->(vv j).oneCell'=true)->
   (∀(j:Nat) d,(flat xs)[j]?=some d->Rep w g d (vv j))->
   (0<n*sz->a.off+n*sz<=g.G a.block)->
   (t≠[]->a.off=0∧a.spot=none∧g.tb t=some (a.block,n,c,sz))->(∀d∈xs,d.calm=true)->
   Rep w g (.slice false t xs) (.slice (some a) n c)
 |ptr (i:Id) (o b:Nat):g.dl i=some b->Rep w g (.ptr i o) (.pointer (some ⟨b,o,none⟩))
 |row (i:Id) (n c b:Nat):n<=c->g.dl i=some b->Rep w g (.row i n) (.slice (some ⟨b,0,none⟩) n c)
 |eptr (ds:List D) (a:Addr) (vv:Nat->Value):
   (∀j,j<ds.length->w.cell? (a.add j)=some (vv j))->
   (∀j,j<ds.length->(vv j).oneCell'=true)->
   (∀(j:Nat) d,ds[j]?=some d->Rep w g d (vv j))->
   (0<ds.length->a.off+ds.length<=g.G a.block)->(∀d∈ds,d.calm=true)->
   Rep w g (.eptr ds) (.pointer (some a))
 |nilp:Rep w g .nilptr (.pointer none)
 |agg (ds:List D) (vs:List Value):vs.length=ds.length->(∀v∈vs,v.oneCell'=true)->
   (∀(j:Nat) d v,ds[j]?=some d->vs[j]?=some v->Rep w g d v)->Rep w g (.agg ds) (.agg vs.toArray)
 |tup (ds:List D) (vs:List Value):vs.length=ds.length->
   (∀(j:Nat) d v,ds[j]?=some d->vs[j]?=some v->Rep w g d v)->Rep w g (.tup ds) (.tuple vs.toArray)
 |iface (t:TypeId) (d:D) (v:Value):d.calm=true->Rep w g d v->Rep w g (.iface t d) (.iface t v)
 |nili:Rep w g .nilIface .nilIface
 |fn (f:FuncId) (ds:List D) (vs:List Value):vs.length=ds.length->
   (∀(j:Nat) d v,ds[j]?=some d->vs[j]?=some v->Rep w g d v)->Rep w g (.fn f ds) (.func (.func f) #[] vs.toArray)
 |nilf:Rep w g .nilFunc .nilFunc
 |nilm:Rep w g .nilMap (.map none)
 |itp (i:Id) (b:Nat):g.tb i=some (b,0,0,0)->Rep w g (.itp i) (.pointer (some ⟨b,0,none⟩))
structure GR (w:World) (g:Gh) (w':World) (g':Gh):Prop where
 cell:∀p:Addr,p.off<g.G p.block->w'.cell? p=w.cell? p
 G:∀b,g.G b<=g'.G b
 dl:∀i b,g.dl i=some b->g'.dl i=some b
 G0:g'.G0=g.G0
 tb:∀i x,g.tb i=some x->g'.tb i=some x
def GR.refl(w:World)(g:Gh):GR w g w g:=⟨λ_ _=>rfl,λ_=>Qk _,λ_ _ h=>h,rfl,λ_ _ h=>h⟩
theorem GR.trans {w s d : World} {g a f : Gh} (h : GR w g s a) (k : GR s a d f) : GR w g d f :=
 ⟨fun p y => (k.cell p (QN y (h.G _))).trans (h.cell p y), fun b => QO (h.G b) (k.G b),
  fun i b hi => k.dl i b (h.dl i b hi), k.G0.trans h.G0, fun i x hi => k.tb i x (h.tb i x hi)⟩
def C6(a:Addr)(j:Nat):(a.add j).block=a.block:=by unfold Addr.add;split<;>rfl
def Ff(a:Addr)(j:Nat):(a.add j).off=a.off+j:=by unfold Addr.add;split<;>simp_all
theorem add_add(a:Addr)(i j:Nat):(a.add i).add j=a.add (i+j):=by
 unfold Addr.add;by_cases hi:i=0<;>by_cases q:j=0<;>simp[hi,q,Nat.add_assoc]
def Rep.ext{w w':World}{g g':Gh}{d:D}{v:Value}(h:Rep w g d v)(x:GR w g w' g'):Rep w' g' d v:=by
 induction h with
 |junk v=>exact .junk v
 |bool b=>exact .bool b
 |int k n=>exact .int k n
 |str s=>exact .str s
 |nils t=>exact .nils t
 |slice t xs a n c sz vv u z y e m _ h7 h8 h9 ih=>
  refine .slice t xs a n c sz vv u z y (λj hj=>?_) m ih (λh=>QO (h7 h) (x.G _)) (λht=>?_) h9
  ·rw[x.cell _ YH];exact e j hj
  ·obtain⟨p,q,r⟩:=h8 ht;exact⟨p,q,x.tb _ _ r⟩
 |ptr i o b u=>exact .ptr i o b (x.dl _ _ u)
 |row i n c b h0 u=>exact .row i n c b h0 (x.dl _ _ u)
 |eptr ds a vv u z _ e m ih=>
  refine .eptr ds a vv (λj hj=>?_) z ih (λh=>QO (e h) (x.G _)) m;rw[x.cell _ YI];exact u j hj
 |nilp=>exact .nilp
 |agg ds vs u z _ ih=>exact .agg ds vs u z ih
 |tup ds vs u _ ih=>exact .tup ds vs u ih
 |iface t d v u _ ih=>exact .iface t d v u ih
 |nili=>exact .nili
 |fn f ds vs u _ ih=>exact .fn f ds vs u ih
 |nilf=>exact .nilf
 |nilm=>exact .nilm
 |itp i b u=>exact .itp i b (x.tb _ _ u)
def Rep.leaf_one{w:World}{g:Gh}{d:D}{v:Value}(h:Rep w g d v)(hl:d.leaf=true):v.oneCell'=true:=by
 cases h<;>simp_all [D.leaf,Value.oneCell']
abbrev Gu:=Id->Nat->Option D
def pC(B:Nat)(m:Gu)(w:World)(g:Gh):Prop:=
 (∀i s p,m i 1=some (.it s p)->∃b,g.tb i=some (b,0,0,0)∧B<=b∧w.heap[b]?=some (.stringIter ⟨s.toArray⟩ p)∧g.G b=0∧∀v,g.dl v≠some b)∧
 ∀i v s p n u b x o,m i 1=some (.it s p)->m v 1=some (.it n u)->g.tb i=some (b,x)->g.tb v=some (b,o)->i=v
theorem pC.to {B : Nat} {m m' : Gu} {w t : World} {g a : Gh} (h : pC B m w g) (k : ∀ i s p, m' i 1 = some (.it s p) → m i 1 = some (.it s p))
  (o : ∀ i b s p, m i 1 = some (.it s p) → g.tb i = some (b, 0, 0, 0) → B ≤ b → w.heap[b]? = some (.stringIter ⟨s.toArray⟩ p) → g.G b = 0 → (∀ v, g.dl v ≠ some b) →
   a.tb i = g.tb i ∧ t.heap[b]? = w.heap[b]? ∧ a.G b = 0 ∧ ∀ v, a.dl v ≠ some b) : pC B m' t a := by
 refine ⟨fun i s p hi => ?_, fun i v s p n p' b x x' u z y r => ?_⟩
 ·obtain ⟨b, j, e, t3, t4, t5⟩ := h.1 i s p (k _ _ _ hi)
  obtain ⟨d, f, q3, q4⟩ := o i b s p (k _ _ _ hi) j e t3 t4 t5
  exact ⟨b, d.trans j, e, f.trans t3, q3, q4⟩
 ·obtain ⟨c, j, e, t3, t4, t5⟩ := h.1 i s p (k _ _ _ u)
  obtain ⟨c', q, u2, u3, u4, u5⟩ := h.1 v n p' (k _ _ _ z)
  rw [(o i c s p (k _ _ _ u) j e t3 t4 t5).1] at y
  rw [(o v c' n p' (k _ _ _ z) q u2 u3 u4 u5).1] at r
  exact h.2 i v s p n p' b x x' (k _ _ _ u) (k _ _ _ z) y r
structure GD (P:Program) (B:Nat) (w0:World) (m:Gu) (w:World) (g:Gh):Prop where
 below:Below B w0 w
 size:B<=w.heap.size
 gz:∀b,w.heap.size<=b->g.G b=0
 old:∀b,b<B->g.G b=g.G0 b
 obj:∀i b,g.dl i=some b->B<=b∧g.G b=0∧∃vs T,w.heap[b]?=some (.cells vs T (0,0))∧
  ∀o d,m i o=some d->∃v,vs[o]?=some v∧v.oneCell'=true∧Rep w g d v
 inj:∀i i' b,g.dl i=some b->g.dl i'=some b->i=i'
 kind:∀i o d,m i o=some d->g.dl i=none->d.gh=true
 tok:∀i e,m i 0=some (.tok (e+1))->∃b n c sz cur,g.tb i=some (b,n,c,sz)∧B<=b∧0<sz∧
  (∃t z,P.info? e=some t∧t.size=sz∧t.zero=some z∧z.cells.size=sz)∧
  w.heap[b]?=some (.cells cur e (0,0))∧n<=c∧c<=maxLen∧cur.size=c*sz∧g.G b=n*sz∧∀i',g.dl i'≠some b
 tinj:∀i i' e e' b x x',m i 0=some (.tok (e+1))->m i' 0=some (.tok (e'+1))->g.tb i=some (b,x)->g.tb i'=some (b,x')->i=i'
 itr:pC B m w g
def BN(m:Gu)(g:Gh)(i:Id):Prop:=(∀o,m i o=none)∧g.dl i=none∧g.tb i=none
def Gu.put(m:Gu)(i:Id)(o:Nat)(ds:List D):Gu:=λv o'=>if v=i∧o<=o'∧o'<o+ds.length then ds[o'-o]? else m v o'
theorem aA{m:Gu}{i v:Id}{o o':Nat}{ds:List D}(h:v≠i):m.put i o ds v o'=m v o':=by simp[Gu.put,h]
def aE{m:Gu}{i:Id}{o j:Nat}{ds:List D}(h:j<ds.length):m.put i o ds i (o+j)=ds[j]?:=by
 grind [Gu.put]
theorem aD{m:Gu}{i:Id}{o o':Nat}{ds:List D}(h:¬(o<=o'∧o'<o+ds.length)):m.put i o ds i o'=m i o':=by
 grind [Gu.put]
def AU(w:World)(g:Gh)(ds:List D)(vs:List Value):Prop:=
 vs.length=ds.length∧(∀v∈vs,v.oneCell'=true)∧∀(j:Nat) d v,ds[j]?=some d->vs[j]?=some v->Rep w g d v
def AU.ext{w s:World}{g a:Gh}{ds:List D}{vs:List Value}(h:AU w g ds vs)(x:GR w g s a):AU s a ds vs:=
 ⟨h.1,h.2.1,λj d v p m=>(h.2.2 j d v p m).ext x⟩
def AU.no_it{w:World}{g:Gh}{ds:List D}{vs:List Value}(h:AU w g ds vs){j:Nat}{s:List UInt8}{p:Nat}(q:ds[j]?=some (.it s p)):False:=by
 have hl:j<vs.length:=by rw[h.1];exact(Qe.1 q).1
 have:=h.2.2 j _ vs[j] q (Qc hl);cases this
def yM{w:World}{g:Gh}{m:Gu}{ds:List D}{vs:List Value}(h:AU w g ds vs){i v:Id}{o:Nat}{s:List UInt8}{p:Nat}(q:m.put i o ds v 1=some (.it s p)):m v 1=some (.it s p)∧(v=i->¬(o<=1∧1<o+ds.length)):=by
 unfold Gu.put at q;split at q
 ·exact(h.no_it q).elim
 ·simp_all
theorem AU.nil(w:World)(g:Gh):AU w g [] []:=⟨rfl,U,U⟩
def AU.one{w:World}{g:Gh}{d:D}{v:Value}(h:Rep w g d v)(hl:v.oneCell'=true):AU w g [d] [v]:=by
 refine⟨rfl,Xj,λj a b p m=>?_⟩;cases j with
 |zero=>simp at p m;subst p m;exact h
 |succ j=>simp at p
def AU.append{w:World}{g:Gh}{ds c:List D}{vs u:List Value}(h:AU w g ds vs)(k:AU w g c u):AU w g (ds++c) (vs++u):=by
 refine⟨by simp[h.1,k.1],λv hv=>?_,λj d v p hv=>?_⟩
 ·rcases Qg.1 hv with hv|hv
  ·exact h.2.1 v hv
  ·exact k.2.1 v hv
 ·by_cases q:j<ds.length
  ·rw[Qm q]at p;rw[Qm (by rw[h.1];exact q)]at hv;exact h.2.2 j d v p hv
  ·rw[QF O]at p;rw[QF (by rw[h.1];omega),h.1]at hv;exact k.2.2 _ d v p hv
section
variable{P:Program}{B:Nat}{w0 w w':World}{m:Gu}{g g':Gh}
def GD.lt(h:GD P B w0 m w g){i:Id}{b:Nat}(o:g.dl i=some b):b<w.heap.size:=by
 obtain⟨_,_,vs,T,n,_⟩:=h.obj i b o;exact(Qf.1 n).1
def Gh.over(g:Gh)(w s:World):Gh:=
 {g with G:=λb=>if b<w.heap.size then g.G b else match s.heap[b]? with|some (.cells c _ _)=>c.size|_=>0}
def GR.over(n:∀b,w.heap.size<=b->g.G b=0)(o:Below w.heap.size w w'):GR w g w' (g.over w w'):=by
 refine⟨λp y=>?_,λb=>?_,λi b h=>h,rfl,λi x h=>h⟩
 ·by_cases r:p.block<w.heap.size
  ·exact o.cell r
  ·simp_all
 ·grind [Gh.over]
def GD.over(h:GD P B w0 m w g)(f:Below w.heap.size w w'):GD P B w0 m w' (g.over w w'):=by
 have x:=GR.over h.gz f;refine⟨h.below.trans (f.mono h.size),QO h.size f.size,λb a=>?_,λb k=>by simp only[Gh.over];rw[if_pos (QN k h.size)];exact h.old b k,λi b hi=>?_,h.inj,h.kind,λi e hi=>?_,h.tinj,h.itr.to (λ_ _ _ e=>e) λi b s p _ _ _ j y t=>?_⟩
 rotate_right
 ·have k:b<w.heap.size:=(Qf.1 j).1;exact⟨rfl,f.block b k,by simp[Gh.over,k,y],t⟩
 ·simp only[Gh.over];rw[if_neg (by have:=f.size;omega),Array.getElem?_eq_none a]
 ·obtain⟨p,q,vs,T,u,r⟩:=h.obj i b hi;have k:=h.lt hi;refine⟨p,by simp[Gh.over,k,q],vs,T,(f.block b k).trans u,λo d z=>?_⟩;obtain⟨v,r1,r2,r3⟩:=r o d z;exact⟨v,r1,r2,r3.ext x⟩
 ·obtain⟨b,n,c,sz,cur,t1,t2,t3,t4,t5,t6,t7,t8,t9,xa⟩:=h.tok i e hi;have k:b<w.heap.size:=(Qf.1 t5).1;exact⟨b,n,c,sz,cur,t1,t2,t3,t4,(f.block b k).trans t5,t6,t7,t8,by simp[Gh.over,k,t9],xa⟩
def GD.drew(h:GD P B w0 m w g):GD P B w0 m w.drew g:=by
 have x:GR w g w.drew g:=⟨λ_ _=>rfl,λ_=>Qk _,λ_ _ h=>h,rfl,λ_ _ h=>h⟩;refine⟨h.below.drew,h.size,h.gz,h.old,λi b hi=>?_,h.inj,h.kind,λi e hi=>?_,h.tinj,h.itr.to (λ_ _ _ e=>e) λi b s p _ _ _ j f t=>⟨rfl,rfl,f,t⟩⟩
 ·obtain⟨p,q,vs,T,n,r⟩:=h.obj i b hi;exact⟨p,q,vs,T,n,λo d k=>let⟨v,r1,r2,r3⟩:=r o d k;⟨v,r1,r2,r3.ext x⟩⟩
 ·exact h.tok i e hi
def GR.drew(w:World)(g:Gh):GR w g w.drew g:=⟨λ_ _=>rfl,λ_=>Qk _,λ_ _ h=>h,rfl,λ_ _ h=>h⟩
def Gh.obj(g:Gh)(i:Id)(b:Nat):Gh:={g with dl:=λv=>if v=i then some b else g.dl v}
def GR.newObj{i:Id}(o:Obj)(n:∀b,w.heap.size<=b->g.G b=0)(k:g.dl i=none):GR w g (w.alloc o) (g.obj i w.heap.size):=by
 refine⟨λp y=>?_,λb=>Qk _,λv b h=>?_,rfl,λi x h=>h⟩
 ·by_cases r:p.block<w.heap.size
  ·exact World.cell?_alloc_lt w o p r
  ·simp_all
 ·grind [Gh.obj]
def GD.newObj(h:GD P B w0 m w g){i:Id}(hf:BN m g i){ds:List D}{vs:List Value}(T:TypeId)(hr:AU w g ds vs):
  GD P B w0 (m.put i 0 ds) (w.alloc (.cells vs.toArray T)) (g.obj i w.heap.size):=by
 have x:=GR.newObj (i:=i) (Obj.cells vs.toArray T) h.gz hf.2.1;have ne:∀i' b,g.dl i'=some b->i'≠i:=λi' b f e=>by subst e;rw[hf.2.1]at f;cases f
 refine⟨h.below.alloc h.size _,Yp,λb f=>h.gz b (by simp at f;omega),h.old,λi' b hi=>?_,λi1 i2 b u t=>?_,λi' o d hm hd=>?_,λi' e hi=>?_,λi1 i2 e e' b y y' u t h3 h4=>?_,h.itr.to (λi' s p e=>(yM hr e).1) λi' b s p _ _ _ e1 a e3=>?_⟩
 rotate_right
 ·have k:b<w.heap.size:=(Qf.1 e1).1;refine⟨rfl,Below.heap_alloc w _ b k,a,λi1 u=>?_⟩;simp only[Gh.obj]at u;split at u
  ·simp_all
  ·exact e3 i1 u
 ·simp only[Gh.obj]at hi;split at hi
  ·rename_i e;subst e;simp only[Qa]at hi;subst hi;refine⟨h.size,h.gz _ (Qk _),vs.toArray,T,heap_alloc_new w _,λo d hm=>?_⟩;by_cases ho:o<ds.length
   ·have z:m.put i' 0 ds i' (0+o)=ds[o]?:=aE ho;rw[Qu]at z;rw[z]at hm;have j:o<vs.length:=by rw[hr.1];exact ho
    refine⟨vs[o],by simp[j],hr.2.1 _ (Q1 j),?_⟩;exact(hr.2.2 o d vs[o] hm (Qc j)).ext x
   ·rw[aD O,hf.1 o]at hm;cases hm
  ·rename_i ga;obtain⟨p,q,bb,T',hh,r⟩:=h.obj i' b hi;refine⟨p,q,bb,T',(Below.heap_alloc w _ b (h.lt hi)).trans hh,λo d hm=>?_⟩;rw[aA ga]at hm;obtain⟨v,r1,r2,r3⟩:=r o d hm;exact⟨v,r1,r2,r3.ext x⟩
 ·simp only[Gh.obj]at u t;split at u<;>split at t
  ·simp_all
  ·simp only[Qa]at u;subst u;have:=h.lt t;omega
  ·simp only[Qa]at t;subst t;have:=h.lt u;omega
  ·exact h.inj _ _ _ u t
 ·simp only[Gh.obj]at hd;split at hd
  ·cases hd
  ·rename_i ga;rw[aA ga]at hm;exact h.kind _ _ _ hm hd
 ·by_cases ga:i'=i
  ·subst ga;by_cases ho:0<ds.length
   ·have z:m.put i' 0 ds i' (0+0)=ds[0]?:=aE ho;rw[Zj]at z;rw[z]at hi;have j:0<vs.length:=by rw[hr.1];exact ho
    have:=hr.2.2 0 _ vs[0] hi (Qc j);cases this
   ·rw[aD O,hf.1 0]at hi;cases hi
  ·rw[aA ga]at hi;obtain⟨b,n,c,sz,cur,t1,t2,t3,t4,t5,t6,t7,t8,t9,xa⟩:=h.tok i' e hi;have k:b<w.heap.size:=(Qf.1 t5).1;refine⟨b,n,c,sz,cur,t1,t2,t3,t4,(Below.heap_alloc w _ b k).trans t5,t6,t7,t8,t9,λi1 u=>?_⟩;simp only[Gh.obj]at u;split at u
   ·simp_all
   ·exact xa i1 u
 ·have nt:∀e,m.put i 0 ds i 0≠some (.tok (e+1)):=by
   intro e hi;by_cases ho:0<ds.length
   ·have z:m.put i 0 ds i (0+0)=ds[0]?:=aE ho;rw[Zj]at z;rw[z]at hi;have j:0<vs.length:=by rw[hr.1];exact ho
    have:=hr.2.2 0 _ vs[0] hi (Qc j);cases this
   ·rw[aD O,hf.1 0]at hi;cases hi
  have n1:i1≠i:=λe=>by subst e;exact nt _ u
  have n2:i2≠i:=λe=>by subst e;exact nt _ t
  rw[aA n1]at u;rw[aA n2]at t;exact h.tinj _ _ _ _ _ _ _ u t h3 h4
def Rep.newObj(w:World)(g:Gh)(i:Id)(b:Nat):Rep w (g.obj i b) (.ptr i 0) (.pointer (some ⟨b,0,none⟩)):=
 .ptr i 0 b (by simp[Gh.obj])
theorem Dh(w:World)(b:Nat)(cs:Array Value)(p:Addr)(h:p.block≠b):(w.setRow b cs).cell? p=w.cell? p:=by
 simp only[World.cell?];rw[setRow_other w b p.block cs h]
def GR.setRow{b:Nat}{cs:Array Value}(i:g.G b=0):GR w g (w.setRow b cs) g:=by
 refine⟨λp y=>Dh w b cs p (λe=>?_),λ_=>Qk _,λ_ _ h=>h,rfl,λ_ _ h=>h⟩;subst e;omega
def GD.store(h:GD P B w0 m w g){i:Id}{b o:Nat}(hd:g.dl i=some b){vs:Array Value}{T:TypeId}(hh:w.heap[b]?=some (.cells vs T (0,0)))
  {ds:List D} {us:List Value} (hr:AU w g ds us) (ho:o+ds.length<=vs.size):
  GD P B w0 (m.put i o ds) (w.setRow b (vs.toList.take o++us++vs.toList.drop (o+us.length)).toArray) g:=by
 obtain⟨hB,hG,bb,T',ma,ua⟩:=h.obj i b hd;rw[hh]at ma;simp only[Qa,Obj.cells.injEq]at ma;obtain⟨rfl,rfl,_⟩:=ma;have x:GR w g (w.setRow b (vs.toList.take o++us++vs.toList.drop (o+us.length)).toArray) g:=GR.setRow hG;have ja:(w.setRow b (vs.toList.take o++us++vs.toList.drop (o+us.length)).toArray).heap.size=w.heap.size:=by simp[World.setRow]
 have fa:∀k,k≠b->(w.setRow b (vs.toList.take o++us++vs.toList.drop (o+us.length)).toArray).heap[k]?=w.heap[k]?:=λk hk=>setRow_other w b k _ hk
 refine⟨⟨h.below.os,h.below.tape,h.below.output,Yg,λk hk=>(fa k O).trans (h.below.block k hk)⟩,Yf,by rw[ja];exact h.gz,h.old,λi' b' hi=>?_,h.inj,λi' o' d hm hn=>?_,λi' e hi=>?_,λi1 i2 e e' b' y y' u t h3 h4=>?_,h.itr.to (λi' s p e=>(yM hr e).1) λi' b' s p _ _ _ e1 e2 e3=>⟨rfl,fa b' (λe=>e3 i (by rw[e];exact hd)),e2,e3⟩⟩
 ·by_cases a:i'=i
  ·subst a;rw[hd]at hi;simp only[Qa]at hi;subst hi;refine⟨hB,hG,_,T,setRow_heap w b vs _ T _ hh,λo' d hm=>?_⟩;have ba:us.length=ds.length:=hr.1;by_cases la:o<=o'∧o'<o+ds.length
   ·have z:m.put i' o ds i' (o+(o'-o))=ds[o'-o]?:=aE O;rw[show o+(o'-o)=o' by omega]at z;rw[z]at hm;have hv:o'-o<us.length:=by omega
    refine⟨us[o'-o],?_,hr.2.1 _ (Q1 hv),(hr.2.2 _ d _ hm (Qc hv)).ext x⟩;have ht:(vs.toList.take o).length=o:=by rw[QT];simp;omega
    simp only[QI,QK];rw[QF O,ht,Qm hv];exact Qc hv
   ·rw[aD la]at hm;obtain⟨v,r1,r2,r3⟩:=ua o' d hm;refine⟨v,?_,r2,r3.ext x⟩;have ht:(vs.toList.take o).length=o:=by rw[QT];simp;omega
    simp only[QI,QK];by_cases ka:o'<o
    ·grind
    ·grind
  ·obtain⟨p,q,j,T1,f,r⟩:=h.obj i' b' hi;have ga:b'≠b:=λe=>a (h.inj i' i b' hi (by rw[e];exact hd))
   refine⟨p,q,j,T1,(fa b' ga).trans f,λo' d hm=>?_⟩;rw[aA a]at hm;obtain⟨v,r1,r2,r3⟩:=r o' d hm;exact⟨v,r1,r2,r3.ext x⟩
 ·have:i'≠i:=λe=>by subst e;rw[hd]at hn;cases hn
  rw[aA this]at hm;exact h.kind _ _ _ hm hn
 ·have ga:i'≠i:=by
   rintro rfl;by_cases la:o<=0∧0<o+ds.length
   ·have z:m.put i' o ds i' (o+(0-o))=ds[0-o]?:=aE O;rw[show o+(0-o)=0 by omega]at z;rw[z]at hi;have hv:0-o<us.length:=by have:=hr.1;omega
    have:=hr.2.2 _ _ _ hi (Qc hv);cases this
   ·rw[aD la]at hi;obtain⟨v,r1,r2,r3⟩:=ua 0 _ hi;cases r3
  rw[aA ga]at hi;obtain⟨b1,n,c,sz,cur,t1,t2,t3,t4,t5,t6,t7,t8,t9,xa⟩:=h.tok i' e hi;exact⟨b1,n,c,sz,cur,t1,t2,t3,t4,(fa b1 (λe=>xa i (by rw[e];exact hd))).trans t5,t6,t7,t8,t9,xa⟩
 ·have nt:∀e,m.put i o ds i 0≠some (.tok (e+1)):=by
   intro e hi;by_cases la:o<=0∧0<o+ds.length
   ·have z:m.put i o ds i (o+(0-o))=ds[0-o]?:=aE O;rw[show o+(0-o)=0 by omega]at z;rw[z]at hi;have hv:0-o<us.length:=by have:=hr.1;omega
    have:=hr.2.2 _ _ _ hi (Qc hv);cases this
   ·rw[aD la]at hi;obtain⟨v,r1,r2,r3⟩:=ua 0 _ hi;cases r3
  have n1:i1≠i:=λe=>by subst e;exact nt _ u
  have n2:i2≠i:=λe=>by subst e;exact nt _ t
  rw[aA n1]at u;rw[aA n2]at t;exact h.tinj _ _ _ _ _ _ _ u t h3 h4
end
def Gh.tok(g:Gh)(t:Id)(b n c sz:Nat):Gh:=
 {g with G:=λv=>if v=b then n*sz else g.G v,tb:=λi=>if i=t then some (b,n,c,sz)else g.tb i}
section
variable{P:Program}{B:Nat}{w0 w w':World}{m:Gu}{g g':Gh}
def GD.kill(h:GD P B w0 m w g){t:Id}(hd:g.dl t=none):GD P B w0 (m.put t 0 [.tok 0]) w g:=by
 have c:∀i o,m.put t 0 [.tok 0] i o=if i=t∧o=0 then some (.tok 0)else m i o:=by
  grind [Gu.put]
 refine⟨h.below,h.size,h.gz,h.old,λi b hi=>?_,h.inj,λi o d k a=>?_,λi e hi=>?_,λi1 i2 e x b y y' u z v h4=>?_,h.itr.to (λi s p e=>by rw[c,if_neg U]at e;exact e) λi b s p _ _ _ j f e3=>⟨rfl,rfl,f,e3⟩⟩
 ·obtain⟨p,q,vs,T,n,r⟩:=h.obj i b hi;refine⟨p,q,vs,T,n,λo d k=>?_⟩;rw[c,if_neg (by rintro⟨rfl,_⟩;rw[hd]at hi;cases hi)]at k;exact r o d k
 ·rw[c]at k;split at k
  ·rw[←QJ k];rfl
  ·exact h.kind _ _ _ k a
 ·rw[c]at hi;split at hi
  ·simp at hi
  ·exact h.tok i e hi
 ·rw[c]at u z;split at u
  ·simp at u
  ·split at z
   ·simp at z
   ·exact h.tinj _ _ _ _ _ _ _ u z v h4
def BN.kill{t x:Id}(h:BN m g t)(j:t≠x):BN (m.put x 0 [.tok 0]) g t:=
 ⟨λo=>by rw[aA j];exact h.1 o,h.2⟩
theorem Bk(m:Gu)(t:Id)(x:Nat)(i:Id)(o:Nat):m.put t 0 [.tok x] i o=if i=t∧o=0 then some (.tok x)else m i o:=by
 grind [Gu.put]
def GR.newTok{t:Id}{b n c sz:Nat}(o:Obj)(f:∀b,w.heap.size<=b->g.G b=0)(k:g.tb t=none)(m:b=w.heap.size):GR w g (w.alloc o) (g.tok t b n c sz):=by
 refine⟨λp y=>?_,λd=>?_,λv b h=>h,rfl,λi x h=>?_⟩
 ·by_cases r:p.block<w.heap.size
  ·exact World.cell?_alloc_lt w o p r
  ·simp_all
 ·grind [Gh.tok]
 ·simp only[Gh.tok];split
  ·rename_i e;subst e;rw[k]at h;cases h
  ·exact h
def GD.newTok(h:GD P B w0 m w g){t:Id}(hf:BN m g t){e n c sz:Nat}{cur:Array Value}(ja:0<sz)
  (hi:∃ti z,P.info? e=some ti∧ti.size=sz∧ti.zero=some z∧z.cells.size=sz) (za:n<=c) (hc:c<=maxLen) (a:cur.size=c*sz):
  GD P B w0 (m.put t 0 [.tok (e+1)]) (w.alloc (.cells cur e)) (g.tok t w.heap.size n c sz):=by
 have x:=GR.newTok (t:=t) (n:=n) (c:=c) (sz:=sz) (Obj.cells cur e) h.gz hf.2.2 rfl;refine⟨h.below.alloc h.size _,Yp,λb hb=>?_,λb k=>by simp only[Gh.tok];rw[if_neg (by have:=h.size;omega)];exact h.old b k,λi b f=>?_,h.inj,λi o d hm hn=>?_,λi e' f=>?_,λi1 i2 e1 e2 b y y' u h2 h3 h4=>?_,h.itr.to (λi s p e=>by rw[Bk,if_neg U]at e;exact e) λi b s p e0 _ _ e1 e2 e3=>?_⟩
 rotate_right
 ·have k:b<w.heap.size:=(Qf.1 e1).1;have j:i≠t:=by rintro rfl;rw[hf.1 1]at e0;cases e0
  exact⟨by simp[Gh.tok,j],Below.heap_alloc w _ b k,by simp only[Gh.tok];rw[if_neg O];exact e2,e3⟩
 ·simp only[Gh.tok];simp at hb;rw[if_neg O];exact h.gz b O
 ·obtain⟨p,q,vs,T,hh,r⟩:=h.obj i b f;have k:=h.lt f;refine⟨p,by simp only[Gh.tok];rw[if_neg O];exact q,vs,T,(Below.heap_alloc w _ b k).trans hh,λo d hm=>?_⟩;rw[Bk,if_neg (by rintro⟨rfl,_⟩;simp only[Gh.tok]at f;rw[hf.2.1]at f;cases f)]at hm;obtain⟨v,r1,r2,r3⟩:=r o d hm;exact⟨v,r1,r2,r3.ext x⟩
 ·rw[Bk]at hm;split at hm
  ·rw[←QJ hm];rfl
  ·exact h.kind _ _ _ hm hn
 ·rw[Bk]at f;split at f
  ·rename_i la;obtain⟨rfl,_⟩:=la;simp only[Qa,D.tok.injEq,Ze]at f;subst f;refine⟨w.heap.size,n,c,sz,cur,Xk,h.size,ja,hi,heap_alloc_new w _,za,hc,a,Xk,λi' h'=>?_⟩;have:=h.lt h';omega
  ·rename_i ga;obtain⟨b,n',c',pa,na,t1,t2,t3,t4,t5,t6,t7,t8,t9,xa⟩:=h.tok i e' f;have k:b<w.heap.size:=(Qf.1 t5).1;have j:i≠t:=by
    simp_all
   exact⟨b,n',c',pa,na,by simp[Gh.tok,j,t1],t2,t3,t4,(Below.heap_alloc w _ b k).trans t5,t6,t7,t8,by simp only[Gh.tok];rw[if_neg O];exact t9,xa⟩
 ·have ha:∀i e,m i 0=some (.tok (e+1))->∀b y,(g.tok t w.heap.size n c sz).tb i=some (b,y)->i≠t∧g.tb i=some (b,y)∧b<w.heap.size:=by
   intro i e hm b y hb;have j:i≠t:=YK
   simp only[Gh.tok,if_neg j]at hb;obtain⟨b',n',c',pa,na,t1,t2,t3,t4,t5,_⟩:=h.tok i e hm;rw[t1]at hb;simp only[Qa,Qd]at hb;obtain⟨rfl,rfl⟩:=hb;exact⟨j,t1,(Qf.1 t5).1⟩
  rw[Bk]at u h2;split at u<;>split at h2
  ·simp_all
  ·grind [Gh.tok]
  ·grind [Gh.tok]
  ·obtain⟨_,k3,_⟩:=ha _ _ u _ _ h3;obtain⟨_,k4,_⟩:=ha _ _ h2 _ _ h4;exact h.tinj _ _ _ _ _ _ _ u h2 k3 k4
def GR.inPlace{t:Id}{b n m c sz:Nat}{cur na:Array Value}{T:TypeId}{fr:Nat×Nat}(k:g.tb t=none)(r:g.G b=n*sz)(o:n<=m)
  (hh:w.heap[b]?=some (.cells cur T fr)) (f:∀j,j<n*sz->na[j]?=cur[j]?):GR w g (w.setRow b na) (g.tok t b m c sz):=by
 refine⟨λp y=>?_,λd=>?_,λv b h=>h,rfl,λi x h=>?_⟩
 ·by_cases a:p.block=b
  ·have u:(w.setRow b na).heap[p.block]?=some (.cells na T fr):=by rw[a];exact setRow_heap w b cur na T fr hh
   have z:w.heap[p.block]?=some (.cells cur T fr):=by rw[a];exact hh
   simp only[World.cell?,u,z];split
   ·rfl
   ·simp_all
  ·grind [Dh]
 ·simp only[Gh.tok];split
  ·rename_i e;subst e;rw[r];exact QA _ o
  ·exact Qk _
 ·grind [Gh.tok]
def GD.inPlace(h:GD P B w0 m w g){t0 t:Id}(hf:BN m g t){e b n n' c sz:Nat}{cur na:Array Value}(h0:m t0 0=some (.tok (e+1)))
  (u:g.tb t0=some (b,n,c,sz)) (hn:n<=n') (hc:n'<=c) (hh:w.heap[b]?=some (.cells cur e (0,0))) (hs:na.size=cur.size)
  (ca:∀j,j<n*sz->na[j]?=cur[j]?):
  GD P B w0 ((m.put t0 0 [.tok 0]).put t 0 [.tok (e+1)]) (w.setRow b na) (g.tok t b n' c sz):=by
 obtain⟨b0,n0,c0,pa,ka,u1,u2,u3,u4,u5,u6,u7,u8,u9,z⟩:=h.tok t0 e h0;rw[u]at u1;simp only[Qa,Qd]at u1;obtain⟨rfl,rfl,rfl,rfl⟩:=u1;rw[hh]at u5;simp only[Qa,Obj.cells.injEq,and_true]at u5;subst u5;have x:GR w g (w.setRow b na) (g.tok t b n' c sz):=GR.inPlace hf.2.2 u9 hn hh ca;have ja:(w.setRow b na).heap.size=w.heap.size:=by simp[World.setRow]
 have a:b<w.heap.size:=(Qf.1 hh).1;have fa:∀k,k≠b->(w.setRow b na).heap[k]?=w.heap[k]?:=λk hk=>setRow_other w b k na hk
 have qa:t≠t0:=by rintro rfl;rw[hf.1 0]at h0;cases h0
 have aa:∀i o,((m.put t0 0 [.tok 0]).put t 0 [.tok (e+1)]) i o=if i=t∧o=0 then some (.tok (e+1))else if i=t0∧o=0 then some (.tok 0)else m i o:=by
  grind [Bk]
 have oa:g.dl t0=none:=by
  cases hd:g.dl t0 with
  |none=>rfl
  |some b'=>
   obtain⟨_,_,vs,T,_,r⟩:=h.obj t0 b' hd;obtain⟨v,_,_,r3⟩:=r 0 _ h0;cases r3
 refine⟨⟨h.below.os,h.below.tape,h.below.output,Yg,λk hk=>(fa k O).trans (h.below.block k hk)⟩,Yf,λb' ta=>?_,λb' ea=>by simp only[Gh.tok];rw[if_neg O];exact h.old b' ea,λi b' hi=>?_,h.inj,λi o d hm hd=>?_,λi e' hi=>?_,λi1 i2 e1 e2 b' y y' h1 h2 h3 h4=>?_,h.itr.to (λi s p e=>by rw[aa,if_neg U,if_neg U]at e;exact e) λi b' s p e0 _ _ e1 e2 e3=>?_⟩
 rotate_right
 ·have ga:b'≠b:=by rintro rfl;rw[hh]at e1;cases e1
  have ba:i≠t:=by rintro rfl;rw[hf.1 1]at e0;cases e0
  exact⟨by simp[Gh.tok,ba],fa b' ga,by simp only[Gh.tok];rw[if_neg ga];exact e2,e3⟩
 ·rw[ja]at ta;simp only[Gh.tok];rw[if_neg O];exact h.gz b' ta
 ·obtain⟨p,q,vs,T,ma,r⟩:=h.obj i b' hi;have ga:b'≠b:=λe=>z i (by rw[←e];exact hi)
  refine⟨p,by simp[Gh.tok,ga,q],vs,T,(fa b' ga).trans ma,λo d hm=>?_⟩;rw[aa,if_neg (by rintro⟨rfl,_⟩;have h':=hf.2.1;simp only[Gh.tok]at hi;rw[h']at hi;cases hi),if_neg (by rintro⟨rfl,_⟩;simp only[Gh.tok]at hi;rw[oa]at hi;cases hi)]at hm;obtain⟨v,r1,r2,r3⟩:=r o d hm;exact⟨v,r1,r2,r3.ext x⟩
 ·rw[aa]at hm;split at hm
  ·rw[←QJ hm];rfl
  ·split at hm
   ·rw[←QJ hm];rfl
   ·exact h.kind _ _ _ hm hd
 ·rw[aa]at hi;split at hi
  ·rename_i la;obtain⟨rfl,_⟩:=la;simp only[Qa,D.tok.injEq,Ze]at hi;subst hi;exact⟨b,n',c,sz,na,Xk,u2,u3,u4,setRow_heap w b cur na e _ hh,hc,u7,by rw[hs];exact u8,Xk,z⟩
  ·split at hi
   ·simp at hi
   ·rename_i n1 n2;obtain⟨b1,l,c1,f,da,t1,t2,t3,t4,t5,t6,t7,t8,t9,xa⟩:=h.tok i e' hi;have ba:i≠t:=by rintro rfl;rw[hf.1 0]at hi;cases hi
    have ia:b1≠b:=by
     rintro rfl;have:=h.tinj i t0 e' e b1 _ _ hi h0 t1 u;subst this;simp at n2
    exact⟨b1,l,c1,f,da,by simp[Gh.tok,ba,t1],t2,t3,t4,(fa b1 ia).trans t5,t6,t7,t8,by simp[Gh.tok,ia,t9],xa⟩
 ·have ha:∀i e',m i 0=some (.tok (e'+1))->i≠t0->∀b' y,(g.tok t b n' c sz).tb i=some (b',y)->i≠t∧g.tb i=some (b',y)∧b'≠b:=by
   intro i e' hm va b' y hb;have ba:i≠t:=YK
   simp only[Gh.tok,if_neg ba]at hb;refine⟨ba,hb,?_⟩;rintro rfl;exact va (h.tinj i t0 e' e b' _ _ hm h0 hb u)
  rw[aa]at h1 h2;split at h1
  ·grind [Gh.tok]
  ·split at h1
   ·simp at h1
   ·rename_i p q;split at h2
    ·grind [Gh.tok]
    ·split at h2
     ·simp at h2
     ·rename_i r s;obtain⟨_,k3,_⟩:=ha _ _ h1 (λe=>q ⟨e,rfl⟩) _ _ h3;obtain⟨_,k4,_⟩:=ha _ _ h2 (λe=>s ⟨e,rfl⟩) _ _ h4;exact h.tinj _ _ _ _ _ _ _ h1 h2 k3 k4
end
end Go.Vd
namespace Go.Vd
inductive Gz where
 |t (n:Nat)
 |c (d:D)
def Gz.ev(s:Nat->D):Gz->D
 | .t n=>s n
 | .c d=>d
abbrev GA:=List (Id×Nat×List D)
def GA.app(m:Gu):GA->Gu
 |[]=>m
 |(i,o,ds)::u=>GA.app (m.put i o ds) u
structure G_ where
 rd:List D->Gu->List (Id×Nat)
 ex:List D->Gu->Id->Option (D×GA)
abbrev Gq:=FuncId->Option G_
inductive DOp where
 |mv (x:Gz)
 |pick (c a b:Gz)
 |alloc (zs:List D)
 |box (x:Gz)
 |build (zs:List D) (parts:List (Nat×Nat×Gz))
 |bslice (e sz:Nat) (parts:List Gz)
 |load (k:Option Nat) (x:Gz)
 |store (n:Nat) (x v:Gz)
 |nilchk (x:Gz)
 |bin (op:BinOp) (x y:Gz)
 |beq (ne:Bool) (x y:Gz)
 |seq (ne:Bool) (offs:List (Nat×Nat)) (x y:Gz)
 |nileq (ne:Bool) (k:Nat) (x y:Gz)
 |un (op:UnOp) (x:Gz)
 |conv (k:IntKind) (x:Gz)
 |s2s (x:Gz)
 |s2b (x:Gz)
 |b2s (x:Gz)
 |faddr (off:Nat) (x:Gz)
 |field (k:Option Nat) (off:Nat) (x:Gz)
 |iaddr (sz:Nat) (x i:Gz)
 |idxs (x i:Gz)
 |idxa (len:Nat) (x i:Gz)
 |idxm (len sz:Nat) (x i:Gz)
 |mxm (mx:Bool) (x y:Gz)
 |iadda (len sz:Nat) (x i:Gz)
 |cuts (x:Gz) (lo hi:Option Gz)
 |cutl (sz:Nat) (x:Gz) (lo hi:Option Gz)
 |mkif (t:TypeId) (x:Gz)
 |tass (t:TypeId) (ok:Bool) (z:D) (x:Gz)
 |ext (i:Nat) (x:Gz)
 |mkfn (f:FuncId) (caps:List Gz)
 |len (isStr:Bool) (x:Gz)
 |app (e sz bytes:Nat) (x y:Gz)
 |mksl (e sz bytes:Nat) (z:D) (n c:Gz)
 |range (x:Gz)
 |next (x:Gz)
 |call (f:Gz) (xs:List Gz)
 |stop
def D.data:D->Bool
 | .junk| .tok _| .tup _| .it _ _=>false
 |_=>true
def Ag(m:Gu)(i:Id):Nat->Nat->Option (List D)
 |_,0=>some []
 |o,n+1=>match m i o with
  |some d=>(Ag m i (o+1) n).map (d::·)
  |none=>none
def E4(cs:List D)(off:Nat)(ds:List D):List D:=cs.take off++ds++cs.drop (off+ds.length)
def B7:List D->List (Nat×Nat×D)->Option (List D)
 |cs,[]=>some cs
 |cs,(off,sz,d)::r=>if d.data=true∧d.cells.length=sz∧off+sz<=cs.length then B7 (E4 cs off d.cells) r else none
def AM(op:BinOp)(x y:D):Option D:=
 match x,y with
 | .int k a,.int k' b=>
  match op with
  | .shl=>if 0<=b then some (.int k (k.wrap (a*2 ^ min b.toNat k.bits)))else none
  | .shr=>if 0<=b then some (.int k (a.fdiv (2 ^ min b.toNat k.bits)))else none
  |op=>if k≠k' then none else match op with
   | .add=>some (.int k (k.wrap (a+b)))
   | .sub=>some (.int k (k.wrap (a-b)))
   | .mul=>some (.int k (k.wrap (a*b)))
   | .quo=>if b=0 then none else some (.int k (k.wrap (a.tdiv b)))
   | .rem=>if b=0 then none else some (.int k (a.tmod b))
   | .and=>some (.int k (bits .and k a b))
   | .or=>some (.int k (bits .or k a b))
   | .xor=>some (.int k (bits .xor k a b))
   | .andNot=>some (.int k (bits .andNot k a b))
   | .eql=>some (.bool (a==b))
   | .neq=>some (.bool (a !=b))
   | .lss=>some (.bool (a<b))
   | .leq=>some (.bool (a<=b))
   | .gtr=>some (.bool (a>b))
   | .geq=>some (.bool (a≥b))
   |_=>none
 | .str a,.str b=>
  match op with
  | .add=>if a.length+b.length<=9223372036854775807 then some (.str (a++b))else none
  | .eql=>some (.bool (a==b))
  | .neq=>some (.bool (!(a==b)))
  | .lss=>some (.bool (Op.bytesLess a b))
  | .leq=>some (.bool (Op.bytesLess a b||a==b))
  | .gtr=>some (.bool (!(Op.bytesLess a b||a==b)))
  | .geq=>some (.bool (!(Op.bytesLess a b)))
  |_=>none
 |_,_=>none
def rX(op:UnOp)(x:D):Option D:=
 match op,x with
 | .neg,.int k n=>some (.int k (k.wrap (0-n)))
 | .not,.bool b=>some (.bool (!b))
 | .xor,.int k n=>some (.int k (bits .xor k (if k.signed then-1 else k.max) n))
 |_,_=>none
def Ll:Nat->D->D->Option Bool
 |0,.int k a,.int k' b=>if k=k' then some (a==b)else none
 |1,.bool a,.bool b=>some (a==b)
 |2,.str a,.str b=>some (a==b)
 |_,_,_=>none
def A8(xs ys:List D):List (Nat×Nat)->Option Bool
 |[]=>some true
 |(k,o)::r=>match xs[o]?,ys[o]? with
  |some x,some y=>match Ll k x y with
   |some true=>A8 xs ys r
   |some false=>some false
   |none=>none
  |_,_=>none
def L0:Nat->D->D->Option Bool
 |0,.slice n _ _,.slice true _ _=>some n
 |0,.slice true _ _,.slice n _ _=>some n
 |1,.nilptr,.nilptr=>some true
 |1,.nilptr,.ptr _ _=>some false
 |1,.ptr _ _,.nilptr=>some false
 |1,.nilptr,.eptr _=>some false
 |1,.eptr _,.nilptr=>some false
 |2,.nilIface,.nilIface=>some true
 |2,.nilIface,.iface _ _=>some false
 |2,.iface _ _,.nilIface=>some false
 |3,.nilFunc,.nilFunc=>some true
 |3,.nilFunc,.fn _ _=>some false
 |3,.fn _ _,.nilFunc=>some false
 |_,_,_=>none
def Ax(s:List UInt8):List D:=s.map λb=> .int .u8 b.toNat
def Bp:List D->Option (List UInt8)
 |[]=>some []
 | .int .u8 n::r=>(Bp r).map (UInt8.ofNat n.toNat::·)
 |_=>none
def gC:Bool->D->Option Nat
 |true,.str s=>some s.length
 |false,.slice _ _ xs=>some xs.length
 |false,.row _ n=>some n
 |_,_=>none
def Fc(s:Nat->D)(x:Option Gz)(b:Nat)(v:Nat):Option Nat:=
 match x with
 |none=>some b
 |some a=>match a.ev s with
  | .int _ n=>if 0<=n∧n<=v then some n.toNat else none
  |_=>none
def aF:List D->Nat->Nat
 |[],k=>k
 |d::_,_=>d.cells.length
def Iq(sz:Nat):D->Option (List D)
 | .slice _ _ ys=>some ys
 | .str b=>if sz=1 then some (Ax b)else none
 |_=>none
def Aw(S:Gq)(s:Nat->D)(m:Gu)(fr:Id):DOp->Option (D×GA)
 | .mv x=>some (x.ev s,[])
 | .pick c a b=>match c.ev s with
  | .bool t=>some (if t then a.ev s else b.ev s,[])
  |_=>none
 | .alloc zs=>some (.ptr fr 0,[(fr,0,zs)])
 | .box x=>if(x.ev s).data then some (.ptr fr 0,[(fr,0,(x.ev s).cells)])else none
 | .build zs parts=>(B7 zs (parts.map λp=>(p.1,p.2.1,p.2.2.ev s))).map λcs=>(.agg cs,[])
 | .bslice e sz parts=>
  if(parts.all λp=>(p.ev s).data&&(p.ev s).cells.length==sz&&(p.ev s).un.calm)then some (.slice false fr (parts.map λp=>(p.ev s).un),[(fr,0,[.tok (e+1)])])else none
 | .load k x=>match x.ev s,k with
  | .ptr i o,none=>(m i o).map λd=>(d,[])
  | .ptr i o,some n=>(Ag m i o n).map λds=>(.agg ds,[])
  | .eptr ds,none=>ds.head?.map λd=>(d,[])
  | .eptr ds,some n=>if n<=ds.length then some (.agg (ds.take n),[])else none
  |_,_=>none
 | .store n x v=>match x.ev s with
  | .ptr i o=>if(v.ev s).data=true∧(v.ev s).cells.length=n∧(Ag m i o n).isSome=true then some (.junk,[(i,o,(v.ev s).cells)])else none
  |_=>none
 | .nilchk x=>match x.ev s with
  | .ptr i o=>some (.ptr i o,[])
  | .eptr ds=>some (.eptr ds,[])
  | .fn f cs=>some (.fn f cs,[])
  |_=>none
 | .bin op x y=>(AM op (x.ev s) (y.ev s)).map λd=>(d,[])
 | .beq ne x y=>match x.ev s,y.ev s with
  | .bool a,.bool b=>some (.bool ((a==b)!=ne),[])
  |_,_=>none
 | .seq ne offs x y=>match x.ev s,y.ev s with
  | .agg xs,.agg ys=>(A8 xs ys offs).map λb=>(.bool (b !=ne),[])
  |_,_=>none
 | .nileq ne k x y=>(L0 k (x.ev s) (y.ev s)).map λb=>(.bool (b !=ne),[])
 | .un op x=>(rX op (x.ev s)).map λd=>(d,[])
 | .conv k x=>match x.ev s with
  | .int _ n=>some (.int k (k.wrap n),[])
  |_=>none
 | .s2s x=>match x.ev s with
  | .str b=>some (.str b,[])
  |_=>none
 | .s2b x=>match x.ev s with
  | .str b=>some (.slice false [] (Ax b),[])
  |_=>none
 | .b2s x=>match x.ev s with
  | .slice _ _ xs=>(Bp xs).map λb=>(.str b,[])
  |_=>none
 | .faddr off x=>match x.ev s with
  | .ptr i o=>some (.ptr i (o+off),[])
  | .eptr ds=>if off<=ds.length then some (.eptr (ds.drop off),[])else none
  |_=>none
 | .field k off x=>match x.ev s,k with
  | .agg cs,none=>cs[off]?.map λd=>(d,[])
  | .agg cs,some n=>if off+n<=cs.length then some (.agg ((cs.drop off).take n),[])else none
  |_,_=>none
 | .iaddr sz x i=>match x.ev s,i.ev s with
  | .slice _ _ xs,.int _ n=>if 0<=n then match xs[n.toNat]? with
   |some d=>if d.cells.length=sz then some (.eptr d.cells,[])else none
   |none=>none
   else none
  | .row i l,.int _ n=>if 0<=n∧n<(l:Int)then some (.ptr i (if sz=1 then n.toNat else n.toNat*sz),[])else none
  |_,_=>none
 | .idxs x i=>match x.ev s,i.ev s with
  | .str b,.int _ n=>if 0<=n then(b[n.toNat]?).map λc=>(.int .u8 c.toNat,[])else none
  |_,_=>none
 | .iadda len sz x i=>match x.ev s,i.ev s with
  | .ptr j o,.int _ n=>if 0<=n∧n<(len:Int)then some (.ptr j (o+n.toNat*sz),[])else none
  |_,_=>none
 | .idxm len sz x i=>match x.ev s,i.ev s with
  | .agg cs,.int _ n=>if 0<=n∧n<(len:Int)∧n.toNat*sz+sz<=cs.length then some (.agg ((cs.drop (n.toNat*sz)).take sz),[])else none
  |_,_=>none
 | .mxm mx x y=>match x.ev s,y.ev s with
  | .int k a,.int _ b=>some (.int k (if mx=true then max a b else min a b),[])
  |_,_=>none
 | .idxa len x i=>match x.ev s,i.ev s with
  | .agg cs,.int _ n=>if 0<=n∧n<(len:Int)then(cs[n.toNat]?).map λd=>(d,[])else none
  |_,_=>none
 | .cuts x lo hi=>match x.ev s with
  | .str b=>match Fc s hi b.length b.length with
   |some h=>match Fc s lo 0 h with
    |some l=>some (.str ((b.drop l).take (h-l)),[])
    |none=>none
   |none=>none
  |_=>none
 | .cutl sz x lo hi=>match x.ev s with
  | .slice nl _ xs=>if aF xs sz=sz then match Fc s hi xs.length xs.length with
   |some h=>match Fc s lo 0 h with
    |some l=>some (.slice nl [] ((xs.drop l).take (h-l)),[])
    |none=>none
   |none=>none
   else none
  |_=>none
 | .mkif t x=>if(x.ev s).data=true∧(x.ev s).un.calm=true then some (.iface t (x.ev s).un,[])else none
 | .tass t ok z x=>match x.ev s with
  | .iface t' d=>if t'=t then some (if ok then .tup [d,.bool true]else d,[])else if ok then some (.tup [z,.bool false],[])else none
  | .nilIface=>if ok then some (.tup [z,.bool false],[])else none
  |_=>none
 | .ext i x=>match x.ev s with
  | .tup vs=>vs[i]?.map λd=>(d,[])
  |_=>none
 | .mkfn f caps=>some (.fn f (caps.map (·.ev s)),[])
 | .len k x=>(gC k (x.ev s)).map λ(n:Nat)=>(.int .i64 (n:Int),[])
 | .stop=>none
 | .app e sz bytes x y=>match x.ev s,Iq sz (y.ev s)with
  | .slice nl t xs,some ys=>
   if nl=true∧ys=[]then some (.slice true [] [],[])
   else if(xs.length+ys.length)*(bytes+1)<=140737488355328∧aF ys sz=sz then
    if nl=true then some (.slice false fr ys,[(fr,0,[.tok (e+1)])])
    else match m t 0 with
     |some (.tok k)=>if k=e+1∧t≠[]then some (.slice false fr (xs++ys),[(t,0,[.tok 0]),(fr,0,[.tok (e+1)])])else none
     |_=>none
   else none
  |_,_=>none
 | .mksl e sz bytes z n c=>match n.ev s,c.ev s with
  | .int _ n,.int _ c=>if 0<=n∧n<=c∧c*(bytes+1)<=140737488355328∧z.cells.length=sz then(if z.isRw=true then(if n=c then some (.row fr n.toNat,[(fr,0,Qz n.toNat z)])else none)
   else some (.slice false fr (Qz n.toNat z),[(fr,0,[.tok (e+1)])]))else none
  |_,_=>none
 | .range x=>match x.ev s with
  | .str b=>some (.itp fr,[(fr,1,[.it b 0])])
  |_=>none
 | .next x=>match x.ev s with
  | .itp i=>match m i 1 with
   |some (.it b u)=>if u<b.length then
     some (.tup [.bool true,.int .i64 (u:Nat),.int .i32 (Utf8.decode ⟨b.toArray⟩ u).1],[(i,1,[.it b (u+(Utf8.decode ⟨b.toArray⟩ u).2)])])
    else some (.tup [.bool false],[])
   |_=>none
  |_=>none
 | .call f xs=>match f.ev s with
  | .fn f caps=>match S f with
   |some q=>q.ex (xs.map (·.ev s)++caps) m fr
   |none=>none
  |_=>none
def ofLeaf:Value->Option D
 | .bool b=>some (.bool b)
 | .int k n=>some (.int k n)
 | .string s=>some (.str s.data.toList)
 | .slice none 0 0=>some (.slice true [] [])
 | .pointer none=>some .nilptr
 | .nilIface=>some .nilIface
 | .nilFunc=>some .nilFunc
 | .map none=>some .nilMap
 |_=>none
def ofLeaves:List Value->Option (List D)
 |[]=>some []
 |v::r=>match ofLeaf v,ofLeaves r with
  |some d,some ds=>some (d::ds)
  |_,_=>none
def ofVal:Value->Option D
 | .agg cs=>(ofLeaves cs.toList).map .agg
 |v=>ofLeaf v
def AB:Operand->Option Gz
 | .tmp t=>some (.t t)
 | .const v=>(ofVal v).map .c
 | .func f=>some (.c (.fn f []))
 | .global _=>none
def DE:List Operand->Option (List Gz)
 |[]=>some []
 |x::r=>match AB x,DE r with
  |some a,some l=>some (a::l)
  |_,_=>none
def HM:Option Operand->Option (Option Gz)
 |none=>some none
 |some x=>(AB x).map some
def CA(P:Program)(t:TypeId):Option Nat:=(P.info? t).map (·.size)
def mC(P:Program)(t:TypeId):Option (Option Nat):=
 match P.underlying t with
 |some (.struct _)|some (.array _ _)=>(CA P t).map some
 |some _=>some none
 |none=>none
def CJ(P:Program)(t:TypeId):Option D:=
 match P.info? t with
 |some i=>match i.zero with
  |some z=>ofVal z
  |none=>none
 |none=>none
def Ij(P:Program)(e:TypeId):Option (Nat×Nat):=
 match P.info? e with
 |some i=>match i.zero with
  |some z=>if 0<i.size∧z.cells.size=i.size then some (i.size,i.bytes)else none
  |none=>none
 |none=>none
def Ii{P:Program}{e sz bytes:Nat}(h:Ij P e=some (sz,bytes)):
  0<sz∧∃i z,P.info? e=some i∧i.size=sz∧i.zero=some z∧z.cells.size=sz∧i.bytes=bytes:=by
 unfold Ij at h;split at h
 ·grind
 ·cases h
def CX(P:Program)(v:Array Field):List (Nat×Operand)->Option (List (Nat×Nat×Gz))
 |[]=>some []
 |(i,x)::r=>match v[i]?,AB x,CX P v r with
  |some f,some y,some l=>match CA P f.type with
   |some n=>some ((f.offset,n,y)::l)
   |none=>none
  |_,_,_=>none
def W3(P:Program)(v:List Field):Bool:=v.all λf=>(CA P f.type).isSome
def Lt(P:Program):List Field->Option (List (Nat×Nat))
 |[]=>some []
 |f::r=>if f.name= "_" then none else match P.underlying f.type,Lt P r with
  |some (.int _),some l=>some ((0,f.offset)::l)
  |some .bool,some l=>some ((1,f.offset)::l)
  |some .string,some l=>some ((2,f.offset)::l)
  |_,_=>none
def E8(P:Program):List Field->Option (List (Nat×Nat))
 |[]=>some []
 |f::r=>if f.name= "_" then none else match P.underlying f.type,E8 P r with
  |some (.int _),some l=>some ((0,f.offset)::l)
  |some .bool,some l=>some ((1,f.offset)::l)
  |some .string,some l=>some ((2,f.offset)::l)
  |some (.struct fs),some l=>match CA P f.type,Lt P fs.toList with
   |some n,some l2=>if P.stoodInHeld f.type=false∧(l2.all λp=>decide (p.2<n))=true then some ((l2.map λp=>(p.1,f.offset+p.2))++l)else none
   |_,_=>none
  |_,_=>none
def Gb:Operand->Bool
 | .const _=>true
 |_=>false
def wV(P:Program)(ne:Bool)(t:TypeId)(x y:Operand)(a b:Gz):Option DOp:=
 match P.underlying t with
 |some .bool=>some (.beq ne a b)
 |some (.int _)|some .string=>some (.bin (if ne then .neq else .eql) a b)
 |some (.struct fs)=>if P.stoodInHeld t=false∧P.eqGuardType P.depth t=false then(E8 P fs.toList).map λl=> .seq ne l a b else none
 |some (.slice _)=>some (.nileq ne 0 a b)
 |some (.pointer _)=>some (.nileq ne 1 a b)
 |some (.func ..)=>some (.nileq ne 3 a b)
 |some (.interface _)=>if Gb x||Gb y then some (.nileq ne 2 a b)else none
 |_=>none
def isStr(P:Program)(u:TypeId):Bool:=match P.underlying u with
 |some .string=>true
 |_=>false
def gM{P:Program}{u:TypeId}(h:isStr P u=true):P.underlying u=some .string:=by
 grind [isStr]
def OZ(P:Program)(c:Call):Option DOp:=
 match c.callee with
 | .value f=>match AB f,DE c.args.toList with
  |some g,some xs=>some (.call g xs)
  |_,_=>none
 | .builtin .len=>match c.args.toList,c.argTypes.toList with
  |[x],[t]=>match P.underlying t with
   |some .string=>(AB x).map (.len true)
   |some (.slice _)=>(AB x).map (.len false)
   |_=>none
  |_,_=>none
 | .builtin .append=>match c.args.toList,c.argTypes.toList with
  |[x,y],[t,u]=>if u=t∨isStr P u=true then match P.underlying t with
   |some (.slice e)=>match Ij P e,AB x,AB y with
    |some (sz,bytes),some a,some b=>some (.app e sz bytes a b)
    |_,_,_=>none
   |_=>none
   else none
  |_,_=>none
 | .builtin .max=>match c.args.toList with
  |[x,y]=>match AB x,AB y with
   |some a,some b=>some (.mxm true a b)
   |_,_=>none
  |_=>none
 | .builtin .min=>match c.args.toList with
  |[x,y]=>match AB x,AB y with
   |some a,some b=>some (.mxm false a b)
   |_,_=>none
  |_=>none
 |_=>none
def FD(sz:Nat):List (Nat×Operand)->Option (List (Nat×Nat×Gz))
 |[]=>some []
 |(i,x)::r=>match AB x,FD sz r with
  |some a,some l=>some ((i*sz,sz,a)::l)
  |_,_=>none
def tr(P:Program)(op:Op):Option DOp:=
 match op with
 | .move x| .assign x=>(AB x).map .mv
 | .pick c a b=>match AB c,AB a,AB b with
  |some c,some a,some b=>some (.pick c a b)
  |_,_,_=>none
 | .alloc t=>(CJ P t).map λd=> .alloc d.cells
 | .box _ x=>(AB x).map .box
 | .build t parts=>match P.underlying t,CJ P t with
  |some (.struct fields),some (.agg zs)=>if W3 P fields.toList=true then(CX P fields parts.toList).map λl=> .build zs l else none
  |some (.array _ e),some (.agg zs)=>match CA P e with
   |some sz=>(FD sz parts.toList).map λl=> .build zs l
   |none=>none
  |_,_=>none
 | .buildSlice t len parts=>match P.underlying t with
  |some (.slice e)=>match Ij P e,DE (parts.toList.map (·.2))with
   |some (sz,_),some l=>if parts.toList.map (·.1)=Qt len∧len*sz<=2 ^ 24 then some (.bslice e sz l)else none
   |_,_=>none
  |_=>none
 | .load t x=>match mC P t,AB x with
  |some k,some x=>some (.load k x)
  |_,_=>none
 | .store t x v=>match CA P t,AB x,AB v with
  |some (n+1),some x,some v=>some (.store (n+1) x v)
  |_,_,_=>none
 | .nilCheck x=>(AB x).map .nilchk
 | .binOp .eql t x y _=>match AB x,AB y with
  |some a,some b=>wV P false t x y a b
  |_,_=>none
 | .binOp .neq t x y _=>match AB x,AB y with
  |some a,some b=>wV P true t x y a b
  |_,_=>none
 | .binOp op _ x y _=>match AB x,AB y with
  |some a,some b=>some (.bin op a b)
  |_,_=>none
 | .unOp op _ x=>(AB x).map (.un op)
 | .convert src dst x=>match P.underlying src,P.underlying dst,AB x with
  |some (.int _),some (.int k),some x=>some (.conv k x)
  |some .string,some .string,some x=>some (.s2s x)
  |some .string,some (.slice e),some x=>match P.underlying e with
   |some (.int .u8)=>some (.s2b x)
   |_=>none
  |some (.slice e),some .string,some x=>match P.underlying e with
   |some (.int .u8)=>some (.b2s x)
   |_=>none
  |_,_,_=>none
 | .fieldAddr t x f=>match P.underlying t,AB x with
  |some (.struct fields),some x=>match fields[f]? with
   |some p=>match CA P p.type with
    |some (_+1)=>some (.faddr p.offset x)
    |_=>none
   |none=>none
  |_,_=>none
 | .field t x f=>match P.underlying t,AB x with
  |some (.struct fields),some x=>match fields[f]? with
   |some p=>(mC P p.type).map λk=> .field k p.offset x
   |none=>none
  |_,_=>none
 | .indexAddr t x i=>match P.underlying t,AB x,AB i with
  |some (.slice e),some x,some i=>(CA P e).map λn=> .iaddr n x i
  |some (.array len e),some x,some i=>(CA P e).map λn=> .iadda len n x i
  |_,_,_=>none
 | .index t x i=>match P.underlying t,AB x,AB i with
  |some .string,some x,some i=>some (.idxs x i)
  |some (.array len e),some x,some i=>match mC P e with
   |some none=>if CA P e=some 1 then some (.idxa len x i)else none
   |some (some sz)=>some (.idxm len sz x i)
   |none=>none
  |_,_,_=>none
 | .slice t x lo hi none=>match P.underlying t,AB x,HM lo,HM hi with
  |some .string,some x,some l,some h=>some (.cuts x l h)
  |some (.slice e),some x,some l,some h=>(CA P e).map λn=> .cutl n x l h
  |_,_,_,_=>none
 | .makeInterface t x=>match P.underlying t,AB x with
  |some (.interface _),_=>none
  |some _,some x=>some (.mkif t x)
  |_,_=>none
 | .typeAssert x _ t ok=>match P.underlying t,CJ P t,AB x with
  |some (.interface _),_,_=>none
  |some _,some z,some x=>some (.tass t ok z x)
  |_,_,_=>none
 | .extract x i=>(AB x).map (.ext i)
 | .makeFunc (.func f) first caps=>match first.toList,DE caps.toList with
  |[],some l=>some (.mkfn f l)
  |_,_=>none
 | .makeSlice t n c=>match P.underlying t with
  |some (.slice e)=>match Ij P e,CJ P e,AB n,AB c with
   |some (sz,bytes),some z,some n,some c=>some (.mksl e sz bytes z n c)
   |_,_,_,_=>none
  |_=>none
 | .range t x=>match P.underlying t,AB x with
  |some .string,some x=>some (.range x)
  |_,_=>none
 | .next x true=>(AB x).map .next
 | .call c=>OZ P c
 |_=>none
def Rep.ofLeaf{w:World}{g:Gh}{v:Value}{d:D}(h:ofLeaf v=some d):Rep w g d v∧v.oneCell'=true∧d.leaf=true:=by
 unfold Vd.ofLeaf at h;split at h<;>first|(simp only[Qa]at h;subst h)|cases h
 ·exact⟨.bool _,rfl,rfl⟩
 ·exact⟨.int _ _,rfl,rfl⟩
 ·rename_i s;exact⟨.str s.data.toList,rfl,rfl⟩
 ·exact⟨.nils _,rfl,rfl⟩
 ·exact⟨.nilp,rfl,rfl⟩
 ·exact⟨.nili,rfl,rfl⟩
 ·exact⟨.nilf,rfl,rfl⟩
 ·exact⟨.nilm,rfl,rfl⟩
def AU.ofLeaves{w:World}{g:Gh}:∀{vs:List Value} {ds:List D},ofLeaves vs=some ds->AU w g ds vs
 |[],ds,h=>by simp only[Vd.ofLeaves,Qa]at h;subst h;exact AU.nil w g
 |v::r,ds,h=>by
  unfold Vd.ofLeaves at h;split at h
  ·rename_i d c u z;simp only[Qa]at h;subst h;obtain⟨p,q,_⟩:=Rep.ofLeaf (w:=w) (g:=g) u;exact AU.append (AU.one p q) (AU.ofLeaves z)
  ·cases h
def aK{w:World}{g:Gh}{ds:List D}{vs:List Value}(h:AU w g ds vs):Rep w g (.agg ds) (.agg vs.toArray):= .agg ds vs h.1 h.2.1 h.2.2
def aJ{w:World}{g:Gh}{ds:List D}{v:Value}(h:Rep w g (.agg ds) v):∃vs:List Value,v= .agg vs.toArray∧AU w g ds vs:=by
 cases h with
 |agg _ vs u z i=>exact⟨vs,rfl,u,z,i⟩
theorem Rep.ofVal{w:World}{g:Gh}{v:Value}{d:D}(h:ofVal v=some d):Rep w g d v:=by
 cases v with
 |agg cs=>
  simp only[Vd.ofVal,Qb]at h;obtain⟨ds,u,rfl⟩:=h;exact aK (AU.ofLeaves u)
 |_=>simp only[Vd.ofVal]at h;exact(Rep.ofLeaf h).1
def NU{v:Value}{d:D}(h:ofLeaf v=some d):d.data=true:=by
 unfold ofLeaf at h;split at h<;>first|(simp only[Qa]at h;subst h;rfl)|cases h
def Dx(w:World)(g:Gh)(s:Nat->D)(a:Act):Prop:=∀t,Rep w g (s t) (a.tmps.getD t undef)
def Dx.ext{w n:World}{g y:Gh}{s:Nat->D}{a:Act}(h:Dx w g s a)(x:GR w g n y):Dx n y s a:=λt=>(h t).ext x
section
variable{P:Program}{w:World}{g:Gh}{s:Nat->D}{a:Act}
def Dx.arg(h:Dx w g s a){x:Operand}{y:Gz}(q:AB x=some y):Rep w g (y.ev s) (a.eval x):=by
 cases x with
 |tmp t=>simp only[AB,Qa]at q;subst q;exact h t
 |const v=>
  simp only[AB,Qb]at q;obtain⟨d,u,rfl⟩:=q;exact Rep.ofVal u
 |func f=>
  simp only[AB,Qa]at q;subst q;exact .fn f [] [] rfl U
 |global _=>cases q
def Dx.args(h:Dx w g s a):∀{xs:List Operand} {ys:List Gz},DE xs=some ys->
  (xs.map a.eval).length=(ys.map (·.ev s)).length∧∀(j:Nat) d v,(ys.map (·.ev s))[j]?=some d->(xs.map a.eval)[j]?=some v->Rep w g d v
 |[],ys,hx=>by simp only[DE,Qa]at hx;subst hx;simp
 |x::r,ys,hx=>by
  unfold DE at hx;split at hx
  ·rename_i y l u z;simp only[Qa]at hx;subst hx;obtain⟨p,q⟩:=Dx.args h z;refine⟨by simpa using p,λj d v hd m=>?_⟩;cases j with
   |zero=>
    simp only[Qs,QD,Qa]at hd m;subst hd m;exact h.arg u
   |succ j=>
    simp only[Qs,Zg]at hd m;exact q j d v hd m
  ·cases hx
def Rep.bool_inv{b:Bool}{v:Value}(h:Rep w g (.bool b) v):v= .bool b:=XI
def Rep.int_inv{k:IntKind}{n:Int}{v:Value}(h:Rep w g (.int k n) v):v= .int k n:=XI
def Rep.str_inv{b:List UInt8}{v:Value}(h:Rep w g (.str b) v):v= .string ⟨b.toArray⟩:=XI
def Rep.cells{d:D}{v:Value}(h:Rep w g d v)(p:d.data=true):AU w g d.cells v.cells.toList:=by
 cases h with
 |agg ds vs u z y=>exact(⟨u,z,y⟩:AU w g ds vs)
 |junk=>cases p
 |tup=>cases p
 |bool b=>exact AU.one (.bool b) rfl
 |int k n=>exact AU.one (.int k n) rfl
 |str b=>exact AU.one (.str b) rfl
 |nils t=>exact AU.one (.nils t) rfl
 |slice t xs a n c sz s u z y r m e j h8 x=>exact AU.one (.slice t xs a n c sz s u z y r m e j h8 x) rfl
 |ptr i o b u=>exact AU.one (.ptr i o b u) rfl
 |row i n c b q u=>exact AU.one (.row i n c b q u) rfl
 |eptr ds a s u z y r m=>exact AU.one (.eptr ds a s u z y r m) rfl
 |nilp=>exact AU.one .nilp rfl
 |iface t d v u z=>exact AU.one (.iface t d v u z) rfl
 |nili=>exact AU.one .nili rfl
 |fn f ds vs u z=>exact AU.one (.fn f ds vs u z) rfl
 |nilf=>exact AU.one .nilf rfl
 |nilm=>exact AU.one .nilm rfl
 |itp i b u=>exact AU.one (.itp i b u) rfl
end
end Go.Vd
namespace Go.Vd
open Go.RowKit
structure aPq (P:Program) (B:Nat) (w0:World) (m:Gu) (g:Gh) (fr:Id) (w:World) (m':Gu) (d:D) (v':Value) (w':World) (g':Gh):Prop where
 inv:GD P B w0 m' w' g'
 ext:GR w g w' g'
 rep:Rep w' g' d v'
 fresh:∀i,BN m g i->¬fr<:+i->BN m' g' i
def CG(P:Program)(B:Nat)(w0:World)(m:Gu)(g:Gh)(fr:Id)(w:World)(m':Gu)(d:D)(x:Sem Next):Prop:=
 ∃b s a r,x.run P w= .ok r s∧(r= .value b∨(r= .skip∧b=undef))∧aPq P B w0 m g fr w m' d b s a
section
variable{P:Program}{B:Nat}{w0 w:World}{m:Gu}{g:Gh}{fr:Id}{s:Nat->D}{a:Act}
def CG.pure{x:Sem Next}{v:Value}{d:D}(hi:GD P B w0 m w g)(i:x.run P w= .ok (.value v) w)(p:Rep w g d v):CG P B w0 m g fr w m d x:=
 ⟨v,w,g,_,i,.inl rfl,hi,GR.refl w g,p,λ_ h _=>h⟩
theorem Rep.slice_inv {nl : Bool} {t : Id} {xs : List D} {v : Value} (h : Rep w g (.slice nl t xs) v) :
  (nl = true ∧ xs = [] ∧ v = .slice none 0 0) ∨
  (nl = false ∧ ∃ ad n c sz, ∃ vv : Nat → Value, v = .slice (some ad) n c ∧ n = xs.length ∧ n ≤ c ∧ (∀ d ∈ xs, d.cells.length = sz) ∧
   (∀ j, j < n * sz → w.cell? (ad.add j) = some (vv j)) ∧ (∀ j, j < n * sz → (vv j).oneCell' = true) ∧
   (∀ (j : Nat) d, (flat xs)[j]? = some d → Rep w g d (vv j)) ∧ (0 < n * sz → ad.off + n * sz ≤ g.G ad.block) ∧
   (t ≠ [] → ad.off = 0 ∧ ad.spot = none ∧ g.tb t = some (ad.block, n, c, sz)) ∧ (∀ d ∈ xs, d.calm = true)) := by
 cases h with
 | nils t => exact .inl ⟨rfl, rfl, rfl⟩
 | slice t xs ad n c sz vv h1 h2 h3 h4 h5 h6 h7 h8 h9 => exact .inr ⟨rfl, ad, n, c, sz, vv, rfl, h1, h2, h3, h4, h5, h6, h7, h8, h9⟩
def Rep.len_slice{nl:Bool}{t:Id}{xs:List D}{v:Value}(h:Rep w g (.slice nl t xs) v):∃ad c,v= .slice ad xs.length c∧(nl=ad.isNone):=by
 rcases h.slice_inv with ⟨rfl,rfl,rfl⟩|⟨rfl,ad,n,c,sz,p,rfl,rfl,_⟩
 ·exact⟨none,0,rfl,rfl⟩
 ·exact⟨some ad,c,rfl,rfl⟩
def Rep.ptr_inv{i:Id}{o:Nat}{v:Value}(h:Rep w g (.ptr i o) v):∃b,v= .pointer (some ⟨b,o,none⟩)∧g.dl i=some b:=by
 cases h with
 |ptr _ _ b f=>exact⟨b,rfl,f⟩
def Rep.row_inv{i:Id}{n:Nat}{v:Value}(h:Rep w g (.row i n) v):∃b c,v= .slice (some ⟨b,0,none⟩) n c∧n<=c∧g.dl i=some b:=by
 cases h with
 |row _ _ c b y o=>exact⟨b,c,rfl,y,o⟩
def Rep.eptr_inv{ds:List D}{v:Value}(h:Rep w g (.eptr ds) v):∃ad,∃p:Nat->Value,v= .pointer (some ad)∧(∀j,j<ds.length->w.cell? (ad.add j)=some (p j))∧
  (∀j,j<ds.length->(p j).oneCell'=true)∧(∀(j:Nat) d,ds[j]?=some d->Rep w g d (p j))∧(0<ds.length->ad.off+ds.length<=g.G ad.block)∧(∀d∈ds,d.calm=true):=by
 cases h with
 |eptr _ ad p u z i o m=>exact⟨ad,p,rfl,u,z,i,o,m⟩
def Rep.tup_inv{ds:List D}{v:Value}(h:Rep w g (.tup ds) v):∃vs:List Value,v= .tuple vs.toArray∧vs.length=ds.length∧∀(j:Nat) d v,ds[j]?=some d->vs[j]?=some v->Rep w g d v:=by
 cases h with
 |tup _ vs u z=>exact⟨vs,rfl,u,z⟩
def Rep.iface_inv{t:TypeId}{d:D}{v:Value}(h:Rep w g (.iface t d) v):∃u,v= .iface t u∧Rep w g d u∧d.calm=true:=by
 cases h with
 |iface _ _ u q z=>exact⟨u,rfl,z,q⟩
def Rep.fn_inv{f:FuncId}{ds:List D}{v:Value}(h:Rep w g (.fn f ds) v):∃vs:List Value,v= .func (.func f) #[] vs.toArray∧vs.length=ds.length∧∀(j:Nat) d v,ds[j]?=some d->vs[j]?=some v->Rep w g d v:=by
 cases h with
 |fn _ _ vs u z=>exact⟨vs,rfl,u,z⟩
def Rep.nilp_inv{v:Value}(h:Rep w g .nilptr v):v= .pointer none:=XI
def Rep.nili_inv{v:Value}(h:Rep w g .nilIface v):v= .nilIface:=XI
def Rep.nilf_inv{v:Value}(h:Rep w g .nilFunc v):v= .nilFunc:=XI
def Ib(op:BinOp)(t:TypeId)(x y:Operand)(f i:Value)(h:∀cs,f≠ .agg cs)(z:f≠ .nilIface)(W:World):(eqGuard op t x y f i).run P W= .ok () W:=by
 cases f with
 |nilIface=>exact absurd rfl z
 |agg c=>exact absurd rfl (h c)
 |_=>cases op<;>rfl
theorem SX {op:BinOp} {t:TypeId} {x y:D} {d:D} {a i:Value} (q:Rep w g x a) (s:Rep w g y i) (h:AM op x y=some d):
  ∃v,(binOp op t a i).run P w= .ok v w∧Rep w g d v∧(∀cs,a≠ .agg cs)∧a≠ .nilIface:=by
 unfold AM at h
 split at h
 ·rename_i k n r m
  rw[q.int_inv,s.int_inv]
  split at h
  ·split at h
   ·rename_i o
    simp only[Qa]at h;subst h
    refine⟨_,?_,.int _ _,U,U⟩
    have:¬m<0:=O
    simp[binOp,Op.shift,this]
   ·cases h
  ·split at h
   ·rename_i o
    simp only[Qa]at h;subst h
    refine⟨_,?_,.int _ _,U,U⟩
    have:¬m<0:=O
    simp[binOp,Op.shift,this]
   ·cases h
  ·rename_i u z
   by_cases p:k≠r
   ·rw[if_pos p]at h;cases h
   rw[if_neg p]at h
   have p:k=r:=Classical.not_not.1 p
   subst p
   cases op<;>simp only[reduceCtorEq,Qa]at h<;>
    first
    |(subst h;first
      |exact⟨_,by simp[binOp,Op.intArith,intBits_and,intBits_or,intBits_xor,intBits_andNot,Op.intCmp],.int _ _,U,U⟩
      |exact⟨_,by simp[binOp,Op.intCmp],.bool _,U,U⟩)
    |(exact absurd rfl u)
    |(exact absurd rfl z)
    |(
     split at h
     ·cases h
     ·rename_i f
      simp only[Qa]at h;subst h
      exact⟨_,by simp[binOp,Op.intDiv,f],.int _ _,U,U⟩)
 ·rename_i b c
  rw[q.str_inv,s.str_inv]
  split at h
  ·split at h
   ·rename_i hl
    simp only[Qa]at h;subst h
    refine⟨.string ⟨(b++c).toArray⟩,?_,.str _,U,U⟩
    have:=run_string_add_sum (P:=P) (w:=w) ⟨b.toArray⟩ ⟨c.toArray⟩ (by simpa[ByteArray.size]using hl)
    simp only[binOp,this]
    congr 2
   ·cases h
  all_goals first|(cases h;done)|skip
  all_goals
   simp only[Qa]at h;subst h
   exact⟨_,by simp[binOp,Op.stringOp,ByteArray.toList_mk],.bool _,U,U⟩
 ·cases h
def wL{op:UnOp}{x d:D}{z:Value}(q:Rep w g x z)(h:rX op x=some d):∃v,(Op.unary op z).run P w= .ok v w∧Rep w g d v:=by
 unfold rX at h;split at h
 ·simp only[Qa]at h;subst h;rw[q.int_inv];exact⟨_,by simp[Op.unary,Op.intArith],.int _ _⟩
 ·simp only[Qa]at h;subst h;rw[q.bool_inv];exact⟨_,by simp[Op.unary],.bool _⟩
 ·simp only[Qa]at h;subst h;rw[q.int_inv];exact⟨_,by simp only[Op.unary,intBits_xor];rfl,.int _ _⟩
 ·cases h
end
section
variable{P:Program}{B:Nat}{w0 w:World}{m:Gu}{g:Gh}{fr:Id}{s:Nat->D}{a:Act}
def Gk:TypeDesc->Bool
 | .struct _| .array _ _=>true
 |_=>false
def Ce{t:TypeId}{d:TypeDesc}(k:P.underlying t=some d)(p:Gk d=false){cs:Array Value}{o:Nat}{v:Value}(m:cs[o]?=some v):
  (part t cs o).run P w= .ok v w:=by
 unfold part isAgg;simp only[Sem.run_bind,run_underlying k];cases d<;>simp_all [Gk]
def Em{k:Nat}{x y:D}{z i:Value}{b:Bool}{t:TypeId}{f:TypeDesc}(q:Rep w g x z)(s:Rep w g y i)(h:Ll k x y=some b)(m:P.underlying t=some f)
  (v:(k=0∧∃k,f= .int k)∨(k=1∧f= .bool)∨(k=2∧f= .string)) (n:Nat):(Op.equalIn (n+1) t z i).run P w= .ok b w:=by
 unfold Ll at h;split at h
 ·rename_i k1 a p d;split at h
  ·rename_i o;subst o;simp only[Qa]at h;subst h;rw[q.int_inv,s.int_inv];rcases v with ⟨_,r,rfl⟩|⟨u,_⟩|⟨u,_⟩
   ·exact run_equalIn_int w n t _ _ _ _ m
   ·cases u
   ·cases u
  ·cases h
 ·simp only[Qa]at h;subst h;rw[q.bool_inv,s.bool_inv];rcases v with ⟨u,_⟩|⟨_,rfl⟩|⟨u,_⟩
  ·cases u
  ·exact run_equalIn_bool' w n t _ _ m
  ·cases u
 ·simp only[Qa]at h;subst h;rw[q.str_inv,s.str_inv];rcases v with ⟨u,_⟩|⟨u,_⟩|⟨_,rfl⟩
  ·cases u
  ·cases u
  ·rw[run_equalIn_string w n t _ _ m];simp[ByteArray.toList_mk]
 ·cases h
def L4{xs ys:List D}{vx vy:List Value}(q:AU w g xs vx)(s:AU w g ys vy)(n:Nat):∀{fs:List Field} {l:List (Nat×Nat)} {b:Bool},
  Lt P fs=some l->A8 xs ys l=some b->(Op.eqFields (n+1) vx.toArray vy.toArray fs).run P w= .ok b w
 |[],l,b,h1,h2=>by
  simp only[Lt,Qa]at h1;subst h1;simp only[A8,Qa]at h2;subst h2;rfl
 |f::r,l,b,h1,h2=>by
  unfold Lt at h1;split at h1
  ·cases h1
  rename_i i;have z:∃k u td,P.underlying f.type=some td∧Lt P r=some u∧l=(k,f.offset)::u∧((k=0∧∃k,td= .int k)∨(k=1∧td= .bool)∨(k=2∧td= .string)):=by
   grind
  obtain⟨k,u,td,hu,hl,rfl,j⟩:=z;unfold A8 at h2;split at h2
  ·rename_i x y ex ey;have a:f.offset<vx.length:=by rw[q.1];exact(Qe.1 ex).1
   have c:f.offset<vy.length:=by rw[s.1];exact(Qe.1 ey).1
   have rx:=q.2.2 _ x vx[f.offset] ex (Qc a);have ry:=s.2.2 _ y vy[f.offset] ey (Qc c);have p:Gk td=false:=by rcases j with ⟨_,t,rfl⟩|⟨_,rfl⟩|⟨_,rfl⟩<;>rfl
   have px:=Ce (w:=w) hu p (cs:=vx.toArray) (o:=f.offset) (v:=vx[f.offset]) (by simp[a]);have py:=Ce (w:=w) hu p (cs:=vy.toArray) (o:=f.offset) (v:=vy[f.offset]) (by simp[c]);have ih:=λb' (m:A8 xs ys u=some b')=>L4 q s n hl m
   split at h2
   ·rename_i d;have e:=Em rx ry d hu j n;simp only[Op.eqFields,ne_eq,i,not_false_eq_true,if_true,Sem.run_bind,px,Result.andThen_ok,py,e,Zs,QG,if_false];exact ih b h2
   ·rename_i d;have e:=Em rx ry d hu j n;simp only[Qa]at h2;subst h2;simp only[Op.eqFields,ne_eq,i,not_false_eq_true,if_true,Sem.run_bind,px,Result.andThen_ok,py,e,Zb,if_true,Sem.run_pure]
   ·cases h2
  ·cases h2
def AU.part{ds:List D}{vs:List Value}(h:AU w g ds vs)(o n:Nat):AU w g ((ds.drop o).take n) ((vs.drop o).take n):=by
 refine⟨by simp[h.1],λv m=>h.2.1 v (Qx (QB m)),λj d v p m=>?_⟩;rw[Zt]at p m;split at p
 ·rw[if_pos (by assumption)]at m;rw[Qw]at p m;exact h.2.2 _ d v p m
 ·cases p
def I4{xs ys:List D}{o n:Nat}{l:List (Nat×Nat)}{b:Bool}:∀{s:List (Nat×Nat)},(s.all λp=>decide (p.2<n))=true->A8 xs ys ((s.map λp=>(p.1,o+p.2))++l)=some b->
  ∃u,A8 ((xs.drop o).take n) ((ys.drop o).take n) s=some u∧(u=true->A8 xs ys l=some b)∧(u=false->b=false)
 |[],_,h=>⟨true,rfl,λ_=>h,λh=>Xc⟩
 |(k,q)::r,hn,h=>by
  rw[List.all_cons,QU,decide_eq_true_eq]at hn;obtain⟨j,i⟩:=hn;have c:∀zs:List D,((zs.drop o).take n)[q]?=zs[o+q]?:=λzs=>by
   rw[Zt,if_pos j,Qw]
  simp only[Qs,Q2,A8]at h ⊢;rw[c,c];split at h
  ·rename_i x y w f;revert h;cases Ll k x y with
   |none=>intro h;cases h
   |some v=>
    cases v with
    |true=>intro h;exact I4 i h
    |false=>
     intro h;simp only[Qa]at h;exact⟨false,rfl,λe=>(nomatch e),λ_=>h.symm⟩
  ·cases h
def Hn{t:TypeId}{n:Nat}{v:Array Field}(m:P.underlying t=some (.struct v))(c:CA P t=some n){cs:List Value}{o:Nat}:
  (part t cs.toArray o).run P w= .ok (.agg ((cs.drop o).take n).toArray) w:=by
 unfold CA at c;rw[Qb]at c;obtain⟨i,hi,rfl⟩:=c;unfold part isAgg;simp only[Sem.run_bind,run_underlying m,Result.andThen_ok,Sem.run_pure,if_true];simp[sizeOf,typeInfo,hi,List.extract]
def Fk{xs ys:List D}{vx vy:List Value}(hx:AU w g xs vx)(hy:AU w g ys vy)(n:Nat):∀{fs:List Field} {l:List (Nat×Nat)} {b:Bool},
  E8 P fs=some l->A8 xs ys l=some b->(Op.eqFields (n+2) vx.toArray vy.toArray fs).run P w= .ok b w
 |[],l,b,h1,h2=>by
  simp only[E8,Qa]at h1;subst h1;simp only[A8,Qa]at h2;subst h2;rfl
 |f::r,l,b,h1,h2=>by
  unfold E8 at h1;split at h1
  ·cases h1
  rename_i i;have z:(∃k l' td,P.underlying f.type=some td∧E8 P r=some l'∧l=(k,f.offset)::l'∧((k=0∧∃k,td= .int k)∨(k=1∧td= .bool)∨(k=2∧td= .string)))∨
    ∃d l' l2 sz,P.underlying f.type=some (.struct d)∧E8 P r=some l'∧CA P f.type=some sz∧Lt P d.toList=some l2∧P.stoodInHeld f.type=false∧(l2.all λp=>decide (p.2<sz))=true∧l=(l2.map λp=>(p.1,f.offset+p.2))++l':=by
   split at h1
   ·simp_all
   ·simp_all
   ·simp_all
   ·grind
   ·cases h1
  rcases z with ⟨k,l',td,hu,hl,rfl,j⟩|⟨d,l',l2,sz,hu,hl,ja,ka,t,ia,rfl⟩
  ·unfold A8 at h2;split at h2
   ·rename_i x y ex ey;have a:f.offset<vx.length:=by rw[hx.1];exact(Qe.1 ex).1
    have c:f.offset<vy.length:=by rw[hy.1];exact(Qe.1 ey).1
    have rx:=hx.2.2 _ x vx[f.offset] ex (Qc a);have ry:=hy.2.2 _ y vy[f.offset] ey (Qc c);have s:Gk td=false:=by rcases j with ⟨_,k',rfl⟩|⟨_,rfl⟩|⟨_,rfl⟩<;>rfl
    have px:=Ce (w:=w) hu s (cs:=vx.toArray) (o:=f.offset) (v:=vx[f.offset]) (by simp[a]);have py:=Ce (w:=w) hu s (cs:=vy.toArray) (o:=f.offset) (v:=vy[f.offset]) (by simp[c]);have ih:=λb' (m:A8 xs ys l'=some b')=>Fk hx hy n hl m
    split at h2
    ·rename_i he;have e:=Em rx ry he hu j (n+1);simp only[Op.eqFields,ne_eq,i,not_false_eq_true,if_true,Sem.run_bind,px,Result.andThen_ok,py,e,Zs,QG,if_false];exact ih b h2
    ·rename_i he;have e:=Em rx ry he hu j (n+1);simp only[Qa]at h2;subst h2;simp only[Op.eqFields,ne_eq,i,not_false_eq_true,if_true,Sem.run_bind,px,Result.andThen_ok,py,e,Zb,if_true,Sem.run_pure]
    ·cases h2
   ·cases h2
  ·obtain⟨b2,la,u,hf⟩:=I4 ia h2;have px:=Hn (w:=w) hu ja (cs:=vx) (o:=f.offset);have py:=Hn (w:=w) hu ja (cs:=vy) (o:=f.offset);have q:P.fieldsOf f.type=d:=by simp[Program.fieldsOf,hu]
   have e:(Op.equalIn (n+2) f.type (.agg ((vx.drop f.offset).take sz).toArray) (.agg ((vy.drop f.offset).take sz).toArray)).run P w= .ok b2 w:=by
    rw[run_equalIn_struct w (n+1) f.type _ _ (by rw[q];exact hu) t,q];exact L4 (hx.part f.offset sz) (hy.part f.offset sz) n ka la
   cases b2 with
   |true=>
    simp only[Op.eqFields,ne_eq,i,not_false_eq_true,if_true,Sem.run_bind,px,Result.andThen_ok,py,e,Zs,QG,if_false];exact Fk hx hy n hl (u rfl)
   |false=>
    rw[hf rfl];simp only[Op.eqFields,ne_eq,i,not_false_eq_true,if_true,Sem.run_bind,px,Result.andThen_ok,py,e,Zb,if_true,Sem.run_pure]
def To{xs ys:List D}{z i:Value}{b:Bool}{t:TypeId}{v:Array Field}{l:List (Nat×Nat)}(q:Rep w g (.agg xs) z)(s:Rep w g (.agg ys) i)
  (m:P.underlying t=some (.struct v)) (d:P.stoodInHeld t=false) (p:P.eqGuardType P.depth t=false) (hl:E8 P v.toList=some l) (h:A8 xs ys l=some b) (x y:Operand) (op:BinOp):
  (Op.equal t z i).run P w= .ok b w∧(eqGuard op t x y z i).run P w= .ok () w:=by
 obtain⟨f,rfl,c⟩:=aJ q;obtain⟨u,rfl,n⟩:=aJ s;constructor
 ·have k:P.fieldsOf t=v:=by simp[Program.fieldsOf,m]
  unfold Op.equal Op.maxDepth;rw[run_equalIn_struct w 9999 t _ _ (by rw[k];exact m) d,k];exact Fk c n 9997 hl h
 ·cases op<;>first|rfl|(simp[eqGuard,p])
def PL:Value->Bool
 | .int .. | .string .. | .float .. | .complex ..=>false
 |_=>true
def Tu{t:TypeId}{z i:Value}{b:Bool}(m:PL z=true)(ne:Bool)(h:(Op.equal t z i).run P w= .ok b w):
  (binOp (if ne then .neq else .eql) t z i).run P w= .ok (.bool (b !=ne)) w:=by
 cases ne<;>cases z<;>first|(simp[PL]at m;done)|(cases i<;>simp[binOp,h])
def aBq:Nat->TypeDesc->Prop
 |0,d=>∃e,d= .slice e
 |1,d=>∃e,d= .pointer e
 |2,d=>∃e,d= .interface e
 |3,d=>∃p r v,d= .func p r v
 |_,_=>False
def Wc{k:Nat}{x y:D}{f i:Value}{b:Bool}{t:TypeId}{o:TypeDesc}(d:Rep w g x f)(s:Rep w g y i)(h:L0 k x y=some b)(m:P.underlying t=some o)
  (j:aBq k o) (n:Nat):(Op.equalIn (n+1) t f i).run P w= .ok b w∧PL f=true∧(∀cs,f≠ .agg cs)∧(f= .nilIface->k=2):=by
 unfold L0 at h;split at h<;>first|(exfalso;simp at h;done)|(simp only[Qa]at h;subst h)
 ·obtain⟨e,rfl⟩:=j;obtain⟨ad,c,rfl,rfl⟩:=d.len_slice;obtain⟨a,c',rfl,z⟩:=s.len_slice;have:a=none:=by
   simp_all
  subst this;refine⟨?_,rfl,U,U⟩;cases ad<;>simp[Op.equalIn,run_underlying m]
 ·obtain⟨e,rfl⟩:=j;obtain⟨ad,c,rfl,q⟩:=d.len_slice;obtain⟨a,c',rfl,rfl⟩:=s.len_slice;have:ad=none:=by
   simp_all
  subst this;refine⟨?_,rfl,U,U⟩;simp[Op.equalIn,run_underlying m]
 ·obtain⟨e,rfl⟩:=j;rw[d.nilp_inv,s.nilp_inv];exact⟨Xt,rfl,U,U⟩
 ·obtain⟨e,rfl⟩:=j;obtain⟨b,rfl,_⟩:=s.ptr_inv;rw[d.nilp_inv];exact⟨Xt,rfl,U,U⟩
 ·obtain⟨e,rfl⟩:=j;obtain⟨b,rfl,_⟩:=d.ptr_inv;rw[s.nilp_inv];exact⟨Xt,rfl,U,U⟩
 ·obtain⟨e,rfl⟩:=j;obtain⟨ad,vv,rfl,_⟩:=s.eptr_inv;rw[d.nilp_inv];exact⟨Xt,rfl,U,U⟩
 ·obtain⟨e,rfl⟩:=j;obtain⟨ad,vv,rfl,_⟩:=d.eptr_inv;rw[s.nilp_inv];exact⟨Xt,rfl,U,U⟩
 ·obtain⟨e,rfl⟩:=j;rw[d.nili_inv,s.nili_inv];exact⟨Xt,rfl,U,λ_=>rfl⟩
 ·obtain⟨e,rfl⟩:=j;obtain⟨u,rfl,_,_⟩:=s.iface_inv;rw[d.nili_inv];exact⟨Xt,rfl,U,λ_=>rfl⟩
 ·obtain⟨e,rfl⟩:=j;obtain⟨u,rfl,_,_⟩:=d.iface_inv;rw[s.nili_inv];exact⟨Xt,rfl,U,U⟩
 ·obtain⟨p,r,v,rfl⟩:=j;rw[d.nilf_inv,s.nilf_inv];exact⟨Xt,rfl,U,U⟩
 ·obtain⟨p,r,v,rfl⟩:=j;obtain⟨vs,rfl,_⟩:=s.fn_inv;rw[d.nilf_inv];exact⟨Xt,rfl,U,U⟩
 ·obtain⟨p,r,v,rfl⟩:=j;obtain⟨vs,rfl,_⟩:=d.fn_inv;rw[s.nilf_inv];exact⟨Xt,rfl,U,U⟩
def WQ(op:BinOp)(t:TypeId)(x y:Operand)(f i:Value)(h:∀cs,f≠ .agg cs)(z:f= .nilIface->(Gb x||Gb y)=true)(W:World):(eqGuard op t x y f i).run P W= .ok () W:=by
 cases f with
 |nilIface=>
  have:=z rfl;cases op<;>first|rfl|(cases i<;>first|rfl|(cases x<;>cases y<;>first|rfl|(simp[Gb]at this)))
 |agg c=>exact absurd rfl (h c)
 |_=>cases op<;>rfl
end
def pW{P:Program}{t n:Nat}(h:CA P t=some n):∃i,P.info? t=some i∧i.size=n:=by
 simp_all [CA]
def GC{P:Program}{t n:Nat}(h:CA P t=some n)(w:World):(sizeOf t).run P w= .ok n w:=by
 obtain⟨i,hi,rfl⟩:=pW h;simp[sizeOf,typeInfo,hi]
def Hi{P:Program}{t:TypeId}{d:TypeDesc}(h:P.underlying t=some d)(w:World):(isAgg t).run P w= .ok (Gk d) w:=by
 unfold isAgg;simp only[Sem.run_bind,run_underlying h,Result.andThen_ok];cases d<;>rfl
def Rep.un1{w:World}{g:Gh}{d:D}{v:Value}(h:Rep w g d v):Rep w g d.un1 v:=by
 cases h with
 |nils t=>exact .nils []
 |slice t xs a n c sz p u z y r m e j h8 x=>exact .slice [] xs a n c sz p u z y r m e j (λh=>absurd rfl h) x
 |junk v=>exact .junk v
 |bool b=>exact .bool b
 |int k n=>exact .int k n
 |str s=>exact .str s
 |ptr i o b u=>exact .ptr i o b u
 |row i n c b q u=>exact .row i n c b q u
 |eptr ds a p u z y r m=>exact .eptr ds a p u z y r m
 |nilp=>exact .nilp
 |agg ds vs u z y=>exact .agg ds vs u z y
 |tup ds vs u z=>exact .tup ds vs u z
 |iface t d v u z=>exact .iface t d v u z
 |nili=>exact .nili
 |fn f ds vs u z=>exact .fn f ds vs u z
 |nilf=>exact .nilf
 |nilm=>exact .nilm
 |itp i b u=>exact .itp i b u
def Rep.un{w:World}{g:Gh}{d:D}{v:Value}(h:Rep w g d v):Rep w g d.un v:=by
 cases d with
 |agg cs=>
  obtain⟨vs,rfl,u,z,i⟩:=aJ h;refine .agg _ vs (by simp[u]) z (λj d v p m=>?_);rw[Qi,Qb]at p;obtain⟨a,qa,rfl⟩:=p;exact(i j a v qa m).un1
 |slice nl t xs=>exact h.un1
 |_=>exact h
def aE4{d:D}(h:d.data=true):d.un.data=true:=by cases d<;>first|exact h|rfl
theorem OX(d:D):d.un.cells.length=d.cells.length:=by cases d<;>simp[D.un,D.cells]
def Py{P:Program}{t:TypeId}(h:mC P t=some none):∃d,P.underlying t=some d∧Gk d=false:=by
 unfold mC at h;split at h
 ·simp at h
 ·simp at h
 ·rename_i d n1 n2 p;refine⟨d,p,?_⟩;cases d<;>first|rfl|(exact absurd rfl (n1 _))|(exact absurd rfl (n2 _ _))
 ·cases h
def Px{P:Program}{t n:Nat}(h:mC P t=some (some n)):∃d,P.underlying t=some d∧Gk d=true∧CA P t=some n:=by
 unfold mC at h;split at h
 ·rename_i p;simp only[Qb,Qa]at h;obtain⟨x,q,rfl⟩:=h;exact⟨_,p,rfl,q⟩
 ·rename_i p;simp only[Qb,Qa]at h;obtain⟨x,q,rfl⟩:=h;exact⟨_,p,rfl,q⟩
 ·simp at h
 ·cases h
def B6{sz:Nat}:∀{xs:List D},(∀d∈xs,d.cells.length=sz)->(flat xs).length=xs.length*sz
 |[],_=>XN
 |x::r,h=>by
  have ih:=B6 (xs:=r) (λd p=>h d (Qq _ p));simp only[flat,Zu,Qo,ih,h x (Qn ..),QQ,Nat.one_mul];omega
theorem D_{sz:Nat}:∀{xs:List D} {k j:Nat},(∀d∈xs,d.cells.length=sz)->(g:k<xs.length)->j<sz->(flat xs)[k*sz+j]?=(xs[k]).cells[j]?
 |x::r,0,j,h,g,hj=>by
  simp only[flat,Nat.zero_mul,Qu,List.getElem_cons_zero];rw[Qm (by rw[h x (Qn ..)];exact hj)]
 |x::r,k+1,j,h,g,hj=>by
  have q:=h x (Qn ..);have ih:=D_ (xs:=r) (k:=k) (j:=j) (λd p=>h d (Qq _ p)) (by simpa using g) hj;simp only[flat,List.getElem_cons_succ];rw[QF (by rw[q,QQ];omega),q,←ih];congr 1;rw[QQ];omega
def SN{sz:Nat}:∀{xs:List D} (l:Nat),(∀d∈xs,d.cells.length=sz)->flat (xs.drop l)=(flat xs).drop (l*sz)
 |[],l,_=>XN
 |x::r,0,_=>U
 |x::r,l+1,h=>by
  have q:=h x (Qn ..);rw[List.drop_succ_cons,SN l (λd p=>h d (Qq _ p))];simp only[flat];rw[show(l+1)*sz=x.cells.length+l*sz by rw[q,QQ];omega,←Zo,List.drop_left]
def Ig:∀(xs ys:List D),flat (xs++ys)=flat xs++flat ys
 |[],ys=>XN
 |x::r,ys=>by simp[flat,Ig r ys]
def RE{sz:Nat}{xs:List D}{n:Nat}{j:Nat}{d:D}(h:(flat (xs.take n))[j]?=some d):(flat xs)[j]?=some d:=by
 have e:flat xs=flat (xs.take n)++flat (xs.drop n):=by rw[←Ig,List.take_append_drop]
 rw[e,Qm (Qe.1 h).1];exact h
def uA(l:List UInt8)(n:Nat):(ByteArray.mk l.toArray)[n]?=l[n]?:=by
 by_cases h:n<l.length
 ·rw[Qc h];rw[getElem?_pos (ByteArray.mk l.toArray) n (by simpa[ByteArray.size]using h)];rfl
 ·rw[Qj O];exact getElem?_neg (ByteArray.mk l.toArray) n (by simpa[ByteArray.size]using h)
def RJ(l:List UInt8)(a b:Nat):(ByteArray.mk l.toArray).extract a b=⟨((l.drop a).take (b-a)).toArray⟩:=by
 apply ByteArray.ext;rw[ByteArray.data_extract];simp[Q7,QV]
section
variable{P:Program}{B:Nat}{w0 w:World}{m:Gu}{g:Gh}{fr:Id}{s:Nat->D}{a:Act}
theorem Fa(h:Dx w g s a){x:Option Operand}{y:Option Gz}(d:HM x=some y){b v n:Nat}(f:Fc s y b v=some n):
  (x=none∧n=b∧y=none)∨(∃o k,x=some o∧a.eval o= .int k (n:Int)∧n<=v):=by
 cases x with
 |none=>
  simp only[HM,Qa]at d;subst d;simp only[Fc,Qa]at f;exact .inl ⟨rfl,f.symm,rfl⟩
 |some o=>
  simp only[HM,Qb]at d;obtain⟨z,m,rfl⟩:=d;have i:=h.arg m;simp only[Fc]at f;split at f
  ·rename_i k q r;rw[r]at i;split at f
   ·rename_i p;simp only[Qa]at f;refine .inr ⟨o,k,rfl,?_,O⟩;rw[i.int_inv];congr 1;omega
   ·cases f
  ·cases f
def D9(h:Dx w g s a){lo hi:Option Operand}{q j:Option Gz}(e:HM lo=some q)(ta:HM hi=some j)(x:Bool){len cap l n:Nat}(y:len<=cap)
  (z:Fc s j len len=some n) (v:Fc s q 0 n=some l):
  (Instr.sliceBounds x len cap (lo.map a.eval) (hi.map a.eval) none).run P w= .ok (l,n,cap) w∧l<=n∧n<=len:=by
 have m:n<=len:=by
  grind [Fa]
 have b:l<=n:=by
  grind [Fa]
 refine⟨?_,b,m⟩;unfold Instr.sliceBounds;rcases Fa h ta z with ⟨rfl,rfl,_⟩|⟨o,k,rfl,f,u⟩<;>rcases Fa h e v with ⟨rfl,rfl,_⟩|⟨o',p,rfl,c,r⟩
 ·simp
 ·simp[Instr.sliceBound,asIntOf,c];intro;omega
 ·simp[Instr.sliceBound,asIntOf,f];intro;omega
 ·simp[Instr.sliceBound,asIntOf,f,c];rw[if_pos O];simp;intro;omega
end
section
variable{P:Program}{B:Nat}{w0 w:World}{m:Gu}{g:Gh}{fr:Id}{s:Nat->D}{a:Act}
theorem Bn:∀{n o:Nat} {i:Id} {ds:List D},Ag m i o n=some ds->ds.length=n∧∀j,j<n->m i (o+j)=ds[j]?
 |0,o,i,ds,h=>by simp only[Ag,Qa]at h;subst h;simp
 |n+1,o,i,ds,h=>by
  unfold Ag at h;split at h
  ·rename_i d s;rw[Qb]at h;obtain⟨r,hr,rfl⟩:=h;obtain⟨p,q⟩:=Bn hr;refine⟨by simp[p],λj t=>?_⟩;cases j with
   |zero=>simpa using s
   |succ j=>
    have:=q j O;rw[show o+(j+1)=o+1+j by omega,this];simp
  ·cases h
def GD.cells(h:GD P B w0 m w g){i:Id}{b o n:Nat}{ds:List D}(f:g.dl i=some b)(t:Ag m i o n=some ds):
  ∃vs:List Value,AU w g ds vs∧∀j v,vs[j]?=some v->w.cell? ⟨b,o+j,none⟩=some v:=by
 obtain⟨_,_,cs,T,y,r⟩:=h.obj i b f;obtain⟨hl,a⟩:=Bn t;have z:∀j,j<n->∃d v,ds[j]?=some d∧cs[o+j]?=some v∧v.oneCell'=true∧Rep w g d v:=by
  simp_all
 refine⟨(Qt n).map λj=>cs.getD (o+j) undef,⟨by simp[hl],λv x=>?_,λj d v p x=>?_⟩,λj v x=>?_⟩
 ·rw[Qv]at x;obtain⟨j,q,rfl⟩:=x;obtain⟨d,v,_,s,e,_⟩:=z j (Ql.1 q);rw[Qh,s];exact e
 ·have q:j<n:=by have:=(Qe.1 p).1;omega
  obtain⟨d',c,u,s,e,k⟩:=z j q;rw[u]at p;simp only[Qa]at p;subst p;rw[Qi,Zq q,QY,Qa,Qh,s]at x;subst x;exact k
 ·have q:j<n:=by have:=(Qe.1 x).1;simpa using this
  obtain⟨d',c,u,s,e,k⟩:=z j q;rw[Qi,Zq q,QY,Qa,Qh,s]at x;subst x;simp[World.cell?,y,s]
def GD.cell(h:GD P B w0 m w g){i:Id}{b o:Nat}{d:D}(f:g.dl i=some b)(k:m i o=some d):
  ∃v,w.cell? ⟨b,o,none⟩=some v∧v.oneCell'=true∧Rep w g d v:=by
 obtain⟨_,_,cs,T,n,r⟩:=h.obj i b f;obtain⟨v,t,e,x⟩:=r _ _ k;exact⟨v,by simp[World.cell?,n,t],e,x⟩
def EE(b o j:Nat):(⟨b,o,none⟩:Addr).add j=⟨b,o+j,none⟩:=by unfold Addr.add;split<;>simp_all
def DF{t:TypeId}(g:mC P t=some none){ad:Addr}{v:Value}(y:w.cell? ad=some v):(loadVar t ad).run P w= .ok v w:=by
 obtain⟨d,m,p⟩:=Py g;simp[loadVar,Hi m,p,y]
def Ea{t n:Nat}(o:mC P t=some (some n)){ad:Addr}{vs:List Value}(hl:vs.length=n)(y:∀j v,vs[j]?=some v->w.cell? (ad.add j)=some v):
  (loadVar t ad).run P w= .ok (.agg vs.toArray) w:=by
 obtain⟨d,m,p,g⟩:=Px o;subst hl;simp[loadVar,Hi m,p,GC g,run_loadCells_list w ad vs y]
def Rt{t n:Nat}(g:CA P t=some n){b o:Nat}{cs:Array Value}{T:TypeId}(y:w.heap[b]?=some (.cells cs T (0,0))){v:Value}(m:v.cells.size=n)
  (q:∀u∈v.cells.toList,u.oneCell'=true) (s:o+n<=cs.size):
  (storeVar t ⟨b,o,none⟩ v).run P w= .ok () (w.setRow b (cs.toList.take o++v.cells.toList++cs.toList.drop (o+v.cells.toList.length)).toArray):=by
 unfold storeVar;simp only[Sem.run_bind,GC g,Result.andThen_ok];rw[if_neg (by simp[m])];have:=run_storeCells_at (P:=P) b o T v.cells.toList 0 cs w y (by simp[m];omega) q;simpa using this
def F8(e:TypeId)(cells:Array Value)(w:World):(newRow e cells).run P w= .ok ⟨w.heap.size,0,none⟩ (w.alloc (.cells cells e)):=by
 simp only[newRow,Sem.run_bind,run_newObj,Result.andThen_ok,Sem.run_pure];rfl
def AU.flat{sz:Nat}:∀{xs:List D} {vs:List Value},(∀d∈xs,d.data=true∧d.cells.length=sz)->vs.length=xs.length->(∀(j:Nat) d v,xs[j]?=some d->vs[j]?=some v->Rep w g d v)->
  AU w g (flat xs) (vs.flatMap λv=>v.cells.toList)
 |[],vs,_,hl,_=>by
  have:vs=[]:=QM Xj;subst this;exact AU.nil w g
 |x::r,[],_,hl,_=>by cases hl
 |x::r,v::vs,h,hl,hr=>by
  have f:=hr 0 x v rfl rfl;simp only[Vd.flat,Zd];exact AU.append (f.cells (h x (Qn ..)).1) (AU.flat (λd p=>h d (Qq _ p)) Xj (λj d u p m=>hr (j+1) d u (by simpa using p) (by simpa using m)))
def aH{t:Id}{xs:List D}{vs:List Value}{b n c sz:Nat}{cur:Array Value}{T:TypeId}{fz:Nat×Nat}(hh:w.heap[b]?=some (.cells cur T fz))(o:n=xs.length)(y:n<=c)
  (q:∀d∈xs,d.cells.length=sz) (i:AU w g (flat xs) vs) (m:∀(j:Nat) v,vs[j]?=some v->cur[j]?=some v) (r:n*sz<=g.G b) (u:t≠[]->g.tb t=some (b,n,c,sz)) (k:∀d∈xs,d.calm=true):
  Rep w g (.slice false t xs) (.slice (some ⟨b,0,none⟩) n c):=by
 have wa:=B6 q;have z:vs.length=n*sz:=by rw[i.1,wa,o]
 refine .slice t xs ⟨b,0,none⟩ n c sz (λj=>vs.getD j undef) o y q (λj s=>?_) (λj s=>?_) (λj d p=>?_) (λ_=>Xz) (λh=>⟨rfl,rfl,u h⟩) k
 ·have x:j<vs.length:=by omega
  rw[EE,Qu];have:=m j vs[j] (Qc x);simp[World.cell?,hh,this,Q0,Qc x]
 ·have x:j<vs.length:=by omega
  simp only[Q0,Qc x,QE];exact i.2.1 _ (Q1 x)
 ·have x:j<vs.length:=by have:=(Qe.1 p).1;rw[i.1];exact this
  simp only[Q0,Qc x,QE];exact i.2.2 j d _ p (Qc x)
def NO:∀(vs:List Value)(k:Nat)(off:Nat)(cs:Array Value),off+k+vs.length<=cs.size->
  ((vs.zipIdx k).foldl (λcs (x:Value×Nat)=>cs.setIfInBounds (off+x.2) x.1) cs).toList=cs.toList.take (off+k)++vs++cs.toList.drop (off+k+vs.length)
 |[],k,off,cs,_=>U
 |v::r,k,off,cs,h=>by
  simp only[List.zipIdx_cons,Q8];rw[NO r (k+1) off (cs.setIfInBounds (off+k) v) (by simp at h ⊢;omega)];simp only[Array.toList_setIfInBounds,Qo];have hl:off+k<cs.toList.length:=by simp at h ⊢;omega
  rw[show off+(k+1)=off+k+1 by omega];rw[List.take_succ_eq_append_getElem Xj];rw[List.take_set_of_le O];rw[List.drop_set_of_lt O];simp only[List.getElem_set_self,QK,Q2,Zl];rw[show off+k+1+r.length=off+k+(r.length+1)by omega]
def EK(vs:Array Value)(off:Nat)(cs:Array Value)(h:off+vs.size<=cs.size):
  (vs.zipIdx.foldl (λcs (x:Value×Nat)=>cs.setIfInBounds (off+x.2) x.1) cs).toList=cs.toList.take off++vs.toList++cs.toList.drop (off+vs.toList.length):=by
 have:=NO vs.toList 0 off cs Xn;rw[←Array.foldl_toList,Array.toList_zipIdx];simpa using this
end
structure At (P:Program) (B:Nat) (w0 w:World) (m:Gu) (g:Gh) (fr:Id) (s:Nat->D) (a:Act):Prop where
 inv:GD P B w0 m w g
 slots:Dx w g s a
 fresh:∀i,fr<:+i->BN m g i
section
variable{P:Program}{B:Nat}{w0 w:World}{m:Gu}{g:Gh}{fr:Id}{s:Nat->D}{a:Act}{S:Gq}{d:D}{u:GA}
def At.self(h:At P B w0 w m g fr s a):BN m g fr:=h.fresh fr (List.suffix_refl fr)
def En{i:Id}(k:BN m g i)(j:¬fr<:+i)(ds:List D)(b:Nat):BN (m.put fr 0 ds) (g.obj fr b) i:=by
 have:i≠fr:=λe=>j Yh
 exact⟨λo=>by rw[aA this];exact k.1 o,by simp only[Gh.obj];rw[if_neg this];exact k.2.1,k.2.2⟩
def CD{i:Id}(k:BN m g i)(j:¬fr<:+i)(x b n c sz:Nat):BN (m.put fr 0 [.tok x]) (g.tok fr b n c sz) i:=by
 have:i≠fr:=λe=>j Yh
 exact⟨λo=>by rw[aA this];exact k.1 o,k.2.1,by simp only[Gh.tok];rw[if_neg this];exact k.2.2⟩
def iO{t:TypeId}{o:Oper}(h:At P B w0 w m g fr s a){z:D}(d:CJ P t=some z)(b:o.op= .alloc t):
  CG P B w0 m g fr w (m.put fr 0 z.cells) (.ptr fr 0) (execOp a.eval o):=by
 unfold CJ at d;split at d
 ·rename_i i hi;split at d
  ·rename_i v x;have n:Rep w g z v:=Rep.ofVal d;have p:z.data=true:=by
    cases v<;>first|(simp only[ofVal,Qb]at d;obtain⟨l,_,rfl⟩:=d;rfl)|(simp only[ofVal]at d;exact NU d)
   have y:=n.cells p;refine⟨.pointer (some ⟨w.heap.size,0,none⟩),w.alloc (.cells v.cells t),g.obj fr w.heap.size,.value (.pointer (some ⟨w.heap.size,0,none⟩)),?_,.inl rfl,?_⟩
   ·simp only[execOp,b,Instr.alloc,zeroValue,Sem.run_bind,typeInfo,run_program,Result.andThen_ok,hi,x,Sem.run_pure,newVar,F8]
   ·have:=h.inv.newObj h.self (ds:=z.cells) (vs:=v.cells.toList) t y;rw[QC]at this;exact⟨this,GR.newObj _ h.inv.gz h.self.2.1,Rep.newObj _ g fr _,λi k j=>En k j _ _⟩
  ·cases d
 ·cases d
def aBl{t:TypeId}{o:Oper}{x:Operand}{y:Gz}(h:At P B w0 w m g fr s a)(q:AB x=some y)(p:(y.ev s).data=true)(e:o.op= .box t x):
  CG P B w0 m g fr w (m.put fr 0 (y.ev s).cells) (.ptr fr 0) (execOp a.eval o):=by
 have n:=h.slots.arg q;have k:=n.cells p;refine⟨.pointer (some ⟨w.heap.size,0,none⟩),w.alloc (.cells (a.eval x).cells t),g.obj fr w.heap.size,.value (.pointer (some ⟨w.heap.size,0,none⟩)),?_,.inl rfl,?_⟩
 ·simp only[execOp,e,Instr.box,Sem.run_bind,Result.andThen_ok,Sem.run_pure,newVar,F8]
 ·have:=h.inv.newObj h.self (ds:=(y.ev s).cells) (vs:=(a.eval x).cells.toList) t k;rw[QC]at this;exact⟨this,GR.newObj _ h.inv.gz h.self.2.1,Rep.newObj _ g fr _,λi b j=>En b j _ _⟩
def sH{t:TypeId}{o:Oper}{x:Operand}{y:Gz}{k:Option Nat}(h:At P B w0 w m g fr s a)(hk:mC P t=some k)(q:AB x=some y)(ho:o.op= .load t x)
  (r:Aw S s m fr (.load k y)=some (d,u)):u=[]∧CG P B w0 m g fr w m d (execOp a.eval o):=by
 have hr:=h.slots.arg q;have ma:∀ad v,a.eval x= .pointer (some ad)->(loadVar t ad).run P w= .ok v w->(execOp a.eval o).run P w= .ok (.value v) w:=by
  intro ad v e1 e2;simp only[execOp,ho,Instr.loadAt,e1,Instr.sureAddr,Sem.run_bind,Result.andThen_ok,Sem.run_pure,e2]
 simp only[Aw]at r;split at r
 ·rename_i i o' e;rw[e]at hr;obtain⟨b,e1,f⟩:=hr.ptr_inv;rw[Qb]at r;obtain⟨d',z,r⟩:=r;simp only[Qd]at r;obtain⟨rfl,rfl⟩:=r;obtain⟨v,c1,c2,c3⟩:=h.inv.cell f z;exact⟨rfl,.pure h.inv (ma _ _ e1 (DF hk c1)) c3⟩
 ·rename_i i o' n e;rw[e]at hr;obtain⟨b,e1,f⟩:=hr.ptr_inv;rw[Qb]at r;obtain⟨ds,z,r⟩:=r;simp only[Qd]at r;obtain⟨rfl,rfl⟩:=r;obtain⟨vs,c1,c2⟩:=h.inv.cells f z;have hl:=(Bn z).1;exact⟨rfl,.pure h.inv (ma _ _ e1 (Ea hk (by rw[c1.1,hl]) (λj v hv=>by rw[EE];exact c2 j v hv))) (aK c1)⟩
 ·rename_i ds e;rw[e]at hr;obtain⟨ad,vv,e1,q1,q2,q3,q4,q5⟩:=hr.eptr_inv;rw[Qb]at r;obtain⟨d',z,r⟩:=r;simp only[Qd]at r;obtain⟨rfl,rfl⟩:=r;have h0:ds[0]?=some d':=by rw[←List.head?_eq_getElem?];exact z
  have hl:0<ds.length:=(Qe.1 h0).1;exact⟨rfl,.pure h.inv (ma _ _ e1 (DF hk (by have:=q1 0 hl;simpa[Addr.add]using this))) (q3 0 _ h0)⟩
 ·rename_i ds n e;rw[e]at hr;obtain⟨ad,vv,e1,q1,q2,q3,q4,q5⟩:=hr.eptr_inv;split at r
  ·rename_i c;simp only[Qa,Qd]at r;obtain⟨rfl,rfl⟩:=r;have ba:((Qt n).map vv).length=n:=by simp
   refine⟨rfl,.pure h.inv (ma _ _ e1 (Ea hk ba (λj v hv=>?_))) (aK ⟨Xb,λv hv=>?_,λj d v p hv=>?_⟩)⟩
   ·grind
   ·grind
   ·grind
  ·cases r
 ·cases r
theorem iH{t:TypeId}{o:Oper}{x v:Operand}{y z:Gz}{n:Nat}(h:At P B w0 w m g fr s a)(hn:CA P t=some n)(ta:0<n)(q:AB x=some y)(hv:AB v=some z)(ho:o.op= .store t x v)
  (r:Aw S s m fr (.store n y z)=some (d,u)):CG P B w0 m g fr w (GA.app m u) d (execOp a.eval o):=by
 have hr:=h.slots.arg q;have k:=h.slots.arg hv;simp only[Aw]at r;split at r
 ·rename_i i o' e;rw[e]at hr;obtain⟨b,e1,hb⟩:=hr.ptr_inv;split at r
  ·rename_i hc;obtain⟨c1,c2,c3⟩:=hc;simp only[Qa,Qd]at r;obtain⟨rfl,rfl⟩:=r;rw[Zf]at c3;obtain⟨p,f⟩:=c3;obtain⟨vs,r1,r2⟩:=h.inv.cells hb f;obtain⟨_,_,cs,T,hh,ua⟩:=h.inv.obj i b hb;have c:=k.cells c1;have ja:(a.eval v).cells.size=n:=by have:=c.1;simp at this;omega
   have sa:o'+n<=cs.size:=by
    have hl:=(Bn f).1;have j:vs[n-1]?=some (vs[n-1]'(by rw[r1.1];omega)):=Qc _;have:=r2 (n-1) _ j;simp only[World.cell?,hh]at this;have:=(Qf.1 (by simpa using this)).1;omega
   refine⟨undef,w.setRow b (cs.toList.take o'++(a.eval v).cells.toList++cs.toList.drop (o'+(a.eval v).cells.toList.length)).toArray,g,.skip,?_,.inr ⟨rfl,rfl⟩,?_⟩
   ·have:=Rt hn hh (v:=a.eval v) ja c.2.1 sa;simp only[execOp,ho,Instr.storeAt,e1,Instr.sureAddr,Sem.run_bind,Result.andThen_ok,Sem.run_pure,this]
   ·have hG:=(h.inv.obj i b hb).2.1;refine⟨?_,GR.setRow hG,.junk _,λi' hf ga=>?_⟩
    ·exact h.inv.store hb hh (ds:=(z.ev s).cells) (us:=(a.eval v).cells.toList) c O
    ·refine⟨λo=>?_,hf.2⟩;simp only[GA.app];rw[aA (by rintro rfl;rw[hf.2.1]at hb;cases hb)];exact hf.1 o
  ·cases r
 ·cases r
end
section
variable{P:Program}{B:Nat}{w0 w:World}{m:Gu}{g:Gh}{fr:Id}{s:Nat->D}{a:Act}{S:Gq}{d:D}{u:GA}
def iM{t:TypeId}{f:Nat}{o:Oper}{x:Operand}{y:Gz}{v:Array Field}{fd:Field}{n:Nat}(h:At P B w0 w m g fr s a)(z:P.underlying t=some (.struct v))(hf:v[f]?=some fd)
  (c:CA P fd.type=some (n+1)) (q:AB x=some y) (ho:o.op= .fieldAddr t x f) (r:Aw S s m fr (.faddr fd.offset y)=some (d,u)):u=[]∧CG P B w0 m g fr w m d (execOp a.eval o):=by
 have hr:=h.slots.arg q;have k:∀ad,a.eval x= .pointer (some ad)->(execOp a.eval o).run P w= .ok (.value (.pointer (some (ad.add fd.offset)))) w:=by
  intro ad e;simp[execOp,ho,Instr.fieldAt,run_underlying z,hf,e,Instr.sureAddr,fieldPlace,GC c]
 simp only[Aw]at r;split at r
 ·rename_i i o' e;rw[e]at hr;obtain⟨b,e1,hb⟩:=hr.ptr_inv;simp only[Qa,Qd]at r;obtain⟨rfl,rfl⟩:=r;refine⟨rfl,.pure h.inv (k _ e1) ?_⟩;rw[EE];exact .ptr i _ b hb
 ·rename_i ds e;rw[e]at hr;obtain⟨ad,vv,e1,q1,q2,q3,q4,q5⟩:=hr.eptr_inv;split at r
  ·rename_i hl;simp only[Qa,Qd]at r;obtain⟨rfl,rfl⟩:=r;refine⟨rfl,.pure h.inv (k _ e1) (.eptr _ _ (λj=>vv (fd.offset+j)) (λj hj=>?_) (λj hj=>?_) (λj d p=>?_) (λhp=>?_) (λd p=>q5 d (Qx p)))⟩
   ·grind [add_add]
   ·grind
   ·simp_all
   ·rw[C6,Ff];simp at hp ⊢;have:=q4 O;omega
  ·cases r
 ·cases r
def iL{t:TypeId}{f:Nat}{o:Oper}{x:Operand}{y:Gz}{ba:Array Field}{fd:Field}{k:Option Nat}(h:At P B w0 w m g fr s a)(z:P.underlying t=some (.struct ba))(hf:ba[f]?=some fd)
  (hk:mC P fd.type=some k) (q:AB x=some y) (ho:o.op= .field t x f) (r:Aw S s m fr (.field k fd.offset y)=some (d,u)):u=[]∧CG P B w0 m g fr w m d (execOp a.eval o):=by
 have i:=h.slots.arg q;simp only[Aw]at r;split at r
 ·rename_i cs e;rw[e]at i;obtain⟨vs,e1,r1⟩:=aJ i;rw[Qb]at r;obtain⟨d',p,r⟩:=r;simp only[Qd]at r;obtain⟨rfl,rfl⟩:=r;obtain⟨td,c,b⟩:=Py hk;have hv:fd.offset<vs.length:=by rw[r1.1];exact(Qe.1 p).1
  refine⟨rfl,.pure (v:=vs[fd.offset]) h.inv ?_ (r1.2.2 _ _ _ p (Qc hv))⟩;have:=Ce (w:=w) c b (cs:=vs.toArray) (o:=fd.offset) (v:=vs[fd.offset]) (by simp[hv]);simp[execOp,ho,Instr.field,run_underlying z,hf,e1,asAgg,this]
 ·rename_i cs n e;rw[e]at i;obtain⟨vs,e1,r1⟩:=aJ i;split at r
  ·rename_i hl;simp only[Qa,Qd]at r;obtain⟨rfl,rfl⟩:=r;obtain⟨td,c,b,hs⟩:=Px hk;refine⟨rfl,.pure (v:= .agg ((vs.drop fd.offset).take n).toArray) h.inv ?_ (aK ⟨by simp[r1.1],λv hv=>?_,λj d v p hv=>?_⟩)⟩
   ·simp only[execOp,ho,Instr.field,Sem.run_bind,run_underlying z,hf,e1,asAgg,part,Hi c,b,Result.andThen_ok,GC hs,Sem.run_pure,if_true];congr 3;simp[Q7,QV]
   ·exact r1.2.1 v (Qx (QB hv))
   ·have hj:j<n:=by
     rcases Zv j n with h1|h1
     ·exact h1
     ·rw[Qj Xb]at p;cases p
    rw[Qp hj,Qw]at p hv;exact r1.2.2 _ d v p hv
  ·cases r
 ·cases r
def Ly{d:D}(h:d.calm=true):∀x∈d.cells,x.calm=true:=by
 intro x q;have p:∀x:D,x.calm1=true->x.calm=true:=by
  intro x q;cases x<;>first|exact q|(simp[D.calm1]at q)
 cases d with
 |agg cs=>exact p x (Qy.1 h x q)
 |_=>simp only[D.cells,Q_]at q;subst q;exact h
def iJ{t e:TypeId}{o:Oper}{x i:Operand}{y z:Gz}{sz:Nat}(h:At P B w0 w m g fr s a)(hu:P.underlying t=some (.slice e))(hs:CA P e=some sz)
  (hx:AB x=some y) (hi:AB i=some z) (ho:o.op= .indexAddr t x i) (he:Aw S s m fr (.iaddr sz y z)=some (d,u)):u=[]∧CG P B w0 m g fr w m d (execOp a.eval o):=by
 have hr:=h.slots.arg hx;have aa:=h.slots.arg hi;simp only[Aw]at he;split at he
 ·rename_i nl t' xs k n ex ei;rw[ex]at hr;rw[ei]at aa;split at he
  ·rename_i h0;split at he
   ·rename_i d' hd;split at he
    ·rename_i ja;simp only[Qa,Qd]at he;obtain⟨rfl,rfl⟩:=he;have ea:n.toNat<xs.length:=(Qe.1 hd).1;rcases hr.slice_inv with ⟨_,rfl,_⟩|⟨rfl,ad,n',c,pa,vv,ev,rfl,h2,h3,h4,h5,h6,h7,h8,h9⟩
     ·simp at ea
     ·have p:d'∈xs:=Qr hd;have:pa=sz:=by rw[←h3 d' p];exact ja
      subst this;have qa:xs[n.toNat]=d':=by rw[Qc ea]at hd;simpa using hd
      have q:n.toNat*pa+pa<=xs.length*pa:=by rw[←Zw];exact QA _ ea
      refine⟨rfl,.pure (v:= .pointer (some (ad.add (n.toNat*pa)))) h.inv ?_ (.eptr _ _ (λj=>vv (n.toNat*pa+j)) (λj hj=>?_) (λj hj=>?_) (λj d2 r=>?_) (λhp=>?_) (Ly (h9 d' p)))⟩
      ·have la:(0:Int)<=n∧n<(xs.length:Int):=by omega
       simp[execOp,ho,Instr.indexAt,asIntOf,aa.int_inv,ev,run_underlying hu,la,GC hs]
      ·grind [add_add]
      ·exact h5 _ O
      ·grind [D_]
      ·rw[C6,Ff];have hz:0<xs.length*pa:=by omega
       have:=h7 hz;omega
    ·cases he
   ·cases he
  ·cases he
 ·rename_i i' l k n ex ei;rw[ex]at hr;rw[ei]at aa;split at he
  ·rename_i hc;obtain⟨h0,ea⟩:=hc;simp only[Qa,Qd]at he;obtain⟨rfl,rfl⟩:=he;obtain⟨b,cap,ev,_,hb⟩:=hr.row_inv;have db:(if sz=1 then n.toNat else n.toNat*sz)=n.toNat*sz:=by
    simp_all
   rw[db];have f:(Addr.mk b 0 none).add (n.toNat*sz)=⟨b,n.toNat*sz,none⟩:=by rw[EE,Qu]
   refine⟨rfl,.pure (v:= .pointer (some ⟨b,n.toNat*sz,none⟩)) h.inv ?_ (.ptr _ _ b hb)⟩;have la:(0:Int)<=n∧n<(l:Int):=⟨h0,ea⟩;simp only[←f];simp[execOp,ho,Instr.indexAt,asIntOf,aa.int_inv,ev,run_underlying hu,la,GC hs]
  ·cases he
 ·cases he
def sI{t:TypeId}{o:Oper}{x i:Operand}{y z:Gz}(h:At P B w0 w m g fr s a)(hu:P.underlying t=some .string)
  (q:AB x=some y) (hi:AB i=some z) (e:o.op= .index t x i) (r:Aw S s m fr (.idxs y z)=some (d,u)):u=[]∧CG P B w0 m g fr w m d (execOp a.eval o):=by
 have hr:=h.slots.arg q;have aa:=h.slots.arg hi;simp only[Aw]at r;split at r
 ·rename_i b k n j ei;rw[j]at hr;rw[ei]at aa;split at r
  ·rename_i f;rw[Qb]at r;obtain⟨c,p,r⟩:=r;simp only[Qd]at r;obtain⟨rfl,rfl⟩:=r;refine⟨rfl,.pure (v:= .int .u8 c.toNat) h.inv ?_ (.int _ _)⟩;simp[execOp,e,Instr.index,asIntOf,aa.int_inv,hr.str_inv,run_underlying hu,f,uA,p]
  ·cases r
 ·cases r
def sK{t e:TypeId}{len:Nat}{o:Oper}{x i:Operand}{y z:Gz}(h:At P B w0 w m g fr s a)(hu:P.underlying t=some (.array len e))(hk:mC P e=some none)(hs:CA P e=some 1)
  (q:AB x=some y) (hi:AB i=some z) (ho:o.op= .index t x i) (r:Aw S s m fr (.idxa len y z)=some (d,u)):u=[]∧CG P B w0 m g fr w m d (execOp a.eval o):=by
 have hr:=h.slots.arg q;have aa:=h.slots.arg hi;simp only[Aw]at r;split at r
 ·rename_i cs k n ex ei;rw[ex]at hr;rw[ei]at aa;split at r
  ·rename_i f;rw[Qb]at r;obtain⟨d',p,r⟩:=r;simp only[Qd]at r;obtain⟨rfl,rfl⟩:=r;obtain⟨vs,e1,r1⟩:=aJ hr;obtain⟨td,c,b⟩:=Py hk;have j:n.toNat<vs.length:=by rw[r1.1];exact(Qe.1 p).1
   refine⟨rfl,.pure (v:=vs[n.toNat]) h.inv ?_ (r1.2.2 _ _ _ p (Qc j))⟩;have:=Ce (w:=w) c b (cs:=vs.toArray) (o:=n.toNat) (v:=vs[n.toNat]) (by simp[j]);simp[execOp,ho,Instr.index,asIntOf,aa.int_inv,run_underlying hu,e1,f,GC hs,this]
  ·cases r
 ·cases r
def iK{t e:TypeId}{len sz:Nat}{o:Oper}{x i:Operand}{y z:Gz}(h:At P B w0 w m g fr s a)(hu:P.underlying t=some (.array len e))(hs:CA P e=some sz)
  (hx:AB x=some y) (hi:AB i=some z) (ho:o.op= .indexAddr t x i) (r:Aw S s m fr (.iadda len sz y z)=some (d,u)):u=[]∧CG P B w0 m g fr w m d (execOp a.eval o):=by
 have hr:=h.slots.arg hx;have aa:=h.slots.arg hi;simp only[Aw]at r;split at r
 ·rename_i j off k n c ei;rw[c]at hr;rw[ei]at aa;split at r
  ·rename_i p;obtain⟨h0,q⟩:=p;simp only[Qa,Qd]at r;obtain⟨rfl,rfl⟩:=r;obtain⟨b,ev,f⟩:=hr.ptr_inv;refine⟨rfl,.pure (v:= .pointer (some ⟨b,off+n.toNat*sz,none⟩)) h.inv ?_ (.ptr _ _ b f)⟩;have la:(0:Int)<=n∧n<(len:Int):=⟨h0,q⟩;simp only[←EE b off (n.toNat*sz)];simp[execOp,ho,Instr.indexAt,asIntOf,Instr.sureAddr,aa.int_inv,ev,run_underlying hu,la,GC hs]
  ·cases r
 ·cases r
def sJ{t e:TypeId}{len sz:Nat}{o:Oper}{x i:Operand}{y z:Gz}(h:At P B w0 w m g fr s a)(hu:P.underlying t=some (.array len e))(hk:mC P e=some (some sz))
  (q:AB x=some y) (hi:AB i=some z) (ho:o.op= .index t x i) (r:Aw S s m fr (.idxm len sz y z)=some (d,u)):u=[]∧CG P B w0 m g fr w m d (execOp a.eval o):=by
 have hr:=h.slots.arg q;have aa:=h.slots.arg hi;simp only[Aw]at r;split at r
 ·rename_i cs k n ex ei;rw[ex]at hr;rw[ei]at aa;split at r
  ·rename_i hc;obtain⟨f,h1,hl⟩:=hc;simp only[Qa,Qd]at r;obtain⟨rfl,rfl⟩:=r;obtain⟨vs,e1,r1⟩:=aJ hr;obtain⟨td,c,b,hs⟩:=Px hk;refine⟨rfl,.pure (v:= .agg ((vs.drop (n.toNat*sz)).take sz).toArray) h.inv ?_ (aK ⟨by simp[r1.1],λv hv=>?_,λj d v p hv=>?_⟩)⟩
   ·simp only[execOp,ho,Instr.index,Sem.run_bind,run_underlying hu,e1,aa.int_inv,asIntOf,Result.andThen_ok,Sem.run_pure,f,h1,and_self,if_true,GC hs,part,Hi c,b];congr 3;simp[Q7,QV]
   ·exact r1.2.1 v (Qx (QB hv))
   ·have hj:j<sz:=by
     rcases Zv j sz with h1|h1
     ·exact h1
     ·rw[Qj Xb]at p;cases p
    rw[Qp hj,Qw]at p hv;exact r1.2.2 _ d v p hv
  ·cases r
 ·cases r
def sL{t:TypeId}{o:Oper}{x:Operand}{lo hi:Option Operand}{y:Gz}{c j:Option Gz}(h:At P B w0 w m g fr s a)(k:P.underlying t=some .string)
  (q:AB x=some y) (p:HM lo=some c) (ta:HM hi=some j) (ho:o.op= .slice t x lo hi none) (r:Aw S s m fr (.cuts y c j)=some (d,u)):
  u=[]∧CG P B w0 m g fr w m d (execOp a.eval o):=by
 have i:=h.slots.arg q;simp only[Aw]at r;split at r
 ·rename_i b e;rw[e]at i;split at r
  ·rename_i n z;split at r
   ·rename_i l el;simp only[Qa,Qd]at r;obtain⟨rfl,rfl⟩:=r;obtain⟨f,_,_⟩:=D9 (P:=P) (w:=w) h.slots p ta false (len:=b.length) (cap:=b.length) (Qk _) z el;refine⟨rfl,.pure (v:= .string ⟨((b.drop l).take (n-l)).toArray⟩) h.inv ?_ (.str _)⟩;have ja:(ByteArray.mk b.toArray).size=b.length:=by simp[ByteArray.size]
    simp only[execOp,ho,Instr.sliceAt,Sem.run_bind,run_underlying k,Result.andThen_ok,Instr.slice,i.str_inv,ZG,Option.isSome_none,QG,if_false,ja,f,Sem.run_pure,RJ]
   ·cases r
  ·cases r
 ·cases r
def SI{xs:List D}{sz k:Nat}(h:∀d∈xs,d.cells.length=sz)(g:aF xs k=k):xs=[]∨sz=k:=by
 cases xs with
 |nil=>exact .inl rfl
 |cons x r=>right;rw[←h x (Qn ..)];exact g
def sM{t e:TypeId}{o:Oper}{x:Operand}{lo hi:Option Operand}{y:Gz}{l' h':Option Gz}{sz:Nat}(h:At P B w0 w m g fr s a)(hu:P.underlying t=some (.slice e))(hs:CA P e=some sz)
  (q:AB x=some y) (ka:HM lo=some l') (ta:HM hi=some h') (ho:o.op= .slice t x lo hi none) (r:Aw S s m fr (.cutl sz y l' h')=some (d,u)):
  u=[]∧CG P B w0 m g fr w m d (execOp a.eval o):=by
 have hr:=h.slots.arg q;simp only[Aw]at r;split at r
 ·rename_i nl t' xs e';rw[e']at hr;split at r
  ·rename_i f;split at r
   ·rename_i hh eh;split at r
    ·rename_i l el;simp only[Qa,Qd]at r;obtain⟨rfl,rfl⟩:=r;have k:∀ad n c l hh m',a.eval x= .slice ad n c->(Instr.sliceBounds true n c (lo.map a.eval) (hi.map a.eval) none).run P w= .ok (l,hh,m') w->
       (execOp a.eval o).run P w= .ok (.value (.slice (if m'=l then ad else ad.map (·.add (l*sz))) (hh-l) (m'-l))) w:=by
      intro ad n c l hh m' e1 e2;simp only[execOp,ho,Instr.sliceAt,Sem.run_bind,run_underlying hu,Result.andThen_ok,Instr.slice,e1,ZG,e2,GC hs,Sem.run_pure]
     rcases hr.slice_inv with ⟨rfl,rfl,ev⟩|⟨rfl,ad,n,c,pa,vv,ev,hn,z,h3,h4,h5,h6,h7,h8,h9⟩
     ·obtain⟨hb,q1,q2⟩:=D9 (P:=P) (w:=w) h.slots ka ta true (len:=0) (cap:=0) (Qk _) eh el;obtain rfl:hh=0:=by omega
      obtain rfl:l=0:=O
      exact⟨rfl,.pure h.inv (k _ _ _ _ _ _ ev hb) (.nils _)⟩
     ·subst hn;obtain⟨hb,q1,q2⟩:=D9 (P:=P) (w:=w) h.slots ka ta true (len:=xs.length) (cap:=c) z eh el;refine⟨rfl,.pure h.inv (k _ _ _ _ _ _ ev hb) ?_⟩;have b:∀d∈(xs.drop l).take (hh-l),d.cells.length=pa:=λd p=>h3 d (Qx (QB p))
      have v:((xs.drop l).take (hh-l)).length=hh-l:=Xb
      by_cases na:c=l
      ·have i:hh-l=0:=by omega
       rw[if_pos na,i];refine .slice [] _ ad 0 _ pa vv U (ZF _) U U U XN U U U
      ·rw[if_neg na,QY];by_cases i:hh-l=0
       ·rw[i];exact .slice [] _ _ 0 _ pa vv U (ZF _) U U U XN U U U
       ·have ga:xs≠[]:=by rintro rfl;simp at q2;omega
        have ja:pa=sz:=(SI h3 f).resolve_left ga;subst ja;have qa:l*pa+(hh-l)*pa<=xs.length*pa:=by rw[←QQ];exact QA _ O
        refine .slice [] _ _ _ _ pa (λj=>vv (l*pa+j)) v.symm O b (λj hj=>?_) (λj hj=>h5 _ O) (λj d p=>h6 _ d ?_) (λhp=>?_) U (λd p=>h9 d (Qx (QB p)))
        ·rw[add_add];exact h4 _ O
        ·have:=RE (sz:=pa) p;rw[SN l h3,Qw]at this;exact this
        ·rw[C6,Ff];have:=h7 O;omega
    ·cases r
   ·cases r
  ·cases r
 ·cases r
end
section
variable{P:Program}{B:Nat}{w0 w:World}{m:Gu}{g:Gh}{fr:Id}{s:Nat->D}{a:Act}{S:Gq}{d:D}{u:GA}
def Lr:∀{l:List (Nat×Nat×D)} {ps:List (Nat×Value)} {zs cs:List D} {zv:Array Value} {place:Nat->Option (Nat×Nat)},
  AU w g zs zv.toList->l.length=ps.length->(∀(j:Nat) x p,l[j]?=some x->ps[j]?=some p->place p.1=some (x.1,x.2.1)∧Rep w g x.2.2 p.2)->
  B7 zs l=some cs->∃cv:Array Value,Instr.fill place zv ps=some cv∧AU w g cs cv.toList
 |[],[],zs,cs,zv,place,hz,_,_,h=>by
  simp only[B7,Qa]at h;subst h;exact⟨zv,rfl,hz⟩
 |(off,sz,d)::l,[],zs,cs,zv,place,hz,hl,_,h=>by cases hl
 |[],p::ps,zs,cs,zv,place,hz,hl,_,h=>by cases hl
 |(off,sz,d)::l,(i,v)::ps,zs,cs,zv,place,hz,hl,hp,h=>by
  unfold B7 at h;split at h
  ·rename_i y;obtain⟨c1,c2,a⟩:=y;obtain⟨u,f⟩:=hp 0 _ _ rfl rfl;simp only at u f;have c:=f.cells c1;have k:v.cells.size=sz:=by have:=c.1;simp at this;omega
   have n:=hz.1;simp only[QW]at n;have e:off+v.cells.size<=zv.size:=O
   have r:=EK v.cells off zv e;have qa:AU w g (E4 zs off d.cells) ((v.cells.zipIdx.foldl (λcs (x:Value×Nat)=>cs.setIfInBounds (off+x.2) x.1) zv)).toList:=by
    rw[r];unfold E4;have h1:AU w g (zs.take off) (zv.toList.take off):=by
     refine⟨Xb,λv m=>hz.2.1 v (QB m),λj d v s m=>?_⟩;have t:j<off:=by
      rcases Zv j off with h1|h1
      ·exact h1
      ·rw[Qj Xb]at s;cases s
     rw[Qp t]at s m;exact hz.2.2 j d v s m
    have z:AU w g (zs.drop (off+d.cells.length)) (zv.toList.drop (off+v.cells.toList.length)):=by
     rw[c.1];refine⟨Xb,λv m=>hz.2.1 v (Qx m),λj d v s m=>?_⟩;rw[Qw]at s m;exact hz.2.2 _ d v s m
    exact AU.append (AU.append h1 c) z
   obtain⟨cv,o,b⟩:=Lr (ps:=ps) (place:=place) qa Xj (λj x p q ta=>hp (j+1) x p Xu (by simpa using ta)) h;refine⟨cv,?_,b⟩;unfold Instr.fill;rw[u];simp only;rw[if_neg (by simp[k];omega)];exact o
  ·cases h
def N1{v:List Field}(W:World)(h:∀f∈v,∃n,CA P f.type=some n):
  ∃p:List (Nat×Nat),(v.mapM (m:=Sem) λ(f:Field)=>do pure (f.offset,←sizeOf f.type)).run P W= .ok p W∧p.length=v.length∧∀(i:Nat)(f:Field) n,v[i]?=some f->CA P f.type=some n->p[i]?=some (f.offset,n):=by
 induction v with
 |nil=>exact⟨[],U,rfl,U⟩
 |cons f r ih=>
  obtain⟨n,c⟩:=h f (Qn ..);obtain⟨p,w,y,t⟩:=ih (λf k=>h f (Qq _ k));refine⟨(f.offset,n)::p,?_,by simp[y],λi b u hi g=>?_⟩
  ·simp_all [GC,w]
  ·grind
def FB{v:Array Field}:∀{ps:List (Nat×Operand)} {l:List (Nat×Nat×Gz)},CX P v ps=some l->
  l.length=ps.length∧∀(j:Nat) x p,l[j]?=some x->ps[j]?=some p->∃f:Field,v[p.1]?=some f∧CA P f.type=some x.2.1∧x.1=f.offset∧AB p.2=some x.2.2
 |[],l,h=>by simp only[CX,Qa]at h;subst h;simp
 |(i,x)::r,l,h=>by
  unfold CX at h;split at h
  ·rename_i f y u w a c;split at h
   ·rename_i n m;simp only[Qa]at h;subst h;obtain⟨g,k⟩:=FB c;refine⟨by simp[g],λj o p q t=>?_⟩;cases j with
    |zero=>
     simp only[QD,Qa]at q t;subst q t;exact⟨f,w,m,rfl,a⟩
    |succ j=>exact k j o p Xu XJ
   ·cases h
  ·cases h
def I3{sz:Nat}:∀{ps:List (Nat×Operand)} {l:List (Nat×Nat×Gz)},FD sz ps=some l->
  l.length=ps.length∧∀(j:Nat) x p,l[j]?=some x->ps[j]?=some p->x.1=p.1*sz∧x.2.1=sz∧AB p.2=some x.2.2
 |[],l,h=>by simp only[FD,Qa]at h;subst h;simp
 |(i,x)::r,l,h=>by
  unfold FD at h;split at h
  ·rename_i y u f n;simp only[Qa]at h;subst h;obtain⟨g,k⟩:=I3 n;refine⟨by simp[g],λj o p q t=>?_⟩;cases j with
   |zero=>
    simp only[QD,Qa]at q t;subst q t;exact⟨rfl,rfl,f⟩
   |succ j=>exact k j o p Xu XJ
  ·cases h
def bP{t e:TypeId}{len sz:Nat}{z:Array (Nat×Operand)}{o:Oper}{zs:List D}{l:List (Nat×Nat×Gz)}(h:At P B w0 w m g fr s a)(hu:P.underlying t=some (.array len e))
  (oa:CA P e=some sz) (f:CJ P t=some (.agg zs)) (hl:FD sz z.toList=some l) (ho:o.op= .build t z) (he:Aw S s m fr (.build zs l)=some (d,u)):
  u=[]∧CG P B w0 m g fr w m d (execOp a.eval o):=by
 simp only[Aw]at he;rw[Qb]at he;obtain⟨cs,na,he⟩:=he;simp only[Qd]at he;obtain⟨rfl,rfl⟩:=he;unfold CJ at f;split at f
 ·rename_i k c;split at f
  ·rename_i zv r;have n:Rep w g (.agg zs) zv:=Rep.ofVal f;obtain⟨vs,rfl,rz⟩:=aJ n;obtain⟨q1,q2⟩:=I3 hl;have b:=Lr (w:=w) (g:=g) (l:=l.map λp=>(p.1,p.2.1,p.2.2.ev s)) (ps:=(z.map λ(i,x)=>(i,a.eval x)).toList) (zs:=zs) (cs:=cs) (zv:=vs.toArray) (place:=λi=>some (i*sz,sz))
    (by simpa using rz) (by simp[q1]) (λj x p q y=>?_) na
   ·obtain⟨cv,f1,f2⟩:=b;refine⟨rfl,.pure (v:= .agg cv) h.inv ?_ ?_⟩
    ·simp only[execOp,ho,Instr.build,zeroValue,typeInfo,Sem.run_bind,run_program,Result.andThen_ok,c,r,Sem.run_pure,run_underlying hu,GC oa,Value.cells,f1]
    ·have:=aK f2
     rwa [QC]at this
   ·rw[Qi,Qb]at q;obtain⟨x',pa,rfl⟩:=q;rw[QL,Qi,Qb]at y;obtain⟨p',ta,rfl⟩:=y;obtain⟨r1,r2,r4⟩:=q2 j x' p' pa ta;refine⟨?_,h.slots.arg r4⟩;simp[r1,r2]
  ·cases f
 ·cases f
def iN{t:TypeId}{z:Array (Nat×Operand)}{o:Oper}{y:Array Field}{zs:List D}{l:List (Nat×Nat×Gz)}(h:At P B w0 w m g fr s a)(hu:P.underlying t=some (.struct y))
  (ea:W3 P y.toList=true) (hz:CJ P t=some (.agg zs)) (hl:CX P y z.toList=some l) (ho:o.op= .build t z) (he:Aw S s m fr (.build zs l)=some (d,u)):
  u=[]∧CG P B w0 m g fr w m d (execOp a.eval o):=by
 simp only[Aw]at he;rw[Qb]at he;obtain⟨cs,na,he⟩:=he;simp only[Qd]at he;obtain⟨rfl,rfl⟩:=he;unfold CJ at hz;split at hz
 ·rename_i k c;split at hz
  ·rename_i zv r;have hr:Rep w g (.agg zs) zv:=Rep.ofVal hz;obtain⟨vs,rfl,rz⟩:=aJ hr;have q:∀f∈y.toList,∃n,CA P f.type=some n:=by
    intro f e;have:=Qy.1 ea f e;rw[Zf]at this;exact this
   obtain⟨pl,p1,p2,p3⟩:=N1 (P:=P) w q;obtain⟨q1,q2⟩:=FB hl;have b:=Lr (w:=w) (g:=g) (l:=l.map λp=>(p.1,p.2.1,p.2.2.ev s)) (ps:=(z.map λ(i,x)=>(i,a.eval x)).toList) (zs:=zs) (cs:=cs) (zv:=vs.toArray) (place:=λi=>pl.toArray[i]?)
    (by simpa using rz) (by simp[q1]) (λj x p hx hp=>?_) na
   ·obtain⟨cv,f1,f2⟩:=b;refine⟨rfl,.pure (v:= .agg cv) h.inv ?_ ?_⟩
    ·have hm:(y.mapM (m:=Sem) λ(f:Field)=>do pure (f.offset,←sizeOf f.type)).run P w= .ok pl.toArray w:=by
      rw[Zc,Sem.run_map,p1];rfl
     simp only[execOp,ho,Instr.build,zeroValue,typeInfo,Sem.run_bind,run_program,Result.andThen_ok,c,r,Sem.run_pure,run_underlying hu,hm,Value.cells,f1]
    ·have:=aK f2
     rwa [QC]at this
   ·rw[Qi,Qb]at hx;obtain⟨x',pa,rfl⟩:=hx;rw[QL,Qi,Qb]at hp;obtain⟨p',ta,rfl⟩:=hp;obtain⟨f,r1,r2,r3,r4⟩:=q2 j x' p' pa ta;refine⟨?_,h.slots.arg r4⟩;have:=p3 p'.1 f x'.2.1 (by simpa using r1) r2;simp only[QI];rw[this,r3]
  ·cases hz
 ·cases hz
end
section
variable{P:Program}{B:Nat}{w0 w:World}{m:Gu}{g:Gh}{fr:Id}{s:Nat->D}{a:Act}{S:Gq}{d:D}{u:GA}
def O_:∀{xs:List Operand} {ys:List Gz},DE xs=some ys->xs.length=ys.length∧∀(j:Nat) x y,xs[j]?=some x->ys[j]?=some y->AB x=some y
 |[],ys,h=>by simp only[DE,Qa]at h;subst h;simp
 |x::r,ys,h=>by
  unfold DE at h;split at h
  ·rename_i y l u z;simp only[Qa]at h;subst h;obtain⟨p,q⟩:=O_ z;refine⟨by simp[p],λj o k d s=>?_⟩;cases j with
   |zero=>simp only[QD,Qa]at d s;subst d s;exact u
   |succ j=>exact q j o k XK (by simpa using s)
  ·cases h
def W2{sz:Nat}(d:0<sz):∀{ps:List (Nat×Value)} {k:Nat} {cs:Array Value},ps.map (·.1)=Zp k ps.length->(∀p∈ps,p.2.cells.size=sz)->cs.size=(k+ps.length)*sz->
  ∃u:Array Value,Instr.fill (λi=>some (i*sz,sz)) cs ps=some u∧u.toList=cs.toList.take (k*sz)++ps.flatMap λp=>p.2.cells.toList
 |[],k,cs,_,_,hcs=>⟨cs,rfl,by simp at hcs;simp[List.take_of_length_le,hcs]⟩
 |(i,v)::r,k,cs,g,hp,hcs=>by
  simp only[Qs,Qo,Q3,ZH]at g;obtain⟨rfl,g⟩:=g;have m:=hp (i,v) (Qn ..);simp only at m;have e:i*sz+v.cells.size<=cs.size:=by
   rw[hcs,m,←Zw];exact QA _ (by simp only[Qo];omega)
  have ha:=EK v.cells (i*sz) cs e;have w:(v.cells.zipIdx.foldl (λcs (x:Value×Nat)=>cs.setIfInBounds (i*sz+x.2) x.1) cs).size=cs.size:=by
   rw[←QW,ha];simp;omega
  obtain⟨u,q,b⟩:=W2 (k:=i+1) (ps:=r) (cs:=v.cells.zipIdx.foldl (λcs (x:Value×Nat)=>cs.setIfInBounds (i*sz+x.2) x.1) cs) d g (λp ta=>hp p (Qq _ ta)) (by rw[w,hcs];congr 1;simp only[Qo];omega);refine⟨u,?_,?_⟩
  ·unfold Instr.fill;simp only;rw[if_neg (by simp[m];first|done|omega)];exact q
  ·rw[b,ha];have hl:(cs.toList.take (i*sz)).length=i*sz:=by rw[QT];simp;omega
   have z:v.cells.toList.length=sz:=by simpa using m
   simp only[Zd];rw[←QK];congr 1;rw[show(i+1)*sz=(cs.toList.take (i*sz)++v.cells.toList).length by rw[Zu,hl,z,Zw]];exact List.take_left
theorem bQ{t e:TypeId}{aa:Array (Nat×Operand)}{len:Nat}{o:Oper}{sz bytes:Nat}{l:List Gz}(h:At P B w0 w m g fr s a)(hu:P.underlying t=some (.slice e))(he:Ij P e=some (sz,bytes))
  (hl:DE (aa.toList.map (·.2))=some l) (f:aa.toList.map (·.1)=Qt len) (sa:len*sz<=2 ^ 24) (ho:o.op= .buildSlice t len aa)
  (hx:Aw S s m fr (.bslice e sz l)=some (d,u)):CG P B w0 m g fr w (GA.app m u) d (execOp a.eval o):=by
 obtain⟨ta,ti,z,hi,oa,hz,jb,ua⟩:=Ii he;simp only[Aw]at hx;split at hx
 ·rename_i ia;simp only[Qa,Qd]at hx;obtain⟨rfl,rfl⟩:=hx;have ja:∀p∈l,((p.ev s).data=true∧(p.ev s).cells.length=sz)∧(p.ev s).un.calm=true:=by
   simp_all
  have b:∀p∈l,(p.ev s).data=true∧(p.ev s).cells.length=sz:=λp hp=>(ja p hp).1
  obtain⟨ba,fa⟩:=O_ hl;have r:aa.toList.length=len:=by have:=congrArg ZL f;simpa using this
  simp only[QZ]at ba;have da:∀(j:Nat) d v,(l.map λp=>(p.ev s).un)[j]?=some d->(aa.toList.map λp=>a.eval p.2)[j]?=some v->Rep w g d v:=by
   intro j d v hd hv;rw[Qi,Qb]at hd hv;obtain⟨y,hy,rfl⟩:=hd;obtain⟨p,hp,rfl⟩:=hv;exact(h.slots.arg (fa j p.2 y (by rw[Qi,hp];rfl) hy)).un
  have qa:=AU.flat (w:=w) (g:=g) (sz:=sz) (xs:=l.map λp=>(p.ev s).un) (vs:=aa.toList.map λp=>a.eval p.2) (λd hd=>by
   rw[Qv]at hd;obtain⟨y,hy,rfl⟩:=hd;exact⟨aE4 (b y hy).1,by rw[OX];exact(b y hy).2⟩) Xb da
  have ma:∀p∈(aa.map λ(i,x)=>(i,a.eval x)).toList,p.2.cells.size=sz:=by
   intro p hp;rw[QL,Qv]at hp;obtain⟨q,hq,rfl⟩:=hp;obtain⟨j,hj,xa⟩:=Za hq;have hy:l[j]?=some (l[j]' O):=Qc _;have hr:=h.slots.arg (fa j q.2 _ (by rw[Qi,Qc hj,xa];rfl) hy);have hd:=b _ (Q1 (by omega:j<l.length));have:=(hr.cells hd.1).1;simp at this ⊢;omega
  let row:Array Value:=(ZM (len*sz)).map (z.cells[· % z.cells.size]!)
  have ca:row.size=(0+(aa.map λ(i,x)=>(i,a.eval x)).toList.length)*sz:=by
   grind
  obtain⟨cv,f1,f2⟩:=W2 ta (ps:=(aa.map λ(i,x)=>(i,a.eval x)).toList) (k:=0) (cs:=row) (by
   rw[←QR];simp only[QL,List.map_map,QZ,r];rw[←f];apply QX;intro p _;rfl) ma ca
  have ra:cv.toList=(aa.toList.map λp=>a.eval p.2).flatMap λv=>v.cells.toList:=by
   rw[f2];simp[List.flatMap_map]
  have na:cv.size=len*sz:=by
   have:=qa.1;rw[←ra]at this;rw[B6 (sz:=sz) (λd hd=>by
    rw[Qv]at hd;obtain⟨y,hy,rfl⟩:=hd;rw[OX];exact(b y hy).2)]at this
   simp only[QW,QZ]at this;rw[this];congr 1;omega
  have va:len<=maxLen:=by
   have:len*1<=len*sz:=Nat.mul_le_mul_left _ ta;unfold maxLen;omega
  have ka:=h.inv.newTok h.self (e:=e) (n:=len) (c:=len) (sz:=sz) (cur:=cv) ta ⟨ti,z,hi,oa,hz,jb⟩ (Qk _) va na;have la:=GR.newTok (t:=fr) (n:=len) (c:=len) (sz:=sz) (Obj.cells cv e) h.inv.gz h.self.2.2 rfl;refine⟨.slice (some ⟨w.heap.size,0,none⟩) len len,w.alloc (.cells cv e),g.tok fr w.heap.size len len sz,.value (.slice (some ⟨w.heap.size,0,none⟩) len len),?_,.inl rfl,ka,la,?_,λi hf ga=>CD hf ga _ _ _ _ _⟩
  ·have ea:¬(len*sz>2 ^ 24):=by omega
   have ha:CA P e=some sz:=by simp[CA,hi,oa]
   by_cases h0:len*sz=0
   ·have pa:(ZM 0).map ((#[]:Array Value)[· % (#[]:Array Value).size]!)=row:=by simp[row,h0]
    simp only[execOp,ho,Instr.buildSlice,Sem.run_bind,run_underlying hu,Result.andThen_ok,GC ha,show ¬((0:Nat)>2 ^ 24)from by omega,if_false,h0,if_true,Sem.run_pure,pa,f1,F8]
   ·simp only[execOp,ho,Instr.buildSlice,Sem.run_bind,run_underlying hu,Result.andThen_ok,GC ha,ea,if_false,h0,Sem.run_pure,zeroValue,typeInfo,run_program,hi,hz];change (Sem.run P (match Instr.fill (λi=>some (i*sz,sz)) row (aa.map λ(i,x)=>(i,a.eval x)).toList with|some cells=>_|_=>_) w).andThen _=_;rw[f1];simp only[Sem.run_bind,F8,Result.andThen_ok,Sem.run_pure]
  ·refine aH (sz:=sz) (cur:=cv) (T:=e) (fz:=(0,0)) (heap_alloc_new w _) Xb (Qk _) (λd hd=>?_) (qa.ext la) (λj v hv=>?_) Xk (λ_=>Xk) (λd hd=>?_)
   ·grind [OX]
   ·grind
   ·grind
 ·cases hx
end
structure eE (P:Program) (w:World) (size:Nat) (y:Value) (n:Nat) (ws:List Value):Prop where
 len:∀W:World,(Builtin.lenOf y).run P W= .ok n W
 cells:(Builtin.firstCells size n y).run P w= .ok ws.toArray w
 drew:(Builtin.firstCells size n y).run P w.drew= .ok ws.toArray w.drew
 wl:ws.length=n*size
section
variable{P:Program}{w:World}
theorem eE.slice{v n c:Nat}{ad:Addr}{r:List Value}(hl:r.length=n*v)(h:∀j u,r[j]?=some u->w.cell? (ad.add j)=some u):eE P w v (.slice (some ad) n c) n r:=
 ⟨λW=>X_,run_firstCells_some (P:=P) w v n ad n c r hl h,run_firstCells_some (P:=P) w.drew v n ad n c r hl Xn,hl⟩
def eE.string(s:ByteArray):eE P w 1 (.string s) s.size (Lib.strCells s):=
 ⟨λW=>X_,Lib.run_firstCells_string w 1 s,Lib.run_firstCells_string w.drew 1 s,by rw[Lib.strCells_length];omega⟩
def VL{t ty e:TypeId}{i:TypeInfo}{z:Value}(u:P.underlying t=some (.slice e))(hi:P.info? e=some i)(d:i.zero=some z)
  {y:Value} {n:Nat} {r:List Value} (o:eE P w i.size y n r)
  (q:0<n) (g:(n:Int)<=9223372036854775807) (f:n*i.bytes<=281474976710656):
  (Builtin.append_ #[t,t] ty #[.slice none 0 0,y]).run P w=
   .ok (.slice (some ⟨w.heap.size,0,none⟩) n (grownCap w n 0 e)) (w.drew.alloc (.cells (r.toArray++Builtin.zeroCells z.cells (grownCap w n 0 e-n)) e)):=by
 have hn:n≠0:=O
 have c:¬(9223372036854775807<(n:Int)):=O
 have a:¬(281474976710656<Builtin.nextslicecap n 0*i.bytes):=by rw[nextslicecap_zero q];omega
 have k:=o.drew;have hl:=o.len;simp[Builtin.append_,run_underlying u,sizeOf,typeInfo,zeroValue,hi,d,hl,hn,c,a,Question.forced,run_firstCells_none,k,newRow,grownCap]
def TA{t ty e:TypeId}{i:TypeInfo}{z:Value}(u:P.underlying t=some (.slice e))(hi:P.info? e=some i)(f:i.zero=some z)
  {b:Addr} {sLen sCap:Nat} {olds:List Value} (p:olds.length=sLen*i.size) (d:∀j v,olds[j]?=some v->w.cell? (b.add j)=some v)
  {y:Value} {n:Nat} {r:List Value} (o:eE P w i.size y n r)
  (hg:sCap<sLen+n) (g:((sLen+n:Nat):Int)<=9223372036854775807) (m:Builtin.nextslicecap (sLen+n) sCap*i.bytes<=281474976710656):
  (Builtin.append_ #[t,t] ty #[.slice (some b) sLen sCap,y]).run P w=
   .ok (.slice (some ⟨w.heap.size,0,none⟩) (sLen+n) (grownCap w (sLen+n) sCap e))
    (w.drew.alloc (.cells (olds.toArray++r.toArray++Builtin.zeroCells z.cells (grownCap w (sLen+n) sCap e-(sLen+n))) e)):=by
 have hn:¬(sLen+n<=sCap):=O
 have c:¬(9223372036854775807<((sLen:Int)+(n:Int))):=O
 have a:¬(281474976710656<Builtin.nextslicecap (sLen+n) sCap*i.bytes):=O
 have k:=o.drew;have hl:=o.len;have q:=run_firstCells_some (P:=P) w.drew i.size sLen b sLen sCap olds p XK;simp[Builtin.append_,run_underlying u,sizeOf,typeInfo,zeroValue,hi,f,hl,hn,c,a,Question.forced,k,q,newRow,grownCap];congr 2;apply Array.ext';simp[QK]
def Tw{t ty e:TypeId}{i:TypeInfo}(ht:P.underlying t=some (.slice e))(hi:P.info? e=some i)
  {g sLen sCap:Nat} {cur:Array Value} (p:w.heap[g]?=some (.cells cur e (0,0))) {y:Value} {n:Nat} {r:List Value} (o:eE P w i.size y n r) (q:∀u∈r,u.oneCell'=true)
  (d:sLen+n<=sCap) (m:sLen*i.size+r.length<=cur.size):
  (Builtin.append_ #[t,t] ty #[.slice (some ⟨g,0,none⟩) sLen sCap,y]).run P w=
   .ok (.slice (some ⟨g,0,none⟩) (sLen+n) sCap) (w.setRow g (cur.toList.take (sLen*i.size)++r++cur.toList.drop (sLen*i.size+r.length)).toArray):=by
 have k:=o.cells;have hl:=o.len;have z:=run_storeCells_at P g (sLen*i.size) e r 0 cur w p (by simpa using m) q;simp only[Zj]at z;simp[Builtin.append_,run_underlying ht,sizeOf,typeInfo,hi,hl,d,k,Addr.add_lit,z]
def eE.nil{v:Nat}:eE P w v (.slice none 0 0) 0 []:=
 ⟨λW=>X_,by simp[Builtin.firstCells],by simp[Builtin.firstCells],U⟩
def Tx{t ty e:TypeId}{i:TypeInfo}(u:P.underlying t=some (.slice e))(hi:P.info? e=some i){y:Value}{r:List Value}(g:eE P w i.size y 0 r):
  (Builtin.append_ #[t,t] ty #[.slice none 0 0,y]).run P w= .ok (.slice none 0 0) w:=by
 have k:=g.cells;have hl:=g.len;simp[Builtin.append_,run_underlying u,sizeOf,typeInfo,hi,hl,k]
def Tv{t u ty e:TypeId}(k:P.underlying t=some (.slice e))(m:P.underlying u=some .string)(x y:Value):
  (Builtin.append_ #[t,u] ty #[x,y]).run P w=(Builtin.append_ #[t,t] ty #[x,y]).run P w:=by
 cases x<;>simp[Builtin.append_,run_underlying k,run_underlying m,sizeOf]
end
section
variable{P:Program}{B:Nat}{w0 w:World}{m:Gu}{g:Gh}{fr:Id}{s:Nat->D}{a:Act}{S:Gq}{d:D}{u:GA}
def Rep.slice_list{t:Id}{xs:List D}{v:Value}(h:Rep w g (.slice false t xs) v):∃ad n c sz,∃r:List Value,v= .slice (some ad) n c∧n=xs.length∧n<=c∧(∀d∈xs,d.cells.length=sz)∧
  r.length=n*sz∧AU w g (flat xs) r∧(∀j u,r[j]?=some u->w.cell? (ad.add j)=some u)∧(0<n*sz->ad.off+n*sz<=g.G ad.block)∧
  (t≠[]->ad.off=0∧ad.spot=none∧g.tb t=some (ad.block,n,c,sz))∧(∀d∈xs,d.calm=true):=by
 rcases h.slice_inv with ⟨f,_⟩|⟨_,ad,n,c,sz,a,ev,q,z,i,o,s,e,y,b,x⟩
 ·cases f
 ·have hl:=B6 i;refine⟨ad,n,c,sz,(Qt (n*sz)).map a,ev,q,z,i,U,⟨by simp[hl,q],λv m=>?_,λj d v p m=>?_⟩,λj u k=>?_,y,b,x⟩
  ·grind
  ·grind
  ·grind
def PJ:∀{ys:List D},(∀d∈ys,d.cells=[d])->flat ys=ys
 |[],_=>rfl
 |d::r,h=>by
  rw[flat,h d (Qn ..),PJ λd p=>h d (Qq _ p)];rfl
def lA{y:D}{v:Value}{ys:List D}{sz:Nat}(h:Rep w g y v)(o:Iq sz y=some ys)(hh:aF ys sz=sz):
  ∃ws:List Value,eE P w sz v ys.length ws∧AU w g (flat ys) ws∧(∀d∈ys,d.cells.length=sz)∧∀d∈ys,d.calm=true:=by
 unfold Iq at o;split at o
 ·rename_i nl t f;simp only[Qa]at o;subst o;cases nl with
  |true=>
   rcases h.slice_inv with ⟨_,rfl,rfl⟩|⟨i,_⟩
   ·exact⟨[],eE.nil,AU.nil w g,U,U⟩
   ·cases i
  |false=>
   obtain⟨ad,n,c,pa,ws,rfl,hn,za,a,ya,s,x,r,na,e⟩:=h.slice_list;subst hn;rcases SI a hh with rfl|rfl
   ·grind [eE.slice,AU.nil]
   ·exact⟨ws,eE.slice ya x,s,a,e⟩
 ·rename_i b;split at o
  ·rename_i q;subst q;simp only[Qa]at o;subst o;have m:v= .string ⟨b.toArray⟩:=by cases h;rfl
   subst m;have ba:(Ax b).length=(⟨b.toArray⟩:ByteArray).size:=by simp[Ax];rfl
   have q:∀d∈Ax b,d.cells=[d]∧d.calm=true:=by
    intro d p;simp only[Ax,Qv]at p;obtain⟨c,_,rfl⟩:=p;exact⟨rfl,rfl⟩
   refine⟨Lib.strCells ⟨b.toArray⟩,ba▸eE.string _,⟨?_,Lib.strCells_oneCell _,λj d u p hu=>?_⟩,λd p=>by rw[(q d p).1];rfl,λd p=>(q d p).2⟩
   ·rw[PJ λd p=>(q d p).1,Lib.strCells_length,ba]
   ·rw[PJ λd p=>(q d p).1]at p;simp only[Ax,Lib.strCells,Qi,Qb]at p hu;obtain⟨c,k,rfl⟩:=p;obtain⟨c',z,rfl⟩:=hu;rw[k]at z;simp only[Qa]at z;subst z;exact .int _ _
  ·cases o
 ·cases o
def aBo{t t2 e:TypeId}{o:Oper}{x y:Operand}{p q:Gz}{sz bytes:Nat}(h:At P B w0 w m g fr s a)(hu:P.underlying t=some (.slice e))(he:Ij P e=some (sz,bytes))
  (hx:AB x=some p) (hy:AB y=some q) (ho:o.op= .call {callee:= .builtin .append,args:=#[x,y],argTypes:=#[t,t2]}) (ht2:t2=t∨P.underlying t2=some .string)
  (aa:Aw S s m fr (.app e sz bytes p q)=some (d,u)):CG P B w0 m g fr w (GA.app m u) d (execOp a.eval o):=by
 obtain⟨ta,ti,z,hi,oa,hz,jb,ua⟩:=Ii he;have ha:CA P e=some sz:=by simp[CA,hi,oa]
 have va:=h.slots.arg hx;have bb:=h.slots.arg hy;have cb:∃ti z,P.info? e=some ti∧ti.size=sz∧ti.zero=some z∧z.cells.size=sz:=⟨ti,z,hi,oa,hz,jb⟩;have ma:∀v' w',(Builtin.append_ #[t,t] o.type #[a.eval x,a.eval y]).run P w= .ok v' w'->(execOp a.eval o).run P w= .ok (.value v') w':=by
  intro v' w' e1;have e1:(Builtin.append_ #[t,t2] o.type #[a.eval x,a.eval y]).run P w= .ok v' w':=by
   rcases ht2 with rfl|ht2
   ·exact e1
   ·simp_all [Tv,e1]
  simp only[execOp,ho,resolve,invoke,builtin,Sem.run_bind,Sem.run_pure,Result.andThen_ok,ZB,Qs,Zk,e1]
 simp only[Aw]at aa;split at aa
 ·rename_i nl t' xs ys ex ey;rw[ex]at va;split at aa
  ·rename_i hc;obtain⟨rfl,rfl⟩:=hc;simp only[Qa,Qd]at aa;obtain⟨rfl,rfl⟩:=aa;rcases va.slice_inv with ⟨_,rfl,ev⟩|⟨h0,_⟩
   ·obtain⟨ws,l,_⟩:=lA (P:=P) bb ey (show aF [] sz=sz from rfl);have hv:=Tx (ty:=o.type) hu hi (oa▸l);exact .pure h.inv (ma _ _ (by rw[ev];exact hv)) (.nils _)
   ·cases h0
  ·rename_i za;split at aa
   ·rename_i hc;obtain⟨tb,ic⟩:=hc;obtain⟨ws,l,da,qb,hb⟩:=lA (P:=P) bb ey ic;have ya:ws.length=ys.length*sz:=l.wl;have gb:eE P w ti.size (a.eval y) ys.length ws:=by rw[oa];exact l
    have yb:xs.length+ys.length<=140737488355328:=by
     grind
    have lb:(xs.length+ys.length)*bytes<=140737488355328:=by
     grind
    split at aa
    ·-- onto nil
     rename_i pa;subst pa;simp only[Qa,Qd]at aa;obtain⟨rfl,rfl⟩:=aa;have eb:ys≠[]:=λe=>za ⟨rfl,e⟩
     rcases va.slice_inv with ⟨_,rfl,ev⟩|⟨h0,_⟩
     ·have ba:0<ys.length:=List.length_pos_iff.2 eb;simp only[List.length_nil,Qu]at yb lb;have hr:=VL (P:=P) (ty:=o.type) hu hi hz gb ba O (by rw[ua];omega);have ab:=grownCap_ge w ys.length 0 e;have fb:grownCap w ys.length 0 e<=maxLen:=grownCap_le_maxLen w ys.length 0 e Xs;have mb:(ws.toArray++Builtin.zeroCells z.cells (grownCap w ys.length 0 e-ys.length)).size=grownCap w ys.length 0 e*sz:=by
       simp only[Zx,Zy,size_zeroCells,jb,ya,←QQ];congr 1;omega
      have ka:=h.inv.drew.newTok h.self (e:=e) (n:=ys.length) (c:=grownCap w ys.length 0 e) (sz:=sz) (cur:=ws.toArray++Builtin.zeroCells z.cells (grownCap w ys.length 0 e-ys.length)) ta cb ab fb mb;have la:GR w g (w.drew.alloc (.cells (ws.toArray++Builtin.zeroCells z.cells (grownCap w ys.length 0 e-ys.length)) e)) (g.tok fr w.heap.size ys.length (grownCap w ys.length 0 e) sz):=
       (GR.drew w g).trans (GR.newTok (w:=w.drew) _ h.inv.gz h.self.2.2 rfl)
      refine⟨_,_,_,_,ma _ _ (by rw[ev];exact hr),.inl rfl,ka,la,?_,λi hf ga=>CD hf ga _ _ _ _ _⟩;refine aH (sz:=sz) (cur:=ws.toArray++Builtin.zeroCells z.cells (grownCap w ys.length 0 e-ys.length)) (T:=e) (fz:=(0,0)) (heap_alloc_new w.drew _) rfl ab qb (da.ext la) (λj v hv=>?_) Xk (λ_=>Xk) hb;rw[QH (by simpa using (Qe.1 hv).1)];simpa using hv
     ·cases h0
    ·-- onto a growing slice
     rename_i pa;have pa:nl=false:=by cases nl<;>simp_all
     subst pa;split at aa
     ·rename_i k hk;split at aa
      ·rename_i xb;obtain⟨xb,cc⟩:=xb;subst xb;simp only[Qa,Qd]at aa;obtain⟨rfl,rfl⟩:=aa;obtain⟨ad,n0,c0,lc,kb,ev,hn,dc,bc,pb,ob,ib,kc,wb,ec⟩:=va.slice_list;obtain⟨b,n,c,f,cur,t1,t2,t3,t4,t5,t6,t7,t8,t9,xa⟩:=h.inv.tok t' e hk;obtain⟨q1,q2,q3⟩:=wb cc;rw[t1]at q3;simp only[Qa,Qd]at q3;obtain⟨rfl,rfl,rfl,rfl⟩:=q3;have nb:f=sz:=by obtain⟨jc,z',i1,i2,_⟩:=t4;rw[hi]at i1;simp only[Qa]at i1;subst i1;omega
       subst nb;have ub:ad=⟨ad.block,0,none⟩:=by cases ad;simp_all
       have wa:w.heap[ad.block]?=some (.cells cur e (0,0)):=t5;have fc:∀(j:Nat) v,kb[j]?=some v->cur[j]?=some v:=by
        intro j v hv;have:=ib j v hv;rw[ub,EE,Qu]at this;simpa[World.cell?,wa]using this
       have rb:cur.toList.take (n*f)=kb:=by
        apply Zz;intro j;by_cases hj:j<n*f
        ·rw[Qp hj];have:kb[j]?=some (kb[j]' O):=Qc _;rw[this];simpa using fc j _ this
        ·rw[Qj Xb,Qj O]
       have sb:GD P B w0 (m.put t' 0 [.tok 0]) w g:=h.inv.kill (by
        cases hd:g.dl t' with
        |none=>rfl
        |some b'=>
         obtain⟨_,_,vs,T,_,r⟩:=h.inv.obj t' b' hd;obtain⟨v,_,_,r3⟩:=r 0 _ hk;cases r3)
       have zb:fr≠t':=by rintro rfl;rw[h.self.1 0]at hk;cases hk
       have gc:BN (m.put t' 0 [.tok 0]) g fr:=BN.kill h.self zb;have fa:∀b' n' c' s',∀i,BN m g i->¬fr<:+i->BN ((m.put t' 0 [.tok 0]).put fr 0 [.tok (e+1)]) (g.tok fr b' n' c' s') i:=by
        intro b' n' c' s' i hf ga;exact CD (BN.kill hf (by rintro rfl;rw[hf.1 0]at hk;cases hk)) ga _ _ _ _ _
       have ia:∀dd∈xs++ys,dd.cells.length=f:=by
        intro dd ac;rcases Qg.1 ac with hd|hd
        ·exact bc dd hd
        ·exact qb dd hd
       have db:∀dd∈xs++ys,dd.calm=true:=by
        intro dd ac;rcases Qg.1 ac with hd|hd
        ·exact ec dd hd
        ·exact hb dd hd
       have qa:AU w g (flat (xs++ys)) (kb++ws):=by rw[Ig];exact AU.append ob da
       have ba:n+ys.length=(xs++ys).length:=Xb
       have vb:(n+ys.length)<=maxLen:=Xs
       by_cases ja:n+ys.length<=c
       ·-- there is room
        have sa:n*ti.size+ws.length<=cur.size:=by rw[ya,oa,t8,←QQ];exact QA _ ja
        have hr:=Tw (P:=P) (ty:=o.type) hu hi wa gb da.2.1 ja sa;rw[oa]at hr sa
        let na:Array Value:=(cur.toList.take (n*f)++ws++cur.toList.drop (n*f+ws.length)).toArray
        have ea:(cur.toList.take (n*f)).length=n*f:=by rw[QT];simp;omega
        have ra:na.size=cur.size:=by simp[na];omega
        have ca:∀j,j<n*f->na[j]?=cur[j]?:=by
         intro j hj;simp only[na,QI,QK];rw[Qm O,Qp hj];simp
        have ka:=h.inv.inPlace h.self hk t1 (ZC n ys.length) ja wa ra ca;have la:GR w g (w.setRow ad.block na) (g.tok fr ad.block (n+ys.length) c f):=GR.inPlace h.self.2.2 t9 (ZC n ys.length) wa ca;refine⟨_,_,_,_,ma _ _ (by rw[ev,ub];exact hr),.inl rfl,ka,la,?_,fa _ _ _ _⟩;refine aH (sz:=f) (cur:=na) (T:=e) (fz:=(0,0)) (setRow_heap w ad.block cur na e _ wa) ba ja ia (qa.ext la) (λj v hv=>?_) Xk (λ_=>Xk) db;simp only[na,QI,rb];rw[Qm (Qe.1 hv).1];exact hv
       ·-- there is none
        have hr:=TA (P:=P) (ty:=o.type) hu hi hz (b:=ad) (sLen:=n) (sCap:=c) (olds:=kb) (by rw[pb,oa]) ib gb O O (growslice_fits O (by rw[ua,hn];exact lb));have ab:=grownCap_ge w (n+ys.length) c e;have fb:grownCap w (n+ys.length) c e<=maxLen:=grownCap_le_maxLen w (n+ys.length) c e vb;have mb:(kb.toArray++ws.toArray++Builtin.zeroCells z.cells (grownCap w (n+ys.length) c e-(n+ys.length))).size=grownCap w (n+ys.length) c e*f:=by
         simp only[Zx,Zy,size_zeroCells,jb,ya,pb,←QQ];congr 1;omega
        have ka:=sb.drew.newTok gc (e:=e) (n:=n+ys.length) (c:=grownCap w (n+ys.length) c e) (sz:=f) (cur:=kb.toArray++ws.toArray++Builtin.zeroCells z.cells (grownCap w (n+ys.length) c e-(n+ys.length))) ta cb ab fb mb;have la:GR w g (w.drew.alloc (.cells (kb.toArray++ws.toArray++Builtin.zeroCells z.cells (grownCap w (n+ys.length) c e-(n+ys.length))) e)) (g.tok fr w.heap.size (n+ys.length) (grownCap w (n+ys.length) c e) f):=
         (GR.drew w g).trans (GR.newTok (w:=w.drew) _ h.inv.gz h.self.2.2 rfl)
        refine⟨_,_,_,_,ma _ _ (by rw[ev];exact hr),.inl rfl,ka,la,?_,fa _ _ _ _⟩;refine aH (sz:=f) (cur:=kb.toArray++ws.toArray++Builtin.zeroCells z.cells (grownCap w (n+ys.length) c e-(n+ys.length))) (T:=e) (fz:=(0,0)) (heap_alloc_new w.drew _) ba ab ia (qa.ext la) (λj v hv=>?_) Xk (λ_=>Xk) db;have hj:=(Qe.1 hv).1;rw[QH (by simpa using hj)];simpa using hv
      ·cases aa
     ·cases aa
   ·cases aa
 ·cases aa
end
section
variable{P:Program}{B:Nat}{w0 w:World}{m:Gu}{g:Gh}{fr:Id}{s:Nat->D}{a:Act}{S:Gq}{d:D}{u:GA}
theorem NW{v:Value}{d:D}(h:ofLeaf v=some d):d.calm1=true∧d.calm=true:=by
 unfold ofLeaf at h;split at h<;>first|(simp only[Qa]at h;subst h;exact⟨rfl,rfl⟩)|cases h
theorem iZ{v:Value}{d:D}(h:ofVal v=some d):d.calm=true:=by
 cases v with
 |agg cs=>
  simp only[ofVal,Qb]at h;obtain⟨l,hl,rfl⟩:=h;have p:∀{vs:List Value} {l:List D},ofLeaves vs=some l->l.all D.calm1=true:=by
   intro vs;induction vs with
   |nil=>intro l h;simp only[ofLeaves,Qa]at h;subst h;rfl
   |cons v r ih=>
    intro l h;unfold ofLeaves at h;split at h
    ·grind [NW]
    ·cases h
  exact p hl
 |_=>simp only[ofVal]at h;exact(NW h).2
def sG{t e:TypeId}{o:Oper}{x y:Operand}{p q:Gz}{sz bytes:Nat}{z:D}(h:At P B w0 w m g fr s a)(hu:P.underlying t=some (.slice e))(he:Ij P e=some (sz,bytes))
  (hz:CJ P e=some z) (hx:AB x=some p) (hy:AB y=some q) (ho:o.op= .makeSlice t x y)
  (aa:Aw S s m fr (.mksl e sz bytes z p q)=some (d,u)):CG P B w0 m g fr w (GA.app m u) d (execOp a.eval o):=by
 obtain⟨ta,ti,zv,hi,oa,r,jb,ua⟩:=Ii he;have va:=h.slots.arg hx;have bb:=h.slots.arg hy;have ja:Rep w g z zv:=by
  grind [CJ,Rep.ofVal]
 have db:z.data=true:=by
  unfold CJ at hz;simp only[hi,r]at hz;cases zv<;>first|(simp only[ofVal,Qb]at hz;obtain⟨l,_,rfl⟩:=hz;rfl)|(simp only[ofVal]at hz;exact NU hz)
 have ya:z.calm=true:=by
  grind [CJ,iZ]
 simp only[Aw]at aa;split at aa
 ·rename_i k n k' c ex ey;rw[ex]at va;rw[ey]at bb;split at aa
  ·rename_i hc;obtain⟨h0,za,tb,ca⟩:=hc;obtain⟨n,rfl⟩:=Zh h0;obtain⟨c,rfl⟩:=Zh (Int.le_trans h0 za);have eb:c*(bytes+1)<=140737488355328:=by
    grind
   have lb:bytes*c<=140737488355328:=by
    grind
   have qa:c<=140737488355328:=by
    grind
   have da:(ti.bytes:Int)*(c:Int)<=281474976710656:=by
    grind
   have hr:=run_make (P:=P) w t e ti zv hu hi r k k' (n:Int) (c:Int) O O da O;simp only[Int.toNat_natCast,oa]at hr;split at aa
   ·rename_i ia;split at aa
    ·rename_i dc;simp only[Qa,Qd]at aa;obtain⟨rfl,rfl⟩:=aa;obtain rfl:n=c:=by omega
     have pa:z.cells.length=1∧zv.cells=#[zv]∧zv.oneCell'=true:=by
      cases z with
      |nilIface=>
       obtain rfl:zv= .nilIface:=by cases ja;rfl
       exact⟨rfl,rfl,rfl⟩
      |str b=>
       obtain⟨v,rfl⟩:∃v,zv= .string v:=by cases ja;exact⟨_,rfl⟩
       exact⟨rfl,rfl,rfl⟩
      |_=>cases ia
     obtain⟨xa,f,cb⟩:=pa;obtain rfl:1=sz:=xa.symm.trans ca;have ha:∀(j:Nat),j<n->(madeCells #[zv] (n*1)).toList[j]?=some zv:=by
      intro j hj;simp[madeCells,hj,Nat.mod_one]
     have ba:(madeCells #[zv] (n*1)).toList.length=n:=by simp[madeCells]
     have na:AU w g (Qz n z) (madeCells #[zv] (n*1)).toList:=by
      refine⟨by rw[ba];simp,λv hv=>?_,λj d v hd hv=>?_⟩
      ·obtain⟨j,hj,rfl⟩:=Za hv;have:=ha j (by rw[ba]at hj;exact hj);rw[Qc hj]at this;rw[QJ this];exact cb
      ·grind
     refine⟨.slice (some ⟨w.heap.size,0,none⟩) n n,w.alloc (.cells (madeCells #[zv] (n*1)) e),g.obj fr w.heap.size,.value (.slice (some ⟨w.heap.size,0,none⟩) n n),?_,.inl rfl,?_⟩
     ·simp only[execOp,ho,va.int_inv,bb.int_inv,Sem.run_bind,Sem.run_pure];rw[f]at hr;rw[hr];rfl
     ·have:=h.inv.newObj h.self (ds:=Qz n z) (vs:=(madeCells #[zv] (n*1)).toList) e na;rw[QC]at this;exact⟨this,GR.newObj _ h.inv.gz h.self.2.1,.row fr n n w.heap.size (Qk _) (by simp[Gh.obj]),λi hf ga=>En hf ga _ _⟩
    ·cases aa
   ·simp only[Qa,Qd]at aa;obtain⟨rfl,rfl⟩:=aa;have fb:zv.cells.size=sz:=jb;have ea:=ja.cells db;have ka:=h.inv.newTok h.self (e:=e) (n:=n) (c:=c) (sz:=sz) (cur:=madeCells zv.cells (c*sz)) ta ⟨ti,zv,hi,oa,r,jb⟩ O Xs (by simp[size_madeCells]);have la:=GR.newTok (t:=fr) (n:=n) (c:=c) (sz:=sz) (Obj.cells (madeCells zv.cells (c*sz)) e) h.inv.gz h.self.2.2 rfl;refine⟨.slice (some ⟨w.heap.size,0,none⟩) n c,_,_,.value (.slice (some ⟨w.heap.size,0,none⟩) n c),?_,.inl rfl,ka,la,?_,λi hf ga=>CD hf ga _ _ _ _ _⟩
    ·simp only[execOp,ho,va.int_inv,bb.int_inv,Sem.run_bind,hr,Result.andThen_ok,Sem.run_pure]
    ·have ma:∀k,flat (Qz k z)=(Qz k z.cells).flatten:=by
      intro k;induction k with
      |zero=>rfl
      |succ k ih=>simp[List.replicate_succ,flat,ih]
     have fa:∀(j:Nat),j<n*sz->(flat (Qz n z))[j]?=z.cells[j % sz]?:=by
      intro j hj;have hq:j / sz<n:=Nat.div_lt_of_lt_mul (by rw[ZK];exact hj);have:=D_ (sz:=sz) (xs:=Qz n z) (k:=j / sz) (j:=j % sz) (λd hd=>YF) (by simpa using hq) (ZJ _ ta);rw[show j / sz*sz+j % sz=j by rw[ZK];exact Nat.div_add_mod j sz]at this;rw[this];simp
     have wa:(flat (Qz n z)).length=n*sz:=by
      simp_all
     have ab:AU w g (flat (Qz n z)) ((madeCells zv.cells (c*sz)).toList.take (n*sz)):=by
      have sa:n*sz<=c*sz:=QA _ O;have ha:∀j,j<n*sz->((madeCells zv.cells (c*sz)).toList.take (n*sz))[j]?=zv.cells.toList[j % sz]?:=by
       intro j hj;rw[Qp hj];have hm:j % sz<zv.cells.size:=by rw[jb];exact ZJ _ ta
       simp[madeCells,jb,show j<c*sz by omega];rw[getElem!_pos zv.cells _ hm,getElem?_pos zv.cells _ hm]
      refine⟨by rw[QT,wa,QW,size_madeCells];omega,λv hv=>?_,λj d v hd hv=>?_⟩
      ·obtain⟨j,hj,rfl⟩:=Za hv;have ra:j<n*sz:=QN hj (Zr _ _);have:=ha j ra;rw[Qc hj]at this;exact ea.2.1 _ (Qr this.symm)
      ·have ra:j<n*sz:=by have:=(Qe.1 hd).1;omega
       rw[fa j ra]at hd;rw[ha j ra]at hv;exact ea.2.2 _ d v hd hv
     refine aH (sz:=sz) (cur:=madeCells zv.cells (c*sz)) (T:=e) (fz:=(0,0)) (heap_alloc_new w _) U O (λd hd=>YF) (ab.ext la) (λj v hv=>?_) Xk (λ_=>Xk) (λd hd=>by rw[List.eq_of_mem_replicate hd];exact ya);have hj:j<n*sz:=QN (Qe.1 hv).1 (Zr _ _);rw[Qp hj]at hv;simpa using hv
  ·cases aa
 ·cases aa
def NP:∀b:List UInt8,flat (Ax b)=Ax b
 |[]=>rfl
 |c::r=>by
  have:=NP r;simp only[Ax]at this;simp only[Ax,Qs,flat,D.cells,Q2,Zl,this]
def aBk{p fa e:TypeId}{o:Oper}{x:Operand}{y:Gz}(h:At P B w0 w m g fr s a)(hs:P.underlying p=some .string)(r:P.underlying fa=some (.slice e))(he:P.underlying e=some (.int .u8))
  (q:AB x=some y) (ho:o.op= .convert p fa x) (z:Aw S s m fr (.s2b y)=some (d,u)):u=[]∧CG P B w0 m g fr w m d (execOp a.eval o):=by
 have n:=h.slots.arg q;simp only[Aw]at z;split at z
 ·rename_i b e1;rw[e1]at n;simp only[Qa,Qd]at z;obtain⟨rfl,rfl⟩:=z;have ma:=Lib.run_convert_string_bytes (P:=P) w p fa e ⟨b.toArray⟩ hs r he;have f:Below w.heap.size w (Lib.bytesWorld w e ⟨b.toArray⟩):=
   ⟨rfl,rfl,rfl,by rw[Lib.bytesWorld_size];omega,λk hk=>Lib.bytesWorld_at_old w e _ k hk⟩
  have ja:(ByteArray.mk b.toArray).size=b.length:=XV
  rw[ja]at ma;refine⟨rfl,.slice (some ⟨w.heap.size,0,none⟩) b.length (grownCap w b.length 0 e),_,_,.value (.slice (some ⟨w.heap.size,0,none⟩) b.length (grownCap w b.length 0 e)),?_,.inl rfl,h.inv.over f,GR.over h.inv.gz f,?_,λi hf _=>hf⟩
  ·simp only[execOp,ho,n.str_inv,Sem.run_bind,ma,Result.andThen_ok,Sem.run_pure]
  ·have l:=Lib.bytesWorld_at_new w e ⟨b.toArray⟩;have wa:=NP b;refine aH (sz:=1) (cur:=Lib.bytesCells w e ⟨b.toArray⟩) (vs:=b.map λc=> .int .u8 c.toNat) l (by simp[Ax]) (grownCap_ge w _ 0 e) (λd r=>?_) ⟨?_,?_,?_⟩ (λj v hv=>?_) ?_ U (λd r=>by simp only[Ax,Qv]at r;obtain⟨c,_,rfl⟩:=r;rfl)
   ·simp only[Ax,Qv]at r;obtain⟨c,_,rfl⟩:=r;rfl
   ·rw[wa];simp[Ax]
   ·intro v hv;simp only[Qv]at hv;obtain⟨c,_,rfl⟩:=hv;rfl
   ·intro j d v r hv;rw[wa]at r;simp only[Ax,Qi,Qb]at r hv;obtain⟨c,hc,rfl⟩:=r;obtain⟨c',la,rfl⟩:=hv;rw[hc]at la;simp only[Qa]at la;subst la;exact .int _ _
   ·simp only[Lib.bytesCells];have t:=(Qe.1 hv).1;rw[QH XJ];simpa using hv
   ·simp only[Gh.over];rw[if_neg O,l];simp[Lib.bytesCells,ja]
 ·cases z
def I1:∀{xs:List D} {b:List UInt8},Bp xs=some b->∃ns:List Int,xs=ns.map (D.int .u8)∧b=ns.map λn=>UInt8.ofNat n.toNat
 |[],b,h=>by simp only[Bp,Qa]at h;subst h;exact⟨[],rfl,rfl⟩
 |x::r,b,h=>by
  unfold Bp at h;split at h
  ·rename_i z;cases z
  ·rename_i n f z;cases z;rw[Qb]at h;obtain⟨v,o,rfl⟩:=h;obtain⟨ns,rfl,rfl⟩:=I1 o;exact⟨n::ns,rfl,rfl⟩
  ·cases h
def FQ:∀(ns:List Int)(r:List UInt8),ns.foldl (λ(r:ByteArray) n=>r.push (UInt8.ofNat n.toNat)) ⟨r.toArray⟩=⟨(r++ns.map λn=>UInt8.ofNat n.toNat).toArray⟩
 |[],r=>U
 |n::ns,r=>by
  simp only[Q8,Qs];have:(ByteArray.mk r.toArray).push (UInt8.ofNat n.toNat)=⟨(r++[UInt8.ofNat n.toNat]).toArray⟩:=by
   simp[ByteArray.push]
  rw[this,FQ ns];simp
def aBn{p fa e:TypeId}{o:Oper}{x:Operand}{y:Gz}(h:At P B w0 w m g fr s a)(hs:P.underlying p=some (.slice e))(hd:P.underlying fa=some .string)(he:P.underlying e=some (.int .u8))
  (q:AB x=some y) (ho:o.op= .convert p fa x) (z:Aw S s m fr (.b2s y)=some (d,u)):u=[]∧CG P B w0 m g fr w m d (execOp a.eval o):=by
 have hr:=h.slots.arg q;simp only[Aw]at z;split at z
 ·rename_i nl t' xs e1;rw[e1]at hr;rw[Qb]at z;obtain⟨b,hb,z⟩:=z;simp only[Qd]at z;obtain⟨rfl,rfl⟩:=z;cases nl with
  |true=>
   rcases hr.slice_inv with ⟨_,rfl,ev⟩|⟨h0,_⟩
   ·simp only[Bp,Qa]at hb;subst hb;refine⟨rfl,.pure (v:= .string ⟨([]:List UInt8).toArray⟩) h.inv ?_ (.str _)⟩;simp[execOp,ho,ev,convert,run_underlying hs,run_underlying hd,run_underlying he,Conv.bytesToString];rfl
   ·cases h0
  |false=>
   obtain⟨ns,rfl,rfl⟩:=I1 hb;obtain⟨ad,n,c,sz,ws,ev,hn,za,ja,ya,da,ha,hG,_,_⟩:=hr.slice_list;have wa:∀l:List Int,flat (l.map (D.int .u8))=l.map (D.int .u8):=by
    intro l;induction l with
    |nil=>rfl
    |cons c r ih=>simp only[Qs,flat,D.cells,Q2,Zl,ih]
   rw[wa]at da;have ab:ws=ns.map (Value.int .u8):=by
    apply Zz;intro j;have hl:=da.1;by_cases t:j<ws.length
    ·have la:j<ns.length:=by simpa[hl]using t
     have:=da.2.2 j (.int .u8 ns[j]) ws[j] (by simp[la]) (Qc t);rw[Qc t,this.int_inv];simp[la]
    ·rw[Qj O,Qj (by simp;simp at hl;omega)]
   have ka:ws.length=n:=by rw[ab,hn];simp
   have i:(loadCells ad n).run P w= .ok (ns.map (Value.int .u8)).toArray w:=by
    have:=run_loadCells_list (P:=P) w ad ws ha;rw[ka,ab]at this;exact this
   have ma:=run_bytesToString (P:=P) w ad n c ns i;have f:=FQ ns [];refine⟨rfl,.pure (v:= .string ⟨(ns.map λn=>UInt8.ofNat n.toNat).toArray⟩) h.inv ?_ (.str _)⟩;have k:(convert p fa (.slice (some ad) n c)).run P w=(Conv.bytesToString (.slice (some ad) n c)).run P w:=by
    simp[convert,run_underlying hs,run_underlying hd,run_underlying he]
   simp only[execOp,ho,ev,Sem.run_bind,k,ma,Result.andThen_ok,Sem.run_pure];rw[show ByteArray.empty=⟨([]:List UInt8).toArray⟩from rfl,f];rfl
 ·cases z
end
section
variable{P:Program}{B:Nat}{w0 w:World}{m:Gu}{g:Gh}{fr:Id}{s:Nat->D}{a:Act}{S:Gq}{d:D}{u:GA}
def CG.of_nil{x:Sem Next}(h:u=[]∧CG P B w0 m g fr w m d x):CG P B w0 m g fr w (GA.app m u) d x:=by
 obtain⟨rfl,h⟩:=h;exact h
def bD{w:World}{g:Gh}{d e:D}{v u:Value}(h:Rep w g d v)(k:Rep w g e u):Rep w g (.tup [d,e]) (.tuple #[v,u]):=by
 refine .tup [d,e] [v,u] rfl (λj a b p m=>?_)
 match j with
 |0=>simp at p m;subst p m;exact h
 |1=>simp at p m;subst p m;exact k
 |j+2=>simp at p
def mU{ne:Bool}{t:TypeId}{x y:Operand}{yt:TypeId}{o:Oper}{p q:Gz}{r:DOp}(h:At P B w0 w m g fr s a)(n:AB x=some p)(hy:AB y=some q)
  (ca:wV P ne t x y p q=some r) (ho:o.op= .binOp (if ne then .neq else .eql) t x y yt) (z:Aw S s m fr r=some (d,u)):u=[]∧CG P B w0 m g fr w m d (execOp a.eval o):=by
 have va:=h.slots.arg n;have bb:=h.slots.arg hy;have ma:∀v,(eqGuard (if ne then .neq else .eql) t x y (a.eval x) (a.eval y)).run P w= .ok () w->(binOp (if ne then .neq else .eql) t (a.eval x) (a.eval y)).run P w= .ok v w->(execOp a.eval o).run P w= .ok (.value v) w:=by
  intro v j e2;simp only[execOp,ho,Sem.run_bind,j,e2,Result.andThen_ok,Sem.run_pure]
 have i:r= .bin (if ne then .neq else .eql) p q->u=[]∧CG P B w0 m g fr w m d (execOp a.eval o):=by
  rintro rfl;simp only[Aw]at z;rw[Qb]at z;obtain⟨d',h1,z⟩:=z;simp only[Qd]at z;obtain⟨rfl,rfl⟩:=z;obtain⟨v,j,e2,e3,e4⟩:=SX (P:=P) (t:=t) va bb h1;exact⟨rfl,.pure h.inv (ma v (Ib _ t x y _ _ e3 e4 w) j) e2⟩
 have f:∀k td,P.underlying t=some td->aBq k td->(k=2->(Gb x||Gb y)=true)->r= .nileq ne k p q->u=[]∧CG P B w0 m g fr w m d (execOp a.eval o):=by
  rintro k td hu hd hc rfl;simp only[Aw]at z;rw[Qb]at z;obtain⟨b,h1,z⟩:=z;simp only[Qd]at z;obtain⟨rfl,rfl⟩:=z;obtain⟨j,e2,e3,e4⟩:=Wc va bb h1 hu hd 9999;exact⟨rfl,.pure h.inv (ma _ (WQ _ t x y _ _ e3 (λe=>hc (e4 e)) w) (Tu e2 ne j)) (.bool _)⟩
 unfold wV at ca;split at ca
 ·rename_i hu;simp only[Qa]at ca;subst ca;simp only[Aw]at z;split at z
  ·rename_i b c ex ey;rw[ex]at va;rw[ey]at bb;simp only[Qa,Qd]at z;obtain⟨rfl,rfl⟩:=z;refine⟨rfl,.pure h.inv (ma _ (Ib _ t x y _ _ (by rw[va.bool_inv];simp) (by rw[va.bool_inv];simp) w) (Tu (by rw[va.bool_inv];rfl) ne (b:=b==c) ?_)) (.bool _)⟩;rw[va.bool_inv,bb.bool_inv];exact run_equalIn_bool' w 9999 t _ _ hu
  ·cases z
 ·simp_all
 ·simp_all
 ·rename_i fs hu;split at ca
  ·rename_i hc;rw[Qb]at ca;obtain⟨l,hl,rfl⟩:=ca;simp only[Aw]at z;split at z
   ·rename_i xs ys ex ey;rw[ex]at va;rw[ey]at bb;rw[Qb]at z;obtain⟨b,h1,z⟩:=z;simp only[Qd]at z;obtain⟨rfl,rfl⟩:=z;obtain⟨j,e2⟩:=To va bb hu hc.1 hc.2 hl h1 x y (if ne then .neq else .eql);refine⟨rfl,.pure h.inv (ma _ e2 (Tu ?_ ne j)) (.bool _)⟩;obtain⟨vs,e3,_⟩:=aJ va;rw[e3];rfl
   ·cases z
  ·cases ca
 ·rename_i e hu;simp only[Qa]at ca;exact f 0 _ hu ⟨e,rfl⟩ U ca.symm
 ·rename_i e hu;simp only[Qa]at ca;exact f 1 _ hu ⟨e,rfl⟩ U ca.symm
 ·rename_i p' r' v' hu;simp only[Qa]at ca;exact f 3 _ hu ⟨p',r',v',rfl⟩ U ca.symm
 ·rename_i ms hu;split at ca
  ·rename_i hc;simp only[Qa]at ca;exact f 2 _ hu ⟨ms,rfl⟩ (λ_=>hc) ca.symm
  ·cases ca
 ·cases ca
def aBm{op:BinOp}{t:TypeId}{x y:Operand}{i:TypeId}{o:Oper}{p q:Gz}(h:At P B w0 w m g fr s a)(n:AB x=some p)(r:AB y=some q)
  (b:o.op= .binOp op t x y i) (z:Aw S s m fr (.bin op p q)=some (d,u)):u=[]∧CG P B w0 m g fr w m d (execOp a.eval o):=by
 simp only[Aw]at z;rw[Qb]at z;obtain⟨k,f,z⟩:=z;simp only[Qd]at z;obtain⟨rfl,rfl⟩:=z;obtain⟨v,j,e2,c,e4⟩:=SX (P:=P) (t:=t) (h.slots.arg n) (h.slots.arg r) f;refine⟨rfl,.pure h.inv ?_ e2⟩;simp only[execOp,b,Sem.run_bind,Ib op t x y _ _ c e4 w,j,Result.andThen_ok,Sem.run_pure]
def sD{x:Operand}{xt t:TypeId}{ok:Bool}{z:D}{o:Oper}{p:Gz}{td:TypeDesc}(h:At P B w0 w m g fr s a)(k:P.underlying t=some td)(ia:∀ms,td≠ .interface ms)(hz:CJ P t=some z)
  (q:AB x=some p) (ho:o.op= .typeAssert x xt t ok) (y:Aw S s m fr (.tass t ok z p)=some (d,u)):u=[]∧CG P B w0 m g fr w m d (execOp a.eval o):=by
 have va:=h.slots.arg q;obtain⟨zv,f,b⟩:∃zv,Rep w g z zv∧(zeroValue t).run P w= .ok zv w:=by
  unfold CJ at hz;split at hz
  ·rename_i i hi;split at hz
   ·rename_i v j;exact⟨v,Rep.ofVal hz,by simp[zeroValue,typeInfo,hi,j]⟩
   ·cases hz
  ·cases hz
 have n:∀v,(Instr.typeAssert (a.eval x) xt t ok).run P w= .ok v w->(execOp a.eval o).run P w= .ok (.value v) w:=by
  intro v e;simp only[execOp,ho,Sem.run_bind,e,Result.andThen_ok,Sem.run_pure]
 simp only[Aw]at y;split at y
 ·rename_i t' d' ex;rw[ex]at va;obtain⟨v,ev,j,_⟩:=va.iface_inv;split at y
  ·rename_i qa;subst qa;simp only[Qa,Qd]at y;obtain⟨rfl,rfl⟩:=y;refine⟨rfl,.pure (v:=if ok then .tuple #[v,.bool true]else v) h.inv (n _ ?_) ?_⟩
   ·rw[ev];unfold Instr.typeAssert;simp only[Sem.run_bind,run_underlying k,Result.andThen_ok];cases td<;>first|exact absurd rfl (ia _)|(cases ok<;>simp)
   ·cases ok
    ·exact j
    ·exact bD j (.bool true)
  ·rename_i qa;split at y
   ·rename_i r;subst r;simp only[Qa,Qd]at y;obtain⟨rfl,rfl⟩:=y;refine⟨rfl,.pure (v:= .tuple #[zv,.bool false]) h.inv (n _ ?_) (bD f (.bool false))⟩;rw[ev];unfold Instr.typeAssert;simp only[Sem.run_bind,run_underlying k,Result.andThen_ok];have c:¬t'=t:=qa;cases td<;>first|exact absurd rfl (ia _)|(simp[c,b])
   ·cases y
 ·rename_i ex;rw[ex]at va;have ev:=va.nili_inv;split at y
  ·rename_i r;subst r;simp only[Qa,Qd]at y;obtain⟨rfl,rfl⟩:=y;refine⟨rfl,.pure (v:= .tuple #[zv,.bool false]) h.inv (n _ ?_) (bD f (.bool false))⟩;rw[ev];unfold Instr.typeAssert;simp only[Sem.run_bind,run_underlying k,Result.andThen_ok];cases td<;>first|exact absurd rfl (ia _)|(simp[b])
  ·cases y
 ·cases y
def cN{xs:Array Operand}{l:List Gz}(h:At P B w0 w m g fr s a)(hl:DE xs.toList=some l):
  ((xs.map a.eval).toList).length=(l.map (·.ev s)).length∧∀(j:Nat) d v,(l.map (·.ev s))[j]?=some d->((xs.map a.eval).toList)[j]?=some v->Rep w g d v:=by
 have:=h.slots.args hl;simpa using this
end
def M9{w:World}{b k:Nat}{o:Obj}(h:k≠b):({w with heap:=w.heap.setIfInBounds b o}:World).heap[k]?=w.heap[k]?:=by
 grind
def Gh.itr(g:Gh)(t:Id)(b:Nat):Gh:={g with tb:=λi=>if i=t then some (b,0,0,0)else g.tb i}
section
variable{P:Program}{B:Nat}{w0 w w':World}{m:Gu}{g g':Gh}{fr:Id}{s:Nat->D}{a:Act}{S:Gq}{d:D}{u:GA}
def DO(m:Gu)(t:Id)(x:D)(i:Id)(o:Nat):m.put t 1 [x] i o=if i=t∧o=1 then some x else m i o:=by
 grind [Gu.put]
def GR.newItr{t:Id}(o:Obj)(n:∀b,w.heap.size<=b->g.G b=0)(k:g.tb t=none):GR w g (w.alloc o) (g.itr t w.heap.size):=by
 refine⟨λp y=>?_,λd=>Qk _,λv b h=>h,rfl,λi x h=>?_⟩
 ·by_cases r:p.block<w.heap.size
  ·exact World.cell?_alloc_lt w o p r
  ·simp_all
 ·grind [Gh.itr]
def GD.newItr(h:GD P B w0 m w g){t:Id}(hf:BN m g t)(bs:List UInt8):GD P B w0 (m.put t 1 [.it bs 0]) (w.alloc (.stringIter ⟨bs.toArray⟩ 0)) (g.itr t w.heap.size):=by
 have x:=GR.newItr (t:=t) (Obj.stringIter ⟨bs.toArray⟩ 0) h.gz hf.2.2;have da:=DO m t (.it bs 0);refine⟨h.below.alloc h.size _,Yp,λb f=>h.gz b (by simp at f;omega),h.old,λi b hi=>?_,h.inj,λi o d hm a=>?_,λi e hi=>?_,λi1 i2 e1 e2 b y y' u z h3 h4=>?_,λi s p hi=>?_,λi i' s p s' p' b y y' u z h3 h4=>?_⟩
 ·obtain⟨p,q,vs,T,hh,r⟩:=h.obj i b hi;refine⟨p,q,vs,T,(Below.heap_alloc w _ b (h.lt hi)).trans hh,λo d hm=>?_⟩;rw[da,if_neg (by rintro⟨rfl,_⟩;simp only[Gh.itr]at hi;rw[hf.2.1]at hi;cases hi)]at hm;obtain⟨v,r1,r2,r3⟩:=r o d hm;exact⟨v,r1,r2,r3.ext x⟩
 ·rw[da]at hm;split at hm
  ·rw[←QJ hm];rfl
  ·exact h.kind _ _ _ hm a
 ·rw[da,if_neg U]at hi;obtain⟨b,n,c,sz,cur,t1,t2,t3,t4,t5,t6,t7,t8,t9,xa⟩:=h.tok i e hi;have k:b<w.heap.size:=(Qf.1 t5).1;have j:i≠t:=by rintro rfl;rw[hf.1 0]at hi;cases hi
  exact⟨b,n,c,sz,cur,by simp[Gh.itr,j,t1],t2,t3,t4,(Below.heap_alloc w _ b k).trans t5,t6,t7,t8,t9,xa⟩
 ·rw[da,if_neg U]at u z;have n1:i1≠t:=by rintro rfl;rw[hf.1 0]at u;cases u
  have n2:i2≠t:=by rintro rfl;rw[hf.1 0]at z;cases z
  simp only[Gh.itr,if_neg n1]at h3;simp only[Gh.itr,if_neg n2]at h4;exact h.tinj _ _ _ _ _ _ _ u z h3 h4
 ·rw[da]at hi;split at hi
  ·rename_i hc;obtain⟨rfl,_⟩:=hc;simp only[Qa,D.it.injEq]at hi;obtain⟨rfl,rfl⟩:=hi;exact⟨w.heap.size,by simp[Gh.itr],h.size,heap_alloc_new w _,h.gz _ (Qk _),λi' h'=>by have:=h.lt h';omega⟩
  ·obtain⟨b,t1,t2,t3,t4,t5⟩:=h.itr.1 i s p hi;have k:b<w.heap.size:=(Qf.1 t3).1;have j:i≠t:=by rintro rfl;rw[hf.1 1]at hi;cases hi
   exact⟨b,by simp[Gh.itr,j,t1],t2,(Below.heap_alloc w _ b k).trans t3,t4,t5⟩
 ·have ha:∀i s p,m i 1=some (.it s p)->∀b y,(g.itr t w.heap.size).tb i=some (b,y)->i≠t∧g.tb i=some (b,y)∧b<w.heap.size:=by
   intro i s p hm b y f;have j:i≠t:=by rintro rfl;rw[hf.1 1]at hm;cases hm
   simp only[Gh.itr,if_neg j]at f;obtain⟨b',t1,t2,t3,t4,t5⟩:=h.itr.1 i s p hm;rw[t1]at f;simp only[Qa,Qd]at f;obtain⟨rfl,rfl⟩:=f;exact⟨j,t1,(Qf.1 t3).1⟩
  rw[da]at u z;split at u<;>split at z
  ·simp_all
  ·grind [Gh.itr]
  ·grind [Gh.itr]
  ·obtain⟨_,k3,_⟩:=ha _ _ _ u _ _ h3;obtain⟨_,k4,_⟩:=ha _ _ _ z _ _ h4;exact h.itr.2 _ _ _ _ _ _ _ _ _ u z k3 k4
def GD.nextItr(h:GD P B w0 m w g){i:Id}{b:Nat}{bs:List UInt8}{p q:Nat}(hm:m i 1=some (.it bs p))(hb:g.tb i=some (b,0,0,0)):
  GD P B w0 (m.put i 1 [.it bs q]) {w with heap:=w.heap.setIfInBounds b (.stringIter ⟨bs.toArray⟩ q)} g∧GR w g {w with heap:=w.heap.setIfInBounds b (.stringIter ⟨bs.toArray⟩ q)} g:=by
 obtain⟨b0,t1,t2,t3,t4,t5⟩:=h.itr.1 i bs p hm;rw[hb]at t1;simp only[Qa,Qd,and_true]at t1;subst t1;have ea:b<w.heap.size:=(Qf.1 t3).1;have fa:∀k,k≠b->({w with heap:=w.heap.setIfInBounds b (.stringIter ⟨bs.toArray⟩ q)}:World).heap[k]?=w.heap[k]?:=λk hk=>M9 hk
 have da:=DO m i (.it bs q);have x:GR w g {w with heap:=w.heap.setIfInBounds b (.stringIter ⟨bs.toArray⟩ q)} g:=by
  refine⟨λr hr=>?_,λ_=>Qk _,λ_ _ h=>h,rfl,λ_ _ h=>h⟩;have j:r.block≠b:=by rintro e;rw[e,t4]at hr;omega
  simp only[World.cell?];rw[fa _ j]
 have ja:({w with heap:=w.heap.setIfInBounds b (.stringIter ⟨bs.toArray⟩ q)}:World).heap.size=w.heap.size:=U
 refine⟨⟨⟨h.below.os,h.below.tape,h.below.output,Yg,λk hk=>(fa k O).trans (h.below.block k hk)⟩,Yf,by rw[ja];exact h.gz,h.old,λi' b' hi=>?_,h.inj,λi' o d u a=>?_,λi' e hi=>?_,λi1 i2 e1 e2 b' y y' f t h3 h4=>?_,λi' s' p' hi=>?_,λi1 i2 s1 p1 s2 p2 b' y y' f t h3 h4=>?_⟩,x⟩
 ·obtain⟨p1,q1,vs,T,hh,r⟩:=h.obj i' b' hi;have j:b'≠b:=by rintro rfl;exact t5 i' hi
  refine⟨p1,q1,vs,T,(fa b' j).trans hh,λo d u=>?_⟩;rw[da]at u;split at u
  ·rename_i hc;obtain⟨rfl,rfl⟩:=hc;obtain⟨v,_,_,r3⟩:=r 1 _ hm;cases r3
  ·obtain⟨v,r1,r2,r3⟩:=r o d u;exact⟨v,r1,r2,r3.ext x⟩
 ·rw[da]at u;split at u
  ·rw[←QJ u];rfl
  ·exact h.kind _ _ _ u a
 ·rw[da,if_neg U]at hi;obtain⟨b1,n,c,sz,cur,u1,u2,u3,u4,u5,u6,u7,u8,u9,z⟩:=h.tok i' e hi;have j:b1≠b:=by rintro rfl;rw[t3]at u5;cases u5
  exact⟨b1,n,c,sz,cur,u1,u2,u3,u4,(fa b1 j).trans u5,u6,u7,u8,u9,z⟩
 ·rw[da,if_neg U]at f t;exact h.tinj _ _ _ _ _ _ _ f t h3 h4
 ·rw[da]at hi;split at hi
  ·simp_all
  ·rename_i hc;obtain⟨b1,u1,u2,u3,u4,u5⟩:=h.itr.1 i' s' p' hi;have j:b1≠b:=by
    rintro rfl;exact hc ⟨h.itr.2 _ _ _ _ _ _ _ _ _ hi hm u1 hb,rfl⟩
   exact⟨b1,u1,u2,(fa b1 j).trans u3,u4,u5⟩
 ·have ha:∀i' s' p',m.put i 1 [.it bs q] i' 1=some (.it s' p')->∃s p,m i' 1=some (.it s p):=by
   intro i' s' p' hi;rw[da]at hi;split at hi
   ·simp_all
   ·exact⟨_,_,hi⟩
  obtain⟨_,_,k1⟩:=ha _ _ _ f;obtain⟨_,_,k2⟩:=ha _ _ _ t;exact h.itr.2 _ _ _ _ _ _ _ _ _ k1 k2 h3 h4
def Rep.itp_inv{i:Id}{v:Value}(h:Rep w g (.itp i) v):∃b,v= .pointer (some ⟨b,0,none⟩)∧g.tb i=some (b,0,0,0):=by
 cases h with
 |itp _ b o=>exact⟨b,rfl,o⟩
def iI{t:TypeId}{o:Oper}{x:Operand}{y:Gz}(h:At P B w0 w m g fr s a)(z:P.underlying t=some .string)(q:AB x=some y)(ho:o.op= .range t x)
  (r:Aw S s m fr (.range y)=some (d,u)):CG P B w0 m g fr w (GA.app m u) d (execOp a.eval o):=by
 have n:=h.slots.arg q;simp only[Aw]at r;split at r
 ·rename_i b c;rw[c]at n;simp only[Qa,Qd]at r;obtain⟨rfl,rfl⟩:=r;refine⟨.pointer (some ⟨w.heap.size,0,none⟩),w.alloc (.stringIter ⟨b.toArray⟩ 0),g.itr fr w.heap.size,.value (.pointer (some ⟨w.heap.size,0,none⟩)),?_,.inl rfl,?_⟩
  ·have e1:a.eval x= .string ⟨b.toArray⟩:=n.str_inv;simp[execOp,ho,Instr.range,run_underlying z,e1]
  ·refine⟨h.inv.newItr h.self b,GR.newItr _ h.inv.gz h.self.2.2,.itp fr _ (by simp[Gh.itr]),λi k j=>?_⟩;have:i≠fr:=λe=>j Yh
   exact⟨λo=>by show m.put fr 1 _ i o=none;rw[DO,if_neg (by simp[this])];exact k.1 o,k.2.1,by simp only[Gh.itr];rw[if_neg this];exact k.2.2⟩
 ·cases r
def sE{o:Oper}{x:Operand}{y:Gz}(h:At P B w0 w m g fr s a)(n:AB x=some y)(ho:o.op= .next x true)
  (he:Aw S s m fr (.next y)=some (d,u)):CG P B w0 m g fr w (GA.app m u) d (execOp a.eval o):=by
 have t:=h.slots.arg n;simp only[Aw]at he;split at he
 ·rename_i i ex;rw[ex]at t;obtain⟨b,e1,f⟩:=t.itp_inv;split at he
  ·rename_i bs z hm;obtain⟨b',t1,t2,t3,t4,t5⟩:=h.inv.itr.1 i bs z hm;rw[f]at t1;simp only[Qa,Qd,and_true]at t1;subst t1;have k:b<w.heap.size:=(Qf.1 t3).1;have fa:(getObj b).run P w= .ok (.stringIter ⟨bs.toArray⟩ z) w:=by simp[getObj,Sem.run,t3]
   have p:∀o',(setObj b o').run P w= .ok () {w with heap:=w.heap.setIfInBounds b o'}:=by intro o';simp[setObj,Sem.run,t3]
   have ja:(ByteArray.mk bs.toArray).size=bs.length:=XV
   split at he
   ·rename_i hp;simp only[Qa,Qd]at he;obtain⟨rfl,rfl⟩:=he;obtain⟨hi,sa⟩:=h.inv.nextItr (q:=z+(Utf8.decode ⟨bs.toArray⟩ z).2) hm f;refine⟨.tuple #[.bool true,.int .i64 (z:Nat),.int .i32 (Utf8.decode ⟨bs.toArray⟩ z).1],_,g,.value (.tuple #[.bool true,.int .i64 (z:Nat),.int .i32 (Utf8.decode ⟨bs.toArray⟩ z).1]),?_,.inl rfl,⟨hi,sa,?_,λj e ga=>?_⟩⟩
    ·simp only[execOp,ho,Instr.next,e1,Sem.run_bind,fa,Result.andThen_ok,ja,hp,if_true];cases r:Utf8.decode ⟨bs.toArray⟩ z with
     |mk c wd=>
      simp only[p,Result.andThen_ok,Sem.run_pure];rfl
    ·refine .tup [_,_,_] [_,_,_] rfl (λj d v r hv=>?_)
     match j with
     |0=>simp at r hv;subst r hv;exact .bool _
     |1=>simp at r hv;subst r hv;exact .int _ _
     |2=>simp at r hv;subst r hv;exact .int _ _
     |j+3=>simp at r
    ·have:j≠i:=by rintro rfl;rw[e.1 1]at hm;cases hm
     exact⟨λo=>by show m.put i 1 _ j o=none;rw[DO,if_neg (by simp[this])];exact e.1 o,e.2⟩
   ·rename_i hp;simp only[Qa,Qd]at he;obtain⟨rfl,rfl⟩:=he;refine .pure (v:= .tuple #[.bool false]) h.inv ?_ (.tup [_] [_] rfl (λj d v r hv=>?_))
    ·simp only[execOp,ho,Instr.next,e1,Sem.run_bind,fa,Result.andThen_ok,ja,hp,if_false,Sem.run_pure]
    ·match j with
     |0=>simp at r hv;subst r hv;exact .bool _
     |j+1=>simp at r
  ·cases he
 ·cases he
end
structure G_.ok (P:Program) (f:FuncId) (q:G_):Prop where
 ent:∃fn,P.funcs[f]?=some fn∧fn.body.isSome=true∧(fn.name== "runtime.NumGoroutine")=false
 loc:∀ds m m' fr,(∀l∈q.rd ds m,m l.1 l.2=m' l.1 l.2)->q.ex ds m fr=q.ex ds m' fr
 run:∀{B:Nat} {w0 w:World} {m:Gu} {g:Gh} {fr:Id} {ds:List D} {vs:List Value} {r:D} {u:GA},GD P B w0 m w g->(∀i,fr<:+i->BN m g i)->
  vs.length=ds.length->(∀(j:Nat) d v,ds[j]?=some d->vs[j]?=some v->Rep w g d v)->q.ex ds m fr=some (r,u)->
  Calls P f vs.toArray w λe w'=>∃v g',e= .returned v∧aPq P B w0 m g fr w (GA.app m u) r v w' g'
def Gq.ok(P:Program)(S:Gq):Prop:=∀f q,S f=some q->q.ok P f
section
variable{P:Program}{B:Nat}{w0 w:World}{m:Gu}{g:Gh}{fr:Id}{s:Nat->D}{a:Act}{S:Gq}{d:D}{u:GA}
def aFO{o:Oper}{ha:DOp}(h:At P B w0 w m g fr s a)(ca:tr P o.op=some ha)(za:∀f xs,ha≠ .call f xs)(aa:Aw S s m fr ha=some (d,u)):
  CG P B w0 m g fr w (GA.app m u) d (execOp a.eval o):=by
 have da:∀{x:Operand} {F:Gz->DOp},(AB x).map F=some ha->∃y,AB x=some y∧ha=F y:=by
  simp_all
 have j:∀{v:Value} {d':D},(execOp a.eval o).run P w= .ok (.value v) w->Rep w g d' v->some (d',([]:GA))=some (d,u)->CG P B w0 m g fr w (GA.app m u) d (execOp a.eval o):=by
  intro v d' e1 e2 e3;simp only[Qa,Qd]at e3;obtain⟨rfl,rfl⟩:=e3;exact .pure h.inv e1 e2
 cases hop:o.op<;>rw[hop]at ca<;>first|(simp only[tr]at ca;done)|skip
 case move x=>
  obtain⟨y,hx,rfl⟩:=da ca;exact j (by simp[execOp,hop]) (h.slots.arg hx) aa
 case assign x=>
  obtain⟨y,hx,rfl⟩:=da ca;exact j (by simp[execOp,hop]) (h.slots.arg hx) aa
 case pick c x y=>
  simp only[tr]at ca;split at ca
  ·rename_i c' x' y' e1 e2 e3;simp only[Qa]at ca;subst ca;simp only[Aw]at aa;split at aa
   ·rename_i b eb;have hb:=h.slots.arg e1;rw[eb]at hb;have ma:(execOp a.eval o).run P w= .ok (.value (if b then a.eval x else a.eval y)) w:=by
     simp[execOp,hop,hb.bool_inv,asBool]
    refine j ma ?_ aa;cases b
    ·exact h.slots.arg e3
    ·exact h.slots.arg e2
   ·cases aa
  ·cases ca
 case alloc t=>
  simp only[tr]at ca;rw[Qb]at ca;obtain⟨z,hz,rfl⟩:=ca;simp only[Aw,Qa,Qd]at aa;obtain⟨rfl,rfl⟩:=aa;exact iO h hz hop
 case box t x=>
  obtain⟨y,hx,rfl⟩:=da ca;simp only[Aw]at aa;split at aa
  ·rename_i hd;simp only[Qa,Qd]at aa;obtain⟨rfl,rfl⟩:=aa;exact aBl h hx hd hop
  ·cases aa
 case build t parts=>
  simp only[tr]at ca;split at ca
  ·rename_i ba zs hu hz;split at ca
   ·rename_i ea;rw[Qb]at ca;obtain⟨l,hl,rfl⟩:=ca;exact .of_nil (iN h hu ea hz hl hop aa)
   ·cases ca
  ·rename_i len e zs hu hz;split at ca
   ·rename_i oa;rw[Qb]at ca;obtain⟨l,hl,rfl⟩:=ca;exact .of_nil (bP h hu oa hz hl hop aa)
   ·cases ca
  ·cases ca
 case buildSlice t len parts=>
  simp only[tr]at ca;split at ca
  ·grind [bQ]
  ·cases ca
 case load t x=>
  simp only[tr]at ca;split at ca
  ·rename_i k y hk hx;simp only[Qa]at ca;subst ca;exact .of_nil (sH h hk hx hop aa)
  ·cases ca
 case store t x v=>
  simp only[tr]at ca;split at ca
  ·grind [iH]
  ·cases ca
 case nilCheck x=>
  obtain⟨y,hx,rfl⟩:=da ca;have hr:=h.slots.arg hx;simp only[Aw]at aa;split at aa
  ·rename_i i o' e;rw[e]at hr;obtain⟨b,e1,hb⟩:=hr.ptr_inv;exact j (v:=a.eval x) X8 hr aa
  ·rename_i ds e;rw[e]at hr;obtain⟨ad,vv,e1,_⟩:=hr.eptr_inv;exact j (v:=a.eval x) X8 hr aa
  ·rename_i f cs e;rw[e]at hr;obtain⟨vs,e1,_⟩:=hr.fn_inv;exact j (v:=a.eval x) X8 hr aa
  ·cases aa
 case binOp op t x y yt=>
  cases op
  case eql=>
   simp only[tr]at ca;split at ca
   ·rename_i p q hx hy;exact .of_nil (mU (ne:=false) h hx hy ca hop aa)
   ·cases ca
  case neq=>
   simp only[tr]at ca;split at ca
   ·rename_i p q hx hy;exact .of_nil (mU (ne:=true) h hx hy ca hop aa)
   ·cases ca
  all_goals
   simp only[tr]at ca;split at ca
   ·rename_i p q hx hy;simp only[Qa]at ca;subst ca;exact .of_nil (aBm h hx hy hop aa)
   ·cases ca
 case unOp op t x=>
  obtain⟨y,hx,rfl⟩:=da ca;simp only[Aw]at aa;rw[Qb]at aa;obtain⟨d',h1,aa⟩:=aa;obtain⟨v,e1,e2⟩:=wL (P:=P) (h.slots.arg hx) h1;exact j (by simp only[execOp,hop,Sem.run_bind,e1,Result.andThen_ok,Sem.run_pure]) e2 (by rw[aa])
 case convert src dst x=>
  simp only[tr]at ca;split at ca
  ·rename_i k1 k y hs hd hx;simp only[Qa]at ca;subst ca;have hr:=h.slots.arg hx;simp only[Aw]at aa;split at aa
   ·rename_i k' n e;rw[e]at hr;refine j (v:= .int k (k.wrap n)) ?_ (.int _ _) aa;simp[execOp,hop,hr.int_inv,convert,run_underlying hs,run_underlying hd,Conv.intToInt]
   ·cases aa
  ·rename_i y hs hd hx;simp only[Qa]at ca;subst ca;have hr:=h.slots.arg hx;simp only[Aw]at aa;split at aa
   ·rename_i b e;rw[e]at hr;refine j (v:=a.eval x) ?_ hr aa;simp[execOp,hop,hr.str_inv,convert,run_underlying hs,run_underlying hd]
   ·cases aa
  ·rename_i e y hs hd hx;split at ca
   ·rename_i he;simp only[Qa]at ca;subst ca;exact .of_nil (aBk h hs hd he hx hop aa)
   ·cases ca
  ·rename_i e y hs hd hx;split at ca
   ·rename_i he;simp only[Qa]at ca;subst ca;exact .of_nil (aBn h hs hd he hx hop aa)
   ·cases ca
  ·cases ca
 case fieldAddr t x f=>
  simp only[tr]at ca;split at ca
  ·rename_i ba y hu hx;split at ca
   ·rename_i fd hf;split at ca
    ·rename_i n hn;simp only[Qa]at ca;subst ca;exact .of_nil (iM h hu hf hn hx hop aa)
    ·cases ca
   ·cases ca
  ·cases ca
 case field t x f=>
  simp only[tr]at ca;split at ca
  ·rename_i ba y hu hx;split at ca
   ·rename_i fd hf;rw[Qb]at ca;obtain⟨k,hk,rfl⟩:=ca;exact .of_nil (iL h hu hf hk hx hop aa)
   ·cases ca
  ·cases ca
 case indexAddr t x i=>
  simp only[tr]at ca;split at ca
  ·rename_i e y z hu hx hi;rw[Qb]at ca;obtain⟨n,hn,rfl⟩:=ca;exact .of_nil (iJ h hu hn hx hi hop aa)
  ·rename_i len e y z hu hx hi;rw[Qb]at ca;obtain⟨n,hn,rfl⟩:=ca;exact .of_nil (iK h hu hn hx hi hop aa)
  ·cases ca
 case index t x i=>
  simp only[tr]at ca;split at ca
  ·rename_i y z hu hx hi;simp only[Qa]at ca;subst ca;exact .of_nil (sI h hu hx hi hop aa)
  ·rename_i len e y z hu hx hi;split at ca
   ·rename_i hk;split at ca
    ·rename_i hc;simp only[Qa]at ca;subst ca;exact .of_nil (sK h hu hk hc hx hi hop aa)
    ·cases ca
   ·rename_i sz hk;simp only[Qa]at ca;subst ca;exact .of_nil (sJ h hu hk hx hi hop aa)
   ·cases ca
  ·cases ca
 case slice t x lo hi mx=>
  cases mx with
  |some mx=>simp only[tr]at ca;cases ca
  |none=>
   simp only[tr]at ca;split at ca
   ·rename_i y l' h' hu hx ka ta;simp only[Qa]at ca;subst ca;exact .of_nil (sL h hu hx ka ta hop aa)
   ·rename_i e y l' h' hu hx ka ta;rw[Qb]at ca;obtain⟨n,hn,rfl⟩:=ca;exact .of_nil (sM h hu hn hx ka ta hop aa)
   ·cases ca
 case makeInterface t x=>
  simp only[tr]at ca;split at ca
  ·cases ca
  ·rename_i td y ia hu hx;simp only[Qa]at ca;subst ca;have hr:=h.slots.arg hx;simp only[Aw]at aa;split at aa
   ·rename_i hc;refine j (v:= .iface t (a.eval x)) ?_ (.iface t _ _ hc.2 hr.un) aa;simp only[execOp,hop,Instr.makeInterface,Sem.run_bind,run_underlying hu,Result.andThen_ok];cases td<;>first|exact absurd rfl (ia _)|rfl
   ·cases aa
  ·cases ca
 case typeAssert x xt t ok=>
  simp only[tr]at ca;split at ca
  ·cases ca
  ·rename_i td z y ia hu hz hx;simp only[Qa]at ca;subst ca;exact .of_nil (sD h hu (λms e=>ia ms (by rw[←e])) hz hx hop aa)
  ·cases ca
 case extract x i=>
  obtain⟨y,hx,rfl⟩:=da ca;have hr:=h.slots.arg hx;simp only[Aw]at aa;split at aa
  ·rename_i ds e;rw[e]at hr;obtain⟨vs,e1,e2,e3⟩:=hr.tup_inv;rw[Qb]at aa;obtain⟨d',hd,aa⟩:=aa;have hv:i<vs.length:=by rw[e2];exact(Qe.1 hd).1
   exact j (v:=vs[i]) (by simp[execOp,hop,e1,Instr.extract,hv]) (e3 i d' _ hd (Qc hv)) (by rw[aa])
  ·cases aa
 case makeFunc fn first caps=>
  cases fn with
  |func f=>
   simp only[tr]at ca;split at ca
   ·rename_i l hf hl;simp only[Qa]at ca;subst ca;have ua:first=#[]:=Array.toList_eq_nil_iff.1 hf
    subst ua;obtain⟨a1,a2⟩:=cN h hl;simp only[Aw]at aa;refine j (v:= .func (.func f) #[] (caps.map a.eval)) (by simp[execOp,hop,Instr.makeFunc]) ?_ aa;have:=Rep.fn (w:=w) (g:=g) f (l.map (·.ev s)) (caps.map a.eval).toList a1 a2
    rwa [QC]at this
   ·cases ca
  |_=>simp only[tr]at ca;cases ca
 case makeSlice t x y=>
  simp only[tr]at ca;split at ca
  ·rename_i e hu;split at ca
   ·rename_i sz bytes z p q he hz hx hy;simp only[Qa]at ca;subst ca;exact sG h hu he hz hx hy hop aa
   ·cases ca
  ·cases ca
 case range t x=>
  simp only[tr]at ca;split at ca
  ·rename_i y hu hx;simp only[Qa]at ca;subst ca;exact iI h hu hx hop aa
  ·cases ca
 case next x b=>
  cases b with
  |true=>
   obtain⟨y,hx,rfl⟩:=da ca;exact sE h hx hop aa
  |false=>simp only[tr]at ca;cases ca
 case call c=>
  simp only[tr,OZ]at ca;split at ca
  ·split at ca
   ·simp only[Qa]at ca;exact absurd ca.symm (za _ _)
   ·cases ca
  ·rename_i fa;split at ca
   ·rename_i x t r pa;have hc:c={callee:= .builtin .len,args:=#[x],argTypes:=#[t]}:=by
     cases c;simp only at fa r pa ⊢;subst fa;congr
     ·exact Q4.1 r
     ·exact Q4.1 pa
    subst hc;have ga:∀n,(Builtin.len_ #[t] o.type #[a.eval x]).run P w= .ok (goInt n) w->(execOp a.eval o).run P w= .ok (.value (.int .i64 n)) w:=by
     intro n e;simp only[execOp,hop,resolve,invoke,builtin,Sem.run_bind,Sem.run_pure,Result.andThen_ok,ZB,Qs,Zk,e];rfl
    split at ca
    ·rename_i hu;obtain⟨y,hx,rfl⟩:=da ca;have hr:=h.slots.arg hx;simp only[Aw]at aa;rw[Qb]at aa;obtain⟨n,hn,aa⟩:=aa;unfold gC at hn;split at hn
     ·rename_i b _ e;rw[e]at hr;simp only[Qa]at hn;subst hn;have hl:(Builtin.len_ #[t] o.type #[a.eval x]).run P w= .ok (goInt (b.length:Int)) w:=by
       have ja:(ByteArray.mk b.toArray).size=b.length:=XV
       simp[Builtin.len_,run_underlying hu,hr.str_inv,ja]
      exact j (ga _ hl) (.int _ _) (by rw[aa])
     ·rename_i la _;cases la
     ·rename_i la _;cases la
     ·cases hn
    ·rename_i e hu;obtain⟨y,hx,rfl⟩:=da ca;have hr:=h.slots.arg hx;simp only[Aw]at aa;rw[Qb]at aa;obtain⟨n,hn,aa⟩:=aa;unfold gC at hn;split at hn
     ·rename_i la _;cases la
     ·rename_i nl t' xs _ e';rw[e']at hr;obtain⟨ad,cc,e1,_⟩:=hr.len_slice;simp only[Qa]at hn;subst hn;have hl:(Builtin.len_ #[t] o.type #[a.eval x]).run P w= .ok (goInt (xs.length:Int)) w:=by
       simp[Builtin.len_,run_underlying hu,e1]
      exact j (ga _ hl) (.int _ _) (by rw[aa])
     ·rename_i i' n' _ e';rw[e']at hr;obtain⟨b',cc,e1,_,_⟩:=hr.row_inv;simp only[Qa]at hn;subst hn;have hl:(Builtin.len_ #[t] o.type #[a.eval x]).run P w= .ok (goInt (n':Int)) w:=by
       simp[Builtin.len_,run_underlying hu,e1]
      exact j (ga _ hl) (.int _ _) (by rw[aa])
     ·cases hn
    ·cases ca
   ·cases ca
  ·rename_i fa;split at ca
   ·rename_i x y t t' r pa;split at ca
    ·rename_i qa;have hc:c={callee:= .builtin .append,args:=#[x,y],argTypes:=#[t,t']}:=by
      cases c;simp only at fa r pa ⊢;subst fa;congr
      ·exact Q4.1 r
      ·exact Q4.1 pa
     subst hc;split at ca
     ·rename_i e hu;split at ca
      ·rename_i sz bytes p q he hx hy;simp only[Qa]at ca;subst ca;exact aBo h hu he hx hy hop (qa.imp id gM) aa
      ·cases ca
     ·cases ca
    ·cases ca
   ·cases ca
  ·rename_i fa;split at ca
   ·rename_i x y r;split at ca
    ·rename_i p q hx hy;simp only[Qa]at ca;subst ca;have ra:=h.slots.arg hx;have na:=h.slots.arg hy;simp only[Aw]at aa;split at aa
     ·rename_i k n k' n' e1 e2;rw[e1]at ra;rw[e2]at na;refine j (v:= .int k (max n n')) ?_ (.int _ _) aa;simp only[execOp,hop,resolve,invoke,builtin,fa,Sem.run_bind,Sem.run_pure,Result.andThen_ok];simp only[Builtin.max_,QL,r,Qs,Zk,ra.int_inv,na.int_inv,ZN,Builtin.max2,Sem.run_bind,Sem.run_pure,Result.andThen_ok];have:(if n'>n then n' else n)=max n n':=by omega
      simp[this]
     ·cases aa
    ·cases ca
   ·cases ca
  ·rename_i fa;split at ca
   ·rename_i x y r;split at ca
    ·rename_i p q hx hy;simp only[Qa]at ca;subst ca;have ra:=h.slots.arg hx;have na:=h.slots.arg hy;simp only[Aw]at aa;split at aa
     ·rename_i k n k' n' e1 e2;rw[e1]at ra;rw[e2]at na;refine j (v:= .int k (min n n')) ?_ (.int _ _) aa;simp only[execOp,hop,resolve,invoke,builtin,fa,Sem.run_bind,Sem.run_pure,Result.andThen_ok];simp only[Builtin.min_,QL,r,Qs,Zk,ra.int_inv,na.int_inv,ZN,Builtin.min2,Sem.run_bind,Sem.run_pure,Result.andThen_ok];have:(if n'<n then n' else n)=min n n':=by omega
      simp[this]
     ·cases aa
    ·cases ca
   ·cases ca
  ·cases ca
 all_goals (simp[tr]at ca)
end
section
variable{P:Program}{B:Nat}{w0 w:World}{m:Gu}{g:Gh}{fr:Id}{s:Nat->D}{a:Act}{S:Gq}{d:D}{u:GA}
def Vx{c:Call}{f:Gz}{xs:List Gz}(h:OZ P c=some (.call f xs)):∃p,c.callee= .value p∧AB p=some f∧DE c.args.toList=some xs:=by
 unfold OZ at h;split at h
 ·grind
 ·exfalso
  repeat' (split at h)
  all_goals exact YW
 ·grind
 ·grind
 ·grind
 ·cases h
def aFe{op:Op}{f:Gz}{xs:List Gz}(h:tr P op=some (.call f xs)):∃c,op= .call c∧OZ P c=some (.call f xs):=by
 cases op with
 |call c=>exact⟨c,rfl,h⟩
 |binOp op t x y i=>
  exfalso;cases op<;>simp only[tr,wV]at h<;>repeat' (split at h)
  all_goals exact YW
 |makeFunc n x y=>
  exfalso;cases n<;>simp only[tr]at h<;>repeat' (split at h)
  all_goals exact YW
 |slice t x lo hi p=>
  exfalso;cases p<;>simp only[tr]at h<;>repeat' (split at h)
  all_goals exact YW
 |next x b=>
  exfalso;cases b<;>simp only[tr]at h
  all_goals exact YW
 |_=>
  exfalso;simp only[tr]at h<;>repeat' (split at h)
  all_goals exact YW
def aRp{o:Oper}{x:DOp}{K:Act->World->Prop}{Q:Exit->Act->World->Prop}(hS:Gq.ok P S)(h:At P B w0 w m g fr s a)(ca:tr P o.op=some x)(z:Aw S s m fr x=some (d,u))
  (hK:∀v' w' g',aPq P B w0 m g fr w (GA.app m u) d v' w' g'->K (a.put o.dst v') w'):o.wp P a w K Q:=by
 by_cases hc:∃f xs,x= .call f xs
 ·obtain⟨f,xs,rfl⟩:=hc;obtain⟨c,ga,l⟩:=aFe ca;obtain⟨fo,fa,hf,eb⟩:=Vx l;simp only[Aw]at z;split at z
  ·rename_i rW caps ef;split at z
   ·rename_i q hq;have ea:=hS rW q hq;have k:=h.slots.arg hf;rw[ef]at k;obtain⟨vs,e1,e2,e3⟩:=k.fn_inv;obtain⟨a1,a2⟩:=cN h eb;obtain⟨fn,t,b,i⟩:=ea.ent;have n:fn.body.isNone=false:=by cases hb:fn.body<;>simp_all
    have y:((c.args.map a.eval).toList++vs).length=(xs.map (·.ev s)++caps).length:=by simp at a1 ⊢;omega
    have da:∀(j:Nat) d v,(xs.map (·.ev s)++caps)[j]?=some d->((c.args.map a.eval).toList++vs)[j]?=some v->Rep w g d v:=by
     grind
    have oa:=ea.run h.inv h.fresh y da z;have p:((c.args.map a.eval).toList++vs).toArray=c.args.map a.eval++vs.toArray:=U
    rw[p]at oa;have ma:(execOp a.eval o).run P w= .ok (.enter rW (c.args.map a.eval++vs.toArray)) w:=by
     simp only[execOp,ga,resolve,fa,e1,Deferred.ofValue,Sem.run_bind,Sem.run_pure,Result.andThen_ok,invoke,callFunc,run_program,t,i,n,QG,if_false];simp
    unfold Oper.wp;rw[ma,Oper.upon_enter];refine oa.mono ?_;rintro e w' ⟨v,g',rfl,la⟩;exact hK v w' g' la
   ·cases z
  ·cases z
 ·obtain⟨v',w',g',r,e1,e2,e3⟩:=aFO h ca (λf xs e=>hc ⟨f,xs,e⟩) z;unfold Oper.wp;rw[e1];rcases e2 with rfl|⟨rfl,rfl⟩
  ·exact hK v' w' g' e3
  ·exact hK undef w' g' e3
end
end Go.Vd
namespace Go.Vd
structure DOper where
 dst:Option Nat
 op:DOp
 after:List Nat
 guard:Option (Nat×Bool)
abbrev Loc:=Id×Nat
structure Eff where
 d:D
 u:GA
def BG(s:Nat->D)(t:Option Nat)(d:D):Nat->D:=
 match t with
 |some t=>λx=>if x=t then d else s x
 |none=>s
def FO(ops:List DOper)(o:DOper):Option Nat:=
 match o.guard with
 |none=>none
 |some (j,_)=>(ops[j]?).bind (·.dst)
def Bg(ops:List DOper)(s:Nat->D)(o:DOper):Option Bool:=
 match o.guard with
 |none=>some true
 |some (j,b)=>match (ops[j]?).bind (·.dst)with
  |some t=>match s t with
   | .bool b'=>some (b'==b)
   | .tup []=>some false
   |_=>none
  |none=>none
def Bz(S:Gq)(ops:List DOper)(fr:Id)(o:DOper)(s:Nat->D)(m:Gu):Option Eff:=
 match Bg ops s o with
 |some true=>match Aw S s m fr o.op with
  |some (d,u)=>some ⟨d,u⟩
  |none=>none
 |some false=>some ⟨.tup [],[]⟩
 |none=>none
def CS(S:Gq)(ns:Id)(c:Nat)(ops:List DOper):List Nat->(Nat->D)->Gu->Option ((Nat->D)×Gu)
 |[],s,m=>some (s,m)
 |i::l,s,m=>match ops[i]? with
  |none=>CS S ns c ops l s m
  |some o=>match Bz S ops ((c+i)::ns) o s m with
   |some e=>CS S ns c ops l (BG s o.dst e.d) (GA.app m e.u)
   |none=>none
def Gz.uses:Gz->List Nat
 | .t n=>[n]
 | .c _=>[]
def TS:Option Gz->List Nat
 |some a=>a.uses
 |none=>[]
def DOp.uses:DOp->List Nat
 | .range x| .next x| .mv x| .box x| .load _ x| .nilchk x| .un _ x| .conv _ x| .s2s x| .s2b x| .b2s x| .faddr _ x| .field _ _ x| .mkif _ x| .tass _ _ _ x| .ext _ x| .len _ x=>x.uses
 | .pick c a b=>c.uses++a.uses++b.uses
 | .alloc _| .stop=>[]
 | .build _ ps=>ps.flatMap λp=>p.2.2.uses
 | .bslice _ _ ps=>ps.flatMap Gz.uses
 | .store _ x y| .bin _ x y| .beq _ x y| .seq _ _ x y| .nileq _ _ x y| .iaddr _ x y| .idxs x y| .idxa _ x y| .idxm _ _ x y| .mxm _ x y| .iadda _ _ x y| .app _ _ _ x y| .mksl _ _ _ _ x y=>x.uses++y.uses
 | .cuts x l h| .cutl _ x l h=>x.uses++TS l++TS h
 | .mkfn _ cs=>cs.flatMap Gz.uses
 | .call f xs=>f.uses++xs.flatMap Gz.uses
def Ai(i:Id)(o n:Nat):List Loc:=(Qt n).map λj=>(i,o+j)
def GK(S:Gq)(s:Nat->D)(m:Gu):DOp->List Loc
 | .load k x=>match x.ev s with
  | .ptr i o=>Ai i o (k.getD 1)
  |_=>[]
 | .store n x _=>match x.ev s with
  | .ptr i o=>Ai i o n
  |_=>[]
 | .app _ _ _ x _=>match x.ev s with
  | .slice _ t _=>[(t,0)]
  |_=>[]
 | .next x=>match x.ev s with
  | .itp i=>[(i,1)]
  |_=>[]
 | .call f xs=>match f.ev s with
  | .fn f caps=>match S f with
   |some q=>q.rd (xs.map (·.ev s)++caps) m
   |none=>[]
  |_=>[]
 |_=>[]
def aC{x:Gz}{s e:Nat->D}(h:∀t∈x.uses,s t=e t):x.ev s=x.ev e:=by
 cases x with
 |t n=>exact h n (Q_.2 rfl)
 |c d=>rfl
def P0{xs:List Gz}{s n:Nat->D}(h:∀t∈xs.flatMap Gz.uses,s t=n t):xs.map (·.ev s)=xs.map (·.ev n):=
 QX λx q=>aC λt u=>h t (Q5.2 ⟨x,q,u⟩)
theorem Bo{m m':Gu}{i:Id}:∀{n o:Nat},(∀l∈Ai i o n,m l.1 l.2=m' l.1 l.2)->Ag m i o n=Ag m' i o n
 |0,o,_=>rfl
 |n+1,o,h=>by
  have f:m i o=m' i o:=h (i,o) (by simp only[Ai,Qv,Ql];exact⟨0,O,rfl⟩);have ih:=Bo (m:=m) (m':=m') (i:=i) (n:=n) (o:=o+1) (λl hl=>h l (by
   simp only[Ai,Qv,Ql]at hl ⊢;obtain⟨j,q,rfl⟩:=hl;exact⟨j+1,O,by rw[show o+(j+1)=o+1+j by omega]⟩))
  unfold Ag;rw[f,ih]
theorem Fb{x:Option Gz}{s n:Nat->D}(h:∀t∈TS x,s t=n t)(a b:Nat):Fc s x a b=Fc n x a b:=by
 cases x with
 |none=>rfl
 |some x=>simp only[Fc];rw[aC h]
def iC{P:Program}{S:Gq}(hS:Gq.ok P S){op:DOp}{s s':Nat->D}{m m':Gu}{fr:Id}(g:∀t∈op.uses,s t=s' t)(w:∀l∈GK S s m op,m l.1 l.2=m' l.1 l.2):
  Aw S s m fr op=Aw S s' m' fr op:=by
 cases op with
 |mv x=>simp only[Aw];rw[aC g]
 |box x=>simp only[Aw];rw[aC g]
 |nilchk x=>simp only[Aw];rw[aC g]
 |un op x=>simp only[Aw];rw[aC g]
 |conv k x=>simp only[Aw];rw[aC g]
 |s2s x=>simp only[Aw];rw[aC g]
 |s2b x=>simp only[Aw];rw[aC g]
 |b2s x=>simp only[Aw];rw[aC g]
 |faddr off x=>simp only[Aw];rw[aC g]
 |field k off x=>simp only[Aw];rw[aC g]
 |mkif t x=>simp only[Aw];rw[aC g]
 |tass t ok z x=>simp only[Aw];rw[aC g]
 |ext i x=>simp only[Aw];rw[aC g]
 |len k x=>simp only[Aw];rw[aC g]
 |alloc zs=>rfl
 |pick c a b=>
  simp only[DOp.uses,Qg]at g;simp only[Aw];rw[aC (λt u=>g t (.inl (.inl u))),aC (λt u=>g t (.inl (.inr u))),aC (λt u=>g t (.inr u))]
 |build zs ps=>
  simp only[Aw];have:(ps.map λp=>(p.1,p.2.1,p.2.2.ev s))=ps.map λp=>(p.1,p.2.1,p.2.2.ev s'):=
   QX λp hp=>by rw[aC λt u=>g t (Q5.2 ⟨p,hp,u⟩)]
  rw[this]
 |bslice e sz ps=>
  have hp:∀p∈ps,p.ev s=p.ev s':=λp hp=>aC λt u=>g t (Q5.2 ⟨p,hp,u⟩)
  simp only[Aw];have r:(ps.map λp=>(p.ev s).un)=ps.map λp=>(p.ev s').un:=QX λp ta=>by rw[hp p ta]
  rw[r];have:(ps.all λp=>(p.ev s).data&&(p.ev s).cells.length==sz&&(p.ev s).un.calm)=ps.all λp=>(p.ev s').data&&(p.ev s').cells.length==sz&&(p.ev s').un.calm:=by
   grind
  rw[this]
 |load k x=>
  have d:x.ev s=x.ev s':=aC g;simp only[GK]at w;simp only[Aw];rw[←d];cases hxe:x.ev s<;>simp only[hxe]at w ⊢
  case eptr ds=>cases k<;>rfl
  rename_i i o;cases k with
  |none=>
   have:=w (i,o) (by simp only[Ai,Qv,Ql];exact⟨0,U,rfl⟩);simp only at this;simp only[this]
  |some n=>
   simp only[QE]at w;simp only;rw[Bo w]
 |store n x v=>
  simp only[DOp.uses,Qg]at g;have d:x.ev s=x.ev s':=aC λt u=>g t (.inl u)
  have j:v.ev s=v.ev s':=aC λt u=>g t (.inr u)
  simp only[GK]at w;simp only[Aw];rw[←d,←j];cases hxe:x.ev s<;>simp only[hxe]at w ⊢;rw[Bo w]
 |bin op x y=>
  simp only[DOp.uses,Qg]at g;simp only[Aw];rw[aC (λt u=>g t (.inl u)),aC (λt u=>g t (.inr u))]
 |beq ne x y=>
  simp only[DOp.uses,Qg]at g;simp only[Aw];rw[aC (λt u=>g t (.inl u)),aC (λt u=>g t (.inr u))]
 |seq ne l x y=>
  simp only[DOp.uses,Qg]at g;simp only[Aw];rw[aC (λt u=>g t (.inl u)),aC (λt u=>g t (.inr u))]
 |nileq ne k x y=>
  simp only[DOp.uses,Qg]at g;simp only[Aw];rw[aC (λt u=>g t (.inl u)),aC (λt u=>g t (.inr u))]
 |iaddr sz x y=>
  simp only[DOp.uses,Qg]at g;simp only[Aw];rw[aC (λt u=>g t (.inl u)),aC (λt u=>g t (.inr u))]
 |idxs x y=>
  simp only[DOp.uses,Qg]at g;simp only[Aw];rw[aC (λt u=>g t (.inl u)),aC (λt u=>g t (.inr u))]
 |iadda len sz x y=>
  simp only[DOp.uses,Qg]at g;simp only[Aw];rw[aC (λt u=>g t (.inl u)),aC (λt u=>g t (.inr u))]
 |idxm len sz x y=>
  simp only[DOp.uses,Qg]at g;simp only[Aw];rw[aC (λt u=>g t (.inl u)),aC (λt u=>g t (.inr u))]
 |mxm mx x y=>
  simp only[DOp.uses,Qg]at g;simp only[Aw];rw[aC (λt u=>g t (.inl u)),aC (λt u=>g t (.inr u))]
 |idxa len x y=>
  simp only[DOp.uses,Qg]at g;simp only[Aw];rw[aC (λt u=>g t (.inl u)),aC (λt u=>g t (.inr u))]
 |mksl e sz b z x y=>
  simp only[DOp.uses,Qg]at g;simp only[Aw];rw[aC (λt u=>g t (.inl u)),aC (λt u=>g t (.inr u))]
 |app e sz b x y=>
  simp only[DOp.uses,Qg]at g;have d:x.ev s=x.ev s':=aC λt u=>g t (.inl u)
  have hy:y.ev s=y.ev s':=aC λt u=>g t (.inr u)
  simp only[GK]at w;simp only[Aw];rw[←d,←hy];cases hxe:x.ev s<;>simp only[hxe]at w ⊢;rename_i nl t xs;have:=w (t,0) (Q_.2 rfl);simp only at this;cases Iq sz (y.ev s)<;>simp only[this]
 |stop=>rfl
 |range x=>simp only[Aw];rw[aC g]
 |next x=>
  have d:x.ev s=x.ev s':=aC g;simp only[GK]at w;simp only[Aw];rw[←d];cases hxe:x.ev s<;>simp only[hxe]at w ⊢;rename_i i;have:=w (i,1) (Q_.2 rfl);simp only at this;rw[this]
 |cuts x l h=>
  simp only[DOp.uses,Qg]at g;simp only[Aw];rw[aC (λt u=>g t (.inl (.inl u)))];cases x.ev s'<;>simp only;rw[Fb (λt u=>g t (.inr u))];split
  ·grind [Fb]
  ·rfl
 |cutl sz x l h=>
  simp only[DOp.uses,Qg]at g;simp only[Aw];rw[aC (λt u=>g t (.inl (.inl u)))];cases x.ev s'<;>simp only;rw[Fb (λt u=>g t (.inr u))];split
  ·split
   ·rw[Fb (λt u=>g t (.inl (.inr u)))]
   ·rfl
  ·rfl
 |mkfn f cs=>
  simp only[Aw];rw[P0 g]
 |call f xs=>
  simp only[DOp.uses,Qg]at g;have hf:f.ev s=f.ev s':=aC λt u=>g t (.inl u)
  have d:xs.map (·.ev s)=xs.map (·.ev s'):=P0 λt u=>g t (.inr u)
  simp only[GK]at w;simp only[Aw];rw[←hf,←d];cases hfe:f.ev s<;>simp only[hfe]at w ⊢;rename_i rW caps;cases hSf:S rW<;>simp only[hSf]at w ⊢;rename_i q;exact(hS rW q hSf).loc _ _ _ _ w
def Dt(ops:List DOper)(k:Nat):Option Nat:=(ops[k]?).bind (·.dst)
def EG:GA->Id->Nat->Option D
 |[],_,_=>none
 |(i',o',ds)::r,i,o=>match EG r i o with
  |some d=>some d
  |none=>if i=i'∧o'<=o∧o<o'+ds.length then ds[o-o']? else none
def cO:∀(u:GA)(m:Gu)(i:Id)(o:Nat),GA.app m u i o=match EG u i o with|some d=>some d|none=>m i o
 |[],m,i,o=>rfl
 |(i',o',ds)::r,m,i,o=>by
  simp only[GA.app,EG];rw[cO r (m.put i' o' ds) i o];cases EG r i o with
  |some d=>rfl
  |none=>
   simp only[Gu.put];split
   ·grind
   ·rfl
def Ay(u:GA):List Loc:=u.flatMap λx=>Ai x.1 x.2.1 x.2.2.length
theorem look_mem:∀{u:GA} {i:Id} {o:Nat},EG u i o≠none->(i,o)∈Ay u
 |[],i,o,h=>absurd rfl h
 |(i',o',ds)::r,i,o,h=>by
  simp only[Ay,Zd,Qg];simp only[EG]at h;split at h
  ·rename_i d p;exact .inr (look_mem (by rw[p];simp))
  ·split at h
   ·rename_i y;obtain⟨rfl,q,z⟩:=y;left;simp only[Ai,Qv,Ql];exact⟨o-o',O,by rw[show o'+(o-o')=o by omega]⟩
   ·exact absurd rfl h
section
variable(ops:List DOper)(E:Nat->Eff)
def H7(X:Nat->Bool)(t:Nat):Nat->Option D
 |0=>none
 |k+1=>if X k=true∧Dt ops k=some t then some (E k).d else H7 X t k
def Hs(X:Nat->Bool)(i:Id)(o:Nat):Nat->Option D
 |0=>none
 |k+1=>if X k=true then match EG (E k).u i o with
  |some d=>some d
  |none=>Hs X i o k
  else Hs X i o k
variable(s0:Nat->D)(m0:Gu)
def eV(X:Nat->Bool)(n:Nat):Nat->D:=λt=>(H7 ops E X t n).getD (s0 t)
def pY(X:Nat->Bool)(n:Nat):Gu:=λi o=>match Hs E X i o n with|some d=>some d|none=>m0 i o
variable{ops E s0 m0}
theorem H6{X Y:Nat->Bool}{t:Nat}:∀{n:Nat},(∀k,k<n->Dt ops k=some t->X k=Y k)->H7 ops E X t n=H7 ops E Y t n
 |0,_=>rfl
 |n+1,h=>by
  have ih:=H6 (X:=X) (Y:=Y) (t:=t) (n:=n) (λk g=>h k O);simp only[H7];by_cases p:Dt ops n=some t
  ·rw[h n O p,ih]
  ·simp[p,ih]
def H8{X Y:Nat->Bool}{i:Id}{o:Nat}:∀{n:Nat},(∀k,k<n->EG (E k).u i o≠none->X k=Y k)->Hs E X i o n=Hs E Y i o n
 |0,_=>rfl
 |n+1,h=>by
  have ih:=H8 (X:=X) (Y:=Y) (i:=i) (o:=o) (n:=n) (λk g=>h k O);simp only[Hs];cases hl:EG (E n).u i o with
  |none=>simp[ih]
  |some d=>rw[h n O (by rw[hl];simp)];simp[ih]
def ins(X:Nat->Bool)(k:Nat):Nat->Bool:=λj=>X j||j==k
def SB{X:Nat->Bool}{t k:Nat}(e:X k=false):∀{n:Nat},k<n->(Dt ops k=some t->∀j,k<j->j<n->X j=true->Dt ops j≠some t)->
  H7 ops E (ins X k) t n=if Dt ops k=some t then some (E k).d else H7 ops E X t n
 |n+1,hk,h=>by
  by_cases p:Dt ops k=some t
  ·rw[if_pos p];by_cases c:k=n
   ·grind [H7,ins]
   ·have ih:=SB e (n:=n) O (λqa j u z i=>h qa j u O i);rw[if_pos p]at ih;simp only[H7];have:¬(ins X k n=true∧Dt ops n=some t):=by
     grind [ins]
    rw[if_neg this,ih]
  ·grind [H6,ins]
def SC{X:Nat->Bool}{i:Id}{o k:Nat}(e:X k=false):∀{n:Nat},k<n->(EG (E k).u i o≠none->∀j,k<j->j<n->X j=true->EG (E j).u i o=none)->
  Hs E (ins X k) i o n=match EG (E k).u i o with|some d=>some d|none=>Hs E X i o n
 |n+1,hk,h=>by
  cases hl:EG (E k).u i o with
  |none=>
   simp only;refine H8 (λj s z=>?_);have:j≠k:=by rintro rfl;exact z hl
   simp[ins,this]
  |some d=>
   simp only;by_cases c:k=n
   ·grind [Hs,ins]
   ·have ih:=SC (i:=i) (o:=o) e (n:=n) O (λqa j q t y=>h qa j q O y);rw[hl]at ih;simp only at ih;simp only[Hs];split
    ·grind [ins]
    ·exact ih
def kY{X:Nat->Bool}{k n:Nat}(e:X k=false)(g:k<n)(h:∀t,Dt ops k=some t->∀j,k<j->j<n->X j=true->Dt ops j≠some t):
  eV ops E s0 (ins X k) n=BG (eV ops E s0 X n) (Dt ops k) (E k).d:=by
 funext t;simp only[eV];rw[SB e g (h t)];cases hd:Dt ops k with
 |none=>simp[BG,eV]
 |some x=>
  simp only[BG,eV,Qa];by_cases u:t=x
  ·subst u;simp
  ·grind
def kZ{X:Nat->Bool}{k n:Nat}(e:X k=false)(g:k<n)(h:∀i o,EG (E k).u i o≠none->∀j,k<j->j<n->X j=true->EG (E j).u i o=none):
  pY E m0 (ins X k) n=GA.app (pY E m0 X n) (E k).u:=by
 funext i o;rw[cO];simp only[pY];rw[SC e g (h i o)];cases EG (E k).u i o<;>rfl
def below(k:Nat):Nat->Bool:=λj=>decide (j<k)
def Na(k:Nat):ins (below k) k=below (k+1):=by
 grind [ins,below]
structure aEj (ops:List DOper) (E:Nat->Eff) (rd:Nat->List Loc) (bef:Nat->Nat->Prop):Prop where
 lt:∀j k,bef j k->j<k
 slot:∀j k t oj ok,j≠k->ops[j]?=some oj->ops[k]?=some ok->oj.dst=some t->(t∈ok.op.uses∨FO ops ok=some t∨ok.dst=some t)->bef j k∨bef k j
 mem:∀j k i o,j≠k->j<ops.length->k<ops.length->EG (E j).u i o≠none->((i,o)∈rd k∨EG (E k).u i o≠none)->bef j k∨bef k j
def dS(ops:List DOper)(a:Nat->Nat->Prop):(Nat->Bool)->List Nat->Prop
 |_,[]=>True
 |X,i::l=>i<ops.length∧X i=false∧(∀j,a j i->X j=true)∧dS ops a (ins X i) l
def Ro(a:Nat->Nat->Prop)(X:Nat->Bool):Prop:=∀j k,X k=true->a j k->X j=true
def RC{s n:Nat->D}{o:DOper}(h:∀t,FO ops o=some t->s t=n t):Bg ops s o=Bg ops n o:=by
 grind [Bg,FO]
def bL{P:Program}{S:Gq}(j:Gq.ok P S){o:DOper}{fr:Id}{s n:Nat->D}{m m':Gu}(g:∀t,(t∈o.op.uses∨FO ops o=some t)->s t=n t)(w:∀l∈GK S s m o.op,m l.1 l.2=m' l.1 l.2):
  Bz S ops fr o s m=Bz S ops fr o n m':=by
 unfold Bz;rw[RC (λt u=>g t (.inr u)),iC j (λt u=>g t (.inl u)) w]
variable{P:Program}{S:Gq}{ns:Id}{c:Nat}{rd:Nat->List Loc}{bef:Nat->Nat->Prop}
def aOY(hS:Gq.ok P S)(m:aEj ops E rd bef){k:Nat}{o:DOper}(s:ops[k]?=some o)
  (u:rd k=GK S (eV ops E s0 (below k) ops.length) (pY E m0 (below k) ops.length) o.op)
  (x:Bz S ops ((c+k)::ns) o (eV ops E s0 (below k) ops.length) (pY E m0 (below k) ops.length)=some (E k))
  {X:Nat->Bool} (e:Ro bef X) (g:X k=false) (r:∀j,bef j k->X j=true):
  Bz S ops ((c+k)::ns) o (eV ops E s0 X ops.length) (pY E m0 X ops.length)=some (E k):=by
 have w:k<ops.length:=(Qe.1 s).1;rw[←x];symm;have z:∀j,j<ops.length->bef j k∨bef k j->below k j=X j:=by
  intro j q y;rcases y with h1|h1
  ·rw[r j h1];simp[below,m.lt j k h1]
  ·have:=m.lt k j h1;have b:X j=false:=by
    cases hx:X j with
    |false=>rfl
    |true=>rw[e k j hx h1]at g;cases g
   rw[b];simp[below];omega
 have self:∀j,j<ops.length->j=k->below k j=X j:=by
  grind [below]
 refine bL hS (λt ht=>?_) (λl hl=>?_)
 ·simp only[eV];rw[H6 (λj q p=>?_)];by_cases a:j=k
  ·exact self j q a
  ·have v:ops[j]?=some ops[j]:=Qc q;refine z j q (m.slot j k t _ o a v s ?_ (by rcases ht with ht|ht;exact .inl ht;exact .inr (.inl ht)));simpa[Dt,v]using p
 ·simp only[pY];rw[H8 (λj q p=>?_)];by_cases a:j=k
  ·exact self j q a
  ·exact z j q (m.mem j k l.1 l.2 a q w p (.inl (by rw[u];exact hl)))
def Ro.ins{X:Nat->Bool}{k:Nat}(e:Ro bef X)(r:∀j,bef j k->X j=true):Ro bef (ins X k):=by
 intro j p f o;simp only[Vd.ins,QP,beq_iff_eq]at f ⊢;rcases f with h|rfl
 ·exact .inl (e j p h o)
 ·exact .inl (r j o)
def O3(hS:Gq.ok P S)(hI:aEj ops E rd bef)(g:∀k o,ops[k]?=some o->rd k=GK S (eV ops E s0 (below k) ops.length) (pY E m0 (below k) ops.length) o.op)
  (hE:∀k o,ops[k]?=some o->Bz S ops ((c+k)::ns) o (eV ops E s0 (below k) ops.length) (pY E m0 (below k) ops.length)=some (E k)):
  ∀(l:List Nat)(X:Nat->Bool),Ro bef X->dS ops bef X l->
   CS S ns c ops l (eV ops E s0 X ops.length) (pY E m0 X ops.length)=some (eV ops E s0 (l.foldl ins X) ops.length,pY E m0 (l.foldl ins X) ops.length)
 |[],X,_,_=>rfl
 |i::l,X,hX,hg=>by
  obtain⟨hi,p,x,n⟩:=hg;have e:ops[i]?=some ops[i]:=Qc hi;have w:=aOY hS hI e (g i _ e) (hE i _ e) hX p x;have a:∀j,i<j->X j=true->¬(bef j i∨bef i j):=by
   intro j s b hb;rcases hb with hb|hb
   ·have:=hI.lt j i hb;omega
   ·rw[hX i j b hb]at p;cases p
  have e1:=kY (ops:=ops) (E:=E) (s0:=s0) p hi (λt r j q z y qa=>by
   have v:ops[j]?=some ops[j]:=Qc z;refine a j q y (hI.slot j i t _ _ O v e ?_ (.inr (.inr ?_)))
   ·simpa[Dt,v]using qa
   ·simpa[Dt,e]using r)
  have f:=kZ (E:=E) (m0:=m0) p hi (λm o hl j q z y=>by
   cases hlj:EG (E j).u m o with
   |none=>rfl
   |some d=>exact absurd (hI.mem j i m o O z hi (by rw[hlj];simp) (.inr hl)) (a j q y))
  have r:Dt ops i=(ops[i]).dst:=by simp[Dt,e]
  rw[r]at e1;simp only[CS,e,w,Q8];rw[←e1,←f];exact O3 hS hI g hE l (ins X i) (hX.ins x) n
end
def L8(m:Region.Mode)(ops:Array Oper):List Nat->List Nat->Bool
 |_,[]=>true
 |done,i::r=>(match ops[i]? with
  |some o=>o.after.all λe=>!Region.binds m e||done.contains e.on
  |none=>false)&&L8 m ops (i::done) r
def E7(m:Region.Mode)(ops:Array Oper)(j:List Nat):Bool:=(Qt ops.size).all (λi=>j.contains i)&&L8 m ops [] j
def Ej(m:Region.Mode)(ops:Array Oper)(listed:Array Bool):List Nat:=
 (Qt ops.size).filter λi=>!listed.getD i true&&((ops[i]?).map (·.after.all λe=>!Region.binds m e||listed.getD e.on false)).getD false
def aGB{a:Array Bool}{i:Nat}(h:i<a.size)(x y:Bool):a.getD i x=a.getD i y:=by
 simp_all
def O7{m:Region.Mode}{ops:Array Oper}{listed:Array Bool}(d:listed.size=ops.size):∀{w done:List Nat},L8 m ops done w=true->(∀j∈done,listed.getD j false=true)->
  (∃i∈w,i<ops.size∧listed.getD i false=false)->∃i,i∈Ej m ops listed
 |[],done,_,_,⟨i,hi,_⟩=>by cases hi
 |i::r,done,h,hd,⟨k,hk,hkn,hkl⟩=>by
  unfold L8 at h;rw[QU]at h;obtain⟨u,z⟩:=h;split at u
  ·rename_i o s;have e:i<ops.size:=(Qf.1 s).1;by_cases a:listed.getD i false=false
   ·refine⟨i,?_⟩;simp only[Ej,Zm,Ql];refine⟨e,?_⟩;rw[aGB O true false,a];simp only[Zb,Bool.true_and,s,QY,QE];rw[ZA]at u ⊢;intro j q;have:=u j q;simp only[QP,Zn]at this ⊢;rcases this with h3|h3
    ·exact .inl h3
    ·exact .inr (hd _ h3)
   ·have b:listed.getD i false=true:=by simpa using a
    refine O7 d z (λj q=>?_) ?_
    ·grind
    ·grind
  ·cases u
def Ec(listed:Array Bool):Nat->Bool:=λi=>listed.getD i false
def fX{listed:Array Bool}{i:Nat}(h:i<listed.size):Ec (listed.setIfInBounds i true)=ins (Ec listed) i:=by
 funext j;simp only[Ec,ins,Qh,Array.getElem?_setIfInBounds];by_cases q:i=j
 ·subst q;simp[h]
 ·grind
def Fv(listed:Array Bool)(n:Nat):Nat:=((Qt n).filter λi=>!listed.getD i false).length
def W_{p q:Nat->Bool}{i:Nat}(hi:p i=true)(s:∀j,q j=(p j&&j !=i)):∀{l:List Nat},i∈l->(l.filter q).length<(l.filter p).length:=by
 have m:∀l:List Nat,(l.filter q).length<=(l.filter p).length:=by
  intro l;induction l with
  |nil=>exact Qk _
  |cons x l ih=>
   rw[Q6,Q6,s x];cases hp:p x
   ·exact ih
   ·grind
 intro l;induction l with
 |nil=>intro h;cases h
 |cons x l ih=>
  intro w;rw[Q6,Q6,s x];by_cases d:x=i
  ·grind
  ·have o:(x !=i)=true:=by simpa using d
   have:=ih (by rcases List.mem_cons.1 w with h|h;exact absurd h.symm d;exact h);cases hp:p x
   ·simpa using this
   ·simp only[o,Bool.and_true,if_true,Qo];omega
def Tf{listed:Array Bool}{n i:Nat}(d:listed.size=n)(hi:i<n)(hl:listed.getD i false=false):Fv (listed.setIfInBounds i true) n<Fv listed n:=by
 unfold Fv;refine W_ (i:=i) (by rw[hl];rfl) (λj=>?_) (Ql.2 hi);by_cases q:j=i
 ·simp_all
 ·have x:¬i=j:=λe=>q e.symm
  simp[Qh,x,q]
def Sm(o:Oper):List Nat:=(o.after.toList.filter (Region.binds .any)).map (·.on)
theorem uC{m:Region.Mode}{e:Edge}(h:Region.binds .any e=true):Region.binds m e=true:=by
 unfold Region.binds at h ⊢;split at h<;>simp_all
def EN(z:List (List Nat))(j k:Nat):Prop:=j∈z.getD k []
def Fq(ps:List (List Nat))(z:List (List Nat)):Bool:=
 (Qt z.length).all λk=>(z.getD k []).all λj=>decide (j<k)&&((ps.getD k []).any λp=>p==j||(decide (p<k)&&(z.getD p []).contains j))
def UM{ps z:List (List Nat)}(h:Fq ps z=true){j k:Nat}(o:EN z j k):j<k∧∃p∈ps.getD k [],p=j∨(p<k∧EN z j p):=by
 unfold EN at o;have g:k<z.length:=by
  grind
 have u:=Qy.1 h k (Ql.2 g);have t:=Qy.1 u j o;simp only[QU,decide_eq_true_eq,List.any_eq_true,QP,beq_iff_eq,Zn]at t;exact⟨t.1,t.2⟩
def cL{ps z:List (List Nat)}(h:Fq ps z=true){X:Nat->Bool}(e:∀k,X k=true->∀p∈ps.getD k [],X p=true):∀{k j:Nat},X k=true->EN z j k->X j=true:=by
 intro k;induction k using ZI with
 |_ k ih=>
  intro j g o;obtain⟨_,p,t,y⟩:=UM h o;rcases y with rfl|⟨r,ta⟩
  ·exact e k g p t
  ·grind
def aCH{ps z:List (List Nat)}(h:Fq ps z=true){X:Nat->Bool}(e:∀k,X k=true->∀p∈ps.getD k [],X p=true){k:Nat}(g:∀p∈ps.getD k [],X p=true){j:Nat}(o:EN z j k):X j=true:=by
 obtain⟨_,p,t,y⟩:=UM h o;rcases y with rfl|⟨r,ta⟩
 ·exact g p t
 ·exact cL h e (g p t) ta
def mI{m:Region.Mode}{ops:Array Oper}{u:List DOper}{z:List (List Nat)}(v:u.length=ops.size)(na:∀(k:Nat) o,ops[k]?=some o->(u.map (·.after)).getD k []=Sm o)
  (hb:Fq (u.map (·.after)) z=true) {ga:List Nat} (fa:E7 m ops ga=true):
  ∀(fuel t:Nat)(listed:Array Bool)(w:List Nat),listed.size=ops.size->Fv listed ops.size<=fuel->
   (∀k,Ec listed k=true->∀p∈(u.map (·.after)).getD k [],Ec listed p=true)->
   ∃l,Region.linearise.go m ops fuel t listed w=w.reverse++l∧dS u (EN z) (Ec listed) l∧∀i,i<ops.size->l.foldl ins (Ec listed) i=true
 |0,t,listed,w,hsz,hu,hcl=>by
  refine⟨[],by simp[Region.linearise.go],trivial,λi hi=>?_⟩;have h0:((Qt ops.size).filter λi=>!listed.getD i false)=[]:=QM (by unfold Fv at hu;omega);rw[List.filter_eq_nil_iff]at h0;have:=h0 i (Ql.2 hi);simpa[Ec]using this
 |fuel+1,t,listed,w,hsz,hu,hcl=>by
  have n:Region.linearise.go m ops (fuel+1) t listed w=match (Ej m ops listed)[t % (Ej m ops listed).length]? with
   |some i=>Region.linearise.go m ops fuel (t / (Ej m ops listed).length) (listed.setIfInBounds i true) (i::w)
   |none=>w.reverse:=rfl
  rw[n];split
  ·rename_i i hi;have qa:i∈Ej m ops listed:=Qr hi;simp only[Ej,Zm,Ql,QU]at qa;obtain⟨la,pa,g⟩:=qa;have f:listed.getD i false=false:=by
    simp_all
   have s:ops[i]?=some ops[i]:=Array.getElem?_eq_getElem la;rw[s]at g;simp only[QY,QE,ZA]at g;have r:∀p∈(u.map (·.after)).getD i [],Ec listed p=true:=by
    intro p y;rw[na i _ s]at y;simp only[Sm,Qv,Zm]at y;obtain⟨e,⟨d,b⟩,rfl⟩:=y;obtain⟨j,q,rfl⟩:=Array.getElem_of_mem (Array.mem_toList_iff.1 d);have:=g j q;simp only[QP]at this;rcases this with h1|h1
    ·grind [uC]
    ·exact h1
   have x:=fX (listed:=listed) (i:=i) O;obtain⟨l,e1,e2,e3⟩:=mI v na hb fa fuel (t / (Ej m ops listed).length) (listed.setIfInBounds i true) (i::w) (by simpa using hsz)
    (by have:=Tf hsz la f;omega) (λk hk p y=>by
     rw[x]at hk ⊢;simp only[ins,QP,beq_iff_eq]at hk ⊢;rcases hk with hk|rfl
     ·exact .inl (hcl k hk p y)
     ·exact .inl (r p y))
   refine⟨i::l,?_,⟨O,f,λj q=>aCH hb hcl r q,?_⟩,?_⟩
   ·rw[e1];simp
   ·rw[←x];exact e2
   ·simp_all
  ·rename_i c;refine⟨[],U,trivial,λi hi=>?_⟩;simp only[List.foldl_nil];cases hmi:Ec listed i with
   |true=>rfl
   |false=>
    exfalso;unfold E7 at fa;rw[QU]at fa;have a:=Qy.1 fa.1 i (Ql.2 hi);obtain⟨k,hk⟩:=O7 hsz fa.2 U ⟨i,XL,hi,hmi⟩;have ta:0<(Ej m ops listed).length:=List.length_pos_of_mem hk;rw[List.getElem?_eq_none_iff]at c;have:=ZJ t ta;omega
def EH{m:Region.Mode}{ops:Array Oper}{u:List DOper}{z:List (List Nat)}(v:u.length=ops.size)(na:∀(k:Nat) o,ops[k]?=some o->(u.map (·.after)).getD k []=Sm o)
  (f:Fq (u.map (·.after)) z=true) {j:List Nat} (p:E7 m ops j=true) (t:Nat):
  dS u (EN z) (λ_=>false) (Region.linearise m ops t)∧(Region.linearise m ops t).foldl ins (λ_=>false)=below ops.size:=by
 have h0:Ec (Q9 ops.size false)=λ_=>false:=by
  funext i;by_cases hi:i<ops.size<;>simp[Ec,Qh,hi]
 obtain⟨l,w,y,n⟩:=mI v na f p ops.size t (Q9 ops.size false) [] U (by
  unfold Fv;exact QO (List.length_filter_le _ _) U) (by rw[h0];simp)
 rw[h0]at y n;have hl:Region.linearise m ops t=l:=by
  unfold Region.linearise;simpa using w
 rw[hl];refine⟨y,?_⟩;funext i;by_cases hi:i<ops.size
 ·simp_all [n,below]
 ·have a:∀(l:List Nat)(X:Nat->Bool),dS u (EN z) X l->X i=false->l.foldl ins X i=false:=by
   intro l;induction l with
   |nil=>intro X _ h;exact h
   |cons k l ih=>
    intro X hg q;obtain⟨g,e,x,s⟩:=hg;refine ih _ s ?_;have:¬i=k:=O
    simp[ins,q,this]
  rw[a l _ y rfl];simp[below,hi]
end Go.Vd
namespace Go.Vd
open Go.RowKit
def aKa(N:Nat):Option Nat->Bool
 |some t=>decide (t<N)
 |none=>true
def Tl(P:Program)(N:Nat)(o:Oper):Option DOper:=
 if aKa N o.dst=true then some ⟨o.dst,(tr P o.op).getD .stop,Sm o,o.guard⟩else none
def De(P:Program)(N:Nat):List Oper->Option (List DOper)
 |[]=>some []
 |o::r=>match Tl P N o,De P N r with
  |some d,some l=>some (d::l)
  |_,_=>none
def EV{P:Program}{N:Nat}{o:Oper}{d:DOper}(h:Tl P N o=some d):(tr P o.op).getD .stop=d.op∧d.dst=o.dst∧d.after=Sm o∧d.guard=o.guard∧∀t,o.dst=some t->t<N:=by
 grind [Tl,aKa]
def aFc{P:Program}{S:Gq}{op:Op}{d:DOp}{s:Nat->D}{m:Gu}{fr:Id}{x:D×GA}(h:(tr P op).getD .stop=d)(r:Aw S s m fr d=some x):tr P op=some d:=by
 cases htr:tr P op with
 |none=>rw[htr]at h;simp only[Option.getD_none]at h;subst h;simp[Aw]at r
 |some a=>rw[htr]at h;simp only[QE]at h;rw[h]
def Dd{P:Program}{N:Nat}:∀{l:List Oper} {k:List DOper},De P N l=some k->k.length=l.length∧∀(i:Nat) o,l[i]?=some o->∃d,k[i]?=some d∧Tl P N o=some d
 |[],k,h=>by simp only[De,Qa]at h;subst h;simp
 |o::r,k,h=>by
  unfold De at h;split at h
  ·rename_i d l u z;simp only[Qa]at h;subst h;obtain⟨p,q⟩:=Dd z;refine⟨by simp[p],λi o' hi=>?_⟩;cases i with
   |zero=>simp only[QD,Qa]at hi;subst hi;exact⟨d,rfl,u⟩
   |succ i=>simp only[Zg]at hi ⊢;exact q i o' hi
  ·cases h
def Gn(ns:Id)(m:Gu)(g:Gh)(m':Gu)(a:Gh):Prop:=∀i,BN m g i->¬ns<:+i->BN m' a i
def Gn.refl(ns:Id)(m:Gu)(g:Gh):Gn ns m g m g:=λ_ h _=>h
def Gn.trans{ns:Id}{m m' a:Gu}{g y f:Gh}(h:Gn ns m g m' y)(k:Gn ns m' y a f):Gn ns m g a f:=λi b c=>k i (h i b c) c
structure InX (P:Program) (B:Nat) (w0:World) (N:Nat) (ns:Id) (c:Nat) (X:Nat->Bool) (s:Nat->D) (m:Gu) (a:Act) (w:World) (g:Gh):Prop where
 inv:GD P B w0 m w g
 slots:Dx w g s a
 size:a.tmps.size=N
 defers:a.defers=[]
 fresh:∀k i,c<=k->X (k-c)=false->(k::ns)<:+i->BN m g i
def aIr:(Nat->Bool)->List Nat->Prop
 |_,[]=>True
 |X,i::l=>X i=false∧aIr (ins X i) l
def VB{k r:Nat}{ns i:Id}(h:(k::ns)<:+i)(o:(r::ns)<:+i):k=r:=by
 obtain⟨x,q⟩:=h;obtain⟨y,s⟩:=o;have hl:x.length=y.length:=by have:=congrArg ZL (q.trans s.symm);simpa using this
 have:=List.append_inj (q.trans s.symm) hl;simpa using this.2
def Dx.put{w:World}{g:Gh}{s:Nat->D}{a:Act}{p:Option Nat}{d:D}{v:Value}(h:Dx w g s a)(i:Rep w g d v)(r:∀t,p=some t->t<a.tmps.size):Dx w g (BG s p d) (a.put p v):=by
 intro t;cases p with
 |none=>exact h t
 |some x=>
  have b:=r x rfl;simp only[BG,Act.put];by_cases u:t=x
  ·simp_all
  ·rw[if_neg u];have j:¬x=t:=λe=>u e.symm
   have:(a.tmps.setIfInBounds x v).getD t undef=a.tmps.getD t undef:=by simp[Qh,j]
   rw[this];exact h t
def VZ(a:Act)(p:Option Nat)(v:Value):(a.put p v).tmps.size=a.tmps.size∧(a.put p v).defers=a.defers:=by
 cases p<;>simp[Act.put]
section
variable{P:Program}{B:Nat}{w0:World}{N:Nat}{ns:Id}{c:Nat}{S:Gq}{ops:Array Oper}{dops:List DOper}{Q:Exit->Act->World->Prop}
def rO{k:Nat}{i:Id}(h:¬ns<:+i):¬(k::ns)<:+i:=λo=>h ((ZD k ns).trans o)
def LD{w:World}{g:Gh}{s:Nat->D}{a:Act}(k:De P N ops.toList=some dops)(hs:Dx w g s a){o:Oper}{d:DOper}(r:d.guard=o.guard){b:Bool}(q:Bg dops s d=some b):
  Region.wanted o (yielded ops a.tmps)=b:=by
 obtain⟨hl,z⟩:=Dd k;unfold Bg at q;unfold Region.wanted;rw[←r];cases hgd:d.guard with
 |none=>rw[hgd]at q;simp only[Qa]at q;exact q
 |some p=>
  obtain⟨j,c⟩:=p;rw[hgd]at q;simp only at q ⊢;split at q
  ·rename_i t n;split at q
   ·rename_i b' ta;simp only[Qa]at q;have i:=hs t;rw[ta]at i;have m:=i.bool_inv;have v:∃oj,ops[j]?=some oj∧oj.dst=some t:=by
     cases hdj:dops[j]? with
     |none=>rw[hdj]at n;cases n
     |some dj=>
      rw[hdj]at n;simp only[ZE]at n;have f:j<ops.toList.length:=by have:=(Qe.1 hdj).1;omega
      obtain⟨d2,u,y⟩:=z j _ (Qc f);rw[hdj]at u;simp only[Qa]at u;subst u;refine⟨ops.toList[j],by simp at f;simp[f],?_⟩;rw[←(EV y).2.1];exact n
    obtain⟨oj,u,y⟩:=v;have la:a.tmps[t]?=some (.bool b'):=by
     rw[Qh]at m;cases hh:a.tmps[t]? with
     |none=>rw[hh]at m;simp[undef]at m
     |some x=>rw[hh]at m;simp at m;rw[m]
    have hy:yielded ops a.tmps j=some b':=by
     simp[yielded,u,y,la]
    rw[hy,←q];cases b'<;>cases c<;>rfl
   ·rename_i ta;simp only[Qa]at q;subst q;have i:=hs t;rw[ta]at i;obtain⟨us,m,hl,_⟩:=i.tup_inv;have hu:us=[]:=QM Xj;subst hu;have hy:yielded ops a.tmps j=none:=by
     unfold yielded;split
     ·rename_i b2 e;exfalso;rw[Zi]at e;obtain⟨t2,u,y⟩:=e;rw[Zi]at u;obtain⟨oj,e3,e4⟩:=u;have v:(dops[j]?).bind (·.dst)=some t2:=by
       obtain⟨d2,q1,q2⟩:=z j oj (by simpa using e3);rw[q1];simp only[ZE];rw[(EV q2).2.1];exact e4
      rw[n]at v;simp only[Qa]at v;subst v;rw[Qh,y]at m;cases m
     ·rfl
    rw[hy];rfl
   ·cases q
  ·cases q
def HO(hS:Gq.ok P S)(x:De P N ops.toList=some dops):∀(l:List Nat)(X:Nat->Bool)(s:Nat->D)(m:Gu)(a:Act)(w:World)(g:Gh)(s':Nat->D)(m':Gu),
  aIr X l->CS S ns c dops l s m=some (s',m')->InX P B w0 N ns c X s m a w g->
  (∀a' w' g',InX P B w0 N ns c (l.foldl ins X) s' m' a' w' g'->GR w g w' g'->Gn ns m g m' g'->Q .normal a' w')->wpOps P ops Q l a w
 |[],X,s,m,a,w,g,s',m',_,he,hx,hq=>by
  simp only[CS,Qa,Qd]at he;obtain⟨rfl,rfl⟩:=he;exact hq a w g hx (GR.refl w g) (Gn.refl ns m g)
 |i::l,X,s,m,a,w,g,s',m',hf,he,hx,hq=>by
  obtain⟨p,wa⟩:=hf;obtain⟨y,ia⟩:=Dd x;simp only[wpOps];cases ho:ops[i]? with
  |none=>
   simp only;have r:dops[i]?=none:=by
    simp_all
   simp only[CS,r]at he;have pa:InX P B w0 N ns c (ins X i) s m a w g:=⟨hx.inv,hx.slots,hx.size,hx.defers,λk i' q v h3=>hx.fresh k i' q (by simp only[ins,QS]at v;exact v.1) h3⟩;exact HO hS x l (ins X i) s m a w g s' m' wa he pa hq
  |some o=>
   simp only;obtain⟨d,r,ca⟩:=ia i o (by simpa using ho);obtain⟨t1,t2,t3,t4,t5⟩:=EV ca;simp only[CS,r]at he;split at he
   ·rename_i e b;unfold Bz at b;have n:∀i',((c+i)::ns)<:+i'->BN m g i':=λi' h=>hx.fresh (c+i) i' O (by rw[show c+i-c=i by omega];exact p) h
    have j:∀t,o.dst=some t->t<a.tmps.size:=λt ht=>by rw[hx.size];exact t5 t ht
    split at b
    ·rename_i hg;rw[LD x hx.slots t4 hg];simp only[if_true];split at b
     ·rename_i dd u z;simp only[Qa]at b;subst b;left;refine aRp hS ⟨hx.inv,hx.slots,n⟩ (aFc t1 z) z (λv' w' g' la=>?_);have na:=VZ a o.dst v';have pa:InX P B w0 N ns c (ins X i) (BG s d.dst dd) (GA.app m u) (a.put o.dst v') w' g':=by
       refine⟨la.inv,?_,by rw[na.1];exact hx.size,by rw[na.2];exact hx.defers,λk i' q v h3=>?_⟩
       ·rw[t2];exact(hx.slots.ext la.ext).put la.rep j
       ·simp only[ins,QS,beq_eq_false_iff_ne]at v;refine la.fresh i' (hx.fresh k i' q v.1 h3) (λh4=>?_);have:=VB h3 h4;omega
      exact HO hS x l (ins X i) _ _ _ w' g' s' m' wa he pa (λsa ja f q v h3=>hq sa ja f q (la.ext.trans v) (Gn.trans (λi' hf hn=>la.fresh i' hf (rO hn)) h3))
     ·cases b
    ·rename_i hg;rw[LD x hx.slots t4 hg];simp only[QG,if_false];simp only[Qa]at b;subst b;have na:=VZ a o.dst undef;have pa:InX P B w0 N ns c (ins X i) (BG s d.dst (.tup [])) m (a.put o.dst undef) w g:=by
      refine⟨hx.inv,?_,by rw[na.1];exact hx.size,by rw[na.2];exact hx.defers,λk i' q v h3=>?_⟩
      ·rw[t2];exact hx.slots.put (.tup [] [] rfl U) j
      ·simp only[ins,QS]at v;exact hx.fresh k i' q v.1 h3
     exact HO hS x l (ins X i) _ _ _ w g s' m' wa he pa hq
    ·cases b
   ·cases he
def SO{a:Nat->Nat->Prop}:∀{l:List Nat} {X:Nat->Bool},dS dops a X l->aIr X l
 |[],_,_=>trivial
 |i::l,X,h=>⟨h.2.1,SO h.2.2.2⟩
def hZ(n:Nat):∀k,aIr (below k) (Zp k n):=by
 induction n with
 |zero=>intro k;trivial
 |succ n ih=>
  intro k;rw[Q3];exact⟨by simp[below],by rw[Na];exact ih (k+1)⟩
def WU(n:Nat):∀k,(Zp k n).foldl ins (below k)=below (k+n):=by
 induction n with
 |zero=>intro k;rfl
 |succ n ih=>
  intro k;rw[Q3,Q8,Na,ih (k+1)];congr 1;omega
structure InS (P:Program) (B:Nat) (w0:World) (N:Nat) (ns:Id) (c:Nat) (s:Nat->D) (m:Gu) (a:Act) (w:World) (g:Gh):Prop where
 inv:GD P B w0 m w g
 slots:Dx w g s a
 size:a.tmps.size=N
 defers:a.defers=[]
 fresh:∀k i,c<=k->(k::ns)<:+i->BN m g i
def InS.start{s:Nat->D}{m:Gu}{a:Act}{w:World}{g:Gh}(h:InS P B w0 N ns c s m a w g)(X:Nat->Bool):InX P B w0 N ns c X s m a w g:=
 ⟨h.inv,h.slots,h.size,h.defers,λk i u _ y=>h.fresh k i u y⟩
def InX.done{s:Nat->D}{m:Gu}{a:Act}{w:World}{g:Gh}{n:Nat}(h:InX P B w0 N ns c (below n) s m a w g):InS P B w0 N ns (c+n) s m a w g:=
 ⟨h.inv,h.slots,h.size,h.defers,λk i u y=>h.fresh k i O (by simp[below];omega) y⟩
def qN(o:Gq.ok P S)(r:De P N ops.toList=some dops){s:Nat->D}{m:Gu}{a:Act}{w:World}{g:Gh}{n:Nat->D}{m':Gu}{id:Nat}
  (d:CS S ns c dops (Qt dops.length) s m=some (n,m')) (q:InS P B w0 N ns c s m a w g)
  (p:∀v t y,InS P B w0 N ns (c+dops.length) n m' v t y->GR w g t y->Gn ns m g m' y->Q .normal v t):(Code.region id ops false).wp P Q a w:=by
 have hl:dops.length=ops.size:=by simpa using (Dd r).1
 refine wp_region ?_;rw[←hl];have f:below 0=λ_=>false:=Yq
 refine HO o r (Qt dops.length) (below 0) s m a w g n m' ?_ d (q.start _) (λv t y u z i=>?_)
 ·rw[QR];exact hZ _ 0
 ·rw[QR,WU]at u;rw[Qu]at u;exact p v t y u.done z i
end
abbrev LA:=List Loc×List Loc
def B1(S:Gq)(ns:Id)(c:Nat)(ops:List DOper):List DOper->Nat->(Nat->D)->Gu->Option ((Nat->D)×Gu×List LA)
 |[],_,s,m=>some (s,m,[])
 |o::l,k,s,m=>match Bz S ops ((c+k)::ns) o s m with
  |some e=>match B1 S ns c ops l (k+1) (BG s o.dst e.d) (GA.app m e.u)with
   |some (s',m',f)=>some (s',m',(GK S s m o.op,Ay e.u)::f)
   |none=>none
  |none=>none
def DOp.mayW:DOp->Bool
 | .alloc _| .box _| .bslice .. | .mksl .. | .store .. | .app .. | .call .. | .range _| .next _=>true
 |_=>false
def DOp.ownW:DOp->Bool
 | .alloc _| .box _| .bslice .. | .mksl ..=>true
 |_=>false
def DOp.mayR:DOp->Bool
 | .load .. | .store .. | .app .. | .call .. | .next _=>true
 |_=>false
def aCv(a b:DOp):Bool:=a.mayW&&(b.mayR||b.mayW)&&!(a.ownW&&b.ownW)
def RL(z:List (List Nat))(j k:Nat):Bool:=(z.getD k []).contains j
def IJ(ops:List DOper)(z:List (List Nat)):List (Nat×Nat):=
 (Qt ops.length).flatMap λj=>(Qt ops.length).filterMap λk=>
  match ops[j]?,ops[k]? with
  |some a,some b=>if(j !=k)&&!RL z j k&&!RL z k j&&aCv a.op b.op then some (j,k)else none
  |_,_=>none
def Od(ops:List DOper)(z:List (List Nat)):Bool:=
 (Qt ops.length).all λj=>(Qt ops.length).all λk=>
  match ops[j]?,ops[k]? with
  |some a,some b=>match a.dst with
   |some t=>(j==k)||RL z j k||RL z k j||!(b.op.uses.contains t||FO ops b==some t||b.dst==some t)
   |none=>true
  |_,_=>true
def Ls(f:List LA)(ps:List (Nat×Nat)):Prop:=∀p∈ps,∀l∈(f.getD p.1 ([],[])).2,l∉(f.getD p.2 ([],[])).1∧l∉(f.getD p.2 ([],[])).2
section
variable{S:Gq}{ns:Id}{c:Nat}{ops:List DOper}
def C9(S:Gq)(ns:Id)(c:Nat)(ops:List DOper)(s0:Nat->D)(m0:Gu):Nat->(Nat->D)×Gu
 |0=>(s0,m0)
 |k+1=>match ops[k]? with
  |some o=>
   let e:=(Bz S ops ((c+k)::ns) o (C9 S ns c ops s0 m0 k).1 (C9 S ns c ops s0 m0 k).2).getD ⟨.junk,[]⟩
   (BG (C9 S ns c ops s0 m0 k).1 o.dst e.d,GA.app (C9 S ns c ops s0 m0 k).2 e.u)
  |none=>C9 S ns c ops s0 m0 k
def Lu(S:Gq)(ns:Id)(c:Nat)(ops:List DOper)(s0:Nat->D)(m0:Gu)(k:Nat):Eff:=
 match ops[k]? with
 |some o=>(Bz S ops ((c+k)::ns) o (C9 S ns c ops s0 m0 k).1 (C9 S ns c ops s0 m0 k).2).getD ⟨.junk,[]⟩
 |none=>⟨.junk,[]⟩
variable{s0:Nat->D}{m0:Gu}
def F9:∀k,k<=ops.length->(C9 S ns c ops s0 m0 k).1=eV ops (Lu S ns c ops s0 m0) s0 (below k) ops.length∧(C9 S ns c ops s0 m0 k).2=pY (Lu S ns c ops s0 m0) m0 (below k) ops.length
 |0,_=>by
  have q:below 0=λ_=>false:=Yq
  constructor
  ·funext t;simp only[C9,eV,q];have:∀n,H7 ops (Lu S ns c ops s0 m0) (λ_=>false) t n=none:=by
    intro n;induction n with
    |zero=>rfl
    |succ n ih=>simp[H7,ih]
   rw[this];rfl
  ·funext i o;simp only[C9,pY,q];have:∀n,Hs (Lu S ns c ops s0 m0) (λ_=>false) i o n=none:=by
    intro n;induction n with
    |zero=>rfl
    |succ n ih=>simp[Hs,ih]
   rw[this]
 |k+1,hk=>by
  obtain⟨u,z⟩:=F9 k O;have b:ops[k]?=some ops[k]:=Qc O;have m:Lu S ns c ops s0 m0 k=(Bz S ops ((c+k)::ns) ops[k] (C9 S ns c ops s0 m0 k).1 (C9 S ns c ops s0 m0 k).2).getD ⟨.junk,[]⟩:=by
   simp only[Lu,b]
  have f:below k k=false:=by simp[below]
  have w:=kY (ops:=ops) (E:=Lu S ns c ops s0 m0) (s0:=s0) f (n:=ops.length) O (λt _ j u _ y=>by simp[below]at y;omega);have a:=kZ (E:=Lu S ns c ops s0 m0) (m0:=m0) f (n:=ops.length) O (λi o _ j u _ y=>by simp[below]at y;omega);rw[Na]at w a;have p:Dt ops k=(ops[k]).dst:=by simp[Dt,b]
  rw[p]at w;simp only[C9,b];rw[←m,u,z,←w,←a];exact⟨rfl,rfl⟩
def Ih:∀{l:List DOper} {k:Nat} {n:Nat->D} {m':Gu} {f:List LA},l=ops.drop k->B1 S ns c ops l k (C9 S ns c ops s0 m0 k).1 (C9 S ns c ops s0 m0 k).2=some (n,m',f)->
  (n,m')=C9 S ns c ops s0 m0 (k+l.length)∧∀j o,ops[k+j]?=some o->
   Bz S ops ((c+(k+j))::ns) o (C9 S ns c ops s0 m0 (k+j)).1 (C9 S ns c ops s0 m0 (k+j)).2=some (Lu S ns c ops s0 m0 (k+j))∧
   f[j]?=some (GK S (C9 S ns c ops s0 m0 (k+j)).1 (C9 S ns c ops s0 m0 (k+j)).2 o.op,Ay (Lu S ns c ops s0 m0 (k+j)).u)
 |[],k,n,m',f,hl,h=>by
  simp only[B1,Qa,Qd]at h;obtain⟨rfl,rfl,rfl⟩:=h;refine⟨rfl,λj o b=>?_⟩;have:ops.length<=k:=by
   simp_all
  rw[Qj O]at b;cases b
 |o::l,k,n,m',f,hl,h=>by
  have r:ops[k]?=some o:=by
   have:(ops.drop k)[0]?=some o:=by rw[←hl];rfl
   rw[Qw]at this;simpa using this
  have z:l=ops.drop (k+1):=by
   have:(ops.drop k).drop 1=ops.drop (k+1):=by rw[Zo]
   rw[←this,←hl];rfl
  unfold B1 at h;split at h
  ·rename_i e w;have m:Lu S ns c ops s0 m0 k=e:=by simp only[Lu,r,w,QE]
   have x:C9 S ns c ops s0 m0 (k+1)=(BG (C9 S ns c ops s0 m0 k).1 o.dst e.d,GA.app (C9 S ns c ops s0 m0 k).2 e.u):=by
    grind [C9]
   split at h
   ·rename_i i y v h1;simp only[Qa,Qd]at h;obtain⟨rfl,rfl,rfl⟩:=h;obtain⟨p,q⟩:=Ih (k:=k+1) z (by rw[x];exact h1);refine⟨by rw[p];congr 1;simp;omega,λj o' a=>?_⟩;cases j with
    |zero=>
     simp only[Zj]at a ⊢;rw[r]at a;simp only[Qa]at a;subst a;refine⟨by rw[w,m],?_⟩;rw[m];rfl
    |succ j=>
     have:=q j o' (by rw[show k+1+j=k+(j+1)by omega];exact a);rw[show k+1+j=k+(j+1)by omega]at this;exact⟨this.1,by simpa using this.2⟩
   ·cases h
  ·cases h
theorem W8{P:Program}(j:Gq.ok P S){op:DOp}{s:Nat->D}{m:Gu}{fr:Id}{d:D}{u:GA}(h:Aw S s m fr op=some (d,u)):
  (op.mayW=false->u=[])∧(op.ownW=true->∀i o,EG u i o≠none->i=fr):=by
 have a:∀ds,∀i o,EG [(fr,0,ds)] i o≠none->i=fr:=by
  grind [EG]
 cases op<;>(constructor<;>intro g<;>first|(simp[DOp.mayW]at g;done)|(simp[DOp.ownW]at g;done)|skip)
 all_goals simp only[Aw]at h
 case alloc zs=>simp only[Qa,Qd]at h;obtain⟨rfl,rfl⟩:=h;exact a _
 case box x=>split at h;(simp only[Qa,Qd]at h;obtain⟨rfl,rfl⟩:=h;exact a _);cases h
 case bslice=>split at h;(simp only[Qa,Qd]at h;obtain⟨rfl,rfl⟩:=h;exact a _);cases h
 case mksl=>
  split at h
  ·grind
  ·cases h
 all_goals
  repeat' (split at h)
 all_goals first
  |(simp at h;done)
  |(simp only[Qa,Qd]at h;exact h.2.symm)
  |(rw[Qb]at h;obtain⟨_,_,h⟩:=h;simp only[Qd]at h;exact h.2.symm)
def VV{op:DOp}{s:Nat->D}{m:Gu}(h:op.mayR=false):GK S s m op=[]:=by
 cases op<;>first|rfl|(simp[DOp.mayR]at h)
def qP{op:DOp}(h:op.ownW=true):op.mayR=false:=by
 cases op<;>first|rfl|(simp[DOp.ownW]at h)
def Mx{z:List (List Nat)}{j k:Nat}:RL z j k=true↔EN z j k:=by
 simp[RL,EN]
def aAR{P:Program}(hS:Gq.ok P S){y:List (List Nat)}(hb:Fq (ops.map (·.after)) y=true)(hs:Od ops y=true){s':Nat->D}{m':Gu}{f:List LA}
  (he:B1 S ns c ops ops 0 s0 m0=some (s',m',f)) (hf:Ls f (IJ ops y)):
  aEj ops (Lu S ns c ops s0 m0) (λk=>(f.getD k ([],[])).1) (EN y):=by
 obtain⟨_,ia⟩:=Ih (k:=0) (ops:=ops) rfl he;simp only[Qu]at ia;refine⟨λj k h=>(UM hb h).1,λj k t oj ok a hj hk p ht=>?_,λj k i o a hj hk hl ht=>?_⟩
 ·have z:j<ops.length:=(Qe.1 hj).1;have x:k<ops.length:=(Qe.1 hk).1;have q:=Qy.1 hs j (Ql.2 z);have h2:=Qy.1 q k (Ql.2 x);simp only[hj,hk,p]at h2;simp only[QP,beq_iff_eq,Bool.not_eq_true',QS]at h2;rcases h2 with ((h2|h2)|h2)|h2
  ·exact absurd h2 a
  ·exact .inl (Mx.1 h2)
  ·exact .inr (Mx.1 h2)
  ·simp_all
 ·by_cases hc:EN y j k∨EN y k j
  ·exact hc
  exfalso;have v:ops[j]?=some ops[j]:=Qc hj;have r:ops[k]?=some ops[k]:=Qc hk;obtain⟨ej,fj⟩:=ia j _ v;obtain⟨ek,fk⟩:=ia k _ r;have n:f.getD j ([],[])=(GK S (C9 S ns c ops s0 m0 j).1 (C9 S ns c ops s0 m0 j).2 ops[j].op,Ay (Lu S ns c ops s0 m0 j).u):=by simp[Q0,fj]
  have d:f.getD k ([],[])=(GK S (C9 S ns c ops s0 m0 k).1 (C9 S ns c ops s0 m0 k).2 ops[k].op,Ay (Lu S ns c ops s0 m0 k).u):=by simp[Q0,fk]
  have wr:∀{k o e s m},Bz S ops ((c+k)::ns) o s m=some e->(o.op.mayW=false->e.u=[])∧(o.op.ownW=true->∀i o',EG e.u i o'≠none->i=(c+k)::ns):=by
   intro k o e s m h;unfold Bz at h;split at h
   ·grind [W8]
   ·simp only[Qa]at h;subst h;exact⟨λ_=>rfl,λ_ i o' hl=>absurd rfl hl⟩
   ·cases h
  by_cases na:aCv (ops[j]).op (ops[k]).op=true
  ·have qa:(j,k)∈IJ ops y:=by
    unfold IJ;rw[Q5];refine⟨j,Ql.2 hj,?_⟩;rw[List.mem_filterMap];refine⟨k,Ql.2 hk,?_⟩;simp only[v,r];have n1:RL y j k=false:=by
     cases h:RL y j k with
     |false=>rfl
     |true=>exact absurd (.inl (Mx.1 h)) hc
    have n2:RL y k j=false:=by
     cases h:RL y k j with
     |false=>rfl
     |true=>exact absurd (.inr (Mx.1 h)) hc
    have n3:(j !=k)=true:=XL
    rw[n1,n2,n3,na];rfl
   have l:=hf (j,k) qa (i,o) (by simp only;rw[n];exact look_mem hl);rcases ht with ht|ht
   ·exact l.1 ht
   ·grind [look_mem]
  ·obtain⟨w1,w2⟩:=wr ej;obtain⟨w3,w4⟩:=wr ek;have g:(ops[j]).op.mayW=true:=by
    cases h:(ops[j]).op.mayW with
    |true=>rfl
    |false=>rw[w1 h]at hl;exact absurd rfl hl
   by_cases b:(ops[k]).op.mayR=true∨(ops[k]).op.mayW=true
   ·have ja:(ops[j]).op.ownW=true∧(ops[k]).op.ownW=true:=by
     unfold aCv at na;rw[g]at na;have:((ops[k]).op.mayR||(ops[k]).op.mayW)=true:=by rcases b with h|h<;>simp[h]
     rw[this]at na;simpa using na
    have hi:=w2 ja.1 i o hl;rcases ht with ht|ht
    ·have:(ops[k]).op.mayR=false:=qP ja.2;rw[d,VV this]at ht;cases ht
    ·have w:=w4 ja.2 i o ht;rw[hi]at w;simp only[ZH,and_true]at w;omega
   ·have q:(ops[k]).op.mayR=false:=by simpa using (λh=>b (.inl h))
    have h2:(ops[k]).op.mayW=false:=by simpa using (λh=>b (.inr h))
    rcases ht with ht|ht
    ·rw[d,VV q]at ht;cases ht
    ·rw[w3 h2]at ht;exact absurd rfl ht
def eO{P:Program}(hS:Gq.ok P S){z:List (List Nat)}(m:Fq (ops.map (·.after)) z=true)(g:Od ops z=true){n:Nat->D}{m':Gu}{f:List LA}
  (r:B1 S ns c ops ops 0 s0 m0=some (n,m',f)) (e:Ls f (IJ ops z)) {l:List Nat} (q:dS ops (EN z) (λ_=>false) l) (hl:l.foldl ins (λ_=>false)=below ops.length):
  CS S ns c ops l s0 m0=some (n,m'):=by
 obtain⟨a,v⟩:=Ih (k:=0) (ops:=ops) rfl r;simp only[Qu,List.drop_zero]at v a;have x:=aAR hS m g r e;have b:=F9 (S:=S) (ns:=ns) (c:=c) (ops:=ops) (s0:=s0) (m0:=m0) 0 (ZF _);have i:below 0=λ_=>false:=Yq
 rw[i]at b;simp only[C9]at b;have hn:=F9 (S:=S) (ns:=ns) (c:=c) (ops:=ops) (s0:=s0) (m0:=m0) ops.length (Qk _);have d:=O3 (c:=c) (ns:=ns) (s0:=s0) (m0:=m0) hS x (λk o s=>by
  have p:k<ops.length:=(Qe.1 s).1;have:=(v k o s).2;rw[(F9 k O).1,(F9 k O).2]at this;simp[Q0,this]) (λk o s=>by
  have p:k<ops.length:=(Qe.1 s).1;have:=(v k o s).1;rw[(F9 k O).1,(F9 k O).2]at this;exact this) l (λ_=>false) (λj k h _=>Xc) q
 rw[←b.1,←b.2,hl,←hn.1,←hn.2]at d;rw[d,←a]
end
def DOper.strip(o:DOper):DOper:={o with after:=[]}
def D4(S:Gq)(ns:Id)(c:Nat)(ops:List DOper):List DOper->Nat->(Nat->D)->Gu->Option ((Nat->D)×Gu)
 |[],_,s,m=>some (s,m)
 |o::l,k,s,m=>match Bz S ops ((c+k)::ns) o s m with
  |some e=>D4 S ns c ops l (k+1) (BG s o.dst e.d) (GA.app m e.u)
  |none=>none
def RB(ops:List DOper)(s:Nat->D)(o:DOper):Bg (ops.map DOper.strip) s o.strip=Bg ops s o:=by
 grind [Bg,DOper.strip]
def NT(S:Gq)(ops:List DOper)(fr:Id)(o:DOper)(s:Nat->D)(m:Gu):Bz S (ops.map DOper.strip) fr o.strip s m=Bz S ops fr o s m:=by
 unfold Bz;rw[RB];rfl
def NR(S:Gq)(ns:Id)(c:Nat)(ops:List DOper):∀(l:List DOper)(k:Nat)(s:Nat->D)(m:Gu),D4 S ns c (ops.map DOper.strip) (l.map DOper.strip) k s m=D4 S ns c ops l k s m
 |[],k,s,m=>rfl
 |o::l,k,s,m=>by
  simp only[Qs,D4,NT];cases Bz S ops ((c+k)::ns) o s m with
  |none=>rfl
  |some e=>simp only;exact NR S ns c ops l (k+1) _ _
def Ma(S:Gq)(ns:Id)(c:Nat)(ops:List DOper):∀(l:List DOper)(k:Nat)(s:Nat->D)(m:Gu),B1 S ns c (ops.map DOper.strip) (l.map DOper.strip) k s m=B1 S ns c ops l k s m
 |[],k,s,m=>rfl
 |o::l,k,s,m=>by
  simp only[Qs,B1,NT];cases Bz S ops ((c+k)::ns) o s m with
  |none=>rfl
  |some e=>simp only;rw[show o.strip.dst=o.dst from rfl,Ma S ns c ops l (k+1) _ _];rfl
def NS(S:Gq)(ns:Id)(c:Nat)(ops:List DOper):∀(l:List DOper)(k:Nat)(s:Nat->D)(m:Gu),l=ops.drop k->D4 S ns c ops l k s m=CS S ns c ops (Zp k l.length) s m
 |[],k,s,m,_=>rfl
 |o::l,k,s,m,hl=>by
  have r:ops[k]?=some o:=by
   have:(ops.drop k)[0]?=some o:=by rw[←hl];rfl
   rw[Qw]at this;simpa using this
  have z:l=ops.drop (k+1):=by
   have:(ops.drop k).drop 1=ops.drop (k+1):=by rw[Zo]
   rw[←this,←hl];rfl
  rw[Qo,Q3];simp only[D4,CS,r];cases Bz S ops ((c+k)::ns) o s m with
  |none=>rfl
  |some e=>simp only;exact NS S ns c ops l (k+1) _ _ z
inductive DC where
 |skip
 |ret
 |exit (i:Nat)
 |row (ops:List DOper)
 |drawn (ops:List DOper) (ps:List (Nat×Nat))
 |seq (a b:DC)
 |cond (c:Gz) (a b:DC)
 |block (i:Nat) (c:DC)
 |loop (c:DC)
def PZ(ps:List (List Nat)):List (List Nat):=
 ps.foldl (λn p=>n++[(p.flatMap λj=>j::n.getD j []).eraseDups]) []
def T9(P:Program)(N:Nat)(ops:Array Oper):Option DC:=
 match De P N ops.toList with
 |some u=>
  if Fq (u.map (·.after)) (PZ (u.map (·.after)))=true∧Od u (PZ (u.map (·.after)))=true∧E7 .any ops (Region.linearise .any ops 0)=true∧
   E7 .text ops (Region.linearise .text ops 0)=true∧E7 .gc ops (Region.linearise .gc ops 0)=true
  then some (.drawn (u.map DOper.strip) (IJ u (PZ (u.map (·.after)))))else none
 |none=>none
def B9(P:Program)(N:Nat):Code->Option DC
 | .skip=>some .skip
 | .ret=>some .ret
 | .exit i=>some (.exit i)
 | .region _ ops false=>(De P N ops.toList).map λl=> .row (l.map DOper.strip)
 | .region _ ops true=>T9 P N ops
 | .seq a b=>match B9 P N a,B9 P N b with
  |some a,some b=>some (.seq a b)
  |_,_=>none
 | .cond c a b=>match AB c,B9 P N a,B9 P N b with
  |some c,some a,some b=>some (.cond c a b)
  |_,_,_=>none
 | .block i c=>(B9 P N c).map (.block i)
 | .loop c=>(B9 P N c).map .loop
 |_=>none
structure St where
 s:Nat->D
 m:Gu
 c:Nat
inductive Ex where
 |normal
 |ret
 |exit (i:Nat)
def Ex.toExit:Ex->Exit
 | .normal=> .normal
 | .ret=> .ret
 | .exit i=> .exit i
inductive Lp (R:St->Ex->St->Prop):Nat->St->Ex->St->Prop
 |stop (st:St) (e:Ex) (st':St):R st e st'->e≠ .normal->Lp R 0 st e st'
 |more (n:Nat) (st st1:St) (e:Ex) (st':St):R st .normal st1->Lp R n st1 e st'->Lp R (n+1) st e st'
def Ev(S:Gq)(ns:Id):DC->St->Ex->St->Prop
 | .skip,st,e,st'=>e= .normal∧st'=st
 | .ret,st,e,st'=>e= .ret∧st'=st
 | .exit i,st,e,st'=>e= .exit i∧st'=st
 | .row ops,st,e,st'=>e= .normal∧D4 S ns st.c ops ops 0 st.s st.m=some (st'.s,st'.m)∧st'.c=st.c+ops.length
 | .drawn ops ps,st,e,st'=>e= .normal∧(∃f,B1 S ns st.c ops ops 0 st.s st.m=some (st'.s,st'.m,f)∧Ls f ps)∧st'.c=st.c+ops.length
 | .seq a b,st,e,st'=>∃w g,Ev S ns a st w g∧((w= .normal∧Ev S ns b g e st')∨(w≠ .normal∧e=w∧st'=g))
 | .cond c a b,st,e,st'=>(c.ev st.s= .bool true∧Ev S ns a st e st')∨(c.ev st.s= .bool false∧Ev S ns b st e st')
 | .block i c,st,e,st'=>∃w,Ev S ns c st w st'∧((w= .exit i∧e= .normal)∨(w≠ .exit i∧e=w))
 | .loop c,st,e,st'=>∃n,Lp (Ev S ns c) n st e st'
def DC.wp(S:Gq)(ns:Id)(g:DC)(Q:Ex->St->Prop)(y:St):Prop:=∃e x,Ev S ns g y e x∧Q e x
def R_{P:Program}{Q:Exit->Act->World->Prop}{c:Code}(J:Nat->Act->World->Prop)
  (f:∀n a w,J n a w->c.wp P (Exit.then (λv s=>∃k,k<n∧J k v s) Q) a w) {n:Nat} {a:Act} {w:World} (q:J n a w):(Code.loop c).wp P Q a w:=by
 intro b k cs;have z:∀n a w,J n a w->∃e v s,Q e v s∧Arrives P (lone (b.at a (.code c:: .inLoop c::k)) cs w) b k cs e v s:=by
  intro n;induction n using ZI with
  |_ n ih=>
   intro a w m;obtain⟨e,y,i,j,p⟩:=f n a w m b (.inLoop c::k) cs;cases e with
   |normal=>
    obtain⟨u,r,g⟩:=j;obtain⟨o,t,w₂,h,d⟩:=ih u r y i g;exact⟨o,t,w₂,h,.of_steps (Steps.trans p (.one step_inLoop)) d⟩
   |exit id=>exact⟨_,y,i,j,.pass (x:= .inLoop c) rfl (λ_ _=> .inl U) p⟩
   |goto l=>exact⟨_,y,i,j,.pass (x:= .inLoop c) rfl (λ_ _=> .inl U) p⟩
   |ret=>exact⟨_,y,i,j,.pass (x:= .inLoop c) rfl (λ_ _=> .inl U) p⟩
   |panic ch=>exact⟨_,y,i,j,.pass (x:= .inLoop c) rfl (λ_ _=> .inl U) p⟩
   |outgrown=>exact⟨_,y,i,j,.pass (x:= .inLoop c) rfl (λ_ _=> .inl U) p⟩
 obtain⟨e,v,s,j,p⟩:=z n a w q;exact⟨e,v,s,j,.of_steps (.one step_loop) p⟩
section
variable{P:Program}{B:Nat}{w0:World}{N:Nat}{ns:Id}{S:Gq}
def T8{ops:Array Oper}{g:DC}(h:T9 P N ops=some g):∃u z,De P N ops.toList=some u∧Fq (u.map (·.after)) z=true∧Od u z=true∧
  (∀i,E7 i ops (Region.linearise i ops 0)=true)∧g= .drawn (u.map DOper.strip) (IJ u z):=by
 unfold T9 at h;split at h
 ·rename_i u p;split at h
  ·rename_i y;simp only[Qa]at h;refine⟨u,_,p,y.1,y.2.1,λi=>?_,h.symm⟩;cases i
   ·exact y.2.2.2.1
   ·exact y.2.2.2.2
   ·exact y.2.2.1
  ·cases h
 ·cases h
def Holds(P:Program)(B:Nat)(w0:World)(N:Nat)(ns:Id)(y:St)(a:Act)(w:World)(g:Gh):Prop:=InS P B w0 N ns y.c y.s y.m a w g
def aIl(P:Program)(B:Nat)(w0:World)(N:Nat)(ns:Id)(y:St)(w:World)(g:Gh)(e:Ex)(x:St):Exit->Act->World->Prop:=
 λn v s=>n=e.toExit∧∃a,Holds P B w0 N ns x v s a∧GR w g s a∧Gn ns y.m g x.m a
def aIl.trans{y v x:St}{w c:World}{g p:Gh}{e:Ex}{n:Exit}{t:Act}{s:World}(q:GR w g c p)(o:Gn ns y.m g v.m p)(h:aIl P B w0 N ns v c p e x n t s):aIl P B w0 N ns y w g e x n t s:=by
 obtain⟨u,a,z,i,r⟩:=h;exact⟨u,a,z,q.trans i,o.trans r⟩
def Rr{ops:Array Oper}{u:List DOper}{z:List (List Nat)}(r:De P N ops.toList=some u)(f:Fq (u.map (·.after)) z=true)
  (q:∀i,E7 i ops (Region.linearise i ops 0)=true) (a:Bool) (t:Nat):
  dS u (EN z) (λ_=>false) (Region.schedule a ops t)∧(Region.schedule a ops t).foldl ins (λ_=>false)=below u.length:=by
 obtain⟨hl,g⟩:=Dd r;have v:u.length=ops.size:=Xj
 have na:∀(k:Nat) o,ops[k]?=some o->(u.map (·.after)).getD k []=Sm o:=by
  intro k o b;obtain⟨d,p,n⟩:=g k o XU;simp[Q0,p,(EV n).2.2.1]
 rw[v];unfold Region.schedule;split
 ·exact EH v na f (q .any) t
 ·split
  ·exact EH v na f (q .text) (t / 2)
  ·exact EH v na f (q .gc) (t / 2)
def aBe(hS:Gq.ok P S):∀(ba:Code)(dc:DC),B9 P N ba=some dc->∀(st:St)(e:Ex)(ha:St),Ev S ns dc st e ha->∀(a:Act)(w:World)(g:Gh),Holds P B w0 N ns st a w g->
  ba.wp P (aIl P B w0 N ns st w g e ha) a w:=by
 intro ba;induction ba with
 |skip=>
  intro dc ca st e ha b a w g hx;simp only[B9,Qa]at ca;subst ca;obtain⟨rfl,rfl⟩:=b;exact wp_skip ⟨rfl,g,hx,GR.refl w g,Gn.refl _ _ _⟩
 |ret=>
  intro dc ca st e ha b a w g hx;simp only[B9,Qa]at ca;subst ca;obtain⟨rfl,rfl⟩:=b;exact wp_ret ⟨rfl,g,hx,GR.refl w g,Gn.refl _ _ _⟩
 |exit i=>
  intro dc ca st e ha b a w g hx;simp only[B9,Qa]at ca;subst ca;obtain⟨rfl,rfl⟩:=b;exact wp_exit ⟨rfl,g,hx,GR.refl w g,Gn.refl _ _ _⟩
 |region id ops na=>
  intro dc ca st e ha b a w g hx;cases na with
  |false=>
   simp only[B9,Qb]at ca;obtain⟨da,ea,rfl⟩:=ca;obtain⟨rfl,he,hc⟩:=b;rw[NR,NS S ns st.c da da 0 _ _ rfl,←QR]at he;refine qN hS ea he hx (λa' w' g' h1 h2 h3=>⟨rfl,g',?_,h2,h3⟩);unfold Holds;rw[hc,QZ];exact h1
  |true=>
   simp only[B9]at ca;obtain⟨da,aa,ea,hb,hs,fa,rfl⟩:=T8 ca;obtain⟨rfl,⟨f,he,hf⟩,hc⟩:=b;rw[Ma]at he;refine wp_region_draw (λt=>?_);obtain⟨g1,g2⟩:=Rr ea hb fa (P.follows .mixedOrders) t;have qa:=eO (c:=st.c) (ns:=ns) hS hb hs he hf g1 g2;have pa:InS P B w0 N ns st.c st.s st.m a w.drew g:=⟨hx.inv.drew,λt=>(hx.slots t).ext (GR.drew w g),hx.size,hx.defers,hx.fresh⟩;refine HO hS ea _ (λ_=>false) st.s st.m a w.drew g ha.s ha.m (SO g1) qa (pa.start _) (λa' w' g' h1 h2 h3=>⟨rfl,g',?_,(GR.drew w g).trans h2,h3⟩);unfold Holds;rw[hc,QZ];rw[g2]at h1;exact h1.done
 |seq x y ra v=>
  intro dc ca st e ha b a w g hx;simp only[B9]at ca;split at ca
  ·rename_i dx dy h1 h2;simp only[Qa]at ca;subst ca;obtain⟨e1,ia,l,q⟩:=b;have za:=ra dx h1 st e1 ia l a w g hx;refine wp_seq (wp_mono za ?_);rintro e' a' w' ⟨rfl,g',hh,k,d⟩;rcases q with ⟨rfl,oa⟩|⟨ga,rfl,rfl⟩
   ·exact wp_mono (v dy h2 ia e ha oa a' w' g' hh) (λua sa ja h=>h.trans k d)
   ·cases e with
    |normal=>exact absurd rfl ga
    |ret=>exact⟨rfl,g',hh,k,d⟩
    |exit i=>exact⟨rfl,g',hh,k,d⟩
  ·cases ca
 |cond c x y ra v=>
  intro dc ca st e ha b a w g hx;simp only[B9]at ca;split at ca
  ·rename_i p dx dy h0 h1 h2;simp only[Qa]at ca;subst ca;have hc:=hx.slots.arg h0;rcases b with ⟨ht,b⟩|⟨ht,b⟩
   ·rw[ht]at hc;exact wp_cond_true hc.bool_inv (ra dx h1 st e ha b a w g hx)
   ·rw[ht]at hc;exact wp_cond_false hc.bool_inv (v dy h2 st e ha b a w g hx)
  ·cases ca
 |block i c ih=>
  intro dc ca st e ha b a w g hx;simp only[B9,Qb]at ca;obtain⟨p,h1,rfl⟩:=ca;obtain⟨e1,l,q⟩:=b;refine wp_block (wp_mono (ih p h1 st e1 ha l a w g hx) ?_);rintro e' a' w' ⟨rfl,g',hh,k,d⟩;rcases q with ⟨rfl,rfl⟩|⟨ga,rfl⟩
  ·simp only[Ex.toExit,Exit.inBlock,if_true];exact⟨rfl,g',hh,k,d⟩
  ·cases e with
   |normal=>exact⟨rfl,g',hh,k,d⟩
   |ret=>exact⟨rfl,g',hh,k,d⟩
   |exit j=>
    simp only[Ex.toExit,Exit.inBlock];rw[if_neg (λe=>ga (by rw[e]))];exact⟨rfl,g',hh,k,d⟩
 |loop c ih=>
  intro dc ca st e ha b a w g hx;simp only[B9,Qb]at ca;obtain⟨p,h1,rfl⟩:=ca;obtain⟨n,o⟩:=b;refine R_ (λn a' w'=>∃ia g1,Holds P B w0 N ns ia a' w' g1∧GR w g w' g1∧Gn ns st.m g ia.m g1∧Lp (Ev S ns p) n ia e ha) ?_ ⟨st,g,hx,GR.refl w g,Gn.refl _ _ _,o⟩;rintro n a1 w1 ⟨ia,g1,hh,k,d,u⟩;cases u with
  |stop _ _ _ hr ga=>
   refine wp_mono (ih p h1 ia e ha hr a1 w1 g1 hh) ?_;rintro e' a' w' hp;have ta:=hp.trans k d;obtain⟨rfl,_⟩:=hp;cases e with
   |normal=>exact absurd rfl ga
   |ret=>exact ta
   |exit i=>exact ta
  |more n' _ r _ _ hr z=>
   refine wp_mono (ih p h1 ia .normal r hr a1 w1 g1 hh) ?_;rintro e' a' w' ⟨rfl,g',ma,la,ka⟩;exact⟨n',Nat.lt_succ_self _,r,g',ma,k.trans la,d.trans ka,z⟩
 |_=>
  intro dc ca;simp[B9]at ca
end
def Nq{xs:List D}(h:∀d∈xs,d.calm=true):∀x∈flat xs,x.calm=true:=by
 induction xs with
 |nil=>intro x hx;cases hx
 |cons d r ih=>
  intro x hx;simp only[flat,Qg]at hx;rcases hx with hx|hx
  ·exact Ly (h d (Qn ..)) x hx
  ·exact ih (λd p=>h d (Qq _ p)) x hx
def cE{cs:List D}(h:(D.agg cs).calm=true):∀x∈cs,x.calm=true:=Ly h
def Rep.calm_to{w w':World}{g g':Gh}{d:D}{v:Value}(h:Rep w g d v)(y:d.calm=true)(x:∀p:Addr,p.off<g.G p.block->w'.cell? p=w.cell? p)(hG:∀b,g.G b<=g'.G b):Rep w' g' d v:=by
 induction h with
 |junk v=>exact .junk v
 |bool b=>exact .bool b
 |int k n=>exact .int k n
 |str s=>exact .str s
 |nils t=>exact .nils t
 |slice t xs a n c sz vv u z h3 e h5 h6 h7 h8 h9 ih=>
  have ht:t=[]:=by simpa[D.calm,D.calm1]using y
  subst ht;refine .slice [] xs a n c sz vv u z h3 (λj q=>?_) h5 (λj d r=>ih j d r (Nq h9 d (Qr r))) (λh=>QO (h7 h) (hG _)) (λh=>absurd rfl h) h9;rw[x _ YH];exact e j q
 |ptr i o b u=>simp[D.calm,D.calm1]at y
 |row i n c b h0 u=>simp[D.calm,D.calm1]at y
 |eptr ds a vv u z h3 e h5 ih=>
  refine .eptr ds a vv (λj q=>?_) z (λj d r=>ih j d r (h5 d (Qr r))) (λh=>QO (e h) (hG _)) h5;rw[x _ YI];exact u j q
 |nilp=>exact .nilp
 |agg ds vs u z h3 ih=>exact .agg ds vs u z (λj d v r m=>ih j d v r m (cE y d (Qr r)))
 |tup ds vs u z ih=>simp[D.calm,D.calm1]at y
 |iface t d v u z ih=>exact .iface t d v u (ih u)
 |nili=>exact .nili
 |fn f ds vs u z ih=>
  have:ds=[]:=by simpa[D.calm,D.calm1]using y
  subst this;exact .fn f [] vs u U
 |nilf=>exact .nilf
 |nilm=>exact .nilm
 |itp i b u=>simp[D.calm,D.calm1]at y
def D.unR:D->D
 | .tup vs=> .tup (vs.map D.un)
 |d=>d.un
def D.calmR:D->Bool
 | .tup vs=>vs.all D.calm
 |d=>d.calm
def Rep.unR{w:World}{g:Gh}{d:D}{v:Value}(h:Rep w g d v):Rep w g d.unR v:=by
 cases d with
 |tup vs=>
  obtain⟨us,rfl,u,z⟩:=h.tup_inv;refine .tup _ us (by simp[u]) (λj d v p m=>?_);rw[Qi,Qb]at p;obtain⟨a,qa,rfl⟩:=p;exact(z j a v qa m).un
 |_=>exact h.un
def Rep.calmR_to{w s:World}{g a:Gh}{d:D}{v:Value}(h:Rep w g d v)(y:d.calmR=true)(x:∀p:Addr,p.off<g.G p.block->s.cell? p=w.cell? p)(i:∀b,g.G b<=a.G b):Rep s a d v:=by
 cases d with
 |tup vs=>
  obtain⟨us,rfl,u,z⟩:=h.tup_inv;exact .tup _ us u (λj d v r m=>(z j d v r m).calm_to (Qy.1 y d (Qr r)) x i)
 |_=>exact h.calm_to y x i
inductive RV where
 |t (n:Nat)
 |cell (k:Option Nat) (n:Nat)
def WC(m:Gu)(k:Option Nat):D->Option D
 | .ptr i o=>match k with
  |none=>m i o
  |some n=>(Ag m i o n).map .agg
 |_=>none
def RV.of(s:Nat->D)(m:Gu):RV->Option D
 | .t n=>some (s n)
 | .cell k n=>WC m k (s n)
def Hm(s:Nat->D)(m:Gu):List RV->Option (List D)
 |[]=>some []
 |r::l=>match r.of s m,Hm s m l with
  |some d,some ds=>some (d::ds)
  |_,_=>none
def CH(rs:List RV)(s:Nat->D)(m:Gu):Option D:=
 match Hm s m rs with
 |some [d]=>some d
 |some ds=>some (.tup ds)
 |none=>none
def I2(P:Program):List ResultVar->Option (List RV)
 |[]=>some []
 | .tmp t::r=>(I2 P r).map (.t t::·)
 | .cell a t::r=>match mC P t,I2 P r with
  |some k,some l=>some (.cell k a::l)
  |_,_=>none
section
variable{P:Program}{B:Nat}{w0 w w':World}{m:Gu}{g:Gh}{s:Nat->D}{a:Act}
def VJ(tmps:Array Value):ResultVar->Sem Value
 | .tmp t=>pure (tmps.getD t undef)
 | .cell a t=>do loadVar t (←asAddr (tmps.getD a undef))
def NB(hi:GD P B w0 m w g)(hs:Dx w g s a):∀{h:List ResultVar} {rs:List RV} {ds:List D},I2 P h=some rs->Hm s m rs=some ds->
  ∃vs:List Value,(h.mapM (m:=Sem) (VJ a.tmps)).run P w= .ok vs w∧vs.length=ds.length∧∀(j:Nat) d v,ds[j]?=some d->vs[j]?=some v->Rep w g d v
 |[],rs,ds,h1,h2=>by
  simp only[I2,Qa]at h1;subst h1;simp only[Hm,Qa]at h2;subst h2;exact⟨[],U,rfl,U⟩
 |x::r,rs,ds,h1,h2=>by
  have z:∃rv f,rs=rv::f∧I2 P r=some f∧∀d,rv.of s m=some d->∃v,(VJ a.tmps x).run P w= .ok v w∧Rep w g d v:=by
   cases x with
   |tmp t=>
    simp only[I2,Qb]at h1;obtain⟨l,hl,rfl⟩:=h1;refine⟨.t t,l,rfl,hl,λd p=>?_⟩;simp only[RV.of,Qa]at p;subst p;exact⟨_,rfl,hs t⟩
   |cell y t=>
    simp only[I2]at h1;split at h1
    ·rename_i k l hk hl;simp only[Qa]at h1;subst h1;refine⟨.cell k y,l,rfl,hl,λd p=>?_⟩;simp only[RV.of]at p;unfold WC at p;split at p
     ·rename_i i o e;have hr:=hs y;rw[e]at hr;obtain⟨b,u,hb⟩:=hr.ptr_inv;split at p
      ·obtain⟨v,c1,c2,c3⟩:=hi.cell hb p;exact⟨v,by simp[VJ,u,asAddr,DF hk c1],c3⟩
      ·rename_i n;rw[Qb]at p;obtain⟨ds,q,rfl⟩:=p;obtain⟨vs,c1,c2⟩:=hi.cells hb q;have hl:=(Bn q).1;have:=Ea (P:=P) (w:=w) hk (ad:=⟨b,o,none⟩) (vs:=vs) (by rw[c1.1,hl]) (λj v hv=>by rw[EE];exact c2 j v hv);exact⟨_,by simp[VJ,u,asAddr,this],aK c1⟩
     ·cases p
    ·cases h1
  obtain⟨rv,f,rfl,hl,hx⟩:=z;unfold Hm at h2;split at h2
  ·rename_i d c u e2;simp only[Qa]at h2;subst h2;obtain⟨v,q1,q2⟩:=hx d u;obtain⟨vs,p1,p2,p3⟩:=NB hi hs hl e2;refine⟨v::vs,?_,by simp[p2],λj d v p hv=>?_⟩
   ·simp_all
   ·grind
  ·cases h2
def VU{n:Func}{rs:List RV}{d:D}(hi:GD P B w0 m w g)(o:Dx w g s a)(i:I2 P n.results.toList=some rs)(p:CH rs s m=some d):
  ∃v,(results n a.tmps).run P w= .ok v w∧Rep w g d v:=by
 unfold CH at p;have run:∀ds,Hm s m rs=some ds->∃vs:List Value,(results n a.tmps).run P w= .ok (if h:vs.toArray.size=1 then vs.toArray[0]else .tuple vs.toArray) w∧vs.length=ds.length∧∀(j:Nat) d v,ds[j]?=some d->vs[j]?=some v->Rep w g d v:=by
  intro ds q;obtain⟨vs,t,c,f⟩:=NB hi o i q;refine⟨vs,?_,c,f⟩;have b:results n a.tmps=(do
   let vs ←n.results.mapM (VJ a.tmps)
   pure (if h:vs.size=1 then vs[0]else .tuple vs)):=by
   unfold results;congr 1
  rw[b];simp only[Sem.run_bind];rw[Zc,Sem.run_map,t];rfl
 split at p
 ·rename_i k e;simp only[Qa]at p;subst p;obtain⟨vs,t,c,f⟩:=run _ e
  match vs,c with
  |[v],_=>exact⟨v,t,f 0 _ v rfl rfl⟩
 ·rename_i ds ga e;simp only[Qa]at p;subst p;obtain⟨vs,t,c,f⟩:=run _ e;refine⟨.tuple vs.toArray,?_,.tup ds vs c f⟩;rw[t,dif_neg];intro u
  match ds,ga,c with
  |[],_,c=>simp at c;subst c;simp at u
  |[x],ga,_=>exact ga x rfl
  |x::y::r,_,c=>simp at c u;omega
 ·cases p
def GD.less(h:GD P B w0 m w g){m':Gu}(x:∀i o d,m' i o=some d->m i o=some d):GD P B w0 m' w g:=by
 refine⟨h.below,h.size,h.gz,h.old,λi b hi=>?_,h.inj,λi o d k c=>h.kind i o d (x _ _ _ k) c,λi e hi=>h.tok i e (x _ _ _ hi),λa i2 j f b y y' u z v h4=>h.tinj a i2 j f b y y' (x _ _ _ u) (x _ _ _ z) v h4,h.itr.to (λi s p e=>x _ _ _ e) λi b s p _ _ _ j f t=>⟨rfl,rfl,f,t⟩⟩;obtain⟨p,q,vs,T,n,r⟩:=h.obj i b hi;exact⟨p,q,vs,T,n,λo d k=>r o d (x _ _ _ k)⟩
def Gh.glue(g:Gh)(w:World)(G':Nat->Nat):Gh:={g with G:=λb=>if b<w.heap.size then g.G b else G' b}
def GR.glue{G':Nat->Nat}(n:∀b,w.heap.size<=b->g.G b=0)(o:Below w.heap.size w w'):GR w g w' (g.glue w G'):=by
 refine⟨λp y=>?_,λb=>?_,λi b h=>h,rfl,λi x h=>h⟩
 ·by_cases r:p.block<w.heap.size
  ·exact o.cell r
  ·simp_all
 ·grind [Gh.glue]
def GD.glue(h:GD P B w0 m w g)(f:Below w.heap.size w w'){G':Nat->Nat}(hG:∀b,w'.heap.size<=b->G' b=0):GD P B w0 m w' (g.glue w G'):=by
 have x:=GR.glue (G':=G') h.gz f;refine⟨h.below.trans (f.mono h.size),QO h.size f.size,λb a=>?_,λb k=>by simp only[Gh.glue];rw[if_pos (QN k h.size)];exact h.old b k,λi b hi=>?_,h.inj,h.kind,λi e hi=>?_,h.tinj,h.itr.to (λ_ _ _ e=>e) λi b s p _ _ _ j y t=>?_⟩
 rotate_right
 ·have k:b<w.heap.size:=(Qf.1 j).1;exact⟨rfl,f.block b k,by simp[Gh.glue,k,y],t⟩
 ·simp only[Gh.glue];rw[if_neg (by have:=f.size;omega)];exact hG b a
 ·obtain⟨p,q,vs,T,u,r⟩:=h.obj i b hi;have k:=h.lt hi;refine⟨p,by simp[Gh.glue,k,q],vs,T,(f.block b k).trans u,λo d z=>?_⟩;obtain⟨v,r1,r2,r3⟩:=r o d z;exact⟨v,r1,r2,r3.ext x⟩
 ·obtain⟨b,n,c,sz,cur,t1,t2,t3,t4,t5,t6,t7,t8,t9,xa⟩:=h.tok i e hi;have k:b<w.heap.size:=(Qf.1 t5).1;exact⟨b,n,c,sz,cur,t1,t2,t3,t4,(f.block b k).trans t5,t6,t7,t8,by simp[Gh.glue,k,t9],xa⟩
end
structure Fn (P:Program) (f:FuncId) (N:Nat) (dc:DC) (rs:List RV):Prop where
 is:∃fn code,P.funcs[f]?=some fn∧fn.body=some code∧(fn.name== "runtime.NumGoroutine")=false∧fn.ntmps=N∧B9 P N code=some dc∧I2 P fn.results.toList=some rs
def Bv(ds:List D):Nat->D:=λt=>ds.getD t .junk
def Ac(F:List D->Option D):G_ where
 rd:=λ_ _=>[]
 ex:=λds _ _=>if(ds.map D.un).all D.calm=true then(F (ds.map D.un)).map λr=>(r,[])else none
def DM(rs:List RV)(R:D->Gu->Prop)(e:Ex)(y:St):Prop:=(e= .normal∨e= .ret)∧∃d,CH rs y.s y.m=some d∧R d y.m
section
variable{P:Program}{S:Gq}{f:FuncId}{N:Nat}{dc:DC}{rs:List RV}
def FU{B:Nat}{w0 w:World}{g:Gh}{ns:Id}{m:Gu}{ds:List D}{vs:List Value}(hS:Gq.ok P S)(hf:Fn P f N dc rs)(hN:ds.length<=N)(hi:GD P B w0 m w g)
  (fa:∀k i,(k::ns)<:+i->BN m g i) (hl:vs.length=ds.length) (c:∀(j:Nat) d v,ds[j]?=some d->vs[j]?=some v->Rep w g d v) {R:D->Gu->Prop}
  (za:dc.wp S ns (DM rs R) ⟨Bv ds,m,0⟩):
  Calls P f vs.toArray w λe s=>∃v d m' g',e= .returned v∧GD P B w0 m' s g'∧GR w g s g'∧Gn ns m g m' g'∧Rep s g' d v∧R d m':=by
 obtain⟨fn,y,u,z,h3,r,h5,h6⟩:=hf.is;obtain⟨e,x,b,a,d,p,hR⟩:=za;refine calls_of_wp u z ?_;rw[r];have la:Holds P B w0 N ns ⟨Bv ds,m,0⟩ {tmps:=vs.toArray++Q9 (N-vs.toArray.size) undef,defers:=[]} w g:=by
  refine⟨hi,λt=>?_,Xb,rfl,λk i _ hs=>fa k i hs⟩;simp only[Bv];by_cases ht:t<ds.length
  ·have e1:ds.getD t .junk=ds[t]:=by simp[Q0,ht]
   have e2:(vs.toArray++Q9 (N-vs.toArray.size) undef).getD t undef=vs[t]' O:=by
    rw[Qh,QH Xb];simp[hl,ht]
   rw[e1,e2];exact c t _ _ (Qc ht) (Qc _)
  ·have e1:ds.getD t .junk= .junk:=by simp[Q0,Qj (Nat.le_of_not_lt ht)]
   rw[e1];exact .junk _
 refine wp_mono (aBe hS y dc h5 _ e x b _ w g la) ?_;rintro e' a' s ⟨rfl,g',hh,q,hk⟩;obtain⟨v,n,l⟩:=VU hh.inv hh.slots h6 p;have o:a'.defers=[]∧∃v,(results fn a'.tmps).run P s= .ok v s∧∃v' d m' g',Ending.returned v= .returned v'∧GD P B w0 m' s g'∧GR w g s g'∧Gn ns m g m' g'∧Rep s g' d v'∧R d m':=
  ⟨hh.defers,v,n,v,d,x.m,g',rfl,hh.inv,q,hk,l,hR⟩
 rcases a with rfl|rfl
 ·exact o
 ·exact o
def AK(hS:Gq.ok P S)(hf:Fn P f N dc rs){F:List D->Option D}(hN:∀ds r,F ds=some r->ds.length<=N)
  (hF:∀ds r,F ds=some r->dc.wp S [] (DM rs λd _=>d.unR=r∧r.calmR=true) ⟨Bv ds,λ_ _=>none,0⟩):(Ac F).ok P f:=by
 obtain⟨fn,y,q,t,h3,h4,h5,h6⟩:=hf.is;refine⟨⟨fn,q,by rw[t];rfl,h3⟩,λds m m' fr _=>rfl,?_⟩;intro B w0 w m g fr ds vs r u hi fa hl c z;simp only[Ac]at z;split at z
 ·rename_i ia;rw[Qb]at z;obtain⟨r',hr,z⟩:=z;simp only[Qd]at z;obtain⟨rfl,rfl⟩:=z
  let g0:Gh:={G:=g.G,G0:=g.G,dl:=λ_=>none,tb:=λ_=>none}
  have va:GD P w.heap.size w (λ_ _=>none) w g0:=
   ⟨Below.refl _ _,Qk _,hi.gz,λ_ _=>rfl,λi b h=>by simp[g0]at h,λi i' b h=>by simp[g0]at h,λi o d h=>Xd,λi e h=>Xd,λi i' e e' b x x' h=>Xd,λi s p h=>Xd,λi i' s p s' p' b x x' h=>Xd⟩
  have n:∀(j:Nat) d v,(ds.map D.un)[j]?=some d->vs[j]?=some v->Rep w g0 d v:=by
   intro j d v hd hv;have hc:=Qy.1 ia d (Qr hd);rw[Qi,Qb]at hd;obtain⟨d',qa,rfl⟩:=hd;exact(c j d' v qa hv).un.calm_to hc (λ_ _=>rfl) (λ_=>Qk _)
  have oa:=FU (B:=w.heap.size) (w0:=w) (w:=w) (g:=g0) (ns:=[]) (m:=λ_ _=>none) (ds:=ds.map D.un) (vs:=vs) hS hf (hN _ _ hr) va (λk i _=>⟨λ_=>rfl,rfl,rfl⟩) Xj n (hF _ _ hr);refine oa.mono ?_;rintro e w' ⟨v,d,m',g',rfl,ka,la,_,ya,rfl,ga⟩;have a:∀b,(g.glue w g'.G).G b=g'.G b:=by
   intro b;simp only[Gh.glue];split
   ·rename_i ea;rw[ka.old b ea,la.G0]
   ·rfl
  refine⟨v,g.glue w g'.G,rfl,hi.glue ka.below ka.gz,GR.glue hi.gz ka.below,?_,λi hf _=>hf⟩;exact ya.unR.calmR_to ga (λ_ _=>rfl) (λb=>by rw[a];exact Qk _)
 ·cases z
def MX(hS:Gq.ok P S)(hf:Fn P f N dc rs){q:G_}(ea:∀ds m m' fr,(∀l∈q.rd ds m,m l.1 l.2=m' l.1 l.2)->q.ex ds m fr=q.ex ds m' fr)
  (hq:∀ds m fr r u,q.ex ds m fr=some (r,u)->(∀k i o,(k::fr)<:+i->m i o=none)->ds.length<=N∧dc.wp S fr (DM rs λd m'=>d=r∧∀i o x,GA.app m u i o=some x->m' i o=some x) ⟨Bv ds,m,0⟩):q.ok P f:=by
 obtain⟨fn,j,h1,h2,y,h4,h5,h6⟩:=hf.is;refine⟨⟨fn,h1,by rw[h2];rfl,y⟩,ea,?_⟩;intro B w0 w m g fr ds vs r u hi p hl c z;have n:∀k i,(k::fr)<:+i->BN m g i:=λk i h=>p i ((ZD k fr).trans h)
 obtain⟨hN,za⟩:=hq ds m fr r u z (λk i o h=>(n k i h).1 o);have oa:=FU (ns:=fr) hS hf hN hi n hl c za;refine oa.mono ?_;rintro e s ⟨v,d,m',g',rfl,ka,b,t,ya,rfl,sa⟩;refine⟨v,g',rfl,ka.less sa,b,ya,λi hf a=>?_⟩;obtain⟨k1,k2,k3⟩:=t i hf a;refine⟨λo=>?_,k2,k3⟩;cases hx:GA.app m u i o with
 |none=>rfl
 |some x=>exact absurd (k1 o) (by rw[sa i o x hx];simp)
end
inductive Tag.{u} {α:Sort u} (a:α):Type
 |mk
def Ao(p K:Prop)(_:Tag K):Prop:=p∧K
def N3(p A B:Prop)(_:Tag (A,B)):Prop:=(p->A)∧(¬p->B)
def GL{α:Type}(o:Option α)(K:α->Prop)(_:Tag K):Prop:=∃x,o=some x∧K x
def aB{p K:Prop}{t:Tag K}(h:p)(k:K):Ao p K t:=⟨h,k⟩
def aG{p A B:Prop}{t:Tag (A,B)}(h:p->A)(k:¬p->B):N3 p A B t:=⟨h,k⟩
def aI{α:Type}{o:Option α}{K:α->Prop}{t:Tag K}{x:α}(h:o=some x)(k:K x):GL o K t:=⟨x,h,k⟩
def S8{K:Prop}{t:Tag K}:Ao True K t=K:=by simp[Ao]
def aAS{A B:Prop}{t:Tag (A,B)}:N3 True A B t=A:=by simp[N3]
def rB{A B:Prop}{t:Tag (A,B)}:N3 False A B t=B:=by simp[N3]
theorem AZ{α:Type}{x:α}{K:α->Prop}{t:Tag K}:GL (some x) K t=K x:=by simp[GL]
def AO{α:Type}{K:α->Prop}{t:Tag K}:GL none K t=False:=by simp[GL]
def Co{α β:Type}{o:Option α}{f:α->β}{K:β->Prop}{t:Tag K}:GL (o.map f) K t=GL o (λx=>K (f x)) .mk:=by
 cases o<;>simp[GL]
def Ee{α:Type}{p:Prop}[Decidable p]{o:Option α}{K:α->Prop}{t:Tag K}:GL (if p then o else none) K t=Ao p (GL o K .mk) .mk:=by
 grind [GL,Ao]
def Fh{α:Type}{p:Prop}[Decidable p]{x:α}{K:α->Prop}{t:Tag K}:GL (if p then some x else none) K t=Ao p (K x) .mk:=by
 grind [GL,Ao]
def aIm{α:Type}{p:Prop}[Decidable p]{o o':Option α}{K:α->Prop}{t:Tag K}:GL (if p then o else o') K t=N3 p (GL o K .mk) (GL o' K .mk) .mk:=by
 grind [GL,N3]
def Lo:D->Bool->(A B:Prop)->Tag (A,B)->Prop
 | .bool b',b,A,B,_=>N3 (b'=b) A B .mk
 | .tup [],_,_,B,_=>B
 |_,_,_,_,_=>False
def PE{d:D}{b:Bool}{A B:Prop}{t:Tag (A,B)}(h:Lo d b A B t):(∃v,d= .bool v∧N3 (v=b) A B .mk)∨(d= .tup []∧B):=by
 cases d with
 |bool v=>exact .inl ⟨v,rfl,h⟩
 |tup l=>cases l with
  |nil=>exact .inr ⟨rfl,h⟩
  |cons _ _=>exact h.elim
 |_=>exact h.elim
def gZ{b:Bool}{A B:Prop}{t:Tag (A,B)}:Lo (.tup []) b A B t=B:=rfl
def Ic{v b:Bool}{A B:Prop}{t:Tag (A,B)}:Lo (.bool v) b A B t=N3 (v=b) A B .mk:=rfl
def Dg(ops:List DOper)(j:Nat):Option Nat:=(ops[j]?).bind (·.dst)
def Ge(s:Nat->D):Option Nat->D
 |some t=>s t
 |none=> .junk
def Cx(s:Nat->D)(t:Nat):Ge s (some t)=s t:=rfl
def Az(S:Gq)(s:Nat->D)(m:Gu)(fr:Id)(op:DOp)(K:D->GA->Prop):Prop:=GL (Aw S s m fr op) (λx=>K x.1 x.2) .mk
def Fz(S:Gq)(ns:Id)(c:Nat)(ops:List DOper):List DOper->Nat->(Nat->D)->Gu->(Nat->(Nat->D)->Gu->Prop)->Prop
 |[],k,s,m,K=>K k s m
 |⟨dst,op,_,none⟩::l,k,s,m,K=>Az S s m ((c+k)::ns) op λd u=>Fz S ns c ops l (k+1) (BG s dst d) (GA.app m u) K
 |⟨dst,op,_,some (j,b)⟩::l,k,s,m,K=>Lo (Ge s (Dg ops j)) b
   (Az S s m ((c+k)::ns) op λd u=>Fz S ns c ops l (k+1) (BG s dst d) (GA.app m u) K)
   (Fz S ns c ops l (k+1) (BG s dst (.tup [])) m K) .mk
section
variable{S:Gq}{ns:Id}
def EC{c:Nat}{ops:List DOper}{K:Nat->(Nat->D)->Gu->Prop}:∀(l:List DOper)(k:Nat)(s:Nat->D)(m:Gu),Fz S ns c ops l k s m K->∃n m',D4 S ns c ops l k s m=some (n,m')∧K (k+l.length) n m'
 |[],k,s,m,h=>⟨s,m,rfl,h⟩
 |⟨dst,op,af,none⟩::l,k,s,m,h=>by
  simp only[Fz,Az,GL]at h;obtain⟨⟨d,u⟩,r,h⟩:=h;obtain⟨n,m',q,z⟩:=EC l _ _ _ h;refine⟨n,m',?_,Xx⟩;simp only[D4,Bz,Bg,r];exact q
 |⟨dst,op,af,some (j,b)⟩::l,k,s,m,h=>by
  simp only[Fz]at h;rcases PE h with ⟨v,e,h⟩|⟨e,h⟩
  rotate_left
  ·have p:Bg ops s ⟨dst,op,af,some (j,b)⟩=some false:=by
    unfold Bg;simp only;unfold Dg at e;cases ho:(ops[j]?).bind (·.dst)with
    |none=>rw[ho]at e;simp[Ge]at e
    |some t=>rw[ho,Cx]at e;simp only[e]
   obtain⟨n,m',q,z⟩:=EC l _ _ _ h;refine⟨n,m',?_,Xx⟩;simp only[D4,Bz,p];exact q
  ·have p:Bg ops s ⟨dst,op,af,some (j,b)⟩=some (v==b):=by
    unfold Bg;simp only;unfold Dg at e;cases ho:(ops[j]?).bind (·.dst)with
    |none=>rw[ho]at e;simp[Ge]at e
    |some t=>rw[ho,Cx]at e;simp only[e]
   by_cases o:v=b
   ·have h:=h.1 o;simp only[Az,GL]at h;obtain⟨⟨d,u⟩,r,h⟩:=h;obtain⟨n,m',q,z⟩:=EC l _ _ _ h;refine⟨n,m',?_,Xx⟩;simp only[D4,Bz,p,o,r,beq_self_eq_true];exact q
   ·have h:=h.2 o;obtain⟨n,m',q,z⟩:=EC l _ _ _ h;refine⟨n,m',?_,Xx⟩;have:(v==b)=false:=by simpa using o
    simp only[D4,Bz,p,this];exact q
def CN{c:Nat}{ops:List DOper}{K:Nat->(Nat->D)->Gu->Prop}:∀(l:List DOper)(k:Nat)(s:Nat->D)(m:Gu)(n:Nat->D)(m':Gu),D4 S ns c ops l k s m=some (n,m')->K (k+l.length) n m'->Fz S ns c ops l k s m K
 |[],k,s,m,n,m',h,hk=>by
  simp only[D4,Qa,Qd]at h;obtain⟨rfl,rfl⟩:=h;exact hk
 |⟨dst,op,af,none⟩::l,k,s,m,n,m',h,hk=>by
  rw[Qo,show k+(l.length+1)=k+1+l.length by omega]at hk;simp only[D4,Bz,Bg]at h;simp only[Fz,Az];cases he:Aw S s m ((c+k)::ns) op with
  |none=>rw[he]at h;cases h
  |some x=>rw[he]at h;exact⟨x,rfl,CN l _ _ _ _ _ h hk⟩
 |⟨dst,op,af,some (j,b)⟩::l,k,s,m,n,m',h,hk=>by
  rw[Qo,show k+(l.length+1)=k+1+l.length by omega]at hk;simp only[D4,Bz,Bg]at h;simp only[Fz];unfold Dg;cases ho:(ops[j]?).bind (·.dst)with
  |none=>rw[ho]at h;cases h
  |some t=>
   rw[ho]at h;rw[Cx];simp only at h;cases hd:s t with
   |bool v=>
    rw[hd]at h;simp only at h;rw[Ic];refine⟨λo=>?_,λo=>?_⟩
    ·subst o;simp only[beq_self_eq_true]at h;cases he:Aw S s m ((c+k)::ns) op with
     |none=>rw[he]at h;cases h
     |some x=>rw[he]at h;exact⟨x,he,CN l _ _ _ _ _ h hk⟩
    ·have:(v==b)=false:=by simpa using o
     rw[this]at h;exact CN l _ _ _ _ _ h hk
   |tup p=>
    rw[hd]at h;cases p with
    |nil=>exact CN l _ _ _ _ _ h hk
    |cons _ _=>cases h
   |_=>rw[hd]at h;cases h
def B2(S:Gq)(ns:Id)(c:Nat)(ops:List DOper):List DOper->Nat->(Nat->D)->Gu->(Nat->(Nat->D)->Gu->List LA->Prop)->Prop
 |[],k,s,m,K=>K k s m []
 |⟨dst,op,_,none⟩::l,k,s,m,K=>Az S s m ((c+k)::ns) op λd u=>B2 S ns c ops l (k+1) (BG s dst d) (GA.app m u) λr n m' f=>K r n m' ((GK S s m op,Ay u)::f)
 |⟨dst,op,_,some (j,b)⟩::l,k,s,m,K=>Lo (Ge s (Dg ops j)) b
   (Az S s m ((c+k)::ns) op λd u=>B2 S ns c ops l (k+1) (BG s dst d) (GA.app m u) λr n m' f=>K r n m' ((GK S s m op,Ay u)::f))
   (B2 S ns c ops l (k+1) (BG s dst (.tup [])) m λr n m' f=>K r n m' ((GK S s m op,[])::f)) .mk
def Du{c:Nat}{ops:List DOper}:∀(l:List DOper)(k:Nat)(s:Nat->D)(m:Gu)(K:Nat->(Nat->D)->Gu->List LA->Prop),B2 S ns c ops l k s m K->∃n m' f,B1 S ns c ops l k s m=some (n,m',f)∧K (k+l.length) n m' f
 |[],k,s,m,K,h=>⟨s,m,[],rfl,h⟩
 |⟨dst,op,af,none⟩::l,k,s,m,K,h=>by
  simp only[B2,Az,GL]at h;obtain⟨⟨d,u⟩,r,h⟩:=h;obtain⟨n,m',f,q,z⟩:=Du l _ _ _ _ h;refine⟨n,m',_,?_,Xx⟩;simp only[B1,Bz,Bg,r,q]
 |⟨dst,op,af,some (j,b)⟩::l,k,s,m,K,h=>by
  simp only[B2]at h;rcases PE h with ⟨v,e,h⟩|⟨e,h⟩
  rotate_left
  ·have p:Bg ops s ⟨dst,op,af,some (j,b)⟩=some false:=by
    unfold Bg;simp only;unfold Dg at e;cases ho:(ops[j]?).bind (·.dst)with
    |none=>rw[ho]at e;simp[Ge]at e
    |some t=>rw[ho,Cx]at e;simp only[e]
   obtain⟨n,m',f,q,z⟩:=Du l _ _ _ _ h;refine⟨n,m',_,?_,Xx⟩;simp only[B1,Bz,p,GA.app,q];simp[Ay]
  ·have p:Bg ops s ⟨dst,op,af,some (j,b)⟩=some (v==b):=by
    unfold Bg;simp only;unfold Dg at e;cases ho:(ops[j]?).bind (·.dst)with
    |none=>rw[ho]at e;simp[Ge]at e
    |some t=>rw[ho,Cx]at e;simp only[e]
   by_cases o:v=b
   ·have h:=h.1 o;simp only[Az,GL]at h;obtain⟨⟨d,u⟩,r,h⟩:=h;obtain⟨n,m',f,q,z⟩:=Du l _ _ _ _ h;refine⟨n,m',_,?_,Xx⟩;simp only[B1,Bz,p,o,r,beq_self_eq_true,q]
   ·have h:=h.2 o;obtain⟨n,m',f,q,z⟩:=Du l _ _ _ _ h;refine⟨n,m',_,?_,Xx⟩;have:(v==b)=false:=by simpa using o
    simp only[B1,Bz,p,this,GA.app,q];simp[Ay]
def Cc{c:Nat}{ops:List DOper}:∀(l:List DOper)(k:Nat)(s:Nat->D)(m:Gu)(K:Nat->(Nat->D)->Gu->List LA->Prop)(n:Nat->D)(m':Gu)(f:List LA),B1 S ns c ops l k s m=some (n,m',f)->K (k+l.length) n m' f->B2 S ns c ops l k s m K
 |[],k,s,m,K,n,m',f,h,hk=>by
  simp only[B1,Qa,Qd]at h;obtain⟨rfl,rfl,rfl⟩:=h;exact hk
 |⟨dst,op,af,none⟩::l,k,s,m,K,n,m',f,h,hk=>by
  rw[Qo,show k+(l.length+1)=k+1+l.length by omega]at hk;simp only[B1,Bz,Bg]at h;simp only[B2,Az];cases he:Aw S s m ((c+k)::ns) op with
  |none=>rw[he]at h;cases h
  |some x=>
   rw[he]at h;obtain⟨d,u⟩:=x;simp only at h;split at h
   ·rename_i i y q e;simp only[Qa,Qd]at h;obtain⟨rfl,rfl,rfl⟩:=h;exact⟨_,rfl,Cc l _ _ _ _ _ _ _ e hk⟩
   ·cases h
 |⟨dst,op,af,some (j,b)⟩::l,k,s,m,K,n,m',f,h,hk=>by
  rw[Qo,show k+(l.length+1)=k+1+l.length by omega]at hk;simp only[B1,Bz,Bg]at h;simp only[B2];unfold Dg;cases ho:(ops[j]?).bind (·.dst)with
  |none=>rw[ho]at h;cases h
  |some t=>
   rw[ho]at h;rw[Cx];simp only at h;cases hd:s t with
   |bool v=>
    rw[hd]at h;simp only at h;rw[Ic];refine⟨λo=>?_,λo=>?_⟩
    ·subst o;simp only[beq_self_eq_true]at h;cases he:Aw S s m ((c+k)::ns) op with
     |none=>rw[he]at h;cases h
     |some x=>
      rw[he]at h;obtain⟨d,u⟩:=x;simp only at h;split at h
      ·rename_i i y q e;simp only[Qa,Qd]at h;obtain⟨rfl,rfl,rfl⟩:=h;exact⟨_,he,Cc l _ _ _ _ _ _ _ e hk⟩
      ·cases h
    ·have:(v==b)=false:=by simpa using o
     rw[this]at h;simp only[GA.app]at h;split at h
     ·rename_i i y q e;simp only[Qa,Qd]at h;obtain⟨rfl,rfl,rfl⟩:=h;exact Cc l _ _ _ _ _ _ _ e hk
     ·cases h
   |tup p=>
    rw[hd]at h;cases p with
    |nil=>
     simp only[GA.app]at h;split at h
     ·rename_i i y q e;simp only[Qa,Qd]at h;obtain⟨rfl,rfl,rfl⟩:=h;exact Cc l _ _ _ _ _ _ _ e hk
     ·cases h
    |cons _ _=>cases h
   |_=>rw[hd]at h;cases h
def aFn(S:Gq)(ns:Id)(b:DC)(Q:Ex->St->Prop):Ex->St->Prop
 | .normal,st=>b.wp S ns Q st
 |e,st=>Q e st
def PX(i:Nat)(Q:Ex->St->Prop):Ex->St->Prop
 | .exit j,st=>if j=i then Q .normal st else Q (.exit j) st
 |e,st=>Q e st
def nG:D->(A B:Prop)->Tag (A,B)->Prop
 | .bool b,A,B,_=>N3 (b=true) A B .mk
 |_,_,_,_=>False
def Lx{b:Bool}{A B:Prop}{t:Tag (A,B)}:nG (.bool b) A B t=N3 (b=true) A B .mk:=rfl
variable{Q:Ex->St->Prop}{st:St}
def VG{b:DC}:aFn S ns b Q .normal st=b.wp S ns Q st:=rfl
def xF{b:DC}:aFn S ns b Q .ret st=Q .ret st:=rfl
def qG{b:DC}{i:Nat}:aFn S ns b Q (.exit i) st=Q (.exit i) st:=rfl
def RK{i:Nat}:PX i Q .normal st=Q .normal st:=rfl
def jF{i:Nat}:PX i Q .ret st=Q .ret st:=rfl
theorem D5{i j:Nat}:PX i Q (.exit j) st=if j=i then Q .normal st else Q (.exit j) st:=rfl
def vY:DC.skip.wp S ns Q st=Q .normal st:=by
 apply propext;exact⟨λ⟨e,x,⟨u,z⟩,h⟩=>X7,λh=>⟨_,_,⟨rfl,rfl⟩,h⟩⟩
def aEU:DC.ret.wp S ns Q st=Q .ret st:=by
 apply propext;exact⟨λ⟨e,x,⟨u,z⟩,h⟩=>X7,λh=>⟨_,_,⟨rfl,rfl⟩,h⟩⟩
def wA{i:Nat}:(DC.exit i).wp S ns Q st=Q (.exit i) st:=by
 apply propext;exact⟨λ⟨e,x,⟨u,z⟩,h⟩=>X7,λh=>⟨_,_,⟨rfl,rfl⟩,h⟩⟩
def aES{a b:DC}:(DC.seq a b).wp S ns Q st=a.wp S ns (aFn S ns b Q) st:=by
 apply propext;constructor
 ·rintro⟨e,x,⟨e1,st1,h1,z⟩,h⟩;refine⟨e1,st1,h1,?_⟩;rcases z with ⟨rfl,z⟩|⟨c,rfl,rfl⟩
  ·exact⟨e,x,z,h⟩
  ·cases e with
   |normal=>exact absurd rfl c
   |ret=>exact h
   |exit i=>exact h
 ·rintro⟨e1,st1,h1,h⟩;cases e1 with
  |normal=>obtain⟨e,x,z,h⟩:=h;exact⟨e,x,⟨.normal,st1,h1,.inl ⟨rfl,z⟩⟩,h⟩
  |ret=>exact⟨.ret,st1,⟨.ret,st1,h1,.inr ⟨U,rfl,rfl⟩⟩,h⟩
  |exit i=>exact⟨.exit i,st1,⟨.exit i,st1,h1,.inr ⟨U,rfl,rfl⟩⟩,h⟩
def pL{i:Nat}{a:DC}(h:a.wp S ns (PX i Q) st):(DC.block i a).wp S ns Q st:=by
 obtain⟨e,x,u,h⟩:=h;cases e with
 |normal=>exact⟨_,x,⟨.normal,u,.inr ⟨U,rfl⟩⟩,h⟩
 |ret=>exact⟨_,x,⟨.ret,u,.inr ⟨U,rfl⟩⟩,h⟩
 |exit j=>
  by_cases q:j=i
  ·rw[D5,if_pos q]at h;exact⟨_,x,⟨.exit j,u,.inl ⟨by rw[q],rfl⟩⟩,h⟩
  ·rw[D5,if_neg q]at h;exact⟨_,x,⟨.exit j,u,.inr ⟨by simp[q],rfl⟩⟩,h⟩
def wB{c:Gz}{a b:DC}(h:nG (c.ev st.s) (a.wp S ns Q st) (b.wp S ns Q st) .mk):(DC.cond c a b).wp S ns Q st:=by
 unfold nG at h;split at h
 ·rename_i t e;cases t with
  |true=>obtain⟨n,x,u,z⟩:=h.1 rfl;exact⟨n,x,.inl ⟨e,u⟩,z⟩
  |false=>obtain⟨n,x,u,z⟩:=h.2 U;exact⟨n,x,.inr ⟨e,u⟩,z⟩
 ·exact h.elim
def aET{ops:List DOper}(h:Fz S ns st.c ops ops 0 st.s st.m λk s m=>Q .normal ⟨s,m,st.c+k⟩):(DC.row ops).wp S ns Q st:=by
 obtain⟨n,m',u,z⟩:=EC _ _ _ _ h;rw[Qu]at z;exact⟨.normal,_,⟨rfl,u,rfl⟩,z⟩
def pK{ops:List DOper}{ps:List (Nat×Nat)}(h:B2 S ns st.c ops ops 0 st.s st.m λk s m f=>Ao (Ls f ps) (Q .normal ⟨s,m,st.c+k⟩) .mk):(DC.drawn ops ps).wp S ns Q st:=by
 obtain⟨n,m',f,u,z⟩:=Du _ _ _ _ _ h;rw[Qu]at z;exact⟨.normal,_,⟨rfl,⟨f,u,z.1⟩,rfl⟩,z.2⟩
def Vk{i:Nat}{a:DC}:(DC.block i a).wp S ns Q st=a.wp S ns (PX i Q) st:=by
 refine propext ⟨?_,pL⟩;rintro⟨e,st',⟨e1,h1,h2⟩,h⟩;refine⟨e1,st',h1,?_⟩;rcases h2 with ⟨rfl,rfl⟩|⟨c,rfl⟩
 ·grind [D5]
 ·cases e with
  |normal=>exact h
  |ret=>exact h
  |exit j=>rw[D5,if_neg (λx=>c (by rw[x]))];exact h
def eI{c:Gz}{a b:DC}:(DC.cond c a b).wp S ns Q st=nG (c.ev st.s) (a.wp S ns Q st) (b.wp S ns Q st) .mk:=by
 refine propext ⟨?_,wB⟩;rintro⟨e,st',u,h2⟩;rcases u with ⟨f,u⟩|⟨f,u⟩
 ·rw[f,Lx];exact ZO (λ_=>⟨e,st',u,h2⟩) (λx=>absurd rfl x)
 ·rw[f,Lx];exact ZO (λ(x:false=true)=>absurd x V) (λ_=>⟨e,st',u,h2⟩)
def pJ{ops:List DOper}:(DC.row ops).wp S ns Q st=Fz S ns st.c ops ops 0 st.s st.m λk s m=>Q .normal ⟨s,m,st.c+k⟩:=by
 refine propext ⟨?_,aET⟩;rintro⟨e,⟨s',m',c'⟩,⟨rfl,h1,h2⟩,h3⟩;refine CN _ _ _ _ _ _ h1 ?_;simp only at h2;rw[Qu,←h2];exact h3
def Vj{ops:List DOper}{ps:List (Nat×Nat)}:(DC.drawn ops ps).wp S ns Q st=B2 S ns st.c ops ops 0 st.s st.m λk s m f=>Ao (Ls f ps) (Q .normal ⟨s,m,st.c+k⟩) .mk:=by
 refine propext ⟨?_,pK⟩;rintro⟨e,⟨s',m',c'⟩,⟨rfl,⟨f,h1,hf⟩,h2⟩,h3⟩;refine Cc _ _ _ _ _ _ _ _ h1 ⟨hf,?_⟩;simp only at h2;rw[Qu,←h2];exact h3
def Wn(S:Gq)(ns:Id)(c:DC)(Q:Ex->St->Prop):Ex->St->Prop
 | .normal,st=>(DC.loop c).wp S ns Q st
 |e,st=>Q e st
def A5(S:Gq)(ns:Id)(c:DC)(Q:Ex->St->Prop)(y:St)(_:Tag (S,ns,c,Q,y)):Prop:=(DC.loop c).wp S ns Q y
def eH{c:DC}:(DC.loop c).wp S ns Q st=A5 S ns c Q st .mk:=rfl
def Ud{c:DC}:Wn S ns c Q .normal st=(DC.loop c).wp S ns Q st:=rfl
def qW{c:DC}:Wn S ns c Q .ret st=Q .ret st:=rfl
def fZ{c:DC}{i:Nat}:Wn S ns c Q (.exit i) st=Q (.exit i) st:=rfl
def vZ{c:DC}(h:c.wp S ns (Wn S ns c Q) st):(DC.loop c).wp S ns Q st:=by
 obtain⟨e,x,u,h⟩:=h;cases e with
 |normal=>obtain⟨f,r,⟨n,z⟩,h⟩:=h;exact⟨f,r,⟨n+1,.more n _ _ _ _ u z⟩,h⟩
 |ret=>exact⟨.ret,x,⟨0,.stop _ _ _ u U⟩,h⟩
 |exit i=>exact⟨.exit i,x,⟨0,.stop _ _ _ u U⟩,h⟩
def LB{g:DC}{p:Ex->St->Prop}(h:g.wp S ns Q st)(j:∀e x,Q e x->p e x):g.wp S ns p st:=by
 obtain⟨e,x,u,z⟩:=h;exact⟨e,x,u,j _ _ z⟩
end
def qE{s:Nat->D}{t x:Nat}{d:D}:BG s (some t) d x=if x=t then d else s x:=rfl
def qF{s:Nat->D}{d:D}:BG s none d=s:=rfl
def bJ{s:Nat->D}{n:Nat}:(Gz.t n).ev s=s n:=rfl
def bK{s:Nat->D}{d:D}:(Gz.c d).ev s=d:=rfl
end Go.Vd
end
