/- A part of the proof; nothing in it is assumed. -/
import Derived.Below
import Derived.Maps.AppendAt
import Derived.Laws.Concat
import Derived.Laws.Unary
import Derived.Laws.StructEq
import Derived.Laws.Runes
import Derived.Laws.AppendOwnNone
import Derived.Lib.ConvBytes
import Derived.Lib.AppendStr
import Derived.Laws.IdiomStrings

set_option linter.unusedSimpArgs false
set_option linter.unusedVariables false
set_option linter.defProp false
set_option maxHeartbeats 4000000
set_option maxRecDepth 100000
open Option.some renaming injEq→Qa,inj→QJ
open Option renaming map_eq_some_iff→Qb,getD_some→QE,map_some→QY,isSome_iff_exists→Zf,bind_eq_some_iff→Zi,bind_some→ZE,map_none→ZG
open List renaming getElem?_eq_getElem→Qc,getElem?_eq_some_iff→Qe,mem_append→Qg,getElem?_map→Qi,getElem?_eq_none→Qj,mem_range→Ql,getElem?_append_left→Qm,mem_cons_self→Qn,length_cons→Qo,getElem?_take_of_lt→Qp,mem_cons_of_mem→Qq,mem_of_getElem?→Qr,map_cons→Qs,range→Qt,mem_map→Qv,getElem?_drop→Qw,mem_of_mem_drop→Qx,all_eq_true→Qy,replicate→Qz,mem_of_mem_take→QB,getElem?_cons_zero→QD,getElem?_append_right→QF,getElem?_toArray→QI,append_assoc→QK,eq_nil_of_length_eq_zero→QM,range_eq_range'→QR,length_take→QT,extract_eq_take_drop→QV,map_congr_left→QX,length_map→QZ,mem_singleton→Q_,getD→Q0,getElem_mem→Q1,cons_append→Q2,range'_succ→Q3,mem_flatMap→Q5,filter_cons→Q6,extract_toArray→Q7,foldl_cons→Q8,getElem_of_mem→Za,flatMap_cons→Zd,getElem?_cons_succ→Zg,map_nil→Zk,nil_append→Zl,mem_filter→Zm,contains_iff_mem→Zn,drop_drop→Zo,range'→Zp,getElem?_range→Zq,length_take_le→Zr,getElem?_take→Zt,length_append→Zu,size_toArray→Zy,ext_getElem?→Zz,map_toArray→ZB,suffix_cons→ZD,length→ZL,foldlM→ZN
open Prod.mk renaming injEq→Qd
open Array renaming getElem?_eq_some_iff→Qf,getD_eq_getD_getElem?→Qh,toArray_toList→QC,getElem?_append_left→QH,toList_map→QL,length_toList→QW,toList_inj→Q4,replicate→Q9,mapM_eq_mapM_toList→Zc,size_append→Zx,all_eq_true→ZA,range→ZM
open Nat renaming le_refl→Qk,zero_add→Qu,mul_le_mul_right→QA,lt_of_lt_of_le→QN,le_trans→QO,add_mul→QQ,add_right_cancel_iff→Ze,add_zero→Zj,lt_or_ge→Zv,succ_mul→Zw,le_add_right→ZC,zero_le→ZF,strongRecOn→ZI,mod_lt→ZJ,mul_comm→ZK
open Bool renaming false_eq_true→QG,or_eq_true→QP,or_eq_false_iff→QS,and_eq_true→QU,not_false→Zb,not_true→Zs
open Int renaming eq_ofNat_of_zero_le→Zh
open List.cons renaming injEq→ZH
open And renaming intro→ZO
noncomputable section
namespace Go
def O{P:Prop}(h:P:=by omega):P:=h
def U{P:Prop}(h:P:=by simp):P:=h
def V{P:Prop}(h:P:=by decide):P:=h
def Xa{P:Prop}(h:P:=by kernel_rfl):P:=h
def Xb{P:Prop}(h:P:=by first|omega|(simp only;omega)):P:=h
def Xc{P:Prop}(h:P:=by simp;omega):P:=h
def Xd{P:Prop}(h:P:=by cases h):P:=h
def Xe{P:Prop}(h:P:=by simp at h):P:=h
def Xf{P:Prop}(h:P:=by first|(simp;done)|(simp;omega)):P:=h
def Xg{P:Prop}(h:P:=by simp only[Tr.wgt];omega):P:=h
def Xh{P:Prop}(h:P:=by simp only[Tr.cnt];omega):P:=h
def Xi{P:Prop}(h:P:=by rw[GZ (by omega) (by omega)];omega):P:=h
def Xj{P:Prop}(h:P:=by decide+kernel):P:=h
def Xk{P:Prop}(h:P:=by cases t<;>rfl):P:=h
def Xl{P:Prop}(h:P:=by simpa using hl):P:=h
def Xm{P:Prop}(h:P:=by intro e h;cases h):P:=h
def Xn{P:Prop}(h:P:=by simp[Gh.tok]):P:=h
def Xo{P:Prop}(h:P:=by simp[AO]):P:=h
def Xp{P:Prop}(h:P:=by simpa using h):P:=h
def Xq{P:Prop}(h:P:=by unfold maxLen;omega):P:=h
def Xr{P:Prop}(h:P:=by cases g):P:=h
def Xs{P:Prop}(h:P:=by simp[Op.equalIn,run_underlying z]):P:=h
def Xt{P:Prop}(h:P:=by simp only[r];omega):P:=h
def Xu{P:Prop}(h:P:=by simpa using u):P:=h
def Xv{P:Prop}(h:P:=by cases e):P:=h
def Xw{P:Prop}(h:P:=by simpa using q):P:=h
def Xx{P:Prop}(h:P:=by rw[List.length_cons,show k+(l.length+1)=k+1+l.length by omega];exact y):P:=h
def Xy{P:Prop}(h:P:=by first|rfl|simp):P:=h
def Xz{P:Prop}(h:P:=by simp[sc0]):P:=h
def XA{P:Prop}(h:P:=by simp only[Option.some.injEq]at h;subst h;exact⟨rfl,by simp⟩):P:=h
def XB{P:Prop}(h:P:=by rw[←hA,e1];simp):P:=h
def XC{P:Prop}(h:P:=by rw[List.length_take];omega):P:=h
def XD{P:Prop}(h:P:=by rw[AQ];omega):P:=h
def XE{P:Prop}(h:P:=by cases q):P:=h
def XF{P:Prop}(h:P:=by cases l<;>rfl):P:=h
def XG{P:Prop}(h:P:=by cases h;rfl):P:=h
def XH{P:Prop}(h:P:=by simp[flat]):P:=h
def XI{P:Prop}(h:P:=by rw[y];rfl):P:=h
def XJ{P:Prop}(h:P:=by rw[BH,AX];exact⟨rfl,hl⟩):P:=h
def XK{P:Prop}(h:P:=by simpa using z):P:=h
def XL{P:Prop}(h:P:=by simpa using w):P:=h
def XN{P:Prop}(h:P:=by simpa using p):P:=h
def XO{P:Prop}(h:P:=by simpa using hi):P:=h
def XP{P:Prop}(h:P:=by simpa using a):P:=h
def XQ{P:Prop}(h:P:=by simp[Lib.join]):P:=h
def XS{P:Prop}(h:P:=by simp[Gh.base]at h):P:=h
def XT{P:Prop}(h:P:=by simp[GB.put]):P:=h
def XU{P:Prop}(h:P:=by simp[ByteArray.size]):P:=h
def XV{P:Prop}(h:P:=by simp[AR,AB,GS,Ai,Ac,GE.ev,Cp,h9,v,o,i]):P:=h
def XX{P:Prop}(h:P:=by simp only[Az,Aw];rw[Cy]):P:=h
def XY{P:Prop}(h:P:=by simp only[AG];decide):P:=h
def XZ{P:Prop}(h:P:=by show _=_;rw[←HI.out,d.out]):P:=h
def X0{P:Prop}(h:P:=by rw[←hB,e2]):P:=h
def X1{P:Prop}(h:P:=by rw[w.int_inv]):P:=h
def X2{P:Prop}(h:P:=by rw[show l.length=j by omega];exact I):P:=h
def X3{P:Prop}(h:P:=by rw[List.mem_singleton.1 n];decide):P:=h
def X4{P:Prop}(h:P:=by rw[List.length_drop];omega):P:=h
def X5{P:Prop}(h:P:=by rw[List.all_eq_true];intro x q;obtain⟨y,_,rfl⟩:=List.mem_map.1 q;rfl):P:=h
def X6{P:Prop}(h:P:=by first|exact hG.more (by simp only;omega)|exact hG.put.more (by simp only;omega)|exact hG.put.put.more (by simp only;omega)|exact hG.put.put.put.more (by simp only;omega)|exact hG.put.put.put.put.more (by simp only;omega)|exact hG.put.put.put.put.put.more (by simp only;omega)):P:=h
def X7{P:Prop}(h:P:=by subst u y;exact h):P:=h
def X8{P:Prop}(h:P:=by simp[execOp,hop,e1]):P:=h
def X9{P:Prop}(h:P:=by simp[World.cell?,F0]):P:=h
def X_{P:Prop}(h:P:=by simp[Builtin.lenOf]):P:=h
def Ya{P:Prop}(h:P:=by simp only[];rw[DY,if_pos ⟨rfl,rfl⟩]):P:=h
def Yb{P:Prop}(h:P:=by simp only[List.length_cons]at h;omega):P:=h
def Yc{P:Prop}(h:P:=by show _=_;rw[←HI.out,d.out];simp):P:=h
def Yd{P:Prop}(h:P:=by rw[ka];exact h.size):P:=h
def Ye{P:Prop}(h:P:=by rw[ka];exact h.below.size):P:=h
def Yf{P:Prop}(h:P:=by rw[e];exact List.suffix_refl _):P:=h
def Yg{P:Prop}(h:P:=by rw[e];exact List.suffix_cons _ _):P:=h
def Yh{P:Prop}(h:P:=by rw[List.length_append,y,s];decide):P:=h
def Yi{P:Prop}(h:P:=by rw[IntWalk.i64_in _ ⟨by omega,by omega⟩];simp):P:=h
def Yj{P:Prop}(h:P:=by rw[Bool.eq_iff_iff];simp;omega):P:=h
def Yk{P:Prop}(h:P:=by have:=j.ok.pa;omega):P:=h
def Yl{P:Prop}(h:P:=by have:=ha.ok.tk;omega):P:=h
def Ym{P:Prop}(h:P:=by have:=ha.ok.rl;omega):P:=h
def Yn{P:Prop}(h:P:=by have:=h.size;simp;omega):P:=h
def Yo{P:Prop}(h:P:=by have:=h.1;have:=h.2;omega):P:=h
def Yp{P:Prop}(h:P:=by funext j;simp[below]):P:=h
def Yq{P:Prop}(h:P:=by first|exact hG.grow|exact(hG.put (by omega)).grow|exact((hG.put (by omega)).put (by omega)).grow|exact(((hG.put (by omega)).put (by omega)).put (by omega)).grow|exact((((hG.put (by omega)).put (by omega)).put (by omega)).put (by omega)).grow|exact(((((hG.put (by omega)).put (by omega)).put (by omega)).put (by omega)).put (by omega)).grow):P:=h
def Yr{P:Prop}(h:P:=by first|exact hG.grow|exact hG.put.grow|exact hG.put.put.grow|exact hG.put.put.put.grow|exact hG.put.put.put.put.grow|exact hG.put.put.put.put.put.grow):P:=h
def Ys{P:Prop}(h:P:=by unfold N3;rw[List.length_append,List.length_take,List.length_drop];omega):P:=h
def Yt{P:Prop}(h:P:=by simpa using (List.mem_filter.1 q).2):P:=h
def Yu{P:Prop}(h:P:=by simp[List.map_map,Function.comp_def]):P:=h
def Yv{P:Prop}(h:P:=by simp[IntKind.wrap,IntKind.bits,IntKind.signed]):P:=h
def Yw{P:Prop}(h:P:=by simp only[↓C2,reduceIte,Nat.reduceEqDiff,x]):P:=h
def Yx{P:Prop}(h:P:=by simp only[iI,D.dep.D.depL,D.dep,IE];omega):P:=h
def Yy{P:Prop}(h:P:=by simp only[List.length_singleton];omega):P:=h
def Yz{P:Prop}(h:P:=by simp only[List.length_cons,List.length_nil];omega):P:=h
def YA{P:Prop}(h:P:=by simp only[List.length_append,List.length_cons,List.length_nil];omega):P:=h
def YB{P:Prop}(h:P:=by simp only[List.length_append,Ci,O7];omega):P:=h
def YC{P:Prop}(h:P:=by show(0:Int)<=((LA (Bv x 58).2.1).1:Int);omega):P:=h
def YD{P:Prop}(h:P:=by rw[List.length_take,List.length_drop];omega):P:=h
def YE{P:Prop}(h:P:=by rw[List.eq_of_mem_replicate hd];exact f):P:=h
def YF{P:Prop}(h:P:=by rw[IntWalk.i64_in _ ⟨by omega,by omega⟩];omega):P:=h
def YG{P:Prop}(h:P:=by rw[Dj,Fo];have:=m (by omega);omega):P:=h
def YH{P:Prop}(h:P:=by rw[Dj,Fo];have:=h7 (by omega);omega):P:=h
def YI{P:Prop}(h:P:=by rw[Ar,List.map_map];exact List.map_congr_left λ_ _=>rfl):P:=h
def YJ{P:Prop}(h:P:=by rintro rfl;rw[hf.1 0]at hm;cases hm):P:=h
def YK{P:Prop}(h:P:=by have:=(six[k]?.getD 0).toNat_lt;omega):P:=h
def YL{P:Prop}(h:P:=by first|exact(hG.put.put.row (by omega) ht).grow|exact((hG.put.put.row (by omega) ht).put).grow):P:=h
def YM{P:Prop}(h:P:=by first|exact(hG.put.put.row (by omega) ht).app (by omega) (by simp only;omega)|exact((hG.put.put.row (by omega) ht).put).app (by omega) (by simp only;omega)):P:=h
def YN{P:Prop}(h:P:=by first|exact hG.app (by omega) (by simp only;omega)|exact(hG.put (by omega)).app (by omega) (by simp only;omega)|exact((hG.put (by omega)).put (by omega)).app (by omega) (by simp only;omega)|exact(((hG.put (by omega)).put (by omega)).put (by omega)).app (by omega) (by simp only;omega)|exact((((hG.put (by omega)).put (by omega)).put (by omega)).put (by omega)).app (by omega) (by simp only;omega)|exact(((((hG.put (by omega)).put (by omega)).put (by omega)).put (by omega)).put (by omega)).app (by omega) (by simp only;omega)):P:=h
def YO{P:Prop}(h:P:=by first|exact hG.app (by omega) (by simp only;omega)|exact hG.put.app (by omega) (by simp only;omega)|exact hG.put.put.app (by omega) (by simp only;omega)|exact hG.put.put.put.app (by omega) (by simp only;omega)|exact hG.put.put.put.put.app (by omega) (by simp only;omega)|exact hG.put.put.put.put.put.app (by omega) (by simp only;omega)):P:=h
def YP{P:Prop}(h:P:=by cases y<;>exact⟨_,_,_,_,_,_,_,_,_,_,rfl⟩):P:=h
def YQ{P:Prop}(h:P:=by cases l with|nil=>exact absurd rfl fa|cons a b=>simp):P:=h
def YR{P:Prop}(h:P:=by first|rfl|exact⟨rfl,rfl⟩|simp[*]):P:=h
def YS{P:Prop}(h:P:=by first|rfl|exact⟨rfl,rfl⟩):P:=h
def YT{P:Prop}(h:P:=by first|exact(FB.set ((hR.other (by first|(simp;done)|(simp;omega))).other (by first|(simp;done)|(simp;omega)))).grow (by first|(simp;done)|(simp;omega)) (λh e=>ht h e.symm)|exact((FB.set ((hR.other (by first|(simp;done)|(simp;omega))).other (by first|(simp;done)|(simp;omega)))).other (by first|(simp;done)|(simp;omega))).grow (by first|(simp;done)|(simp;omega)) (λh e=>ht h e.symm)):P:=h
def YU{P:Prop}(h:P:=by first|(simp at h;done)|(rw[Option.map_eq_some_iff]at h;obtain⟨_,_,h⟩:=h;cases h)):P:=h
def YV{P:Prop}(h:P:=by exact⟨rfl,rfl⟩):P:=h
end Go
namespace Go.Vd
open Go.RowKit
abbrev Id:=List Nat
inductive D where
 |junk
 |bool (b:Bool)
 |int (k:IntKind) (n:Int)
 |str (s:List UInt8)
 |slice (nl:Bool) (t:Id) (xs:List D)
 |ptr (i:Id) (o:Nat)
 |eptr (ds:List D)
 |row (i:Id) (n:Nat)
 |nilptr
 |agg (cs:List D)
 |tup (vs:List D)
 |iface (t:TypeId) (d:D)
 |nilIface
 |fn (f:FuncId) (caps:List D)
 |nilFunc
 |nilMap
 |tok (e:Nat)
 |it (s:List UInt8) (p:Nat)
 |itp (i:Id)
instance:Inhabited D:=⟨.junk⟩
def D.leaf:D->Bool
 | .agg _| .tup _| .junk| .tok _| .it _ _=>false
 |_=>true
def D.gh:D->Bool
 | .tok _| .it _ _=>true
 |_=>false
def D.isRw:D->Bool
 | .nilIface| .str []=>true
 |_=>false
def D.cells:D->List D
 | .agg cs=>cs
 |d=>[d]
def D.un1:D->D
 | .slice nl _ xs=> .slice nl [] xs
 |d=>d
def D.un:D->D
 | .agg cs=> .agg (cs.map D.un1)
 | .slice nl _ xs=> .slice nl [] xs
 |d=>d
def D.calm1:D->Bool
 | .slice _ t _=>t.isEmpty
 | .ptr _ _| .row _ _| .itp _| .it _ _=>false
 | .fn _ cs=>cs.isEmpty
 | .agg _| .tup _=>false
 |_=>true
def D.calm:D->Bool
 | .agg cs=>cs.all D.calm1
 |d=>d.calm1
def flat:List D->List D
 |[]=>[]
 |x::xs=>x.cells++flat xs
structure Gh where
 G:Nat->Nat
 G0:Nat->Nat
 dl:Id->Option Nat
 tb:Id->Option (Nat×Nat×Nat×Nat)
inductive Rep (w:World) (g:Gh):D->Value->Prop
 |junk (v:Value):Rep w g .junk v
 |bool (b:Bool):Rep w g (.bool b) (.bool b)
 |int (k:IntKind) (n:Int):Rep w g (.int k n) (.int k n)
 |str (s:List UInt8):Rep w g (.str s) (.string ⟨s.toArray⟩)
 |nils (t:Id):Rep w g (.slice true t []) (.slice none 0 0)
 |slice (t:Id) (xs:List D) (a:Addr) (n c sz:Nat) (vv:Nat->Value):
   n=xs.length->n<=c->(∀d∈xs,d.cells.length=sz)->
   (∀j,j<n*sz->w.cell? (a.add j)=some (vv j))->
   (∀j,j<n*sz->(vv j).oneCell'=true)->
   (∀(j:Nat) d,(flat xs)[j]?=some d->Rep w g d (vv j))->
   (0<n*sz->a.off+n*sz<=g.G a.block)->
   (t≠[]->a.off=0∧a.spot=none∧g.tb t=some (a.block,n,c,sz))->(∀d∈xs,d.calm=true)->
   Rep w g (.slice false t xs) (.slice (some a) n c)
 |ptr (i:Id) (o b:Nat):g.dl i=some b->Rep w g (.ptr i o) (.pointer (some ⟨b,o,none⟩))
 |row (i:Id) (n c b:Nat):n<=c->g.dl i=some b->Rep w g (.row i n) (.slice (some ⟨b,0,none⟩) n c)
 |eptr (ds:List D) (a:Addr) (vv:Nat->Value):
   (∀j,j<ds.length->w.cell? (a.add j)=some (vv j))->
   (∀j,j<ds.length->(vv j).oneCell'=true)->
   (∀(j:Nat) d,ds[j]?=some d->Rep w g d (vv j))->
   (0<ds.length->a.off+ds.length<=g.G a.block)->(∀d∈ds,d.calm=true)->
   Rep w g (.eptr ds) (.pointer (some a))
 |nilp:Rep w g .nilptr (.pointer none)
 |agg (ds:List D) (vs:List Value):vs.length=ds.length->(∀v∈vs,v.oneCell'=true)->
   (∀(j:Nat) d v,ds[j]?=some d->vs[j]?=some v->Rep w g d v)->Rep w g (.agg ds) (.agg vs.toArray)
 |tup (ds:List D) (vs:List Value):vs.length=ds.length->
   (∀(j:Nat) d v,ds[j]?=some d->vs[j]?=some v->Rep w g d v)->Rep w g (.tup ds) (.tuple vs.toArray)
 |iface (t:TypeId) (d:D) (v:Value):d.calm=true->Rep w g d v->Rep w g (.iface t d) (.iface t v)
 |nili:Rep w g .nilIface .nilIface
 |fn (f:FuncId) (ds:List D) (vs:List Value):vs.length=ds.length->
   (∀(j:Nat) d v,ds[j]?=some d->vs[j]?=some v->Rep w g d v)->Rep w g (.fn f ds) (.func (.func f) #[] vs.toArray)
 |nilf:Rep w g .nilFunc .nilFunc
 |nilm:Rep w g .nilMap (.map none)
 |itp (i:Id) (b:Nat):g.tb i=some (b,0,0,0)->Rep w g (.itp i) (.pointer (some ⟨b,0,none⟩))
structure GY (w:World) (g:Gh) (w':World) (g':Gh):Prop where
 cell:∀p:Addr,p.off<g.G p.block->w'.cell? p=w.cell? p
 G:∀b,g.G b<=g'.G b
 dl:∀i b,g.dl i=some b->g'.dl i=some b
 G0:g'.G0=g.G0
 tb:∀i x,g.tb i=some x->g'.tb i=some x
def GY.refl(w:World)(g:Gh):GY w g w g:=⟨λ_ _=>rfl,λ_=>Qk _,λ_ _ h=>h,rfl,λ_ _ h=>h⟩
theorem GY.trans {w c q : World} {g a f : Gh} (h : GY w g c a) (k : GY c a q f) : GY w g q f :=
 ⟨fun p y => (k.cell p (QN y (h.G _))).trans (h.cell p y), fun b => QO (h.G b) (k.G b),
  fun i b hi => k.dl i b (h.dl i b hi), k.G0.trans h.G0, fun i x hi => k.tb i x (h.tb i x hi)⟩
def Dj(a:Addr)(j:Nat):(a.add j).block=a.block:=by unfold Addr.add;split<;>rfl
def Fo(a:Addr)(j:Nat):(a.add j).off=a.off+j:=by unfold Addr.add;split<;>simp_all
theorem add_add(a:Addr)(i j:Nat):(a.add i).add j=a.add (i+j):=by
 unfold Addr.add;by_cases hi:i=0<;>by_cases u:j=0<;>simp[hi,u,Nat.add_assoc]
def Rep.ext{w w':World}{g g':Gh}{d:D}{v:Value}(h:Rep w g d v)(x:GY w g w' g'):Rep w' g' d v:=by
 induction h with
 |junk v=>exact .junk v
 |bool b=>exact .bool b
 |int k n=>exact .int k n
 |str s=>exact .str s
 |nils t=>exact .nils t
 |slice t xs a n c sz vv u y h3 m h5 _ h7 h8 h9 ih=>
  refine .slice t xs a n c sz vv u y h3 (λj z=>?_) h5 ih (λh=>QO (h7 h) (x.G _)) (λht=>?_) h9
  ·rw[x.cell _ YH];exact m j z
  ·obtain⟨p,q,r⟩:=h8 ht;exact⟨p,q,x.tb _ _ r⟩
 |ptr i o b u=>exact .ptr i o b (x.dl _ _ u)
 |row i n c b e u=>exact .row i n c b e (x.dl _ _ u)
 |eptr ds a vv u y _ m h5 ih=>
  refine .eptr ds a vv (λj z=>?_) y ih (λh=>QO (m h) (x.G _)) h5;rw[x.cell _ YG];exact u j z
 |nilp=>exact .nilp
 |agg ds vs u y _ ih=>exact .agg ds vs u y ih
 |tup ds vs u _ ih=>exact .tup ds vs u ih
 |iface t d v u _ ih=>exact .iface t d v u ih
 |nili=>exact .nili
 |fn f ds vs u _ ih=>exact .fn f ds vs u ih
 |nilf=>exact .nilf
 |nilm=>exact .nilm
 |itp i b u=>exact .itp i b (x.tb _ _ u)
def Rep.leaf_one{w:World}{g:Gh}{d:D}{v:Value}(h:Rep w g d v)(hl:d.leaf=true):v.oneCell'=true:=by
 cases h<;>simp_all [D.leaf,Value.oneCell']
abbrev GB:=Id->Nat->Option D
def oO(B:Nat)(m:GB)(w:World)(g:Gh):Prop:=
 (∀i s p,m i 1=some (.it s p)->∃b,g.tb i=some (b,0,0,0)∧B<=b∧w.heap[b]?=some (.stringIter ⟨s.toArray⟩ p)∧g.G b=0∧∀z,g.dl z≠some b)∧
 ∀i z s p r u b x k,m i 1=some (.it s p)->m z 1=some (.it r u)->g.tb i=some (b,x)->g.tb z=some (b,k)->i=z
theorem oO.to {B : Nat} {m m' : GB} {w v : World} {g a : Gh} (h : oO B m w g) (t : ∀ i s p, m' i 1 = some (.it s p) → m i 1 = some (.it s p))
  (f : ∀ i b s p, m i 1 = some (.it s p) → g.tb i = some (b, 0, 0, 0) → B ≤ b → w.heap[b]? = some (.stringIter ⟨s.toArray⟩ p) → g.G b = 0 → (∀ z, g.dl z ≠ some b) →
   a.tb i = g.tb i ∧ v.heap[b]? = w.heap[b]? ∧ a.G b = 0 ∧ ∀ z, a.dl z ≠ some b) : oO B m' v a := by
 refine ⟨fun i s p hi => ?_, fun i z s p r p' b x x' u y o n => ?_⟩
 ·obtain ⟨b, j, k, t3, t4, t5⟩ := h.1 i s p (t _ _ _ hi)
  obtain ⟨e, q, q3, q4⟩ := f i b s p (t _ _ _ hi) j k t3 t4 t5
  exact ⟨b, e.trans j, k, q.trans t3, q3, q4⟩
 ·obtain ⟨c, j, k, t3, t4, t5⟩ := h.1 i s p (t _ _ _ u)
  obtain ⟨c', u1, u2, u3, u4, u5⟩ := h.1 z r p' (t _ _ _ y)
  rw [(f i c s p (t _ _ _ u) j k t3 t4 t5).1] at o
  rw [(f z c' r p' (t _ _ _ y) u1 u2 u3 u4 u5).1] at n
  exact h.2 i z s p r p' b x x' (t _ _ _ u) (t _ _ _ y) o n
structure GJ (P:Program) (B:Nat) (w0:World) (m:GB) (w:World) (g:Gh):Prop where
 below:Below B w0 w
 size:B<=w.heap.size
 gz:∀b,w.heap.size<=b->g.G b=0
 old:∀b,b<B->g.G b=g.G0 b
 obj:∀i b,g.dl i=some b->B<=b∧g.G b=0∧∃vs T,w.heap[b]?=some (.cells vs T (0,0))∧
  ∀o d,m i o=some d->∃v,vs[o]?=some v∧v.oneCell'=true∧Rep w g d v
 inj:∀i i' b,g.dl i=some b->g.dl i'=some b->i=i'
 kind:∀i o d,m i o=some d->g.dl i=none->d.gh=true
 tok:∀i e,m i 0=some (.tok (e+1))->∃b n c sz cur,g.tb i=some (b,n,c,sz)∧B<=b∧0<sz∧
  (∃t z,P.info? e=some t∧t.size=sz∧t.zero=some z∧z.cells.size=sz)∧
  w.heap[b]?=some (.cells cur e (0,0))∧n<=c∧c<=maxLen∧cur.size=c*sz∧g.G b=n*sz∧∀i',g.dl i'≠some b
 tinj:∀i i' e e' b x x',m i 0=some (.tok (e+1))->m i' 0=some (.tok (e'+1))->g.tb i=some (b,x)->g.tb i'=some (b,x')->i=i'
 itr:oO B m w g
def BU(m:GB)(g:Gh)(i:Id):Prop:=(∀o,m i o=none)∧g.dl i=none∧g.tb i=none
def GB.put(m:GB)(i:Id)(o:Nat)(ds:List D):GB:=λz o'=>if z=i∧o<=o'∧o'<o+ds.length then ds[o'-o]? else m z o'
theorem aA{m:GB}{i z:Id}{o o':Nat}{ds:List D}(h:z≠i):m.put i o ds z o'=m z o':=by simp[GB.put,h]
def aE{m:GB}{i:Id}{o j:Nat}{ds:List D}(h:j<ds.length):m.put i o ds i (o+j)=ds[j]?:=by
 grind [GB.put]
theorem aD{m:GB}{i:Id}{o o':Nat}{ds:List D}(h:¬(o<=o'∧o'<o+ds.length)):m.put i o ds i o'=m i o':=by
 grind [GB.put]
def AW(w:World)(g:Gh)(ds:List D)(vs:List Value):Prop:=
 vs.length=ds.length∧(∀v∈vs,v.oneCell'=true)∧∀(j:Nat) d v,ds[j]?=some d->vs[j]?=some v->Rep w g d v
def AW.ext{w i:World}{g a:Gh}{ds:List D}{vs:List Value}(h:AW w g ds vs)(x:GY w g i a):AW i a ds vs:=
 ⟨h.1,h.2.1,λj d v p m=>(h.2.2 j d v p m).ext x⟩
def AW.no_it{w:World}{g:Gh}{ds:List D}{vs:List Value}(h:AW w g ds vs){j:Nat}{s:List UInt8}{p:Nat}(u:ds[j]?=some (.it s p)):False:=by
 have hl:j<vs.length:=by rw[h.1];exact(Qe.1 u).1
 have:=h.2.2 j _ vs[j] u (Qc hl);cases this
def xT{w:World}{g:Gh}{m:GB}{ds:List D}{vs:List Value}(h:AW w g ds vs){i z:Id}{o:Nat}{s:List UInt8}{p:Nat}(u:m.put i o ds z 1=some (.it s p)):m z 1=some (.it s p)∧(z=i->¬(o<=1∧1<o+ds.length)):=by
 unfold GB.put at u;split at u
 ·exact(h.no_it u).elim
 ·simp_all
theorem AW.nil(w:World)(g:Gh):AW w g [] []:=⟨rfl,U,U⟩
def AW.one{w:World}{g:Gh}{d:D}{v:Value}(h:Rep w g d v)(hl:v.oneCell'=true):AW w g [d] [v]:=by
 refine⟨rfl,Xl,λj n s p x=>?_⟩;cases j with
 |zero=>simp at p x;subst p x;exact h
 |succ j=>simp at p
def AW.append{w:World}{g:Gh}{ds c:List D}{vs i:List Value}(h:AW w g ds vs)(k:AW w g c i):AW w g (ds++c) (vs++i):=by
 refine⟨by simp[h.1,k.1],λv hv=>?_,λj d v p hv=>?_⟩
 ·rcases Qg.1 hv with hv|hv
  ·exact h.2.1 v hv
  ·exact k.2.1 v hv
 ·by_cases u:j<ds.length
  ·rw[Qm u]at p;rw[Qm (by rw[h.1];exact u)]at hv;exact h.2.2 j d v p hv
  ·rw[QF O]at p;rw[QF (by rw[h.1];omega),h.1]at hv;exact k.2.2 _ d v p hv
section
variable{P:Program}{B:Nat}{w0 w w':World}{m:GB}{g g':Gh}
def GJ.lt(h:GJ P B w0 m w g){i:Id}{b:Nat}(f:g.dl i=some b):b<w.heap.size:=by
 obtain⟨_,_,vs,T,y,_⟩:=h.obj i b f;exact(Qf.1 y).1
def Gh.over(g:Gh)(w i:World):Gh:=
 {g with G:=λb=>if b<w.heap.size then g.G b else match i.heap[b]? with|some (.cells c _ _)=>c.size|_=>0}
def GY.over(n:∀b,w.heap.size<=b->g.G b=0)(m:Below w.heap.size w w'):GY w g w' (g.over w w'):=by
 refine⟨λp k=>?_,λb=>?_,λi b h=>h,rfl,λi x h=>h⟩
 ·by_cases y:p.block<w.heap.size
  ·exact m.cell y
  ·simp_all
 ·grind [Gh.over]
def GJ.over(h:GJ P B w0 m w g)(f:Below w.heap.size w w'):GJ P B w0 m w' (g.over w w'):=by
 have x:=GY.over h.gz f;refine⟨h.below.trans (f.mono h.size),QO h.size f.size,λb a=>?_,λb y=>by simp only[Gh.over];rw[if_pos (QN y h.size)];exact h.old b y,λi b hi=>?_,h.inj,h.kind,λi e hi=>?_,h.tinj,h.itr.to (λ_ _ _ e=>e) λi b s p _ _ _ j z e3=>?_⟩
 rotate_right
 ·have y:b<w.heap.size:=(Qf.1 j).1;exact⟨rfl,f.block b y,by simp[Gh.over,y,z],e3⟩
 ·simp only[Gh.over];rw[if_neg (by have:=f.size;omega),Array.getElem?_eq_none a]
 ·obtain⟨p,q,vs,T,k,r⟩:=h.obj i b hi;have y:=h.lt hi;refine⟨p,by simp[Gh.over,y,q],vs,T,(f.block b y).trans k,λo d u=>?_⟩;obtain⟨v,t,r2,r3⟩:=r o d u;exact⟨v,t,r2,r3.ext x⟩
 ·obtain⟨b,n,c,sz,cur,t1,t2,t3,t4,t5,t6,t7,t8,t9,xa⟩:=h.tok i e hi;have y:b<w.heap.size:=(Qf.1 t5).1;exact⟨b,n,c,sz,cur,t1,t2,t3,t4,(f.block b y).trans t5,t6,t7,t8,by simp[Gh.over,y,t9],xa⟩
def GJ.drew(h:GJ P B w0 m w g):GJ P B w0 m w.drew g:=by
 have x:GY w g w.drew g:=⟨λ_ _=>rfl,λ_=>Qk _,λ_ _ h=>h,rfl,λ_ _ h=>h⟩;refine⟨h.below.drew,h.size,h.gz,h.old,λi b hi=>?_,h.inj,h.kind,λi e hi=>?_,h.tinj,h.itr.to (λ_ _ _ e=>e) λi b s p _ _ _ j z f=>⟨rfl,rfl,z,f⟩⟩
 ·obtain⟨p,q,vs,T,y,r⟩:=h.obj i b hi;exact⟨p,q,vs,T,y,λo d u=>let⟨v,r1,r2,r3⟩:=r o d u;⟨v,r1,r2,r3.ext x⟩⟩
 ·exact h.tok i e hi
def GY.drew(w:World)(g:Gh):GY w g w.drew g:=⟨λ_ _=>rfl,λ_=>Qk _,λ_ _ h=>h,rfl,λ_ _ h=>h⟩
def Gh.obj(g:Gh)(i:Id)(b:Nat):Gh:={g with dl:=λz=>if z=i then some b else g.dl z}
def GY.newObj{i:Id}(o:Obj)(n:∀b,w.heap.size<=b->g.G b=0)(s:g.dl i=none):GY w g (w.alloc o) (g.obj i w.heap.size):=by
 refine⟨λp k=>?_,λb=>Qk _,λz b h=>?_,rfl,λi x h=>h⟩
 ·by_cases y:p.block<w.heap.size
  ·exact World.cell?_alloc_lt w o p y
  ·simp_all
 ·grind [Gh.obj]
def GJ.newObj(h:GJ P B w0 m w g){i:Id}(hf:BU m g i){ds:List D}{vs:List Value}(T:TypeId)(hr:AW w g ds vs):
  GJ P B w0 (m.put i 0 ds) (w.alloc (.cells vs.toArray T)) (g.obj i w.heap.size):=by
 have x:=GY.newObj (i:=i) (Obj.cells vs.toArray T) h.gz hf.2.1;have ne:∀i' b,g.dl i'=some b->i'≠i:=λi' b hb e=>by subst e;rw[hf.2.1]at hb;cases hb
 refine⟨h.below.alloc h.size _,Yn,λb hb=>h.gz b (by simp at hb;omega),h.old,λi' b hi=>?_,λi1 i2 b u f=>?_,λi' o d a t=>?_,λi' e hi=>?_,λi1 i2 e e' b y y' u f h3 h4=>?_,h.itr.to (λi' s p e=>(xT hr e).1) λi' b s p _ _ _ j e2 e3=>?_⟩
 rotate_right
 ·have k:b<w.heap.size:=(Qf.1 j).1;refine⟨rfl,Below.heap_alloc w _ b k,e2,λi1 u=>?_⟩;simp only[Gh.obj]at u;split at u
  ·simp_all
  ·exact e3 i1 u
 ·simp only[Gh.obj]at hi;split at hi
  ·rename_i e;subst e;simp only[Qa]at hi;subst hi;refine⟨h.size,h.gz _ (Qk _),vs.toArray,T,heap_alloc_new w _,λo d a=>?_⟩;by_cases ho:o<ds.length
   ·have z:m.put i' 0 ds i' (0+o)=ds[o]?:=aE ho;rw[Qu]at z;rw[z]at a;have hv:o<vs.length:=by rw[hr.1];exact ho
    refine⟨vs[o],by simp[hv],hr.2.1 _ (Q1 hv),?_⟩;exact(hr.2.2 o d vs[o] a (Qc hv)).ext x
   ·rw[aD O,hf.1 o]at a;cases a
  ·rename_i fa;obtain⟨p,q,bb,T',hh,r⟩:=h.obj i' b hi;refine⟨p,q,bb,T',(Below.heap_alloc w _ b (h.lt hi)).trans hh,λo d a=>?_⟩;rw[aA fa]at a;obtain⟨v,r1,r2,r3⟩:=r o d a;exact⟨v,r1,r2,r3.ext x⟩
 ·simp only[Gh.obj]at u f;split at u<;>split at f
  ·simp_all
  ·simp only[Qa]at u;subst u;have:=h.lt f;omega
  ·simp only[Qa]at f;subst f;have:=h.lt u;omega
  ·exact h.inj _ _ _ u f
 ·simp only[Gh.obj]at t;split at t
  ·cases t
  ·rename_i fa;rw[aA fa]at a;exact h.kind _ _ _ a t
 ·by_cases fa:i'=i
  ·subst fa;by_cases ho:0<ds.length
   ·have z:m.put i' 0 ds i' (0+0)=ds[0]?:=aE ho;rw[Zj]at z;rw[z]at hi;have hv:0<vs.length:=by rw[hr.1];exact ho
    have:=hr.2.2 0 _ vs[0] hi (Qc hv);cases this
   ·rw[aD O,hf.1 0]at hi;cases hi
  ·rw[aA fa]at hi;obtain⟨b,n,c,sz,cur,t1,t2,t3,t4,t5,t6,t7,t8,t9,xa⟩:=h.tok i' e hi;have k:b<w.heap.size:=(Qf.1 t5).1;refine⟨b,n,c,sz,cur,t1,t2,t3,t4,(Below.heap_alloc w _ b k).trans t5,t6,t7,t8,t9,λi1 u=>?_⟩;simp only[Gh.obj]at u;split at u
   ·simp_all
   ·exact xa i1 u
 ·have nt:∀e,m.put i 0 ds i 0≠some (.tok (e+1)):=by
   intro e hi;by_cases ho:0<ds.length
   ·have z:m.put i 0 ds i (0+0)=ds[0]?:=aE ho;rw[Zj]at z;rw[z]at hi;have hv:0<vs.length:=by rw[hr.1];exact ho
    have:=hr.2.2 0 _ vs[0] hi (Qc hv);cases this
   ·rw[aD O,hf.1 0]at hi;cases hi
  have n1:i1≠i:=λe=>by subst e;exact nt _ u
  have n2:i2≠i:=λe=>by subst e;exact nt _ f
  rw[aA n1]at u;rw[aA n2]at f;exact h.tinj _ _ _ _ _ _ _ u f h3 h4
def Rep.newObj(w:World)(g:Gh)(i:Id)(b:Nat):Rep w (g.obj i b) (.ptr i 0) (.pointer (some ⟨b,0,none⟩)):=
 .ptr i 0 b (by simp[Gh.obj])
theorem E7(w:World)(b:Nat)(cs:Array Value)(p:Addr)(h:p.block≠b):(w.setRow b cs).cell? p=w.cell? p:=by
 simp only[World.cell?];rw[setRow_other w b p.block cs h]
def GY.setRow{b:Nat}{cs:Array Value}(q:g.G b=0):GY w g (w.setRow b cs) g:=by
 refine⟨λp y=>E7 w b cs p (λe=>?_),λ_=>Qk _,λ_ _ h=>h,rfl,λ_ _ h=>h⟩;subst e;omega
def GJ.store(h:GJ P B w0 m w g){i:Id}{b o:Nat}(t:g.dl i=some b){vs:Array Value}{T:TypeId}(hh:w.heap[b]?=some (.cells vs T (0,0)))
  {ds:List D} {us:List Value} (hr:AW w g ds us) (ho:o+ds.length<=vs.size):
  GJ P B w0 (m.put i o ds) (w.setRow b (vs.toList.take o++us++vs.toList.drop (o+us.length)).toArray) g:=by
 obtain⟨hB,hG,bb,T',ja,oa⟩:=h.obj i b t;rw[hh]at ja;simp only[Qa,Obj.cells.injEq]at ja;obtain⟨rfl,rfl,_⟩:=ja;have x:GY w g (w.setRow b (vs.toList.take o++us++vs.toList.drop (o+us.length)).toArray) g:=GY.setRow hG;have ka:(w.setRow b (vs.toList.take o++us++vs.toList.drop (o+us.length)).toArray).heap.size=w.heap.size:=by simp[World.setRow]
 have ca:∀k,k≠b->(w.setRow b (vs.toList.take o++us++vs.toList.drop (o+us.length)).toArray).heap[k]?=w.heap[k]?:=λk hk=>setRow_other w b k _ hk
 refine⟨⟨h.below.os,h.below.tape,h.below.output,Ye,λk hk=>(ca k O).trans (h.below.block k hk)⟩,Yd,by rw[ka];exact h.gz,h.old,λi' b' hi=>?_,h.inj,λi' o' d hm hn=>?_,λi' e hi=>?_,λi1 i2 e e' b' y y' u h2 h3 h4=>?_,h.itr.to (λi' s p e=>(xT hr e).1) λi' b' s p _ _ _ e1 e2 e3=>⟨rfl,ca b' (λe=>e3 i (by rw[e];exact t)),e2,e3⟩⟩
 ·by_cases a:i'=i
  ·subst a;rw[t]at hi;simp only[Qa]at hi;subst hi;refine⟨hB,hG,_,T,setRow_heap w b vs _ T _ hh,λo' d hm=>?_⟩;have ba:us.length=ds.length:=hr.1;by_cases ia:o<=o'∧o'<o+ds.length
   ·have z:m.put i' o ds i' (o+(o'-o))=ds[o'-o]?:=aE O;rw[show o+(o'-o)=o' by omega]at z;rw[z]at hm;have hv:o'-o<us.length:=by omega
    refine⟨us[o'-o],?_,hr.2.1 _ (Q1 hv),(hr.2.2 _ d _ hm (Qc hv)).ext x⟩;have ht:(vs.toList.take o).length=o:=by rw[QT];simp;omega
    simp only[QI,QK];rw[QF O,ht,Qm hv];exact Qc hv
   ·rw[aD ia]at hm;obtain⟨v,r1,r2,r3⟩:=oa o' d hm;refine⟨v,?_,r2,r3.ext x⟩;have ht:(vs.toList.take o).length=o:=by rw[QT];simp;omega
    simp only[QI,QK];by_cases na:o'<o
    ·grind
    ·grind
  ·obtain⟨p,q,f,T1,j,r⟩:=h.obj i' b' hi;have fa:b'≠b:=λe=>a (h.inj i' i b' hi (by rw[e];exact t))
   refine⟨p,q,f,T1,(ca b' fa).trans j,λo' d hm=>?_⟩;rw[aA a]at hm;obtain⟨v,r1,r2,r3⟩:=r o' d hm;exact⟨v,r1,r2,r3.ext x⟩
 ·have:i'≠i:=λe=>by subst e;rw[t]at hn;cases hn
  rw[aA this]at hm;exact h.kind _ _ _ hm hn
 ·have fa:i'≠i:=by
   rintro rfl;by_cases ia:o<=0∧0<o+ds.length
   ·have z:m.put i' o ds i' (o+(0-o))=ds[0-o]?:=aE O;rw[show o+(0-o)=0 by omega]at z;rw[z]at hi;have hv:0-o<us.length:=by have:=hr.1;omega
    have:=hr.2.2 _ _ _ hi (Qc hv);cases this
   ·rw[aD ia]at hi;obtain⟨v,r1,r2,r3⟩:=oa 0 _ hi;cases r3
  rw[aA fa]at hi;obtain⟨b1,n,c,sz,cur,t1,t2,t3,t4,t5,t6,t7,t8,t9,xa⟩:=h.tok i' e hi;exact⟨b1,n,c,sz,cur,t1,t2,t3,t4,(ca b1 (λe=>xa i (by rw[e];exact t))).trans t5,t6,t7,t8,t9,xa⟩
 ·have nt:∀e,m.put i o ds i 0≠some (.tok (e+1)):=by
   intro e hi;by_cases ia:o<=0∧0<o+ds.length
   ·have z:m.put i o ds i (o+(0-o))=ds[0-o]?:=aE O;rw[show o+(0-o)=0 by omega]at z;rw[z]at hi;have hv:0-o<us.length:=by have:=hr.1;omega
    have:=hr.2.2 _ _ _ hi (Qc hv);cases this
   ·rw[aD ia]at hi;obtain⟨v,r1,r2,r3⟩:=oa 0 _ hi;cases r3
  have n1:i1≠i:=λe=>by subst e;exact nt _ u
  have n2:i2≠i:=λe=>by subst e;exact nt _ h2
  rw[aA n1]at u;rw[aA n2]at h2;exact h.tinj _ _ _ _ _ _ _ u h2 h3 h4
end
def Gh.tok(g:Gh)(t:Id)(b n c sz:Nat):Gh:=
 {g with G:=λv=>if v=b then n*sz else g.G v,tb:=λi=>if i=t then some (b,n,c,sz)else g.tb i}
section
variable{P:Program}{B:Nat}{w0 w w':World}{m:GB}{g g':Gh}
def GJ.kill(h:GJ P B w0 m w g){t:Id}(hd:g.dl t=none):GJ P B w0 (m.put t 0 [.tok 0]) w g:=by
 have n:∀i o,m.put t 0 [.tok 0] i o=if i=t∧o=0 then some (.tok 0)else m i o:=by
  grind [GB.put]
 refine⟨h.below,h.size,h.gz,h.old,λi b hi=>?_,h.inj,λi o d hm a=>?_,λi e hi=>?_,λk i2 e e' b y y' u f x h4=>?_,h.itr.to (λi s p e=>by rw[n,if_neg U]at e;exact e) λi b s p _ _ _ j z c=>⟨rfl,rfl,z,c⟩⟩
 ·obtain⟨p,q,vs,T,v,r⟩:=h.obj i b hi;refine⟨p,q,vs,T,v,λo d hm=>?_⟩;rw[n,if_neg (by rintro⟨rfl,_⟩;rw[hd]at hi;cases hi)]at hm;exact r o d hm
 ·rw[n]at hm;split at hm
  ·rw[←QJ hm];rfl
  ·exact h.kind _ _ _ hm a
 ·rw[n]at hi;split at hi
  ·simp at hi
  ·exact h.tok i e hi
 ·rw[n]at u f;split at u
  ·simp at u
  ·split at f
   ·simp at f
   ·exact h.tinj _ _ _ _ _ _ _ u f x h4
def BU.kill{t z:Id}(h:BU m g t)(c:t≠z):BU (m.put z 0 [.tok 0]) g t:=
 ⟨λo=>by rw[aA c];exact h.1 o,h.2⟩
theorem BG(m:GB)(t:Id)(x:Nat)(i:Id)(o:Nat):m.put t 0 [.tok x] i o=if i=t∧o=0 then some (.tok x)else m i o:=by
 grind [GB.put]
def GY.newTok{t:Id}{b n c sz:Nat}(o:Obj)(ca:∀b,w.heap.size<=b->g.G b=0)(s:g.tb t=none)(m:b=w.heap.size):GY w g (w.alloc o) (g.tok t b n c sz):=by
 refine⟨λp k=>?_,λv=>?_,λz b h=>h,rfl,λi x h=>?_⟩
 ·by_cases y:p.block<w.heap.size
  ·exact World.cell?_alloc_lt w o p y
  ·simp_all
 ·grind [Gh.tok]
 ·simp only[Gh.tok];split
  ·rename_i e;subst e;rw[s]at h;cases h
  ·exact h
def GJ.newTok(h:GJ P B w0 m w g){t:Id}(hf:BU m g t){e n c sz:Nat}{cur:Array Value}(ka:0<sz)
  (hi:∃ti z,P.info? e=some ti∧ti.size=sz∧ti.zero=some z∧z.cells.size=sz) (wa:n<=c) (hc:c<=maxLen) (a:cur.size=c*sz):
  GJ P B w0 (m.put t 0 [.tok (e+1)]) (w.alloc (.cells cur e)) (g.tok t w.heap.size n c sz):=by
 have x:=GY.newTok (t:=t) (n:=n) (c:=c) (sz:=sz) (Obj.cells cur e) h.gz hf.2.2 rfl;refine⟨h.below.alloc h.size _,Yn,λb hb=>?_,λb k=>by simp only[Gh.tok];rw[if_neg (by have:=h.size;omega)];exact h.old b k,λi b ca=>?_,h.inj,λi o d hm hn=>?_,λi e' ca=>?_,λi1 i2 e1 e2 b y y' u f h3 h4=>?_,h.itr.to (λi s p e=>by rw[BG,if_neg U]at e;exact e) λi b s p e0 _ _ e1 e2 e3=>?_⟩
 rotate_right
 ·have k:b<w.heap.size:=(Qf.1 e1).1;have j:i≠t:=by rintro rfl;rw[hf.1 1]at e0;cases e0
  exact⟨by simp[Gh.tok,j],Below.heap_alloc w _ b k,by simp only[Gh.tok];rw[if_neg O];exact e2,e3⟩
 ·simp only[Gh.tok];simp at hb;rw[if_neg O];exact h.gz b O
 ·obtain⟨p,q,vs,T,hh,r⟩:=h.obj i b ca;have k:=h.lt ca;refine⟨p,by simp only[Gh.tok];rw[if_neg O];exact q,vs,T,(Below.heap_alloc w _ b k).trans hh,λo d hm=>?_⟩;rw[BG,if_neg (by rintro⟨rfl,_⟩;simp only[Gh.tok]at ca;rw[hf.2.1]at ca;cases ca)]at hm;obtain⟨v,r1,r2,r3⟩:=r o d hm;exact⟨v,r1,r2,r3.ext x⟩
 ·rw[BG]at hm;split at hm
  ·rw[←QJ hm];rfl
  ·exact h.kind _ _ _ hm hn
 ·rw[BG]at ca;split at ca
  ·rename_i ha;obtain⟨rfl,_⟩:=ha;simp only[Qa,D.tok.injEq,Ze]at ca;subst ca;refine⟨w.heap.size,n,c,sz,cur,Xn,h.size,ka,hi,heap_alloc_new w _,wa,hc,a,Xn,λi' h'=>?_⟩;have:=h.lt h';omega
  ·rename_i fa;obtain⟨b,n',c',oa,na,t1,t2,t3,t4,t5,t6,t7,t8,t9,xa⟩:=h.tok i e' ca;have k:b<w.heap.size:=(Qf.1 t5).1;have j:i≠t:=by
    simp_all
   exact⟨b,n',c',oa,na,by simp[Gh.tok,j,t1],t2,t3,t4,(Below.heap_alloc w _ b k).trans t5,t6,t7,t8,by simp only[Gh.tok];rw[if_neg O];exact t9,xa⟩
 ·have ga:∀i e,m i 0=some (.tok (e+1))->∀b y,(g.tok t w.heap.size n c sz).tb i=some (b,y)->i≠t∧g.tb i=some (b,y)∧b<w.heap.size:=by
   intro i e hm b y hb;have j:i≠t:=YJ
   simp only[Gh.tok,if_neg j]at hb;obtain⟨b',n',c',oa,na,t1,t2,t3,t4,t5,_⟩:=h.tok i e hm;rw[t1]at hb;simp only[Qa,Qd]at hb;obtain⟨rfl,rfl⟩:=hb;exact⟨j,t1,(Qf.1 t5).1⟩
  rw[BG]at u f;split at u<;>split at f
  ·simp_all
  ·grind [Gh.tok]
  ·grind [Gh.tok]
  ·obtain⟨_,k3,_⟩:=ga _ _ u _ _ h3;obtain⟨_,k4,_⟩:=ga _ _ f _ _ h4;exact h.tinj _ _ _ _ _ _ _ u f k3 k4
def GY.inPlace{t:Id}{b n f c sz:Nat}{cur na:Array Value}{T:TypeId}{fr:Nat×Nat}(s:g.tb t=none)(q:g.G b=n*sz)(r:n<=f)
  (v:w.heap[b]?=some (.cells cur T fr)) (m:∀j,j<n*sz->na[j]?=cur[j]?):GY w g (w.setRow b na) (g.tok t b f c sz):=by
 refine⟨λp k=>?_,λo=>?_,λz b h=>h,rfl,λi x h=>?_⟩
 ·by_cases a:p.block=b
  ·have u:(w.setRow b na).heap[p.block]?=some (.cells na T fr):=by rw[a];exact setRow_heap w b cur na T fr v
   have y:w.heap[p.block]?=some (.cells cur T fr):=by rw[a];exact v
   simp only[World.cell?,u,y];split
   ·rfl
   ·simp_all
  ·grind [E7]
 ·simp only[Gh.tok];split
  ·rename_i e;subst e;rw[q];exact QA _ r
  ·exact Qk _
 ·grind [Gh.tok]
def GJ.inPlace(h:GJ P B w0 m w g){t0 t:Id}(hf:BU m g t){e b n n' c sz:Nat}{cur na:Array Value}(h0:m t0 0=some (.tok (e+1)))
  (u:g.tb t0=some (b,n,c,sz)) (hn:n<=n') (hc:n'<=c) (hh:w.heap[b]?=some (.cells cur e (0,0))) (hs:na.size=cur.size)
  (va:∀j,j<n*sz->na[j]?=cur[j]?):
  GJ P B w0 ((m.put t0 0 [.tok 0]).put t 0 [.tok (e+1)]) (w.setRow b na) (g.tok t b n' c sz):=by
 obtain⟨b0,n0,c0,oa,ma,u1,u2,u3,u4,u5,u6,u7,u8,u9,z⟩:=h.tok t0 e h0;rw[u]at u1;simp only[Qa,Qd]at u1;obtain⟨rfl,rfl,rfl,rfl⟩:=u1;rw[hh]at u5;simp only[Qa,Obj.cells.injEq,and_true]at u5;subst u5;have x:GY w g (w.setRow b na) (g.tok t b n' c sz):=GY.inPlace hf.2.2 u9 hn hh va;have ka:(w.setRow b na).heap.size=w.heap.size:=by simp[World.setRow]
 have a:b<w.heap.size:=(Qf.1 hh).1;have ca:∀k,k≠b->(w.setRow b na).heap[k]?=w.heap[k]?:=λk hk=>setRow_other w b k na hk
 have sa:t≠t0:=by rintro rfl;rw[hf.1 0]at h0;cases h0
 have aa:∀i o,((m.put t0 0 [.tok 0]).put t 0 [.tok (e+1)]) i o=if i=t∧o=0 then some (.tok (e+1))else if i=t0∧o=0 then some (.tok 0)else m i o:=by
  grind [BG]
 have ia:g.dl t0=none:=by
  cases hd:g.dl t0 with
  |none=>rfl
  |some b'=>
   obtain⟨_,_,vs,T,_,r⟩:=h.obj t0 b' hd;obtain⟨v,_,_,r3⟩:=r 0 _ h0;cases r3
 refine⟨⟨h.below.os,h.below.tape,h.below.output,Ye,λk hk=>(ca k O).trans (h.below.block k hk)⟩,Yd,λb' wa=>?_,λb' da=>by simp only[Gh.tok];rw[if_neg O];exact h.old b' da,λi b' hi=>?_,h.inj,λi o d hm hd=>?_,λi e' hi=>?_,λi1 i2 e1 e2 b' y y' h1 h2 h3 h4=>?_,h.itr.to (λi s p e=>by rw[aa,if_neg U,if_neg U]at e;exact e) λi b' s p e0 _ _ e1 e2 e3=>?_⟩
 rotate_right
 ·have fa:b'≠b:=by rintro rfl;rw[hh]at e1;cases e1
  have ba:i≠t:=by rintro rfl;rw[hf.1 1]at e0;cases e0
  exact⟨by simp[Gh.tok,ba],ca b' fa,by simp only[Gh.tok];rw[if_neg fa];exact e2,e3⟩
 ·rw[ka]at wa;simp only[Gh.tok];rw[if_neg O];exact h.gz b' wa
 ·obtain⟨p,q,vs,T,ja,r⟩:=h.obj i b' hi;have fa:b'≠b:=λe=>z i (by rw[←e];exact hi)
  refine⟨p,by simp[Gh.tok,fa,q],vs,T,(ca b' fa).trans ja,λo d hm=>?_⟩;rw[aa,if_neg (by rintro⟨rfl,_⟩;have h':=hf.2.1;simp only[Gh.tok]at hi;rw[h']at hi;cases hi),if_neg (by rintro⟨rfl,_⟩;simp only[Gh.tok]at hi;rw[ia]at hi;cases hi)]at hm;obtain⟨v,r1,r2,r3⟩:=r o d hm;exact⟨v,r1,r2,r3.ext x⟩
 ·rw[aa]at hm;split at hm
  ·rw[←QJ hm];rfl
  ·split at hm
   ·rw[←QJ hm];rfl
   ·exact h.kind _ _ _ hm hd
 ·rw[aa]at hi;split at hi
  ·rename_i ha;obtain⟨rfl,_⟩:=ha;simp only[Qa,D.tok.injEq,Ze]at hi;subst hi;exact⟨b,n',c,sz,na,Xn,u2,u3,u4,setRow_heap w b cur na e _ hh,hc,u7,by rw[hs];exact u8,Xn,z⟩
  ·split at hi
   ·simp at hi
   ·rename_i n1 n2;obtain⟨b1,f,c1,l,ea,t1,t2,t3,t4,t5,t6,t7,t8,t9,xa⟩:=h.tok i e' hi;have ba:i≠t:=by rintro rfl;rw[hf.1 0]at hi;cases hi
    have la:b1≠b:=by
     rintro rfl;have:=h.tinj i t0 e' e b1 _ _ hi h0 t1 u;subst this;simp at n2
    exact⟨b1,f,c1,l,ea,by simp[Gh.tok,ba,t1],t2,t3,t4,(ca b1 la).trans t5,t6,t7,t8,by simp[Gh.tok,la,t9],xa⟩
 ·have ga:∀i e',m i 0=some (.tok (e'+1))->i≠t0->∀b' y,(g.tok t b n' c sz).tb i=some (b',y)->i≠t∧g.tb i=some (b',y)∧b'≠b:=by
   intro i e' hm ua b' y hb;have ba:i≠t:=YJ
   simp only[Gh.tok,if_neg ba]at hb;refine⟨ba,hb,?_⟩;rintro rfl;exact ua (h.tinj i t0 e' e b' _ _ hm h0 hb u)
  rw[aa]at h1 h2;split at h1
  ·grind [Gh.tok]
  ·split at h1
   ·simp at h1
   ·rename_i p q;split at h2
    ·grind [Gh.tok]
    ·split at h2
     ·simp at h2
     ·rename_i r s;obtain⟨_,k3,_⟩:=ga _ _ h1 (λe=>q ⟨e,rfl⟩) _ _ h3;obtain⟨_,k4,_⟩:=ga _ _ h2 (λe=>s ⟨e,rfl⟩) _ _ h4;exact h.tinj _ _ _ _ _ _ _ h1 h2 k3 k4
end
end Go.Vd
namespace Go.Vd
inductive GE where
 |t (n:Nat)
 |c (d:D)
def GE.ev(s:Nat->D):GE->D
 | .t n=>s n
 | .c d=>d
abbrev GF:=List (Id×Nat×List D)
def GF.app(m:GB):GF->GB
 |[]=>m
 |(i,o,ds)::u=>GF.app (m.put i o ds) u
structure G8 where
 rd:List D->GB->List (Id×Nat)
 ex:List D->GB->Id->Option (D×GF)
abbrev Gz:=FuncId->Option G8
inductive DOp where
 |mv (x:GE)
 |pick (c a b:GE)
 |alloc (zs:List D)
 |box (x:GE)
 |build (zs:List D) (parts:List (Nat×Nat×GE))
 |bslice (e sz:Nat) (parts:List GE)
 |load (k:Option Nat) (x:GE)
 |store (n:Nat) (x v:GE)
 |nilchk (x:GE)
 |bin (op:BinOp) (x y:GE)
 |beq (ne:Bool) (x y:GE)
 |seq (ne:Bool) (offs:List (Nat×Nat)) (x y:GE)
 |nileq (ne:Bool) (k:Nat) (x y:GE)
 |un (op:UnOp) (x:GE)
 |conv (k:IntKind) (x:GE)
 |s2s (x:GE)
 |s2b (x:GE)
 |b2s (x:GE)
 |faddr (off:Nat) (x:GE)
 |field (k:Option Nat) (off:Nat) (x:GE)
 |iaddr (sz:Nat) (x i:GE)
 |idxs (x i:GE)
 |idxa (len:Nat) (x i:GE)
 |idxm (len sz:Nat) (x i:GE)
 |mxm (mx:Bool) (x y:GE)
 |iadda (len sz:Nat) (x i:GE)
 |cuts (x:GE) (lo hi:Option GE)
 |cutl (sz:Nat) (x:GE) (lo hi:Option GE)
 |mkif (t:TypeId) (x:GE)
 |tass (t:TypeId) (ok:Bool) (z:D) (x:GE)
 |ext (i:Nat) (x:GE)
 |mkfn (f:FuncId) (caps:List GE)
 |len (isStr:Bool) (x:GE)
 |app (e sz bytes:Nat) (x y:GE)
 |mksl (e sz bytes:Nat) (z:D) (n c:GE)
 |range (x:GE)
 |next (x:GE)
 |call (f:GE) (xs:List GE)
 |stop
def D.data:D->Bool
 | .junk| .tok _| .tup _| .it _ _=>false
 |_=>true
def Ag(m:GB)(i:Id):Nat->Nat->Option (List D)
 |_,0=>some []
 |o,n+1=>match m i o with
  |some d=>(Ag m i (o+1) n).map (d::·)
  |none=>none
def Fb(cs:List D)(off:Nat)(ds:List D):List D:=cs.take off++ds++cs.drop (off+ds.length)
def Cf:List D->List (Nat×Nat×D)->Option (List D)
 |cs,[]=>some cs
 |cs,(off,sz,d)::r=>if d.data=true∧d.cells.length=sz∧off+sz<=cs.length then Cf (Fb cs off d.cells) r else none
def AO(op:BinOp)(x y:D):Option D:=
 match x,y with
 | .int k a,.int k' b=>
  match op with
  | .shl=>if 0<=b then some (.int k (k.wrap (a*2 ^ min b.toNat k.bits)))else none
  | .shr=>if 0<=b then some (.int k (a.fdiv (2 ^ min b.toNat k.bits)))else none
  |op=>if k≠k' then none else match op with
   | .add=>some (.int k (k.wrap (a+b)))
   | .sub=>some (.int k (k.wrap (a-b)))
   | .mul=>some (.int k (k.wrap (a*b)))
   | .quo=>if b=0 then none else some (.int k (k.wrap (a.tdiv b)))
   | .rem=>if b=0 then none else some (.int k (a.tmod b))
   | .and=>some (.int k (bits .and k a b))
   | .or=>some (.int k (bits .or k a b))
   | .xor=>some (.int k (bits .xor k a b))
   | .andNot=>some (.int k (bits .andNot k a b))
   | .eql=>some (.bool (a==b))
   | .neq=>some (.bool (a !=b))
   | .lss=>some (.bool (a<b))
   | .leq=>some (.bool (a<=b))
   | .gtr=>some (.bool (a>b))
   | .geq=>some (.bool (a≥b))
   |_=>none
 | .str a,.str b=>
  match op with
  | .add=>if a.length+b.length<=9223372036854775807 then some (.str (a++b))else none
  | .eql=>some (.bool (a==b))
  | .neq=>some (.bool (!(a==b)))
  | .lss=>some (.bool (Op.bytesLess a b))
  | .leq=>some (.bool (Op.bytesLess a b||a==b))
  | .gtr=>some (.bool (!(Op.bytesLess a b||a==b)))
  | .geq=>some (.bool (!(Op.bytesLess a b)))
  |_=>none
 |_,_=>none
def rM(op:UnOp)(x:D):Option D:=
 match op,x with
 | .neg,.int k n=>some (.int k (k.wrap (0-n)))
 | .not,.bool b=>some (.bool (!b))
 | .xor,.int k n=>some (.int k (bits .xor k (if k.signed then-1 else k.max) n))
 |_,_=>none
def Lm:Nat->D->D->Option Bool
 |0,.int k a,.int k' b=>if k=k' then some (a==b)else none
 |1,.bool a,.bool b=>some (a==b)
 |2,.str a,.str b=>some (a==b)
 |_,_,_=>none
def Be(xs ys:List D):List (Nat×Nat)->Option Bool
 |[]=>some true
 |(k,o)::r=>match xs[o]?,ys[o]? with
  |some x,some y=>match Lm k x y with
   |some true=>Be xs ys r
   |some false=>some false
   |none=>none
  |_,_=>none
def L1:Nat->D->D->Option Bool
 |0,.slice n _ _,.slice true _ _=>some n
 |0,.slice true _ _,.slice n _ _=>some n
 |1,.nilptr,.nilptr=>some true
 |1,.nilptr,.ptr _ _=>some false
 |1,.ptr _ _,.nilptr=>some false
 |1,.nilptr,.eptr _=>some false
 |1,.eptr _,.nilptr=>some false
 |2,.nilIface,.nilIface=>some true
 |2,.nilIface,.iface _ _=>some false
 |2,.iface _ _,.nilIface=>some false
 |3,.nilFunc,.nilFunc=>some true
 |3,.nilFunc,.fn _ _=>some false
 |3,.fn _ _,.nilFunc=>some false
 |_,_,_=>none
def AF(s:List UInt8):List D:=s.map λb=> .int .u8 b.toNat
def BB:List D->Option (List UInt8)
 |[]=>some []
 | .int .u8 n::r=>(BB r).map (UInt8.ofNat n.toNat::·)
 |_=>none
def fT:Bool->D->Option Nat
 |true,.str s=>some s.length
 |false,.slice _ _ xs=>some xs.length
 |false,.row _ n=>some n
 |_,_=>none
def Fk(s:Nat->D)(x:Option GE)(b:Nat)(r:Nat):Option Nat:=
 match x with
 |none=>some b
 |some a=>match a.ev s with
  | .int _ n=>if 0<=n∧n<=r then some n.toNat else none
  |_=>none
def aF:List D->Nat->Nat
 |[],k=>k
 |d::_,_=>d.cells.length
def Iu(sz:Nat):D->Option (List D)
 | .slice _ _ ys=>some ys
 | .str b=>if sz=1 then some (AF b)else none
 |_=>none
def Aw(S:Gz)(s:Nat->D)(m:GB)(fr:Id):DOp->Option (D×GF)
 | .mv x=>some (x.ev s,[])
 | .pick c a b=>match c.ev s with
  | .bool t=>some (if t then a.ev s else b.ev s,[])
  |_=>none
 | .alloc zs=>some (.ptr fr 0,[(fr,0,zs)])
 | .box x=>if(x.ev s).data then some (.ptr fr 0,[(fr,0,(x.ev s).cells)])else none
 | .build zs parts=>(Cf zs (parts.map λp=>(p.1,p.2.1,p.2.2.ev s))).map λcs=>(.agg cs,[])
 | .bslice e sz parts=>
  if(parts.all λp=>(p.ev s).data&&(p.ev s).cells.length==sz&&(p.ev s).un.calm)then some (.slice false fr (parts.map λp=>(p.ev s).un),[(fr,0,[.tok (e+1)])])else none
 | .load k x=>match x.ev s,k with
  | .ptr i o,none=>(m i o).map λd=>(d,[])
  | .ptr i o,some n=>(Ag m i o n).map λds=>(.agg ds,[])
  | .eptr ds,none=>ds.head?.map λd=>(d,[])
  | .eptr ds,some n=>if n<=ds.length then some (.agg (ds.take n),[])else none
  |_,_=>none
 | .store n x v=>match x.ev s with
  | .ptr i o=>if(v.ev s).data=true∧(v.ev s).cells.length=n∧(Ag m i o n).isSome=true then some (.junk,[(i,o,(v.ev s).cells)])else none
  |_=>none
 | .nilchk x=>match x.ev s with
  | .ptr i o=>some (.ptr i o,[])
  | .eptr ds=>some (.eptr ds,[])
  | .fn f cs=>some (.fn f cs,[])
  |_=>none
 | .bin op x y=>(AO op (x.ev s) (y.ev s)).map λd=>(d,[])
 | .beq ne x y=>match x.ev s,y.ev s with
  | .bool a,.bool b=>some (.bool ((a==b)!=ne),[])
  |_,_=>none
 | .seq ne offs x y=>match x.ev s,y.ev s with
  | .agg xs,.agg ys=>(Be xs ys offs).map λb=>(.bool (b !=ne),[])
  |_,_=>none
 | .nileq ne k x y=>(L1 k (x.ev s) (y.ev s)).map λb=>(.bool (b !=ne),[])
 | .un op x=>(rM op (x.ev s)).map λd=>(d,[])
 | .conv k x=>match x.ev s with
  | .int _ n=>some (.int k (k.wrap n),[])
  |_=>none
 | .s2s x=>match x.ev s with
  | .str b=>some (.str b,[])
  |_=>none
 | .s2b x=>match x.ev s with
  | .str b=>some (.slice false [] (AF b),[])
  |_=>none
 | .b2s x=>match x.ev s with
  | .slice _ _ xs=>(BB xs).map λb=>(.str b,[])
  |_=>none
 | .faddr off x=>match x.ev s with
  | .ptr i o=>some (.ptr i (o+off),[])
  | .eptr ds=>if off<=ds.length then some (.eptr (ds.drop off),[])else none
  |_=>none
 | .field k off x=>match x.ev s,k with
  | .agg cs,none=>cs[off]?.map λd=>(d,[])
  | .agg cs,some n=>if off+n<=cs.length then some (.agg ((cs.drop off).take n),[])else none
  |_,_=>none
 | .iaddr sz x i=>match x.ev s,i.ev s with
  | .slice _ _ xs,.int _ n=>if 0<=n then match xs[n.toNat]? with
   |some d=>if d.cells.length=sz then some (.eptr d.cells,[])else none
   |none=>none
   else none
  | .row i l,.int _ n=>if 0<=n∧n<(l:Int)then some (.ptr i (if sz=1 then n.toNat else n.toNat*sz),[])else none
  |_,_=>none
 | .idxs x i=>match x.ev s,i.ev s with
  | .str b,.int _ n=>if 0<=n then(b[n.toNat]?).map λc=>(.int .u8 c.toNat,[])else none
  |_,_=>none
 | .iadda len sz x i=>match x.ev s,i.ev s with
  | .ptr j o,.int _ n=>if 0<=n∧n<(len:Int)then some (.ptr j (o+n.toNat*sz),[])else none
  |_,_=>none
 | .idxm len sz x i=>match x.ev s,i.ev s with
  | .agg cs,.int _ n=>if 0<=n∧n<(len:Int)∧n.toNat*sz+sz<=cs.length then some (.agg ((cs.drop (n.toNat*sz)).take sz),[])else none
  |_,_=>none
 | .mxm mx x y=>match x.ev s,y.ev s with
  | .int k a,.int _ b=>some (.int k (if mx=true then max a b else min a b),[])
  |_,_=>none
 | .idxa len x i=>match x.ev s,i.ev s with
  | .agg cs,.int _ n=>if 0<=n∧n<(len:Int)then(cs[n.toNat]?).map λd=>(d,[])else none
  |_,_=>none
 | .cuts x lo hi=>match x.ev s with
  | .str b=>match Fk s hi b.length b.length with
   |some h=>match Fk s lo 0 h with
    |some l=>some (.str ((b.drop l).take (h-l)),[])
    |none=>none
   |none=>none
  |_=>none
 | .cutl sz x lo hi=>match x.ev s with
  | .slice nl _ xs=>if aF xs sz=sz then match Fk s hi xs.length xs.length with
   |some h=>match Fk s lo 0 h with
    |some l=>some (.slice nl [] ((xs.drop l).take (h-l)),[])
    |none=>none
   |none=>none
   else none
  |_=>none
 | .mkif t x=>if(x.ev s).data=true∧(x.ev s).un.calm=true then some (.iface t (x.ev s).un,[])else none
 | .tass t ok z x=>match x.ev s with
  | .iface t' d=>if t'=t then some (if ok then .tup [d,.bool true]else d,[])else if ok then some (.tup [z,.bool false],[])else none
  | .nilIface=>if ok then some (.tup [z,.bool false],[])else none
  |_=>none
 | .ext i x=>match x.ev s with
  | .tup vs=>vs[i]?.map λd=>(d,[])
  |_=>none
 | .mkfn f caps=>some (.fn f (caps.map (·.ev s)),[])
 | .len k x=>(fT k (x.ev s)).map λ(n:Nat)=>(.int .i64 (n:Int),[])
 | .stop=>none
 | .app e sz bytes x y=>match x.ev s,Iu sz (y.ev s)with
  | .slice nl t xs,some ys=>
   if nl=true∧ys=[]then some (.slice true [] [],[])
   else if(xs.length+ys.length)*(bytes+1)<=140737488355328∧aF ys sz=sz then
    if nl=true then some (.slice false fr ys,[(fr,0,[.tok (e+1)])])
    else match m t 0 with
     |some (.tok k)=>if k=e+1∧t≠[]then some (.slice false fr (xs++ys),[(t,0,[.tok 0]),(fr,0,[.tok (e+1)])])else none
     |_=>none
   else none
  |_,_=>none
 | .mksl e sz bytes z n c=>match n.ev s,c.ev s with
  | .int _ n,.int _ c=>if 0<=n∧n<=c∧c*(bytes+1)<=140737488355328∧z.cells.length=sz then(if z.isRw=true then(if n=c then some (.row fr n.toNat,[(fr,0,Qz n.toNat z)])else none)
   else some (.slice false fr (Qz n.toNat z),[(fr,0,[.tok (e+1)])]))else none
  |_,_=>none
 | .range x=>match x.ev s with
  | .str b=>some (.itp fr,[(fr,1,[.it b 0])])
  |_=>none
 | .next x=>match x.ev s with
  | .itp i=>match m i 1 with
   |some (.it b aa)=>if aa<b.length then
     some (.tup [.bool true,.int .i64 (aa:Nat),.int .i32 (Utf8.decode ⟨b.toArray⟩ aa).1],[(i,1,[.it b (aa+(Utf8.decode ⟨b.toArray⟩ aa).2)])])
    else some (.tup [.bool false],[])
   |_=>none
  |_=>none
 | .call f xs=>match f.ev s with
  | .fn f caps=>match S f with
   |some q=>q.ex (xs.map (·.ev s)++caps) m fr
   |none=>none
  |_=>none
def ofLeaf:Value->Option D
 | .bool b=>some (.bool b)
 | .int k n=>some (.int k n)
 | .string s=>some (.str s.data.toList)
 | .slice none 0 0=>some (.slice true [] [])
 | .pointer none=>some .nilptr
 | .nilIface=>some .nilIface
 | .nilFunc=>some .nilFunc
 | .map none=>some .nilMap
 |_=>none
def ofLeaves:List Value->Option (List D)
 |[]=>some []
 |v::r=>match ofLeaf v,ofLeaves r with
  |some d,some ds=>some (d::ds)
  |_,_=>none
def ofVal:Value->Option D
 | .agg cs=>(ofLeaves cs.toList).map .agg
 |v=>ofLeaf v
def AC:Operand->Option GE
 | .tmp t=>some (.t t)
 | .const v=>(ofVal v).map .c
 | .func f=>some (.c (.fn f []))
 | .global _=>none
def DP:List Operand->Option (List GE)
 |[]=>some []
 |x::r=>match AC x,DP r with
  |some a,some l=>some (a::l)
  |_,_=>none
def HZ:Option Operand->Option (Option GE)
 |none=>some none
 |some x=>(AC x).map some
def CK(P:Program)(t:TypeId):Option Nat:=(P.info? t).map (·.size)
def lU(P:Program)(t:TypeId):Option (Option Nat):=
 match P.underlying t with
 |some (.struct _)|some (.array _ _)=>(CK P t).map some
 |some _=>some none
 |none=>none
def CU(P:Program)(t:TypeId):Option D:=
 match P.info? t with
 |some i=>match i.zero with
  |some z=>ofVal z
  |none=>none
 |none=>none
def Ir(P:Program)(e:TypeId):Option (Nat×Nat):=
 match P.info? e with
 |some i=>match i.zero with
  |some z=>if 0<i.size∧z.cells.size=i.size then some (i.size,i.bytes)else none
  |none=>none
 |none=>none
def Iq{P:Program}{e sz bytes:Nat}(h:Ir P e=some (sz,bytes)):
  0<sz∧∃i z,P.info? e=some i∧i.size=sz∧i.zero=some z∧z.cells.size=sz∧i.bytes=bytes:=by
 unfold Ir at h;split at h
 ·grind
 ·cases h
def Df(P:Program)(w:Array Field):List (Nat×Operand)->Option (List (Nat×Nat×GE))
 |[]=>some []
 |(i,x)::r=>match w[i]?,AC x,Df P w r with
  |some f,some y,some l=>match CK P f.type with
   |some n=>some ((f.offset,n,y)::l)
   |none=>none
  |_,_,_=>none
def WP(P:Program)(r:List Field):Bool:=r.all λf=>(CK P f.type).isSome
def Lv(P:Program):List Field->Option (List (Nat×Nat))
 |[]=>some []
 |f::r=>if f.name= "_" then none else match P.underlying f.type,Lv P r with
  |some (.int _),some l=>some ((0,f.offset)::l)
  |some .bool,some l=>some ((1,f.offset)::l)
  |some .string,some l=>some ((2,f.offset)::l)
  |_,_=>none
def Ff(P:Program):List Field->Option (List (Nat×Nat))
 |[]=>some []
 |f::r=>if f.name= "_" then none else match P.underlying f.type,Ff P r with
  |some (.int _),some l=>some ((0,f.offset)::l)
  |some .bool,some l=>some ((1,f.offset)::l)
  |some .string,some l=>some ((2,f.offset)::l)
  |some (.struct fs),some l=>match CK P f.type,Lv P fs.toList with
   |some n,some l2=>if P.stoodInHeld f.type=false∧(l2.all λp=>decide (p.2<n))=true then some ((l2.map λp=>(p.1,f.offset+p.2))++l)else none
   |_,_=>none
  |_,_=>none
def Gi:Operand->Bool
 | .const _=>true
 |_=>false
def wE(P:Program)(ne:Bool)(t:TypeId)(x y:Operand)(a b:GE):Option DOp:=
 match P.underlying t with
 |some .bool=>some (.beq ne a b)
 |some (.int _)|some .string=>some (.bin (if ne then .neq else .eql) a b)
 |some (.struct fs)=>if P.stoodInHeld t=false∧P.eqGuardType P.depth t=false then(Ff P fs.toList).map λl=> .seq ne l a b else none
 |some (.slice _)=>some (.nileq ne 0 a b)
 |some (.pointer _)=>some (.nileq ne 1 a b)
 |some (.func ..)=>some (.nileq ne 3 a b)
 |some (.interface _)=>if Gi x||Gi y then some (.nileq ne 2 a b)else none
 |_=>none
def isStr(P:Program)(u:TypeId):Bool:=match P.underlying u with
 |some .string=>true
 |_=>false
def gD{P:Program}{u:TypeId}(h:isStr P u=true):P.underlying u=some .string:=by
 grind [isStr]
def O_(P:Program)(c:Call):Option DOp:=
 match c.callee with
 | .value f=>match AC f,DP c.args.toList with
  |some g,some xs=>some (.call g xs)
  |_,_=>none
 | .builtin .len=>match c.args.toList,c.argTypes.toList with
  |[x],[t]=>match P.underlying t with
   |some .string=>(AC x).map (.len true)
   |some (.slice _)=>(AC x).map (.len false)
   |_=>none
  |_,_=>none
 | .builtin .append=>match c.args.toList,c.argTypes.toList with
  |[x,y],[t,u]=>if u=t∨isStr P u=true then match P.underlying t with
   |some (.slice e)=>match Ir P e,AC x,AC y with
    |some (sz,bytes),some a,some b=>some (.app e sz bytes a b)
    |_,_,_=>none
   |_=>none
   else none
  |_,_=>none
 | .builtin .max=>match c.args.toList with
  |[x,y]=>match AC x,AC y with
   |some a,some b=>some (.mxm true a b)
   |_,_=>none
  |_=>none
 | .builtin .min=>match c.args.toList with
  |[x,y]=>match AC x,AC y with
   |some a,some b=>some (.mxm false a b)
   |_,_=>none
  |_=>none
 |_=>none
def FM(sz:Nat):List (Nat×Operand)->Option (List (Nat×Nat×GE))
 |[]=>some []
 |(i,x)::r=>match AC x,FM sz r with
  |some a,some l=>some ((i*sz,sz,a)::l)
  |_,_=>none
def tr(P:Program)(op:Op):Option DOp:=
 match op with
 | .move x| .assign x=>(AC x).map .mv
 | .pick c a b=>match AC c,AC a,AC b with
  |some c,some a,some b=>some (.pick c a b)
  |_,_,_=>none
 | .alloc t=>(CU P t).map λd=> .alloc d.cells
 | .box _ x=>(AC x).map .box
 | .build t parts=>match P.underlying t,CU P t with
  |some (.struct fields),some (.agg zs)=>if WP P fields.toList=true then(Df P fields parts.toList).map λl=> .build zs l else none
  |some (.array _ e),some (.agg zs)=>match CK P e with
   |some sz=>(FM sz parts.toList).map λl=> .build zs l
   |none=>none
  |_,_=>none
 | .buildSlice t len parts=>match P.underlying t with
  |some (.slice e)=>match Ir P e,DP (parts.toList.map (·.2))with
   |some (sz,_),some l=>if parts.toList.map (·.1)=Qt len∧len*sz<=2 ^ 24 then some (.bslice e sz l)else none
   |_,_=>none
  |_=>none
 | .load t x=>match lU P t,AC x with
  |some k,some x=>some (.load k x)
  |_,_=>none
 | .store t x v=>match CK P t,AC x,AC v with
  |some (n+1),some x,some v=>some (.store (n+1) x v)
  |_,_,_=>none
 | .nilCheck x=>(AC x).map .nilchk
 | .binOp .eql t x y _=>match AC x,AC y with
  |some a,some b=>wE P false t x y a b
  |_,_=>none
 | .binOp .neq t x y _=>match AC x,AC y with
  |some a,some b=>wE P true t x y a b
  |_,_=>none
 | .binOp op _ x y _=>match AC x,AC y with
  |some a,some b=>some (.bin op a b)
  |_,_=>none
 | .unOp op _ x=>(AC x).map (.un op)
 | .convert src dst x=>match P.underlying src,P.underlying dst,AC x with
  |some (.int _),some (.int k),some x=>some (.conv k x)
  |some .string,some .string,some x=>some (.s2s x)
  |some .string,some (.slice e),some x=>match P.underlying e with
   |some (.int .u8)=>some (.s2b x)
   |_=>none
  |some (.slice e),some .string,some x=>match P.underlying e with
   |some (.int .u8)=>some (.b2s x)
   |_=>none
  |_,_,_=>none
 | .fieldAddr t x f=>match P.underlying t,AC x with
  |some (.struct fields),some x=>match fields[f]? with
   |some m=>match CK P m.type with
    |some (_+1)=>some (.faddr m.offset x)
    |_=>none
   |none=>none
  |_,_=>none
 | .field t x f=>match P.underlying t,AC x with
  |some (.struct fields),some x=>match fields[f]? with
   |some m=>(lU P m.type).map λk=> .field k m.offset x
   |none=>none
  |_,_=>none
 | .indexAddr t x i=>match P.underlying t,AC x,AC i with
  |some (.slice e),some x,some i=>(CK P e).map λn=> .iaddr n x i
  |some (.array len e),some x,some i=>(CK P e).map λn=> .iadda len n x i
  |_,_,_=>none
 | .index t x i=>match P.underlying t,AC x,AC i with
  |some .string,some x,some i=>some (.idxs x i)
  |some (.array len e),some x,some i=>match lU P e with
   |some none=>if CK P e=some 1 then some (.idxa len x i)else none
   |some (some sz)=>some (.idxm len sz x i)
   |none=>none
  |_,_,_=>none
 | .slice t x lo hi none=>match P.underlying t,AC x,HZ lo,HZ hi with
  |some .string,some x,some l,some h=>some (.cuts x l h)
  |some (.slice e),some x,some l,some h=>(CK P e).map λn=> .cutl n x l h
  |_,_,_,_=>none
 | .makeInterface t x=>match P.underlying t,AC x with
  |some (.interface _),_=>none
  |some _,some x=>some (.mkif t x)
  |_,_=>none
 | .typeAssert x _ t ok=>match P.underlying t,CU P t,AC x with
  |some (.interface _),_,_=>none
  |some _,some z,some x=>some (.tass t ok z x)
  |_,_,_=>none
 | .extract x i=>(AC x).map (.ext i)
 | .makeFunc (.func f) first caps=>match first.toList,DP caps.toList with
  |[],some l=>some (.mkfn f l)
  |_,_=>none
 | .makeSlice t n c=>match P.underlying t with
  |some (.slice e)=>match Ir P e,CU P e,AC n,AC c with
   |some (sz,bytes),some z,some n,some c=>some (.mksl e sz bytes z n c)
   |_,_,_,_=>none
  |_=>none
 | .range t x=>match P.underlying t,AC x with
  |some .string,some x=>some (.range x)
  |_,_=>none
 | .next x true=>(AC x).map .next
 | .call c=>O_ P c
 |_=>none
def Rep.ofLeaf{w:World}{g:Gh}{v:Value}{d:D}(h:ofLeaf v=some d):Rep w g d v∧v.oneCell'=true∧d.leaf=true:=by
 unfold Vd.ofLeaf at h;split at h<;>first|(simp only[Qa]at h;subst h)|cases h
 ·exact⟨.bool _,rfl,rfl⟩
 ·exact⟨.int _ _,rfl,rfl⟩
 ·rename_i s;exact⟨.str s.data.toList,rfl,rfl⟩
 ·exact⟨.nils _,rfl,rfl⟩
 ·exact⟨.nilp,rfl,rfl⟩
 ·exact⟨.nili,rfl,rfl⟩
 ·exact⟨.nilf,rfl,rfl⟩
 ·exact⟨.nilm,rfl,rfl⟩
def AW.ofLeaves{w:World}{g:Gh}:∀{vs:List Value} {ds:List D},ofLeaves vs=some ds->AW w g ds vs
 |[],ds,h=>by simp only[Vd.ofLeaves,Qa]at h;subst h;exact AW.nil w g
 |v::r,ds,h=>by
  unfold Vd.ofLeaves at h;split at h
  ·rename_i d c u y;simp only[Qa]at h;subst h;obtain⟨p,q,_⟩:=Rep.ofLeaf (w:=w) (g:=g) u;exact AW.append (AW.one p q) (AW.ofLeaves y)
  ·cases h
def aK{w:World}{g:Gh}{ds:List D}{vs:List Value}(h:AW w g ds vs):Rep w g (.agg ds) (.agg vs.toArray):= .agg ds vs h.1 h.2.1 h.2.2
def aJ{w:World}{g:Gh}{ds:List D}{v:Value}(h:Rep w g (.agg ds) v):∃vs:List Value,v= .agg vs.toArray∧AW w g ds vs:=by
 cases h with
 |agg _ vs u y p=>exact⟨vs,rfl,u,y,p⟩
theorem Rep.ofVal{w:World}{g:Gh}{v:Value}{d:D}(h:ofVal v=some d):Rep w g d v:=by
 cases v with
 |agg cs=>
  simp only[Vd.ofVal,Qb]at h;obtain⟨ds,u,rfl⟩:=h;exact aK (AW.ofLeaves u)
 |_=>simp only[Vd.ofVal]at h;exact(Rep.ofLeaf h).1
def NT{v:Value}{d:D}(h:ofLeaf v=some d):d.data=true:=by
 unfold ofLeaf at h;split at h<;>first|(simp only[Qa]at h;subst h;rfl)|cases h
def DI(w:World)(g:Gh)(s:Nat->D)(a:Act):Prop:=∀t,Rep w g (s t) (a.tmps.getD t undef)
def DI.ext{w i:World}{g e:Gh}{s:Nat->D}{a:Act}(h:DI w g s a)(x:GY w g i e):DI i e s a:=λt=>(h t).ext x
section
variable{P:Program}{w:World}{g:Gh}{s:Nat->D}{a:Act}
def DI.arg(h:DI w g s a){x:Operand}{y:GE}(q:AC x=some y):Rep w g (y.ev s) (a.eval x):=by
 cases x with
 |tmp t=>simp only[AC,Qa]at q;subst q;exact h t
 |const v=>
  simp only[AC,Qb]at q;obtain⟨d,u,rfl⟩:=q;exact Rep.ofVal u
 |func f=>
  simp only[AC,Qa]at q;subst q;exact .fn f [] [] rfl U
 |global _=>cases q
def DI.args(h:DI w g s a):∀{xs:List Operand} {ys:List GE},DP xs=some ys->
  (xs.map a.eval).length=(ys.map (·.ev s)).length∧∀(j:Nat) d v,(ys.map (·.ev s))[j]?=some d->(xs.map a.eval)[j]?=some v->Rep w g d v
 |[],ys,hx=>by simp only[DP,Qa]at hx;subst hx;simp
 |x::r,ys,hx=>by
  unfold DP at hx;split at hx
  ·rename_i y l u f;simp only[Qa]at hx;subst hx;obtain⟨p,q⟩:=DI.args h f;refine⟨XN,λj d v t m=>?_⟩;cases j with
   |zero=>
    simp only[Qs,QD,Qa]at t m;subst t m;exact h.arg u
   |succ j=>
    simp only[Qs,Zg]at t m;exact q j d v t m
  ·cases hx
def Rep.bool_inv{b:Bool}{v:Value}(h:Rep w g (.bool b) v):v= .bool b:=XG
def Rep.int_inv{k:IntKind}{n:Int}{v:Value}(h:Rep w g (.int k n) v):v= .int k n:=XG
def Rep.str_inv{b:List UInt8}{v:Value}(h:Rep w g (.str b) v):v= .string ⟨b.toArray⟩:=XG
def Rep.cells{d:D}{v:Value}(h:Rep w g d v)(p:d.data=true):AW w g d.cells v.cells.toList:=by
 cases h with
 |agg ds vs u y x=>exact(⟨u,y,x⟩:AW w g ds vs)
 |junk=>cases p
 |tup=>cases p
 |bool b=>exact AW.one (.bool b) rfl
 |int k n=>exact AW.one (.int k n) rfl
 |str b=>exact AW.one (.str b) rfl
 |nils t=>exact AW.one (.nils t) rfl
 |slice t xs a n c sz vv u y x r s q m j z=>exact AW.one (.slice t xs a n c sz vv u y x r s q m j z) rfl
 |ptr i o b u=>exact AW.one (.ptr i o b u) rfl
 |row i n c b e u=>exact AW.one (.row i n c b e u) rfl
 |eptr ds a vv u y x r s=>exact AW.one (.eptr ds a vv u y x r s) rfl
 |nilp=>exact AW.one .nilp rfl
 |iface t d v u y=>exact AW.one (.iface t d v u y) rfl
 |nili=>exact AW.one .nili rfl
 |fn f ds vs u y=>exact AW.one (.fn f ds vs u y) rfl
 |nilf=>exact AW.one .nilf rfl
 |nilm=>exact AW.one .nilm rfl
 |itp i b u=>exact AW.one (.itp i b u) rfl
end
end Go.Vd
namespace Go.Vd
open Go.RowKit
structure aOS (P:Program) (B:Nat) (w0:World) (m:GB) (g:Gh) (fr:Id) (w:World) (m':GB) (d:D) (v':Value) (w':World) (g':Gh):Prop where
 inv:GJ P B w0 m' w' g'
 ext:GY w g w' g'
 rep:Rep w' g' d v'
 fresh:∀i,BU m g i->¬fr<:+i->BU m' g' i
def CQ(P:Program)(B:Nat)(w0:World)(m:GB)(g:Gh)(fr:Id)(w:World)(m':GB)(d:D)(x:Sem Next):Prop:=
 ∃s i a r,x.run P w= .ok r i∧(r= .value s∨(r= .skip∧s=undef))∧aOS P B w0 m g fr w m' d s i a
section
variable{P:Program}{B:Nat}{w0 w:World}{m:GB}{g:Gh}{fr:Id}{s:Nat->D}{a:Act}
def CQ.pure{x:Sem Next}{v:Value}{d:D}(hi:GJ P B w0 m w g)(n:x.run P w= .ok (.value v) w)(p:Rep w g d v):CQ P B w0 m g fr w m d x:=
 ⟨v,w,g,_,n,.inl rfl,hi,GY.refl w g,p,λ_ h _=>h⟩
theorem Rep.slice_inv {nl : Bool} {t : Id} {xs : List D} {v : Value} (h : Rep w g (.slice nl t xs) v) :
  (nl = true ∧ xs = [] ∧ v = .slice none 0 0) ∨
  (nl = false ∧ ∃ ad n c sz, ∃ vv : Nat → Value, v = .slice (some ad) n c ∧ n = xs.length ∧ n ≤ c ∧ (∀ d ∈ xs, d.cells.length = sz) ∧
   (∀ j, j < n * sz → w.cell? (ad.add j) = some (vv j)) ∧ (∀ j, j < n * sz → (vv j).oneCell' = true) ∧
   (∀ (j : Nat) d, (flat xs)[j]? = some d → Rep w g d (vv j)) ∧ (0 < n * sz → ad.off + n * sz ≤ g.G ad.block) ∧
   (t ≠ [] → ad.off = 0 ∧ ad.spot = none ∧ g.tb t = some (ad.block, n, c, sz)) ∧ (∀ d ∈ xs, d.calm = true)) := by
 cases h with
 | nils t => exact .inl ⟨rfl, rfl, rfl⟩
 | slice t xs ad n c sz vv h1 h2 h3 h4 h5 h6 h7 h8 h9 => exact .inr ⟨rfl, ad, n, c, sz, vv, rfl, h1, h2, h3, h4, h5, h6, h7, h8, h9⟩
def Rep.len_slice{nl:Bool}{t:Id}{xs:List D}{v:Value}(h:Rep w g (.slice nl t xs) v):∃ad c,v= .slice ad xs.length c∧(nl=ad.isNone):=by
 rcases h.slice_inv with ⟨rfl,rfl,rfl⟩|⟨rfl,ad,n,c,sz,b,rfl,rfl,_⟩
 ·exact⟨none,0,rfl,rfl⟩
 ·exact⟨some ad,c,rfl,rfl⟩
def Rep.ptr_inv{i:Id}{o:Nat}{v:Value}(h:Rep w g (.ptr i o) v):∃b,v= .pointer (some ⟨b,o,none⟩)∧g.dl i=some b:=by
 cases h with
 |ptr _ _ b m=>exact⟨b,rfl,m⟩
def Rep.row_inv{i:Id}{n:Nat}{v:Value}(h:Rep w g (.row i n) v):∃b c,v= .slice (some ⟨b,0,none⟩) n c∧n<=c∧g.dl i=some b:=by
 cases h with
 |row _ _ c b o m=>exact⟨b,c,rfl,o,m⟩
def Rep.eptr_inv{ds:List D}{v:Value}(h:Rep w g (.eptr ds) v):∃ad,∃b:Nat->Value,v= .pointer (some ad)∧(∀j,j<ds.length->w.cell? (ad.add j)=some (b j))∧
  (∀j,j<ds.length->(b j).oneCell'=true)∧(∀(j:Nat) d,ds[j]?=some d->Rep w g d (b j))∧(0<ds.length->ad.off+ds.length<=g.G ad.block)∧(∀d∈ds,d.calm=true):=by
 cases h with
 |eptr _ ad b u y p n c=>exact⟨ad,b,rfl,u,y,p,n,c⟩
def Rep.tup_inv{ds:List D}{v:Value}(h:Rep w g (.tup ds) v):∃vs:List Value,v= .tuple vs.toArray∧vs.length=ds.length∧∀(j:Nat) d v,ds[j]?=some d->vs[j]?=some v->Rep w g d v:=by
 cases h with
 |tup _ vs u y=>exact⟨vs,rfl,u,y⟩
def Rep.iface_inv{t:TypeId}{d:D}{v:Value}(h:Rep w g (.iface t d) v):∃u,v= .iface t u∧Rep w g d u∧d.calm=true:=by
 cases h with
 |iface _ _ u q y=>exact⟨u,rfl,y,q⟩
def Rep.fn_inv{f:FuncId}{ds:List D}{v:Value}(h:Rep w g (.fn f ds) v):∃vs:List Value,v= .func (.func f) #[] vs.toArray∧vs.length=ds.length∧∀(j:Nat) d v,ds[j]?=some d->vs[j]?=some v->Rep w g d v:=by
 cases h with
 |fn _ _ vs u y=>exact⟨vs,rfl,u,y⟩
def Rep.nilp_inv{v:Value}(h:Rep w g .nilptr v):v= .pointer none:=XG
def Rep.nili_inv{v:Value}(h:Rep w g .nilIface v):v= .nilIface:=XG
def Rep.nilf_inv{v:Value}(h:Rep w g .nilFunc v):v= .nilFunc:=XG
def Ik(op:BinOp)(t:TypeId)(x y:Operand)(j z:Value)(h:∀cs,j≠ .agg cs)(f:j≠ .nilIface)(W:World):(eqGuard op t x y j z).run P W= .ok () W:=by
 cases j with
 |nilIface=>exact absurd rfl f
 |agg c=>exact absurd rfl (h c)
 |_=>cases op<;>rfl
theorem SU {op:BinOp} {t:TypeId} {x y:D} {d:D} {j z:Value} (q:Rep w g x j) (i:Rep w g y z) (h:AO op x y=some d):
  ∃v,(binOp op t j z).run P w= .ok v w∧Rep w g d v∧(∀cs,j≠ .agg cs)∧j≠ .nilIface:=by
 unfold AO at h
 split at h
 ·rename_i k n p a
  rw[q.int_inv,i.int_inv]
  split at h
  ·split at h
   ·rename_i m
    simp only[Qa]at h;subst h
    refine⟨_,?_,.int _ _,U,U⟩
    have:¬a<0:=O
    simp[binOp,Op.shift,this]
   ·cases h
  ·split at h
   ·rename_i m
    simp only[Qa]at h;subst h
    refine⟨_,?_,.int _ _,U,U⟩
    have:¬a<0:=O
    simp[binOp,Op.shift,this]
   ·cases h
  ·rename_i u f
   by_cases s:k≠p
   ·rw[if_pos s]at h;cases h
   rw[if_neg s]at h
   have s:k=p:=Classical.not_not.1 s
   subst s
   cases op<;>simp only[reduceCtorEq,Qa]at h<;>
    first
    |(subst h;first
      |exact⟨_,by simp[binOp,Op.intArith,intBits_and,intBits_or,intBits_xor,intBits_andNot,Op.intCmp],.int _ _,U,U⟩
      |exact⟨_,by simp[binOp,Op.intCmp],.bool _,U,U⟩)
    |(exact absurd rfl u)
    |(exact absurd rfl f)
    |(
     split at h
     ·cases h
     ·rename_i o
      simp only[Qa]at h;subst h
      exact⟨_,by simp[binOp,Op.intDiv,o],.int _ _,U,U⟩)
 ·rename_i b c
  rw[q.str_inv,i.str_inv]
  split at h
  ·split at h
   ·rename_i hl
    simp only[Qa]at h;subst h
    refine⟨.string ⟨(b++c).toArray⟩,?_,.str _,U,U⟩
    have:=run_string_add_sum (P:=P) (w:=w) ⟨b.toArray⟩ ⟨c.toArray⟩ (by simpa[ByteArray.size]using hl)
    simp only[binOp,this]
    congr 2
   ·cases h
  all_goals first|(cases h;done)|skip
  all_goals
   simp only[Qa]at h;subst h
   exact⟨_,by simp[binOp,Op.stringOp,ByteArray.toList_mk],.bool _,U,U⟩
 ·cases h
def vX{op:UnOp}{x d:D}{j:Value}(q:Rep w g x j)(h:rM op x=some d):∃v,(Op.unary op j).run P w= .ok v w∧Rep w g d v:=by
 unfold rM at h;split at h
 ·simp only[Qa]at h;subst h;rw[q.int_inv];exact⟨_,by simp[Op.unary,Op.intArith],.int _ _⟩
 ·simp only[Qa]at h;subst h;rw[q.bool_inv];exact⟨_,by simp[Op.unary],.bool _⟩
 ·simp only[Qa]at h;subst h;rw[q.int_inv];exact⟨_,by simp only[Op.unary,intBits_xor];rfl,.int _ _⟩
 ·cases h
end
section
variable{P:Program}{B:Nat}{w0 w:World}{m:GB}{g:Gh}{fr:Id}{s:Nat->D}{a:Act}
def Gp:TypeDesc->Bool
 | .struct _| .array _ _=>true
 |_=>false
def Cm{t:TypeId}{d:TypeDesc}(z:P.underlying t=some d)(p:Gp d=false){cs:Array Value}{o:Nat}{v:Value}(x:cs[o]?=some v):
  (part t cs o).run P w= .ok v w:=by
 unfold part isAgg;simp only[Sem.run_bind,run_underlying z];cases d<;>simp_all [Gp]
def Es{k:Nat}{x y:D}{j m:Value}{b:Bool}{t:TypeId}{f:TypeDesc}(q:Rep w g x j)(o:Rep w g y m)(h:Lm k x y=some b)(z:P.underlying t=some f)
  (r:(k=0∧∃k,f= .int k)∨(k=1∧f= .bool)∨(k=2∧f= .string)) (n:Nat):(Op.equalIn (n+1) t j m).run P w= .ok b w:=by
 unfold Lm at h;split at h
 ·rename_i c a i v;split at h
  ·rename_i s;subst s;simp only[Qa]at h;subst h;rw[q.int_inv,o.int_inv];rcases r with ⟨_,p,rfl⟩|⟨u,_⟩|⟨u,_⟩
   ·exact run_equalIn_int w n t _ _ _ _ z
   ·cases u
   ·cases u
  ·cases h
 ·simp only[Qa]at h;subst h;rw[q.bool_inv,o.bool_inv];rcases r with ⟨u,_⟩|⟨_,rfl⟩|⟨u,_⟩
  ·cases u
  ·exact run_equalIn_bool' w n t _ _ z
  ·cases u
 ·simp only[Qa]at h;subst h;rw[q.str_inv,o.str_inv];rcases r with ⟨u,_⟩|⟨u,_⟩|⟨_,rfl⟩
  ·cases u
  ·cases u
  ·rw[run_equalIn_string w n t _ _ z];simp[ByteArray.toList_mk]
 ·cases h
def L6{xs ys:List D}{vx vy:List Value}(q:AW w g xs vx)(t:AW w g ys vy)(n:Nat):∀{fs:List Field} {l:List (Nat×Nat)} {b:Bool},
  Lv P fs=some l->Be xs ys l=some b->(Op.eqFields (n+1) vx.toArray vy.toArray fs).run P w= .ok b w
 |[],l,b,h1,h2=>by
  simp only[Lv,Qa]at h1;subst h1;simp only[Be,Qa]at h2;subst h2;rfl
 |f::r,l,b,h1,h2=>by
  unfold Lv at h1;split at h1
  ·cases h1
  rename_i i;have z:∃k u td,P.underlying f.type=some td∧Lv P r=some u∧l=(k,f.offset)::u∧((k=0∧∃k,td= .int k)∨(k=1∧td= .bool)∨(k=2∧td= .string)):=by
   grind
  obtain⟨k,u,td,hu,hl,rfl,j⟩:=z;unfold Be at h2;split at h2
  ·rename_i x y ex ey;have c:f.offset<vx.length:=by rw[q.1];exact(Qe.1 ex).1
   have a:f.offset<vy.length:=by rw[t.1];exact(Qe.1 ey).1
   have rx:=q.2.2 _ x vx[f.offset] ex (Qc c);have ry:=t.2.2 _ y vy[f.offset] ey (Qc a);have p:Gp td=false:=by rcases j with ⟨_,s,rfl⟩|⟨_,rfl⟩|⟨_,rfl⟩<;>rfl
   have px:=Cm (w:=w) hu p (cs:=vx.toArray) (o:=f.offset) (v:=vx[f.offset]) (by simp[c]);have py:=Cm (w:=w) hu p (cs:=vy.toArray) (o:=f.offset) (v:=vy[f.offset]) (by simp[a]);have ih:=λb' (m:Be xs ys u=some b')=>L6 q t n hl m
   split at h2
   ·rename_i he;have e:=Es rx ry he hu j n;simp only[Op.eqFields,ne_eq,i,not_false_eq_true,if_true,Sem.run_bind,px,Result.andThen_ok,py,e,Zs,QG,if_false];exact ih b h2
   ·rename_i he;have e:=Es rx ry he hu j n;simp only[Qa]at h2;subst h2;simp only[Op.eqFields,ne_eq,i,not_false_eq_true,if_true,Sem.run_bind,px,Result.andThen_ok,py,e,Zb,if_true,Sem.run_pure]
   ·cases h2
  ·cases h2
def AW.part{ds:List D}{vs:List Value}(h:AW w g ds vs)(o n:Nat):AW w g ((ds.drop o).take n) ((vs.drop o).take n):=by
 refine⟨by simp[h.1],λv x=>h.2.1 v (Qx (QB x)),λj d v p x=>?_⟩;rw[Zt]at p x;split at p
 ·rw[if_pos (by assumption)]at x;rw[Qw]at p x;exact h.2.2 _ d v p x
 ·cases p
def I8{xs ys:List D}{o n:Nat}{l:List (Nat×Nat)}{b:Bool}:∀{s:List (Nat×Nat)},(s.all λp=>decide (p.2<n))=true->Be xs ys ((s.map λp=>(p.1,o+p.2))++l)=some b->
  ∃f,Be ((xs.drop o).take n) ((ys.drop o).take n) s=some f∧(f=true->Be xs ys l=some b)∧(f=false->b=false)
 |[],_,h=>⟨true,rfl,λ_=>h,λh=>Xd⟩
 |(k,q)::r,hn,h=>by
  rw[List.all_cons,QU,decide_eq_true_eq]at hn;obtain⟨z,c⟩:=hn;have u:∀zs:List D,((zs.drop o).take n)[q]?=zs[o+q]?:=λzs=>by
   rw[Zt,if_pos z,Qw]
  simp only[Qs,Q2,Be]at h ⊢;rw[u,u];split at h
  ·rename_i x y j m;revert h;cases Lm k x y with
   |none=>intro h;cases h
   |some v=>
    cases v with
    |true=>intro h;exact I8 c h
    |false=>
     intro h;simp only[Qa]at h;exact⟨false,rfl,λe=>(nomatch e),λ_=>h.symm⟩
  ·cases h
def Hv{t:TypeId}{n:Nat}{e:Array Field}(z:P.underlying t=some (.struct e))(g:CK P t=some n){cs:List Value}{o:Nat}:
  (part t cs.toArray o).run P w= .ok (.agg ((cs.drop o).take n).toArray) w:=by
 unfold CK at g;rw[Qb]at g;obtain⟨i,hi,rfl⟩:=g;unfold part isAgg;simp only[Sem.run_bind,run_underlying z,Result.andThen_ok,Sem.run_pure,if_true];simp[sizeOf,typeInfo,hi,List.extract]
def Ft{xs ys:List D}{vx vy:List Value}(m:AW w g xs vx)(hy:AW w g ys vy)(n:Nat):∀{fs:List Field} {l:List (Nat×Nat)} {b:Bool},
  Ff P fs=some l->Be xs ys l=some b->(Op.eqFields (n+2) vx.toArray vy.toArray fs).run P w= .ok b w
 |[],l,b,h1,h2=>by
  simp only[Ff,Qa]at h1;subst h1;simp only[Be,Qa]at h2;subst h2;rfl
 |f::r,l,b,h1,h2=>by
  unfold Ff at h1;split at h1
  ·cases h1
  rename_i i;have z:(∃k l' td,P.underlying f.type=some td∧Ff P r=some l'∧l=(k,f.offset)::l'∧((k=0∧∃k,td= .int k)∨(k=1∧td= .bool)∨(k=2∧td= .string)))∨
    ∃d l' l2 sz,P.underlying f.type=some (.struct d)∧Ff P r=some l'∧CK P f.type=some sz∧Lv P d.toList=some l2∧P.stoodInHeld f.type=false∧(l2.all λp=>decide (p.2<sz))=true∧l=(l2.map λp=>(p.1,f.offset+p.2))++l':=by
   split at h1
   ·simp_all
   ·simp_all
   ·simp_all
   ·grind
   ·cases h1
  rcases z with ⟨k,l',td,hu,hl,rfl,j⟩|⟨d,l',l2,sz,hu,hl,ka,pa,hp,u,rfl⟩
  ·unfold Be at h2;split at h2
   ·rename_i x y ex ey;have c:f.offset<vx.length:=by rw[m.1];exact(Qe.1 ex).1
    have a:f.offset<vy.length:=by rw[hy.1];exact(Qe.1 ey).1
    have rx:=m.2.2 _ x vx[f.offset] ex (Qc c);have ry:=hy.2.2 _ y vy[f.offset] ey (Qc a);have t:Gp td=false:=by rcases j with ⟨_,k',rfl⟩|⟨_,rfl⟩|⟨_,rfl⟩<;>rfl
    have px:=Cm (w:=w) hu t (cs:=vx.toArray) (o:=f.offset) (v:=vx[f.offset]) (by simp[c]);have py:=Cm (w:=w) hu t (cs:=vy.toArray) (o:=f.offset) (v:=vy[f.offset]) (by simp[a]);have ih:=λb' (hb:Be xs ys l'=some b')=>Ft m hy n hl hb
    split at h2
    ·rename_i he;have e:=Es rx ry he hu j (n+1);simp only[Op.eqFields,ne_eq,i,not_false_eq_true,if_true,Sem.run_bind,px,Result.andThen_ok,py,e,Zs,QG,if_false];exact ih b h2
    ·rename_i he;have e:=Es rx ry he hu j (n+1);simp only[Qa]at h2;subst h2;simp only[Op.eqFields,ne_eq,i,not_false_eq_true,if_true,Sem.run_bind,px,Result.andThen_ok,py,e,Zb,if_true,Sem.run_pure]
    ·cases h2
   ·cases h2
  ·obtain⟨b2,na,ht,s⟩:=I8 u h2;have px:=Hv (w:=w) hu ka (cs:=vx) (o:=f.offset);have py:=Hv (w:=w) hu ka (cs:=vy) (o:=f.offset);have q:P.fieldsOf f.type=d:=by simp[Program.fieldsOf,hu]
   have e:(Op.equalIn (n+2) f.type (.agg ((vx.drop f.offset).take sz).toArray) (.agg ((vy.drop f.offset).take sz).toArray)).run P w= .ok b2 w:=by
    rw[run_equalIn_struct w (n+1) f.type _ _ (by rw[q];exact hu) hp,q];exact L6 (m.part f.offset sz) (hy.part f.offset sz) n pa na
   cases b2 with
   |true=>
    simp only[Op.eqFields,ne_eq,i,not_false_eq_true,if_true,Sem.run_bind,px,Result.andThen_ok,py,e,Zs,QG,if_false];exact Ft m hy n hl (ht rfl)
   |false=>
    rw[s rfl];simp only[Op.eqFields,ne_eq,i,not_false_eq_true,if_true,Sem.run_bind,px,Result.andThen_ok,py,e,Zb,if_true,Sem.run_pure]
def Tl{xs ys:List D}{j m:Value}{b:Bool}{t:TypeId}{e:Array Field}{l:List (Nat×Nat)}(q:Rep w g (.agg xs) j)(i:Rep w g (.agg ys) m)
  (z:P.underlying t=some (.struct e)) (k:P.stoodInHeld t=false) (o:P.eqGuardType P.depth t=false) (hl:Ff P e.toList=some l) (h:Be xs ys l=some b) (x y:Operand) (op:BinOp):
  (Op.equal t j m).run P w= .ok b w∧(eqGuard op t x y j m).run P w= .ok () w:=by
 obtain⟨v,rfl,n⟩:=aJ q;obtain⟨c,rfl,u⟩:=aJ i;constructor
 ·have s:P.fieldsOf t=e:=by simp[Program.fieldsOf,z]
  unfold Op.equal Op.maxDepth;rw[run_equalIn_struct w 9999 t _ _ (by rw[s];exact z) k,s];exact Ft n u 9997 hl h
 ·cases op<;>first|rfl|(simp[eqGuard,o])
def PN:Value->Bool
 | .int .. | .string .. | .float .. | .complex ..=>false
 |_=>true
def Tp{t:TypeId}{j z:Value}{b:Bool}(x:PN j=true)(ne:Bool)(h:(Op.equal t j z).run P w= .ok b w):
  (binOp (if ne then .neq else .eql) t j z).run P w= .ok (.bool (b !=ne)) w:=by
 cases ne<;>cases j<;>first|(simp[PN]at x;done)|(cases z<;>simp[binOp,h])
def aBc:Nat->TypeDesc->Prop
 |0,d=>∃e,d= .slice e
 |1,d=>∃e,d= .pointer e
 |2,d=>∃e,d= .interface e
 |3,d=>∃p r v,d= .func p r v
 |_,_=>False
def V2{k:Nat}{x y:D}{s i:Value}{b:Bool}{t:TypeId}{td:TypeDesc}(m:Rep w g x s)(o:Rep w g y i)(h:L1 k x y=some b)(z:P.underlying t=some td)
  (j:aBc k td) (n:Nat):(Op.equalIn (n+1) t s i).run P w= .ok b w∧PN s=true∧(∀cs,s≠ .agg cs)∧(s= .nilIface->k=2):=by
 unfold L1 at h;split at h<;>first|(exfalso;simp at h;done)|(simp only[Qa]at h;subst h)
 ·obtain⟨e,rfl⟩:=j;obtain⟨ad,c,rfl,rfl⟩:=m.len_slice;obtain⟨a,c',rfl,f⟩:=o.len_slice;have:a=none:=by
   simp_all
  subst this;refine⟨?_,rfl,U,U⟩;cases ad<;>simp[Op.equalIn,run_underlying z]
 ·obtain⟨e,rfl⟩:=j;obtain⟨ad,c,rfl,q⟩:=m.len_slice;obtain⟨a,c',rfl,rfl⟩:=o.len_slice;have:ad=none:=by
   simp_all
  subst this;refine⟨?_,rfl,U,U⟩;simp[Op.equalIn,run_underlying z]
 ·obtain⟨e,rfl⟩:=j;rw[m.nilp_inv,o.nilp_inv];exact⟨Xs,rfl,U,U⟩
 ·obtain⟨e,rfl⟩:=j;obtain⟨b,rfl,_⟩:=o.ptr_inv;rw[m.nilp_inv];exact⟨Xs,rfl,U,U⟩
 ·obtain⟨e,rfl⟩:=j;obtain⟨b,rfl,_⟩:=m.ptr_inv;rw[o.nilp_inv];exact⟨Xs,rfl,U,U⟩
 ·obtain⟨e,rfl⟩:=j;obtain⟨ad,vv,rfl,_⟩:=o.eptr_inv;rw[m.nilp_inv];exact⟨Xs,rfl,U,U⟩
 ·obtain⟨e,rfl⟩:=j;obtain⟨ad,vv,rfl,_⟩:=m.eptr_inv;rw[o.nilp_inv];exact⟨Xs,rfl,U,U⟩
 ·obtain⟨e,rfl⟩:=j;rw[m.nili_inv,o.nili_inv];exact⟨Xs,rfl,U,λ_=>rfl⟩
 ·obtain⟨e,rfl⟩:=j;obtain⟨u,rfl,_,_⟩:=o.iface_inv;rw[m.nili_inv];exact⟨Xs,rfl,U,λ_=>rfl⟩
 ·obtain⟨e,rfl⟩:=j;obtain⟨u,rfl,_,_⟩:=m.iface_inv;rw[o.nili_inv];exact⟨Xs,rfl,U,U⟩
 ·obtain⟨p,r,v,rfl⟩:=j;rw[m.nilf_inv,o.nilf_inv];exact⟨Xs,rfl,U,U⟩
 ·obtain⟨p,r,v,rfl⟩:=j;obtain⟨vs,rfl,_⟩:=o.fn_inv;rw[m.nilf_inv];exact⟨Xs,rfl,U,U⟩
 ·obtain⟨p,r,v,rfl⟩:=j;obtain⟨vs,rfl,_⟩:=m.fn_inv;rw[o.nilf_inv];exact⟨Xs,rfl,U,U⟩
def WD(op:BinOp)(t:TypeId)(x y:Operand)(j z:Value)(h:∀cs,j≠ .agg cs)(f:j= .nilIface->(Gi x||Gi y)=true)(W:World):(eqGuard op t x y j z).run P W= .ok () W:=by
 cases j with
 |nilIface=>
  have:=f rfl;cases op<;>first|rfl|(cases z<;>first|rfl|(cases x<;>cases y<;>first|rfl|(simp[Gi]at this)))
 |agg c=>exact absurd rfl (h c)
 |_=>cases op<;>rfl
end
def pK{P:Program}{t n:Nat}(h:CK P t=some n):∃i,P.info? t=some i∧i.size=n:=by
 simp_all [CK]
def GH{P:Program}{t n:Nat}(h:CK P t=some n)(w:World):(sizeOf t).run P w= .ok n w:=by
 obtain⟨i,hi,rfl⟩:=pK h;simp[sizeOf,typeInfo,hi]
def Hq{P:Program}{t:TypeId}{d:TypeDesc}(h:P.underlying t=some d)(w:World):(isAgg t).run P w= .ok (Gp d) w:=by
 unfold isAgg;simp only[Sem.run_bind,run_underlying h,Result.andThen_ok];cases d<;>rfl
def Rep.un1{w:World}{g:Gh}{d:D}{v:Value}(h:Rep w g d v):Rep w g d.un1 v:=by
 cases h with
 |nils t=>exact .nils []
 |slice t xs a n c sz vv u y p r m q x j z=>exact .slice [] xs a n c sz vv u y p r m q x (λh=>absurd rfl h) z
 |junk v=>exact .junk v
 |bool b=>exact .bool b
 |int k n=>exact .int k n
 |str s=>exact .str s
 |ptr i o b u=>exact .ptr i o b u
 |row i n c b e u=>exact .row i n c b e u
 |eptr ds a vv u y p r m=>exact .eptr ds a vv u y p r m
 |nilp=>exact .nilp
 |agg ds vs u y p=>exact .agg ds vs u y p
 |tup ds vs u y=>exact .tup ds vs u y
 |iface t d v u y=>exact .iface t d v u y
 |nili=>exact .nili
 |fn f ds vs u y=>exact .fn f ds vs u y
 |nilf=>exact .nilf
 |nilm=>exact .nilm
 |itp i b u=>exact .itp i b u
def Rep.un{w:World}{g:Gh}{d:D}{v:Value}(h:Rep w g d v):Rep w g d.un v:=by
 cases d with
 |agg cs=>
  obtain⟨vs,rfl,u,y,o⟩:=aJ h;refine .agg _ vs (by simp[u]) y (λj d v p x=>?_);rw[Qi,Qb]at p;obtain⟨n,i,rfl⟩:=p;exact(o j n v i x).un1
 |slice nl t xs=>exact h.un1
 |_=>exact h
def aEP{d:D}(h:d.data=true):d.un.data=true:=by cases d<;>first|exact h|rfl
theorem OY(d:D):d.un.cells.length=d.cells.length:=by cases d<;>simp[D.un,D.cells]
def Pz{P:Program}{t:TypeId}(h:lU P t=some none):∃d,P.underlying t=some d∧Gp d=false:=by
 unfold lU at h;split at h
 ·simp at h
 ·simp at h
 ·rename_i d n1 n2 p;refine⟨d,p,?_⟩;cases d<;>first|rfl|(exact absurd rfl (n1 _))|(exact absurd rfl (n2 _ _))
 ·cases h
def Py{P:Program}{t n:Nat}(h:lU P t=some (some n)):∃d,P.underlying t=some d∧Gp d=true∧CK P t=some n:=by
 unfold lU at h;split at h
 ·rename_i p;simp only[Qb,Qa]at h;obtain⟨x,q,rfl⟩:=h;exact⟨_,p,rfl,q⟩
 ·rename_i p;simp only[Qb,Qa]at h;obtain⟨x,q,rfl⟩:=h;exact⟨_,p,rfl,q⟩
 ·simp at h
 ·cases h
def Ce{sz:Nat}:∀{xs:List D},(∀d∈xs,d.cells.length=sz)->(flat xs).length=xs.length*sz
 |[],_=>XH
 |x::r,h=>by
  have ih:=Ce (xs:=r) (λd p=>h d (Qq _ p));simp only[flat,Zu,Qo,ih,h x (Qn ..),QQ,Nat.one_mul];omega
theorem Ea{sz:Nat}:∀{xs:List D} {k j:Nat},(∀d∈xs,d.cells.length=sz)->(s:k<xs.length)->j<sz->(flat xs)[k*sz+j]?=(xs[k]).cells[j]?
 |x::r,0,j,h,s,hj=>by
  simp only[flat,Nat.zero_mul,Qu,List.getElem_cons_zero];rw[Qm (by rw[h x (Qn ..)];exact hj)]
 |x::r,k+1,j,h,s,hj=>by
  have q:=h x (Qn ..);have ih:=Ea (xs:=r) (k:=k) (j:=j) (λd p=>h d (Qq _ p)) (by simpa using s) hj;simp only[flat,List.getElem_cons_succ];rw[QF (by rw[q,QQ];omega),q,←ih];congr 1;rw[QQ];omega
def SJ{sz:Nat}:∀{xs:List D} (l:Nat),(∀d∈xs,d.cells.length=sz)->flat (xs.drop l)=(flat xs).drop (l*sz)
 |[],l,_=>XH
 |x::r,0,_=>U
 |x::r,l+1,h=>by
  have q:=h x (Qn ..);rw[List.drop_succ_cons,SJ l (λd p=>h d (Qq _ p))];simp only[flat];rw[show(l+1)*sz=x.cells.length+l*sz by rw[q,QQ];omega,←Zo,List.drop_left]
def Io:∀(xs ys:List D),flat (xs++ys)=flat xs++flat ys
 |[],ys=>XH
 |x::r,ys=>by simp[flat,Io r ys]
def RC{sz:Nat}{xs:List D}{n:Nat}{j:Nat}{d:D}(h:(flat (xs.take n))[j]?=some d):(flat xs)[j]?=some d:=by
 have e:flat xs=flat (xs.take n)++flat (xs.drop n):=by rw[←Io,List.take_append_drop]
 rw[e,Qm (Qe.1 h).1];exact h
def tD(l:List UInt8)(n:Nat):(ByteArray.mk l.toArray)[n]?=l[n]?:=by
 by_cases h:n<l.length
 ·rw[Qc h];rw[getElem?_pos (ByteArray.mk l.toArray) n (by simpa[ByteArray.size]using h)];rfl
 ·rw[Qj O];exact getElem?_neg (ByteArray.mk l.toArray) n (by simpa[ByteArray.size]using h)
def RE(l:List UInt8)(a b:Nat):(ByteArray.mk l.toArray).extract a b=⟨((l.drop a).take (b-a)).toArray⟩:=by
 apply ByteArray.ext;rw[ByteArray.data_extract];simp[Q7,QV]
section
variable{P:Program}{B:Nat}{w0 w:World}{m:GB}{g:Gh}{fr:Id}{s:Nat->D}{a:Act}
theorem Fi(h:DI w g s a){x:Option Operand}{y:Option GE}(p:HZ x=some y){b r n:Nat}(m:Fk s y b r=some n):
  (x=none∧n=b∧y=none)∨(∃o k,x=some o∧a.eval o= .int k (n:Int)∧n<=r):=by
 cases x with
 |none=>
  simp only[HZ,Qa]at p;subst p;simp only[Fk,Qa]at m;exact .inl ⟨rfl,m.symm,rfl⟩
 |some o=>
  simp only[HZ,Qb]at p;obtain⟨z,i,rfl⟩:=p;have c:=h.arg i;simp only[Fk]at m;split at m
  ·rename_i k q f;rw[f]at c;split at m
   ·rename_i v;simp only[Qa]at m;refine .inr ⟨o,k,rfl,?_,O⟩;rw[c.int_inv];congr 1;omega
   ·cases m
  ·cases m
def Ef(h:DI w g s a){lo hi:Option Operand}{q r:Option GE}(na:HZ lo=some q)(t:HZ hi=some r)(v:Bool){len cap l y:Nat}(j:len<=cap)
  (i:Fk s r len len=some y) (m:Fk s q 0 y=some l):
  (Instr.sliceBounds v len cap (lo.map a.eval) (hi.map a.eval) none).run P w= .ok (l,y,cap) w∧l<=y∧y<=len:=by
 have ta:y<=len:=by
  grind [Fi]
 have b:l<=y:=by
  grind [Fi]
 refine⟨?_,b,ta⟩;unfold Instr.sliceBounds;rcases Fi h t i with ⟨rfl,rfl,_⟩|⟨o,k,rfl,e,u⟩<;>rcases Fi h na m with ⟨rfl,rfl,_⟩|⟨o',p,rfl,c,z⟩
 ·simp
 ·simp[Instr.sliceBound,asIntOf,c];intro;omega
 ·simp[Instr.sliceBound,asIntOf,e];intro;omega
 ·simp[Instr.sliceBound,asIntOf,e,c];rw[if_pos O];simp;intro;omega
end
section
variable{P:Program}{B:Nat}{w0 w:World}{m:GB}{g:Gh}{fr:Id}{s:Nat->D}{a:Act}
theorem Bz:∀{n o:Nat} {i:Id} {ds:List D},Ag m i o n=some ds->ds.length=n∧∀j,j<n->m i (o+j)=ds[j]?
 |0,o,i,ds,h=>by simp only[Ag,Qa]at h;subst h;simp
 |n+1,o,i,ds,h=>by
  unfold Ag at h;split at h
  ·rename_i d t;rw[Qb]at h;obtain⟨r,c,rfl⟩:=h;obtain⟨p,q⟩:=Bz c;refine⟨by simp[p],λj u=>?_⟩;cases j with
   |zero=>simpa using t
   |succ j=>
    have:=q j O;rw[show o+(j+1)=o+1+j by omega,this];simp
  ·cases h
def GJ.cells(h:GJ P B w0 m w g){i:Id}{b o n:Nat}{ds:List D}(f:g.dl i=some b)(c:Ag m i o n=some ds):
  ∃vs:List Value,AW w g ds vs∧∀j v,vs[j]?=some v->w.cell? ⟨b,o+j,none⟩=some v:=by
 obtain⟨_,_,cs,T,y,q⟩:=h.obj i b f;obtain⟨hl,a⟩:=Bz c;have z:∀j,j<n->∃d v,ds[j]?=some d∧cs[o+j]?=some v∧v.oneCell'=true∧Rep w g d v:=by
  simp_all
 refine⟨(Qt n).map λj=>cs.getD (o+j) undef,⟨by simp[hl],λv x=>?_,λj d v p x=>?_⟩,λj v x=>?_⟩
 ·rw[Qv]at x;obtain⟨j,u,rfl⟩:=x;obtain⟨d,v,_,t,r,_⟩:=z j (Ql.1 u);rw[Qh,t];exact r
 ·have u:j<n:=by have:=(Qe.1 p).1;omega
  obtain⟨k,s,e1,t,r,e⟩:=z j u;rw[e1]at p;simp only[Qa]at p;subst p;rw[Qi,Zq u,QY,Qa,Qh,t]at x;subst x;exact e
 ·have u:j<n:=by have:=(Qe.1 x).1;simpa using this
  obtain⟨k,s,e1,t,r,e⟩:=z j u;rw[Qi,Zq u,QY,Qa,Qh,t]at x;subst x;simp[World.cell?,y,t]
def GJ.cell(h:GJ P B w0 m w g){i:Id}{b o:Nat}{d:D}(f:g.dl i=some b)(u:m i o=some d):
  ∃v,w.cell? ⟨b,o,none⟩=some v∧v.oneCell'=true∧Rep w g d v:=by
 obtain⟨_,_,cs,T,y,q⟩:=h.obj i b f;obtain⟨v,t,r,e⟩:=q _ _ u;exact⟨v,by simp[World.cell?,y,t],r,e⟩
def Fr(b o j:Nat):(⟨b,o,none⟩:Addr).add j=⟨b,o+j,none⟩:=by unfold Addr.add;split<;>simp_all
def DQ{t:TypeId}(s:lU P t=some none){ad:Addr}{v:Value}(o:w.cell? ad=some v):(loadVar t ad).run P w= .ok v w:=by
 obtain⟨d,z,p⟩:=Pz s;simp[loadVar,Hq z,p,o]
def Eg{t n:Nat}(s:lU P t=some (some n)){ad:Addr}{vs:List Value}(hl:vs.length=n)(o:∀j v,vs[j]?=some v->w.cell? (ad.add j)=some v):
  (loadVar t ad).run P w= .ok (.agg vs.toArray) w:=by
 obtain⟨d,z,p,r⟩:=Py s;subst hl;simp[loadVar,Hq z,p,GH r,run_loadCells_list w ad vs o]
def Rs{t n:Nat}(r:CK P t=some n){b o:Nat}{cs:Array Value}{T:TypeId}(y:w.heap[b]?=some (.cells cs T (0,0))){v:Value}(x:v.cells.size=n)
  (q:∀u∈v.cells.toList,u.oneCell'=true) (f:o+n<=cs.size):
  (storeVar t ⟨b,o,none⟩ v).run P w= .ok () (w.setRow b (cs.toList.take o++v.cells.toList++cs.toList.drop (o+v.cells.toList.length)).toArray):=by
 unfold storeVar;simp only[Sem.run_bind,GH r,Result.andThen_ok];rw[if_neg (by simp[x])];have:=run_storeCells_at (P:=P) b o T v.cells.toList 0 cs w y (by simp[x];omega) q;simpa using this
def Ge(e:TypeId)(cells:Array Value)(w:World):(newRow e cells).run P w= .ok ⟨w.heap.size,0,none⟩ (w.alloc (.cells cells e)):=by
 simp only[newRow,Sem.run_bind,run_newObj,Result.andThen_ok,Sem.run_pure];rfl
def AW.flat{sz:Nat}:∀{xs:List D} {vs:List Value},(∀d∈xs,d.data=true∧d.cells.length=sz)->vs.length=xs.length->(∀(j:Nat) d v,xs[j]?=some d->vs[j]?=some v->Rep w g d v)->
  AW w g (flat xs) (vs.flatMap λv=>v.cells.toList)
 |[],vs,_,hl,_=>by
  have:vs=[]:=QM Xl;subst this;exact AW.nil w g
 |x::r,[],_,hl,_=>by cases hl
 |x::r,v::vs,h,hl,hr=>by
  have f:=hr 0 x v rfl rfl;simp only[Vd.flat,Zd];exact AW.append (f.cells (h x (Qn ..)).1) (AW.flat (λd p=>h d (Qq _ p)) Xl (λj d u p z=>hr (j+1) d u XN XK))
def aH{t:Id}{xs:List D}{vs:List Value}{b n c sz:Nat}{cur:Array Value}{T:TypeId}{fz:Nat×Nat}(hh:w.heap[b]?=some (.cells cur T fz))(r:n=xs.length)(o:n<=c)
  (q:∀d∈xs,d.cells.length=sz) (y:AW w g (flat xs) vs) (x:∀(j:Nat) v,vs[j]?=some v->cur[j]?=some v) (s:n*sz<=g.G b) (k:t≠[]->g.tb t=some (b,n,c,sz)) (e:∀d∈xs,d.calm=true):
  Rep w g (.slice false t xs) (.slice (some ⟨b,0,none⟩) n c):=by
 have m:=Ce q;have i:vs.length=n*sz:=by rw[y.1,m,r]
 refine .slice t xs ⟨b,0,none⟩ n c sz (λj=>vs.getD j undef) r o q (λj u=>?_) (λj u=>?_) (λj d p=>?_) (λ_=>by simpa using s) (λh=>⟨rfl,rfl,k h⟩) e
 ·have z:j<vs.length:=by omega
  rw[Fr,Qu];have:=x j vs[j] (Qc z);simp[World.cell?,hh,this,Q0,Qc z]
 ·have z:j<vs.length:=by omega
  simp only[Q0,Qc z,QE];exact y.2.1 _ (Q1 z)
 ·have z:j<vs.length:=by have:=(Qe.1 p).1;rw[y.1];exact this
  simp only[Q0,Qc z,QE];exact y.2.2 j d _ p (Qc z)
def NN:∀(vs:List Value)(k:Nat)(off:Nat)(cs:Array Value),off+k+vs.length<=cs.size->
  ((vs.zipIdx k).foldl (λcs (x:Value×Nat)=>cs.setIfInBounds (off+x.2) x.1) cs).toList=cs.toList.take (off+k)++vs++cs.toList.drop (off+k+vs.length)
 |[],k,off,cs,_=>U
 |v::r,k,off,cs,h=>by
  simp only[List.zipIdx_cons,Q8];rw[NN r (k+1) off (cs.setIfInBounds (off+k) v) (by simp at h ⊢;omega)];simp only[Array.toList_setIfInBounds,Qo];have hl:off+k<cs.toList.length:=by simp at h ⊢;omega
  rw[show off+(k+1)=off+k+1 by omega];rw[List.take_succ_eq_append_getElem Xl];rw[List.take_set_of_le O];rw[List.drop_set_of_lt O];simp only[List.getElem_set_self,QK,Q2,Zl];rw[show off+k+1+r.length=off+k+(r.length+1)by omega]
def EP(vs:Array Value)(off:Nat)(cs:Array Value)(h:off+vs.size<=cs.size):
  (vs.zipIdx.foldl (λcs (x:Value×Nat)=>cs.setIfInBounds (off+x.2) x.1) cs).toList=cs.toList.take off++vs.toList++cs.toList.drop (off+vs.toList.length):=by
 have:=NN vs.toList 0 off cs Xp;rw[←Array.foldl_toList,Array.toList_zipIdx];simpa using this
end
structure At (P:Program) (B:Nat) (w0 w:World) (m:GB) (g:Gh) (fr:Id) (s:Nat->D) (a:Act):Prop where
 inv:GJ P B w0 m w g
 slots:DI w g s a
 fresh:∀i,fr<:+i->BU m g i
section
variable{P:Program}{B:Nat}{w0 w:World}{m:GB}{g:Gh}{fr:Id}{s:Nat->D}{a:Act}{S:Gz}{d:D}{u:GF}
def At.self(h:At P B w0 w m g fr s a):BU m g fr:=h.fresh fr (List.suffix_refl fr)
def Et{i:Id}(s:BU m g i)(c:¬fr<:+i)(ds:List D)(b:Nat):BU (m.put fr 0 ds) (g.obj fr b) i:=by
 have:i≠fr:=λe=>c Yf
 exact⟨λo=>by rw[aA this];exact s.1 o,by simp only[Gh.obj];rw[if_neg this];exact s.2.1,s.2.2⟩
def CN{i:Id}(s:BU m g i)(y:¬fr<:+i)(x b n c sz:Nat):BU (m.put fr 0 [.tok x]) (g.tok fr b n c sz) i:=by
 have:i≠fr:=λe=>y Yf
 exact⟨λo=>by rw[aA this];exact s.1 o,s.2.1,by simp only[Gh.tok];rw[if_neg this];exact s.2.2⟩
def iG{t:TypeId}{o:Oper}(h:At P B w0 w m g fr s a){z:D}(u:CU P t=some z)(f:o.op= .alloc t):
  CQ P B w0 m g fr w (m.put fr 0 z.cells) (.ptr fr 0) (execOp a.eval o):=by
 unfold CU at u;split at u
 ·rename_i i hi;split at u
  ·rename_i v x;have n:Rep w g z v:=Rep.ofVal u;have p:z.data=true:=by
    cases v<;>first|(simp only[ofVal,Qb]at u;obtain⟨l,_,rfl⟩:=u;rfl)|(simp only[ofVal]at u;exact NT u)
   have j:=n.cells p;refine⟨.pointer (some ⟨w.heap.size,0,none⟩),w.alloc (.cells v.cells t),g.obj fr w.heap.size,.value (.pointer (some ⟨w.heap.size,0,none⟩)),?_,.inl rfl,?_⟩
   ·simp only[execOp,f,Instr.alloc,zeroValue,Sem.run_bind,typeInfo,run_program,Result.andThen_ok,hi,x,Sem.run_pure,newVar,Ge]
   ·have:=h.inv.newObj h.self (ds:=z.cells) (vs:=v.cells.toList) t j;rw[QC]at this;exact⟨this,GY.newObj _ h.inv.gz h.self.2.1,Rep.newObj _ g fr _,λi e c=>Et e c _ _⟩
  ·cases u
 ·cases u
def aA7{t:TypeId}{o:Oper}{x:Operand}{y:GE}(h:At P B w0 w m g fr s a)(q:AC x=some y)(p:(y.ev s).data=true)(f:o.op= .box t x):
  CQ P B w0 m g fr w (m.put fr 0 (y.ev s).cells) (.ptr fr 0) (execOp a.eval o):=by
 have n:=h.slots.arg q;have v:=n.cells p;refine⟨.pointer (some ⟨w.heap.size,0,none⟩),w.alloc (.cells (a.eval x).cells t),g.obj fr w.heap.size,.value (.pointer (some ⟨w.heap.size,0,none⟩)),?_,.inl rfl,?_⟩
 ·simp only[execOp,f,Instr.box,Sem.run_bind,Result.andThen_ok,Sem.run_pure,newVar,Ge]
 ·have:=h.inv.newObj h.self (ds:=(y.ev s).cells) (vs:=(a.eval x).cells.toList) t v;rw[QC]at this;exact⟨this,GY.newObj _ h.inv.gz h.self.2.1,Rep.newObj _ g fr _,λi e c=>Et e c _ _⟩
def rV{t:TypeId}{o:Oper}{x:Operand}{y:GE}{k:Option Nat}(h:At P B w0 w m g fr s a)(hk:lU P t=some k)(q:AC x=some y)(ho:o.op= .load t x)
  (z:Aw S s m fr (.load k y)=some (d,u)):u=[]∧CQ P B w0 m g fr w m d (execOp a.eval o):=by
 have c:=h.slots.arg q;have la:∀ad v,a.eval x= .pointer (some ad)->(loadVar t ad).run P w= .ok v w->(execOp a.eval o).run P w= .ok (.value v) w:=by
  intro ad v e1 e2;simp only[execOp,ho,Instr.loadAt,e1,Instr.sureAddr,Sem.run_bind,Result.andThen_ok,Sem.run_pure,e2]
 simp only[Aw]at z;split at z
 ·rename_i i o' e;rw[e]at c;obtain⟨b,e1,f⟩:=c.ptr_inv;rw[Qb]at z;obtain⟨d',hm,z⟩:=z;simp only[Qd]at z;obtain⟨rfl,rfl⟩:=z;obtain⟨v,c1,c2,c3⟩:=h.inv.cell f hm;exact⟨rfl,.pure h.inv (la _ _ e1 (DQ hk c1)) c3⟩
 ·rename_i i o' n e;rw[e]at c;obtain⟨b,e1,f⟩:=c.ptr_inv;rw[Qb]at z;obtain⟨ds,hm,z⟩:=z;simp only[Qd]at z;obtain⟨rfl,rfl⟩:=z;obtain⟨vs,c1,c2⟩:=h.inv.cells f hm;have hl:=(Bz hm).1;exact⟨rfl,.pure h.inv (la _ _ e1 (Eg hk (by rw[c1.1,hl]) (λj v hv=>by rw[Fr];exact c2 j v hv))) (aK c1)⟩
 ·rename_i ds e;rw[e]at c;obtain⟨ad,vv,e1,q1,q2,q3,q4,q5⟩:=c.eptr_inv;rw[Qb]at z;obtain⟨d',hm,z⟩:=z;simp only[Qd]at z;obtain⟨rfl,rfl⟩:=z;have h0:ds[0]?=some d':=by rw[←List.head?_eq_getElem?];exact hm
  have hl:0<ds.length:=(Qe.1 h0).1;exact⟨rfl,.pure h.inv (la _ _ e1 (DQ hk (by have:=q1 0 hl;simpa[Addr.add]using this))) (q3 0 _ h0)⟩
 ·rename_i ds n e;rw[e]at c;obtain⟨ad,vv,e1,q1,q2,q3,q4,q5⟩:=c.eptr_inv;split at z
  ·rename_i hn;simp only[Qa,Qd]at z;obtain⟨rfl,rfl⟩:=z;have r:((Qt n).map vv).length=n:=by simp
   refine⟨rfl,.pure h.inv (la _ _ e1 (Eg hk r (λj v hv=>?_))) (aK ⟨Xc,λv hv=>?_,λj d v p hv=>?_⟩)⟩
   ·grind
   ·grind
   ·grind
  ·cases z
 ·cases z
theorem hZ{t:TypeId}{o:Oper}{x v:Operand}{y z:GE}{n:Nat}(h:At P B w0 w m g fr s a)(r:CK P t=some n)(qa:0<n)(q:AC x=some y)(hv:AC v=some z)(ho:o.op= .store t x v)
  (he:Aw S s m fr (.store n y z)=some (d,u)):CQ P B w0 m g fr w (GF.app m u) d (execOp a.eval o):=by
 have hr:=h.slots.arg q;have k:=h.slots.arg hv;simp only[Aw]at he;split at he
 ·rename_i i o' e;rw[e]at hr;obtain⟨b,e1,hb⟩:=hr.ptr_inv;split at he
  ·rename_i hc;obtain⟨c1,c2,c3⟩:=hc;simp only[Qa,Qd]at he;obtain⟨rfl,rfl⟩:=he;rw[Zf]at c3;obtain⟨ga,f⟩:=c3;obtain⟨vs,r1,r2⟩:=h.inv.cells hb f;obtain⟨_,_,cs,T,hh,oa⟩:=h.inv.obj i b hb;have c:=k.cells c1;have ka:(a.eval v).cells.size=n:=by have:=c.1;simp at this;omega
   have p:o'+n<=cs.size:=by
    have hl:=(Bz f).1;have j:vs[n-1]?=some (vs[n-1]'(by rw[r1.1];omega)):=Qc _;have:=r2 (n-1) _ j;simp only[World.cell?,hh]at this;have:=(Qf.1 (by simpa using this)).1;omega
   refine⟨undef,w.setRow b (cs.toList.take o'++(a.eval v).cells.toList++cs.toList.drop (o'+(a.eval v).cells.toList.length)).toArray,g,.skip,?_,.inr ⟨rfl,rfl⟩,?_⟩
   ·have:=Rs r hh (v:=a.eval v) ka c.2.1 p;simp only[execOp,ho,Instr.storeAt,e1,Instr.sureAddr,Sem.run_bind,Result.andThen_ok,Sem.run_pure,this]
   ·have hG:=(h.inv.obj i b hb).2.1;refine⟨?_,GY.setRow hG,.junk _,λi' hf fa=>?_⟩
    ·exact h.inv.store hb hh (ds:=(z.ev s).cells) (us:=(a.eval v).cells.toList) c O
    ·refine⟨λo=>?_,hf.2⟩;simp only[GF.app];rw[aA (by rintro rfl;rw[hf.2.1]at hb;cases hb)];exact hf.1 o
  ·cases he
 ·cases he
end
section
variable{P:Program}{B:Nat}{w0 w:World}{m:GB}{g:Gh}{fr:Id}{s:Nat->D}{a:Act}{S:Gz}{d:D}{u:GF}
def iE{t:TypeId}{f:Nat}{o:Oper}{x:Operand}{y:GE}{r:Array Field}{fd:Field}{n:Nat}(h:At P B w0 w m g fr s a)(hu:P.underlying t=some (.struct r))(hf:r[f]?=some fd)
  (hn:CK P fd.type=some (n+1)) (q:AC x=some y) (ho:o.op= .fieldAddr t x f) (z:Aw S s m fr (.faddr fd.offset y)=some (d,u)):u=[]∧CQ P B w0 m g fr w m d (execOp a.eval o):=by
 have c:=h.slots.arg q;have la:∀ad,a.eval x= .pointer (some ad)->(execOp a.eval o).run P w= .ok (.value (.pointer (some (ad.add fd.offset)))) w:=by
  intro ad e;simp[execOp,ho,Instr.fieldAt,run_underlying hu,hf,e,Instr.sureAddr,fieldPlace,GH hn]
 simp only[Aw]at z;split at z
 ·rename_i i o' e;rw[e]at c;obtain⟨b,v,hb⟩:=c.ptr_inv;simp only[Qa,Qd]at z;obtain⟨rfl,rfl⟩:=z;refine⟨rfl,.pure h.inv (la _ v) ?_⟩;rw[Fr];exact .ptr i _ b hb
 ·rename_i ds e;rw[e]at c;obtain⟨ad,vv,v,q1,q2,q3,q4,q5⟩:=c.eptr_inv;split at z
  ·rename_i hl;simp only[Qa,Qd]at z;obtain⟨rfl,rfl⟩:=z;refine⟨rfl,.pure h.inv (la _ v) (.eptr _ _ (λj=>vv (fd.offset+j)) (λj hj=>?_) (λj hj=>?_) (λj d p=>?_) (λk=>?_) (λd p=>q5 d (Qx p)))⟩
   ·grind [add_add]
   ·grind
   ·simp_all
   ·rw[Dj,Fo];simp at k ⊢;have:=q4 O;omega
  ·cases z
 ·cases z
def iD{t:TypeId}{f:Nat}{o:Oper}{x:Operand}{y:GE}{r:Array Field}{fd:Field}{k:Option Nat}(h:At P B w0 w m g fr s a)(hu:P.underlying t=some (.struct r))(hf:r[f]?=some fd)
  (hk:lU P fd.type=some k) (q:AC x=some y) (ho:o.op= .field t x f) (z:Aw S s m fr (.field k fd.offset y)=some (d,u)):u=[]∧CQ P B w0 m g fr w m d (execOp a.eval o):=by
 have hr:=h.slots.arg q;simp only[Aw]at z;split at z
 ·rename_i cs e;rw[e]at hr;obtain⟨vs,e1,r1⟩:=aJ hr;rw[Qb]at z;obtain⟨d',p,z⟩:=z;simp only[Qd]at z;obtain⟨rfl,rfl⟩:=z;obtain⟨td,c,b⟩:=Pz hk;have hv:fd.offset<vs.length:=by rw[r1.1];exact(Qe.1 p).1
  refine⟨rfl,.pure (v:=vs[fd.offset]) h.inv ?_ (r1.2.2 _ _ _ p (Qc hv))⟩;have:=Cm (w:=w) c b (cs:=vs.toArray) (o:=fd.offset) (v:=vs[fd.offset]) (by simp[hv]);simp[execOp,ho,Instr.field,run_underlying hu,hf,e1,asAgg,this]
 ·rename_i cs n e;rw[e]at hr;obtain⟨vs,e1,r1⟩:=aJ hr;split at z
  ·rename_i hl;simp only[Qa,Qd]at z;obtain⟨rfl,rfl⟩:=z;obtain⟨td,c,b,i⟩:=Py hk;refine⟨rfl,.pure (v:= .agg ((vs.drop fd.offset).take n).toArray) h.inv ?_ (aK ⟨by simp[r1.1],λv hv=>?_,λj d v p hv=>?_⟩)⟩
   ·simp only[execOp,ho,Instr.field,Sem.run_bind,run_underlying hu,hf,e1,asAgg,part,Hq c,b,Result.andThen_ok,GH i,Sem.run_pure,if_true];congr 3;simp[Q7,QV]
   ·exact r1.2.1 v (Qx (QB hv))
   ·have hj:j<n:=by
     rcases Zv j n with h1|h1
     ·exact h1
     ·rw[Qj Xc]at p;cases p
    rw[Qp hj,Qw]at p hv;exact r1.2.2 _ d v p hv
  ·cases z
 ·cases z
def LB{d:D}(h:d.calm=true):∀x∈d.cells,x.calm=true:=by
 intro x q;have i:∀x:D,x.calm1=true->x.calm=true:=by
  intro x q;cases x<;>first|exact q|(simp[D.calm1]at q)
 cases d with
 |agg cs=>exact i x (Qy.1 h x q)
 |_=>simp only[D.cells,Q_]at q;subst q;exact h
def iB{t e:TypeId}{o:Oper}{x i:Operand}{y z:GE}{sz:Nat}(h:At P B w0 w m g fr s a)(hu:P.underlying t=some (.slice e))(hs:CK P e=some sz)
  (hx:AC x=some y) (hi:AC i=some z) (ho:o.op= .indexAddr t x i) (he:Aw S s m fr (.iaddr sz y z)=some (d,u)):u=[]∧CQ P B w0 m g fr w m d (execOp a.eval o):=by
 have hr:=h.slots.arg hx;have aa:=h.slots.arg hi;simp only[Aw]at he;split at he
 ·rename_i nl t' xs k n ex ei;rw[ex]at hr;rw[ei]at aa;split at he
  ·rename_i h0;split at he
   ·rename_i d' hd;split at he
    ·rename_i ka;simp only[Qa,Qd]at he;obtain⟨rfl,rfl⟩:=he;have da:n.toNat<xs.length:=(Qe.1 hd).1;rcases hr.slice_inv with ⟨_,rfl,_⟩|⟨rfl,ad,n',c,oa,vv,ev,rfl,h2,h3,h4,h5,h6,h7,h8,h9⟩
     ·simp at da
     ·have p:d'∈xs:=Qr hd;have:oa=sz:=by rw[←h3 d' p];exact ka
      subst this;have pa:xs[n.toNat]=d':=by rw[Qc da]at hd;simpa using hd
      have q:n.toNat*oa+oa<=xs.length*oa:=by rw[←Zw];exact QA _ da
      refine⟨rfl,.pure (v:= .pointer (some (ad.add (n.toNat*oa)))) h.inv ?_ (.eptr _ _ (λj=>vv (n.toNat*oa+j)) (λj hj=>?_) (λj hj=>?_) (λj d2 r=>?_) (λhp=>?_) (LB (h9 d' p)))⟩
      ·have ia:(0:Int)<=n∧n<(xs.length:Int):=by omega
       simp[execOp,ho,Instr.indexAt,asIntOf,aa.int_inv,ev,run_underlying hu,ia,GH hs]
      ·grind [add_add]
      ·exact h5 _ O
      ·grind [Ea]
      ·rw[Dj,Fo];have hz:0<xs.length*oa:=by omega
       have:=h7 hz;omega
    ·cases he
   ·cases he
  ·cases he
 ·rename_i i' l k n ex ei;rw[ex]at hr;rw[ei]at aa;split at he
  ·rename_i hc;obtain⟨h0,da⟩:=hc;simp only[Qa,Qd]at he;obtain⟨rfl,rfl⟩:=he;obtain⟨b,cap,ev,_,hb⟩:=hr.row_inv;have db:(if sz=1 then n.toNat else n.toNat*sz)=n.toNat*sz:=by
    simp_all
   rw[db];have f:(Addr.mk b 0 none).add (n.toNat*sz)=⟨b,n.toNat*sz,none⟩:=by rw[Fr,Qu]
   refine⟨rfl,.pure (v:= .pointer (some ⟨b,n.toNat*sz,none⟩)) h.inv ?_ (.ptr _ _ b hb)⟩;have ia:(0:Int)<=n∧n<(l:Int):=⟨h0,da⟩;simp only[←f];simp[execOp,ho,Instr.indexAt,asIntOf,aa.int_inv,ev,run_underlying hu,ia,GH hs]
  ·cases he
 ·cases he
def rW{t:TypeId}{o:Oper}{x i:Operand}{y z:GE}(h:At P B w0 w m g fr s a)(hu:P.underlying t=some .string)
  (p:AC x=some y) (hi:AC i=some z) (ho:o.op= .index t x i) (f:Aw S s m fr (.idxs y z)=some (d,u)):u=[]∧CQ P B w0 m g fr w m d (execOp a.eval o):=by
 have hr:=h.slots.arg p;have q:=h.slots.arg hi;simp only[Aw]at f;split at f
 ·rename_i b k n r ei;rw[r]at hr;rw[ei]at q;split at f
  ·rename_i e;rw[Qb]at f;obtain⟨c,j,f⟩:=f;simp only[Qd]at f;obtain⟨rfl,rfl⟩:=f;refine⟨rfl,.pure (v:= .int .u8 c.toNat) h.inv ?_ (.int _ _)⟩;simp[execOp,ho,Instr.index,asIntOf,q.int_inv,hr.str_inv,run_underlying hu,e,tD,j]
  ·cases f
 ·cases f
def rY{t e:TypeId}{len:Nat}{o:Oper}{x i:Operand}{y z:GE}(h:At P B w0 w m g fr s a)(hu:P.underlying t=some (.array len e))(hk:lU P e=some none)(hs:CK P e=some 1)
  (p:AC x=some y) (hi:AC i=some z) (ho:o.op= .index t x i) (f:Aw S s m fr (.idxa len y z)=some (d,u)):u=[]∧CQ P B w0 m g fr w m d (execOp a.eval o):=by
 have hr:=h.slots.arg p;have q:=h.slots.arg hi;simp only[Aw]at f;split at f
 ·rename_i cs k n ex ei;rw[ex]at hr;rw[ei]at q;split at f
  ·rename_i h0;rw[Qb]at f;obtain⟨d',r,f⟩:=f;simp only[Qd]at f;obtain⟨rfl,rfl⟩:=f;obtain⟨vs,j,r1⟩:=aJ hr;obtain⟨td,c,b⟩:=Pz hk;have hv:n.toNat<vs.length:=by rw[r1.1];exact(Qe.1 r).1
   refine⟨rfl,.pure (v:=vs[n.toNat]) h.inv ?_ (r1.2.2 _ _ _ r (Qc hv))⟩;have:=Cm (w:=w) c b (cs:=vs.toArray) (o:=n.toNat) (v:=vs[n.toNat]) (by simp[hv]);simp[execOp,ho,Instr.index,asIntOf,q.int_inv,run_underlying hu,j,h0,GH hs,this]
  ·cases f
 ·cases f
def iC{t e:TypeId}{len sz:Nat}{o:Oper}{x i:Operand}{y z:GE}(h:At P B w0 w m g fr s a)(hu:P.underlying t=some (.array len e))(r:CK P e=some sz)
  (p:AC x=some y) (hi:AC i=some z) (ho:o.op= .indexAddr t x i) (f:Aw S s m fr (.iadda len sz y z)=some (d,u)):u=[]∧CQ P B w0 m g fr w m d (execOp a.eval o):=by
 have c:=h.slots.arg p;have q:=h.slots.arg hi;simp only[Aw]at f;split at f
 ·rename_i j off k n ex ei;rw[ex]at c;rw[ei]at q;split at f
  ·rename_i hc;obtain⟨h0,h1⟩:=hc;simp only[Qa,Qd]at f;obtain⟨rfl,rfl⟩:=f;obtain⟨b,ev,hb⟩:=c.ptr_inv;refine⟨rfl,.pure (v:= .pointer (some ⟨b,off+n.toNat*sz,none⟩)) h.inv ?_ (.ptr _ _ b hb)⟩;have ia:(0:Int)<=n∧n<(len:Int):=⟨h0,h1⟩;simp only[←Fr b off (n.toNat*sz)];simp[execOp,ho,Instr.indexAt,asIntOf,Instr.sureAddr,q.int_inv,ev,run_underlying hu,ia,GH r]
  ·cases f
 ·cases f
def rX{t e:TypeId}{len sz:Nat}{o:Oper}{x i:Operand}{y z:GE}(h:At P B w0 w m g fr s a)(hu:P.underlying t=some (.array len e))(hk:lU P e=some (some sz))
  (p:AC x=some y) (hi:AC i=some z) (ho:o.op= .index t x i) (f:Aw S s m fr (.idxm len sz y z)=some (d,u)):u=[]∧CQ P B w0 m g fr w m d (execOp a.eval o):=by
 have hr:=h.slots.arg p;have q:=h.slots.arg hi;simp only[Aw]at f;split at f
 ·rename_i cs k n ex ei;rw[ex]at hr;rw[ei]at q;split at f
  ·rename_i hc;obtain⟨h0,h1,hl⟩:=hc;simp only[Qa,Qd]at f;obtain⟨rfl,rfl⟩:=f;obtain⟨vs,e1,r1⟩:=aJ hr;obtain⟨td,c,b,hs⟩:=Py hk;refine⟨rfl,.pure (v:= .agg ((vs.drop (n.toNat*sz)).take sz).toArray) h.inv ?_ (aK ⟨by simp[r1.1],λv hv=>?_,λj d v r hv=>?_⟩)⟩
   ·simp only[execOp,ho,Instr.index,Sem.run_bind,run_underlying hu,e1,q.int_inv,asIntOf,Result.andThen_ok,Sem.run_pure,h0,h1,and_self,if_true,GH hs,part,Hq c,b];congr 3;simp[Q7,QV]
   ·exact r1.2.1 v (Qx (QB hv))
   ·have hj:j<sz:=by
     rcases Zv j sz with h1|h1
     ·exact h1
     ·rw[Qj Xc]at r;cases r
    rw[Qp hj,Qw]at r hv;exact r1.2.2 _ d v r hv
  ·cases f
 ·cases f
def rZ{t:TypeId}{o:Oper}{x:Operand}{lo hi:Option Operand}{y:GE}{i r:Option GE}(h:At P B w0 w m g fr s a)(k:P.underlying t=some .string)
  (q:AC x=some y) (na:HZ lo=some i) (pa:HZ hi=some r) (p:o.op= .slice t x lo hi none) (z:Aw S s m fr (.cuts y i r)=some (d,u)):
  u=[]∧CQ P B w0 m g fr w m d (execOp a.eval o):=by
 have n:=h.slots.arg q;simp only[Aw]at z;split at z
 ·rename_i b e;rw[e]at n;split at z
  ·rename_i hh c;split at z
   ·rename_i l j;simp only[Qa,Qd]at z;obtain⟨rfl,rfl⟩:=z;obtain⟨f,_,_⟩:=Ef (P:=P) (w:=w) h.slots na pa false (len:=b.length) (cap:=b.length) (Qk _) c j;refine⟨rfl,.pure (v:= .string ⟨((b.drop l).take (hh-l)).toArray⟩) h.inv ?_ (.str _)⟩;have ka:(ByteArray.mk b.toArray).size=b.length:=by simp[ByteArray.size]
    simp only[execOp,p,Instr.sliceAt,Sem.run_bind,run_underlying k,Result.andThen_ok,Instr.slice,n.str_inv,ZG,Option.isSome_none,QG,if_false,ka,f,Sem.run_pure,RE]
   ·cases z
  ·cases z
 ·cases z
def SE{xs:List D}{sz k:Nat}(h:∀d∈xs,d.cells.length=sz)(s:aF xs k=k):xs=[]∨sz=k:=by
 cases xs with
 |nil=>exact .inl rfl
 |cons x r=>right;rw[←h x (Qn ..)];exact s
def sA{t e:TypeId}{o:Oper}{x:Operand}{lo hi:Option Operand}{y:GE}{l' h':Option GE}{sz:Nat}(h:At P B w0 w m g fr s a)(hu:P.underlying t=some (.slice e))(hs:CK P e=some sz)
  (q:AC x=some y) (na:HZ lo=some l') (pa:HZ hi=some h') (ho:o.op= .slice t x lo hi none) (z:Aw S s m fr (.cutl sz y l' h')=some (d,u)):
  u=[]∧CQ P B w0 m g fr w m d (execOp a.eval o):=by
 have hr:=h.slots.arg q;simp only[Aw]at z;split at z
 ·rename_i nl t' xs e';rw[e']at hr;split at z
  ·rename_i f;split at z
   ·rename_i hh eh;split at z
    ·rename_i l el;simp only[Qa,Qd]at z;obtain⟨rfl,rfl⟩:=z;have la:∀ad n c l hh m',a.eval x= .slice ad n c->(Instr.sliceBounds true n c (lo.map a.eval) (hi.map a.eval) none).run P w= .ok (l,hh,m') w->
       (execOp a.eval o).run P w= .ok (.value (.slice (if m'=l then ad else ad.map (·.add (l*sz))) (hh-l) (m'-l))) w:=by
      intro ad n c l hh m' v e2;simp only[execOp,ho,Instr.sliceAt,Sem.run_bind,run_underlying hu,Result.andThen_ok,Instr.slice,v,ZG,e2,GH hs,Sem.run_pure]
     rcases hr.slice_inv with ⟨rfl,rfl,ev⟩|⟨rfl,ad,n,c,oa,vv,ev,hn,h2,h3,h4,h5,h6,h7,h8,h9⟩
     ·obtain⟨hb,q1,q2⟩:=Ef (P:=P) (w:=w) h.slots na pa true (len:=0) (cap:=0) (Qk _) eh el;obtain rfl:hh=0:=by omega
      obtain rfl:l=0:=O
      exact⟨rfl,.pure h.inv (la _ _ _ _ _ _ ev hb) (.nils _)⟩
     ·subst hn;obtain⟨hb,q1,q2⟩:=Ef (P:=P) (w:=w) h.slots na pa true (len:=xs.length) (cap:=c) h2 eh el;refine⟨rfl,.pure h.inv (la _ _ _ _ _ _ ev hb) ?_⟩;have b:∀d∈(xs.drop l).take (hh-l),d.cells.length=oa:=λd p=>h3 d (Qx (QB p))
      have r:((xs.drop l).take (hh-l)).length=hh-l:=Xc
      by_cases sa:c=l
      ·have h0:hh-l=0:=by omega
       rw[if_pos sa,h0];refine .slice [] _ ad 0 _ oa vv U (ZF _) U U U XH U U U
      ·rw[if_neg sa,QY];by_cases h0:hh-l=0
       ·rw[h0];exact .slice [] _ _ 0 _ oa vv U (ZF _) U U U XH U U U
       ·have i:xs≠[]:=by rintro rfl;simp at q2;omega
        have ka:oa=sz:=(SE h3 f).resolve_left i;subst ka;have k:l*oa+(hh-l)*oa<=xs.length*oa:=by rw[←QQ];exact QA _ O
        refine .slice [] _ _ _ _ oa (λj=>vv (l*oa+j)) r.symm O b (λj hj=>?_) (λj hj=>h5 _ O) (λj d p=>h6 _ d ?_) (λhp=>?_) U (λd p=>h9 d (Qx (QB p)))
        ·rw[add_add];exact h4 _ O
        ·have:=RC (sz:=oa) p;rw[SJ l h3,Qw]at this;exact this
        ·rw[Dj,Fo];have:=h7 O;omega
    ·cases z
   ·cases z
  ·cases z
 ·cases z
end
section
variable{P:Program}{B:Nat}{w0 w:World}{m:GB}{g:Gh}{fr:Id}{s:Nat->D}{a:Act}{S:Gz}{d:D}{u:GF}
def Lt:∀{l:List (Nat×Nat×D)} {ps:List (Nat×Value)} {zs cs:List D} {zv:Array Value} {place:Nat->Option (Nat×Nat)},
  AW w g zs zv.toList->l.length=ps.length->(∀(j:Nat) x p,l[j]?=some x->ps[j]?=some p->place p.1=some (x.1,x.2.1)∧Rep w g x.2.2 p.2)->
  Cf zs l=some cs->∃a:Array Value,Instr.fill place zv ps=some a∧AW w g cs a.toList
 |[],[],zs,cs,zv,place,hz,_,_,h=>by
  simp only[Cf,Qa]at h;subst h;exact⟨zv,rfl,hz⟩
 |(off,sz,d)::l,[],zs,cs,zv,place,hz,hl,_,h=>by cases hl
 |[],p::ps,zs,cs,zv,place,hz,hl,_,h=>by cases hl
 |(off,sz,d)::l,(i,v)::ps,zs,cs,zv,place,hz,hl,hp,h=>by
  unfold Cf at h;split at h
  ·rename_i o;obtain⟨c1,c2,c3⟩:=o;obtain⟨z,b⟩:=hp 0 _ _ rfl rfl;simp only at z b;have c:=b.cells c1;have t:v.cells.size=sz:=by have:=c.1;simp at this;omega
   have f:=hz.1;simp only[QW]at f;have n:off+v.cells.size<=zv.size:=O
   have na:=EP v.cells off zv n;have k:AW w g (Fb zs off d.cells) ((v.cells.zipIdx.foldl (λcs (x:Value×Nat)=>cs.setIfInBounds (off+x.2) x.1) zv)).toList:=by
    rw[na];unfold Fb;have h1:AW w g (zs.take off) (zv.toList.take off):=by
     refine⟨Xc,λv m=>hz.2.1 v (QB m),λj d v r m=>?_⟩;have u:j<off:=by
      rcases Zv j off with h1|h1
      ·exact h1
      ·rw[Qj Xc]at r;cases r
     rw[Qp u]at r m;exact hz.2.2 j d v r m
    have y:AW w g (zs.drop (off+d.cells.length)) (zv.toList.drop (off+v.cells.toList.length)):=by
     rw[c.1];refine⟨Xc,λv m=>hz.2.1 v (Qx m),λj d v r m=>?_⟩;rw[Qw]at r m;exact hz.2.2 _ d v r m
    exact AW.append (AW.append h1 c) y
   obtain⟨a,e,s⟩:=Lt (ps:=ps) (place:=place) k Xl (λj x p q qa=>hp (j+1) x p Xw (by simpa using qa)) h;refine⟨a,?_,s⟩;unfold Instr.fill;rw[z];simp only;rw[if_neg (by simp[t];omega)];exact e
  ·cases h
def N1{w:List Field}(W:World)(h:∀f∈w,∃n,CK P f.type=some n):
  ∃e:List (Nat×Nat),(w.mapM (m:=Sem) λ(f:Field)=>do pure (f.offset,←sizeOf f.type)).run P W= .ok e W∧e.length=w.length∧∀(i:Nat)(f:Field) n,w[i]?=some f->CK P f.type=some n->e[i]?=some (f.offset,n):=by
 induction w with
 |nil=>exact⟨[],U,rfl,U⟩
 |cons f r ih=>
  obtain⟨n,g⟩:=h f (Qn ..);obtain⟨e,j,z,c⟩:=ih (λf s=>h f (Qq _ s));refine⟨(f.offset,n)::e,?_,by simp[z],λi v a hi k=>?_⟩
  ·simp_all [GH,j]
  ·grind
def FL{w:Array Field}:∀{ps:List (Nat×Operand)} {l:List (Nat×Nat×GE)},Df P w ps=some l->
  l.length=ps.length∧∀(j:Nat) x p,l[j]?=some x->ps[j]?=some p->∃f:Field,w[p.1]?=some f∧CK P f.type=some x.2.1∧x.1=f.offset∧AC p.2=some x.2.2
 |[],l,h=>by simp only[Df,Qa]at h;subst h;simp
 |(i,x)::r,l,h=>by
  unfold Df at h;split at h
  ·rename_i f y u v m c;split at h
   ·rename_i n t;simp only[Qa]at h;subst h;obtain⟨e,o⟩:=FL c;refine⟨by simp[e],λj k p q g=>?_⟩;cases j with
    |zero=>
     simp only[QD,Qa]at q g;subst q g;exact⟨f,v,t,rfl,m⟩
    |succ j=>exact o j k p Xw (by simpa using g)
   ·cases h
  ·cases h
def I7{sz:Nat}:∀{ps:List (Nat×Operand)} {l:List (Nat×Nat×GE)},FM sz ps=some l->
  l.length=ps.length∧∀(j:Nat) x p,l[j]?=some x->ps[j]?=some p->x.1=p.1*sz∧x.2.1=sz∧AC p.2=some x.2.2
 |[],l,h=>by simp only[FM,Qa]at h;subst h;simp
 |(i,x)::r,l,h=>by
  unfold FM at h;split at h
  ·rename_i y u m f;simp only[Qa]at h;subst h;obtain⟨w,o⟩:=I7 f;refine⟨by simp[w],λj k p q g=>?_⟩;cases j with
   |zero=>
    simp only[QD,Qa]at q g;subst q g;exact⟨rfl,rfl,m⟩
   |succ j=>exact o j k p Xw (by simpa using g)
  ·cases h
def WZ{t e:TypeId}{len sz:Nat}{z:Array (Nat×Operand)}{o:Oper}{zs:List D}{l:List (Nat×Nat×GE)}(h:At P B w0 w m g fr s a)(hu:P.underlying t=some (.array len e))
  (ha:CK P e=some sz) (hz:CU P t=some (.agg zs)) (hl:FM sz z.toList=some l) (ho:o.op= .build t z) (f:Aw S s m fr (.build zs l)=some (d,u)):
  u=[]∧CQ P B w0 m g fr w m d (execOp a.eval o):=by
 simp only[Aw]at f;rw[Qb]at f;obtain⟨cs,la,f⟩:=f;simp only[Qd]at f;obtain⟨rfl,rfl⟩:=f;unfold CU at hz;split at hz
 ·rename_i k c;split at hz
  ·rename_i zv r;have n:Rep w g (.agg zs) zv:=Rep.ofVal hz;obtain⟨vs,rfl,rz⟩:=aJ n;obtain⟨q1,q2⟩:=I7 hl;have b:=Lt (w:=w) (g:=g) (l:=l.map λp=>(p.1,p.2.1,p.2.2.ev s)) (ps:=(z.map λ(i,x)=>(i,a.eval x)).toList) (zs:=zs) (cs:=cs) (zv:=vs.toArray) (place:=λi=>some (i*sz,sz))
    (by simpa using rz) (by simp[q1]) (λj x p q y=>?_) la
   ·obtain⟨cv,f1,f2⟩:=b;refine⟨rfl,.pure (v:= .agg cv) h.inv ?_ ?_⟩
    ·simp only[execOp,ho,Instr.build,zeroValue,typeInfo,Sem.run_bind,run_program,Result.andThen_ok,c,r,Sem.run_pure,run_underlying hu,GH ha,Value.cells,f1]
    ·have:=aK f2
     rwa [QC]at this
   ·rw[Qi,Qb]at q;obtain⟨x',pa,rfl⟩:=q;rw[QL,Qi,Qb]at y;obtain⟨p',qa,rfl⟩:=y;obtain⟨r1,r2,r4⟩:=q2 j x' p' pa qa;refine⟨?_,h.slots.arg r4⟩;simp[r1,r2]
  ·cases hz
 ·cases hz
def iF{t:TypeId}{z:Array (Nat×Operand)}{o:Oper}{ba:Array Field}{zs:List D}{l:List (Nat×Nat×GE)}(h:At P B w0 w m g fr s a)(hu:P.underlying t=some (.struct ba))
  (y:WP P ba.toList=true) (hz:CU P t=some (.agg zs)) (hl:Df P ba z.toList=some l) (ho:o.op= .build t z) (he:Aw S s m fr (.build zs l)=some (d,u)):
  u=[]∧CQ P B w0 m g fr w m d (execOp a.eval o):=by
 simp only[Aw]at he;rw[Qb]at he;obtain⟨cs,la,he⟩:=he;simp only[Qd]at he;obtain⟨rfl,rfl⟩:=he;unfold CU at hz;split at hz
 ·rename_i k c;split at hz
  ·rename_i zv r;have hr:Rep w g (.agg zs) zv:=Rep.ofVal hz;obtain⟨vs,rfl,rz⟩:=aJ hr;have q:∀f∈ba.toList,∃n,CK P f.type=some n:=by
    intro f e;have:=Qy.1 y f e;rw[Zf]at this;exact this
   obtain⟨pl,p1,p2,p3⟩:=N1 (P:=P) w q;obtain⟨q1,q2⟩:=FL hl;have b:=Lt (w:=w) (g:=g) (l:=l.map λp=>(p.1,p.2.1,p.2.2.ev s)) (ps:=(z.map λ(i,x)=>(i,a.eval x)).toList) (zs:=zs) (cs:=cs) (zv:=vs.toArray) (place:=λi=>pl.toArray[i]?)
    (by simpa using rz) (by simp[q1]) (λj x p hx hp=>?_) la
   ·obtain⟨cv,f1,f2⟩:=b;refine⟨rfl,.pure (v:= .agg cv) h.inv ?_ ?_⟩
    ·have hm:(ba.mapM (m:=Sem) λ(f:Field)=>do pure (f.offset,←sizeOf f.type)).run P w= .ok pl.toArray w:=by
      rw[Zc,Sem.run_map,p1];rfl
     simp only[execOp,ho,Instr.build,zeroValue,typeInfo,Sem.run_bind,run_program,Result.andThen_ok,c,r,Sem.run_pure,run_underlying hu,hm,Value.cells,f1]
    ·have:=aK f2
     rwa [QC]at this
   ·rw[Qi,Qb]at hx;obtain⟨x',pa,rfl⟩:=hx;rw[QL,Qi,Qb]at hp;obtain⟨p',qa,rfl⟩:=hp;obtain⟨f,r1,r2,r3,r4⟩:=q2 j x' p' pa qa;refine⟨?_,h.slots.arg r4⟩;have:=p3 p'.1 f x'.2.1 (by simpa using r1) r2;simp only[QI];rw[this,r3]
  ·cases hz
 ·cases hz
end
section
variable{P:Program}{B:Nat}{w0 w:World}{m:GB}{g:Gh}{fr:Id}{s:Nat->D}{a:Act}{S:Gz}{d:D}{u:GF}
def O0:∀{xs:List Operand} {ys:List GE},DP xs=some ys->xs.length=ys.length∧∀(j:Nat) x y,xs[j]?=some x->ys[j]?=some y->AC x=some y
 |[],ys,h=>by simp only[DP,Qa]at h;subst h;simp
 |x::r,ys,h=>by
  unfold DP at h;split at h
  ·rename_i y l u f;simp only[Qa]at h;subst h;obtain⟨p,q⟩:=O0 f;refine⟨by simp[p],λj k i m o=>?_⟩;cases j with
   |zero=>simp only[QD,Qa]at m o;subst m o;exact u
   |succ j=>exact q j k i (by simpa using m) (by simpa using o)
  ·cases h
def WO{sz:Nat}(n:0<sz):∀{ps:List (Nat×Value)} {k:Nat} {cs:Array Value},ps.map (·.1)=Zp k ps.length->(∀p∈ps,p.2.cells.size=sz)->cs.size=(k+ps.length)*sz->
  ∃a:Array Value,Instr.fill (λi=>some (i*sz,sz)) cs ps=some a∧a.toList=cs.toList.take (k*sz)++ps.flatMap λp=>p.2.cells.toList
 |[],k,cs,_,_,hcs=>⟨cs,rfl,by simp at hcs;simp[List.take_of_length_le,hcs]⟩
 |(i,v)::r,k,cs,s,hp,hcs=>by
  simp only[Qs,Qo,Q3,ZH]at s;obtain⟨rfl,s⟩:=s;have m:=hp (i,v) (Qn ..);simp only at m;have ta:i*sz+v.cells.size<=cs.size:=by
   rw[hcs,m,←Zw];exact QA _ (by simp only[Qo];omega)
  have na:=EP v.cells (i*sz) cs ta;have w:(v.cells.zipIdx.foldl (λcs (x:Value×Nat)=>cs.setIfInBounds (i*sz+x.2) x.1) cs).size=cs.size:=by
   rw[←QW,na];simp;omega
  obtain⟨a,q,e⟩:=WO (k:=i+1) (ps:=r) (cs:=v.cells.zipIdx.foldl (λcs (x:Value×Nat)=>cs.setIfInBounds (i*sz+x.2) x.1) cs) n s (λp j=>hp p (Qq _ j)) (by rw[w,hcs];congr 1;simp only[Qo];omega);refine⟨a,?_,?_⟩
  ·unfold Instr.fill;simp only;rw[if_neg (by simp[m];first|done|omega)];exact q
  ·rw[e,na];have hl:(cs.toList.take (i*sz)).length=i*sz:=by rw[QT];simp;omega
   have c:v.cells.toList.length=sz:=by simpa using m
   simp only[Zd];rw[←QK];congr 1;rw[show(i+1)*sz=(cs.toList.take (i*sz)++v.cells.toList).length by rw[Zu,hl,c,Zw]];exact List.take_left
theorem W_{t e:TypeId}{aa:Array (Nat×Operand)}{len:Nat}{o:Oper}{sz bytes:Nat}{l:List GE}(h:At P B w0 w m g fr s a)(hu:P.underlying t=some (.slice e))(he:Ir P e=some (sz,bytes))
  (hl:DP (aa.toList.map (·.2))=some l) (f:aa.toList.map (·.1)=Qt len) (sa:len*sz<=2 ^ 24) (ho:o.op= .buildSlice t len aa)
  (hx:Aw S s m fr (.bslice e sz l)=some (d,u)):CQ P B w0 m g fr w (GF.app m u) d (execOp a.eval o):=by
 obtain⟨qa,ti,z,hi,oa,hz,ib,ka⟩:=Iq he;simp only[Aw]at hx;split at hx
 ·rename_i ja;simp only[Qa,Qd]at hx;obtain⟨rfl,rfl⟩:=hx;have da:∀p∈l,((p.ev s).data=true∧(p.ev s).cells.length=sz)∧(p.ev s).un.calm=true:=by
   simp_all
  have b:∀p∈l,(p.ev s).data=true∧(p.ev s).cells.length=sz:=λp hp=>(da p hp).1
  obtain⟨ba,ia⟩:=O0 hl;have r:aa.toList.length=len:=by have:=congrArg ZL f;simpa using this
  simp only[QZ]at ba;have ea:∀(j:Nat) d v,(l.map λp=>(p.ev s).un)[j]?=some d->(aa.toList.map λp=>a.eval p.2)[j]?=some v->Rep w g d v:=by
   intro j d v hd hv;rw[Qi,Qb]at hd hv;obtain⟨y,hy,rfl⟩:=hd;obtain⟨p,hp,rfl⟩:=hv;exact(h.slots.arg (ia j p.2 y (by rw[Qi,hp];rfl) hy)).un
  have ra:=AW.flat (w:=w) (g:=g) (sz:=sz) (xs:=l.map λp=>(p.ev s).un) (vs:=aa.toList.map λp=>a.eval p.2) (λd hd=>by
   rw[Qv]at hd;obtain⟨y,hy,rfl⟩:=hd;exact⟨aEP (b y hy).1,by rw[OY];exact(b y hy).2⟩) Xc ea
  have la:∀p∈(aa.map λ(i,x)=>(i,a.eval x)).toList,p.2.cells.size=sz:=by
   intro p hp;rw[QL,Qv]at hp;obtain⟨q,hq,rfl⟩:=hp;obtain⟨j,hj,va⟩:=Za hq;have hy:l[j]?=some (l[j]' O):=Qc _;have hr:=h.slots.arg (ia j q.2 _ (by rw[Qi,Qc hj,va];rfl) hy);have hd:=b _ (Q1 (by omega:j<l.length));have:=(hr.cells hd.1).1;simp at this ⊢;omega
  let row:Array Value:=(ZM (len*sz)).map (z.cells[· % z.cells.size]!)
  have ca:row.size=(0+(aa.map λ(i,x)=>(i,a.eval x)).toList.length)*sz:=by
   grind
  obtain⟨cv,f1,f2⟩:=WO qa (ps:=(aa.map λ(i,x)=>(i,a.eval x)).toList) (k:=0) (cs:=row) (by
   rw[←QR];simp only[QL,List.map_map,QZ,r];rw[←f];apply QX;intro p _;rfl) la ca
  have pa:cv.toList=(aa.toList.map λp=>a.eval p.2).flatMap λv=>v.cells.toList:=by
   rw[f2];simp[List.flatMap_map]
  have na:cv.size=len*sz:=by
   have:=ra.1;rw[←pa]at this;rw[Ce (sz:=sz) (λd hd=>by
    rw[Qv]at hd;obtain⟨y,hy,rfl⟩:=hd;rw[OY];exact(b y hy).2)]at this
   simp only[QW,QZ]at this;rw[this];congr 1;omega
  have xa:len<=maxLen:=by
   have:len*1<=len*sz:=Nat.mul_le_mul_left _ qa;unfold maxLen;omega
  have ha:=h.inv.newTok h.self (e:=e) (n:=len) (c:=len) (sz:=sz) (cur:=cv) qa ⟨ti,z,hi,oa,hz,ib⟩ (Qk _) xa na;have ma:=GY.newTok (t:=fr) (n:=len) (c:=len) (sz:=sz) (Obj.cells cv e) h.inv.gz h.self.2.2 rfl;refine⟨.slice (some ⟨w.heap.size,0,none⟩) len len,w.alloc (.cells cv e),g.tok fr w.heap.size len len sz,.value (.slice (some ⟨w.heap.size,0,none⟩) len len),?_,.inl rfl,ha,ma,?_,λi hf fa=>CN hf fa _ _ _ _ _⟩
  ·have ga:¬(len*sz>2 ^ 24):=by omega
   have lb:CK P e=some sz:=by simp[CK,hi,oa]
   by_cases h0:len*sz=0
   ·have ua:(ZM 0).map ((#[]:Array Value)[· % (#[]:Array Value).size]!)=row:=by simp[row,h0]
    simp only[execOp,ho,Instr.buildSlice,Sem.run_bind,run_underlying hu,Result.andThen_ok,GH lb,show ¬((0:Nat)>2 ^ 24)from by omega,if_false,h0,if_true,Sem.run_pure,ua,f1,Ge]
   ·simp only[execOp,ho,Instr.buildSlice,Sem.run_bind,run_underlying hu,Result.andThen_ok,GH lb,ga,if_false,h0,Sem.run_pure,zeroValue,typeInfo,run_program,hi,hz];change (Sem.run P (match Instr.fill (λi=>some (i*sz,sz)) row (aa.map λ(i,x)=>(i,a.eval x)).toList with|some cells=>_|_=>_) w).andThen _=_;rw[f1];simp only[Sem.run_bind,Ge,Result.andThen_ok,Sem.run_pure]
  ·refine aH (sz:=sz) (cur:=cv) (T:=e) (fz:=(0,0)) (heap_alloc_new w _) Xc (Qk _) (λd hd=>?_) (ra.ext ma) (λj v hv=>?_) Xn (λ_=>Xn) (λd hd=>?_)
   ·grind [OY]
   ·grind
   ·grind
 ·cases hx
end
structure dT (P:Program) (w:World) (size:Nat) (y:Value) (n:Nat) (ws:List Value):Prop where
 len:∀W:World,(Builtin.lenOf y).run P W= .ok n W
 cells:(Builtin.firstCells size n y).run P w= .ok ws.toArray w
 drew:(Builtin.firstCells size n y).run P w.drew= .ok ws.toArray w.drew
 wl:ws.length=n*size
section
variable{P:Program}{w:World}
theorem dT.slice{r n c:Nat}{ad:Addr}{p:List Value}(hl:p.length=n*r)(h:∀j u,p[j]?=some u->w.cell? (ad.add j)=some u):dT P w r (.slice (some ad) n c) n p:=
 ⟨λW=>X_,run_firstCells_some (P:=P) w r n ad n c p hl h,run_firstCells_some (P:=P) w.drew r n ad n c p hl Xp,hl⟩
def dT.string(s:ByteArray):dT P w 1 (.string s) s.size (Lib.strCells s):=
 ⟨λW=>X_,Lib.run_firstCells_string w 1 s,Lib.run_firstCells_string w.drew 1 s,by rw[Lib.strCells_length];omega⟩
def VF{t ty e:TypeId}{i:TypeInfo}{z:Value}(j:P.underlying t=some (.slice e))(hi:P.info? e=some i)(u:i.zero=some z)
  {y:Value} {n:Nat} {p:List Value} (k:dT P w i.size y n p)
  (o:0<n) (g:(n:Int)<=9223372036854775807) (f:n*i.bytes<=281474976710656):
  (Builtin.append_ #[t,t] ty #[.slice none 0 0,y]).run P w=
   .ok (.slice (some ⟨w.heap.size,0,none⟩) n (grownCap w n 0 e)) (w.drew.alloc (.cells (p.toArray++Builtin.zeroCells z.cells (grownCap w n 0 e-n)) e)):=by
 have r:n≠0:=O
 have a:¬(9223372036854775807<(n:Int)):=O
 have c:¬(281474976710656<Builtin.nextslicecap n 0*i.bytes):=by rw[nextslicecap_zero o];omega
 have s:=k.drew;have hl:=k.len;simp[Builtin.append_,run_underlying j,sizeOf,typeInfo,zeroValue,hi,u,hl,r,a,c,Question.forced,run_firstCells_none,s,newRow,grownCap]
def Tu{t ty e:TypeId}{i:TypeInfo}{z:Value}(o:P.underlying t=some (.slice e))(hi:P.info? e=some i)(u:i.zero=some z)
  {b:Addr} {sLen sCap:Nat} {olds:List Value} (na:olds.length=sLen*i.size) (d:∀j v,olds[j]?=some v->w.cell? (b.add j)=some v)
  {y:Value} {n:Nat} {p:List Value} (k:dT P w i.size y n p)
  (hg:sCap<sLen+n) (g:((sLen+n:Nat):Int)<=9223372036854775807) (x:Builtin.nextslicecap (sLen+n) sCap*i.bytes<=281474976710656):
  (Builtin.append_ #[t,t] ty #[.slice (some b) sLen sCap,y]).run P w=
   .ok (.slice (some ⟨w.heap.size,0,none⟩) (sLen+n) (grownCap w (sLen+n) sCap e))
    (w.drew.alloc (.cells (olds.toArray++p.toArray++Builtin.zeroCells z.cells (grownCap w (sLen+n) sCap e-(sLen+n))) e)):=by
 have r:¬(sLen+n<=sCap):=O
 have a:¬(9223372036854775807<((sLen:Int)+(n:Int))):=O
 have c:¬(281474976710656<Builtin.nextslicecap (sLen+n) sCap*i.bytes):=O
 have s:=k.drew;have hl:=k.len;have q:=run_firstCells_some (P:=P) w.drew i.size sLen b sLen sCap olds na (by simpa using d);simp[Builtin.append_,run_underlying o,sizeOf,typeInfo,zeroValue,hi,u,hl,r,a,c,Question.forced,s,q,newRow,grownCap];congr 2;apply Array.ext';simp[QK]
def Ts{t ty e:TypeId}{i:TypeInfo}(k:P.underlying t=some (.slice e))(hi:P.info? e=some i)
  {g sLen sCap:Nat} {cur:Array Value} (o:w.heap[g]?=some (.cells cur e (0,0))) {y:Value} {n:Nat} {p:List Value} (r:dT P w i.size y n p) (q:∀u∈p,u.oneCell'=true)
  (f:sLen+n<=sCap) (x:sLen*i.size+p.length<=cur.size):
  (Builtin.append_ #[t,t] ty #[.slice (some ⟨g,0,none⟩) sLen sCap,y]).run P w=
   .ok (.slice (some ⟨g,0,none⟩) (sLen+n) sCap) (w.setRow g (cur.toList.take (sLen*i.size)++p++cur.toList.drop (sLen*i.size+p.length)).toArray):=by
 have s:=r.cells;have hl:=r.len;have j:=run_storeCells_at P g (sLen*i.size) e p 0 cur w o (by simpa using x) q;simp only[Zj]at j;simp[Builtin.append_,run_underlying k,sizeOf,typeInfo,hi,hl,f,s,Addr.add_lit,j]
def dT.nil{r:Nat}:dT P w r (.slice none 0 0) 0 []:=
 ⟨λW=>X_,by simp[Builtin.firstCells],by simp[Builtin.firstCells],U⟩
def Tt{t ty e:TypeId}{i:TypeInfo}(j:P.underlying t=some (.slice e))(hi:P.info? e=some i){y:Value}{p:List Value}(r:dT P w i.size y 0 p):
  (Builtin.append_ #[t,t] ty #[.slice none 0 0,y]).run P w= .ok (.slice none 0 0) w:=by
 have s:=r.cells;have hl:=r.len;simp[Builtin.append_,run_underlying j,sizeOf,typeInfo,hi,hl,s]
def Tq{t u ty e:TypeId}(j:P.underlying t=some (.slice e))(z:P.underlying u=some .string)(x y:Value):
  (Builtin.append_ #[t,u] ty #[x,y]).run P w=(Builtin.append_ #[t,t] ty #[x,y]).run P w:=by
 cases x<;>simp[Builtin.append_,run_underlying j,run_underlying z,sizeOf]
end
section
variable{P:Program}{B:Nat}{w0 w:World}{m:GB}{g:Gh}{fr:Id}{s:Nat->D}{a:Act}{S:Gz}{d:D}{u:GF}
def Rep.slice_list{t:Id}{xs:List D}{v:Value}(h:Rep w g (.slice false t xs) v):∃ad n c sz,∃e:List Value,v= .slice (some ad) n c∧n=xs.length∧n<=c∧(∀d∈xs,d.cells.length=sz)∧
  e.length=n*sz∧AW w g (flat xs) e∧(∀j u,e[j]?=some u->w.cell? (ad.add j)=some u)∧(0<n*sz->ad.off+n*sz<=g.G ad.block)∧
  (t≠[]->ad.off=0∧ad.spot=none∧g.tb t=some (ad.block,n,c,sz))∧(∀d∈xs,d.calm=true):=by
 rcases h.slice_inv with ⟨f,_⟩|⟨_,ad,n,c,sz,b,ev,q,y,o,r,s,h6,m,h8,i⟩
 ·cases f
 ·have hl:=Ce o;refine⟨ad,n,c,sz,(Qt (n*sz)).map b,ev,q,y,o,U,⟨by simp[hl,q],λv x=>?_,λj d v p x=>?_⟩,λj u z=>?_,m,h8,i⟩
  ·grind
  ·grind
  ·grind
def PL:∀{ys:List D},(∀d∈ys,d.cells=[d])->flat ys=ys
 |[],_=>rfl
 |d::r,h=>by
  rw[flat,h d (Qn ..),PL λd p=>h d (Qq _ p)];rfl
def kP{y:D}{v:Value}{ys:List D}{sz:Nat}(h:Rep w g y v)(i:Iu sz y=some ys)(hh:aF ys sz=sz):
  ∃ws:List Value,dT P w sz v ys.length ws∧AW w g (flat ys) ws∧(∀d∈ys,d.cells.length=sz)∧∀d∈ys,d.calm=true:=by
 unfold Iu at i;split at i
 ·rename_i nl t f;simp only[Qa]at i;subst i;cases nl with
  |true=>
   rcases h.slice_inv with ⟨_,rfl,rfl⟩|⟨h0,_⟩
   ·exact⟨[],dT.nil,AW.nil w g,U,U⟩
   ·cases h0
  |false=>
   obtain⟨ad,n,c,oa,ws,rfl,hn,m,a,ta,ea,k,hG,z,e⟩:=h.slice_list;subst hn;rcases SE a hh with rfl|rfl
   ·grind [dT.slice,AW.nil]
   ·exact⟨ws,dT.slice ta k,ea,a,e⟩
 ·rename_i b;split at i
  ·rename_i q;subst q;simp only[Qa]at i;subst i;have x:v= .string ⟨b.toArray⟩:=by cases h;rfl
   subst x;have r:(AF b).length=(⟨b.toArray⟩:ByteArray).size:=by simp[AF];rfl
   have q:∀d∈AF b,d.cells=[d]∧d.calm=true:=by
    intro d p;simp only[AF,Qv]at p;obtain⟨c,_,rfl⟩:=p;exact⟨rfl,rfl⟩
   refine⟨Lib.strCells ⟨b.toArray⟩,r▸dT.string _,⟨?_,Lib.strCells_oneCell _,λj d u p hu=>?_⟩,λd p=>by rw[(q d p).1];rfl,λd p=>(q d p).2⟩
   ·rw[PL λd p=>(q d p).1,Lib.strCells_length,r]
   ·rw[PL λd p=>(q d p).1]at p;simp only[AF,Lib.strCells,Qi,Qb]at p hu;obtain⟨c,o,rfl⟩:=p;obtain⟨c',s,rfl⟩:=hu;rw[o]at s;simp only[Qa]at s;subst s;exact .int _ _
  ·cases i
 ·cases i
def aBa{t t2 e:TypeId}{o:Oper}{x y:Operand}{p q:GE}{sz bytes:Nat}(h:At P B w0 w m g fr s a)(hu:P.underlying t=some (.slice e))(he:Ir P e=some (sz,bytes))
  (hx:AC x=some p) (hy:AC y=some q) (ho:o.op= .call {callee:= .builtin .append,args:=#[x,y],argTypes:=#[t,t2]}) (ht2:t2=t∨P.underlying t2=some .string)
  (aa:Aw S s m fr (.app e sz bytes p q)=some (d,u)):CQ P B w0 m g fr w (GF.app m u) d (execOp a.eval o):=by
 obtain⟨qa,ti,z,hi,oa,hz,ib,ka⟩:=Iq he;have lb:CK P e=some sz:=by simp[CK,hi,oa]
 have ua:=h.slots.arg hx;have cb:=h.slots.arg hy;have ab:∃ti z,P.info? e=some ti∧ti.size=sz∧ti.zero=some z∧z.cells.size=sz:=⟨ti,z,hi,oa,hz,ib⟩;have la:∀v' w',(Builtin.append_ #[t,t] o.type #[a.eval x,a.eval y]).run P w= .ok v' w'->(execOp a.eval o).run P w= .ok (.value v') w':=by
  intro v' w' e1;have e1:(Builtin.append_ #[t,t2] o.type #[a.eval x,a.eval y]).run P w= .ok v' w':=by
   rcases ht2 with rfl|ht2
   ·exact e1
   ·simp_all [Tq,e1]
  simp only[execOp,ho,resolve,invoke,builtin,Sem.run_bind,Sem.run_pure,Result.andThen_ok,ZB,Qs,Zk,e1]
 simp only[Aw]at aa;split at aa
 ·rename_i nl t' xs ys ex ey;rw[ex]at ua;split at aa
  ·rename_i hc;obtain⟨rfl,rfl⟩:=hc;simp only[Qa,Qd]at aa;obtain⟨rfl,rfl⟩:=aa;rcases ua.slice_inv with ⟨_,rfl,ev⟩|⟨h0,_⟩
   ·obtain⟨ws,za,_⟩:=kP (P:=P) cb ey (show aF [] sz=sz from rfl);have hv:=Tt (ty:=o.type) hu hi (oa▸za);exact .pure h.inv (la _ _ (by rw[ev];exact hv)) (.nils _)
   ·cases h0
  ·rename_i wa;split at aa
   ·rename_i hc;obtain⟨ub,ic⟩:=hc;obtain⟨ws,za,ea,rb,fb⟩:=kP (P:=P) cb ey ic;have ta:ws.length=ys.length*sz:=za.wl;have gb:dT P w ti.size (a.eval y) ys.length ws:=by rw[oa];exact za
    have cc:xs.length+ys.length<=140737488355328:=by
     grind
    have kb:(xs.length+ys.length)*bytes<=140737488355328:=by
     grind
    split at aa
    ·-- onto nil
     rename_i pa;subst pa;simp only[Qa,Qd]at aa;obtain⟨rfl,rfl⟩:=aa;have db:ys≠[]:=λe=>wa ⟨rfl,e⟩
     rcases ua.slice_inv with ⟨_,rfl,ev⟩|⟨h0,_⟩
     ·have ba:0<ys.length:=List.length_pos_iff.2 db;simp only[List.length_nil,Qu]at cc kb;have hr:=VF (P:=P) (ty:=o.type) hu hi hz gb ba O (by rw[ka];omega);have ga:=grownCap_ge w ys.length 0 e;have eb:grownCap w ys.length 0 e<=maxLen:=grownCap_le_maxLen w ys.length 0 e Xq;have mb:(ws.toArray++Builtin.zeroCells z.cells (grownCap w ys.length 0 e-ys.length)).size=grownCap w ys.length 0 e*sz:=by
       simp only[Zx,Zy,size_zeroCells,ib,ta,←QQ];congr 1;omega
      have ha:=h.inv.drew.newTok h.self (e:=e) (n:=ys.length) (c:=grownCap w ys.length 0 e) (sz:=sz) (cur:=ws.toArray++Builtin.zeroCells z.cells (grownCap w ys.length 0 e-ys.length)) qa ab ga eb mb;have ma:GY w g (w.drew.alloc (.cells (ws.toArray++Builtin.zeroCells z.cells (grownCap w ys.length 0 e-ys.length)) e)) (g.tok fr w.heap.size ys.length (grownCap w ys.length 0 e) sz):=
       (GY.drew w g).trans (GY.newTok (w:=w.drew) _ h.inv.gz h.self.2.2 rfl)
      refine⟨_,_,_,_,la _ _ (by rw[ev];exact hr),.inl rfl,ha,ma,?_,λi hf fa=>CN hf fa _ _ _ _ _⟩;refine aH (sz:=sz) (cur:=ws.toArray++Builtin.zeroCells z.cells (grownCap w ys.length 0 e-ys.length)) (T:=e) (fz:=(0,0)) (heap_alloc_new w.drew _) rfl ga rb (ea.ext ma) (λj v hv=>?_) Xn (λ_=>Xn) fb;rw[QH (by simpa using (Qe.1 hv).1)];simpa using hv
     ·cases h0
    ·-- onto a growing slice
     rename_i pa;have pa:nl=false:=by cases nl<;>simp_all
     subst pa;split at aa
     ·rename_i k hk;split at aa
      ·rename_i vb;obtain⟨vb,xb⟩:=vb;subst vb;simp only[Qa,Qd]at aa;obtain⟨rfl,rfl⟩:=aa;obtain⟨ad,n0,c0,lc,jb,ev,hn,bc,zb,ob,qb,hb,kc,ac,fc⟩:=ua.slice_list;obtain⟨b,n,c,l,cur,t1,t2,t3,t4,t5,t6,t7,t8,t9,xa⟩:=h.inv.tok t' e hk;obtain⟨q1,q2,q3⟩:=ac xb;rw[t1]at q3;simp only[Qa,Qd]at q3;obtain⟨rfl,rfl,rfl,rfl⟩:=q3;have nb:l=sz:=by obtain⟨jc,z',i1,i2,_⟩:=t4;rw[hi]at i1;simp only[Qa]at i1;subst i1;omega
       subst nb;have tb:ad=⟨ad.block,0,none⟩:=by cases ad;simp_all
       have ya:w.heap[ad.block]?=some (.cells cur e (0,0)):=t5;have ec:∀(j:Nat) v,jb[j]?=some v->cur[j]?=some v:=by
        intro j v hv;have:=hb j v hv;rw[tb,Fr,Qu]at this;simpa[World.cell?,ya]using this
       have pb:cur.toList.take (n*l)=jb:=by
        apply Zz;intro j;by_cases hj:j<n*l
        ·rw[Qp hj];have:jb[j]?=some (jb[j]' O):=Qc _;rw[this];simpa using ec j _ this
        ·rw[Qj Xc,Qj O]
       have sb:GJ P B w0 (m.put t' 0 [.tok 0]) w g:=h.inv.kill (by
        cases hd:g.dl t' with
        |none=>rfl
        |some b'=>
         obtain⟨_,_,vs,T,_,r⟩:=h.inv.obj t' b' hd;obtain⟨v,_,_,r3⟩:=r 0 _ hk;cases r3)
       have dc:fr≠t':=by rintro rfl;rw[h.self.1 0]at hk;cases hk
       have gc:BU (m.put t' 0 [.tok 0]) g fr:=BU.kill h.self dc;have ia:∀b' n' c' s',∀i,BU m g i->¬fr<:+i->BU ((m.put t' 0 [.tok 0]).put fr 0 [.tok (e+1)]) (g.tok fr b' n' c' s') i:=by
        intro b' n' c' s' i hf fa;exact CN (BU.kill hf (by rintro rfl;rw[hf.1 0]at hk;cases hk)) fa _ _ _ _ _
       have ja:∀dd∈xs++ys,dd.cells.length=l:=by
        intro dd wb;rcases Qg.1 wb with hd|hd
        ·exact zb dd hd
        ·exact rb dd hd
       have bb:∀dd∈xs++ys,dd.calm=true:=by
        intro dd wb;rcases Qg.1 wb with hd|hd
        ·exact fc dd hd
        ·exact fb dd hd
       have ra:AW w g (flat (xs++ys)) (jb++ws):=by rw[Io];exact AW.append qb ea
       have ba:n+ys.length=(xs++ys).length:=Xc
       have yb:(n+ys.length)<=maxLen:=Xq
       by_cases f:n+ys.length<=c
       ·-- there is room
        have ca:n*ti.size+ws.length<=cur.size:=by rw[ta,oa,t8,←QQ];exact QA _ f
        have hr:=Ts (P:=P) (ty:=o.type) hu hi ya gb ea.2.1 f ca;rw[oa]at hr ca
        let na:Array Value:=(cur.toList.take (n*l)++ws++cur.toList.drop (n*l+ws.length)).toArray
        have da:(cur.toList.take (n*l)).length=n*l:=by rw[QT];simp;omega
        have sa:na.size=cur.size:=by simp[na];omega
        have va:∀j,j<n*l->na[j]?=cur[j]?:=by
         intro j hj;simp only[na,QI,QK];rw[Qm O,Qp hj];simp
        have ha:=h.inv.inPlace h.self hk t1 (ZC n ys.length) f ya sa va;have ma:GY w g (w.setRow ad.block na) (g.tok fr ad.block (n+ys.length) c l):=GY.inPlace h.self.2.2 t9 (ZC n ys.length) ya va;refine⟨_,_,_,_,la _ _ (by rw[ev,tb];exact hr),.inl rfl,ha,ma,?_,ia _ _ _ _⟩;refine aH (sz:=l) (cur:=na) (T:=e) (fz:=(0,0)) (setRow_heap w ad.block cur na e _ ya) ba f ja (ra.ext ma) (λj v hv=>?_) Xn (λ_=>Xn) bb;simp only[na,QI,pb];rw[Qm (Qe.1 hv).1];exact hv
       ·-- there is none
        have hr:=Tu (P:=P) (ty:=o.type) hu hi hz (b:=ad) (sLen:=n) (sCap:=c) (olds:=jb) (by rw[ob,oa]) hb gb O O (growslice_fits O (by rw[ka,hn];exact kb));have ga:=grownCap_ge w (n+ys.length) c e;have eb:grownCap w (n+ys.length) c e<=maxLen:=grownCap_le_maxLen w (n+ys.length) c e yb;have mb:(jb.toArray++ws.toArray++Builtin.zeroCells z.cells (grownCap w (n+ys.length) c e-(n+ys.length))).size=grownCap w (n+ys.length) c e*l:=by
         simp only[Zx,Zy,size_zeroCells,ib,ta,ob,←QQ];congr 1;omega
        have ha:=sb.drew.newTok gc (e:=e) (n:=n+ys.length) (c:=grownCap w (n+ys.length) c e) (sz:=l) (cur:=jb.toArray++ws.toArray++Builtin.zeroCells z.cells (grownCap w (n+ys.length) c e-(n+ys.length))) qa ab ga eb mb;have ma:GY w g (w.drew.alloc (.cells (jb.toArray++ws.toArray++Builtin.zeroCells z.cells (grownCap w (n+ys.length) c e-(n+ys.length))) e)) (g.tok fr w.heap.size (n+ys.length) (grownCap w (n+ys.length) c e) l):=
         (GY.drew w g).trans (GY.newTok (w:=w.drew) _ h.inv.gz h.self.2.2 rfl)
        refine⟨_,_,_,_,la _ _ (by rw[ev];exact hr),.inl rfl,ha,ma,?_,ia _ _ _ _⟩;refine aH (sz:=l) (cur:=jb.toArray++ws.toArray++Builtin.zeroCells z.cells (grownCap w (n+ys.length) c e-(n+ys.length))) (T:=e) (fz:=(0,0)) (heap_alloc_new w.drew _) ba ga ja (ra.ext ma) (λj v hv=>?_) Xn (λ_=>Xn) bb;have hj:=(Qe.1 hv).1;rw[QH (by simpa using hj)];simpa using hv
      ·cases aa
     ·cases aa
   ·cases aa
 ·cases aa
end
section
variable{P:Program}{B:Nat}{w0 w:World}{m:GB}{g:Gh}{fr:Id}{s:Nat->D}{a:Act}{S:Gz}{d:D}{u:GF}
theorem NV{v:Value}{d:D}(h:ofLeaf v=some d):d.calm1=true∧d.calm=true:=by
 unfold ofLeaf at h;split at h<;>first|(simp only[Qa]at h;subst h;exact⟨rfl,rfl⟩)|cases h
theorem iR{v:Value}{d:D}(h:ofVal v=some d):d.calm=true:=by
 cases v with
 |agg cs=>
  simp only[ofVal,Qb]at h;obtain⟨l,hl,rfl⟩:=h;have i:∀{vs:List Value} {l:List D},ofLeaves vs=some l->l.all D.calm1=true:=by
   intro vs;induction vs with
   |nil=>intro l h;simp only[ofLeaves,Qa]at h;subst h;rfl
   |cons v r ih=>
    intro l h;unfold ofLeaves at h;split at h
    ·grind [NV]
    ·cases h
  exact i hl
 |_=>simp only[ofVal]at h;exact(NV h).2
def rU{t e:TypeId}{o:Oper}{x y:Operand}{p q:GE}{sz bytes:Nat}{z:D}(h:At P B w0 w m g fr s a)(hu:P.underlying t=some (.slice e))(he:Ir P e=some (sz,bytes))
  (hz:CU P e=some z) (hx:AC x=some p) (hy:AC y=some q) (ho:o.op= .makeSlice t x y)
  (aa:Aw S s m fr (.mksl e sz bytes z p q)=some (d,u)):CQ P B w0 m g fr w (GF.app m u) d (execOp a.eval o):=by
 obtain⟨qa,ti,zv,hi,oa,r,ib,ka⟩:=Iq he;have ua:=h.slots.arg hx;have cb:=h.slots.arg hy;have da:Rep w g z zv:=by
  grind [CU,Rep.ofVal]
 have ab:z.data=true:=by
  unfold CU at hz;simp only[hi,r]at hz;cases zv<;>first|(simp only[ofVal,Qb]at hz;obtain⟨l,_,rfl⟩:=hz;rfl)|(simp only[ofVal]at hz;exact NT hz)
 have za:z.calm=true:=by
  grind [CU,iR]
 simp only[Aw]at aa;split at aa
 ·rename_i k n k' c ex ey;rw[ex]at ua;rw[ey]at cb;split at aa
  ·rename_i hc;obtain⟨h0,wa,ub,f⟩:=hc;obtain⟨n,rfl⟩:=Zh h0;obtain⟨c,rfl⟩:=Zh (Int.le_trans h0 wa);have bb:c*(bytes+1)<=140737488355328:=by
    grind
   have kb:bytes*c<=140737488355328:=by
    grind
   have pa:c<=140737488355328:=by
    grind
   have ea:(ti.bytes:Int)*(c:Int)<=281474976710656:=by
    grind
   have hr:=run_make (P:=P) w t e ti zv hu hi r k k' (n:Int) (c:Int) O O ea O;simp only[Int.toNat_natCast,oa]at hr;split at aa
   ·rename_i ja;split at aa
    ·rename_i bc;simp only[Qa,Qd]at aa;obtain⟨rfl,rfl⟩:=aa;obtain rfl:n=c:=by omega
     have xa:z.cells.length=1∧zv.cells=#[zv]∧zv.oneCell'=true:=by
      cases z with
      |nilIface=>
       obtain rfl:zv= .nilIface:=by cases da;rfl
       exact⟨rfl,rfl,rfl⟩
      |str b=>
       obtain⟨v,rfl⟩:∃v,zv= .string v:=by cases da;exact⟨_,rfl⟩
       exact⟨rfl,rfl,rfl⟩
      |_=>cases ja
     obtain⟨ya,eb,db⟩:=xa;obtain rfl:1=sz:=ya.symm.trans f;have ga:∀(j:Nat),j<n->(madeCells #[zv] (n*1)).toList[j]?=some zv:=by
      intro j hj;simp[madeCells,hj,Nat.mod_one]
     have ba:(madeCells #[zv] (n*1)).toList.length=n:=by simp[madeCells]
     have la:AW w g (Qz n z) (madeCells #[zv] (n*1)).toList:=by
      refine⟨by rw[ba];simp,λv hv=>?_,λj d v hd hv=>?_⟩
      ·obtain⟨j,hj,rfl⟩:=Za hv;have:=ga j (by rw[ba]at hj;exact hj);rw[Qc hj]at this;rw[QJ this];exact db
      ·grind
     refine⟨.slice (some ⟨w.heap.size,0,none⟩) n n,w.alloc (.cells (madeCells #[zv] (n*1)) e),g.obj fr w.heap.size,.value (.slice (some ⟨w.heap.size,0,none⟩) n n),?_,.inl rfl,?_⟩
     ·simp only[execOp,ho,ua.int_inv,cb.int_inv,Sem.run_bind,Sem.run_pure];rw[eb]at hr;rw[hr];rfl
     ·have:=h.inv.newObj h.self (ds:=Qz n z) (vs:=(madeCells #[zv] (n*1)).toList) e la;rw[QC]at this;exact⟨this,GY.newObj _ h.inv.gz h.self.2.1,.row fr n n w.heap.size (Qk _) (by simp[Gh.obj]),λi hf fa=>Et hf fa _ _⟩
    ·cases aa
   ·simp only[Qa,Qd]at aa;obtain⟨rfl,rfl⟩:=aa;have fb:zv.cells.size=sz:=ib;have ca:=da.cells ab;have ha:=h.inv.newTok h.self (e:=e) (n:=n) (c:=c) (sz:=sz) (cur:=madeCells zv.cells (c*sz)) qa ⟨ti,zv,hi,oa,r,ib⟩ O Xq (by simp[size_madeCells]);have ma:=GY.newTok (t:=fr) (n:=n) (c:=c) (sz:=sz) (Obj.cells (madeCells zv.cells (c*sz)) e) h.inv.gz h.self.2.2 rfl;refine⟨.slice (some ⟨w.heap.size,0,none⟩) n c,_,_,.value (.slice (some ⟨w.heap.size,0,none⟩) n c),?_,.inl rfl,ha,ma,?_,λi hf fa=>CN hf fa _ _ _ _ _⟩
    ·simp only[execOp,ho,ua.int_inv,cb.int_inv,Sem.run_bind,hr,Result.andThen_ok,Sem.run_pure]
    ·have na:∀k,flat (Qz k z)=(Qz k z.cells).flatten:=by
      intro k;induction k with
      |zero=>rfl
      |succ k ih=>simp[List.replicate_succ,flat,ih]
     have ia:∀(j:Nat),j<n*sz->(flat (Qz n z))[j]?=z.cells[j % sz]?:=by
      intro j hj;have hq:j / sz<n:=Nat.div_lt_of_lt_mul (by rw[ZK];exact hj);have:=Ea (sz:=sz) (xs:=Qz n z) (k:=j / sz) (j:=j % sz) (λd hd=>YE) (by simpa using hq) (ZJ _ qa);rw[show j / sz*sz+j % sz=j by rw[ZK];exact Nat.div_add_mod j sz]at this;rw[this];simp
     have va:(flat (Qz n z)).length=n*sz:=by
      simp_all
     have ra:AW w g (flat (Qz n z)) ((madeCells zv.cells (c*sz)).toList.take (n*sz)):=by
      have ta:n*sz<=c*sz:=QA _ O;have ga:∀j,j<n*sz->((madeCells zv.cells (c*sz)).toList.take (n*sz))[j]?=zv.cells.toList[j % sz]?:=by
       intro j hj;rw[Qp hj];have hm:j % sz<zv.cells.size:=by rw[ib];exact ZJ _ qa
       simp[madeCells,ib,show j<c*sz by omega];rw[getElem!_pos zv.cells _ hm,getElem?_pos zv.cells _ hm]
      refine⟨by rw[QT,va,QW,size_madeCells];omega,λv hv=>?_,λj d v hd hv=>?_⟩
      ·obtain⟨j,hj,rfl⟩:=Za hv;have sa:j<n*sz:=QN hj (Zr _ _);have:=ga j sa;rw[Qc hj]at this;exact ca.2.1 _ (Qr this.symm)
      ·have sa:j<n*sz:=by have:=(Qe.1 hd).1;omega
       rw[ia j sa]at hd;rw[ga j sa]at hv;exact ca.2.2 _ d v hd hv
     refine aH (sz:=sz) (cur:=madeCells zv.cells (c*sz)) (T:=e) (fz:=(0,0)) (heap_alloc_new w _) U O (λd hd=>YE) (ra.ext ma) (λj v hv=>?_) Xn (λ_=>Xn) (λd hd=>by rw[List.eq_of_mem_replicate hd];exact za);have hj:j<n*sz:=QN (Qe.1 hv).1 (Zr _ _);rw[Qp hj]at hv;simpa using hv
  ·cases aa
 ·cases aa
def NO:∀b:List UInt8,flat (AF b)=AF b
 |[]=>rfl
 |c::r=>by
  have:=NO r;simp only[AF]at this;simp only[AF,Qs,flat,D.cells,Q2,Zl,this]
def aA6{p ia e:TypeId}{o:Oper}{x:Operand}{y:GE}(h:At P B w0 w m g fr s a)(hs:P.underlying p=some .string)(r:P.underlying ia=some (.slice e))(n:P.underlying e=some (.int .u8))
  (q:AC x=some y) (ho:o.op= .convert p ia x) (z:Aw S s m fr (.s2b y)=some (d,u)):u=[]∧CQ P B w0 m g fr w m d (execOp a.eval o):=by
 have hr:=h.slots.arg q;simp only[Aw]at z;split at z
 ·rename_i b e1;rw[e1]at hr;simp only[Qa,Qd]at z;obtain⟨rfl,rfl⟩:=z;have la:=Lib.run_convert_string_bytes (P:=P) w p ia e ⟨b.toArray⟩ hs r n;have f:Below w.heap.size w (Lib.bytesWorld w e ⟨b.toArray⟩):=
   ⟨rfl,rfl,rfl,by rw[Lib.bytesWorld_size];omega,λk hk=>Lib.bytesWorld_at_old w e _ k hk⟩
  have ka:(ByteArray.mk b.toArray).size=b.length:=XU
  rw[ka]at la;refine⟨rfl,.slice (some ⟨w.heap.size,0,none⟩) b.length (grownCap w b.length 0 e),_,_,.value (.slice (some ⟨w.heap.size,0,none⟩) b.length (grownCap w b.length 0 e)),?_,.inl rfl,h.inv.over f,GY.over h.inv.gz f,?_,λi hf _=>hf⟩
  ·simp only[execOp,ho,hr.str_inv,Sem.run_bind,la,Result.andThen_ok,Sem.run_pure]
  ·have l:=Lib.bytesWorld_at_new w e ⟨b.toArray⟩;have va:=NO b;refine aH (sz:=1) (cur:=Lib.bytesCells w e ⟨b.toArray⟩) (vs:=b.map λc=> .int .u8 c.toNat) l (by simp[AF]) (grownCap_ge w _ 0 e) (λd r=>?_) ⟨?_,?_,?_⟩ (λj v hv=>?_) ?_ U (λd r=>by simp only[AF,Qv]at r;obtain⟨c,_,rfl⟩:=r;rfl)
   ·simp only[AF,Qv]at r;obtain⟨c,_,rfl⟩:=r;rfl
   ·rw[va];simp[AF]
   ·intro v hv;simp only[Qv]at hv;obtain⟨c,_,rfl⟩:=hv;rfl
   ·intro j d v r hv;rw[va]at r;simp only[AF,Qi,Qb]at r hv;obtain⟨c,hc,rfl⟩:=r;obtain⟨c',t,rfl⟩:=hv;rw[hc]at t;simp only[Qa]at t;subst t;exact .int _ _
   ·simp only[Lib.bytesCells];have hj:=(Qe.1 hv).1;rw[QH (by simpa using hj)];simpa using hv
   ·simp only[Gh.over];rw[if_neg O,l];simp[Lib.bytesCells,ka]
 ·cases z
def I5:∀{xs:List D} {b:List UInt8},BB xs=some b->∃ns:List Int,xs=ns.map (D.int .u8)∧b=ns.map λn=>UInt8.ofNat n.toNat
 |[],b,h=>by simp only[BB,Qa]at h;subst h;exact⟨[],rfl,rfl⟩
 |x::r,b,h=>by
  unfold BB at h;split at h
  ·rename_i f;cases f
  ·rename_i n w f;cases f;rw[Qb]at h;obtain⟨v,m,rfl⟩:=h;obtain⟨ns,rfl,rfl⟩:=I5 m;exact⟨n::ns,rfl,rfl⟩
  ·cases h
def FY:∀(ns:List Int)(r:List UInt8),ns.foldl (λ(r:ByteArray) n=>r.push (UInt8.ofNat n.toNat)) ⟨r.toArray⟩=⟨(r++ns.map λn=>UInt8.ofNat n.toNat).toArray⟩
 |[],r=>U
 |n::ns,r=>by
  simp only[Q8,Qs];have:(ByteArray.mk r.toArray).push (UInt8.ofNat n.toNat)=⟨(r++[UInt8.ofNat n.toNat]).toArray⟩:=by
   simp[ByteArray.push]
  rw[this,FY ns];simp
def aA9{p ia e:TypeId}{o:Oper}{x:Operand}{y:GE}(h:At P B w0 w m g fr s a)(hs:P.underlying p=some (.slice e))(t:P.underlying ia=some .string)(he:P.underlying e=some (.int .u8))
  (q:AC x=some y) (ho:o.op= .convert p ia x) (z:Aw S s m fr (.b2s y)=some (d,u)):u=[]∧CQ P B w0 m g fr w m d (execOp a.eval o):=by
 have hr:=h.slots.arg q;simp only[Aw]at z;split at z
 ·rename_i nl t' xs e1;rw[e1]at hr;rw[Qb]at z;obtain⟨b,hb,z⟩:=z;simp only[Qd]at z;obtain⟨rfl,rfl⟩:=z;cases nl with
  |true=>
   rcases hr.slice_inv with ⟨_,rfl,ev⟩|⟨h0,_⟩
   ·simp only[BB,Qa]at hb;subst hb;refine⟨rfl,.pure (v:= .string ⟨([]:List UInt8).toArray⟩) h.inv ?_ (.str _)⟩;simp[execOp,ho,ev,convert,run_underlying hs,run_underlying t,run_underlying he,Conv.bytesToString];rfl
   ·cases h0
  |false=>
   obtain⟨ns,rfl,rfl⟩:=I5 hb;obtain⟨ad,n,c,sz,ws,ev,hn,wa,ka,ta,ea,ga,hG,_,_⟩:=hr.slice_list;have va:∀l:List Int,flat (l.map (D.int .u8))=l.map (D.int .u8):=by
    intro l;induction l with
    |nil=>rfl
    |cons c r ih=>simp only[Qs,flat,D.cells,Q2,Zl,ih]
   rw[va]at ea;have ra:ws=ns.map (Value.int .u8):=by
    apply Zz;intro j;have hl:=ea.1;by_cases hj:j<ws.length
    ·have qa:j<ns.length:=by simpa[hl]using hj
     have:=ea.2.2 j (.int .u8 ns[j]) ws[j] (by simp[qa]) (Qc hj);rw[Qc hj,this.int_inv];simp[qa]
    ·rw[Qj O,Qj (by simp;simp at hl;omega)]
   have pa:ws.length=n:=by rw[ra,hn];simp
   have i:(loadCells ad n).run P w= .ok (ns.map (Value.int .u8)).toArray w:=by
    have:=run_loadCells_list (P:=P) w ad ws ga;rw[pa,ra]at this;exact this
   have la:=run_bytesToString (P:=P) w ad n c ns i;have k:=FY ns [];refine⟨rfl,.pure (v:= .string ⟨(ns.map λn=>UInt8.ofNat n.toNat).toArray⟩) h.inv ?_ (.str _)⟩;have f:(convert p ia (.slice (some ad) n c)).run P w=(Conv.bytesToString (.slice (some ad) n c)).run P w:=by
    simp[convert,run_underlying hs,run_underlying t,run_underlying he]
   simp only[execOp,ho,ev,Sem.run_bind,f,la,Result.andThen_ok,Sem.run_pure];rw[show ByteArray.empty=⟨([]:List UInt8).toArray⟩from rfl,k];rfl
 ·cases z
end
section
variable{P:Program}{B:Nat}{w0 w:World}{m:GB}{g:Gh}{fr:Id}{s:Nat->D}{a:Act}{S:Gz}{d:D}{u:GF}
def CQ.of_nil{x:Sem Next}(h:u=[]∧CQ P B w0 m g fr w m d x):CQ P B w0 m g fr w (GF.app m u) d x:=by
 obtain⟨rfl,h⟩:=h;exact h
def bF{w:World}{g:Gh}{d e:D}{v u:Value}(h:Rep w g d v)(k:Rep w g e u):Rep w g (.tup [d,e]) (.tuple #[v,u]):=by
 refine .tup [d,e] [v,u] rfl (λj n s p x=>?_)
 match j with
 |0=>simp at p x;subst p x;exact h
 |1=>simp at p x;subst p x;exact k
 |j+2=>simp at p
def mK{ne:Bool}{t:TypeId}{x y:Operand}{yt:TypeId}{o:Oper}{p q:GE}{ma:DOp}(h:At P B w0 w m g fr s a)(hx:AC x=some p)(hy:AC y=some q)
  (n:wE P ne t x y p q=some ma) (ho:o.op= .binOp (if ne then .neq else .eql) t x y yt) (z:Aw S s m fr ma=some (d,u)):u=[]∧CQ P B w0 m g fr w m d (execOp a.eval o):=by
 have ua:=h.slots.arg hx;have cb:=h.slots.arg hy;have la:∀v,(eqGuard (if ne then .neq else .eql) t x y (a.eval x) (a.eval y)).run P w= .ok () w->(binOp (if ne then .neq else .eql) t (a.eval x) (a.eval y)).run P w= .ok v w->(execOp a.eval o).run P w= .ok (.value v) w:=by
  intro v e1 e2;simp only[execOp,ho,Sem.run_bind,e1,e2,Result.andThen_ok,Sem.run_pure]
 have i:ma= .bin (if ne then .neq else .eql) p q->u=[]∧CQ P B w0 m g fr w m d (execOp a.eval o):=by
  rintro rfl;simp only[Aw]at z;rw[Qb]at z;obtain⟨d',h1,z⟩:=z;simp only[Qd]at z;obtain⟨rfl,rfl⟩:=z;obtain⟨v,e1,e2,e3,e4⟩:=SU (P:=P) (t:=t) ua cb h1;exact⟨rfl,.pure h.inv (la v (Ik _ t x y _ _ e3 e4 w) e1) e2⟩
 have f:∀k td,P.underlying t=some td->aBc k td->(k=2->(Gi x||Gi y)=true)->ma= .nileq ne k p q->u=[]∧CQ P B w0 m g fr w m d (execOp a.eval o):=by
  rintro k td hu r j rfl;simp only[Aw]at z;rw[Qb]at z;obtain⟨b,h1,z⟩:=z;simp only[Qd]at z;obtain⟨rfl,rfl⟩:=z;obtain⟨e1,e2,e3,e4⟩:=V2 ua cb h1 hu r 9999;exact⟨rfl,.pure h.inv (la _ (WD _ t x y _ _ e3 (λe=>j (e4 e)) w) (Tp e2 ne e1)) (.bool _)⟩
 unfold wE at n;split at n
 ·rename_i hu;simp only[Qa]at n;subst n;simp only[Aw]at z;split at z
  ·rename_i b c ex ey;rw[ex]at ua;rw[ey]at cb;simp only[Qa,Qd]at z;obtain⟨rfl,rfl⟩:=z;refine⟨rfl,.pure h.inv (la _ (Ik _ t x y _ _ (by rw[ua.bool_inv];simp) (by rw[ua.bool_inv];simp) w) (Tp (by rw[ua.bool_inv];rfl) ne (b:=b==c) ?_)) (.bool _)⟩;rw[ua.bool_inv,cb.bool_inv];exact run_equalIn_bool' w 9999 t _ _ hu
  ·cases z
 ·simp_all
 ·simp_all
 ·rename_i fs hu;split at n
  ·rename_i j;rw[Qb]at n;obtain⟨l,hl,rfl⟩:=n;simp only[Aw]at z;split at z
   ·rename_i xs ys ex ey;rw[ex]at ua;rw[ey]at cb;rw[Qb]at z;obtain⟨b,h1,z⟩:=z;simp only[Qd]at z;obtain⟨rfl,rfl⟩:=z;obtain⟨e1,e2⟩:=Tl ua cb hu j.1 j.2 hl h1 x y (if ne then .neq else .eql);refine⟨rfl,.pure h.inv (la _ e2 (Tp ?_ ne e1)) (.bool _)⟩;obtain⟨vs,e3,_⟩:=aJ ua;rw[e3];rfl
   ·cases z
  ·cases n
 ·rename_i e hu;simp only[Qa]at n;exact f 0 _ hu ⟨e,rfl⟩ U n.symm
 ·rename_i e hu;simp only[Qa]at n;exact f 1 _ hu ⟨e,rfl⟩ U n.symm
 ·rename_i p' r' v' hu;simp only[Qa]at n;exact f 3 _ hu ⟨p',r',v',rfl⟩ U n.symm
 ·rename_i ms hu;split at n
  ·rename_i j;simp only[Qa]at n;exact f 2 _ hu ⟨ms,rfl⟩ (λ_=>j) n.symm
  ·cases n
 ·cases n
def aA8{op:BinOp}{t:TypeId}{x y:Operand}{r:TypeId}{o:Oper}{p q:GE}(h:At P B w0 w m g fr s a)(hx:AC x=some p)(i:AC y=some q)
  (f:o.op= .binOp op t x y r) (z:Aw S s m fr (.bin op p q)=some (d,u)):u=[]∧CQ P B w0 m g fr w m d (execOp a.eval o):=by
 simp only[Aw]at z;rw[Qb]at z;obtain⟨n,h1,z⟩:=z;simp only[Qd]at z;obtain⟨rfl,rfl⟩:=z;obtain⟨v,j,b,c,e⟩:=SU (P:=P) (t:=t) (h.slots.arg hx) (h.slots.arg i) h1;refine⟨rfl,.pure h.inv ?_ b⟩;simp only[execOp,f,Sem.run_bind,Ik op t x y _ _ c e w,j,Result.andThen_ok,Sem.run_pure]
def rS{x:Operand}{xt t:TypeId}{ok:Bool}{z:D}{o:Oper}{p:GE}{td:TypeDesc}(h:At P B w0 w m g fr s a)(hu:P.underlying t=some td)(r:∀ms,td≠ .interface ms)(hz:CU P t=some z)
  (q:AC x=some p) (f:o.op= .typeAssert x xt t ok) (y:Aw S s m fr (.tass t ok z p)=some (d,u)):u=[]∧CQ P B w0 m g fr w m d (execOp a.eval o):=by
 have ua:=h.slots.arg q;obtain⟨zv,j,b⟩:∃zv,Rep w g z zv∧(zeroValue t).run P w= .ok zv w:=by
  unfold CU at hz;split at hz
  ·rename_i i hi;split at hz
   ·rename_i v hv;exact⟨v,Rep.ofVal hz,by simp[zeroValue,typeInfo,hi,hv]⟩
   ·cases hz
  ·cases hz
 have n:∀v,(Instr.typeAssert (a.eval x) xt t ok).run P w= .ok v w->(execOp a.eval o).run P w= .ok (.value v) w:=by
  intro v e;simp only[execOp,f,Sem.run_bind,e,Result.andThen_ok,Sem.run_pure]
 simp only[Aw]at y;split at y
 ·rename_i t' d' ex;rw[ex]at ua;obtain⟨v,ev,hv,_⟩:=ua.iface_inv;split at y
  ·rename_i sa;subst sa;simp only[Qa,Qd]at y;obtain⟨rfl,rfl⟩:=y;refine⟨rfl,.pure (v:=if ok then .tuple #[v,.bool true]else v) h.inv (n _ ?_) ?_⟩
   ·rw[ev];unfold Instr.typeAssert;simp only[Sem.run_bind,run_underlying hu,Result.andThen_ok];cases td<;>first|exact absurd rfl (r _)|(cases ok<;>simp)
   ·cases ok
    ·exact hv
    ·exact bF hv (.bool true)
  ·rename_i sa;split at y
   ·rename_i k;subst k;simp only[Qa,Qd]at y;obtain⟨rfl,rfl⟩:=y;refine⟨rfl,.pure (v:= .tuple #[zv,.bool false]) h.inv (n _ ?_) (bF j (.bool false))⟩;rw[ev];unfold Instr.typeAssert;simp only[Sem.run_bind,run_underlying hu,Result.andThen_ok];have c:¬t'=t:=sa;cases td<;>first|exact absurd rfl (r _)|(simp[c,b])
   ·cases y
 ·rename_i ex;rw[ex]at ua;have ev:=ua.nili_inv;split at y
  ·rename_i k;subst k;simp only[Qa,Qd]at y;obtain⟨rfl,rfl⟩:=y;refine⟨rfl,.pure (v:= .tuple #[zv,.bool false]) h.inv (n _ ?_) (bF j (.bool false))⟩;rw[ev];unfold Instr.typeAssert;simp only[Sem.run_bind,run_underlying hu,Result.andThen_ok];cases td<;>first|exact absurd rfl (r _)|(simp[b])
  ·cases y
 ·cases y
def cE{xs:Array Operand}{l:List GE}(h:At P B w0 w m g fr s a)(hl:DP xs.toList=some l):
  ((xs.map a.eval).toList).length=(l.map (·.ev s)).length∧∀(j:Nat) d v,(l.map (·.ev s))[j]?=some d->((xs.map a.eval).toList)[j]?=some v->Rep w g d v:=by
 have:=h.slots.args hl;simpa using this
end
def M7{w:World}{b k:Nat}{o:Obj}(h:k≠b):({w with heap:=w.heap.setIfInBounds b o}:World).heap[k]?=w.heap[k]?:=by
 grind
def Gh.itr(g:Gh)(t:Id)(b:Nat):Gh:={g with tb:=λi=>if i=t then some (b,0,0,0)else g.tb i}
section
variable{P:Program}{B:Nat}{w0 w w':World}{m:GB}{g g':Gh}{fr:Id}{s:Nat->D}{a:Act}{S:Gz}{d:D}{u:GF}
def DY(m:GB)(t:Id)(x:D)(i:Id)(o:Nat):m.put t 1 [x] i o=if i=t∧o=1 then some x else m i o:=by
 grind [GB.put]
def GY.newItr{t:Id}(o:Obj)(n:∀b,w.heap.size<=b->g.G b=0)(s:g.tb t=none):GY w g (w.alloc o) (g.itr t w.heap.size):=by
 refine⟨λp k=>?_,λv=>Qk _,λz b h=>h,rfl,λi x h=>?_⟩
 ·by_cases y:p.block<w.heap.size
  ·exact World.cell?_alloc_lt w o p y
  ·simp_all
 ·grind [Gh.itr]
def GJ.newItr(h:GJ P B w0 m w g){t:Id}(hf:BU m g t)(bs:List UInt8):GJ P B w0 (m.put t 1 [.it bs 0]) (w.alloc (.stringIter ⟨bs.toArray⟩ 0)) (g.itr t w.heap.size):=by
 have x:=GY.newItr (t:=t) (Obj.stringIter ⟨bs.toArray⟩ 0) h.gz hf.2.2;have ea:=DY m t (.it bs 0);refine⟨h.below.alloc h.size _,Yn,λb hb=>h.gz b (by simp at hb;omega),h.old,λi b hi=>?_,h.inj,λi o d hm a=>?_,λi e hi=>?_,λi1 i2 z e2 b y y' u f h3 h4=>?_,λi s p hi=>?_,λi i' s p s' p' b y y' u f h3 h4=>?_⟩
 ·obtain⟨p,q,vs,T,hh,r⟩:=h.obj i b hi;refine⟨p,q,vs,T,(Below.heap_alloc w _ b (h.lt hi)).trans hh,λo d hm=>?_⟩;rw[ea,if_neg (by rintro⟨rfl,_⟩;simp only[Gh.itr]at hi;rw[hf.2.1]at hi;cases hi)]at hm;obtain⟨v,r1,r2,r3⟩:=r o d hm;exact⟨v,r1,r2,r3.ext x⟩
 ·rw[ea]at hm;split at hm
  ·rw[←QJ hm];rfl
  ·exact h.kind _ _ _ hm a
 ·rw[ea,if_neg U]at hi;obtain⟨b,n,c,sz,cur,t1,t2,t3,t4,t5,t6,t7,t8,t9,xa⟩:=h.tok i e hi;have k:b<w.heap.size:=(Qf.1 t5).1;have j:i≠t:=by rintro rfl;rw[hf.1 0]at hi;cases hi
  exact⟨b,n,c,sz,cur,by simp[Gh.itr,j,t1],t2,t3,t4,(Below.heap_alloc w _ b k).trans t5,t6,t7,t8,t9,xa⟩
 ·rw[ea,if_neg U]at u f;have n1:i1≠t:=by rintro rfl;rw[hf.1 0]at u;cases u
  have n2:i2≠t:=by rintro rfl;rw[hf.1 0]at f;cases f
  simp only[Gh.itr,if_neg n1]at h3;simp only[Gh.itr,if_neg n2]at h4;exact h.tinj _ _ _ _ _ _ _ u f h3 h4
 ·rw[ea]at hi;split at hi
  ·rename_i hc;obtain⟨rfl,_⟩:=hc;simp only[Qa,D.it.injEq]at hi;obtain⟨rfl,rfl⟩:=hi;exact⟨w.heap.size,by simp[Gh.itr],h.size,heap_alloc_new w _,h.gz _ (Qk _),λi' h'=>by have:=h.lt h';omega⟩
  ·obtain⟨b,t1,t2,t3,t4,t5⟩:=h.itr.1 i s p hi;have k:b<w.heap.size:=(Qf.1 t3).1;have j:i≠t:=by rintro rfl;rw[hf.1 1]at hi;cases hi
   exact⟨b,by simp[Gh.itr,j,t1],t2,(Below.heap_alloc w _ b k).trans t3,t4,t5⟩
 ·have ga:∀i s p,m i 1=some (.it s p)->∀b y,(g.itr t w.heap.size).tb i=some (b,y)->i≠t∧g.tb i=some (b,y)∧b<w.heap.size:=by
   intro i s p hm b y hb;have j:i≠t:=by rintro rfl;rw[hf.1 1]at hm;cases hm
   simp only[Gh.itr,if_neg j]at hb;obtain⟨b',t1,t2,t3,t4,t5⟩:=h.itr.1 i s p hm;rw[t1]at hb;simp only[Qa,Qd]at hb;obtain⟨rfl,rfl⟩:=hb;exact⟨j,t1,(Qf.1 t3).1⟩
  rw[ea]at u f;split at u<;>split at f
  ·simp_all
  ·grind [Gh.itr]
  ·grind [Gh.itr]
  ·obtain⟨_,k3,_⟩:=ga _ _ _ u _ _ h3;obtain⟨_,k4,_⟩:=ga _ _ _ f _ _ h4;exact h.itr.2 _ _ _ _ _ _ _ _ _ u f k3 k4
def GJ.nextItr(h:GJ P B w0 m w g){i:Id}{b:Nat}{bs:List UInt8}{p q:Nat}(t:m i 1=some (.it bs p))(hb:g.tb i=some (b,0,0,0)):
  GJ P B w0 (m.put i 1 [.it bs q]) {w with heap:=w.heap.setIfInBounds b (.stringIter ⟨bs.toArray⟩ q)} g∧GY w g {w with heap:=w.heap.setIfInBounds b (.stringIter ⟨bs.toArray⟩ q)} g:=by
 obtain⟨b0,t1,t2,t3,t4,t5⟩:=h.itr.1 i bs p t;rw[hb]at t1;simp only[Qa,Qd,and_true]at t1;subst t1;have da:b<w.heap.size:=(Qf.1 t3).1;have ca:∀k,k≠b->({w with heap:=w.heap.setIfInBounds b (.stringIter ⟨bs.toArray⟩ q)}:World).heap[k]?=w.heap[k]?:=λk hk=>M7 hk
 have ea:=DY m i (.it bs q);have x:GY w g {w with heap:=w.heap.setIfInBounds b (.stringIter ⟨bs.toArray⟩ q)} g:=by
  refine⟨λr hr=>?_,λ_=>Qk _,λ_ _ h=>h,rfl,λ_ _ h=>h⟩;have fa:r.block≠b:=by rintro e;rw[e,t4]at hr;omega
  simp only[World.cell?];rw[ca _ fa]
 have ka:({w with heap:=w.heap.setIfInBounds b (.stringIter ⟨bs.toArray⟩ q)}:World).heap.size=w.heap.size:=U
 refine⟨⟨⟨h.below.os,h.below.tape,h.below.output,Ye,λk hk=>(ca k O).trans (h.below.block k hk)⟩,Yd,by rw[ka];exact h.gz,h.old,λi' b' hi=>?_,h.inj,λi' o d aa a=>?_,λi' e hi=>?_,λi1 i2 e1 e2 b' y y' u f h3 h4=>?_,λi' s' p' hi=>?_,λi1 i2 s1 p1 s2 p2 b' y y' u f h3 h4=>?_⟩,x⟩
 ·obtain⟨p1,q1,vs,T,hh,r⟩:=h.obj i' b' hi;have fa:b'≠b:=by rintro rfl;exact t5 i' hi
  refine⟨p1,q1,vs,T,(ca b' fa).trans hh,λo d aa=>?_⟩;rw[ea]at aa;split at aa
  ·rename_i j;obtain⟨rfl,rfl⟩:=j;obtain⟨v,_,_,r3⟩:=r 1 _ t;cases r3
  ·obtain⟨v,r1,r2,r3⟩:=r o d aa;exact⟨v,r1,r2,r3.ext x⟩
 ·rw[ea]at aa;split at aa
  ·rw[←QJ aa];rfl
  ·exact h.kind _ _ _ aa a
 ·rw[ea,if_neg U]at hi;obtain⟨b1,n,c,sz,cur,u1,u2,u3,u4,u5,u6,u7,u8,u9,z⟩:=h.tok i' e hi;have fa:b1≠b:=by rintro rfl;rw[t3]at u5;cases u5
  exact⟨b1,n,c,sz,cur,u1,u2,u3,u4,(ca b1 fa).trans u5,u6,u7,u8,u9,z⟩
 ·rw[ea,if_neg U]at u f;exact h.tinj _ _ _ _ _ _ _ u f h3 h4
 ·rw[ea]at hi;split at hi
  ·simp_all
  ·rename_i j;obtain⟨b1,u1,u2,u3,u4,u5⟩:=h.itr.1 i' s' p' hi;have fa:b1≠b:=by
    rintro rfl;exact j ⟨h.itr.2 _ _ _ _ _ _ _ _ _ hi t u1 hb,rfl⟩
   exact⟨b1,u1,u2,(ca b1 fa).trans u3,u4,u5⟩
 ·have ga:∀i' s' p',m.put i 1 [.it bs q] i' 1=some (.it s' p')->∃s p,m i' 1=some (.it s p):=by
   intro i' s' p' hi;rw[ea]at hi;split at hi
   ·simp_all
   ·exact⟨_,_,hi⟩
  obtain⟨_,_,k1⟩:=ga _ _ _ u;obtain⟨_,_,k2⟩:=ga _ _ _ f;exact h.itr.2 _ _ _ _ _ _ _ _ _ k1 k2 h3 h4
def Rep.itp_inv{i:Id}{v:Value}(h:Rep w g (.itp i) v):∃b,v= .pointer (some ⟨b,0,none⟩)∧g.tb i=some (b,0,0,0):=by
 cases h with
 |itp _ b m=>exact⟨b,rfl,m⟩
def iA{t:TypeId}{o:Oper}{x:Operand}{y:GE}(h:At P B w0 w m g fr s a)(k:P.underlying t=some .string)(q:AC x=some y)(f:o.op= .range t x)
  (z:Aw S s m fr (.range y)=some (d,u)):CQ P B w0 m g fr w (GF.app m u) d (execOp a.eval o):=by
 have n:=h.slots.arg q;simp only[Aw]at z;split at z
 ·rename_i b r;rw[r]at n;simp only[Qa,Qd]at z;obtain⟨rfl,rfl⟩:=z;refine⟨.pointer (some ⟨w.heap.size,0,none⟩),w.alloc (.stringIter ⟨b.toArray⟩ 0),g.itr fr w.heap.size,.value (.pointer (some ⟨w.heap.size,0,none⟩)),?_,.inl rfl,?_⟩
  ·have j:a.eval x= .string ⟨b.toArray⟩:=n.str_inv;simp[execOp,f,Instr.range,run_underlying k,j]
  ·refine⟨h.inv.newItr h.self b,GY.newItr _ h.inv.gz h.self.2.2,.itp fr _ (by simp[Gh.itr]),λi v c=>?_⟩;have:i≠fr:=λe=>c Yf
   exact⟨λo=>by show m.put fr 1 _ i o=none;rw[DY,if_neg (by simp[this])];exact v.1 o,v.2.1,by simp only[Gh.itr];rw[if_neg this];exact v.2.2⟩
 ·cases z
def rT{o:Oper}{x:Operand}{y:GE}(h:At P B w0 w m g fr s a)(p:AC x=some y)(ho:o.op= .next x true)
  (f:Aw S s m fr (.next y)=some (d,u)):CQ P B w0 m g fr w (GF.app m u) d (execOp a.eval o):=by
 have n:=h.slots.arg p;simp only[Aw]at f;split at f
 ·rename_i i ex;rw[ex]at n;obtain⟨b,e1,hb⟩:=n.itp_inv;split at f
  ·rename_i bs z hm;obtain⟨b',t1,t2,t3,t4,t5⟩:=h.inv.itr.1 i bs z hm;rw[hb]at t1;simp only[Qa,Qd,and_true]at t1;subst t1;have k:b<w.heap.size:=(Qf.1 t3).1;have ia:(getObj b).run P w= .ok (.stringIter ⟨bs.toArray⟩ z) w:=by simp[getObj,Sem.run,t3]
   have na:∀o',(setObj b o').run P w= .ok () {w with heap:=w.heap.setIfInBounds b o'}:=by intro o';simp[setObj,Sem.run,t3]
   have ka:(ByteArray.mk bs.toArray).size=bs.length:=XU
   split at f
   ·rename_i hp;simp only[Qa,Qd]at f;obtain⟨rfl,rfl⟩:=f;obtain⟨hi,ta⟩:=h.inv.nextItr (q:=z+(Utf8.decode ⟨bs.toArray⟩ z).2) hm hb;refine⟨.tuple #[.bool true,.int .i64 (z:Nat),.int .i32 (Utf8.decode ⟨bs.toArray⟩ z).1],_,g,.value (.tuple #[.bool true,.int .i64 (z:Nat),.int .i32 (Utf8.decode ⟨bs.toArray⟩ z).1]),?_,.inl rfl,⟨hi,ta,?_,λj e fa=>?_⟩⟩
    ·simp only[execOp,ho,Instr.next,e1,Sem.run_bind,ia,Result.andThen_ok,ka,hp,if_true];cases r:Utf8.decode ⟨bs.toArray⟩ z with
     |mk c wd=>
      simp only[na,Result.andThen_ok,Sem.run_pure];rfl
    ·refine .tup [_,_,_] [_,_,_] rfl (λj d v r t=>?_)
     match j with
     |0=>simp at r t;subst r t;exact .bool _
     |1=>simp at r t;subst r t;exact .int _ _
     |2=>simp at r t;subst r t;exact .int _ _
     |j+3=>simp at r
    ·have:j≠i:=by rintro rfl;rw[e.1 1]at hm;cases hm
     exact⟨λo=>by show m.put i 1 _ j o=none;rw[DY,if_neg (by simp[this])];exact e.1 o,e.2⟩
   ·rename_i hp;simp only[Qa,Qd]at f;obtain⟨rfl,rfl⟩:=f;refine .pure (v:= .tuple #[.bool false]) h.inv ?_ (.tup [_] [_] rfl (λj d v r t=>?_))
    ·simp only[execOp,ho,Instr.next,e1,Sem.run_bind,ia,Result.andThen_ok,ka,hp,if_false,Sem.run_pure]
    ·match j with
     |0=>simp at r t;subst r t;exact .bool _
     |j+1=>simp at r
  ·cases f
 ·cases f
end
structure G8.ok (P:Program) (f:FuncId) (q:G8):Prop where
 ent:∃fn,P.funcs[f]?=some fn∧fn.body.isSome=true∧(fn.name== "runtime.NumGoroutine")=false
 loc:∀ds m m' fr,(∀l∈q.rd ds m,m l.1 l.2=m' l.1 l.2)->q.ex ds m fr=q.ex ds m' fr
 run:∀{B:Nat} {w0 w:World} {m:GB} {g:Gh} {fr:Id} {ds:List D} {vs:List Value} {r:D} {u:GF},GJ P B w0 m w g->(∀i,fr<:+i->BU m g i)->
  vs.length=ds.length->(∀(j:Nat) d v,ds[j]?=some d->vs[j]?=some v->Rep w g d v)->q.ex ds m fr=some (r,u)->
  Calls P f vs.toArray w λe w'=>∃v g',e= .returned v∧aOS P B w0 m g fr w (GF.app m u) r v w' g'
def Gz.ok(P:Program)(S:Gz):Prop:=∀f q,S f=some q->q.ok P f
section
variable{P:Program}{B:Nat}{w0 w:World}{m:GB}{g:Gh}{fr:Id}{s:Nat->D}{a:Act}{S:Gz}{d:D}{u:GF}
def aFy{o:Oper}{ma:DOp}(h:At P B w0 w m g fr s a)(ca:tr P o.op=some ma)(wa:∀f xs,ma≠ .call f xs)(aa:Aw S s m fr ma=some (d,u)):
  CQ P B w0 m g fr w (GF.app m u) d (execOp a.eval o):=by
 have ea:∀{x:Operand} {F:GE->DOp},(AC x).map F=some ma->∃y,AC x=some y∧ma=F y:=by
  simp_all
 have j:∀{v:Value} {d':D},(execOp a.eval o).run P w= .ok (.value v) w->Rep w g d' v->some (d',([]:GF))=some (d,u)->CQ P B w0 m g fr w (GF.app m u) d (execOp a.eval o):=by
  intro v d' e1 e2 e3;simp only[Qa,Qd]at e3;obtain⟨rfl,rfl⟩:=e3;exact .pure h.inv e1 e2
 cases hop:o.op<;>rw[hop]at ca<;>first|(simp only[tr]at ca;done)|skip
 case move x=>
  obtain⟨y,hx,rfl⟩:=ea ca;exact j (by simp[execOp,hop]) (h.slots.arg hx) aa
 case assign x=>
  obtain⟨y,hx,rfl⟩:=ea ca;exact j (by simp[execOp,hop]) (h.slots.arg hx) aa
 case pick c x y=>
  simp only[tr]at ca;split at ca
  ·rename_i c' x' y' e1 e2 e3;simp only[Qa]at ca;subst ca;simp only[Aw]at aa;split at aa
   ·rename_i b eb;have hb:=h.slots.arg e1;rw[eb]at hb;have la:(execOp a.eval o).run P w= .ok (.value (if b then a.eval x else a.eval y)) w:=by
     simp[execOp,hop,hb.bool_inv,asBool]
    refine j la ?_ aa;cases b
    ·exact h.slots.arg e3
    ·exact h.slots.arg e2
   ·cases aa
  ·cases ca
 case alloc t=>
  simp only[tr]at ca;rw[Qb]at ca;obtain⟨z,hz,rfl⟩:=ca;simp only[Aw,Qa,Qd]at aa;obtain⟨rfl,rfl⟩:=aa;exact iG h hz hop
 case box t x=>
  obtain⟨y,hx,rfl⟩:=ea ca;simp only[Aw]at aa;split at aa
  ·rename_i hd;simp only[Qa,Qd]at aa;obtain⟨rfl,rfl⟩:=aa;exact aA7 h hx hd hop
  ·cases aa
 case build t parts=>
  simp only[tr]at ca;split at ca
  ·rename_i ba zs hu hz;split at ca
   ·rename_i da;rw[Qb]at ca;obtain⟨l,hl,rfl⟩:=ca;exact .of_nil (iF h hu da hz hl hop aa)
   ·cases ca
  ·rename_i len e zs hu hz;split at ca
   ·rename_i ha;rw[Qb]at ca;obtain⟨l,hl,rfl⟩:=ca;exact .of_nil (WZ h hu ha hz hl hop aa)
   ·cases ca
  ·cases ca
 case buildSlice t len parts=>
  simp only[tr]at ca;split at ca
  ·grind [W_]
  ·cases ca
 case load t x=>
  simp only[tr]at ca;split at ca
  ·rename_i k y hk hx;simp only[Qa]at ca;subst ca;exact .of_nil (rV h hk hx hop aa)
  ·cases ca
 case store t x v=>
  simp only[tr]at ca;split at ca
  ·grind [hZ]
  ·cases ca
 case nilCheck x=>
  obtain⟨y,hx,rfl⟩:=ea ca;have hr:=h.slots.arg hx;simp only[Aw]at aa;split at aa
  ·rename_i i o' e;rw[e]at hr;obtain⟨b,e1,hb⟩:=hr.ptr_inv;exact j (v:=a.eval x) X8 hr aa
  ·rename_i ds e;rw[e]at hr;obtain⟨ad,vv,e1,_⟩:=hr.eptr_inv;exact j (v:=a.eval x) X8 hr aa
  ·rename_i f cs e;rw[e]at hr;obtain⟨vs,e1,_⟩:=hr.fn_inv;exact j (v:=a.eval x) X8 hr aa
  ·cases aa
 case binOp op t x y yt=>
  cases op
  case eql=>
   simp only[tr]at ca;split at ca
   ·rename_i p q hx hy;exact .of_nil (mK (ne:=false) h hx hy ca hop aa)
   ·cases ca
  case neq=>
   simp only[tr]at ca;split at ca
   ·rename_i p q hx hy;exact .of_nil (mK (ne:=true) h hx hy ca hop aa)
   ·cases ca
  all_goals
   simp only[tr]at ca;split at ca
   ·rename_i p q hx hy;simp only[Qa]at ca;subst ca;exact .of_nil (aA8 h hx hy hop aa)
   ·cases ca
 case unOp op t x=>
  obtain⟨y,hx,rfl⟩:=ea ca;simp only[Aw]at aa;rw[Qb]at aa;obtain⟨d',h1,aa⟩:=aa;obtain⟨v,e1,e2⟩:=vX (P:=P) (h.slots.arg hx) h1;exact j (by simp only[execOp,hop,Sem.run_bind,e1,Result.andThen_ok,Sem.run_pure]) e2 (by rw[aa])
 case convert src dst x=>
  simp only[tr]at ca;split at ca
  ·rename_i k1 k y hs hd hx;simp only[Qa]at ca;subst ca;have hr:=h.slots.arg hx;simp only[Aw]at aa;split at aa
   ·rename_i k' n e;rw[e]at hr;refine j (v:= .int k (k.wrap n)) ?_ (.int _ _) aa;simp[execOp,hop,hr.int_inv,convert,run_underlying hs,run_underlying hd,Conv.intToInt]
   ·cases aa
  ·rename_i y hs hd hx;simp only[Qa]at ca;subst ca;have hr:=h.slots.arg hx;simp only[Aw]at aa;split at aa
   ·rename_i b e;rw[e]at hr;refine j (v:=a.eval x) ?_ hr aa;simp[execOp,hop,hr.str_inv,convert,run_underlying hs,run_underlying hd]
   ·cases aa
  ·rename_i e y hs hd hx;split at ca
   ·rename_i he;simp only[Qa]at ca;subst ca;exact .of_nil (aA6 h hs hd he hx hop aa)
   ·cases ca
  ·rename_i e y hs hd hx;split at ca
   ·rename_i he;simp only[Qa]at ca;subst ca;exact .of_nil (aA9 h hs hd he hx hop aa)
   ·cases ca
  ·cases ca
 case fieldAddr t x f=>
  simp only[tr]at ca;split at ca
  ·rename_i ba y hu hx;split at ca
   ·rename_i fd hf;split at ca
    ·rename_i n hn;simp only[Qa]at ca;subst ca;exact .of_nil (iE h hu hf hn hx hop aa)
    ·cases ca
   ·cases ca
  ·cases ca
 case field t x f=>
  simp only[tr]at ca;split at ca
  ·rename_i ba y hu hx;split at ca
   ·rename_i fd hf;rw[Qb]at ca;obtain⟨k,hk,rfl⟩:=ca;exact .of_nil (iD h hu hf hk hx hop aa)
   ·cases ca
  ·cases ca
 case indexAddr t x i=>
  simp only[tr]at ca;split at ca
  ·rename_i e y z hu hx hi;rw[Qb]at ca;obtain⟨n,hn,rfl⟩:=ca;exact .of_nil (iB h hu hn hx hi hop aa)
  ·rename_i len e y z hu hx hi;rw[Qb]at ca;obtain⟨n,hn,rfl⟩:=ca;exact .of_nil (iC h hu hn hx hi hop aa)
  ·cases ca
 case index t x i=>
  simp only[tr]at ca;split at ca
  ·rename_i y z hu hx hi;simp only[Qa]at ca;subst ca;exact .of_nil (rW h hu hx hi hop aa)
  ·rename_i len e y z hu hx hi;split at ca
   ·rename_i hk;split at ca
    ·rename_i hc;simp only[Qa]at ca;subst ca;exact .of_nil (rY h hu hk hc hx hi hop aa)
    ·cases ca
   ·rename_i sz hk;simp only[Qa]at ca;subst ca;exact .of_nil (rX h hu hk hx hi hop aa)
   ·cases ca
  ·cases ca
 case slice t x lo hi mx=>
  cases mx with
  |some mx=>simp only[tr]at ca;cases ca
  |none=>
   simp only[tr]at ca;split at ca
   ·rename_i y l' h' hu hx na pa;simp only[Qa]at ca;subst ca;exact .of_nil (rZ h hu hx na pa hop aa)
   ·rename_i e y l' h' hu hx na pa;rw[Qb]at ca;obtain⟨n,hn,rfl⟩:=ca;exact .of_nil (sA h hu hn hx na pa hop aa)
   ·cases ca
 case makeInterface t x=>
  simp only[tr]at ca;split at ca
  ·cases ca
  ·rename_i td y ja hu hx;simp only[Qa]at ca;subst ca;have hr:=h.slots.arg hx;simp only[Aw]at aa;split at aa
   ·rename_i hc;refine j (v:= .iface t (a.eval x)) ?_ (.iface t _ _ hc.2 hr.un) aa;simp only[execOp,hop,Instr.makeInterface,Sem.run_bind,run_underlying hu,Result.andThen_ok];cases td<;>first|exact absurd rfl (ja _)|rfl
   ·cases aa
  ·cases ca
 case typeAssert x xt t ok=>
  simp only[tr]at ca;split at ca
  ·cases ca
  ·rename_i td z y ja hu hz hx;simp only[Qa]at ca;subst ca;exact .of_nil (rS h hu (λms e=>ja ms (by rw[←e])) hz hx hop aa)
  ·cases ca
 case extract x i=>
  obtain⟨y,hx,rfl⟩:=ea ca;have hr:=h.slots.arg hx;simp only[Aw]at aa;split at aa
  ·rename_i ds e;rw[e]at hr;obtain⟨vs,e1,e2,e3⟩:=hr.tup_inv;rw[Qb]at aa;obtain⟨d',hd,aa⟩:=aa;have hv:i<vs.length:=by rw[e2];exact(Qe.1 hd).1
   exact j (v:=vs[i]) (by simp[execOp,hop,e1,Instr.extract,hv]) (e3 i d' _ hd (Qc hv)) (by rw[aa])
  ·cases aa
 case makeFunc fn first caps=>
  cases fn with
  |func f=>
   simp only[tr]at ca;split at ca
   ·rename_i l hf hl;simp only[Qa]at ca;subst ca;have va:first=#[]:=Array.toList_eq_nil_iff.1 hf
    subst va;obtain⟨a1,a2⟩:=cE h hl;simp only[Aw]at aa;refine j (v:= .func (.func f) #[] (caps.map a.eval)) (by simp[execOp,hop,Instr.makeFunc]) ?_ aa;have:=Rep.fn (w:=w) (g:=g) f (l.map (·.ev s)) (caps.map a.eval).toList a1 a2
    rwa [QC]at this
   ·cases ca
  |_=>simp only[tr]at ca;cases ca
 case makeSlice t x y=>
  simp only[tr]at ca;split at ca
  ·rename_i e hu;split at ca
   ·rename_i sz bytes z p q he hz hx hy;simp only[Qa]at ca;subst ca;exact rU h hu he hz hx hy hop aa
   ·cases ca
  ·cases ca
 case range t x=>
  simp only[tr]at ca;split at ca
  ·rename_i y hu hx;simp only[Qa]at ca;subst ca;exact iA h hu hx hop aa
  ·cases ca
 case next x b=>
  cases b with
  |true=>
   obtain⟨y,hx,rfl⟩:=ea ca;exact rT h hx hop aa
  |false=>simp only[tr]at ca;cases ca
 case call c=>
  simp only[tr,O_]at ca;split at ca
  ·split at ca
   ·simp only[Qa]at ca;exact absurd ca.symm (wa _ _)
   ·cases ca
  ·rename_i fa;split at ca
   ·rename_i x t r oa;have hc:c={callee:= .builtin .len,args:=#[x],argTypes:=#[t]}:=by
     cases c;simp only at fa r oa ⊢;subst fa;congr
     ·exact Q4.1 r
     ·exact Q4.1 oa
    subst hc;have ga:∀n,(Builtin.len_ #[t] o.type #[a.eval x]).run P w= .ok (goInt n) w->(execOp a.eval o).run P w= .ok (.value (.int .i64 n)) w:=by
     intro n e;simp only[execOp,hop,resolve,invoke,builtin,Sem.run_bind,Sem.run_pure,Result.andThen_ok,ZB,Qs,Zk,e];rfl
    split at ca
    ·rename_i hu;obtain⟨y,hx,rfl⟩:=ea ca;have hr:=h.slots.arg hx;simp only[Aw]at aa;rw[Qb]at aa;obtain⟨n,hn,aa⟩:=aa;unfold fT at hn;split at hn
     ·rename_i b _ e;rw[e]at hr;simp only[Qa]at hn;subst hn;have hl:(Builtin.len_ #[t] o.type #[a.eval x]).run P w= .ok (goInt (b.length:Int)) w:=by
       have ka:(ByteArray.mk b.toArray).size=b.length:=XU
       simp[Builtin.len_,run_underlying hu,hr.str_inv,ka]
      exact j (ga _ hl) (.int _ _) (by rw[aa])
     ·rename_i ia _;cases ia
     ·rename_i ia _;cases ia
     ·cases hn
    ·rename_i e hu;obtain⟨y,hx,rfl⟩:=ea ca;have hr:=h.slots.arg hx;simp only[Aw]at aa;rw[Qb]at aa;obtain⟨n,hn,aa⟩:=aa;unfold fT at hn;split at hn
     ·rename_i ia _;cases ia
     ·rename_i nl t' xs _ e';rw[e']at hr;obtain⟨ad,cc,e1,_⟩:=hr.len_slice;simp only[Qa]at hn;subst hn;have hl:(Builtin.len_ #[t] o.type #[a.eval x]).run P w= .ok (goInt (xs.length:Int)) w:=by
       simp[Builtin.len_,run_underlying hu,e1]
      exact j (ga _ hl) (.int _ _) (by rw[aa])
     ·rename_i i' n' _ e';rw[e']at hr;obtain⟨b',cc,e1,_,_⟩:=hr.row_inv;simp only[Qa]at hn;subst hn;have hl:(Builtin.len_ #[t] o.type #[a.eval x]).run P w= .ok (goInt (n':Int)) w:=by
       simp[Builtin.len_,run_underlying hu,e1]
      exact j (ga _ hl) (.int _ _) (by rw[aa])
     ·cases hn
    ·cases ca
   ·cases ca
  ·rename_i fa;split at ca
   ·rename_i x y t t' r oa;split at ca
    ·rename_i sa;have hc:c={callee:= .builtin .append,args:=#[x,y],argTypes:=#[t,t']}:=by
      cases c;simp only at fa r oa ⊢;subst fa;congr
      ·exact Q4.1 r
      ·exact Q4.1 oa
     subst hc;split at ca
     ·rename_i e hu;split at ca
      ·rename_i sz bytes p q he hx hy;simp only[Qa]at ca;subst ca;exact aBa h hu he hx hy hop (sa.imp id gD) aa
      ·cases ca
     ·cases ca
    ·cases ca
   ·cases ca
  ·rename_i fa;split at ca
   ·rename_i x y r;split at ca
    ·rename_i p q hx hy;simp only[Qa]at ca;subst ca;have qa:=h.slots.arg hx;have ra:=h.slots.arg hy;simp only[Aw]at aa;split at aa
     ·rename_i k n k' n' e1 e2;rw[e1]at qa;rw[e2]at ra;refine j (v:= .int k (max n n')) ?_ (.int _ _) aa;simp only[execOp,hop,resolve,invoke,builtin,fa,Sem.run_bind,Sem.run_pure,Result.andThen_ok];simp only[Builtin.max_,QL,r,Qs,Zk,qa.int_inv,ra.int_inv,ZN,Builtin.max2,Sem.run_bind,Sem.run_pure,Result.andThen_ok];have:(if n'>n then n' else n)=max n n':=by omega
      simp[this]
     ·cases aa
    ·cases ca
   ·cases ca
  ·rename_i fa;split at ca
   ·rename_i x y r;split at ca
    ·rename_i p q hx hy;simp only[Qa]at ca;subst ca;have qa:=h.slots.arg hx;have ra:=h.slots.arg hy;simp only[Aw]at aa;split at aa
     ·rename_i k n k' n' e1 e2;rw[e1]at qa;rw[e2]at ra;refine j (v:= .int k (min n n')) ?_ (.int _ _) aa;simp only[execOp,hop,resolve,invoke,builtin,fa,Sem.run_bind,Sem.run_pure,Result.andThen_ok];simp only[Builtin.min_,QL,r,Qs,Zk,qa.int_inv,ra.int_inv,ZN,Builtin.min2,Sem.run_bind,Sem.run_pure,Result.andThen_ok];have:(if n'<n then n' else n)=min n n':=by omega
      simp[this]
     ·cases aa
    ·cases ca
   ·cases ca
  ·cases ca
 all_goals (simp[tr]at ca)
end
section
variable{P:Program}{B:Nat}{w0 w:World}{m:GB}{g:Gh}{fr:Id}{s:Nat->D}{a:Act}{S:Gz}{d:D}{u:GF}
def Vq{c:Call}{f:GE}{xs:List GE}(h:O_ P c=some (.call f xs)):∃i,c.callee= .value i∧AC i=some f∧DP c.args.toList=some xs:=by
 unfold O_ at h;split at h
 ·grind
 ·exfalso
  repeat' (split at h)
  all_goals exact YU
 ·grind
 ·grind
 ·grind
 ·cases h
def aEZ{op:Op}{f:GE}{xs:List GE}(h:tr P op=some (.call f xs)):∃c,op= .call c∧O_ P c=some (.call f xs):=by
 cases op with
 |call c=>exact⟨c,rfl,h⟩
 |binOp op t x y r=>
  exfalso;cases op<;>simp only[tr,wE]at h<;>repeat' (split at h)
  all_goals exact YU
 |makeFunc k x y=>
  exfalso;cases k<;>simp only[tr]at h<;>repeat' (split at h)
  all_goals exact YU
 |slice t x lo hi i=>
  exfalso;cases i<;>simp only[tr]at h<;>repeat' (split at h)
  all_goals exact YU
 |next x b=>
  exfalso;cases b<;>simp only[tr]at h
  all_goals exact YU
 |_=>
  exfalso;simp only[tr]at h<;>repeat' (split at h)
  all_goals exact YU
def aQJ{o:Oper}{ma:DOp}{K:Act->World->Prop}{Q:Exit->Act->World->Prop}(hS:Gz.ok P S)(h:At P B w0 w m g fr s a)(x:tr P o.op=some ma)(z:Aw S s m fr ma=some (d,u))
  (hK:∀v' w' g',aOS P B w0 m g fr w (GF.app m u) d v' w' g'->K (a.put o.dst v') w'):o.wp P a w K Q:=by
 by_cases hc:∃f xs,ma= .call f xs
 ·obtain⟨f,xs,rfl⟩:=hc;obtain⟨c,na,l⟩:=aEZ x;obtain⟨fo,fa,hf,eb⟩:=Vq l;simp only[Aw]at z;split at z
  ·rename_i rL caps ef;split at z
   ·rename_i q hq;have y:=hS rL q hq;have k:=h.slots.arg hf;rw[ef]at k;obtain⟨vs,e1,e2,e3⟩:=k.fn_inv;obtain⟨a1,a2⟩:=cE h eb;obtain⟨fn,t,b,i⟩:=y.ent;have n:fn.body.isNone=false:=by cases hb:fn.body<;>simp_all
    have ba:((c.args.map a.eval).toList++vs).length=(xs.map (·.ev s)++caps).length:=by simp at a1 ⊢;omega
    have ea:∀(j:Nat) d v,(xs.map (·.ev s)++caps)[j]?=some d->((c.args.map a.eval).toList++vs)[j]?=some v->Rep w g d v:=by
     grind
    have ja:=y.run h.inv h.fresh ba ea z;have p:((c.args.map a.eval).toList++vs).toArray=c.args.map a.eval++vs.toArray:=U
    rw[p]at ja;have la:(execOp a.eval o).run P w= .ok (.enter rL (c.args.map a.eval++vs.toArray)) w:=by
     simp only[execOp,na,resolve,fa,e1,Deferred.ofValue,Sem.run_bind,Sem.run_pure,Result.andThen_ok,invoke,callFunc,run_program,t,i,n,QG,if_false];simp
    unfold Oper.wp;rw[la,Oper.upon_enter];refine ja.mono ?_;rintro e w' ⟨v,g',rfl,ha⟩;exact hK v w' g' ha
   ·cases z
  ·cases z
 ·obtain⟨v',w',g',r,e1,e2,e3⟩:=aFy h x (λf xs e=>hc ⟨f,xs,e⟩) z;unfold Oper.wp;rw[e1];rcases e2 with rfl|⟨rfl,rfl⟩
  ·exact hK v' w' g' e3
  ·exact hK undef w' g' e3
end
end Go.Vd
namespace Go.Vd
structure DOper where
 dst:Option Nat
 op:DOp
 after:List Nat
 guard:Option (Nat×Bool)
abbrev Loc:=Id×Nat
structure Eff where
 d:D
 u:GF
def Cp(s:Nat->D)(t:Option Nat)(d:D):Nat->D:=
 match t with
 |some t=>λz=>if z=t then d else s z
 |none=>s
def FW(ops:List DOper)(o:DOper):Option Nat:=
 match o.guard with
 |none=>none
 |some (j,_)=>(ops[j]?).bind (·.dst)
def Bn(ops:List DOper)(s:Nat->D)(o:DOper):Option Bool:=
 match o.guard with
 |none=>some true
 |some (j,b)=>match (ops[j]?).bind (·.dst)with
  |some t=>match s t with
   | .bool b'=>some (b'==b)
   | .tup []=>some false
   |_=>none
  |none=>none
def BJ(S:Gz)(ops:List DOper)(fr:Id)(o:DOper)(s:Nat->D)(m:GB):Option Eff:=
 match Bn ops s o with
 |some true=>match Aw S s m fr o.op with
  |some (d,u)=>some ⟨d,u⟩
  |none=>none
 |some false=>some ⟨.tup [],[]⟩
 |none=>none
def C9(S:Gz)(ns:Id)(c:Nat)(ops:List DOper):List Nat->(Nat->D)->GB->Option ((Nat->D)×GB)
 |[],s,m=>some (s,m)
 |i::l,s,m=>match ops[i]? with
  |none=>C9 S ns c ops l s m
  |some o=>match BJ S ops ((c+i)::ns) o s m with
   |some e=>C9 S ns c ops l (Cp s o.dst e.d) (GF.app m e.u)
   |none=>none
def GE.uses:GE->List Nat
 | .t n=>[n]
 | .c _=>[]
def TO:Option GE->List Nat
 |some a=>a.uses
 |none=>[]
def DOp.uses:DOp->List Nat
 | .range x| .next x| .mv x| .box x| .load _ x| .nilchk x| .un _ x| .conv _ x| .s2s x| .s2b x| .b2s x| .faddr _ x| .field _ _ x| .mkif _ x| .tass _ _ _ x| .ext _ x| .len _ x=>x.uses
 | .pick c a b=>c.uses++a.uses++b.uses
 | .alloc _| .stop=>[]
 | .build _ ps=>ps.flatMap λp=>p.2.2.uses
 | .bslice _ _ ps=>ps.flatMap GE.uses
 | .store _ x y| .bin _ x y| .beq _ x y| .seq _ _ x y| .nileq _ _ x y| .iaddr _ x y| .idxs x y| .idxa _ x y| .idxm _ _ x y| .mxm _ x y| .iadda _ _ x y| .app _ _ _ x y| .mksl _ _ _ _ x y=>x.uses++y.uses
 | .cuts x l h| .cutl _ x l h=>x.uses++TO l++TO h
 | .mkfn _ cs=>cs.flatMap GE.uses
 | .call f xs=>f.uses++xs.flatMap GE.uses
def Ai(i:Id)(o n:Nat):List Loc:=(Qt n).map λj=>(i,o+j)
def GS(S:Gz)(s:Nat->D)(m:GB):DOp->List Loc
 | .load k x=>match x.ev s with
  | .ptr i o=>Ai i o (k.getD 1)
  |_=>[]
 | .store n x _=>match x.ev s with
  | .ptr i o=>Ai i o n
  |_=>[]
 | .app _ _ _ x _=>match x.ev s with
  | .slice _ t _=>[(t,0)]
  |_=>[]
 | .next x=>match x.ev s with
  | .itp i=>[(i,1)]
  |_=>[]
 | .call f xs=>match f.ev s with
  | .fn f caps=>match S f with
   |some q=>q.rd (xs.map (·.ev s)++caps) m
   |none=>[]
  |_=>[]
 |_=>[]
def aB{x:GE}{s r:Nat->D}(h:∀t∈x.uses,s t=r t):x.ev s=x.ev r:=by
 cases x with
 |t n=>exact h n (Q_.2 rfl)
 |c d=>rfl
def P2{xs:List GE}{s r:Nat->D}(h:∀t∈xs.flatMap GE.uses,s t=r t):xs.map (·.ev s)=xs.map (·.ev r):=
 QX λx q=>aB λt j=>h t (Q5.2 ⟨x,q,j⟩)
theorem BA{m m':GB}{i:Id}:∀{n o:Nat},(∀l∈Ai i o n,m l.1 l.2=m' l.1 l.2)->Ag m i o n=Ag m' i o n
 |0,o,_=>rfl
 |n+1,o,h=>by
  have f:m i o=m' i o:=h (i,o) (by simp only[Ai,Qv,Ql];exact⟨0,O,rfl⟩);have ih:=BA (m:=m) (m':=m') (i:=i) (n:=n) (o:=o+1) (λl hl=>h l (by
   simp only[Ai,Qv,Ql]at hl ⊢;obtain⟨j,u,rfl⟩:=hl;exact⟨j+1,O,by rw[show o+(j+1)=o+1+j by omega]⟩))
  unfold Ag;rw[f,ih]
theorem Fj{x:Option GE}{s r:Nat->D}(h:∀t∈TO x,s t=r t)(a b:Nat):Fk s x a b=Fk r x a b:=by
 cases x with
 |none=>rfl
 |some x=>simp only[Fk];rw[aB h]
def gV{P:Program}{S:Gz}(hS:Gz.ok P S){op:DOp}{s s':Nat->D}{m m':GB}{fr:Id}(r:∀t∈op.uses,s t=s' t)(u:∀l∈GS S s m op,m l.1 l.2=m' l.1 l.2):
  Aw S s m fr op=Aw S s' m' fr op:=by
 cases op with
 |mv x=>simp only[Aw];rw[aB r]
 |box x=>simp only[Aw];rw[aB r]
 |nilchk x=>simp only[Aw];rw[aB r]
 |un op x=>simp only[Aw];rw[aB r]
 |conv k x=>simp only[Aw];rw[aB r]
 |s2s x=>simp only[Aw];rw[aB r]
 |s2b x=>simp only[Aw];rw[aB r]
 |b2s x=>simp only[Aw];rw[aB r]
 |faddr off x=>simp only[Aw];rw[aB r]
 |field k off x=>simp only[Aw];rw[aB r]
 |mkif t x=>simp only[Aw];rw[aB r]
 |tass t ok z x=>simp only[Aw];rw[aB r]
 |ext i x=>simp only[Aw];rw[aB r]
 |len k x=>simp only[Aw];rw[aB r]
 |alloc zs=>rfl
 |pick c a b=>
  simp only[DOp.uses,Qg]at r;simp only[Aw];rw[aB (λt j=>r t (.inl (.inl j))),aB (λt j=>r t (.inl (.inr j))),aB (λt j=>r t (.inr j))]
 |build zs ps=>
  simp only[Aw];have:(ps.map λp=>(p.1,p.2.1,p.2.2.ev s))=ps.map λp=>(p.1,p.2.1,p.2.2.ev s'):=
   QX λp g=>by rw[aB λt j=>r t (Q5.2 ⟨p,g,j⟩)]
  rw[this]
 |bslice e sz ps=>
  have g:∀p∈ps,p.ev s=p.ev s':=λp g=>aB λt j=>r t (Q5.2 ⟨p,g,j⟩)
  simp only[Aw];have w:(ps.map λp=>(p.ev s).un)=ps.map λp=>(p.ev s').un:=QX λp qa=>by rw[g p qa]
  rw[w];have:(ps.all λp=>(p.ev s).data&&(p.ev s).cells.length==sz&&(p.ev s).un.calm)=ps.all λp=>(p.ev s').data&&(p.ev s').cells.length==sz&&(p.ev s').un.calm:=by
   grind
  rw[this]
 |load k x=>
  have hx:x.ev s=x.ev s':=aB r;simp only[GS]at u;simp only[Aw];rw[←hx];cases hxe:x.ev s<;>simp only[hxe]at u ⊢
  case eptr ds=>cases k<;>rfl
  rename_i i o;cases k with
  |none=>
   have:=u (i,o) (by simp only[Ai,Qv,Ql];exact⟨0,U,rfl⟩);simp only at this;simp only[this]
  |some n=>
   simp only[QE]at u;simp only;rw[BA u]
 |store n x v=>
  simp only[DOp.uses,Qg]at r;have hx:x.ev s=x.ev s':=aB λt j=>r t (.inl j)
  have hv:v.ev s=v.ev s':=aB λt j=>r t (.inr j)
  simp only[GS]at u;simp only[Aw];rw[←hx,←hv];cases hxe:x.ev s<;>simp only[hxe]at u ⊢;rw[BA u]
 |bin op x y=>
  simp only[DOp.uses,Qg]at r;simp only[Aw];rw[aB (λt j=>r t (.inl j)),aB (λt j=>r t (.inr j))]
 |beq ne x y=>
  simp only[DOp.uses,Qg]at r;simp only[Aw];rw[aB (λt j=>r t (.inl j)),aB (λt j=>r t (.inr j))]
 |seq ne l x y=>
  simp only[DOp.uses,Qg]at r;simp only[Aw];rw[aB (λt j=>r t (.inl j)),aB (λt j=>r t (.inr j))]
 |nileq ne k x y=>
  simp only[DOp.uses,Qg]at r;simp only[Aw];rw[aB (λt j=>r t (.inl j)),aB (λt j=>r t (.inr j))]
 |iaddr sz x y=>
  simp only[DOp.uses,Qg]at r;simp only[Aw];rw[aB (λt j=>r t (.inl j)),aB (λt j=>r t (.inr j))]
 |idxs x y=>
  simp only[DOp.uses,Qg]at r;simp only[Aw];rw[aB (λt j=>r t (.inl j)),aB (λt j=>r t (.inr j))]
 |iadda len sz x y=>
  simp only[DOp.uses,Qg]at r;simp only[Aw];rw[aB (λt j=>r t (.inl j)),aB (λt j=>r t (.inr j))]
 |idxm len sz x y=>
  simp only[DOp.uses,Qg]at r;simp only[Aw];rw[aB (λt j=>r t (.inl j)),aB (λt j=>r t (.inr j))]
 |mxm mx x y=>
  simp only[DOp.uses,Qg]at r;simp only[Aw];rw[aB (λt j=>r t (.inl j)),aB (λt j=>r t (.inr j))]
 |idxa len x y=>
  simp only[DOp.uses,Qg]at r;simp only[Aw];rw[aB (λt j=>r t (.inl j)),aB (λt j=>r t (.inr j))]
 |mksl e sz b z x y=>
  simp only[DOp.uses,Qg]at r;simp only[Aw];rw[aB (λt j=>r t (.inl j)),aB (λt j=>r t (.inr j))]
 |app e sz b x y=>
  simp only[DOp.uses,Qg]at r;have hx:x.ev s=x.ev s':=aB λt j=>r t (.inl j)
  have hy:y.ev s=y.ev s':=aB λt j=>r t (.inr j)
  simp only[GS]at u;simp only[Aw];rw[←hx,←hy];cases hxe:x.ev s<;>simp only[hxe]at u ⊢;rename_i nl t xs;have:=u (t,0) (Q_.2 rfl);simp only at this;cases Iu sz (y.ev s)<;>simp only[this]
 |stop=>rfl
 |range x=>simp only[Aw];rw[aB r]
 |next x=>
  have hx:x.ev s=x.ev s':=aB r;simp only[GS]at u;simp only[Aw];rw[←hx];cases hxe:x.ev s<;>simp only[hxe]at u ⊢;rename_i i;have:=u (i,1) (Q_.2 rfl);simp only at this;rw[this]
 |cuts x l h=>
  simp only[DOp.uses,Qg]at r;simp only[Aw];rw[aB (λt j=>r t (.inl (.inl j)))];cases x.ev s'<;>simp only;rw[Fj (λt j=>r t (.inr j))];split
  ·grind [Fj]
  ·rfl
 |cutl sz x l h=>
  simp only[DOp.uses,Qg]at r;simp only[Aw];rw[aB (λt j=>r t (.inl (.inl j)))];cases x.ev s'<;>simp only;rw[Fj (λt j=>r t (.inr j))];split
  ·split
   ·rw[Fj (λt j=>r t (.inl (.inr j)))]
   ·rfl
  ·rfl
 |mkfn f cs=>
  simp only[Aw];rw[P2 r]
 |call f xs=>
  simp only[DOp.uses,Qg]at r;have hf:f.ev s=f.ev s':=aB λt j=>r t (.inl j)
  have hx:xs.map (·.ev s)=xs.map (·.ev s'):=P2 λt j=>r t (.inr j)
  simp only[GS]at u;simp only[Aw];rw[←hf,←hx];cases hfe:f.ev s<;>simp only[hfe]at u ⊢;rename_i rL caps;cases hSf:S rL<;>simp only[hSf]at u ⊢;rename_i q;exact(hS rL q hSf).loc _ _ _ _ u
def DE(ops:List DOper)(k:Nat):Option Nat:=(ops[k]?).bind (·.dst)
def EL:GF->Id->Nat->Option D
 |[],_,_=>none
 |(i',o',ds)::r,i,o=>match EL r i o with
  |some d=>some d
  |none=>if i=i'∧o'<=o∧o<o'+ds.length then ds[o-o']? else none
def cF:∀(u:GF)(m:GB)(i:Id)(o:Nat),GF.app m u i o=match EL u i o with|some d=>some d|none=>m i o
 |[],m,i,o=>rfl
 |(i',o',ds)::r,m,i,o=>by
  simp only[GF.app,EL];rw[cF r (m.put i' o' ds) i o];cases EL r i o with
  |some d=>rfl
  |none=>
   simp only[GB.put];split
   ·grind
   ·rfl
def AB(u:GF):List Loc:=u.flatMap λx=>Ai x.1 x.2.1 x.2.2.length
theorem look_mem:∀{u:GF} {i:Id} {o:Nat},EL u i o≠none->(i,o)∈AB u
 |[],i,o,h=>absurd rfl h
 |(i',o',ds)::r,i,o,h=>by
  simp only[AB,Zd,Qg];simp only[EL]at h;split at h
  ·rename_i d p;exact .inr (look_mem (by rw[p];simp))
  ·split at h
   ·rename_i v;obtain⟨rfl,q,y⟩:=v;left;simp only[Ai,Qv,Ql];exact⟨o-o',O,by rw[show o'+(o-o')=o by omega]⟩
   ·exact absurd rfl h
section
variable(ops:List DOper)(E:Nat->Eff)
def Ig(X:Nat->Bool)(t:Nat):Nat->Option D
 |0=>none
 |k+1=>if X k=true∧DE ops k=some t then some (E k).d else Ig X t k
def HD(X:Nat->Bool)(i:Id)(o:Nat):Nat->Option D
 |0=>none
 |k+1=>if X k=true then match EL (E k).u i o with
  |some d=>some d
  |none=>HD X i o k
  else HD X i o k
variable(s0:Nat->D)(m0:GB)
def eM(X:Nat->Bool)(n:Nat):Nat->D:=λt=>(Ig ops E X t n).getD (s0 t)
def pM(X:Nat->Bool)(n:Nat):GB:=λi o=>match HD E X i o n with|some d=>some d|none=>m0 i o
variable{ops E s0 m0}
theorem Ie{X Y:Nat->Bool}{t:Nat}:∀{n:Nat},(∀k,k<n->DE ops k=some t->X k=Y k)->Ig ops E X t n=Ig ops E Y t n
 |0,_=>rfl
 |n+1,h=>by
  have ih:=Ie (X:=X) (Y:=Y) (t:=t) (n:=n) (λk s=>h k O);simp only[Ig];by_cases p:DE ops n=some t
  ·rw[h n O p,ih]
  ·simp[p,ih]
def Ih{X Y:Nat->Bool}{i:Id}{o:Nat}:∀{n:Nat},(∀k,k<n->EL (E k).u i o≠none->X k=Y k)->HD E X i o n=HD E Y i o n
 |0,_=>rfl
 |n+1,h=>by
  have ih:=Ih (X:=X) (Y:=Y) (i:=i) (o:=o) (n:=n) (λk s=>h k O);simp only[HD];cases hl:EL (E n).u i o with
  |none=>simp[ih]
  |some d=>rw[h n O (by rw[hl];simp)];simp[ih]
def ins(X:Nat->Bool)(k:Nat):Nat->Bool:=λj=>X j||j==k
def Sx{X:Nat->Bool}{t k:Nat}(r:X k=false):∀{n:Nat},k<n->(DE ops k=some t->∀j,k<j->j<n->X j=true->DE ops j≠some t)->
  Ig ops E (ins X k) t n=if DE ops k=some t then some (E k).d else Ig ops E X t n
 |n+1,hk,h=>by
  by_cases p:DE ops k=some t
  ·rw[if_pos p];by_cases g:k=n
   ·grind [Ig,ins]
   ·have ih:=Sx r (n:=n) O (λi j u y x=>h i j u O x);rw[if_pos p]at ih;simp only[Ig];have:¬(ins X k n=true∧DE ops n=some t):=by
     grind [ins]
    rw[if_neg this,ih]
  ·grind [Ie,ins]
def Sy{X:Nat->Bool}{i:Id}{o k:Nat}(r:X k=false):∀{n:Nat},k<n->(EL (E k).u i o≠none->∀j,k<j->j<n->X j=true->EL (E j).u i o=none)->
  HD E (ins X k) i o n=match EL (E k).u i o with|some d=>some d|none=>HD E X i o n
 |n+1,hk,h=>by
  cases hl:EL (E k).u i o with
  |none=>
   simp only;refine Ih (λj z a=>?_);have:j≠k:=by rintro rfl;exact a hl
   simp[ins,this]
  |some d=>
   simp only;by_cases g:k=n
   ·grind [HD,ins]
   ·have ih:=Sy (i:=i) (o:=o) r (n:=n) O (λra j q y p=>h ra j q O p);rw[hl]at ih;simp only at ih;simp only[HD];split
    ·grind [ins]
    ·exact ih
def kN{X:Nat->Bool}{k n:Nat}(r:X k=false)(s:k<n)(h:∀t,DE ops k=some t->∀j,k<j->j<n->X j=true->DE ops j≠some t):
  eM ops E s0 (ins X k) n=Cp (eM ops E s0 X n) (DE ops k) (E k).d:=by
 funext t;simp only[eM];rw[Sx r s (h t)];cases hd:DE ops k with
 |none=>simp[Cp,eM]
 |some z=>
  simp only[Cp,eM,Qa];by_cases o:t=z
  ·subst o;simp
  ·grind
def kO{X:Nat->Bool}{k n:Nat}(r:X k=false)(s:k<n)(h:∀i o,EL (E k).u i o≠none->∀j,k<j->j<n->X j=true->EL (E j).u i o=none):
  pM E m0 (ins X k) n=GF.app (pM E m0 X n) (E k).u:=by
 funext i o;rw[cF];simp only[pM];rw[Sy r s (h i o)];cases EL (E k).u i o<;>rfl
def below(k:Nat):Nat->Bool:=λj=>decide (j<k)
def M8(k:Nat):ins (below k) k=below (k+1):=by
 grind [ins,below]
structure aD3 (ops:List DOper) (E:Nat->Eff) (rd:Nat->List Loc) (bef:Nat->Nat->Prop):Prop where
 lt:∀j k,bef j k->j<k
 slot:∀j k t oj ok,j≠k->ops[j]?=some oj->ops[k]?=some ok->oj.dst=some t->(t∈ok.op.uses∨FW ops ok=some t∨ok.dst=some t)->bef j k∨bef k j
 mem:∀j k i o,j≠k->j<ops.length->k<ops.length->EL (E j).u i o≠none->((i,o)∈rd k∨EL (E k).u i o≠none)->bef j k∨bef k j
def dG(ops:List DOper)(a:Nat->Nat->Prop):(Nat->Bool)->List Nat->Prop
 |_,[]=>True
 |X,i::l=>i<ops.length∧X i=false∧(∀j,a j i->X j=true)∧dG ops a (ins X i) l
def Rp(a:Nat->Nat->Prop)(X:Nat->Bool):Prop:=∀j k,X k=true->a j k->X j=true
def RA{s r:Nat->D}{o:DOper}(h:∀t,FW ops o=some t->s t=r t):Bn ops s o=Bn ops r o:=by
 grind [Bn,FW]
def WV{P:Program}{S:Gz}(w:Gz.ok P S){o:DOper}{fr:Id}{s x:Nat->D}{m m':GB}(r:∀t,(t∈o.op.uses∨FW ops o=some t)->s t=x t)(u:∀l∈GS S s m o.op,m l.1 l.2=m' l.1 l.2):
  BJ S ops fr o s m=BJ S ops fr o x m':=by
 unfold BJ;rw[RA (λt j=>r t (.inr j)),gV w (λt j=>r t (.inl j)) u]
variable{P:Program}{S:Gz}{ns:Id}{c:Nat}{rd:Nat->List Loc}{bef:Nat->Nat->Prop}
def aOp(w:Gz.ok P S)(x:aD3 ops E rd bef){k:Nat}{o:DOper}(f:ops[k]?=some o)
  (e:rd k=GS S (eM ops E s0 (below k) ops.length) (pM E m0 (below k) ops.length) o.op)
  (g:BJ S ops ((c+k)::ns) o (eM ops E s0 (below k) ops.length) (pM E m0 (below k) ops.length)=some (E k))
  {X:Nat->Bool} (i:Rp bef X) (s:X k=false) (n:∀j,bef j k->X j=true):
  BJ S ops ((c+k)::ns) o (eM ops E s0 X ops.length) (pM E m0 X ops.length)=some (E k):=by
 have na:k<ops.length:=(Qe.1 f).1;rw[←g];symm;have z:∀j,j<ops.length->bef j k∨bef k j->below k j=X j:=by
  intro j u v;rcases v with h1|h1
  ·rw[n j h1];simp[below,x.lt j k h1]
  ·have:=x.lt k j h1;have b:X j=false:=by
    cases hx:X j with
    |false=>rfl
    |true=>rw[i k j hx h1]at s;cases s
   rw[b];simp[below];omega
 have self:∀j,j<ops.length->j=k->below k j=X j:=by
  grind [below]
 refine WV w (λt ht=>?_) (λl hl=>?_)
 ·simp only[eM];rw[Ie (λj u p=>?_)];by_cases a:j=k
  ·exact self j u a
  ·have r:ops[j]?=some ops[j]:=Qc u;refine z j u (x.slot j k t _ o a r f ?_ (by rcases ht with ht|ht;exact .inl ht;exact .inr (.inl ht)));simpa[DE,r]using p
 ·simp only[pM];rw[Ih (λj u p=>?_)];by_cases a:j=k
  ·exact self j u a
  ·exact z j u (x.mem j k l.1 l.2 a u na p (.inl (by rw[e];exact hl)))
def Rp.ins{X:Nat->Bool}{k:Nat}(r:Rp bef X)(b:∀j,bef j k->X j=true):Rp bef (ins X k):=by
 intro j p f m;simp only[Vd.ins,QP,beq_iff_eq]at f ⊢;rcases f with h|rfl
 ·exact .inl (r j p h m)
 ·exact .inl (b j m)
def O6(w:Gz.ok P S)(e:aD3 ops E rd bef)(ya:∀k o,ops[k]?=some o->rd k=GS S (eM ops E s0 (below k) ops.length) (pM E m0 (below k) ops.length) o.op)
  (hE:∀k o,ops[k]?=some o->BJ S ops ((c+k)::ns) o (eM ops E s0 (below k) ops.length) (pM E m0 (below k) ops.length)=some (E k)):
  ∀(l:List Nat)(X:Nat->Bool),Rp bef X->dG ops bef X l->
   C9 S ns c ops l (eM ops E s0 X ops.length) (pM E m0 X ops.length)=some (eM ops E s0 (l.foldl ins X) ops.length,pM E m0 (l.foldl ins X) ops.length)
 |[],X,_,_=>rfl
 |i::l,X,hX,hg=>by
  obtain⟨hi,p,s,n⟩:=hg;have f:ops[i]?=some ops[i]:=Qc hi;have z:=aOp w e f (ya i _ f) (hE i _ f) hX p s;have a:∀j,i<j->X j=true->¬(bef j i∨bef i j):=by
   intro j hj b hb;rcases hb with hb|hb
   ·have:=e.lt j i hb;omega
   ·rw[hX i j b hb]at p;cases p
  have v:=kN (ops:=ops) (E:=E) (s0:=s0) p hi (λt hd j q y x ra=>by
   have r:ops[j]?=some ops[j]:=Qc y;refine a j q x (e.slot j i t _ _ O r f ?_ (.inr (.inr ?_)))
   ·simpa[DE,r]using ra
   ·simpa[DE,f]using hd)
  have m:=kO (E:=E) (m0:=m0) p hi (λg o hl j q y x=>by
   cases hlj:EL (E j).u g o with
   |none=>rfl
   |some d=>exact absurd (e.mem j i g o O y hi (by rw[hlj];simp) (.inr hl)) (a j q x))
  have hd:DE ops i=(ops[i]).dst:=by simp[DE,f]
  rw[hd]at v;simp only[C9,f,z,Q8];rw[←v,←m];exact O6 w e ya hE l (ins X i) (hX.ins s) n
end
def Ma(m:Region.Mode)(ops:Array Oper):List Nat->List Nat->Bool
 |_,[]=>true
 |done,i::r=>(match ops[i]? with
  |some o=>o.after.all λe=>!Region.binds m e||done.contains e.on
  |none=>false)&&Ma m ops (i::done) r
def Fe(m:Region.Mode)(ops:Array Oper)(c:List Nat):Bool:=(Qt ops.size).all (λi=>c.contains i)&&Ma m ops [] c
def En(m:Region.Mode)(ops:Array Oper)(listed:Array Bool):List Nat:=
 (Qt ops.size).filter λi=>!listed.getD i true&&((ops[i]?).map (·.after.all λe=>!Region.binds m e||listed.getD e.on false)).getD false
def aGi{a:Array Bool}{i:Nat}(h:i<a.size)(x y:Bool):a.getD i x=a.getD i y:=by
 simp_all
def O8{m:Region.Mode}{ops:Array Oper}{listed:Array Bool}(n:listed.size=ops.size):∀{c done:List Nat},Ma m ops done c=true->(∀j∈done,listed.getD j false=true)->
  (∃i∈c,i<ops.size∧listed.getD i false=false)->∃i,i∈En m ops listed
 |[],done,_,_,⟨i,hi,_⟩=>by cases hi
 |i::r,done,h,hd,⟨k,hk,hkn,hkl⟩=>by
  unfold Ma at h;rw[QU]at h;obtain⟨u,y⟩:=h;split at u
  ·rename_i o p;have f:i<ops.size:=(Qf.1 p).1;by_cases a:listed.getD i false=false
   ·refine⟨i,?_⟩;simp only[En,Zm,Ql];refine⟨f,?_⟩;rw[aGi O true false,a];simp only[Zb,Bool.true_and,p,QY,QE];rw[ZA]at u ⊢;intro j z;have:=u j z;simp only[QP,Zn]at this ⊢;rcases this with h3|h3
    ·exact .inl h3
    ·exact .inr (hd _ h3)
   ·have b:listed.getD i false=true:=by simpa using a
    refine O8 n y (λj z=>?_) ?_
    ·grind
    ·grind
  ·cases u
def Ei(listed:Array Bool):Nat->Bool:=λi=>listed.getD i false
def fO{listed:Array Bool}{i:Nat}(h:i<listed.size):Ei (listed.setIfInBounds i true)=ins (Ei listed) i:=by
 funext j;simp only[Ei,ins,Qh,Array.getElem?_setIfInBounds];by_cases u:i=j
 ·subst u;simp[h]
 ·grind
def FF(listed:Array Bool)(n:Nat):Nat:=((Qt n).filter λi=>!listed.getD i false).length
def WN{p q:Nat->Bool}{i:Nat}(hi:p i=true)(v:∀j,q j=(p j&&j !=i)):∀{l:List Nat},i∈l->(l.filter q).length<(l.filter p).length:=by
 have ta:∀l:List Nat,(l.filter q).length<=(l.filter p).length:=by
  intro l;induction l with
  |nil=>exact Qk _
  |cons x l ih=>
   rw[Q6,Q6,v x];cases hp:p x
   ·exact ih
   ·grind
 intro l;induction l with
 |nil=>intro h;cases h
 |cons x l ih=>
  intro u;rw[Q6,Q6,v x];by_cases m:x=i
  ·grind
  ·have a:(x !=i)=true:=by simpa using m
   have:=ih (by rcases List.mem_cons.1 u with h|h;exact absurd h.symm m;exact h);cases hp:p x
   ·simpa using this
   ·simp only[a,Bool.and_true,if_true,Qo];omega
def Tc{listed:Array Bool}{n i:Nat}(m:listed.size=n)(hi:i<n)(hl:listed.getD i false=false):FF (listed.setIfInBounds i true) n<FF listed n:=by
 unfold FF;refine WN (i:=i) (by rw[hl];rfl) (λj=>?_) (Ql.2 hi);by_cases u:j=i
 ·simp_all
 ·have z:¬i=j:=λe=>u e.symm
  simp[Qh,z,u]
def Si(o:Oper):List Nat:=(o.after.toList.filter (Region.binds .any)).map (·.on)
theorem tH{m:Region.Mode}{e:Edge}(h:Region.binds .any e=true):Region.binds m e=true:=by
 unfold Region.binds at h ⊢;split at h<;>simp_all
def EU(z:List (List Nat))(j k:Nat):Prop:=j∈z.getD k []
def Fy(ps:List (List Nat))(z:List (List Nat)):Bool:=
 (Qt z.length).all λk=>(z.getD k []).all λj=>decide (j<k)&&((ps.getD k []).any λp=>p==j||(decide (p<k)&&(z.getD p []).contains j))
def UI{ps z:List (List Nat)}(h:Fy ps z=true){j k:Nat}(m:EU z j k):j<k∧∃p∈ps.getD k [],p=j∨(p<k∧EU z j p):=by
 unfold EU at m;have s:k<z.length:=by
  grind
 have u:=Qy.1 h k (Ql.2 s);have y:=Qy.1 u j m;simp only[QU,decide_eq_true_eq,List.any_eq_true,QP,beq_iff_eq,Zn]at y;exact⟨y.1,y.2⟩
def cC{ps z:List (List Nat)}(h:Fy ps z=true){X:Nat->Bool}(r:∀k,X k=true->∀p∈ps.getD k [],X p=true):∀{k j:Nat},X k=true->EU z j k->X j=true:=by
 intro k;induction k using ZI with
 |_ k ih=>
  intro j s m;obtain⟨_,p,g,o⟩:=UI h m;rcases o with rfl|⟨y,w⟩
  ·exact r k s p g
  ·grind
def aCr{ps z:List (List Nat)}(h:Fy ps z=true){X:Nat->Bool}(r:∀k,X k=true->∀p∈ps.getD k [],X p=true){k:Nat}(s:∀p∈ps.getD k [],X p=true){j:Nat}(m:EU z j k):X j=true:=by
 obtain⟨_,p,g,o⟩:=UI h m;rcases o with rfl|⟨y,w⟩
 ·exact s p g
 ·exact cC h r (s p g) w
def lZ{m:Region.Mode}{ops:Array Oper}{y:List DOper}{z:List (List Nat)}(r:y.length=ops.size)(la:∀(k:Nat) o,ops[k]?=some o->(y.map (·.after)).getD k []=Si o)
  (w:Fy (y.map (·.after)) z=true) {c:List Nat} (s:Fe m ops c=true):
  ∀(fuel t:Nat)(listed:Array Bool)(x:List Nat),listed.size=ops.size->FF listed ops.size<=fuel->
   (∀k,Ei listed k=true->∀p∈(y.map (·.after)).getD k [],Ei listed p=true)->
   ∃l,Region.linearise.go m ops fuel t listed x=x.reverse++l∧dG y (EU z) (Ei listed) l∧∀i,i<ops.size->l.foldl ins (Ei listed) i=true
 |0,t,listed,x,hsz,hu,hcl=>by
  refine⟨[],by simp[Region.linearise.go],trivial,λi hi=>?_⟩;have h0:((Qt ops.size).filter λi=>!listed.getD i false)=[]:=QM (by unfold FF at hu;omega);rw[List.filter_eq_nil_iff]at h0;have:=h0 i (Ql.2 hi);simpa[Ei]using this
 |fuel+1,t,listed,x,hsz,hu,hcl=>by
  have n:Region.linearise.go m ops (fuel+1) t listed x=match (En m ops listed)[t % (En m ops listed).length]? with
   |some i=>Region.linearise.go m ops fuel (t / (En m ops listed).length) (listed.setIfInBounds i true) (i::x)
   |none=>x.reverse:=rfl
  rw[n];split
  ·rename_i i hi;have q:i∈En m ops listed:=Qr hi;simp only[En,Zm,Ql,QU]at q;obtain⟨ia,pa,ja⟩:=q;have f:listed.getD i false=false:=by
    simp_all
   have ho:ops[i]?=some ops[i]:=Array.getElem?_eq_getElem ia;rw[ho]at ja;simp only[QY,QE,ZA]at ja;have ea:∀p∈(y.map (·.after)).getD i [],Ei listed p=true:=by
    intro p hp;rw[la i _ ho]at hp;simp only[Si,Qv,Zm]at hp;obtain⟨e,⟨he,b⟩,rfl⟩:=hp;obtain⟨j,u,rfl⟩:=Array.getElem_of_mem (Array.mem_toList_iff.1 he);have:=ja j u;simp only[QP]at this;rcases this with h1|h1
    ·grind [tH]
    ·exact h1
   have na:=fO (listed:=listed) (i:=i) O;obtain⟨l,v,e2,e3⟩:=lZ r la w s fuel (t / (En m ops listed).length) (listed.setIfInBounds i true) (i::x) (by simpa using hsz)
    (by have:=Tc hsz ia f;omega) (λk hk p hp=>by
     rw[na]at hk ⊢;simp only[ins,QP,beq_iff_eq]at hk ⊢;rcases hk with hk|rfl
     ·exact .inl (hcl k hk p hp)
     ·exact .inl (ea p hp))
   refine⟨i::l,?_,⟨O,f,λj u=>aCr w hcl ea u,?_⟩,?_⟩
   ·rw[v];simp
   ·rw[←na];exact e2
   ·simp_all
  ·rename_i g;refine⟨[],U,trivial,λi hi=>?_⟩;simp only[List.foldl_nil];cases hmi:Ei listed i with
   |true=>rfl
   |false=>
    exfalso;unfold Fe at s;rw[QU]at s;have a:=Qy.1 s.1 i (Ql.2 hi);obtain⟨k,hk⟩:=O8 hsz s.2 U ⟨i,XP,hi,hmi⟩;have qa:0<(En m ops listed).length:=List.length_pos_of_mem hk;rw[List.getElem?_eq_none_iff]at g;have:=ZJ t qa;omega
def EM{m:Region.Mode}{ops:Array Oper}{y:List DOper}{z:List (List Nat)}(r:y.length=ops.size)(x:∀(k:Nat) o,ops[k]?=some o->(y.map (·.after)).getD k []=Si o)
  (f:Fy (y.map (·.after)) z=true) {c:List Nat} (j:Fe m ops c=true) (t:Nat):
  dG y (EU z) (λ_=>false) (Region.linearise m ops t)∧(Region.linearise m ops t).foldl ins (λ_=>false)=below ops.size:=by
 have e:Ei (Q9 ops.size false)=λ_=>false:=by
  funext i;by_cases hi:i<ops.size<;>simp[Ei,Qh,hi]
 obtain⟨l,v,b,s⟩:=lZ r x f j ops.size t (Q9 ops.size false) [] U (by
  unfold FF;exact QO (List.length_filter_le _ _) U) (by rw[e];simp)
 rw[e]at b s;have hl:Region.linearise m ops t=l:=by
  unfold Region.linearise;simpa using v
 rw[hl];refine⟨b,?_⟩;funext i;by_cases hi:i<ops.size
 ·simp_all [s,below]
 ·have a:∀(l:List Nat)(X:Nat->Bool),dG y (EU z) X l->X i=false->l.foldl ins X i=false:=by
   intro l;induction l with
   |nil=>intro X _ h;exact h
   |cons k l ih=>
    intro X hg q;obtain⟨w,u,g,n⟩:=hg;refine ih _ n ?_;have:¬i=k:=O
    simp[ins,q,this]
  rw[a l _ b rfl];simp[below,hi]
end Go.Vd
namespace Go.Vd
open Go.RowKit
def aJH(N:Nat):Option Nat->Bool
 |some t=>decide (t<N)
 |none=>true
def Th(P:Program)(N:Nat)(o:Oper):Option DOper:=
 if aJH N o.dst=true then some ⟨o.dst,(tr P o.op).getD .stop,Si o,o.guard⟩else none
def Dt(P:Program)(N:Nat):List Oper->Option (List DOper)
 |[]=>some []
 |o::r=>match Th P N o,Dt P N r with
  |some d,some l=>some (d::l)
  |_,_=>none
def E4{P:Program}{N:Nat}{o:Oper}{d:DOper}(h:Th P N o=some d):(tr P o.op).getD .stop=d.op∧d.dst=o.dst∧d.after=Si o∧d.guard=o.guard∧∀t,o.dst=some t->t<N:=by
 grind [Th,aJH]
def aEX{P:Program}{S:Gz}{op:Op}{d:DOp}{s:Nat->D}{m:GB}{fr:Id}{x:D×GF}(h:(tr P op).getD .stop=d)(z:Aw S s m fr d=some x):tr P op=some d:=by
 cases htr:tr P op with
 |none=>rw[htr]at h;simp only[Option.getD_none]at h;subst h;simp[Aw]at z
 |some n=>rw[htr]at h;simp only[QE]at h;rw[h]
def Ds{P:Program}{N:Nat}:∀{l:List Oper} {m:List DOper},Dt P N l=some m->m.length=l.length∧∀(i:Nat) o,l[i]?=some o->∃d,m[i]?=some d∧Th P N o=some d
 |[],m,h=>by simp only[Dt,Qa]at h;subst h;simp
 |o::r,m,h=>by
  unfold Dt at h;split at h
  ·rename_i d l u y;simp only[Qa]at h;subst h;obtain⟨p,q⟩:=Ds y;refine⟨by simp[p],λi o' hi=>?_⟩;cases i with
   |zero=>simp only[QD,Qa]at hi;subst hi;exact⟨d,rfl,u⟩
   |succ i=>simp only[Zg]at hi ⊢;exact q i o' hi
  ·cases h
def Gv(ns:Id)(m:GB)(g:Gh)(m':GB)(a:Gh):Prop:=∀i,BU m g i->¬ns<:+i->BU m' a i
def Gv.refl(ns:Id)(m:GB)(g:Gh):Gv ns m g m g:=λ_ h _=>h
def Gv.trans{ns:Id}{m m' a:GB}{g e f:Gh}(h:Gv ns m g m' e)(k:Gv ns m' e a f):Gv ns m g a f:=λi s r=>k i (h i s r) r
structure InX (P:Program) (B:Nat) (w0:World) (N:Nat) (ns:Id) (c:Nat) (X:Nat->Bool) (s:Nat->D) (m:GB) (a:Act) (w:World) (g:Gh):Prop where
 inv:GJ P B w0 m w g
 slots:DI w g s a
 size:a.tmps.size=N
 defers:a.defers=[]
 fresh:∀k i,c<=k->X (k-c)=false->(k::ns)<:+i->BU m g i
def aHZ:(Nat->Bool)->List Nat->Prop
 |_,[]=>True
 |X,i::l=>X i=false∧aHZ (ins X i) l
def Vu{k p:Nat}{ns i:Id}(h:(k::ns)<:+i)(g:(p::ns)<:+i):k=p:=by
 obtain⟨x,q⟩:=h;obtain⟨y,o⟩:=g;have hl:x.length=y.length:=by have:=congrArg ZL (q.trans o.symm);simpa using this
 have:=List.append_inj (q.trans o.symm) hl;simpa using this.2
def DI.put{w:World}{g:Gh}{s:Nat->D}{a:Act}{f:Option Nat}{d:D}{v:Value}(h:DI w g s a)(n:Rep w g d v)(y:∀t,f=some t->t<a.tmps.size):DI w g (Cp s f d) (a.put f v):=by
 intro t;cases f with
 |none=>exact h t
 |some z=>
  have b:=y z rfl;simp only[Cp,Act.put];by_cases j:t=z
  ·simp_all
  ·rw[if_neg j];have c:¬z=t:=λe=>j e.symm
   have:(a.tmps.setIfInBounds z v).getD t undef=a.tmps.getD t undef:=by simp[Qh,c]
   rw[this];exact h t
def VR(a:Act)(f:Option Nat)(v:Value):(a.put f v).tmps.size=a.tmps.size∧(a.put f v).defers=a.defers:=by
 cases f<;>simp[Act.put]
section
variable{P:Program}{B:Nat}{w0:World}{N:Nat}{ns:Id}{c:Nat}{S:Gz}{ops:Array Oper}{dops:List DOper}{Q:Exit->Act->World->Prop}
def rD{k:Nat}{i:Id}(h:¬ns<:+i):¬(k::ns)<:+i:=λg=>h ((ZD k ns).trans g)
def LI{w:World}{g:Gh}{s:Nat->D}{a:Act}(n:Dt P N ops.toList=some dops)(i:DI w g s a){o:Oper}{d:DOper}(hd:d.guard=o.guard){b:Bool}(q:Bn dops s d=some b):
  Region.wanted o (yielded ops a.tmps)=b:=by
 obtain⟨hl,u⟩:=Ds n;unfold Bn at q;unfold Region.wanted;rw[←hd];cases hgd:d.guard with
 |none=>rw[hgd]at q;simp only[Qa]at q;exact q
 |some p=>
  obtain⟨j,f⟩:=p;rw[hgd]at q;simp only at q ⊢;split at q
  ·rename_i t k;split at q
   ·rename_i b' wa;simp only[Qa]at q;have y:=i t;rw[wa]at y;have m:=y.bool_inv;have r:∃oj,ops[j]?=some oj∧oj.dst=some t:=by
     cases hdj:dops[j]? with
     |none=>rw[hdj]at k;cases k
     |some dj=>
      rw[hdj]at k;simp only[ZE]at k;have c:j<ops.toList.length:=by have:=(Qe.1 hdj).1;omega
      obtain⟨d2,v,z⟩:=u j _ (Qc c);rw[hdj]at v;simp only[Qa]at v;subst v;refine⟨ops.toList[j],by simp at c;simp[c],?_⟩;rw[←(E4 z).2.1];exact k
    obtain⟨oj,v,z⟩:=r;have ia:a.tmps[t]?=some (.bool b'):=by
     rw[Qh]at m;cases hh:a.tmps[t]? with
     |none=>rw[hh]at m;simp[undef]at m
     |some x=>rw[hh]at m;simp at m;rw[m]
    have hy:yielded ops a.tmps j=some b':=by
     simp[yielded,v,z,ia]
    rw[hy,←q];cases b'<;>cases f<;>rfl
   ·rename_i wa;simp only[Qa]at q;subst q;have y:=i t;rw[wa]at y;obtain⟨us,m,hl,_⟩:=y.tup_inv;have hu:us=[]:=QM Xl;subst hu;have hy:yielded ops a.tmps j=none:=by
     unfold yielded;split
     ·rename_i b2 e;exfalso;rw[Zi]at e;obtain⟨t2,v,z⟩:=e;rw[Zi]at v;obtain⟨oj,e3,e4⟩:=v;have r:(dops[j]?).bind (·.dst)=some t2:=by
       obtain⟨d2,q1,q2⟩:=u j oj (by simpa using e3);rw[q1];simp only[ZE];rw[(E4 q2).2.1];exact e4
      rw[k]at r;simp only[Qa]at r;subst r;rw[Qh,z]at m;cases m
     ·rfl
    rw[hy];rfl
   ·cases q
  ·cases q
def H1(hS:Gz.ok P S)(ea:Dt P N ops.toList=some dops):∀(l:List Nat)(X:Nat->Bool)(s:Nat->D)(m:GB)(a:Act)(w:World)(g:Gh)(s':Nat->D)(m':GB),
  aHZ X l->C9 S ns c dops l s m=some (s',m')->InX P B w0 N ns c X s m a w g->
  (∀a' v g',InX P B w0 N ns c (l.foldl ins X) s' m' a' v g'->GY w g v g'->Gv ns m g m' g'->Q .normal a' v)->wpOps P ops Q l a w
 |[],X,s,m,a,w,g,s',m',_,he,hx,hq=>by
  simp only[C9,Qa,Qd]at he;obtain⟨rfl,rfl⟩:=he;exact hq a w g hx (GY.refl w g) (Gv.refl ns m g)
 |i::l,X,s,m,a,w,g,s',m',hf,he,hx,hq=>by
  obtain⟨p,va⟩:=hf;obtain⟨r,ja⟩:=Ds ea;simp only[wpOps];cases ho:ops[i]? with
  |none=>
   simp only;have hd:dops[i]?=none:=by
    simp_all
   simp only[C9,hd]at he;have pa:InX P B w0 N ns c (ins X i) s m a w g:=⟨hx.inv,hx.slots,hx.size,hx.defers,λk i' y x h3=>hx.fresh k i' y (by simp only[ins,QS]at x;exact x.1) h3⟩;exact H1 hS ea l (ins X i) s m a w g s' m' va he pa hq
  |some o=>
   simp only;obtain⟨d,hd,ca⟩:=ja i o (by simpa using ho);obtain⟨t1,t2,t3,t4,t5⟩:=E4 ca;simp only[C9,hd]at he;split at he
   ·rename_i e b;unfold BJ at b;have n:∀i',((c+i)::ns)<:+i'->BU m g i':=λi' h=>hx.fresh (c+i) i' O (by rw[show c+i-c=i by omega];exact p) h
    have j:∀t,o.dst=some t->t<a.tmps.size:=λt ht=>by rw[hx.size];exact t5 t ht
    split at b
    ·rename_i hg;rw[LI ea hx.slots t4 hg];simp only[if_true];split at b
     ·rename_i dd u z;simp only[Qa]at b;subst b;left;refine aQJ hS ⟨hx.inv,hx.slots,n⟩ (aEX t1 z) z (λv' v g' ha=>?_);have la:=VR a o.dst v';have pa:InX P B w0 N ns c (ins X i) (Cp s d.dst dd) (GF.app m u) (a.put o.dst v') v g':=by
       refine⟨ha.inv,?_,by rw[la.1];exact hx.size,by rw[la.2];exact hx.defers,λk i' y x h3=>?_⟩
       ·rw[t2];exact(hx.slots.ext ha.ext).put ha.rep j
       ·simp only[ins,QS,beq_eq_false_iff_ne]at x;refine ha.fresh i' (hx.fresh k i' y x.1 h3) (λh4=>?_);have:=Vu h3 h4;omega
      exact H1 hS ea l (ins X i) _ _ _ v g' s' m' va he pa (λta q f y x h3=>hq ta q f y (ha.ext.trans x) (Gv.trans (λi' hf hn=>ha.fresh i' hf (rD hn)) h3))
     ·cases b
    ·rename_i hg;rw[LI ea hx.slots t4 hg];simp only[QG,if_false];simp only[Qa]at b;subst b;have la:=VR a o.dst undef;have pa:InX P B w0 N ns c (ins X i) (Cp s d.dst (.tup [])) m (a.put o.dst undef) w g:=by
      refine⟨hx.inv,?_,by rw[la.1];exact hx.size,by rw[la.2];exact hx.defers,λk i' y x h3=>?_⟩
      ·rw[t2];exact hx.slots.put (.tup [] [] rfl U) j
      ·simp only[ins,QS]at x;exact hx.fresh k i' y x.1 h3
     exact H1 hS ea l (ins X i) _ _ _ w g s' m' va he pa hq
    ·cases b
   ·cases he
def SK{a:Nat->Nat->Prop}:∀{l:List Nat} {X:Nat->Bool},dG dops a X l->aHZ X l
 |[],_,_=>trivial
 |i::l,X,h=>⟨h.2.1,SK h.2.2.2⟩
def gR(n:Nat):∀k,aHZ (below k) (Zp k n):=by
 induction n with
 |zero=>intro k;trivial
 |succ n ih=>
  intro k;rw[Q3];exact⟨by simp[below],by rw[M8];exact ih (k+1)⟩
def WI(n:Nat):∀k,(Zp k n).foldl ins (below k)=below (k+n):=by
 induction n with
 |zero=>intro k;rfl
 |succ n ih=>
  intro k;rw[Q3,Q8,M8,ih (k+1)];congr 1;omega
structure InS (P:Program) (B:Nat) (w0:World) (N:Nat) (ns:Id) (c:Nat) (s:Nat->D) (m:GB) (a:Act) (w:World) (g:Gh):Prop where
 inv:GJ P B w0 m w g
 slots:DI w g s a
 size:a.tmps.size=N
 defers:a.defers=[]
 fresh:∀k i,c<=k->(k::ns)<:+i->BU m g i
def InS.start{s:Nat->D}{m:GB}{a:Act}{w:World}{g:Gh}(h:InS P B w0 N ns c s m a w g)(X:Nat->Bool):InX P B w0 N ns c X s m a w g:=
 ⟨h.inv,h.slots,h.size,h.defers,λk i u _ p=>h.fresh k i u p⟩
def InX.done{s:Nat->D}{m:GB}{a:Act}{w:World}{g:Gh}{n:Nat}(h:InX P B w0 N ns c (below n) s m a w g):InS P B w0 N ns (c+n) s m a w g:=
 ⟨h.inv,h.slots,h.size,h.defers,λk i u p=>h.fresh k i O (by simp[below];omega) p⟩
def qD(o:Gz.ok P S)(b:Dt P N ops.toList=some dops){s:Nat->D}{m:GB}{a:Act}{w:World}{g:Gh}{r:Nat->D}{m':GB}{id:Nat}
  (z:C9 S ns c dops (Qt dops.length) s m=some (r,m')) (q:InS P B w0 N ns c s m a w g)
  (v:∀t i e,InS P B w0 N ns (c+dops.length) r m' t i e->GY w g i e->Gv ns m g m' e->Q .normal t i):(Code.region id ops false).wp P Q a w:=by
 have hl:dops.length=ops.size:=by simpa using (Ds b).1
 refine wp_region ?_;rw[←hl];have f:below 0=λ_=>false:=Yp
 refine H1 o b (Qt dops.length) (below 0) s m a w g r m' ?_ z (q.start _) (λt i e u y p=>?_)
 ·rw[QR];exact gR _ 0
 ·rw[QR,WI]at u;rw[Qu]at u;exact v t i e u.done y p
end
abbrev LD:=List Loc×List Loc
def B9(S:Gz)(ns:Id)(c:Nat)(ops:List DOper):List DOper->Nat->(Nat->D)->GB->Option ((Nat->D)×GB×List LD)
 |[],_,s,m=>some (s,m,[])
 |o::l,k,s,m=>match BJ S ops ((c+k)::ns) o s m with
  |some e=>match B9 S ns c ops l (k+1) (Cp s o.dst e.d) (GF.app m e.u)with
   |some (s',m',f)=>some (s',m',(GS S s m o.op,AB e.u)::f)
   |none=>none
  |none=>none
def DOp.mayW:DOp->Bool
 | .alloc _| .box _| .bslice .. | .mksl .. | .store .. | .app .. | .call .. | .range _| .next _=>true
 |_=>false
def DOp.ownW:DOp->Bool
 | .alloc _| .box _| .bslice .. | .mksl ..=>true
 |_=>false
def DOp.mayR:DOp->Bool
 | .load .. | .store .. | .app .. | .call .. | .next _=>true
 |_=>false
def aCf(a b:DOp):Bool:=a.mayW&&(b.mayR||b.mayW)&&!(a.ownW&&b.ownW)
def RH(z:List (List Nat))(j k:Nat):Bool:=(z.getD k []).contains j
def IL(ops:List DOper)(z:List (List Nat)):List (Nat×Nat):=
 (Qt ops.length).flatMap λj=>(Qt ops.length).filterMap λk=>
  match ops[j]?,ops[k]? with
  |some a,some b=>if(j !=k)&&!RH z j k&&!RH z k j&&aCf a.op b.op then some (j,k)else none
  |_,_=>none
def Oe(ops:List DOper)(z:List (List Nat)):Bool:=
 (Qt ops.length).all λj=>(Qt ops.length).all λk=>
  match ops[j]?,ops[k]? with
  |some a,some b=>match a.dst with
   |some t=>(j==k)||RH z j k||RH z k j||!(b.op.uses.contains t||FW ops b==some t||b.dst==some t)
   |none=>true
  |_,_=>true
def Lu(f:List LD)(ps:List (Nat×Nat)):Prop:=∀p∈ps,∀l∈(f.getD p.1 ([],[])).2,l∉(f.getD p.2 ([],[])).1∧l∉(f.getD p.2 ([],[])).2
section
variable{S:Gz}{ns:Id}{c:Nat}{ops:List DOper}
def Dn(S:Gz)(ns:Id)(c:Nat)(ops:List DOper)(s0:Nat->D)(m0:GB):Nat->(Nat->D)×GB
 |0=>(s0,m0)
 |k+1=>match ops[k]? with
  |some o=>
   let e:=(BJ S ops ((c+k)::ns) o (Dn S ns c ops s0 m0 k).1 (Dn S ns c ops s0 m0 k).2).getD ⟨.junk,[]⟩
   (Cp (Dn S ns c ops s0 m0 k).1 o.dst e.d,GF.app (Dn S ns c ops s0 m0 k).2 e.u)
  |none=>Dn S ns c ops s0 m0 k
def Lw(S:Gz)(ns:Id)(c:Nat)(ops:List DOper)(s0:Nat->D)(m0:GB)(k:Nat):Eff:=
 match ops[k]? with
 |some o=>(BJ S ops ((c+k)::ns) o (Dn S ns c ops s0 m0 k).1 (Dn S ns c ops s0 m0 k).2).getD ⟨.junk,[]⟩
 |none=>⟨.junk,[]⟩
variable{s0:Nat->D}{m0:GB}
def Gf:∀k,k<=ops.length->(Dn S ns c ops s0 m0 k).1=eM ops (Lw S ns c ops s0 m0) s0 (below k) ops.length∧(Dn S ns c ops s0 m0 k).2=pM (Lw S ns c ops s0 m0) m0 (below k) ops.length
 |0,_=>by
  have f:below 0=λ_=>false:=Yp
  constructor
  ·funext t;simp only[Dn,eM,f];have:∀n,Ig ops (Lw S ns c ops s0 m0) (λ_=>false) t n=none:=by
    intro n;induction n with
    |zero=>rfl
    |succ n ih=>simp[Ig,ih]
   rw[this];rfl
  ·funext i o;simp only[Dn,pM,f];have:∀n,HD (Lw S ns c ops s0 m0) (λ_=>false) i o n=none:=by
    intro n;induction n with
    |zero=>rfl
    |succ n ih=>simp[HD,ih]
   rw[this]
 |k+1,hk=>by
  obtain⟨u,y⟩:=Gf k O;have ho:ops[k]?=some ops[k]:=Qc O;have g:Lw S ns c ops s0 m0 k=(BJ S ops ((c+k)::ns) ops[k] (Dn S ns c ops s0 m0 k).1 (Dn S ns c ops s0 m0 k).2).getD ⟨.junk,[]⟩:=by
   simp only[Lw,ho]
  have m:below k k=false:=by simp[below]
  have v:=kN (ops:=ops) (E:=Lw S ns c ops s0 m0) (s0:=s0) m (n:=ops.length) O (λt _ j u _ x=>by simp[below]at x;omega);have z:=kO (E:=Lw S ns c ops s0 m0) (m0:=m0) m (n:=ops.length) O (λi o _ j u _ x=>by simp[below]at x;omega);rw[M8]at v z;have p:DE ops k=(ops[k]).dst:=by simp[DE,ho]
  rw[p]at v;simp only[Dn,ho];rw[←g,u,y,←v,←z];exact⟨rfl,rfl⟩
def Ip:∀{l:List DOper} {k:Nat} {r:Nat->D} {m':GB} {f:List LD},l=ops.drop k->B9 S ns c ops l k (Dn S ns c ops s0 m0 k).1 (Dn S ns c ops s0 m0 k).2=some (r,m',f)->
  (r,m')=Dn S ns c ops s0 m0 (k+l.length)∧∀j o,ops[k+j]?=some o->
   BJ S ops ((c+(k+j))::ns) o (Dn S ns c ops s0 m0 (k+j)).1 (Dn S ns c ops s0 m0 (k+j)).2=some (Lw S ns c ops s0 m0 (k+j))∧
   f[j]?=some (GS S (Dn S ns c ops s0 m0 (k+j)).1 (Dn S ns c ops s0 m0 (k+j)).2 o.op,AB (Lw S ns c ops s0 m0 (k+j)).u)
 |[],k,r,m',f,hl,h=>by
  simp only[B9,Qa,Qd]at h;obtain⟨rfl,rfl,rfl⟩:=h;refine⟨rfl,λj o ho=>?_⟩;have:ops.length<=k:=by
   simp_all
  rw[Qj O]at ho;cases ho
 |o::l,k,r,m',f,hl,h=>by
  have w:ops[k]?=some o:=by
   have:(ops.drop k)[0]?=some o:=by rw[←hl];rfl
   rw[Qw]at this;simpa using this
  have b:l=ops.drop (k+1):=by
   have:(ops.drop k).drop 1=ops.drop (k+1):=by rw[Zo]
   rw[←this,←hl];rfl
  unfold B9 at h;split at h
  ·rename_i e z;have g:Lw S ns c ops s0 m0 k=e:=by simp only[Lw,w,z,QE]
   have n:Dn S ns c ops s0 m0 (k+1)=(Cp (Dn S ns c ops s0 m0 k).1 o.dst e.d,GF.app (Dn S ns c ops s0 m0 k).2 e.u):=by
    grind [Dn]
   split at h
   ·rename_i s x i y;simp only[Qa,Qd]at h;obtain⟨rfl,rfl,rfl⟩:=h;obtain⟨p,q⟩:=Ip (k:=k+1) b (by rw[n];exact y);refine⟨by rw[p];congr 1;simp;omega,λj o' a=>?_⟩;cases j with
    |zero=>
     simp only[Zj]at a ⊢;rw[w]at a;simp only[Qa]at a;subst a;refine⟨by rw[z,g],?_⟩;rw[g];rfl
    |succ j=>
     have:=q j o' (by rw[show k+1+j=k+(j+1)by omega];exact a);rw[show k+1+j=k+(j+1)by omega]at this;exact⟨this.1,by simpa using this.2⟩
   ·cases h
  ·cases h
theorem WT{P:Program}(g:Gz.ok P S){op:DOp}{s:Nat->D}{m:GB}{fr:Id}{d:D}{u:GF}(h:Aw S s m fr op=some (d,u)):
  (op.mayW=false->u=[])∧(op.ownW=true->∀i o,EL u i o≠none->i=fr):=by
 have a:∀ds,∀i o,EL [(fr,0,ds)] i o≠none->i=fr:=by
  grind [EL]
 cases op<;>(constructor<;>intro w<;>first|(simp[DOp.mayW]at w;done)|(simp[DOp.ownW]at w;done)|skip)
 all_goals simp only[Aw]at h
 case alloc zs=>simp only[Qa,Qd]at h;obtain⟨rfl,rfl⟩:=h;exact a _
 case box x=>split at h;(simp only[Qa,Qd]at h;obtain⟨rfl,rfl⟩:=h;exact a _);cases h
 case bslice=>split at h;(simp only[Qa,Qd]at h;obtain⟨rfl,rfl⟩:=h;exact a _);cases h
 case mksl=>
  split at h
  ·grind
  ·cases h
 all_goals
  repeat' (split at h)
 all_goals first
  |(simp at h;done)
  |(simp only[Qa,Qd]at h;exact h.2.symm)
  |(rw[Qb]at h;obtain⟨_,_,h⟩:=h;simp only[Qd]at h;exact h.2.symm)
def VN{op:DOp}{s:Nat->D}{m:GB}(h:op.mayR=false):GS S s m op=[]:=by
 cases op<;>first|rfl|(simp[DOp.mayR]at h)
def qG{op:DOp}(h:op.ownW=true):op.mayR=false:=by
 cases op<;>first|rfl|(simp[DOp.ownW]at h)
def Mx{z:List (List Nat)}{j k:Nat}:RH z j k=true↔EU z j k:=by
 simp[RH,EU]
def aAC{P:Program}(hS:Gz.ok P S){z:List (List Nat)}(w:Fy (ops.map (·.after)) z=true)(hs:Oe ops z=true){s':Nat->D}{m':GB}{f:List LD}
  (he:B9 S ns c ops ops 0 s0 m0=some (s',m',f)) (hf:Lu f (IL ops z)):
  aD3 ops (Lw S ns c ops s0 m0) (λk=>(f.getD k ([],[])).1) (EU z):=by
 obtain⟨_,ja⟩:=Ip (k:=0) (ops:=ops) rfl he;simp only[Qu]at ja;refine⟨λj k h=>(UI w h).1,λj k t oj ok a hj hk p ht=>?_,λj k i o a hj hk hl ht=>?_⟩
 ·have ka:j<ops.length:=(Qe.1 hj).1;have na:k<ops.length:=(Qe.1 hk).1;have q:=Qy.1 hs j (Ql.2 ka);have h2:=Qy.1 q k (Ql.2 na);simp only[hj,hk,p]at h2;simp only[QP,beq_iff_eq,Bool.not_eq_true',QS]at h2;rcases h2 with ((h2|h2)|h2)|h2
  ·exact absurd h2 a
  ·exact .inl (Mx.1 h2)
  ·exact .inr (Mx.1 h2)
  ·simp_all
 ·by_cases v:EU z j k∨EU z k j
  ·exact v
  exfalso;have r:ops[j]?=some ops[j]:=Qc hj;have y:ops[k]?=some ops[k]:=Qc hk;obtain⟨ej,fj⟩:=ja j _ r;obtain⟨ek,fk⟩:=ja k _ y;have l:f.getD j ([],[])=(GS S (Dn S ns c ops s0 m0 j).1 (Dn S ns c ops s0 m0 j).2 ops[j].op,AB (Lw S ns c ops s0 m0 j).u):=by simp[Q0,fj]
  have d:f.getD k ([],[])=(GS S (Dn S ns c ops s0 m0 k).1 (Dn S ns c ops s0 m0 k).2 ops[k].op,AB (Lw S ns c ops s0 m0 k).u):=by simp[Q0,fk]
  have wr:∀{k o e s m},BJ S ops ((c+k)::ns) o s m=some e->(o.op.mayW=false->e.u=[])∧(o.op.ownW=true->∀i o',EL e.u i o'≠none->i=(c+k)::ns):=by
   intro k o e s m h;unfold BJ at h;split at h
   ·grind [WT]
   ·simp only[Qa]at h;subst h;exact⟨λ_=>rfl,λ_ i o' hl=>absurd rfl hl⟩
   ·cases h
  by_cases sa:aCf (ops[j]).op (ops[k]).op=true
  ·have ga:(j,k)∈IL ops z:=by
    unfold IL;rw[Q5];refine⟨j,Ql.2 hj,?_⟩;rw[List.mem_filterMap];refine⟨k,Ql.2 hk,?_⟩;simp only[r,y];have n1:RH z j k=false:=by
     cases h:RH z j k with
     |false=>rfl
     |true=>exact absurd (.inl (Mx.1 h)) v
    have n2:RH z k j=false:=by
     cases h:RH z k j with
     |false=>rfl
     |true=>exact absurd (.inr (Mx.1 h)) v
    have n3:(j !=k)=true:=XP
    rw[n1,n2,n3,sa];rfl
   have g:=hf (j,k) ga (i,o) (by simp only;rw[l];exact look_mem hl);rcases ht with ht|ht
   ·exact g.1 ht
   ·grind [look_mem]
  ·obtain⟨w1,w2⟩:=wr ej;obtain⟨w3,w4⟩:=wr ek;have n:(ops[j]).op.mayW=true:=by
    cases h:(ops[j]).op.mayW with
    |true=>rfl
    |false=>rw[w1 h]at hl;exact absurd rfl hl
   by_cases b:(ops[k]).op.mayR=true∨(ops[k]).op.mayW=true
   ·have ha:(ops[j]).op.ownW=true∧(ops[k]).op.ownW=true:=by
     unfold aCf at sa;rw[n]at sa;have:((ops[k]).op.mayR||(ops[k]).op.mayW)=true:=by rcases b with h|h<;>simp[h]
     rw[this]at sa;simpa using sa
    have hi:=w2 ha.1 i o hl;rcases ht with ht|ht
    ·have:(ops[k]).op.mayR=false:=qG ha.2;rw[d,VN this]at ht;cases ht
    ·have x:=w4 ha.2 i o ht;rw[hi]at x;simp only[ZH,and_true]at x;omega
   ·have q:(ops[k]).op.mayR=false:=by simpa using (λh=>b (.inl h))
    have h2:(ops[k]).op.mayW=false:=by simpa using (λh=>b (.inr h))
    rcases ht with ht|ht
    ·rw[d,VN q]at ht;cases ht
    ·rw[w3 h2]at ht;exact absurd rfl ht
def eF{P:Program}(w:Gz.ok P S){z:List (List Nat)}(m:Fy (ops.map (·.after)) z=true)(r:Oe ops z=true){x:Nat->D}{m':GB}{f:List LD}
  (n:B9 S ns c ops ops 0 s0 m0=some (x,m',f)) (v:Lu f (IL ops z)) {l:List Nat} (q:dG ops (EU z) (λ_=>false) l) (hl:l.foldl ins (λ_=>false)=below ops.length):
  C9 S ns c ops l s0 m0=some (x,m'):=by
 obtain⟨a,e⟩:=Ip (k:=0) (ops:=ops) rfl n;simp only[Qu,List.drop_zero]at e a;have hI:=aAC w m r n v;have b:=Gf (S:=S) (ns:=ns) (c:=c) (ops:=ops) (s0:=s0) (m0:=m0) 0 (ZF _);have i:below 0=λ_=>false:=Yp
 rw[i]at b;simp only[Dn]at b;have g:=Gf (S:=S) (ns:=ns) (c:=c) (ops:=ops) (s0:=s0) (m0:=m0) ops.length (Qk _);have d:=O6 (c:=c) (ns:=ns) (s0:=s0) (m0:=m0) w hI (λk o p=>by
  have s:k<ops.length:=(Qe.1 p).1;have:=(e k o p).2;rw[(Gf k O).1,(Gf k O).2]at this;simp[Q0,this]) (λk o p=>by
  have s:k<ops.length:=(Qe.1 p).1;have:=(e k o p).1;rw[(Gf k O).1,(Gf k O).2]at this;exact this) l (λ_=>false) (λj k h _=>Xd) q
 rw[←b.1,←b.2,hl,←g.1,←g.2]at d;rw[d,←a]
end
def DOper.strip(o:DOper):DOper:={o with after:=[]}
def Eb(S:Gz)(ns:Id)(c:Nat)(ops:List DOper):List DOper->Nat->(Nat->D)->GB->Option ((Nat->D)×GB)
 |[],_,s,m=>some (s,m)
 |o::l,k,s,m=>match BJ S ops ((c+k)::ns) o s m with
  |some e=>Eb S ns c ops l (k+1) (Cp s o.dst e.d) (GF.app m e.u)
  |none=>none
def Rz(ops:List DOper)(s:Nat->D)(o:DOper):Bn (ops.map DOper.strip) s o.strip=Bn ops s o:=by
 grind [Bn,DOper.strip]
def NS(S:Gz)(ops:List DOper)(fr:Id)(o:DOper)(s:Nat->D)(m:GB):BJ S (ops.map DOper.strip) fr o.strip s m=BJ S ops fr o s m:=by
 unfold BJ;rw[Rz];rfl
def NQ(S:Gz)(ns:Id)(c:Nat)(ops:List DOper):∀(l:List DOper)(k:Nat)(s:Nat->D)(m:GB),Eb S ns c (ops.map DOper.strip) (l.map DOper.strip) k s m=Eb S ns c ops l k s m
 |[],k,s,m=>rfl
 |o::l,k,s,m=>by
  simp only[Qs,Eb,NS];cases BJ S ops ((c+k)::ns) o s m with
  |none=>rfl
  |some e=>simp only;exact NQ S ns c ops l (k+1) _ _
def Mb(S:Gz)(ns:Id)(c:Nat)(ops:List DOper):∀(l:List DOper)(k:Nat)(s:Nat->D)(m:GB),B9 S ns c (ops.map DOper.strip) (l.map DOper.strip) k s m=B9 S ns c ops l k s m
 |[],k,s,m=>rfl
 |o::l,k,s,m=>by
  simp only[Qs,B9,NS];cases BJ S ops ((c+k)::ns) o s m with
  |none=>rfl
  |some e=>simp only;rw[show o.strip.dst=o.dst from rfl,Mb S ns c ops l (k+1) _ _];rfl
def NR(S:Gz)(ns:Id)(c:Nat)(ops:List DOper):∀(l:List DOper)(k:Nat)(s:Nat->D)(m:GB),l=ops.drop k->Eb S ns c ops l k s m=C9 S ns c ops (Zp k l.length) s m
 |[],k,s,m,_=>rfl
 |o::l,k,s,m,hl=>by
  have y:ops[k]?=some o:=by
   have:(ops.drop k)[0]?=some o:=by rw[←hl];rfl
   rw[Qw]at this;simpa using this
  have b:l=ops.drop (k+1):=by
   have:(ops.drop k).drop 1=ops.drop (k+1):=by rw[Zo]
   rw[←this,←hl];rfl
  rw[Qo,Q3];simp only[Eb,C9,y];cases BJ S ops ((c+k)::ns) o s m with
  |none=>rfl
  |some e=>simp only;exact NR S ns c ops l (k+1) _ _ b
inductive DC where
 |skip
 |ret
 |exit (i:Nat)
 |row (ops:List DOper)
 |drawn (ops:List DOper) (ps:List (Nat×Nat))
 |seq (a b:DC)
 |cond (c:GE) (a b:DC)
 |block (i:Nat) (c:DC)
 |loop (c:DC)
def P0(ps:List (List Nat)):List (List Nat):=
 ps.foldl (λx p=>x++[(p.flatMap λj=>j::x.getD j []).eraseDups]) []
def T_(P:Program)(N:Nat)(ops:Array Oper):Option DC:=
 match Dt P N ops.toList with
 |some y=>
  if Fy (y.map (·.after)) (P0 (y.map (·.after)))=true∧Oe y (P0 (y.map (·.after)))=true∧Fe .any ops (Region.linearise .any ops 0)=true∧
   Fe .text ops (Region.linearise .text ops 0)=true∧Fe .gc ops (Region.linearise .gc ops 0)=true
  then some (.drawn (y.map DOper.strip) (IL y (P0 (y.map (·.after)))))else none
 |none=>none
def Ch(P:Program)(N:Nat):Code->Option DC
 | .skip=>some .skip
 | .ret=>some .ret
 | .exit i=>some (.exit i)
 | .region _ ops false=>(Dt P N ops.toList).map λl=> .row (l.map DOper.strip)
 | .region _ ops true=>T_ P N ops
 | .seq a b=>match Ch P N a,Ch P N b with
  |some a,some b=>some (.seq a b)
  |_,_=>none
 | .cond c a b=>match AC c,Ch P N a,Ch P N b with
  |some c,some a,some b=>some (.cond c a b)
  |_,_,_=>none
 | .block i c=>(Ch P N c).map (.block i)
 | .loop c=>(Ch P N c).map .loop
 |_=>none
structure St where
 s:Nat->D
 m:GB
 c:Nat
inductive Ex where
 |normal
 |ret
 |exit (i:Nat)
def Ex.toExit:Ex->Exit
 | .normal=> .normal
 | .ret=> .ret
 | .exit i=> .exit i
inductive Lp (R:St->Ex->St->Prop):Nat->St->Ex->St->Prop
 |stop (st:St) (e:Ex) (st':St):R st e st'->e≠ .normal->Lp R 0 st e st'
 |more (n:Nat) (st st1:St) (e:Ex) (st':St):R st .normal st1->Lp R n st1 e st'->Lp R (n+1) st e st'
def Ev(S:Gz)(ns:Id):DC->St->Ex->St->Prop
 | .skip,st,e,st'=>e= .normal∧st'=st
 | .ret,st,e,st'=>e= .ret∧st'=st
 | .exit i,st,e,st'=>e= .exit i∧st'=st
 | .row ops,st,e,st'=>e= .normal∧Eb S ns st.c ops ops 0 st.s st.m=some (st'.s,st'.m)∧st'.c=st.c+ops.length
 | .drawn ops ps,st,e,st'=>e= .normal∧(∃f,B9 S ns st.c ops ops 0 st.s st.m=some (st'.s,st'.m,f)∧Lu f ps)∧st'.c=st.c+ops.length
 | .seq a b,st,e,st'=>∃j t,Ev S ns a st j t∧((j= .normal∧Ev S ns b t e st')∨(j≠ .normal∧e=j∧st'=t))
 | .cond c a b,st,e,st'=>(c.ev st.s= .bool true∧Ev S ns a st e st')∨(c.ev st.s= .bool false∧Ev S ns b st e st')
 | .block i c,st,e,st'=>∃j,Ev S ns c st j st'∧((j= .exit i∧e= .normal)∨(j≠ .exit i∧e=j))
 | .loop c,st,e,st'=>∃n,Lp (Ev S ns c) n st e st'
def DC.wp(S:Gz)(ns:Id)(x:DC)(Q:Ex->St->Prop)(v:St):Prop:=∃e q,Ev S ns x v e q∧Q e q
def RX{P:Program}{Q:Exit->Act->World->Prop}{c:Code}(J:Nat->Act->World->Prop)
  (f:∀n a w,J n a w->c.wp P (Exit.then (λt i=>∃k,k<n∧J k t i) Q) a w) {n:Nat} {a:Act} {w:World} (o:J n a w):(Code.loop c).wp P Q a w:=by
 intro b k cs;have z:∀n a w,J n a w->∃e t i,Q e t i∧Arrives P (lone (b.at a (.code c:: .inLoop c::k)) cs w) b k cs e t i:=by
  intro n;induction n using ZI with
  |_ n ih=>
   intro a w r;obtain⟨e,u,s,v,p⟩:=f n a w r b (.inLoop c::k) cs;cases e with
   |normal=>
    obtain⟨m,y,g⟩:=v;obtain⟨q,a₂,j,h,d⟩:=ih m y u s g;exact⟨q,a₂,j,h,.of_steps (Steps.trans p (.one step_inLoop)) d⟩
   |exit id=>exact⟨_,u,s,v,.pass (x:= .inLoop c) rfl (λ_ _=> .inl U) p⟩
   |goto l=>exact⟨_,u,s,v,.pass (x:= .inLoop c) rfl (λ_ _=> .inl U) p⟩
   |ret=>exact⟨_,u,s,v,.pass (x:= .inLoop c) rfl (λ_ _=> .inl U) p⟩
   |panic ch=>exact⟨_,u,s,v,.pass (x:= .inLoop c) rfl (λ_ _=> .inl U) p⟩
   |outgrown=>exact⟨_,u,s,v,.pass (x:= .inLoop c) rfl (λ_ _=> .inl U) p⟩
 obtain⟨e,t,i,v,p⟩:=z n a w o;exact⟨e,t,i,v,.of_steps (.one step_loop) p⟩
section
variable{P:Program}{B:Nat}{w0:World}{N:Nat}{ns:Id}{S:Gz}
def TX{ops:Array Oper}{x:DC}(h:T_ P N ops=some x):∃y z,Dt P N ops.toList=some y∧Fy (y.map (·.after)) z=true∧Oe y z=true∧
  (∀i,Fe i ops (Region.linearise i ops 0)=true)∧x= .drawn (y.map DOper.strip) (IL y z):=by
 unfold T_ at h;split at h
 ·rename_i y p;split at h
  ·rename_i o;simp only[Qa]at h;refine⟨y,_,p,o.1,o.2.1,λi=>?_,h.symm⟩;cases i
   ·exact o.2.2.2.1
   ·exact o.2.2.2.2
   ·exact o.2.2.1
  ·cases h
 ·cases h
def Holds(P:Program)(B:Nat)(w0:World)(N:Nat)(ns:Id)(v:St)(a:Act)(w:World)(g:Gh):Prop:=InS P B w0 N ns v.c v.s v.m a w g
def aHT(P:Program)(B:Nat)(w0:World)(N:Nat)(ns:Id)(v:St)(w:World)(g:Gh)(e:Ex)(q:St):Exit->Act->World->Prop:=
 λx t i=>x=e.toExit∧∃a,Holds P B w0 N ns q t i a∧GY w g i a∧Gv ns v.m g q.m a
def aHT.trans{v f k:St}{w t:World}{g z:Gh}{e:Ex}{x:Exit}{r:Act}{i:World}(q:GY w g t z)(s:Gv ns v.m g f.m z)(h:aHT P B w0 N ns f t z e k x r i):aHT P B w0 N ns v w g e k x r i:=by
 obtain⟨u,a,y,p,n⟩:=h;exact⟨u,a,y,q.trans p,s.trans n⟩
def Rr{ops:Array Oper}{y:List DOper}{z:List (List Nat)}(b:Dt P N ops.toList=some y)(m:Fy (y.map (·.after)) z=true)
  (j:∀i,Fe i ops (Region.linearise i ops 0)=true) (a:Bool) (t:Nat):
  dG y (EU z) (λ_=>false) (Region.schedule a ops t)∧(Region.schedule a ops t).foldl ins (λ_=>false)=below y.length:=by
 obtain⟨hl,e⟩:=Ds b;have r:y.length=ops.size:=Xl
 have q:∀(k:Nat) o,ops[k]?=some o->(y.map (·.after)).getD k []=Si o:=by
  intro k o f;obtain⟨d,p,x⟩:=e k o (by simpa using f);simp[Q0,p,(E4 x).2.2.1]
 rw[r];unfold Region.schedule;split
 ·exact EM r q m (j .any) t
 ·split
  ·exact EM r q m (j .text) (t / 2)
  ·exact EM r q m (j .gc) (t / 2)
def aA0(hS:Gz.ok P S):∀(ba:Code)(dc:DC),Ch P N ba=some dc->∀(st:St)(e:Ex)(ga:St),Ev S ns dc st e ga->∀(a:Act)(w:World)(g:Gh),Holds P B w0 N ns st a w g->
  ba.wp P (aHT P B w0 N ns st w g e ga) a w:=by
 intro ba;induction ba with
 |skip=>
  intro dc ca st e ga b a w g hx;simp only[Ch,Qa]at ca;subst ca;obtain⟨rfl,rfl⟩:=b;exact wp_skip ⟨rfl,g,hx,GY.refl w g,Gv.refl _ _ _⟩
 |ret=>
  intro dc ca st e ga b a w g hx;simp only[Ch,Qa]at ca;subst ca;obtain⟨rfl,rfl⟩:=b;exact wp_ret ⟨rfl,g,hx,GY.refl w g,Gv.refl _ _ _⟩
 |exit i=>
  intro dc ca st e ga b a w g hx;simp only[Ch,Qa]at ca;subst ca;obtain⟨rfl,rfl⟩:=b;exact wp_exit ⟨rfl,g,hx,GY.refl w g,Gv.refl _ _ _⟩
 |region id ops ka=>
  intro dc ca st e ga b a w g hx;cases ka with
  |false=>
   simp only[Ch,Qb]at ca;obtain⟨da,ea,rfl⟩:=ca;obtain⟨rfl,he,hc⟩:=b;rw[NQ,NR S ns st.c da da 0 _ _ rfl,←QR]at he;refine qD hS ea he hx (λa' w' g' h1 h2 h3=>⟨rfl,g',?_,h2,h3⟩);unfold Holds;rw[hc,QZ];exact h1
  |true=>
   simp only[Ch]at ca;obtain⟨da,aa,ea,hb,hs,ha,rfl⟩:=TX ca;obtain⟨rfl,⟨f,he,hf⟩,hc⟩:=b;rw[Mb]at he;refine wp_region_draw (λt=>?_);obtain⟨g1,g2⟩:=Rr ea hb ha (P.follows .mixedOrders) t;have z:=eF (c:=st.c) (ns:=ns) hS hb hs he hf g1 g2;have pa:InS P B w0 N ns st.c st.s st.m a w.drew g:=⟨hx.inv.drew,λt=>(hx.slots t).ext (GY.drew w g),hx.size,hx.defers,hx.fresh⟩;refine H1 hS ea _ (λ_=>false) st.s st.m a w.drew g ga.s ga.m (SK g1) z (pa.start _) (λa' w' g' h1 h2 h3=>⟨rfl,g',?_,(GY.drew w g).trans h2,h3⟩);unfold Holds;rw[hc,QZ];rw[g2]at h1;exact h1.done
 |seq x y oa ma=>
  intro dc ca st e ga b a w g hx;simp only[Ch]at ca;split at ca
  ·rename_i dx dy h1 h2;simp only[Qa]at ca;subst ca;obtain⟨e1,ia,l,u⟩:=b;have za:=oa dx h1 st e1 ia l a w g hx;refine wp_seq (wp_mono za ?_);rintro e' a' w' ⟨rfl,g',hh,d,k⟩;rcases u with ⟨rfl,sa⟩|⟨fa,rfl,rfl⟩
   ·exact wp_mono (ma dy h2 ia e ga sa a' w' g' hh) (λua ta q h=>h.trans d k)
   ·cases e with
    |normal=>exact absurd rfl fa
    |ret=>exact⟨rfl,g',hh,d,k⟩
    |exit i=>exact⟨rfl,g',hh,d,k⟩
  ·cases ca
 |cond c x y oa ma=>
  intro dc ca st e ga b a w g hx;simp only[Ch]at ca;split at ca
  ·rename_i p dx dy h0 h1 h2;simp only[Qa]at ca;subst ca;have hc:=hx.slots.arg h0;rcases b with ⟨ht,b⟩|⟨ht,b⟩
   ·rw[ht]at hc;exact wp_cond_true hc.bool_inv (oa dx h1 st e ga b a w g hx)
   ·rw[ht]at hc;exact wp_cond_false hc.bool_inv (ma dy h2 st e ga b a w g hx)
  ·cases ca
 |block i c ih=>
  intro dc ca st e ga b a w g hx;simp only[Ch,Qb]at ca;obtain⟨p,h1,rfl⟩:=ca;obtain⟨e1,l,u⟩:=b;refine wp_block (wp_mono (ih p h1 st e1 ga l a w g hx) ?_);rintro e' a' w' ⟨rfl,g',hh,d,k⟩;rcases u with ⟨rfl,rfl⟩|⟨fa,rfl⟩
  ·simp only[Ex.toExit,Exit.inBlock,if_true];exact⟨rfl,g',hh,d,k⟩
  ·cases e with
   |normal=>exact⟨rfl,g',hh,d,k⟩
   |ret=>exact⟨rfl,g',hh,d,k⟩
   |exit j=>
    simp only[Ex.toExit,Exit.inBlock];rw[if_neg (λe=>fa (by rw[e]))];exact⟨rfl,g',hh,d,k⟩
 |loop c ih=>
  intro dc ca st e ga b a w g hx;simp only[Ch,Qb]at ca;obtain⟨p,h1,rfl⟩:=ca;obtain⟨n,o⟩:=b;refine RX (λn a' w'=>∃ia g1,Holds P B w0 N ns ia a' w' g1∧GY w g w' g1∧Gv ns st.m g ia.m g1∧Lp (Ev S ns p) n ia e ga) ?_ ⟨st,g,hx,GY.refl w g,Gv.refl _ _ _,o⟩;rintro n a1 w1 ⟨ia,g1,hh,d,k,na⟩;cases na with
  |stop _ _ _ hr fa=>
   refine wp_mono (ih p h1 ia e ga hr a1 w1 g1 hh) ?_;rintro e' a' w' hp;have qa:=hp.trans d k;obtain⟨rfl,_⟩:=hp;cases e with
   |normal=>exact absurd rfl fa
   |ret=>exact qa
   |exit i=>exact qa
  |more n' _ r _ _ hr la=>
   refine wp_mono (ih p h1 ia .normal r hr a1 w1 g1 hh) ?_;rintro e' a' w' ⟨rfl,g',ja,v,ra⟩;exact⟨n',Nat.lt_succ_self _,r,g',ja,d.trans v,k.trans ra,la⟩
 |_=>
  intro dc ca;simp[Ch]at ca
end
def Np{xs:List D}(h:∀d∈xs,d.calm=true):∀x∈flat xs,x.calm=true:=by
 induction xs with
 |nil=>intro x hx;cases hx
 |cons d r ih=>
  intro x hx;simp only[flat,Qg]at hx;rcases hx with hx|hx
  ·exact LB (h d (Qn ..)) x hx
  ·exact ih (λd p=>h d (Qq _ p)) x hx
def bV{cs:List D}(h:(D.agg cs).calm=true):∀x∈cs,x.calm=true:=LB h
def Rep.calm_to{w w':World}{g g':Gh}{d:D}{v:Value}(h:Rep w g d v)(hc:d.calm=true)(q:∀p:Addr,p.off<g.G p.block->w'.cell? p=w.cell? p)(hG:∀b,g.G b<=g'.G b):Rep w' g' d v:=by
 induction h with
 |junk v=>exact .junk v
 |bool b=>exact .bool b
 |int k n=>exact .int k n
 |str s=>exact .str s
 |nils t=>exact .nils t
 |slice t xs a n c sz vv u y h3 m h5 h6 h7 h8 h9 ih=>
  have ht:t=[]:=by simpa[D.calm,D.calm1]using hc
  subst ht;refine .slice [] xs a n c sz vv u y h3 (λj z=>?_) h5 (λj d r=>ih j d r (Np h9 d (Qr r))) (λh=>QO (h7 h) (hG _)) (λh=>absurd rfl h) h9;rw[q _ YH];exact m j z
 |ptr i o b u=>simp[D.calm,D.calm1]at hc
 |row i n c b e u=>simp[D.calm,D.calm1]at hc
 |eptr ds a vv u y h3 m h5 ih=>
  refine .eptr ds a vv (λj z=>?_) y (λj d r=>ih j d r (h5 d (Qr r))) (λh=>QO (m h) (hG _)) h5;rw[q _ YG];exact u j z
 |nilp=>exact .nilp
 |agg ds vs u y h3 ih=>exact .agg ds vs u y (λj d v r x=>ih j d v r x (bV hc d (Qr r)))
 |tup ds vs u y ih=>simp[D.calm,D.calm1]at hc
 |iface t d v u y ih=>exact .iface t d v u (ih u)
 |nili=>exact .nili
 |fn f ds vs u y ih=>
  have:ds=[]:=by simpa[D.calm,D.calm1]using hc
  subst this;exact .fn f [] vs u U
 |nilf=>exact .nilf
 |nilm=>exact .nilm
 |itp i b u=>simp[D.calm,D.calm1]at hc
def D.unR:D->D
 | .tup vs=> .tup (vs.map D.un)
 |d=>d.un
def D.calmR:D->Bool
 | .tup vs=>vs.all D.calm
 |d=>d.calm
def Rep.unR{w:World}{g:Gh}{d:D}{v:Value}(h:Rep w g d v):Rep w g d.unR v:=by
 cases d with
 |tup vs=>
  obtain⟨us,rfl,u,y⟩:=h.tup_inv;refine .tup _ us (by simp[u]) (λj d v p x=>?_);rw[Qi,Qb]at p;obtain⟨n,i,rfl⟩:=p;exact(y j n v i x).un
 |_=>exact h.un
def Rep.calmR_to{w i:World}{g a:Gh}{d:D}{v:Value}(h:Rep w g d v)(o:d.calmR=true)(q:∀p:Addr,p.off<g.G p.block->i.cell? p=w.cell? p)(s:∀b,g.G b<=a.G b):Rep i a d v:=by
 cases d with
 |tup vs=>
  obtain⟨us,rfl,u,y⟩:=h.tup_inv;exact .tup _ us u (λj d v r x=>(y j d v r x).calm_to (Qy.1 o d (Qr r)) q s)
 |_=>exact h.calm_to o q s
inductive RV where
 |t (n:Nat)
 |cell (k:Option Nat) (n:Nat)
def Wr(m:GB)(k:Option Nat):D->Option D
 | .ptr i o=>match k with
  |none=>m i o
  |some n=>(Ag m i o n).map .agg
 |_=>none
def RV.of(s:Nat->D)(m:GB):RV->Option D
 | .t n=>some (s n)
 | .cell k n=>Wr m k (s n)
def Hu(s:Nat->D)(m:GB):List RV->Option (List D)
 |[]=>some []
 |r::l=>match r.of s m,Hu s m l with
  |some d,some ds=>some (d::ds)
  |_,_=>none
def CR(rs:List RV)(s:Nat->D)(m:GB):Option D:=
 match Hu s m rs with
 |some [d]=>some d
 |some ds=>some (.tup ds)
 |none=>none
def I6(P:Program):List ResultVar->Option (List RV)
 |[]=>some []
 | .tmp t::r=>(I6 P r).map (.t t::·)
 | .cell a t::r=>match lU P t,I6 P r with
  |some k,some l=>some (.cell k a::l)
  |_,_=>none
section
variable{P:Program}{B:Nat}{w0 w w':World}{m:GB}{g:Gh}{s:Nat->D}{a:Act}
def VD(tmps:Array Value):ResultVar->Sem Value
 | .tmp t=>pure (tmps.getD t undef)
 | .cell a t=>do loadVar t (←asAddr (tmps.getD a undef))
def NC(hi:GJ P B w0 m w g)(hs:DI w g s a):∀{h:List ResultVar} {rs:List RV} {ds:List D},I6 P h=some rs->Hu s m rs=some ds->
  ∃vs:List Value,(h.mapM (m:=Sem) (VD a.tmps)).run P w= .ok vs w∧vs.length=ds.length∧∀(j:Nat) d v,ds[j]?=some d->vs[j]?=some v->Rep w g d v
 |[],rs,ds,h1,h2=>by
  simp only[I6,Qa]at h1;subst h1;simp only[Hu,Qa]at h2;subst h2;exact⟨[],U,rfl,U⟩
 |x::r,rs,ds,h1,h2=>by
  have z:∃rv f,rs=rv::f∧I6 P r=some f∧∀d,rv.of s m=some d->∃v,(VD a.tmps x).run P w= .ok v w∧Rep w g d v:=by
   cases x with
   |tmp t=>
    simp only[I6,Qb]at h1;obtain⟨l,hl,rfl⟩:=h1;refine⟨.t t,l,rfl,hl,λd hd=>?_⟩;simp only[RV.of,Qa]at hd;subst hd;exact⟨_,rfl,hs t⟩
   |cell y t=>
    simp only[I6]at h1;split at h1
    ·rename_i k l hk hl;simp only[Qa]at h1;subst h1;refine⟨.cell k y,l,rfl,hl,λd hd=>?_⟩;simp only[RV.of]at hd;unfold Wr at hd;split at hd
     ·rename_i i o e;have hr:=hs y;rw[e]at hr;obtain⟨b,e1,hb⟩:=hr.ptr_inv;split at hd
      ·obtain⟨v,c1,c2,c3⟩:=hi.cell hb hd;exact⟨v,by simp[VD,e1,asAddr,DQ hk c1],c3⟩
      ·rename_i n;rw[Qb]at hd;obtain⟨ds,q,rfl⟩:=hd;obtain⟨vs,c1,c2⟩:=hi.cells hb q;have hl:=(Bz q).1;have:=Eg (P:=P) (w:=w) hk (ad:=⟨b,o,none⟩) (vs:=vs) (by rw[c1.1,hl]) (λj v hv=>by rw[Fr];exact c2 j v hv);exact⟨_,by simp[VD,e1,asAddr,this],aK c1⟩
     ·cases hd
    ·cases h1
  obtain⟨rv,f,rfl,hl,p⟩:=z;unfold Hu at h2;split at h2
  ·rename_i d c e1 e2;simp only[Qa]at h2;subst h2;obtain⟨v,u,q2⟩:=p d e1;obtain⟨vs,p1,p2,p3⟩:=NC hi hs hl e2;refine⟨v::vs,?_,by simp[p2],λj d v hd hv=>?_⟩
   ·simp_all
   ·grind
  ·cases h2
def VM{k:Func}{rs:List RV}{d:D}(hi:GJ P B w0 m w g)(i:DI w g s a)(n:I6 P k.results.toList=some rs)(p:CR rs s m=some d):
  ∃v,(results k a.tmps).run P w= .ok v w∧Rep w g d v:=by
 unfold CR at p;have run:∀ds,Hu s m rs=some ds->∃vs:List Value,(results k a.tmps).run P w= .ok (if h:vs.toArray.size=1 then vs.toArray[0]else .tuple vs.toArray) w∧vs.length=ds.length∧∀(j:Nat) d v,ds[j]?=some d->vs[j]?=some v->Rep w g d v:=by
  intro ds q;obtain⟨vs,f,o,z⟩:=NC hi i n q;refine⟨vs,?_,o,z⟩;have b:results k a.tmps=(do
   let vs ←k.results.mapM (VD a.tmps)
   pure (if h:vs.size=1 then vs[0]else .tuple vs)):=by
   unfold results;congr 1
  rw[b];simp only[Sem.run_bind];rw[Zc,Sem.run_map,f];rfl
 split at p
 ·rename_i t e;simp only[Qa]at p;subst p;obtain⟨vs,f,o,z⟩:=run _ e
  match vs,o with
  |[v],_=>exact⟨v,f,z 0 _ v rfl rfl⟩
 ·rename_i ds c e;simp only[Qa]at p;subst p;obtain⟨vs,f,o,z⟩:=run _ e;refine⟨.tuple vs.toArray,?_,.tup ds vs o z⟩;rw[f,dif_neg];intro u
  match ds,c,o with
  |[],_,o=>simp at o;subst o;simp at u
  |[x],c,_=>exact c x rfl
  |x::y::r,_,o=>simp at o u;omega
 ·cases p
def GJ.less(h:GJ P B w0 m w g){m':GB}(ta:∀i o d,m' i o=some d->m i o=some d):GJ P B w0 m' w g:=by
 refine⟨h.below,h.size,h.gz,h.old,λi b hi=>?_,h.inj,λi o d t a=>h.kind i o d (ta _ _ _ t) a,λi e hi=>h.tok i e (ta _ _ _ hi),λk i2 j z b y y' u f x n=>h.tinj k i2 j z b y y' (ta _ _ _ u) (ta _ _ _ f) x n,h.itr.to (λi s p e=>ta _ _ _ e) λi b s p _ _ _ j z c=>⟨rfl,rfl,z,c⟩⟩;obtain⟨p,q,vs,T,v,r⟩:=h.obj i b hi;exact⟨p,q,vs,T,v,λo d t=>r o d (ta _ _ _ t)⟩
def Gh.glue(g:Gh)(w:World)(G':Nat->Nat):Gh:={g with G:=λb=>if b<w.heap.size then g.G b else G' b}
def GY.glue{G':Nat->Nat}(n:∀b,w.heap.size<=b->g.G b=0)(m:Below w.heap.size w w'):GY w g w' (g.glue w G'):=by
 refine⟨λp k=>?_,λb=>?_,λi b h=>h,rfl,λi x h=>h⟩
 ·by_cases y:p.block<w.heap.size
  ·exact m.cell y
  ·simp_all
 ·grind [Gh.glue]
def GJ.glue(h:GJ P B w0 m w g)(f:Below w.heap.size w w'){G':Nat->Nat}(t:∀b,w'.heap.size<=b->G' b=0):GJ P B w0 m w' (g.glue w G'):=by
 have x:=GY.glue (G':=G') h.gz f;refine⟨h.below.trans (f.mono h.size),QO h.size f.size,λb a=>?_,λb y=>by simp only[Gh.glue];rw[if_pos (QN y h.size)];exact h.old b y,λi b hi=>?_,h.inj,h.kind,λi e hi=>?_,h.tinj,h.itr.to (λ_ _ _ e=>e) λi b s p _ _ _ j z e3=>?_⟩
 rotate_right
 ·have y:b<w.heap.size:=(Qf.1 j).1;exact⟨rfl,f.block b y,by simp[Gh.glue,y,z],e3⟩
 ·simp only[Gh.glue];rw[if_neg (by have:=f.size;omega)];exact t b a
 ·obtain⟨p,q,vs,T,k,r⟩:=h.obj i b hi;have y:=h.lt hi;refine⟨p,by simp[Gh.glue,y,q],vs,T,(f.block b y).trans k,λo d u=>?_⟩;obtain⟨v,r1,r2,r3⟩:=r o d u;exact⟨v,r1,r2,r3.ext x⟩
 ·obtain⟨b,n,c,sz,cur,t1,t2,t3,t4,t5,t6,t7,t8,t9,xa⟩:=h.tok i e hi;have y:b<w.heap.size:=(Qf.1 t5).1;exact⟨b,n,c,sz,cur,t1,t2,t3,t4,(f.block b y).trans t5,t6,t7,t8,by simp[Gh.glue,y,t9],xa⟩
end
structure Fn (P:Program) (f:FuncId) (N:Nat) (dc:DC) (rs:List RV):Prop where
 is:∃fn code,P.funcs[f]?=some fn∧fn.body=some code∧(fn.name== "runtime.NumGoroutine")=false∧fn.ntmps=N∧Ch P N code=some dc∧I6 P fn.results.toList=some rs
def BE(ds:List D):Nat->D:=λt=>ds.getD t .junk
def Ac(F:List D->Option D):G8 where
 rd:=λ_ _=>[]
 ex:=λds _ _=>if(ds.map D.un).all D.calm=true then(F (ds.map D.un)).map λr=>(r,[])else none
def DW(rs:List RV)(R:D->GB->Prop)(e:Ex)(v:St):Prop:=(e= .normal∨e= .ret)∧∃d,CR rs v.s v.m=some d∧R d v.m
section
variable{P:Program}{S:Gz}{f:FuncId}{N:Nat}{dc:DC}{rs:List RV}
def F5{B:Nat}{w0 w:World}{g:Gh}{ns:Id}{m:GB}{ds:List D}{vs:List Value}(hS:Gz.ok P S)(hf:Fn P f N dc rs)(hN:ds.length<=N)(hi:GJ P B w0 m w g)
  (ia:∀k i,(k::ns)<:+i->BU m g i) (hl:vs.length=ds.length) (ea:∀(j:Nat) d v,ds[j]?=some d->vs[j]?=some v->Rep w g d v) {R:D->GB->Prop}
  (za:dc.wp S ns (DW rs R) ⟨BE ds,m,0⟩):
  Calls P f vs.toArray w λe c=>∃v d m' g',e= .returned v∧GJ P B w0 m' c g'∧GY w g c g'∧Gv ns m g m' g'∧Rep c g' d v∧R d m':=by
 obtain⟨fn,r,u,y,x,h4,h5,h6⟩:=hf.is;obtain⟨e,ga,b,a,d,p,hR⟩:=za;refine calls_of_wp u y ?_;rw[h4];have s:Holds P B w0 N ns ⟨BE ds,m,0⟩ {tmps:=vs.toArray++Q9 (N-vs.toArray.size) undef,defers:=[]} w g:=by
  refine⟨hi,λt=>?_,Xc,rfl,λk i _ hs=>ia k i hs⟩;simp only[BE];by_cases o:t<ds.length
  ·have z:ds.getD t .junk=ds[t]:=by simp[Q0,o]
   have e2:(vs.toArray++Q9 (N-vs.toArray.size) undef).getD t undef=vs[t]' O:=by
    rw[Qh,QH Xc];simp[hl,o]
   rw[z,e2];exact ea t _ _ (Qc o) (Qc _)
  ·have z:ds.getD t .junk= .junk:=by simp[Q0,Qj (Nat.le_of_not_lt o)]
   rw[z];exact .junk _
 refine wp_mono (aA0 hS r dc h5 _ e ga b _ w g s) ?_;rintro e' a' c ⟨rfl,g',hh,q,hk⟩;obtain⟨v,l,n⟩:=VM hh.inv hh.slots h6 p;have hb:a'.defers=[]∧∃v,(results fn a'.tmps).run P c= .ok v c∧∃v' d m' g',Ending.returned v= .returned v'∧GJ P B w0 m' c g'∧GY w g c g'∧Gv ns m g m' g'∧Rep c g' d v'∧R d m':=
  ⟨hh.defers,v,l,v,d,ga.m,g',rfl,hh.inv,q,hk,n,hR⟩
 rcases a with rfl|rfl
 ·exact hb
 ·exact hb
def AL(hS:Gz.ok P S)(hf:Fn P f N dc rs){F:List D->Option D}(hN:∀ds r,F ds=some r->ds.length<=N)
  (hF:∀ds r,F ds=some r->dc.wp S [] (DW rs λd _=>d.unR=r∧r.calmR=true) ⟨BE ds,λ_ _=>none,0⟩):(Ac F).ok P f:=by
 obtain⟨fn,ba,q,y,h3,h4,h5,h6⟩:=hf.is;refine⟨⟨fn,q,XI,h3⟩,λds m m' fr _=>rfl,?_⟩;intro B w0 w m g fr ds vs r u hi ia hl ea z;simp only[Ac]at z;split at z
 ·rename_i la;rw[Qb]at z;obtain⟨r',c,z⟩:=z;simp only[Qd]at z;obtain⟨rfl,rfl⟩:=z
  let g0:Gh:={G:=g.G,G0:=g.G,dl:=λ_=>none,tb:=λ_=>none}
  have ua:GJ P w.heap.size w (λ_ _=>none) w g0:=
   ⟨Below.refl _ _,Qk _,hi.gz,λ_ _=>rfl,λi b h=>by simp[g0]at h,λi i' b h=>by simp[g0]at h,λi o d h=>Xe,λi e h=>Xe,λi i' e e' b x x' h=>Xe,λi s p h=>Xe,λi i' s p s' p' b x x' h=>Xe⟩
  have n:∀(j:Nat) d v,(ds.map D.un)[j]?=some d->vs[j]?=some v->Rep w g0 d v:=by
   intro j d v hd hv;have hc:=Qy.1 la d (Qr hd);rw[Qi,Qb]at hd;obtain⟨d',ra,rfl⟩:=hd;exact(ea j d' v ra hv).un.calm_to hc (λ_ _=>rfl) (λ_=>Qk _)
  have ja:=F5 (B:=w.heap.size) (w0:=w) (w:=w) (g:=g0) (ns:=[]) (m:=λ_ _=>none) (ds:=ds.map D.un) (vs:=vs) hS hf (hN _ _ c) ua (λk i _=>⟨λ_=>rfl,rfl,rfl⟩) Xl n (hF _ _ c);refine ja.mono ?_;rintro e w' ⟨v,d,m',g',rfl,t,ma,_,ya,rfl,ga⟩;have a:∀b,(g.glue w g'.G).G b=g'.G b:=by
   intro b;simp only[Gh.glue];split
   ·rename_i da;rw[t.old b da,ma.G0]
   ·rfl
  refine⟨v,g.glue w g'.G,rfl,hi.glue t.below t.gz,GY.glue hi.gz t.below,?_,λi hf _=>hf⟩;exact ya.unR.calmR_to ga (λ_ _=>rfl) (λb=>by rw[a];exact Qk _)
 ·cases z
def MX(hS:Gz.ok P S)(hf:Fn P f N dc rs){q:G8}(da:∀ds m m' fr,(∀l∈q.rd ds m,m l.1 l.2=m' l.1 l.2)->q.ex ds m fr=q.ex ds m' fr)
  (hq:∀ds m fr r u,q.ex ds m fr=some (r,u)->(∀k i o,(k::fr)<:+i->m i o=none)->ds.length<=N∧dc.wp S fr (DW rs λd m'=>d=r∧∀i o x,GF.app m u i o=some x->m' i o=some x) ⟨BE ds,m,0⟩):q.ok P f:=by
 obtain⟨fn,j,y,h2,p,h4,h5,h6⟩:=hf.is;refine⟨⟨fn,y,by rw[h2];rfl,p⟩,da,?_⟩;intro B w0 w m g fr ds vs r u hi ia hl b z;have n:∀k i,(k::fr)<:+i->BU m g i:=λk i h=>ia i ((ZD k fr).trans h)
 obtain⟨hN,za⟩:=hq ds m fr r u z (λk i o h=>(n k i h).1 o);have ja:=F5 (ns:=fr) hS hf hN hi n hl b za;refine ja.mono ?_;rintro e c ⟨v,d,m',g',rfl,s,ma,t,ya,rfl,ta⟩;refine⟨v,g',rfl,s.less ta,ma,ya,λi hf a=>?_⟩;obtain⟨k1,k2,k3⟩:=t i hf a;refine⟨λo=>?_,k2,k3⟩;cases hx:GF.app m u i o with
 |none=>rfl
 |some x=>exact absurd (k1 o) (by rw[ta i o x hx];simp)
end
inductive Tag.{u} {α:Sort u} (a:α):Type
 |mk
def As(p K:Prop)(_:Tag K):Prop:=p∧K
def N5(p A B:Prop)(_:Tag (A,B)):Prop:=(p->A)∧(¬p->B)
def GQ{α:Type}(o:Option α)(K:α->Prop)(_:Tag K):Prop:=∃x,o=some x∧K x
def As.intro{p K:Prop}{t:Tag K}(h:p)(k:K):As p K t:=⟨h,k⟩
def aG{p A B:Prop}{t:Tag (A,B)}(h:p->A)(k:¬p->B):N5 p A B t:=⟨h,k⟩
def aI{α:Type}{o:Option α}{K:α->Prop}{t:Tag K}{x:α}(h:o=some x)(k:K x):GQ o K t:=⟨x,h,k⟩
def S5{K:Prop}{t:Tag K}:As True K t=K:=by simp[As]
def aAD{A B:Prop}{t:Tag (A,B)}:N5 True A B t=A:=by simp[N5]
def qR{A B:Prop}{t:Tag (A,B)}:N5 False A B t=B:=by simp[N5]
theorem A1{α:Type}{x:α}{K:α->Prop}{t:Tag K}:GQ (some x) K t=K x:=by simp[GQ]
def AS{α:Type}{K:α->Prop}{t:Tag K}:GQ none K t=False:=by simp[GQ]
def Cy{α β:Type}{o:Option α}{f:α->β}{K:β->Prop}{t:Tag K}:GQ (o.map f) K t=GQ o (λx=>K (f x)) .mk:=by
 cases o<;>simp[GQ]
def Ej{α:Type}{p:Prop}[Decidable p]{o:Option α}{K:α->Prop}{t:Tag K}:GQ (if p then o else none) K t=As p (GQ o K .mk) .mk:=by
 grind [GQ,As]
def Fp{α:Type}{p:Prop}[Decidable p]{x:α}{K:α->Prop}{t:Tag K}:GQ (if p then some x else none) K t=As p (K x) .mk:=by
 grind [GQ,As]
def aHU{α:Type}{p:Prop}[Decidable p]{o o':Option α}{K:α->Prop}{t:Tag K}:GQ (if p then o else o') K t=N5 p (GQ o K .mk) (GQ o' K .mk) .mk:=by
 grind [GQ,N5]
def Lq:D->Bool->(A B:Prop)->Tag (A,B)->Prop
 | .bool b',b,A,B,_=>N5 (b'=b) A B .mk
 | .tup [],_,_,B,_=>B
 |_,_,_,_,_=>False
def PG{d:D}{b:Bool}{A B:Prop}{t:Tag (A,B)}(h:Lq d b A B t):(∃v,d= .bool v∧N5 (v=b) A B .mk)∨(d= .tup []∧B):=by
 cases d with
 |bool v=>exact .inl ⟨v,rfl,h⟩
 |tup l=>cases l with
  |nil=>exact .inr ⟨rfl,h⟩
  |cons _ _=>exact h.elim
 |_=>exact h.elim
def gO{b:Bool}{A B:Prop}{t:Tag (A,B)}:Lq (.tup []) b A B t=B:=rfl
def Il{v b:Bool}{A B:Prop}{t:Tag (A,B)}:Lq (.bool v) b A B t=N5 (v=b) A B .mk:=rfl
def Du(ops:List DOper)(j:Nat):Option Nat:=(ops[j]?).bind (·.dst)
def Gk(s:Nat->D):Option Nat->D
 |some t=>s t
 |none=> .junk
def CG(s:Nat->D)(t:Nat):Gk s (some t)=s t:=rfl
def Az(S:Gz)(s:Nat->D)(m:GB)(fr:Id)(op:DOp)(K:D->GF->Prop):Prop:=GQ (Aw S s m fr op) (λx=>K x.1 x.2) .mk
def FJ(S:Gz)(ns:Id)(c:Nat)(ops:List DOper):List DOper->Nat->(Nat->D)->GB->(Nat->(Nat->D)->GB->Prop)->Prop
 |[],k,s,m,K=>K k s m
 |⟨dst,op,_,none⟩::l,k,s,m,K=>Az S s m ((c+k)::ns) op λd u=>FJ S ns c ops l (k+1) (Cp s dst d) (GF.app m u) K
 |⟨dst,op,_,some (j,b)⟩::l,k,s,m,K=>Lq (Gk s (Du ops j)) b
   (Az S s m ((c+k)::ns) op λd u=>FJ S ns c ops l (k+1) (Cp s dst d) (GF.app m u) K)
   (FJ S ns c ops l (k+1) (Cp s dst (.tup [])) m K) .mk
section
variable{S:Gz}{ns:Id}
def EG{c:Nat}{ops:List DOper}{K:Nat->(Nat->D)->GB->Prop}:∀(l:List DOper)(k:Nat)(s:Nat->D)(m:GB),FJ S ns c ops l k s m K->∃r m',Eb S ns c ops l k s m=some (r,m')∧K (k+l.length) r m'
 |[],k,s,m,h=>⟨s,m,rfl,h⟩
 |⟨dst,op,af,none⟩::l,k,s,m,h=>by
  simp only[FJ,Az,GQ]at h;obtain⟨⟨d,u⟩,z,h⟩:=h;obtain⟨r,m',q,y⟩:=EG l _ _ _ h;refine⟨r,m',?_,Xx⟩;simp only[Eb,BJ,Bn,z];exact q
 |⟨dst,op,af,some (j,b)⟩::l,k,s,m,h=>by
  simp only[FJ]at h;rcases PG h with ⟨v,e,h⟩|⟨e,h⟩
  rotate_left
  ·have o:Bn ops s ⟨dst,op,af,some (j,b)⟩=some false:=by
    unfold Bn;simp only;unfold Du at e;cases ho:(ops[j]?).bind (·.dst)with
    |none=>rw[ho]at e;simp[Gk]at e
    |some t=>rw[ho,CG]at e;simp only[e]
   obtain⟨r,m',q,y⟩:=EG l _ _ _ h;refine⟨r,m',?_,Xx⟩;simp only[Eb,BJ,o];exact q
  ·have o:Bn ops s ⟨dst,op,af,some (j,b)⟩=some (v==b):=by
    unfold Bn;simp only;unfold Du at e;cases ho:(ops[j]?).bind (·.dst)with
    |none=>rw[ho]at e;simp[Gk]at e
    |some t=>rw[ho,CG]at e;simp only[e]
   by_cases f:v=b
   ·have h:=h.1 f;simp only[Az,GQ]at h;obtain⟨⟨d,u⟩,z,h⟩:=h;obtain⟨r,m',q,y⟩:=EG l _ _ _ h;refine⟨r,m',?_,Xx⟩;simp only[Eb,BJ,o,f,z,beq_self_eq_true];exact q
   ·have h:=h.2 f;obtain⟨r,m',q,y⟩:=EG l _ _ _ h;refine⟨r,m',?_,Xx⟩;have:(v==b)=false:=by simpa using f
    simp only[Eb,BJ,o,this];exact q
def C5{c:Nat}{ops:List DOper}{K:Nat->(Nat->D)->GB->Prop}:∀(l:List DOper)(k:Nat)(s:Nat->D)(m:GB)(r:Nat->D)(m':GB),Eb S ns c ops l k s m=some (r,m')->K (k+l.length) r m'->FJ S ns c ops l k s m K
 |[],k,s,m,r,m',h,hk=>by
  simp only[Eb,Qa,Qd]at h;obtain⟨rfl,rfl⟩:=h;exact hk
 |⟨dst,op,af,none⟩::l,k,s,m,r,m',h,hk=>by
  rw[Qo,show k+(l.length+1)=k+1+l.length by omega]at hk;simp only[Eb,BJ,Bn]at h;simp only[FJ,Az];cases he:Aw S s m ((c+k)::ns) op with
  |none=>rw[he]at h;cases h
  |some x=>rw[he]at h;exact⟨x,rfl,C5 l _ _ _ _ _ h hk⟩
 |⟨dst,op,af,some (j,b)⟩::l,k,s,m,r,m',h,hk=>by
  rw[Qo,show k+(l.length+1)=k+1+l.length by omega]at hk;simp only[Eb,BJ,Bn]at h;simp only[FJ];unfold Du;cases ho:(ops[j]?).bind (·.dst)with
  |none=>rw[ho]at h;cases h
  |some t=>
   rw[ho]at h;rw[CG];simp only at h;cases hd:s t with
   |bool v=>
    rw[hd]at h;simp only at h;rw[Il];refine⟨λf=>?_,λf=>?_⟩
    ·subst f;simp only[beq_self_eq_true]at h;cases he:Aw S s m ((c+k)::ns) op with
     |none=>rw[he]at h;cases h
     |some x=>rw[he]at h;exact⟨x,he,C5 l _ _ _ _ _ h hk⟩
    ·have:(v==b)=false:=by simpa using f
     rw[this]at h;exact C5 l _ _ _ _ _ h hk
   |tup g=>
    rw[hd]at h;cases g with
    |nil=>exact C5 l _ _ _ _ _ h hk
    |cons _ _=>cases h
   |_=>rw[hd]at h;cases h
def Ca(S:Gz)(ns:Id)(c:Nat)(ops:List DOper):List DOper->Nat->(Nat->D)->GB->(Nat->(Nat->D)->GB->List LD->Prop)->Prop
 |[],k,s,m,K=>K k s m []
 |⟨dst,op,_,none⟩::l,k,s,m,K=>Az S s m ((c+k)::ns) op λd u=>Ca S ns c ops l (k+1) (Cp s dst d) (GF.app m u) λp r m' f=>K p r m' ((GS S s m op,AB u)::f)
 |⟨dst,op,_,some (j,b)⟩::l,k,s,m,K=>Lq (Gk s (Du ops j)) b
   (Az S s m ((c+k)::ns) op λd u=>Ca S ns c ops l (k+1) (Cp s dst d) (GF.app m u) λp r m' f=>K p r m' ((GS S s m op,AB u)::f))
   (Ca S ns c ops l (k+1) (Cp s dst (.tup [])) m λp r m' f=>K p r m' ((GS S s m op,[])::f)) .mk
def DF{c:Nat}{ops:List DOper}:∀(l:List DOper)(k:Nat)(s:Nat->D)(m:GB)(K:Nat->(Nat->D)->GB->List LD->Prop),Ca S ns c ops l k s m K->∃r m' f,B9 S ns c ops l k s m=some (r,m',f)∧K (k+l.length) r m' f
 |[],k,s,m,K,h=>⟨s,m,[],rfl,h⟩
 |⟨dst,op,af,none⟩::l,k,s,m,K,h=>by
  simp only[Ca,Az,GQ]at h;obtain⟨⟨d,u⟩,z,h⟩:=h;obtain⟨r,m',f,q,y⟩:=DF l _ _ _ _ h;refine⟨r,m',_,?_,Xx⟩;simp only[B9,BJ,Bn,z,q]
 |⟨dst,op,af,some (j,b)⟩::l,k,s,m,K,h=>by
  simp only[Ca]at h;rcases PG h with ⟨v,e,h⟩|⟨e,h⟩
  rotate_left
  ·have o:Bn ops s ⟨dst,op,af,some (j,b)⟩=some false:=by
    unfold Bn;simp only;unfold Du at e;cases ho:(ops[j]?).bind (·.dst)with
    |none=>rw[ho]at e;simp[Gk]at e
    |some t=>rw[ho,CG]at e;simp only[e]
   obtain⟨r,m',f,q,y⟩:=DF l _ _ _ _ h;refine⟨r,m',_,?_,Xx⟩;simp only[B9,BJ,o,GF.app,q];simp[AB]
  ·have o:Bn ops s ⟨dst,op,af,some (j,b)⟩=some (v==b):=by
    unfold Bn;simp only;unfold Du at e;cases ho:(ops[j]?).bind (·.dst)with
    |none=>rw[ho]at e;simp[Gk]at e
    |some t=>rw[ho,CG]at e;simp only[e]
   by_cases w:v=b
   ·have h:=h.1 w;simp only[Az,GQ]at h;obtain⟨⟨d,u⟩,z,h⟩:=h;obtain⟨r,m',f,q,y⟩:=DF l _ _ _ _ h;refine⟨r,m',_,?_,Xx⟩;simp only[B9,BJ,o,w,z,beq_self_eq_true,q]
   ·have h:=h.2 w;obtain⟨r,m',f,q,y⟩:=DF l _ _ _ _ h;refine⟨r,m',_,?_,Xx⟩;have:(v==b)=false:=by simpa using w
    simp only[B9,BJ,o,this,GF.app,q];simp[AB]
def Cl{c:Nat}{ops:List DOper}:∀(l:List DOper)(k:Nat)(s:Nat->D)(m:GB)(K:Nat->(Nat->D)->GB->List LD->Prop)(r:Nat->D)(m':GB)(f:List LD),B9 S ns c ops l k s m=some (r,m',f)->K (k+l.length) r m' f->Ca S ns c ops l k s m K
 |[],k,s,m,K,r,m',f,h,hk=>by
  simp only[B9,Qa,Qd]at h;obtain⟨rfl,rfl,rfl⟩:=h;exact hk
 |⟨dst,op,af,none⟩::l,k,s,m,K,r,m',f,h,hk=>by
  rw[Qo,show k+(l.length+1)=k+1+l.length by omega]at hk;simp only[B9,BJ,Bn]at h;simp only[Ca,Az];cases he:Aw S s m ((c+k)::ns) op with
  |none=>rw[he]at h;cases h
  |some x=>
   rw[he]at h;obtain⟨d,u⟩:=x;simp only at h;split at h
   ·rename_i o a i e;simp only[Qa,Qd]at h;obtain⟨rfl,rfl,rfl⟩:=h;exact⟨_,rfl,Cl l _ _ _ _ _ _ _ e hk⟩
   ·cases h
 |⟨dst,op,af,some (j,b)⟩::l,k,s,m,K,r,m',f,h,hk=>by
  rw[Qo,show k+(l.length+1)=k+1+l.length by omega]at hk;simp only[B9,BJ,Bn]at h;simp only[Ca];unfold Du;cases ho:(ops[j]?).bind (·.dst)with
  |none=>rw[ho]at h;cases h
  |some t=>
   rw[ho]at h;rw[CG];simp only at h;cases hd:s t with
   |bool v=>
    rw[hd]at h;simp only at h;rw[Il];refine⟨λw=>?_,λw=>?_⟩
    ·subst w;simp only[beq_self_eq_true]at h;cases he:Aw S s m ((c+k)::ns) op with
     |none=>rw[he]at h;cases h
     |some x=>
      rw[he]at h;obtain⟨d,u⟩:=x;simp only at h;split at h
      ·rename_i o a i e;simp only[Qa,Qd]at h;obtain⟨rfl,rfl,rfl⟩:=h;exact⟨_,he,Cl l _ _ _ _ _ _ _ e hk⟩
      ·cases h
    ·have:(v==b)=false:=by simpa using w
     rw[this]at h;simp only[GF.app]at h;split at h
     ·rename_i o a i e;simp only[Qa,Qd]at h;obtain⟨rfl,rfl,rfl⟩:=h;exact Cl l _ _ _ _ _ _ _ e hk
     ·cases h
   |tup g=>
    rw[hd]at h;cases g with
    |nil=>
     simp only[GF.app]at h;split at h
     ·rename_i o a i e;simp only[Qa,Qd]at h;obtain⟨rfl,rfl,rfl⟩:=h;exact Cl l _ _ _ _ _ _ _ e hk
     ·cases h
    |cons _ _=>cases h
   |_=>rw[hd]at h;cases h
def aE7(S:Gz)(ns:Id)(b:DC)(Q:Ex->St->Prop):Ex->St->Prop
 | .normal,st=>b.wp S ns Q st
 |e,st=>Q e st
def PZ(i:Nat)(Q:Ex->St->Prop):Ex->St->Prop
 | .exit j,st=>if j=i then Q .normal st else Q (.exit j) st
 |e,st=>Q e st
def mX:D->(A B:Prop)->Tag (A,B)->Prop
 | .bool b,A,B,_=>N5 (b=true) A B .mk
 |_,_,_,_=>False
def Lz{b:Bool}{A B:Prop}{t:Tag (A,B)}:mX (.bool b) A B t=N5 (b=true) A B .mk:=rfl
variable{Q:Ex->St->Prop}{st:St}
def VB{b:DC}:aE7 S ns b Q .normal st=b.wp S ns Q st:=rfl
def wO{b:DC}:aE7 S ns b Q .ret st=Q .ret st:=rfl
def pV{b:DC}{i:Nat}:aE7 S ns b Q (.exit i) st=Q (.exit i) st:=rfl
def RG{i:Nat}:PZ i Q .normal st=Q .normal st:=rfl
def iX{i:Nat}:PZ i Q .ret st=Q .ret st:=rfl
theorem Ec{i j:Nat}:PZ i Q (.exit j) st=if j=i then Q .normal st else Q (.exit j) st:=rfl
def vM:DC.skip.wp S ns Q st=Q .normal st:=by
 apply propext;exact⟨λ⟨e,q,⟨u,y⟩,h⟩=>X7,λh=>⟨_,_,⟨rfl,rfl⟩,h⟩⟩
def aEG:DC.ret.wp S ns Q st=Q .ret st:=by
 apply propext;exact⟨λ⟨e,q,⟨u,y⟩,h⟩=>X7,λh=>⟨_,_,⟨rfl,rfl⟩,h⟩⟩
def vO{i:Nat}:(DC.exit i).wp S ns Q st=Q (.exit i) st:=by
 apply propext;exact⟨λ⟨e,q,⟨u,y⟩,h⟩=>X7,λh=>⟨_,_,⟨rfl,rfl⟩,h⟩⟩
def aEE{a b:DC}:(DC.seq a b).wp S ns Q st=a.wp S ns (aE7 S ns b Q) st:=by
 apply propext;constructor
 ·rintro⟨e,q,⟨e1,st1,h1,y⟩,h⟩;refine⟨e1,st1,h1,?_⟩;rcases y with ⟨rfl,y⟩|⟨g,rfl,rfl⟩
  ·exact⟨e,q,y,h⟩
  ·cases e with
   |normal=>exact absurd rfl g
   |ret=>exact h
   |exit i=>exact h
 ·rintro⟨e1,st1,h1,h⟩;cases e1 with
  |normal=>obtain⟨e,q,y,h⟩:=h;exact⟨e,q,⟨.normal,st1,h1,.inl ⟨rfl,y⟩⟩,h⟩
  |ret=>exact⟨.ret,st1,⟨.ret,st1,h1,.inr ⟨U,rfl,rfl⟩⟩,h⟩
  |exit i=>exact⟨.exit i,st1,⟨.exit i,st1,h1,.inr ⟨U,rfl,rfl⟩⟩,h⟩
def pA{i:Nat}{a:DC}(h:a.wp S ns (PZ i Q) st):(DC.block i a).wp S ns Q st:=by
 obtain⟨e,q,u,h⟩:=h;cases e with
 |normal=>exact⟨_,q,⟨.normal,u,.inr ⟨U,rfl⟩⟩,h⟩
 |ret=>exact⟨_,q,⟨.ret,u,.inr ⟨U,rfl⟩⟩,h⟩
 |exit j=>
  by_cases z:j=i
  ·rw[Ec,if_pos z]at h;exact⟨_,q,⟨.exit j,u,.inl ⟨by rw[z],rfl⟩⟩,h⟩
  ·rw[Ec,if_neg z]at h;exact⟨_,q,⟨.exit j,u,.inr ⟨by simp[z],rfl⟩⟩,h⟩
def vP{c:GE}{a b:DC}(h:mX (c.ev st.s) (a.wp S ns Q st) (b.wp S ns Q st) .mk):(DC.cond c a b).wp S ns Q st:=by
 unfold mX at h;split at h
 ·rename_i t e;cases t with
  |true=>obtain⟨x,q,u,y⟩:=h.1 rfl;exact⟨x,q,.inl ⟨e,u⟩,y⟩
  |false=>obtain⟨x,q,u,y⟩:=h.2 U;exact⟨x,q,.inr ⟨e,u⟩,y⟩
 ·exact h.elim
def aEF{ops:List DOper}(h:FJ S ns st.c ops ops 0 st.s st.m λk s m=>Q .normal ⟨s,m,st.c+k⟩):(DC.row ops).wp S ns Q st:=by
 obtain⟨r,m',u,y⟩:=EG _ _ _ _ h;rw[Qu]at y;exact⟨.normal,_,⟨rfl,u,rfl⟩,y⟩
def oZ{ops:List DOper}{ps:List (Nat×Nat)}(h:Ca S ns st.c ops ops 0 st.s st.m λk s m f=>As (Lu f ps) (Q .normal ⟨s,m,st.c+k⟩) .mk):(DC.drawn ops ps).wp S ns Q st:=by
 obtain⟨r,m',f,u,y⟩:=DF _ _ _ _ _ h;rw[Qu]at y;exact⟨.normal,_,⟨rfl,⟨f,u,y.1⟩,rfl⟩,y.2⟩
def Vf{i:Nat}{a:DC}:(DC.block i a).wp S ns Q st=a.wp S ns (PZ i Q) st:=by
 refine propext ⟨?_,pA⟩;rintro⟨e,st',⟨e1,h1,h2⟩,h⟩;refine⟨e1,st',h1,?_⟩;rcases h2 with ⟨rfl,rfl⟩|⟨g,rfl⟩
 ·grind [Ec]
 ·cases e with
  |normal=>exact h
  |ret=>exact h
  |exit j=>rw[Ec,if_neg (λx=>g (by rw[x]))];exact h
def dY{c:GE}{a b:DC}:(DC.cond c a b).wp S ns Q st=mX (c.ev st.s) (a.wp S ns Q st) (b.wp S ns Q st) .mk:=by
 refine propext ⟨?_,vP⟩;rintro⟨e,st',u,h2⟩;rcases u with ⟨f,u⟩|⟨f,u⟩
 ·rw[f,Lz];exact ZO (λ_=>⟨e,st',u,h2⟩) (λx=>absurd rfl x)
 ·rw[f,Lz];exact ZO (λ(x:false=true)=>absurd x V) (λ_=>⟨e,st',u,h2⟩)
def oY{ops:List DOper}:(DC.row ops).wp S ns Q st=FJ S ns st.c ops ops 0 st.s st.m λk s m=>Q .normal ⟨s,m,st.c+k⟩:=by
 refine propext ⟨?_,aEF⟩;rintro⟨e,⟨s',m',c'⟩,⟨rfl,h1,h2⟩,h3⟩;refine C5 _ _ _ _ _ _ h1 ?_;simp only at h2;rw[Qu,←h2];exact h3
def Vc{ops:List DOper}{ps:List (Nat×Nat)}:(DC.drawn ops ps).wp S ns Q st=Ca S ns st.c ops ops 0 st.s st.m λk s m f=>As (Lu f ps) (Q .normal ⟨s,m,st.c+k⟩) .mk:=by
 refine propext ⟨?_,oZ⟩;rintro⟨e,⟨s',m',c'⟩,⟨rfl,⟨f,h1,hf⟩,h2⟩,h3⟩;refine Cl _ _ _ _ _ _ _ _ h1 ⟨hf,?_⟩;simp only at h2;rw[Qu,←h2];exact h3
def Wf(S:Gz)(ns:Id)(c:DC)(Q:Ex->St->Prop):Ex->St->Prop
 | .normal,st=>(DC.loop c).wp S ns Q st
 |e,st=>Q e st
def A9(S:Gz)(ns:Id)(c:DC)(Q:Ex->St->Prop)(v:St)(_:Tag (S,ns,c,Q,v)):Prop:=(DC.loop c).wp S ns Q v
def dX{c:DC}:(DC.loop c).wp S ns Q st=A9 S ns c Q st .mk:=rfl
def Ua{c:DC}:Wf S ns c Q .normal st=(DC.loop c).wp S ns Q st:=rfl
def qM{c:DC}:Wf S ns c Q .ret st=Q .ret st:=rfl
def fQ{c:DC}{i:Nat}:Wf S ns c Q (.exit i) st=Q (.exit i) st:=rfl
def vN{c:DC}(h:c.wp S ns (Wf S ns c Q) st):(DC.loop c).wp S ns Q st:=by
 obtain⟨e,q,u,h⟩:=h;cases e with
 |normal=>obtain⟨m,r,⟨n,y⟩,h⟩:=h;exact⟨m,r,⟨n+1,.more n _ _ _ _ u y⟩,h⟩
 |ret=>exact⟨.ret,q,⟨0,.stop _ _ _ u U⟩,h⟩
 |exit i=>exact⟨.exit i,q,⟨0,.stop _ _ _ u U⟩,h⟩
def LF{x:DC}{i:Ex->St->Prop}(h:x.wp S ns Q st)(v:∀e q,Q e q->i e q):x.wp S ns i st:=by
 obtain⟨e,q,u,y⟩:=h;exact⟨e,q,u,v _ _ y⟩
end
def pT{s:Nat->D}{t z:Nat}{d:D}:Cp s (some t) d z=if z=t then d else s z:=rfl
def pU{s:Nat->D}{d:D}:Cp s none d=s:=rfl
def bL{s:Nat->D}{n:Nat}:(GE.t n).ev s=s n:=rfl
def bM{s:Nat->D}{d:D}:(GE.c d).ev s=d:=rfl
end Go.Vd
end
