/- A part of the proof; nothing in it is assumed. -/
import Derived.Below
import Derived.Maps.AppendAt
import Derived.Laws.Concat
import Derived.Laws.Unary
import Derived.Laws.StructEq
import Derived.Laws.Runes
import Derived.Laws.AppendOwnNone
import Derived.Lib.ConvBytes
import Derived.Lib.AppendStr
import Derived.Laws.IdiomStrings

set_option linter.unusedSimpArgs false
set_option linter.unusedVariables false
set_option linter.defProp false
set_option maxHeartbeats 4000000
set_option maxRecDepth 100000
open Option.some renaming injEq→Qa,inj→QJ
open Option renaming map_eq_some_iff→Qb,getD_some→QE,map_some→QY,isSome_iff_exists→Zf,bind_eq_some_iff→Zi,bind_some→ZE,map_none→ZG
open List renaming getElem?_eq_getElem→Qc,getElem?_eq_some_iff→Qe,mem_append→Qg,getElem?_map→Qi,getElem?_eq_none→Qj,mem_range→Ql,getElem?_append_left→Qm,mem_cons_self→Qn,length_cons→Qo,getElem?_take_of_lt→Qp,mem_cons_of_mem→Qq,mem_of_getElem?→Qr,map_cons→Qs,range→Qt,mem_map→Qv,getElem?_drop→Qw,mem_of_mem_drop→Qx,all_eq_true→Qy,replicate→Qz,mem_of_mem_take→QB,getElem?_cons_zero→QD,getElem?_append_right→QF,getElem?_toArray→QI,append_assoc→QK,eq_nil_of_length_eq_zero→QM,range_eq_range'→QR,length_take→QT,extract_eq_take_drop→QV,map_congr_left→QX,length_map→QZ,mem_singleton→Q_,getD→Q0,getElem_mem→Q1,cons_append→Q2,range'_succ→Q3,mem_flatMap→Q5,filter_cons→Q6,extract_toArray→Q7,foldl_cons→Q8,getElem_of_mem→Za,flatMap_cons→Zd,getElem?_cons_succ→Zg,map_nil→Zk,nil_append→Zl,mem_filter→Zm,contains_iff_mem→Zn,drop_drop→Zo,range'→Zp,getElem?_range→Zq,length_take_le→Zr,getElem?_take→Zt,length_append→Zu,size_toArray→Zy,ext_getElem?→Zz,map_toArray→ZB,suffix_cons→ZD,length→ZL,foldlM→ZN
open Prod.mk renaming injEq→Qd
open Array renaming getElem?_eq_some_iff→Qf,getD_eq_getD_getElem?→Qh,toArray_toList→QC,getElem?_append_left→QH,toList_map→QL,length_toList→QW,toList_inj→Q4,replicate→Q9,mapM_eq_mapM_toList→Zc,size_append→Zx,all_eq_true→ZA,range→ZM
open Nat renaming le_refl→Qk,zero_add→Qu,mul_le_mul_right→QA,lt_of_lt_of_le→QN,le_trans→QO,add_mul→QQ,add_right_cancel_iff→Ze,add_zero→Zj,lt_or_ge→Zv,succ_mul→Zw,le_add_right→ZC,zero_le→ZF,strongRecOn→ZI,mod_lt→ZJ,mul_comm→ZK
open Bool renaming false_eq_true→QG,or_eq_true→QP,or_eq_false_iff→QS,and_eq_true→QU,not_false→Zb,not_true→Zs
open Int renaming eq_ofNat_of_zero_le→Zh
open List.cons renaming injEq→ZH
open And renaming intro→ZO
noncomputable section
namespace Go
def O{P:Prop}(h:P:=by omega):P:=h
def U{P:Prop}(h:P:=by simp):P:=h
def V{P:Prop}(h:P:=by decide):P:=h
def Z{P:Prop}(h:P:=by kernel_rfl):P:=h
def Xa{P:Prop}(h:P:=by first|omega|(simp only;omega)):P:=h
def Xb{P:Prop}(h:P:=by simp;omega):P:=h
def Xc{P:Prop}(h:P:=by cases h):P:=h
def Xd{P:Prop}(h:P:=by simp at h):P:=h
def Xe{P:Prop}(h:P:=by first|(simp;done)|(simp;omega)):P:=h
def Xf{P:Prop}(h:P:=by simp only[Tr.wgt];omega):P:=h
def Xg{P:Prop}(h:P:=by simp only[Tr.cnt];omega):P:=h
def Xh{P:Prop}(h:P:=by rw[Hu (by omega) (by omega)];omega):P:=h
def Xi{P:Prop}(h:P:=by decide+kernel):P:=h
def Xj{P:Prop}(h:P:=by cases t<;>rfl):P:=h
def Xk{P:Prop}(h:P:=by simpa using hl):P:=h
def Xl{P:Prop}(h:P:=by simpa using h):P:=h
def Xm{P:Prop}(h:P:=by simp[Gh.tok]):P:=h
def Xn{P:Prop}(h:P:=by simp[AP]):P:=h
def Xo{P:Prop}(h:P:=by intro e h;cases h):P:=h
def Xp{P:Prop}(h:P:=by unfold maxLen;omega):P:=h
def Xq{P:Prop}(h:P:=by cases c):P:=h
def Xr{P:Prop}(h:P:=by simp[Op.equalIn,run_underlying z]):P:=h
def Xs{P:Prop}(h:P:=by simp only[j];omega):P:=h
def Xt{P:Prop}(h:P:=by cases e):P:=h
def Xu{P:Prop}(h:P:=by simpa using q):P:=h
def Xv{P:Prop}(h:P:=by simpa using d):P:=h
def Xw{P:Prop}(h:P:=by rw[y];rfl):P:=h
def Xx{P:Prop}(h:P:=by first|rfl|simp):P:=h
def Xy{P:Prop}(h:P:=by cases l<;>rfl):P:=h
def Xz{P:Prop}(h:P:=by simpa using a):P:=h
def XA{P:Prop}(h:P:=by simp[sc0]):P:=h
def XB{P:Prop}(h:P:=by simp[Gh.base]at h):P:=h
def XC{P:Prop}(h:P:=by simp only[Option.some.injEq]at h;subst h;exact⟨rfl,by simp⟩):P:=h
def XD{P:Prop}(h:P:=by rw[←hA,e1];simp):P:=h
def XE{P:Prop}(h:P:=by rw[List.length_take];omega):P:=h
def XF{P:Prop}(h:P:=by rw[AQ];omega):P:=h
def XG{P:Prop}(h:P:=by cases q):P:=h
def XH{P:Prop}(h:P:=by cases h;rfl):P:=h
def XI{P:Prop}(h:P:=by simp[flat]):P:=h
def XJ{P:Prop}(h:P:=by simp[Lib.join]):P:=h
def XK{P:Prop}(h:P:=by simp[G6.put]):P:=h
def XL{P:Prop}(h:P:=by simp only[List.length_cons]at h;omega):P:=h
def XN{P:Prop}(h:P:=by rw[h.rs];simp):P:=h
def XO{P:Prop}(h:P:=by rw[List.length_drop];omega):P:=h
def XP{P:Prop}(h:P:=by rw[BO,AU];exact⟨rfl,hl⟩):P:=h
def XQ{P:Prop}(h:P:=by have:=h.1;have:=h.2;omega):P:=h
def XS{P:Prop}(h:P:=by simpa using y):P:=h
def XT{P:Prop}(h:P:=by simpa using v):P:=h
def XU{P:Prop}(h:P:=by simpa using u):P:=h
def XV{P:Prop}(h:P:=by simpa using p):P:=h
def XX{P:Prop}(h:P:=by simpa using o):P:=h
def XY{P:Prop}(h:P:=by simpa using k):P:=h
def XZ{P:Prop}(h:P:=by simpa using hi):P:=h
def X0{P:Prop}(h:P:=by simp[ByteArray.size]):P:=h
def X1{P:Prop}(h:P:=by simp only[AD];decide):P:=h
def X2{P:Prop}(h:P:=by simp only[AB,Ax];rw[CK]):P:=h
def X3{P:Prop}(h:P:=by show _=_;rw[←HI.out,d.out]):P:=h
def X4{P:Prop}(h:P:=by rw[←hB,e2]):P:=h
def X5{P:Prop}(h:P:=by rw[show l.length=j by omega];exact I):P:=h
def X6{P:Prop}(h:P:=by rw[c.int_inv]):P:=h
def X7{P:Prop}(h:P:=by rw[List.length_cons,show k+(l.length+1)=k+1+l.length by omega];exact y):P:=h
def X8{P:Prop}(h:P:=by rw[List.length_cons,show k+(l.length+1)=k+1+l.length by omega];exact f):P:=h
def X9{P:Prop}(h:P:=by rw[List.all_eq_true];intro x q;obtain⟨y,_,rfl⟩:=List.mem_map.1 q;rfl):P:=h
def X_{P:Prop}(h:P:=by rw[IntWalk.i64_in _ ⟨by omega,by omega⟩];omega):P:=h
def Ya{P:Prop}(h:P:=by first|exact hG.more (by simp only;omega)|exact hG.put.more (by simp only;omega)|exact hG.put.put.more (by simp only;omega)|exact hG.put.put.put.more (by simp only;omega)|exact hG.put.put.put.put.more (by simp only;omega)|exact hG.put.put.put.put.put.more (by simp only;omega)):P:=h
def Yb{P:Prop}(h:P:=by cases y<;>rfl):P:=h
def Yc{P:Prop}(h:P:=by subst u f;exact h):P:=h
def Yd{P:Prop}(h:P:=by simp[execOp,hop,e1]):P:=h
def Ye{P:Prop}(h:P:=by simp[World.cell?,F0]):P:=h
def Yf{P:Prop}(h:P:=by simp[Builtin.lenOf]):P:=h
def Yg{P:Prop}(h:P:=by simp[AX,AI,Hr,Aj,Ac,G9.ev,CL,h7,ca,o,aa]):P:=h
def Yh{P:Prop}(h:P:=by simp only[];rw[Eg,if_pos ⟨rfl,rfl⟩]):P:=h
def Yi{P:Prop}(h:P:=by show o.ops.length<=_;rw[z.ops];simp):P:=h
def Yj{P:Prop}(h:P:=by show _=_;rw[←HI.out,d.out];simp):P:=h
def Yk{P:Prop}(h:P:=by rw[w8 (by omega) (by omega)];omega):P:=h
def Yl{P:Prop}(h:P:=by rw[ja];exact h.size):P:=h
def Ym{P:Prop}(h:P:=by rw[ja];exact h.below.size):P:=h
def Yn{P:Prop}(h:P:=by rw[e];exact List.suffix_refl _):P:=h
def Yo{P:Prop}(h:P:=by rw[e];exact List.suffix_cons _ _):P:=h
def Yp{P:Prop}(h:P:=by rw[IntWalk.i64_in _ ⟨by omega,by omega⟩];simp):P:=h
def Yq{P:Prop}(h:P:=by rw[Bool.eq_iff_iff];simp;omega):P:=h
def Yr{P:Prop}(h:P:=by rw[BC,if_pos ⟨rfl,rfl⟩]):P:=h
def Ys{P:Prop}(h:P:=by have:=x.ok.pa;omega):P:=h
def Yt{P:Prop}(h:P:=by have:=ha.ok.tk;omega):P:=h
def Yu{P:Prop}(h:P:=by have:=ha.ok.rl;omega):P:=h
def Yv{P:Prop}(h:P:=by have:=h.size;simp;omega):P:=h
def Yw{P:Prop}(h:P:=by funext j;simp[below]):P:=h
def Yx{P:Prop}(h:P:=by unfold OL;rw[List.length_append,List.length_take,List.length_drop];omega):P:=h
def Yy{P:Prop}(h:P:=by simpa using (List.mem_filter.1 q).2):P:=h
def Yz{P:Prop}(h:P:=by simp[List.map_map,Function.comp_def]):P:=h
def YA{P:Prop}(h:P:=by simp[IntKind.wrap,IntKind.bits,IntKind.signed]):P:=h
def YB{P:Prop}(h:P:=by simp only[↓C2,reduceIte,Nat.reduceEqDiff,x]):P:=h
def YC{P:Prop}(h:P:=by simp only[lX,D.dep.D.depL,D.dep,Lc];omega):P:=h
def YD{P:Prop}(h:P:=by simp only[List.length_singleton];omega):P:=h
def YE{P:Prop}(h:P:=by simp only[List.length_cons,List.length_nil];omega):P:=h
def YF{P:Prop}(h:P:=by simp only[List.length_append,List.length_cons,List.length_nil];omega):P:=h
def YG{P:Prop}(h:P:=by simp only[List.length_append,B_,PT];omega):P:=h
def YH{P:Prop}(h:P:=by show(0:Int)<=((L9 (BB x 58).2.1).1:Int);omega):P:=h
def YI{P:Prop}(h:P:=by rw[List.length_take,List.length_drop];omega):P:=h
def YJ{P:Prop}(h:P:=by rw[List.eq_of_mem_replicate hd];exact ea):P:=h
def YK{P:Prop}(h:P:=by rw[Int.tmod_eq_emod_of_nonneg (by omega)];omega):P:=h
def YL{P:Prop}(h:P:=by rw[Dy,FL];have:=h7 (by omega);omega):P:=h
def YM{P:Prop}(h:P:=by rw[Dy,FL];have:=h4 (by omega);omega):P:=h
def YN{P:Prop}(h:P:=by rw[Ar,List.map_map];exact List.map_congr_left λ_ _=>rfl):P:=h
def YO{P:Prop}(h:P:=by rintro rfl;rw[hf.1 0]at hm;cases hm):P:=h
def YP{P:Prop}(h:P:=by obtain⟨z,_,rfl⟩:=List.mem_map.1 q;rfl):P:=h
def YQ{P:Prop}(h:P:=by have:=o.size;rw[size_setRow]at this;omega):P:=h
def YR{P:Prop}(h:P:=by have:=congrArg List.length h;simpa using this):P:=h
def YS{P:Prop}(h:P:=by have:=congrArg List.length e;rw[Er]at this;simp at this;omega):P:=h
def YT{P:Prop}(h:P:=by have:=(six[k]?.getD 0).toNat_lt;omega):P:=h
def YU{P:Prop}(h:P:=by first|exact(hG.put.put.row (by omega) ht).grow|exact((hG.put.put.row (by omega) ht).put).grow):P:=h
def YV{P:Prop}(h:P:=by first|exact(hG.put.put.row (by omega) ht).app (by omega) (by simp only;omega)|exact((hG.put.put.row (by omega) ht).put).app (by omega) (by simp only;omega)):P:=h
def YW{P:Prop}(h:P:=by first|exact hG.grow|exact(hG.put (by omega)).grow|exact((hG.put (by omega)).put (by omega)).grow|exact(((hG.put (by omega)).put (by omega)).put (by omega)).grow|exact((((hG.put (by omega)).put (by omega)).put (by omega)).put (by omega)).grow|exact(((((hG.put (by omega)).put (by omega)).put (by omega)).put (by omega)).put (by omega)).grow):P:=h
def YX{P:Prop}(h:P:=by first|exact hG.grow|exact hG.put.grow|exact hG.put.put.grow|exact hG.put.put.put.grow|exact hG.put.put.put.put.grow|exact hG.put.put.put.put.put.grow):P:=h
def YY{P:Prop}(h:P:=by first|exact hG.app (by omega) (by simp only;omega)|exact hG.put.app (by omega) (by simp only;omega)|exact hG.put.put.app (by omega) (by simp only;omega)|exact hG.put.put.put.app (by omega) (by simp only;omega)|exact hG.put.put.put.put.app (by omega) (by simp only;omega)|exact hG.put.put.put.put.put.app (by omega) (by simp only;omega)):P:=h
def YZ{P:Prop}(h:P:=by cases y<;>exact⟨_,_,_,_,_,_,_,_,_,_,rfl⟩):P:=h
def Y0{P:Prop}(h:P:=by first|rfl|exact⟨rfl,rfl⟩|simp[*]):P:=h
def Y1{P:Prop}(h:P:=by first|rfl|exact⟨rfl,rfl⟩):P:=h
def Y2{P:Prop}(h:P:=by first|exact(FV.set ((hR.other (by first|(simp;done)|(simp;omega))).other (by first|(simp;done)|(simp;omega)))).grow (by first|(simp;done)|(simp;omega)) (λh e=>ht h e.symm)|exact((FV.set ((hR.other (by first|(simp;done)|(simp;omega))).other (by first|(simp;done)|(simp;omega)))).other (by first|(simp;done)|(simp;omega))).grow (by first|(simp;done)|(simp;omega)) (λh e=>ht h e.symm)):P:=h
def Y3{P:Prop}(h:P:=by first|(simp at h;done)|(rw[Option.map_eq_some_iff]at h;obtain⟨_,_,h⟩:=h;cases h)):P:=h
def Y4{P:Prop}(h:P:=by exact⟨rfl,rfl⟩):P:=h
def Y5{P:Prop}(h:P:=by exact⟨rfl,rfl⟩):P:=h
end Go
namespace Go.Vd
open Go.RowKit
abbrev Id:=List Nat
inductive D where
 |junk
 |bool (b:Bool)
 |int (k:IntKind) (n:Int)
 |str (s:List UInt8)
 |slice (nl:Bool) (t:Id) (xs:List D)
 |ptr (i:Id) (o:Nat)
 |eptr (ds:List D)
 |row (i:Id) (n:Nat)
 |nilptr
 |agg (cs:List D)
 |tup (vs:List D)
 |iface (t:TypeId) (d:D)
 |nilIface
 |fn (f:FuncId) (caps:List D)
 |nilFunc
 |nilMap
 |tok (e:Nat)
 |it (s:List UInt8) (p:Nat)
 |itp (i:Id)
instance:Inhabited D:=⟨.junk⟩
def D.leaf:D->Bool
 | .agg _| .tup _| .junk| .tok _| .it _ _=>false
 |_=>true
def D.gh:D->Bool
 | .tok _| .it _ _=>true
 |_=>false
def D.isRw:D->Bool
 | .nilIface| .str []=>true
 |_=>false
def D.cells:D->List D
 | .agg cs=>cs
 |d=>[d]
def D.un1:D->D
 | .slice nl _ xs=> .slice nl [] xs
 |d=>d
def D.un:D->D
 | .agg cs=> .agg (cs.map D.un1)
 | .slice nl _ xs=> .slice nl [] xs
 |d=>d
def D.calm1:D->Bool
 | .slice _ t _=>t.isEmpty
 | .ptr _ _| .row _ _| .itp _| .it _ _=>false
 | .fn _ cs=>cs.isEmpty
 | .agg _| .tup _=>false
 |_=>true
def D.calm:D->Bool
 | .agg cs=>cs.all D.calm1
 |d=>d.calm1
def flat:List D->List D
 |[]=>[]
 |x::xs=>x.cells++flat xs
structure Gh where
 G:Nat->Nat
 G0:Nat->Nat
 dl:Id->Option Nat
 tb:Id->Option (Nat×Nat×Nat×Nat)
inductive Rep (w:World) (g:Gh):D->Value->Prop
 |junk (v:Value):Rep w g .junk v
 |bool (b:Bool):Rep w g (.bool b) (.bool b)
 |int (k:IntKind) (n:Int):Rep w g (.int k n) (.int k n)
 |str (s:List UInt8):Rep w g (.str s) (.string ⟨s.toArray⟩)
 |nils (t:Id):Rep w g (.slice true t []) (.slice none 0 0)
 |slice (t:Id) (xs:List D) (a:Addr) (n c sz:Nat) (vv:Nat->Value):
   n=xs.length->n<=c->(∀d∈xs,d.cells.length=sz)->
   (∀j,j<n*sz->w.cell? (a.add j)=some (vv j))->
   (∀j,j<n*sz->(vv j).oneCell'=true)->
   (∀(j:Nat) d,(flat xs)[j]?=some d->Rep w g d (vv j))->
   (0<n*sz->a.off+n*sz<=g.G a.block)->
   (t≠[]->a.off=0∧a.spot=none∧g.tb t=some (a.block,n,c,sz))->(∀d∈xs,d.calm=true)->
   Rep w g (.slice false t xs) (.slice (some a) n c)
 |ptr (i:Id) (o b:Nat):g.dl i=some b->Rep w g (.ptr i o) (.pointer (some ⟨b,o,none⟩))
 |row (i:Id) (n c b:Nat):n<=c->g.dl i=some b->Rep w g (.row i n) (.slice (some ⟨b,0,none⟩) n c)
 |eptr (ds:List D) (a:Addr) (vv:Nat->Value):
   (∀j,j<ds.length->w.cell? (a.add j)=some (vv j))->
   (∀j,j<ds.length->(vv j).oneCell'=true)->
   (∀(j:Nat) d,ds[j]?=some d->Rep w g d (vv j))->
   (0<ds.length->a.off+ds.length<=g.G a.block)->(∀d∈ds,d.calm=true)->
   Rep w g (.eptr ds) (.pointer (some a))
 |nilp:Rep w g .nilptr (.pointer none)
 |agg (ds:List D) (vs:List Value):vs.length=ds.length->(∀v∈vs,v.oneCell'=true)->
   (∀(j:Nat) d v,ds[j]?=some d->vs[j]?=some v->Rep w g d v)->Rep w g (.agg ds) (.agg vs.toArray)
 |tup (ds:List D) (vs:List Value):vs.length=ds.length->
   (∀(j:Nat) d v,ds[j]?=some d->vs[j]?=some v->Rep w g d v)->Rep w g (.tup ds) (.tuple vs.toArray)
 |iface (t:TypeId) (d:D) (v:Value):d.calm=true->Rep w g d v->Rep w g (.iface t d) (.iface t v)
 |nili:Rep w g .nilIface .nilIface
 |fn (f:FuncId) (ds:List D) (vs:List Value):vs.length=ds.length->
   (∀(j:Nat) d v,ds[j]?=some d->vs[j]?=some v->Rep w g d v)->Rep w g (.fn f ds) (.func (.func f) #[] vs.toArray)
 |nilf:Rep w g .nilFunc .nilFunc
 |nilm:Rep w g .nilMap (.map none)
 |itp (i:Id) (b:Nat):g.tb i=some (b,0,0,0)->Rep w g (.itp i) (.pointer (some ⟨b,0,none⟩))
structure Ht (w:World) (g:Gh) (w':World) (g':Gh):Prop where
 cell:∀p:Addr,p.off<g.G p.block->w'.cell? p=w.cell? p
 G:∀b,g.G b<=g'.G b
 dl:∀i b,g.dl i=some b->g'.dl i=some b
 G0:g'.G0=g.G0
 tb:∀i x,g.tb i=some x->g'.tb i=some x
def Ht.refl(w:World)(g:Gh):Ht w g w g:=⟨λ_ _=>rfl,λ_=>Qk _,λ_ _ h=>h,rfl,λ_ _ h=>h⟩
theorem Ht.trans {w t e : World} {g q f : Gh} (h : Ht w g t q) (k : Ht t q e f) : Ht w g e f :=
 ⟨fun p c => (k.cell p (QN c (h.G _))).trans (h.cell p c), fun b => QO (h.G b) (k.G b),
  fun i b hi => k.dl i b (h.dl i b hi), k.G0.trans h.G0, fun i x hi => k.tb i x (h.tb i x hi)⟩
def Dy(a:Addr)(j:Nat):(a.add j).block=a.block:=by unfold Addr.add;split<;>rfl
def FL(a:Addr)(j:Nat):(a.add j).off=a.off+j:=by unfold Addr.add;split<;>simp_all
theorem add_add(a:Addr)(i j:Nat):(a.add i).add j=a.add (i+j):=by
 unfold Addr.add;by_cases hi:i=0<;>by_cases d:j=0<;>simp[hi,d,Nat.add_assoc]
def Rep.ext{w w':World}{g g':Gh}{d:D}{v:Value}(h:Rep w g d v)(x:Ht w g w' g'):Rep w' g' d v:=by
 induction h with
 |junk v=>exact .junk v
 |bool b=>exact .bool b
 |int k n=>exact .int k n
 |str s=>exact .str s
 |nils t=>exact .nils t
 |slice t xs a n c sz vv u y h3 h4 m _ h7 h8 h9 ih=>
  refine .slice t xs a n c sz vv u y h3 (λj e=>?_) m ih (λh=>QO (h7 h) (x.G _)) (λht=>?_) h9
  ·rw[x.cell _ YL];exact h4 j e
  ·obtain⟨p,q,r⟩:=h8 ht;exact⟨p,q,x.tb _ _ r⟩
 |ptr i o b u=>exact .ptr i o b (x.dl _ _ u)
 |row i n c b z u=>exact .row i n c b z (x.dl _ _ u)
 |eptr ds a vv u y _ h4 m ih=>
  refine .eptr ds a vv (λj e=>?_) y ih (λh=>QO (h4 h) (x.G _)) m;rw[x.cell _ YM];exact u j e
 |nilp=>exact .nilp
 |agg ds vs u y _ ih=>exact .agg ds vs u y ih
 |tup ds vs u _ ih=>exact .tup ds vs u ih
 |iface t d v u _ ih=>exact .iface t d v u ih
 |nili=>exact .nili
 |fn f ds vs u _ ih=>exact .fn f ds vs u ih
 |nilf=>exact .nilf
 |nilm=>exact .nilm
 |itp i b u=>exact .itp i b (x.tb _ _ u)
def Rep.leaf_one{w:World}{g:Gh}{d:D}{v:Value}(h:Rep w g d v)(hl:d.leaf=true):v.oneCell'=true:=by
 cases h<;>simp_all [D.leaf,Value.oneCell']
abbrev G6:=Id->Nat->Option D
def sR(B:Nat)(m:G6)(w:World)(g:Gh):Prop:=
 (∀i s p,m i 1=some (.it s p)->∃b,g.tb i=some (b,0,0,0)∧B<=b∧w.heap[b]?=some (.stringIter ⟨s.toArray⟩ p)∧g.G b=0∧∀v,g.dl v≠some b)∧
 ∀i v s p r a b x z,m i 1=some (.it s p)->m v 1=some (.it r a)->g.tb i=some (b,x)->g.tb v=some (b,z)->i=v
theorem sR.to {B : Nat} {m m' : G6} {w t : World} {g q : Gh} (h : sR B m w g) (a : ∀ i s p, m' i 1 = some (.it s p) → m i 1 = some (.it s p))
  (z : ∀ i b s p, m i 1 = some (.it s p) → g.tb i = some (b, 0, 0, 0) → B ≤ b → w.heap[b]? = some (.stringIter ⟨s.toArray⟩ p) → g.G b = 0 → (∀ v, g.dl v ≠ some b) →
   q.tb i = g.tb i ∧ t.heap[b]? = w.heap[b]? ∧ q.G b = 0 ∧ ∀ v, q.dl v ≠ some b) : sR B m' t q := by
 refine ⟨fun i s p hi => ?_, fun i v s p r p' b x x' u f j e => ?_⟩
 ·obtain ⟨b, n, o, t3, t4, t5⟩ := h.1 i s p (a _ _ _ hi)
  obtain ⟨k, d, q3, q4⟩ := z i b s p (a _ _ _ hi) n o t3 t4 t5
  exact ⟨b, k.trans n, o, d.trans t3, q3, q4⟩
 ·obtain ⟨c, n, o, t3, t4, t5⟩ := h.1 i s p (a _ _ _ u)
  obtain ⟨c', u1, y, u3, u4, u5⟩ := h.1 v r p' (a _ _ _ f)
  rw [(z i c s p (a _ _ _ u) n o t3 t4 t5).1] at j
  rw [(z v c' r p' (a _ _ _ f) u1 y u3 u4 u5).1] at e
  exact h.2 i v s p r p' b x x' (a _ _ _ u) (a _ _ _ f) j e
structure He (P:Program) (B:Nat) (w0:World) (m:G6) (w:World) (g:Gh):Prop where
 below:Below B w0 w
 size:B<=w.heap.size
 gz:∀b,w.heap.size<=b->g.G b=0
 old:∀b,b<B->g.G b=g.G0 b
 obj:∀i b,g.dl i=some b->B<=b∧g.G b=0∧∃vs T,w.heap[b]?=some (.cells vs T (0,0))∧
  ∀o d,m i o=some d->∃v,vs[o]?=some v∧v.oneCell'=true∧Rep w g d v
 inj:∀i i' b,g.dl i=some b->g.dl i'=some b->i=i'
 kind:∀i o d,m i o=some d->g.dl i=none->d.gh=true
 tok:∀i e,m i 0=some (.tok (e+1))->∃b n c sz cur,g.tb i=some (b,n,c,sz)∧B<=b∧0<sz∧
  (∃t z,P.info? e=some t∧t.size=sz∧t.zero=some z∧z.cells.size=sz)∧
  w.heap[b]?=some (.cells cur e (0,0))∧n<=c∧c<=maxLen∧cur.size=c*sz∧g.G b=n*sz∧∀i',g.dl i'≠some b
 tinj:∀i i' e e' b x x',m i 0=some (.tok (e+1))->m i' 0=some (.tok (e'+1))->g.tb i=some (b,x)->g.tb i'=some (b,x')->i=i'
 itr:sR B m w g
def B1(m:G6)(g:Gh)(i:Id):Prop:=(∀o,m i o=none)∧g.dl i=none∧g.tb i=none
def G6.put(m:G6)(i:Id)(o:Nat)(ds:List D):G6:=λv o'=>if v=i∧o<=o'∧o'<o+ds.length then ds[o'-o]? else m v o'
theorem aA{m:G6}{i v:Id}{o o':Nat}{ds:List D}(h:v≠i):m.put i o ds v o'=m v o':=by simp[G6.put,h]
def aE{m:G6}{i:Id}{o j:Nat}{ds:List D}(h:j<ds.length):m.put i o ds i (o+j)=ds[j]?:=by
 grind [G6.put]
theorem aC{m:G6}{i:Id}{o o':Nat}{ds:List D}(h:¬(o<=o'∧o'<o+ds.length)):m.put i o ds i o'=m i o':=by
 grind [G6.put]
def AZ(w:World)(g:Gh)(ds:List D)(vs:List Value):Prop:=
 vs.length=ds.length∧(∀v∈vs,v.oneCell'=true)∧∀(j:Nat) d v,ds[j]?=some d->vs[j]?=some v->Rep w g d v
def AZ.ext{w t:World}{g q:Gh}{ds:List D}{vs:List Value}(h:AZ w g ds vs)(x:Ht w g t q):AZ t q ds vs:=
 ⟨h.1,h.2.1,λj d v p y=>(h.2.2 j d v p y).ext x⟩
def AZ.no_it{w:World}{g:Gh}{ds:List D}{vs:List Value}(h:AZ w g ds vs){j:Nat}{s:List UInt8}{p:Nat}(d:ds[j]?=some (.it s p)):False:=by
 have hl:j<vs.length:=by rw[h.1];exact(Qe.1 d).1
 have:=h.2.2 j _ vs[j] d (Qc hl);cases this
def aA6{w:World}{g:Gh}{m:G6}{ds:List D}{vs:List Value}(h:AZ w g ds vs){i v:Id}{o:Nat}{s:List UInt8}{p:Nat}(d:m.put i o ds v 1=some (.it s p)):m v 1=some (.it s p)∧(v=i->¬(o<=1∧1<o+ds.length)):=by
 unfold G6.put at d;split at d
 ·exact(h.no_it d).elim
 ·simp_all
theorem AZ.nil(w:World)(g:Gh):AZ w g [] []:=⟨rfl,U,U⟩
def AZ.one{w:World}{g:Gh}{d:D}{v:Value}(h:Rep w g d v)(hl:v.oneCell'=true):AZ w g [d] [v]:=by
 refine⟨rfl,Xk,λj b s p y=>?_⟩;cases j with
 |zero=>simp at p y;subst p y;exact h
 |succ j=>simp at p
def AZ.append{w:World}{g:Gh}{ds c:List D}{vs n:List Value}(h:AZ w g ds vs)(k:AZ w g c n):AZ w g (ds++c) (vs++n):=by
 refine⟨by simp[h.1,k.1],λv hv=>?_,λj d v p hv=>?_⟩
 ·rcases Qg.1 hv with hv|hv
  ·exact h.2.1 v hv
  ·exact k.2.1 v hv
 ·by_cases e:j<ds.length
  ·rw[Qm e]at p;rw[Qm (by rw[h.1];exact e)]at hv;exact h.2.2 j d v p hv
  ·rw[QF O]at p;rw[QF (by rw[h.1];omega),h.1]at hv;exact k.2.2 _ d v p hv
section
variable{P:Program}{B:Nat}{w0 w w':World}{m:G6}{g g':Gh}
def He.lt(h:He P B w0 m w g){i:Id}{b:Nat}(z:g.dl i=some b):b<w.heap.size:=by
 obtain⟨_,_,vs,T,f,_⟩:=h.obj i b z;exact(Qf.1 f).1
def Gh.over(g:Gh)(w t:World):Gh:=
 {g with G:=λb=>if b<w.heap.size then g.G b else match t.heap[b]? with|some (.cells c _ _)=>c.size|_=>0}
def Ht.over(v:∀b,w.heap.size<=b->g.G b=0)(m:Below w.heap.size w w'):Ht w g w' (g.over w w'):=by
 refine⟨λp c=>?_,λb=>?_,λi b h=>h,rfl,λi x h=>h⟩
 ·by_cases u:p.block<w.heap.size
  ·exact m.cell u
  ·simp_all
 ·grind [Gh.over]
def He.over(h:He P B w0 m w g)(z:Below w.heap.size w w'):He P B w0 m w' (g.over w w'):=by
 have x:=Ht.over h.gz z;refine⟨h.below.trans (z.mono h.size),QO h.size z.size,λb a=>?_,λb u=>by simp only[Gh.over];rw[if_pos (QN u h.size)];exact h.old b u,λi b hi=>?_,h.inj,h.kind,λi e hi=>?_,h.tinj,h.itr.to (λ_ _ _ e=>e) λi b s p _ _ _ e1 y k=>?_⟩
 rotate_right
 ·have u:b<w.heap.size:=(Qf.1 e1).1;exact⟨rfl,z.block b u,by simp[Gh.over,u,y],k⟩
 ·simp only[Gh.over];rw[if_neg (by have:=z.size;omega),Array.getElem?_eq_none a]
 ·obtain⟨p,q,vs,T,f,r⟩:=h.obj i b hi;have u:=h.lt hi;refine⟨p,by simp[Gh.over,u,q],vs,T,(z.block b u).trans f,λo d j=>?_⟩;obtain⟨v,t,r2,r3⟩:=r o d j;exact⟨v,t,r2,r3.ext x⟩
 ·obtain⟨b,n,c,sz,cur,t1,t2,t3,t4,t5,t6,t7,t8,t9,xa⟩:=h.tok i e hi;have u:b<w.heap.size:=(Qf.1 t5).1;exact⟨b,n,c,sz,cur,t1,t2,t3,t4,(z.block b u).trans t5,t6,t7,t8,by simp[Gh.over,u,t9],xa⟩
def He.drew(h:He P B w0 m w g):He P B w0 m w.drew g:=by
 have x:Ht w g w.drew g:=⟨λ_ _=>rfl,λ_=>Qk _,λ_ _ h=>h,rfl,λ_ _ h=>h⟩;refine⟨h.below.drew,h.size,h.gz,h.old,λi b hi=>?_,h.inj,h.kind,λi e hi=>?_,h.tinj,h.itr.to (λ_ _ _ e=>e) λi b s p _ _ _ n y c=>⟨rfl,rfl,y,c⟩⟩
 ·obtain⟨p,q,vs,T,f,r⟩:=h.obj i b hi;exact⟨p,q,vs,T,f,λo d j=>let⟨v,r1,r2,r3⟩:=r o d j;⟨v,r1,r2,r3.ext x⟩⟩
 ·exact h.tok i e hi
def Ht.drew(w:World)(g:Gh):Ht w g w.drew g:=⟨λ_ _=>rfl,λ_=>Qk _,λ_ _ h=>h,rfl,λ_ _ h=>h⟩
def Gh.obj(g:Gh)(i:Id)(b:Nat):Gh:={g with dl:=λv=>if v=i then some b else g.dl v}
def Ht.newObj{i:Id}(o:Obj)(v:∀b,w.heap.size<=b->g.G b=0)(d:g.dl i=none):Ht w g (w.alloc o) (g.obj i w.heap.size):=by
 refine⟨λp c=>?_,λb=>Qk _,λz b h=>?_,rfl,λi x h=>h⟩
 ·by_cases u:p.block<w.heap.size
  ·exact World.cell?_alloc_lt w o p u
  ·simp_all
 ·grind [Gh.obj]
def He.newObj(h:He P B w0 m w g){i:Id}(hf:B1 m g i){ds:List D}{vs:List Value}(T:TypeId)(j:AZ w g ds vs):
  He P B w0 (m.put i 0 ds) (w.alloc (.cells vs.toArray T)) (g.obj i w.heap.size):=by
 have x:=Ht.newObj (i:=i) (Obj.cells vs.toArray T) h.gz hf.2.1;have ne:∀i' b,g.dl i'=some b->i'≠i:=λi' b hb e=>by subst e;rw[hf.2.1]at hb;cases hb
 refine⟨h.below.alloc h.size _,Yv,λb hb=>h.gz b (by simp at hb;omega),h.old,λi' b hi=>?_,λi1 i2 b u f=>?_,λi' o d a t=>?_,λi' e hi=>?_,λi1 i2 e e' b y y' u f h3 h4=>?_,h.itr.to (λi' s p e=>(aA6 j e).1) λi' b s p _ _ _ e1 e2 e3=>?_⟩
 rotate_right
 ·have k:b<w.heap.size:=(Qf.1 e1).1;refine⟨rfl,Below.heap_alloc w _ b k,e2,λi1 u=>?_⟩;simp only[Gh.obj]at u;split at u
  ·simp_all
  ·exact e3 i1 u
 ·simp only[Gh.obj]at hi;split at hi
  ·rename_i e;subst e;simp only[Qa]at hi;subst hi;refine⟨h.size,h.gz _ (Qk _),vs.toArray,T,heap_alloc_new w _,λo d a=>?_⟩;by_cases ho:o<ds.length
   ·have z:m.put i' 0 ds i' (0+o)=ds[o]?:=aE ho;rw[Qu]at z;rw[z]at a;have hv:o<vs.length:=by rw[j.1];exact ho
    refine⟨vs[o],by simp[hv],j.2.1 _ (Q1 hv),?_⟩;exact(j.2.2 o d vs[o] a (Qc hv)).ext x
   ·rw[aC O,hf.1 o]at a;cases a
  ·rename_i ga;obtain⟨p,q,bb,T',hh,r⟩:=h.obj i' b hi;refine⟨p,q,bb,T',(Below.heap_alloc w _ b (h.lt hi)).trans hh,λo d a=>?_⟩;rw[aA ga]at a;obtain⟨v,r1,r2,r3⟩:=r o d a;exact⟨v,r1,r2,r3.ext x⟩
 ·simp only[Gh.obj]at u f;split at u<;>split at f
  ·simp_all
  ·simp only[Qa]at u;subst u;have:=h.lt f;omega
  ·simp only[Qa]at f;subst f;have:=h.lt u;omega
  ·exact h.inj _ _ _ u f
 ·simp only[Gh.obj]at t;split at t
  ·cases t
  ·rename_i ga;rw[aA ga]at a;exact h.kind _ _ _ a t
 ·by_cases ga:i'=i
  ·subst ga;by_cases ho:0<ds.length
   ·have z:m.put i' 0 ds i' (0+0)=ds[0]?:=aE ho;rw[Zj]at z;rw[z]at hi;have hv:0<vs.length:=by rw[j.1];exact ho
    have:=j.2.2 0 _ vs[0] hi (Qc hv);cases this
   ·rw[aC O,hf.1 0]at hi;cases hi
  ·rw[aA ga]at hi;obtain⟨b,n,c,sz,cur,t1,t2,t3,t4,t5,t6,t7,t8,t9,xa⟩:=h.tok i' e hi;have k:b<w.heap.size:=(Qf.1 t5).1;refine⟨b,n,c,sz,cur,t1,t2,t3,t4,(Below.heap_alloc w _ b k).trans t5,t6,t7,t8,t9,λi1 u=>?_⟩;simp only[Gh.obj]at u;split at u
   ·simp_all
   ·exact xa i1 u
 ·have nt:∀e,m.put i 0 ds i 0≠some (.tok (e+1)):=by
   intro e hi;by_cases ho:0<ds.length
   ·have z:m.put i 0 ds i (0+0)=ds[0]?:=aE ho;rw[Zj]at z;rw[z]at hi;have hv:0<vs.length:=by rw[j.1];exact ho
    have:=j.2.2 0 _ vs[0] hi (Qc hv);cases this
   ·rw[aC O,hf.1 0]at hi;cases hi
  have n1:i1≠i:=λe=>by subst e;exact nt _ u
  have n2:i2≠i:=λe=>by subst e;exact nt _ f
  rw[aA n1]at u;rw[aA n2]at f;exact h.tinj _ _ _ _ _ _ _ u f h3 h4
def Rep.newObj(w:World)(g:Gh)(i:Id)(b:Nat):Rep w (g.obj i b) (.ptr i 0) (.pointer (some ⟨b,0,none⟩)):=
 .ptr i 0 b (by simp[Gh.obj])
theorem DM(w:World)(b:Nat)(cs:Array Value)(p:Addr)(h:p.block≠b):(w.setRow b cs).cell? p=w.cell? p:=by
 simp only[World.cell?];rw[setRow_other w b p.block cs h]
def Ht.setRow{b:Nat}{cs:Array Value}(k:g.G b=0):Ht w g (w.setRow b cs) g:=by
 refine⟨λp c=>DM w b cs p (λe=>?_),λ_=>Qk _,λ_ _ h=>h,rfl,λ_ _ h=>h⟩;subst e;omega
def He.store(h:He P B w0 m w g){i:Id}{b o:Nat}(t:g.dl i=some b){vs:Array Value}{T:TypeId}(hh:w.heap[b]?=some (.cells vs T (0,0)))
  {ds:List D} {us:List Value} (hr:AZ w g ds us) (ho:o+ds.length<=vs.size):
  He P B w0 (m.put i o ds) (w.setRow b (vs.toList.take o++us++vs.toList.drop (o+us.length)).toArray) g:=by
 obtain⟨hB,hG,bb,T',ma,ta⟩:=h.obj i b t;rw[hh]at ma;simp only[Qa,Obj.cells.injEq]at ma;obtain⟨rfl,rfl,_⟩:=ma;have x:Ht w g (w.setRow b (vs.toList.take o++us++vs.toList.drop (o+us.length)).toArray) g:=Ht.setRow hG;have ja:(w.setRow b (vs.toList.take o++us++vs.toList.drop (o+us.length)).toArray).heap.size=w.heap.size:=by simp[World.setRow]
 have ca:∀k,k≠b->(w.setRow b (vs.toList.take o++us++vs.toList.drop (o+us.length)).toArray).heap[k]?=w.heap[k]?:=λk hk=>setRow_other w b k _ hk
 refine⟨⟨h.below.os,h.below.tape,h.below.output,Ym,λk hk=>(ca k O).trans (h.below.block k hk)⟩,Yl,by rw[ja];exact h.gz,h.old,λi' b' hi=>?_,h.inj,λi' o' d hm hn=>?_,λi' e hi=>?_,λi1 i2 e e' b' y y' u h2 h3 h4=>?_,h.itr.to (λi' s p e=>(aA6 hr e).1) λi' b' s p _ _ _ e1 e2 e3=>⟨rfl,ca b' (λe=>e3 i (by rw[e];exact t)),e2,e3⟩⟩
 ·by_cases a:i'=i
  ·subst a;rw[t]at hi;simp only[Qa]at hi;subst hi;refine⟨hB,hG,_,T,setRow_heap w b vs _ T _ hh,λo' d hm=>?_⟩;have ba:us.length=ds.length:=hr.1;by_cases ka:o<=o'∧o'<o+ds.length
   ·have z:m.put i' o ds i' (o+(o'-o))=ds[o'-o]?:=aE O;rw[show o+(o'-o)=o' by omega]at z;rw[z]at hm;have hv:o'-o<us.length:=by omega
    refine⟨us[o'-o],?_,hr.2.1 _ (Q1 hv),(hr.2.2 _ d _ hm (Qc hv)).ext x⟩;have ht:(vs.toList.take o).length=o:=by rw[QT];simp;omega
    simp only[QI,QK];rw[QF O,ht,Qm hv];exact Qc hv
   ·rw[aC ka]at hm;obtain⟨v,r1,r2,r3⟩:=ta o' d hm;refine⟨v,?_,r2,r3.ext x⟩;have ht:(vs.toList.take o).length=o:=by rw[QT];simp;omega
    simp only[QI,QK];by_cases ra:o'<o
    ·grind
    ·grind
  ·obtain⟨p,q,j,T1,f,r⟩:=h.obj i' b' hi;have ga:b'≠b:=λe=>a (h.inj i' i b' hi (by rw[e];exact t))
   refine⟨p,q,j,T1,(ca b' ga).trans f,λo' d hm=>?_⟩;rw[aA a]at hm;obtain⟨v,r1,r2,r3⟩:=r o' d hm;exact⟨v,r1,r2,r3.ext x⟩
 ·have:i'≠i:=λe=>by subst e;rw[t]at hn;cases hn
  rw[aA this]at hm;exact h.kind _ _ _ hm hn
 ·have ga:i'≠i:=by
   rintro rfl;by_cases ka:o<=0∧0<o+ds.length
   ·have z:m.put i' o ds i' (o+(0-o))=ds[0-o]?:=aE O;rw[show o+(0-o)=0 by omega]at z;rw[z]at hi;have hv:0-o<us.length:=by have:=hr.1;omega
    have:=hr.2.2 _ _ _ hi (Qc hv);cases this
   ·rw[aC ka]at hi;obtain⟨v,r1,r2,r3⟩:=ta 0 _ hi;cases r3
  rw[aA ga]at hi;obtain⟨b1,n,c,sz,cur,t1,t2,t3,t4,t5,t6,t7,t8,t9,xa⟩:=h.tok i' e hi;exact⟨b1,n,c,sz,cur,t1,t2,t3,t4,(ca b1 (λe=>xa i (by rw[e];exact t))).trans t5,t6,t7,t8,t9,xa⟩
 ·have nt:∀e,m.put i o ds i 0≠some (.tok (e+1)):=by
   intro e hi;by_cases ka:o<=0∧0<o+ds.length
   ·have z:m.put i o ds i (o+(0-o))=ds[0-o]?:=aE O;rw[show o+(0-o)=0 by omega]at z;rw[z]at hi;have hv:0-o<us.length:=by have:=hr.1;omega
    have:=hr.2.2 _ _ _ hi (Qc hv);cases this
   ·rw[aC ka]at hi;obtain⟨v,r1,r2,r3⟩:=ta 0 _ hi;cases r3
  have n1:i1≠i:=λe=>by subst e;exact nt _ u
  have n2:i2≠i:=λe=>by subst e;exact nt _ h2
  rw[aA n1]at u;rw[aA n2]at h2;exact h.tinj _ _ _ _ _ _ _ u h2 h3 h4
end
def Gh.tok(g:Gh)(t:Id)(b n c sz:Nat):Gh:=
 {g with G:=λp=>if p=b then n*sz else g.G p,tb:=λi=>if i=t then some (b,n,c,sz)else g.tb i}
section
variable{P:Program}{B:Nat}{w0 w w':World}{m:G6}{g g':Gh}
def He.kill(h:He P B w0 m w g){t:Id}(z:g.dl t=none):He P B w0 (m.put t 0 [.tok 0]) w g:=by
 have c:∀i o,m.put t 0 [.tok 0] i o=if i=t∧o=0 then some (.tok 0)else m i o:=by
  grind [G6.put]
 refine⟨h.below,h.size,h.gz,h.old,λi b hi=>?_,h.inj,λi o d j a=>?_,λi e hi=>?_,λi1 i2 e e' b y y' u f x h4=>?_,h.itr.to (λi s p e=>by rw[c,if_neg U]at e;exact e) λi b s p _ _ _ n v k=>⟨rfl,rfl,v,k⟩⟩
 ·obtain⟨p,q,vs,T,hh,r⟩:=h.obj i b hi;refine⟨p,q,vs,T,hh,λo d j=>?_⟩;rw[c,if_neg (by rintro⟨rfl,_⟩;rw[z]at hi;cases hi)]at j;exact r o d j
 ·rw[c]at j;split at j
  ·rw[←QJ j];rfl
  ·exact h.kind _ _ _ j a
 ·rw[c]at hi;split at hi
  ·simp at hi
  ·exact h.tok i e hi
 ·rw[c]at u f;split at u
  ·simp at u
  ·split at f
   ·simp at f
   ·exact h.tinj _ _ _ _ _ _ _ u f x h4
def B1.kill{t z:Id}(h:B1 m g t)(q:t≠z):B1 (m.put z 0 [.tok 0]) g t:=
 ⟨λo=>by rw[aA q];exact h.1 o,h.2⟩
theorem BC(m:G6)(t:Id)(x:Nat)(i:Id)(o:Nat):m.put t 0 [.tok x] i o=if i=t∧o=0 then some (.tok x)else m i o:=by
 grind [G6.put]
def Ht.newTok{t:Id}{b n c sz:Nat}(o:Obj)(v:∀b,w.heap.size<=b->g.G b=0)(d:g.tb t=none)(m:b=w.heap.size):Ht w g (w.alloc o) (g.tok t b n c sz):=by
 refine⟨λp k=>?_,λr=>?_,λz b h=>h,rfl,λi x h=>?_⟩
 ·by_cases u:p.block<w.heap.size
  ·exact World.cell?_alloc_lt w o p u
  ·simp_all
 ·grind [Gh.tok]
 ·simp only[Gh.tok];split
  ·rename_i e;subst e;rw[d]at h;cases h
  ·exact h
def He.newTok(h:He P B w0 m w g){t:Id}(hf:B1 m g t){e n c sz:Nat}{cur:Array Value}(ja:0<sz)
  (hi:∃ti z,P.info? e=some ti∧ti.size=sz∧ti.zero=some z∧z.cells.size=sz) (za:n<=c) (hc:c<=maxLen) (a:cur.size=c*sz):
  He P B w0 (m.put t 0 [.tok (e+1)]) (w.alloc (.cells cur e)) (g.tok t w.heap.size n c sz):=by
 have x:=Ht.newTok (t:=t) (n:=n) (c:=c) (sz:=sz) (Obj.cells cur e) h.gz hf.2.2 rfl;refine⟨h.below.alloc h.size _,Yv,λb hb=>?_,λb k=>by simp only[Gh.tok];rw[if_neg (by have:=h.size;omega)];exact h.old b k,λi b j=>?_,h.inj,λi o d hm hn=>?_,λi e' j=>?_,λi1 i2 e1 e2 b y y' u f h3 h4=>?_,h.itr.to (λi s p e=>by rw[BC,if_neg U]at e;exact e) λi b s p e0 _ _ e1 e2 e3=>?_⟩
 rotate_right
 ·have k:b<w.heap.size:=(Qf.1 e1).1;have ba:i≠t:=by rintro rfl;rw[hf.1 1]at e0;cases e0
  exact⟨by simp[Gh.tok,ba],Below.heap_alloc w _ b k,by simp only[Gh.tok];rw[if_neg O];exact e2,e3⟩
 ·simp only[Gh.tok];simp at hb;rw[if_neg O];exact h.gz b O
 ·obtain⟨p,q,vs,T,hh,r⟩:=h.obj i b j;have k:=h.lt j;refine⟨p,by simp only[Gh.tok];rw[if_neg O];exact q,vs,T,(Below.heap_alloc w _ b k).trans hh,λo d hm=>?_⟩;rw[BC,if_neg (by rintro⟨rfl,_⟩;simp only[Gh.tok]at j;rw[hf.2.1]at j;cases j)]at hm;obtain⟨v,r1,r2,r3⟩:=r o d hm;exact⟨v,r1,r2,r3.ext x⟩
 ·rw[BC]at hm;split at hm
  ·rw[←QJ hm];rfl
  ·exact h.kind _ _ _ hm hn
 ·rw[BC]at j;split at j
  ·rename_i la;obtain⟨rfl,_⟩:=la;simp only[Qa,D.tok.injEq,Ze]at j;subst j;refine⟨w.heap.size,n,c,sz,cur,Xm,h.size,ja,hi,heap_alloc_new w _,za,hc,a,Xm,λi' h'=>?_⟩;have:=h.lt h';omega
  ·rename_i ga;obtain⟨b,n',c',pa,na,t1,t2,t3,t4,t5,t6,t7,t8,t9,xa⟩:=h.tok i e' j;have k:b<w.heap.size:=(Qf.1 t5).1;have ba:i≠t:=by
    simp_all
   exact⟨b,n',c',pa,na,by simp[Gh.tok,ba,t1],t2,t3,t4,(Below.heap_alloc w _ b k).trans t5,t6,t7,t8,by simp only[Gh.tok];rw[if_neg O];exact t9,xa⟩
 ·have fa:∀i e,m i 0=some (.tok (e+1))->∀b y,(g.tok t w.heap.size n c sz).tb i=some (b,y)->i≠t∧g.tb i=some (b,y)∧b<w.heap.size:=by
   intro i e hm b y hb;have ba:i≠t:=YO
   simp only[Gh.tok,if_neg ba]at hb;obtain⟨b',n',c',pa,na,t1,t2,t3,t4,t5,_⟩:=h.tok i e hm;rw[t1]at hb;simp only[Qa,Qd]at hb;obtain⟨rfl,rfl⟩:=hb;exact⟨ba,t1,(Qf.1 t5).1⟩
  rw[BC]at u f;split at u<;>split at f
  ·simp_all
  ·grind [Gh.tok]
  ·grind [Gh.tok]
  ·obtain⟨_,k3,_⟩:=fa _ _ u _ _ h3;obtain⟨_,k4,_⟩:=fa _ _ f _ _ h4;exact h.tinj _ _ _ _ _ _ _ u f k3 k4
def Ht.inPlace{t:Id}{b n s c sz:Nat}{cur na:Array Value}{T:TypeId}{fr:Nat×Nat}(d:g.tb t=none)(v:g.G b=n*sz)(o:n<=s)
  (m:w.heap[b]?=some (.cells cur T fr)) (l:∀j,j<n*sz->na[j]?=cur[j]?):Ht w g (w.setRow b na) (g.tok t b s c sz):=by
 refine⟨λp k=>?_,λr=>?_,λz b h=>h,rfl,λi x h=>?_⟩
 ·by_cases a:p.block=b
  ·have u:(w.setRow b na).heap[p.block]?=some (.cells na T fr):=by rw[a];exact setRow_heap w b cur na T fr m
   have f:w.heap[p.block]?=some (.cells cur T fr):=by rw[a];exact m
   simp only[World.cell?,u,f];split
   ·rfl
   ·simp_all
  ·grind [DM]
 ·simp only[Gh.tok];split
  ·rename_i e;subst e;rw[v];exact QA _ o
  ·exact Qk _
 ·grind [Gh.tok]
def He.inPlace(h:He P B w0 m w g){t0 t:Id}(hf:B1 m g t){e b n n' c sz:Nat}{cur na:Array Value}(h0:m t0 0=some (.tok (e+1)))
  (u:g.tb t0=some (b,n,c,sz)) (hn:n<=n') (hc:n'<=c) (hh:w.heap[b]?=some (.cells cur e (0,0))) (hs:na.size=cur.size)
  (l:∀j,j<n*sz->na[j]?=cur[j]?):
  He P B w0 ((m.put t0 0 [.tok 0]).put t 0 [.tok (e+1)]) (w.setRow b na) (g.tok t b n' c sz):=by
 obtain⟨b0,n0,c0,pa,oa,u1,u2,u3,u4,u5,u6,u7,u8,u9,z⟩:=h.tok t0 e h0;rw[u]at u1;simp only[Qa,Qd]at u1;obtain⟨rfl,rfl,rfl,rfl⟩:=u1;rw[hh]at u5;simp only[Qa,Obj.cells.injEq,and_true]at u5;subst u5;have x:Ht w g (w.setRow b na) (g.tok t b n' c sz):=Ht.inPlace hf.2.2 u9 hn hh l;have ja:(w.setRow b na).heap.size=w.heap.size:=by simp[World.setRow]
 have a:b<w.heap.size:=(Qf.1 hh).1;have ca:∀k,k≠b->(w.setRow b na).heap[k]?=w.heap[k]?:=λk hk=>setRow_other w b k na hk
 have qa:t≠t0:=by rintro rfl;rw[hf.1 0]at h0;cases h0
 have aa:∀i o,((m.put t0 0 [.tok 0]).put t 0 [.tok (e+1)]) i o=if i=t∧o=0 then some (.tok (e+1))else if i=t0∧o=0 then some (.tok 0)else m i o:=by
  grind [BC]
 have ka:g.dl t0=none:=by
  cases hd:g.dl t0 with
  |none=>rfl
  |some b'=>
   obtain⟨_,_,vs,T,_,r⟩:=h.obj t0 b' hd;obtain⟨v,_,_,r3⟩:=r 0 _ h0;cases r3
 refine⟨⟨h.below.os,h.below.tape,h.below.output,Ym,λk hk=>(ca k O).trans (h.below.block k hk)⟩,Yl,λb' va=>?_,λb' ea=>by simp only[Gh.tok];rw[if_neg O];exact h.old b' ea,λi b' hi=>?_,h.inj,λi o d hm hd=>?_,λi e' hi=>?_,λi1 i2 e1 e2 b' y y' h1 h2 h3 h4=>?_,h.itr.to (λi s p e=>by rw[aa,if_neg U,if_neg U]at e;exact e) λi b' s p e0 _ _ e1 e2 e3=>?_⟩
 rotate_right
 ·have ga:b'≠b:=by rintro rfl;rw[hh]at e1;cases e1
  have ba:i≠t:=by rintro rfl;rw[hf.1 1]at e0;cases e0
  exact⟨by simp[Gh.tok,ba],ca b' ga,by simp only[Gh.tok];rw[if_neg ga];exact e2,e3⟩
 ·rw[ja]at va;simp only[Gh.tok];rw[if_neg O];exact h.gz b' va
 ·obtain⟨p,q,vs,T,ma,r⟩:=h.obj i b' hi;have ga:b'≠b:=λe=>z i (by rw[←e];exact hi)
  refine⟨p,by simp[Gh.tok,ga,q],vs,T,(ca b' ga).trans ma,λo d hm=>?_⟩;rw[aa,if_neg (by rintro⟨rfl,_⟩;have h':=hf.2.1;simp only[Gh.tok]at hi;rw[h']at hi;cases hi),if_neg (by rintro⟨rfl,_⟩;simp only[Gh.tok]at hi;rw[ka]at hi;cases hi)]at hm;obtain⟨v,r1,r2,r3⟩:=r o d hm;exact⟨v,r1,r2,r3.ext x⟩
 ·rw[aa]at hm;split at hm
  ·rw[←QJ hm];rfl
  ·split at hm
   ·rw[←QJ hm];rfl
   ·exact h.kind _ _ _ hm hd
 ·rw[aa]at hi;split at hi
  ·rename_i la;obtain⟨rfl,_⟩:=la;simp only[Qa,D.tok.injEq,Ze]at hi;subst hi;exact⟨b,n',c,sz,na,Xm,u2,u3,u4,setRow_heap w b cur na e _ hh,hc,u7,by rw[hs];exact u8,Xm,z⟩
  ·split at hi
   ·simp at hi
   ·rename_i n1 n2;obtain⟨b1,f,c1,ha,da,t1,t2,t3,t4,t5,t6,t7,t8,t9,xa⟩:=h.tok i e' hi;have ba:i≠t:=by rintro rfl;rw[hf.1 0]at hi;cases hi
    have ia:b1≠b:=by
     rintro rfl;have:=h.tinj i t0 e' e b1 _ _ hi h0 t1 u;subst this;simp at n2
    exact⟨b1,f,c1,ha,da,by simp[Gh.tok,ba,t1],t2,t3,t4,(ca b1 ia).trans t5,t6,t7,t8,by simp[Gh.tok,ia,t9],xa⟩
 ·have fa:∀i e',m i 0=some (.tok (e'+1))->i≠t0->∀b' y,(g.tok t b n' c sz).tb i=some (b',y)->i≠t∧g.tb i=some (b',y)∧b'≠b:=by
   intro i e' hm ua b' y hb;have ba:i≠t:=YO
   simp only[Gh.tok,if_neg ba]at hb;refine⟨ba,hb,?_⟩;rintro rfl;exact ua (h.tinj i t0 e' e b' _ _ hm h0 hb u)
  rw[aa]at h1 h2;split at h1
  ·grind [Gh.tok]
  ·split at h1
   ·simp at h1
   ·rename_i p q;split at h2
    ·grind [Gh.tok]
    ·split at h2
     ·simp at h2
     ·rename_i r s;obtain⟨_,k3,_⟩:=fa _ _ h1 (λe=>q ⟨e,rfl⟩) _ _ h3;obtain⟨_,k4,_⟩:=fa _ _ h2 (λe=>s ⟨e,rfl⟩) _ _ h4;exact h.tinj _ _ _ _ _ _ _ h1 h2 k3 k4
end
end Go.Vd
namespace Go.Vd
inductive G9 where
 |t (n:Nat)
 |c (d:D)
def G9.ev(s:Nat->D):G9->D
 | .t n=>s n
 | .c d=>d
abbrev Ha:=List (Id×Nat×List D)
def Ha.app(m:G6):Ha->G6
 |[]=>m
 |(i,o,ds)::u=>Ha.app (m.put i o ds) u
structure HF where
 rd:List D->G6->List (Id×Nat)
 ex:List D->G6->Id->Option (D×Ha)
abbrev GZ:=FuncId->Option HF
inductive DOp where
 |mv (x:G9)
 |pick (c a b:G9)
 |alloc (zs:List D)
 |box (x:G9)
 |build (zs:List D) (parts:List (Nat×Nat×G9))
 |bslice (e sz:Nat) (parts:List G9)
 |load (k:Option Nat) (x:G9)
 |store (n:Nat) (x v:G9)
 |nilchk (x:G9)
 |bin (op:BinOp) (x y:G9)
 |beq (ne:Bool) (x y:G9)
 |seq (ne:Bool) (offs:List (Nat×Nat)) (x y:G9)
 |nileq (ne:Bool) (k:Nat) (x y:G9)
 |un (op:UnOp) (x:G9)
 |conv (k:IntKind) (x:G9)
 |s2s (x:G9)
 |s2b (x:G9)
 |b2s (x:G9)
 |faddr (off:Nat) (x:G9)
 |field (k:Option Nat) (off:Nat) (x:G9)
 |iaddr (sz:Nat) (x i:G9)
 |idxs (x i:G9)
 |idxa (len:Nat) (x i:G9)
 |idxm (len sz:Nat) (x i:G9)
 |mxm (mx:Bool) (x y:G9)
 |iadda (len sz:Nat) (x i:G9)
 |cuts (x:G9) (lo hi:Option G9)
 |cutl (sz:Nat) (x:G9) (lo hi:Option G9)
 |mkif (t:TypeId) (x:G9)
 |tass (t:TypeId) (ok:Bool) (z:D) (x:G9)
 |ext (i:Nat) (x:G9)
 |mkfn (f:FuncId) (caps:List G9)
 |len (isStr:Bool) (x:G9)
 |app (e sz bytes:Nat) (x y:G9)
 |mksl (e sz bytes:Nat) (z:D) (n c:G9)
 |range (x:G9)
 |next (x:G9)
 |call (f:G9) (xs:List G9)
 |stop
def D.data:D->Bool
 | .junk| .tok _| .tup _| .it _ _=>false
 |_=>true
def Ag(m:G6)(i:Id):Nat->Nat->Option (List D)
 |_,0=>some []
 |o,n+1=>match m i o with
  |some d=>(Ag m i (o+1) n).map (d::·)
  |none=>none
def Fz(cs:List D)(off:Nat)(ds:List D):List D:=cs.take off++ds++cs.drop (off+ds.length)
def Cn:List D->List (Nat×Nat×D)->Option (List D)
 |cs,[]=>some cs
 |cs,(off,sz,d)::r=>if d.data=true∧d.cells.length=sz∧off+sz<=cs.length then Cn (Fz cs off d.cells) r else none
def AP(op:BinOp)(x y:D):Option D:=
 match x,y with
 | .int k a,.int k' b=>
  match op with
  | .shl=>if 0<=b then some (.int k (k.wrap (a*2 ^ min b.toNat k.bits)))else none
  | .shr=>if 0<=b then some (.int k (a.fdiv (2 ^ min b.toNat k.bits)))else none
  |op=>if k≠k' then none else match op with
   | .add=>some (.int k (k.wrap (a+b)))
   | .sub=>some (.int k (k.wrap (a-b)))
   | .mul=>some (.int k (k.wrap (a*b)))
   | .quo=>if b=0 then none else some (.int k (k.wrap (a.tdiv b)))
   | .rem=>if b=0 then none else some (.int k (a.tmod b))
   | .and=>some (.int k (bits .and k a b))
   | .or=>some (.int k (bits .or k a b))
   | .xor=>some (.int k (bits .xor k a b))
   | .andNot=>some (.int k (bits .andNot k a b))
   | .eql=>some (.bool (a==b))
   | .neq=>some (.bool (a !=b))
   | .lss=>some (.bool (a<b))
   | .leq=>some (.bool (a<=b))
   | .gtr=>some (.bool (a>b))
   | .geq=>some (.bool (a≥b))
   |_=>none
 | .str a,.str b=>
  match op with
  | .add=>if a.length+b.length<=9223372036854775807 then some (.str (a++b))else none
  | .eql=>some (.bool (a==b))
  | .neq=>some (.bool (!(a==b)))
  | .lss=>some (.bool (Op.bytesLess a b))
  | .leq=>some (.bool (Op.bytesLess a b||a==b))
  | .gtr=>some (.bool (!(Op.bytesLess a b||a==b)))
  | .geq=>some (.bool (!(Op.bytesLess a b)))
  |_=>none
 |_,_=>none
def wG(op:UnOp)(x:D):Option D:=
 match op,x with
 | .neg,.int k n=>some (.int k (k.wrap (0-n)))
 | .not,.bool b=>some (.bool (!b))
 | .xor,.int k n=>some (.int k (bits .xor k (if k.signed then-1 else k.max) n))
 |_,_=>none
def LY:Nat->D->D->Option Bool
 |0,.int k a,.int k' b=>if k=k' then some (a==b)else none
 |1,.bool a,.bool b=>some (a==b)
 |2,.str a,.str b=>some (a==b)
 |_,_,_=>none
def Bi(xs ys:List D):List (Nat×Nat)->Option Bool
 |[]=>some true
 |(k,o)::r=>match xs[o]?,ys[o]? with
  |some x,some y=>match LY k x y with
   |some true=>Bi xs ys r
   |some false=>some false
   |none=>none
  |_,_=>none
def IF:Nat->D->D->Option Bool
 |0,.slice n _ _,.slice true _ _=>some n
 |0,.slice true _ _,.slice n _ _=>some n
 |1,.nilptr,.nilptr=>some true
 |1,.nilptr,.ptr _ _=>some false
 |1,.ptr _ _,.nilptr=>some false
 |1,.nilptr,.eptr _=>some false
 |1,.eptr _,.nilptr=>some false
 |2,.nilIface,.nilIface=>some true
 |2,.nilIface,.iface _ _=>some false
 |2,.iface _ _,.nilIface=>some false
 |3,.nilFunc,.nilFunc=>some true
 |3,.nilFunc,.fn _ _=>some false
 |3,.fn _ _,.nilFunc=>some false
 |_,_,_=>none
def Az(s:List UInt8):List D:=s.map λb=> .int .u8 b.toNat
def BI:List D->Option (List UInt8)
 |[]=>some []
 | .int .u8 n::r=>(BI r).map (UInt8.ofNat n.toNat::·)
 |_=>none
def kK:Bool->D->Option Nat
 |true,.str s=>some s.length
 |false,.slice _ _ xs=>some xs.length
 |false,.row _ n=>some n
 |_,_=>none
def FI(s:Nat->D)(x:Option G9)(b:Nat)(r:Nat):Option Nat:=
 match x with
 |none=>some b
 |some a=>match a.ev s with
  | .int _ n=>if 0<=n∧n<=r then some n.toNat else none
  |_=>none
def aD:List D->Nat->Nat
 |[],k=>k
 |d::_,_=>d.cells.length
def I0(sz:Nat):D->Option (List D)
 | .slice _ _ ys=>some ys
 | .str b=>if sz=1 then some (Az b)else none
 |_=>none
def Ax(S:GZ)(s:Nat->D)(m:G6)(fr:Id):DOp->Option (D×Ha)
 | .mv x=>some (x.ev s,[])
 | .pick c a b=>match c.ev s with
  | .bool t=>some (if t then a.ev s else b.ev s,[])
  |_=>none
 | .alloc zs=>some (.ptr fr 0,[(fr,0,zs)])
 | .box x=>if(x.ev s).data then some (.ptr fr 0,[(fr,0,(x.ev s).cells)])else none
 | .build zs parts=>(Cn zs (parts.map λp=>(p.1,p.2.1,p.2.2.ev s))).map λcs=>(.agg cs,[])
 | .bslice e sz parts=>
  if(parts.all λp=>(p.ev s).data&&(p.ev s).cells.length==sz&&(p.ev s).un.calm)then some (.slice false fr (parts.map λp=>(p.ev s).un),[(fr,0,[.tok (e+1)])])else none
 | .load k x=>match x.ev s,k with
  | .ptr i o,none=>(m i o).map λd=>(d,[])
  | .ptr i o,some n=>(Ag m i o n).map λds=>(.agg ds,[])
  | .eptr ds,none=>ds.head?.map λd=>(d,[])
  | .eptr ds,some n=>if n<=ds.length then some (.agg (ds.take n),[])else none
  |_,_=>none
 | .store n x v=>match x.ev s with
  | .ptr i o=>if(v.ev s).data=true∧(v.ev s).cells.length=n∧(Ag m i o n).isSome=true then some (.junk,[(i,o,(v.ev s).cells)])else none
  |_=>none
 | .nilchk x=>match x.ev s with
  | .ptr i o=>some (.ptr i o,[])
  | .eptr ds=>some (.eptr ds,[])
  | .fn f cs=>some (.fn f cs,[])
  |_=>none
 | .bin op x y=>(AP op (x.ev s) (y.ev s)).map λd=>(d,[])
 | .beq ne x y=>match x.ev s,y.ev s with
  | .bool a,.bool b=>some (.bool ((a==b)!=ne),[])
  |_,_=>none
 | .seq ne offs x y=>match x.ev s,y.ev s with
  | .agg xs,.agg ys=>(Bi xs ys offs).map λb=>(.bool (b !=ne),[])
  |_,_=>none
 | .nileq ne k x y=>(IF k (x.ev s) (y.ev s)).map λb=>(.bool (b !=ne),[])
 | .un op x=>(wG op (x.ev s)).map λd=>(d,[])
 | .conv k x=>match x.ev s with
  | .int _ n=>some (.int k (k.wrap n),[])
  |_=>none
 | .s2s x=>match x.ev s with
  | .str b=>some (.str b,[])
  |_=>none
 | .s2b x=>match x.ev s with
  | .str b=>some (.slice false [] (Az b),[])
  |_=>none
 | .b2s x=>match x.ev s with
  | .slice _ _ xs=>(BI xs).map λb=>(.str b,[])
  |_=>none
 | .faddr off x=>match x.ev s with
  | .ptr i o=>some (.ptr i (o+off),[])
  | .eptr ds=>if off<=ds.length then some (.eptr (ds.drop off),[])else none
  |_=>none
 | .field k off x=>match x.ev s,k with
  | .agg cs,none=>cs[off]?.map λd=>(d,[])
  | .agg cs,some n=>if off+n<=cs.length then some (.agg ((cs.drop off).take n),[])else none
  |_,_=>none
 | .iaddr sz x i=>match x.ev s,i.ev s with
  | .slice _ _ xs,.int _ n=>if 0<=n then match xs[n.toNat]? with
   |some d=>if d.cells.length=sz then some (.eptr d.cells,[])else none
   |none=>none
   else none
  | .row i l,.int _ n=>if 0<=n∧n<(l:Int)then some (.ptr i (if sz=1 then n.toNat else n.toNat*sz),[])else none
  |_,_=>none
 | .idxs x i=>match x.ev s,i.ev s with
  | .str b,.int _ n=>if 0<=n then(b[n.toNat]?).map λc=>(.int .u8 c.toNat,[])else none
  |_,_=>none
 | .iadda len sz x i=>match x.ev s,i.ev s with
  | .ptr j o,.int _ n=>if 0<=n∧n<(len:Int)then some (.ptr j (o+n.toNat*sz),[])else none
  |_,_=>none
 | .idxm len sz x i=>match x.ev s,i.ev s with
  | .agg cs,.int _ n=>if 0<=n∧n<(len:Int)∧n.toNat*sz+sz<=cs.length then some (.agg ((cs.drop (n.toNat*sz)).take sz),[])else none
  |_,_=>none
 | .mxm mx x y=>match x.ev s,y.ev s with
  | .int k a,.int _ b=>some (.int k (if mx=true then max a b else min a b),[])
  |_,_=>none
 | .idxa len x i=>match x.ev s,i.ev s with
  | .agg cs,.int _ n=>if 0<=n∧n<(len:Int)then(cs[n.toNat]?).map λd=>(d,[])else none
  |_,_=>none
 | .cuts x lo hi=>match x.ev s with
  | .str b=>match FI s hi b.length b.length with
   |some h=>match FI s lo 0 h with
    |some l=>some (.str ((b.drop l).take (h-l)),[])
    |none=>none
   |none=>none
  |_=>none
 | .cutl sz x lo hi=>match x.ev s with
  | .slice nl _ xs=>if aD xs sz=sz then match FI s hi xs.length xs.length with
   |some h=>match FI s lo 0 h with
    |some l=>some (.slice nl [] ((xs.drop l).take (h-l)),[])
    |none=>none
   |none=>none
   else none
  |_=>none
 | .mkif t x=>if(x.ev s).data=true∧(x.ev s).un.calm=true then some (.iface t (x.ev s).un,[])else none
 | .tass t ok z x=>match x.ev s with
  | .iface t' d=>if t'=t then some (if ok then .tup [d,.bool true]else d,[])else if ok then some (.tup [z,.bool false],[])else none
  | .nilIface=>if ok then some (.tup [z,.bool false],[])else none
  |_=>none
 | .ext i x=>match x.ev s with
  | .tup vs=>vs[i]?.map λd=>(d,[])
  |_=>none
 | .mkfn f caps=>some (.fn f (caps.map (·.ev s)),[])
 | .len k x=>(kK k (x.ev s)).map λ(n:Nat)=>(.int .i64 (n:Int),[])
 | .stop=>none
 | .app e sz bytes x y=>match x.ev s,I0 sz (y.ev s)with
  | .slice nl t xs,some ys=>
   if nl=true∧ys=[]then some (.slice true [] [],[])
   else if(xs.length+ys.length)*(bytes+1)<=140737488355328∧aD ys sz=sz then
    if nl=true then some (.slice false fr ys,[(fr,0,[.tok (e+1)])])
    else match m t 0 with
     |some (.tok k)=>if k=e+1∧t≠[]then some (.slice false fr (xs++ys),[(t,0,[.tok 0]),(fr,0,[.tok (e+1)])])else none
     |_=>none
   else none
  |_,_=>none
 | .mksl e sz bytes z n c=>match n.ev s,c.ev s with
  | .int _ n,.int _ c=>if 0<=n∧n<=c∧c*(bytes+1)<=140737488355328∧z.cells.length=sz then(if z.isRw=true then(if n=c then some (.row fr n.toNat,[(fr,0,Qz n.toNat z)])else none)
   else some (.slice false fr (Qz n.toNat z),[(fr,0,[.tok (e+1)])]))else none
  |_,_=>none
 | .range x=>match x.ev s with
  | .str b=>some (.itp fr,[(fr,1,[.it b 0])])
  |_=>none
 | .next x=>match x.ev s with
  | .itp i=>match m i 1 with
   |some (.it b r)=>if r<b.length then
     some (.tup [.bool true,.int .i64 (r:Nat),.int .i32 (Utf8.decode ⟨b.toArray⟩ r).1],[(i,1,[.it b (r+(Utf8.decode ⟨b.toArray⟩ r).2)])])
    else some (.tup [.bool false],[])
   |_=>none
  |_=>none
 | .call f xs=>match f.ev s with
  | .fn f caps=>match S f with
   |some q=>q.ex (xs.map (·.ev s)++caps) m fr
   |none=>none
  |_=>none
def ofLeaf:Value->Option D
 | .bool b=>some (.bool b)
 | .int k n=>some (.int k n)
 | .string s=>some (.str s.data.toList)
 | .slice none 0 0=>some (.slice true [] [])
 | .pointer none=>some .nilptr
 | .nilIface=>some .nilIface
 | .nilFunc=>some .nilFunc
 | .map none=>some .nilMap
 |_=>none
def ofLeaves:List Value->Option (List D)
 |[]=>some []
 |v::r=>match ofLeaf v,ofLeaves r with
  |some d,some ds=>some (d::ds)
  |_,_=>none
def ofVal:Value->Option D
 | .agg cs=>(ofLeaves cs.toList).map .agg
 |v=>ofLeaf v
def AC:Operand->Option G9
 | .tmp t=>some (.t t)
 | .const v=>(ofVal v).map .c
 | .func f=>some (.c (.fn f []))
 | .global _=>none
def D6:List Operand->Option (List G9)
 |[]=>some []
 |x::r=>match AC x,D6 r with
  |some a,some l=>some (a::l)
  |_,_=>none
def Iu:Option Operand->Option (Option G9)
 |none=>some none
 |some x=>(AC x).map some
def CY(P:Program)(t:TypeId):Option Nat:=(P.info? t).map (·.size)
def pU(P:Program)(t:TypeId):Option (Option Nat):=
 match P.underlying t with
 |some (.struct _)|some (.array _ _)=>(CY P t).map some
 |some _=>some none
 |none=>none
def Dc(P:Program)(t:TypeId):Option D:=
 match P.info? t with
 |some i=>match i.zero with
  |some z=>ofVal z
  |none=>none
 |none=>none
def IV(P:Program)(e:TypeId):Option (Nat×Nat):=
 match P.info? e with
 |some i=>match i.zero with
  |some z=>if 0<i.size∧z.cells.size=i.size then some (i.size,i.bytes)else none
  |none=>none
 |none=>none
def IU{P:Program}{e sz bytes:Nat}(h:IV P e=some (sz,bytes)):
  0<sz∧∃i z,P.info? e=some i∧i.size=sz∧i.zero=some z∧z.cells.size=sz∧i.bytes=bytes:=by
 unfold IV at h;split at h
 ·grind
 ·cases h
def Du(P:Program)(o:Array Field):List (Nat×Operand)->Option (List (Nat×Nat×G9))
 |[]=>some []
 |(i,x)::r=>match o[i]?,AC x,Du P o r with
  |some f,some y,some l=>match CY P f.type with
   |some n=>some ((f.offset,n,y)::l)
   |none=>none
  |_,_,_=>none
def eL(P:Program)(r:List Field):Bool:=r.all λf=>(CY P f.type).isSome
def L4(P:Program):List Field->Option (List (Nat×Nat))
 |[]=>some []
 |f::r=>if f.name= "_" then none else match P.underlying f.type,L4 P r with
  |some (.int _),some l=>some ((0,f.offset)::l)
  |some .bool,some l=>some ((1,f.offset)::l)
  |some .string,some l=>some ((2,f.offset)::l)
  |_,_=>none
def FE(P:Program):List Field->Option (List (Nat×Nat))
 |[]=>some []
 |f::r=>if f.name= "_" then none else match P.underlying f.type,FE P r with
  |some (.int _),some l=>some ((0,f.offset)::l)
  |some .bool,some l=>some ((1,f.offset)::l)
  |some .string,some l=>some ((2,f.offset)::l)
  |some (.struct fs),some l=>match CY P f.type,L4 P fs.toList with
   |some n,some l2=>if P.stoodInHeld f.type=false∧(l2.all λp=>decide (p.2<n))=true then some ((l2.map λp=>(p.1,f.offset+p.2))++l)else none
   |_,_=>none
  |_,_=>none
def GM:Operand->Bool
 | .const _=>true
 |_=>false
def aAs(P:Program)(ne:Bool)(t:TypeId)(x y:Operand)(a b:G9):Option DOp:=
 match P.underlying t with
 |some .bool=>some (.beq ne a b)
 |some (.int _)|some .string=>some (.bin (if ne then .neq else .eql) a b)
 |some (.struct fs)=>if P.stoodInHeld t=false∧P.eqGuardType P.depth t=false then(FE P fs.toList).map λl=> .seq ne l a b else none
 |some (.slice _)=>some (.nileq ne 0 a b)
 |some (.pointer _)=>some (.nileq ne 1 a b)
 |some (.func ..)=>some (.nileq ne 3 a b)
 |some (.interface _)=>if GM x||GM y then some (.nileq ne 2 a b)else none
 |_=>none
def isStr(P:Program)(u:TypeId):Bool:=match P.underlying u with
 |some .string=>true
 |_=>false
def kV{P:Program}{u:TypeId}(h:isStr P u=true):P.underlying u=some .string:=by
 grind [isStr]
def PI(P:Program)(c:Call):Option DOp:=
 match c.callee with
 | .value f=>match AC f,D6 c.args.toList with
  |some g,some xs=>some (.call g xs)
  |_,_=>none
 | .builtin .len=>match c.args.toList,c.argTypes.toList with
  |[x],[t]=>match P.underlying t with
   |some .string=>(AC x).map (.len true)
   |some (.slice _)=>(AC x).map (.len false)
   |_=>none
  |_,_=>none
 | .builtin .append=>match c.args.toList,c.argTypes.toList with
  |[x,y],[t,u]=>if u=t∨isStr P u=true then match P.underlying t with
   |some (.slice e)=>match IV P e,AC x,AC y with
    |some (sz,bytes),some a,some b=>some (.app e sz bytes a b)
    |_,_,_=>none
   |_=>none
   else none
  |_,_=>none
 | .builtin .max=>match c.args.toList with
  |[x,y]=>match AC x,AC y with
   |some a,some b=>some (.mxm true a b)
   |_,_=>none
  |_=>none
 | .builtin .min=>match c.args.toList with
  |[x,y]=>match AC x,AC y with
   |some a,some b=>some (.mxm false a b)
   |_,_=>none
  |_=>none
 |_=>none
def Ga(sz:Nat):List (Nat×Operand)->Option (List (Nat×Nat×G9))
 |[]=>some []
 |(i,x)::r=>match AC x,Ga sz r with
  |some a,some l=>some ((i*sz,sz,a)::l)
  |_,_=>none
def tr(P:Program)(op:Op):Option DOp:=
 match op with
 | .move x| .assign x=>(AC x).map .mv
 | .pick c a b=>match AC c,AC a,AC b with
  |some c,some a,some b=>some (.pick c a b)
  |_,_,_=>none
 | .alloc t=>(Dc P t).map λd=> .alloc d.cells
 | .box _ x=>(AC x).map .box
 | .build t parts=>match P.underlying t,Dc P t with
  |some (.struct fields),some (.agg zs)=>if eL P fields.toList=true then(Du P fields parts.toList).map λl=> .build zs l else none
  |some (.array _ e),some (.agg zs)=>match CY P e with
   |some sz=>(Ga sz parts.toList).map λl=> .build zs l
   |none=>none
  |_,_=>none
 | .buildSlice t len parts=>match P.underlying t with
  |some (.slice e)=>match IV P e,D6 (parts.toList.map (·.2))with
   |some (sz,_),some l=>if parts.toList.map (·.1)=Qt len∧len*sz<=2 ^ 24 then some (.bslice e sz l)else none
   |_,_=>none
  |_=>none
 | .load t x=>match pU P t,AC x with
  |some k,some x=>some (.load k x)
  |_,_=>none
 | .store t x v=>match CY P t,AC x,AC v with
  |some (n+1),some x,some v=>some (.store (n+1) x v)
  |_,_,_=>none
 | .nilCheck x=>(AC x).map .nilchk
 | .binOp .eql t x y _=>match AC x,AC y with
  |some a,some b=>aAs P false t x y a b
  |_,_=>none
 | .binOp .neq t x y _=>match AC x,AC y with
  |some a,some b=>aAs P true t x y a b
  |_,_=>none
 | .binOp op _ x y _=>match AC x,AC y with
  |some a,some b=>some (.bin op a b)
  |_,_=>none
 | .unOp op _ x=>(AC x).map (.un op)
 | .convert src dst x=>match P.underlying src,P.underlying dst,AC x with
  |some (.int _),some (.int k),some x=>some (.conv k x)
  |some .string,some .string,some x=>some (.s2s x)
  |some .string,some (.slice e),some x=>match P.underlying e with
   |some (.int .u8)=>some (.s2b x)
   |_=>none
  |some (.slice e),some .string,some x=>match P.underlying e with
   |some (.int .u8)=>some (.b2s x)
   |_=>none
  |_,_,_=>none
 | .fieldAddr t x f=>match P.underlying t,AC x with
  |some (.struct fields),some x=>match fields[f]? with
   |some r=>match CY P r.type with
    |some (_+1)=>some (.faddr r.offset x)
    |_=>none
   |none=>none
  |_,_=>none
 | .field t x f=>match P.underlying t,AC x with
  |some (.struct fields),some x=>match fields[f]? with
   |some r=>(pU P r.type).map λk=> .field k r.offset x
   |none=>none
  |_,_=>none
 | .indexAddr t x i=>match P.underlying t,AC x,AC i with
  |some (.slice e),some x,some i=>(CY P e).map λn=> .iaddr n x i
  |some (.array len e),some x,some i=>(CY P e).map λn=> .iadda len n x i
  |_,_,_=>none
 | .index t x i=>match P.underlying t,AC x,AC i with
  |some .string,some x,some i=>some (.idxs x i)
  |some (.array len e),some x,some i=>match pU P e with
   |some none=>if CY P e=some 1 then some (.idxa len x i)else none
   |some (some sz)=>some (.idxm len sz x i)
   |none=>none
  |_,_,_=>none
 | .slice t x lo hi none=>match P.underlying t,AC x,Iu lo,Iu hi with
  |some .string,some x,some l,some h=>some (.cuts x l h)
  |some (.slice e),some x,some l,some h=>(CY P e).map λn=> .cutl n x l h
  |_,_,_,_=>none
 | .makeInterface t x=>match P.underlying t,AC x with
  |some (.interface _),_=>none
  |some _,some x=>some (.mkif t x)
  |_,_=>none
 | .typeAssert x _ t ok=>match P.underlying t,Dc P t,AC x with
  |some (.interface _),_,_=>none
  |some _,some z,some x=>some (.tass t ok z x)
  |_,_,_=>none
 | .extract x i=>(AC x).map (.ext i)
 | .makeFunc (.func f) first caps=>match first.toList,D6 caps.toList with
  |[],some l=>some (.mkfn f l)
  |_,_=>none
 | .makeSlice t n c=>match P.underlying t with
  |some (.slice e)=>match IV P e,Dc P e,AC n,AC c with
   |some (sz,bytes),some z,some n,some c=>some (.mksl e sz bytes z n c)
   |_,_,_,_=>none
  |_=>none
 | .range t x=>match P.underlying t,AC x with
  |some .string,some x=>some (.range x)
  |_,_=>none
 | .next x true=>(AC x).map .next
 | .call c=>PI P c
 |_=>none
def Rep.ofLeaf{w:World}{g:Gh}{v:Value}{d:D}(h:ofLeaf v=some d):Rep w g d v∧v.oneCell'=true∧d.leaf=true:=by
 unfold Vd.ofLeaf at h;split at h<;>first|(simp only[Qa]at h;subst h)|cases h
 ·exact⟨.bool _,rfl,rfl⟩
 ·exact⟨.int _ _,rfl,rfl⟩
 ·rename_i s;exact⟨.str s.data.toList,rfl,rfl⟩
 ·exact⟨.nils _,rfl,rfl⟩
 ·exact⟨.nilp,rfl,rfl⟩
 ·exact⟨.nili,rfl,rfl⟩
 ·exact⟨.nilf,rfl,rfl⟩
 ·exact⟨.nilm,rfl,rfl⟩
def AZ.ofLeaves{w:World}{g:Gh}:∀{vs:List Value} {ds:List D},ofLeaves vs=some ds->AZ w g ds vs
 |[],ds,h=>by simp only[Vd.ofLeaves,Qa]at h;subst h;exact AZ.nil w g
 |v::r,ds,h=>by
  unfold Vd.ofLeaves at h;split at h
  ·rename_i d c u f;simp only[Qa]at h;subst h;obtain⟨p,q,_⟩:=Rep.ofLeaf (w:=w) (g:=g) u;exact AZ.append (AZ.one p q) (AZ.ofLeaves f)
  ·cases h
def aJ{w:World}{g:Gh}{ds:List D}{vs:List Value}(h:AZ w g ds vs):Rep w g (.agg ds) (.agg vs.toArray):= .agg ds vs h.1 h.2.1 h.2.2
def aI{w:World}{g:Gh}{ds:List D}{v:Value}(h:Rep w g (.agg ds) v):∃vs:List Value,v= .agg vs.toArray∧AZ w g ds vs:=by
 cases h with
 |agg _ vs u f i=>exact⟨vs,rfl,u,f,i⟩
theorem Rep.ofVal{w:World}{g:Gh}{v:Value}{d:D}(h:ofVal v=some d):Rep w g d v:=by
 cases v with
 |agg cs=>
  simp only[Vd.ofVal,Qb]at h;obtain⟨ds,u,rfl⟩:=h;exact aJ (AZ.ofLeaves u)
 |_=>simp only[Vd.ofVal]at h;exact(Rep.ofLeaf h).1
def Oz{v:Value}{d:D}(h:ofLeaf v=some d):d.data=true:=by
 unfold ofLeaf at h;split at h<;>first|(simp only[Qa]at h;subst h;rfl)|cases h
def DZ(w:World)(g:Gh)(s:Nat->D)(a:Act):Prop:=∀t,Rep w g (s t) (a.tmps.getD t undef)
def DZ.ext{w k:World}{g q:Gh}{s:Nat->D}{a:Act}(h:DZ w g s a)(x:Ht w g k q):DZ k q s a:=λt=>(h t).ext x
section
variable{P:Program}{w:World}{g:Gh}{s:Nat->D}{a:Act}
def DZ.arg(h:DZ w g s a){x:Operand}{y:G9}(q:AC x=some y):Rep w g (y.ev s) (a.eval x):=by
 cases x with
 |tmp t=>simp only[AC,Qa]at q;subst q;exact h t
 |const v=>
  simp only[AC,Qb]at q;obtain⟨d,u,rfl⟩:=q;exact Rep.ofVal u
 |func f=>
  simp only[AC,Qa]at q;subst q;exact .fn f [] [] rfl U
 |global _=>cases q
def DZ.args(h:DZ w g s a):∀{xs:List Operand} {ys:List G9},D6 xs=some ys->
  (xs.map a.eval).length=(ys.map (·.ev s)).length∧∀(j:Nat) d v,(ys.map (·.ev s))[j]?=some d->(xs.map a.eval)[j]?=some v->Rep w g d v
 |[],ys,hx=>by simp only[D6,Qa]at hx;subst hx;simp
 |x::r,ys,hx=>by
  unfold D6 at hx;split at hx
  ·rename_i y l u f;simp only[Qa]at hx;subst hx;obtain⟨p,q⟩:=DZ.args h f;refine⟨XV,λj d v t i=>?_⟩;cases j with
   |zero=>
    simp only[Qs,QD,Qa]at t i;subst t i;exact h.arg u
   |succ j=>
    simp only[Qs,Zg]at t i;exact q j d v t i
  ·cases hx
def Rep.bool_inv{b:Bool}{v:Value}(h:Rep w g (.bool b) v):v= .bool b:=XH
def Rep.int_inv{k:IntKind}{n:Int}{v:Value}(h:Rep w g (.int k n) v):v= .int k n:=XH
def Rep.str_inv{b:List UInt8}{v:Value}(h:Rep w g (.str b) v):v= .string ⟨b.toArray⟩:=XH
def Rep.cells{d:D}{v:Value}(h:Rep w g d v)(p:d.data=true):AZ w g d.cells v.cells.toList:=by
 cases h with
 |agg ds vs u y x=>exact(⟨u,y,x⟩:AZ w g ds vs)
 |junk=>cases p
 |tup=>cases p
 |bool b=>exact AZ.one (.bool b) rfl
 |int k n=>exact AZ.one (.int k n) rfl
 |str b=>exact AZ.one (.str b) rfl
 |nils t=>exact AZ.one (.nils t) rfl
 |slice t xs a n c sz j u y x e m s h7 r q=>exact AZ.one (.slice t xs a n c sz j u y x e m s h7 r q) rfl
 |ptr i o b u=>exact AZ.one (.ptr i o b u) rfl
 |row i n c b z u=>exact AZ.one (.row i n c b z u) rfl
 |eptr ds a j u y x e m=>exact AZ.one (.eptr ds a j u y x e m) rfl
 |nilp=>exact AZ.one .nilp rfl
 |iface t d v u y=>exact AZ.one (.iface t d v u y) rfl
 |nili=>exact AZ.one .nili rfl
 |fn f ds vs u y=>exact AZ.one (.fn f ds vs u y) rfl
 |nilf=>exact AZ.one .nilf rfl
 |nilm=>exact AZ.one .nilm rfl
 |itp i b u=>exact AZ.one (.itp i b u) rfl
end
end Go.Vd
namespace Go.Vd
open Go.RowKit
structure aRf (P:Program) (B:Nat) (w0:World) (m:G6) (g:Gh) (fr:Id) (w:World) (m':G6) (d:D) (v':Value) (w':World) (g':Gh):Prop where
 inv:He P B w0 m' w' g'
 ext:Ht w g w' g'
 rep:Rep w' g' d v'
 fresh:∀i,B1 m g i->¬fr<:+i->B1 m' g' i
def C8(P:Program)(B:Nat)(w0:World)(m:G6)(g:Gh)(fr:Id)(w:World)(m':G6)(d:D)(x:Sem Next):Prop:=
 ∃s t q r,x.run P w= .ok r t∧(r= .value s∨(r= .skip∧s=undef))∧aRf P B w0 m g fr w m' d s t q
section
variable{P:Program}{B:Nat}{w0 w:World}{m:G6}{g:Gh}{fr:Id}{s:Nat->D}{a:Act}
def C8.pure{x:Sem Next}{v:Value}{d:D}(hi:He P B w0 m w g)(i:x.run P w= .ok (.value v) w)(p:Rep w g d v):C8 P B w0 m g fr w m d x:=
 ⟨v,w,g,_,i,.inl rfl,hi,Ht.refl w g,p,λ_ h _=>h⟩
theorem Rep.slice_inv {nl : Bool} {t : Id} {xs : List D} {v : Value} (h : Rep w g (.slice nl t xs) v) :
  (nl = true ∧ xs = [] ∧ v = .slice none 0 0) ∨
  (nl = false ∧ ∃ ad n c sz, ∃ vv : Nat → Value, v = .slice (some ad) n c ∧ n = xs.length ∧ n ≤ c ∧ (∀ d ∈ xs, d.cells.length = sz) ∧
   (∀ j, j < n * sz → w.cell? (ad.add j) = some (vv j)) ∧ (∀ j, j < n * sz → (vv j).oneCell' = true) ∧
   (∀ (j : Nat) d, (flat xs)[j]? = some d → Rep w g d (vv j)) ∧ (0 < n * sz → ad.off + n * sz ≤ g.G ad.block) ∧
   (t ≠ [] → ad.off = 0 ∧ ad.spot = none ∧ g.tb t = some (ad.block, n, c, sz)) ∧ (∀ d ∈ xs, d.calm = true)) := by
 cases h with
 | nils t => exact .inl ⟨rfl, rfl, rfl⟩
 | slice t xs ad n c sz vv h1 h2 h3 h4 h5 h6 h7 h8 h9 => exact .inr ⟨rfl, ad, n, c, sz, vv, rfl, h1, h2, h3, h4, h5, h6, h7, h8, h9⟩
def Rep.len_slice{nl:Bool}{t:Id}{xs:List D}{v:Value}(h:Rep w g (.slice nl t xs) v):∃ad c,v= .slice ad xs.length c∧(nl=ad.isNone):=by
 rcases h.slice_inv with ⟨rfl,rfl,rfl⟩|⟨rfl,ad,n,c,sz,e,rfl,rfl,_⟩
 ·exact⟨none,0,rfl,rfl⟩
 ·exact⟨some ad,c,rfl,rfl⟩
def Rep.ptr_inv{i:Id}{o:Nat}{v:Value}(h:Rep w g (.ptr i o) v):∃b,v= .pointer (some ⟨b,o,none⟩)∧g.dl i=some b:=by
 cases h with
 |ptr _ _ b m=>exact⟨b,rfl,m⟩
def Rep.row_inv{i:Id}{n:Nat}{v:Value}(h:Rep w g (.row i n) v):∃b c,v= .slice (some ⟨b,0,none⟩) n c∧n<=c∧g.dl i=some b:=by
 cases h with
 |row _ _ c b s m=>exact⟨b,c,rfl,s,m⟩
def Rep.eptr_inv{ds:List D}{v:Value}(h:Rep w g (.eptr ds) v):∃ad,∃e:Nat->Value,v= .pointer (some ad)∧(∀j,j<ds.length->w.cell? (ad.add j)=some (e j))∧
  (∀j,j<ds.length->(e j).oneCell'=true)∧(∀(j:Nat) d,ds[j]?=some d->Rep w g d (e j))∧(0<ds.length->ad.off+ds.length<=g.G ad.block)∧(∀d∈ds,d.calm=true):=by
 cases h with
 |eptr _ ad e u f i p m=>exact⟨ad,e,rfl,u,f,i,p,m⟩
def Rep.tup_inv{ds:List D}{v:Value}(h:Rep w g (.tup ds) v):∃vs:List Value,v= .tuple vs.toArray∧vs.length=ds.length∧∀(j:Nat) d v,ds[j]?=some d->vs[j]?=some v->Rep w g d v:=by
 cases h with
 |tup _ vs u f=>exact⟨vs,rfl,u,f⟩
def Rep.iface_inv{t:TypeId}{d:D}{v:Value}(h:Rep w g (.iface t d) v):∃u,v= .iface t u∧Rep w g d u∧d.calm=true:=by
 cases h with
 |iface _ _ u q f=>exact⟨u,rfl,f,q⟩
def Rep.fn_inv{f:FuncId}{ds:List D}{v:Value}(h:Rep w g (.fn f ds) v):∃vs:List Value,v= .func (.func f) #[] vs.toArray∧vs.length=ds.length∧∀(j:Nat) d v,ds[j]?=some d->vs[j]?=some v->Rep w g d v:=by
 cases h with
 |fn _ _ vs u y=>exact⟨vs,rfl,u,y⟩
def Rep.nilp_inv{v:Value}(h:Rep w g .nilptr v):v= .pointer none:=XH
def Rep.nili_inv{v:Value}(h:Rep w g .nilIface v):v= .nilIface:=XH
def Rep.nilf_inv{v:Value}(h:Rep w g .nilFunc v):v= .nilFunc:=XH
def IP(op:BinOp)(t:TypeId)(x y:Operand)(i o:Value)(h:∀cs,i≠ .agg cs)(f:i≠ .nilIface)(W:World):(eqGuard op t x y i o).run P W= .ok () W:=by
 cases i with
 |nilIface=>exact absurd rfl f
 |agg c=>exact absurd rfl (h c)
 |_=>cases op<;>rfl
theorem T9 {op:BinOp} {t:TypeId} {x y:D} {d:D} {i s:Value} (q:Rep w g x i) (j:Rep w g y s) (h:AP op x y=some d):
  ∃v,(binOp op t i s).run P w= .ok v w∧Rep w g d v∧(∀cs,i≠ .agg cs)∧i≠ .nilIface:=by
 unfold AP at h
 split at h
 ·rename_i k n p r
  rw[q.int_inv,j.int_inv]
  split at h
  ·split at h
   ·rename_i m
    simp only[Qa]at h;subst h
    refine⟨_,?_,.int _ _,U,U⟩
    have:¬r<0:=O
    simp[binOp,Op.shift,this]
   ·cases h
  ·split at h
   ·rename_i m
    simp only[Qa]at h;subst h
    refine⟨_,?_,.int _ _,U,U⟩
    have:¬r<0:=O
    simp[binOp,Op.shift,this]
   ·cases h
  ·rename_i u f
   by_cases o:k≠p
   ·rw[if_pos o]at h;cases h
   rw[if_neg o]at h
   have o:k=p:=Classical.not_not.1 o
   subst o
   cases op<;>simp only[reduceCtorEq,Qa]at h<;>
    first
    |(subst h;first
      |exact⟨_,by simp[binOp,Op.intArith,intBits_and,intBits_or,intBits_xor,intBits_andNot,Op.intCmp],.int _ _,U,U⟩
      |exact⟨_,by simp[binOp,Op.intCmp],.bool _,U,U⟩)
    |(exact absurd rfl u)
    |(exact absurd rfl f)
    |(
     split at h
     ·cases h
     ·rename_i z
      simp only[Qa]at h;subst h
      exact⟨_,by simp[binOp,Op.intDiv,z],.int _ _,U,U⟩)
 ·rename_i b c
  rw[q.str_inv,j.str_inv]
  split at h
  ·split at h
   ·rename_i hl
    simp only[Qa]at h;subst h
    refine⟨.string ⟨(b++c).toArray⟩,?_,.str _,U,U⟩
    have:=run_string_add_sum (P:=P) (w:=w) ⟨b.toArray⟩ ⟨c.toArray⟩ (by simpa[ByteArray.size]using hl)
    simp only[binOp,this]
    congr 2
   ·cases h
  all_goals first|(cases h;done)|skip
  all_goals
   simp only[Qa]at h;subst h
   exact⟨_,by simp[binOp,Op.stringOp,ByteArray.toList_mk],.bool _,U,U⟩
 ·cases h
def aAl{op:UnOp}{x d:D}{i:Value}(q:Rep w g x i)(h:wG op x=some d):∃v,(Op.unary op i).run P w= .ok v w∧Rep w g d v:=by
 unfold wG at h;split at h
 ·simp only[Qa]at h;subst h;rw[q.int_inv];exact⟨_,by simp[Op.unary,Op.intArith],.int _ _⟩
 ·simp only[Qa]at h;subst h;rw[q.bool_inv];exact⟨_,by simp[Op.unary],.bool _⟩
 ·simp only[Qa]at h;subst h;rw[q.int_inv];exact⟨_,by simp only[Op.unary,intBits_xor];rfl,.int _ _⟩
 ·cases h
end
section
variable{P:Program}{B:Nat}{w0 w:World}{m:G6}{g:Gh}{fr:Id}{s:Nat->D}{a:Act}
def GU:TypeDesc->Bool
 | .struct _| .array _ _=>true
 |_=>false
def CA{t:TypeId}{d:TypeDesc}(z:P.underlying t=some d)(p:GU d=false){cs:Array Value}{o:Nat}{v:Value}(y:cs[o]?=some v):
  (part t cs o).run P w= .ok v w:=by
 unfold part isAgg;simp only[Sem.run_bind,run_underlying z];cases d<;>simp_all [GU]
def ES{k:Nat}{x y:D}{i s:Value}{b:Bool}{t:TypeId}{f:TypeDesc}(q:Rep w g x i)(j:Rep w g y s)(h:LY k x y=some b)(z:P.underlying t=some f)
  (r:(k=0∧∃k,f= .int k)∨(k=1∧f= .bool)∨(k=2∧f= .string)) (n:Nat):(Op.equalIn (n+1) t i s).run P w= .ok b w:=by
 unfold LY at h;split at h
 ·rename_i m a k2 p;split at h
  ·rename_i o;subst o;simp only[Qa]at h;subst h;rw[q.int_inv,j.int_inv];rcases r with ⟨_,v,rfl⟩|⟨u,_⟩|⟨u,_⟩
   ·exact run_equalIn_int w n t _ _ _ _ z
   ·cases u
   ·cases u
  ·cases h
 ·simp only[Qa]at h;subst h;rw[q.bool_inv,j.bool_inv];rcases r with ⟨u,_⟩|⟨_,rfl⟩|⟨u,_⟩
  ·cases u
  ·exact run_equalIn_bool' w n t _ _ z
  ·cases u
 ·simp only[Qa]at h;subst h;rw[q.str_inv,j.str_inv];rcases r with ⟨u,_⟩|⟨u,_⟩|⟨_,rfl⟩
  ·cases u
  ·cases u
  ·rw[run_equalIn_string w n t _ _ z];simp[ByteArray.toList_mk]
 ·cases h
def MH{xs ys:List D}{vx vy:List Value}(q:AZ w g xs vx)(j:AZ w g ys vy)(n:Nat):∀{fs:List Field} {l:List (Nat×Nat)} {b:Bool},
  L4 P fs=some l->Bi xs ys l=some b->(Op.eqFields (n+1) vx.toArray vy.toArray fs).run P w= .ok b w
 |[],l,b,h1,h2=>by
  simp only[L4,Qa]at h1;subst h1;simp only[Bi,Qa]at h2;subst h2;rfl
 |f::r,l,b,h1,h2=>by
  unfold L4 at h1;split at h1
  ·cases h1
  rename_i i;have z:∃k t td,P.underlying f.type=some td∧L4 P r=some t∧l=(k,f.offset)::t∧((k=0∧∃k,td= .int k)∨(k=1∧td= .bool)∨(k=2∧td= .string)):=by
   grind
  obtain⟨k,t,td,hu,hl,rfl,ba⟩:=z;unfold Bi at h2;split at h2
  ·rename_i x y u ey;have a:f.offset<vx.length:=by rw[q.1];exact(Qe.1 u).1
   have c:f.offset<vy.length:=by rw[j.1];exact(Qe.1 ey).1
   have rx:=q.2.2 _ x vx[f.offset] u (Qc a);have ry:=j.2.2 _ y vy[f.offset] ey (Qc c);have p:GU td=false:=by rcases ba with ⟨_,d,rfl⟩|⟨_,rfl⟩|⟨_,rfl⟩<;>rfl
   have px:=CA (w:=w) hu p (cs:=vx.toArray) (o:=f.offset) (v:=vx[f.offset]) (by simp[a]);have py:=CA (w:=w) hu p (cs:=vy.toArray) (o:=f.offset) (v:=vy[f.offset]) (by simp[c]);have ih:=λb' (m:Bi xs ys t=some b')=>MH q j n hl m
   split at h2
   ·rename_i s;have e:=ES rx ry s hu ba n;simp only[Op.eqFields,ne_eq,i,not_false_eq_true,if_true,Sem.run_bind,px,Result.andThen_ok,py,e,Zs,QG,if_false];exact ih b h2
   ·rename_i s;have e:=ES rx ry s hu ba n;simp only[Qa]at h2;subst h2;simp only[Op.eqFields,ne_eq,i,not_false_eq_true,if_true,Sem.run_bind,px,Result.andThen_ok,py,e,Zb,if_true,Sem.run_pure]
   ·cases h2
  ·cases h2
def AZ.part{ds:List D}{vs:List Value}(h:AZ w g ds vs)(o n:Nat):AZ w g ((ds.drop o).take n) ((vs.drop o).take n):=by
 refine⟨by simp[h.1],λv y=>h.2.1 v (Qx (QB y)),λj d v p y=>?_⟩;rw[Zt]at p y;split at p
 ·rw[if_pos (by assumption)]at y;rw[Qw]at p y;exact h.2.2 _ d v p y
 ·cases p
def LH{xs ys:List D}{o n:Nat}{l:List (Nat×Nat)}{b:Bool}:∀{c:List (Nat×Nat)},(c.all λp=>decide (p.2<n))=true->Bi xs ys ((c.map λp=>(p.1,o+p.2))++l)=some b->
  ∃m,Bi ((xs.drop o).take n) ((ys.drop o).take n) c=some m∧(m=true->Bi xs ys l=some b)∧(m=false->b=false)
 |[],_,h=>⟨true,rfl,λ_=>h,λh=>Xc⟩
 |(k,q)::r,hn,h=>by
  rw[List.all_cons,QU,decide_eq_true_eq]at hn;obtain⟨s,i⟩:=hn;have u:∀zs:List D,((zs.drop o).take n)[q]?=zs[o+q]?:=λzs=>by
   rw[Zt,if_pos s,Qw]
  simp only[Qs,Q2,Bi]at h ⊢;rw[u,u];split at h
  ·rename_i x y g w;revert h;cases LY k x y with
   |none=>intro h;cases h
   |some v=>
    cases v with
    |true=>intro h;exact LH i h
    |false=>
     intro h;simp only[Qa]at h;exact⟨false,rfl,λe=>(nomatch e),λ_=>h.symm⟩
  ·cases h
def Ib{t:TypeId}{n:Nat}{s:Array Field}(z:P.underlying t=some (.struct s))(g:CY P t=some n){cs:List Value}{o:Nat}:
  (part t cs.toArray o).run P w= .ok (.agg ((cs.drop o).take n).toArray) w:=by
 unfold CY at g;rw[Qb]at g;obtain⟨i,hi,rfl⟩:=g;unfold part isAgg;simp only[Sem.run_bind,run_underlying z,Result.andThen_ok,Sem.run_pure,if_true];simp[sizeOf,typeInfo,hi,List.extract]
def FP{xs ys:List D}{vx vy:List Value}(hx:AZ w g xs vx)(hy:AZ w g ys vy)(n:Nat):∀{fs:List Field} {l:List (Nat×Nat)} {b:Bool},
  FE P fs=some l->Bi xs ys l=some b->(Op.eqFields (n+2) vx.toArray vy.toArray fs).run P w= .ok b w
 |[],l,b,h1,h2=>by
  simp only[FE,Qa]at h1;subst h1;simp only[Bi,Qa]at h2;subst h2;rfl
 |f::r,l,b,h1,h2=>by
  unfold FE at h1;split at h1
  ·cases h1
  rename_i i;have z:(∃k l' td,P.underlying f.type=some td∧FE P r=some l'∧l=(k,f.offset)::l'∧((k=0∧∃k,td= .int k)∨(k=1∧td= .bool)∨(k=2∧td= .string)))∨
    ∃d l' l2 sz,P.underlying f.type=some (.struct d)∧FE P r=some l'∧CY P f.type=some sz∧L4 P d.toList=some l2∧P.stoodInHeld f.type=false∧(l2.all λp=>decide (p.2<sz))=true∧l=(l2.map λp=>(p.1,f.offset+p.2))++l':=by
   split at h1
   ·simp_all
   ·simp_all
   ·simp_all
   ·grind
   ·cases h1
  rcases z with ⟨k,l',td,hu,hl,rfl,ba⟩|⟨d,l',l2,sz,hu,hl,j,pa,hp,ia,rfl⟩
  ·unfold Bi at h2;split at h2
   ·rename_i x y ex ey;have a:f.offset<vx.length:=by rw[hx.1];exact(Qe.1 ex).1
    have c:f.offset<vy.length:=by rw[hy.1];exact(Qe.1 ey).1
    have rx:=hx.2.2 _ x vx[f.offset] ex (Qc a);have ry:=hy.2.2 _ y vy[f.offset] ey (Qc c);have t:GU td=false:=by rcases ba with ⟨_,k',rfl⟩|⟨_,rfl⟩|⟨_,rfl⟩<;>rfl
    have px:=CA (w:=w) hu t (cs:=vx.toArray) (o:=f.offset) (v:=vx[f.offset]) (by simp[a]);have py:=CA (w:=w) hu t (cs:=vy.toArray) (o:=f.offset) (v:=vy[f.offset]) (by simp[c]);have ih:=λb' (m:Bi xs ys l'=some b')=>FP hx hy n hl m
    split at h2
    ·rename_i s;have e:=ES rx ry s hu ba (n+1);simp only[Op.eqFields,ne_eq,i,not_false_eq_true,if_true,Sem.run_bind,px,Result.andThen_ok,py,e,Zs,QG,if_false];exact ih b h2
    ·rename_i s;have e:=ES rx ry s hu ba (n+1);simp only[Qa]at h2;subst h2;simp only[Op.eqFields,ne_eq,i,not_false_eq_true,if_true,Sem.run_bind,px,Result.andThen_ok,py,e,Zb,if_true,Sem.run_pure]
    ·cases h2
   ·cases h2
  ·obtain⟨b2,la,u,hf⟩:=LH ia h2;have px:=Ib (w:=w) hu j (cs:=vx) (o:=f.offset);have py:=Ib (w:=w) hu j (cs:=vy) (o:=f.offset);have q:P.fieldsOf f.type=d:=by simp[Program.fieldsOf,hu]
   have e:(Op.equalIn (n+2) f.type (.agg ((vx.drop f.offset).take sz).toArray) (.agg ((vy.drop f.offset).take sz).toArray)).run P w= .ok b2 w:=by
    rw[run_equalIn_struct w (n+1) f.type _ _ (by rw[q];exact hu) hp,q];exact MH (hx.part f.offset sz) (hy.part f.offset sz) n pa la
   cases b2 with
   |true=>
    simp only[Op.eqFields,ne_eq,i,not_false_eq_true,if_true,Sem.run_bind,px,Result.andThen_ok,py,e,Zs,QG,if_false];exact FP hx hy n hl (u rfl)
   |false=>
    rw[hf rfl];simp only[Op.eqFields,ne_eq,i,not_false_eq_true,if_true,Sem.run_bind,px,Result.andThen_ok,py,e,Zb,if_true,Sem.run_pure]
def UC{xs ys:List D}{i o:Value}{b:Bool}{t:TypeId}{s:Array Field}{l:List (Nat×Nat)}(q:Rep w g (.agg xs) i)(j:Rep w g (.agg ys) o)
  (z:P.underlying t=some (.struct s)) (c:P.stoodInHeld t=false) (a:P.eqGuardType P.depth t=false) (hl:FE P s.toList=some l) (h:Bi xs ys l=some b) (x y:Operand) (op:BinOp):
  (Op.equal t i o).run P w= .ok b w∧(eqGuard op t x y i o).run P w= .ok () w:=by
 obtain⟨v,rfl,p⟩:=aI q;obtain⟨n,rfl,r⟩:=aI j;constructor
 ·have d:P.fieldsOf t=s:=by simp[Program.fieldsOf,z]
  unfold Op.equal Op.maxDepth;rw[run_equalIn_struct w 9999 t _ _ (by rw[d];exact z) c,d];exact FP p r 9997 hl h
 ·cases op<;>first|rfl|(simp[eqGuard,a])
def RE:Value->Bool
 | .int .. | .string .. | .float .. | .complex ..=>false
 |_=>true
def UG{t:TypeId}{i o:Value}{b:Bool}(y:RE i=true)(ne:Bool)(h:(Op.equal t i o).run P w= .ok b w):
  (binOp (if ne then .neq else .eql) t i o).run P w= .ok (.bool (b !=ne)) w:=by
 cases ne<;>cases i<;>first|(simp[RE]at y;done)|(cases o<;>simp[binOp,h])
def aCY:Nat->TypeDesc->Prop
 |0,d=>∃e,d= .slice e
 |1,d=>∃e,d= .pointer e
 |2,d=>∃e,d= .interface e
 |3,d=>∃p r v,d= .func p r v
 |_,_=>False
def cH{k:Nat}{x y:D}{i s:Value}{b:Bool}{t:TypeId}{m:TypeDesc}(d:Rep w g x i)(j:Rep w g y s)(h:IF k x y=some b)(z:P.underlying t=some m)
  (o:aCY k m) (n:Nat):(Op.equalIn (n+1) t i s).run P w= .ok b w∧RE i=true∧(∀cs,i≠ .agg cs)∧(i= .nilIface->k=2):=by
 unfold IF at h;split at h<;>first|(exfalso;simp at h;done)|(simp only[Qa]at h;subst h)
 ·obtain⟨e,rfl⟩:=o;obtain⟨ad,c,rfl,rfl⟩:=d.len_slice;obtain⟨a,c',rfl,f⟩:=j.len_slice;have:a=none:=by
   simp_all
  subst this;refine⟨?_,rfl,U,U⟩;cases ad<;>simp[Op.equalIn,run_underlying z]
 ·obtain⟨e,rfl⟩:=o;obtain⟨ad,c,rfl,q⟩:=d.len_slice;obtain⟨a,c',rfl,rfl⟩:=j.len_slice;have:ad=none:=by
   simp_all
  subst this;refine⟨?_,rfl,U,U⟩;simp[Op.equalIn,run_underlying z]
 ·obtain⟨e,rfl⟩:=o;rw[d.nilp_inv,j.nilp_inv];exact⟨Xr,rfl,U,U⟩
 ·obtain⟨e,rfl⟩:=o;obtain⟨b,rfl,_⟩:=j.ptr_inv;rw[d.nilp_inv];exact⟨Xr,rfl,U,U⟩
 ·obtain⟨e,rfl⟩:=o;obtain⟨b,rfl,_⟩:=d.ptr_inv;rw[j.nilp_inv];exact⟨Xr,rfl,U,U⟩
 ·obtain⟨e,rfl⟩:=o;obtain⟨ad,vv,rfl,_⟩:=j.eptr_inv;rw[d.nilp_inv];exact⟨Xr,rfl,U,U⟩
 ·obtain⟨e,rfl⟩:=o;obtain⟨ad,vv,rfl,_⟩:=d.eptr_inv;rw[j.nilp_inv];exact⟨Xr,rfl,U,U⟩
 ·obtain⟨e,rfl⟩:=o;rw[d.nili_inv,j.nili_inv];exact⟨Xr,rfl,U,λ_=>rfl⟩
 ·obtain⟨e,rfl⟩:=o;obtain⟨u,rfl,_,_⟩:=j.iface_inv;rw[d.nili_inv];exact⟨Xr,rfl,U,λ_=>rfl⟩
 ·obtain⟨e,rfl⟩:=o;obtain⟨u,rfl,_,_⟩:=d.iface_inv;rw[j.nili_inv];exact⟨Xr,rfl,U,U⟩
 ·obtain⟨p,r,v,rfl⟩:=o;rw[d.nilf_inv,j.nilf_inv];exact⟨Xr,rfl,U,U⟩
 ·obtain⟨p,r,v,rfl⟩:=o;obtain⟨vs,rfl,_⟩:=j.fn_inv;rw[d.nilf_inv];exact⟨Xr,rfl,U,U⟩
 ·obtain⟨p,r,v,rfl⟩:=o;obtain⟨vs,rfl,_⟩:=d.fn_inv;rw[j.nilf_inv];exact⟨Xr,rfl,U,U⟩
def eB(op:BinOp)(t:TypeId)(x y:Operand)(i o:Value)(h:∀cs,i≠ .agg cs)(f:i= .nilIface->(GM x||GM y)=true)(W:World):(eqGuard op t x y i o).run P W= .ok () W:=by
 cases i with
 |nilIface=>
  have:=f rfl;cases op<;>first|rfl|(cases o<;>first|rfl|(cases x<;>cases y<;>first|rfl|(simp[GM]at this)))
 |agg c=>exact absurd rfl (h c)
 |_=>cases op<;>rfl
end
def uB{P:Program}{t n:Nat}(h:CY P t=some n):∃i,P.info? t=some i∧i.size=n:=by
 simp_all [CY]
def Hc{P:Program}{t n:Nat}(h:CY P t=some n)(w:World):(sizeOf t).run P w= .ok n w:=by
 obtain⟨i,hi,rfl⟩:=uB h;simp[sizeOf,typeInfo,hi]
def H5{P:Program}{t:TypeId}{d:TypeDesc}(h:P.underlying t=some d)(w:World):(isAgg t).run P w= .ok (GU d) w:=by
 unfold isAgg;simp only[Sem.run_bind,run_underlying h,Result.andThen_ok];cases d<;>rfl
def Rep.un1{w:World}{g:Gh}{d:D}{v:Value}(h:Rep w g d v):Rep w g d.un1 v:=by
 cases h with
 |nils t=>exact .nils []
 |slice t xs a n c sz e u y x p m h6 h7 r q=>exact .slice [] xs a n c sz e u y x p m h6 h7 (λh=>absurd rfl h) q
 |junk v=>exact .junk v
 |bool b=>exact .bool b
 |int k n=>exact .int k n
 |str s=>exact .str s
 |ptr i o b u=>exact .ptr i o b u
 |row i n c b z u=>exact .row i n c b z u
 |eptr ds a e u y x p m=>exact .eptr ds a e u y x p m
 |nilp=>exact .nilp
 |agg ds vs u y x=>exact .agg ds vs u y x
 |tup ds vs u y=>exact .tup ds vs u y
 |iface t d v u y=>exact .iface t d v u y
 |nili=>exact .nili
 |fn f ds vs u y=>exact .fn f ds vs u y
 |nilf=>exact .nilf
 |nilm=>exact .nilm
 |itp i b u=>exact .itp i b u
def Rep.un{w:World}{g:Gh}{d:D}{v:Value}(h:Rep w g d v):Rep w g d.un v:=by
 cases d with
 |agg cs=>
  obtain⟨vs,rfl,u,f,i⟩:=aI h;refine .agg _ vs (by simp[u]) f (λj d v p y=>?_);rw[Qi,Qb]at p;obtain⟨b,na,rfl⟩:=p;exact(i j b v na y).un1
 |slice nl t xs=>exact h.un1
 |_=>exact h
def aGI{d:D}(h:d.data=true):d.un.data=true:=by cases d<;>first|exact h|rfl
theorem PF(d:D):d.un.cells.length=d.cells.length:=by cases d<;>simp[D.un,D.cells]
def Rq{P:Program}{t:TypeId}(h:pU P t=some none):∃d,P.underlying t=some d∧GU d=false:=by
 unfold pU at h;split at h
 ·simp at h
 ·simp at h
 ·rename_i d n1 n2 p;refine⟨d,p,?_⟩;cases d<;>first|rfl|(exact absurd rfl (n1 _))|(exact absurd rfl (n2 _ _))
 ·cases h
def Rp{P:Program}{t n:Nat}(h:pU P t=some (some n)):∃d,P.underlying t=some d∧GU d=true∧CY P t=some n:=by
 unfold pU at h;split at h
 ·rename_i p;simp only[Qb,Qa]at h;obtain⟨x,q,rfl⟩:=h;exact⟨_,p,rfl,q⟩
 ·rename_i p;simp only[Qb,Qa]at h;obtain⟨x,q,rfl⟩:=h;exact⟨_,p,rfl,q⟩
 ·simp at h
 ·cases h
def Cr{sz:Nat}:∀{xs:List D},(∀d∈xs,d.cells.length=sz)->(flat xs).length=xs.length*sz
 |[],_=>XI
 |x::r,h=>by
  have ih:=Cr (xs:=r) (λd p=>h d (Qq _ p));simp only[flat,Zu,Qo,ih,h x (Qn ..),QQ,Nat.one_mul];omega
theorem Et{sz:Nat}:∀{xs:List D} {k j:Nat},(∀d∈xs,d.cells.length=sz)->(o:k<xs.length)->j<sz->(flat xs)[k*sz+j]?=(xs[k]).cells[j]?
 |x::r,0,j,h,o,hj=>by
  simp only[flat,Nat.zero_mul,Qu,List.getElem_cons_zero];rw[Qm (by rw[h x (Qn ..)];exact hj)]
 |x::r,k+1,j,h,o,hj=>by
  have q:=h x (Qn ..);have ih:=Et (xs:=r) (k:=k) (j:=j) (λd p=>h d (Qq _ p)) XX hj;simp only[flat,List.getElem_cons_succ];rw[QF (by rw[q,QQ];omega),q,←ih];congr 1;rw[QQ];omega
def TO{sz:Nat}:∀{xs:List D} (l:Nat),(∀d∈xs,d.cells.length=sz)->flat (xs.drop l)=(flat xs).drop (l*sz)
 |[],l,_=>XI
 |x::r,0,_=>U
 |x::r,l+1,h=>by
  have q:=h x (Qn ..);rw[List.drop_succ_cons,TO l (λd p=>h d (Qq _ p))];simp only[flat];rw[show(l+1)*sz=x.cells.length+l*sz by rw[q,QQ];omega,←Zo,List.drop_left]
def IS:∀(xs ys:List D),flat (xs++ys)=flat xs++flat ys
 |[],ys=>XI
 |x::r,ys=>by simp[flat,IS r ys]
def SE{sz:Nat}{xs:List D}{n:Nat}{j:Nat}{d:D}(h:(flat (xs.take n))[j]?=some d):(flat xs)[j]?=some d:=by
 have e:flat xs=flat (xs.take n)++flat (xs.drop n):=by rw[←IS,List.take_append_drop]
 rw[e,Qm (Qe.1 h).1];exact h
def yA(l:List UInt8)(n:Nat):(ByteArray.mk l.toArray)[n]?=l[n]?:=by
 by_cases h:n<l.length
 ·rw[Qc h];rw[getElem?_pos (ByteArray.mk l.toArray) n (by simpa[ByteArray.size]using h)];rfl
 ·rw[Qj O];exact getElem?_neg (ByteArray.mk l.toArray) n (by simpa[ByteArray.size]using h)
def SH(l:List UInt8)(a b:Nat):(ByteArray.mk l.toArray).extract a b=⟨((l.drop a).take (b-a)).toArray⟩:=by
 apply ByteArray.ext;rw[ByteArray.data_extract];simp[Q7,QV]
section
variable{P:Program}{B:Nat}{w0 w:World}{m:G6}{g:Gh}{fr:Id}{s:Nat->D}{a:Act}
theorem FG(h:DZ w g s a){x:Option Operand}{y:Option G9}(d:Iu x=some y){b r n:Nat}(t:FI s y b r=some n):
  (x=none∧n=b∧y=none)∨(∃o k,x=some o∧a.eval o= .int k (n:Int)∧n<=r):=by
 cases x with
 |none=>
  simp only[Iu,Qa]at d;subst d;simp only[FI,Qa]at t;exact .inl ⟨rfl,t.symm,rfl⟩
 |some o=>
  simp only[Iu,Qb]at d;obtain⟨z,f,rfl⟩:=d;have i:=h.arg f;simp only[FI]at t;split at t
  ·rename_i k q v;rw[v]at i;split at t
   ·rename_i m;simp only[Qa]at t;refine .inr ⟨o,k,rfl,?_,O⟩;rw[i.int_inv];congr 1;omega
   ·cases t
  ·cases t
def EA(h:DZ w g s a){lo hi:Option Operand}{t p:Option G9}(e:Iu lo=some t)(i:Iu hi=some p)(x:Bool){len cap l f:Nat}(m:len<=cap)
  (r:FI s p len len=some f) (n:FI s t 0 f=some l):
  (Instr.sliceBounds x len cap (lo.map a.eval) (hi.map a.eval) none).run P w= .ok (l,f,cap) w∧l<=f∧f<=len:=by
 have d:f<=len:=by
  grind [FG]
 have b:l<=f:=by
  grind [FG]
 refine⟨?_,b,d⟩;unfold Instr.sliceBounds;rcases FG h i r with ⟨rfl,rfl,_⟩|⟨o,k,rfl,j,u⟩<;>rcases FG h e n with ⟨rfl,rfl,_⟩|⟨o',v,rfl,c,z⟩
 ·simp
 ·simp[Instr.sliceBound,asIntOf,c];intro;omega
 ·simp[Instr.sliceBound,asIntOf,j];intro;omega
 ·simp[Instr.sliceBound,asIntOf,j,c];rw[if_pos O];simp;intro;omega
end
section
variable{P:Program}{B:Nat}{w0 w:World}{m:G6}{g:Gh}{fr:Id}{s:Nat->D}{a:Act}
theorem BG:∀{n o:Nat} {i:Id} {ds:List D},Ag m i o n=some ds->ds.length=n∧∀j,j<n->m i (o+j)=ds[j]?
 |0,o,i,ds,h=>by simp only[Ag,Qa]at h;subst h;simp
 |n+1,o,i,ds,h=>by
  unfold Ag at h;split at h
  ·rename_i d t;rw[Qb]at h;obtain⟨r,x,rfl⟩:=h;obtain⟨p,q⟩:=BG x;refine⟨by simp[p],λj e=>?_⟩;cases j with
   |zero=>simpa using t
   |succ j=>
    have:=q j O;rw[show o+(j+1)=o+1+j by omega,this];simp
  ·cases h
def He.cells(h:He P B w0 m w g){i:Id}{b o n:Nat}{ds:List D}(t:g.dl i=some b)(x:Ag m i o n=some ds):
  ∃vs:List Value,AZ w g ds vs∧∀j v,vs[j]?=some v->w.cell? ⟨b,o+j,none⟩=some v:=by
 obtain⟨_,_,cs,T,f,ta⟩:=h.obj i b t;obtain⟨hl,a⟩:=BG x;have z:∀j,j<n->∃d v,ds[j]?=some d∧cs[o+j]?=some v∧v.oneCell'=true∧Rep w g d v:=by
  simp_all
 refine⟨(Qt n).map λj=>cs.getD (o+j) undef,⟨by simp[hl],λv y=>?_,λj d v p y=>?_⟩,λj v y=>?_⟩
 ·rw[Qv]at y;obtain⟨j,e,rfl⟩:=y;obtain⟨d,v,_,k,r,_⟩:=z j (Ql.1 e);rw[Qh,k];exact r
 ·have e:j<n:=by have:=(Qe.1 p).1;omega
  obtain⟨u,s,c,k,r,q⟩:=z j e;rw[c]at p;simp only[Qa]at p;subst p;rw[Qi,Zq e,QY,Qa,Qh,k]at y;subst y;exact q
 ·have e:j<n:=by have:=(Qe.1 y).1;simpa using this
  obtain⟨u,s,c,k,r,q⟩:=z j e;rw[Qi,Zq e,QY,Qa,Qh,k]at y;subst y;simp[World.cell?,f,k]
def He.cell(h:He P B w0 m w g){i:Id}{b o:Nat}{d:D}(z:g.dl i=some b)(j:m i o=some d):
  ∃v,w.cell? ⟨b,o,none⟩=some v∧v.oneCell'=true∧Rep w g d v:=by
 obtain⟨_,_,cs,T,f,ta⟩:=h.obj i b z;obtain⟨v,t,r,q⟩:=ta _ _ j;exact⟨v,by simp[World.cell?,f,t],r,q⟩
def E8(b o j:Nat):(⟨b,o,none⟩:Addr).add j=⟨b,o+j,none⟩:=by unfold Addr.add;split<;>simp_all
def D7{t:TypeId}(o:pU P t=some none){ad:Addr}{v:Value}(s:w.cell? ad=some v):(loadVar t ad).run P w= .ok v w:=by
 obtain⟨d,z,p⟩:=Rq o;simp[loadVar,H5 z,p,s]
def EB{t n:Nat}(o:pU P t=some (some n)){ad:Addr}{vs:List Value}(hl:vs.length=n)(s:∀j v,vs[j]?=some v->w.cell? (ad.add j)=some v):
  (loadVar t ad).run P w= .ok (.agg vs.toArray) w:=by
 obtain⟨d,x,p,z⟩:=Rp o;subst hl;simp[loadVar,H5 x,p,Hc z,run_loadCells_list w ad vs s]
def Sv{t n:Nat}(j:CY P t=some n){b o:Nat}{cs:Array Value}{T:TypeId}(f:w.heap[b]?=some (.cells cs T (0,0))){v:Value}(y:v.cells.size=n)
  (q:∀u∈v.cells.toList,u.oneCell'=true) (g:o+n<=cs.size):
  (storeVar t ⟨b,o,none⟩ v).run P w= .ok () (w.setRow b (cs.toList.take o++v.cells.toList++cs.toList.drop (o+v.cells.toList.length)).toArray):=by
 unfold storeVar;simp only[Sem.run_bind,Hc j,Result.andThen_ok];rw[if_neg (by simp[y])];have:=run_storeCells_at (P:=P) b o T v.cells.toList 0 cs w f (by simp[y];omega) q;simpa using this
def GJ(e:TypeId)(cells:Array Value)(w:World):(newRow e cells).run P w= .ok ⟨w.heap.size,0,none⟩ (w.alloc (.cells cells e)):=by
 simp only[newRow,Sem.run_bind,run_newObj,Result.andThen_ok,Sem.run_pure];rfl
def AZ.flat{sz:Nat}:∀{xs:List D} {vs:List Value},(∀d∈xs,d.data=true∧d.cells.length=sz)->vs.length=xs.length->(∀(j:Nat) d v,xs[j]?=some d->vs[j]?=some v->Rep w g d v)->
  AZ w g (flat xs) (vs.flatMap λv=>v.cells.toList)
 |[],vs,_,hl,_=>by
  have:vs=[]:=QM Xk;subst this;exact AZ.nil w g
 |x::r,[],_,hl,_=>by cases hl
 |x::r,v::vs,h,hl,hr=>by
  have z:=hr 0 x v rfl rfl;simp only[Vd.flat,Zd];exact AZ.append (z.cells (h x (Qn ..)).1) (AZ.flat (λd p=>h d (Qq _ p)) Xk (λj d u p q=>hr (j+1) d u XV Xu))
def aG{t:Id}{xs:List D}{vs:List Value}{b n c sz:Nat}{cur:Array Value}{T:TypeId}{fz:Nat×Nat}(f:w.heap[b]?=some (.cells cur T fz))(o:n=xs.length)(s:n<=c)
  (q:∀d∈xs,d.cells.length=sz) (i:AZ w g (flat xs) vs) (y:∀(j:Nat) v,vs[j]?=some v->cur[j]?=some v) (k:n*sz<=g.G b) (u:t≠[]->g.tb t=some (b,n,c,sz)) (m:∀d∈xs,d.calm=true):
  Rep w g (.slice false t xs) (.slice (some ⟨b,0,none⟩) n c):=by
 have z:=Cr q;have r:vs.length=n*sz:=by rw[i.1,z,o]
 refine .slice t xs ⟨b,0,none⟩ n c sz (λj=>vs.getD j undef) o s q (λj e=>?_) (λj e=>?_) (λj d p=>?_) (λ_=>XY) (λh=>⟨rfl,rfl,u h⟩) m
 ·have x:j<vs.length:=by omega
  rw[E8,Qu];have:=y j vs[j] (Qc x);simp[World.cell?,f,this,Q0,Qc x]
 ·have x:j<vs.length:=by omega
  simp only[Q0,Qc x,QE];exact i.2.1 _ (Q1 x)
 ·have x:j<vs.length:=by have:=(Qe.1 p).1;rw[i.1];exact this
  simp only[Q0,Qc x,QE];exact i.2.2 j d _ p (Qc x)
def Ot:∀(vs:List Value)(k:Nat)(off:Nat)(cs:Array Value),off+k+vs.length<=cs.size->
  ((vs.zipIdx k).foldl (λcs (x:Value×Nat)=>cs.setIfInBounds (off+x.2) x.1) cs).toList=cs.toList.take (off+k)++vs++cs.toList.drop (off+k+vs.length)
 |[],k,off,cs,_=>U
 |v::r,k,off,cs,h=>by
  simp only[List.zipIdx_cons,Q8];rw[Ot r (k+1) off (cs.setIfInBounds (off+k) v) (by simp at h ⊢;omega)];simp only[Array.toList_setIfInBounds,Qo];have hl:off+k<cs.toList.length:=by simp at h ⊢;omega
  rw[show off+(k+1)=off+k+1 by omega];rw[List.take_succ_eq_append_getElem Xk];rw[List.take_set_of_le O];rw[List.drop_set_of_lt O];simp only[List.getElem_set_self,QK,Q2,Zl];rw[show off+k+1+r.length=off+k+(r.length+1)by omega]
def Fe(vs:Array Value)(off:Nat)(cs:Array Value)(h:off+vs.size<=cs.size):
  (vs.zipIdx.foldl (λcs (x:Value×Nat)=>cs.setIfInBounds (off+x.2) x.1) cs).toList=cs.toList.take off++vs.toList++cs.toList.drop (off+vs.toList.length):=by
 have:=Ot vs.toList 0 off cs Xl;rw[←Array.foldl_toList,Array.toList_zipIdx];simpa using this
end
structure At (P:Program) (B:Nat) (w0 w:World) (m:G6) (g:Gh) (fr:Id) (s:Nat->D) (a:Act):Prop where
 inv:He P B w0 m w g
 slots:DZ w g s a
 fresh:∀i,fr<:+i->B1 m g i
section
variable{P:Program}{B:Nat}{w0 w:World}{m:G6}{g:Gh}{fr:Id}{s:Nat->D}{a:Act}{S:GZ}{d:D}{u:Ha}
def At.self(h:At P B w0 w m g fr s a):B1 m g fr:=h.fresh fr (List.suffix_refl fr)
def ET{i:Id}(d:B1 m g i)(q:¬fr<:+i)(ds:List D)(b:Nat):B1 (m.put fr 0 ds) (g.obj fr b) i:=by
 have:i≠fr:=λe=>q Yn
 exact⟨λo=>by rw[aA this];exact d.1 o,by simp only[Gh.obj];rw[if_neg this];exact d.2.1,d.2.2⟩
def C0{i:Id}(d:B1 m g i)(q:¬fr<:+i)(x b n c sz:Nat):B1 (m.put fr 0 [.tok x]) (g.tok fr b n c sz) i:=by
 have:i≠fr:=λe=>q Yn
 exact⟨λo=>by rw[aA this];exact d.1 o,d.2.1,by simp only[Gh.tok];rw[if_neg this];exact d.2.2⟩
def lV{t:TypeId}{o:Oper}(h:At P B w0 w m g fr s a){z:D}(f:Dc P t=some z)(r:o.op= .alloc t):
  C8 P B w0 m g fr w (m.put fr 0 z.cells) (.ptr fr 0) (execOp a.eval o):=by
 unfold Dc at f;split at f
 ·rename_i i hi;split at f
  ·rename_i v y;have j:Rep w g z v:=Rep.ofVal f;have p:z.data=true:=by
    cases v<;>first|(simp only[ofVal,Qb]at f;obtain⟨l,_,rfl⟩:=f;rfl)|(simp only[ofVal]at f;exact Oz f)
   have hc:=j.cells p;refine⟨.pointer (some ⟨w.heap.size,0,none⟩),w.alloc (.cells v.cells t),g.obj fr w.heap.size,.value (.pointer (some ⟨w.heap.size,0,none⟩)),?_,.inl rfl,?_⟩
   ·simp only[execOp,r,Instr.alloc,zeroValue,Sem.run_bind,typeInfo,run_program,Result.andThen_ok,hi,y,Sem.run_pure,newVar,GJ]
   ·have:=h.inv.newObj h.self (ds:=z.cells) (vs:=v.cells.toList) t hc;rw[QC]at this;exact⟨this,Ht.newObj _ h.inv.gz h.self.2.1,Rep.newObj _ g fr _,λi d q=>ET d q _ _⟩
  ·cases f
 ·cases f
def aCT{t:TypeId}{o:Oper}{x:Operand}{y:G9}(h:At P B w0 w m g fr s a)(q:AC x=some y)(p:(y.ev s).data=true)(r:o.op= .box t x):
  C8 P B w0 m g fr w (m.put fr 0 (y.ev s).cells) (.ptr fr 0) (execOp a.eval o):=by
 have j:=h.slots.arg q;have hc:=j.cells p;refine⟨.pointer (some ⟨w.heap.size,0,none⟩),w.alloc (.cells (a.eval x).cells t),g.obj fr w.heap.size,.value (.pointer (some ⟨w.heap.size,0,none⟩)),?_,.inl rfl,?_⟩
 ·simp only[execOp,r,Instr.box,Sem.run_bind,Result.andThen_ok,Sem.run_pure,newVar,GJ]
 ·have:=h.inv.newObj h.self (ds:=(y.ev s).cells) (vs:=(a.eval x).cells.toList) t hc;rw[QC]at this;exact⟨this,Ht.newObj _ h.inv.gz h.self.2.1,Rep.newObj _ g fr _,λi d ga=>ET d ga _ _⟩
def wV{t:TypeId}{o:Oper}{x:Operand}{y:G9}{k:Option Nat}(h:At P B w0 w m g fr s a)(hk:pU P t=some k)(q:AC x=some y)(ho:o.op= .load t x)
  (f:Ax S s m fr (.load k y)=some (d,u)):u=[]∧C8 P B w0 m g fr w m d (execOp a.eval o):=by
 have hr:=h.slots.arg q;have ma:∀ad v,a.eval x= .pointer (some ad)->(loadVar t ad).run P w= .ok v w->(execOp a.eval o).run P w= .ok (.value v) w:=by
  intro ad v c e2;simp only[execOp,ho,Instr.loadAt,c,Instr.sureAddr,Sem.run_bind,Result.andThen_ok,Sem.run_pure,e2]
 simp only[Ax]at f;split at f
 ·rename_i i o' e;rw[e]at hr;obtain⟨b,c,z⟩:=hr.ptr_inv;rw[Qb]at f;obtain⟨d',hm,f⟩:=f;simp only[Qd]at f;obtain⟨rfl,rfl⟩:=f;obtain⟨v,c1,c2,c3⟩:=h.inv.cell z hm;exact⟨rfl,.pure h.inv (ma _ _ c (D7 hk c1)) c3⟩
 ·rename_i i o' n e;rw[e]at hr;obtain⟨b,c,z⟩:=hr.ptr_inv;rw[Qb]at f;obtain⟨ds,hm,f⟩:=f;simp only[Qd]at f;obtain⟨rfl,rfl⟩:=f;obtain⟨vs,c1,c2⟩:=h.inv.cells z hm;have hl:=(BG hm).1;exact⟨rfl,.pure h.inv (ma _ _ c (EB hk (by rw[c1.1,hl]) (λj v hv=>by rw[E8];exact c2 j v hv))) (aJ c1)⟩
 ·rename_i ds e;rw[e]at hr;obtain⟨ad,vv,c,q1,q2,q3,q4,q5⟩:=hr.eptr_inv;rw[Qb]at f;obtain⟨d',hm,f⟩:=f;simp only[Qd]at f;obtain⟨rfl,rfl⟩:=f;have h0:ds[0]?=some d':=by rw[←List.head?_eq_getElem?];exact hm
  have hl:0<ds.length:=(Qe.1 h0).1;exact⟨rfl,.pure h.inv (ma _ _ c (D7 hk (by have:=q1 0 hl;simpa[Addr.add]using this))) (q3 0 _ h0)⟩
 ·rename_i ds n e;rw[e]at hr;obtain⟨ad,vv,c,q1,q2,q3,q4,q5⟩:=hr.eptr_inv;split at f
  ·rename_i hn;simp only[Qa,Qd]at f;obtain⟨rfl,rfl⟩:=f;have r:((Qt n).map vv).length=n:=by simp
   refine⟨rfl,.pure h.inv (ma _ _ c (EB hk r (λj v hv=>?_))) (aJ ⟨Xb,λv hv=>?_,λj d v p hv=>?_⟩)⟩
   ·grind
   ·grind
   ·grind
  ·cases f
 ·cases f
theorem lO{t:TypeId}{o:Oper}{x v:Operand}{y z:G9}{n:Nat}(h:At P B w0 w m g fr s a)(hn:CY P t=some n)(pa:0<n)(q:AC x=some y)(r:AC v=some z)(ho:o.op= .store t x v)
  (he:Ax S s m fr (.store n y z)=some (d,u)):C8 P B w0 m g fr w (Ha.app m u) d (execOp a.eval o):=by
 have hr:=h.slots.arg q;have k:=h.slots.arg r;simp only[Ax]at he;split at he
 ·rename_i i o' e;rw[e]at hr;obtain⟨b,e1,hb⟩:=hr.ptr_inv;split at he
  ·rename_i hc;obtain⟨c1,c2,c3⟩:=hc;simp only[Qa,Qd]at he;obtain⟨rfl,rfl⟩:=he;rw[Zf]at c3;obtain⟨fa,f⟩:=c3;obtain⟨vs,r1,r2⟩:=h.inv.cells hb f;obtain⟨_,_,cs,T,hh,ta⟩:=h.inv.obj i b hb;have c:=k.cells c1;have ja:(a.eval v).cells.size=n:=by have:=c.1;simp at this;omega
   have ca:o'+n<=cs.size:=by
    have hl:=(BG f).1;have j:vs[n-1]?=some (vs[n-1]'(by rw[r1.1];omega)):=Qc _;have:=r2 (n-1) _ j;simp only[World.cell?,hh]at this;have:=(Qf.1 (by simpa using this)).1;omega
   refine⟨undef,w.setRow b (cs.toList.take o'++(a.eval v).cells.toList++cs.toList.drop (o'+(a.eval v).cells.toList.length)).toArray,g,.skip,?_,.inr ⟨rfl,rfl⟩,?_⟩
   ·have:=Sv hn hh (v:=a.eval v) ja c.2.1 ca;simp only[execOp,ho,Instr.storeAt,e1,Instr.sureAddr,Sem.run_bind,Result.andThen_ok,Sem.run_pure,this]
   ·have hG:=(h.inv.obj i b hb).2.1;refine⟨?_,Ht.setRow hG,.junk _,λi' hf p=>?_⟩
    ·exact h.inv.store hb hh (ds:=(z.ev s).cells) (us:=(a.eval v).cells.toList) c O
    ·refine⟨λo=>?_,hf.2⟩;simp only[Ha.app];rw[aA (by rintro rfl;rw[hf.2.1]at hb;cases hb)];exact hf.1 o
  ·cases he
 ·cases he
end
section
variable{P:Program}{B:Nat}{w0 w:World}{m:G6}{g:Gh}{fr:Id}{s:Nat->D}{a:Act}{S:GZ}{d:D}{u:Ha}
def lT{t:TypeId}{f:Nat}{o:Oper}{x:Operand}{y:G9}{r:Array Field}{fd:Field}{n:Nat}(h:At P B w0 w m g fr s a)(hu:P.underlying t=some (.struct r))(hf:r[f]?=some fd)
  (hn:CY P fd.type=some (n+1)) (q:AC x=some y) (ho:o.op= .fieldAddr t x f) (v:Ax S s m fr (.faddr fd.offset y)=some (d,u)):u=[]∧C8 P B w0 m g fr w m d (execOp a.eval o):=by
 have hr:=h.slots.arg q;have ma:∀ad,a.eval x= .pointer (some ad)->(execOp a.eval o).run P w= .ok (.value (.pointer (some (ad.add fd.offset)))) w:=by
  intro ad e;simp[execOp,ho,Instr.fieldAt,run_underlying hu,hf,e,Instr.sureAddr,fieldPlace,Hc hn]
 simp only[Ax]at v;split at v
 ·rename_i i o' e;rw[e]at hr;obtain⟨b,c,z⟩:=hr.ptr_inv;simp only[Qa,Qd]at v;obtain⟨rfl,rfl⟩:=v;refine⟨rfl,.pure h.inv (ma _ c) ?_⟩;rw[E8];exact .ptr i _ b z
 ·rename_i ds e;rw[e]at hr;obtain⟨ad,vv,c,q1,q2,q3,q4,q5⟩:=hr.eptr_inv;split at v
  ·rename_i hl;simp only[Qa,Qd]at v;obtain⟨rfl,rfl⟩:=v;refine⟨rfl,.pure h.inv (ma _ c) (.eptr _ _ (λj=>vv (fd.offset+j)) (λj hj=>?_) (λj hj=>?_) (λj d p=>?_) (λk=>?_) (λd p=>q5 d (Qx p)))⟩
   ·grind [add_add]
   ·grind
   ·simp_all
   ·rw[Dy,FL];simp at k ⊢;have:=q4 O;omega
  ·cases v
 ·cases v
def lS{t:TypeId}{f:Nat}{o:Oper}{x:Operand}{y:G9}{r:Array Field}{fd:Field}{k:Option Nat}(h:At P B w0 w m g fr s a)(hu:P.underlying t=some (.struct r))(hf:r[f]?=some fd)
  (hk:pU P fd.type=some k) (q:AC x=some y) (ho:o.op= .field t x f) (he:Ax S s m fr (.field k fd.offset y)=some (d,u)):u=[]∧C8 P B w0 m g fr w m d (execOp a.eval o):=by
 have i:=h.slots.arg q;simp only[Ax]at he;split at he
 ·rename_i cs e;rw[e]at i;obtain⟨vs,e1,r1⟩:=aI i;rw[Qb]at he;obtain⟨d',p,he⟩:=he;simp only[Qd]at he;obtain⟨rfl,rfl⟩:=he;obtain⟨td,c,b⟩:=Rq hk;have hv:fd.offset<vs.length:=by rw[r1.1];exact(Qe.1 p).1
  refine⟨rfl,.pure (v:=vs[fd.offset]) h.inv ?_ (r1.2.2 _ _ _ p (Qc hv))⟩;have:=CA (w:=w) c b (cs:=vs.toArray) (o:=fd.offset) (v:=vs[fd.offset]) (by simp[hv]);simp[execOp,ho,Instr.field,run_underlying hu,hf,e1,asAgg,this]
 ·rename_i cs n e;rw[e]at i;obtain⟨vs,e1,r1⟩:=aI i;split at he
  ·rename_i hl;simp only[Qa,Qd]at he;obtain⟨rfl,rfl⟩:=he;obtain⟨td,c,b,z⟩:=Rp hk;refine⟨rfl,.pure (v:= .agg ((vs.drop fd.offset).take n).toArray) h.inv ?_ (aJ ⟨by simp[r1.1],λv hv=>?_,λj d v p hv=>?_⟩)⟩
   ·simp only[execOp,ho,Instr.field,Sem.run_bind,run_underlying hu,hf,e1,asAgg,part,H5 c,b,Result.andThen_ok,Hc z,Sem.run_pure,if_true];congr 3;simp[Q7,QV]
   ·exact r1.2.1 v (Qx (QB hv))
   ·have hj:j<n:=by
     rcases Zv j n with h1|h1
     ·exact h1
     ·rw[Qj Xb]at p;cases p
    rw[Qp hj,Qw]at p hv;exact r1.2.2 _ d v p hv
  ·cases he
 ·cases he
def Ma{d:D}(h:d.calm=true):∀x∈d.cells,x.calm=true:=by
 intro x q;have k:∀x:D,x.calm1=true->x.calm=true:=by
  intro x q;cases x<;>first|exact q|(simp[D.calm1]at q)
 cases d with
 |agg cs=>exact k x (Qy.1 h x q)
 |_=>simp only[D.cells,Q_]at q;subst q;exact h
def lQ{t e:TypeId}{o:Oper}{x i:Operand}{y z:G9}{sz:Nat}(h:At P B w0 w m g fr s a)(hu:P.underlying t=some (.slice e))(hs:CY P e=some sz)
  (hx:AC x=some y) (hi:AC i=some z) (ho:o.op= .indexAddr t x i) (he:Ax S s m fr (.iaddr sz y z)=some (d,u)):u=[]∧C8 P B w0 m g fr w m d (execOp a.eval o):=by
 have hr:=h.slots.arg hx;have aa:=h.slots.arg hi;simp only[Ax]at he;split at he
 ·rename_i nl t' xs k n ex ei;rw[ex]at hr;rw[ei]at aa;split at he
  ·rename_i h0;split at he
   ·rename_i d' hd;split at he
    ·rename_i ja;simp only[Qa,Qd]at he;obtain⟨rfl,rfl⟩:=he;have ea:n.toNat<xs.length:=(Qe.1 hd).1;rcases hr.slice_inv with ⟨_,rfl,_⟩|⟨rfl,ad,n',c,pa,vv,ev,rfl,h2,h3,h4,h5,h6,h7,h8,h9⟩
     ·simp at ea
     ·have q:d'∈xs:=Qr hd;have:pa=sz:=by rw[←h3 d' q];exact ja
      subst this;have ra:xs[n.toNat]=d':=by rw[Qc ea]at hd;simpa using hd
      have r:n.toNat*pa+pa<=xs.length*pa:=by rw[←Zw];exact QA _ ea
      refine⟨rfl,.pure (v:= .pointer (some (ad.add (n.toNat*pa)))) h.inv ?_ (.eptr _ _ (λj=>vv (n.toNat*pa+j)) (λj hj=>?_) (λj hj=>?_) (λj d2 p=>?_) (λhp=>?_) (Ma (h9 d' q)))⟩
      ·have ka:(0:Int)<=n∧n<(xs.length:Int):=by omega
       simp[execOp,ho,Instr.indexAt,asIntOf,aa.int_inv,ev,run_underlying hu,ka,Hc hs]
      ·grind [add_add]
      ·exact h5 _ O
      ·grind [Et]
      ·rw[Dy,FL];have hz:0<xs.length*pa:=by omega
       have:=h7 hz;omega
    ·cases he
   ·cases he
  ·cases he
 ·rename_i i' l k n ex ei;rw[ex]at hr;rw[ei]at aa;split at he
  ·rename_i hc;obtain⟨h0,ea⟩:=hc;simp only[Qa,Qd]at he;obtain⟨rfl,rfl⟩:=he;obtain⟨b,cap,ev,_,hb⟩:=hr.row_inv;have db:(if sz=1 then n.toNat else n.toNat*sz)=n.toNat*sz:=by
    simp_all
   rw[db];have f:(Addr.mk b 0 none).add (n.toNat*sz)=⟨b,n.toNat*sz,none⟩:=by rw[E8,Qu]
   refine⟨rfl,.pure (v:= .pointer (some ⟨b,n.toNat*sz,none⟩)) h.inv ?_ (.ptr _ _ b hb)⟩;have ka:(0:Int)<=n∧n<(l:Int):=⟨h0,ea⟩;simp only[←f];simp[execOp,ho,Instr.indexAt,asIntOf,aa.int_inv,ev,run_underlying hu,ka,Hc hs]
  ·cases he
 ·cases he
def wW{t:TypeId}{o:Oper}{x i:Operand}{y z:G9}(h:At P B w0 w m g fr s a)(hu:P.underlying t=some .string)
  (q:AC x=some y) (hi:AC i=some z) (ho:o.op= .index t x i) (f:Ax S s m fr (.idxs y z)=some (d,u)):u=[]∧C8 P B w0 m g fr w m d (execOp a.eval o):=by
 have j:=h.slots.arg q;have r:=h.slots.arg hi;simp only[Ax]at f;split at f
 ·rename_i b k n p e;rw[p]at j;rw[e]at r;split at f
  ·rename_i h0;rw[Qb]at f;obtain⟨c,hc,f⟩:=f;simp only[Qd]at f;obtain⟨rfl,rfl⟩:=f;refine⟨rfl,.pure (v:= .int .u8 c.toNat) h.inv ?_ (.int _ _)⟩;simp[execOp,ho,Instr.index,asIntOf,r.int_inv,j.str_inv,run_underlying hu,h0,yA,hc]
  ·cases f
 ·cases f
def wY{t e:TypeId}{len:Nat}{o:Oper}{x i:Operand}{y z:G9}(h:At P B w0 w m g fr s a)(hu:P.underlying t=some (.array len e))(hk:pU P e=some none)(j:CY P e=some 1)
  (q:AC x=some y) (hi:AC i=some z) (ho:o.op= .index t x i) (f:Ax S s m fr (.idxa len y z)=some (d,u)):u=[]∧C8 P B w0 m g fr w m d (execOp a.eval o):=by
 have hr:=h.slots.arg q;have r:=h.slots.arg hi;simp only[Ax]at f;split at f
 ·rename_i cs k n ex ei;rw[ex]at hr;rw[ei]at r;split at f
  ·rename_i h0;rw[Qb]at f;obtain⟨d',p,f⟩:=f;simp only[Qd]at f;obtain⟨rfl,rfl⟩:=f;obtain⟨vs,e1,r1⟩:=aI hr;obtain⟨td,c,b⟩:=Rq hk;have hv:n.toNat<vs.length:=by rw[r1.1];exact(Qe.1 p).1
   refine⟨rfl,.pure (v:=vs[n.toNat]) h.inv ?_ (r1.2.2 _ _ _ p (Qc hv))⟩;have:=CA (w:=w) c b (cs:=vs.toArray) (o:=n.toNat) (v:=vs[n.toNat]) (by simp[hv]);simp[execOp,ho,Instr.index,asIntOf,r.int_inv,run_underlying hu,e1,h0,Hc j,this]
  ·cases f
 ·cases f
def lR{t e:TypeId}{len sz:Nat}{o:Oper}{x i:Operand}{y z:G9}(h:At P B w0 w m g fr s a)(hu:P.underlying t=some (.array len e))(hs:CY P e=some sz)
  (hx:AC x=some y) (hi:AC i=some z) (ho:o.op= .indexAddr t x i) (f:Ax S s m fr (.iadda len sz y z)=some (d,u)):u=[]∧C8 P B w0 m g fr w m d (execOp a.eval o):=by
 have hr:=h.slots.arg hx;have r:=h.slots.arg hi;simp only[Ax]at f;split at f
 ·rename_i j off k n c p;rw[c]at hr;rw[p]at r;split at f
  ·rename_i hc;obtain⟨h0,q⟩:=hc;simp only[Qa,Qd]at f;obtain⟨rfl,rfl⟩:=f;obtain⟨b,ev,hb⟩:=hr.ptr_inv;refine⟨rfl,.pure (v:= .pointer (some ⟨b,off+n.toNat*sz,none⟩)) h.inv ?_ (.ptr _ _ b hb)⟩;have ka:(0:Int)<=n∧n<(len:Int):=⟨h0,q⟩;simp only[←E8 b off (n.toNat*sz)];simp[execOp,ho,Instr.indexAt,asIntOf,Instr.sureAddr,r.int_inv,ev,run_underlying hu,ka,Hc hs]
  ·cases f
 ·cases f
def wX{t e:TypeId}{len sz:Nat}{o:Oper}{x i:Operand}{y z:G9}(h:At P B w0 w m g fr s a)(hu:P.underlying t=some (.array len e))(hk:pU P e=some (some sz))
  (q:AC x=some y) (hi:AC i=some z) (ho:o.op= .index t x i) (f:Ax S s m fr (.idxm len sz y z)=some (d,u)):u=[]∧C8 P B w0 m g fr w m d (execOp a.eval o):=by
 have hr:=h.slots.arg q;have r:=h.slots.arg hi;simp only[Ax]at f;split at f
 ·rename_i cs k n ex ei;rw[ex]at hr;rw[ei]at r;split at f
  ·rename_i hc;obtain⟨h0,h1,hl⟩:=hc;simp only[Qa,Qd]at f;obtain⟨rfl,rfl⟩:=f;obtain⟨vs,e1,r1⟩:=aI hr;obtain⟨td,c,b,hs⟩:=Rp hk;refine⟨rfl,.pure (v:= .agg ((vs.drop (n.toNat*sz)).take sz).toArray) h.inv ?_ (aJ ⟨by simp[r1.1],λv hv=>?_,λj d v p hv=>?_⟩)⟩
   ·simp only[execOp,ho,Instr.index,Sem.run_bind,run_underlying hu,e1,r.int_inv,asIntOf,Result.andThen_ok,Sem.run_pure,h0,h1,and_self,if_true,Hc hs,part,H5 c,b];congr 3;simp[Q7,QV]
   ·exact r1.2.1 v (Qx (QB hv))
   ·have hj:j<sz:=by
     rcases Zv j sz with h1|h1
     ·exact h1
     ·rw[Qj Xb]at p;cases p
    rw[Qp hj,Qw]at p hv;exact r1.2.2 _ d v p hv
  ·cases f
 ·cases f
def wZ{t:TypeId}{o:Oper}{x:Operand}{lo hi:Option Operand}{y:G9}{c n:Option G9}(h:At P B w0 w m g fr s a)(hu:P.underlying t=some .string)
  (q:AC x=some y) (p:Iu lo=some c) (k:Iu hi=some n) (r:o.op= .slice t x lo hi none) (f:Ax S s m fr (.cuts y c n)=some (d,u)):
  u=[]∧C8 P B w0 m g fr w m d (execOp a.eval o):=by
 have i:=h.slots.arg q;simp only[Ax]at f;split at f
 ·rename_i b e;rw[e]at i;split at f
  ·rename_i hh eh;split at f
   ·rename_i l el;simp only[Qa,Qd]at f;obtain⟨rfl,rfl⟩:=f;obtain⟨z,_,_⟩:=EA (P:=P) (w:=w) h.slots p k false (len:=b.length) (cap:=b.length) (Qk _) eh el;refine⟨rfl,.pure (v:= .string ⟨((b.drop l).take (hh-l)).toArray⟩) h.inv ?_ (.str _)⟩;have j:(ByteArray.mk b.toArray).size=b.length:=by simp[ByteArray.size]
    simp only[execOp,r,Instr.sliceAt,Sem.run_bind,run_underlying hu,Result.andThen_ok,Instr.slice,i.str_inv,ZG,Option.isSome_none,QG,if_false,j,z,Sem.run_pure,SH]
   ·cases f
  ·cases f
 ·cases f
def TK{xs:List D}{sz k:Nat}(h:∀d∈xs,d.cells.length=sz)(o:aD xs k=k):xs=[]∨sz=k:=by
 cases xs with
 |nil=>exact .inl rfl
 |cons x r=>right;rw[←h x (Qn ..)];exact o
def xA{t e:TypeId}{o:Oper}{x:Operand}{lo hi:Option Operand}{y:G9}{l' h':Option G9}{sz:Nat}(h:At P B w0 w m g fr s a)(hu:P.underlying t=some (.slice e))(k:CY P e=some sz)
  (q:AC x=some y) (ra:Iu lo=some l') (sa:Iu hi=some h') (ho:o.op= .slice t x lo hi none) (v:Ax S s m fr (.cutl sz y l' h')=some (d,u)):
  u=[]∧C8 P B w0 m g fr w m d (execOp a.eval o):=by
 have i:=h.slots.arg q;simp only[Ax]at v;split at v
 ·rename_i nl t' xs e';rw[e']at i;split at v
  ·rename_i f;split at v
   ·rename_i hh eh;split at v
    ·rename_i l el;simp only[Qa,Qd]at v;obtain⟨rfl,rfl⟩:=v;have ma:∀ad n c l hh m',a.eval x= .slice ad n c->(Instr.sliceBounds true n c (lo.map a.eval) (hi.map a.eval) none).run P w= .ok (l,hh,m') w->
       (execOp a.eval o).run P w= .ok (.value (.slice (if m'=l then ad else ad.map (·.add (l*sz))) (hh-l) (m'-l))) w:=by
      intro ad n c l hh m' e1 e2;simp only[execOp,ho,Instr.sliceAt,Sem.run_bind,run_underlying hu,Result.andThen_ok,Instr.slice,e1,ZG,e2,Hc k,Sem.run_pure]
     rcases i.slice_inv with ⟨rfl,rfl,ev⟩|⟨rfl,ad,n,c,pa,vv,ev,hn,h2,h3,h4,h5,h6,h7,h8,h9⟩
     ·obtain⟨z,q1,q2⟩:=EA (P:=P) (w:=w) h.slots ra sa true (len:=0) (cap:=0) (Qk _) eh el;obtain rfl:hh=0:=by omega
      obtain rfl:l=0:=O
      exact⟨rfl,.pure h.inv (ma _ _ _ _ _ _ ev z) (.nils _)⟩
     ·subst hn;obtain⟨z,q1,q2⟩:=EA (P:=P) (w:=w) h.slots ra sa true (len:=xs.length) (cap:=c) h2 eh el;refine⟨rfl,.pure h.inv (ma _ _ _ _ _ _ ev z) ?_⟩;have b:∀d∈(xs.drop l).take (hh-l),d.cells.length=pa:=λd p=>h3 d (Qx (QB p))
      have r:((xs.drop l).take (hh-l)).length=hh-l:=Xb
      by_cases oa:c=l
      ·have h0:hh-l=0:=by omega
       rw[if_pos oa,h0];refine .slice [] _ ad 0 _ pa vv U (ZF _) U U U XI U U U
      ·rw[if_neg oa,QY];by_cases h0:hh-l=0
       ·rw[h0];exact .slice [] _ _ 0 _ pa vv U (ZF _) U U U XI U U U
       ·have ga:xs≠[]:=by rintro rfl;simp at q2;omega
        have ja:pa=sz:=(TK h3 f).resolve_left ga;subst ja;have qa:l*pa+(hh-l)*pa<=xs.length*pa:=by rw[←QQ];exact QA _ O
        refine .slice [] _ _ _ _ pa (λj=>vv (l*pa+j)) r.symm O b (λj hj=>?_) (λj hj=>h5 _ O) (λj d p=>h6 _ d ?_) (λhp=>?_) U (λd p=>h9 d (Qx (QB p)))
        ·rw[add_add];exact h4 _ O
        ·have:=SE (sz:=pa) p;rw[TO l h3,Qw]at this;exact this
        ·rw[Dy,FL];have:=h7 O;omega
    ·cases v
   ·cases v
  ·cases v
 ·cases v
end
section
variable{P:Program}{B:Nat}{w0 w:World}{m:G6}{g:Gh}{fr:Id}{s:Nat->D}{a:Act}{S:GZ}{d:D}{u:Ha}
def L2:∀{l:List (Nat×Nat×D)} {ps:List (Nat×Value)} {zs cs:List D} {zv:Array Value} {place:Nat->Option (Nat×Nat)},
  AZ w g zs zv.toList->l.length=ps.length->(∀(j:Nat) x p,l[j]?=some x->ps[j]?=some p->place p.1=some (x.1,x.2.1)∧Rep w g x.2.2 p.2)->
  Cn zs l=some cs->∃a:Array Value,Instr.fill place zv ps=some a∧AZ w g cs a.toList
 |[],[],zs,cs,zv,place,hz,_,_,h=>by
  simp only[Cn,Qa]at h;subst h;exact⟨zv,rfl,hz⟩
 |(off,sz,d)::l,[],zs,cs,zv,place,hz,hl,_,h=>by cases hl
 |[],p::ps,zs,cs,zv,place,hz,hl,_,h=>by cases hl
 |(off,sz,d)::l,(i,v)::ps,zs,cs,zv,place,hz,hl,hp,h=>by
  unfold Cn at h;split at h
  ·rename_i s;obtain⟨c1,c2,c3⟩:=s;obtain⟨e1,e2⟩:=hp 0 _ _ rfl rfl;simp only at e1 e2;have c:=e2.cells c1;have o:v.cells.size=sz:=by have:=c.1;simp at this;omega
   have u:=hz.1;simp only[QW]at u;have n:off+v.cells.size<=zv.size:=O
   have r:=Fe v.cells off zv n;have ra:AZ w g (Fz zs off d.cells) ((v.cells.zipIdx.foldl (λcs (x:Value×Nat)=>cs.setIfInBounds (off+x.2) x.1) zv)).toList:=by
    rw[r];unfold Fz;have h1:AZ w g (zs.take off) (zv.toList.take off):=by
     refine⟨Xb,λv y=>hz.2.1 v (QB y),λj d v t y=>?_⟩;have e:j<off:=by
      rcases Zv j off with h1|h1
      ·exact h1
      ·rw[Qj Xb]at t;cases t
     rw[Qp e]at t y;exact hz.2.2 j d v t y
    have f:AZ w g (zs.drop (off+d.cells.length)) (zv.toList.drop (off+v.cells.toList.length)):=by
     rw[c.1];refine⟨Xb,λv y=>hz.2.1 v (Qx y),λj d v t y=>?_⟩;rw[Qw]at t y;exact hz.2.2 _ d v t y
    exact AZ.append (AZ.append h1 c) f
   obtain⟨a,z,k⟩:=L2 (ps:=ps) (place:=place) ra Xk (λj x p q b=>hp (j+1) x p Xu (by simpa using b)) h;refine⟨a,?_,k⟩;unfold Instr.fill;rw[e1];simp only;rw[if_neg (by simp[o];omega)];exact z
  ·cases h
def OI{o:List Field}(W:World)(h:∀f∈o,∃n,CY P f.type=some n):
  ∃u:List (Nat×Nat),(o.mapM (m:=Sem) λ(f:Field)=>do pure (f.offset,←sizeOf f.type)).run P W= .ok u W∧u.length=o.length∧∀(i:Nat)(f:Field) n,o[i]?=some f->CY P f.type=some n->u[i]?=some (f.offset,n):=by
 induction o with
 |nil=>exact⟨[],U,rfl,U⟩
 |cons f r ih=>
  obtain⟨n,g⟩:=h f (Qn ..);obtain⟨u,c,v,k⟩:=ih (λf d=>h f (Qq _ d));refine⟨(f.offset,n)::u,?_,by simp[v],λi z s hi j=>?_⟩
  ·simp_all [Hc,c]
  ·grind
def F9{o:Array Field}:∀{ps:List (Nat×Operand)} {l:List (Nat×Nat×G9)},Du P o ps=some l->
  l.length=ps.length∧∀(j:Nat) x p,l[j]?=some x->ps[j]?=some p->∃f:Field,o[p.1]?=some f∧CY P f.type=some x.2.1∧x.1=f.offset∧AC p.2=some x.2.2
 |[],l,h=>by simp only[Du,Qa]at h;subst h;simp
 |(i,x)::r,l,h=>by
  unfold Du at h;split at h
  ·rename_i f y t g v d;split at h
   ·rename_i n e;simp only[Qa]at h;subst h;obtain⟨k,u⟩:=F9 d;refine⟨by simp[k],λj z p q c=>?_⟩;cases j with
    |zero=>
     simp only[QD,Qa]at q c;subst q c;exact⟨f,g,e,rfl,v⟩
    |succ j=>exact u j z p Xu (by simpa using c)
   ·cases h
  ·cases h
def LF{sz:Nat}:∀{ps:List (Nat×Operand)} {l:List (Nat×Nat×G9)},Ga sz ps=some l->
  l.length=ps.length∧∀(j:Nat) x p,l[j]?=some x->ps[j]?=some p->x.1=p.1*sz∧x.2.1=sz∧AC p.2=some x.2.2
 |[],l,h=>by simp only[Ga,Qa]at h;subst h;simp
 |(i,x)::r,l,h=>by
  unfold Ga at h;split at h
  ·rename_i y t v d;simp only[Qa]at h;subst h;obtain⟨k,o⟩:=LF d;refine⟨by simp[k],λj z p q c=>?_⟩;cases j with
   |zero=>
    simp only[QD,Qa]at q c;subst q c;exact⟨rfl,rfl,v⟩
   |succ j=>exact o j z p Xu (by simpa using c)
  ·cases h
def eV{t e:TypeId}{len sz:Nat}{z:Array (Nat×Operand)}{o:Oper}{zs:List D}{l:List (Nat×Nat×G9)}(h:At P B w0 w m g fr s a)(hu:P.underlying t=some (.array len e))
  (n:CY P e=some sz) (hz:Dc P t=some (.agg zs)) (hl:Ga sz z.toList=some l) (y:o.op= .build t z) (f:Ax S s m fr (.build zs l)=some (d,u)):
  u=[]∧C8 P B w0 m g fr w m d (execOp a.eval o):=by
 simp only[Ax]at f;rw[Qb]at f;obtain⟨cs,na,f⟩:=f;simp only[Qd]at f;obtain⟨rfl,rfl⟩:=f;unfold Dc at hz;split at hz
 ·rename_i k c;split at hz
  ·rename_i zv r;have hr:Rep w g (.agg zs) zv:=Rep.ofVal hz;obtain⟨vs,rfl,rz⟩:=aI hr;obtain⟨q1,q2⟩:=LF hl;have b:=L2 (w:=w) (g:=g) (l:=l.map λp=>(p.1,p.2.1,p.2.2.ev s)) (ps:=(z.map λ(i,x)=>(i,a.eval x)).toList) (zs:=zs) (cs:=cs) (zv:=vs.toArray) (place:=λi=>some (i*sz,sz))
    (by simpa using rz) (by simp[q1]) (λj x p q hp=>?_) na
   ·obtain⟨cv,f1,f2⟩:=b;refine⟨rfl,.pure (v:= .agg cv) h.inv ?_ ?_⟩
    ·simp only[execOp,y,Instr.build,zeroValue,typeInfo,Sem.run_bind,run_program,Result.andThen_ok,c,r,Sem.run_pure,run_underlying hu,Hc n,Value.cells,f1]
    ·have:=aJ f2
     rwa [QC]at this
   ·rw[Qi,Qb]at q;obtain⟨x',pa,rfl⟩:=q;rw[QL,Qi,Qb]at hp;obtain⟨p',wa,rfl⟩:=hp;obtain⟨r1,r2,r4⟩:=q2 j x' p' pa wa;refine⟨?_,h.slots.arg r4⟩;simp[r1,r2]
  ·cases hz
 ·cases hz
def lU{t:TypeId}{z:Array (Nat×Operand)}{o:Oper}{y:Array Field}{zs:List D}{l:List (Nat×Nat×G9)}(h:At P B w0 w m g fr s a)(hu:P.underlying t=some (.struct y))
  (ea:eL P y.toList=true) (hz:Dc P t=some (.agg zs)) (hl:Du P y z.toList=some l) (ho:o.op= .build t z) (he:Ax S s m fr (.build zs l)=some (d,u)):
  u=[]∧C8 P B w0 m g fr w m d (execOp a.eval o):=by
 simp only[Ax]at he;rw[Qb]at he;obtain⟨cs,na,he⟩:=he;simp only[Qd]at he;obtain⟨rfl,rfl⟩:=he;unfold Dc at hz;split at hz
 ·rename_i k c;split at hz
  ·rename_i zv r;have hr:Rep w g (.agg zs) zv:=Rep.ofVal hz;obtain⟨vs,rfl,rz⟩:=aI hr;have q:∀f∈y.toList,∃n,CY P f.type=some n:=by
    intro f e;have:=Qy.1 ea f e;rw[Zf]at this;exact this
   obtain⟨pl,p1,p2,p3⟩:=OI (P:=P) w q;obtain⟨q1,q2⟩:=F9 hl;have b:=L2 (w:=w) (g:=g) (l:=l.map λp=>(p.1,p.2.1,p.2.2.ev s)) (ps:=(z.map λ(i,x)=>(i,a.eval x)).toList) (zs:=zs) (cs:=cs) (zv:=vs.toArray) (place:=λi=>pl.toArray[i]?)
    (by simpa using rz) (by simp[q1]) (λj x p hx hp=>?_) na
   ·obtain⟨cv,f1,f2⟩:=b;refine⟨rfl,.pure (v:= .agg cv) h.inv ?_ ?_⟩
    ·have hm:(y.mapM (m:=Sem) λ(f:Field)=>do pure (f.offset,←sizeOf f.type)).run P w= .ok pl.toArray w:=by
      rw[Zc,Sem.run_map,p1];rfl
     simp only[execOp,ho,Instr.build,zeroValue,typeInfo,Sem.run_bind,run_program,Result.andThen_ok,c,r,Sem.run_pure,run_underlying hu,hm,Value.cells,f1]
    ·have:=aJ f2
     rwa [QC]at this
   ·rw[Qi,Qb]at hx;obtain⟨x',pa,rfl⟩:=hx;rw[QL,Qi,Qb]at hp;obtain⟨p',wa,rfl⟩:=hp;obtain⟨f,r1,r2,r3,r4⟩:=q2 j x' p' pa wa;refine⟨?_,h.slots.arg r4⟩;have:=p3 p'.1 f x'.2.1 (by simpa using r1) r2;simp only[QI];rw[this,r3]
  ·cases hz
 ·cases hz
end
section
variable{P:Program}{B:Nat}{w0 w:World}{m:G6}{g:Gh}{fr:Id}{s:Nat->D}{a:Act}{S:GZ}{d:D}{u:Ha}
def PJ:∀{xs:List Operand} {ys:List G9},D6 xs=some ys->xs.length=ys.length∧∀(j:Nat) x y,xs[j]?=some x->ys[j]?=some y->AC x=some y
 |[],ys,h=>by simp only[D6,Qa]at h;subst h;simp
 |x::r,ys,h=>by
  unfold D6 at h;split at h
  ·rename_i y l u f;simp only[Qa]at h;subst h;obtain⟨p,q⟩:=PJ f;refine⟨by simp[p],λj z w d a=>?_⟩;cases j with
   |zero=>simp only[QD,Qa]at d a;subst d a;exact u
   |succ j=>exact q j z w Xv Xz
  ·cases h
def eK{sz:Nat}(j:0<sz):∀{ps:List (Nat×Value)} {k:Nat} {cs:Array Value},ps.map (·.1)=Zp k ps.length->(∀p∈ps,p.2.cells.size=sz)->cs.size=(k+ps.length)*sz->
  ∃a:Array Value,Instr.fill (λi=>some (i*sz,sz)) cs ps=some a∧a.toList=cs.toList.take (k*sz)++ps.flatMap λp=>p.2.cells.toList
 |[],k,cs,_,_,hcs=>⟨cs,rfl,by simp at hcs;simp[List.take_of_length_le,hcs]⟩
 |(i,v)::r,k,cs,o,hp,hcs=>by
  simp only[Qs,Qo,Q3,ZH]at o;obtain⟨rfl,o⟩:=o;have y:=hp (i,v) (Qn ..);simp only at y;have w:i*sz+v.cells.size<=cs.size:=by
   rw[hcs,y,←Zw];exact QA _ (by simp only[Qo];omega)
  have ha:=Fe v.cells (i*sz) cs w;have m:(v.cells.zipIdx.foldl (λcs (x:Value×Nat)=>cs.setIfInBounds (i*sz+x.2) x.1) cs).size=cs.size:=by
   rw[←QW,ha];simp;omega
  obtain⟨a,z,n⟩:=eK (k:=i+1) (ps:=r) (cs:=v.cells.zipIdx.foldl (λcs (x:Value×Nat)=>cs.setIfInBounds (i*sz+x.2) x.1) cs) j o (λp b=>hp p (Qq _ b)) (by rw[m,hcs];congr 1;simp only[Qo];omega);refine⟨a,?_,?_⟩
  ·unfold Instr.fill;simp only;rw[if_neg (by simp[y];first|done|omega)];exact z
  ·rw[n,ha];have hl:(cs.toList.take (i*sz)).length=i*sz:=by rw[QT];simp;omega
   have u:v.cells.toList.length=sz:=XS
   simp only[Zd];rw[←QK];congr 1;rw[show(i+1)*sz=(cs.toList.take (i*sz)++v.cells.toList).length by rw[Zu,hl,u,Zw]];exact List.take_left
theorem eW{t e:TypeId}{aa:Array (Nat×Operand)}{len:Nat}{o:Oper}{sz bytes:Nat}{l:List G9}(h:At P B w0 w m g fr s a)(hu:P.underlying t=some (.slice e))(he:IV P e=some (sz,bytes))
  (hl:D6 (aa.toList.map (·.2))=some l) (f:aa.toList.map (·.1)=Qt len) (na:len*sz<=2 ^ 24) (ho:o.op= .buildSlice t len aa)
  (hx:Ax S s m fr (.bslice e sz l)=some (d,u)):C8 P B w0 m g fr w (Ha.app m u) d (execOp a.eval o):=by
 obtain⟨pa,ti,z,hi,oa,hz,jb,ja⟩:=IU he;simp only[Ax]at hx;split at hx
 ·rename_i ia;simp only[Qa,Qd]at hx;obtain⟨rfl,rfl⟩:=hx;have ea:∀p∈l,((p.ev s).data=true∧(p.ev s).cells.length=sz)∧(p.ev s).un.calm=true:=by
   simp_all
  have b:∀p∈l,(p.ev s).data=true∧(p.ev s).cells.length=sz:=λp hp=>(ea p hp).1
  obtain⟨ba,fa⟩:=PJ hl;have r:aa.toList.length=len:=by have:=congrArg ZL f;simpa using this
  simp only[QZ]at ba;have da:∀(j:Nat) d v,(l.map λp=>(p.ev s).un)[j]?=some d->(aa.toList.map λp=>a.eval p.2)[j]?=some v->Rep w g d v:=by
   intro j d v hd hv;rw[Qi,Qb]at hd hv;obtain⟨y,hy,rfl⟩:=hd;obtain⟨p,hp,rfl⟩:=hv;exact(h.slots.arg (fa j p.2 y (by rw[Qi,hp];rfl) hy)).un
  have ra:=AZ.flat (w:=w) (g:=g) (sz:=sz) (xs:=l.map λp=>(p.ev s).un) (vs:=aa.toList.map λp=>a.eval p.2) (λd hd=>by
   rw[Qv]at hd;obtain⟨y,hy,rfl⟩:=hd;exact⟨aGI (b y hy).1,by rw[PF];exact(b y hy).2⟩) Xb da
  have ma:∀p∈(aa.map λ(i,x)=>(i,a.eval x)).toList,p.2.cells.size=sz:=by
   intro p hp;rw[QL,Qv]at hp;obtain⟨q,hq,rfl⟩:=hp;obtain⟨j,hj,xa⟩:=Za hq;have hy:l[j]?=some (l[j]' O):=Qc _;have hr:=h.slots.arg (fa j q.2 _ (by rw[Qi,Qc hj,xa];rfl) hy);have hd:=b _ (Q1 (by omega:j<l.length));have:=(hr.cells hd.1).1;simp at this ⊢;omega
  let row:Array Value:=(ZM (len*sz)).map (z.cells[· % z.cells.size]!)
  have ca:row.size=(0+(aa.map λ(i,x)=>(i,a.eval x)).toList.length)*sz:=by
   grind
  obtain⟨cv,f1,f2⟩:=eK pa (ps:=(aa.map λ(i,x)=>(i,a.eval x)).toList) (k:=0) (cs:=row) (by
   rw[←QR];simp only[QL,List.map_map,QZ,r];rw[←f];apply QX;intro p _;rfl) ma ca
  have qa:cv.toList=(aa.toList.map λp=>a.eval p.2).flatMap λv=>v.cells.toList:=by
   rw[f2];simp[List.flatMap_map]
  have ha:cv.size=len*sz:=by
   have:=ra.1;rw[←qa]at this;rw[Cr (sz:=sz) (λd hd=>by
    rw[Qv]at hd;obtain⟨y,hy,rfl⟩:=hd;rw[PF];exact(b y hy).2)]at this
   simp only[QW,QZ]at this;rw[this];congr 1;omega
  have za:len<=maxLen:=by
   have:len*1<=len*sz:=Nat.mul_le_mul_left _ pa;unfold maxLen;omega
  have ka:=h.inv.newTok h.self (e:=e) (n:=len) (c:=len) (sz:=sz) (cur:=cv) pa ⟨ti,z,hi,oa,hz,jb⟩ (Qk _) za ha;have la:=Ht.newTok (t:=fr) (n:=len) (c:=len) (sz:=sz) (Obj.cells cv e) h.inv.gz h.self.2.2 rfl;refine⟨.slice (some ⟨w.heap.size,0,none⟩) len len,w.alloc (.cells cv e),g.tok fr w.heap.size len len sz,.value (.slice (some ⟨w.heap.size,0,none⟩) len len),?_,.inl rfl,ka,la,?_,λi hf ga=>C0 hf ga _ _ _ _ _⟩
  ·have ta:¬(len*sz>2 ^ 24):=by omega
   have va:CY P e=some sz:=by simp[CY,hi,oa]
   by_cases h0:len*sz=0
   ·have sa:(ZM 0).map ((#[]:Array Value)[· % (#[]:Array Value).size]!)=row:=by simp[row,h0]
    simp only[execOp,ho,Instr.buildSlice,Sem.run_bind,run_underlying hu,Result.andThen_ok,Hc va,show ¬((0:Nat)>2 ^ 24)from by omega,if_false,h0,if_true,Sem.run_pure,sa,f1,GJ]
   ·simp only[execOp,ho,Instr.buildSlice,Sem.run_bind,run_underlying hu,Result.andThen_ok,Hc va,ta,if_false,h0,Sem.run_pure,zeroValue,typeInfo,run_program,hi,hz];change (Sem.run P (match Instr.fill (λi=>some (i*sz,sz)) row (aa.map λ(i,x)=>(i,a.eval x)).toList with|some cells=>_|_=>_) w).andThen _=_;rw[f1];simp only[Sem.run_bind,GJ,Result.andThen_ok,Sem.run_pure]
  ·refine aG (sz:=sz) (cur:=cv) (T:=e) (fz:=(0,0)) (heap_alloc_new w _) Xb (Qk _) (λd hd=>?_) (ra.ext la) (λj v hv=>?_) Xm (λ_=>Xm) (λd hd=>?_)
   ·grind [PF]
   ·grind
   ·grind
 ·cases hx
end
structure iK (P:Program) (w:World) (size:Nat) (y:Value) (n:Nat) (ws:List Value):Prop where
 len:∀W:World,(Builtin.lenOf y).run P W= .ok n W
 cells:(Builtin.firstCells size n y).run P w= .ok ws.toArray w
 drew:(Builtin.firstCells size n y).run P w.drew= .ok ws.toArray w.drew
 wl:ws.length=n*size
section
variable{P:Program}{w:World}
theorem iK.slice{r n c:Nat}{ad:Addr}{k:List Value}(hl:k.length=n*r)(h:∀j u,k[j]?=some u->w.cell? (ad.add j)=some u):iK P w r (.slice (some ad) n c) n k:=
 ⟨λW=>Yf,run_firstCells_some (P:=P) w r n ad n c k hl h,run_firstCells_some (P:=P) w.drew r n ad n c k hl Xl,hl⟩
def iK.string(s:ByteArray):iK P w 1 (.string s) s.size (Lib.strCells s):=
 ⟨λW=>Yf,Lib.run_firstCells_string w 1 s,Lib.run_firstCells_string w.drew 1 s,by rw[Lib.strCells_length];omega⟩
def W2{t ty e:TypeId}{i:TypeInfo}{z:Value}(u:P.underlying t=some (.slice e))(hi:P.info? e=some i)(o:i.zero=some z)
  {y:Value} {n:Nat} {k:List Value} (j:iK P w i.size y n k)
  (h0:0<n) (r:(n:Int)<=9223372036854775807) (f:n*i.bytes<=281474976710656):
  (Builtin.append_ #[t,t] ty #[.slice none 0 0,y]).run P w=
   .ok (.slice (some ⟨w.heap.size,0,none⟩) n (grownCap w n 0 e)) (w.drew.alloc (.cells (k.toArray++Builtin.zeroCells z.cells (grownCap w n 0 e-n)) e)):=by
 have g:n≠0:=O
 have a:¬(9223372036854775807<(n:Int)):=O
 have c:¬(281474976710656<Builtin.nextslicecap n 0*i.bytes):=by rw[nextslicecap_zero h0];omega
 have d:=j.drew;have hl:=j.len;simp[Builtin.append_,run_underlying u,sizeOf,typeInfo,zeroValue,hi,o,hl,g,a,c,Question.forced,run_firstCells_none,d,newRow,grownCap]
def UK{t ty e:TypeId}{i:TypeInfo}{z:Value}(u:P.underlying t=some (.slice e))(hi:P.info? e=some i)(f:i.zero=some z)
  {b:Addr} {sLen sCap:Nat} {olds:List Value} (p:olds.length=sLen*i.size) (d:∀j v,olds[j]?=some v->w.cell? (b.add j)=some v)
  {y:Value} {n:Nat} {s:List Value} (k:iK P w i.size y n s)
  (x:sCap<sLen+n) (r:((sLen+n:Nat):Int)<=9223372036854775807) (ca:Builtin.nextslicecap (sLen+n) sCap*i.bytes<=281474976710656):
  (Builtin.append_ #[t,t] ty #[.slice (some b) sLen sCap,y]).run P w=
   .ok (.slice (some ⟨w.heap.size,0,none⟩) (sLen+n) (grownCap w (sLen+n) sCap e))
    (w.drew.alloc (.cells (olds.toArray++s.toArray++Builtin.zeroCells z.cells (grownCap w (sLen+n) sCap e-(sLen+n))) e)):=by
 have g:¬(sLen+n<=sCap):=O
 have a:¬(9223372036854775807<((sLen:Int)+(n:Int))):=O
 have c:¬(281474976710656<Builtin.nextslicecap (sLen+n) sCap*i.bytes):=O
 have o:=k.drew;have hl:=k.len;have q:=run_firstCells_some (P:=P) w.drew i.size sLen b sLen sCap olds p Xv;simp[Builtin.append_,run_underlying u,sizeOf,typeInfo,zeroValue,hi,f,hl,g,a,c,Question.forced,o,q,newRow,grownCap];congr 2;apply Array.ext';simp[QK]
def UI{t ty e:TypeId}{i:TypeInfo}(ht:P.underlying t=some (.slice e))(hi:P.info? e=some i)
  {g sLen sCap:Nat} {cur:Array Value} (a:w.heap[g]?=some (.cells cur e (0,0))) {y:Value} {n:Nat} {k:List Value} (j:iK P w i.size y n k) (q:∀u∈k,u.oneCell'=true)
  (f:sLen+n<=sCap) (v:sLen*i.size+k.length<=cur.size):
  (Builtin.append_ #[t,t] ty #[.slice (some ⟨g,0,none⟩) sLen sCap,y]).run P w=
   .ok (.slice (some ⟨g,0,none⟩) (sLen+n) sCap) (w.setRow g (cur.toList.take (sLen*i.size)++k++cur.toList.drop (sLen*i.size+k.length)).toArray):=by
 have d:=j.cells;have hl:=j.len;have x:=run_storeCells_at P g (sLen*i.size) e k 0 cur w a XT q;simp only[Zj]at x;simp[Builtin.append_,run_underlying ht,sizeOf,typeInfo,hi,hl,f,d,Addr.add_lit,x]
def iK.nil{r:Nat}:iK P w r (.slice none 0 0) 0 []:=
 ⟨λW=>Yf,by simp[Builtin.firstCells],by simp[Builtin.firstCells],U⟩
def UJ{t ty e:TypeId}{i:TypeInfo}(u:P.underlying t=some (.slice e))(hi:P.info? e=some i){y:Value}{k:List Value}(j:iK P w i.size y 0 k):
  (Builtin.append_ #[t,t] ty #[.slice none 0 0,y]).run P w= .ok (.slice none 0 0) w:=by
 have d:=j.cells;have hl:=j.len;simp[Builtin.append_,run_underlying u,sizeOf,typeInfo,hi,hl,d]
def UH{t u ty e:TypeId}(q:P.underlying t=some (.slice e))(z:P.underlying u=some .string)(x y:Value):
  (Builtin.append_ #[t,u] ty #[x,y]).run P w=(Builtin.append_ #[t,t] ty #[x,y]).run P w:=by
 cases x<;>simp[Builtin.append_,run_underlying q,run_underlying z,sizeOf]
end
section
variable{P:Program}{B:Nat}{w0 w:World}{m:G6}{g:Gh}{fr:Id}{s:Nat->D}{a:Act}{S:GZ}{d:D}{u:Ha}
def Rep.slice_list{t:Id}{xs:List D}{v:Value}(h:Rep w g (.slice false t xs) v):∃ad n c sz,∃s:List Value,v= .slice (some ad) n c∧n=xs.length∧n<=c∧(∀d∈xs,d.cells.length=sz)∧
  s.length=n*sz∧AZ w g (flat xs) s∧(∀j u,s[j]?=some u->w.cell? (ad.add j)=some u)∧(0<n*sz->ad.off+n*sz<=g.G ad.block)∧
  (t≠[]->ad.off=0∧ad.spot=none∧g.tb t=some (ad.block,n,c,sz))∧(∀d∈xs,d.calm=true):=by
 rcases h.slice_inv with ⟨z,_⟩|⟨_,ad,n,c,sz,a,ev,q,f,i,e,m,h6,k,r,o⟩
 ·cases z
 ·have hl:=Cr i;refine⟨ad,n,c,sz,(Qt (n*sz)).map a,ev,q,f,i,U,⟨by simp[hl,q],λv y=>?_,λj d v p y=>?_⟩,λj u x=>?_,k,r,o⟩
  ·grind
  ·grind
  ·grind
def RD:∀{ys:List D},(∀d∈ys,d.cells=[d])->flat ys=ys
 |[],_=>rfl
 |d::r,h=>by
  rw[flat,h d (Qn ..),RD λd p=>h d (Qq _ p)];rfl
def oH{y:D}{v:Value}{ys:List D}{sz:Nat}(h:Rep w g y v)(k:I0 sz y=some ys)(m:aD ys sz=sz):
  ∃ws:List Value,iK P w sz v ys.length ws∧AZ w g (flat ys) ws∧(∀d∈ys,d.cells.length=sz)∧∀d∈ys,d.calm=true:=by
 unfold I0 at k;split at k
 ·rename_i nl t f;simp only[Qa]at k;subst k;cases nl with
  |true=>
   rcases h.slice_inv with ⟨_,rfl,rfl⟩|⟨h0,_⟩
   ·exact⟨[],iK.nil,AZ.nil w g,U,U⟩
   ·cases h0
  |false=>
   obtain⟨ad,n,c,pa,ws,rfl,o,za,a,ya,da,x,hG,z,e⟩:=h.slice_list;subst o;rcases TK a m with rfl|rfl
   ·grind [iK.slice,AZ.nil]
   ·exact⟨ws,iK.slice ya x,da,a,e⟩
 ·rename_i b;split at k
  ·rename_i q;subst q;simp only[Qa]at k;subst k;have i:v= .string ⟨b.toArray⟩:=by cases h;rfl
   subst i;have r:(Az b).length=(⟨b.toArray⟩:ByteArray).size:=by simp[Az];rfl
   have q:∀d∈Az b,d.cells=[d]∧d.calm=true:=by
    intro d p;simp only[Az,Qv]at p;obtain⟨c,_,rfl⟩:=p;exact⟨rfl,rfl⟩
   refine⟨Lib.strCells ⟨b.toArray⟩,r▸iK.string _,⟨?_,Lib.strCells_oneCell _,λj d u p hu=>?_⟩,λd p=>by rw[(q d p).1];rfl,λd p=>(q d p).2⟩
   ·rw[RD λd p=>(q d p).1,Lib.strCells_length,r]
   ·rw[RD λd p=>(q d p).1]at p;simp only[Az,Lib.strCells,Qi,Qb]at p hu;obtain⟨c,s,rfl⟩:=p;obtain⟨c',la,rfl⟩:=hu;rw[s]at la;simp only[Qa]at la;subst la;exact .int _ _
  ·cases k
 ·cases k
def aCW{t t2 e:TypeId}{o:Oper}{x y:Operand}{p q:G9}{sz bytes:Nat}(h:At P B w0 w m g fr s a)(hu:P.underlying t=some (.slice e))(he:IV P e=some (sz,bytes))
  (hx:AC x=some p) (hy:AC y=some q) (ho:o.op= .call {callee:= .builtin .append,args:=#[x,y],argTypes:=#[t,t2]}) (ht2:t2=t∨P.underlying t2=some .string)
  (aa:Ax S s m fr (.app e sz bytes p q)=some (d,u)):C8 P B w0 m g fr w (Ha.app m u) d (execOp a.eval o):=by
 obtain⟨pa,ti,z,hi,oa,hz,jb,ja⟩:=IU he;have va:CY P e=some sz:=by simp[CY,hi,oa]
 have ta:=h.slots.arg hx;have db:=h.slots.arg hy;have cb:∃ti z,P.info? e=some ti∧ti.size=sz∧ti.zero=some z∧z.cells.size=sz:=⟨ti,z,hi,oa,hz,jb⟩;have ma:∀v' w',(Builtin.append_ #[t,t] o.type #[a.eval x,a.eval y]).run P w= .ok v' w'->(execOp a.eval o).run P w= .ok (.value v') w':=by
  intro v' w' e1;have e1:(Builtin.append_ #[t,t2] o.type #[a.eval x,a.eval y]).run P w= .ok v' w':=by
   rcases ht2 with rfl|ht2
   ·exact e1
   ·simp_all [UH,e1]
  simp only[execOp,ho,resolve,invoke,builtin,Sem.run_bind,Sem.run_pure,Result.andThen_ok,ZB,Qs,Zk,e1]
 simp only[Ax]at aa;split at aa
 ·rename_i nl t' xs ys ex ey;rw[ex]at ta;split at aa
  ·rename_i hc;obtain⟨rfl,rfl⟩:=hc;simp only[Qa,Qd]at aa;obtain⟨rfl,rfl⟩:=aa;rcases ta.slice_inv with ⟨_,rfl,ev⟩|⟨h0,_⟩
   ·obtain⟨ws,wa,_⟩:=oH (P:=P) db ey (show aD [] sz=sz from rfl);have hv:=UJ (ty:=o.type) hu hi (oa▸wa);exact .pure h.inv (ma _ _ (by rw[ev];exact hv)) (.nils _)
   ·cases h0
  ·rename_i za;split at aa
   ·rename_i hc;obtain⟨wb,jc⟩:=hc;obtain⟨ws,wa,da,sb,ib⟩:=oH (P:=P) db ey jc;have ya:ws.length=ys.length*sz:=wa.wl;have gb:iK P w ti.size (a.eval y) ys.length ws:=by rw[oa];exact wa
    have dc:xs.length+ys.length<=140737488355328:=by
     grind
    have lb:(xs.length+ys.length)*bytes<=140737488355328:=by
     grind
    split at aa
    ·-- onto nil
     rename_i qa;subst qa;simp only[Qa,Qd]at aa;obtain⟨rfl,rfl⟩:=aa;have eb:ys≠[]:=λe=>za ⟨rfl,e⟩
     rcases ta.slice_inv with ⟨_,rfl,ev⟩|⟨h0,_⟩
     ·have ba:0<ys.length:=List.length_pos_iff.2 eb;simp only[List.length_nil,Qu]at dc lb;have hr:=W2 (P:=P) (ty:=o.type) hu hi hz gb ba O (by rw[ja];omega);have ab:=grownCap_ge w ys.length 0 e;have fb:grownCap w ys.length 0 e<=maxLen:=grownCap_le_maxLen w ys.length 0 e Xp;have pb:(ws.toArray++Builtin.zeroCells z.cells (grownCap w ys.length 0 e-ys.length)).size=grownCap w ys.length 0 e*sz:=by
       simp only[Zx,Zy,size_zeroCells,jb,ya,←QQ];congr 1;omega
      have ka:=h.inv.drew.newTok h.self (e:=e) (n:=ys.length) (c:=grownCap w ys.length 0 e) (sz:=sz) (cur:=ws.toArray++Builtin.zeroCells z.cells (grownCap w ys.length 0 e-ys.length)) pa cb ab fb pb;have la:Ht w g (w.drew.alloc (.cells (ws.toArray++Builtin.zeroCells z.cells (grownCap w ys.length 0 e-ys.length)) e)) (g.tok fr w.heap.size ys.length (grownCap w ys.length 0 e) sz):=
       (Ht.drew w g).trans (Ht.newTok (w:=w.drew) _ h.inv.gz h.self.2.2 rfl)
      refine⟨_,_,_,_,ma _ _ (by rw[ev];exact hr),.inl rfl,ka,la,?_,λi hf ga=>C0 hf ga _ _ _ _ _⟩;refine aG (sz:=sz) (cur:=ws.toArray++Builtin.zeroCells z.cells (grownCap w ys.length 0 e-ys.length)) (T:=e) (fz:=(0,0)) (heap_alloc_new w.drew _) rfl ab sb (da.ext la) (λj v hv=>?_) Xm (λ_=>Xm) ib;rw[QH (by simpa using (Qe.1 hv).1)];simpa using hv
     ·cases h0
    ·-- onto a growing slice
     rename_i qa;have qa:nl=false:=by cases nl<;>simp_all
     subst qa;split at aa
     ·rename_i k hk;split at aa
      ·rename_i zb;obtain⟨zb,yb⟩:=zb;subst zb;simp only[Qa,Qd]at aa;obtain⟨rfl,rfl⟩:=aa;obtain⟨ad,n0,c0,kc,kb,ev,hn,bc,cc,ub,rb,hb,mc,fc,gc⟩:=ta.slice_list;obtain⟨b,n,c,ha,cur,t1,t2,t3,t4,t5,t6,t7,t8,t9,xa⟩:=h.inv.tok t' e hk;obtain⟨q1,q2,q3⟩:=fc yb;rw[t1]at q3;simp only[Qa,Qd]at q3;obtain⟨rfl,rfl,rfl,rfl⟩:=q3;have ob:ha=sz:=by obtain⟨lc,z',i1,i2,_⟩:=t4;rw[hi]at i1;simp only[Qa]at i1;subst i1;omega
       subst ob;have vb:ad=⟨ad.block,0,none⟩:=by cases ad;simp_all
       have sa:w.heap[ad.block]?=some (.cells cur e (0,0)):=t5;have mb:∀(j:Nat) v,kb[j]?=some v->cur[j]?=some v:=by
        intro j v hv;have:=hb j v hv;rw[vb,E8,Qu]at this;simpa[World.cell?,sa]using this
       have qb:cur.toList.take (n*ha)=kb:=by
        apply Zz;intro j;by_cases hj:j<n*ha
        ·rw[Qp hj];have:kb[j]?=some (kb[j]' O):=Qc _;rw[this];simpa using mb j _ this
        ·rw[Qj Xb,Qj O]
       have tb:He P B w0 (m.put t' 0 [.tok 0]) w g:=h.inv.kill (by
        cases hd:g.dl t' with
        |none=>rfl
        |some b'=>
         obtain⟨_,_,vs,T,_,r⟩:=h.inv.obj t' b' hd;obtain⟨v,_,_,r3⟩:=r 0 _ hk;cases r3)
       have ec:fr≠t':=by rintro rfl;rw[h.self.1 0]at hk;cases hk
       have ic:B1 (m.put t' 0 [.tok 0]) g fr:=B1.kill h.self ec;have fa:∀b' n' c' s',∀i,B1 m g i->¬fr<:+i->B1 ((m.put t' 0 [.tok 0]).put fr 0 [.tok (e+1)]) (g.tok fr b' n' c' s') i:=by
        intro b' n' c' s' i hf ga;exact C0 (B1.kill hf (by rintro rfl;rw[hf.1 0]at hk;cases hk)) ga _ _ _ _ _
       have ia:∀dd∈xs++ys,dd.cells.length=ha:=by
        intro dd ac;rcases Qg.1 ac with hd|hd
        ·exact cc dd hd
        ·exact sb dd hd
       have bb:∀dd∈xs++ys,dd.calm=true:=by
        intro dd ac;rcases Qg.1 ac with hd|hd
        ·exact gc dd hd
        ·exact ib dd hd
       have ra:AZ w g (flat (xs++ys)) (kb++ws):=by rw[IS];exact AZ.append rb da
       have ba:n+ys.length=(xs++ys).length:=Xb
       have xb:(n+ys.length)<=maxLen:=Xp
       by_cases f:n+ys.length<=c
       ·-- there is room
        have ca:n*ti.size+ws.length<=cur.size:=by rw[ya,oa,t8,←QQ];exact QA _ f
        have hr:=UI (P:=P) (ty:=o.type) hu hi sa gb da.2.1 f ca;rw[oa]at hr ca
        let na:Array Value:=(cur.toList.take (n*ha)++ws++cur.toList.drop (n*ha+ws.length)).toArray
        have ea:(cur.toList.take (n*ha)).length=n*ha:=by rw[QT];simp;omega
        have ua:na.size=cur.size:=by simp[na];omega
        have l:∀j,j<n*ha->na[j]?=cur[j]?:=by
         intro j hj;simp only[na,QI,QK];rw[Qm O,Qp hj];simp
        have ka:=h.inv.inPlace h.self hk t1 (ZC n ys.length) f sa ua l;have la:Ht w g (w.setRow ad.block na) (g.tok fr ad.block (n+ys.length) c ha):=Ht.inPlace h.self.2.2 t9 (ZC n ys.length) sa l;refine⟨_,_,_,_,ma _ _ (by rw[ev,vb];exact hr),.inl rfl,ka,la,?_,fa _ _ _ _⟩;refine aG (sz:=ha) (cur:=na) (T:=e) (fz:=(0,0)) (setRow_heap w ad.block cur na e _ sa) ba f ia (ra.ext la) (λj v hv=>?_) Xm (λ_=>Xm) bb;simp only[na,QI,qb];rw[Qm (Qe.1 hv).1];exact hv
       ·-- there is none
        have hr:=UK (P:=P) (ty:=o.type) hu hi hz (b:=ad) (sLen:=n) (sCap:=c) (olds:=kb) (by rw[ub,oa]) hb gb O O (growslice_fits O (by rw[ja,hn];exact lb));have ab:=grownCap_ge w (n+ys.length) c e;have fb:grownCap w (n+ys.length) c e<=maxLen:=grownCap_le_maxLen w (n+ys.length) c e xb;have pb:(kb.toArray++ws.toArray++Builtin.zeroCells z.cells (grownCap w (n+ys.length) c e-(n+ys.length))).size=grownCap w (n+ys.length) c e*ha:=by
         simp only[Zx,Zy,size_zeroCells,jb,ya,ub,←QQ];congr 1;omega
        have ka:=tb.drew.newTok ic (e:=e) (n:=n+ys.length) (c:=grownCap w (n+ys.length) c e) (sz:=ha) (cur:=kb.toArray++ws.toArray++Builtin.zeroCells z.cells (grownCap w (n+ys.length) c e-(n+ys.length))) pa cb ab fb pb;have la:Ht w g (w.drew.alloc (.cells (kb.toArray++ws.toArray++Builtin.zeroCells z.cells (grownCap w (n+ys.length) c e-(n+ys.length))) e)) (g.tok fr w.heap.size (n+ys.length) (grownCap w (n+ys.length) c e) ha):=
         (Ht.drew w g).trans (Ht.newTok (w:=w.drew) _ h.inv.gz h.self.2.2 rfl)
        refine⟨_,_,_,_,ma _ _ (by rw[ev];exact hr),.inl rfl,ka,la,?_,fa _ _ _ _⟩;refine aG (sz:=ha) (cur:=kb.toArray++ws.toArray++Builtin.zeroCells z.cells (grownCap w (n+ys.length) c e-(n+ys.length))) (T:=e) (fz:=(0,0)) (heap_alloc_new w.drew _) ba ab ia (ra.ext la) (λj v hv=>?_) Xm (λ_=>Xm) bb;have hj:=(Qe.1 hv).1;rw[QH (by simpa using hj)];simpa using hv
      ·cases aa
     ·cases aa
   ·cases aa
 ·cases aa
end
section
variable{P:Program}{B:Nat}{w0 w:World}{m:G6}{g:Gh}{fr:Id}{s:Nat->D}{a:Act}{S:GZ}{d:D}{u:Ha}
theorem OB{v:Value}{d:D}(h:ofLeaf v=some d):d.calm1=true∧d.calm=true:=by
 unfold ofLeaf at h;split at h<;>first|(simp only[Qa]at h;subst h;exact⟨rfl,rfl⟩)|cases h
theorem mH{v:Value}{d:D}(h:ofVal v=some d):d.calm=true:=by
 cases v with
 |agg cs=>
  simp only[ofVal,Qb]at h;obtain⟨l,hl,rfl⟩:=h;have k:∀{vs:List Value} {l:List D},ofLeaves vs=some l->l.all D.calm1=true:=by
   intro vs;induction vs with
   |nil=>intro l h;simp only[ofLeaves,Qa]at h;subst h;rfl
   |cons v r ih=>
    intro l h;unfold ofLeaves at h;split at h
    ·grind [OB]
    ·cases h
  exact k hl
 |_=>simp only[ofVal]at h;exact(OB h).2
def wU{t e:TypeId}{o:Oper}{x y:Operand}{p q:G9}{sz bytes:Nat}{z:D}(h:At P B w0 w m g fr s a)(hu:P.underlying t=some (.slice e))(he:IV P e=some (sz,bytes))
  (hz:Dc P e=some z) (hx:AC x=some p) (hy:AC y=some q) (ho:o.op= .makeSlice t x y)
  (aa:Ax S s m fr (.mksl e sz bytes z p q)=some (d,u)):C8 P B w0 m g fr w (Ha.app m u) d (execOp a.eval o):=by
 obtain⟨pa,ti,zv,hi,oa,r,jb,ja⟩:=IU he;have ta:=h.slots.arg hx;have db:=h.slots.arg hy;have va:Rep w g z zv:=by
  grind [Dc,Rep.ofVal]
 have ab:z.data=true:=by
  unfold Dc at hz;simp only[hi,r]at hz;cases zv<;>first|(simp only[ofVal,Qb]at hz;obtain⟨l,_,rfl⟩:=hz;rfl)|(simp only[ofVal]at hz;exact Oz hz)
 have eb:z.calm=true:=by
  grind [Dc,mH]
 simp only[Ax]at aa;split at aa
 ·rename_i k n k' c ex ey;rw[ex]at ta;rw[ey]at db;split at aa
  ·rename_i hc;obtain⟨h0,za,wb,ea⟩:=hc;obtain⟨n,rfl⟩:=Zh h0;obtain⟨c,rfl⟩:=Zh (Int.le_trans h0 za);have bb:c*(bytes+1)<=140737488355328:=by
    grind
   have lb:bytes*c<=140737488355328:=by
    grind
   have ya:c<=140737488355328:=by
    grind
   have da:(ti.bytes:Int)*(c:Int)<=281474976710656:=by
    grind
   have hr:=run_make (P:=P) w t e ti zv hu hi r k k' (n:Int) (c:Int) O O da O;simp only[Int.toNat_natCast,oa]at hr;split at aa
   ·rename_i ia;split at aa
    ·rename_i bc;simp only[Qa,Qd]at aa;obtain⟨rfl,rfl⟩:=aa;obtain rfl:n=c:=by omega
     have ra:z.cells.length=1∧zv.cells=#[zv]∧zv.oneCell'=true:=by
      cases z with
      |nilIface=>
       obtain rfl:zv= .nilIface:=by cases va;rfl
       exact⟨rfl,rfl,rfl⟩
      |str b=>
       obtain⟨v,rfl⟩:∃v,zv= .string v:=by cases va;exact⟨_,rfl⟩
       exact⟨rfl,rfl,rfl⟩
      |_=>cases ia
     obtain⟨xa,f,cb⟩:=ra;obtain rfl:1=sz:=xa.symm.trans ea;have ha:∀(j:Nat),j<n->(madeCells #[zv] (n*1)).toList[j]?=some zv:=by
      intro j hj;simp[madeCells,hj,Nat.mod_one]
     have ba:(madeCells #[zv] (n*1)).toList.length=n:=by simp[madeCells]
     have na:AZ w g (Qz n z) (madeCells #[zv] (n*1)).toList:=by
      refine⟨by rw[ba];simp,λv hv=>?_,λj d v hd hv=>?_⟩
      ·obtain⟨j,hj,rfl⟩:=Za hv;have:=ha j (by rw[ba]at hj;exact hj);rw[Qc hj]at this;rw[QJ this];exact cb
      ·grind
     refine⟨.slice (some ⟨w.heap.size,0,none⟩) n n,w.alloc (.cells (madeCells #[zv] (n*1)) e),g.obj fr w.heap.size,.value (.slice (some ⟨w.heap.size,0,none⟩) n n),?_,.inl rfl,?_⟩
     ·simp only[execOp,ho,ta.int_inv,db.int_inv,Sem.run_bind,Sem.run_pure];rw[f]at hr;rw[hr];rfl
     ·have:=h.inv.newObj h.self (ds:=Qz n z) (vs:=(madeCells #[zv] (n*1)).toList) e na;rw[QC]at this;exact⟨this,Ht.newObj _ h.inv.gz h.self.2.1,.row fr n n w.heap.size (Qk _) (by simp[Gh.obj]),λi hf ga=>ET hf ga _ _⟩
    ·cases aa
   ·simp only[Qa,Qd]at aa;obtain⟨rfl,rfl⟩:=aa;have fb:zv.cells.size=sz:=jb;have ca:=va.cells ab;have ka:=h.inv.newTok h.self (e:=e) (n:=n) (c:=c) (sz:=sz) (cur:=madeCells zv.cells (c*sz)) pa ⟨ti,zv,hi,oa,r,jb⟩ O Xp (by simp[size_madeCells]);have la:=Ht.newTok (t:=fr) (n:=n) (c:=c) (sz:=sz) (Obj.cells (madeCells zv.cells (c*sz)) e) h.inv.gz h.self.2.2 rfl;refine⟨.slice (some ⟨w.heap.size,0,none⟩) n c,_,_,.value (.slice (some ⟨w.heap.size,0,none⟩) n c),?_,.inl rfl,ka,la,?_,λi hf ga=>C0 hf ga _ _ _ _ _⟩
    ·simp only[execOp,ho,ta.int_inv,db.int_inv,Sem.run_bind,hr,Result.andThen_ok,Sem.run_pure]
    ·have ma:∀k,flat (Qz k z)=(Qz k z.cells).flatten:=by
      intro k;induction k with
      |zero=>rfl
      |succ k ih=>simp[List.replicate_succ,flat,ih]
     have fa:∀(j:Nat),j<n*sz->(flat (Qz n z))[j]?=z.cells[j % sz]?:=by
      intro j hj;have hq:j / sz<n:=Nat.div_lt_of_lt_mul (by rw[ZK];exact hj);have:=Et (sz:=sz) (xs:=Qz n z) (k:=j / sz) (j:=j % sz) (λd hd=>YJ) (by simpa using hq) (ZJ _ pa);rw[show j / sz*sz+j % sz=j by rw[ZK];exact Nat.div_add_mod j sz]at this;rw[this];simp
     have wa:(flat (Qz n z)).length=n*sz:=by
      simp_all
     have ua:AZ w g (flat (Qz n z)) ((madeCells zv.cells (c*sz)).toList.take (n*sz)):=by
      have qa:n*sz<=c*sz:=QA _ O;have ha:∀j,j<n*sz->((madeCells zv.cells (c*sz)).toList.take (n*sz))[j]?=zv.cells.toList[j % sz]?:=by
       intro j hj;rw[Qp hj];have hm:j % sz<zv.cells.size:=by rw[jb];exact ZJ _ pa
       simp[madeCells,jb,show j<c*sz by omega];rw[getElem!_pos zv.cells _ hm,getElem?_pos zv.cells _ hm]
      refine⟨by rw[QT,wa,QW,size_madeCells];omega,λv hv=>?_,λj d v hd hv=>?_⟩
      ·obtain⟨j,hj,rfl⟩:=Za hv;have sa:j<n*sz:=QN hj (Zr _ _);have:=ha j sa;rw[Qc hj]at this;exact ca.2.1 _ (Qr this.symm)
      ·have sa:j<n*sz:=by have:=(Qe.1 hd).1;omega
       rw[fa j sa]at hd;rw[ha j sa]at hv;exact ca.2.2 _ d v hd hv
     refine aG (sz:=sz) (cur:=madeCells zv.cells (c*sz)) (T:=e) (fz:=(0,0)) (heap_alloc_new w _) U O (λd hd=>YJ) (ua.ext la) (λj v hv=>?_) Xm (λ_=>Xm) (λd hd=>by rw[List.eq_of_mem_replicate hd];exact eb);have hj:j<n*sz:=QN (Qe.1 hv).1 (Zr _ _);rw[Qp hj]at hv;simpa using hv
  ·cases aa
 ·cases aa
def Ou:∀b:List UInt8,flat (Az b)=Az b
 |[]=>rfl
 |c::r=>by
  have:=Ou r;simp only[Az]at this;simp only[Az,Qs,flat,D.cells,Q2,Zl,this]
def aCS{p fa e:TypeId}{o:Oper}{x:Operand}{y:G9}(h:At P B w0 w m g fr s a)(hs:P.underlying p=some .string)(t:P.underlying fa=some (.slice e))(he:P.underlying e=some (.int .u8))
  (q:AC x=some y) (ho:o.op= .convert p fa x) (z:Ax S s m fr (.s2b y)=some (d,u)):u=[]∧C8 P B w0 m g fr w m d (execOp a.eval o):=by
 have hr:=h.slots.arg q;simp only[Ax]at z;split at z
 ·rename_i b n;rw[n]at hr;simp only[Qa,Qd]at z;obtain⟨rfl,rfl⟩:=z;have ma:=Lib.run_convert_string_bytes (P:=P) w p fa e ⟨b.toArray⟩ hs t he;have f:Below w.heap.size w (Lib.bytesWorld w e ⟨b.toArray⟩):=
   ⟨rfl,rfl,rfl,by rw[Lib.bytesWorld_size];omega,λk hk=>Lib.bytesWorld_at_old w e _ k hk⟩
  have ja:(ByteArray.mk b.toArray).size=b.length:=X0
  rw[ja]at ma;refine⟨rfl,.slice (some ⟨w.heap.size,0,none⟩) b.length (grownCap w b.length 0 e),_,_,.value (.slice (some ⟨w.heap.size,0,none⟩) b.length (grownCap w b.length 0 e)),?_,.inl rfl,h.inv.over f,Ht.over h.inv.gz f,?_,λi hf _=>hf⟩
  ·simp only[execOp,ho,hr.str_inv,Sem.run_bind,ma,Result.andThen_ok,Sem.run_pure]
  ·have l:=Lib.bytesWorld_at_new w e ⟨b.toArray⟩;have wa:=Ou b;refine aG (sz:=1) (cur:=Lib.bytesCells w e ⟨b.toArray⟩) (vs:=b.map λc=> .int .u8 c.toNat) l (by simp[Az]) (grownCap_ge w _ 0 e) (λd t=>?_) ⟨?_,?_,?_⟩ (λj v hv=>?_) ?_ U (λd t=>by simp only[Az,Qv]at t;obtain⟨c,_,rfl⟩:=t;rfl)
   ·simp only[Az,Qv]at t;obtain⟨c,_,rfl⟩:=t;rfl
   ·rw[wa];simp[Az]
   ·intro v hv;simp only[Qv]at hv;obtain⟨c,_,rfl⟩:=hv;rfl
   ·intro j d v t hv;rw[wa]at t;simp only[Az,Qi,Qb]at t hv;obtain⟨c,hc,rfl⟩:=t;obtain⟨c',la,rfl⟩:=hv;rw[hc]at la;simp only[Qa]at la;subst la;exact .int _ _
   ·simp only[Lib.bytesCells];have r:=(Qe.1 hv).1;rw[QH (by simpa using r)];simpa using hv
   ·simp only[Gh.over];rw[if_neg O,l];simp[Lib.bytesCells,ja]
 ·cases z
def LD:∀{xs:List D} {b:List UInt8},BI xs=some b->∃ns:List Int,xs=ns.map (D.int .u8)∧b=ns.map λn=>UInt8.ofNat n.toNat
 |[],b,h=>by simp only[BI,Qa]at h;subst h;exact⟨[],rfl,rfl⟩
 |x::r,b,h=>by
  unfold BI at h;split at h
  ·rename_i e;cases e
  ·rename_i n q e;cases e;rw[Qb]at h;obtain⟨p,m,rfl⟩:=h;obtain⟨ns,rfl,rfl⟩:=LD m;exact⟨n::ns,rfl,rfl⟩
  ·cases h
def Gt:∀(ns:List Int)(r:List UInt8),ns.foldl (λ(r:ByteArray) n=>r.push (UInt8.ofNat n.toNat)) ⟨r.toArray⟩=⟨(r++ns.map λn=>UInt8.ofNat n.toNat).toArray⟩
 |[],r=>U
 |n::ns,r=>by
  simp only[Q8,Qs];have:(ByteArray.mk r.toArray).push (UInt8.ofNat n.toNat)=⟨(r++[UInt8.ofNat n.toNat]).toArray⟩:=by
   simp[ByteArray.push]
  rw[this,Gt ns];simp
def aCV{p fa e:TypeId}{o:Oper}{x:Operand}{y:G9}(h:At P B w0 w m g fr s a)(hs:P.underlying p=some (.slice e))(t:P.underlying fa=some .string)(he:P.underlying e=some (.int .u8))
  (q:AC x=some y) (ho:o.op= .convert p fa x) (z:Ax S s m fr (.b2s y)=some (d,u)):u=[]∧C8 P B w0 m g fr w m d (execOp a.eval o):=by
 have hr:=h.slots.arg q;simp only[Ax]at z;split at z
 ·rename_i nl t' xs e1;rw[e1]at hr;rw[Qb]at z;obtain⟨b,hb,z⟩:=z;simp only[Qd]at z;obtain⟨rfl,rfl⟩:=z;cases nl with
  |true=>
   rcases hr.slice_inv with ⟨_,rfl,ev⟩|⟨h0,_⟩
   ·simp only[BI,Qa]at hb;subst hb;refine⟨rfl,.pure (v:= .string ⟨([]:List UInt8).toArray⟩) h.inv ?_ (.str _)⟩;simp[execOp,ho,ev,convert,run_underlying hs,run_underlying t,run_underlying he,Conv.bytesToString];rfl
   ·cases h0
  |false=>
   obtain⟨ns,rfl,rfl⟩:=LD hb;obtain⟨ad,n,c,sz,ws,ev,hn,za,ja,ya,da,ha,hG,_,_⟩:=hr.slice_list;have wa:∀l:List Int,flat (l.map (D.int .u8))=l.map (D.int .u8):=by
    intro l;induction l with
    |nil=>rfl
    |cons c r ih=>simp only[Qs,flat,D.cells,Q2,Zl,ih]
   rw[wa]at da;have ua:ws=ns.map (Value.int .u8):=by
    apply Zz;intro j;have hl:=da.1;by_cases hj:j<ws.length
    ·have ea:j<ns.length:=by simpa[hl]using hj
     have:=da.2.2 j (.int .u8 ns[j]) ws[j] (by simp[ea]) (Qc hj);rw[Qc hj,this.int_inv];simp[ea]
    ·rw[Qj O,Qj (by simp;simp at hl;omega)]
   have pa:ws.length=n:=by rw[ua,hn];simp
   have i:(loadCells ad n).run P w= .ok (ns.map (Value.int .u8)).toArray w:=by
    have:=run_loadCells_list (P:=P) w ad ws ha;rw[pa,ua]at this;exact this
   have ma:=run_bytesToString (P:=P) w ad n c ns i;have k:=Gt ns [];refine⟨rfl,.pure (v:= .string ⟨(ns.map λn=>UInt8.ofNat n.toNat).toArray⟩) h.inv ?_ (.str _)⟩;have f:(convert p fa (.slice (some ad) n c)).run P w=(Conv.bytesToString (.slice (some ad) n c)).run P w:=by
    simp[convert,run_underlying hs,run_underlying t,run_underlying he]
   simp only[execOp,ho,ev,Sem.run_bind,f,ma,Result.andThen_ok,Sem.run_pure];rw[show ByteArray.empty=⟨([]:List UInt8).toArray⟩from rfl,k];rfl
 ·cases z
end
section
variable{P:Program}{B:Nat}{w0 w:World}{m:G6}{g:Gh}{fr:Id}{s:Nat->D}{a:Act}{S:GZ}{d:D}{u:Ha}
def C8.of_nil{x:Sem Next}(h:u=[]∧C8 P B w0 m g fr w m d x):C8 P B w0 m g fr w (Ha.app m u) d x:=by
 obtain⟨rfl,h⟩:=h;exact h
def bC{w:World}{g:Gh}{d e:D}{v u:Value}(h:Rep w g d v)(k:Rep w g e u):Rep w g (.tup [d,e]) (.tuple #[v,u]):=by
 refine .tup [d,e] [v,u] rfl (λj b s p y=>?_)
 match j with
 |0=>simp at p y;subst p y;exact h
 |1=>simp at p y;subst p y;exact k
 |j+2=>simp at p
def qL{ne:Bool}{t:TypeId}{x y:Operand}{yt:TypeId}{o:Oper}{p q:G9}{r:DOp}(h:At P B w0 w m g fr s a)(n:AC x=some p)(hy:AC y=some q)
  (j:aAs P ne t x y p q=some r) (ho:o.op= .binOp (if ne then .neq else .eql) t x y yt) (z:Ax S s m fr r=some (d,u)):u=[]∧C8 P B w0 m g fr w m d (execOp a.eval o):=by
 have ta:=h.slots.arg n;have db:=h.slots.arg hy;have ma:∀v,(eqGuard (if ne then .neq else .eql) t x y (a.eval x) (a.eval y)).run P w= .ok () w->(binOp (if ne then .neq else .eql) t (a.eval x) (a.eval y)).run P w= .ok v w->(execOp a.eval o).run P w= .ok (.value v) w:=by
  intro v e1 e2;simp only[execOp,ho,Sem.run_bind,e1,e2,Result.andThen_ok,Sem.run_pure]
 have i:r= .bin (if ne then .neq else .eql) p q->u=[]∧C8 P B w0 m g fr w m d (execOp a.eval o):=by
  rintro rfl;simp only[Ax]at z;rw[Qb]at z;obtain⟨d',h1,z⟩:=z;simp only[Qd]at z;obtain⟨rfl,rfl⟩:=z;obtain⟨v,e1,e2,e3,e4⟩:=T9 (P:=P) (t:=t) ta db h1;exact⟨rfl,.pure h.inv (ma v (IP _ t x y _ _ e3 e4 w) e1) e2⟩
 have f:∀k td,P.underlying t=some td->aCY k td->(k=2->(GM x||GM y)=true)->r= .nileq ne k p q->u=[]∧C8 P B w0 m g fr w m d (execOp a.eval o):=by
  rintro k td hu hd hc rfl;simp only[Ax]at z;rw[Qb]at z;obtain⟨b,h1,z⟩:=z;simp only[Qd]at z;obtain⟨rfl,rfl⟩:=z;obtain⟨e1,e2,e3,e4⟩:=cH ta db h1 hu hd 9999;exact⟨rfl,.pure h.inv (ma _ (eB _ t x y _ _ e3 (λe=>hc (e4 e)) w) (UG e2 ne e1)) (.bool _)⟩
 unfold aAs at j;split at j
 ·rename_i hu;simp only[Qa]at j;subst j;simp only[Ax]at z;split at z
  ·rename_i b c ex ey;rw[ex]at ta;rw[ey]at db;simp only[Qa,Qd]at z;obtain⟨rfl,rfl⟩:=z;refine⟨rfl,.pure h.inv (ma _ (IP _ t x y _ _ (by rw[ta.bool_inv];simp) (by rw[ta.bool_inv];simp) w) (UG (by rw[ta.bool_inv];rfl) ne (b:=b==c) ?_)) (.bool _)⟩;rw[ta.bool_inv,db.bool_inv];exact run_equalIn_bool' w 9999 t _ _ hu
  ·cases z
 ·simp_all
 ·simp_all
 ·rename_i fs hu;split at j
  ·rename_i hc;rw[Qb]at j;obtain⟨l,hl,rfl⟩:=j;simp only[Ax]at z;split at z
   ·rename_i xs ys ex ey;rw[ex]at ta;rw[ey]at db;rw[Qb]at z;obtain⟨b,h1,z⟩:=z;simp only[Qd]at z;obtain⟨rfl,rfl⟩:=z;obtain⟨e1,e2⟩:=UC ta db hu hc.1 hc.2 hl h1 x y (if ne then .neq else .eql);refine⟨rfl,.pure h.inv (ma _ e2 (UG ?_ ne e1)) (.bool _)⟩;obtain⟨vs,e3,_⟩:=aI ta;rw[e3];rfl
   ·cases z
  ·cases j
 ·rename_i e hu;simp only[Qa]at j;exact f 0 _ hu ⟨e,rfl⟩ U j.symm
 ·rename_i e hu;simp only[Qa]at j;exact f 1 _ hu ⟨e,rfl⟩ U j.symm
 ·rename_i p' r' v' hu;simp only[Qa]at j;exact f 3 _ hu ⟨p',r',v',rfl⟩ U j.symm
 ·rename_i ms hu;split at j
  ·rename_i hc;simp only[Qa]at j;exact f 2 _ hu ⟨ms,rfl⟩ (λ_=>hc) j.symm
  ·cases j
 ·cases j
def aCU{op:BinOp}{t:TypeId}{x y:Operand}{i:TypeId}{o:Oper}{p q:G9}(h:At P B w0 w m g fr s a)(n:AC x=some p)(j:AC y=some q)
  (r:o.op= .binOp op t x y i) (z:Ax S s m fr (.bin op p q)=some (d,u)):u=[]∧C8 P B w0 m g fr w m d (execOp a.eval o):=by
 simp only[Ax]at z;rw[Qb]at z;obtain⟨b,k,z⟩:=z;simp only[Qd]at z;obtain⟨rfl,rfl⟩:=z;obtain⟨v,c,e2,e3,e⟩:=T9 (P:=P) (t:=t) (h.slots.arg n) (h.slots.arg j) k;refine⟨rfl,.pure h.inv ?_ e2⟩;simp only[execOp,r,Sem.run_bind,IP op t x y _ _ e3 e w,c,Result.andThen_ok,Sem.run_pure]
def wR{x:Operand}{xt t:TypeId}{ok:Bool}{z:D}{o:Oper}{p:G9}{td:TypeDesc}(h:At P B w0 w m g fr s a)(hu:P.underlying t=some td)(ia:∀ms,td≠ .interface ms)(hz:Dc P t=some z)
  (q:AC x=some p) (ho:o.op= .typeAssert x xt t ok) (y:Ax S s m fr (.tass t ok z p)=some (d,u)):u=[]∧C8 P B w0 m g fr w m d (execOp a.eval o):=by
 have ta:=h.slots.arg q;obtain⟨zv,c,b⟩:∃zv,Rep w g z zv∧(zeroValue t).run P w= .ok zv w:=by
  unfold Dc at hz;split at hz
  ·rename_i i hi;split at hz
   ·rename_i v r;exact⟨v,Rep.ofVal hz,by simp[zeroValue,typeInfo,hi,r]⟩
   ·cases hz
  ·cases hz
 have j:∀v,(Instr.typeAssert (a.eval x) xt t ok).run P w= .ok v w->(execOp a.eval o).run P w= .ok (.value v) w:=by
  intro v e;simp only[execOp,ho,Sem.run_bind,e,Result.andThen_ok,Sem.run_pure]
 simp only[Ax]at y;split at y
 ·rename_i n d' ex;rw[ex]at ta;obtain⟨v,ev,r,_⟩:=ta.iface_inv;split at y
  ·rename_i qa;subst qa;simp only[Qa,Qd]at y;obtain⟨rfl,rfl⟩:=y;refine⟨rfl,.pure (v:=if ok then .tuple #[v,.bool true]else v) h.inv (j _ ?_) ?_⟩
   ·rw[ev];unfold Instr.typeAssert;simp only[Sem.run_bind,run_underlying hu,Result.andThen_ok];cases td<;>first|exact absurd rfl (ia _)|(cases ok<;>simp)
   ·cases ok
    ·exact r
    ·exact bC r (.bool true)
  ·rename_i qa;split at y
   ·rename_i k;subst k;simp only[Qa,Qd]at y;obtain⟨rfl,rfl⟩:=y;refine⟨rfl,.pure (v:= .tuple #[zv,.bool false]) h.inv (j _ ?_) (bC c (.bool false))⟩;rw[ev];unfold Instr.typeAssert;simp only[Sem.run_bind,run_underlying hu,Result.andThen_ok];have f:¬n=t:=qa;cases td<;>first|exact absurd rfl (ia _)|(simp[f,b])
   ·cases y
 ·rename_i ex;rw[ex]at ta;have ev:=ta.nili_inv;split at y
  ·rename_i k;subst k;simp only[Qa,Qd]at y;obtain⟨rfl,rfl⟩:=y;refine⟨rfl,.pure (v:= .tuple #[zv,.bool false]) h.inv (j _ ?_) (bC c (.bool false))⟩;rw[ev];unfold Instr.typeAssert;simp only[Sem.run_bind,run_underlying hu,Result.andThen_ok];cases td<;>first|exact absurd rfl (ia _)|(simp[b])
  ·cases y
 ·cases y
def fV{xs:Array Operand}{l:List G9}(h:At P B w0 w m g fr s a)(hl:D6 xs.toList=some l):
  ((xs.map a.eval).toList).length=(l.map (·.ev s)).length∧∀(j:Nat) d v,(l.map (·.ev s))[j]?=some d->((xs.map a.eval).toList)[j]?=some v->Rep w g d v:=by
 have:=h.slots.args hl;simpa using this
end
def NN{w:World}{b k:Nat}{o:Obj}(h:k≠b):({w with heap:=w.heap.setIfInBounds b o}:World).heap[k]?=w.heap[k]?:=by
 grind
def Gh.itr(g:Gh)(t:Id)(b:Nat):Gh:={g with tb:=λi=>if i=t then some (b,0,0,0)else g.tb i}
section
variable{P:Program}{B:Nat}{w0 w w':World}{m:G6}{g g':Gh}{fr:Id}{s:Nat->D}{a:Act}{S:GZ}{d:D}{u:Ha}
def Eg(m:G6)(t:Id)(x:D)(i:Id)(o:Nat):m.put t 1 [x] i o=if i=t∧o=1 then some x else m i o:=by
 grind [G6.put]
def Ht.newItr{t:Id}(o:Obj)(v:∀b,w.heap.size<=b->g.G b=0)(d:g.tb t=none):Ht w g (w.alloc o) (g.itr t w.heap.size):=by
 refine⟨λp c=>?_,λr=>Qk _,λz b h=>h,rfl,λi x h=>?_⟩
 ·by_cases u:p.block<w.heap.size
  ·exact World.cell?_alloc_lt w o p u
  ·simp_all
 ·grind [Gh.itr]
def He.newItr(h:He P B w0 m w g){t:Id}(hf:B1 m g t)(bs:List UInt8):He P B w0 (m.put t 1 [.it bs 0]) (w.alloc (.stringIter ⟨bs.toArray⟩ 0)) (g.itr t w.heap.size):=by
 have x:=Ht.newItr (t:=t) (Obj.stringIter ⟨bs.toArray⟩ 0) h.gz hf.2.2;have da:=Eg m t (.it bs 0);refine⟨h.below.alloc h.size _,Yv,λb z=>h.gz b (by simp at z;omega),h.old,λi b hi=>?_,h.inj,λi o d hm a=>?_,λi e hi=>?_,λi1 i2 e1 e2 b y y' u f j h4=>?_,λi s p hi=>?_,λi i' s p s' p' b y y' u f j h4=>?_⟩
 ·obtain⟨p,q,vs,T,hh,r⟩:=h.obj i b hi;refine⟨p,q,vs,T,(Below.heap_alloc w _ b (h.lt hi)).trans hh,λo d hm=>?_⟩;rw[da,if_neg (by rintro⟨rfl,_⟩;simp only[Gh.itr]at hi;rw[hf.2.1]at hi;cases hi)]at hm;obtain⟨v,r1,r2,r3⟩:=r o d hm;exact⟨v,r1,r2,r3.ext x⟩
 ·rw[da]at hm;split at hm
  ·rw[←QJ hm];rfl
  ·exact h.kind _ _ _ hm a
 ·rw[da,if_neg U]at hi;obtain⟨b,n,c,sz,cur,t1,t2,t3,t4,t5,t6,t7,t8,t9,xa⟩:=h.tok i e hi;have k:b<w.heap.size:=(Qf.1 t5).1;have ba:i≠t:=by rintro rfl;rw[hf.1 0]at hi;cases hi
  exact⟨b,n,c,sz,cur,by simp[Gh.itr,ba,t1],t2,t3,t4,(Below.heap_alloc w _ b k).trans t5,t6,t7,t8,t9,xa⟩
 ·rw[da,if_neg U]at u f;have n1:i1≠t:=by rintro rfl;rw[hf.1 0]at u;cases u
  have n2:i2≠t:=by rintro rfl;rw[hf.1 0]at f;cases f
  simp only[Gh.itr,if_neg n1]at j;simp only[Gh.itr,if_neg n2]at h4;exact h.tinj _ _ _ _ _ _ _ u f j h4
 ·rw[da]at hi;split at hi
  ·rename_i hc;obtain⟨rfl,_⟩:=hc;simp only[Qa,D.it.injEq]at hi;obtain⟨rfl,rfl⟩:=hi;exact⟨w.heap.size,by simp[Gh.itr],h.size,heap_alloc_new w _,h.gz _ (Qk _),λi' h'=>by have:=h.lt h';omega⟩
  ·obtain⟨b,t1,t2,t3,t4,t5⟩:=h.itr.1 i s p hi;have k:b<w.heap.size:=(Qf.1 t3).1;have ba:i≠t:=by rintro rfl;rw[hf.1 1]at hi;cases hi
   exact⟨b,by simp[Gh.itr,ba,t1],t2,(Below.heap_alloc w _ b k).trans t3,t4,t5⟩
 ·have fa:∀i s p,m i 1=some (.it s p)->∀b y,(g.itr t w.heap.size).tb i=some (b,y)->i≠t∧g.tb i=some (b,y)∧b<w.heap.size:=by
   intro i s p hm b y z;have ba:i≠t:=by rintro rfl;rw[hf.1 1]at hm;cases hm
   simp only[Gh.itr,if_neg ba]at z;obtain⟨b',t1,t2,t3,t4,t5⟩:=h.itr.1 i s p hm;rw[t1]at z;simp only[Qa,Qd]at z;obtain⟨rfl,rfl⟩:=z;exact⟨ba,t1,(Qf.1 t3).1⟩
  rw[da]at u f;split at u<;>split at f
  ·simp_all
  ·grind [Gh.itr]
  ·grind [Gh.itr]
  ·obtain⟨_,k3,_⟩:=fa _ _ _ u _ _ j;obtain⟨_,k4,_⟩:=fa _ _ _ f _ _ h4;exact h.itr.2 _ _ _ _ _ _ _ _ _ u f k3 k4
def He.nextItr(h:He P B w0 m w g){i:Id}{b:Nat}{bs:List UInt8}{p q:Nat}(hm:m i 1=some (.it bs p))(t:g.tb i=some (b,0,0,0)):
  He P B w0 (m.put i 1 [.it bs q]) {w with heap:=w.heap.setIfInBounds b (.stringIter ⟨bs.toArray⟩ q)} g∧Ht w g {w with heap:=w.heap.setIfInBounds b (.stringIter ⟨bs.toArray⟩ q)} g:=by
 obtain⟨b0,t1,t2,t3,t4,t5⟩:=h.itr.1 i bs p hm;rw[t]at t1;simp only[Qa,Qd,and_true]at t1;subst t1;have ea:b<w.heap.size:=(Qf.1 t3).1;have j:∀k,k≠b->({w with heap:=w.heap.setIfInBounds b (.stringIter ⟨bs.toArray⟩ q)}:World).heap[k]?=w.heap[k]?:=λk hk=>NN hk
 have da:=Eg m i (.it bs q);have x:Ht w g {w with heap:=w.heap.setIfInBounds b (.stringIter ⟨bs.toArray⟩ q)} g:=by
  refine⟨λr hr=>?_,λ_=>Qk _,λ_ _ h=>h,rfl,λ_ _ h=>h⟩;have ga:r.block≠b:=by rintro e;rw[e,t4]at hr;omega
  simp only[World.cell?];rw[j _ ga]
 have ja:({w with heap:=w.heap.setIfInBounds b (.stringIter ⟨bs.toArray⟩ q)}:World).heap.size=w.heap.size:=U
 refine⟨⟨⟨h.below.os,h.below.tape,h.below.output,Ym,λk hk=>(j k O).trans (h.below.block k hk)⟩,Yl,by rw[ja];exact h.gz,h.old,λi' b' hi=>?_,h.inj,λi' o d aa a=>?_,λi' e hi=>?_,λi1 i2 e1 e2 b' y y' u f h3 h4=>?_,λi' s' p' hi=>?_,λi1 i2 s1 p1 s2 p2 b' y y' u f h3 h4=>?_⟩,x⟩
 ·obtain⟨p1,q1,vs,T,hh,r⟩:=h.obj i' b' hi;have ga:b'≠b:=by rintro rfl;exact t5 i' hi
  refine⟨p1,q1,vs,T,(j b' ga).trans hh,λo d aa=>?_⟩;rw[da]at aa;split at aa
  ·rename_i hc;obtain⟨rfl,rfl⟩:=hc;obtain⟨v,_,_,r3⟩:=r 1 _ hm;cases r3
  ·obtain⟨v,r1,r2,r3⟩:=r o d aa;exact⟨v,r1,r2,r3.ext x⟩
 ·rw[da]at aa;split at aa
  ·rw[←QJ aa];rfl
  ·exact h.kind _ _ _ aa a
 ·rw[da,if_neg U]at hi;obtain⟨b1,n,c,sz,cur,u1,u2,u3,u4,u5,u6,u7,u8,u9,z⟩:=h.tok i' e hi;have ga:b1≠b:=by rintro rfl;rw[t3]at u5;cases u5
  exact⟨b1,n,c,sz,cur,u1,u2,u3,u4,(j b1 ga).trans u5,u6,u7,u8,u9,z⟩
 ·rw[da,if_neg U]at u f;exact h.tinj _ _ _ _ _ _ _ u f h3 h4
 ·rw[da]at hi;split at hi
  ·simp_all
  ·rename_i hc;obtain⟨b1,u1,u2,u3,u4,u5⟩:=h.itr.1 i' s' p' hi;have ga:b1≠b:=by
    rintro rfl;exact hc ⟨h.itr.2 _ _ _ _ _ _ _ _ _ hi hm u1 t,rfl⟩
   exact⟨b1,u1,u2,(j b1 ga).trans u3,u4,u5⟩
 ·have fa:∀i' s' p',m.put i 1 [.it bs q] i' 1=some (.it s' p')->∃s p,m i' 1=some (.it s p):=by
   intro i' s' p' hi;rw[da]at hi;split at hi
   ·simp_all
   ·exact⟨_,_,hi⟩
  obtain⟨_,_,k1⟩:=fa _ _ _ u;obtain⟨_,_,k2⟩:=fa _ _ _ f;exact h.itr.2 _ _ _ _ _ _ _ _ _ k1 k2 h3 h4
def Rep.itp_inv{i:Id}{v:Value}(h:Rep w g (.itp i) v):∃b,v= .pointer (some ⟨b,0,none⟩)∧g.tb i=some (b,0,0,0):=by
 cases h with
 |itp _ b m=>exact⟨b,rfl,m⟩
def lP{t:TypeId}{o:Oper}{x:Operand}{y:G9}(h:At P B w0 w m g fr s a)(z:P.underlying t=some .string)(q:AC x=some y)(r:o.op= .range t x)
  (v:Ax S s m fr (.range y)=some (d,u)):C8 P B w0 m g fr w (Ha.app m u) d (execOp a.eval o):=by
 have j:=h.slots.arg q;simp only[Ax]at v;split at v
 ·rename_i b c;rw[c]at j;simp only[Qa,Qd]at v;obtain⟨rfl,rfl⟩:=v;refine⟨.pointer (some ⟨w.heap.size,0,none⟩),w.alloc (.stringIter ⟨b.toArray⟩ 0),g.itr fr w.heap.size,.value (.pointer (some ⟨w.heap.size,0,none⟩)),?_,.inl rfl,?_⟩
  ·have n:a.eval x= .string ⟨b.toArray⟩:=j.str_inv;simp[execOp,r,Instr.range,run_underlying z,n]
  ·refine⟨h.inv.newItr h.self b,Ht.newItr _ h.inv.gz h.self.2.2,.itp fr _ (by simp[Gh.itr]),λi hf p=>?_⟩;have:i≠fr:=λe=>p Yn
   exact⟨λo=>by show m.put fr 1 _ i o=none;rw[Eg,if_neg (by simp[this])];exact hf.1 o,hf.2.1,by simp only[Gh.itr];rw[if_neg this];exact hf.2.2⟩
 ·cases v
def wT{o:Oper}{x:Operand}{y:G9}(h:At P B w0 w m g fr s a)(n:AC x=some y)(ho:o.op= .next x true)
  (f:Ax S s m fr (.next y)=some (d,u)):C8 P B w0 m g fr w (Ha.app m u) d (execOp a.eval o):=by
 have hr:=h.slots.arg n;simp only[Ax]at f;split at f
 ·rename_i i ex;rw[ex]at hr;obtain⟨b,e1,hb⟩:=hr.itp_inv;split at f
  ·rename_i bs z hm;obtain⟨b',t1,t2,t3,t4,t5⟩:=h.inv.itr.1 i bs z hm;rw[hb]at t1;simp only[Qa,Qd,and_true]at t1;subst t1;have k:b<w.heap.size:=(Qf.1 t3).1;have fa:(getObj b).run P w= .ok (.stringIter ⟨bs.toArray⟩ z) w:=by simp[getObj,Sem.run,t3]
   have p:∀o',(setObj b o').run P w= .ok () {w with heap:=w.heap.setIfInBounds b o'}:=by intro o';simp[setObj,Sem.run,t3]
   have ja:(ByteArray.mk bs.toArray).size=bs.length:=X0
   split at f
   ·rename_i hp;simp only[Qa,Qd]at f;obtain⟨rfl,rfl⟩:=f;obtain⟨hi,qa⟩:=h.inv.nextItr (q:=z+(Utf8.decode ⟨bs.toArray⟩ z).2) hm hb;refine⟨.tuple #[.bool true,.int .i64 (z:Nat),.int .i32 (Utf8.decode ⟨bs.toArray⟩ z).1],_,g,.value (.tuple #[.bool true,.int .i64 (z:Nat),.int .i32 (Utf8.decode ⟨bs.toArray⟩ z).1]),?_,.inl rfl,⟨hi,qa,?_,λj e ga=>?_⟩⟩
    ·simp only[execOp,ho,Instr.next,e1,Sem.run_bind,fa,Result.andThen_ok,ja,hp,if_true];cases t:Utf8.decode ⟨bs.toArray⟩ z with
     |mk c wd=>
      simp only[p,Result.andThen_ok,Sem.run_pure];rfl
    ·refine .tup [_,_,_] [_,_,_] rfl (λj d v t r=>?_)
     match j with
     |0=>simp at t r;subst t r;exact .bool _
     |1=>simp at t r;subst t r;exact .int _ _
     |2=>simp at t r;subst t r;exact .int _ _
     |j+3=>simp at t
    ·have:j≠i:=by rintro rfl;rw[e.1 1]at hm;cases hm
     exact⟨λo=>by show m.put i 1 _ j o=none;rw[Eg,if_neg (by simp[this])];exact e.1 o,e.2⟩
   ·rename_i hp;simp only[Qa,Qd]at f;obtain⟨rfl,rfl⟩:=f;refine .pure (v:= .tuple #[.bool false]) h.inv ?_ (.tup [_] [_] rfl (λj d v t r=>?_))
    ·simp only[execOp,ho,Instr.next,e1,Sem.run_bind,fa,Result.andThen_ok,ja,hp,if_false,Sem.run_pure]
    ·match j with
     |0=>simp at t r;subst t r;exact .bool _
     |j+1=>simp at t
  ·cases f
 ·cases f
end
structure HF.ok (P:Program) (f:FuncId) (q:HF):Prop where
 ent:∃fn,P.funcs[f]?=some fn∧fn.body.isSome=true∧(fn.name== "runtime.NumGoroutine")=false
 loc:∀ds m m' fr,(∀l∈q.rd ds m,m l.1 l.2=m' l.1 l.2)->q.ex ds m fr=q.ex ds m' fr
 run:∀{B:Nat} {w0 w:World} {m:G6} {g:Gh} {fr:Id} {ds:List D} {vs:List Value} {r:D} {u:Ha},He P B w0 m w g->(∀i,fr<:+i->B1 m g i)->
  vs.length=ds.length->(∀(j:Nat) d v,ds[j]?=some d->vs[j]?=some v->Rep w g d v)->q.ex ds m fr=some (r,u)->
  Calls P f vs.toArray w λe w'=>∃v g',e= .returned v∧aRf P B w0 m g fr w (Ha.app m u) r v w' g'
def GZ.ok(P:Program)(S:GZ):Prop:=∀f q,S f=some q->q.ok P f
section
variable{P:Program}{B:Nat}{w0 w:World}{m:G6}{g:Gh}{fr:Id}{s:Nat->D}{a:Act}{S:GZ}{d:D}{u:Ha}
def aHt{o:Oper}{ha:DOp}(h:At P B w0 w m g fr s a)(ca:tr P o.op=some ha)(za:∀f xs,ha≠ .call f xs)(aa:Ax S s m fr ha=some (d,u)):
  C8 P B w0 m g fr w (Ha.app m u) d (execOp a.eval o):=by
 have da:∀{x:Operand} {F:G9->DOp},(AC x).map F=some ha->∃y,AC x=some y∧ha=F y:=by
  simp_all
 have j:∀{v:Value} {d':D},(execOp a.eval o).run P w= .ok (.value v) w->Rep w g d' v->some (d',([]:Ha))=some (d,u)->C8 P B w0 m g fr w (Ha.app m u) d (execOp a.eval o):=by
  intro v d' e1 e2 e3;simp only[Qa,Qd]at e3;obtain⟨rfl,rfl⟩:=e3;exact .pure h.inv e1 e2
 cases hop:o.op<;>rw[hop]at ca<;>first|(simp only[tr]at ca;done)|skip
 case move x=>
  obtain⟨y,hx,rfl⟩:=da ca;exact j (by simp[execOp,hop]) (h.slots.arg hx) aa
 case assign x=>
  obtain⟨y,hx,rfl⟩:=da ca;exact j (by simp[execOp,hop]) (h.slots.arg hx) aa
 case pick c x y=>
  simp only[tr]at ca;split at ca
  ·rename_i c' x' y' e1 e2 e3;simp only[Qa]at ca;subst ca;simp only[Ax]at aa;split at aa
   ·rename_i b eb;have hb:=h.slots.arg e1;rw[eb]at hb;have ma:(execOp a.eval o).run P w= .ok (.value (if b then a.eval x else a.eval y)) w:=by
     simp[execOp,hop,hb.bool_inv,asBool]
    refine j ma ?_ aa;cases b
    ·exact h.slots.arg e3
    ·exact h.slots.arg e2
   ·cases aa
  ·cases ca
 case alloc t=>
  simp only[tr]at ca;rw[Qb]at ca;obtain⟨z,hz,rfl⟩:=ca;simp only[Ax,Qa,Qd]at aa;obtain⟨rfl,rfl⟩:=aa;exact lV h hz hop
 case box t x=>
  obtain⟨y,hx,rfl⟩:=da ca;simp only[Ax]at aa;split at aa
  ·rename_i hd;simp only[Qa,Qd]at aa;obtain⟨rfl,rfl⟩:=aa;exact aCT h hx hd hop
  ·cases aa
 case build t parts=>
  simp only[tr]at ca;split at ca
  ·rename_i ba zs hu hz;split at ca
   ·rename_i ea;rw[Qb]at ca;obtain⟨l,hl,rfl⟩:=ca;exact .of_nil (lU h hu ea hz hl hop aa)
   ·cases ca
  ·rename_i len e zs hu hz;split at ca
   ·rename_i la;rw[Qb]at ca;obtain⟨l,hl,rfl⟩:=ca;exact .of_nil (eV h hu la hz hl hop aa)
   ·cases ca
  ·cases ca
 case buildSlice t len parts=>
  simp only[tr]at ca;split at ca
  ·grind [eW]
  ·cases ca
 case load t x=>
  simp only[tr]at ca;split at ca
  ·rename_i k y hk hx;simp only[Qa]at ca;subst ca;exact .of_nil (wV h hk hx hop aa)
  ·cases ca
 case store t x v=>
  simp only[tr]at ca;split at ca
  ·grind [lO]
  ·cases ca
 case nilCheck x=>
  obtain⟨y,hx,rfl⟩:=da ca;have hr:=h.slots.arg hx;simp only[Ax]at aa;split at aa
  ·rename_i i o' e;rw[e]at hr;obtain⟨b,e1,hb⟩:=hr.ptr_inv;exact j (v:=a.eval x) Yd hr aa
  ·rename_i ds e;rw[e]at hr;obtain⟨ad,vv,e1,_⟩:=hr.eptr_inv;exact j (v:=a.eval x) Yd hr aa
  ·rename_i f cs e;rw[e]at hr;obtain⟨vs,e1,_⟩:=hr.fn_inv;exact j (v:=a.eval x) Yd hr aa
  ·cases aa
 case binOp op t x y yt=>
  cases op
  case eql=>
   simp only[tr]at ca;split at ca
   ·rename_i p q hx hy;exact .of_nil (qL (ne:=false) h hx hy ca hop aa)
   ·cases ca
  case neq=>
   simp only[tr]at ca;split at ca
   ·rename_i p q hx hy;exact .of_nil (qL (ne:=true) h hx hy ca hop aa)
   ·cases ca
  all_goals
   simp only[tr]at ca;split at ca
   ·rename_i p q hx hy;simp only[Qa]at ca;subst ca;exact .of_nil (aCU h hx hy hop aa)
   ·cases ca
 case unOp op t x=>
  obtain⟨y,hx,rfl⟩:=da ca;simp only[Ax]at aa;rw[Qb]at aa;obtain⟨d',h1,aa⟩:=aa;obtain⟨v,e1,e2⟩:=aAl (P:=P) (h.slots.arg hx) h1;exact j (by simp only[execOp,hop,Sem.run_bind,e1,Result.andThen_ok,Sem.run_pure]) e2 (by rw[aa])
 case convert src dst x=>
  simp only[tr]at ca;split at ca
  ·rename_i k1 k y hs hd hx;simp only[Qa]at ca;subst ca;have hr:=h.slots.arg hx;simp only[Ax]at aa;split at aa
   ·rename_i k' n e;rw[e]at hr;refine j (v:= .int k (k.wrap n)) ?_ (.int _ _) aa;simp[execOp,hop,hr.int_inv,convert,run_underlying hs,run_underlying hd,Conv.intToInt]
   ·cases aa
  ·rename_i y hs hd hx;simp only[Qa]at ca;subst ca;have hr:=h.slots.arg hx;simp only[Ax]at aa;split at aa
   ·rename_i b e;rw[e]at hr;refine j (v:=a.eval x) ?_ hr aa;simp[execOp,hop,hr.str_inv,convert,run_underlying hs,run_underlying hd]
   ·cases aa
  ·rename_i e y hs hd hx;split at ca
   ·rename_i he;simp only[Qa]at ca;subst ca;exact .of_nil (aCS h hs hd he hx hop aa)
   ·cases ca
  ·rename_i e y hs hd hx;split at ca
   ·rename_i he;simp only[Qa]at ca;subst ca;exact .of_nil (aCV h hs hd he hx hop aa)
   ·cases ca
  ·cases ca
 case fieldAddr t x f=>
  simp only[tr]at ca;split at ca
  ·rename_i ba y hu hx;split at ca
   ·rename_i fd hf;split at ca
    ·rename_i n hn;simp only[Qa]at ca;subst ca;exact .of_nil (lT h hu hf hn hx hop aa)
    ·cases ca
   ·cases ca
  ·cases ca
 case field t x f=>
  simp only[tr]at ca;split at ca
  ·rename_i ba y hu hx;split at ca
   ·rename_i fd hf;rw[Qb]at ca;obtain⟨k,hk,rfl⟩:=ca;exact .of_nil (lS h hu hf hk hx hop aa)
   ·cases ca
  ·cases ca
 case indexAddr t x i=>
  simp only[tr]at ca;split at ca
  ·rename_i e y z hu hx hi;rw[Qb]at ca;obtain⟨n,hn,rfl⟩:=ca;exact .of_nil (lQ h hu hn hx hi hop aa)
  ·rename_i len e y z hu hx hi;rw[Qb]at ca;obtain⟨n,hn,rfl⟩:=ca;exact .of_nil (lR h hu hn hx hi hop aa)
  ·cases ca
 case index t x i=>
  simp only[tr]at ca;split at ca
  ·rename_i y z hu hx hi;simp only[Qa]at ca;subst ca;exact .of_nil (wW h hu hx hi hop aa)
  ·rename_i len e y z hu hx hi;split at ca
   ·rename_i hk;split at ca
    ·rename_i hc;simp only[Qa]at ca;subst ca;exact .of_nil (wY h hu hk hc hx hi hop aa)
    ·cases ca
   ·rename_i sz hk;simp only[Qa]at ca;subst ca;exact .of_nil (wX h hu hk hx hi hop aa)
   ·cases ca
  ·cases ca
 case slice t x lo hi mx=>
  cases mx with
  |some mx=>simp only[tr]at ca;cases ca
  |none=>
   simp only[tr]at ca;split at ca
   ·rename_i y l' h' hu hx ra sa;simp only[Qa]at ca;subst ca;exact .of_nil (wZ h hu hx ra sa hop aa)
   ·rename_i e y l' h' hu hx ra sa;rw[Qb]at ca;obtain⟨n,hn,rfl⟩:=ca;exact .of_nil (xA h hu hn hx ra sa hop aa)
   ·cases ca
 case makeInterface t x=>
  simp only[tr]at ca;split at ca
  ·cases ca
  ·rename_i td y ia hu hx;simp only[Qa]at ca;subst ca;have hr:=h.slots.arg hx;simp only[Ax]at aa;split at aa
   ·rename_i hc;refine j (v:= .iface t (a.eval x)) ?_ (.iface t _ _ hc.2 hr.un) aa;simp only[execOp,hop,Instr.makeInterface,Sem.run_bind,run_underlying hu,Result.andThen_ok];cases td<;>first|exact absurd rfl (ia _)|rfl
   ·cases aa
  ·cases ca
 case typeAssert x xt t ok=>
  simp only[tr]at ca;split at ca
  ·cases ca
  ·rename_i td z y ia hu hz hx;simp only[Qa]at ca;subst ca;exact .of_nil (wR h hu (λms e=>ia ms (by rw[←e])) hz hx hop aa)
  ·cases ca
 case extract x i=>
  obtain⟨y,hx,rfl⟩:=da ca;have hr:=h.slots.arg hx;simp only[Ax]at aa;split at aa
  ·rename_i ds e;rw[e]at hr;obtain⟨vs,e1,e2,e3⟩:=hr.tup_inv;rw[Qb]at aa;obtain⟨d',hd,aa⟩:=aa;have hv:i<vs.length:=by rw[e2];exact(Qe.1 hd).1
   exact j (v:=vs[i]) (by simp[execOp,hop,e1,Instr.extract,hv]) (e3 i d' _ hd (Qc hv)) (by rw[aa])
  ·cases aa
 case makeFunc fn first caps=>
  cases fn with
  |func f=>
   simp only[tr]at ca;split at ca
   ·rename_i l hf hl;simp only[Qa]at ca;subst ca;have pa:first=#[]:=Array.toList_eq_nil_iff.1 hf
    subst pa;obtain⟨a1,a2⟩:=fV h hl;simp only[Ax]at aa;refine j (v:= .func (.func f) #[] (caps.map a.eval)) (by simp[execOp,hop,Instr.makeFunc]) ?_ aa;have:=Rep.fn (w:=w) (g:=g) f (l.map (·.ev s)) (caps.map a.eval).toList a1 a2
    rwa [QC]at this
   ·cases ca
  |_=>simp only[tr]at ca;cases ca
 case makeSlice t x y=>
  simp only[tr]at ca;split at ca
  ·rename_i e hu;split at ca
   ·rename_i sz bytes z p q he hz hx hy;simp only[Qa]at ca;subst ca;exact wU h hu he hz hx hy hop aa
   ·cases ca
  ·cases ca
 case range t x=>
  simp only[tr]at ca;split at ca
  ·rename_i y hu hx;simp only[Qa]at ca;subst ca;exact lP h hu hx hop aa
  ·cases ca
 case next x b=>
  cases b with
  |true=>
   obtain⟨y,hx,rfl⟩:=da ca;exact wT h hx hop aa
  |false=>simp only[tr]at ca;cases ca
 case call c=>
  simp only[tr,PI]at ca;split at ca
  ·split at ca
   ·simp only[Qa]at ca;exact absurd ca.symm (za _ _)
   ·cases ca
  ·rename_i fa;split at ca
   ·rename_i x t r oa;have hc:c={callee:= .builtin .len,args:=#[x],argTypes:=#[t]}:=by
     cases c;simp only at fa r oa ⊢;subst fa;congr
     ·exact Q4.1 r
     ·exact Q4.1 oa
    subst hc;have ga:∀n,(Builtin.len_ #[t] o.type #[a.eval x]).run P w= .ok (goInt n) w->(execOp a.eval o).run P w= .ok (.value (.int .i64 n)) w:=by
     intro n e;simp only[execOp,hop,resolve,invoke,builtin,Sem.run_bind,Sem.run_pure,Result.andThen_ok,ZB,Qs,Zk,e];rfl
    split at ca
    ·rename_i hu;obtain⟨y,hx,rfl⟩:=da ca;have hr:=h.slots.arg hx;simp only[Ax]at aa;rw[Qb]at aa;obtain⟨n,hn,aa⟩:=aa;unfold kK at hn;split at hn
     ·rename_i b _ e;rw[e]at hr;simp only[Qa]at hn;subst hn;have hl:(Builtin.len_ #[t] o.type #[a.eval x]).run P w= .ok (goInt (b.length:Int)) w:=by
       have ja:(ByteArray.mk b.toArray).size=b.length:=X0
       simp[Builtin.len_,run_underlying hu,hr.str_inv,ja]
      exact j (ga _ hl) (.int _ _) (by rw[aa])
     ·rename_i ka _;cases ka
     ·rename_i ka _;cases ka
     ·cases hn
    ·rename_i e hu;obtain⟨y,hx,rfl⟩:=da ca;have hr:=h.slots.arg hx;simp only[Ax]at aa;rw[Qb]at aa;obtain⟨n,hn,aa⟩:=aa;unfold kK at hn;split at hn
     ·rename_i ka _;cases ka
     ·rename_i nl t' xs _ e';rw[e']at hr;obtain⟨ad,cc,e1,_⟩:=hr.len_slice;simp only[Qa]at hn;subst hn;have hl:(Builtin.len_ #[t] o.type #[a.eval x]).run P w= .ok (goInt (xs.length:Int)) w:=by
       simp[Builtin.len_,run_underlying hu,e1]
      exact j (ga _ hl) (.int _ _) (by rw[aa])
     ·rename_i i' n' _ e';rw[e']at hr;obtain⟨b',cc,e1,_,_⟩:=hr.row_inv;simp only[Qa]at hn;subst hn;have hl:(Builtin.len_ #[t] o.type #[a.eval x]).run P w= .ok (goInt (n':Int)) w:=by
       simp[Builtin.len_,run_underlying hu,e1]
      exact j (ga _ hl) (.int _ _) (by rw[aa])
     ·cases hn
    ·cases ca
   ·cases ca
  ·rename_i fa;split at ca
   ·rename_i x y t t' r oa;split at ca
    ·rename_i qa;have hc:c={callee:= .builtin .append,args:=#[x,y],argTypes:=#[t,t']}:=by
      cases c;simp only at fa r oa ⊢;subst fa;congr
      ·exact Q4.1 r
      ·exact Q4.1 oa
     subst hc;split at ca
     ·rename_i e hu;split at ca
      ·rename_i sz bytes p q he hx hy;simp only[Qa]at ca;subst ca;exact aCW h hu he hx hy hop (qa.imp id kV) aa
      ·cases ca
     ·cases ca
    ·cases ca
   ·cases ca
  ·rename_i fa;split at ca
   ·rename_i x y r;split at ca
    ·rename_i p q hx hy;simp only[Qa]at ca;subst ca;have ta:=h.slots.arg hx;have na:=h.slots.arg hy;simp only[Ax]at aa;split at aa
     ·rename_i k n k' n' e1 e2;rw[e1]at ta;rw[e2]at na;refine j (v:= .int k (max n n')) ?_ (.int _ _) aa;simp only[execOp,hop,resolve,invoke,builtin,fa,Sem.run_bind,Sem.run_pure,Result.andThen_ok];simp only[Builtin.max_,QL,r,Qs,Zk,ta.int_inv,na.int_inv,ZN,Builtin.max2,Sem.run_bind,Sem.run_pure,Result.andThen_ok];have:(if n'>n then n' else n)=max n n':=by omega
      simp[this]
     ·cases aa
    ·cases ca
   ·cases ca
  ·rename_i fa;split at ca
   ·rename_i x y r;split at ca
    ·rename_i p q hx hy;simp only[Qa]at ca;subst ca;have ta:=h.slots.arg hx;have na:=h.slots.arg hy;simp only[Ax]at aa;split at aa
     ·rename_i k n k' n' e1 e2;rw[e1]at ta;rw[e2]at na;refine j (v:= .int k (min n n')) ?_ (.int _ _) aa;simp only[execOp,hop,resolve,invoke,builtin,fa,Sem.run_bind,Sem.run_pure,Result.andThen_ok];simp only[Builtin.min_,QL,r,Qs,Zk,ta.int_inv,na.int_inv,ZN,Builtin.min2,Sem.run_bind,Sem.run_pure,Result.andThen_ok];have:(if n'<n then n' else n)=min n n':=by omega
      simp[this]
     ·cases aa
    ·cases ca
   ·cases ca
  ·cases ca
 all_goals (simp[tr]at ca)
end
section
variable{P:Program}{B:Nat}{w0 w:World}{m:G6}{g:Gh}{fr:Id}{s:Nat->D}{a:Act}{S:GZ}{d:D}{u:Ha}
def WL{c:Call}{f:G9}{xs:List G9}(h:PI P c=some (.call f xs)):∃k,c.callee= .value k∧AC k=some f∧D6 c.args.toList=some xs:=by
 unfold PI at h;split at h
 ·grind
 ·exfalso
  repeat' (split at h)
  all_goals exact Y3
 ·grind
 ·grind
 ·grind
 ·cases h
def aGS{op:Op}{f:G9}{xs:List G9}(h:tr P op=some (.call f xs)):∃c,op= .call c∧PI P c=some (.call f xs):=by
 cases op with
 |call c=>exact⟨c,rfl,h⟩
 |binOp op t x y i=>
  exfalso;cases op<;>simp only[tr,aAs]at h<;>repeat' (split at h)
  all_goals exact Y3
 |makeFunc k x y=>
  exfalso;cases k<;>simp only[tr]at h<;>repeat' (split at h)
  all_goals exact Y3
 |slice t x lo hi n=>
  exfalso;cases n<;>simp only[tr]at h<;>repeat' (split at h)
  all_goals exact Y3
 |next x b=>
  exfalso;cases b<;>simp only[tr]at h
  all_goals exact Y3
 |_=>
  exfalso;simp only[tr]at h<;>repeat' (split at h)
  all_goals exact Y3
def aTn{o:Oper}{x:DOp}{K:Act->World->Prop}{Q:Exit->Act->World->Prop}(hS:GZ.ok P S)(h:At P B w0 w m g fr s a)(ca:tr P o.op=some x)(z:Ax S s m fr x=some (d,u))
  (hK:∀v' w' g',aRf P B w0 m g fr w (Ha.app m u) d v' w' g'->K (a.put o.dst v') w'):o.wp P a w K Q:=by
 by_cases hc:∃f xs,x= .call f xs
 ·obtain⟨f,xs,rfl⟩:=hc;obtain⟨c,ga,t⟩:=aGS ca;obtain⟨fo,fa,hf,eb⟩:=WL t;simp only[Ax]at z;split at z
  ·rename_i wF caps ef;split at z
   ·rename_i q hq;have ea:=hS wF q hq;have b:=h.slots.arg hf;rw[ef]at b;obtain⟨vs,e1,e2,e3⟩:=b.fn_inv;obtain⟨a1,a2⟩:=fV h eb;obtain⟨fn,l,k,i⟩:=ea.ent;have n:fn.body.isNone=false:=by cases hb:fn.body<;>simp_all
    have y:((c.args.map a.eval).toList++vs).length=(xs.map (·.ev s)++caps).length:=by simp at a1 ⊢;omega
    have da:∀(j:Nat) d v,(xs.map (·.ev s)++caps)[j]?=some d->((c.args.map a.eval).toList++vs)[j]?=some v->Rep w g d v:=by
     grind
    have oa:=ea.run h.inv h.fresh y da z;have p:((c.args.map a.eval).toList++vs).toArray=c.args.map a.eval++vs.toArray:=U
    rw[p]at oa;have ma:(execOp a.eval o).run P w= .ok (.enter wF (c.args.map a.eval++vs.toArray)) w:=by
     simp only[execOp,ga,resolve,fa,e1,Deferred.ofValue,Sem.run_bind,Sem.run_pure,Result.andThen_ok,invoke,callFunc,run_program,l,i,n,QG,if_false];simp
    unfold Oper.wp;rw[ma,Oper.upon_enter];refine oa.mono ?_;rintro e w' ⟨v,g',rfl,ja⟩;exact hK v w' g' ja
   ·cases z
  ·cases z
 ·obtain⟨v',w',g',r,e1,e2,e3⟩:=aHt h ca (λf xs e=>hc ⟨f,xs,e⟩) z;unfold Oper.wp;rw[e1];rcases e2 with rfl|⟨rfl,rfl⟩
  ·exact hK v' w' g' e3
  ·exact hK undef w' g' e3
end
end Go.Vd
namespace Go.Vd
structure DOper where
 dst:Option Nat
 op:DOp
 after:List Nat
 guard:Option (Nat×Bool)
abbrev Loc:=Id×Nat
structure Eff where
 d:D
 u:Ha
def CL(s:Nat->D)(t:Option Nat)(d:D):Nat->D:=
 match t with
 |some t=>λz=>if z=t then d else s z
 |none=>s
def Gp(ops:List DOper)(o:DOper):Option Nat:=
 match o.guard with
 |none=>none
 |some (j,_)=>(ops[j]?).bind (·.dst)
def Bw(ops:List DOper)(s:Nat->D)(o:DOper):Option Bool:=
 match o.guard with
 |none=>some true
 |some (j,b)=>match (ops[j]?).bind (·.dst)with
  |some t=>match s t with
   | .bool b'=>some (b'==b)
   | .tup []=>some false
   |_=>none
  |none=>none
def BP(S:GZ)(ops:List DOper)(fr:Id)(o:DOper)(s:Nat->D)(m:G6):Option Eff:=
 match Bw ops s o with
 |some true=>match Ax S s m fr o.op with
  |some (d,u)=>some ⟨d,u⟩
  |none=>none
 |some false=>some ⟨.tup [],[]⟩
 |none=>none
def Dq(S:GZ)(ns:Id)(c:Nat)(ops:List DOper):List Nat->(Nat->D)->G6->Option ((Nat->D)×G6)
 |[],s,m=>some (s,m)
 |i::l,s,m=>match ops[i]? with
  |none=>Dq S ns c ops l s m
  |some o=>match BP S ops ((c+i)::ns) o s m with
   |some e=>Dq S ns c ops l (CL s o.dst e.d) (Ha.app m e.u)
   |none=>none
def G9.uses:G9->List Nat
 | .t n=>[n]
 | .c _=>[]
def U3:Option G9->List Nat
 |some a=>a.uses
 |none=>[]
def DOp.uses:DOp->List Nat
 | .range x| .next x| .mv x| .box x| .load _ x| .nilchk x| .un _ x| .conv _ x| .s2s x| .s2b x| .b2s x| .faddr _ x| .field _ _ x| .mkif _ x| .tass _ _ _ x| .ext _ x| .len _ x=>x.uses
 | .pick c a b=>c.uses++a.uses++b.uses
 | .alloc _| .stop=>[]
 | .build _ ps=>ps.flatMap λp=>p.2.2.uses
 | .bslice _ _ ps=>ps.flatMap G9.uses
 | .store _ x y| .bin _ x y| .beq _ x y| .seq _ _ x y| .nileq _ _ x y| .iaddr _ x y| .idxs x y| .idxa _ x y| .idxm _ _ x y| .mxm _ x y| .iadda _ _ x y| .app _ _ _ x y| .mksl _ _ _ _ x y=>x.uses++y.uses
 | .cuts x l h| .cutl _ x l h=>x.uses++U3 l++U3 h
 | .mkfn _ cs=>cs.flatMap G9.uses
 | .call f xs=>f.uses++xs.flatMap G9.uses
def Aj(i:Id)(o n:Nat):List Loc:=(Qt n).map λj=>(i,o+j)
def Hr(S:GZ)(s:Nat->D)(m:G6):DOp->List Loc
 | .load k x=>match x.ev s with
  | .ptr i o=>Aj i o (k.getD 1)
  |_=>[]
 | .store n x _=>match x.ev s with
  | .ptr i o=>Aj i o n
  |_=>[]
 | .app _ _ _ x _=>match x.ev s with
  | .slice _ t _=>[(t,0)]
  |_=>[]
 | .next x=>match x.ev s with
  | .itp i=>[(i,1)]
  |_=>[]
 | .call f xs=>match f.ev s with
  | .fn f caps=>match S f with
   |some q=>q.rd (xs.map (·.ev s)++caps) m
   |none=>[]
  |_=>[]
 |_=>[]
def aB{x:G9}{s r:Nat->D}(h:∀t∈x.uses,s t=r t):x.ev s=x.ev r:=by
 cases x with
 |t n=>exact h n (Q_.2 rfl)
 |c d=>rfl
def R1{xs:List G9}{s r:Nat->D}(h:∀t∈xs.flatMap G9.uses,s t=r t):xs.map (·.ev s)=xs.map (·.ev r):=
 QX λx q=>aB λt u=>h t (Q5.2 ⟨x,q,u⟩)
theorem BH{m m':G6}{i:Id}:∀{n o:Nat},(∀l∈Aj i o n,m l.1 l.2=m' l.1 l.2)->Ag m i o n=Ag m' i o n
 |0,o,_=>rfl
 |n+1,o,h=>by
  have z:m i o=m' i o:=h (i,o) (by simp only[Aj,Qv,Ql];exact⟨0,O,rfl⟩);have ih:=BH (m:=m) (m':=m') (i:=i) (n:=n) (o:=o+1) (λl hl=>h l (by
   simp only[Aj,Qv,Ql]at hl ⊢;obtain⟨j,d,rfl⟩:=hl;exact⟨j+1,O,by rw[show o+(j+1)=o+1+j by omega]⟩))
  unfold Ag;rw[z,ih]
theorem FH{x:Option G9}{s r:Nat->D}(h:∀t∈U3 x,s t=r t)(a b:Nat):FI s x a b=FI r x a b:=by
 cases x with
 |none=>rfl
 |some x=>simp only[FI];rw[aB h]
def lJ{P:Program}{S:GZ}(hS:GZ.ok P S){op:DOp}{s s':Nat->D}{m m':G6}{fr:Id}(j:∀t∈op.uses,s t=s' t)(g:∀l∈Hr S s m op,m l.1 l.2=m' l.1 l.2):
  Ax S s m fr op=Ax S s' m' fr op:=by
 cases op with
 |mv x=>simp only[Ax];rw[aB j]
 |box x=>simp only[Ax];rw[aB j]
 |nilchk x=>simp only[Ax];rw[aB j]
 |un op x=>simp only[Ax];rw[aB j]
 |conv k x=>simp only[Ax];rw[aB j]
 |s2s x=>simp only[Ax];rw[aB j]
 |s2b x=>simp only[Ax];rw[aB j]
 |b2s x=>simp only[Ax];rw[aB j]
 |faddr off x=>simp only[Ax];rw[aB j]
 |field k off x=>simp only[Ax];rw[aB j]
 |mkif t x=>simp only[Ax];rw[aB j]
 |tass t ok z x=>simp only[Ax];rw[aB j]
 |ext i x=>simp only[Ax];rw[aB j]
 |len k x=>simp only[Ax];rw[aB j]
 |alloc zs=>rfl
 |pick c a b=>
  simp only[DOp.uses,Qg]at j;simp only[Ax];rw[aB (λt u=>j t (.inl (.inl u))),aB (λt u=>j t (.inl (.inr u))),aB (λt u=>j t (.inr u))]
 |build zs ps=>
  simp only[Ax];have:(ps.map λp=>(p.1,p.2.1,p.2.2.ev s))=ps.map λp=>(p.1,p.2.1,p.2.2.ev s'):=
   QX λp w=>by rw[aB λt u=>j t (Q5.2 ⟨p,w,u⟩)]
  rw[this]
 |bslice e sz ps=>
  have w:∀p∈ps,p.ev s=p.ev s':=λp w=>aB λt u=>j t (Q5.2 ⟨p,w,u⟩)
  simp only[Ax];have ka:(ps.map λp=>(p.ev s).un)=ps.map λp=>(p.ev s').un:=QX λp wa=>by rw[w p wa]
  rw[ka];have:(ps.all λp=>(p.ev s).data&&(p.ev s).cells.length==sz&&(p.ev s).un.calm)=ps.all λp=>(p.ev s').data&&(p.ev s').cells.length==sz&&(p.ev s').un.calm:=by
   grind
  rw[this]
 |load k x=>
  have d:x.ev s=x.ev s':=aB j;simp only[Hr]at g;simp only[Ax];rw[←d];cases hxe:x.ev s<;>simp only[hxe]at g ⊢
  case eptr ds=>cases k<;>rfl
  rename_i i o;cases k with
  |none=>
   have:=g (i,o) (by simp only[Aj,Qv,Ql];exact⟨0,U,rfl⟩);simp only at this;simp only[this]
  |some n=>
   simp only[QE]at g;simp only;rw[BH g]
 |store n x v=>
  simp only[DOp.uses,Qg]at j;have d:x.ev s=x.ev s':=aB λt u=>j t (.inl u)
  have r:v.ev s=v.ev s':=aB λt u=>j t (.inr u)
  simp only[Hr]at g;simp only[Ax];rw[←d,←r];cases hxe:x.ev s<;>simp only[hxe]at g ⊢;rw[BH g]
 |bin op x y=>
  simp only[DOp.uses,Qg]at j;simp only[Ax];rw[aB (λt u=>j t (.inl u)),aB (λt u=>j t (.inr u))]
 |beq ne x y=>
  simp only[DOp.uses,Qg]at j;simp only[Ax];rw[aB (λt u=>j t (.inl u)),aB (λt u=>j t (.inr u))]
 |seq ne l x y=>
  simp only[DOp.uses,Qg]at j;simp only[Ax];rw[aB (λt u=>j t (.inl u)),aB (λt u=>j t (.inr u))]
 |nileq ne k x y=>
  simp only[DOp.uses,Qg]at j;simp only[Ax];rw[aB (λt u=>j t (.inl u)),aB (λt u=>j t (.inr u))]
 |iaddr sz x y=>
  simp only[DOp.uses,Qg]at j;simp only[Ax];rw[aB (λt u=>j t (.inl u)),aB (λt u=>j t (.inr u))]
 |idxs x y=>
  simp only[DOp.uses,Qg]at j;simp only[Ax];rw[aB (λt u=>j t (.inl u)),aB (λt u=>j t (.inr u))]
 |iadda len sz x y=>
  simp only[DOp.uses,Qg]at j;simp only[Ax];rw[aB (λt u=>j t (.inl u)),aB (λt u=>j t (.inr u))]
 |idxm len sz x y=>
  simp only[DOp.uses,Qg]at j;simp only[Ax];rw[aB (λt u=>j t (.inl u)),aB (λt u=>j t (.inr u))]
 |mxm mx x y=>
  simp only[DOp.uses,Qg]at j;simp only[Ax];rw[aB (λt u=>j t (.inl u)),aB (λt u=>j t (.inr u))]
 |idxa len x y=>
  simp only[DOp.uses,Qg]at j;simp only[Ax];rw[aB (λt u=>j t (.inl u)),aB (λt u=>j t (.inr u))]
 |mksl e sz b z x y=>
  simp only[DOp.uses,Qg]at j;simp only[Ax];rw[aB (λt u=>j t (.inl u)),aB (λt u=>j t (.inr u))]
 |app e sz b x y=>
  simp only[DOp.uses,Qg]at j;have d:x.ev s=x.ev s':=aB λt u=>j t (.inl u)
  have hy:y.ev s=y.ev s':=aB λt u=>j t (.inr u)
  simp only[Hr]at g;simp only[Ax];rw[←d,←hy];cases hxe:x.ev s<;>simp only[hxe]at g ⊢;rename_i nl t xs;have:=g (t,0) (Q_.2 rfl);simp only at this;cases I0 sz (y.ev s)<;>simp only[this]
 |stop=>rfl
 |range x=>simp only[Ax];rw[aB j]
 |next x=>
  have d:x.ev s=x.ev s':=aB j;simp only[Hr]at g;simp only[Ax];rw[←d];cases hxe:x.ev s<;>simp only[hxe]at g ⊢;rename_i i;have:=g (i,1) (Q_.2 rfl);simp only at this;rw[this]
 |cuts x l h=>
  simp only[DOp.uses,Qg]at j;simp only[Ax];rw[aB (λt u=>j t (.inl (.inl u)))];cases x.ev s'<;>simp only;rw[FH (λt u=>j t (.inr u))];split
  ·grind [FH]
  ·rfl
 |cutl sz x l h=>
  simp only[DOp.uses,Qg]at j;simp only[Ax];rw[aB (λt u=>j t (.inl (.inl u)))];cases x.ev s'<;>simp only;rw[FH (λt u=>j t (.inr u))];split
  ·split
   ·rw[FH (λt u=>j t (.inl (.inr u)))]
   ·rfl
  ·rfl
 |mkfn f cs=>
  simp only[Ax];rw[R1 j]
 |call f xs=>
  simp only[DOp.uses,Qg]at j;have hf:f.ev s=f.ev s':=aB λt u=>j t (.inl u)
  have d:xs.map (·.ev s)=xs.map (·.ev s'):=R1 λt u=>j t (.inr u)
  simp only[Hr]at g;simp only[Ax];rw[←hf,←d];cases hfe:f.ev s<;>simp only[hfe]at g ⊢;rename_i wF caps;cases hSf:S wF<;>simp only[hSf]at g ⊢;rename_i q;exact(hS wF q hSf).loc _ _ _ _ g
def DV(ops:List DOper)(k:Nat):Option Nat:=(ops[k]?).bind (·.dst)
def Fa:Ha->Id->Nat->Option D
 |[],_,_=>none
 |(i',o',ds)::r,i,o=>match Fa r i o with
  |some d=>some d
  |none=>if i=i'∧o'<=o∧o<o'+ds.length then ds[o-o']? else none
def fW:∀(u:Ha)(m:G6)(i:Id)(o:Nat),Ha.app m u i o=match Fa u i o with|some d=>some d|none=>m i o
 |[],m,i,o=>rfl
 |(i',o',ds)::r,m,i,o=>by
  simp only[Ha.app,Fa];rw[fW r (m.put i' o' ds) i o];cases Fa r i o with
  |some d=>rfl
  |none=>
   simp only[G6.put];split
   ·grind
   ·rfl
def AI(u:Ha):List Loc:=u.flatMap λx=>Aj x.1 x.2.1 x.2.2.length
theorem look_mem:∀{u:Ha} {i:Id} {o:Nat},Fa u i o≠none->(i,o)∈AI u
 |[],i,o,h=>absurd rfl h
 |(i',o',ds)::r,i,o,h=>by
  simp only[AI,Zd,Qg];simp only[Fa]at h;split at h
  ·rename_i d p;exact .inr (look_mem (by rw[p];simp))
  ·split at h
   ·rename_i w;obtain⟨rfl,q,f⟩:=w;left;simp only[Aj,Qv,Ql];exact⟨o-o',O,by rw[show o'+(o-o')=o by omega]⟩
   ·exact absurd rfl h
section
variable(ops:List DOper)(E:Nat->Eff)
def IJ(X:Nat->Bool)(t:Nat):Nat->Option D
 |0=>none
 |k+1=>if X k=true∧DV ops k=some t then some (E k).d else IJ X t k
def Ig(X:Nat->Bool)(i:Id)(o:Nat):Nat->Option D
 |0=>none
 |k+1=>if X k=true then match Fa (E k).u i o with
  |some d=>some d
  |none=>Ig X i o k
  else Ig X i o k
variable(s0:Nat->D)(m0:G6)
def jC(X:Nat->Bool)(n:Nat):Nat->D:=λt=>(IJ ops E X t n).getD (s0 t)
def uD(X:Nat->Bool)(n:Nat):G6:=λi o=>match Ig E X i o n with|some d=>some d|none=>m0 i o
variable{ops E s0 m0}
theorem II{X Y:Nat->Bool}{t:Nat}:∀{n:Nat},(∀k,k<n->DV ops k=some t->X k=Y k)->IJ ops E X t n=IJ ops E Y t n
 |0,_=>rfl
 |n+1,h=>by
  have ih:=II (X:=X) (Y:=Y) (t:=t) (n:=n) (λk o=>h k O);simp only[IJ];by_cases p:DV ops n=some t
  ·rw[h n O p,ih]
  ·simp[p,ih]
def IK{X Y:Nat->Bool}{i:Id}{o:Nat}:∀{n:Nat},(∀k,k<n->Fa (E k).u i o≠none->X k=Y k)->Ig E X i o n=Ig E Y i o n
 |0,_=>rfl
 |n+1,h=>by
  have ih:=IK (X:=X) (Y:=Y) (i:=i) (o:=o) (n:=n) (λk v=>h k O);simp only[Ig];cases hl:Fa (E n).u i o with
  |none=>simp[ih]
  |some d=>rw[h n O (by rw[hl];simp)];simp[ih]
def ins(X:Nat->Bool)(k:Nat):Nat->Bool:=λj=>X j||j==k
def TD{X:Nat->Bool}{t k:Nat}(r:X k=false):∀{n:Nat},k<n->(DV ops k=some t->∀j,k<j->j<n->X j=true->DV ops j≠some t)->
  IJ ops E (ins X k) t n=if DV ops k=some t then some (E k).d else IJ ops E X t n
 |n+1,hk,h=>by
  by_cases p:DV ops k=some t
  ·rw[if_pos p];by_cases g:k=n
   ·grind [IJ,ins]
   ·have ih:=TD r (n:=n) O (λna j u f i=>h na j u O i);rw[if_pos p]at ih;simp only[IJ];have:¬(ins X k n=true∧DV ops n=some t):=by
     grind [ins]
    rw[if_neg this,ih]
  ·grind [II,ins]
def TE{X:Nat->Bool}{i:Id}{o k:Nat}(r:X k=false):∀{n:Nat},k<n->(Fa (E k).u i o≠none->∀j,k<j->j<n->X j=true->Fa (E j).u i o=none)->
  Ig E (ins X k) i o n=match Fa (E k).u i o with|some d=>some d|none=>Ig E X i o n
 |n+1,hk,h=>by
  cases hl:Fa (E k).u i o with
  |none=>
   simp only;refine IK (λj e w=>?_);have:j≠k:=by rintro rfl;exact w hl
   simp[ins,this]
  |some d=>
   simp only;by_cases g:k=n
   ·grind [Ig,ins]
   ·have ih:=TE (i:=i) (o:=o) r (n:=n) O (λna j q f x=>h na j q O x);rw[hl]at ih;simp only at ih;simp only[Ig];split
    ·grind [ins]
    ·exact ih
def oF{X:Nat->Bool}{k n:Nat}(r:X k=false)(o:k<n)(h:∀t,DV ops k=some t->∀j,k<j->j<n->X j=true->DV ops j≠some t):
  jC ops E s0 (ins X k) n=CL (jC ops E s0 X n) (DV ops k) (E k).d:=by
 funext t;simp only[jC];rw[TD r o (h t)];cases hd:DV ops k with
 |none=>simp[CL,jC]
 |some z=>
  simp only[CL,jC,Qa];by_cases u:t=z
  ·subst u;simp
  ·grind
def oG{X:Nat->Bool}{k n:Nat}(r:X k=false)(v:k<n)(h:∀i o,Fa (E k).u i o≠none->∀j,k<j->j<n->X j=true->Fa (E j).u i o=none):
  uD E m0 (ins X k) n=Ha.app (uD E m0 X n) (E k).u:=by
 funext i o;rw[fW];simp only[uD];rw[TE r v (h i o)];cases Fa (E k).u i o<;>rfl
def below(k:Nat):Nat->Bool:=λj=>decide (j<k)
def NO(k:Nat):ins (below k) k=below (k+1):=by
 grind [ins,below]
structure aFV (ops:List DOper) (E:Nat->Eff) (rd:Nat->List Loc) (bef:Nat->Nat->Prop):Prop where
 lt:∀j k,bef j k->j<k
 slot:∀j k t oj ok,j≠k->ops[j]?=some oj->ops[k]?=some ok->oj.dst=some t->(t∈ok.op.uses∨Gp ops ok=some t∨ok.dst=some t)->bef j k∨bef k j
 mem:∀j k i o,j≠k->j<ops.length->k<ops.length->Fa (E j).u i o≠none->((i,o)∈rd k∨Fa (E k).u i o≠none)->bef j k∨bef k j
def iA(ops:List DOper)(a:Nat->Nat->Prop):(Nat->Bool)->List Nat->Prop
 |_,[]=>True
 |X,i::l=>i<ops.length∧X i=false∧(∀j,a j i->X j=true)∧iA ops a (ins X i) l
def Sp(a:Nat->Nat->Prop)(X:Nat->Bool):Prop:=∀j k,X k=true->a j k->X j=true
def SC{s r:Nat->D}{o:DOper}(h:∀t,Gp ops o=some t->s t=r t):Bw ops s o=Bw ops r o:=by
 grind [Bw,Gp]
def eS{P:Program}{S:GZ}(g:GZ.ok P S){o:DOper}{fr:Id}{s r:Nat->D}{m m':G6}(j:∀t,(t∈o.op.uses∨Gp ops o=some t)->s t=r t)(a:∀l∈Hr S s m o.op,m l.1 l.2=m' l.1 l.2):
  BP S ops fr o s m=BP S ops fr o r m':=by
 unfold BP;rw[SC (λt u=>j t (.inr u)),lJ g (λt u=>j t (.inl u)) a]
variable{P:Program}{S:GZ}{ns:Id}{c:Nat}{rd:Nat->List Loc}{bef:Nat->Nat->Prop}
def aQP(g:GZ.ok P S)(i:aFV ops E rd bef){k:Nat}{o:DOper}(y:ops[k]?=some o)
  (f:rd k=Hr S (jC ops E s0 (below k) ops.length) (uD E m0 (below k) ops.length) o.op)
  (s:BP S ops ((c+k)::ns) o (jC ops E s0 (below k) ops.length) (uD E m0 (below k) ops.length)=some (E k))
  {X:Nat->Bool} (v:Sp bef X) (n:X k=false) (m:∀j,bef j k->X j=true):
  BP S ops ((c+k)::ns) o (jC ops E s0 X ops.length) (uD E m0 X ops.length)=some (E k):=by
 have q:k<ops.length:=(Qe.1 y).1;rw[←s];symm;have z:∀j,j<ops.length->bef j k∨bef k j->below k j=X j:=by
  intro j d w;rcases w with h1|h1
  ·rw[m j h1];simp[below,i.lt j k h1]
  ·have:=i.lt k j h1;have b:X j=false:=by
    cases hx:X j with
    |false=>rfl
    |true=>rw[v k j hx h1]at n;cases n
   rw[b];simp[below];omega
 have self:∀j,j<ops.length->j=k->below k j=X j:=by
  grind [below]
 refine eS g (λt ht=>?_) (λl hl=>?_)
 ·simp only[jC];rw[II (λj d p=>?_)];by_cases a:j=k
  ·exact self j d a
  ·have r:ops[j]?=some ops[j]:=Qc d;refine z j d (i.slot j k t _ o a r y ?_ (by rcases ht with ht|ht;exact .inl ht;exact .inr (.inl ht)));simpa[DV,r]using p
 ·simp only[uD];rw[IK (λj d p=>?_)];by_cases a:j=k
  ·exact self j d a
  ·exact z j d (i.mem j k l.1 l.2 a d q p (.inl (by rw[f];exact hl)))
def Sp.ins{X:Nat->Bool}{k:Nat}(r:Sp bef X)(b:∀j,bef j k->X j=true):Sp bef (ins X k):=by
 intro j p f m;simp only[Vd.ins,QP,beq_iff_eq]at f ⊢;rcases f with h|rfl
 ·exact .inl (r j p h m)
 ·exact .inl (b j m)
def PP(s:GZ.ok P S)(hI:aFV ops E rd bef)(ya:∀k o,ops[k]?=some o->rd k=Hr S (jC ops E s0 (below k) ops.length) (uD E m0 (below k) ops.length) o.op)
  (hE:∀k o,ops[k]?=some o->BP S ops ((c+k)::ns) o (jC ops E s0 (below k) ops.length) (uD E m0 (below k) ops.length)=some (E k)):
  ∀(l:List Nat)(X:Nat->Bool),Sp bef X->iA ops bef X l->
   Dq S ns c ops l (jC ops E s0 X ops.length) (uD E m0 X ops.length)=some (jC ops E s0 (l.foldl ins X) ops.length,uD E m0 (l.foldl ins X) ops.length)
 |[],X,_,_=>rfl
 |i::l,X,hX,hg=>by
  obtain⟨hi,n,m,ja⟩:=hg;have y:ops[i]?=some ops[i]:=Qc hi;have v:=aQP s hI y (ya i _ y) (hE i _ y) hX n m;have a:∀j,i<j->X j=true->¬(bef j i∨bef i j):=by
   intro j e b hb;rcases hb with hb|hb
   ·have:=hI.lt j i hb;omega
   ·rw[hX i j b hb]at n;cases n
  have g:=oF (ops:=ops) (E:=E) (s0:=s0) n hi (λt p j q f x na=>by
   have r:ops[j]?=some ops[j]:=Qc f;refine a j q x (hI.slot j i t _ _ O r y ?_ (.inr (.inr ?_)))
   ·simpa[DV,r]using na
   ·simpa[DV,y]using p)
  have w:=oG (E:=E) (m0:=m0) n hi (λz o hl j q f x=>by
   cases hlj:Fa (E j).u z o with
   |none=>rfl
   |some d=>exact absurd (hI.mem j i z o O f hi (by rw[hlj];simp) (.inr hl)) (a j q x))
  have p:DV ops i=(ops[i]).dst:=by simp[DV,y]
  rw[p]at g;simp only[Dq,y,v,Q8];rw[←g,←w];exact PP s hI ya hE l (ins X i) (hX.ins m) ja
end
def MM(m:Region.Mode)(ops:Array Oper):List Nat->List Nat->Bool
 |_,[]=>true
 |done,i::r=>(match ops[i]? with
  |some o=>o.after.all λe=>!Region.binds m e||done.contains e.on
  |none=>false)&&MM m ops (i::done) r
def FD(m:Region.Mode)(ops:Array Oper)(q:List Nat):Bool:=(Qt ops.size).all (λi=>q.contains i)&&MM m ops [] q
def EO(m:Region.Mode)(ops:Array Oper)(listed:Array Bool):List Nat:=
 (Qt ops.size).filter λi=>!listed.getD i true&&((ops[i]?).map (·.after.all λe=>!Region.binds m e||listed.getD e.on false)).getD false
def aIg{a:Array Bool}{i:Nat}(h:i<a.size)(x y:Bool):a.getD i x=a.getD i y:=by
 simp_all
def PV{m:Region.Mode}{ops:Array Oper}{listed:Array Bool}(x:listed.size=ops.size):∀{q done:List Nat},MM m ops done q=true->(∀j∈done,listed.getD j false=true)->
  (∃i∈q,i<ops.size∧listed.getD i false=false)->∃i,i∈EO m ops listed
 |[],done,_,_,⟨i,hi,_⟩=>by cases hi
 |i::r,done,h,hd,⟨k,hk,hkn,hkl⟩=>by
  unfold MM at h;rw[QU]at h;obtain⟨u,f⟩:=h;split at u
  ·rename_i o y;have e:i<ops.size:=(Qf.1 y).1;by_cases a:listed.getD i false=false
   ·refine⟨i,?_⟩;simp only[EO,Zm,Ql];refine⟨e,?_⟩;rw[aIg O true false,a];simp only[Zb,Bool.true_and,y,QY,QE];rw[ZA]at u ⊢;intro j d;have:=u j d;simp only[QP,Zn]at this ⊢;rcases this with h3|h3
    ·exact .inl h3
    ·exact .inr (hd _ h3)
   ·have b:listed.getD i false=true:=by simpa using a
    refine PV x f (λj d=>?_) ?_
    ·grind
    ·grind
  ·cases u
def EF(listed:Array Bool):Nat->Bool:=λi=>listed.getD i false
def kF{listed:Array Bool}{i:Nat}(h:i<listed.size):EF (listed.setIfInBounds i true)=ins (EF listed) i:=by
 funext j;simp only[EF,ins,Qh,Array.getElem?_setIfInBounds];by_cases d:i=j
 ·subst d;simp[h]
 ·grind
def FW(listed:Array Bool)(n:Nat):Nat:=((Qt n).filter λi=>!listed.getD i false).length
def eJ{p q:Nat->Bool}{i:Nat}(hi:p i=true)(y:∀j,q j=(p j&&j !=i)):∀{l:List Nat},i∈l->(l.filter q).length<(l.filter p).length:=by
 have w:∀l:List Nat,(l.filter q).length<=(l.filter p).length:=by
  intro l;induction l with
  |nil=>exact Qk _
  |cons x l ih=>
   rw[Q6,Q6,y x];cases hp:p x
   ·exact ih
   ·grind
 intro l;induction l with
 |nil=>intro h;cases h
 |cons x l ih=>
  intro a;rw[Q6,Q6,y x];by_cases d:x=i
  ·grind
  ·have o:(x !=i)=true:=by simpa using d
   have:=ih (by rcases List.mem_cons.1 a with h|h;exact absurd h.symm d;exact h);cases hp:p x
   ·simpa using this
   ·simp only[o,Bool.and_true,if_true,Qo];omega
def Uu{listed:Array Bool}{n i:Nat}(x:listed.size=n)(hi:i<n)(hl:listed.getD i false=false):FW (listed.setIfInBounds i true) n<FW listed n:=by
 unfold FW;refine eJ (i:=i) (by rw[hl];rfl) (λj=>?_) (Ql.2 hi);by_cases d:j=i
 ·simp_all
 ·have k:¬i=j:=λe=>d e.symm
  simp[Qh,k,d]
def Tj(o:Oper):List Nat:=(o.after.toList.filter (Region.binds .any)).map (·.on)
theorem yC{m:Region.Mode}{e:Edge}(h:Region.binds .any e=true):Region.binds m e=true:=by
 unfold Region.binds at h ⊢;split at h<;>simp_all
def Fi(z:List (List Nat))(j k:Nat):Prop:=j∈z.getD k []
def FT(ps:List (List Nat))(z:List (List Nat)):Bool:=
 (Qt z.length).all λk=>(z.getD k []).all λj=>decide (j<k)&&((ps.getD k []).any λp=>p==j||(decide (p<k)&&(z.getD p []).contains j))
def VX{ps z:List (List Nat)}(h:FT ps z=true){j k:Nat}(m:Fi z j k):j<k∧∃p∈ps.getD k [],p=j∨(p<k∧Fi z j p):=by
 unfold Fi at m;have o:k<z.length:=by
  grind
 have u:=Qy.1 h k (Ql.2 o);have f:=Qy.1 u j m;simp only[QU,decide_eq_true_eq,List.any_eq_true,QP,beq_iff_eq,Zn]at f;exact⟨f.1,f.2⟩
def fT{ps z:List (List Nat)}(h:FT ps z=true){X:Nat->Bool}(r:∀k,X k=true->∀p∈ps.getD k [],X p=true):∀{k j:Nat},X k=true->Fi z j k->X j=true:=by
 intro k;induction k using ZI with
 |_ k ih=>
  intro j o m;obtain⟨_,p,c,w⟩:=VX h m;rcases w with rfl|⟨u,i⟩
  ·exact r k o p c
  ·grind
def aEf{ps z:List (List Nat)}(h:FT ps z=true){X:Nat->Bool}(r:∀k,X k=true->∀p∈ps.getD k [],X p=true){k:Nat}(o:∀p∈ps.getD k [],X p=true){j:Nat}(m:Fi z j k):X j=true:=by
 obtain⟨_,p,c,w⟩:=VX h m;rcases w with rfl|⟨u,i⟩
 ·exact o p c
 ·exact fT h r (o p c) i
def qB{m:Region.Mode}{ops:Array Oper}{y:List DOper}{z:List (List Nat)}(r:y.length=ops.size)(la:∀(k:Nat) o,ops[k]?=some o->(y.map (·.after)).getD k []=Tj o)
  (hb:FT (y.map (·.after)) z=true) {q:List Nat} (u:FD m ops q=true):
  ∀(fuel t:Nat)(listed:Array Bool)(v:List Nat),listed.size=ops.size->FW listed ops.size<=fuel->
   (∀k,EF listed k=true->∀p∈(y.map (·.after)).getD k [],EF listed p=true)->
   ∃l,Region.linearise.go m ops fuel t listed v=v.reverse++l∧iA y (Fi z) (EF listed) l∧∀i,i<ops.size->l.foldl ins (EF listed) i=true
 |0,t,listed,v,hsz,hu,hcl=>by
  refine⟨[],by simp[Region.linearise.go],trivial,λi hi=>?_⟩;have w:((Qt ops.size).filter λi=>!listed.getD i false)=[]:=QM (by unfold FW at hu;omega);rw[List.filter_eq_nil_iff]at w;have:=w i (Ql.2 hi);simpa[EF]using this
 |fuel+1,t,listed,v,hsz,hu,hcl=>by
  have ja:Region.linearise.go m ops (fuel+1) t listed v=match (EO m ops listed)[t % (EO m ops listed).length]? with
   |some i=>Region.linearise.go m ops fuel (t / (EO m ops listed).length) (listed.setIfInBounds i true) (i::v)
   |none=>v.reverse:=rfl
  rw[ja];split
  ·rename_i i hi;have na:i∈EO m ops listed:=Qr hi;simp only[EO,Zm,Ql,QU]at na;obtain⟨ka,qa,ia⟩:=na;have f:listed.getD i false=false:=by
    simp_all
   have ho:ops[i]?=some ops[i]:=Array.getElem?_eq_getElem ka;rw[ho]at ia;simp only[QY,QE,ZA]at ia;have fa:∀p∈(y.map (·.after)).getD i [],EF listed p=true:=by
    intro p c;rw[la i _ ho]at c;simp only[Tj,Qv,Zm]at c;obtain⟨e,⟨s,b⟩,rfl⟩:=c;obtain⟨j,d,rfl⟩:=Array.getElem_of_mem (Array.mem_toList_iff.1 s);have:=ia j d;simp only[QP]at this;rcases this with h1|h1
    ·grind [yC]
    ·exact h1
   have x:=kF (listed:=listed) (i:=i) O;obtain⟨l,n,e2,e3⟩:=qB r la hb u fuel (t / (EO m ops listed).length) (listed.setIfInBounds i true) (i::v) (by simpa using hsz)
    (by have:=Uu hsz ka f;omega) (λk hk p c=>by
     rw[x]at hk ⊢;simp only[ins,QP,beq_iff_eq]at hk ⊢;rcases hk with hk|rfl
     ·exact .inl (hcl k hk p c)
     ·exact .inl (fa p c))
   refine⟨i::l,?_,⟨O,f,λj d=>aEf hb hcl fa d,?_⟩,?_⟩
   ·rw[n];simp
   ·rw[←x];exact e2
   ·simp_all
  ·rename_i g;refine⟨[],U,trivial,λi hi=>?_⟩;simp only[List.foldl_nil];cases hmi:EF listed i with
   |true=>rfl
   |false=>
    exfalso;unfold FD at u;rw[QU]at u;have a:=Qy.1 u.1 i (Ql.2 hi);obtain⟨k,hk⟩:=PV hsz u.2 U ⟨i,Xz,hi,hmi⟩;have pa:0<(EO m ops listed).length:=List.length_pos_of_mem hk;rw[List.getElem?_eq_none_iff]at g;have:=ZJ t pa;omega
def Fb{m:Region.Mode}{ops:Array Oper}{y:List DOper}{z:List (List Nat)}(r:y.length=ops.size)(f:∀(k:Nat) o,ops[k]?=some o->(y.map (·.after)).getD k []=Tj o)
  (hb:FT (y.map (·.after)) z=true) {p:List Nat} (u:FD m ops p=true) (t:Nat):
  iA y (Fi z) (λ_=>false) (Region.linearise m ops t)∧(Region.linearise m ops t).foldl ins (λ_=>false)=below ops.size:=by
 have w:EF (Q9 ops.size false)=λ_=>false:=by
  funext i;by_cases hi:i<ops.size<;>simp[EF,Qh,hi]
 obtain⟨l,n,v,d⟩:=qB r f hb u ops.size t (Q9 ops.size false) [] U (by
  unfold FW;exact QO (List.length_filter_le _ _) U) (by rw[w];simp)
 rw[w]at v d;have hl:Region.linearise m ops t=l:=by
  unfold Region.linearise;simpa using n
 rw[hl];refine⟨v,?_⟩;funext i;by_cases hi:i<ops.size
 ·simp_all [d,below]
 ·have a:∀(l:List Nat)(X:Nat->Bool),iA y (Fi z) X l->X i=false->l.foldl ins X i=false:=by
   intro l;induction l with
   |nil=>intro X _ h;exact h
   |cons k l ih=>
    intro X x q;obtain⟨s,j,c,e⟩:=x;refine ih _ e ?_;have:¬i=k:=O
    simp[ins,q,this]
  rw[a l _ v rfl];simp[below,hi]
end Go.Vd
namespace Go.Vd
open Go.RowKit
def aLR(N:Nat):Option Nat->Bool
 |some t=>decide (t<N)
 |none=>true
def Uz(P:Program)(N:Nat)(o:Oper):Option DOper:=
 if aLR N o.dst=true then some ⟨o.dst,(tr P o.op).getD .stop,Tj o,o.guard⟩else none
def DJ(P:Program)(N:Nat):List Oper->Option (List DOper)
 |[]=>some []
 |o::r=>match Uz P N o,DJ P N r with
  |some d,some l=>some (d::l)
  |_,_=>none
def Fr{P:Program}{N:Nat}{o:Oper}{d:DOper}(h:Uz P N o=some d):(tr P o.op).getD .stop=d.op∧d.dst=o.dst∧d.after=Tj o∧d.guard=o.guard∧∀t,o.dst=some t->t<N:=by
 grind [Uz,aLR]
def aGQ{P:Program}{S:GZ}{op:Op}{d:DOp}{s:Nat->D}{m:G6}{fr:Id}{x:D×Ha}(h:(tr P op).getD .stop=d)(v:Ax S s m fr d=some x):tr P op=some d:=by
 cases htr:tr P op with
 |none=>rw[htr]at h;simp only[Option.getD_none]at h;subst h;simp[Ax]at v
 |some b=>rw[htr]at h;simp only[QE]at h;rw[h]
def DI{P:Program}{N:Nat}:∀{l:List Oper} {n:List DOper},DJ P N l=some n->n.length=l.length∧∀(i:Nat) o,l[i]?=some o->∃d,n[i]?=some d∧Uz P N o=some d
 |[],n,h=>by simp only[DJ,Qa]at h;subst h;simp
 |o::r,n,h=>by
  unfold DJ at h;split at h
  ·rename_i d l u f;simp only[Qa]at h;subst h;obtain⟨p,q⟩:=DI f;refine⟨by simp[p],λi o' hi=>?_⟩;cases i with
   |zero=>simp only[QD,Qa]at hi;subst hi;exact⟨d,rfl,u⟩
   |succ i=>simp only[Zg]at hi ⊢;exact q i o' hi
  ·cases h
def GX(ns:Id)(m:G6)(g:Gh)(m':G6)(q:Gh):Prop:=∀i,B1 m g i->¬ns<:+i->B1 m' q i
def GX.refl(ns:Id)(m:G6)(g:Gh):GX ns m g m g:=λ_ h _=>h
def GX.trans{ns:Id}{m m' a:G6}{g q f:Gh}(h:GX ns m g m' q)(k:GX ns m' q a f):GX ns m g a f:=λi d o=>k i (h i d o) o
structure InX (P:Program) (B:Nat) (w0:World) (N:Nat) (ns:Id) (c:Nat) (X:Nat->Bool) (s:Nat->D) (m:G6) (a:Act) (w:World) (g:Gh):Prop where
 inv:He P B w0 m w g
 slots:DZ w g s a
 size:a.tmps.size=N
 defers:a.defers=[]
 fresh:∀k i,c<=k->X (k-c)=false->(k::ns)<:+i->B1 m g i
def aJ7:(Nat->Bool)->List Nat->Prop
 |_,[]=>True
 |X,i::l=>X i=false∧aJ7 (ins X i) l
def WO{k p:Nat}{ns i:Id}(h:(k::ns)<:+i)(z:(p::ns)<:+i):k=p:=by
 obtain⟨x,q⟩:=h;obtain⟨y,j⟩:=z;have hl:x.length=y.length:=by have:=congrArg ZL (q.trans j.symm);simpa using this
 have:=List.append_inj (q.trans j.symm) hl;simpa using this.2
def DZ.put{w:World}{g:Gh}{s:Nat->D}{a:Act}{m:Option Nat}{d:D}{v:Value}(h:DZ w g s a)(i:Rep w g d v)(u:∀t,m=some t->t<a.tmps.size):DZ w g (CL s m d) (a.put m v):=by
 intro t;cases m with
 |none=>exact h t
 |some z=>
  have b:=u z rfl;simp only[CL,Act.put];by_cases n:t=z
  ·simp_all
  ·rw[if_neg n];have q:¬z=t:=λe=>n e.symm
   have:(a.tmps.setIfInBounds z v).getD t undef=a.tmps.getD t undef:=by simp[Qh,q]
   rw[this];exact h t
def bV(a:Act)(b:Option Nat)(v:Value):(a.put b v).tmps.size=a.tmps.size∧(a.put b v).defers=a.defers:=by
 cases b<;>simp[Act.put]
section
variable{P:Program}{B:Nat}{w0:World}{N:Nat}{ns:Id}{c:Nat}{S:GZ}{ops:Array Oper}{dops:List DOper}{Q:Exit->Act->World->Prop}
def vX{k:Nat}{i:Id}(h:¬ns<:+i):¬(k::ns)<:+i:=λz=>h ((ZD k ns).trans z)
def Mf{w:World}{g:Gh}{s:Nat->D}{a:Act}(m:DJ P N ops.toList=some dops)(k:DZ w g s a){o:Oper}{d:DOper}(z:d.guard=o.guard){b:Bool}(hg:Bw dops s d=some b):
  Region.wanted o (yielded ops a.tmps)=b:=by
 obtain⟨hl,ia⟩:=DI m;unfold Bw at hg;unfold Region.wanted;rw[←z];cases hgd:d.guard with
 |none=>rw[hgd]at hg;simp only[Qa]at hg;exact hg
 |some p=>
  obtain⟨j,c⟩:=p;rw[hgd]at hg;simp only at hg ⊢;split at hg
  ·rename_i t u;split at hg
   ·rename_i b' va;simp only[Qa]at hg;have i:=k t;rw[va]at i;have y:=i.bool_inv;have r:∃oj,ops[j]?=some oj∧oj.dst=some t:=by
     cases hdj:dops[j]? with
     |none=>rw[hdj]at u;cases u
     |some dj=>
      rw[hdj]at u;simp only[ZE]at u;have f:j<ops.toList.length:=by have:=(Qe.1 hdj).1;omega
      obtain⟨d2,n,v⟩:=ia j _ (Qc f);rw[hdj]at n;simp only[Qa]at n;subst n;refine⟨ops.toList[j],by simp at f;simp[f],?_⟩;rw[←(Fr v).2.1];exact u
    obtain⟨oj,n,v⟩:=r;have ka:a.tmps[t]?=some (.bool b'):=by
     rw[Qh]at y;cases hh:a.tmps[t]? with
     |none=>rw[hh]at y;simp[undef]at y
     |some x=>rw[hh]at y;simp at y;rw[y]
    have hy:yielded ops a.tmps j=some b':=by
     simp[yielded,n,v,ka]
    rw[hy,←hg];cases b'<;>cases c<;>rfl
   ·rename_i va;simp only[Qa]at hg;subst hg;have i:=k t;rw[va]at i;obtain⟨us,y,hl,_⟩:=i.tup_inv;have q:us=[]:=QM Xk;subst q;have hy:yielded ops a.tmps j=none:=by
     unfold yielded;split
     ·rename_i b2 e;exfalso;rw[Zi]at e;obtain⟨t2,n,v⟩:=e;rw[Zi]at n;obtain⟨oj,e3,e4⟩:=n;have r:(dops[j]?).bind (·.dst)=some t2:=by
       obtain⟨d2,q1,q2⟩:=ia j oj (by simpa using e3);rw[q1];simp only[ZE];rw[(Fr q2).2.1];exact e4
      rw[u]at r;simp only[Qa]at r;subst r;rw[Qh,v]at y;cases y
     ·rfl
    rw[hy];rfl
   ·cases hg
  ·cases hg
def Ix(hS:GZ.ok P S)(fa:DJ P N ops.toList=some dops):∀(l:List Nat)(X:Nat->Bool)(s:Nat->D)(m:G6)(a:Act)(w:World)(g:Gh)(s':Nat->D)(m':G6),
  aJ7 X l->Dq S ns c dops l s m=some (s',m')->InX P B w0 N ns c X s m a w g->
  (∀a' w' g',InX P B w0 N ns c (l.foldl ins X) s' m' a' w' g'->Ht w g w' g'->GX ns m g m' g'->Q .normal a' w')->wpOps P ops Q l a w
 |[],X,s,m,a,w,g,s',m',_,he,hx,hq=>by
  simp only[Dq,Qa,Qd]at he;obtain⟨rfl,rfl⟩:=he;exact hq a w g hx (Ht.refl w g) (GX.refl ns m g)
 |i::l,X,s,m,a,w,g,s',m',hf,he,hx,hq=>by
  obtain⟨n,wa⟩:=hf;obtain⟨r,ia⟩:=DI fa;simp only[wpOps];cases ho:ops[i]? with
  |none=>
   simp only;have hd:dops[i]?=none:=by
    simp_all
   simp only[Dq,hd]at he;have pa:InX P B w0 N ns c (ins X i) s m a w g:=⟨hx.inv,hx.slots,hx.size,hx.defers,λk i' q y x=>hx.fresh k i' q (by simp only[ins,QS]at y;exact y.1) x⟩;exact Ix hS fa l (ins X i) s m a w g s' m' wa he pa hq
  |some o=>
   simp only;obtain⟨d,hd,v⟩:=ia i o (by simpa using ho);obtain⟨t1,t2,t3,t4,t5⟩:=Fr v;simp only[Dq,hd]at he;split at he
   ·rename_i e b;unfold BP at b;have p:∀i',((c+i)::ns)<:+i'->B1 m g i':=λi' h=>hx.fresh (c+i) i' O (by rw[show c+i-c=i by omega];exact n) h
    have j:∀t,o.dst=some t->t<a.tmps.size:=λt ht=>by rw[hx.size];exact t5 t ht
    split at b
    ·rename_i hg;rw[Mf fa hx.slots t4 hg];simp only[if_true];split at b
     ·rename_i dd u z;simp only[Qa]at b;subst b;left;refine aTn hS ⟨hx.inv,hx.slots,p⟩ (aGQ t1 z) z (λv' w' g' ja=>?_);have la:=bV a o.dst v';have pa:InX P B w0 N ns c (ins X i) (CL s d.dst dd) (Ha.app m u) (a.put o.dst v') w' g':=by
       refine⟨ja.inv,?_,by rw[la.1];exact hx.size,by rw[la.2];exact hx.defers,λk i' q y x=>?_⟩
       ·rw[t2];exact(hx.slots.ext ja.ext).put ja.rep j
       ·simp only[ins,QS,beq_eq_false_iff_ne]at y;refine ja.fresh i' (hx.fresh k i' q y.1 x) (λh4=>?_);have:=WO x h4;omega
      exact Ix hS fa l (ins X i) _ _ _ w' g' s' m' wa he pa (λsa ka f q y x=>hq sa ka f q (ja.ext.trans y) (GX.trans (λi' hf hn=>ja.fresh i' hf (vX hn)) x))
     ·cases b
    ·rename_i hg;rw[Mf fa hx.slots t4 hg];simp only[QG,if_false];simp only[Qa]at b;subst b;have la:=bV a o.dst undef;have pa:InX P B w0 N ns c (ins X i) (CL s d.dst (.tup [])) m (a.put o.dst undef) w g:=by
      refine⟨hx.inv,?_,by rw[la.1];exact hx.size,by rw[la.2];exact hx.defers,λk i' q y x=>?_⟩
      ·rw[t2];exact hx.slots.put (.tup [] [] rfl U) j
      ·simp only[ins,QS]at y;exact hx.fresh k i' q y.1 x
     exact Ix hS fa l (ins X i) _ _ _ w g s' m' wa he pa hq
    ·cases b
   ·cases he
def TP{a:Nat->Nat->Prop}:∀{l:List Nat} {X:Nat->Bool},iA dops a X l->aJ7 X l
 |[],_,_=>trivial
 |i::l,X,h=>⟨h.2.1,TP h.2.2.2⟩
def lG(n:Nat):∀k,aJ7 (below k) (Zp k n):=by
 induction n with
 |zero=>intro k;trivial
 |succ n ih=>
  intro k;rw[Q3];exact⟨by simp[below],by rw[NO];exact ih (k+1)⟩
def eE(n:Nat):∀k,(Zp k n).foldl ins (below k)=below (k+n):=by
 induction n with
 |zero=>intro k;rfl
 |succ n ih=>
  intro k;rw[Q3,Q8,NO,ih (k+1)];congr 1;omega
structure InS (P:Program) (B:Nat) (w0:World) (N:Nat) (ns:Id) (c:Nat) (s:Nat->D) (m:G6) (a:Act) (w:World) (g:Gh):Prop where
 inv:He P B w0 m w g
 slots:DZ w g s a
 size:a.tmps.size=N
 defers:a.defers=[]
 fresh:∀k i,c<=k->(k::ns)<:+i->B1 m g i
def InS.start{s:Nat->D}{m:G6}{a:Act}{w:World}{g:Gh}(h:InS P B w0 N ns c s m a w g)(X:Nat->Bool):InX P B w0 N ns c X s m a w g:=
 ⟨h.inv,h.slots,h.size,h.defers,λk i u _ x=>h.fresh k i u x⟩
def InX.done{s:Nat->D}{m:G6}{a:Act}{w:World}{g:Gh}{n:Nat}(h:InX P B w0 N ns c (below n) s m a w g):InS P B w0 N ns (c+n) s m a w g:=
 ⟨h.inv,h.slots,h.size,h.defers,λk i u x=>h.fresh k i O (by simp[below];omega) x⟩
def uR(p:GZ.ok P S)(b:DJ P N ops.toList=some dops){s:Nat->D}{m:G6}{a:Act}{w:World}{g:Gh}{r:Nat->D}{m':G6}{id:Nat}
  (v:Dq S ns c dops (Qt dops.length) s m=some (r,m')) (q:InS P B w0 N ns c s m a w g)
  (y:∀n t o,InS P B w0 N ns (c+dops.length) r m' n t o->Ht w g t o->GX ns m g m' o->Q .normal n t):(Code.region id ops false).wp P Q a w:=by
 have hl:dops.length=ops.size:=by simpa using (DI b).1
 refine wp_region ?_;rw[←hl];have z:below 0=λ_=>false:=Yw
 refine Ix p b (Qt dops.length) (below 0) s m a w g r m' ?_ v (q.start _) (λn t o u f i=>?_)
 ·rw[QR];exact lG _ 0
 ·rw[QR,eE]at u;rw[Qu]at u;exact y n t o u.done f i
end
abbrev Mb:=List Loc×List Loc
def Co(S:GZ)(ns:Id)(c:Nat)(ops:List DOper):List DOper->Nat->(Nat->D)->G6->Option ((Nat->D)×G6×List Mb)
 |[],_,s,m=>some (s,m,[])
 |o::l,k,s,m=>match BP S ops ((c+k)::ns) o s m with
  |some e=>match Co S ns c ops l (k+1) (CL s o.dst e.d) (Ha.app m e.u)with
   |some (s',m',f)=>some (s',m',(Hr S s m o.op,AI e.u)::f)
   |none=>none
  |none=>none
def DOp.mayW:DOp->Bool
 | .alloc _| .box _| .bslice .. | .mksl .. | .store .. | .app .. | .call .. | .range _| .next _=>true
 |_=>false
def DOp.ownW:DOp->Bool
 | .alloc _| .box _| .bslice .. | .mksl ..=>true
 |_=>false
def DOp.mayR:DOp->Bool
 | .load .. | .store .. | .app .. | .call .. | .next _=>true
 |_=>false
def aD2(a b:DOp):Bool:=a.mayW&&(b.mayR||b.mayW)&&!(a.ownW&&b.ownW)
def SJ(z:List (List Nat))(j k:Nat):Bool:=(z.getD k []).contains j
def Lk(ops:List DOper)(z:List (List Nat)):List (Nat×Nat):=
 (Qt ops.length).flatMap λj=>(Qt ops.length).filterMap λk=>
  match ops[j]?,ops[k]? with
  |some a,some b=>if(j !=k)&&!SJ z j k&&!SJ z k j&&aD2 a.op b.op then some (j,k)else none
  |_,_=>none
def OZ(ops:List DOper)(z:List (List Nat)):Bool:=
 (Qt ops.length).all λj=>(Qt ops.length).all λk=>
  match ops[j]?,ops[k]? with
  |some a,some b=>match a.dst with
   |some t=>(j==k)||SJ z j k||SJ z k j||!(b.op.uses.contains t||Gp ops b==some t||b.dst==some t)
   |none=>true
  |_,_=>true
def L3(f:List Mb)(ps:List (Nat×Nat)):Prop:=∀p∈ps,∀l∈(f.getD p.1 ([],[])).2,l∉(f.getD p.2 ([],[])).1∧l∉(f.getD p.2 ([],[])).2
section
variable{S:GZ}{ns:Id}{c:Nat}{ops:List DOper}
def DB(S:GZ)(ns:Id)(c:Nat)(ops:List DOper)(s0:Nat->D)(m0:G6):Nat->(Nat->D)×G6
 |0=>(s0,m0)
 |k+1=>match ops[k]? with
  |some o=>
   let e:=(BP S ops ((c+k)::ns) o (DB S ns c ops s0 m0 k).1 (DB S ns c ops s0 m0 k).2).getD ⟨.junk,[]⟩
   (CL (DB S ns c ops s0 m0 k).1 o.dst e.d,Ha.app (DB S ns c ops s0 m0 k).2 e.u)
  |none=>DB S ns c ops s0 m0 k
def L5(S:GZ)(ns:Id)(c:Nat)(ops:List DOper)(s0:Nat->D)(m0:G6)(k:Nat):Eff:=
 match ops[k]? with
 |some o=>(BP S ops ((c+k)::ns) o (DB S ns c ops s0 m0 k).1 (DB S ns c ops s0 m0 k).2).getD ⟨.junk,[]⟩
 |none=>⟨.junk,[]⟩
variable{s0:Nat->D}{m0:G6}
def GK:∀k,k<=ops.length->(DB S ns c ops s0 m0 k).1=jC ops (L5 S ns c ops s0 m0) s0 (below k) ops.length∧(DB S ns c ops s0 m0 k).2=uD (L5 S ns c ops s0 m0) m0 (below k) ops.length
 |0,_=>by
  have z:below 0=λ_=>false:=Yw
  constructor
  ·funext t;simp only[DB,jC,z];have:∀n,IJ ops (L5 S ns c ops s0 m0) (λ_=>false) t n=none:=by
    intro n;induction n with
    |zero=>rfl
    |succ n ih=>simp[IJ,ih]
   rw[this];rfl
  ·funext i o;simp only[DB,uD,z];have:∀n,Ig (L5 S ns c ops s0 m0) (λ_=>false) i o n=none:=by
    intro n;induction n with
    |zero=>rfl
    |succ n ih=>simp[Ig,ih]
   rw[this]
 |k+1,hk=>by
  obtain⟨u,f⟩:=GK k O;have y:ops[k]?=some ops[k]:=Qc O;have s:L5 S ns c ops s0 m0 k=(BP S ops ((c+k)::ns) ops[k] (DB S ns c ops s0 m0 k).1 (DB S ns c ops s0 m0 k).2).getD ⟨.junk,[]⟩:=by
   simp only[L5,y]
  have m:below k k=false:=by simp[below]
  have g:=oF (ops:=ops) (E:=L5 S ns c ops s0 m0) (s0:=s0) m (n:=ops.length) O (λt _ j u _ x=>by simp[below]at x;omega);have v:=oG (E:=L5 S ns c ops s0 m0) (m0:=m0) m (n:=ops.length) O (λi o _ j u _ x=>by simp[below]at x;omega);rw[NO]at g v;have p:DV ops k=(ops[k]).dst:=by simp[DV,y]
  rw[p]at g;simp only[DB,y];rw[←s,u,f,←g,←v];exact⟨rfl,rfl⟩
def IT:∀{l:List DOper} {k:Nat} {r:Nat->D} {m':G6} {f:List Mb},l=ops.drop k->Co S ns c ops l k (DB S ns c ops s0 m0 k).1 (DB S ns c ops s0 m0 k).2=some (r,m',f)->
  (r,m')=DB S ns c ops s0 m0 (k+l.length)∧∀j o,ops[k+j]?=some o->
   BP S ops ((c+(k+j))::ns) o (DB S ns c ops s0 m0 (k+j)).1 (DB S ns c ops s0 m0 (k+j)).2=some (L5 S ns c ops s0 m0 (k+j))∧
   f[j]?=some (Hr S (DB S ns c ops s0 m0 (k+j)).1 (DB S ns c ops s0 m0 (k+j)).2 o.op,AI (L5 S ns c ops s0 m0 (k+j)).u)
 |[],k,r,m',f,hl,h=>by
  simp only[Co,Qa,Qd]at h;obtain⟨rfl,rfl,rfl⟩:=h;refine⟨rfl,λj o y=>?_⟩;have:ops.length<=k:=by
   simp_all
  rw[Qj O]at y;cases y
 |o::l,k,r,m',f,hl,h=>by
  have x:ops[k]?=some o:=by
   have:(ops.drop k)[0]?=some o:=by rw[←hl];rfl
   rw[Qw]at this;simpa using this
  have b:l=ops.drop (k+1):=by
   have:(ops.drop k).drop 1=ops.drop (k+1):=by rw[Zo]
   rw[←this,←hl];rfl
  unfold Co at h;split at h
  ·rename_i e v;have t:L5 S ns c ops s0 m0 k=e:=by simp only[L5,x,v,QE]
   have g:DB S ns c ops s0 m0 (k+1)=(CL (DB S ns c ops s0 m0 k).1 o.dst e.d,Ha.app (DB S ns c ops s0 m0 k).2 e.u):=by
    grind [DB]
   split at h
   ·rename_i n w i h1;simp only[Qa,Qd]at h;obtain⟨rfl,rfl,rfl⟩:=h;obtain⟨p,q⟩:=IT (k:=k+1) b (by rw[g];exact h1);refine⟨by rw[p];congr 1;simp;omega,λj o' a=>?_⟩;cases j with
    |zero=>
     simp only[Zj]at a ⊢;rw[x]at a;simp only[Qa]at a;subst a;refine⟨by rw[v,t],?_⟩;rw[t];rfl
    |succ j=>
     have:=q j o' (by rw[show k+1+j=k+(j+1)by omega];exact a);rw[show k+1+j=k+(j+1)by omega]at this;exact⟨this.1,by simpa using this.2⟩
   ·cases h
  ·cases h
theorem eP{P:Program}(g:GZ.ok P S){op:DOp}{s:Nat->D}{m:G6}{fr:Id}{d:D}{u:Ha}(h:Ax S s m fr op=some (d,u)):
  (op.mayW=false->u=[])∧(op.ownW=true->∀i o,Fa u i o≠none->i=fr):=by
 have a:∀ds,∀i o,Fa [(fr,0,ds)] i o≠none->i=fr:=by
  grind [Fa]
 cases op<;>(constructor<;>intro n<;>first|(simp[DOp.mayW]at n;done)|(simp[DOp.ownW]at n;done)|skip)
 all_goals simp only[Ax]at h
 case alloc zs=>simp only[Qa,Qd]at h;obtain⟨rfl,rfl⟩:=h;exact a _
 case box x=>split at h;(simp only[Qa,Qd]at h;obtain⟨rfl,rfl⟩:=h;exact a _);cases h
 case bslice=>split at h;(simp only[Qa,Qd]at h;obtain⟨rfl,rfl⟩:=h;exact a _);cases h
 case mksl=>
  split at h
  ·grind
  ·cases h
 all_goals
  repeat' (split at h)
 all_goals first
  |(simp at h;done)
  |(simp only[Qa,Qd]at h;exact h.2.symm)
  |(rw[Qb]at h;obtain⟨_,_,h⟩:=h;simp only[Qd]at h;exact h.2.symm)
def bR{op:DOp}{s:Nat->D}{m:G6}(h:op.mayR=false):Hr S s m op=[]:=by
 cases op<;>first|rfl|(simp[DOp.mayR]at h)
def uV{op:DOp}(h:op.ownW=true):op.mayR=false:=by
 cases op<;>first|rfl|(simp[DOp.ownW]at h)
def Nh{z:List (List Nat)}{j k:Nat}:SJ z j k=true↔Fi z j k:=by
 simp[SJ,Fi]
def aCq{P:Program}(hS:GZ.ok P S){y:List (List Nat)}(hb:FT (ops.map (·.after)) y=true)(hs:OZ ops y=true){s':Nat->D}{m':G6}{f:List Mb}
  (he:Co S ns c ops ops 0 s0 m0=some (s',m',f)) (hf:L3 f (Lk ops y)):
  aFV ops (L5 S ns c ops s0 m0) (λk=>(f.getD k ([],[])).1) (Fi y):=by
 obtain⟨_,ia⟩:=IT (k:=0) (ops:=ops) rfl he;simp only[Qu]at ia;refine⟨λj k h=>(VX hb h).1,λj k t oj ok a hj hk p ht=>?_,λj k i o a hj hk hl ht=>?_⟩
 ·have z:j<ops.length:=(Qe.1 hj).1;have ga:k<ops.length:=(Qe.1 hk).1;have q:=Qy.1 hs j (Ql.2 z);have h2:=Qy.1 q k (Ql.2 ga);simp only[hj,hk,p]at h2;simp only[QP,beq_iff_eq,Bool.not_eq_true',QS]at h2;rcases h2 with ((h2|h2)|h2)|h2
  ·exact absurd h2 a
  ·exact .inl (Nh.1 h2)
  ·exact .inr (Nh.1 h2)
  ·simp_all
 ·by_cases w:Fi y j k∨Fi y k j
  ·exact w
  exfalso;have r:ops[j]?=some ops[j]:=Qc hj;have x:ops[k]?=some ops[k]:=Qc hk;obtain⟨ej,fj⟩:=ia j _ r;obtain⟨ek,fk⟩:=ia k _ x;have g:f.getD j ([],[])=(Hr S (DB S ns c ops s0 m0 j).1 (DB S ns c ops s0 m0 j).2 ops[j].op,AI (L5 S ns c ops s0 m0 j).u):=by simp[Q0,fj]
  have d:f.getD k ([],[])=(Hr S (DB S ns c ops s0 m0 k).1 (DB S ns c ops s0 m0 k).2 ops[k].op,AI (L5 S ns c ops s0 m0 k).u):=by simp[Q0,fk]
  have wr:∀{k o e s m},BP S ops ((c+k)::ns) o s m=some e->(o.op.mayW=false->e.u=[])∧(o.op.ownW=true->∀i o',Fa e.u i o'≠none->i=(c+k)::ns):=by
   intro k o e s m h;unfold BP at h;split at h
   ·grind [eP]
   ·simp only[Qa]at h;subst h;exact⟨λ_=>rfl,λ_ i o' hl=>absurd rfl hl⟩
   ·cases h
  by_cases oa:aD2 (ops[j]).op (ops[k]).op=true
  ·have na:(j,k)∈Lk ops y:=by
    unfold Lk;rw[Q5];refine⟨j,Ql.2 hj,?_⟩;rw[List.mem_filterMap];refine⟨k,Ql.2 hk,?_⟩;simp only[r,x];have n1:SJ y j k=false:=by
     cases h:SJ y j k with
     |false=>rfl
     |true=>exact absurd (.inl (Nh.1 h)) w
    have n2:SJ y k j=false:=by
     cases h:SJ y k j with
     |false=>rfl
     |true=>exact absurd (.inr (Nh.1 h)) w
    have n3:(j !=k)=true:=Xz
    rw[n1,n2,n3,oa];rfl
   have l:=hf (j,k) na (i,o) (by simp only;rw[g];exact look_mem hl);rcases ht with ht|ht
   ·exact l.1 ht
   ·grind [look_mem]
  ·obtain⟨w1,w2⟩:=wr ej;obtain⟨w3,w4⟩:=wr ek;have n:(ops[j]).op.mayW=true:=by
    cases h:(ops[j]).op.mayW with
    |true=>rfl
    |false=>rw[w1 h]at hl;exact absurd rfl hl
   by_cases b:(ops[k]).op.mayR=true∨(ops[k]).op.mayW=true
   ·have ja:(ops[j]).op.ownW=true∧(ops[k]).op.ownW=true:=by
     unfold aD2 at oa;rw[n]at oa;have:((ops[k]).op.mayR||(ops[k]).op.mayW)=true:=by rcases b with h|h<;>simp[h]
     rw[this]at oa;simpa using oa
    have hi:=w2 ja.1 i o hl;rcases ht with ht|ht
    ·have:(ops[k]).op.mayR=false:=uV ja.2;rw[d,bR this]at ht;cases ht
    ·have v:=w4 ja.2 i o ht;rw[hi]at v;simp only[ZH,and_true]at v;omega
   ·have q:(ops[k]).op.mayR=false:=by simpa using (λh=>b (.inl h))
    have h2:(ops[k]).op.mayW=false:=by simpa using (λh=>b (.inr h))
    rcases ht with ht|ht
    ·rw[d,bR q]at ht;cases ht
    ·rw[w3 h2]at ht;exact absurd rfl ht
def iV{P:Program}(s:GZ.ok P S){z:List (List Nat)}(m:FT (ops.map (·.after)) z=true)(hs:OZ ops z=true){r:Nat->D}{m':G6}{f:List Mb}
  (v:Co S ns c ops ops 0 s0 m0=some (r,m',f)) (e:L3 f (Lk ops z)) {l:List Nat} (x:iA ops (Fi z) (λ_=>false) l) (hl:l.foldl ins (λ_=>false)=below ops.length):
  Dq S ns c ops l s0 m0=some (r,m'):=by
 obtain⟨a,ia⟩:=IT (k:=0) (ops:=ops) rfl v;simp only[Qu,List.drop_zero]at ia a;have q:=aCq s m hs v e;have b:=GK (S:=S) (ns:=ns) (c:=c) (ops:=ops) (s0:=s0) (m0:=m0) 0 (ZF _);have i:below 0=λ_=>false:=Yw
 rw[i]at b;simp only[DB]at b;have g:=GK (S:=S) (ns:=ns) (c:=c) (ops:=ops) (s0:=s0) (m0:=m0) ops.length (Qk _);have d:=PP (c:=c) (ns:=ns) (s0:=s0) (m0:=m0) s q (λk o y=>by
  have n:k<ops.length:=(Qe.1 y).1;have:=(ia k o y).2;rw[(GK k O).1,(GK k O).2]at this;simp[Q0,this]) (λk o y=>by
  have n:k<ops.length:=(Qe.1 y).1;have:=(ia k o y).1;rw[(GK k O).1,(GK k O).2]at this;exact this) l (λ_=>false) (λj k h _=>Xc) x
 rw[←b.1,←b.2,hl,←g.1,←g.2]at d;rw[d,←a]
end
def DOper.strip(o:DOper):DOper:={o with after:=[]}
def Eu(S:GZ)(ns:Id)(c:Nat)(ops:List DOper):List DOper->Nat->(Nat->D)->G6->Option ((Nat->D)×G6)
 |[],_,s,m=>some (s,m)
 |o::l,k,s,m=>match BP S ops ((c+k)::ns) o s m with
  |some e=>Eu S ns c ops l (k+1) (CL s o.dst e.d) (Ha.app m e.u)
  |none=>none
def SB(ops:List DOper)(s:Nat->D)(o:DOper):Bw (ops.map DOper.strip) s o.strip=Bw ops s o:=by
 grind [Bw,DOper.strip]
def Oy(S:GZ)(ops:List DOper)(fr:Id)(o:DOper)(s:Nat->D)(m:G6):BP S (ops.map DOper.strip) fr o.strip s m=BP S ops fr o s m:=by
 unfold BP;rw[SB];rfl
def Ow(S:GZ)(ns:Id)(c:Nat)(ops:List DOper):∀(l:List DOper)(k:Nat)(s:Nat->D)(m:G6),Eu S ns c (ops.map DOper.strip) (l.map DOper.strip) k s m=Eu S ns c ops l k s m
 |[],k,s,m=>rfl
 |o::l,k,s,m=>by
  simp only[Qs,Eu,Oy];cases BP S ops ((c+k)::ns) o s m with
  |none=>rfl
  |some e=>simp only;exact Ow S ns c ops l (k+1) _ _
def MQ(S:GZ)(ns:Id)(c:Nat)(ops:List DOper):∀(l:List DOper)(k:Nat)(s:Nat->D)(m:G6),Co S ns c (ops.map DOper.strip) (l.map DOper.strip) k s m=Co S ns c ops l k s m
 |[],k,s,m=>rfl
 |o::l,k,s,m=>by
  simp only[Qs,Co,Oy];cases BP S ops ((c+k)::ns) o s m with
  |none=>rfl
  |some e=>simp only;rw[show o.strip.dst=o.dst from rfl,MQ S ns c ops l (k+1) _ _];rfl
def Ox(S:GZ)(ns:Id)(c:Nat)(ops:List DOper):∀(l:List DOper)(k:Nat)(s:Nat->D)(m:G6),l=ops.drop k->Eu S ns c ops l k s m=Dq S ns c ops (Zp k l.length) s m
 |[],k,s,m,_=>rfl
 |o::l,k,s,m,hl=>by
  have u:ops[k]?=some o:=by
   have:(ops.drop k)[0]?=some o:=by rw[←hl];rfl
   rw[Qw]at this;simpa using this
  have b:l=ops.drop (k+1):=by
   have:(ops.drop k).drop 1=ops.drop (k+1):=by rw[Zo]
   rw[←this,←hl];rfl
  rw[Qo,Q3];simp only[Eu,Dq,u];cases BP S ops ((c+k)::ns) o s m with
  |none=>rfl
  |some e=>simp only;exact Ox S ns c ops l (k+1) _ _ b
inductive DC where
 |skip
 |ret
 |exit (i:Nat)
 |row (ops:List DOper)
 |drawn (ops:List DOper) (ps:List (Nat×Nat))
 |seq (a b:DC)
 |cond (c:G9) (a b:DC)
 |block (i:Nat) (c:DC)
 |loop (c:DC)
def R_(ps:List (List Nat)):List (List Nat):=
 ps.foldl (λv p=>v++[(p.flatMap λj=>j::v.getD j []).eraseDups]) []
def Vh(P:Program)(N:Nat)(ops:Array Oper):Option DC:=
 match DJ P N ops.toList with
 |some y=>
  if FT (y.map (·.after)) (R_ (y.map (·.after)))=true∧OZ y (R_ (y.map (·.after)))=true∧FD .any ops (Region.linearise .any ops 0)=true∧
   FD .text ops (Region.linearise .text ops 0)=true∧FD .gc ops (Region.linearise .gc ops 0)=true
  then some (.drawn (y.map DOper.strip) (Lk y (R_ (y.map (·.after)))))else none
 |none=>none
def Cs(P:Program)(N:Nat):Code->Option DC
 | .skip=>some .skip
 | .ret=>some .ret
 | .exit i=>some (.exit i)
 | .region _ ops false=>(DJ P N ops.toList).map λl=> .row (l.map DOper.strip)
 | .region _ ops true=>Vh P N ops
 | .seq a b=>match Cs P N a,Cs P N b with
  |some a,some b=>some (.seq a b)
  |_,_=>none
 | .cond c a b=>match AC c,Cs P N a,Cs P N b with
  |some c,some a,some b=>some (.cond c a b)
  |_,_,_=>none
 | .block i c=>(Cs P N c).map (.block i)
 | .loop c=>(Cs P N c).map .loop
 |_=>none
structure St where
 s:Nat->D
 m:G6
 c:Nat
inductive Ex where
 |normal
 |ret
 |exit (i:Nat)
def Ex.toExit:Ex->Exit
 | .normal=> .normal
 | .ret=> .ret
 | .exit i=> .exit i
inductive Lp (R:St->Ex->St->Prop):Nat->St->Ex->St->Prop
 |stop (st:St) (e:Ex) (st':St):R st e st'->e≠ .normal->Lp R 0 st e st'
 |more (n:Nat) (st st1:St) (e:Ex) (st':St):R st .normal st1->Lp R n st1 e st'->Lp R (n+1) st e st'
def Ev(S:GZ)(ns:Id):DC->St->Ex->St->Prop
 | .skip,st,e,st'=>e= .normal∧st'=st
 | .ret,st,e,st'=>e= .ret∧st'=st
 | .exit i,st,e,st'=>e= .exit i∧st'=st
 | .row ops,st,e,st'=>e= .normal∧Eu S ns st.c ops ops 0 st.s st.m=some (st'.s,st'.m)∧st'.c=st.c+ops.length
 | .drawn ops ps,st,e,st'=>e= .normal∧(∃f,Co S ns st.c ops ops 0 st.s st.m=some (st'.s,st'.m,f)∧L3 f ps)∧st'.c=st.c+ops.length
 | .seq a b,st,e,st'=>∃g ia,Ev S ns a st g ia∧((g= .normal∧Ev S ns b ia e st')∨(g≠ .normal∧e=g∧st'=ia))
 | .cond c a b,st,e,st'=>(c.ev st.s= .bool true∧Ev S ns a st e st')∨(c.ev st.s= .bool false∧Ev S ns b st e st')
 | .block i c,st,e,st'=>∃g,Ev S ns c st g st'∧((g= .exit i∧e= .normal)∨(g≠ .exit i∧e=g))
 | .loop c,st,e,st'=>∃n,Lp (Ev S ns c) n st e st'
def DC.wp(S:GZ)(ns:Id)(t:DC)(Q:Ex->St->Prop)(y:St):Prop:=∃e x,Ev S ns t y e x∧Q e x
def ST{P:Program}{Q:Exit->Act->World->Prop}{c:Code}(J:Nat->Act->World->Prop)
  (f:∀n a w,J n a w->c.wp P (Exit.then (λv s=>∃k,k<n∧J k v s) Q) a w) {n:Nat} {a:Act} {w:World} (t:J n a w):(Code.loop c).wp P Q a w:=by
 intro b k cs;have z:∀n a w,J n a w->∃e v s,Q e v s∧Arrives P (lone (b.at a (.code c:: .inLoop c::k)) cs w) b k cs e v s:=by
  intro n;induction n using ZI with
  |_ n ih=>
   intro a w q;obtain⟨e,i,j,y,p⟩:=f n a w q b (.inLoop c::k) cs;cases e with
   |normal=>
    obtain⟨r,u,g⟩:=y;obtain⟨e₂,o,m,h,d⟩:=ih r u i j g;exact⟨e₂,o,m,h,.of_steps (Steps.trans p (.one step_inLoop)) d⟩
   |exit id=>exact⟨_,i,j,y,.pass (x:= .inLoop c) rfl (λ_ _=> .inl U) p⟩
   |goto l=>exact⟨_,i,j,y,.pass (x:= .inLoop c) rfl (λ_ _=> .inl U) p⟩
   |ret=>exact⟨_,i,j,y,.pass (x:= .inLoop c) rfl (λ_ _=> .inl U) p⟩
   |panic ch=>exact⟨_,i,j,y,.pass (x:= .inLoop c) rfl (λ_ _=> .inl U) p⟩
   |outgrown=>exact⟨_,i,j,y,.pass (x:= .inLoop c) rfl (λ_ _=> .inl U) p⟩
 obtain⟨e,v,s,y,p⟩:=z n a w t;exact⟨e,v,s,y,.of_steps (.one step_loop) p⟩
section
variable{P:Program}{B:Nat}{w0:World}{N:Nat}{ns:Id}{S:GZ}
def Vg{ops:Array Oper}{t:DC}(h:Vh P N ops=some t):∃y z,DJ P N ops.toList=some y∧FT (y.map (·.after)) z=true∧OZ y z=true∧
  (∀s,FD s ops (Region.linearise s ops 0)=true)∧t= .drawn (y.map DOper.strip) (Lk y z):=by
 unfold Vh at h;split at h
 ·rename_i y p;split at h
  ·rename_i w;simp only[Qa]at h;refine⟨y,_,p,w.1,w.2.1,λs=>?_,h.symm⟩;cases s
   ·exact w.2.2.2.1
   ·exact w.2.2.2.2
   ·exact w.2.2.1
  ·cases h
 ·cases h
def Holds(P:Program)(B:Nat)(w0:World)(N:Nat)(ns:Id)(y:St)(a:Act)(w:World)(g:Gh):Prop:=InS P B w0 N ns y.c y.s y.m a w g
def aJ1(P:Program)(B:Nat)(w0:World)(N:Nat)(ns:Id)(y:St)(w:World)(g:Gh)(e:Ex)(x:St):Exit->Act->World->Prop:=
 λn v t=>n=e.toExit∧∃q,Holds P B w0 N ns x v t q∧Ht w g t q∧GX ns y.m g x.m q
def aJ1.trans{y ia x:St}{w s:World}{g r:Gh}{e:Ex}{n:Exit}{v:Act}{t:World}(q:Ht w g s r)(o:GX ns y.m g ia.m r)(h:aJ1 P B w0 N ns ia s r e x n v t):aJ1 P B w0 N ns y w g e x n v t:=by
 obtain⟨u,b,f,i,p⟩:=h;exact⟨u,b,f,q.trans i,o.trans p⟩
def Su{ops:Array Oper}{y:List DOper}{z:List (List Nat)}(b:DJ P N ops.toList=some y)(m:FT (y.map (·.after)) z=true)
  (u:∀s,FD s ops (Region.linearise s ops 0)=true) (a:Bool) (t:Nat):
  iA y (Fi z) (λ_=>false) (Region.schedule a ops t)∧(Region.schedule a ops t).foldl ins (λ_=>false)=below y.length:=by
 obtain⟨hl,ia⟩:=DI b;have r:y.length=ops.size:=Xk
 have n:∀(k:Nat) o,ops[k]?=some o->(y.map (·.after)).getD k []=Tj o:=by
  intro k o g;obtain⟨d,p,v⟩:=ia k o (by simpa using g);simp[Q0,p,(Fr v).2.2.1]
 rw[r];unfold Region.schedule;split
 ·exact Fb r n m (u .any) t
 ·split
  ·exact Fb r n m (u .text) (t / 2)
  ·exact Fb r n m (u .gc) (t / 2)
def aCN(hS:GZ.ok P S):∀(ba:Code)(dc:DC),Cs P N ba=some dc->∀(st:St)(e:Ex)(ha:St),Ev S ns dc st e ha->∀(a:Act)(w:World)(g:Gh),Holds P B w0 N ns st a w g->
  ba.wp P (aJ1 P B w0 N ns st w g e ha) a w:=by
 intro ba;induction ba with
 |skip=>
  intro dc ca st e ha b a w g hx;simp only[Cs,Qa]at ca;subst ca;obtain⟨rfl,rfl⟩:=b;exact wp_skip ⟨rfl,g,hx,Ht.refl w g,GX.refl _ _ _⟩
 |ret=>
  intro dc ca st e ha b a w g hx;simp only[Cs,Qa]at ca;subst ca;obtain⟨rfl,rfl⟩:=b;exact wp_ret ⟨rfl,g,hx,Ht.refl w g,GX.refl _ _ _⟩
 |exit i=>
  intro dc ca st e ha b a w g hx;simp only[Cs,Qa]at ca;subst ca;obtain⟨rfl,rfl⟩:=b;exact wp_exit ⟨rfl,g,hx,Ht.refl w g,GX.refl _ _ _⟩
 |region id ops ja=>
  intro dc ca st e ha b a w g hx;cases ja with
  |false=>
   simp only[Cs,Qb]at ca;obtain⟨da,fa,rfl⟩:=ca;obtain⟨rfl,he,hc⟩:=b;rw[Ow,Ox S ns st.c da da 0 _ _ rfl,←QR]at he;refine uR hS fa he hx (λa' w' g' h1 h2 h3=>⟨rfl,g',?_,h2,h3⟩);unfold Holds;rw[hc,QZ];exact h1
  |true=>
   simp only[Cs]at ca;obtain⟨da,aa,fa,hb,hs,ea,rfl⟩:=Vg ca;obtain⟨rfl,⟨f,he,hf⟩,hc⟩:=b;rw[MQ]at he;refine wp_region_draw (λt=>?_);obtain⟨g1,g2⟩:=Su fa hb ea (P.follows .mixedOrders) t;have la:=iV (c:=st.c) (ns:=ns) hS hb hs he hf g1 g2;have pa:InS P B w0 N ns st.c st.s st.m a w.drew g:=⟨hx.inv.drew,λt=>(hx.slots t).ext (Ht.drew w g),hx.size,hx.defers,hx.fresh⟩;refine Ix hS fa _ (λ_=>false) st.s st.m a w.drew g ha.s ha.m (TP g1) la (pa.start _) (λa' w' g' h1 h2 h3=>⟨rfl,g',?_,(Ht.drew w g).trans h2,h3⟩);unfold Holds;rw[hc,QZ];rw[g2]at h1;exact h1.done
 |seq x y v na=>
  intro dc ca st e ha b a w g hx;simp only[Cs]at ca;split at ca
  ·rename_i dx dy h1 h2;simp only[Qa]at ca;subst ca;obtain⟨e1,ia,l,oa⟩:=b;have za:=v dx h1 st e1 ia l a w g hx;refine wp_seq (wp_mono za ?_);rintro e' a' w' ⟨rfl,g',hh,k,d⟩;rcases oa with ⟨rfl,ra⟩|⟨ga,rfl,rfl⟩
   ·exact wp_mono (na dy h2 ia e ha ra a' w' g' hh) (λta sa ka h=>h.trans k d)
   ·cases e with
    |normal=>exact absurd rfl ga
    |ret=>exact⟨rfl,g',hh,k,d⟩
    |exit i=>exact⟨rfl,g',hh,k,d⟩
  ·cases ca
 |cond c x y v na=>
  intro dc ca st e ha b a w g hx;simp only[Cs]at ca;split at ca
  ·rename_i o dx dy h0 h1 h2;simp only[Qa]at ca;subst ca;have hc:=hx.slots.arg h0;rcases b with ⟨ht,b⟩|⟨ht,b⟩
   ·rw[ht]at hc;exact wp_cond_true hc.bool_inv (v dx h1 st e ha b a w g hx)
   ·rw[ht]at hc;exact wp_cond_false hc.bool_inv (na dy h2 st e ha b a w g hx)
  ·cases ca
 |block i c ih=>
  intro dc ca st e ha b a w g hx;simp only[Cs,Qb]at ca;obtain⟨o,h1,rfl⟩:=ca;obtain⟨e1,l,oa⟩:=b;refine wp_block (wp_mono (ih o h1 st e1 ha l a w g hx) ?_);rintro e' a' w' ⟨rfl,g',hh,k,d⟩;rcases oa with ⟨rfl,rfl⟩|⟨ga,rfl⟩
  ·simp only[Ex.toExit,Exit.inBlock,if_true];exact⟨rfl,g',hh,k,d⟩
  ·cases e with
   |normal=>exact⟨rfl,g',hh,k,d⟩
   |ret=>exact⟨rfl,g',hh,k,d⟩
   |exit j=>
    simp only[Ex.toExit,Exit.inBlock];rw[if_neg (λe=>ga (by rw[e]))];exact⟨rfl,g',hh,k,d⟩
 |loop c ih=>
  intro dc ca st e ha b a w g hx;simp only[Cs,Qb]at ca;obtain⟨o,h1,rfl⟩:=ca;obtain⟨n,r⟩:=b;refine ST (λn a' w'=>∃ia g1,Holds P B w0 N ns ia a' w' g1∧Ht w g w' g1∧GX ns st.m g ia.m g1∧Lp (Ev S ns o) n ia e ha) ?_ ⟨st,g,hx,Ht.refl w g,GX.refl _ _ _,r⟩;rintro n a1 w1 ⟨ia,g1,hh,k,d,u⟩;cases u with
  |stop _ _ _ hr ga=>
   refine wp_mono (ih o h1 ia e ha hr a1 w1 g1 hh) ?_;rintro e' a' w' hp;have wa:=hp.trans k d;obtain⟨rfl,_⟩:=hp;cases e with
   |normal=>exact absurd rfl ga
   |ret=>exact wa
   |exit i=>exact wa
  |more n' _ p _ _ hr q=>
   refine wp_mono (ih o h1 ia .normal p hr a1 w1 g1 hh) ?_;rintro e' a' w' ⟨rfl,g',ma,z,qa⟩;exact⟨n',Nat.lt_succ_self _,p,g',ma,k.trans z,d.trans qa,q⟩
 |_=>
  intro dc ca;simp[Cs]at ca
end
def N1{xs:List D}(h:∀d∈xs,d.calm=true):∀x∈flat xs,x.calm=true:=by
 induction xs with
 |nil=>intro x hx;cases hx
 |cons d r ih=>
  intro x hx;simp only[flat,Qg]at hx;rcases hx with hx|hx
  ·exact Ma (h d (Qn ..)) x hx
  ·exact ih (λd p=>h d (Qq _ p)) x hx
def fM{cs:List D}(h:(D.agg cs).calm=true):∀x∈cs,x.calm=true:=Ma h
def Rep.calm_to{w w':World}{g g':Gh}{d:D}{v:Value}(h:Rep w g d v)(m:d.calm=true)(x:∀p:Addr,p.off<g.G p.block->w'.cell? p=w.cell? p)(hG:∀b,g.G b<=g'.G b):Rep w' g' d v:=by
 induction h with
 |junk v=>exact .junk v
 |bool b=>exact .bool b
 |int k n=>exact .int k n
 |str s=>exact .str s
 |nils t=>exact .nils t
 |slice t xs a n c sz vv u y h3 h4 h5 h6 h7 h8 h9 ih=>
  have q:t=[]:=by simpa[D.calm,D.calm1]using m
  subst q;refine .slice [] xs a n c sz vv u y h3 (λj e=>?_) h5 (λj d z=>ih j d z (N1 h9 d (Qr z))) (λh=>QO (h7 h) (hG _)) (λh=>absurd rfl h) h9;rw[x _ YL];exact h4 j e
 |ptr i o b u=>simp[D.calm,D.calm1]at m
 |row i n c b h0 u=>simp[D.calm,D.calm1]at m
 |eptr ds a vv u y h3 h4 h5 ih=>
  refine .eptr ds a vv (λj e=>?_) y (λj d z=>ih j d z (h5 d (Qr z))) (λh=>QO (h4 h) (hG _)) h5;rw[x _ YM];exact u j e
 |nilp=>exact .nilp
 |agg ds vs u y h3 ih=>exact .agg ds vs u y (λj d v z r=>ih j d v z r (fM m d (Qr z)))
 |tup ds vs u y ih=>simp[D.calm,D.calm1]at m
 |iface t d v u y ih=>exact .iface t d v u (ih u)
 |nili=>exact .nili
 |fn f ds vs u y ih=>
  have:ds=[]:=by simpa[D.calm,D.calm1]using m
  subst this;exact .fn f [] vs u U
 |nilf=>exact .nilf
 |nilm=>exact .nilm
 |itp i b u=>simp[D.calm,D.calm1]at m
def D.unR:D->D
 | .tup vs=> .tup (vs.map D.un)
 |d=>d.un
def D.calmR:D->Bool
 | .tup vs=>vs.all D.calm
 |d=>d.calm
def Rep.unR{w:World}{g:Gh}{d:D}{v:Value}(h:Rep w g d v):Rep w g d.unR v:=by
 cases d with
 |tup vs=>
  obtain⟨us,rfl,u,f⟩:=h.tup_inv;refine .tup _ us (by simp[u]) (λj d v p y=>?_);rw[Qi,Qb]at p;obtain⟨b,na,rfl⟩:=p;exact(f j b v na y).un
 |_=>exact h.un
def Rep.calmR_to{w k:World}{g q:Gh}{d:D}{v:Value}(h:Rep w g d v)(s:d.calmR=true)(x:∀p:Addr,p.off<g.G p.block->k.cell? p=w.cell? p)(hG:∀b,g.G b<=q.G b):Rep k q d v:=by
 cases d with
 |tup vs=>
  obtain⟨us,rfl,u,f⟩:=h.tup_inv;exact .tup _ us u (λj d v t y=>(f j d v t y).calm_to (Qy.1 s d (Qr t)) x hG)
 |_=>exact h.calm_to s x hG
inductive RV where
 |t (n:Nat)
 |cell (k:Option Nat) (n:Nat)
def dK(m:G6)(k:Option Nat):D->Option D
 | .ptr i o=>match k with
  |none=>m i o
  |some n=>(Ag m i o n).map .agg
 |_=>none
def RV.of(s:Nat->D)(m:G6):RV->Option D
 | .t n=>some (s n)
 | .cell k n=>dK m k (s n)
def Ia(s:Nat->D)(m:G6):List RV->Option (List D)
 |[]=>some []
 |r::l=>match r.of s m,Ia s m l with
  |some d,some ds=>some (d::ds)
  |_,_=>none
def C9(rs:List RV)(s:Nat->D)(m:G6):Option D:=
 match Ia s m rs with
 |some [d]=>some d
 |some ds=>some (.tup ds)
 |none=>none
def LE(P:Program):List ResultVar->Option (List RV)
 |[]=>some []
 | .tmp t::r=>(LE P r).map (.t t::·)
 | .cell a t::r=>match pU P t,LE P r with
  |some k,some l=>some (.cell k a::l)
  |_,_=>none
section
variable{P:Program}{B:Nat}{w0 w w':World}{m:G6}{g:Gh}{s:Nat->D}{a:Act}
def WX(tmps:Array Value):ResultVar->Sem Value
 | .tmp t=>pure (tmps.getD t undef)
 | .cell a t=>do loadVar t (←asAddr (tmps.getD a undef))
def Oe(hi:He P B w0 m w g)(hs:DZ w g s a):∀{h:List ResultVar} {rs:List RV} {ds:List D},LE P h=some rs->Ia s m rs=some ds->
  ∃vs:List Value,(h.mapM (m:=Sem) (WX a.tmps)).run P w= .ok vs w∧vs.length=ds.length∧∀(j:Nat) d v,ds[j]?=some d->vs[j]?=some v->Rep w g d v
 |[],rs,ds,h1,h2=>by
  simp only[LE,Qa]at h1;subst h1;simp only[Ia,Qa]at h2;subst h2;exact⟨[],U,rfl,U⟩
 |x::r,rs,ds,h1,h2=>by
  have z:∃rv f,rs=rv::f∧LE P r=some f∧∀d,rv.of s m=some d->∃v,(WX a.tmps x).run P w= .ok v w∧Rep w g d v:=by
   cases x with
   |tmp t=>
    simp only[LE,Qb]at h1;obtain⟨l,hl,rfl⟩:=h1;refine⟨.t t,l,rfl,hl,λd p=>?_⟩;simp only[RV.of,Qa]at p;subst p;exact⟨_,rfl,hs t⟩
   |cell y t=>
    simp only[LE]at h1;split at h1
    ·rename_i k l hk hl;simp only[Qa]at h1;subst h1;refine⟨.cell k y,l,rfl,hl,λd p=>?_⟩;simp only[RV.of]at p;unfold dK at p;split at p
     ·rename_i i o e;have hr:=hs y;rw[e]at hr;obtain⟨b,e1,hb⟩:=hr.ptr_inv;split at p
      ·obtain⟨v,c1,c2,c3⟩:=hi.cell hb p;exact⟨v,by simp[WX,e1,asAddr,D7 hk c1],c3⟩
      ·rename_i n;rw[Qb]at p;obtain⟨ds,q,rfl⟩:=p;obtain⟨vs,c1,c2⟩:=hi.cells hb q;have hl:=(BG q).1;have:=EB (P:=P) (w:=w) hk (ad:=⟨b,o,none⟩) (vs:=vs) (by rw[c1.1,hl]) (λj v hv=>by rw[E8];exact c2 j v hv);exact⟨_,by simp[WX,e1,asAddr,this],aJ c1⟩
     ·cases p
    ·cases h1
  obtain⟨rv,f,rfl,hl,hx⟩:=z;unfold Ia at h2;split at h2
  ·rename_i d c e1 e2;simp only[Qa]at h2;subst h2;obtain⟨v,q1,u⟩:=hx d e1;obtain⟨vs,p1,p2,p3⟩:=Oe hi hs hl e2;refine⟨v::vs,?_,by simp[p2],λj d v p hv=>?_⟩
   ·simp_all
   ·grind
  ·cases h2
def bP{k:Func}{rs:List RV}{d:D}(hi:He P B w0 m w g)(z:DZ w g s a)(i:LE P k.results.toList=some rs)(p:C9 rs s m=some d):
  ∃v,(results k a.tmps).run P w= .ok v w∧Rep w g d v:=by
 unfold C9 at p;have run:∀ds,Ia s m rs=some ds->∃vs:List Value,(results k a.tmps).run P w= .ok (if h:vs.toArray.size=1 then vs.toArray[0]else .tuple vs.toArray) w∧vs.length=ds.length∧∀(j:Nat) d v,ds[j]?=some d->vs[j]?=some v->Rep w g d v:=by
  intro ds q;obtain⟨vs,t,c,f⟩:=Oe hi z i q;refine⟨vs,?_,c,f⟩;have b:results k a.tmps=(do
   let vs ←k.results.mapM (WX a.tmps)
   pure (if h:vs.size=1 then vs[0]else .tuple vs)):=by
   unfold results;congr 1
  rw[b];simp only[Sem.run_bind];rw[Zc,Sem.run_map,t];rfl
 split at p
 ·rename_i n e;simp only[Qa]at p;subst p;obtain⟨vs,t,c,f⟩:=run _ e
  match vs,c with
  |[v],_=>exact⟨v,t,f 0 _ v rfl rfl⟩
 ·rename_i ds o e;simp only[Qa]at p;subst p;obtain⟨vs,t,c,f⟩:=run _ e;refine⟨.tuple vs.toArray,?_,.tup ds vs c f⟩;rw[t,dif_neg];intro u
  match ds,o,c with
  |[],_,c=>simp at c;subst c;simp at u
  |[x],o,_=>exact o x rfl
  |x::y::r,_,c=>simp at c u;omega
 ·cases p
def He.less(h:He P B w0 m w g){m':G6}(c:∀i o d,m' i o=some d->m i o=some d):He P B w0 m' w g:=by
 refine⟨h.below,h.size,h.gz,h.old,λi b hi=>?_,h.inj,λi o d j a=>h.kind i o d (c _ _ _ j) a,λi e hi=>h.tok i e (c _ _ _ hi),λz i2 n v b y y' u f x t=>h.tinj z i2 n v b y y' (c _ _ _ u) (c _ _ _ f) x t,h.itr.to (λi s p e=>c _ _ _ e) λi b s p _ _ _ n v k=>⟨rfl,rfl,v,k⟩⟩;obtain⟨p,q,vs,T,hh,r⟩:=h.obj i b hi;exact⟨p,q,vs,T,hh,λo d j=>r o d (c _ _ _ j)⟩
def Gh.glue(g:Gh)(w:World)(G':Nat->Nat):Gh:={g with G:=λb=>if b<w.heap.size then g.G b else G' b}
def Ht.glue{G':Nat->Nat}(v:∀b,w.heap.size<=b->g.G b=0)(m:Below w.heap.size w w'):Ht w g w' (g.glue w G'):=by
 refine⟨λp c=>?_,λb=>?_,λi b h=>h,rfl,λi x h=>h⟩
 ·by_cases u:p.block<w.heap.size
  ·exact m.cell u
  ·simp_all
 ·grind [Gh.glue]
def He.glue(h:He P B w0 m w g)(z:Below w.heap.size w w'){G':Nat->Nat}(k:∀b,w'.heap.size<=b->G' b=0):He P B w0 m w' (g.glue w G'):=by
 have x:=Ht.glue (G':=G') h.gz z;refine⟨h.below.trans (z.mono h.size),QO h.size z.size,λb a=>?_,λb u=>by simp only[Gh.glue];rw[if_pos (QN u h.size)];exact h.old b u,λi b hi=>?_,h.inj,h.kind,λi e hi=>?_,h.tinj,h.itr.to (λ_ _ _ e=>e) λi b s p _ _ _ e1 y e3=>?_⟩
 rotate_right
 ·have u:b<w.heap.size:=(Qf.1 e1).1;exact⟨rfl,z.block b u,by simp[Gh.glue,u,y],e3⟩
 ·simp only[Gh.glue];rw[if_neg (by have:=z.size;omega)];exact k b a
 ·obtain⟨p,q,vs,T,f,r⟩:=h.obj i b hi;have u:=h.lt hi;refine⟨p,by simp[Gh.glue,u,q],vs,T,(z.block b u).trans f,λo d j=>?_⟩;obtain⟨v,t,r2,r3⟩:=r o d j;exact⟨v,t,r2,r3.ext x⟩
 ·obtain⟨b,n,c,sz,cur,t1,t2,t3,t4,t5,t6,t7,t8,t9,xa⟩:=h.tok i e hi;have u:b<w.heap.size:=(Qf.1 t5).1;exact⟨b,n,c,sz,cur,t1,t2,t3,t4,(z.block b u).trans t5,t6,t7,t8,by simp[Gh.glue,u,t9],xa⟩
end
structure Fn (P:Program) (f:FuncId) (N:Nat) (dc:DC) (rs:List RV):Prop where
 is:∃fn code,P.funcs[f]?=some fn∧fn.body=some code∧(fn.name== "runtime.NumGoroutine")=false∧fn.ntmps=N∧Cs P N code=some dc∧LE P fn.results.toList=some rs
def BL(ds:List D):Nat->D:=λt=>ds.getD t .junk
def Ac(F:List D->Option D):HF where
 rd:=λ_ _=>[]
 ex:=λds _ _=>if(ds.map D.un).all D.calm=true then(F (ds.map D.un)).map λr=>(r,[])else none
def Ee(rs:List RV)(R:D->G6->Prop)(e:Ex)(y:St):Prop:=(e= .normal∨e= .ret)∧∃d,C9 rs y.s y.m=some d∧R d y.m
section
variable{P:Program}{S:GZ}{f:FuncId}{N:Nat}{dc:DC}{rs:List RV}
def Gy{B:Nat}{w0 w:World}{g:Gh}{ns:Id}{m:G6}{ds:List D}{vs:List Value}(hS:GZ.ok P S)(hf:Fn P f N dc rs)(hN:ds.length<=N)(hi:He P B w0 m w g)
  (o:∀k i,(k::ns)<:+i->B1 m g i) (hl:vs.length=ds.length) (c:∀(j:Nat) d v,ds[j]?=some d->vs[j]?=some v->Rep w g d v) {R:D->G6->Prop}
  (za:dc.wp S ns (Ee rs R) ⟨BL ds,m,0⟩):
  Calls P f vs.toArray w λe s=>∃v d m' g',e= .returned v∧He P B w0 m' s g'∧Ht w g s g'∧GX ns m g m' g'∧Rep s g' d v∧R d m':=by
 obtain⟨fn,r,u,y,h3,h4,h5,h6⟩:=hf.is;obtain⟨e,x,b,a,d,p,hR⟩:=za;refine calls_of_wp u y ?_;rw[h4];have ja:Holds P B w0 N ns ⟨BL ds,m,0⟩ {tmps:=vs.toArray++Q9 (N-vs.toArray.size) undef,defers:=[]} w g:=by
  refine⟨hi,λt=>?_,Xb,rfl,λk i _ hs=>o k i hs⟩;simp only[BL];by_cases ht:t<ds.length
  ·have e1:ds.getD t .junk=ds[t]:=by simp[Q0,ht]
   have e2:(vs.toArray++Q9 (N-vs.toArray.size) undef).getD t undef=vs[t]' O:=by
    rw[Qh,QH Xb];simp[hl,ht]
   rw[e1,e2];exact c t _ _ (Qc ht) (Qc _)
  ·have e1:ds.getD t .junk= .junk:=by simp[Q0,Qj (Nat.le_of_not_lt ht)]
   rw[e1];exact .junk _
 refine wp_mono (aCN hS r dc h5 _ e x b _ w g ja) ?_;rintro e' a' s ⟨rfl,g',hh,q,hk⟩;obtain⟨v,n,l⟩:=bP hh.inv hh.slots h6 p;have z:a'.defers=[]∧∃v,(results fn a'.tmps).run P s= .ok v s∧∃v' d m' g',Ending.returned v= .returned v'∧He P B w0 m' s g'∧Ht w g s g'∧GX ns m g m' g'∧Rep s g' d v'∧R d m':=
  ⟨hh.defers,v,n,v,d,x.m,g',rfl,hh.inv,q,hk,l,hR⟩
 rcases a with rfl|rfl
 ·exact z
 ·exact z
def AM(hS:GZ.ok P S)(hf:Fn P f N dc rs){F:List D->Option D}(hN:∀ds r,F ds=some r->ds.length<=N)
  (hF:∀ds r,F ds=some r->dc.wp S [] (Ee rs λd _=>d.unR=r∧r.calmR=true) ⟨BL ds,λ_ _=>none,0⟩):(Ac F).ok P f:=by
 obtain⟨fn,ba,q,y,h3,h4,h5,h6⟩:=hf.is;refine⟨⟨fn,q,Xw,h3⟩,λds m m' fr _=>rfl,?_⟩;intro B w0 w m g fr ds vs r u hi fa hl c z;simp only[Ac]at z;split at z
 ·rename_i ia;rw[Qb]at z;obtain⟨r',hr,z⟩:=z;simp only[Qd]at z;obtain⟨rfl,rfl⟩:=z
  let g0:Gh:={G:=g.G,G0:=g.G,dl:=λ_=>none,tb:=λ_=>none}
  have ua:He P w.heap.size w (λ_ _=>none) w g0:=
   ⟨Below.refl _ _,Qk _,hi.gz,λ_ _=>rfl,λi b h=>by simp[g0]at h,λi i' b h=>by simp[g0]at h,λi o d h=>Xd,λi e h=>Xd,λi i' e e' b x x' h=>Xd,λi s p h=>Xd,λi i' s p s' p' b x x' h=>Xd⟩
  have n:∀(j:Nat) d v,(ds.map D.un)[j]?=some d->vs[j]?=some v->Rep w g0 d v:=by
   intro j d v t hv;have hc:=Qy.1 ia d (Qr t);rw[Qi,Qb]at t;obtain⟨d',na,rfl⟩:=t;exact(c j d' v na hv).un.calm_to hc (λ_ _=>rfl) (λ_=>Qk _)
  have oa:=Gy (B:=w.heap.size) (w0:=w) (w:=w) (g:=g0) (ns:=[]) (m:=λ_ _=>none) (ds:=ds.map D.un) (vs:=vs) hS hf (hN _ _ hr) ua (λk i _=>⟨λ_=>rfl,rfl,rfl⟩) Xk n (hF _ _ hr);refine oa.mono ?_;rintro e w' ⟨v,d,m',g',rfl,ka,la,_,ya,rfl,ga⟩;have a:∀b,(g.glue w g'.G).G b=g'.G b:=by
   intro b;simp only[Gh.glue];split
   ·rename_i ea;rw[ka.old b ea,la.G0]
   ·rfl
  refine⟨v,g.glue w g'.G,rfl,hi.glue ka.below ka.gz,Ht.glue hi.gz ka.below,?_,λi hf _=>hf⟩;exact ya.unR.calmR_to ga (λ_ _=>rfl) (λb=>by rw[a];exact Qk _)
 ·cases z
def NH(hS:GZ.ok P S)(hf:Fn P f N dc rs){q:HF}(ea:∀ds m m' fr,(∀l∈q.rd ds m,m l.1 l.2=m' l.1 l.2)->q.ex ds m fr=q.ex ds m' fr)
  (hq:∀ds m fr r u,q.ex ds m fr=some (r,u)->(∀k i o,(k::fr)<:+i->m i o=none)->ds.length<=N∧dc.wp S fr (Ee rs λd m'=>d=r∧∀i o x,Ha.app m u i o=some x->m' i o=some x) ⟨BL ds,m,0⟩):q.ok P f:=by
 obtain⟨fn,ba,h1,y,h3,p,h5,h6⟩:=hf.is;refine⟨⟨fn,h1,Xw,h3⟩,ea,?_⟩;intro B w0 w m g fr ds vs r u hi b hl c z;have j:∀k i,(k::fr)<:+i->B1 m g i:=λk i h=>b i ((ZD k fr).trans h)
 obtain⟨hN,za⟩:=hq ds m fr r u z (λk i o h=>(j k i h).1 o);have oa:=Gy (ns:=fr) hS hf hN hi j hl c za;refine oa.mono ?_;rintro e s ⟨v,d,m',g',rfl,ka,n,t,ya,rfl,qa⟩;refine⟨v,g',rfl,ka.less qa,n,ya,λi hf a=>?_⟩;obtain⟨k1,k2,k3⟩:=t i hf a;refine⟨λo=>?_,k2,k3⟩;cases hx:Ha.app m u i o with
 |none=>rfl
 |some x=>exact absurd (k1 o) (by rw[qa i o x hx];simp)
end
inductive Tag.{u} {α:Sort u} (a:α):Type
 |mk
def As(p K:Prop)(_:Tag K):Prop:=p∧K
def OP(p A B:Prop)(_:Tag (A,B)):Prop:=(p->A)∧(¬p->B)
def Hm{α:Type}(o:Option α)(K:α->Prop)(_:Tag K):Prop:=∃x,o=some x∧K x
def As.intro{p K:Prop}{t:Tag K}(h:p)(k:K):As p K t:=⟨h,k⟩
def aF{p A B:Prop}{t:Tag (A,B)}(h:p->A)(k:¬p->B):OP p A B t:=⟨h,k⟩
def aH{α:Type}{o:Option α}{K:α->Prop}{t:Tag K}{x:α}(h:o=some x)(k:K x):Hm o K t:=⟨x,h,k⟩
def Uk{K:Prop}{t:Tag K}:As True K t=K:=by simp[As]
def aCr{A B:Prop}{t:Tag (A,B)}:OP True A B t=A:=by simp[OP]
def vJ{A B:Prop}{t:Tag (A,B)}:OP False A B t=B:=by simp[OP]
theorem A3{α:Type}{x:α}{K:α->Prop}{t:Tag K}:Hm (some x) K t=K x:=by simp[Hm]
def AR{α:Type}{K:α->Prop}{t:Tag K}:Hm none K t=False:=by simp[Hm]
def CK{α β:Type}{o:Option α}{f:α->β}{K:β->Prop}{t:Tag K}:Hm (o.map f) K t=Hm o (λx=>K (f x)) .mk:=by
 cases o<;>simp[Hm]
def EJ{α:Type}{p:Prop}[Decidable p]{o:Option α}{K:α->Prop}{t:Tag K}:Hm (if p then o else none) K t=As p (Hm o K .mk) .mk:=by
 grind [Hm,As]
def FN{α:Type}{p:Prop}[Decidable p]{x:α}{K:α->Prop}{t:Tag K}:Hm (if p then some x else none) K t=As p (K x) .mk:=by
 grind [Hm,As]
def aJ2{α:Type}{p:Prop}[Decidable p]{o o':Option α}{K:α->Prop}{t:Tag K}:Hm (if p then o else o') K t=OP p (Hm o K .mk) (Hm o' K .mk) .mk:=by
 grind [Hm,OP]
def L0:D->Bool->(A B:Prop)->Tag (A,B)->Prop
 | .bool b',b,A,B,_=>OP (b'=b) A B .mk
 | .tup [],_,_,B,_=>B
 |_,_,_,_,_=>False
def Rx{d:D}{b:Bool}{A B:Prop}{t:Tag (A,B)}(h:L0 d b A B t):(∃p,d= .bool p∧OP (p=b) A B .mk)∨(d= .tup []∧B):=by
 cases d with
 |bool p=>exact .inl ⟨p,rfl,h⟩
 |tup l=>cases l with
  |nil=>exact .inr ⟨rfl,h⟩
  |cons _ _=>exact h.elim
 |_=>exact h.elim
def lF{b:Bool}{A B:Prop}{t:Tag (A,B)}:L0 (.tup []) b A B t=B:=rfl
def IQ{p b:Bool}{A B:Prop}{t:Tag (A,B)}:L0 (.bool p) b A B t=OP (p=b) A B .mk:=rfl
def DL(ops:List DOper)(j:Nat):Option Nat:=(ops[j]?).bind (·.dst)
def GO(s:Nat->D):Option Nat->D
 |some t=>s t
 |none=> .junk
def CU(s:Nat->D)(t:Nat):GO s (some t)=s t:=rfl
def AB(S:GZ)(s:Nat->D)(m:G6)(fr:Id)(op:DOp)(K:D->Ha->Prop):Prop:=Hm (Ax S s m fr op) (λx=>K x.1 x.2) .mk
def F6(S:GZ)(ns:Id)(c:Nat)(ops:List DOper):List DOper->Nat->(Nat->D)->G6->(Nat->(Nat->D)->G6->Prop)->Prop
 |[],k,s,m,K=>K k s m
 |⟨dst,op,_,none⟩::l,k,s,m,K=>AB S s m ((c+k)::ns) op λd u=>F6 S ns c ops l (k+1) (CL s dst d) (Ha.app m u) K
 |⟨dst,op,_,some (j,b)⟩::l,k,s,m,K=>L0 (GO s (DL ops j)) b
   (AB S s m ((c+k)::ns) op λd u=>F6 S ns c ops l (k+1) (CL s dst d) (Ha.app m u) K)
   (F6 S ns c ops l (k+1) (CL s dst (.tup [])) m K) .mk
section
variable{S:GZ}{ns:Id}
def E6{c:Nat}{ops:List DOper}{K:Nat->(Nat->D)->G6->Prop}:∀(l:List DOper)(k:Nat)(s:Nat->D)(m:G6),F6 S ns c ops l k s m K->∃r m',Eu S ns c ops l k s m=some (r,m')∧K (k+l.length) r m'
 |[],k,s,m,h=>⟨s,m,rfl,h⟩
 |⟨dst,op,af,none⟩::l,k,s,m,h=>by
  simp only[F6,AB,Hm]at h;obtain⟨⟨d,u⟩,v,h⟩:=h;obtain⟨r,m',q,f⟩:=E6 l _ _ _ h;refine⟨r,m',?_,X8⟩;simp only[Eu,BP,Bw,v];exact q
 |⟨dst,op,af,some (j,b)⟩::l,k,s,m,h=>by
  simp only[F6]at h;rcases Rx h with ⟨p,e,h⟩|⟨e,h⟩
  rotate_left
  ·have a:Bw ops s ⟨dst,op,af,some (j,b)⟩=some false:=by
    unfold Bw;simp only;unfold DL at e;cases ho:(ops[j]?).bind (·.dst)with
    |none=>rw[ho]at e;simp[GO]at e
    |some t=>rw[ho,CU]at e;simp only[e]
   obtain⟨r,m',q,f⟩:=E6 l _ _ _ h;refine⟨r,m',?_,X8⟩;simp only[Eu,BP,a];exact q
  ·have a:Bw ops s ⟨dst,op,af,some (j,b)⟩=some (p==b):=by
    unfold Bw;simp only;unfold DL at e;cases ho:(ops[j]?).bind (·.dst)with
    |none=>rw[ho]at e;simp[GO]at e
    |some t=>rw[ho,CU]at e;simp only[e]
   by_cases z:p=b
   ·have h:=h.1 z;simp only[AB,Hm]at h;obtain⟨⟨d,u⟩,v,h⟩:=h;obtain⟨r,m',q,f⟩:=E6 l _ _ _ h;refine⟨r,m',?_,X8⟩;simp only[Eu,BP,a,z,v,beq_self_eq_true];exact q
   ·have h:=h.2 z;obtain⟨r,m',q,f⟩:=E6 l _ _ _ h;refine⟨r,m',?_,X8⟩;have:(p==b)=false:=by simpa using z
    simp only[Eu,BP,a,this];exact q
def Dj{c:Nat}{ops:List DOper}{K:Nat->(Nat->D)->G6->Prop}:∀(l:List DOper)(k:Nat)(s:Nat->D)(m:G6)(r:Nat->D)(m':G6),Eu S ns c ops l k s m=some (r,m')->K (k+l.length) r m'->F6 S ns c ops l k s m K
 |[],k,s,m,r,m',h,hk=>by
  simp only[Eu,Qa,Qd]at h;obtain⟨rfl,rfl⟩:=h;exact hk
 |⟨dst,op,af,none⟩::l,k,s,m,r,m',h,hk=>by
  rw[Qo,show k+(l.length+1)=k+1+l.length by omega]at hk;simp only[Eu,BP,Bw]at h;simp only[F6,AB];cases he:Ax S s m ((c+k)::ns) op with
  |none=>rw[he]at h;cases h
  |some x=>rw[he]at h;exact⟨x,rfl,Dj l _ _ _ _ _ h hk⟩
 |⟨dst,op,af,some (j,b)⟩::l,k,s,m,r,m',h,hk=>by
  rw[Qo,show k+(l.length+1)=k+1+l.length by omega]at hk;simp only[Eu,BP,Bw]at h;simp only[F6];unfold DL;cases ho:(ops[j]?).bind (·.dst)with
  |none=>rw[ho]at h;cases h
  |some t=>
   rw[ho]at h;rw[CU];simp only at h;cases hd:s t with
   |bool p=>
    rw[hd]at h;simp only at h;rw[IQ];refine⟨λz=>?_,λz=>?_⟩
    ·subst z;simp only[beq_self_eq_true]at h;cases he:Ax S s m ((c+k)::ns) op with
     |none=>rw[he]at h;cases h
     |some x=>rw[he]at h;exact⟨x,he,Dj l _ _ _ _ _ h hk⟩
    ·have:(p==b)=false:=by simpa using z
     rw[this]at h;exact Dj l _ _ _ _ _ h hk
   |tup n=>
    rw[hd]at h;cases n with
    |nil=>exact Dj l _ _ _ _ _ h hk
    |cons _ _=>cases h
   |_=>rw[hd]at h;cases h
def Cp(S:GZ)(ns:Id)(c:Nat)(ops:List DOper):List DOper->Nat->(Nat->D)->G6->(Nat->(Nat->D)->G6->List Mb->Prop)->Prop
 |[],k,s,m,K=>K k s m []
 |⟨dst,op,_,none⟩::l,k,s,m,K=>AB S s m ((c+k)::ns) op λd u=>Cp S ns c ops l (k+1) (CL s dst d) (Ha.app m u) λp r m' f=>K p r m' ((Hr S s m op,AI u)::f)
 |⟨dst,op,_,some (j,b)⟩::l,k,s,m,K=>L0 (GO s (DL ops j)) b
   (AB S s m ((c+k)::ns) op λd u=>Cp S ns c ops l (k+1) (CL s dst d) (Ha.app m u) λp r m' f=>K p r m' ((Hr S s m op,AI u)::f))
   (Cp S ns c ops l (k+1) (CL s dst (.tup [])) m λp r m' f=>K p r m' ((Hr S s m op,[])::f)) .mk
def DW{c:Nat}{ops:List DOper}:∀(l:List DOper)(k:Nat)(s:Nat->D)(m:G6)(K:Nat->(Nat->D)->G6->List Mb->Prop),Cp S ns c ops l k s m K->∃r m' f,Co S ns c ops l k s m=some (r,m',f)∧K (k+l.length) r m' f
 |[],k,s,m,K,h=>⟨s,m,[],rfl,h⟩
 |⟨dst,op,af,none⟩::l,k,s,m,K,h=>by
  simp only[Cp,AB,Hm]at h;obtain⟨⟨d,u⟩,v,h⟩:=h;obtain⟨r,m',f,q,y⟩:=DW l _ _ _ _ h;refine⟨r,m',_,?_,X7⟩;simp only[Co,BP,Bw,v,q]
 |⟨dst,op,af,some (j,b)⟩::l,k,s,m,K,h=>by
  simp only[Cp]at h;rcases Rx h with ⟨p,e,h⟩|⟨e,h⟩
  rotate_left
  ·have a:Bw ops s ⟨dst,op,af,some (j,b)⟩=some false:=by
    unfold Bw;simp only;unfold DL at e;cases ho:(ops[j]?).bind (·.dst)with
    |none=>rw[ho]at e;simp[GO]at e
    |some t=>rw[ho,CU]at e;simp only[e]
   obtain⟨r,m',f,q,y⟩:=DW l _ _ _ _ h;refine⟨r,m',_,?_,X7⟩;simp only[Co,BP,a,Ha.app,q];simp[AI]
  ·have a:Bw ops s ⟨dst,op,af,some (j,b)⟩=some (p==b):=by
    unfold Bw;simp only;unfold DL at e;cases ho:(ops[j]?).bind (·.dst)with
    |none=>rw[ho]at e;simp[GO]at e
    |some t=>rw[ho,CU]at e;simp only[e]
   by_cases z:p=b
   ·have h:=h.1 z;simp only[AB,Hm]at h;obtain⟨⟨d,u⟩,v,h⟩:=h;obtain⟨r,m',f,q,y⟩:=DW l _ _ _ _ h;refine⟨r,m',_,?_,X7⟩;simp only[Co,BP,a,z,v,beq_self_eq_true,q]
   ·have h:=h.2 z;obtain⟨r,m',f,q,y⟩:=DW l _ _ _ _ h;refine⟨r,m',_,?_,X7⟩;have:(p==b)=false:=by simpa using z
    simp only[Co,BP,a,this,Ha.app,q];simp[AI]
def Cy{c:Nat}{ops:List DOper}:∀(l:List DOper)(k:Nat)(s:Nat->D)(m:G6)(K:Nat->(Nat->D)->G6->List Mb->Prop)(r:Nat->D)(m':G6)(f:List Mb),Co S ns c ops l k s m=some (r,m',f)->K (k+l.length) r m' f->Cp S ns c ops l k s m K
 |[],k,s,m,K,r,m',f,h,hk=>by
  simp only[Co,Qa,Qd]at h;obtain⟨rfl,rfl,rfl⟩:=h;exact hk
 |⟨dst,op,af,none⟩::l,k,s,m,K,r,m',f,h,hk=>by
  rw[Qo,show k+(l.length+1)=k+1+l.length by omega]at hk;simp only[Co,BP,Bw]at h;simp only[Cp,AB];cases he:Ax S s m ((c+k)::ns) op with
  |none=>rw[he]at h;cases h
  |some x=>
   rw[he]at h;obtain⟨d,u⟩:=x;simp only at h;split at h
   ·rename_i a w i e;simp only[Qa,Qd]at h;obtain⟨rfl,rfl,rfl⟩:=h;exact⟨_,rfl,Cy l _ _ _ _ _ _ _ e hk⟩
   ·cases h
 |⟨dst,op,af,some (j,b)⟩::l,k,s,m,K,r,m',f,h,hk=>by
  rw[Qo,show k+(l.length+1)=k+1+l.length by omega]at hk;simp only[Co,BP,Bw]at h;simp only[Cp];unfold DL;cases ho:(ops[j]?).bind (·.dst)with
  |none=>rw[ho]at h;cases h
  |some t=>
   rw[ho]at h;rw[CU];simp only at h;cases hd:s t with
   |bool p=>
    rw[hd]at h;simp only at h;rw[IQ];refine⟨λz=>?_,λz=>?_⟩
    ·subst z;simp only[beq_self_eq_true]at h;cases he:Ax S s m ((c+k)::ns) op with
     |none=>rw[he]at h;cases h
     |some x=>
      rw[he]at h;obtain⟨d,u⟩:=x;simp only at h;split at h
      ·rename_i a w i e;simp only[Qa,Qd]at h;obtain⟨rfl,rfl,rfl⟩:=h;exact⟨_,he,Cy l _ _ _ _ _ _ _ e hk⟩
      ·cases h
    ·have:(p==b)=false:=by simpa using z
     rw[this]at h;simp only[Ha.app]at h;split at h
     ·rename_i a w i e;simp only[Qa,Qd]at h;obtain⟨rfl,rfl,rfl⟩:=h;exact Cy l _ _ _ _ _ _ _ e hk
     ·cases h
   |tup n=>
    rw[hd]at h;cases n with
    |nil=>
     simp only[Ha.app]at h;split at h
     ·rename_i a w i e;simp only[Qa,Qd]at h;obtain⟨rfl,rfl,rfl⟩:=h;exact Cy l _ _ _ _ _ _ _ e hk
     ·cases h
    |cons _ _=>cases h
   |_=>rw[hd]at h;cases h
def aG1(S:GZ)(ns:Id)(b:DC)(Q:Ex->St->Prop):Ex->St->Prop
 | .normal,st=>b.wp S ns Q st
 |e,st=>Q e st
def RY(i:Nat)(Q:Ex->St->Prop):Ex->St->Prop
 | .exit j,st=>if j=i then Q .normal st else Q (.exit j) st
 |e,st=>Q e st
def qX:D->(A B:Prop)->Tag (A,B)->Prop
 | .bool b,A,B,_=>OP (b=true) A B .mk
 |_,_,_,_=>False
def L8{b:Bool}{A B:Prop}{t:Tag (A,B)}:qX (.bool b) A B t=OP (b=true) A B .mk:=rfl
variable{Q:Ex->St->Prop}{st:St}
def WU{b:DC}:aG1 S ns b Q .normal st=b.wp S ns Q st:=rfl
def aAA{b:DC}:aG1 S ns b Q .ret st=Q .ret st:=rfl
def uL{b:DC}{i:Nat}:aG1 S ns b Q (.exit i) st=Q (.exit i) st:=rfl
def SI{i:Nat}:RY i Q .normal st=Q .normal st:=rfl
def mN{i:Nat}:RY i Q .ret st=Q .ret st:=rfl
theorem Ew{i j:Nat}:RY i Q (.exit j) st=if j=i then Q .normal st else Q (.exit j) st:=rfl
def zZ:DC.skip.wp S ns Q st=Q .normal st:=by
 apply propext;exact⟨λ⟨e,x,⟨u,f⟩,h⟩=>Yc,λh=>⟨_,_,⟨rfl,rfl⟩,h⟩⟩
def aGy:DC.ret.wp S ns Q st=Q .ret st:=by
 apply propext;exact⟨λ⟨e,x,⟨u,f⟩,h⟩=>Yc,λh=>⟨_,_,⟨rfl,rfl⟩,h⟩⟩
def aAb{i:Nat}:(DC.exit i).wp S ns Q st=Q (.exit i) st:=by
 apply propext;exact⟨λ⟨e,x,⟨u,f⟩,h⟩=>Yc,λh=>⟨_,_,⟨rfl,rfl⟩,h⟩⟩
def aGw{a b:DC}:(DC.seq a b).wp S ns Q st=a.wp S ns (aG1 S ns b Q) st:=by
 apply propext;constructor
 ·rintro⟨e,x,⟨e1,st1,h1,f⟩,h⟩;refine⟨e1,st1,h1,?_⟩;rcases f with ⟨rfl,f⟩|⟨g,rfl,rfl⟩
  ·exact⟨e,x,f,h⟩
  ·cases e with
   |normal=>exact absurd rfl g
   |ret=>exact h
   |exit i=>exact h
 ·rintro⟨e1,st1,h1,h⟩;cases e1 with
  |normal=>obtain⟨e,x,f,h⟩:=h;exact⟨e,x,⟨.normal,st1,h1,.inl ⟨rfl,f⟩⟩,h⟩
  |ret=>exact⟨.ret,st1,⟨.ret,st1,h1,.inr ⟨U,rfl,rfl⟩⟩,h⟩
  |exit i=>exact⟨.exit i,st1,⟨.exit i,st1,h1,.inr ⟨U,rfl,rfl⟩⟩,h⟩
def tF{i:Nat}{a:DC}(h:a.wp S ns (RY i Q) st):(DC.block i a).wp S ns Q st:=by
 obtain⟨e,x,u,h⟩:=h;cases e with
 |normal=>exact⟨_,x,⟨.normal,u,.inr ⟨U,rfl⟩⟩,h⟩
 |ret=>exact⟨_,x,⟨.ret,u,.inr ⟨U,rfl⟩⟩,h⟩
 |exit j=>
  by_cases d:j=i
  ·rw[Ew,if_pos d]at h;exact⟨_,x,⟨.exit j,u,.inl ⟨by rw[d],rfl⟩⟩,h⟩
  ·rw[Ew,if_neg d]at h;exact⟨_,x,⟨.exit j,u,.inr ⟨by simp[d],rfl⟩⟩,h⟩
def aAc{c:G9}{a b:DC}(h:qX (c.ev st.s) (a.wp S ns Q st) (b.wp S ns Q st) .mk):(DC.cond c a b).wp S ns Q st:=by
 unfold qX at h;split at h
 ·rename_i t e;cases t with
  |true=>obtain⟨n,x,u,f⟩:=h.1 rfl;exact⟨n,x,.inl ⟨e,u⟩,f⟩
  |false=>obtain⟨n,x,u,f⟩:=h.2 U;exact⟨n,x,.inr ⟨e,u⟩,f⟩
 ·exact h.elim
def aGx{ops:List DOper}(h:F6 S ns st.c ops ops 0 st.s st.m λk s m=>Q .normal ⟨s,m,st.c+k⟩):(DC.row ops).wp S ns Q st:=by
 obtain⟨r,m',u,f⟩:=E6 _ _ _ _ h;rw[Qu]at f;exact⟨.normal,_,⟨rfl,u,rfl⟩,f⟩
def tD{ops:List DOper}{ps:List (Nat×Nat)}(h:Cp S ns st.c ops ops 0 st.s st.m λk s m f=>As (L3 f ps) (Q .normal ⟨s,m,st.c+k⟩) .mk):(DC.drawn ops ps).wp S ns Q st:=by
 obtain⟨r,m',f,u,y⟩:=DW _ _ _ _ _ h;rw[Qu]at y;exact⟨.normal,_,⟨rfl,⟨f,u,y.1⟩,rfl⟩,y.2⟩
def Wz{i:Nat}{a:DC}:(DC.block i a).wp S ns Q st=a.wp S ns (RY i Q) st:=by
 refine propext ⟨?_,tF⟩;rintro⟨e,st',⟨e1,h1,h2⟩,h⟩;refine⟨e1,st',h1,?_⟩;rcases h2 with ⟨rfl,rfl⟩|⟨g,rfl⟩
 ·grind [Ew]
 ·cases e with
  |normal=>exact h
  |ret=>exact h
  |exit j=>rw[Ew,if_neg (λx=>g (by rw[x]))];exact h
def iP{c:G9}{a b:DC}:(DC.cond c a b).wp S ns Q st=qX (c.ev st.s) (a.wp S ns Q st) (b.wp S ns Q st) .mk:=by
 refine propext ⟨?_,aAc⟩;rintro⟨e,st',u,h2⟩;rcases u with ⟨z,u⟩|⟨z,u⟩
 ·rw[z,L8];exact ZO (λ_=>⟨e,st',u,h2⟩) (λx=>absurd rfl x)
 ·rw[z,L8];exact ZO (λ(x:false=true)=>absurd x V) (λ_=>⟨e,st',u,h2⟩)
def sY{ops:List DOper}:(DC.row ops).wp S ns Q st=F6 S ns st.c ops ops 0 st.s st.m λk s m=>Q .normal ⟨s,m,st.c+k⟩:=by
 refine propext ⟨?_,aGx⟩;rintro⟨e,⟨s',m',c'⟩,⟨rfl,h1,h2⟩,h3⟩;refine Dj _ _ _ _ _ _ h1 ?_;simp only at h2;rw[Qu,←h2];exact h3
def Wy{ops:List DOper}{ps:List (Nat×Nat)}:(DC.drawn ops ps).wp S ns Q st=Cp S ns st.c ops ops 0 st.s st.m λk s m f=>As (L3 f ps) (Q .normal ⟨s,m,st.c+k⟩) .mk:=by
 refine propext ⟨?_,tD⟩;rintro⟨e,⟨s',m',c'⟩,⟨rfl,⟨f,h1,hf⟩,h2⟩,h3⟩;refine Cy _ _ _ _ _ _ _ _ h1 ⟨hf,?_⟩;simp only at h2;rw[Qu,←h2];exact h3
def cV(S:GZ)(ns:Id)(c:DC)(Q:Ex->St->Prop):Ex->St->Prop
 | .normal,st=>(DC.loop c).wp S ns Q st
 |e,st=>Q e st
def Ba(S:GZ)(ns:Id)(c:DC)(Q:Ex->St->Prop)(y:St)(_:Tag (S,ns,c,Q,y)):Prop:=(DC.loop c).wp S ns Q y
def iO{c:DC}:(DC.loop c).wp S ns Q st=Ba S ns c Q st .mk:=rfl
def Vl{c:DC}:cV S ns c Q .normal st=(DC.loop c).wp S ns Q st:=rfl
def vD{c:DC}:cV S ns c Q .ret st=Q .ret st:=rfl
def kH{c:DC}{i:Nat}:cV S ns c Q (.exit i) st=Q (.exit i) st:=rfl
def aAa{c:DC}(h:c.wp S ns (cV S ns c Q) st):(DC.loop c).wp S ns Q st:=by
 obtain⟨e,x,u,h⟩:=h;cases e with
 |normal=>obtain⟨v,p,⟨n,f⟩,h⟩:=h;exact⟨v,p,⟨n+1,.more n _ _ _ _ u f⟩,h⟩
 |ret=>exact⟨.ret,x,⟨0,.stop _ _ _ u U⟩,h⟩
 |exit i=>exact⟨.exit i,x,⟨0,.stop _ _ _ u U⟩,h⟩
def Mc{t:DC}{k:Ex->St->Prop}(h:t.wp S ns Q st)(y:∀e x,Q e x->k e x):t.wp S ns k st:=by
 obtain⟨e,x,u,f⟩:=h;exact⟨e,x,u,y _ _ f⟩
end
def uJ{s:Nat->D}{t z:Nat}{d:D}:CL s (some t) d z=if z=t then d else s z:=rfl
def uK{s:Nat->D}{d:D}:CL s none d=s:=rfl
def bI{s:Nat->D}{n:Nat}:(G9.t n).ev s=s n:=rfl
def bJ{s:Nat->D}{d:D}:(G9.c d).ev s=d:=rfl
end Go.Vd
end
