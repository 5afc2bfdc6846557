/- A part of the proof; nothing in it is assumed. -/
import Derived.Maps.AppendAt
import Derived.RangeFuncOwn
import Derived.Laws.Concat
import Derived.Laws.Unary
import Derived.Laws.Runes
import Derived.Laws.AppendOwnNone
import Derived.Lib.ConvBytes
import Derived.Lib.AppendStr
import Derived.Laws.IdiomStrings

set_option linter.unusedSimpArgs false
set_option linter.unusedVariables false
set_option linter.defProp false
set_option maxHeartbeats 4000000
set_option maxRecDepth 100000
open Option.some renaming injEq→Qa,inj→QK
open Option renaming map_eq_some_iff→Qb,getD_some→QF,map_some→QY,isSome_iff_exists→Zf,bind_eq_some_iff→Zi,bind_some→ZE,map_none→ZG
open List renaming getElem?_eq_getElem→Qc,getElem?_eq_some_iff→Qf,mem_append→Qg,getElem?_map→Qj,getElem?_eq_none→Qk,mem_range→Ql,getElem?_append_left→Qm,mem_cons_self→Qn,length_cons→Qo,getElem?_take_of_lt→Qp,mem_cons_of_mem→Qq,mem_of_getElem?→Qr,map_cons→Qs,range→Qt,mem_map→Qv,getElem?_drop→Qw,mem_of_mem_drop→Qx,all_eq_true→Qy,replicate→Qz,mem_of_mem_take→QC,getElem?_cons_zero→QE,getElem?_append_right→QG,getElem?_toArray→QJ,append_assoc→QL,eq_nil_of_length_eq_zero→QN,range_eq_range'→QR,length_take→QT,extract_eq_take_drop→QV,map_congr_left→QX,length_map→QZ,mem_singleton→Q_,getD→Q0,getElem_mem→Q1,cons_append→Q2,range'_succ→Q3,mem_flatMap→Q5,filter_cons→Q6,extract_toArray→Q7,foldl_cons→Q8,getElem_of_mem→Za,flatMap_cons→Zd,getElem?_cons_succ→Zg,map_nil→Zk,nil_append→Zl,mem_filter→Zm,contains_iff_mem→Zn,drop_drop→Zo,range'→Zp,getElem?_range→Zq,length_take_le→Zr,getElem?_take→Zt,length_append→Zu,size_toArray→Zy,ext_getElem?→Zz,map_toArray→ZB,suffix_cons→ZD,length→ZL,foldlM→ZN
open Prod.mk renaming injEq→Qd
open Array renaming getElem?_eq_some_iff→Qe,getD_eq_getD_getElem?→Qh,toArray_toList→QD,getElem?_append_left→QI,toList_map→QM,length_toList→QW,toList_inj→Q4,replicate→Q9,mapM_eq_mapM_toList→Zc,size_append→Zx,all_eq_true→ZA,range→ZM
open Nat renaming le_refl→Qi,zero_add→Qu,le_trans→QA,mul_le_mul_right→QB,lt_of_lt_of_le→QO,add_mul→QQ,add_right_cancel_iff→Ze,add_zero→Zj,lt_or_ge→Zv,succ_mul→Zw,le_add_right→ZC,zero_le→ZF,strongRecOn→ZI,mod_lt→ZJ,mul_comm→ZK,not_lt→ZO
open Bool renaming false_eq_true→QH,or_eq_true→QP,or_eq_false_iff→QS,and_eq_true→QU,not_false→Zb,not_true→Zs
open Int renaming eq_ofNat_of_zero_le→Zh
open List.cons renaming injEq→ZH
open And renaming intro→ZP
noncomputable section
namespace Go
def O{P:Prop}(h:P:=by omega):P:=h
def U{P:Prop}(h:P:=by simp):P:=h
def V{P:Prop}(h:P:=by decide):P:=h
def Z{P:Prop}(h:P:=by kernel_rfl):P:=h
def Xa{P:Prop}(h:P:=by first|omega|(simp only;omega)):P:=h
def Xb{P:Prop}(h:P:=by simp;omega):P:=h
def Xc{P:Prop}(h:P:=by cases h):P:=h
def Xd{P:Prop}(h:P:=by simp at h):P:=h
def Xe{P:Prop}(h:P:=by first|(simp;done)|(simp;omega)):P:=h
def Xf{P:Prop}(h:P:=by simp only[Tr.wgt];omega):P:=h
def Xg{P:Prop}(h:P:=by simp only[Tr.cnt];omega):P:=h
def Xh{P:Prop}(h:P:=by rw[Hy (by omega) (by omega)];omega):P:=h
def Xi{P:Prop}(h:P:=by cases t<;>rfl):P:=h
def Xj{P:Prop}(h:P:=by simpa using hl):P:=h
def Xk{P:Prop}(h:P:=by decide+kernel):P:=h
def Xl{P:Prop}(h:P:=by simp[Gh.tok]):P:=h
def Xm{P:Prop}(h:P:=by simp[AQ]):P:=h
def Xn{P:Prop}(h:P:=by intro e h;cases h):P:=h
def Xo{P:Prop}(h:P:=by simpa using h):P:=h
def Xp{P:Prop}(h:P:=by unfold maxLen;omega):P:=h
def Xq{P:Prop}(h:P:=by cases c):P:=h
def Xr{P:Prop}(h:P:=by simp[Op.equalIn,run_underlying z]):P:=h
def Xs{P:Prop}(h:P:=by simp only[i];omega):P:=h
def Xt{P:Prop}(h:P:=by simpa using q):P:=h
def Xu{P:Prop}(h:P:=by rw[y];rfl):P:=h
def Xv{P:Prop}(h:P:=by cases e):P:=h
def Xw{P:Prop}(h:P:=by simpa using p):P:=h
def Xx{P:Prop}(h:P:=by rw[List.length_cons,show k+(l.length+1)=k+1+l.length by omega];exact y):P:=h
def Xy{P:Prop}(h:P:=by rw[r.int_inv]):P:=h
def Xz{P:Prop}(h:P:=by first|rfl|simp):P:=h
def XA{P:Prop}(h:P:=by simp[sc0]):P:=h
def XB{P:Prop}(h:P:=by simp[A7]):P:=h
def XC{P:Prop}(h:P:=by simp only[Option.some.injEq]at h;subst h;exact⟨rfl,by simp⟩):P:=h
def XD{P:Prop}(h:P:=by rw[←hA,e1];simp):P:=h
def XE{P:Prop}(h:P:=by rw[List.length_take];omega):P:=h
def XF{P:Prop}(h:P:=by rw[AP];omega):P:=h
def XG{P:Prop}(h:P:=by cases q):P:=h
def XH{P:Prop}(h:P:=by cases l<;>rfl):P:=h
def XI{P:Prop}(h:P:=by cases h;rfl):P:=h
def XJ{P:Prop}(h:P:=by simpa using w):P:=h
def XK{P:Prop}(h:P:=by simpa using c):P:=h
def XL{P:Prop}(h:P:=by simp[flat]):P:=h
def XN{P:Prop}(h:P:=by rw[BN,AY];exact⟨rfl,hl⟩):P:=h
def XO{P:Prop}(h:P:=by simpa[D.calm,D.calm1]using z):P:=h
def XP{P:Prop}(h:P:=by simpa using z):P:=h
def XQ{P:Prop}(h:P:=by simpa using y):P:=h
def XS{P:Prop}(h:P:=by simpa using u):P:=h
def XT{P:Prop}(h:P:=by simpa using s):P:=h
def XU{P:Prop}(h:P:=by simpa using b):P:=h
def XV{P:Prop}(h:P:=by simp[Ha.put]):P:=h
def XX{P:Prop}(h:P:=by simp[Gh.base]at h):P:=h
def XY{P:Prop}(h:P:=by simp[ByteArray.size]):P:=h
def XZ{P:Prop}(h:P:=by simp only[FB];decide):P:=h
def X0{P:Prop}(h:P:=by simp only[AA,Ax];rw[CE]):P:=h
def X1{P:Prop}(h:P:=by show(2:Int)≠3;decide):P:=h
def X2{P:Prop}(h:P:=by show(1:Int)≠3;decide):P:=h
def X3{P:Prop}(h:P:=by show _=_;rw[←HI.out,d.out]):P:=h
def X4{P:Prop}(h:P:=by rw[←hB,e2]):P:=h
def X5{P:Prop}(h:P:=by rw[show l.length=j by omega];exact I):P:=h
def X6{P:Prop}(h:P:=by rw[e];exact hd):P:=h
def X7{P:Prop}(h:P:=by rw[List.length_drop];omega):P:=h
def X8{P:Prop}(h:P:=by rw[List.all_eq_true];intro x q;obtain⟨y,_,rfl⟩:=List.mem_map.1 q;rfl):P:=h
def X9{P:Prop}(h:P:=by funext j;simp[below]):P:=h
def X_{P:Prop}(h:P:=by first|exact hG.more (by simp only;omega)|exact hG.put.more (by simp only;omega)|exact hG.put.put.more (by simp only;omega)|exact hG.put.put.put.more (by simp only;omega)|exact hG.put.put.put.put.more (by simp only;omega)|exact hG.put.put.put.put.put.more (by simp only;omega)):P:=h
def Ya{P:Prop}(h:P:=by unfold AR;split<;>omega):P:=h
def Yb{P:Prop}(h:P:=by subst u y;exact h):P:=h
def Yc{P:Prop}(h:P:=by simp[zE,P4,Oc.op,He]):P:=h
def Yd{P:Prop}(h:P:=by simp[execOp,hop,e1]):P:=h
def Ye{P:Prop}(h:P:=by simp[World.setRow]):P:=h
def Yf{P:Prop}(h:P:=by simp[World.cell?,F0]):P:=h
def Yg{P:Prop}(h:P:=by simp[MM,P4,Oc.op,He]):P:=h
def Yh{P:Prop}(h:P:=by simp[Builtin.lenOf]):P:=h
def Yi{P:Prop}(h:P:=by simp only[];rw[Ed,if_pos ⟨rfl,rfl⟩]):P:=h
def Yj{P:Prop}(h:P:=by show _=_;rw[←HI.out,d.out];simp):P:=h
def Yk{P:Prop}(h:P:=by rw[la];exact h.size):P:=h
def Yl{P:Prop}(h:P:=by rw[la];exact h.below.size):P:=h
def Ym{P:Prop}(h:P:=by rw[e];exact List.suffix_refl _):P:=h
def Yn{P:Prop}(h:P:=by rw[e];exact List.suffix_cons _ _):P:=h
def Yo{P:Prop}(h:P:=by rw[Tr.get_lst _ _ g];exact Tr.getL_mem g q):P:=h
def Yp{P:Prop}(h:P:=by rw[List.all_cons,Dd];rfl):P:=h
def Yq{P:Prop}(h:P:=by rw[IntWalk.i64_in _ ⟨by omega,by omega⟩];simp):P:=h
def Yr{P:Prop}(h:P:=by rw[Bool.eq_iff_iff];simp;omega):P:=h
def Ys{P:Prop}(h:P:=by have:=x.ok.pa;omega):P:=h
def Yt{P:Prop}(h:P:=by have:=ha.ok.tk;omega):P:=h
def Yu{P:Prop}(h:P:=by have:=ha.ok.rl;omega):P:=h
def Yv{P:Prop}(h:P:=by have:=h.size;simp;omega):P:=h
def Yw{P:Prop}(h:P:=by have:=h.1;have:=h.2;omega):P:=h
def Yx{P:Prop}(h:P:=by first|exact hG.grow|exact(hG.put (by omega)).grow|exact((hG.put (by omega)).put (by omega)).grow|exact(((hG.put (by omega)).put (by omega)).put (by omega)).grow|exact((((hG.put (by omega)).put (by omega)).put (by omega)).put (by omega)).grow|exact(((((hG.put (by omega)).put (by omega)).put (by omega)).put (by omega)).put (by omega)).grow):P:=h
def Yy{P:Prop}(h:P:=by first|exact hG.grow|exact hG.put.grow|exact hG.put.put.grow|exact hG.put.put.put.grow|exact hG.put.put.put.put.grow|exact hG.put.put.put.put.put.grow):P:=h
def Yz{P:Prop}(h:P:=by unfold EG;rw[List.length_append,List.length_take,List.length_drop];omega):P:=h
def YA{P:Prop}(h:P:=by simpa using (List.mem_filter.1 q).2):P:=h
def YB{P:Prop}(h:P:=by simp[List.map_map,Function.comp_def]):P:=h
def YC{P:Prop}(h:P:=by simp[IntKind.wrap,IntKind.bits,IntKind.signed]):P:=h
def YD{P:Prop}(h:P:=by simp[AV,AF,Hu,Ai,Ac,Hd.ev,Cq,h7,na,ga]):P:=h
def YE{P:Prop}(h:P:=by simp only[↓C2,reduceIte,Nat.reduceEqDiff,x]):P:=h
def YF{P:Prop}(h:P:=by simp only[lL,D.dep.D.depL,D.dep,Li];omega):P:=h
def YG{P:Prop}(h:P:=by simp only[List.length_singleton];omega):P:=h
def YH{P:Prop}(h:P:=by simp only[List.length_cons]at h;omega):P:=h
def YI{P:Prop}(h:P:=by simp only[List.length_cons,List.length_nil];omega):P:=h
def YJ{P:Prop}(h:P:=by simp only[List.length_append,List.length_cons,List.length_nil];omega):P:=h
def YK{P:Prop}(h:P:=by simp only[List.length_append,Cp,PV];omega):P:=h
def YL{P:Prop}(h:P:=by show(0:Int)<=((OX (BW x 58).2.1).1:Int);omega):P:=h
def YM{P:Prop}(h:P:=by show o.ops.length<=_;rw[q.ops];simp):P:=h
def YN{P:Prop}(h:P:=by rw[List.length_take,List.length_drop];omega):P:=h
def YO{P:Prop}(h:P:=by rw[List.eq_of_mem_replicate hd];exact f):P:=h
def YP{P:Prop}(h:P:=by rw[List.append_assoc];exact Pd (by decide)):P:=h
def YQ{P:Prop}(h:P:=by rw[List.append_assoc,List.append_assoc,Lw,dF ht,hb]):P:=h
def YR{P:Prop}(h:P:=by rw[IntWalk.i64_in _ ⟨by omega,by omega⟩];omega):P:=h
def YS{P:Prop}(h:P:=by rw[CX,EN];have:=h7 (by omega);omega):P:=h
def YT{P:Prop}(h:P:=by rw[CX,EN];have:=e (by omega);omega):P:=h
def YU{P:Prop}(h:P:=by rw[As,List.map_map];exact List.map_congr_left λ_ _=>rfl):P:=h
def YV{P:Prop}(h:P:=by rintro rfl;rw[hf.1 0]at hm;cases hm):P:=h
def YW{P:Prop}(h:P:=by rcases j with ⟨_,k',rfl⟩|⟨_,rfl⟩|⟨_,rfl⟩<;>rfl):P:=h
def YX{P:Prop}(h:P:=by obtain⟨z,_,rfl⟩:=List.mem_map.1 q;rfl):P:=h
def YY{P:Prop}(h:P:=by have:=congrArg List.length h;simpa using this):P:=h
def YZ{P:Prop}(h:P:=by have:=(six[k]?.getD 0).toNat_lt;omega):P:=h
def Y0{P:Prop}(h:P:=by first|exact(hG.put.put.row (by omega) ht).grow|exact((hG.put.put.row (by omega) ht).put).grow):P:=h
def Y1{P:Prop}(h:P:=by first|exact(hG.put.put.row (by omega) ht).app (by omega) (by simp only;omega)|exact((hG.put.put.row (by omega) ht).put).app (by omega) (by simp only;omega)):P:=h
def Y2{P:Prop}(h:P:=by first|exact hG.app (by omega) (by simp only;omega)|exact(hG.put (by omega)).app (by omega) (by simp only;omega)|exact((hG.put (by omega)).put (by omega)).app (by omega) (by simp only;omega)|exact(((hG.put (by omega)).put (by omega)).put (by omega)).app (by omega) (by simp only;omega)|exact((((hG.put (by omega)).put (by omega)).put (by omega)).put (by omega)).app (by omega) (by simp only;omega)|exact(((((hG.put (by omega)).put (by omega)).put (by omega)).put (by omega)).put (by omega)).app (by omega) (by simp only;omega)):P:=h
def Y3{P:Prop}(h:P:=by first|exact hG.app (by omega) (by simp only;omega)|exact hG.put.app (by omega) (by simp only;omega)|exact hG.put.put.app (by omega) (by simp only;omega)|exact hG.put.put.put.app (by omega) (by simp only;omega)|exact hG.put.put.put.put.app (by omega) (by simp only;omega)|exact hG.put.put.put.put.put.app (by omega) (by simp only;omega)):P:=h
def Y4{P:Prop}(h:P:=by cases y<;>exact⟨_,_,_,_,_,_,_,_,_,_,rfl⟩):P:=h
def Y5{P:Prop}(h:P:=by cases l with|nil=>exact absurd rfl ga|cons a b=>simp):P:=h
def Y6{P:Prop}(h:P:=by first|rfl|exact⟨rfl,rfl⟩|simp[*]):P:=h
def Y7{P:Prop}(h:P:=by first|rfl|exact⟨rfl,rfl⟩):P:=h
def Y8{P:Prop}(h:P:=by first|exact(F7.set ((hR.other (by first|(simp;done)|(simp;omega))).other (by first|(simp;done)|(simp;omega)))).grow (by first|(simp;done)|(simp;omega)) (λh e=>ht h e.symm)|exact((F7.set ((hR.other (by first|(simp;done)|(simp;omega))).other (by first|(simp;done)|(simp;omega)))).other (by first|(simp;done)|(simp;omega))).grow (by first|(simp;done)|(simp;omega)) (λh e=>ht h e.symm)):P:=h
def Y9{P:Prop}(h:P:=by first|(simp at h;done)|(rw[Option.map_eq_some_iff]at h;obtain⟨_,_,h⟩:=h;cases h)):P:=h
def Y_{P:Prop}(h:P:=by exact⟨rfl,rfl⟩):P:=h
end Go
namespace Go.Vd
open Go.RowKit
abbrev Id:=List Nat
inductive D where
 |junk
 |bool (b:Bool)
 |int (k:IntKind) (n:Int)
 |str (s:List UInt8)
 |slice (nl:Bool) (t:Id) (xs:List D)
 |ptr (i:Id) (o:Nat)
 |eptr (ds:List D)
 |row (i:Id) (n:Nat)
 |nilptr
 |agg (cs:List D)
 |tup (vs:List D)
 |iface (t:TypeId) (d:D)
 |nilIface
 |fn (f:FuncId) (caps:List D)
 |nilFunc
 |nilMap
 |tok (e:Nat)
 |it (s:List UInt8) (p:Nat)
 |itp (i:Id)
instance:Inhabited D:=⟨.junk⟩
def D.leaf:D->Bool
 | .agg _| .tup _| .junk| .tok _| .it _ _=>false
 |_=>true
def D.gh:D->Bool
 | .tok _| .it _ _=>true
 |_=>false
def D.isRw:D->Bool
 | .nilIface| .str []=>true
 |_=>false
def D.cells:D->List D
 | .agg cs=>cs
 |d=>[d]
def D.un1:D->D
 | .slice nl _ xs=> .slice nl [] xs
 |d=>d
def D.un:D->D
 | .agg cs=> .agg (cs.map D.un1)
 | .slice nl _ xs=> .slice nl [] xs
 |d=>d
def D.calm1:D->Bool
 | .slice _ t _=>t.isEmpty
 | .ptr _ _| .row _ _| .itp _| .it _ _=>false
 | .fn _ cs=>cs.isEmpty
 | .agg _| .tup _=>false
 |_=>true
def D.calm:D->Bool
 | .agg cs=>cs.all D.calm1
 |d=>d.calm1
def flat:List D->List D
 |[]=>[]
 |x::xs=>x.cells++flat xs
structure Gh where
 G:Nat->Nat
 G0:Nat->Nat
 dl:Id->Option Nat
 tb:Id->Option (Nat×Nat×Nat×Nat)
inductive Rep (w:World) (g:Gh):D->Value->Prop
 |junk (v:Value):Rep w g .junk v
 |bool (b:Bool):Rep w g (.bool b) (.bool b)
 |int (k:IntKind) (n:Int):Rep w g (.int k n) (.int k n)
 |str (s:List UInt8):Rep w g (.str s) (.string ⟨s.toArray⟩)
 |nils (t:Id):Rep w g (.slice true t []) (.slice none 0 0)
 |slice (t:Id) (xs:List D) (a:Addr) (n c sz:Nat) (vv:Nat->Value):
   n=xs.length->n<=c->(∀d∈xs,d.cells.length=sz)->
   (∀j,j<n*sz->w.cell? (a.add j)=some (vv j))->
   (∀j,j<n*sz->(vv j).oneCell'=true)->
   (∀(j:Nat) d,(flat xs)[j]?=some d->Rep w g d (vv j))->
   (0<n*sz->a.off+n*sz<=g.G a.block)->
   (t≠[]->a.off=0∧a.spot=none∧g.tb t=some (a.block,n,c,sz))->(∀d∈xs,d.calm=true)->
   Rep w g (.slice false t xs) (.slice (some a) n c)
 |ptr (i:Id) (o b:Nat):g.dl i=some b->Rep w g (.ptr i o) (.pointer (some ⟨b,o,none⟩))
 |row (i:Id) (n c b:Nat):n<=c->g.dl i=some b->Rep w g (.row i n) (.slice (some ⟨b,0,none⟩) n c)
 |eptr (ds:List D) (a:Addr) (vv:Nat->Value):
   (∀j,j<ds.length->w.cell? (a.add j)=some (vv j))->
   (∀j,j<ds.length->(vv j).oneCell'=true)->
   (∀(j:Nat) d,ds[j]?=some d->Rep w g d (vv j))->
   (0<ds.length->a.off+ds.length<=g.G a.block)->(∀d∈ds,d.calm=true)->
   Rep w g (.eptr ds) (.pointer (some a))
 |nilp:Rep w g .nilptr (.pointer none)
 |agg (ds:List D) (vs:List Value):vs.length=ds.length->(∀v∈vs,v.oneCell'=true)->
   (∀(j:Nat) d v,ds[j]?=some d->vs[j]?=some v->Rep w g d v)->Rep w g (.agg ds) (.agg vs.toArray)
 |tup (ds:List D) (vs:List Value):vs.length=ds.length->
   (∀(j:Nat) d v,ds[j]?=some d->vs[j]?=some v->Rep w g d v)->Rep w g (.tup ds) (.tuple vs.toArray)
 |iface (t:TypeId) (d:D) (v:Value):d.calm=true->Rep w g d v->Rep w g (.iface t d) (.iface t v)
 |nili:Rep w g .nilIface .nilIface
 |fn (f:FuncId) (ds:List D) (vs:List Value):vs.length=ds.length->
   (∀(j:Nat) d v,ds[j]?=some d->vs[j]?=some v->Rep w g d v)->Rep w g (.fn f ds) (.func (.func f) #[] vs.toArray)
 |nilf:Rep w g .nilFunc .nilFunc
 |nilm:Rep w g .nilMap (.map none)
 |itp (i:Id) (b:Nat):g.tb i=some (b,0,0,0)->Rep w g (.itp i) (.pointer (some ⟨b,0,none⟩))
structure Hr (w:World) (g:Gh) (w':World) (g':Gh):Prop where
 cell:∀p:Addr,p.off<g.G p.block->w'.cell? p=w.cell? p
 G:∀b,g.G b<=g'.G b
 dl:∀i b,g.dl i=some b->g'.dl i=some b
 G0:g'.G0=g.G0
 tb:∀i x,g.tb i=some x->g'.tb i=some x
 size:w.heap.size<=w'.heap.size
 dln:∀i b,g'.dl i=some b->(∃j,g.dl j=some b)∨w.heap.size<=b
 tbn:∀i x,g'.tb i=some x->(∃j y,g.tb j=some y∧y.1=x.1)∨w.heap.size<=x.1
 unt:∀(k:Nat)(o:Obj),w.heap[k]?=some o->(∀i,g.dl i≠some k)->(∀i x,g.tb i=some x->x.1≠k)->w'.heap[k]?=some o
def Hr.refl(w:World)(g:Gh):Hr w g w g:=⟨λ_ _=>rfl,λ_=>Qi _,λ_ _ h=>h,rfl,λ_ _ h=>h,Qi _,λi _ h=> .inl ⟨i,h⟩,λi x h=> .inl ⟨i,x,h,rfl⟩,λ_ _ h _ _=>h⟩
theorem Hr.trans {w m t : World} {g n f : Gh} (h : Hr w g m n) (k : Hr m n t f) : Hr w g t f :=
 ⟨fun p c => (k.cell p (QO c (h.G _))).trans (h.cell p c), fun b => QA (h.G b) (k.G b),
  fun i b hi => k.dl i b (h.dl i b hi), k.G0.trans h.G0, fun i x hi => k.tb i x (h.tb i x hi), QA h.size k.size,
  fun i b hi => (k.dln i b hi).elim (fun ⟨j, q⟩ => h.dln j b q) (fun e => .inr (QA h.size e)),
  fun i x hi => (k.tbn i x hi).elim (fun ⟨j, y, q, e⟩ => (h.tbn j y q).elim (fun ⟨j', y', sa, a⟩ => .inl ⟨j', y', sa, a.trans e⟩) (fun a => .inr (e ▸ a))) (fun e => .inr (QA h.size e)),
  fun j o q s u => k.unt j o (h.unt j o q s u) (fun i e => (h.dln i j e).elim (fun ⟨j', h'⟩ => s j' h') (fun a => absurd (Qe.1 q).1 (ZO.2 a)))
   (fun i x e v => (h.tbn i x e).elim (fun ⟨j', y, r, z⟩ => u j' y r (z.trans v)) (fun a => absurd (Qe.1 q).1 (ZO.2 (v ▸ a))))⟩
def CX(a:Addr)(j:Nat):(a.add j).block=a.block:=by unfold Addr.add;split<;>rfl
def EN(a:Addr)(j:Nat):(a.add j).off=a.off+j:=by unfold Addr.add;split<;>simp_all
theorem VN(a:Addr)(i j:Nat):(a.add i).add j=a.add (i+j):=by
 unfold Addr.add;by_cases hi:i=0<;>by_cases q:j=0<;>simp[hi,q,Nat.add_assoc]
def Rep.ext{w w':World}{g g':Gh}{d:D}{v:Value}(h:Rep w g d v)(x:Hr w g w' g'):Rep w' g' d v:=by
 induction h with
 |junk v=>exact .junk v
 |bool b=>exact .bool b
 |int k n=>exact .int k n
 |str s=>exact .str s
 |nils t=>exact .nils t
 |slice t xs a n c sz vv u y h3 e h5 _ h7 h8 z ih=>
  refine .slice t xs a n c sz vv u y h3 (λj hj=>?_) h5 ih (λh=>QA (h7 h) (x.G _)) (λht=>?_) z
  ·rw[x.cell _ YS];exact e j hj
  ·obtain⟨p,q,r⟩:=h8 ht;exact⟨p,q,x.tb _ _ r⟩
 |ptr i o b u=>exact .ptr i o b (x.dl _ _ u)
 |row i n c b m u=>exact .row i n c b m (x.dl _ _ u)
 |eptr ds a vv u y _ e h5 ih=>
  refine .eptr ds a vv (λj hj=>?_) y ih (λh=>QA (e h) (x.G _)) h5;rw[x.cell _ YT];exact u j hj
 |nilp=>exact .nilp
 |agg ds vs u y _ ih=>exact .agg ds vs u y ih
 |tup ds vs u _ ih=>exact .tup ds vs u ih
 |iface t d v u _ ih=>exact .iface t d v u ih
 |nili=>exact .nili
 |fn f ds vs u _ ih=>exact .fn f ds vs u ih
 |nilf=>exact .nilf
 |nilm=>exact .nilm
 |itp i b u=>exact .itp i b (x.tb _ _ u)
def Rep.leaf_one{w:World}{g:Gh}{d:D}{v:Value}(h:Rep w g d v)(hl:d.leaf=true):v.oneCell'=true:=by
 cases h<;>simp_all [D.leaf,Value.oneCell']
abbrev Ha:=Id->Nat->Option D
def sI(B:Nat)(m:Ha)(w:World)(g:Gh):Prop:=
 (∀i s p,m i 1=some (.it s p)->∃b,g.tb i=some (b,0,0,0)∧B<=b∧w.heap[b]?=some (.stringIter ⟨s.toArray⟩ p)∧g.G b=0∧∀f,g.dl f≠some b)∧
 ∀i f s p v k b x t,m i 1=some (.it s p)->m f 1=some (.it v k)->g.tb i=some (b,x)->g.tb f=some (b,t)->i=f
theorem sI.to {B : Nat} {m m' : Ha} {w k : World} {g q : Gh} (h : sI B m w g) (j : ∀ i s p, m' i 1 = some (.it s p) → m i 1 = some (.it s p))
  (o : ∀ i b s p, m i 1 = some (.it s p) → g.tb i = some (b, 0, 0, 0) → B ≤ b → w.heap[b]? = some (.stringIter ⟨s.toArray⟩ p) → g.G b = 0 → (∀ f, g.dl f ≠ some b) →
   q.tb i = g.tb i ∧ k.heap[b]? = w.heap[b]? ∧ q.G b = 0 ∧ ∀ f, q.dl f ≠ some b) : sI B m' k q := by
 refine ⟨fun i s p hi => ?_, fun i f s p v p' b x x' u y a e => ?_⟩
 ·obtain ⟨b, z, t, t3, t4, t5⟩ := h.1 i s p (j _ _ _ hi)
  obtain ⟨n, r, q3, q4⟩ := o i b s p (j _ _ _ hi) z t t3 t4 t5
  exact ⟨b, n.trans z, t, r.trans t3, q3, q4⟩
 ·obtain ⟨c, z, t, t3, t4, t5⟩ := h.1 i s p (j _ _ _ u)
  obtain ⟨c', u1, u2, u3, u4, u5⟩ := h.1 f v p' (j _ _ _ y)
  rw [(o i c s p (j _ _ _ u) z t t3 t4 t5).1] at a
  rw [(o f c' v p' (j _ _ _ y) u1 u2 u3 u4 u5).1] at e
  exact h.2 i f s p v p' b x x' (j _ _ _ u) (j _ _ _ y) a e
structure Hi (P:Program) (B:Nat) (w0:World) (m:Ha) (w:World) (g:Gh):Prop where
 below:Below B w0 w
 size:B<=w.heap.size
 gz:∀b,w.heap.size<=b->g.G b=0
 old:∀b,b<B->g.G b=g.G0 b
 obj:∀i b,g.dl i=some b->B<=b∧g.G b=0∧∃vs T,w.heap[b]?=some (.cells vs T (0,0))∧
  ∀o d,m i o=some d->∃v,vs[o]?=some v∧v.oneCell'=true∧Rep w g d v
 inj:∀i i' b,g.dl i=some b->g.dl i'=some b->i=i'
 kind:∀i o d,m i o=some d->g.dl i=none->d.gh=true
 tok:∀i e,m i 0=some (.tok (e+1))->∃b n c sz cur,g.tb i=some (b,n,c,sz)∧B<=b∧0<sz∧
  (∃t z,P.info? e=some t∧t.size=sz∧t.zero=some z∧z.cells.size=sz)∧
  w.heap[b]?=some (.cells cur e (0,0))∧n<=c∧c<=maxLen∧cur.size=c*sz∧g.G b=n*sz∧∀i',g.dl i'≠some b
 tinj:∀i i' e e' b x x',m i 0=some (.tok (e+1))->m i' 0=some (.tok (e'+1))->g.tb i=some (b,x)->g.tb i'=some (b,x')->i=i'
 itr:sI B m w g
def B0(m:Ha)(g:Gh)(i:Id):Prop:=(∀o,m i o=none)∧g.dl i=none∧g.tb i=none
def Ha.put(m:Ha)(i:Id)(o:Nat)(ds:List D):Ha:=λf o'=>if f=i∧o<=o'∧o'<o+ds.length then ds[o'-o]? else m f o'
theorem aA{m:Ha}{i f:Id}{o o':Nat}{ds:List D}(h:f≠i):m.put i o ds f o'=m f o':=by simp[Ha.put,h]
def aD{m:Ha}{i:Id}{o j:Nat}{ds:List D}(h:j<ds.length):m.put i o ds i (o+j)=ds[j]?:=by
 grind [Ha.put]
theorem aC{m:Ha}{i:Id}{o o':Nat}{ds:List D}(h:¬(o<=o'∧o'<o+ds.length)):m.put i o ds i o'=m i o':=by
 grind [Ha.put]
def AX(w:World)(g:Gh)(ds:List D)(vs:List Value):Prop:=
 vs.length=ds.length∧(∀v∈vs,v.oneCell'=true)∧∀(j:Nat) d v,ds[j]?=some d->vs[j]?=some v->Rep w g d v
def AX.ext{w k:World}{g q:Gh}{ds:List D}{vs:List Value}(h:AX w g ds vs)(x:Hr w g k q):AX k q ds vs:=
 ⟨h.1,h.2.1,λj d v p m=>(h.2.2 j d v p m).ext x⟩
def AX.no_it{w:World}{g:Gh}{ds:List D}{vs:List Value}(h:AX w g ds vs){j:Nat}{s:List UInt8}{p:Nat}(q:ds[j]?=some (.it s p)):False:=by
 have hl:j<vs.length:=by rw[h.1];exact(Qf.1 q).1
 have:=h.2.2 j _ vs[j] q (Qc hl);cases this
def aAL{w:World}{g:Gh}{m:Ha}{ds:List D}{vs:List Value}(h:AX w g ds vs){i f:Id}{o:Nat}{s:List UInt8}{p:Nat}(q:m.put i o ds f 1=some (.it s p)):m f 1=some (.it s p)∧(f=i->¬(o<=1∧1<o+ds.length)):=by
 unfold Ha.put at q;split at q
 ·exact(h.no_it q).elim
 ·simp_all
theorem AX.nil(w:World)(g:Gh):AX w g [] []:=⟨rfl,U,U⟩
def AX.one{w:World}{g:Gh}{d:D}{v:Value}(h:Rep w g d v)(hl:v.oneCell'=true):AX w g [d] [v]:=by
 refine⟨rfl,Xj,λj n f p m=>?_⟩;cases j with
 |zero=>simp at p m;subst p m;exact h
 |succ j=>simp at p
def AX.append{w:World}{g:Gh}{ds c:List D}{vs m:List Value}(h:AX w g ds vs)(k:AX w g c m):AX w g (ds++c) (vs++m):=by
 refine⟨by simp[h.1,k.1],λv hv=>?_,λj d v p hv=>?_⟩
 ·rcases Qg.1 hv with hv|hv
  ·exact h.2.1 v hv
  ·exact k.2.1 v hv
 ·by_cases q:j<ds.length
  ·rw[Qm q]at p;rw[Qm (by rw[h.1];exact q)]at hv;exact h.2.2 j d v p hv
  ·rw[QG O]at p;rw[QG (by rw[h.1];omega),h.1]at hv;exact k.2.2 _ d v p hv
section
variable{P:Program}{B:Nat}{w0 w w':World}{m:Ha}{g g':Gh}
def Hi.lt(h:Hi P B w0 m w g){i:Id}{b:Nat}(o:g.dl i=some b):b<w.heap.size:=by
 obtain⟨_,_,vs,T,v,_⟩:=h.obj i b o;exact(Qe.1 v).1
def Gh.over(g:Gh)(w m:World):Gh:=
 {g with G:=λb=>if b<w.heap.size then g.G b else match m.heap[b]? with|some (.cells c _ _)=>c.size|_=>0}
def Hr.over(j:∀b,w.heap.size<=b->g.G b=0)(f:Below w.heap.size w w'):Hr w g w' (g.over w w'):=by
 refine⟨λp c=>?_,λb=>?_,λi b h=>h,rfl,λi x h=>h,f.size,λi _ h=> .inl ⟨i,h⟩,λi x h=> .inl ⟨i,x,h,rfl⟩,λk o s _ _=>(f.block k (Qe.1 s).1).trans s⟩
 ·by_cases u:p.block<w.heap.size
  ·exact f.cell u
  ·simp_all
 ·grind [Gh.over]
def Hi.over(h:Hi P B w0 m w g)(f:Below w.heap.size w w'):Hi P B w0 m w' (g.over w w'):=by
 have x:=Hr.over h.gz f;refine⟨h.below.trans (f.mono h.size),QA h.size f.size,λb a=>?_,λb u=>by simp only[Gh.over];rw[if_pos (QO u h.size)];exact h.old b u,λi b hi=>?_,h.inj,h.kind,λi e hi=>?_,h.tinj,h.itr.to (λ_ _ _ e=>e) λi b s p _ _ _ t y e3=>?_⟩
 rotate_right
 ·have u:b<w.heap.size:=(Qe.1 t).1;exact⟨rfl,f.block b u,by simp[Gh.over,u,y],e3⟩
 ·simp only[Gh.over];rw[if_neg (by have:=f.size;omega),Array.getElem?_eq_none a]
 ·obtain⟨p,q,vs,T,z,r⟩:=h.obj i b hi;have u:=h.lt hi;refine⟨p,by simp[Gh.over,u,q],vs,T,(f.block b u).trans z,λo d j=>?_⟩;obtain⟨v,k,r2,r3⟩:=r o d j;exact⟨v,k,r2,r3.ext x⟩
 ·obtain⟨b,n,c,sz,cur,t1,t2,t3,t4,t5,t6,t7,t8,t9,ya⟩:=h.tok i e hi;have u:b<w.heap.size:=(Qe.1 t5).1;exact⟨b,n,c,sz,cur,t1,t2,t3,t4,(f.block b u).trans t5,t6,t7,t8,by simp[Gh.over,u,t9],ya⟩
def Hi.drew(h:Hi P B w0 m w g):Hi P B w0 m w.drew g:=by
 have x:Hr w g w.drew g:=⟨λ_ _=>rfl,λ_=>Qi _,λ_ _ h=>h,rfl,λ_ _ h=>h,Qi _,λi _ h=> .inl ⟨i,h⟩,λi x h=> .inl ⟨i,x,h,rfl⟩,λ_ _ h _ _=>h⟩;refine⟨h.below.drew,h.size,h.gz,h.old,λi b hi=>?_,h.inj,h.kind,λi e hi=>?_,h.tinj,h.itr.to (λ_ _ _ e=>e) λi b s p _ _ _ n y a=>⟨rfl,rfl,y,a⟩⟩
 ·obtain⟨p,q,vs,T,z,r⟩:=h.obj i b hi;exact⟨p,q,vs,T,z,λo d j=>let⟨v,r1,r2,r3⟩:=r o d j;⟨v,r1,r2,r3.ext x⟩⟩
 ·exact h.tok i e hi
def Hr.drew(w:World)(g:Gh):Hr w g w.drew g:=⟨λ_ _=>rfl,λ_=>Qi _,λ_ _ h=>h,rfl,λ_ _ h=>h,Qi _,λi _ h=> .inl ⟨i,h⟩,λi x h=> .inl ⟨i,x,h,rfl⟩,λ_ _ h _ _=>h⟩
def Gh.obj(g:Gh)(i:Id)(b:Nat):Gh:={g with dl:=λf=>if f=i then some b else g.dl f}
def Hr.newObj{i:Id}(o:Obj)(j:∀b,w.heap.size<=b->g.G b=0)(a:g.dl i=none):Hr w g (w.alloc o) (g.obj i w.heap.size):=by
 refine⟨λp c=>?_,λb=>Qi _,λf b h=>?_,rfl,λi x h=>h,U,λf b h=>?_,λi x h=> .inl ⟨i,x,h,rfl⟩,λk o' s _ _=>(Below.heap_alloc w o k (Qe.1 s).1).trans s⟩
 rotate_right
 ·simp only[Gh.obj]at h;split at h
  ·simp only[Qa]at h;exact .inr O
  ·exact .inl ⟨f,h⟩
 ·by_cases u:p.block<w.heap.size
  ·exact World.cell?_alloc_lt w o p u
  ·simp_all
 ·grind [Gh.obj]
def Hi.newObj(h:Hi P B w0 m w g){i:Id}(hf:B0 m g i){ds:List D}{vs:List Value}(T:TypeId)(z:AX w g ds vs):
  Hi P B w0 (m.put i 0 ds) (w.alloc (.cells vs.toArray T)) (g.obj i w.heap.size):=by
 have x:=Hr.newObj (i:=i) (Obj.cells vs.toArray T) h.gz hf.2.1;have ne:∀i' b,g.dl i'=some b->i'≠i:=λi' b k e=>by subst e;rw[hf.2.1]at k;cases k
 refine⟨h.below.alloc h.size _,Yv,λb k=>h.gz b (by simp at k;omega),h.old,λi' b hi=>?_,λi1 i2 b u f=>?_,λi' o d hm t=>?_,λi' e hi=>?_,λi1 i2 e e' b y y' u f a h4=>?_,h.itr.to (λi' s p e=>(aAL z e).1) λi' b s p _ _ _ e1 e2 e3=>?_⟩
 rotate_right
 ·have da:b<w.heap.size:=(Qe.1 e1).1;refine⟨rfl,Below.heap_alloc w _ b da,e2,λi1 u=>?_⟩;simp only[Gh.obj]at u;split at u
  ·simp_all
  ·exact e3 i1 u
 ·simp only[Gh.obj]at hi;split at hi
  ·rename_i e;subst e;simp only[Qa]at hi;subst hi;refine⟨h.size,h.gz _ (Qi _),vs.toArray,T,heap_alloc_new w _,λo d hm=>?_⟩;by_cases ho:o<ds.length
   ·have j:m.put i' 0 ds i' (0+o)=ds[o]?:=aD ho;rw[Qu]at j;rw[j]at hm;have hv:o<vs.length:=by rw[z.1];exact ho
    refine⟨vs[o],by simp[hv],z.2.1 _ (Q1 hv),?_⟩;exact(z.2.2 o d vs[o] hm (Qc hv)).ext x
   ·rw[aC O,hf.1 o]at hm;cases hm
  ·rename_i ga;obtain⟨p,q,bb,T',hh,r⟩:=h.obj i' b hi;refine⟨p,q,bb,T',(Below.heap_alloc w _ b (h.lt hi)).trans hh,λo d hm=>?_⟩;rw[aA ga]at hm;obtain⟨v,r1,r2,r3⟩:=r o d hm;exact⟨v,r1,r2,r3.ext x⟩
 ·simp only[Gh.obj]at u f;split at u<;>split at f
  ·simp_all
  ·simp only[Qa]at u;subst u;have:=h.lt f;omega
  ·simp only[Qa]at f;subst f;have:=h.lt u;omega
  ·exact h.inj _ _ _ u f
 ·simp only[Gh.obj]at t;split at t
  ·cases t
  ·rename_i ga;rw[aA ga]at hm;exact h.kind _ _ _ hm t
 ·by_cases ga:i'=i
  ·subst ga;by_cases ho:0<ds.length
   ·have j:m.put i' 0 ds i' (0+0)=ds[0]?:=aD ho;rw[Zj]at j;rw[j]at hi;have hv:0<vs.length:=by rw[z.1];exact ho
    have:=z.2.2 0 _ vs[0] hi (Qc hv);cases this
   ·rw[aC O,hf.1 0]at hi;cases hi
  ·rw[aA ga]at hi;obtain⟨b,n,c,sz,cur,t1,t2,t3,t4,t5,t6,t7,t8,t9,ya⟩:=h.tok i' e hi;have da:b<w.heap.size:=(Qe.1 t5).1;refine⟨b,n,c,sz,cur,t1,t2,t3,t4,(Below.heap_alloc w _ b da).trans t5,t6,t7,t8,t9,λi1 u=>?_⟩;simp only[Gh.obj]at u;split at u
   ·simp_all
   ·exact ya i1 u
 ·have nt:∀e,m.put i 0 ds i 0≠some (.tok (e+1)):=by
   intro e hi;by_cases ho:0<ds.length
   ·have j:m.put i 0 ds i (0+0)=ds[0]?:=aD ho;rw[Zj]at j;rw[j]at hi;have hv:0<vs.length:=by rw[z.1];exact ho
    have:=z.2.2 0 _ vs[0] hi (Qc hv);cases this
   ·rw[aC O,hf.1 0]at hi;cases hi
  have n1:i1≠i:=λe=>by subst e;exact nt _ u
  have n2:i2≠i:=λe=>by subst e;exact nt _ f
  rw[aA n1]at u;rw[aA n2]at f;exact h.tinj _ _ _ _ _ _ _ u f a h4
def Rep.newObj(w:World)(g:Gh)(i:Id)(b:Nat):Rep w (g.obj i b) (.ptr i 0) (.pointer (some ⟨b,0,none⟩)):=
 .ptr i 0 b (by simp[Gh.obj])
theorem Fy(w:World)(b:Nat)(cs:Array Value)(p:Addr)(h:p.block≠b):(w.setRow b cs).cell? p=w.cell? p:=by
 simp only[World.cell?];rw[setRow_other w b p.block cs h]
def GK(w:World)(b:Nat)(cs:Array Value):w.heap.size<=(w.setRow b cs).heap.size∧∀(k:Nat)(o:Obj),w.heap[k]?=some o->k≠b->(w.setRow b cs).heap[k]?=some o:=
 ⟨Ye,λk o s e=>by rw[setRow_other w b k cs e];exact s⟩
def Hr.setRow{b:Nat}{cs:Array Value}(a:g.G b=0)(s:∃i,g.dl i=some b):Hr w g (w.setRow b cs) g:=by
 refine⟨λp c=>Fy w b cs p (λe=>?_),λ_=>Qi _,λ_ _ h=>h,rfl,λ_ _ h=>h,(GK w b cs).1,λi _ h=> .inl ⟨i,h⟩,λi x h=> .inl ⟨i,x,h,rfl⟩,λk o y u _=>(GK w b cs).2 k o y (λe=>s.elim λi hi=>u i (by rw[e];exact hi))⟩;subst e;omega
def Hi.store(h:Hi P B w0 m w g){i:Id}{b o:Nat}(hd:g.dl i=some b){vs:Array Value}{T:TypeId}(hh:w.heap[b]?=some (.cells vs T (0,0)))
  {ds:List D} {us:List Value} (hr:AX w g ds us) (ho:o+ds.length<=vs.size):
  Hi P B w0 (m.put i o ds) (w.setRow b (vs.toList.take o++us++vs.toList.drop (o+us.length)).toArray) g:=by
 obtain⟨hB,hG,bb,T',ta,oa⟩:=h.obj i b hd;rw[hh]at ta;simp only[Qa,Obj.cells.injEq]at ta;obtain⟨rfl,rfl,_⟩:=ta;have x:Hr w g (w.setRow b (vs.toList.take o++us++vs.toList.drop (o+us.length)).toArray) g:=Hr.setRow hG ⟨i,hd⟩;have la:(w.setRow b (vs.toList.take o++us++vs.toList.drop (o+us.length)).toArray).heap.size=w.heap.size:=Ye
 have z:∀k,k≠b->(w.setRow b (vs.toList.take o++us++vs.toList.drop (o+us.length)).toArray).heap[k]?=w.heap[k]?:=λk hk=>setRow_other w b k _ hk
 refine⟨⟨h.below.os,h.below.tape,h.below.output,Yl,λk hk=>(z k O).trans (h.below.block k hk)⟩,Yk,by rw[la];exact h.gz,h.old,λi' b' hi=>?_,h.inj,λi' o' d hm hn=>?_,λi' e hi=>?_,λi1 i2 e e' b' y y' u h2 h3 h4=>?_,h.itr.to (λi' s p e=>(aAL hr e).1) λi' b' s p _ _ _ e1 e2 e3=>⟨rfl,z b' (λe=>e3 i X6),e2,e3⟩⟩
 ·by_cases a:i'=i
  ·subst a;rw[hd]at hi;simp only[Qa]at hi;subst hi;refine⟨hB,hG,_,T,setRow_heap w b vs _ T _ hh,λo' d hm=>?_⟩;have ca:us.length=ds.length:=hr.1;by_cases t:o<=o'∧o'<o+ds.length
   ·have ba:m.put i' o ds i' (o+(o'-o))=ds[o'-o]?:=aD O;rw[show o+(o'-o)=o' by omega]at ba;rw[ba]at hm;have hv:o'-o<us.length:=by omega
    refine⟨us[o'-o],?_,hr.2.1 _ (Q1 hv),(hr.2.2 _ d _ hm (Qc hv)).ext x⟩;have ht:(vs.toList.take o).length=o:=by rw[QT];simp;omega
    simp only[QJ,QL];rw[QG O,ht,Qm hv];exact Qc hv
   ·rw[aC t]at hm;obtain⟨v,r1,r2,r3⟩:=oa o' d hm;refine⟨v,?_,r2,r3.ext x⟩;have ht:(vs.toList.take o).length=o:=by rw[QT];simp;omega
    simp only[QJ,QL];by_cases na:o'<o
    ·grind
    ·grind
  ·obtain⟨p,q,j,T1,f,r⟩:=h.obj i' b' hi;have ga:b'≠b:=λe=>a (h.inj i' i b' hi X6)
   refine⟨p,q,j,T1,(z b' ga).trans f,λo' d hm=>?_⟩;rw[aA a]at hm;obtain⟨v,r1,r2,r3⟩:=r o' d hm;exact⟨v,r1,r2,r3.ext x⟩
 ·have:i'≠i:=λe=>by subst e;rw[hd]at hn;cases hn
  rw[aA this]at hm;exact h.kind _ _ _ hm hn
 ·have ga:i'≠i:=by
   rintro rfl;by_cases t:o<=0∧0<o+ds.length
   ·have ba:m.put i' o ds i' (o+(0-o))=ds[0-o]?:=aD O;rw[show o+(0-o)=0 by omega]at ba;rw[ba]at hi;have hv:0-o<us.length:=by have:=hr.1;omega
    have:=hr.2.2 _ _ _ hi (Qc hv);cases this
   ·rw[aC t]at hi;obtain⟨v,r1,r2,r3⟩:=oa 0 _ hi;cases r3
  rw[aA ga]at hi;obtain⟨b1,n,c,sz,cur,t1,t2,t3,t4,t5,t6,t7,t8,t9,ya⟩:=h.tok i' e hi;exact⟨b1,n,c,sz,cur,t1,t2,t3,t4,(z b1 (λe=>ya i X6)).trans t5,t6,t7,t8,t9,ya⟩
 ·have nt:∀e,m.put i o ds i 0≠some (.tok (e+1)):=by
   intro e hi;by_cases t:o<=0∧0<o+ds.length
   ·have ba:m.put i o ds i (o+(0-o))=ds[0-o]?:=aD O;rw[show o+(0-o)=0 by omega]at ba;rw[ba]at hi;have hv:0-o<us.length:=by have:=hr.1;omega
    have:=hr.2.2 _ _ _ hi (Qc hv);cases this
   ·rw[aC t]at hi;obtain⟨v,r1,r2,r3⟩:=oa 0 _ hi;cases r3
  have n1:i1≠i:=λe=>by subst e;exact nt _ u
  have n2:i2≠i:=λe=>by subst e;exact nt _ h2
  rw[aA n1]at u;rw[aA n2]at h2;exact h.tinj _ _ _ _ _ _ _ u h2 h3 h4
end
def Gh.tok(g:Gh)(t:Id)(b n c sz:Nat):Gh:=
 {g with G:=λr=>if r=b then n*sz else g.G r,tb:=λi=>if i=t then some (b,n,c,sz)else g.tb i}
section
variable{P:Program}{B:Nat}{w0 w w':World}{m:Ha}{g g':Gh}
def Hi.kill(h:Hi P B w0 m w g){t:Id}(hd:g.dl t=none):Hi P B w0 (m.put t 0 [.tok 0]) w g:=by
 have k:∀i o,m.put t 0 [.tok 0] i o=if i=t∧o=0 then some (.tok 0)else m i o:=by
  grind [Ha.put]
 refine⟨h.below,h.size,h.gz,h.old,λi b hi=>?_,h.inj,λi o d j c=>?_,λi e hi=>?_,λi1 i2 e e' b y y' u f x h4=>?_,h.itr.to (λi s p e=>by rw[k,if_neg U]at e;exact e) λi b s p _ _ _ n v a=>⟨rfl,rfl,v,a⟩⟩
 ·obtain⟨p,q,vs,T,z,r⟩:=h.obj i b hi;refine⟨p,q,vs,T,z,λo d j=>?_⟩;rw[k,if_neg (by rintro⟨rfl,_⟩;rw[hd]at hi;cases hi)]at j;exact r o d j
 ·rw[k]at j;split at j
  ·rw[←QK j];rfl
  ·exact h.kind _ _ _ j c
 ·rw[k]at hi;split at hi
  ·simp at hi
  ·exact h.tok i e hi
 ·rw[k]at u f;split at u
  ·simp at u
  ·split at f
   ·simp at f
   ·exact h.tinj _ _ _ _ _ _ _ u f x h4
def B0.kill{t b:Id}(h:B0 m g t)(e:t≠b):B0 (m.put b 0 [.tok 0]) g t:=
 ⟨λo=>by rw[aA e];exact h.1 o,h.2⟩
theorem BM(m:Ha)(t:Id)(x:Nat)(i:Id)(o:Nat):m.put t 0 [.tok x] i o=if i=t∧o=0 then some (.tok x)else m i o:=by
 grind [Ha.put]
def Hr.newTok{t:Id}{b n c sz:Nat}(o:Obj)(j:∀b,w.heap.size<=b->g.G b=0)(a:g.tb t=none)(f:b=w.heap.size):Hr w g (w.alloc o) (g.tok t b n c sz):=by
 refine⟨λp hp=>?_,λr=>?_,λq b h=>h,rfl,λi x h=>?_,U,λi _ h=> .inl ⟨i,h⟩,λi x h=>?_,λk o' s _ _=>(Below.heap_alloc w o k (Qe.1 s).1).trans s⟩
 rotate_right
 ·simp only[Gh.tok]at h;split at h
  ·simp only[Qa]at h;subst h;exact .inr (Nat.le_of_eq f.symm)
  ·exact .inl ⟨i,x,h,rfl⟩
 ·by_cases u:p.block<w.heap.size
  ·exact World.cell?_alloc_lt w o p u
  ·simp_all
 ·grind [Gh.tok]
 ·simp only[Gh.tok];split
  ·rename_i e;subst e;rw[a]at h;cases h
  ·exact h
def Hi.newTok(h:Hi P B w0 m w g){t:Id}(hf:B0 m g t){e n c sz:Nat}{cur:Array Value}(la:0<sz)
  (hi:∃ti z,P.info? e=some ti∧ti.size=sz∧ti.zero=some z∧z.cells.size=sz) (za:n<=c) (hc:c<=maxLen) (a:cur.size=c*sz):
  Hi P B w0 (m.put t 0 [.tok (e+1)]) (w.alloc (.cells cur e)) (g.tok t w.heap.size n c sz):=by
 have x:=Hr.newTok (t:=t) (n:=n) (c:=c) (sz:=sz) (Obj.cells cur e) h.gz hf.2.2 rfl;refine⟨h.below.alloc h.size _,Yv,λb k=>?_,λb da=>by simp only[Gh.tok];rw[if_neg (by have:=h.size;omega)];exact h.old b da,λi b j=>?_,h.inj,λi o d hm hn=>?_,λi e' j=>?_,λi1 i2 e1 e2 b y y' u f h3 h4=>?_,h.itr.to (λi s p e=>by rw[BM,if_neg U]at e;exact e) λi b s p e0 _ _ e1 e2 e3=>?_⟩
 rotate_right
 ·have da:b<w.heap.size:=(Qe.1 e1).1;have ca:i≠t:=by rintro rfl;rw[hf.1 1]at e0;cases e0
  exact⟨by simp[Gh.tok,ca],Below.heap_alloc w _ b da,by simp only[Gh.tok];rw[if_neg O];exact e2,e3⟩
 ·simp only[Gh.tok];simp at k;rw[if_neg O];exact h.gz b O
 ·obtain⟨p,q,vs,T,hh,r⟩:=h.obj i b j;have da:=h.lt j;refine⟨p,by simp only[Gh.tok];rw[if_neg O];exact q,vs,T,(Below.heap_alloc w _ b da).trans hh,λo d hm=>?_⟩;rw[BM,if_neg (by rintro⟨rfl,_⟩;simp only[Gh.tok]at j;rw[hf.2.1]at j;cases j)]at hm;obtain⟨v,r1,r2,r3⟩:=r o d hm;exact⟨v,r1,r2,r3.ext x⟩
 ·rw[BM]at hm;split at hm
  ·rw[←QK hm];rfl
  ·exact h.kind _ _ _ hm hn
 ·rw[BM]at j;split at j
  ·rename_i qa;obtain⟨rfl,_⟩:=qa;simp only[Qa,D.tok.injEq,Ze]at j;subst j;refine⟨w.heap.size,n,c,sz,cur,Xl,h.size,la,hi,heap_alloc_new w _,za,hc,a,Xl,λi' h'=>?_⟩;have:=h.lt h';omega
  ·rename_i ga;obtain⟨b,n',c',oa,na,t1,t2,t3,t4,t5,t6,t7,t8,t9,ya⟩:=h.tok i e' j;have da:b<w.heap.size:=(Qe.1 t5).1;have ca:i≠t:=by
    simp_all
   exact⟨b,n',c',oa,na,by simp[Gh.tok,ca,t1],t2,t3,t4,(Below.heap_alloc w _ b da).trans t5,t6,t7,t8,by simp only[Gh.tok];rw[if_neg O];exact t9,ya⟩
 ·have ia:∀i e,m i 0=some (.tok (e+1))->∀b y,(g.tok t w.heap.size n c sz).tb i=some (b,y)->i≠t∧g.tb i=some (b,y)∧b<w.heap.size:=by
   intro i e hm b y k;have ca:i≠t:=YV
   simp only[Gh.tok,if_neg ca]at k;obtain⟨b',n',c',oa,na,t1,t2,t3,t4,t5,_⟩:=h.tok i e hm;rw[t1]at k;simp only[Qa,Qd]at k;obtain⟨rfl,rfl⟩:=k;exact⟨ca,t1,(Qe.1 t5).1⟩
  rw[BM]at u f;split at u<;>split at f
  ·simp_all
  ·grind [Gh.tok]
  ·grind [Gh.tok]
  ·obtain⟨_,k3,_⟩:=ia _ _ u _ _ h3;obtain⟨_,k4,_⟩:=ia _ _ f _ _ h4;exact h.tinj _ _ _ _ _ _ _ u f k3 k4
def Hr.inPlace{t:Id}{b n n' c sz:Nat}{cur na:Array Value}{T:TypeId}{fr:Nat×Nat}(hf:g.tb t=none)(z:g.G b=n*sz)(r:n<=n')
  (v:w.heap[b]?=some (.cells cur T fr)) (sa:∀j,j<n*sz->na[j]?=cur[j]?) (m:∃j y,g.tb j=some y∧y.1=b):Hr w g (w.setRow b na) (g.tok t b n' c sz):=by
 refine⟨λp hp=>?_,λb'=>?_,λi' b h=>h,rfl,λi x h=>?_,(GK w b na).1,λi _ h=> .inl ⟨i,h⟩,λi x h=>?_,λk o s _ f=>(GK w b na).2 k o s (λe=>m.elim λj q=>q.elim λy hy=>f j y hy.1 (by rw[e];exact hy.2))⟩
 rotate_right
 ·simp only[Gh.tok]at h;split at h
  ·simp only[Qa]at h;subst h;exact .inl m
  ·exact .inl ⟨i,x,h,rfl⟩
 ·by_cases a:p.block=b
  ·have u:(w.setRow b na).heap[p.block]?=some (.cells na T fr):=by rw[a];exact setRow_heap w b cur na T fr v
   have f:w.heap[p.block]?=some (.cells cur T fr):=by rw[a];exact v
   simp only[World.cell?,u,f];split
   ·rfl
   ·simp_all
  ·grind [Fy]
 ·simp only[Gh.tok];split
  ·rename_i e;subst e;rw[z];exact QB _ r
  ·exact Qi _
 ·grind [Gh.tok]
def Hi.inPlace(h:Hi P B w0 m w g){t0 t:Id}(hf:B0 m g t){e b n n' c sz:Nat}{cur na:Array Value}(h0:m t0 0=some (.tok (e+1)))
  (u:g.tb t0=some (b,n,c,sz)) (hn:n<=n') (hc:n'<=c) (hh:w.heap[b]?=some (.cells cur e (0,0))) (hs:na.size=cur.size)
  (sa:∀j,j<n*sz->na[j]?=cur[j]?):
  Hi P B w0 ((m.put t0 0 [.tok 0]).put t 0 [.tok (e+1)]) (w.setRow b na) (g.tok t b n' c sz):=by
 obtain⟨b0,n0,c0,ka,ja,u1,u2,u3,u4,u5,u6,u7,u8,u9,z⟩:=h.tok t0 e h0;rw[u]at u1;simp only[Qa,Qd]at u1;obtain⟨rfl,rfl,rfl,rfl⟩:=u1;rw[hh]at u5;simp only[Qa,Obj.cells.injEq,and_true]at u5;subst u5;have x:Hr w g (w.setRow b na) (g.tok t b n' c sz):=Hr.inPlace hf.2.2 u9 hn hh sa ⟨t0,_,u,rfl⟩;have la:(w.setRow b na).heap.size=w.heap.size:=Ye
 have a:b<w.heap.size:=(Qe.1 hh).1;have aa:∀k,k≠b->(w.setRow b na).heap[k]?=w.heap[k]?:=λk hk=>setRow_other w b k na hk
 have wa:t≠t0:=by rintro rfl;rw[hf.1 0]at h0;cases h0
 have ba:∀i o,((m.put t0 0 [.tok 0]).put t 0 [.tok (e+1)]) i o=if i=t∧o=0 then some (.tok (e+1))else if i=t0∧o=0 then some (.tok 0)else m i o:=by
  grind [BM]
 have ha:g.dl t0=none:=by
  cases hd:g.dl t0 with
  |none=>rfl
  |some b'=>
   obtain⟨_,_,vs,T,_,r⟩:=h.obj t0 b' hd;obtain⟨v,_,_,r3⟩:=r 0 _ h0;cases r3
 refine⟨⟨h.below.os,h.below.tape,h.below.output,Yl,λk hk=>(aa k O).trans (h.below.block k hk)⟩,Yk,λb' ua=>?_,λb' da=>by simp only[Gh.tok];rw[if_neg O];exact h.old b' da,λi b' hi=>?_,h.inj,λi o d hm hd=>?_,λi e' hi=>?_,λi1 i2 e1 e2 b' y y' h1 h2 h3 h4=>?_,h.itr.to (λi s p e=>by rw[ba,if_neg U,if_neg U]at e;exact e) λi b' s p e0 _ _ e1 e2 e3=>?_⟩
 rotate_right
 ·have ga:b'≠b:=by rintro rfl;rw[hh]at e1;cases e1
  have ca:i≠t:=by rintro rfl;rw[hf.1 1]at e0;cases e0
  exact⟨by simp[Gh.tok,ca],aa b' ga,by simp only[Gh.tok];rw[if_neg ga];exact e2,e3⟩
 ·rw[la]at ua;simp only[Gh.tok];rw[if_neg O];exact h.gz b' ua
 ·obtain⟨p,q,vs,T,ta,r⟩:=h.obj i b' hi;have ga:b'≠b:=λe=>z i (by rw[←e];exact hi)
  refine⟨p,by simp[Gh.tok,ga,q],vs,T,(aa b' ga).trans ta,λo d hm=>?_⟩;rw[ba,if_neg (by rintro⟨rfl,_⟩;have h':=hf.2.1;simp only[Gh.tok]at hi;rw[h']at hi;cases hi),if_neg (by rintro⟨rfl,_⟩;simp only[Gh.tok]at hi;rw[ha]at hi;cases hi)]at hm;obtain⟨v,r1,r2,r3⟩:=r o d hm;exact⟨v,r1,r2,r3.ext x⟩
 ·rw[ba]at hm;split at hm
  ·rw[←QK hm];rfl
  ·split at hm
   ·rw[←QK hm];rfl
   ·exact h.kind _ _ _ hm hd
 ·rw[ba]at hi;split at hi
  ·rename_i qa;obtain⟨rfl,_⟩:=qa;simp only[Qa,D.tok.injEq,Ze]at hi;subst hi;exact⟨b,n',c,sz,na,Xl,u2,u3,u4,setRow_heap w b cur na e _ hh,hc,u7,by rw[hs];exact u8,Xl,z⟩
  ·split at hi
   ·simp at hi
   ·rename_i n1 n2;obtain⟨b1,l,c1,f,ea,t1,t2,t3,t4,t5,t6,t7,t8,t9,ya⟩:=h.tok i e' hi;have ca:i≠t:=by rintro rfl;rw[hf.1 0]at hi;cases hi
    have fa:b1≠b:=by
     rintro rfl;have:=h.tinj i t0 e' e b1 _ _ hi h0 t1 u;subst this;simp at n2
    exact⟨b1,l,c1,f,ea,by simp[Gh.tok,ca,t1],t2,t3,t4,(aa b1 fa).trans t5,t6,t7,t8,by simp[Gh.tok,fa,t9],ya⟩
 ·have ia:∀i e',m i 0=some (.tok (e'+1))->i≠t0->∀b' y,(g.tok t b n' c sz).tb i=some (b',y)->i≠t∧g.tb i=some (b',y)∧b'≠b:=by
   intro i e' hm va b' y hb;have ca:i≠t:=YV
   simp only[Gh.tok,if_neg ca]at hb;refine⟨ca,hb,?_⟩;rintro rfl;exact va (h.tinj i t0 e' e b' _ _ hm h0 hb u)
  rw[ba]at h1 h2;split at h1
  ·grind [Gh.tok]
  ·split at h1
   ·simp at h1
   ·rename_i p q;split at h2
    ·grind [Gh.tok]
    ·split at h2
     ·simp at h2
     ·rename_i r s;obtain⟨_,k3,_⟩:=ia _ _ h1 (λe=>q ⟨e,rfl⟩) _ _ h3;obtain⟨_,k4,_⟩:=ia _ _ h2 (λe=>s ⟨e,rfl⟩) _ _ h4;exact h.tinj _ _ _ _ _ _ _ h1 h2 k3 k4
end
end Go.Vd
namespace Go.Vd
inductive Hd where
 |t (n:Nat)
 |c (d:D)
def Hd.ev(s:Nat->D):Hd->D
 | .t n=>s n
 | .c d=>d
abbrev Hf:=List (Id×Nat×List D)
def Hf.app(m:Ha):Hf->Ha
 |[]=>m
 |(i,o,ds)::u=>Hf.app (m.put i o ds) u
structure HF where
 rd:List D->Ha->List (Id×Nat)
 ex:List D->Ha->Id->Option (D×Hf)
abbrev G8:=FuncId->Option HF
inductive DOp where
 |mv (x:Hd)
 |pick (c a b:Hd)
 |alloc (zs:List D)
 |box (x:Hd)
 |build (zs:List D) (parts:List (Nat×Nat×Hd))
 |bslice (e sz:Nat) (parts:List Hd)
 |load (k:Option Nat) (x:Hd)
 |store (n:Nat) (x v:Hd)
 |nilchk (x:Hd)
 |bin (op:BinOp) (x y:Hd)
 |beq (ne:Bool) (x y:Hd)
 |seq (ne:Bool) (offs:List (Nat×Nat)) (x y:Hd)
 |nileq (ne:Bool) (k:Nat) (x y:Hd)
 |un (op:UnOp) (x:Hd)
 |conv (k:IntKind) (x:Hd)
 |s2s (x:Hd)
 |s2b (x:Hd)
 |b2s (x:Hd)
 |faddr (off:Nat) (x:Hd)
 |field (k:Option Nat) (off:Nat) (x:Hd)
 |iaddr (sz:Nat) (x i:Hd)
 |idxs (x i:Hd)
 |idxa (len:Nat) (x i:Hd)
 |idxm (len sz:Nat) (x i:Hd)
 |mxm (mx:Bool) (x y:Hd)
 |iadda (len sz:Nat) (x i:Hd)
 |cuts (x:Hd) (lo hi:Option Hd)
 |cutl (sz:Nat) (x:Hd) (lo hi:Option Hd)
 |mkif (t:TypeId) (x:Hd)
 |tass (t:TypeId) (ok:Bool) (z:D) (x:Hd)
 |ext (i:Nat) (x:Hd)
 |mkfn (f:FuncId) (caps:List Hd)
 |len (isStr:Bool) (x:Hd)
 |app (e sz bytes:Nat) (x y:Hd)
 |mksl (e sz bytes:Nat) (z:D) (n c:Hd)
 |range (x:Hd)
 |next (x:Hd)
 |call (f:Hd) (xs:List Hd)
 |stop
def D.data:D->Bool
 | .junk| .tok _| .tup _| .it _ _=>false
 |_=>true
def Ag(m:Ha)(i:Id):Nat->Nat->Option (List D)
 |_,0=>some []
 |o,n+1=>match m i o with
  |some d=>(Ag m i (o+1) n).map (d::·)
  |none=>none
def FE(cs:List D)(off:Nat)(ds:List D):List D:=cs.take off++ds++cs.drop (off+ds.length)
def Cg:List D->List (Nat×Nat×D)->Option (List D)
 |cs,[]=>some cs
 |cs,(off,sz,d)::r=>if d.data=true∧d.cells.length=sz∧off+sz<=cs.length then Cg (FE cs off d.cells) r else none
def AQ(op:BinOp)(x y:D):Option D:=
 match x,y with
 | .int k a,.int k' b=>
  match op with
  | .shl=>if 0<=b then some (.int k (k.wrap (a*2 ^ min b.toNat k.bits)))else none
  | .shr=>if 0<=b then some (.int k (a.fdiv (2 ^ min b.toNat k.bits)))else none
  |op=>if k≠k' then none else match op with
   | .add=>some (.int k (k.wrap (a+b)))
   | .sub=>some (.int k (k.wrap (a-b)))
   | .mul=>some (.int k (k.wrap (a*b)))
   | .quo=>if b=0 then none else some (.int k (k.wrap (a.tdiv b)))
   | .rem=>if b=0 then none else some (.int k (a.tmod b))
   | .and=>some (.int k (bits .and k a b))
   | .or=>some (.int k (bits .or k a b))
   | .xor=>some (.int k (bits .xor k a b))
   | .andNot=>some (.int k (bits .andNot k a b))
   | .eql=>some (.bool (a==b))
   | .neq=>some (.bool (a !=b))
   | .lss=>some (.bool (a<b))
   | .leq=>some (.bool (a<=b))
   | .gtr=>some (.bool (a>b))
   | .geq=>some (.bool (a≥b))
   |_=>none
 | .str a,.str b=>
  match op with
  | .add=>if a.length+b.length<=9223372036854775807 then some (.str (a++b))else none
  | .eql=>some (.bool (a==b))
  | .neq=>some (.bool (!(a==b)))
  | .lss=>some (.bool (Op.bytesLess a b))
  | .leq=>some (.bool (Op.bytesLess a b||a==b))
  | .gtr=>some (.bool (!(Op.bytesLess a b||a==b)))
  | .geq=>some (.bool (!(Op.bytesLess a b)))
  |_=>none
 |_,_=>none
def vP(op:UnOp)(x:D):Option D:=
 match op,x with
 | .neg,.int k n=>some (.int k (k.wrap (0-n)))
 | .not,.bool b=>some (.bool (!b))
 | .xor,.int k n=>some (.int k (bits .xor k (if k.signed then-1 else k.max) n))
 |_,_=>none
def L3:Nat->D->D->Option Bool
 |0,.int k a,.int k' b=>if k=k' then some (a==b)else none
 |1,.bool a,.bool b=>some (a==b)
 |2,.str a,.str b=>some (a==b)
 |_,_,_=>none
def Bi(xs ys:List D):List (Nat×Nat)->Option Bool
 |[]=>some true
 |(k,o)::r=>match xs[o]?,ys[o]? with
  |some x,some y=>match L3 k x y with
   |some true=>Bi xs ys r
   |some false=>some false
   |none=>none
  |_,_=>none
def MI:Nat->D->D->Option Bool
 |0,.slice n _ _,.slice true _ _=>some n
 |0,.slice true _ _,.slice n _ _=>some n
 |1,.nilptr,.nilptr=>some true
 |1,.nilptr,.ptr _ _=>some false
 |1,.ptr _ _,.nilptr=>some false
 |1,.nilptr,.eptr _=>some false
 |1,.eptr _,.nilptr=>some false
 |2,.nilIface,.nilIface=>some true
 |2,.nilIface,.iface _ _=>some false
 |2,.iface _ _,.nilIface=>some false
 |3,.nilFunc,.nilFunc=>some true
 |3,.nilFunc,.fn _ _=>some false
 |3,.fn _ _,.nilFunc=>some false
 |_,_,_=>none
def AH(s:List UInt8):List D:=s.map λb=> .int .u8 b.toNat
def BG:List D->Option (List UInt8)
 |[]=>some []
 | .int .u8 n::r=>(BG r).map (UInt8.ofNat n.toNat::·)
 |_=>none
def jY:Bool->D->Option Nat
 |true,.str s=>some s.length
 |false,.slice _ _ xs=>some xs.length
 |false,.row _ n=>some n
 |_,_=>none
def FO(s:Nat->D)(x:Option Hd)(b:Nat)(j:Nat):Option Nat:=
 match x with
 |none=>some b
 |some a=>match a.ev s with
  | .int _ n=>if 0<=n∧n<=j then some n.toNat else none
  |_=>none
def aE:List D->Nat->Nat
 |[],k=>k
 |d::_,_=>d.cells.length
def I5(sz:Nat):D->Option (List D)
 | .slice _ _ ys=>some ys
 | .str b=>if sz=1 then some (AH b)else none
 |_=>none
def Ax(S:G8)(s:Nat->D)(m:Ha)(fr:Id):DOp->Option (D×Hf)
 | .mv x=>some (x.ev s,[])
 | .pick c a b=>match c.ev s with
  | .bool t=>some (if t then a.ev s else b.ev s,[])
  |_=>none
 | .alloc zs=>some (.ptr fr 0,[(fr,0,zs)])
 | .box x=>if(x.ev s).data then some (.ptr fr 0,[(fr,0,(x.ev s).cells)])else none
 | .build zs parts=>(Cg zs (parts.map λp=>(p.1,p.2.1,p.2.2.ev s))).map λcs=>(.agg cs,[])
 | .bslice e sz parts=>
  if(parts.all λp=>(p.ev s).data&&(p.ev s).cells.length==sz&&(p.ev s).un.calm)then some (.slice false fr (parts.map λp=>(p.ev s).un),[(fr,0,[.tok (e+1)])])else none
 | .load k x=>match x.ev s,k with
  | .ptr i o,none=>(m i o).map λd=>(d,[])
  | .ptr i o,some n=>(Ag m i o n).map λds=>(.agg ds,[])
  | .eptr ds,none=>ds.head?.map λd=>(d,[])
  | .eptr ds,some n=>if n<=ds.length then some (.agg (ds.take n),[])else none
  |_,_=>none
 | .store n x v=>match x.ev s with
  | .ptr i o=>if(v.ev s).data=true∧(v.ev s).cells.length=n∧(Ag m i o n).isSome=true then some (.junk,[(i,o,(v.ev s).cells)])else none
  |_=>none
 | .nilchk x=>match x.ev s with
  | .ptr i o=>some (.ptr i o,[])
  | .eptr ds=>some (.eptr ds,[])
  | .fn f cs=>some (.fn f cs,[])
  |_=>none
 | .bin op x y=>(AQ op (x.ev s) (y.ev s)).map λd=>(d,[])
 | .beq ne x y=>match x.ev s,y.ev s with
  | .bool a,.bool b=>some (.bool ((a==b)!=ne),[])
  |_,_=>none
 | .seq ne offs x y=>match x.ev s,y.ev s with
  | .agg xs,.agg ys=>(Bi xs ys offs).map λb=>(.bool (b !=ne),[])
  |_,_=>none
 | .nileq ne k x y=>(MI k (x.ev s) (y.ev s)).map λb=>(.bool (b !=ne),[])
 | .un op x=>(vP op (x.ev s)).map λd=>(d,[])
 | .conv k x=>match x.ev s with
  | .int _ n=>some (.int k (k.wrap n),[])
  |_=>none
 | .s2s x=>match x.ev s with
  | .str b=>some (.str b,[])
  |_=>none
 | .s2b x=>match x.ev s with
  | .str b=>some (.slice false [] (AH b),[])
  |_=>none
 | .b2s x=>match x.ev s with
  | .slice _ _ xs=>(BG xs).map λb=>(.str b,[])
  |_=>none
 | .faddr off x=>match x.ev s with
  | .ptr i o=>some (.ptr i (o+off),[])
  | .eptr ds=>if off<=ds.length then some (.eptr (ds.drop off),[])else none
  |_=>none
 | .field k off x=>match x.ev s,k with
  | .agg cs,none=>cs[off]?.map λd=>(d,[])
  | .agg cs,some n=>if off+n<=cs.length then some (.agg ((cs.drop off).take n),[])else none
  |_,_=>none
 | .iaddr sz x i=>match x.ev s,i.ev s with
  | .slice _ _ xs,.int _ n=>if 0<=n then match xs[n.toNat]? with
   |some d=>if d.cells.length=sz then some (.eptr d.cells,[])else none
   |none=>none
   else none
  | .row i l,.int _ n=>if 0<=n∧n<(l:Int)then some (.ptr i (if sz=1 then n.toNat else n.toNat*sz),[])else none
  |_,_=>none
 | .idxs x i=>match x.ev s,i.ev s with
  | .str b,.int _ n=>if 0<=n then(b[n.toNat]?).map λc=>(.int .u8 c.toNat,[])else none
  |_,_=>none
 | .iadda len sz x i=>match x.ev s,i.ev s with
  | .ptr j o,.int _ n=>if 0<=n∧n<(len:Int)then some (.ptr j (o+n.toNat*sz),[])else none
  |_,_=>none
 | .idxm len sz x i=>match x.ev s,i.ev s with
  | .agg cs,.int _ n=>if 0<=n∧n<(len:Int)∧n.toNat*sz+sz<=cs.length then some (.agg ((cs.drop (n.toNat*sz)).take sz),[])else none
  |_,_=>none
 | .mxm mx x y=>match x.ev s,y.ev s with
  | .int k a,.int _ b=>some (.int k (if mx=true then max a b else min a b),[])
  |_,_=>none
 | .idxa len x i=>match x.ev s,i.ev s with
  | .agg cs,.int _ n=>if 0<=n∧n<(len:Int)then(cs[n.toNat]?).map λd=>(d,[])else none
  |_,_=>none
 | .cuts x lo hi=>match x.ev s with
  | .str b=>match FO s hi b.length b.length with
   |some h=>match FO s lo 0 h with
    |some l=>some (.str ((b.drop l).take (h-l)),[])
    |none=>none
   |none=>none
  |_=>none
 | .cutl sz x lo hi=>match x.ev s with
  | .slice nl _ xs=>if aE xs sz=sz then match FO s hi xs.length xs.length with
   |some h=>match FO s lo 0 h with
    |some l=>some (.slice nl [] ((xs.drop l).take (h-l)),[])
    |none=>none
   |none=>none
   else none
  |_=>none
 | .mkif t x=>if(x.ev s).data=true∧(x.ev s).un.calm=true then some (.iface t (x.ev s).un,[])else none
 | .tass t ok z x=>match x.ev s with
  | .iface t' d=>if t'=t then some (if ok then .tup [d,.bool true]else d,[])else if ok then some (.tup [z,.bool false],[])else none
  | .nilIface=>if ok then some (.tup [z,.bool false],[])else none
  |_=>none
 | .ext i x=>match x.ev s with
  | .tup vs=>vs[i]?.map λd=>(d,[])
  |_=>none
 | .mkfn f caps=>some (.fn f (caps.map (·.ev s)),[])
 | .len k x=>(jY k (x.ev s)).map λ(n:Nat)=>(.int .i64 (n:Int),[])
 | .stop=>none
 | .app e sz bytes x y=>match x.ev s,I5 sz (y.ev s)with
  | .slice nl t xs,some ys=>
   if nl=true∧ys=[]then some (.slice true [] [],[])
   else if(xs.length+ys.length)*(bytes+1)<=140737488355328∧aE ys sz=sz then
    if nl=true then some (.slice false fr ys,[(fr,0,[.tok (e+1)])])
    else match m t 0 with
     |some (.tok k)=>if k=e+1∧t≠[]then some (.slice false fr (xs++ys),[(t,0,[.tok 0]),(fr,0,[.tok (e+1)])])else none
     |_=>none
   else none
  |_,_=>none
 | .mksl e sz bytes z n c=>match n.ev s,c.ev s with
  | .int _ n,.int _ c=>if 0<=n∧n<=c∧c*(bytes+1)<=140737488355328∧z.cells.length=sz then(if z.isRw=true then(if n=c then some (.row fr n.toNat,[(fr,0,Qz n.toNat z)])else none)
   else some (.slice false fr (Qz n.toNat z),[(fr,0,[.tok (e+1)])]))else none
  |_,_=>none
 | .range x=>match x.ev s with
  | .str b=>some (.itp fr,[(fr,1,[.it b 0])])
  |_=>none
 | .next x=>match x.ev s with
  | .itp i=>match m i 1 with
   |some (.it b aa)=>if aa<b.length then
     some (.tup [.bool true,.int .i64 (aa:Nat),.int .i32 (Utf8.decode ⟨b.toArray⟩ aa).1],[(i,1,[.it b (aa+(Utf8.decode ⟨b.toArray⟩ aa).2)])])
    else some (.tup [.bool false],[])
   |_=>none
  |_=>none
 | .call f xs=>match f.ev s with
  | .fn f caps=>match S f with
   |some q=>q.ex (xs.map (·.ev s)++caps) m fr
   |none=>none
  |_=>none
def ofLeaf:Value->Option D
 | .bool b=>some (.bool b)
 | .int k n=>some (.int k n)
 | .string s=>some (.str s.data.toList)
 | .slice none 0 0=>some (.slice true [] [])
 | .pointer none=>some .nilptr
 | .nilIface=>some .nilIface
 | .nilFunc=>some .nilFunc
 | .map none=>some .nilMap
 |_=>none
def ofLeaves:List Value->Option (List D)
 |[]=>some []
 |v::r=>match ofLeaf v,ofLeaves r with
  |some d,some ds=>some (d::ds)
  |_,_=>none
def ofVal:Value->Option D
 | .agg cs=>(ofLeaves cs.toList).map .agg
 |v=>ofLeaf v
def AC:Operand->Option Hd
 | .tmp t=>some (.t t)
 | .const v=>(ofVal v).map .c
 | .func f=>some (.c (.fn f []))
 | .global _=>none
def DZ:List Operand->Option (List Hd)
 |[]=>some []
 |x::r=>match AC x,DZ r with
  |some a,some l=>some (a::l)
  |_,_=>none
def Iy:Option Operand->Option (Option Hd)
 |none=>some none
 |some x=>(AC x).map some
def CR(P:Program)(t:TypeId):Option Nat:=(P.info? t).map (·.size)
def pL(P:Program)(t:TypeId):Option (Option Nat):=
 match P.underlying t with
 |some (.struct _)|some (.array _ _)=>(CR P t).map some
 |some _=>some none
 |none=>none
def C6(P:Program)(t:TypeId):Option D:=
 match P.info? t with
 |some i=>match i.zero with
  |some z=>ofVal z
  |none=>none
 |none=>none
def I_(P:Program)(e:TypeId):Option (Nat×Nat):=
 match P.info? e with
 |some i=>match i.zero with
  |some z=>if 0<i.size∧z.cells.size=i.size then some (i.size,i.bytes)else none
  |none=>none
 |none=>none
def IZ{P:Program}{e sz bytes:Nat}(h:I_ P e=some (sz,bytes)):
  0<sz∧∃i z,P.info? e=some i∧i.size=sz∧i.zero=some z∧z.cells.size=sz∧i.bytes=bytes:=by
 unfold I_ at h;split at h
 ·grind
 ·cases h
def Dp(P:Program)(v:Array Field):List (Nat×Operand)->Option (List (Nat×Nat×Hd))
 |[]=>some []
 |(i,x)::r=>match v[i]?,AC x,Dp P v r with
  |some f,some y,some l=>match CR P f.type with
   |some n=>some ((f.offset,n,y)::l)
   |none=>none
  |_,_,_=>none
def dX(P:Program)(v:List Field):Bool:=v.all λf=>(CR P f.type).isSome
def Mc(P:Program):List Field->Option (List (Nat×Nat))
 |[]=>some []
 |f::r=>if f.name= "_" then none else match P.underlying f.type,Mc P r with
  |some (.int _),some l=>some ((0,f.offset)::l)
  |some .bool,some l=>some ((1,f.offset)::l)
  |some .string,some l=>some ((2,f.offset)::l)
  |_,_=>none
def FK(P:Program):List Field->Option (List (Nat×Nat))
 |[]=>some []
 |f::r=>if f.name= "_" then none else match P.underlying f.type,FK P r with
  |some (.int _),some l=>some ((0,f.offset)::l)
  |some .bool,some l=>some ((1,f.offset)::l)
  |some .string,some l=>some ((2,f.offset)::l)
  |some (.struct fs),some l=>match CR P f.type,Mc P fs.toList with
   |some n,some l2=>if P.stoodInHeld f.type=false∧(l2.all λp=>decide (p.2<n))=true then some ((l2.map λp=>(p.1,f.offset+p.2))++l)else none
   |_,_=>none
  |_,_=>none
def GQ:Operand->Bool
 | .const _=>true
 |_=>false
def aAe(P:Program)(ne:Bool)(t:TypeId)(x y:Operand)(a b:Hd):Option DOp:=
 match P.underlying t with
 |some .bool=>some (.beq ne a b)
 |some (.int _)|some .string=>some (.bin (if ne then .neq else .eql) a b)
 |some (.struct fs)=>if P.stoodInHeld t=false∧P.eqGuardType P.depth t=false then(FK P fs.toList).map λl=> .seq ne l a b else none
 |some (.slice _)=>some (.nileq ne 0 a b)
 |some (.pointer _)=>some (.nileq ne 1 a b)
 |some (.func ..)=>some (.nileq ne 3 a b)
 |some (.interface _)=>if GQ x||GQ y then some (.nileq ne 2 a b)else none
 |_=>none
def isStr(P:Program)(u:TypeId):Bool:=match P.underlying u with
 |some .string=>true
 |_=>false
def kH{P:Program}{u:TypeId}(h:isStr P u=true):P.underlying u=some .string:=by
 grind [isStr]
def PN(P:Program)(c:Call):Option DOp:=
 match c.callee with
 | .value f=>match AC f,DZ c.args.toList with
  |some g,some xs=>some (.call g xs)
  |_,_=>none
 | .builtin .len=>match c.args.toList,c.argTypes.toList with
  |[x],[t]=>match P.underlying t with
   |some .string=>(AC x).map (.len true)
   |some (.slice _)=>(AC x).map (.len false)
   |_=>none
  |_,_=>none
 | .builtin .append=>match c.args.toList,c.argTypes.toList with
  |[x,y],[t,u]=>if u=t∨isStr P u=true then match P.underlying t with
   |some (.slice e)=>match I_ P e,AC x,AC y with
    |some (sz,bytes),some a,some b=>some (.app e sz bytes a b)
    |_,_,_=>none
   |_=>none
   else none
  |_,_=>none
 | .builtin .max=>match c.args.toList with
  |[x,y]=>match AC x,AC y with
   |some a,some b=>some (.mxm true a b)
   |_,_=>none
  |_=>none
 | .builtin .min=>match c.args.toList with
  |[x,y]=>match AC x,AC y with
   |some a,some b=>some (.mxm false a b)
   |_,_=>none
  |_=>none
 |_=>none
def Gf(sz:Nat):List (Nat×Operand)->Option (List (Nat×Nat×Hd))
 |[]=>some []
 |(i,x)::r=>match AC x,Gf sz r with
  |some a,some l=>some ((i*sz,sz,a)::l)
  |_,_=>none
def tr(P:Program)(op:Op):Option DOp:=
 match op with
 | .move x| .assign x=>(AC x).map .mv
 | .pick c a b=>match AC c,AC a,AC b with
  |some c,some a,some b=>some (.pick c a b)
  |_,_,_=>none
 | .alloc t=>(C6 P t).map λd=> .alloc d.cells
 | .box _ x=>(AC x).map .box
 | .build t parts=>match P.underlying t,C6 P t with
  |some (.struct fields),some (.agg zs)=>if dX P fields.toList=true then(Dp P fields parts.toList).map λl=> .build zs l else none
  |some (.array _ e),some (.agg zs)=>match CR P e with
   |some sz=>(Gf sz parts.toList).map λl=> .build zs l
   |none=>none
  |_,_=>none
 | .buildSlice t len parts=>match P.underlying t with
  |some (.slice e)=>match I_ P e,DZ (parts.toList.map (·.2))with
   |some (sz,_),some l=>if parts.toList.map (·.1)=Qt len∧len*sz<=2 ^ 24 then some (.bslice e sz l)else none
   |_,_=>none
  |_=>none
 | .load t x=>match pL P t,AC x with
  |some k,some x=>some (.load k x)
  |_,_=>none
 | .store t x v=>match CR P t,AC x,AC v with
  |some (n+1),some x,some v=>some (.store (n+1) x v)
  |_,_,_=>none
 | .nilCheck x=>(AC x).map .nilchk
 | .binOp .eql t x y _=>match AC x,AC y with
  |some a,some b=>aAe P false t x y a b
  |_,_=>none
 | .binOp .neq t x y _=>match AC x,AC y with
  |some a,some b=>aAe P true t x y a b
  |_,_=>none
 | .binOp op _ x y _=>match AC x,AC y with
  |some a,some b=>some (.bin op a b)
  |_,_=>none
 | .unOp op _ x=>(AC x).map (.un op)
 | .convert src dst x=>match P.underlying src,P.underlying dst,AC x with
  |some (.int _),some (.int k),some x=>some (.conv k x)
  |some .string,some .string,some x=>some (.s2s x)
  |some .string,some (.slice e),some x=>match P.underlying e with
   |some (.int .u8)=>some (.s2b x)
   |_=>none
  |some (.slice e),some .string,some x=>match P.underlying e with
   |some (.int .u8)=>some (.b2s x)
   |_=>none
  |_,_,_=>none
 | .fieldAddr t x f=>match P.underlying t,AC x with
  |some (.struct fields),some x=>match fields[f]? with
   |some q=>match CR P q.type with
    |some (_+1)=>some (.faddr q.offset x)
    |_=>none
   |none=>none
  |_,_=>none
 | .field t x f=>match P.underlying t,AC x with
  |some (.struct fields),some x=>match fields[f]? with
   |some q=>(pL P q.type).map λk=> .field k q.offset x
   |none=>none
  |_,_=>none
 | .indexAddr t x i=>match P.underlying t,AC x,AC i with
  |some (.slice e),some x,some i=>(CR P e).map λn=> .iaddr n x i
  |some (.array len e),some x,some i=>(CR P e).map λn=> .iadda len n x i
  |_,_,_=>none
 | .index t x i=>match P.underlying t,AC x,AC i with
  |some .string,some x,some i=>some (.idxs x i)
  |some (.array len e),some x,some i=>match pL P e with
   |some none=>if CR P e=some 1 then some (.idxa len x i)else none
   |some (some sz)=>some (.idxm len sz x i)
   |none=>none
  |_,_,_=>none
 | .slice t x lo hi none=>match P.underlying t,AC x,Iy lo,Iy hi with
  |some .string,some x,some l,some h=>some (.cuts x l h)
  |some (.slice e),some x,some l,some h=>(CR P e).map λn=> .cutl n x l h
  |_,_,_,_=>none
 | .makeInterface t x=>match P.underlying t,AC x with
  |some (.interface _),_=>none
  |some _,some x=>some (.mkif t x)
  |_,_=>none
 | .typeAssert x _ t ok=>match P.underlying t,C6 P t,AC x with
  |some (.interface _),_,_=>none
  |some _,some z,some x=>some (.tass t ok z x)
  |_,_,_=>none
 | .extract x i=>(AC x).map (.ext i)
 | .makeFunc (.func f) first caps=>match first.toList,DZ caps.toList with
  |[],some l=>some (.mkfn f l)
  |_,_=>none
 | .makeSlice t n c=>match P.underlying t with
  |some (.slice e)=>match I_ P e,C6 P e,AC n,AC c with
   |some (sz,bytes),some z,some n,some c=>some (.mksl e sz bytes z n c)
   |_,_,_,_=>none
  |_=>none
 | .range t x=>match P.underlying t,AC x with
  |some .string,some x=>some (.range x)
  |_,_=>none
 | .next x true=>(AC x).map .next
 | .call c=>PN P c
 |_=>none
def Rep.ofLeaf{w:World}{g:Gh}{v:Value}{d:D}(h:ofLeaf v=some d):Rep w g d v∧v.oneCell'=true∧d.leaf=true:=by
 unfold Vd.ofLeaf at h;split at h<;>first|(simp only[Qa]at h;subst h)|cases h
 ·exact⟨.bool _,rfl,rfl⟩
 ·exact⟨.int _ _,rfl,rfl⟩
 ·rename_i s;exact⟨.str s.data.toList,rfl,rfl⟩
 ·exact⟨.nils _,rfl,rfl⟩
 ·exact⟨.nilp,rfl,rfl⟩
 ·exact⟨.nili,rfl,rfl⟩
 ·exact⟨.nilf,rfl,rfl⟩
 ·exact⟨.nilm,rfl,rfl⟩
def AX.ofLeaves{w:World}{g:Gh}:∀{vs:List Value} {ds:List D},ofLeaves vs=some ds->AX w g ds vs
 |[],ds,h=>by simp only[Vd.ofLeaves,Qa]at h;subst h;exact AX.nil w g
 |v::r,ds,h=>by
  unfold Vd.ofLeaves at h;split at h
  ·rename_i d c u y;simp only[Qa]at h;subst h;obtain⟨p,q,_⟩:=Rep.ofLeaf (w:=w) (g:=g) u;exact AX.append (AX.one p q) (AX.ofLeaves y)
  ·cases h
def aJ{w:World}{g:Gh}{ds:List D}{vs:List Value}(h:AX w g ds vs):Rep w g (.agg ds) (.agg vs.toArray):= .agg ds vs h.1 h.2.1 h.2.2
def aI{w:World}{g:Gh}{ds:List D}{v:Value}(h:Rep w g (.agg ds) v):∃vs:List Value,v= .agg vs.toArray∧AX w g ds vs:=by
 cases h with
 |agg _ vs u y i=>exact⟨vs,rfl,u,y,i⟩
theorem Rep.ofVal{w:World}{g:Gh}{v:Value}{d:D}(h:ofVal v=some d):Rep w g d v:=by
 cases v with
 |agg cs=>
  simp only[Vd.ofVal,Qb]at h;obtain⟨ds,u,rfl⟩:=h;exact aJ (AX.ofLeaves u)
 |_=>simp only[Vd.ofVal]at h;exact(Rep.ofLeaf h).1
def OJ{v:Value}{d:D}(h:ofLeaf v=some d):d.data=true:=by
 unfold ofLeaf at h;split at h<;>first|(simp only[Qa]at h;subst h;rfl)|cases h
def Dg(w:World)(g:Gh)(s:Nat->D)(a:Act):Prop:=∀t,Rep w g (s t) (a.tmps.getD t undef)
def Dg.ext{w m:World}{g q:Gh}{s:Nat->D}{a:Act}(h:Dg w g s a)(x:Hr w g m q):Dg m q s a:=λt=>(h t).ext x
section
variable{P:Program}{w:World}{g:Gh}{s:Nat->D}{a:Act}
def Dg.arg(h:Dg w g s a){x:Operand}{y:Hd}(q:AC x=some y):Rep w g (y.ev s) (a.eval x):=by
 cases x with
 |tmp t=>simp only[AC,Qa]at q;subst q;exact h t
 |const v=>
  simp only[AC,Qb]at q;obtain⟨d,u,rfl⟩:=q;exact Rep.ofVal u
 |func f=>
  simp only[AC,Qa]at q;subst q;exact .fn f [] [] rfl U
 |global _=>cases q
def Dg.args(h:Dg w g s a):∀{xs:List Operand} {ys:List Hd},DZ xs=some ys->
  (xs.map a.eval).length=(ys.map (·.ev s)).length∧∀(j:Nat) d v,(ys.map (·.ev s))[j]?=some d->(xs.map a.eval)[j]?=some v->Rep w g d v
 |[],ys,hx=>by simp only[DZ,Qa]at hx;subst hx;simp
 |x::r,ys,hx=>by
  unfold DZ at hx;split at hx
  ·rename_i y l u f;simp only[Qa]at hx;subst hx;obtain⟨p,q⟩:=Dg.args h f;refine⟨Xw,λj d v t m=>?_⟩;cases j with
   |zero=>
    simp only[Qs,QE,Qa]at t m;subst t m;exact h.arg u
   |succ j=>
    simp only[Qs,Zg]at t m;exact q j d v t m
  ·cases hx
def Rep.bool_inv{b:Bool}{v:Value}(h:Rep w g (.bool b) v):v= .bool b:=XI
def Rep.int_inv{k:IntKind}{n:Int}{v:Value}(h:Rep w g (.int k n) v):v= .int k n:=XI
def Rep.str_inv{b:List UInt8}{v:Value}(h:Rep w g (.str b) v):v= .string ⟨b.toArray⟩:=XI
def Rep.cells{d:D}{v:Value}(h:Rep w g d v)(p:d.data=true):AX w g d.cells v.cells.toList:=by
 cases h with
 |agg ds vs u y x=>exact(⟨u,y,x⟩:AX w g ds vs)
 |junk=>cases p
 |tup=>cases p
 |bool b=>exact AX.one (.bool b) rfl
 |int k n=>exact AX.one (.int k n) rfl
 |str b=>exact AX.one (.str b) rfl
 |nils t=>exact AX.one (.nils t) rfl
 |slice t xs a n c sz r u y x e m h6 j s z=>exact AX.one (.slice t xs a n c sz r u y x e m h6 j s z) rfl
 |ptr i o b u=>exact AX.one (.ptr i o b u) rfl
 |row i n c b q u=>exact AX.one (.row i n c b q u) rfl
 |eptr ds a r u y x e m=>exact AX.one (.eptr ds a r u y x e m) rfl
 |nilp=>exact AX.one .nilp rfl
 |iface t d v u y=>exact AX.one (.iface t d v u y) rfl
 |nili=>exact AX.one .nili rfl
 |fn f ds vs u y=>exact AX.one (.fn f ds vs u y) rfl
 |nilf=>exact AX.one .nilf rfl
 |nilm=>exact AX.one .nilm rfl
 |itp i b u=>exact AX.one (.itp i b u) rfl
end
end Go.Vd
namespace Go.Vd
open Go.RowKit
structure aQh (P:Program) (B:Nat) (w0:World) (m:Ha) (g:Gh) (fr:Id) (w:World) (m':Ha) (d:D) (v':Value) (w':World) (g':Gh):Prop where
 inv:Hi P B w0 m' w' g'
 ext:Hr w g w' g'
 rep:Rep w' g' d v'
 fresh:∀i,B0 m g i->¬fr<:+i->B0 m' g' i
def CZ(P:Program)(B:Nat)(w0:World)(m:Ha)(g:Gh)(fr:Id)(w:World)(m':Ha)(d:D)(x:Sem Next):Prop:=
 ∃f k q r,x.run P w= .ok r k∧(r= .value f∨(r= .skip∧f=undef))∧aQh P B w0 m g fr w m' d f k q
section
variable{P:Program}{B:Nat}{w0 w:World}{m:Ha}{g:Gh}{fr:Id}{s:Nat->D}{a:Act}
def CZ.pure{x:Sem Next}{v:Value}{d:D}(hi:Hi P B w0 m w g)(j:x.run P w= .ok (.value v) w)(p:Rep w g d v):CZ P B w0 m g fr w m d x:=
 ⟨v,w,g,_,j,.inl rfl,hi,Hr.refl w g,p,λ_ h _=>h⟩
theorem Rep.slice_inv {nl : Bool} {t : Id} {xs : List D} {v : Value} (h : Rep w g (.slice nl t xs) v) :
  (nl = true ∧ xs = [] ∧ v = .slice none 0 0) ∨
  (nl = false ∧ ∃ ad n c sz, ∃ vv : Nat → Value, v = .slice (some ad) n c ∧ n = xs.length ∧ n ≤ c ∧ (∀ d ∈ xs, d.cells.length = sz) ∧
   (∀ j, j < n * sz → w.cell? (ad.add j) = some (vv j)) ∧ (∀ j, j < n * sz → (vv j).oneCell' = true) ∧
   (∀ (j : Nat) d, (flat xs)[j]? = some d → Rep w g d (vv j)) ∧ (0 < n * sz → ad.off + n * sz ≤ g.G ad.block) ∧
   (t ≠ [] → ad.off = 0 ∧ ad.spot = none ∧ g.tb t = some (ad.block, n, c, sz)) ∧ (∀ d ∈ xs, d.calm = true)) := by
 cases h with
 | nils t => exact .inl ⟨rfl, rfl, rfl⟩
 | slice t xs ad n c sz vv h1 h2 h3 h4 h5 h6 h7 h8 h9 => exact .inr ⟨rfl, ad, n, c, sz, vv, rfl, h1, h2, h3, h4, h5, h6, h7, h8, h9⟩
def Rep.len_slice{nl:Bool}{t:Id}{xs:List D}{v:Value}(h:Rep w g (.slice nl t xs) v):∃ad c,v= .slice ad xs.length c∧(nl=ad.isNone):=by
 rcases h.slice_inv with ⟨rfl,rfl,rfl⟩|⟨rfl,ad,n,c,sz,r,rfl,rfl,_⟩
 ·exact⟨none,0,rfl,rfl⟩
 ·exact⟨some ad,c,rfl,rfl⟩
def Rep.ptr_inv{i:Id}{o:Nat}{v:Value}(h:Rep w g (.ptr i o) v):∃b,v= .pointer (some ⟨b,o,none⟩)∧g.dl i=some b:=by
 cases h with
 |ptr _ _ b f=>exact⟨b,rfl,f⟩
def Rep.row_inv{i:Id}{n:Nat}{v:Value}(h:Rep w g (.row i n) v):∃b c,v= .slice (some ⟨b,0,none⟩) n c∧n<=c∧g.dl i=some b:=by
 cases h with
 |row _ _ c b z o=>exact⟨b,c,rfl,z,o⟩
def Rep.eptr_inv{ds:List D}{v:Value}(h:Rep w g (.eptr ds) v):∃ad,∃r:Nat->Value,v= .pointer (some ad)∧(∀j,j<ds.length->w.cell? (ad.add j)=some (r j))∧
  (∀j,j<ds.length->(r j).oneCell'=true)∧(∀(j:Nat) d,ds[j]?=some d->Rep w g d (r j))∧(0<ds.length->ad.off+ds.length<=g.G ad.block)∧(∀d∈ds,d.calm=true):=by
 cases h with
 |eptr _ ad r u y i p m=>exact⟨ad,r,rfl,u,y,i,p,m⟩
def Rep.tup_inv{ds:List D}{v:Value}(h:Rep w g (.tup ds) v):∃vs:List Value,v= .tuple vs.toArray∧vs.length=ds.length∧∀(j:Nat) d v,ds[j]?=some d->vs[j]?=some v->Rep w g d v:=by
 cases h with
 |tup _ vs u y=>exact⟨vs,rfl,u,y⟩
def Rep.iface_inv{t:TypeId}{d:D}{v:Value}(h:Rep w g (.iface t d) v):∃u,v= .iface t u∧Rep w g d u∧d.calm=true:=by
 cases h with
 |iface _ _ u q y=>exact⟨u,rfl,y,q⟩
def Rep.fn_inv{f:FuncId}{ds:List D}{v:Value}(h:Rep w g (.fn f ds) v):∃vs:List Value,v= .func (.func f) #[] vs.toArray∧vs.length=ds.length∧∀(j:Nat) d v,ds[j]?=some d->vs[j]?=some v->Rep w g d v:=by
 cases h with
 |fn _ _ vs u y=>exact⟨vs,rfl,u,y⟩
def Rep.nilp_inv{v:Value}(h:Rep w g .nilptr v):v= .pointer none:=XI
def Rep.nili_inv{v:Value}(h:Rep w g .nilIface v):v= .nilIface:=XI
def Rep.nilf_inv{v:Value}(h:Rep w g .nilFunc v):v= .nilFunc:=XI
def IR(op:BinOp)(t:TypeId)(x y:Operand)(i u:Value)(h:∀cs,i≠ .agg cs)(f:i≠ .nilIface)(W:World):(eqGuard op t x y i u).run P W= .ok () W:=by
 cases i with
 |nilIface=>exact absurd rfl f
 |agg c=>exact absurd rfl (h c)
 |_=>cases op<;>rfl
theorem T_ {op:BinOp} {t:TypeId} {x y:D} {d:D} {i e:Value} (q:Rep w g x i) (r:Rep w g y e) (h:AQ op x y=some d):
  ∃v,(binOp op t i e).run P w= .ok v w∧Rep w g d v∧(∀cs,i≠ .agg cs)∧i≠ .nilIface:=by
 unfold AQ at h
 split at h
 ·rename_i k n a j
  rw[q.int_inv,r.int_inv]
  split at h
  ·split at h
   ·rename_i o
    simp only[Qa]at h;subst h
    refine⟨_,?_,.int _ _,U,U⟩
    have:¬j<0:=O
    simp[binOp,Op.shift,this]
   ·cases h
  ·split at h
   ·rename_i o
    simp only[Qa]at h;subst h
    refine⟨_,?_,.int _ _,U,U⟩
    have:¬j<0:=O
    simp[binOp,Op.shift,this]
   ·cases h
  ·rename_i u f
   by_cases s:k≠a
   ·rw[if_pos s]at h;cases h
   rw[if_neg s]at h
   have s:k=a:=Classical.not_not.1 s
   subst s
   cases op<;>simp only[reduceCtorEq,Qa]at h<;>
    first
    |(subst h;first
      |exact⟨_,by simp[binOp,Op.intArith,intBits_and,intBits_or,intBits_xor,intBits_andNot,Op.intCmp],.int _ _,U,U⟩
      |exact⟨_,by simp[binOp,Op.intCmp],.bool _,U,U⟩)
    |(exact absurd rfl u)
    |(exact absurd rfl f)
    |(
     split at h
     ·cases h
     ·rename_i m
      simp only[Qa]at h;subst h
      exact⟨_,by simp[binOp,Op.intDiv,m],.int _ _,U,U⟩)
 ·rename_i b c
  rw[q.str_inv,r.str_inv]
  split at h
  ·split at h
   ·rename_i hl
    simp only[Qa]at h;subst h
    refine⟨.string ⟨(b++c).toArray⟩,?_,.str _,U,U⟩
    have:=run_string_add_sum (P:=P) (w:=w) ⟨b.toArray⟩ ⟨c.toArray⟩ (by simpa[ByteArray.size]using hl)
    simp only[binOp,this]
    congr 2
   ·cases h
  all_goals first|(cases h;done)|skip
  all_goals
   simp only[Qa]at h;subst h
   exact⟨_,by simp[binOp,Op.stringOp,ByteArray.toList_mk],.bool _,U,U⟩
 ·cases h
def zX{op:UnOp}{x d:D}{i:Value}(q:Rep w g x i)(h:vP op x=some d):∃v,(Op.unary op i).run P w= .ok v w∧Rep w g d v:=by
 unfold vP at h;split at h
 ·simp only[Qa]at h;subst h;rw[q.int_inv];exact⟨_,by simp[Op.unary,Op.intArith],.int _ _⟩
 ·simp only[Qa]at h;subst h;rw[q.bool_inv];exact⟨_,by simp[Op.unary],.bool _⟩
 ·simp only[Qa]at h;subst h;rw[q.int_inv];exact⟨_,by simp only[Op.unary,intBits_xor];rfl,.int _ _⟩
 ·cases h
end
section
variable{P:Program}{B:Nat}{w0 w:World}{m:Ha}{g:Gh}{fr:Id}{s:Nat->D}{a:Act}
def G_:TypeDesc->Bool
 | .struct _| .array _ _=>true
 |_=>false
def Ct{t:TypeId}{d:TypeDesc}(z:P.underlying t=some d)(p:G_ d=false){cs:Array Value}{o:Nat}{v:Value}(m:cs[o]?=some v):
  (part t cs o).run P w= .ok v w:=by
 unfold part isAgg;simp only[Sem.run_bind,run_underlying z];cases d<;>simp_all [G_]
def EK{k:Nat}{x y:D}{i e:Value}{b:Bool}{t:TypeId}{v:TypeDesc}(q:Rep w g x i)(o:Rep w g y e)(h:L3 k x y=some b)(z:P.underlying t=some v)
  (j:(k=0∧∃k,v= .int k)∨(k=1∧v= .bool)∨(k=2∧v= .string)) (n:Nat):(Op.equalIn (n+1) t i e).run P w= .ok b w:=by
 unfold L3 at h;split at h
 ·rename_i m a k2 r;split at h
  ·rename_i s;subst s;simp only[Qa]at h;subst h;rw[q.int_inv,o.int_inv];rcases j with ⟨_,c,rfl⟩|⟨u,_⟩|⟨u,_⟩
   ·exact run_equalIn_int w n t _ _ _ _ z
   ·cases u
   ·cases u
  ·cases h
 ·simp only[Qa]at h;subst h;rw[q.bool_inv,o.bool_inv];rcases j with ⟨u,_⟩|⟨_,rfl⟩|⟨u,_⟩
  ·cases u
  ·exact run_equalIn_bool' w n t _ _ z
  ·cases u
 ·simp only[Qa]at h;subst h;rw[q.str_inv,o.str_inv];rcases j with ⟨u,_⟩|⟨u,_⟩|⟨_,rfl⟩
  ·cases u
  ·cases u
  ·rw[run_equalIn_string w n t _ _ z];simp[ByteArray.toList_mk]
 ·cases h
def MQ{xs ys:List D}{vx vy:List Value}(q:AX w g xs vx)(m:AX w g ys vy)(n:Nat):∀{fs:List Field} {l:List (Nat×Nat)} {b:Bool},
  Mc P fs=some l->Bi xs ys l=some b->(Op.eqFields (n+1) vx.toArray vy.toArray fs).run P w= .ok b w
 |[],l,b,h1,h2=>by
  simp only[Mc,Qa]at h1;subst h1;simp only[Bi,Qa]at h2;subst h2;rfl
 |f::r,l,b,h1,h2=>by
  unfold Mc at h1;split at h1
  ·cases h1
  rename_i t;have z:∃k s i,P.underlying f.type=some i∧Mc P r=some s∧l=(k,f.offset)::s∧((k=0∧∃k,i= .int k)∨(k=1∧i= .bool)∨(k=2∧i= .string)):=by
   grind
  obtain⟨k,s,i,hu,hl,rfl,j⟩:=z;unfold Bi at h2;split at h2
  ·rename_i x y u ey;have c:f.offset<vx.length:=by rw[q.1];exact(Qf.1 u).1
   have a:f.offset<vy.length:=by rw[m.1];exact(Qf.1 ey).1
   have rx:=q.2.2 _ x vx[f.offset] u (Qc c);have ry:=m.2.2 _ y vy[f.offset] ey (Qc a);have p:G_ i=false:=YW
   have px:=Ct (w:=w) hu p (cs:=vx.toArray) (o:=f.offset) (v:=vx[f.offset]) (by simp[c]);have py:=Ct (w:=w) hu p (cs:=vy.toArray) (o:=f.offset) (v:=vy[f.offset]) (by simp[a]);have ih:=λb' (hb:Bi xs ys s=some b')=>MQ q m n hl hb
   split at h2
   ·rename_i he;have e:=EK rx ry he hu j n;simp only[Op.eqFields,ne_eq,t,not_false_eq_true,if_true,Sem.run_bind,px,Result.andThen_ok,py,e,Zs,QH,if_false];exact ih b h2
   ·rename_i he;have e:=EK rx ry he hu j n;simp only[Qa]at h2;subst h2;simp only[Op.eqFields,ne_eq,t,not_false_eq_true,if_true,Sem.run_bind,px,Result.andThen_ok,py,e,Zb,if_true,Sem.run_pure]
   ·cases h2
  ·cases h2
def AX.part{ds:List D}{vs:List Value}(h:AX w g ds vs)(o n:Nat):AX w g ((ds.drop o).take n) ((vs.drop o).take n):=by
 refine⟨by simp[h.1],λv m=>h.2.1 v (Qx (QC m)),λj d v p m=>?_⟩;rw[Zt]at p m;split at p
 ·rw[if_pos (by assumption)]at m;rw[Qw]at p m;exact h.2.2 _ d v p m
 ·cases p
def LP{xs ys:List D}{o n:Nat}{l:List (Nat×Nat)}{b:Bool}:∀{s:List (Nat×Nat)},(s.all λp=>decide (p.2<n))=true->Bi xs ys ((s.map λp=>(p.1,o+p.2))++l)=some b->
  ∃f,Bi ((xs.drop o).take n) ((ys.drop o).take n) s=some f∧(f=true->Bi xs ys l=some b)∧(f=false->b=false)
 |[],_,h=>⟨true,rfl,λ_=>h,λh=>Xc⟩
 |(k,q)::r,hn,h=>by
  rw[List.all_cons,QU,decide_eq_true_eq]at hn;obtain⟨g,j⟩:=hn;have u:∀zs:List D,((zs.drop o).take n)[q]?=zs[o+q]?:=λzs=>by
   rw[Zt,if_pos g,Qw]
  simp only[Qs,Q2,Bi]at h ⊢;rw[u,u];split at h
  ·rename_i x y w m;revert h;cases L3 k x y with
   |none=>intro h;cases h
   |some v=>
    cases v with
    |true=>intro h;exact LP j h
    |false=>
     intro h;simp only[Qa]at h;exact⟨false,rfl,λe=>(nomatch e),λ_=>h.symm⟩
  ·cases h
def Ia{t:TypeId}{n:Nat}{v:Array Field}(z:P.underlying t=some (.struct v))(g:CR P t=some n){cs:List Value}{o:Nat}:
  (part t cs.toArray o).run P w= .ok (.agg ((cs.drop o).take n).toArray) w:=by
 unfold CR at g;rw[Qb]at g;obtain⟨i,hi,rfl⟩:=g;unfold part isAgg;simp only[Sem.run_bind,run_underlying z,Result.andThen_ok,Sem.run_pure,if_true];simp[sizeOf,typeInfo,hi,List.extract]
def FW{xs ys:List D}{vx vy:List Value}(s:AX w g xs vx)(m:AX w g ys vy)(n:Nat):∀{fs:List Field} {l:List (Nat×Nat)} {b:Bool},
  FK P fs=some l->Bi xs ys l=some b->(Op.eqFields (n+2) vx.toArray vy.toArray fs).run P w= .ok b w
 |[],l,b,h1,h2=>by
  simp only[FK,Qa]at h1;subst h1;simp only[Bi,Qa]at h2;subst h2;rfl
 |f::r,l,b,h1,h2=>by
  unfold FK at h1;split at h1
  ·cases h1
  rename_i ga;have z:(∃k l' td,P.underlying f.type=some td∧FK P r=some l'∧l=(k,f.offset)::l'∧((k=0∧∃k,td= .int k)∨(k=1∧td= .bool)∨(k=2∧td= .string)))∨
    ∃d l' l2 sz,P.underlying f.type=some (.struct d)∧FK P r=some l'∧CR P f.type=some sz∧Mc P d.toList=some l2∧P.stoodInHeld f.type=false∧(l2.all λp=>decide (p.2<sz))=true∧l=(l2.map λp=>(p.1,f.offset+p.2))++l':=by
   split at h1
   ·simp_all
   ·simp_all
   ·simp_all
   ·grind
   ·cases h1
  rcases z with ⟨k,l',td,hu,hl,rfl,j⟩|⟨d,l',l2,sz,hu,hl,i,pa,hp,ja,rfl⟩
  ·unfold Bi at h2;split at h2
   ·rename_i x y ex ey;have c:f.offset<vx.length:=by rw[s.1];exact(Qf.1 ex).1
    have a:f.offset<vy.length:=by rw[m.1];exact(Qf.1 ey).1
    have rx:=s.2.2 _ x vx[f.offset] ex (Qc c);have ry:=m.2.2 _ y vy[f.offset] ey (Qc a);have t:G_ td=false:=YW
    have px:=Ct (w:=w) hu t (cs:=vx.toArray) (o:=f.offset) (v:=vx[f.offset]) (by simp[c]);have py:=Ct (w:=w) hu t (cs:=vy.toArray) (o:=f.offset) (v:=vy[f.offset]) (by simp[a]);have ih:=λb' (hb:Bi xs ys l'=some b')=>FW s m n hl hb
    split at h2
    ·rename_i he;have e:=EK rx ry he hu j (n+1);simp only[Op.eqFields,ne_eq,ga,not_false_eq_true,if_true,Sem.run_bind,px,Result.andThen_ok,py,e,Zs,QH,if_false];exact ih b h2
    ·rename_i he;have e:=EK rx ry he hu j (n+1);simp only[Qa]at h2;subst h2;simp only[Op.eqFields,ne_eq,ga,not_false_eq_true,if_true,Sem.run_bind,px,Result.andThen_ok,py,e,Zb,if_true,Sem.run_pure]
    ·cases h2
   ·cases h2
  ·obtain⟨b2,na,u,hf⟩:=LP ja h2;have px:=Ia (w:=w) hu i (cs:=vx) (o:=f.offset);have py:=Ia (w:=w) hu i (cs:=vy) (o:=f.offset);have q:P.fieldsOf f.type=d:=by simp[Program.fieldsOf,hu]
   have e:(Op.equalIn (n+2) f.type (.agg ((vx.drop f.offset).take sz).toArray) (.agg ((vy.drop f.offset).take sz).toArray)).run P w= .ok b2 w:=by
    rw[run_equalIn_struct w (n+1) f.type _ _ (by rw[q];exact hu) hp,q];exact MQ (s.part f.offset sz) (m.part f.offset sz) n pa na
   cases b2 with
   |true=>
    simp only[Op.eqFields,ne_eq,ga,not_false_eq_true,if_true,Sem.run_bind,px,Result.andThen_ok,py,e,Zs,QH,if_false];exact FW s m n hl (u rfl)
   |false=>
    rw[hf rfl];simp only[Op.eqFields,ne_eq,ga,not_false_eq_true,if_true,Sem.run_bind,px,Result.andThen_ok,py,e,Zb,if_true,Sem.run_pure]
def Uw{xs ys:List D}{i u:Value}{b:Bool}{t:TypeId}{v:Array Field}{l:List (Nat×Nat)}(q:Rep w g (.agg xs) i)(o:Rep w g (.agg ys) u)
  (z:P.underlying t=some (.struct v)) (c:P.stoodInHeld t=false) (a:P.eqGuardType P.depth t=false) (hl:FK P v.toList=some l) (h:Bi xs ys l=some b) (x y:Operand) (op:BinOp):
  (Op.equal t i u).run P w= .ok b w∧(eqGuard op t x y i u).run P w= .ok () w:=by
 obtain⟨n,rfl,r⟩:=aI q;obtain⟨m,rfl,j⟩:=aI o;constructor
 ·have k:P.fieldsOf t=v:=by simp[Program.fieldsOf,z]
  unfold Op.equal Op.maxDepth;rw[run_equalIn_struct w 9999 t _ _ (by rw[k];exact z) c,k];exact FW r j 9997 hl h
 ·cases op<;>first|rfl|(simp[eqGuard,a])
def RG:Value->Bool
 | .int .. | .string .. | .float .. | .complex ..=>false
 |_=>true
def Uz{t:TypeId}{i u:Value}{b:Bool}(m:RG i=true)(ne:Bool)(h:(Op.equal t i u).run P w= .ok b w):
  (binOp (if ne then .neq else .eql) t i u).run P w= .ok (.bool (b !=ne)) w:=by
 cases ne<;>cases i<;>first|(simp[RG]at m;done)|(cases u<;>simp[binOp,h])
def aCA:Nat->TypeDesc->Prop
 |0,d=>∃e,d= .slice e
 |1,d=>∃e,d= .pointer e
 |2,d=>∃e,d= .interface e
 |3,d=>∃p r v,d= .func p r v
 |_,_=>False
def bY{k:Nat}{x y:D}{i m:Value}{b:Bool}{t:TypeId}{td:TypeDesc}(s:Rep w g x i)(o:Rep w g y m)(h:MI k x y=some b)(z:P.underlying t=some td)
  (j:aCA k td) (n:Nat):(Op.equalIn (n+1) t i m).run P w= .ok b w∧RG i=true∧(∀cs,i≠ .agg cs)∧(i= .nilIface->k=2):=by
 unfold MI at h;split at h<;>first|(exfalso;simp at h;done)|(simp only[Qa]at h;subst h)
 ·obtain⟨e,rfl⟩:=j;obtain⟨ad,c,rfl,rfl⟩:=s.len_slice;obtain⟨a,c',rfl,f⟩:=o.len_slice;have:a=none:=by
   simp_all
  subst this;refine⟨?_,rfl,U,U⟩;cases ad<;>simp[Op.equalIn,run_underlying z]
 ·obtain⟨e,rfl⟩:=j;obtain⟨ad,c,rfl,q⟩:=s.len_slice;obtain⟨a,c',rfl,rfl⟩:=o.len_slice;have:ad=none:=by
   simp_all
  subst this;refine⟨?_,rfl,U,U⟩;simp[Op.equalIn,run_underlying z]
 ·obtain⟨e,rfl⟩:=j;rw[s.nilp_inv,o.nilp_inv];exact⟨Xr,rfl,U,U⟩
 ·obtain⟨e,rfl⟩:=j;obtain⟨b,rfl,_⟩:=o.ptr_inv;rw[s.nilp_inv];exact⟨Xr,rfl,U,U⟩
 ·obtain⟨e,rfl⟩:=j;obtain⟨b,rfl,_⟩:=s.ptr_inv;rw[o.nilp_inv];exact⟨Xr,rfl,U,U⟩
 ·obtain⟨e,rfl⟩:=j;obtain⟨ad,vv,rfl,_⟩:=o.eptr_inv;rw[s.nilp_inv];exact⟨Xr,rfl,U,U⟩
 ·obtain⟨e,rfl⟩:=j;obtain⟨ad,vv,rfl,_⟩:=s.eptr_inv;rw[o.nilp_inv];exact⟨Xr,rfl,U,U⟩
 ·obtain⟨e,rfl⟩:=j;rw[s.nili_inv,o.nili_inv];exact⟨Xr,rfl,U,λ_=>rfl⟩
 ·obtain⟨e,rfl⟩:=j;obtain⟨u,rfl,_,_⟩:=o.iface_inv;rw[s.nili_inv];exact⟨Xr,rfl,U,λ_=>rfl⟩
 ·obtain⟨e,rfl⟩:=j;obtain⟨u,rfl,_,_⟩:=s.iface_inv;rw[o.nili_inv];exact⟨Xr,rfl,U,U⟩
 ·obtain⟨p,r,v,rfl⟩:=j;rw[s.nilf_inv,o.nilf_inv];exact⟨Xr,rfl,U,U⟩
 ·obtain⟨p,r,v,rfl⟩:=j;obtain⟨vs,rfl,_⟩:=o.fn_inv;rw[s.nilf_inv];exact⟨Xr,rfl,U,U⟩
 ·obtain⟨p,r,v,rfl⟩:=j;obtain⟨vs,rfl,_⟩:=s.fn_inv;rw[o.nilf_inv];exact⟨Xr,rfl,U,U⟩
def dJ(op:BinOp)(t:TypeId)(x y:Operand)(i u:Value)(h:∀cs,i≠ .agg cs)(f:i= .nilIface->(GQ x||GQ y)=true)(W:World):(eqGuard op t x y i u).run P W= .ok () W:=by
 cases i with
 |nilIface=>
  have:=f rfl;cases op<;>first|rfl|(cases u<;>first|rfl|(cases x<;>cases y<;>first|rfl|(simp[GQ]at this)))
 |agg c=>exact absurd rfl (h c)
 |_=>cases op<;>rfl
end
def sY{P:Program}{t n:Nat}(h:CR P t=some n):∃i,P.info? t=some i∧i.size=n:=by
 simp_all [CR]
def Hh{P:Program}{t n:Nat}(h:CR P t=some n)(w:World):(sizeOf t).run P w= .ok n w:=by
 obtain⟨i,hi,rfl⟩:=sY h;simp[sizeOf,typeInfo,hi]
def H3{P:Program}{t:TypeId}{d:TypeDesc}(h:P.underlying t=some d)(w:World):(isAgg t).run P w= .ok (G_ d) w:=by
 unfold isAgg;simp only[Sem.run_bind,run_underlying h,Result.andThen_ok];cases d<;>rfl
def Rep.un1{w:World}{g:Gh}{d:D}{v:Value}(h:Rep w g d v):Rep w g d.un1 v:=by
 cases h with
 |nils t=>exact .nils []
 |slice t xs a n c sz r u y x p m h6 j h8 z=>exact .slice [] xs a n c sz r u y x p m h6 j (λh=>absurd rfl h) z
 |junk v=>exact .junk v
 |bool b=>exact .bool b
 |int k n=>exact .int k n
 |str s=>exact .str s
 |ptr i o b u=>exact .ptr i o b u
 |row i n c b q u=>exact .row i n c b q u
 |eptr ds a r u y x p m=>exact .eptr ds a r u y x p m
 |nilp=>exact .nilp
 |agg ds vs u y x=>exact .agg ds vs u y x
 |tup ds vs u y=>exact .tup ds vs u y
 |iface t d v u y=>exact .iface t d v u y
 |nili=>exact .nili
 |fn f ds vs u y=>exact .fn f ds vs u y
 |nilf=>exact .nilf
 |nilm=>exact .nilm
 |itp i b u=>exact .itp i b u
def Rep.un{w:World}{g:Gh}{d:D}{v:Value}(h:Rep w g d v):Rep w g d.un v:=by
 cases d with
 |agg cs=>
  obtain⟨vs,rfl,u,y,i⟩:=aI h;refine .agg _ vs (by simp[u]) y (λj d v p m=>?_);rw[Qj,Qb]at p;obtain⟨n,e,rfl⟩:=p;exact(i j n v e m).un1
 |slice nl t xs=>exact h.un1
 |_=>exact h
def aF3{d:D}(h:d.data=true):d.un.data=true:=by cases d<;>first|exact h|rfl
theorem PM(d:D):d.un.cells.length=d.cells.length:=by cases d<;>simp[D.un,D.cells]
def Rn{P:Program}{t:TypeId}(h:pL P t=some none):∃d,P.underlying t=some d∧G_ d=false:=by
 unfold pL at h;split at h
 ·simp at h
 ·simp at h
 ·rename_i d n1 n2 p;refine⟨d,p,?_⟩;cases d<;>first|rfl|(exact absurd rfl (n1 _))|(exact absurd rfl (n2 _ _))
 ·cases h
def Rm{P:Program}{t n:Nat}(h:pL P t=some (some n)):∃d,P.underlying t=some d∧G_ d=true∧CR P t=some n:=by
 unfold pL at h;split at h
 ·rename_i p;simp only[Qb,Qa]at h;obtain⟨x,q,rfl⟩:=h;exact⟨_,p,rfl,q⟩
 ·rename_i p;simp only[Qb,Qa]at h;obtain⟨x,q,rfl⟩:=h;exact⟨_,p,rfl,q⟩
 ·simp at h
 ·cases h
def Cl{sz:Nat}:∀{xs:List D},(∀d∈xs,d.cells.length=sz)->(flat xs).length=xs.length*sz
 |[],_=>XL
 |x::r,h=>by
  have ih:=Cl (xs:=r) (λd p=>h d (Qq _ p));simp only[flat,Zu,Qo,ih,h x (Qn ..),QQ,Nat.one_mul];omega
theorem Er{sz:Nat}:∀{xs:List D} {k j:Nat},(∀d∈xs,d.cells.length=sz)->(s:k<xs.length)->j<sz->(flat xs)[k*sz+j]?=(xs[k]).cells[j]?
 |x::r,0,j,h,s,hj=>by
  simp only[flat,Nat.zero_mul,Qu,List.getElem_cons_zero];rw[Qm (by rw[h x (Qn ..)];exact hj)]
 |x::r,k+1,j,h,s,hj=>by
  have q:=h x (Qn ..);have ih:=Er (xs:=r) (k:=k) (j:=j) (λd p=>h d (Qq _ p)) XT hj;simp only[flat,List.getElem_cons_succ];rw[QG (by rw[q,QQ];omega),q,←ih];congr 1;rw[QQ];omega
def TI{sz:Nat}:∀{xs:List D} (l:Nat),(∀d∈xs,d.cells.length=sz)->flat (xs.drop l)=(flat xs).drop (l*sz)
 |[],l,_=>XL
 |x::r,0,_=>U
 |x::r,l+1,h=>by
  have q:=h x (Qn ..);rw[List.drop_succ_cons,TI l (λd p=>h d (Qq _ p))];simp only[flat];rw[show(l+1)*sz=x.cells.length+l*sz by rw[q,QQ];omega,←Zo,List.drop_left]
def IU:∀(xs ys:List D),flat (xs++ys)=flat xs++flat ys
 |[],ys=>XL
 |x::r,ys=>by simp[flat,IU r ys]
def SC{sz:Nat}{xs:List D}{n:Nat}{j:Nat}{d:D}(h:(flat (xs.take n))[j]?=some d):(flat xs)[j]?=some d:=by
 have e:flat xs=flat (xs.take n)++flat (xs.drop n):=by rw[←IU,List.take_append_drop]
 rw[e,Qm (Qf.1 h).1];exact h
def xK(l:List UInt8)(n:Nat):(ByteArray.mk l.toArray)[n]?=l[n]?:=by
 by_cases h:n<l.length
 ·rw[Qc h];rw[getElem?_pos (ByteArray.mk l.toArray) n (by simpa[ByteArray.size]using h)];rfl
 ·rw[Qk O];exact getElem?_neg (ByteArray.mk l.toArray) n (by simpa[ByteArray.size]using h)
def SE(l:List UInt8)(a b:Nat):(ByteArray.mk l.toArray).extract a b=⟨((l.drop a).take (b-a)).toArray⟩:=by
 apply ByteArray.ext;rw[ByteArray.data_extract];simp[Q7,QV]
section
variable{P:Program}{B:Nat}{w0 w:World}{m:Ha}{g:Gh}{fr:Id}{s:Nat->D}{a:Act}
theorem FM(h:Dg w g s a){x:Option Operand}{y:Option Hd}(hx:Iy x=some y){b j n:Nat}(f:FO s y b j=some n):
  (x=none∧n=b∧y=none)∨(∃o k,x=some o∧a.eval o= .int k (n:Int)∧n<=j):=by
 cases x with
 |none=>
  simp only[Iy,Qa]at hx;subst hx;simp only[FO,Qa]at f;exact .inl ⟨rfl,f.symm,rfl⟩
 |some o=>
  simp only[Iy,Qb]at hx;obtain⟨z,u,rfl⟩:=hx;have hr:=h.arg u;simp only[FO]at f;split at f
  ·rename_i k q r;rw[r]at hr;split at f
   ·rename_i t;simp only[Qa]at f;refine .inr ⟨o,k,rfl,?_,O⟩;rw[hr.int_inv];congr 1;omega
   ·cases f
  ·cases f
def Ew(h:Dg w g s a){lo hi:Option Operand}{r f:Option Hd}(na:Iy lo=some r)(y:Iy hi=some f)(x:Bool){len cap l v:Nat}(n:len<=cap)
  (q:FO s f len len=some v) (m:FO s r 0 v=some l):
  (Instr.sliceBounds x len cap (lo.map a.eval) (hi.map a.eval) none).run P w= .ok (l,v,cap) w∧l<=v∧v<=len:=by
 have ta:v<=len:=by
  grind [FM]
 have b:l<=v:=by
  grind [FM]
 refine⟨?_,b,ta⟩;unfold Instr.sliceBounds;rcases FM h y q with ⟨rfl,rfl,_⟩|⟨o,k,rfl,i,u⟩<;>rcases FM h na m with ⟨rfl,rfl,_⟩|⟨o',k',rfl,c,z⟩
 ·simp
 ·simp[Instr.sliceBound,asIntOf,c];intro;omega
 ·simp[Instr.sliceBound,asIntOf,i];intro;omega
 ·simp[Instr.sliceBound,asIntOf,i,c];rw[if_pos O];simp;intro;omega
end
section
variable{P:Program}{B:Nat}{w0 w:World}{m:Ha}{g:Gh}{fr:Id}{s:Nat->D}{a:Act}
theorem BE:∀{n o:Nat} {i:Id} {ds:List D},Ag m i o n=some ds->ds.length=n∧∀j,j<n->m i (o+j)=ds[j]?
 |0,o,i,ds,h=>by simp only[Ag,Qa]at h;subst h;simp
 |n+1,o,i,ds,h=>by
  unfold Ag at h;split at h
  ·rename_i d s;rw[Qb]at h;obtain⟨r,x,rfl⟩:=h;obtain⟨p,q⟩:=BE x;refine⟨by simp[p],λj b=>?_⟩;cases j with
   |zero=>simpa using s
   |succ j=>
    have:=q j O;rw[show o+(j+1)=o+1+j by omega,this];simp
  ·cases h
def Hi.cells(h:Hi P B w0 m w g){i:Id}{b o n:Nat}{ds:List D}(f:g.dl i=some b)(x:Ag m i o n=some ds):
  ∃vs:List Value,AX w g ds vs∧∀j v,vs[j]?=some v->w.cell? ⟨b,o+j,none⟩=some v:=by
 obtain⟨_,_,cs,T,k,s⟩:=h.obj i b f;obtain⟨hl,a⟩:=BE x;have z:∀j,j<n->∃d v,ds[j]?=some d∧cs[o+j]?=some v∧v.oneCell'=true∧Rep w g d v:=by
  simp_all
 refine⟨(Qt n).map λj=>cs.getD (o+j) undef,⟨by simp[hl],λv r=>?_,λj d v p r=>?_⟩,λj v r=>?_⟩
 ·rw[Qv]at r;obtain⟨j,q,rfl⟩:=r;obtain⟨d,v,_,c,e,_⟩:=z j (Ql.1 q);rw[Qh,c];exact e
 ·have q:j<n:=by have:=(Qf.1 p).1;omega
  obtain⟨y,u,t,c,e,r3⟩:=z j q;rw[t]at p;simp only[Qa]at p;subst p;rw[Qj,Zq q,QY,Qa,Qh,c]at r;subst r;exact r3
 ·have q:j<n:=by have:=(Qf.1 r).1;simpa using this
  obtain⟨y,u,t,c,e,r3⟩:=z j q;rw[Qj,Zq q,QY,Qa,Qh,c]at r;subst r;simp[World.cell?,k,c]
def Hi.cell(h:Hi P B w0 m w g){i:Id}{b o:Nat}{d:D}(f:g.dl i=some b)(j:m i o=some d):
  ∃v,w.cell? ⟨b,o,none⟩=some v∧v.oneCell'=true∧Rep w g d v:=by
 obtain⟨_,_,cs,T,k,z⟩:=h.obj i b f;obtain⟨v,c,e,p⟩:=z _ _ j;exact⟨v,by simp[World.cell?,k,c],e,p⟩
def FV(b o j:Nat):(⟨b,o,none⟩:Addr).add j=⟨b,o+j,none⟩:=by unfold Addr.add;split<;>simp_all
def D_{t:TypeId}(s:pL P t=some none){ad:Addr}{v:Value}(z:w.cell? ad=some v):(loadVar t ad).run P w= .ok v w:=by
 obtain⟨d,c,p⟩:=Rn s;simp[loadVar,H3 c,p,z]
def Ey{t n:Nat}(s:pL P t=some (some n)){ad:Addr}{vs:List Value}(hl:vs.length=n)(z:∀j v,vs[j]?=some v->w.cell? (ad.add j)=some v):
  (loadVar t ad).run P w= .ok (.agg vs.toArray) w:=by
 obtain⟨d,c,p,g⟩:=Rm s;subst hl;simp[loadVar,H3 c,p,Hh g,run_loadCells_list w ad vs z]
def Su{t n:Nat}(g:CR P t=some n){b o:Nat}{cs:Array Value}{T:TypeId}(z:w.heap[b]?=some (.cells cs T (0,0))){v:Value}(m:v.cells.size=n)
  (q:∀u∈v.cells.toList,u.oneCell'=true) (i:o+n<=cs.size):
  (storeVar t ⟨b,o,none⟩ v).run P w= .ok () (w.setRow b (cs.toList.take o++v.cells.toList++cs.toList.drop (o+v.cells.toList.length)).toArray):=by
 unfold storeVar;simp only[Sem.run_bind,Hh g,Result.andThen_ok];rw[if_neg (by simp[m])];have:=run_storeCells_at (P:=P) b o T v.cells.toList 0 cs w z (by simp[m];omega) q;simpa using this
def GL(e:TypeId)(cells:Array Value)(w:World):(newRow e cells).run P w= .ok ⟨w.heap.size,0,none⟩ (w.alloc (.cells cells e)):=by
 simp only[newRow,Sem.run_bind,run_newObj,Result.andThen_ok,Sem.run_pure];rfl
def AX.flat{sz:Nat}:∀{xs:List D} {vs:List Value},(∀d∈xs,d.data=true∧d.cells.length=sz)->vs.length=xs.length->(∀(j:Nat) d v,xs[j]?=some d->vs[j]?=some v->Rep w g d v)->
  AX w g (flat xs) (vs.flatMap λv=>v.cells.toList)
 |[],vs,_,hl,_=>by
  have:vs=[]:=QN Xj;subst this;exact AX.nil w g
 |x::r,[],_,hl,_=>by cases hl
 |x::r,v::vs,h,hl,hr=>by
  have f:=hr 0 x v rfl rfl;simp only[Vd.flat,Zd];exact AX.append (f.cells (h x (Qn ..)).1) (AX.flat (λd p=>h d (Qq _ p)) Xj (λj d u p z=>hr (j+1) d u Xw XP))
def aG{t:Id}{xs:List D}{vs:List Value}{b n c sz:Nat}{cur:Array Value}{T:TypeId}{fz:Nat×Nat}(k:w.heap[b]?=some (.cells cur T fz))(r:n=xs.length)(z:n<=c)
  (q:∀d∈xs,d.cells.length=sz) (x:AX w g (flat xs) vs) (m:∀(j:Nat) v,vs[j]?=some v->cur[j]?=some v) (a:n*sz<=g.G b) (u:t≠[]->g.tb t=some (b,n,c,sz)) (y:∀d∈xs,d.calm=true):
  Rep w g (.slice false t xs) (.slice (some ⟨b,0,none⟩) n c):=by
 have f:=Cl q;have i:vs.length=n*sz:=by rw[x.1,f,r]
 refine .slice t xs ⟨b,0,none⟩ n c sz (λj=>vs.getD j undef) r z q (λj hj=>?_) (λj hj=>?_) (λj d p=>?_) (λ_=>by simpa using a) (λh=>⟨rfl,rfl,u h⟩) y
 ·have o:j<vs.length:=by omega
  rw[FV,Qu];have:=m j vs[j] (Qc o);simp[World.cell?,k,this,Q0,Qc o]
 ·have o:j<vs.length:=by omega
  simp only[Q0,Qc o,QF];exact x.2.1 _ (Q1 o)
 ·have o:j<vs.length:=by have:=(Qf.1 p).1;rw[x.1];exact this
  simp only[Q0,Qc o,QF];exact x.2.2 j d _ p (Qc o)
def OF:∀(vs:List Value)(k:Nat)(off:Nat)(cs:Array Value),off+k+vs.length<=cs.size->
  ((vs.zipIdx k).foldl (λcs (x:Value×Nat)=>cs.setIfInBounds (off+x.2) x.1) cs).toList=cs.toList.take (off+k)++vs++cs.toList.drop (off+k+vs.length)
 |[],k,off,cs,_=>U
 |v::r,k,off,cs,h=>by
  simp only[List.zipIdx_cons,Q8];rw[OF r (k+1) off (cs.setIfInBounds (off+k) v) (by simp at h ⊢;omega)];simp only[Array.toList_setIfInBounds,Qo];have hl:off+k<cs.toList.length:=by simp at h ⊢;omega
  rw[show off+(k+1)=off+k+1 by omega];rw[List.take_succ_eq_append_getElem Xj];rw[List.take_set_of_le O];rw[List.drop_set_of_lt O];simp only[List.getElem_set_self,QL,Q2,Zl];rw[show off+k+1+r.length=off+k+(r.length+1)by omega]
def Ff(vs:Array Value)(off:Nat)(cs:Array Value)(h:off+vs.size<=cs.size):
  (vs.zipIdx.foldl (λcs (x:Value×Nat)=>cs.setIfInBounds (off+x.2) x.1) cs).toList=cs.toList.take off++vs.toList++cs.toList.drop (off+vs.toList.length):=by
 have:=OF vs.toList 0 off cs Xo;rw[←Array.foldl_toList,Array.toList_zipIdx];simpa using this
end
structure At (P:Program) (B:Nat) (w0 w:World) (m:Ha) (g:Gh) (fr:Id) (s:Nat->D) (a:Act):Prop where
 inv:Hi P B w0 m w g
 slots:Dg w g s a
 fresh:∀i,fr<:+i->B0 m g i
section
variable{P:Program}{B:Nat}{w0 w:World}{m:Ha}{g:Gh}{fr:Id}{s:Nat->D}{a:Act}{S:G8}{d:D}{u:Hf}
def At.self(h:At P B w0 w m g fr s a):B0 m g fr:=h.fresh fr (List.suffix_refl fr)
def EL{i:Id}(k:B0 m g i)(t:¬fr<:+i)(ds:List D)(b:Nat):B0 (m.put fr 0 ds) (g.obj fr b) i:=by
 have:i≠fr:=λe=>t Ym
 exact⟨λo=>by rw[aA this];exact k.1 o,by simp only[Gh.obj];rw[if_neg this];exact k.2.1,k.2.2⟩
def CU{i:Id}(k:B0 m g i)(t:¬fr<:+i)(x b n c sz:Nat):B0 (m.put fr 0 [.tok x]) (g.tok fr b n c sz) i:=by
 have:i≠fr:=λe=>t Ym
 exact⟨λo=>by rw[aA this];exact k.1 o,k.2.1,by simp only[Gh.tok];rw[if_neg this];exact k.2.2⟩
def lK{t:TypeId}{o:Oper}(h:At P B w0 w m g fr s a){z:D}(u:C6 P t=some z)(ho:o.op= .alloc t):
  CZ P B w0 m g fr w (m.put fr 0 z.cells) (.ptr fr 0) (execOp a.eval o):=by
 unfold C6 at u;split at u
 ·rename_i i hi;split at u
  ·rename_i v r;have j:Rep w g z v:=Rep.ofVal u;have p:z.data=true:=by
    cases v<;>first|(simp only[ofVal,Qb]at u;obtain⟨l,_,rfl⟩:=u;rfl)|(simp only[ofVal]at u;exact OJ u)
   have n:=j.cells p;refine⟨.pointer (some ⟨w.heap.size,0,none⟩),w.alloc (.cells v.cells t),g.obj fr w.heap.size,.value (.pointer (some ⟨w.heap.size,0,none⟩)),?_,.inl rfl,?_⟩
   ·simp only[execOp,ho,Instr.alloc,zeroValue,Sem.run_bind,typeInfo,run_program,Result.andThen_ok,hi,r,Sem.run_pure,newVar,GL]
   ·have:=h.inv.newObj h.self (ds:=z.cells) (vs:=v.cells.toList) t n;rw[QD]at this;exact⟨this,Hr.newObj _ h.inv.gz h.self.2.1,Rep.newObj _ g fr _,λi k e=>EL k e _ _⟩
  ·cases u
 ·cases u
def aCv{t:TypeId}{o:Oper}{x:Operand}{y:Hd}(h:At P B w0 w m g fr s a)(q:AC x=some y)(p:(y.ev s).data=true)(v:o.op= .box t x):
  CZ P B w0 m g fr w (m.put fr 0 (y.ev s).cells) (.ptr fr 0) (execOp a.eval o):=by
 have j:=h.slots.arg q;have z:=j.cells p;refine⟨.pointer (some ⟨w.heap.size,0,none⟩),w.alloc (.cells (a.eval x).cells t),g.obj fr w.heap.size,.value (.pointer (some ⟨w.heap.size,0,none⟩)),?_,.inl rfl,?_⟩
 ·simp only[execOp,v,Instr.box,Sem.run_bind,Result.andThen_ok,Sem.run_pure,newVar,GL]
 ·have:=h.inv.newObj h.self (ds:=(y.ev s).cells) (vs:=(a.eval x).cells.toList) t z;rw[QD]at this;exact⟨this,Hr.newObj _ h.inv.gz h.self.2.1,Rep.newObj _ g fr _,λi k e=>EL k e _ _⟩
def wA{t:TypeId}{o:Oper}{x:Operand}{y:Hd}{k:Option Nat}(h:At P B w0 w m g fr s a)(hk:pL P t=some k)(q:AC x=some y)(ho:o.op= .load t x)
  (z:Ax S s m fr (.load k y)=some (d,u)):u=[]∧CZ P B w0 m g fr w m d (execOp a.eval o):=by
 have hr:=h.slots.arg q;have r:∀ad v,a.eval x= .pointer (some ad)->(loadVar t ad).run P w= .ok v w->(execOp a.eval o).run P w= .ok (.value v) w:=by
  intro ad v e1 e2;simp only[execOp,ho,Instr.loadAt,e1,Instr.sureAddr,Sem.run_bind,Result.andThen_ok,Sem.run_pure,e2]
 simp only[Ax]at z;split at z
 ·rename_i i o' e;rw[e]at hr;obtain⟨b,e1,f⟩:=hr.ptr_inv;rw[Qb]at z;obtain⟨d',hm,z⟩:=z;simp only[Qd]at z;obtain⟨rfl,rfl⟩:=z;obtain⟨v,c1,c2,c3⟩:=h.inv.cell f hm;exact⟨rfl,.pure h.inv (r _ _ e1 (D_ hk c1)) c3⟩
 ·rename_i i o' n e;rw[e]at hr;obtain⟨b,e1,f⟩:=hr.ptr_inv;rw[Qb]at z;obtain⟨ds,hm,z⟩:=z;simp only[Qd]at z;obtain⟨rfl,rfl⟩:=z;obtain⟨vs,c1,c2⟩:=h.inv.cells f hm;have hl:=(BE hm).1;exact⟨rfl,.pure h.inv (r _ _ e1 (Ey hk (by rw[c1.1,hl]) (λj v hv=>by rw[FV];exact c2 j v hv))) (aJ c1)⟩
 ·rename_i ds e;rw[e]at hr;obtain⟨ad,vv,e1,q1,q2,q3,q4,q5⟩:=hr.eptr_inv;rw[Qb]at z;obtain⟨d',hm,z⟩:=z;simp only[Qd]at z;obtain⟨rfl,rfl⟩:=z;have h0:ds[0]?=some d':=by rw[←List.head?_eq_getElem?];exact hm
  have hl:0<ds.length:=(Qf.1 h0).1;exact⟨rfl,.pure h.inv (r _ _ e1 (D_ hk (by have:=q1 0 hl;simpa[Addr.add]using this))) (q3 0 _ h0)⟩
 ·rename_i ds n e;rw[e]at hr;obtain⟨ad,vv,e1,q1,q2,q3,q4,q5⟩:=hr.eptr_inv;split at z
  ·rename_i c;simp only[Qa,Qd]at z;obtain⟨rfl,rfl⟩:=z;have ca:((Qt n).map vv).length=n:=by simp
   refine⟨rfl,.pure h.inv (r _ _ e1 (Ey hk ca (λj v hv=>?_))) (aJ ⟨Xb,λv hv=>?_,λj d v p hv=>?_⟩)⟩
   ·grind
   ·grind
   ·grind
  ·cases z
 ·cases z
theorem lD{t:TypeId}{o:Oper}{x v:Operand}{y z:Hd}{n:Nat}(h:At P B w0 w m g fr s a)(hn:CR P t=some n)(ua:0<n)(q:AC x=some y)(hv:AC v=some z)(ho:o.op= .store t x v)
  (p:Ax S s m fr (.store n y z)=some (d,u)):CZ P B w0 m g fr w (Hf.app m u) d (execOp a.eval o):=by
 have j:=h.slots.arg q;have f:=h.slots.arg hv;simp only[Ax]at p;split at p
 ·rename_i i o' e;rw[e]at j;obtain⟨b,e1,k⟩:=j.ptr_inv;split at p
  ·rename_i hc;obtain⟨c1,c2,c3⟩:=hc;simp only[Qa,Qd]at p;obtain⟨rfl,rfl⟩:=p;rw[Zf]at c3;obtain⟨ia,r⟩:=c3;obtain⟨vs,r1,r2⟩:=h.inv.cells k r;obtain⟨_,_,cs,T,hh,oa⟩:=h.inv.obj i b k;have c:=f.cells c1;have la:(a.eval v).cells.size=n:=by have:=c.1;simp at this;omega
   have ka:o'+n<=cs.size:=by
    have hl:=(BE r).1;have wa:vs[n-1]?=some (vs[n-1]'(by rw[r1.1];omega)):=Qc _;have:=r2 (n-1) _ wa;simp only[World.cell?,hh]at this;have:=(Qe.1 (by simpa using this)).1;omega
   refine⟨undef,w.setRow b (cs.toList.take o'++(a.eval v).cells.toList++cs.toList.drop (o'+(a.eval v).cells.toList.length)).toArray,g,.skip,?_,.inr ⟨rfl,rfl⟩,?_⟩
   ·have:=Su hn hh (v:=a.eval v) la c.2.1 ka;simp only[execOp,ho,Instr.storeAt,e1,Instr.sureAddr,Sem.run_bind,Result.andThen_ok,Sem.run_pure,this]
   ·have hG:=(h.inv.obj i b k).2.1;refine⟨?_,Hr.setRow hG ⟨_,k⟩,.junk _,λi' hf ga=>?_⟩
    ·exact h.inv.store k hh (ds:=(z.ev s).cells) (us:=(a.eval v).cells.toList) c O
    ·refine⟨λo=>?_,hf.2⟩;simp only[Hf.app];rw[aA (by rintro rfl;rw[hf.2.1]at k;cases k)];exact hf.1 o
  ·cases p
 ·cases p
end
section
variable{P:Program}{B:Nat}{w0 w:World}{m:Ha}{g:Gh}{fr:Id}{s:Nat->D}{a:Act}{S:G8}{d:D}{u:Hf}
def lI{t:TypeId}{f:Nat}{o:Oper}{x:Operand}{y:Hd}{v:Array Field}{fd:Field}{n:Nat}(h:At P B w0 w m g fr s a)(hu:P.underlying t=some (.struct v))(hf:v[f]?=some fd)
  (c:CR P fd.type=some (n+1)) (q:AC x=some y) (ho:o.op= .fieldAddr t x f) (z:Ax S s m fr (.faddr fd.offset y)=some (d,u)):u=[]∧CZ P B w0 m g fr w m d (execOp a.eval o):=by
 have hr:=h.slots.arg q;have r:∀ad,a.eval x= .pointer (some ad)->(execOp a.eval o).run P w= .ok (.value (.pointer (some (ad.add fd.offset)))) w:=by
  intro ad e;simp[execOp,ho,Instr.fieldAt,run_underlying hu,hf,e,Instr.sureAddr,fieldPlace,Hh c]
 simp only[Ax]at z;split at z
 ·rename_i i o' e;rw[e]at hr;obtain⟨b,e1,k⟩:=hr.ptr_inv;simp only[Qa,Qd]at z;obtain⟨rfl,rfl⟩:=z;refine⟨rfl,.pure h.inv (r _ e1) ?_⟩;rw[FV];exact .ptr i _ b k
 ·rename_i ds e;rw[e]at hr;obtain⟨ad,vv,e1,q1,q2,q3,q4,q5⟩:=hr.eptr_inv;split at z
  ·rename_i hl;simp only[Qa,Qd]at z;obtain⟨rfl,rfl⟩:=z;refine⟨rfl,.pure h.inv (r _ e1) (.eptr _ _ (λj=>vv (fd.offset+j)) (λj hj=>?_) (λj hj=>?_) (λj d p=>?_) (λhp=>?_) (λd p=>q5 d (Qx p)))⟩
   ·grind [VN]
   ·grind
   ·simp_all
   ·rw[CX,EN];simp at hp ⊢;have:=q4 O;omega
  ·cases z
 ·cases z
def lH{t:TypeId}{f:Nat}{o:Oper}{x:Operand}{y:Hd}{ca:Array Field}{fd:Field}{k:Option Nat}(h:At P B w0 w m g fr s a)(hu:P.underlying t=some (.struct ca))(hf:ca[f]?=some fd)
  (hk:pL P fd.type=some k) (q:AC x=some y) (ho:o.op= .field t x f) (z:Ax S s m fr (.field k fd.offset y)=some (d,u)):u=[]∧CZ P B w0 m g fr w m d (execOp a.eval o):=by
 have hr:=h.slots.arg q;simp only[Ax]at z;split at z
 ·rename_i cs e;rw[e]at hr;obtain⟨vs,e1,r1⟩:=aI hr;rw[Qb]at z;obtain⟨d',p,z⟩:=z;simp only[Qd]at z;obtain⟨rfl,rfl⟩:=z;obtain⟨td,c,b⟩:=Rn hk;have r:fd.offset<vs.length:=by rw[r1.1];exact(Qf.1 p).1
  refine⟨rfl,.pure (v:=vs[fd.offset]) h.inv ?_ (r1.2.2 _ _ _ p (Qc r))⟩;have:=Ct (w:=w) c b (cs:=vs.toArray) (o:=fd.offset) (v:=vs[fd.offset]) (by simp[r]);simp[execOp,ho,Instr.field,run_underlying hu,hf,e1,asAgg,this]
 ·rename_i cs n e;rw[e]at hr;obtain⟨vs,e1,r1⟩:=aI hr;split at z
  ·rename_i hl;simp only[Qa,Qd]at z;obtain⟨rfl,rfl⟩:=z;obtain⟨td,c,b,i⟩:=Rm hk;refine⟨rfl,.pure (v:= .agg ((vs.drop fd.offset).take n).toArray) h.inv ?_ (aJ ⟨by simp[r1.1],λv r=>?_,λj d v p r=>?_⟩)⟩
   ·simp only[execOp,ho,Instr.field,Sem.run_bind,run_underlying hu,hf,e1,asAgg,part,H3 c,b,Result.andThen_ok,Hh i,Sem.run_pure,if_true];congr 3;simp[Q7,QV]
   ·exact r1.2.1 v (Qx (QC r))
   ·have hj:j<n:=by
     rcases Zv j n with h1|h1
     ·exact h1
     ·rw[Qk Xb]at p;cases p
    rw[Qp hj,Qw]at p r;exact r1.2.2 _ d v p r
  ·cases z
 ·cases z
def Mk{d:D}(h:d.calm=true):∀x∈d.cells,x.calm=true:=by
 intro x q;have k:∀x:D,x.calm1=true->x.calm=true:=by
  intro x q;cases x<;>first|exact q|(simp[D.calm1]at q)
 cases d with
 |agg cs=>exact k x (Qy.1 h x q)
 |_=>simp only[D.cells,Q_]at q;subst q;exact h
def lF{t e:TypeId}{o:Oper}{x i:Operand}{y z:Hd}{sz:Nat}(h:At P B w0 w m g fr s a)(hu:P.underlying t=some (.slice e))(hs:CR P e=some sz)
  (hx:AC x=some y) (hi:AC i=some z) (ho:o.op= .indexAddr t x i) (he:Ax S s m fr (.iaddr sz y z)=some (d,u)):u=[]∧CZ P B w0 m g fr w m d (execOp a.eval o):=by
 have hr:=h.slots.arg hx;have aa:=h.slots.arg hi;simp only[Ax]at he;split at he
 ·rename_i nl t' xs k n ex ei;rw[ex]at hr;rw[ei]at aa;split at he
  ·rename_i h0;split at he
   ·rename_i d' hd;split at he
    ·rename_i la;simp only[Qa,Qd]at he;obtain⟨rfl,rfl⟩:=he;have da:n.toNat<xs.length:=(Qf.1 hd).1;rcases hr.slice_inv with ⟨_,rfl,_⟩|⟨rfl,ad,n',c,oa,vv,ev,rfl,h2,h3,h4,h5,h6,h7,h8,h9⟩
     ·simp at da
     ·have p:d'∈xs:=Qr hd;have:oa=sz:=by rw[←h3 d' p];exact la
      subst this;have pa:xs[n.toNat]=d':=by rw[Qc da]at hd;simpa using hd
      have q:n.toNat*oa+oa<=xs.length*oa:=by rw[←Zw];exact QB _ da
      refine⟨rfl,.pure (v:= .pointer (some (ad.add (n.toNat*oa)))) h.inv ?_ (.eptr _ _ (λj=>vv (n.toNat*oa+j)) (λj hj=>?_) (λj hj=>?_) (λj d2 ga=>?_) (λhp=>?_) (Mk (h9 d' p)))⟩
      ·have r:(0:Int)<=n∧n<(xs.length:Int):=by omega
       simp[execOp,ho,Instr.indexAt,asIntOf,aa.int_inv,ev,run_underlying hu,r,Hh hs]
      ·grind [VN]
      ·exact h5 _ O
      ·grind [Er]
      ·rw[CX,EN];have hz:0<xs.length*oa:=by omega
       have:=h7 hz;omega
    ·cases he
   ·cases he
  ·cases he
 ·rename_i i' l k n ex ei;rw[ex]at hr;rw[ei]at aa;split at he
  ·rename_i hc;obtain⟨h0,da⟩:=hc;simp only[Qa,Qd]at he;obtain⟨rfl,rfl⟩:=he;obtain⟨b,cap,ev,_,hb⟩:=hr.row_inv;have gb:(if sz=1 then n.toNat else n.toNat*sz)=n.toNat*sz:=by
    simp_all
   rw[gb];have f:(Addr.mk b 0 none).add (n.toNat*sz)=⟨b,n.toNat*sz,none⟩:=by rw[FV,Qu]
   refine⟨rfl,.pure (v:= .pointer (some ⟨b,n.toNat*sz,none⟩)) h.inv ?_ (.ptr _ _ b hb)⟩;have r:(0:Int)<=n∧n<(l:Int):=⟨h0,da⟩;simp only[←f];simp[execOp,ho,Instr.indexAt,asIntOf,aa.int_inv,ev,run_underlying hu,r,Hh hs]
  ·cases he
 ·cases he
def wB{t:TypeId}{o:Oper}{x i:Operand}{y z:Hd}(h:At P B w0 w m g fr s a)(hu:P.underlying t=some .string)
  (q:AC x=some y) (hi:AC i=some z) (ho:o.op= .index t x i) (r:Ax S s m fr (.idxs y z)=some (d,u)):u=[]∧CZ P B w0 m g fr w m d (execOp a.eval o):=by
 have j:=h.slots.arg q;have p:=h.slots.arg hi;simp only[Ax]at r;split at r
 ·rename_i b k n e ei;rw[e]at j;rw[ei]at p;split at r
  ·rename_i f;rw[Qb]at r;obtain⟨c,hc,r⟩:=r;simp only[Qd]at r;obtain⟨rfl,rfl⟩:=r;refine⟨rfl,.pure (v:= .int .u8 c.toNat) h.inv ?_ (.int _ _)⟩;simp[execOp,ho,Instr.index,asIntOf,p.int_inv,j.str_inv,run_underlying hu,f,xK,hc]
  ·cases r
 ·cases r
def wD{t e:TypeId}{len:Nat}{o:Oper}{x i:Operand}{y z:Hd}(h:At P B w0 w m g fr s a)(hu:P.underlying t=some (.array len e))(hk:pL P e=some none)(hs:CR P e=some 1)
  (q:AC x=some y) (hi:AC i=some z) (ho:o.op= .index t x i) (r:Ax S s m fr (.idxa len y z)=some (d,u)):u=[]∧CZ P B w0 m g fr w m d (execOp a.eval o):=by
 have j:=h.slots.arg q;have p:=h.slots.arg hi;simp only[Ax]at r;split at r
 ·rename_i cs k n ex ei;rw[ex]at j;rw[ei]at p;split at r
  ·rename_i f;rw[Qb]at r;obtain⟨d',hd,r⟩:=r;simp only[Qd]at r;obtain⟨rfl,rfl⟩:=r;obtain⟨vs,e1,r1⟩:=aI j;obtain⟨td,c,b⟩:=Rn hk;have hv:n.toNat<vs.length:=by rw[r1.1];exact(Qf.1 hd).1
   refine⟨rfl,.pure (v:=vs[n.toNat]) h.inv ?_ (r1.2.2 _ _ _ hd (Qc hv))⟩;have:=Ct (w:=w) c b (cs:=vs.toArray) (o:=n.toNat) (v:=vs[n.toNat]) (by simp[hv]);simp[execOp,ho,Instr.index,asIntOf,p.int_inv,run_underlying hu,e1,f,Hh hs,this]
  ·cases r
 ·cases r
def lG{t e:TypeId}{len sz:Nat}{o:Oper}{x i:Operand}{y z:Hd}(h:At P B w0 w m g fr s a)(c:P.underlying t=some (.array len e))(hs:CR P e=some sz)
  (hx:AC x=some y) (hi:AC i=some z) (ho:o.op= .indexAddr t x i) (he:Ax S s m fr (.iadda len sz y z)=some (d,u)):u=[]∧CZ P B w0 m g fr w m d (execOp a.eval o):=by
 have hr:=h.slots.arg hx;have p:=h.slots.arg hi;simp only[Ax]at he;split at he
 ·rename_i j off k n ex ei;rw[ex]at hr;rw[ei]at p;split at he
  ·rename_i hc;obtain⟨h0,q⟩:=hc;simp only[Qa,Qd]at he;obtain⟨rfl,rfl⟩:=he;obtain⟨b,ev,f⟩:=hr.ptr_inv;refine⟨rfl,.pure (v:= .pointer (some ⟨b,off+n.toNat*sz,none⟩)) h.inv ?_ (.ptr _ _ b f)⟩;have r:(0:Int)<=n∧n<(len:Int):=⟨h0,q⟩;simp only[←FV b off (n.toNat*sz)];simp[execOp,ho,Instr.indexAt,asIntOf,Instr.sureAddr,p.int_inv,ev,run_underlying c,r,Hh hs]
  ·cases he
 ·cases he
def wC{t e:TypeId}{len sz:Nat}{o:Oper}{x i:Operand}{y z:Hd}(h:At P B w0 w m g fr s a)(hu:P.underlying t=some (.array len e))(hk:pL P e=some (some sz))
  (q:AC x=some y) (hi:AC i=some z) (ho:o.op= .index t x i) (r:Ax S s m fr (.idxm len sz y z)=some (d,u)):u=[]∧CZ P B w0 m g fr w m d (execOp a.eval o):=by
 have hr:=h.slots.arg q;have p:=h.slots.arg hi;simp only[Ax]at r;split at r
 ·rename_i cs k n ex ei;rw[ex]at hr;rw[ei]at p;split at r
  ·rename_i hc;obtain⟨f,h1,hl⟩:=hc;simp only[Qa,Qd]at r;obtain⟨rfl,rfl⟩:=r;obtain⟨vs,e1,r1⟩:=aI hr;obtain⟨td,c,b,hs⟩:=Rm hk;refine⟨rfl,.pure (v:= .agg ((vs.drop (n.toNat*sz)).take sz).toArray) h.inv ?_ (aJ ⟨by simp[r1.1],λv hv=>?_,λj d v hd hv=>?_⟩)⟩
   ·simp only[execOp,ho,Instr.index,Sem.run_bind,run_underlying hu,e1,p.int_inv,asIntOf,Result.andThen_ok,Sem.run_pure,f,h1,and_self,if_true,Hh hs,part,H3 c,b];congr 3;simp[Q7,QV]
   ·exact r1.2.1 v (Qx (QC hv))
   ·have hj:j<sz:=by
     rcases Zv j sz with h1|h1
     ·exact h1
     ·rw[Qk Xb]at hd;cases hd
    rw[Qp hj,Qw]at hd hv;exact r1.2.2 _ d v hd hv
  ·cases r
 ·cases r
def wE{t:TypeId}{o:Oper}{x:Operand}{lo hi:Option Operand}{y:Hd}{r p:Option Hd}(h:At P B w0 w m g fr s a)(c:P.underlying t=some .string)
  (q:AC x=some y) (na:Iy lo=some r) (ra:Iy hi=some p) (i:o.op= .slice t x lo hi none) (z:Ax S s m fr (.cuts y r p)=some (d,u)):
  u=[]∧CZ P B w0 m g fr w m d (execOp a.eval o):=by
 have j:=h.slots.arg q;simp only[Ax]at z;split at z
 ·rename_i b e;rw[e]at j;split at z
  ·rename_i hh n;split at z
   ·rename_i l el;simp only[Qa,Qd]at z;obtain⟨rfl,rfl⟩:=z;obtain⟨f,_,_⟩:=Ew (P:=P) (w:=w) h.slots na ra false (len:=b.length) (cap:=b.length) (Qi _) n el;refine⟨rfl,.pure (v:= .string ⟨((b.drop l).take (hh-l)).toArray⟩) h.inv ?_ (.str _)⟩;have k:(ByteArray.mk b.toArray).size=b.length:=by simp[ByteArray.size]
    simp only[execOp,i,Instr.sliceAt,Sem.run_bind,run_underlying c,Result.andThen_ok,Instr.slice,j.str_inv,ZG,Option.isSome_none,QH,if_false,k,f,Sem.run_pure,SE]
   ·cases z
  ·cases z
 ·cases z
def TB{xs:List D}{sz k:Nat}(h:∀d∈xs,d.cells.length=sz)(s:aE xs k=k):xs=[]∨sz=k:=by
 cases xs with
 |nil=>exact .inl rfl
 |cons x r=>right;rw[←h x (Qn ..)];exact s
def wF{t e:TypeId}{o:Oper}{x:Operand}{lo hi:Option Operand}{y:Hd}{l' h':Option Hd}{sz:Nat}(h:At P B w0 w m g fr s a)(hu:P.underlying t=some (.slice e))(hs:CR P e=some sz)
  (q:AC x=some y) (na:Iy lo=some l') (ra:Iy hi=some h') (ho:o.op= .slice t x lo hi none) (z:Ax S s m fr (.cutl sz y l' h')=some (d,u)):
  u=[]∧CZ P B w0 m g fr w m d (execOp a.eval o):=by
 have hr:=h.slots.arg q;simp only[Ax]at z;split at z
 ·rename_i nl t' xs e';rw[e']at hr;split at z
  ·rename_i f;split at z
   ·rename_i hh eh;split at z
    ·rename_i l el;simp only[Qa,Qd]at z;obtain⟨rfl,rfl⟩:=z;have r:∀ad n c l hh m',a.eval x= .slice ad n c->(Instr.sliceBounds true n c (lo.map a.eval) (hi.map a.eval) none).run P w= .ok (l,hh,m') w->
       (execOp a.eval o).run P w= .ok (.value (.slice (if m'=l then ad else ad.map (·.add (l*sz))) (hh-l) (m'-l))) w:=by
      intro ad n c l hh m' e1 e2;simp only[execOp,ho,Instr.sliceAt,Sem.run_bind,run_underlying hu,Result.andThen_ok,Instr.slice,e1,ZG,e2,Hh hs,Sem.run_pure]
     rcases hr.slice_inv with ⟨rfl,rfl,ev⟩|⟨rfl,ad,n,c,oa,vv,ev,hn,h2,i,h4,h5,h6,h7,h8,h9⟩
     ·obtain⟨k,q1,q2⟩:=Ew (P:=P) (w:=w) h.slots na ra true (len:=0) (cap:=0) (Qi _) eh el;obtain rfl:hh=0:=by omega
      obtain rfl:l=0:=O
      exact⟨rfl,.pure h.inv (r _ _ _ _ _ _ ev k) (.nils _)⟩
     ·subst hn;obtain⟨k,q1,q2⟩:=Ew (P:=P) (w:=w) h.slots na ra true (len:=xs.length) (cap:=c) h2 eh el;refine⟨rfl,.pure h.inv (r _ _ _ _ _ _ ev k) ?_⟩;have b:∀d∈(xs.drop l).take (hh-l),d.cells.length=oa:=λd p=>i d (Qx (QC p))
      have v:((xs.drop l).take (hh-l)).length=hh-l:=Xb
      by_cases va:c=l
      ·have h0:hh-l=0:=by omega
       rw[if_pos va,h0];refine .slice [] _ ad 0 _ oa vv U (ZF _) U U U XL U U U
      ·rw[if_neg va,QY];by_cases h0:hh-l=0
       ·rw[h0];exact .slice [] _ _ 0 _ oa vv U (ZF _) U U U XL U U U
       ·have ga:xs≠[]:=by rintro rfl;simp at q2;omega
        have la:oa=sz:=(TB i f).resolve_left ga;subst la;have qa:l*oa+(hh-l)*oa<=xs.length*oa:=by rw[←QQ];exact QB _ O
        refine .slice [] _ _ _ _ oa (λj=>vv (l*oa+j)) v.symm O b (λj hj=>?_) (λj hj=>h5 _ O) (λj d p=>h6 _ d ?_) (λhp=>?_) U (λd p=>h9 d (Qx (QC p)))
        ·rw[VN];exact h4 _ O
        ·have:=SC (sz:=oa) p;rw[TI l i,Qw]at this;exact this
        ·rw[CX,EN];have:=h7 O;omega
    ·cases z
   ·cases z
  ·cases z
 ·cases z
end
section
variable{P:Program}{B:Nat}{w0 w:World}{m:Ha}{g:Gh}{fr:Id}{s:Nat->D}{a:Act}{S:G8}{d:D}{u:Hf}
def Ma:∀{l:List (Nat×Nat×D)} {ps:List (Nat×Value)} {zs cs:List D} {zv:Array Value} {place:Nat->Option (Nat×Nat)},
  AX w g zs zv.toList->l.length=ps.length->(∀(j:Nat) x p,l[j]?=some x->ps[j]?=some p->place p.1=some (x.1,x.2.1)∧Rep w g x.2.2 p.2)->
  Cg zs l=some cs->∃a:Array Value,Instr.fill place zv ps=some a∧AX w g cs a.toList
 |[],[],zs,cs,zv,place,hz,_,_,h=>by
  simp only[Cg,Qa]at h;subst h;exact⟨zv,rfl,hz⟩
 |(off,sz,d)::l,[],zs,cs,zv,place,hz,hl,_,h=>by cases hl
 |[],p::ps,zs,cs,zv,place,hz,hl,_,h=>by cases hl
 |(off,sz,d)::l,(i,v)::ps,zs,cs,zv,place,hz,hl,hp,h=>by
  unfold Cg at h;split at h
  ·rename_i z;obtain⟨c1,c2,r⟩:=z;obtain⟨n,e2⟩:=hp 0 _ _ rfl rfl;simp only at n e2;have c:=e2.cells c1;have t:v.cells.size=sz:=by have:=c.1;simp at this;omega
   have f:=hz.1;simp only[QW]at f;have ka:off+v.cells.size<=zv.size:=O
   have na:=Ff v.cells off zv ka;have e:AX w g (FE zs off d.cells) ((v.cells.zipIdx.foldl (λcs (x:Value×Nat)=>cs.setIfInBounds (off+x.2) x.1) zv)).toList:=by
    rw[na];unfold FE;have h1:AX w g (zs.take off) (zv.toList.take off):=by
     refine⟨Xb,λv m=>hz.2.1 v (QC m),λj d v s m=>?_⟩;have b:j<off:=by
      rcases Zv j off with h1|h1
      ·exact h1
      ·rw[Qk Xb]at s;cases s
     rw[Qp b]at s m;exact hz.2.2 j d v s m
    have y:AX w g (zs.drop (off+d.cells.length)) (zv.toList.drop (off+v.cells.toList.length)):=by
     rw[c.1];refine⟨Xb,λv m=>hz.2.1 v (Qx m),λj d v s m=>?_⟩;rw[Qw]at s m;exact hz.2.2 _ d v s m
    exact AX.append (AX.append h1 c) y
   obtain⟨a,k,u⟩:=Ma (ps:=ps) (place:=place) e Xj (λj x p q o=>hp (j+1) x p Xt (by simpa using o)) h;refine⟨a,?_,u⟩;unfold Instr.fill;rw[n];simp only;rw[if_neg (by simp[t];omega)];exact k
  ·cases h
def OS{v:List Field}(W:World)(h:∀f∈v,∃n,CR P f.type=some n):
  ∃u:List (Nat×Nat),(v.mapM (m:=Sem) λ(f:Field)=>do pure (f.offset,←sizeOf f.type)).run P W= .ok u W∧u.length=v.length∧∀(i:Nat)(f:Field) n,v[i]?=some f->CR P f.type=some n->u[i]?=some (f.offset,n):=by
 induction v with
 |nil=>exact⟨[],U,rfl,U⟩
 |cons f r ih=>
  obtain⟨n,g⟩:=h f (Qn ..);obtain⟨u,w,y,j⟩:=ih (λf k=>h f (Qq _ k));refine⟨(f.offset,n)::u,?_,by simp[y],λi c q hi z=>?_⟩
  ·simp_all [Hh,w]
  ·grind
def Ge{v:Array Field}:∀{ps:List (Nat×Operand)} {l:List (Nat×Nat×Hd)},Dp P v ps=some l->
  l.length=ps.length∧∀(j:Nat) x p,l[j]?=some x->ps[j]?=some p->∃f:Field,v[p.1]?=some f∧CR P f.type=some x.2.1∧x.1=f.offset∧AC p.2=some x.2.2
 |[],l,h=>by simp only[Dp,Qa]at h;subst h;simp
 |(i,x)::r,l,h=>by
  unfold Dp at h;split at h
  ·rename_i f y z w m s;split at h
   ·rename_i n t;simp only[Qa]at h;subst h;obtain⟨k,o⟩:=Ge s;refine⟨by simp[k],λj u p q c=>?_⟩;cases j with
    |zero=>
     simp only[QE,Qa]at q c;subst q c;exact⟨f,w,t,rfl,m⟩
    |succ j=>exact o j u p Xt XK
   ·cases h
  ·cases h
def LO{sz:Nat}:∀{ps:List (Nat×Operand)} {l:List (Nat×Nat×Hd)},Gf sz ps=some l->
  l.length=ps.length∧∀(j:Nat) x p,l[j]?=some x->ps[j]?=some p->x.1=p.1*sz∧x.2.1=sz∧AC p.2=some x.2.2
 |[],l,h=>by simp only[Gf,Qa]at h;subst h;simp
 |(i,x)::r,l,h=>by
  unfold Gf at h;split at h
  ·rename_i y z m s;simp only[Qa]at h;subst h;obtain⟨k,o⟩:=LO s;refine⟨by simp[k],λj t p q c=>?_⟩;cases j with
   |zero=>
    simp only[QE,Qa]at q c;subst q c;exact⟨rfl,rfl,m⟩
   |succ j=>exact o j t p Xt XK
  ·cases h
def eH{t e:TypeId}{len sz:Nat}{z:Array (Nat×Operand)}{o:Oper}{zs:List D}{l:List (Nat×Nat×Hd)}(h:At P B w0 w m g fr s a)(n:P.underlying t=some (.array len e))
  (qa:CR P e=some sz) (y:C6 P t=some (.agg zs)) (hl:Gf sz z.toList=some l) (ho:o.op= .build t z) (he:Ax S s m fr (.build zs l)=some (d,u)):
  u=[]∧CZ P B w0 m g fr w m d (execOp a.eval o):=by
 simp only[Ax]at he;rw[Qb]at he;obtain⟨cs,na,he⟩:=he;simp only[Qd]at he;obtain⟨rfl,rfl⟩:=he;unfold C6 at y;split at y
 ·rename_i k c;split at y
  ·rename_i zv r;have hr:Rep w g (.agg zs) zv:=Rep.ofVal y;obtain⟨vs,rfl,rz⟩:=aI hr;obtain⟨q1,q2⟩:=LO hl;have b:=Ma (w:=w) (g:=g) (l:=l.map λp=>(p.1,p.2.1,p.2.2.ev s)) (ps:=(z.map λ(i,x)=>(i,a.eval x)).toList) (zs:=zs) (cs:=cs) (zv:=vs.toArray) (place:=λi=>some (i*sz,sz))
    (by simpa using rz) (by simp[q1]) (λj x p q hp=>?_) na
   ·obtain⟨cv,f1,f2⟩:=b;refine⟨rfl,.pure (v:= .agg cv) h.inv ?_ ?_⟩
    ·simp only[execOp,ho,Instr.build,zeroValue,typeInfo,Sem.run_bind,run_program,Result.andThen_ok,c,r,Sem.run_pure,run_underlying n,Hh qa,Value.cells,f1]
    ·have:=aJ f2
     rwa [QD]at this
   ·rw[Qj,Qb]at q;obtain⟨x',pa,rfl⟩:=q;rw[QM,Qj,Qb]at hp;obtain⟨p',f,rfl⟩:=hp;obtain⟨r1,r2,r4⟩:=q2 j x' p' pa f;refine⟨?_,h.slots.arg r4⟩;simp[r1,r2]
  ·cases y
 ·cases y
def lJ{t:TypeId}{z:Array (Nat×Operand)}{o:Oper}{y:Array Field}{zs:List D}{l:List (Nat×Nat×Hd)}(h:At P B w0 w m g fr s a)(hu:P.underlying t=some (.struct y))
  (da:dX P y.toList=true) (hz:C6 P t=some (.agg zs)) (hl:Dp P y z.toList=some l) (ho:o.op= .build t z) (he:Ax S s m fr (.build zs l)=some (d,u)):
  u=[]∧CZ P B w0 m g fr w m d (execOp a.eval o):=by
 simp only[Ax]at he;rw[Qb]at he;obtain⟨cs,na,he⟩:=he;simp only[Qd]at he;obtain⟨rfl,rfl⟩:=he;unfold C6 at hz;split at hz
 ·rename_i k c;split at hz
  ·rename_i zv r;have hr:Rep w g (.agg zs) zv:=Rep.ofVal hz;obtain⟨vs,rfl,rz⟩:=aI hr;have q:∀f∈y.toList,∃n,CR P f.type=some n:=by
    intro f hf;have:=Qy.1 da f hf;rw[Zf]at this;exact this
   obtain⟨pl,p1,p2,p3⟩:=OS (P:=P) w q;obtain⟨q1,q2⟩:=Ge hl;have b:=Ma (w:=w) (g:=g) (l:=l.map λp=>(p.1,p.2.1,p.2.2.ev s)) (ps:=(z.map λ(i,x)=>(i,a.eval x)).toList) (zs:=zs) (cs:=cs) (zv:=vs.toArray) (place:=λi=>pl.toArray[i]?)
    (by simpa using rz) (by simp[q1]) (λj x p hx hp=>?_) na
   ·obtain⟨cv,f1,f2⟩:=b;refine⟨rfl,.pure (v:= .agg cv) h.inv ?_ ?_⟩
    ·have hm:(y.mapM (m:=Sem) λ(f:Field)=>do pure (f.offset,←sizeOf f.type)).run P w= .ok pl.toArray w:=by
      rw[Zc,Sem.run_map,p1];rfl
     simp only[execOp,ho,Instr.build,zeroValue,typeInfo,Sem.run_bind,run_program,Result.andThen_ok,c,r,Sem.run_pure,run_underlying hu,hm,Value.cells,f1]
    ·have:=aJ f2
     rwa [QD]at this
   ·rw[Qj,Qb]at hx;obtain⟨x',pa,rfl⟩:=hx;rw[QM,Qj,Qb]at hp;obtain⟨p',wa,rfl⟩:=hp;obtain⟨f,r1,e,r3,r4⟩:=q2 j x' p' pa wa;refine⟨?_,h.slots.arg r4⟩;have:=p3 p'.1 f x'.2.1 (by simpa using r1) e;simp only[QJ];rw[this,r3]
  ·cases hz
 ·cases hz
end
section
variable{P:Program}{B:Nat}{w0 w:World}{m:Ha}{g:Gh}{fr:Id}{s:Nat->D}{a:Act}{S:G8}{d:D}{u:Hf}
def PO:∀{xs:List Operand} {ys:List Hd},DZ xs=some ys->xs.length=ys.length∧∀(j:Nat) x y,xs[j]?=some x->ys[j]?=some y->AC x=some y
 |[],ys,h=>by simp only[DZ,Qa]at h;subst h;simp
 |x::r,ys,h=>by
  unfold DZ at h;split at h
  ·rename_i y l u f;simp only[Qa]at h;subst h;obtain⟨p,q⟩:=PO f;refine⟨by simp[p],λj t k w o=>?_⟩;cases j with
   |zero=>simp only[QE,Qa]at w o;subst w o;exact u
   |succ j=>exact q j t k XJ (by simpa using o)
  ·cases h
def dV{sz:Nat}(w:0<sz):∀{ps:List (Nat×Value)} {k:Nat} {cs:Array Value},ps.map (·.1)=Zp k ps.length->(∀p∈ps,p.2.cells.size=sz)->cs.size=(k+ps.length)*sz->
  ∃a:Array Value,Instr.fill (λi=>some (i*sz,sz)) cs ps=some a∧a.toList=cs.toList.take (k*sz)++ps.flatMap λp=>p.2.cells.toList
 |[],k,cs,_,_,hcs=>⟨cs,rfl,by simp at hcs;simp[List.take_of_length_le,hcs]⟩
 |(i,v)::r,k,cs,s,hp,hcs=>by
  simp only[Qs,Qo,Q3,ZH]at s;obtain⟨rfl,s⟩:=s;have m:=hp (i,v) (Qn ..);simp only at m;have ta:i*sz+v.cells.size<=cs.size:=by
   rw[hcs,m,←Zw];exact QB _ (by simp only[Qo];omega)
  have na:=Ff v.cells (i*sz) cs ta;have z:(v.cells.zipIdx.foldl (λcs (x:Value×Nat)=>cs.setIfInBounds (i*sz+x.2) x.1) cs).size=cs.size:=by
   rw[←QW,na];simp;omega
  obtain⟨a,q,c⟩:=dV (k:=i+1) (ps:=r) (cs:=v.cells.zipIdx.foldl (λcs (x:Value×Nat)=>cs.setIfInBounds (i*sz+x.2) x.1) cs) w s (λp o=>hp p (Qq _ o)) (by rw[z,hcs];congr 1;simp only[Qo];omega);refine⟨a,?_,?_⟩
  ·unfold Instr.fill;simp only;rw[if_neg (by simp[m];first|done|omega)];exact q
  ·rw[c,na];have hl:(cs.toList.take (i*sz)).length=i*sz:=by rw[QT];simp;omega
   have u:v.cells.toList.length=sz:=by simpa using m
   simp only[Zd];rw[←QL];congr 1;rw[show(i+1)*sz=(cs.toList.take (i*sz)++v.cells.toList).length by rw[Zu,hl,u,Zw]];exact List.take_left
theorem eI{t e:TypeId}{aa:Array (Nat×Operand)}{len:Nat}{o:Oper}{sz bytes:Nat}{l:List Hd}(h:At P B w0 w m g fr s a)(hu:P.underlying t=some (.slice e))(he:I_ P e=some (sz,bytes))
  (hl:DZ (aa.toList.map (·.2))=some l) (f:aa.toList.map (·.1)=Qt len) (pa:len*sz<=2 ^ 24) (ho:o.op= .buildSlice t len aa)
  (hx:Ax S s m fr (.bslice e sz l)=some (d,u)):CZ P B w0 m g fr w (Hf.app m u) d (execOp a.eval o):=by
 obtain⟨ua,ti,z,hi,oa,hz,kb,qa⟩:=IZ he;simp only[Ax]at hx;split at hx
 ·rename_i ja;simp only[Qa,Qd]at hx;obtain⟨rfl,rfl⟩:=hx;have da:∀p∈l,((p.ev s).data=true∧(p.ev s).cells.length=sz)∧(p.ev s).un.calm=true:=by
   simp_all
  have b:∀p∈l,(p.ev s).data=true∧(p.ev s).cells.length=sz:=λp hp=>(da p hp).1
  obtain⟨ca,ha⟩:=PO hl;have r:aa.toList.length=len:=by have:=congrArg ZL f;simpa using this
  simp only[QZ]at ca;have ea:∀(j:Nat) d v,(l.map λp=>(p.ev s).un)[j]?=some d->(aa.toList.map λp=>a.eval p.2)[j]?=some v->Rep w g d v:=by
   intro j d v hd hv;rw[Qj,Qb]at hd hv;obtain⟨y,hy,rfl⟩:=hd;obtain⟨p,hp,rfl⟩:=hv;exact(h.slots.arg (ha j p.2 y (by rw[Qj,hp];rfl) hy)).un
  have ra:=AX.flat (w:=w) (g:=g) (sz:=sz) (xs:=l.map λp=>(p.ev s).un) (vs:=aa.toList.map λp=>a.eval p.2) (λd hd=>by
   rw[Qv]at hd;obtain⟨y,hy,rfl⟩:=hd;exact⟨aF3 (b y hy).1,by rw[PM];exact(b y hy).2⟩) Xb ea
  have la:∀p∈(aa.map λ(i,x)=>(i,a.eval x)).toList,p.2.cells.size=sz:=by
   intro p hp;rw[QM,Qv]at hp;obtain⟨q,hq,rfl⟩:=hp;obtain⟨j,hj,ka⟩:=Za hq;have hy:l[j]?=some (l[j]' O):=Qc _;have hr:=h.slots.arg (ha j q.2 _ (by rw[Qj,Qc hj,ka];rfl) hy);have hd:=b _ (Q1 (by omega:j<l.length));have:=(hr.cells hd.1).1;simp at this ⊢;omega
  let row:Array Value:=(ZM (len*sz)).map (z.cells[· % z.cells.size]!)
  have ba:row.size=(0+(aa.map λ(i,x)=>(i,a.eval x)).toList.length)*sz:=by
   grind
  obtain⟨cv,f1,f2⟩:=dV ua (ps:=(aa.map λ(i,x)=>(i,a.eval x)).toList) (k:=0) (cs:=row) (by
   rw[←QR];simp only[QM,List.map_map,QZ,r];rw[←f];apply QX;intro p _;rfl) la ba
  have ta:cv.toList=(aa.toList.map λp=>a.eval p.2).flatMap λv=>v.cells.toList:=by
   rw[f2];simp[List.flatMap_map]
  have na:cv.size=len*sz:=by
   have:=ra.1;rw[←ta]at this;rw[Cl (sz:=sz) (λd hd=>by
    rw[Qv]at hd;obtain⟨y,hy,rfl⟩:=hd;rw[PM];exact(b y hy).2)]at this
   simp only[QW,QZ]at this;rw[this];congr 1;omega
  have za:len<=maxLen:=by
   have:len*1<=len*sz:=Nat.mul_le_mul_left _ ua;unfold maxLen;omega
  have fa:=h.inv.newTok h.self (e:=e) (n:=len) (c:=len) (sz:=sz) (cur:=cv) ua ⟨ti,z,hi,oa,hz,kb⟩ (Qi _) za na;have ma:=Hr.newTok (t:=fr) (n:=len) (c:=len) (sz:=sz) (Obj.cells cv e) h.inv.gz h.self.2.2 rfl;refine⟨.slice (some ⟨w.heap.size,0,none⟩) len len,w.alloc (.cells cv e),g.tok fr w.heap.size len len sz,.value (.slice (some ⟨w.heap.size,0,none⟩) len len),?_,.inl rfl,fa,ma,?_,λi hf ga=>CU hf ga _ _ _ _ _⟩
  ·have ia:¬(len*sz>2 ^ 24):=by omega
   have jb:CR P e=some sz:=by simp[CR,hi,oa]
   by_cases h0:len*sz=0
   ·have sa:(ZM 0).map ((#[]:Array Value)[· % (#[]:Array Value).size]!)=row:=by simp[row,h0]
    simp only[execOp,ho,Instr.buildSlice,Sem.run_bind,run_underlying hu,Result.andThen_ok,Hh jb,show ¬((0:Nat)>2 ^ 24)from by omega,if_false,h0,if_true,Sem.run_pure,sa,f1,GL]
   ·simp only[execOp,ho,Instr.buildSlice,Sem.run_bind,run_underlying hu,Result.andThen_ok,Hh jb,ia,if_false,h0,Sem.run_pure,zeroValue,typeInfo,run_program,hi,hz];change (Sem.run P (match Instr.fill (λi=>some (i*sz,sz)) row (aa.map λ(i,x)=>(i,a.eval x)).toList with|some cells=>_|_=>_) w).andThen _=_;rw[f1];simp only[Sem.run_bind,GL,Result.andThen_ok,Sem.run_pure]
  ·refine aG (sz:=sz) (cur:=cv) (T:=e) (fz:=(0,0)) (heap_alloc_new w _) Xb (Qi _) (λd hd=>?_) (ra.ext ma) (λj v hv=>?_) Xl (λ_=>Xl) (λd hd=>?_)
   ·grind [PM]
   ·grind
   ·grind
 ·cases hx
end
structure iC (P:Program) (w:World) (size:Nat) (y:Value) (n:Nat) (ws:List Value):Prop where
 len:∀W:World,(Builtin.lenOf y).run P W= .ok n W
 cells:(Builtin.firstCells size n y).run P w= .ok ws.toArray w
 drew:(Builtin.firstCells size n y).run P w.drew= .ok ws.toArray w.drew
 wl:ws.length=n*size
section
variable{P:Program}{w:World}
theorem iC.slice{y n c:Nat}{ad:Addr}{o:List Value}(hl:o.length=n*y)(h:∀j u,o[j]?=some u->w.cell? (ad.add j)=some u):iC P w y (.slice (some ad) n c) n o:=
 ⟨λW=>Yh,run_firstCells_some (P:=P) w y n ad n c o hl h,run_firstCells_some (P:=P) w.drew y n ad n c o hl Xo,hl⟩
def iC.string(s:ByteArray):iC P w 1 (.string s) s.size (Lib.strCells s):=
 ⟨λW=>Yh,Lib.run_firstCells_string w 1 s,Lib.run_firstCells_string w.drew 1 s,by rw[Lib.strCells_length];omega⟩
def WN{t ty e:TypeId}{i:TypeInfo}{z:Value}(p:P.underlying t=some (.slice e))(hi:P.info? e=some i)(j:i.zero=some z)
  {y:Value} {n:Nat} {o:List Value} (hs:iC P w i.size y n o)
  (q:0<n) (g:(n:Int)<=9223372036854775807) (f:n*i.bytes<=281474976710656):
  (Builtin.append_ #[t,t] ty #[.slice none 0 0,y]).run P w=
   .ok (.slice (some ⟨w.heap.size,0,none⟩) n (grownCap w n 0 e)) (w.drew.alloc (.cells (o.toArray++Builtin.zeroCells z.cells (grownCap w n 0 e-n)) e)):=by
 have r:n≠0:=O
 have a:¬(9223372036854775807<(n:Int)):=O
 have c:¬(281474976710656<Builtin.nextslicecap n 0*i.bytes):=by rw[nextslicecap_zero q];omega
 have k:=hs.drew;have hl:=hs.len;simp[Builtin.append_,run_underlying p,sizeOf,typeInfo,zeroValue,hi,j,hl,r,a,c,Question.forced,run_firstCells_none,k,newRow,grownCap]
def UD{t ty e:TypeId}{i:TypeInfo}{z:Value}(p:P.underlying t=some (.slice e))(hi:P.info? e=some i)(u:i.zero=some z)
  {b:Addr} {sLen sCap:Nat} {olds:List Value} (na:olds.length=sLen*i.size) (d:∀j v,olds[j]?=some v->w.cell? (b.add j)=some v)
  {y:Value} {n:Nat} {o:List Value} (hs:iC P w i.size y n o)
  (hg:sCap<sLen+n) (g:((sLen+n:Nat):Int)<=9223372036854775807) (x:Builtin.nextslicecap (sLen+n) sCap*i.bytes<=281474976710656):
  (Builtin.append_ #[t,t] ty #[.slice (some b) sLen sCap,y]).run P w=
   .ok (.slice (some ⟨w.heap.size,0,none⟩) (sLen+n) (grownCap w (sLen+n) sCap e))
    (w.drew.alloc (.cells (olds.toArray++o.toArray++Builtin.zeroCells z.cells (grownCap w (sLen+n) sCap e-(sLen+n))) e)):=by
 have r:¬(sLen+n<=sCap):=O
 have a:¬(9223372036854775807<((sLen:Int)+(n:Int))):=O
 have c:¬(281474976710656<Builtin.nextslicecap (sLen+n) sCap*i.bytes):=O
 have k:=hs.drew;have hl:=hs.len;have q:=run_firstCells_some (P:=P) w.drew i.size sLen b sLen sCap olds na (by simpa using d);simp[Builtin.append_,run_underlying p,sizeOf,typeInfo,zeroValue,hi,u,hl,r,a,c,Question.forced,k,q,newRow,grownCap];congr 2;apply Array.ext';simp[QL]
def UB{t ty e:TypeId}{i:TypeInfo}(p:P.underlying t=some (.slice e))(hi:P.info? e=some i)
  {g sLen sCap:Nat} {cur:Array Value} (hg:w.heap[g]?=some (.cells cur e (0,0))) {y:Value} {n:Nat} {o:List Value} (z:iC P w i.size y n o) (q:∀u∈o,u.oneCell'=true)
  (j:sLen+n<=sCap) (c:sLen*i.size+o.length<=cur.size):
  (Builtin.append_ #[t,t] ty #[.slice (some ⟨g,0,none⟩) sLen sCap,y]).run P w=
   .ok (.slice (some ⟨g,0,none⟩) (sLen+n) sCap) (w.setRow g (cur.toList.take (sLen*i.size)++o++cur.toList.drop (sLen*i.size+o.length)).toArray):=by
 have a:=z.cells;have hl:=z.len;have k:=run_storeCells_at P g (sLen*i.size) e o 0 cur w hg XK q;simp only[Zj]at k;simp[Builtin.append_,run_underlying p,sizeOf,typeInfo,hi,hl,j,a,Addr.add_lit,k]
def iC.nil{j:Nat}:iC P w j (.slice none 0 0) 0 []:=
 ⟨λW=>Yh,by simp[Builtin.firstCells],by simp[Builtin.firstCells],U⟩
def UC{t ty e:TypeId}{i:TypeInfo}(p:P.underlying t=some (.slice e))(hi:P.info? e=some i){y:Value}{o:List Value}(g:iC P w i.size y 0 o):
  (Builtin.append_ #[t,t] ty #[.slice none 0 0,y]).run P w= .ok (.slice none 0 0) w:=by
 have k:=g.cells;have hl:=g.len;simp[Builtin.append_,run_underlying p,sizeOf,typeInfo,hi,hl,k]
def UA{t u ty e:TypeId}(p:P.underlying t=some (.slice e))(z:P.underlying u=some .string)(x y:Value):
  (Builtin.append_ #[t,u] ty #[x,y]).run P w=(Builtin.append_ #[t,t] ty #[x,y]).run P w:=by
 cases x<;>simp[Builtin.append_,run_underlying p,run_underlying z,sizeOf]
end
section
variable{P:Program}{B:Nat}{w0 w:World}{m:Ha}{g:Gh}{fr:Id}{s:Nat->D}{a:Act}{S:G8}{d:D}{u:Hf}
def Rep.slice_list{t:Id}{xs:List D}{v:Value}(h:Rep w g (.slice false t xs) v):∃ad n c sz,∃r:List Value,v= .slice (some ad) n c∧n=xs.length∧n<=c∧(∀d∈xs,d.cells.length=sz)∧
  r.length=n*sz∧AX w g (flat xs) r∧(∀j u,r[j]?=some u->w.cell? (ad.add j)=some u)∧(0<n*sz->ad.off+n*sz<=g.G ad.block)∧
  (t≠[]->ad.off=0∧ad.spot=none∧g.tb t=some (ad.block,n,c,sz))∧(∀d∈xs,d.calm=true):=by
 rcases h.slice_inv with ⟨f,_⟩|⟨_,ad,n,c,sz,b,ev,q,y,i,e,x,o,k,s,h9⟩
 ·cases f
 ·have hl:=Cl i;refine⟨ad,n,c,sz,(Qt (n*sz)).map b,ev,q,y,i,U,⟨by simp[hl,q],λv m=>?_,λj d v p m=>?_⟩,λj u z=>?_,k,s,h9⟩
  ·grind
  ·grind
  ·grind
def RA:∀{ys:List D},(∀d∈ys,d.cells=[d])->flat ys=ys
 |[],_=>rfl
 |d::r,h=>by
  rw[flat,h d (Qn ..),RA λd p=>h d (Qq _ p)];rfl
def nX{y:D}{v:Value}{ys:List D}{sz:Nat}(h:Rep w g y v)(i:I5 sz y=some ys)(hh:aE ys sz=sz):
  ∃o:List Value,iC P w sz v ys.length o∧AX w g (flat ys) o∧(∀d∈ys,d.cells.length=sz)∧∀d∈ys,d.calm=true:=by
 unfold I5 at i;split at i
 ·rename_i nl t f;simp only[Qa]at i;subst i;cases nl with
  |true=>
   rcases h.slice_inv with ⟨_,rfl,rfl⟩|⟨m,_⟩
   ·exact⟨[],iC.nil,AX.nil w g,U,U⟩
   ·cases m
  |false=>
   obtain⟨ad,n,c,oa,o,rfl,r,za,a,xa,k,x,hG,z,e⟩:=h.slice_list;subst r;rcases TB a hh with rfl|rfl
   ·grind [iC.slice,AX.nil]
   ·exact⟨o,iC.slice xa x,k,a,e⟩
 ·rename_i b;split at i
  ·rename_i q;subst q;simp only[Qa]at i;subst i;have hv:v= .string ⟨b.toArray⟩:=by cases h;rfl
   subst hv;have ca:(AH b).length=(⟨b.toArray⟩:ByteArray).size:=by simp[AH];rfl
   have q:∀d∈AH b,d.cells=[d]∧d.calm=true:=by
    intro d p;simp only[AH,Qv]at p;obtain⟨c,_,rfl⟩:=p;exact⟨rfl,rfl⟩
   refine⟨Lib.strCells ⟨b.toArray⟩,ca▸iC.string _,⟨?_,Lib.strCells_oneCell _,λj d u p hu=>?_⟩,λd p=>by rw[(q d p).1];rfl,λd p=>(q d p).2⟩
   ·rw[RA λd p=>(q d p).1,Lib.strCells_length,ca]
   ·rw[RA λd p=>(q d p).1]at p;simp only[AH,Lib.strCells,Qj,Qb]at p hu;obtain⟨c,hc,rfl⟩:=p;obtain⟨c',s,rfl⟩:=hu;rw[hc]at s;simp only[Qa]at s;subst s;exact .int _ _
  ·cases i
 ·cases i
def aCy{t t2 e:TypeId}{o:Oper}{x y:Operand}{p q:Hd}{sz bytes:Nat}(h:At P B w0 w m g fr s a)(hu:P.underlying t=some (.slice e))(he:I_ P e=some (sz,bytes))
  (hx:AC x=some p) (hy:AC y=some q) (ho:o.op= .call {callee:= .builtin .append,args:=#[x,y],argTypes:=#[t,t2]}) (ht2:t2=t∨P.underlying t2=some .string)
  (aa:Ax S s m fr (.app e sz bytes p q)=some (d,u)):CZ P B w0 m g fr w (Hf.app m u) d (execOp a.eval o):=by
 obtain⟨ua,ti,z,hi,oa,hz,kb,qa⟩:=IZ he;have jb:CR P e=some sz:=by simp[CR,hi,oa]
 have la:=h.slots.arg hx;have db:=h.slots.arg hy;have bb:∃ti z,P.info? e=some ti∧ti.size=sz∧ti.zero=some z∧z.cells.size=sz:=⟨ti,z,hi,oa,hz,kb⟩;have ha:∀v' w',(Builtin.append_ #[t,t] o.type #[a.eval x,a.eval y]).run P w= .ok v' w'->(execOp a.eval o).run P w= .ok (.value v') w':=by
  intro v' w' e1;have e1:(Builtin.append_ #[t,t2] o.type #[a.eval x,a.eval y]).run P w= .ok v' w':=by
   rcases ht2 with rfl|ht2
   ·exact e1
   ·simp_all [UA,e1]
  simp only[execOp,ho,resolve,invoke,builtin,Sem.run_bind,Sem.run_pure,Result.andThen_ok,ZB,Qs,Zk,e1]
 simp only[Ax]at aa;split at aa
 ·rename_i nl t' xs ys ex ey;rw[ex]at la;split at aa
  ·rename_i hc;obtain⟨rfl,rfl⟩:=hc;simp only[Qa,Qd]at aa;obtain⟨rfl,rfl⟩:=aa;rcases la.slice_inv with ⟨_,rfl,ev⟩|⟨h0,_⟩
   ·obtain⟨ws,l,_⟩:=nX (P:=P) db ey (show aE [] sz=sz from rfl);have hv:=UC (ty:=o.type) hu hi (oa▸l);exact .pure h.inv (ha _ _ (by rw[ev];exact hv)) (.nils _)
   ·cases h0
  ·rename_i za;split at aa
   ·rename_i hc;obtain⟨ob,jc⟩:=hc;obtain⟨ws,l,ea,sb,gb⟩:=nX (P:=P) db ey jc;have xa:ws.length=ys.length*sz:=l.wl;have hb:iC P w ti.size (a.eval y) ys.length ws:=by rw[oa];exact l
    have ac:xs.length+ys.length<=140737488355328:=by
     grind
    have fb:(xs.length+ys.length)*bytes<=140737488355328:=by
     grind
    split at aa
    ·-- onto nil
     rename_i pa;subst pa;simp only[Qa,Qd]at aa;obtain⟨rfl,rfl⟩:=aa;have cb:ys≠[]:=λe=>za ⟨rfl,e⟩
     rcases la.slice_inv with ⟨_,rfl,ev⟩|⟨h0,_⟩
     ·have ca:0<ys.length:=List.length_pos_iff.2 cb;simp only[List.length_nil,Qu]at ac fb;have hr:=WN (P:=P) (ty:=o.type) hu hi hz hb ca O (by rw[qa];omega);have wa:=grownCap_ge w ys.length 0 e;have eb:grownCap w ys.length 0 e<=maxLen:=grownCap_le_maxLen w ys.length 0 e Xp;have pb:(ws.toArray++Builtin.zeroCells z.cells (grownCap w ys.length 0 e-ys.length)).size=grownCap w ys.length 0 e*sz:=by
       simp only[Zx,Zy,size_zeroCells,kb,xa,←QQ];congr 1;omega
      have fa:=h.inv.drew.newTok h.self (e:=e) (n:=ys.length) (c:=grownCap w ys.length 0 e) (sz:=sz) (cur:=ws.toArray++Builtin.zeroCells z.cells (grownCap w ys.length 0 e-ys.length)) ua bb wa eb pb;have ma:Hr w g (w.drew.alloc (.cells (ws.toArray++Builtin.zeroCells z.cells (grownCap w ys.length 0 e-ys.length)) e)) (g.tok fr w.heap.size ys.length (grownCap w ys.length 0 e) sz):=
       (Hr.drew w g).trans (Hr.newTok (w:=w.drew) _ h.inv.gz h.self.2.2 rfl)
      refine⟨_,_,_,_,ha _ _ (by rw[ev];exact hr),.inl rfl,fa,ma,?_,λi hf ga=>CU hf ga _ _ _ _ _⟩;refine aG (sz:=sz) (cur:=ws.toArray++Builtin.zeroCells z.cells (grownCap w ys.length 0 e-ys.length)) (T:=e) (fz:=(0,0)) (heap_alloc_new w.drew _) rfl wa sb (ea.ext ma) (λj v hv=>?_) Xl (λ_=>Xl) gb;rw[QI (by simpa using (Qf.1 hv).1)];simpa using hv
     ·cases h0
    ·-- onto a growing slice
     rename_i pa;have pa:nl=false:=by cases nl<;>simp_all
     subst pa;split at aa
     ·rename_i k hk;split at aa
      ·rename_i wb;obtain⟨wb,gc⟩:=wb;subst wb;simp only[Qa,Qd]at aa;obtain⟨rfl,rfl⟩:=aa;obtain⟨ad,n0,c0,lc,lb,ev,hn,dc,zb,ub,vb,ib,mc,cc,ic⟩:=la.slice_list;obtain⟨b,n,c,f,cur,t1,t2,t3,t4,t5,t6,t7,t8,t9,ya⟩:=h.inv.tok t' e hk;obtain⟨q1,q2,q3⟩:=cc gc;rw[t1]at q3;simp only[Qa,Qd]at q3;obtain⟨rfl,rfl,rfl,rfl⟩:=q3;have mb:f=sz:=by obtain⟨kc,z',i1,i2,_⟩:=t4;rw[hi]at i1;simp only[Qa]at i1;subst i1;omega
       subst mb;have yb:ad=⟨ad.block,0,none⟩:=by cases ad;simp_all
       have va:w.heap[ad.block]?=some (.cells cur e (0,0)):=t5;have qb:∀(j:Nat) v,lb[j]?=some v->cur[j]?=some v:=by
        intro j v hv;have:=ib j v hv;rw[yb,FV,Qu]at this;simpa[World.cell?,va]using this
       have tb:cur.toList.take (n*f)=lb:=by
        apply Zz;intro j;by_cases hj:j<n*f
        ·rw[Qp hj];have:lb[j]?=some (lb[j]' O):=Qc _;rw[this];simpa using qb j _ this
        ·rw[Qk Xb,Qk O]
       have rb:Hi P B w0 (m.put t' 0 [.tok 0]) w g:=h.inv.kill (by
        cases hd:g.dl t' with
        |none=>rfl
        |some b'=>
         obtain⟨_,_,vs,T,_,r⟩:=h.inv.obj t' b' hd;obtain⟨v,_,_,r3⟩:=r 0 _ hk;cases r3)
       have bc:fr≠t':=by rintro rfl;rw[h.self.1 0]at hk;cases hk
       have xb:B0 (m.put t' 0 [.tok 0]) g fr:=B0.kill h.self bc;have ia:∀b' n' c' s',∀i,B0 m g i->¬fr<:+i->B0 ((m.put t' 0 [.tok 0]).put fr 0 [.tok (e+1)]) (g.tok fr b' n' c' s') i:=by
        intro b' n' c' s' i hf ga;exact CU (B0.kill hf (by rintro rfl;rw[hf.1 0]at hk;cases hk)) ga _ _ _ _ _
       have ja:∀dd∈xs++ys,dd.cells.length=f:=by
        intro dd fc;rcases Qg.1 fc with hd|hd
        ·exact zb dd hd
        ·exact sb dd hd
       have ab:∀dd∈xs++ys,dd.calm=true:=by
        intro dd fc;rcases Qg.1 fc with hd|hd
        ·exact ic dd hd
        ·exact gb dd hd
       have ra:AX w g (flat (xs++ys)) (lb++ws):=by rw[IU];exact AX.append vb ea
       have ca:n+ys.length=(xs++ys).length:=Xb
       have ec:(n+ys.length)<=maxLen:=Xp
       by_cases ba:n+ys.length<=c
       ·-- there is room
        have ka:n*ti.size+ws.length<=cur.size:=by rw[xa,oa,t8,←QQ];exact QB _ ba
        have hr:=UB (P:=P) (ty:=o.type) hu hi va hb ea.2.1 ba ka;rw[oa]at hr ka
        let na:Array Value:=(cur.toList.take (n*f)++ws++cur.toList.drop (n*f+ws.length)).toArray
        have da:(cur.toList.take (n*f)).length=n*f:=by rw[QT];simp;omega
        have ta:na.size=cur.size:=by simp[na];omega
        have sa:∀j,j<n*f->na[j]?=cur[j]?:=by
         intro j hj;simp only[na,QJ,QL];rw[Qm O,Qp hj];simp
        have fa:=h.inv.inPlace h.self hk t1 (ZC n ys.length) ba va ta sa;have ma:Hr w g (w.setRow ad.block na) (g.tok fr ad.block (n+ys.length) c f):=Hr.inPlace h.self.2.2 t9 (ZC n ys.length) va sa ⟨_,_,t1,rfl⟩;refine⟨_,_,_,_,ha _ _ (by rw[ev,yb];exact hr),.inl rfl,fa,ma,?_,ia _ _ _ _⟩;refine aG (sz:=f) (cur:=na) (T:=e) (fz:=(0,0)) (setRow_heap w ad.block cur na e _ va) ca ba ja (ra.ext ma) (λj v hv=>?_) Xl (λ_=>Xl) ab;simp only[na,QJ,tb];rw[Qm (Qf.1 hv).1];exact hv
       ·-- there is none
        have hr:=UD (P:=P) (ty:=o.type) hu hi hz (b:=ad) (sLen:=n) (sCap:=c) (olds:=lb) (by rw[ub,oa]) ib hb O O (growslice_fits O (by rw[qa,hn];exact fb));have wa:=grownCap_ge w (n+ys.length) c e;have eb:grownCap w (n+ys.length) c e<=maxLen:=grownCap_le_maxLen w (n+ys.length) c e ec;have pb:(lb.toArray++ws.toArray++Builtin.zeroCells z.cells (grownCap w (n+ys.length) c e-(n+ys.length))).size=grownCap w (n+ys.length) c e*f:=by
         simp only[Zx,Zy,size_zeroCells,kb,xa,ub,←QQ];congr 1;omega
        have fa:=rb.drew.newTok xb (e:=e) (n:=n+ys.length) (c:=grownCap w (n+ys.length) c e) (sz:=f) (cur:=lb.toArray++ws.toArray++Builtin.zeroCells z.cells (grownCap w (n+ys.length) c e-(n+ys.length))) ua bb wa eb pb;have ma:Hr w g (w.drew.alloc (.cells (lb.toArray++ws.toArray++Builtin.zeroCells z.cells (grownCap w (n+ys.length) c e-(n+ys.length))) e)) (g.tok fr w.heap.size (n+ys.length) (grownCap w (n+ys.length) c e) f):=
         (Hr.drew w g).trans (Hr.newTok (w:=w.drew) _ h.inv.gz h.self.2.2 rfl)
        refine⟨_,_,_,_,ha _ _ (by rw[ev];exact hr),.inl rfl,fa,ma,?_,ia _ _ _ _⟩;refine aG (sz:=f) (cur:=lb.toArray++ws.toArray++Builtin.zeroCells z.cells (grownCap w (n+ys.length) c e-(n+ys.length))) (T:=e) (fz:=(0,0)) (heap_alloc_new w.drew _) ca wa ja (ra.ext ma) (λj v hv=>?_) Xl (λ_=>Xl) ab;have hj:=(Qf.1 hv).1;rw[QI (by simpa using hj)];simpa using hv
      ·cases aa
     ·cases aa
   ·cases aa
 ·cases aa
end
section
variable{P:Program}{B:Nat}{w0 w:World}{m:Ha}{g:Gh}{fr:Id}{s:Nat->D}{a:Act}{S:G8}{d:D}{u:Hf}
theorem OL{v:Value}{d:D}(h:ofLeaf v=some d):d.calm1=true∧d.calm=true:=by
 unfold ofLeaf at h;split at h<;>first|(simp only[Qa]at h;subst h;exact⟨rfl,rfl⟩)|cases h
theorem lW{v:Value}{d:D}(h:ofVal v=some d):d.calm=true:=by
 cases v with
 |agg cs=>
  simp only[ofVal,Qb]at h;obtain⟨l,hl,rfl⟩:=h;have k:∀{vs:List Value} {l:List D},ofLeaves vs=some l->l.all D.calm1=true:=by
   intro vs;induction vs with
   |nil=>intro l h;simp only[ofLeaves,Qa]at h;subst h;rfl
   |cons v r ih=>
    intro l h;unfold ofLeaves at h;split at h
    ·grind [OL]
    ·cases h
  exact k hl
 |_=>simp only[ofVal]at h;exact(OL h).2
def vZ{t e:TypeId}{o:Oper}{x y:Operand}{p q:Hd}{sz bytes:Nat}{z:D}(h:At P B w0 w m g fr s a)(hu:P.underlying t=some (.slice e))(he:I_ P e=some (sz,bytes))
  (hz:C6 P e=some z) (hx:AC x=some p) (hy:AC y=some q) (ho:o.op= .makeSlice t x y)
  (aa:Ax S s m fr (.mksl e sz bytes z p q)=some (d,u)):CZ P B w0 m g fr w (Hf.app m u) d (execOp a.eval o):=by
 obtain⟨ua,ti,zv,hi,oa,r,kb,qa⟩:=IZ he;have la:=h.slots.arg hx;have db:=h.slots.arg hy;have da:Rep w g z zv:=by
  grind [C6,Rep.ofVal]
 have va:z.data=true:=by
  unfold C6 at hz;simp only[hi,r]at hz;cases zv<;>first|(simp only[ofVal,Qb]at hz;obtain⟨l,_,rfl⟩:=hz;rfl)|(simp only[ofVal]at hz;exact OJ hz)
 have ia:z.calm=true:=by
  grind [C6,lW]
 simp only[Ax]at aa;split at aa
 ·rename_i k n k' c ex ey;rw[ex]at la;rw[ey]at db;split at aa
  ·rename_i hc;obtain⟨h0,za,ob,f⟩:=hc;obtain⟨n,rfl⟩:=Zh h0;obtain⟨c,rfl⟩:=Zh (Int.le_trans h0 za);have eb:c*(bytes+1)<=140737488355328:=by
    grind
   have fb:bytes*c<=140737488355328:=by
    grind
   have pa:c<=140737488355328:=by
    grind
   have ea:(ti.bytes:Int)*(c:Int)<=281474976710656:=by
    grind
   have hr:=run_make (P:=P) w t e ti zv hu hi r k k' (n:Int) (c:Int) O O ea O;simp only[Int.toNat_natCast,oa]at hr;split at aa
   ·rename_i ja;split at aa
    ·rename_i dc;simp only[Qa,Qd]at aa;obtain⟨rfl,rfl⟩:=aa;obtain rfl:n=c:=by omega
     have xa:z.cells.length=1∧zv.cells=#[zv]∧zv.oneCell'=true:=by
      cases z with
      |nilIface=>
       obtain rfl:zv= .nilIface:=by cases da;rfl
       exact⟨rfl,rfl,rfl⟩
      |str b=>
       obtain⟨v,rfl⟩:∃v,zv= .string v:=by cases da;exact⟨_,rfl⟩
       exact⟨rfl,rfl,rfl⟩
      |_=>cases ja
     obtain⟨ra,bb,cb⟩:=xa;obtain rfl:1=sz:=ra.symm.trans f;have ka:∀(j:Nat),j<n->(madeCells #[zv] (n*1)).toList[j]?=some zv:=by
      intro j hj;simp[madeCells,hj,Nat.mod_one]
     have ca:(madeCells #[zv] (n*1)).toList.length=n:=by simp[madeCells]
     have na:AX w g (Qz n z) (madeCells #[zv] (n*1)).toList:=by
      refine⟨by rw[ca];simp,λv hv=>?_,λj d v hd hv=>?_⟩
      ·obtain⟨j,hj,rfl⟩:=Za hv;have:=ka j (by rw[ca]at hj;exact hj);rw[Qc hj]at this;rw[QK this];exact cb
      ·grind
     refine⟨.slice (some ⟨w.heap.size,0,none⟩) n n,w.alloc (.cells (madeCells #[zv] (n*1)) e),g.obj fr w.heap.size,.value (.slice (some ⟨w.heap.size,0,none⟩) n n),?_,.inl rfl,?_⟩
     ·simp only[execOp,ho,la.int_inv,db.int_inv,Sem.run_bind,Sem.run_pure];rw[bb]at hr;rw[hr];rfl
     ·have:=h.inv.newObj h.self (ds:=Qz n z) (vs:=(madeCells #[zv] (n*1)).toList) e na;rw[QD]at this;exact⟨this,Hr.newObj _ h.inv.gz h.self.2.1,.row fr n n w.heap.size (Qi _) (by simp[Gh.obj]),λi hf ga=>EL hf ga _ _⟩
    ·cases aa
   ·simp only[Qa,Qd]at aa;obtain⟨rfl,rfl⟩:=aa;have gb:zv.cells.size=sz:=kb;have ba:=da.cells va;have fa:=h.inv.newTok h.self (e:=e) (n:=n) (c:=c) (sz:=sz) (cur:=madeCells zv.cells (c*sz)) ua ⟨ti,zv,hi,oa,r,kb⟩ O Xp (by simp[size_madeCells]);have ma:=Hr.newTok (t:=fr) (n:=n) (c:=c) (sz:=sz) (Obj.cells (madeCells zv.cells (c*sz)) e) h.inv.gz h.self.2.2 rfl;refine⟨.slice (some ⟨w.heap.size,0,none⟩) n c,_,_,.value (.slice (some ⟨w.heap.size,0,none⟩) n c),?_,.inl rfl,fa,ma,?_,λi hf ga=>CU hf ga _ _ _ _ _⟩
    ·simp only[execOp,ho,la.int_inv,db.int_inv,Sem.run_bind,hr,Result.andThen_ok,Sem.run_pure]
    ·have ya:∀k,flat (Qz k z)=(Qz k z.cells).flatten:=by
      intro k;induction k with
      |zero=>rfl
      |succ k ih=>simp[List.replicate_succ,flat,ih]
     have ha:∀(j:Nat),j<n*sz->(flat (Qz n z))[j]?=z.cells[j % sz]?:=by
      intro j hj;have hq:j / sz<n:=Nat.div_lt_of_lt_mul (by rw[ZK];exact hj);have:=Er (sz:=sz) (xs:=Qz n z) (k:=j / sz) (j:=j % sz) (λd hd=>YO) (by simpa using hq) (ZJ _ ua);rw[show j / sz*sz+j % sz=j by rw[ZK];exact Nat.div_add_mod j sz]at this;rw[this];simp
     have wa:(flat (Qz n z)).length=n*sz:=by
      simp_all
     have ab:AX w g (flat (Qz n z)) ((madeCells zv.cells (c*sz)).toList.take (n*sz)):=by
      have ta:n*sz<=c*sz:=QB _ O;have ka:∀j,j<n*sz->((madeCells zv.cells (c*sz)).toList.take (n*sz))[j]?=zv.cells.toList[j % sz]?:=by
       intro j hj;rw[Qp hj];have hm:j % sz<zv.cells.size:=by rw[kb];exact ZJ _ ua
       simp[madeCells,kb,show j<c*sz by omega];rw[getElem!_pos zv.cells _ hm,getElem?_pos zv.cells _ hm]
      refine⟨by rw[QT,wa,QW,size_madeCells];omega,λv hv=>?_,λj d v hd hv=>?_⟩
      ·obtain⟨j,hj,rfl⟩:=Za hv;have sa:j<n*sz:=QO hj (Zr _ _);have:=ka j sa;rw[Qc hj]at this;exact ba.2.1 _ (Qr this.symm)
      ·have sa:j<n*sz:=by have:=(Qf.1 hd).1;omega
       rw[ha j sa]at hd;rw[ka j sa]at hv;exact ba.2.2 _ d v hd hv
     refine aG (sz:=sz) (cur:=madeCells zv.cells (c*sz)) (T:=e) (fz:=(0,0)) (heap_alloc_new w _) U O (λd hd=>YO) (ab.ext ma) (λj v hv=>?_) Xl (λ_=>Xl) (λd hd=>by rw[List.eq_of_mem_replicate hd];exact ia);have hj:j<n*sz:=QO (Qf.1 hv).1 (Zr _ _);rw[Qp hj]at hv;simpa using hv
  ·cases aa
 ·cases aa
def OH:∀b:List UInt8,flat (AH b)=AH b
 |[]=>rfl
 |c::r=>by
  have:=OH r;simp only[AH]at this;simp only[AH,Qs,flat,D.cells,Q2,Zl,this]
def aCu{p fa e:TypeId}{o:Oper}{x:Operand}{y:Hd}(h:At P B w0 w m g fr s a)(hs:P.underlying p=some .string)(t:P.underlying fa=some (.slice e))(he:P.underlying e=some (.int .u8))
  (q:AC x=some y) (ho:o.op= .convert p fa x) (z:Ax S s m fr (.s2b y)=some (d,u)):u=[]∧CZ P B w0 m g fr w m d (execOp a.eval o):=by
 have hr:=h.slots.arg q;simp only[Ax]at z;split at z
 ·rename_i b e1;rw[e1]at hr;simp only[Qa,Qd]at z;obtain⟨rfl,rfl⟩:=z;have r:=Lib.run_convert_string_bytes (P:=P) w p fa e ⟨b.toArray⟩ hs t he;have f:Below w.heap.size w (Lib.bytesWorld w e ⟨b.toArray⟩):=
   ⟨rfl,rfl,rfl,by rw[Lib.bytesWorld_size];omega,λk hk=>Lib.bytesWorld_at_old w e _ k hk⟩
  have la:(ByteArray.mk b.toArray).size=b.length:=XY
  rw[la]at r;refine⟨rfl,.slice (some ⟨w.heap.size,0,none⟩) b.length (grownCap w b.length 0 e),_,_,.value (.slice (some ⟨w.heap.size,0,none⟩) b.length (grownCap w b.length 0 e)),?_,.inl rfl,h.inv.over f,Hr.over h.inv.gz f,?_,λi hf _=>hf⟩
  ·simp only[execOp,ho,hr.str_inv,Sem.run_bind,r,Result.andThen_ok,Sem.run_pure]
  ·have ga:=Lib.bytesWorld_at_new w e ⟨b.toArray⟩;have wa:=OH b;refine aG (sz:=1) (cur:=Lib.bytesCells w e ⟨b.toArray⟩) (vs:=b.map λc=> .int .u8 c.toNat) ga (by simp[AH]) (grownCap_ge w _ 0 e) (λd t=>?_) ⟨?_,?_,?_⟩ (λj v hv=>?_) ?_ U (λd t=>by simp only[AH,Qv]at t;obtain⟨c,_,rfl⟩:=t;rfl)
   ·simp only[AH,Qv]at t;obtain⟨c,_,rfl⟩:=t;rfl
   ·rw[wa];simp[AH]
   ·intro v hv;simp only[Qv]at hv;obtain⟨c,_,rfl⟩:=hv;rfl
   ·intro j d v t hv;rw[wa]at t;simp only[AH,Qj,Qb]at t hv;obtain⟨c,n,rfl⟩:=t;obtain⟨c',qa,rfl⟩:=hv;rw[n]at qa;simp only[Qa]at qa;subst qa;exact .int _ _
   ·simp only[Lib.bytesCells];have hj:=(Qf.1 hv).1;rw[QI (by simpa using hj)];simpa using hv
   ·simp only[Gh.over];rw[if_neg O,ga];simp[Lib.bytesCells,la]
 ·cases z
def LL:∀{xs:List D} {b:List UInt8},BG xs=some b->∃ns:List Int,xs=ns.map (D.int .u8)∧b=ns.map λn=>UInt8.ofNat n.toNat
 |[],b,h=>by simp only[BG,Qa]at h;subst h;exact⟨[],rfl,rfl⟩
 |x::r,b,h=>by
  unfold BG at h;split at h
  ·rename_i c;cases c
  ·rename_i n a c;cases c;rw[Qb]at h;obtain⟨k,o,rfl⟩:=h;obtain⟨ns,rfl,rfl⟩:=LL o;exact⟨n::ns,rfl,rfl⟩
  ·cases h
def GA:∀(ns:List Int)(r:List UInt8),ns.foldl (λ(r:ByteArray) n=>r.push (UInt8.ofNat n.toNat)) ⟨r.toArray⟩=⟨(r++ns.map λn=>UInt8.ofNat n.toNat).toArray⟩
 |[],r=>U
 |n::ns,r=>by
  simp only[Q8,Qs];have:(ByteArray.mk r.toArray).push (UInt8.ofNat n.toNat)=⟨(r++[UInt8.ofNat n.toNat]).toArray⟩:=by
   simp[ByteArray.push]
  rw[this,GA ns];simp
def aCx{p fa e:TypeId}{o:Oper}{x:Operand}{y:Hd}(h:At P B w0 w m g fr s a)(hs:P.underlying p=some (.slice e))(hd:P.underlying fa=some .string)(he:P.underlying e=some (.int .u8))
  (q:AC x=some y) (ho:o.op= .convert p fa x) (z:Ax S s m fr (.b2s y)=some (d,u)):u=[]∧CZ P B w0 m g fr w m d (execOp a.eval o):=by
 have hr:=h.slots.arg q;simp only[Ax]at z;split at z
 ·rename_i nl t' xs e1;rw[e1]at hr;rw[Qb]at z;obtain⟨b,hb,z⟩:=z;simp only[Qd]at z;obtain⟨rfl,rfl⟩:=z;cases nl with
  |true=>
   rcases hr.slice_inv with ⟨_,rfl,ev⟩|⟨h0,_⟩
   ·simp only[BG,Qa]at hb;subst hb;refine⟨rfl,.pure (v:= .string ⟨([]:List UInt8).toArray⟩) h.inv ?_ (.str _)⟩;simp[execOp,ho,ev,convert,run_underlying hs,run_underlying hd,run_underlying he,Conv.bytesToString];rfl
   ·cases h0
  |false=>
   obtain⟨ns,rfl,rfl⟩:=LL hb;obtain⟨ad,n,c,sz,ws,ev,hn,za,la,xa,ea,ka,hG,_,_⟩:=hr.slice_list;have wa:∀l:List Int,flat (l.map (D.int .u8))=l.map (D.int .u8):=by
    intro l;induction l with
    |nil=>rfl
    |cons c r ih=>simp only[Qs,flat,D.cells,Q2,Zl,ih]
   rw[wa]at ea;have ab:ws=ns.map (Value.int .u8):=by
    apply Zz;intro j;have hl:=ea.1;by_cases hj:j<ws.length
    ·have oa:j<ns.length:=by simpa[hl]using hj
     have:=ea.2.2 j (.int .u8 ns[j]) ws[j] (by simp[oa]) (Qc hj);rw[Qc hj,this.int_inv];simp[oa]
    ·rw[Qk O,Qk (by simp;simp at hl;omega)]
   have pa:ws.length=n:=by rw[ab,hn];simp
   have i:(loadCells ad n).run P w= .ok (ns.map (Value.int .u8)).toArray w:=by
    have:=run_loadCells_list (P:=P) w ad ws ka;rw[pa,ab]at this;exact this
   have t:=run_bytesToString (P:=P) w ad n c ns i;have f:=GA ns [];refine⟨rfl,.pure (v:= .string ⟨(ns.map λn=>UInt8.ofNat n.toNat).toArray⟩) h.inv ?_ (.str _)⟩;have k:(convert p fa (.slice (some ad) n c)).run P w=(Conv.bytesToString (.slice (some ad) n c)).run P w:=by
    simp[convert,run_underlying hs,run_underlying hd,run_underlying he]
   simp only[execOp,ho,ev,Sem.run_bind,k,t,Result.andThen_ok,Sem.run_pure];rw[show ByteArray.empty=⟨([]:List UInt8).toArray⟩from rfl,f];rfl
 ·cases z
end
section
variable{P:Program}{B:Nat}{w0 w:World}{m:Ha}{g:Gh}{fr:Id}{s:Nat->D}{a:Act}{S:G8}{d:D}{u:Hf}
def CZ.of_nil{x:Sem Next}(h:u=[]∧CZ P B w0 m g fr w m d x):CZ P B w0 m g fr w (Hf.app m u) d x:=by
 obtain⟨rfl,h⟩:=h;exact h
def bC{w:World}{g:Gh}{d e:D}{v u:Value}(h:Rep w g d v)(k:Rep w g e u):Rep w g (.tup [d,e]) (.tuple #[v,u]):=by
 refine .tup [d,e] [v,u] rfl (λj n f p m=>?_)
 match j with
 |0=>simp at p m;subst p m;exact h
 |1=>simp at p m;subst p m;exact k
 |j+2=>simp at p
def qD{ne:Bool}{t:TypeId}{x y:Operand}{yt:TypeId}{o:Oper}{p q:Hd}{ma:DOp}(h:At P B w0 w m g fr s a)(hx:AC x=some p)(hy:AC y=some q)
  (j:aAe P ne t x y p q=some ma) (ho:o.op= .binOp (if ne then .neq else .eql) t x y yt) (z:Ax S s m fr ma=some (d,u)):u=[]∧CZ P B w0 m g fr w m d (execOp a.eval o):=by
 have la:=h.slots.arg hx;have db:=h.slots.arg hy;have r:∀v,(eqGuard (if ne then .neq else .eql) t x y (a.eval x) (a.eval y)).run P w= .ok () w->(binOp (if ne then .neq else .eql) t (a.eval x) (a.eval y)).run P w= .ok v w->(execOp a.eval o).run P w= .ok (.value v) w:=by
  intro v e1 e2;simp only[execOp,ho,Sem.run_bind,e1,e2,Result.andThen_ok,Sem.run_pure]
 have i:ma= .bin (if ne then .neq else .eql) p q->u=[]∧CZ P B w0 m g fr w m d (execOp a.eval o):=by
  rintro rfl;simp only[Ax]at z;rw[Qb]at z;obtain⟨d',h1,z⟩:=z;simp only[Qd]at z;obtain⟨rfl,rfl⟩:=z;obtain⟨v,e1,e2,e3,e4⟩:=T_ (P:=P) (t:=t) la db h1;exact⟨rfl,.pure h.inv (r v (IR _ t x y _ _ e3 e4 w) e1) e2⟩
 have f:∀k td,P.underlying t=some td->aCA k td->(k=2->(GQ x||GQ y)=true)->ma= .nileq ne k p q->u=[]∧CZ P B w0 m g fr w m d (execOp a.eval o):=by
  rintro k td hu hd n rfl;simp only[Ax]at z;rw[Qb]at z;obtain⟨b,h1,z⟩:=z;simp only[Qd]at z;obtain⟨rfl,rfl⟩:=z;obtain⟨e1,e2,e3,e4⟩:=bY la db h1 hu hd 9999;exact⟨rfl,.pure h.inv (r _ (dJ _ t x y _ _ e3 (λe=>n (e4 e)) w) (Uz e2 ne e1)) (.bool _)⟩
 unfold aAe at j;split at j
 ·rename_i hu;simp only[Qa]at j;subst j;simp only[Ax]at z;split at z
  ·rename_i b c ex ey;rw[ex]at la;rw[ey]at db;simp only[Qa,Qd]at z;obtain⟨rfl,rfl⟩:=z;refine⟨rfl,.pure h.inv (r _ (IR _ t x y _ _ (by rw[la.bool_inv];simp) (by rw[la.bool_inv];simp) w) (Uz (by rw[la.bool_inv];rfl) ne (b:=b==c) ?_)) (.bool _)⟩;rw[la.bool_inv,db.bool_inv];exact run_equalIn_bool' w 9999 t _ _ hu
  ·cases z
 ·simp_all
 ·simp_all
 ·rename_i fs hu;split at j
  ·rename_i n;rw[Qb]at j;obtain⟨l,hl,rfl⟩:=j;simp only[Ax]at z;split at z
   ·rename_i xs ys ex ey;rw[ex]at la;rw[ey]at db;rw[Qb]at z;obtain⟨b,h1,z⟩:=z;simp only[Qd]at z;obtain⟨rfl,rfl⟩:=z;obtain⟨e1,e2⟩:=Uw la db hu n.1 n.2 hl h1 x y (if ne then .neq else .eql);refine⟨rfl,.pure h.inv (r _ e2 (Uz ?_ ne e1)) (.bool _)⟩;obtain⟨vs,e3,_⟩:=aI la;rw[e3];rfl
   ·cases z
  ·cases j
 ·rename_i e hu;simp only[Qa]at j;exact f 0 _ hu ⟨e,rfl⟩ U j.symm
 ·rename_i e hu;simp only[Qa]at j;exact f 1 _ hu ⟨e,rfl⟩ U j.symm
 ·rename_i p' r' v' hu;simp only[Qa]at j;exact f 3 _ hu ⟨p',r',v',rfl⟩ U j.symm
 ·rename_i ms hu;split at j
  ·rename_i n;simp only[Qa]at j;exact f 2 _ hu ⟨ms,rfl⟩ (λ_=>n) j.symm
  ·cases j
 ·cases j
def aCw{op:BinOp}{t:TypeId}{x y:Operand}{e:TypeId}{o:Oper}{p q:Hd}(h:At P B w0 w m g fr s a)(hx:AC x=some p)(r:AC y=some q)
  (i:o.op= .binOp op t x y e) (z:Ax S s m fr (.bin op p q)=some (d,u)):u=[]∧CZ P B w0 m g fr w m d (execOp a.eval o):=by
 simp only[Ax]at z;rw[Qb]at z;obtain⟨d',h1,z⟩:=z;simp only[Qd]at z;obtain⟨rfl,rfl⟩:=z;obtain⟨v,n,e2,j,e4⟩:=T_ (P:=P) (t:=t) (h.slots.arg hx) (h.slots.arg r) h1;refine⟨rfl,.pure h.inv ?_ e2⟩;simp only[execOp,i,Sem.run_bind,IR op t x y _ _ j e4 w,n,Result.andThen_ok,Sem.run_pure]
def vX{x:Operand}{xt t:TypeId}{ok:Bool}{z:D}{o:Oper}{p:Hd}{td:TypeDesc}(h:At P B w0 w m g fr s a)(hu:P.underlying t=some td)(f:∀ms,td≠ .interface ms)(j:C6 P t=some z)
  (q:AC x=some p) (ho:o.op= .typeAssert x xt t ok) (y:Ax S s m fr (.tass t ok z p)=some (d,u)):u=[]∧CZ P B w0 m g fr w m d (execOp a.eval o):=by
 have k:=h.slots.arg q;obtain⟨zv,ta,b⟩:∃zv,Rep w g z zv∧(zeroValue t).run P w= .ok zv w:=by
  unfold C6 at j;split at j
  ·rename_i i hi;split at j
   ·rename_i v r;exact⟨v,Rep.ofVal j,by simp[zeroValue,typeInfo,hi,r]⟩
   ·cases j
  ·cases j
 have n:∀v,(Instr.typeAssert (a.eval x) xt t ok).run P w= .ok v w->(execOp a.eval o).run P w= .ok (.value v) w:=by
  intro v e;simp only[execOp,ho,Sem.run_bind,e,Result.andThen_ok,Sem.run_pure]
 simp only[Ax]at y;split at y
 ·rename_i t' d' ex;rw[ex]at k;obtain⟨v,ev,r,_⟩:=k.iface_inv;split at y
  ·rename_i wa;subst wa;simp only[Qa,Qd]at y;obtain⟨rfl,rfl⟩:=y;refine⟨rfl,.pure (v:=if ok then .tuple #[v,.bool true]else v) h.inv (n _ ?_) ?_⟩
   ·rw[ev];unfold Instr.typeAssert;simp only[Sem.run_bind,run_underlying hu,Result.andThen_ok];cases td<;>first|exact absurd rfl (f _)|(cases ok<;>simp)
   ·cases ok
    ·exact r
    ·exact bC r (.bool true)
  ·rename_i wa;split at y
   ·rename_i da;subst da;simp only[Qa,Qd]at y;obtain⟨rfl,rfl⟩:=y;refine⟨rfl,.pure (v:= .tuple #[zv,.bool false]) h.inv (n _ ?_) (bC ta (.bool false))⟩;rw[ev];unfold Instr.typeAssert;simp only[Sem.run_bind,run_underlying hu,Result.andThen_ok];have c:¬t'=t:=wa;cases td<;>first|exact absurd rfl (f _)|(simp[c,b])
   ·cases y
 ·rename_i ex;rw[ex]at k;have ev:=k.nili_inv;split at y
  ·rename_i da;subst da;simp only[Qa,Qd]at y;obtain⟨rfl,rfl⟩:=y;refine⟨rfl,.pure (v:= .tuple #[zv,.bool false]) h.inv (n _ ?_) (bC ta (.bool false))⟩;rw[ev];unfold Instr.typeAssert;simp only[Sem.run_bind,run_underlying hu,Result.andThen_ok];cases td<;>first|exact absurd rfl (f _)|(simp[b])
  ·cases y
 ·cases y
def fH{xs:Array Operand}{l:List Hd}(h:At P B w0 w m g fr s a)(hl:DZ xs.toList=some l):
  ((xs.map a.eval).toList).length=(l.map (·.ev s)).length∧∀(j:Nat) d v,(l.map (·.ev s))[j]?=some d->((xs.map a.eval).toList)[j]?=some v->Rep w g d v:=by
 have:=h.slots.args hl;simpa using this
end
def NQ{w:World}{b k:Nat}{o:Obj}(h:k≠b):({w with heap:=w.heap.setIfInBounds b o}:World).heap[k]?=w.heap[k]?:=by
 grind
def Gh.itr(g:Gh)(t:Id)(b:Nat):Gh:={g with tb:=λi=>if i=t then some (b,0,0,0)else g.tb i}
section
variable{P:Program}{B:Nat}{w0 w w':World}{m:Ha}{g g':Gh}{fr:Id}{s:Nat->D}{a:Act}{S:G8}{d:D}{u:Hf}
def Ed(m:Ha)(t:Id)(x:D)(i:Id)(o:Nat):m.put t 1 [x] i o=if i=t∧o=1 then some x else m i o:=by
 grind [Ha.put]
def Hr.newItr{t:Id}(o:Obj)(j:∀b,w.heap.size<=b->g.G b=0)(a:g.tb t=none):Hr w g (w.alloc o) (g.itr t w.heap.size):=by
 refine⟨λp c=>?_,λr=>Qi _,λf b h=>h,rfl,λi x h=>?_,U,λi _ h=> .inl ⟨i,h⟩,λi x h=>?_,λk o' s _ _=>(Below.heap_alloc w o k (Qe.1 s).1).trans s⟩
 rotate_right
 ·simp only[Gh.itr]at h;split at h
  ·simp only[Qa]at h;subst h;exact .inr (Qi _)
  ·exact .inl ⟨i,x,h,rfl⟩
 ·by_cases u:p.block<w.heap.size
  ·exact World.cell?_alloc_lt w o p u
  ·simp_all
 ·grind [Gh.itr]
def Hi.newItr(h:Hi P B w0 m w g){t:Id}(hf:B0 m g t)(bs:List UInt8):Hi P B w0 (m.put t 1 [.it bs 0]) (w.alloc (.stringIter ⟨bs.toArray⟩ 0)) (g.itr t w.heap.size):=by
 have x:=Hr.newItr (t:=t) (Obj.stringIter ⟨bs.toArray⟩ 0) h.gz hf.2.2;have ea:=Ed m t (.it bs 0);refine⟨h.below.alloc h.size _,Yv,λb k=>h.gz b (by simp at k;omega),h.old,λi b hi=>?_,h.inj,λi o d j hn=>?_,λi e hi=>?_,λi1 i2 e1 e2 b y y' u f a h4=>?_,λi s p hi=>?_,λi i' s p s' p' b y y' u f a h4=>?_⟩
 ·obtain⟨p,q,vs,T,hh,r⟩:=h.obj i b hi;refine⟨p,q,vs,T,(Below.heap_alloc w _ b (h.lt hi)).trans hh,λo d j=>?_⟩;rw[ea,if_neg (by rintro⟨rfl,_⟩;simp only[Gh.itr]at hi;rw[hf.2.1]at hi;cases hi)]at j;obtain⟨v,r1,r2,r3⟩:=r o d j;exact⟨v,r1,r2,r3.ext x⟩
 ·rw[ea]at j;split at j
  ·rw[←QK j];rfl
  ·exact h.kind _ _ _ j hn
 ·rw[ea,if_neg U]at hi;obtain⟨b,n,c,sz,cur,t1,t2,t3,t4,t5,t6,t7,t8,t9,ya⟩:=h.tok i e hi;have da:b<w.heap.size:=(Qe.1 t5).1;have ca:i≠t:=by rintro rfl;rw[hf.1 0]at hi;cases hi
  exact⟨b,n,c,sz,cur,by simp[Gh.itr,ca,t1],t2,t3,t4,(Below.heap_alloc w _ b da).trans t5,t6,t7,t8,t9,ya⟩
 ·rw[ea,if_neg U]at u f;have n1:i1≠t:=by rintro rfl;rw[hf.1 0]at u;cases u
  have n2:i2≠t:=by rintro rfl;rw[hf.1 0]at f;cases f
  simp only[Gh.itr,if_neg n1]at a;simp only[Gh.itr,if_neg n2]at h4;exact h.tinj _ _ _ _ _ _ _ u f a h4
 ·rw[ea]at hi;split at hi
  ·rename_i z;obtain⟨rfl,_⟩:=z;simp only[Qa,D.it.injEq]at hi;obtain⟨rfl,rfl⟩:=hi;exact⟨w.heap.size,by simp[Gh.itr],h.size,heap_alloc_new w _,h.gz _ (Qi _),λi' h'=>by have:=h.lt h';omega⟩
  ·obtain⟨b,t1,t2,t3,t4,t5⟩:=h.itr.1 i s p hi;have da:b<w.heap.size:=(Qe.1 t3).1;have ca:i≠t:=by rintro rfl;rw[hf.1 1]at hi;cases hi
   exact⟨b,by simp[Gh.itr,ca,t1],t2,(Below.heap_alloc w _ b da).trans t3,t4,t5⟩
 ·have ia:∀i s p,m i 1=some (.it s p)->∀b y,(g.itr t w.heap.size).tb i=some (b,y)->i≠t∧g.tb i=some (b,y)∧b<w.heap.size:=by
   intro i s p j b y k;have ca:i≠t:=by rintro rfl;rw[hf.1 1]at j;cases j
   simp only[Gh.itr,if_neg ca]at k;obtain⟨b',t1,t2,t3,t4,t5⟩:=h.itr.1 i s p j;rw[t1]at k;simp only[Qa,Qd]at k;obtain⟨rfl,rfl⟩:=k;exact⟨ca,t1,(Qe.1 t3).1⟩
  rw[ea]at u f;split at u<;>split at f
  ·simp_all
  ·grind [Gh.itr]
  ·grind [Gh.itr]
  ·obtain⟨_,k3,_⟩:=ia _ _ _ u _ _ a;obtain⟨_,k4,_⟩:=ia _ _ _ f _ _ h4;exact h.itr.2 _ _ _ _ _ _ _ _ _ u f k3 k4
def Hi.nextItr(h:Hi P B w0 m w g){i:Id}{b:Nat}{bs:List UInt8}{p q:Nat}(hm:m i 1=some (.it bs p))(hb:g.tb i=some (b,0,0,0)):
  Hi P B w0 (m.put i 1 [.it bs q]) {w with heap:=w.heap.setIfInBounds b (.stringIter ⟨bs.toArray⟩ q)} g∧Hr w g {w with heap:=w.heap.setIfInBounds b (.stringIter ⟨bs.toArray⟩ q)} g:=by
 obtain⟨b0,t1,t2,t3,t4,t5⟩:=h.itr.1 i bs p hm;rw[hb]at t1;simp only[Qa,Qd,and_true]at t1;subst t1;have da:b<w.heap.size:=(Qe.1 t3).1;have aa:∀k,k≠b->({w with heap:=w.heap.setIfInBounds b (.stringIter ⟨bs.toArray⟩ q)}:World).heap[k]?=w.heap[k]?:=λk hk=>NQ hk
 have ea:=Ed m i (.it bs q);have x:Hr w g {w with heap:=w.heap.setIfInBounds b (.stringIter ⟨bs.toArray⟩ q)} g:=by
  refine⟨λr hr=>?_,λ_=>Qi _,λ_ _ h=>h,rfl,λ_ _ h=>h,U,λi _ h=> .inl ⟨i,h⟩,λi x h=> .inl ⟨i,x,h,rfl⟩,λk o hk _ hn=>(aa k (λe=>hn i _ hb e.symm)).trans hk⟩;have ga:r.block≠b:=by rintro e;rw[e,t4]at hr;omega
  simp only[World.cell?];rw[aa _ ga]
 have la:({w with heap:=w.heap.setIfInBounds b (.stringIter ⟨bs.toArray⟩ q)}:World).heap.size=w.heap.size:=U
 refine⟨⟨⟨h.below.os,h.below.tape,h.below.output,Yl,λk hk=>(aa k O).trans (h.below.block k hk)⟩,Yk,by rw[la];exact h.gz,h.old,λi' b' hi=>?_,h.inj,λi' o d j hn=>?_,λi' e hi=>?_,λi1 i2 e1 e2 b' y y' u f a h4=>?_,λi' s' p' hi=>?_,λi1 i2 s1 p1 s2 p2 b' y y' u f a h4=>?_⟩,x⟩
 ·obtain⟨p1,q1,vs,T,hh,r⟩:=h.obj i' b' hi;have ga:b'≠b:=by rintro rfl;exact t5 i' hi
  refine⟨p1,q1,vs,T,(aa b' ga).trans hh,λo d j=>?_⟩;rw[ea]at j;split at j
  ·rename_i t;obtain⟨rfl,rfl⟩:=t;obtain⟨v,_,_,r3⟩:=r 1 _ hm;cases r3
  ·obtain⟨v,r1,r2,r3⟩:=r o d j;exact⟨v,r1,r2,r3.ext x⟩
 ·rw[ea]at j;split at j
  ·rw[←QK j];rfl
  ·exact h.kind _ _ _ j hn
 ·rw[ea,if_neg U]at hi;obtain⟨b1,n,c,sz,cur,u1,u2,u3,u4,u5,u6,u7,u8,u9,z⟩:=h.tok i' e hi;have ga:b1≠b:=by rintro rfl;rw[t3]at u5;cases u5
  exact⟨b1,n,c,sz,cur,u1,u2,u3,u4,(aa b1 ga).trans u5,u6,u7,u8,u9,z⟩
 ·rw[ea,if_neg U]at u f;exact h.tinj _ _ _ _ _ _ _ u f a h4
 ·rw[ea]at hi;split at hi
  ·simp_all
  ·rename_i t;obtain⟨b1,u1,u2,u3,u4,u5⟩:=h.itr.1 i' s' p' hi;have ga:b1≠b:=by
    rintro rfl;exact t ⟨h.itr.2 _ _ _ _ _ _ _ _ _ hi hm u1 hb,rfl⟩
   exact⟨b1,u1,u2,(aa b1 ga).trans u3,u4,u5⟩
 ·have ia:∀i' s' p',m.put i 1 [.it bs q] i' 1=some (.it s' p')->∃s p,m i' 1=some (.it s p):=by
   intro i' s' p' hi;rw[ea]at hi;split at hi
   ·simp_all
   ·exact⟨_,_,hi⟩
  obtain⟨_,_,k1⟩:=ia _ _ _ u;obtain⟨_,_,k2⟩:=ia _ _ _ f;exact h.itr.2 _ _ _ _ _ _ _ _ _ k1 k2 a h4
def Rep.itp_inv{i:Id}{v:Value}(h:Rep w g (.itp i) v):∃b,v= .pointer (some ⟨b,0,none⟩)∧g.tb i=some (b,0,0,0):=by
 cases h with
 |itp _ b o=>exact⟨b,rfl,o⟩
def lE{t:TypeId}{o:Oper}{x:Operand}{y:Hd}(h:At P B w0 w m g fr s a)(c:P.underlying t=some .string)(q:AC x=some y)(v:o.op= .range t x)
  (z:Ax S s m fr (.range y)=some (d,u)):CZ P B w0 m g fr w (Hf.app m u) d (execOp a.eval o):=by
 have j:=h.slots.arg q;simp only[Ax]at z;split at z
 ·rename_i b f;rw[f]at j;simp only[Qa,Qd]at z;obtain⟨rfl,rfl⟩:=z;refine⟨.pointer (some ⟨w.heap.size,0,none⟩),w.alloc (.stringIter ⟨b.toArray⟩ 0),g.itr fr w.heap.size,.value (.pointer (some ⟨w.heap.size,0,none⟩)),?_,.inl rfl,?_⟩
  ·have n:a.eval x= .string ⟨b.toArray⟩:=j.str_inv;simp[execOp,v,Instr.range,run_underlying c,n]
  ·refine⟨h.inv.newItr h.self b,Hr.newItr _ h.inv.gz h.self.2.2,.itp fr _ (by simp[Gh.itr]),λi k ga=>?_⟩;have:i≠fr:=λe=>ga Ym
   exact⟨λo=>by show m.put fr 1 _ i o=none;rw[Ed,if_neg (by simp[this])];exact k.1 o,k.2.1,by simp only[Gh.itr];rw[if_neg this];exact k.2.2⟩
 ·cases z
def vY{o:Oper}{x:Operand}{y:Hd}(h:At P B w0 w m g fr s a)(hx:AC x=some y)(ho:o.op= .next x true)
  (he:Ax S s m fr (.next y)=some (d,u)):CZ P B w0 m g fr w (Hf.app m u) d (execOp a.eval o):=by
 have hr:=h.slots.arg hx;simp only[Ax]at he;split at he
 ·rename_i i ex;rw[ex]at hr;obtain⟨b,e1,f⟩:=hr.itp_inv;split at he
  ·rename_i bs z hm;obtain⟨b',t1,t2,t3,t4,t5⟩:=h.inv.itr.1 i bs z hm;rw[f]at t1;simp only[Qa,Qd,and_true]at t1;subst t1;have n:b<w.heap.size:=(Qe.1 t3).1;have r:(getObj b).run P w= .ok (.stringIter ⟨bs.toArray⟩ z) w:=by simp[getObj,Sem.run,t3]
   have na:∀o',(setObj b o').run P w= .ok () {w with heap:=w.heap.setIfInBounds b o'}:=by intro o';simp[setObj,Sem.run,t3]
   have la:(ByteArray.mk bs.toArray).size=bs.length:=XY
   split at he
   ·rename_i k;simp only[Qa,Qd]at he;obtain⟨rfl,rfl⟩:=he;obtain⟨hi,ka⟩:=h.inv.nextItr (q:=z+(Utf8.decode ⟨bs.toArray⟩ z).2) hm f;refine⟨.tuple #[.bool true,.int .i64 (z:Nat),.int .i32 (Utf8.decode ⟨bs.toArray⟩ z).1],_,g,.value (.tuple #[.bool true,.int .i64 (z:Nat),.int .i32 (Utf8.decode ⟨bs.toArray⟩ z).1]),?_,.inl rfl,⟨hi,ka,?_,λj hf e=>?_⟩⟩
    ·simp only[execOp,ho,Instr.next,e1,Sem.run_bind,r,Result.andThen_ok,la,k,if_true];cases p:Utf8.decode ⟨bs.toArray⟩ z with
     |mk c wd=>
      simp only[na,Result.andThen_ok,Sem.run_pure];rfl
    ·refine .tup [_,_,_] [_,_,_] rfl (λj d v p t=>?_)
     match j with
     |0=>simp at p t;subst p t;exact .bool _
     |1=>simp at p t;subst p t;exact .int _ _
     |2=>simp at p t;subst p t;exact .int _ _
     |j+3=>simp at p
    ·have:j≠i:=by rintro rfl;rw[hf.1 1]at hm;cases hm
     exact⟨λo=>by show m.put i 1 _ j o=none;rw[Ed,if_neg (by simp[this])];exact hf.1 o,hf.2⟩
   ·rename_i k;simp only[Qa,Qd]at he;obtain⟨rfl,rfl⟩:=he;refine .pure (v:= .tuple #[.bool false]) h.inv ?_ (.tup [_] [_] rfl (λj d v p t=>?_))
    ·simp only[execOp,ho,Instr.next,e1,Sem.run_bind,r,Result.andThen_ok,la,k,if_false,Sem.run_pure]
    ·match j with
     |0=>simp at p t;subst p t;exact .bool _
     |j+1=>simp at p
  ·cases he
 ·cases he
end
structure HF.ok (P:Program) (f:FuncId) (q:HF):Prop where
 ent:∃fn,P.funcs[f]?=some fn∧fn.body.isSome=true∧(fn.name== "runtime.NumGoroutine")=false
 loc:∀ds m m' fr,(∀l∈q.rd ds m,m l.1 l.2=m' l.1 l.2)->q.ex ds m fr=q.ex ds m' fr
 run:∀{B:Nat} {w0 w:World} {m:Ha} {g:Gh} {fr:Id} {ds:List D} {vs:List Value} {r:D} {u:Hf},Hi P B w0 m w g->(∀i,fr<:+i->B0 m g i)->
  vs.length=ds.length->(∀(j:Nat) d v,ds[j]?=some d->vs[j]?=some v->Rep w g d v)->q.ex ds m fr=some (r,u)->
  Calls P f vs.toArray w λe w'=>∃v g',e= .returned v∧aQh P B w0 m g fr w (Hf.app m u) r v w' g'
def G8.ok(P:Program)(S:G8):Prop:=∀f q,S f=some q->q.ok P f
section
variable{P:Program}{B:Nat}{w0 w:World}{m:Ha}{g:Gh}{fr:Id}{s:Nat->D}{a:Act}{S:G8}{d:D}{u:Hf}
def aGQ{o:Oper}{ma:DOp}(h:At P B w0 w m g fr s a)(ba:tr P o.op=some ma)(za:∀f xs,ma≠ .call f xs)(aa:Ax S s m fr ma=some (d,u)):
  CZ P B w0 m g fr w (Hf.app m u) d (execOp a.eval o):=by
 have fa:∀{x:Operand} {F:Hd->DOp},(AC x).map F=some ma->∃y,AC x=some y∧ma=F y:=by
  simp_all
 have j:∀{v:Value} {d':D},(execOp a.eval o).run P w= .ok (.value v) w->Rep w g d' v->some (d',([]:Hf))=some (d,u)->CZ P B w0 m g fr w (Hf.app m u) d (execOp a.eval o):=by
  intro v d' e1 e2 e3;simp only[Qa,Qd]at e3;obtain⟨rfl,rfl⟩:=e3;exact .pure h.inv e1 e2
 cases hop:o.op<;>rw[hop]at ba<;>first|(simp only[tr]at ba;done)|skip
 case move x=>
  obtain⟨y,hx,rfl⟩:=fa ba;exact j (by simp[execOp,hop]) (h.slots.arg hx) aa
 case assign x=>
  obtain⟨y,hx,rfl⟩:=fa ba;exact j (by simp[execOp,hop]) (h.slots.arg hx) aa
 case pick c x y=>
  simp only[tr]at ba;split at ba
  ·rename_i c' x' y' e1 e2 e3;simp only[Qa]at ba;subst ba;simp only[Ax]at aa;split at aa
   ·rename_i b eb;have hb:=h.slots.arg e1;rw[eb]at hb;have ha:(execOp a.eval o).run P w= .ok (.value (if b then a.eval x else a.eval y)) w:=by
     simp[execOp,hop,hb.bool_inv,asBool]
    refine j ha ?_ aa;cases b
    ·exact h.slots.arg e3
    ·exact h.slots.arg e2
   ·cases aa
  ·cases ba
 case alloc t=>
  simp only[tr]at ba;rw[Qb]at ba;obtain⟨z,hz,rfl⟩:=ba;simp only[Ax,Qa,Qd]at aa;obtain⟨rfl,rfl⟩:=aa;exact lK h hz hop
 case box t x=>
  obtain⟨y,hx,rfl⟩:=fa ba;simp only[Ax]at aa;split at aa
  ·rename_i hd;simp only[Qa,Qd]at aa;obtain⟨rfl,rfl⟩:=aa;exact aCv h hx hd hop
  ·cases aa
 case build t parts=>
  simp only[tr]at ba;split at ba
  ·rename_i ca zs hu hz;split at ba
   ·rename_i da;rw[Qb]at ba;obtain⟨l,hl,rfl⟩:=ba;exact .of_nil (lJ h hu da hz hl hop aa)
   ·cases ba
  ·rename_i len e zs hu hz;split at ba
   ·rename_i qa;rw[Qb]at ba;obtain⟨l,hl,rfl⟩:=ba;exact .of_nil (eH h hu qa hz hl hop aa)
   ·cases ba
  ·cases ba
 case buildSlice t len parts=>
  simp only[tr]at ba;split at ba
  ·grind [eI]
  ·cases ba
 case load t x=>
  simp only[tr]at ba;split at ba
  ·rename_i k y hk hx;simp only[Qa]at ba;subst ba;exact .of_nil (wA h hk hx hop aa)
  ·cases ba
 case store t x v=>
  simp only[tr]at ba;split at ba
  ·grind [lD]
  ·cases ba
 case nilCheck x=>
  obtain⟨y,hx,rfl⟩:=fa ba;have hr:=h.slots.arg hx;simp only[Ax]at aa;split at aa
  ·rename_i i o' e;rw[e]at hr;obtain⟨b,e1,hb⟩:=hr.ptr_inv;exact j (v:=a.eval x) Yd hr aa
  ·rename_i ds e;rw[e]at hr;obtain⟨ad,vv,e1,_⟩:=hr.eptr_inv;exact j (v:=a.eval x) Yd hr aa
  ·rename_i f cs e;rw[e]at hr;obtain⟨vs,e1,_⟩:=hr.fn_inv;exact j (v:=a.eval x) Yd hr aa
  ·cases aa
 case binOp op t x y yt=>
  cases op
  case eql=>
   simp only[tr]at ba;split at ba
   ·rename_i p q hx hy;exact .of_nil (qD (ne:=false) h hx hy ba hop aa)
   ·cases ba
  case neq=>
   simp only[tr]at ba;split at ba
   ·rename_i p q hx hy;exact .of_nil (qD (ne:=true) h hx hy ba hop aa)
   ·cases ba
  all_goals
   simp only[tr]at ba;split at ba
   ·rename_i p q hx hy;simp only[Qa]at ba;subst ba;exact .of_nil (aCw h hx hy hop aa)
   ·cases ba
 case unOp op t x=>
  obtain⟨y,hx,rfl⟩:=fa ba;simp only[Ax]at aa;rw[Qb]at aa;obtain⟨d',h1,aa⟩:=aa;obtain⟨v,e1,e2⟩:=zX (P:=P) (h.slots.arg hx) h1;exact j (by simp only[execOp,hop,Sem.run_bind,e1,Result.andThen_ok,Sem.run_pure]) e2 (by rw[aa])
 case convert src dst x=>
  simp only[tr]at ba;split at ba
  ·rename_i k1 k y hs hd hx;simp only[Qa]at ba;subst ba;have hr:=h.slots.arg hx;simp only[Ax]at aa;split at aa
   ·rename_i k' n e;rw[e]at hr;refine j (v:= .int k (k.wrap n)) ?_ (.int _ _) aa;simp[execOp,hop,hr.int_inv,convert,run_underlying hs,run_underlying hd,Conv.intToInt]
   ·cases aa
  ·rename_i y hs hd hx;simp only[Qa]at ba;subst ba;have hr:=h.slots.arg hx;simp only[Ax]at aa;split at aa
   ·rename_i b e;rw[e]at hr;refine j (v:=a.eval x) ?_ hr aa;simp[execOp,hop,hr.str_inv,convert,run_underlying hs,run_underlying hd]
   ·cases aa
  ·rename_i e y hs hd hx;split at ba
   ·rename_i he;simp only[Qa]at ba;subst ba;exact .of_nil (aCu h hs hd he hx hop aa)
   ·cases ba
  ·rename_i e y hs hd hx;split at ba
   ·rename_i he;simp only[Qa]at ba;subst ba;exact .of_nil (aCx h hs hd he hx hop aa)
   ·cases ba
  ·cases ba
 case fieldAddr t x f=>
  simp only[tr]at ba;split at ba
  ·rename_i ca y hu hx;split at ba
   ·rename_i fd hf;split at ba
    ·rename_i n hn;simp only[Qa]at ba;subst ba;exact .of_nil (lI h hu hf hn hx hop aa)
    ·cases ba
   ·cases ba
  ·cases ba
 case field t x f=>
  simp only[tr]at ba;split at ba
  ·rename_i ca y hu hx;split at ba
   ·rename_i fd hf;rw[Qb]at ba;obtain⟨k,hk,rfl⟩:=ba;exact .of_nil (lH h hu hf hk hx hop aa)
   ·cases ba
  ·cases ba
 case indexAddr t x i=>
  simp only[tr]at ba;split at ba
  ·rename_i e y z hu hx hi;rw[Qb]at ba;obtain⟨n,hn,rfl⟩:=ba;exact .of_nil (lF h hu hn hx hi hop aa)
  ·rename_i len e y z hu hx hi;rw[Qb]at ba;obtain⟨n,hn,rfl⟩:=ba;exact .of_nil (lG h hu hn hx hi hop aa)
  ·cases ba
 case index t x i=>
  simp only[tr]at ba;split at ba
  ·rename_i y z hu hx hi;simp only[Qa]at ba;subst ba;exact .of_nil (wB h hu hx hi hop aa)
  ·rename_i len e y z hu hx hi;split at ba
   ·rename_i hk;split at ba
    ·rename_i hc;simp only[Qa]at ba;subst ba;exact .of_nil (wD h hu hk hc hx hi hop aa)
    ·cases ba
   ·rename_i sz hk;simp only[Qa]at ba;subst ba;exact .of_nil (wC h hu hk hx hi hop aa)
   ·cases ba
  ·cases ba
 case slice t x lo hi mx=>
  cases mx with
  |some mx=>simp only[tr]at ba;cases ba
  |none=>
   simp only[tr]at ba;split at ba
   ·rename_i y l' h' hu hx na ra;simp only[Qa]at ba;subst ba;exact .of_nil (wE h hu hx na ra hop aa)
   ·rename_i e y l' h' hu hx na ra;rw[Qb]at ba;obtain⟨n,hn,rfl⟩:=ba;exact .of_nil (wF h hu hn hx na ra hop aa)
   ·cases ba
 case makeInterface t x=>
  simp only[tr]at ba;split at ba
  ·cases ba
  ·rename_i td y ja hu hx;simp only[Qa]at ba;subst ba;have hr:=h.slots.arg hx;simp only[Ax]at aa;split at aa
   ·rename_i hc;refine j (v:= .iface t (a.eval x)) ?_ (.iface t _ _ hc.2 hr.un) aa;simp only[execOp,hop,Instr.makeInterface,Sem.run_bind,run_underlying hu,Result.andThen_ok];cases td<;>first|exact absurd rfl (ja _)|rfl
   ·cases aa
  ·cases ba
 case typeAssert x xt t ok=>
  simp only[tr]at ba;split at ba
  ·cases ba
  ·rename_i td z y ja hu hz hx;simp only[Qa]at ba;subst ba;exact .of_nil (vX h hu (λms e=>ja ms (by rw[←e])) hz hx hop aa)
  ·cases ba
 case extract x i=>
  obtain⟨y,hx,rfl⟩:=fa ba;have hr:=h.slots.arg hx;simp only[Ax]at aa;split at aa
  ·rename_i ds e;rw[e]at hr;obtain⟨vs,e1,e2,e3⟩:=hr.tup_inv;rw[Qb]at aa;obtain⟨d',hd,aa⟩:=aa;have hv:i<vs.length:=by rw[e2];exact(Qf.1 hd).1
   exact j (v:=vs[i]) (by simp[execOp,hop,e1,Instr.extract,hv]) (e3 i d' _ hd (Qc hv)) (by rw[aa])
  ·cases aa
 case makeFunc fn first caps=>
  cases fn with
  |func f=>
   simp only[tr]at ba;split at ba
   ·rename_i l hf hl;simp only[Qa]at ba;subst ba;have ta:first=#[]:=Array.toList_eq_nil_iff.1 hf
    subst ta;obtain⟨a1,a2⟩:=fH h hl;simp only[Ax]at aa;refine j (v:= .func (.func f) #[] (caps.map a.eval)) (by simp[execOp,hop,Instr.makeFunc]) ?_ aa;have:=Rep.fn (w:=w) (g:=g) f (l.map (·.ev s)) (caps.map a.eval).toList a1 a2
    rwa [QD]at this
   ·cases ba
  |_=>simp only[tr]at ba;cases ba
 case makeSlice t x y=>
  simp only[tr]at ba;split at ba
  ·rename_i e hu;split at ba
   ·rename_i sz bytes z p q he hz hx hy;simp only[Qa]at ba;subst ba;exact vZ h hu he hz hx hy hop aa
   ·cases ba
  ·cases ba
 case range t x=>
  simp only[tr]at ba;split at ba
  ·rename_i y hu hx;simp only[Qa]at ba;subst ba;exact lE h hu hx hop aa
  ·cases ba
 case next x b=>
  cases b with
  |true=>
   obtain⟨y,hx,rfl⟩:=fa ba;exact vY h hx hop aa
  |false=>simp only[tr]at ba;cases ba
 case call c=>
  simp only[tr,PN]at ba;split at ba
  ·split at ba
   ·simp only[Qa]at ba;exact absurd ba.symm (za _ _)
   ·cases ba
  ·rename_i ia;split at ba
   ·rename_i x t r pa;have hc:c={callee:= .builtin .len,args:=#[x],argTypes:=#[t]}:=by
     cases c;simp only at ia r pa ⊢;subst ia;congr
     ·exact Q4.1 r
     ·exact Q4.1 pa
    subst hc;have ga:∀n,(Builtin.len_ #[t] o.type #[a.eval x]).run P w= .ok (goInt n) w->(execOp a.eval o).run P w= .ok (.value (.int .i64 n)) w:=by
     intro n e;simp only[execOp,hop,resolve,invoke,builtin,Sem.run_bind,Sem.run_pure,Result.andThen_ok,ZB,Qs,Zk,e];rfl
    split at ba
    ·rename_i hu;obtain⟨y,hx,rfl⟩:=fa ba;have hr:=h.slots.arg hx;simp only[Ax]at aa;rw[Qb]at aa;obtain⟨n,hn,aa⟩:=aa;unfold jY at hn;split at hn
     ·rename_i b _ e;rw[e]at hr;simp only[Qa]at hn;subst hn;have hl:(Builtin.len_ #[t] o.type #[a.eval x]).run P w= .ok (goInt (b.length:Int)) w:=by
       have la:(ByteArray.mk b.toArray).size=b.length:=XY
       simp[Builtin.len_,run_underlying hu,hr.str_inv,la]
      exact j (ga _ hl) (.int _ _) (by rw[aa])
     ·rename_i ka _;cases ka
     ·rename_i ka _;cases ka
     ·cases hn
    ·rename_i e hu;obtain⟨y,hx,rfl⟩:=fa ba;have hr:=h.slots.arg hx;simp only[Ax]at aa;rw[Qb]at aa;obtain⟨n,hn,aa⟩:=aa;unfold jY at hn;split at hn
     ·rename_i ka _;cases ka
     ·rename_i nl t' xs _ e';rw[e']at hr;obtain⟨ad,cc,e1,_⟩:=hr.len_slice;simp only[Qa]at hn;subst hn;have hl:(Builtin.len_ #[t] o.type #[a.eval x]).run P w= .ok (goInt (xs.length:Int)) w:=by
       simp[Builtin.len_,run_underlying hu,e1]
      exact j (ga _ hl) (.int _ _) (by rw[aa])
     ·rename_i i' n' _ e';rw[e']at hr;obtain⟨b',cc,e1,_,_⟩:=hr.row_inv;simp only[Qa]at hn;subst hn;have hl:(Builtin.len_ #[t] o.type #[a.eval x]).run P w= .ok (goInt (n':Int)) w:=by
       simp[Builtin.len_,run_underlying hu,e1]
      exact j (ga _ hl) (.int _ _) (by rw[aa])
     ·cases hn
    ·cases ba
   ·cases ba
  ·rename_i ia;split at ba
   ·rename_i x y t t' r pa;split at ba
    ·rename_i wa;have hc:c={callee:= .builtin .append,args:=#[x,y],argTypes:=#[t,t']}:=by
      cases c;simp only at ia r pa ⊢;subst ia;congr
      ·exact Q4.1 r
      ·exact Q4.1 pa
     subst hc;split at ba
     ·rename_i e hu;split at ba
      ·rename_i sz bytes p q he hx hy;simp only[Qa]at ba;subst ba;exact aCy h hu he hx hy hop (wa.imp id kH) aa
      ·cases ba
     ·cases ba
    ·cases ba
   ·cases ba
  ·rename_i ia;split at ba
   ·rename_i x y r;split at ba
    ·rename_i p q hx hy;simp only[Qa]at ba;subst ba;have oa:=h.slots.arg hx;have ea:=h.slots.arg hy;simp only[Ax]at aa;split at aa
     ·rename_i k n k' n' e1 e2;rw[e1]at oa;rw[e2]at ea;refine j (v:= .int k (max n n')) ?_ (.int _ _) aa;simp only[execOp,hop,resolve,invoke,builtin,ia,Sem.run_bind,Sem.run_pure,Result.andThen_ok];simp only[Builtin.max_,QM,r,Qs,Zk,oa.int_inv,ea.int_inv,ZN,Builtin.max2,Sem.run_bind,Sem.run_pure,Result.andThen_ok];have:(if n'>n then n' else n)=max n n':=by omega
      simp[this]
     ·cases aa
    ·cases ba
   ·cases ba
  ·rename_i ia;split at ba
   ·rename_i x y r;split at ba
    ·rename_i p q hx hy;simp only[Qa]at ba;subst ba;have oa:=h.slots.arg hx;have ea:=h.slots.arg hy;simp only[Ax]at aa;split at aa
     ·rename_i k n k' n' e1 e2;rw[e1]at oa;rw[e2]at ea;refine j (v:= .int k (min n n')) ?_ (.int _ _) aa;simp only[execOp,hop,resolve,invoke,builtin,ia,Sem.run_bind,Sem.run_pure,Result.andThen_ok];simp only[Builtin.min_,QM,r,Qs,Zk,oa.int_inv,ea.int_inv,ZN,Builtin.min2,Sem.run_bind,Sem.run_pure,Result.andThen_ok];have:(if n'<n then n' else n)=min n n':=by omega
      simp[this]
     ·cases aa
    ·cases ba
   ·cases ba
  ·cases ba
 all_goals (simp[tr]at ba)
end
section
variable{P:Program}{B:Nat}{w0 w:World}{m:Ha}{g:Gh}{fr:Id}{s:Nat->D}{a:Act}{S:G8}{d:D}{u:Hf}
def Wz{c:Call}{f:Hd}{xs:List Hd}(h:PN P c=some (.call f xs)):∃k,c.callee= .value k∧AC k=some f∧DZ c.args.toList=some xs:=by
 unfold PN at h;split at h
 ·grind
 ·exfalso
  repeat' (split at h)
  all_goals exact Y9
 ·grind
 ·grind
 ·grind
 ·cases h
def aGd{op:Op}{f:Hd}{xs:List Hd}(h:tr P op=some (.call f xs)):∃c,op= .call c∧PN P c=some (.call f xs):=by
 cases op with
 |call c=>exact⟨c,rfl,h⟩
 |binOp op t x y e=>
  exfalso;cases op<;>simp only[tr,aAe]at h<;>repeat' (split at h)
  all_goals exact Y9
 |makeFunc k x y=>
  exfalso;cases k<;>simp only[tr]at h<;>repeat' (split at h)
  all_goals exact Y9
 |slice t x lo hi q=>
  exfalso;cases q<;>simp only[tr]at h<;>repeat' (split at h)
  all_goals exact Y9
 |next x b=>
  exfalso;cases b<;>simp only[tr]at h
  all_goals exact Y9
 |_=>
  exfalso;simp only[tr]at h<;>repeat' (split at h)
  all_goals exact Y9
def aR5{o:Oper}{ma:DOp}{K:Act->World->Prop}{Q:Exit->Act->World->Prop}(hS:G8.ok P S)(h:At P B w0 w m g fr s a)(y:tr P o.op=some ma)(z:Ax S s m fr ma=some (d,u))
  (hK:∀v' w' g',aQh P B w0 m g fr w (Hf.app m u) d v' w' g'->K (a.put o.dst v') w'):o.wp P a w K Q:=by
 by_cases t:∃f xs,ma= .call f xs
 ·obtain⟨f,xs,rfl⟩:=t;obtain⟨c,fa,p⟩:=aGd y;obtain⟨fo,ia,hf,ib⟩:=Wz p;simp only[Ax]at z;split at z
  ·rename_i kW caps ef;split at z
   ·rename_i q hq;have da:=hS kW q hq;have k:=h.slots.arg hf;rw[ef]at k;obtain⟨vs,e1,e2,e3⟩:=k.fn_inv;obtain⟨a1,a2⟩:=fH h ib;obtain⟨fn,n,b,ga⟩:=da.ent;have l:fn.body.isNone=false:=by cases hb:fn.body<;>simp_all
    have ca:((c.args.map a.eval).toList++vs).length=(xs.map (·.ev s)++caps).length:=by simp at a1 ⊢;omega
    have ea:∀(j:Nat) d v,(xs.map (·.ev s)++caps)[j]?=some d->((c.args.map a.eval).toList++vs)[j]?=some v->Rep w g d v:=by
     grind
    have ja:=da.run h.inv h.fresh ca ea z;have i:((c.args.map a.eval).toList++vs).toArray=c.args.map a.eval++vs.toArray:=U
    rw[i]at ja;have x:(execOp a.eval o).run P w= .ok (.enter kW (c.args.map a.eval++vs.toArray)) w:=by
     simp only[execOp,fa,resolve,ia,e1,Deferred.ofValue,Sem.run_bind,Sem.run_pure,Result.andThen_ok,invoke,callFunc,run_program,n,ga,l,QH,if_false];simp
    unfold Oper.wp;rw[x,Oper.upon_enter];refine ja.mono ?_;rintro e w' ⟨v,g',rfl,la⟩;exact hK v w' g' la
   ·cases z
  ·cases z
 ·obtain⟨v',w',g',r,e1,e2,e3⟩:=aGQ h y (λf xs e=>t ⟨f,xs,e⟩) z;unfold Oper.wp;rw[e1];rcases e2 with rfl|⟨rfl,rfl⟩
  ·exact hK v' w' g' e3
  ·exact hK undef w' g' e3
end
end Go.Vd
namespace Go.Vd
structure DOper where
 dst:Option Nat
 op:DOp
 after:List Nat
 guard:Option (Nat×Bool)
abbrev Loc:=Id×Nat
structure Eff where
 d:D
 u:Hf
def Cq(s:Nat->D)(t:Option Nat)(d:D):Nat->D:=
 match t with
 |some t=>λb=>if b=t then d else s b
 |none=>s
def Gt(ops:List DOper)(o:DOper):Option Nat:=
 match o.guard with
 |none=>none
 |some (j,_)=>(ops[j]?).bind (·.dst)
def By(ops:List DOper)(s:Nat->D)(o:DOper):Option Bool:=
 match o.guard with
 |none=>some true
 |some (j,b)=>match (ops[j]?).bind (·.dst)with
  |some t=>match s t with
   | .bool b'=>some (b'==b)
   | .tup []=>some false
   |_=>none
  |none=>none
def BP(S:G8)(ops:List DOper)(fr:Id)(o:DOper)(s:Nat->D)(m:Ha):Option Eff:=
 match By ops s o with
 |some true=>match Ax S s m fr o.op with
  |some (d,u)=>some ⟨d,u⟩
  |none=>none
 |some false=>some ⟨.tup [],[]⟩
 |none=>none
def Di(S:G8)(ns:Id)(c:Nat)(ops:List DOper):List Nat->(Nat->D)->Ha->Option ((Nat->D)×Ha)
 |[],s,m=>some (s,m)
 |i::l,s,m=>match ops[i]? with
  |none=>Di S ns c ops l s m
  |some o=>match BP S ops ((c+i)::ns) o s m with
   |some e=>Di S ns c ops l (Cq s o.dst e.d) (Hf.app m e.u)
   |none=>none
def Hd.uses:Hd->List Nat
 | .t n=>[n]
 | .c _=>[]
def UV:Option Hd->List Nat
 |some a=>a.uses
 |none=>[]
def DOp.uses:DOp->List Nat
 | .range x| .next x| .mv x| .box x| .load _ x| .nilchk x| .un _ x| .conv _ x| .s2s x| .s2b x| .b2s x| .faddr _ x| .field _ _ x| .mkif _ x| .tass _ _ _ x| .ext _ x| .len _ x=>x.uses
 | .pick c a b=>c.uses++a.uses++b.uses
 | .alloc _| .stop=>[]
 | .build _ ps=>ps.flatMap λp=>p.2.2.uses
 | .bslice _ _ ps=>ps.flatMap Hd.uses
 | .store _ x y| .bin _ x y| .beq _ x y| .seq _ _ x y| .nileq _ _ x y| .iaddr _ x y| .idxs x y| .idxa _ x y| .idxm _ _ x y| .mxm _ x y| .iadda _ _ x y| .app _ _ _ x y| .mksl _ _ _ _ x y=>x.uses++y.uses
 | .cuts x l h| .cutl _ x l h=>x.uses++UV l++UV h
 | .mkfn _ cs=>cs.flatMap Hd.uses
 | .call f xs=>f.uses++xs.flatMap Hd.uses
def Ai(i:Id)(o n:Nat):List Loc:=(Qt n).map λj=>(i,o+j)
def Hu(S:G8)(s:Nat->D)(m:Ha):DOp->List Loc
 | .load k x=>match x.ev s with
  | .ptr i o=>Ai i o (k.getD 1)
  |_=>[]
 | .store n x _=>match x.ev s with
  | .ptr i o=>Ai i o n
  |_=>[]
 | .app _ _ _ x _=>match x.ev s with
  | .slice _ t _=>[(t,0)]
  |_=>[]
 | .next x=>match x.ev s with
  | .itp i=>[(i,1)]
  |_=>[]
 | .call f xs=>match f.ev s with
  | .fn f caps=>match S f with
   |some q=>q.rd (xs.map (·.ev s)++caps) m
   |none=>[]
  |_=>[]
 |_=>[]
def aB{x:Hd}{s v:Nat->D}(h:∀t∈x.uses,s t=v t):x.ev s=x.ev v:=by
 cases x with
 |t n=>exact h n (Q_.2 rfl)
 |c d=>rfl
def R0{xs:List Hd}{s v:Nat->D}(h:∀t∈xs.flatMap Hd.uses,s t=v t):xs.map (·.ev s)=xs.map (·.ev v):=
 QX λx q=>aB λt p=>h t (Q5.2 ⟨x,q,p⟩)
theorem BF{m m':Ha}{i:Id}:∀{n o:Nat},(∀l∈Ai i o n,m l.1 l.2=m' l.1 l.2)->Ag m i o n=Ag m' i o n
 |0,o,_=>rfl
 |n+1,o,h=>by
  have f:m i o=m' i o:=h (i,o) (by simp only[Ai,Qv,Ql];exact⟨0,O,rfl⟩);have ih:=BF (m:=m) (m':=m') (i:=i) (n:=n) (o:=o+1) (λl hl=>h l (by
   simp only[Ai,Qv,Ql]at hl ⊢;obtain⟨j,q,rfl⟩:=hl;exact⟨j+1,O,by rw[show o+(j+1)=o+1+j by omega]⟩))
  unfold Ag;rw[f,ih]
theorem FN{x:Option Hd}{s v:Nat->D}(h:∀t∈UV x,s t=v t)(a b:Nat):FO s x a b=FO v x a b:=by
 cases x with
 |none=>rfl
 |some x=>simp only[FO];rw[aB h]
def kY{P:Program}{S:G8}(hS:G8.ok P S){op:DOp}{s s':Nat->D}{m m':Ha}{fr:Id}(g:∀t∈op.uses,s t=s' t)(j:∀l∈Hu S s m op,m l.1 l.2=m' l.1 l.2):
  Ax S s m fr op=Ax S s' m' fr op:=by
 cases op with
 |mv x=>simp only[Ax];rw[aB g]
 |box x=>simp only[Ax];rw[aB g]
 |nilchk x=>simp only[Ax];rw[aB g]
 |un op x=>simp only[Ax];rw[aB g]
 |conv k x=>simp only[Ax];rw[aB g]
 |s2s x=>simp only[Ax];rw[aB g]
 |s2b x=>simp only[Ax];rw[aB g]
 |b2s x=>simp only[Ax];rw[aB g]
 |faddr off x=>simp only[Ax];rw[aB g]
 |field k off x=>simp only[Ax];rw[aB g]
 |mkif t x=>simp only[Ax];rw[aB g]
 |tass t ok z x=>simp only[Ax];rw[aB g]
 |ext i x=>simp only[Ax];rw[aB g]
 |len k x=>simp only[Ax];rw[aB g]
 |alloc zs=>rfl
 |pick c a b=>
  simp only[DOp.uses,Qg]at g;simp only[Ax];rw[aB (λt ht=>g t (.inl (.inl ht))),aB (λt ht=>g t (.inl (.inr ht))),aB (λt ht=>g t (.inr ht))]
 |build zs ps=>
  simp only[Ax];have:(ps.map λp=>(p.1,p.2.1,p.2.2.ev s))=ps.map λp=>(p.1,p.2.1,p.2.2.ev s'):=
   QX λp hp=>by rw[aB λt ht=>g t (Q5.2 ⟨p,hp,ht⟩)]
  rw[this]
 |bslice e sz ps=>
  have hp:∀p∈ps,p.ev s=p.ev s':=λp hp=>aB λt ht=>g t (Q5.2 ⟨p,hp,ht⟩)
  simp only[Ax];have u:(ps.map λp=>(p.ev s).un)=ps.map λp=>(p.ev s').un:=QX λp wa=>by rw[hp p wa]
  rw[u];have:(ps.all λp=>(p.ev s).data&&(p.ev s).cells.length==sz&&(p.ev s).un.calm)=ps.all λp=>(p.ev s').data&&(p.ev s').cells.length==sz&&(p.ev s').un.calm:=by
   grind
  rw[this]
 |load k x=>
  have w:x.ev s=x.ev s':=aB g;simp only[Hu]at j;simp only[Ax];rw[←w];cases hxe:x.ev s<;>simp only[hxe]at j ⊢
  case eptr ds=>cases k<;>rfl
  rename_i i o;cases k with
  |none=>
   have:=j (i,o) (by simp only[Ai,Qv,Ql];exact⟨0,U,rfl⟩);simp only at this;simp only[this]
  |some n=>
   simp only[QF]at j;simp only;rw[BF j]
 |store n x v=>
  simp only[DOp.uses,Qg]at g;have w:x.ev s=x.ev s':=aB λt ht=>g t (.inl ht)
  have r:v.ev s=v.ev s':=aB λt ht=>g t (.inr ht)
  simp only[Hu]at j;simp only[Ax];rw[←w,←r];cases hxe:x.ev s<;>simp only[hxe]at j ⊢;rw[BF j]
 |bin op x y=>
  simp only[DOp.uses,Qg]at g;simp only[Ax];rw[aB (λt ht=>g t (.inl ht)),aB (λt ht=>g t (.inr ht))]
 |beq ne x y=>
  simp only[DOp.uses,Qg]at g;simp only[Ax];rw[aB (λt ht=>g t (.inl ht)),aB (λt ht=>g t (.inr ht))]
 |seq ne l x y=>
  simp only[DOp.uses,Qg]at g;simp only[Ax];rw[aB (λt ht=>g t (.inl ht)),aB (λt ht=>g t (.inr ht))]
 |nileq ne k x y=>
  simp only[DOp.uses,Qg]at g;simp only[Ax];rw[aB (λt ht=>g t (.inl ht)),aB (λt ht=>g t (.inr ht))]
 |iaddr sz x y=>
  simp only[DOp.uses,Qg]at g;simp only[Ax];rw[aB (λt ht=>g t (.inl ht)),aB (λt ht=>g t (.inr ht))]
 |idxs x y=>
  simp only[DOp.uses,Qg]at g;simp only[Ax];rw[aB (λt ht=>g t (.inl ht)),aB (λt ht=>g t (.inr ht))]
 |iadda len sz x y=>
  simp only[DOp.uses,Qg]at g;simp only[Ax];rw[aB (λt ht=>g t (.inl ht)),aB (λt ht=>g t (.inr ht))]
 |idxm len sz x y=>
  simp only[DOp.uses,Qg]at g;simp only[Ax];rw[aB (λt ht=>g t (.inl ht)),aB (λt ht=>g t (.inr ht))]
 |mxm mx x y=>
  simp only[DOp.uses,Qg]at g;simp only[Ax];rw[aB (λt ht=>g t (.inl ht)),aB (λt ht=>g t (.inr ht))]
 |idxa len x y=>
  simp only[DOp.uses,Qg]at g;simp only[Ax];rw[aB (λt ht=>g t (.inl ht)),aB (λt ht=>g t (.inr ht))]
 |mksl e sz b z x y=>
  simp only[DOp.uses,Qg]at g;simp only[Ax];rw[aB (λt ht=>g t (.inl ht)),aB (λt ht=>g t (.inr ht))]
 |app e sz b x y=>
  simp only[DOp.uses,Qg]at g;have w:x.ev s=x.ev s':=aB λt ht=>g t (.inl ht)
  have hy:y.ev s=y.ev s':=aB λt ht=>g t (.inr ht)
  simp only[Hu]at j;simp only[Ax];rw[←w,←hy];cases hxe:x.ev s<;>simp only[hxe]at j ⊢;rename_i nl t xs;have:=j (t,0) (Q_.2 rfl);simp only at this;cases I5 sz (y.ev s)<;>simp only[this]
 |stop=>rfl
 |range x=>simp only[Ax];rw[aB g]
 |next x=>
  have w:x.ev s=x.ev s':=aB g;simp only[Hu]at j;simp only[Ax];rw[←w];cases hxe:x.ev s<;>simp only[hxe]at j ⊢;rename_i i;have:=j (i,1) (Q_.2 rfl);simp only at this;rw[this]
 |cuts x l h=>
  simp only[DOp.uses,Qg]at g;simp only[Ax];rw[aB (λt ht=>g t (.inl (.inl ht)))];cases x.ev s'<;>simp only;rw[FN (λt ht=>g t (.inr ht))];split
  ·grind [FN]
  ·rfl
 |cutl sz x l h=>
  simp only[DOp.uses,Qg]at g;simp only[Ax];rw[aB (λt ht=>g t (.inl (.inl ht)))];cases x.ev s'<;>simp only;rw[FN (λt ht=>g t (.inr ht))];split
  ·split
   ·rw[FN (λt ht=>g t (.inl (.inr ht)))]
   ·rfl
  ·rfl
 |mkfn f cs=>
  simp only[Ax];rw[R0 g]
 |call f xs=>
  simp only[DOp.uses,Qg]at g;have hf:f.ev s=f.ev s':=aB λt ht=>g t (.inl ht)
  have w:xs.map (·.ev s)=xs.map (·.ev s'):=R0 λt ht=>g t (.inr ht)
  simp only[Hu]at j;simp only[Ax];rw[←hf,←w];cases hfe:f.ev s<;>simp only[hfe]at j ⊢;rename_i kW caps;cases hSf:S kW<;>simp only[hSf]at j ⊢;rename_i q;exact(hS kW q hSf).loc _ _ _ _ j
def DN(ops:List DOper)(k:Nat):Option Nat:=(ops[k]?).bind (·.dst)
def Fb:Hf->Id->Nat->Option D
 |[],_,_=>none
 |(i',o',ds)::r,i,o=>match Fb r i o with
  |some d=>some d
  |none=>if i=i'∧o'<=o∧o<o'+ds.length then ds[o-o']? else none
def fI:∀(u:Hf)(m:Ha)(i:Id)(o:Nat),Hf.app m u i o=match Fb u i o with|some d=>some d|none=>m i o
 |[],m,i,o=>rfl
 |(i',o',ds)::r,m,i,o=>by
  simp only[Hf.app,Fb];rw[fI r (m.put i' o' ds) i o];cases Fb r i o with
  |some d=>rfl
  |none=>
   simp only[Ha.put];split
   ·grind
   ·rfl
def AF(u:Hf):List Loc:=u.flatMap λx=>Ai x.1 x.2.1 x.2.2.length
theorem look_mem:∀{u:Hf} {i:Id} {o:Nat},Fb u i o≠none->(i,o)∈AF u
 |[],i,o,h=>absurd rfl h
 |(i',o',ds)::r,i,o,h=>by
  simp only[AF,Zd,Qg];simp only[Fb]at h;split at h
  ·rename_i d p;exact .inr (look_mem (by rw[p];simp))
  ·split at h
   ·rename_i z;obtain⟨rfl,q,y⟩:=z;left;simp only[Ai,Qv,Ql];exact⟨o-o',O,by rw[show o'+(o-o')=o by omega]⟩
   ·exact absurd rfl h
section
variable(ops:List DOper)(E:Nat->Eff)
def IM(X:Nat->Bool)(t:Nat):Nat->Option D
 |0=>none
 |k+1=>if X k=true∧DN ops k=some t then some (E k).d else IM X t k
def Ii(X:Nat->Bool)(i:Id)(o:Nat):Nat->Option D
 |0=>none
 |k+1=>if X k=true then match Fb (E k).u i o with
  |some d=>some d
  |none=>Ii X i o k
  else Ii X i o k
variable(s0:Nat->D)(m0:Ha)
def iQ(X:Nat->Bool)(n:Nat):Nat->D:=λt=>(IM ops E X t n).getD (s0 t)
def tF(X:Nat->Bool)(n:Nat):Ha:=λi o=>match Ii E X i o n with|some d=>some d|none=>m0 i o
variable{ops E s0 m0}
theorem IL{X Y:Nat->Bool}{t:Nat}:∀{n:Nat},(∀k,k<n->DN ops k=some t->X k=Y k)->IM ops E X t n=IM ops E Y t n
 |0,_=>rfl
 |n+1,h=>by
  have ih:=IL (X:=X) (Y:=Y) (t:=t) (n:=n) (λk s=>h k O);simp only[IM];by_cases p:DN ops n=some t
  ·rw[h n O p,ih]
  ·simp[p,ih]
def IN{X Y:Nat->Bool}{i:Id}{o:Nat}:∀{n:Nat},(∀k,k<n->Fb (E k).u i o≠none->X k=Y k)->Ii E X i o n=Ii E Y i o n
 |0,_=>rfl
 |n+1,h=>by
  have ih:=IN (X:=X) (Y:=Y) (i:=i) (o:=o) (n:=n) (λk s=>h k O);simp only[Ii];cases hl:Fb (E n).u i o with
  |none=>simp[ih]
  |some d=>rw[h n O (by rw[hl];simp)];simp[ih]
def ins(X:Nat->Bool)(k:Nat):Nat->Bool:=λj=>X j||j==k
def Tt{X:Nat->Bool}{t k:Nat}(f:X k=false):∀{n:Nat},k<n->(DN ops k=some t->∀j,k<j->j<n->X j=true->DN ops j≠some t)->
  IM ops E (ins X k) t n=if DN ops k=some t then some (E k).d else IM ops E X t n
 |n+1,hk,h=>by
  by_cases p:DN ops k=some t
  ·rw[if_pos p];by_cases g:k=n
   ·grind [IM,ins]
   ·have ih:=Tt f (n:=n) O (λe j u y i=>h e j u O i);rw[if_pos p]at ih;simp only[IM];have:¬(ins X k n=true∧DN ops n=some t):=by
     grind [ins]
    rw[if_neg this,ih]
  ·grind [IL,ins]
def Tu{X:Nat->Bool}{i:Id}{o k:Nat}(f:X k=false):∀{n:Nat},k<n->(Fb (E k).u i o≠none->∀j,k<j->j<n->X j=true->Fb (E j).u i o=none)->
  Ii E (ins X k) i o n=match Fb (E k).u i o with|some d=>some d|none=>Ii E X i o n
 |n+1,hk,h=>by
  cases hl:Fb (E k).u i o with
  |none=>
   simp only;refine IN (λj b a=>?_);have:j≠k:=by rintro rfl;exact a hl
   simp[ins,this]
  |some d=>
   simp only;by_cases g:k=n
   ·grind [Ii,ins]
   ·have ih:=Tu (i:=i) (o:=o) f (n:=n) O (λe j q y x=>h e j q O x);rw[hl]at ih;simp only at ih;simp only[Ii];split
    ·grind [ins]
    ·exact ih
def nV{X:Nat->Bool}{k n:Nat}(f:X k=false)(s:k<n)(h:∀t,DN ops k=some t->∀j,k<j->j<n->X j=true->DN ops j≠some t):
  iQ ops E s0 (ins X k) n=Cq (iQ ops E s0 X n) (DN ops k) (E k).d:=by
 funext t;simp only[iQ];rw[Tt f s (h t)];cases hd:DN ops k with
 |none=>simp[Cq,iQ]
 |some b=>
  simp only[Cq,iQ,Qa];by_cases p:t=b
  ·subst p;simp
  ·grind
def nW{X:Nat->Bool}{k n:Nat}(f:X k=false)(s:k<n)(h:∀i o,Fb (E k).u i o≠none->∀j,k<j->j<n->X j=true->Fb (E j).u i o=none):
  tF E m0 (ins X k) n=Hf.app (tF E m0 X n) (E k).u:=by
 funext i o;rw[fI];simp only[tF];rw[Tu f s (h i o)];cases Fb (E k).u i o<;>rfl
def below(k:Nat):Nat->Bool:=λj=>decide (j<k)
def NR(k:Nat):ins (below k) k=below (k+1):=by
 grind [ins,below]
structure aFj (ops:List DOper) (E:Nat->Eff) (rd:Nat->List Loc) (bef:Nat->Nat->Prop):Prop where
 lt:∀j k,bef j k->j<k
 slot:∀j k t oj ok,j≠k->ops[j]?=some oj->ops[k]?=some ok->oj.dst=some t->(t∈ok.op.uses∨Gt ops ok=some t∨ok.dst=some t)->bef j k∨bef k j
 mem:∀j k i o,j≠k->j<ops.length->k<ops.length->Fb (E j).u i o≠none->((i,o)∈rd k∨Fb (E k).u i o≠none)->bef j k∨bef k j
def gP(ops:List DOper)(a:Nat->Nat->Prop):(Nat->Bool)->List Nat->Prop
 |_,[]=>True
 |X,i::l=>i<ops.length∧X i=false∧(∀j,a j i->X j=true)∧gP ops a (ins X i) l
def So(a:Nat->Nat->Prop)(X:Nat->Bool):Prop:=∀j k,X k=true->a j k->X j=true
def SA{s v:Nat->D}{o:DOper}(h:∀t,Gt ops o=some t->s t=v t):By ops s o=By ops v o:=by
 grind [By,Gt]
def eE{P:Program}{S:G8}(w:G8.ok P S){o:DOper}{fr:Id}{s v:Nat->D}{m m':Ha}(g:∀t,(t∈o.op.uses∨Gt ops o=some t)->s t=v t)(j:∀l∈Hu S s m o.op,m l.1 l.2=m' l.1 l.2):
  BP S ops fr o s m=BP S ops fr o v m':=by
 unfold BP;rw[SA (λt p=>g t (.inr p)),kY w (λt p=>g t (.inl p)) j]
variable{P:Program}{S:G8}{ns:Id}{c:Nat}{rd:Nat->List Loc}{bef:Nat->Nat->Prop}
def aPP(w:G8.ok P S)(e:aFj ops E rd bef){k:Nat}{o:DOper}(g:ops[k]?=some o)
  (m:rd k=Hu S (iQ ops E s0 (below k) ops.length) (tF E m0 (below k) ops.length) o.op)
  (i:BP S ops ((c+k)::ns) o (iQ ops E s0 (below k) ops.length) (tF E m0 (below k) ops.length)=some (E k))
  {X:Nat->Bool} (f:So bef X) (s:X k=false) (r:∀j,bef j k->X j=true):
  BP S ops ((c+k)::ns) o (iQ ops E s0 X ops.length) (tF E m0 X ops.length)=some (E k):=by
 have x:k<ops.length:=(Qf.1 g).1;rw[←i];symm;have z:∀j,j<ops.length->bef j k∨bef k j->below k j=X j:=by
  intro j q n;rcases n with h1|h1
  ·rw[r j h1];simp[below,e.lt j k h1]
  ·have:=e.lt k j h1;have b:X j=false:=by
    cases hx:X j with
    |false=>rfl
    |true=>rw[f k j hx h1]at s;cases s
   rw[b];simp[below];omega
 have self:∀j,j<ops.length->j=k->below k j=X j:=by
  grind [below]
 refine eE w (λt ht=>?_) (λl hl=>?_)
 ·simp only[iQ];rw[IL (λj q p=>?_)];by_cases a:j=k
  ·exact self j q a
  ·have v:ops[j]?=some ops[j]:=Qc q;refine z j q (e.slot j k t _ o a v g ?_ (by rcases ht with ht|ht;exact .inl ht;exact .inr (.inl ht)));simpa[DN,v]using p
 ·simp only[tF];rw[IN (λj q p=>?_)];by_cases a:j=k
  ·exact self j q a
  ·exact z j q (e.mem j k l.1 l.2 a q x p (.inl (by rw[m];exact hl)))
def So.ins{X:Nat->Bool}{k:Nat}(y:So bef X)(b:∀j,bef j k->X j=true):So bef (ins X k):=by
 intro j w f o;simp only[Vd.ins,QP,beq_iff_eq]at f ⊢;rcases f with h|rfl
 ·exact .inl (y j w h o)
 ·exact .inl (b j o)
def PU(e:G8.ok P S)(hI:aFj ops E rd bef)(ab:∀k o,ops[k]?=some o->rd k=Hu S (iQ ops E s0 (below k) ops.length) (tF E m0 (below k) ops.length) o.op)
  (hE:∀k o,ops[k]?=some o->BP S ops ((c+k)::ns) o (iQ ops E s0 (below k) ops.length) (tF E m0 (below k) ops.length)=some (E k)):
  ∀(l:List Nat)(X:Nat->Bool),So bef X->gP ops bef X l->
   Di S ns c ops l (iQ ops E s0 X ops.length) (tF E m0 X ops.length)=some (iQ ops E s0 (l.foldl ins X) ops.length,tF E m0 (l.foldl ins X) ops.length)
 |[],X,_,_=>rfl
 |i::l,X,hX,hg=>by
  obtain⟨hi,p,r,n⟩:=hg;have g:ops[i]?=some ops[i]:=Qc hi;have z:=aPP e hI g (ab i _ g) (hE i _ g) hX p r;have a:∀j,i<j->X j=true->¬(bef j i∨bef i j):=by
   intro j hj b hb;rcases hb with hb|hb
   ·have:=hI.lt j i hb;omega
   ·rw[hX i j b hb]at p;cases p
  have w:=nV (ops:=ops) (E:=E) (s0:=s0) p hi (λt s j q y x ra=>by
   have v:ops[j]?=some ops[j]:=Qc y;refine a j q x (hI.slot j i t _ _ O v g ?_ (.inr (.inr ?_)))
   ·simpa[DN,v]using ra
   ·simpa[DN,g]using s)
  have m:=nW (E:=E) (m0:=m0) p hi (λf o hl j q y x=>by
   cases hlj:Fb (E j).u f o with
   |none=>rfl
   |some d=>exact absurd (hI.mem j i f o O y hi (by rw[hlj];simp) (.inr hl)) (a j q x))
  have s:DN ops i=(ops[i]).dst:=by simp[DN,g]
  rw[s]at w;simp only[Di,g,z,Q8];rw[←w,←m];exact PU e hI ab hE l (ins X i) (hX.ins r) n
end
def MU(m:Region.Mode)(ops:Array Oper):List Nat->List Nat->Bool
 |_,[]=>true
 |done,i::r=>(match ops[i]? with
  |some o=>o.after.all λe=>!Region.binds m e||done.contains e.on
  |none=>false)&&MU m ops (i::done) r
def FH(m:Region.Mode)(ops:Array Oper)(r:List Nat):Bool:=(Qt ops.size).all (λi=>r.contains i)&&MU m ops [] r
def EH(m:Region.Mode)(ops:Array Oper)(listed:Array Bool):List Nat:=
 (Qt ops.size).filter λi=>!listed.getD i true&&((ops[i]?).map (·.after.all λe=>!Region.binds m e||listed.getD e.on false)).getD false
def aHD{a:Array Bool}{i:Nat}(h:i<a.size)(x y:Bool):a.getD i x=a.getD i y:=by
 simp_all
def PY{m:Region.Mode}{ops:Array Oper}{listed:Array Bool}(w:listed.size=ops.size):∀{z done:List Nat},MU m ops done z=true->(∀j∈done,listed.getD j false=true)->
  (∃i∈z,i<ops.size∧listed.getD i false=false)->∃i,i∈EH m ops listed
 |[],done,_,_,⟨i,hi,_⟩=>by cases hi
 |i::r,done,h,hd,⟨k,hk,hkn,hkl⟩=>by
  unfold MU at h;rw[QU]at h;obtain⟨u,y⟩:=h;split at u
  ·rename_i o g;have x:i<ops.size:=(Qe.1 g).1;by_cases a:listed.getD i false=false
   ·refine⟨i,?_⟩;simp only[EH,Zm,Ql];refine⟨x,?_⟩;rw[aHD O true false,a];simp only[Zb,Bool.true_and,g,QY,QF];rw[ZA]at u ⊢;intro j q;have:=u j q;simp only[QP,Zn]at this ⊢;rcases this with h3|h3
    ·exact .inl h3
    ·exact .inr (hd _ h3)
   ·have b:listed.getD i false=true:=by simpa using a
    refine PY w y (λj q=>?_) ?_
    ·grind
    ·grind
  ·cases u
def Ez(listed:Array Bool):Nat->Bool:=λi=>listed.getD i false
def jT{listed:Array Bool}{i:Nat}(h:i<listed.size):Ez (listed.setIfInBounds i true)=ins (Ez listed) i:=by
 funext j;simp only[Ez,ins,Qh,Array.getElem?_setIfInBounds];by_cases q:i=j
 ·subst q;simp[h]
 ·grind
def F8(listed:Array Bool)(n:Nat):Nat:=((Qt n).filter λi=>!listed.getD i false).length
def dU{p q:Nat->Bool}{i:Nat}(hi:p i=true)(v:∀j,q j=(p j&&j !=i)):∀{l:List Nat},i∈l->(l.filter q).length<(l.filter p).length:=by
 have ta:∀l:List Nat,(l.filter q).length<=(l.filter p).length:=by
  intro l;induction l with
  |nil=>exact Qi _
  |cons x l ih=>
   rw[Q6,Q6,v x];cases hp:p x
   ·exact ih
   ·grind
 intro l;induction l with
 |nil=>intro h;cases h
 |cons x l ih=>
  intro n;rw[Q6,Q6,v x];by_cases w:x=i
  ·grind
  ·have a:(x !=i)=true:=by simpa using w
   have:=ih (by rcases List.mem_cons.1 n with h|h;exact absurd h.symm w;exact h);cases hp:p x
   ·simpa using this
   ·simp only[a,Bool.and_true,if_true,Qo];omega
def Un{listed:Array Bool}{n i:Nat}(w:listed.size=n)(hi:i<n)(hl:listed.getD i false=false):F8 (listed.setIfInBounds i true) n<F8 listed n:=by
 unfold F8;refine dU (i:=i) (by rw[hl];rfl) (λj=>?_) (Ql.2 hi);by_cases q:j=i
 ·simp_all
 ·have o:¬i=j:=λe=>q e.symm
  simp[Qh,o,q]
def Te(o:Oper):List Nat:=(o.after.toList.filter (Region.binds .any)).map (·.on)
theorem xM{m:Region.Mode}{e:Edge}(h:Region.binds .any e=true):Region.binds m e=true:=by
 unfold Region.binds at h ⊢;split at h<;>simp_all
def Fk(z:List (List Nat))(j k:Nat):Prop:=j∈z.getD k []
def F4(ps:List (List Nat))(z:List (List Nat)):Bool:=
 (Qt z.length).all λk=>(z.getD k []).all λj=>decide (j<k)&&((ps.getD k []).any λp=>p==j||(decide (p<k)&&(z.getD p []).contains j))
def VJ{ps z:List (List Nat)}(h:F4 ps z=true){j k:Nat}(o:Fk z j k):j<k∧∃p∈ps.getD k [],p=j∨(p<k∧Fk z j p):=by
 unfold Fk at o;have s:k<z.length:=by
  grind
 have u:=Qy.1 h k (Ql.2 s);have y:=Qy.1 u j o;simp only[QU,decide_eq_true_eq,List.any_eq_true,QP,beq_iff_eq,Zn]at y;exact⟨y.1,y.2⟩
def fE{ps z:List (List Nat)}(h:F4 ps z=true){X:Nat->Bool}(f:∀k,X k=true->∀p∈ps.getD k [],X p=true):∀{k j:Nat},X k=true->Fk z j k->X j=true:=by
 intro k;induction k using ZI with
 |_ k ih=>
  intro j s o;obtain⟨_,p,c,n⟩:=VJ h o;rcases n with rfl|⟨u,y⟩
  ·exact f k s p c
  ·grind
def aDQ{ps z:List (List Nat)}(h:F4 ps z=true){X:Nat->Bool}(f:∀k,X k=true->∀p∈ps.getD k [],X p=true){k:Nat}(s:∀p∈ps.getD k [],X p=true){j:Nat}(o:Fk z j k):X j=true:=by
 obtain⟨_,p,c,n⟩:=VJ h o;rcases n with rfl|⟨u,y⟩
 ·exact s p c
 ·exact fE h f (s p c) y
def pR{m:Region.Mode}{ops:Array Oper}{u:List DOper}{z:List (List Nat)}(v:u.length=ops.size)(ia:∀(k:Nat) o,ops[k]?=some o->(u.map (·.after)).getD k []=Te o)
  (hb:F4 (u.map (·.after)) z=true) {r:List Nat} (ka:FH m ops r=true):
  ∀(fuel t:Nat)(listed:Array Bool)(y:List Nat),listed.size=ops.size->F8 listed ops.size<=fuel->
   (∀k,Ez listed k=true->∀p∈(u.map (·.after)).getD k [],Ez listed p=true)->
   ∃l,Region.linearise.go m ops fuel t listed y=y.reverse++l∧gP u (Fk z) (Ez listed) l∧∀i,i<ops.size->l.foldl ins (Ez listed) i=true
 |0,t,listed,y,hsz,hu,hcl=>by
  refine⟨[],by simp[Region.linearise.go],trivial,λi hi=>?_⟩;have h0:((Qt ops.size).filter λi=>!listed.getD i false)=[]:=QN (by unfold F8 at hu;omega);rw[List.filter_eq_nil_iff]at h0;have:=h0 i (Ql.2 hi);simpa[Ez]using this
 |fuel+1,t,listed,y,hsz,hu,hcl=>by
  have n:Region.linearise.go m ops (fuel+1) t listed y=match (EH m ops listed)[t % (EH m ops listed).length]? with
   |some i=>Region.linearise.go m ops fuel (t / (EH m ops listed).length) (listed.setIfInBounds i true) (i::y)
   |none=>y.reverse:=rfl
  rw[n];split
  ·rename_i i hi;have qa:i∈EH m ops listed:=Qr hi;simp only[EH,Zm,Ql,QU]at qa;obtain⟨x,pa,s⟩:=qa;have f:listed.getD i false=false:=by
    simp_all
   have ho:ops[i]?=some ops[i]:=Array.getElem?_eq_getElem x;rw[ho]at s;simp only[QY,QF,ZA]at s;have ea:∀p∈(u.map (·.after)).getD i [],Ez listed p=true:=by
    intro p c;rw[ia i _ ho]at c;simp only[Te,Qv,Zm]at c;obtain⟨e,⟨he,b⟩,rfl⟩:=c;obtain⟨j,q,rfl⟩:=Array.getElem_of_mem (Array.mem_toList_iff.1 he);have:=s j q;simp only[QP]at this;rcases this with h1|h1
    ·grind [xM]
    ·exact h1
   have na:=jT (listed:=listed) (i:=i) O;obtain⟨l,w,e2,e3⟩:=pR v ia hb ka fuel (t / (EH m ops listed).length) (listed.setIfInBounds i true) (i::y) (by simpa using hsz)
    (by have:=Un hsz x f;omega) (λk hk p c=>by
     rw[na]at hk ⊢;simp only[ins,QP,beq_iff_eq]at hk ⊢;rcases hk with hk|rfl
     ·exact .inl (hcl k hk p c)
     ·exact .inl (ea p c))
   refine⟨i::l,?_,⟨O,f,λj q=>aDQ hb hcl ea q,?_⟩,?_⟩
   ·rw[w];simp
   ·rw[←na];exact e2
   ·simp_all
  ·rename_i g;refine⟨[],U,trivial,λi hi=>?_⟩;simp only[List.foldl_nil];cases hmi:Ez listed i with
   |true=>rfl
   |false=>
    exfalso;unfold FH at ka;rw[QU]at ka;have a:=Qy.1 ka.1 i (Ql.2 hi);obtain⟨k,hk⟩:=PY hsz ka.2 U ⟨i,by simpa using a,hi,hmi⟩;have ua:0<(EH m ops listed).length:=List.length_pos_of_mem hk;rw[List.getElem?_eq_none_iff]at g;have:=ZJ t ua;omega
def Fc{m:Region.Mode}{ops:Array Oper}{u:List DOper}{z:List (List Nat)}(v:u.length=ops.size)(ia:∀(k:Nat) o,ops[k]?=some o->(u.map (·.after)).getD k []=Te o)
  (f:F4 (u.map (·.after)) z=true) {r:List Nat} (c:FH m ops r=true) (t:Nat):
  gP u (Fk z) (λ_=>false) (Region.linearise m ops t)∧(Region.linearise m ops t).foldl ins (λ_=>false)=below ops.size:=by
 have h0:Ez (Q9 ops.size false)=λ_=>false:=by
  funext i;by_cases hi:i<ops.size<;>simp[Ez,Qh,hi]
 obtain⟨l,w,y,j⟩:=pR v ia f c ops.size t (Q9 ops.size false) [] U (by
  unfold F8;exact QA (List.length_filter_le _ _) U) (by rw[h0];simp)
 rw[h0]at y j;have hl:Region.linearise m ops t=l:=by
  unfold Region.linearise;simpa using w
 rw[hl];refine⟨y,?_⟩;funext i;by_cases hi:i<ops.size
 ·simp_all [j,below]
 ·have a:∀(l:List Nat)(X:Nat->Bool),gP u (Fk z) X l->X i=false->l.foldl ins X i=false:=by
   intro l;induction l with
   |nil=>intro X _ h;exact h
   |cons k l ih=>
    intro X e q;obtain⟨p,s,x,g4⟩:=e;refine ih _ g4 ?_;have:¬i=k:=O
    simp[ins,q,this]
  rw[a l _ y rfl];simp[below,hi]
end Go.Vd
namespace Go.Vd
open Go.RowKit
def aK4(N:Nat):Option Nat->Bool
 |some t=>decide (t<N)
 |none=>true
def Us(P:Program)(N:Nat)(o:Oper):Option DOper:=
 if aK4 N o.dst=true then some ⟨o.dst,(tr P o.op).getD .stop,Te o,o.guard⟩else none
def DA(P:Program)(N:Nat):List Oper->Option (List DOper)
 |[]=>some []
 |o::r=>match Us P N o,DA P N r with
  |some d,some l=>some (d::l)
  |_,_=>none
def Fv{P:Program}{N:Nat}{o:Oper}{d:DOper}(h:Us P N o=some d):(tr P o.op).getD .stop=d.op∧d.dst=o.dst∧d.after=Te o∧d.guard=o.guard∧∀t,o.dst=some t->t<N:=by
 grind [Us,aK4]
def aGb{P:Program}{S:G8}{op:Op}{d:DOp}{s:Nat->D}{m:Ha}{fr:Id}{x:D×Hf}(h:(tr P op).getD .stop=d)(z:Ax S s m fr d=some x):tr P op=some d:=by
 cases htr:tr P op with
 |none=>rw[htr]at h;simp only[Option.getD_none]at h;subst h;simp[Ax]at z
 |some n=>rw[htr]at h;simp only[QF]at h;rw[h]
def CQ{P:Program}{N:Nat}:∀{l:List Oper} {k:List DOper},DA P N l=some k->k.length=l.length∧∀(i:Nat) o,l[i]?=some o->∃d,k[i]?=some d∧Us P N o=some d
 |[],k,h=>by simp only[DA,Qa]at h;subst h;simp
 |o::r,k,h=>by
  unfold DA at h;split at h
  ·rename_i d l u y;simp only[Qa]at h;subst h;obtain⟨p,q⟩:=CQ y;refine⟨by simp[p],λi o' hi=>?_⟩;cases i with
   |zero=>simp only[QE,Qa]at hi;subst hi;exact⟨d,rfl,u⟩
   |succ i=>simp only[Zg]at hi ⊢;exact q i o' hi
  ·cases h
def EO(ns:Id)(m:Ha)(g:Gh)(m':Ha)(q:Gh):Prop:=∀i,B0 m g i->¬ns<:+i->B0 m' q i
def EO.refl(ns:Id)(m:Ha)(g:Gh):EO ns m g m g:=λ_ h _=>h
def EO.trans{ns:Id}{m m' a:Ha}{g q f:Gh}(h:EO ns m g m' q)(k:EO ns m' q a f):EO ns m g a f:=λi n r=>k i (h i n r) r
structure InX (P:Program) (B:Nat) (w0:World) (N:Nat) (ns:Id) (c:Nat) (X:Nat->Bool) (s:Nat->D) (m:Ha) (a:Act) (w:World) (g:Gh):Prop where
 inv:Hi P B w0 m w g
 slots:Dg w g s a
 size:a.tmps.size=N
 defers:a.defers=[]
 fresh:∀k i,c<=k->X (k-c)=false->(k::ns)<:+i->B0 m g i
def aJn:(Nat->Bool)->List Nat->Prop
 |_,[]=>True
 |X,i::l=>X i=false∧aJn (ins X i) l
def WD{k w:Nat}{ns i:Id}(h:(k::ns)<:+i)(f:(w::ns)<:+i):k=w:=by
 obtain⟨x,q⟩:=h;obtain⟨y,o⟩:=f;have hl:x.length=y.length:=by have:=congrArg ZL (q.trans o.symm);simpa using this
 have:=List.append_inj (q.trans o.symm) hl;simpa using this.2
def Dg.put{w:World}{g:Gh}{s:Nat->D}{a:Act}{r:Option Nat}{d:D}{v:Value}(h:Dg w g s a)(j:Rep w g d v)(u:∀t,r=some t->t<a.tmps.size):Dg w g (Cq s r d) (a.put r v):=by
 intro t;cases r with
 |none=>exact h t
 |some b=>
  have i:=u b rfl;simp only[Cq,Act.put];by_cases p:t=b
  ·simp_all
  ·rw[if_neg p];have x:¬b=t:=λe=>p e.symm
   have:(a.tmps.setIfInBounds b v).getD t undef=a.tmps.getD t undef:=by simp[Qh,x]
   rw[this];exact h t
def W9(a:Act)(r:Option Nat)(v:Value):(a.put r v).tmps.size=a.tmps.size∧(a.put r v).defers=a.defers:=by
 cases r<;>simp[Act.put]
section
variable{P:Program}{B:Nat}{w0:World}{N:Nat}{ns:Id}{c:Nat}{S:G8}{ops:Array Oper}{dops:List DOper}{Q:Exit->Act->World->Prop}
def vG{k:Nat}{i:Id}(h:¬ns<:+i):¬(k::ns)<:+i:=λf=>h ((ZD k ns).trans f)
def Mr{w:World}{g:Gh}{s:Nat->D}{a:Act}(k:DA P N ops.toList=some dops)(i:Dg w g s a){o:Oper}{d:DOper}(hd:d.guard=o.guard){b:Bool}(q:By dops s d=some b):
  Region.wanted o (yielded ops a.tmps)=b:=by
 obtain⟨hl,ja⟩:=CQ k;unfold By at q;unfold Region.wanted;rw[←hd];cases hgd:d.guard with
 |none=>rw[hgd]at q;simp only[Qa]at q;exact q
 |some p=>
  obtain⟨j,f⟩:=p;rw[hgd]at q;simp only at q ⊢;split at q
  ·rename_i t u;split at q
   ·rename_i b' ua;simp only[Qa]at q;have z:=i t;rw[ua]at z;have m:=z.bool_inv;have v:∃oj,ops[j]?=some oj∧oj.dst=some t:=by
     cases hdj:dops[j]? with
     |none=>rw[hdj]at u;cases u
     |some dj=>
      rw[hdj]at u;simp only[ZE]at u;have c:j<ops.toList.length:=by have:=(Qf.1 hdj).1;omega
      obtain⟨d2,n,y⟩:=ja j _ (Qc c);rw[hdj]at n;simp only[Qa]at n;subst n;refine⟨ops.toList[j],by simp at c;simp[c],?_⟩;rw[←(Fv y).2.1];exact u
    obtain⟨oj,n,y⟩:=v;have r:a.tmps[t]?=some (.bool b'):=by
     rw[Qh]at m;cases hh:a.tmps[t]? with
     |none=>rw[hh]at m;simp[undef]at m
     |some x=>rw[hh]at m;simp at m;rw[m]
    have hy:yielded ops a.tmps j=some b':=by
     simp[yielded,n,y,r]
    rw[hy,←q];cases b'<;>cases f<;>rfl
   ·rename_i ua;simp only[Qa]at q;subst q;have z:=i t;rw[ua]at z;obtain⟨us,m,hl,_⟩:=z.tup_inv;have hu:us=[]:=QN Xj;subst hu;have hy:yielded ops a.tmps j=none:=by
     unfold yielded;split
     ·rename_i b2 e;exfalso;rw[Zi]at e;obtain⟨t2,n,y⟩:=e;rw[Zi]at n;obtain⟨oj,e3,e4⟩:=n;have v:(dops[j]?).bind (·.dst)=some t2:=by
       obtain⟨d2,q1,q2⟩:=ja j oj (by simpa using e3);rw[q1];simp only[ZE];rw[(Fv q2).2.1];exact e4
      rw[u]at v;simp only[Qa]at v;subst v;rw[Qh,y]at m;cases m
     ·rfl
    rw[hy];rfl
   ·cases q
  ·cases q
def E0(hS:G8.ok P S)(ea:DA P N ops.toList=some dops):∀(l:List Nat)(X:Nat->Bool)(s:Nat->D)(m:Ha)(a:Act)(w:World)(g:Gh)(s':Nat->D)(m':Ha),
  aJn X l->Di S ns c dops l s m=some (s',m')->InX P B w0 N ns c X s m a w g->
  (∀a' w' g',InX P B w0 N ns c (l.foldl ins X) s' m' a' w' g'->Hr w g w' g'->EO ns m g m' g'->Q .normal a' w')->wpOps P ops Q l a w
 |[],X,s,m,a,w,g,s',m',_,he,hx,hq=>by
  simp only[Di,Qa,Qd]at he;obtain⟨rfl,rfl⟩:=he;exact hq a w g hx (Hr.refl w g) (EO.refl ns m g)
 |i::l,X,s,m,a,w,g,s',m',hf,he,hx,hq=>by
  obtain⟨p,wa⟩:=hf;obtain⟨v,ja⟩:=CQ ea;simp only[wpOps];cases ho:ops[i]? with
  |none=>
   simp only;have hd:dops[i]?=none:=by
    simp_all
   simp only[Di,hd]at he;have pa:InX P B w0 N ns c (ins X i) s m a w g:=⟨hx.inv,hx.slots,hx.size,hx.defers,λk i' q y x=>hx.fresh k i' q (by simp only[ins,QS]at y;exact y.1) x⟩;exact E0 hS ea l (ins X i) s m a w g s' m' wa he pa hq
  |some o=>
   simp only;obtain⟨d,hd,r⟩:=ja i o (by simpa using ho);obtain⟨t1,t2,t3,t4,t5⟩:=Fv r;simp only[Di,hd]at he;split at he
   ·rename_i e b;unfold BP at b;have n:∀i',((c+i)::ns)<:+i'->B0 m g i':=λi' h=>hx.fresh (c+i) i' O (by rw[show c+i-c=i by omega];exact p) h
    have j:∀t,o.dst=some t->t<a.tmps.size:=λt ht=>by rw[hx.size];exact t5 t ht
    split at b
    ·rename_i hg;rw[Mr ea hx.slots t4 hg];simp only[if_true];split at b
     ·rename_i dd u z;simp only[Qa]at b;subst b;left;refine aR5 hS ⟨hx.inv,hx.slots,n⟩ (aGb t1 z) z (λv' w' g' la=>?_);have ia:=W9 a o.dst v';have pa:InX P B w0 N ns c (ins X i) (Cq s d.dst dd) (Hf.app m u) (a.put o.dst v') w' g':=by
       refine⟨la.inv,?_,by rw[ia.1];exact hx.size,by rw[ia.2];exact hx.defers,λk i' q y x=>?_⟩
       ·rw[t2];exact(hx.slots.ext la.ext).put la.rep j
       ·simp only[ins,QS,beq_eq_false_iff_ne]at y;refine la.fresh i' (hx.fresh k i' q y.1 x) (λh4=>?_);have:=WD x h4;omega
      exact E0 hS ea l (ins X i) _ _ _ w' g' s' m' wa he pa (λva ma f q y x=>hq va ma f q (la.ext.trans y) (EO.trans (λi' hf hn=>la.fresh i' hf (vG hn)) x))
     ·cases b
    ·rename_i hg;rw[Mr ea hx.slots t4 hg];simp only[QH,if_false];simp only[Qa]at b;subst b;have ia:=W9 a o.dst undef;have pa:InX P B w0 N ns c (ins X i) (Cq s d.dst (.tup [])) m (a.put o.dst undef) w g:=by
      refine⟨hx.inv,?_,by rw[ia.1];exact hx.size,by rw[ia.2];exact hx.defers,λk i' q y x=>?_⟩
      ·rw[t2];exact hx.slots.put (.tup [] [] rfl U) j
      ·simp only[ins,QS]at y;exact hx.fresh k i' q y.1 x
     exact E0 hS ea l (ins X i) _ _ _ w g s' m' wa he pa hq
    ·cases b
   ·cases he
def NY{a:Nat->Nat->Prop}:∀{l:List Nat} {X:Nat->Bool},gP dops a X l->aJn X l
 |[],_,_=>trivial
 |i::l,X,h=>⟨h.2.1,NY h.2.2.2⟩
def RB(n:Nat):∀k,aJn (below k) (Zp k n):=by
 induction n with
 |zero=>intro k;trivial
 |succ n ih=>
  intro k;rw[Q3];exact⟨by simp[below],by rw[NR];exact ih (k+1)⟩
def OG(n:Nat):∀k,(Zp k n).foldl ins (below k)=below (k+n):=by
 induction n with
 |zero=>intro k;rfl
 |succ n ih=>
  intro k;rw[Q3,Q8,NR,ih (k+1)];congr 1;omega
structure InS (P:Program) (B:Nat) (w0:World) (N:Nat) (ns:Id) (c:Nat) (s:Nat->D) (m:Ha) (a:Act) (w:World) (g:Gh):Prop where
 inv:Hi P B w0 m w g
 slots:Dg w g s a
 size:a.tmps.size=N
 defers:a.defers=[]
 fresh:∀k i,c<=k->(k::ns)<:+i->B0 m g i
def InS.start{s:Nat->D}{m:Ha}{a:Act}{w:World}{g:Gh}(h:InS P B w0 N ns c s m a w g)(X:Nat->Bool):InX P B w0 N ns c X s m a w g:=
 ⟨h.inv,h.slots,h.size,h.defers,λk i u _ x=>h.fresh k i u x⟩
def InX.done{s:Nat->D}{m:Ha}{a:Act}{w:World}{g:Gh}{n:Nat}(h:InX P B w0 N ns c (below n) s m a w g):InS P B w0 N ns (c+n) s m a w g:=
 ⟨h.inv,h.slots,h.size,h.defers,λk i u x=>h.fresh k i O (by simp[below];omega) x⟩
def uH(e:G8.ok P S)(b:DA P N ops.toList=some dops){s:Nat->D}{m:Ha}{a:Act}{w:World}{g:Gh}{v:Nat->D}{m':Ha}{id:Nat}
  (z:Di S ns c dops (Qt dops.length) s m=some (v,m')) (q:InS P B w0 N ns c s m a w g)
  (n:∀t k x,InS P B w0 N ns (c+dops.length) v m' t k x->Hr w g k x->EO ns m g m' x->Q .normal t k):(Code.region id ops false).wp P Q a w:=by
 have hl:dops.length=ops.size:=by simpa using (CQ b).1
 refine wp_region ?_;rw[←hl];have f:below 0=λ_=>false:=X9
 refine E0 e b (Qt dops.length) (below 0) s m a w g v m' ?_ z (q.start _) (λt k x u y i=>?_)
 ·rw[QR];exact RB _ 0
 ·rw[QR,OG]at u;rw[Qu]at u;exact n t k x u.done y i
end
abbrev Mm:=List Loc×List Loc
def Ch(S:G8)(ns:Id)(c:Nat)(ops:List DOper):List DOper->Nat->(Nat->D)->Ha->Option ((Nat->D)×Ha×List Mm)
 |[],_,s,m=>some (s,m,[])
 |o::l,k,s,m=>match BP S ops ((c+k)::ns) o s m with
  |some e=>match Ch S ns c ops l (k+1) (Cq s o.dst e.d) (Hf.app m e.u)with
   |some (s',m',f)=>some (s',m',(Hu S s m o.op,AF e.u)::f)
   |none=>none
  |none=>none
def DOp.mayW:DOp->Bool
 | .alloc _| .box _| .bslice .. | .mksl .. | .store .. | .app .. | .call .. | .range _| .next _=>true
 |_=>false
def DOp.ownW:DOp->Bool
 | .alloc _| .box _| .bslice .. | .mksl ..=>true
 |_=>false
def DOp.mayR:DOp->Bool
 | .load .. | .store .. | .app .. | .call .. | .next _=>true
 |_=>false
def aDE(a b:DOp):Bool:=a.mayW&&(b.mayR||b.mayW)&&!(a.ownW&&b.ownW)
def SG(z:List (List Nat))(j k:Nat):Bool:=(z.getD k []).contains j
def Lr(ops:List DOper)(z:List (List Nat)):List (Nat×Nat):=
 (Qt ops.length).flatMap λj=>(Qt ops.length).filterMap λk=>
  match ops[j]?,ops[k]? with
  |some a,some b=>if(j !=k)&&!SG z j k&&!SG z k j&&aDE a.op b.op then some (j,k)else none
  |_,_=>none
def O4(ops:List DOper)(z:List (List Nat)):Bool:=
 (Qt ops.length).all λj=>(Qt ops.length).all λk=>
  match ops[j]?,ops[k]? with
  |some a,some b=>match a.dst with
   |some t=>(j==k)||SG z j k||SG z k j||!(b.op.uses.contains t||Gt ops b==some t||b.dst==some t)
   |none=>true
  |_,_=>true
def Mb(f:List Mm)(ps:List (Nat×Nat)):Prop:=∀p∈ps,∀l∈(f.getD p.1 ([],[])).2,l∉(f.getD p.2 ([],[])).1∧l∉(f.getD p.2 ([],[])).2
section
variable{S:G8}{ns:Id}{c:Nat}{ops:List DOper}
def Dw(S:G8)(ns:Id)(c:Nat)(ops:List DOper)(s0:Nat->D)(m0:Ha):Nat->(Nat->D)×Ha
 |0=>(s0,m0)
 |k+1=>match ops[k]? with
  |some o=>
   let e:=(BP S ops ((c+k)::ns) o (Dw S ns c ops s0 m0 k).1 (Dw S ns c ops s0 m0 k).2).getD ⟨.junk,[]⟩
   (Cq (Dw S ns c ops s0 m0 k).1 o.dst e.d,Hf.app (Dw S ns c ops s0 m0 k).2 e.u)
  |none=>Dw S ns c ops s0 m0 k
def Me(S:G8)(ns:Id)(c:Nat)(ops:List DOper)(s0:Nat->D)(m0:Ha)(k:Nat):Eff:=
 match ops[k]? with
 |some o=>(BP S ops ((c+k)::ns) o (Dw S ns c ops s0 m0 k).1 (Dw S ns c ops s0 m0 k).2).getD ⟨.junk,[]⟩
 |none=>⟨.junk,[]⟩
variable{s0:Nat->D}{m0:Ha}
def GM:∀k,k<=ops.length->(Dw S ns c ops s0 m0 k).1=iQ ops (Me S ns c ops s0 m0) s0 (below k) ops.length∧(Dw S ns c ops s0 m0 k).2=tF (Me S ns c ops s0 m0) m0 (below k) ops.length
 |0,_=>by
  have q:below 0=λ_=>false:=X9
  constructor
  ·funext t;simp only[Dw,iQ,q];have:∀n,IM ops (Me S ns c ops s0 m0) (λ_=>false) t n=none:=by
    intro n;induction n with
    |zero=>rfl
    |succ n ih=>simp[IM,ih]
   rw[this];rfl
  ·funext i o;simp only[Dw,tF,q];have:∀n,Ii (Me S ns c ops s0 m0) (λ_=>false) i o n=none:=by
    intro n;induction n with
    |zero=>rfl
    |succ n ih=>simp[Ii,ih]
   rw[this]
 |k+1,hk=>by
  obtain⟨u,y⟩:=GM k O;have g:ops[k]?=some ops[k]:=Qc O;have v:Me S ns c ops s0 m0 k=(BP S ops ((c+k)::ns) ops[k] (Dw S ns c ops s0 m0 k).1 (Dw S ns c ops s0 m0 k).2).getD ⟨.junk,[]⟩:=by
   simp only[Me,g]
  have f:below k k=false:=by simp[below]
  have w:=nV (ops:=ops) (E:=Me S ns c ops s0 m0) (s0:=s0) f (n:=ops.length) O (λt _ j u _ x=>by simp[below]at x;omega);have m:=nW (E:=Me S ns c ops s0 m0) (m0:=m0) f (n:=ops.length) O (λi o _ j u _ x=>by simp[below]at x;omega);rw[NR]at w m;have p:DN ops k=(ops[k]).dst:=by simp[DN,g]
  rw[p]at w;simp only[Dw,g];rw[←v,u,y,←w,←m];exact⟨rfl,rfl⟩
def IV:∀{l:List DOper} {k:Nat} {v:Nat->D} {m':Ha} {f:List Mm},l=ops.drop k->Ch S ns c ops l k (Dw S ns c ops s0 m0 k).1 (Dw S ns c ops s0 m0 k).2=some (v,m',f)->
  (v,m')=Dw S ns c ops s0 m0 (k+l.length)∧∀j o,ops[k+j]?=some o->
   BP S ops ((c+(k+j))::ns) o (Dw S ns c ops s0 m0 (k+j)).1 (Dw S ns c ops s0 m0 (k+j)).2=some (Me S ns c ops s0 m0 (k+j))∧
   f[j]?=some (Hu S (Dw S ns c ops s0 m0 (k+j)).1 (Dw S ns c ops s0 m0 (k+j)).2 o.op,AF (Me S ns c ops s0 m0 (k+j)).u)
 |[],k,v,m',f,hl,h=>by
  simp only[Ch,Qa,Qd]at h;obtain⟨rfl,rfl,rfl⟩:=h;refine⟨rfl,λj o g=>?_⟩;have:ops.length<=k:=by
   simp_all
  rw[Qk O]at g;cases g
 |o::l,k,v,m',f,hl,h=>by
  have w:ops[k]?=some o:=by
   have:(ops.drop k)[0]?=some o:=by rw[←hl];rfl
   rw[Qw]at this;simpa using this
  have r:l=ops.drop (k+1):=by
   have:(ops.drop k).drop 1=ops.drop (k+1):=by rw[Zo]
   rw[←this,←hl];rfl
  unfold Ch at h;split at h
  ·rename_i e z;have i:Me S ns c ops s0 m0 k=e:=by simp only[Me,w,z,QF]
   have x:Dw S ns c ops s0 m0 (k+1)=(Cq (Dw S ns c ops s0 m0 k).1 o.dst e.d,Hf.app (Dw S ns c ops s0 m0 k).2 e.u):=by
    grind [Dw]
   split at h
   ·rename_i a m y t;simp only[Qa,Qd]at h;obtain⟨rfl,rfl,rfl⟩:=h;obtain⟨p,q⟩:=IV (k:=k+1) r (by rw[x];exact t);refine⟨by rw[p];congr 1;simp;omega,λj o' b=>?_⟩;cases j with
    |zero=>
     simp only[Zj]at b ⊢;rw[w]at b;simp only[Qa]at b;subst b;refine⟨by rw[z,i],?_⟩;rw[i];rfl
    |succ j=>
     have:=q j o' (by rw[show k+1+j=k+(j+1)by omega];exact b);rw[show k+1+j=k+(j+1)by omega]at this;exact⟨this.1,by simpa using this.2⟩
   ·cases h
  ·cases h
theorem eB{P:Program}(w:G8.ok P S){op:DOp}{s:Nat->D}{m:Ha}{fr:Id}{d:D}{u:Hf}(h:Ax S s m fr op=some (d,u)):
  (op.mayW=false->u=[])∧(op.ownW=true->∀i o,Fb u i o≠none->i=fr):=by
 have a:∀ds,∀i o,Fb [(fr,0,ds)] i o≠none->i=fr:=by
  grind [Fb]
 cases op<;>(constructor<;>intro y<;>first|(simp[DOp.mayW]at y;done)|(simp[DOp.ownW]at y;done)|skip)
 all_goals simp only[Ax]at h
 case alloc zs=>simp only[Qa,Qd]at h;obtain⟨rfl,rfl⟩:=h;exact a _
 case box x=>split at h;(simp only[Qa,Qd]at h;obtain⟨rfl,rfl⟩:=h;exact a _);cases h
 case bslice=>split at h;(simp only[Qa,Qd]at h;obtain⟨rfl,rfl⟩:=h;exact a _);cases h
 case mksl=>
  split at h
  ·grind
  ·cases h
 all_goals
  repeat' (split at h)
 all_goals first
  |(simp at h;done)
  |(simp only[Qa,Qd]at h;exact h.2.symm)
  |(rw[Qb]at h;obtain⟨_,_,h⟩:=h;simp only[Qd]at h;exact h.2.symm)
def W5{op:DOp}{s:Nat->D}{m:Ha}(h:op.mayR=false):Hu S s m op=[]:=by
 cases op<;>first|rfl|(simp[DOp.mayR]at h)
def uK{op:DOp}(h:op.ownW=true):op.mayR=false:=by
 cases op<;>first|rfl|(simp[DOp.ownW]at h)
def Nk{z:List (List Nat)}{j k:Nat}:SG z j k=true↔Fk z j k:=by
 simp[SG,Fk]
def aB0{P:Program}(hS:G8.ok P S){z:List (List Nat)}(hb:F4 (ops.map (·.after)) z=true)(hs:O4 ops z=true){s':Nat->D}{m':Ha}{f:List Mm}
  (r:Ch S ns c ops ops 0 s0 m0=some (s',m',f)) (hf:Mb f (Lr ops z)):
  aFj ops (Me S ns c ops s0 m0) (λk=>(f.getD k ([],[])).1) (Fk z):=by
 obtain⟨_,ja⟩:=IV (k:=0) (ops:=ops) rfl r;simp only[Qu]at ja;refine⟨λj k h=>(VJ hb h).1,λj k t oj ok a hj hk p ht=>?_,λj k i o a hj hk hl ht=>?_⟩
 ·have za:j<ops.length:=(Qf.1 hj).1;have x:k<ops.length:=(Qf.1 hk).1;have q:=Qy.1 hs j (Ql.2 za);have h2:=Qy.1 q k (Ql.2 x);simp only[hj,hk,p]at h2;simp only[QP,beq_iff_eq,Bool.not_eq_true',QS]at h2;rcases h2 with ((h2|h2)|h2)|h2
  ·exact absurd h2 a
  ·exact .inl (Nk.1 h2)
  ·exact .inr (Nk.1 h2)
  ·simp_all
 ·by_cases hc:Fk z j k∨Fk z k j
  ·exact hc
  exfalso;have v:ops[j]?=some ops[j]:=Qc hj;have w:ops[k]?=some ops[k]:=Qc hk;obtain⟨ej,fj⟩:=ja j _ v;obtain⟨ek,fk⟩:=ja k _ w;have g:f.getD j ([],[])=(Hu S (Dw S ns c ops s0 m0 j).1 (Dw S ns c ops s0 m0 j).2 ops[j].op,AF (Me S ns c ops s0 m0 j).u):=by simp[Q0,fj]
  have d:f.getD k ([],[])=(Hu S (Dw S ns c ops s0 m0 k).1 (Dw S ns c ops s0 m0 k).2 ops[k].op,AF (Me S ns c ops s0 m0 k).u):=by simp[Q0,fk]
  have wr:∀{k o e s m},BP S ops ((c+k)::ns) o s m=some e->(o.op.mayW=false->e.u=[])∧(o.op.ownW=true->∀i o',Fb e.u i o'≠none->i=(c+k)::ns):=by
   intro k o e s m h;unfold BP at h;split at h
   ·grind [eB]
   ·simp only[Qa]at h;subst h;exact⟨λ_=>rfl,λ_ i o' hl=>absurd rfl hl⟩
   ·cases h
  by_cases va:aDE (ops[j]).op (ops[k]).op=true
  ·have qa:(j,k)∈Lr ops z:=by
    unfold Lr;rw[Q5];refine⟨j,Ql.2 hj,?_⟩;rw[List.mem_filterMap];refine⟨k,Ql.2 hk,?_⟩;simp only[v,w];have n1:SG z j k=false:=by
     cases h:SG z j k with
     |false=>rfl
     |true=>exact absurd (.inl (Nk.1 h)) hc
    have n2:SG z k j=false:=by
     cases h:SG z k j with
     |false=>rfl
     |true=>exact absurd (.inr (Nk.1 h)) hc
    have n3:(j !=k)=true:=by simpa using a
    rw[n1,n2,n3,va];rfl
   have n:=hf (j,k) qa (i,o) (by simp only;rw[g];exact look_mem hl);rcases ht with ht|ht
   ·exact n.1 ht
   ·grind [look_mem]
  ·obtain⟨w1,w2⟩:=wr ej;obtain⟨w3,w4⟩:=wr ek;have l:(ops[j]).op.mayW=true:=by
    cases h:(ops[j]).op.mayW with
    |true=>rfl
    |false=>rw[w1 h]at hl;exact absurd rfl hl
   by_cases b:(ops[k]).op.mayR=true∨(ops[k]).op.mayW=true
   ·have ra:(ops[j]).op.ownW=true∧(ops[k]).op.ownW=true:=by
     unfold aDE at va;rw[l]at va;have:((ops[k]).op.mayR||(ops[k]).op.mayW)=true:=by rcases b with h|h<;>simp[h]
     rw[this]at va;simpa using va
    have hi:=w2 ra.1 i o hl;rcases ht with ht|ht
    ·have:(ops[k]).op.mayR=false:=uK ra.2;rw[d,W5 this]at ht;cases ht
    ·have y:=w4 ra.2 i o ht;rw[hi]at y;simp only[ZH,and_true]at y;omega
   ·have q:(ops[k]).op.mayR=false:=by simpa using (λh=>b (.inl h))
    have h2:(ops[k]).op.mayW=false:=by simpa using (λh=>b (.inr h))
    rcases ht with ht|ht
    ·rw[d,W5 q]at ht;cases ht
    ·rw[w3 h2]at ht;exact absurd rfl ht
def PQ{P:Program}(w:G8.ok P S){z:List (List Nat)}(hb:F4 (ops.map (·.after)) z=true)(i:O4 ops z=true){m:Nat->D}{m':Ha}{f:List Mm}
  (r:Ch S ns c ops ops 0 s0 m0=some (m,m',f)) (n:Mb f (Lr ops z)) {l:List Nat} (e:gP ops (Fk z) (λ_=>false) l) (hl:l.foldl ins (λ_=>false)=below ops.length):
  Di S ns c ops l s0 m0=some (m,m'):=by
 obtain⟨a,p⟩:=IV (k:=0) (ops:=ops) rfl r;simp only[Qu,List.drop_zero]at p a;have u:=aB0 w hb i r n;have b:=GM (S:=S) (ns:=ns) (c:=c) (ops:=ops) (s0:=s0) (m0:=m0) 0 (ZF _);have q:below 0=λ_=>false:=X9
 rw[q]at b;simp only[Dw]at b;have g:=GM (S:=S) (ns:=ns) (c:=c) (ops:=ops) (s0:=s0) (m0:=m0) ops.length (Qi _);have d:=PU (c:=c) (ns:=ns) (s0:=s0) (m0:=m0) w u (λk o v=>by
  have s:k<ops.length:=(Qf.1 v).1;have:=(p k o v).2;rw[(GM k O).1,(GM k O).2]at this;simp[Q0,this]) (λk o v=>by
  have s:k<ops.length:=(Qf.1 v).1;have:=(p k o v).1;rw[(GM k O).1,(GM k O).2]at this;exact this) l (λ_=>false) (λj k h _=>Xc) e
 rw[←b.1,←b.2,hl,←g.1,←g.2]at d;rw[d,←a]
end
def DOper.strip(o:DOper):DOper:={o with after:=[]}
def Es(S:G8)(ns:Id)(c:Nat)(ops:List DOper):List DOper->Nat->(Nat->D)->Ha->Option ((Nat->D)×Ha)
 |[],_,s,m=>some (s,m)
 |o::l,k,s,m=>match BP S ops ((c+k)::ns) o s m with
  |some e=>Es S ns c ops l (k+1) (Cq s o.dst e.d) (Hf.app m e.u)
  |none=>none
def Sz(ops:List DOper)(s:Nat->D)(o:DOper):By (ops.map DOper.strip) s o.strip=By ops s o:=by
 grind [By,DOper.strip]
def OI(S:G8)(ops:List DOper)(fr:Id)(o:DOper)(s:Nat->D)(m:Ha):BP S (ops.map DOper.strip) fr o.strip s m=BP S ops fr o s m:=by
 unfold BP;rw[Sz];rfl
def IW(S:G8)(ns:Id)(c:Nat)(ops:List DOper):∀(l:List DOper)(k:Nat)(s:Nat->D)(m:Ha),Es S ns c (ops.map DOper.strip) (l.map DOper.strip) k s m=Es S ns c ops l k s m
 |[],k,s,m=>rfl
 |o::l,k,s,m=>by
  simp only[Qs,Es,OI];cases BP S ops ((c+k)::ns) o s m with
  |none=>rfl
  |some e=>simp only;exact IW S ns c ops l (k+1) _ _
def GW(S:G8)(ns:Id)(c:Nat)(ops:List DOper):∀(l:List DOper)(k:Nat)(s:Nat->D)(m:Ha),Ch S ns c (ops.map DOper.strip) (l.map DOper.strip) k s m=Ch S ns c ops l k s m
 |[],k,s,m=>rfl
 |o::l,k,s,m=>by
  simp only[Qs,Ch,OI];cases BP S ops ((c+k)::ns) o s m with
  |none=>rfl
  |some e=>simp only;rw[show o.strip.dst=o.dst from rfl,GW S ns c ops l (k+1) _ _];rfl
def IY(S:G8)(ns:Id)(c:Nat)(ops:List DOper):∀(l:List DOper)(k:Nat)(s:Nat->D)(m:Ha),l=ops.drop k->Es S ns c ops l k s m=Di S ns c ops (Zp k l.length) s m
 |[],k,s,m,_=>rfl
 |o::l,k,s,m,hl=>by
  have u:ops[k]?=some o:=by
   have:(ops.drop k)[0]?=some o:=by rw[←hl];rfl
   rw[Qw]at this;simpa using this
  have b:l=ops.drop (k+1):=by
   have:(ops.drop k).drop 1=ops.drop (k+1):=by rw[Zo]
   rw[←this,←hl];rfl
  rw[Qo,Q3];simp only[Es,Di,u];cases BP S ops ((c+k)::ns) o s m with
  |none=>rfl
  |some e=>simp only;exact IY S ns c ops l (k+1) _ _ b
inductive DC where
 |skip
 |ret
 |exit (i:Nat)
 |row (ops:List DOper)
 |drawn (ops:List DOper) (ps:List (Nat×Nat))
 |seq (a b:DC)
 |cond (c:Hd) (a b:DC)
 |block (i:Nat) (c:DC)
 |loop (c:DC)
def R_(ps:List (List Nat)):List (List Nat):=
 ps.foldl (λy p=>y++[(p.flatMap λj=>j::y.getD j []).eraseDups]) []
def U0(P:Program)(N:Nat)(ops:Array Oper):Option DC:=
 match DA P N ops.toList with
 |some u=>
  if F4 (u.map (·.after)) (R_ (u.map (·.after)))=true∧O4 u (R_ (u.map (·.after)))=true∧FH .any ops (Region.linearise .any ops 0)=true∧
   FH .text ops (Region.linearise .text ops 0)=true∧FH .gc ops (Region.linearise .gc ops 0)=true
  then some (.drawn (u.map DOper.strip) (Lr u (R_ (u.map (·.after)))))else none
 |none=>none
def Bg(P:Program)(N:Nat):Code->Option DC
 | .skip=>some .skip
 | .ret=>some .ret
 | .exit i=>some (.exit i)
 | .region _ ops false=>(DA P N ops.toList).map λl=> .row (l.map DOper.strip)
 | .region _ ops true=>U0 P N ops
 | .seq a b=>match Bg P N a,Bg P N b with
  |some a,some b=>some (.seq a b)
  |_,_=>none
 | .cond c a b=>match AC c,Bg P N a,Bg P N b with
  |some c,some a,some b=>some (.cond c a b)
  |_,_,_=>none
 | .block i c=>(Bg P N c).map (.block i)
 | .loop c=>(Bg P N c).map .loop
 |_=>none
structure St where
 s:Nat->D
 m:Ha
 c:Nat
inductive Ex where
 |normal
 |ret
 |exit (i:Nat)
def Ex.toExit:Ex->Exit
 | .normal=> .normal
 | .ret=> .ret
 | .exit i=> .exit i
inductive Lp (R:St->Ex->St->Prop):Nat->St->Ex->St->Prop
 |stop (st:St) (e:Ex) (st':St):R st e st'->e≠ .normal->Lp R 0 st e st'
 |more (n:Nat) (st st1:St) (e:Ex) (st':St):R st .normal st1->Lp R n st1 e st'->Lp R (n+1) st e st'
def Ev(S:G8)(ns:Id):DC->St->Ex->St->Prop
 | .skip,st,e,st'=>e= .normal∧st'=st
 | .ret,st,e,st'=>e= .ret∧st'=st
 | .exit i,st,e,st'=>e= .exit i∧st'=st
 | .row ops,st,e,st'=>e= .normal∧Es S ns st.c ops ops 0 st.s st.m=some (st'.s,st'.m)∧st'.c=st.c+ops.length
 | .drawn ops ps,st,e,st'=>e= .normal∧(∃f,Ch S ns st.c ops ops 0 st.s st.m=some (st'.s,st'.m,f)∧Mb f ps)∧st'.c=st.c+ops.length
 | .seq a b,st,e,st'=>∃w st1,Ev S ns a st w st1∧((w= .normal∧Ev S ns b st1 e st')∨(w≠ .normal∧e=w∧st'=st1))
 | .cond c a b,st,e,st'=>(c.ev st.s= .bool true∧Ev S ns a st e st')∨(c.ev st.s= .bool false∧Ev S ns b st e st')
 | .block i c,st,e,st'=>∃w,Ev S ns c st w st'∧((w= .exit i∧e= .normal)∨(w≠ .exit i∧e=w))
 | .loop c,st,e,st'=>∃n,Lp (Ev S ns c) n st e st'
def DC.wp(S:G8)(ns:Id)(s:DC)(Q:Ex->St->Prop)(v:St):Prop:=∃e r,Ev S ns s v e r∧Q e r
def SR{P:Program}{Q:Exit->Act->World->Prop}{c:Code}(J:Nat->Act->World->Prop)
  (f:∀n a w,J n a w->c.wp P (Exit.then (λt m=>∃k,k<n∧J k t m) Q) a w) {n:Nat} {a:Act} {w:World} (q:J n a w):(Code.loop c).wp P Q a w:=by
 intro b k cs;have z:∀n a w,J n a w->∃e t m,Q e t m∧Arrives P (lone (b.at a (.code c:: .inLoop c::k)) cs w) b k cs e t m:=by
  intro n;induction n using ZI with
  |_ n ih=>
   intro a w r;obtain⟨e,o,y,v,i⟩:=f n a w r b (.inLoop c::k) cs;cases e with
   |normal=>
    obtain⟨j,u,g⟩:=v;obtain⟨e₂,a₂,p,h,d⟩:=ih j u o y g;exact⟨e₂,a₂,p,h,.of_steps (Steps.trans i (.one step_inLoop)) d⟩
   |exit id=>exact⟨_,o,y,v,.pass (x:= .inLoop c) rfl (λ_ _=> .inl U) i⟩
   |goto l=>exact⟨_,o,y,v,.pass (x:= .inLoop c) rfl (λ_ _=> .inl U) i⟩
   |ret=>exact⟨_,o,y,v,.pass (x:= .inLoop c) rfl (λ_ _=> .inl U) i⟩
   |panic s=>exact⟨_,o,y,v,.pass (x:= .inLoop c) rfl (λ_ _=> .inl U) i⟩
   |outgrown=>exact⟨_,o,y,v,.pass (x:= .inLoop c) rfl (λ_ _=> .inl U) i⟩
 obtain⟨e,t,m,v,i⟩:=z n a w q;exact⟨e,t,m,v,.of_steps (.one step_loop) i⟩
section
variable{P:Program}{B:Nat}{w0:World}{N:Nat}{ns:Id}{S:G8}
def MN{ops:Array Oper}{s:DC}(h:U0 P N ops=some s):∃u z,DA P N ops.toList=some u∧F4 (u.map (·.after)) z=true∧O4 u z=true∧
  (∀y,FH y ops (Region.linearise y ops 0)=true)∧s= .drawn (u.map DOper.strip) (Lr u z):=by
 unfold U0 at h;split at h
 ·rename_i u p;split at h
  ·rename_i n;simp only[Qa]at h;refine⟨u,_,p,n.1,n.2.1,λy=>?_,h.symm⟩;cases y
   ·exact n.2.2.2.1
   ·exact n.2.2.2.2
   ·exact n.2.2.1
  ·cases h
 ·cases h
def Holds(P:Program)(B:Nat)(w0:World)(N:Nat)(ns:Id)(v:St)(a:Act)(w:World)(g:Gh):Prop:=InS P B w0 N ns v.c v.s v.m a w g
def yN(P:Program)(B:Nat)(w0:World)(N:Nat)(ns:Id)(v:St)(w:World)(g:Gh)(e:Ex)(r:St):Exit->Act->World->Prop:=
 λp t k=>p=e.toExit∧∃q,Holds P B w0 N ns r t k q∧Hr w g k q∧EO ns v.m g r.m q
def yN.trans{v st1 r:St}{w j:World}{g z:Gh}{e:Ex}{a:Exit}{t:Act}{k:World}(q:Hr w g j z)(s:EO ns v.m g st1.m z)(h:yN P B w0 N ns st1 j z e r a t k):yN P B w0 N ns v w g e r a t k:=by
 obtain⟨u,x,y,i,p⟩:=h;exact⟨u,x,y,q.trans i,s.trans p⟩
def LN{ops:Array Oper}{u:List DOper}{z:List (List Nat)}(b:DA P N ops.toList=some u)(f:F4 (u.map (·.after)) z=true)
  (c:∀y,FH y ops (Region.linearise y ops 0)=true) (a:Bool) (t:Nat):
  gP u (Fk z) (λ_=>false) (Region.schedule a ops t)∧(Region.schedule a ops t).foldl ins (λ_=>false)=below u.length:=by
 obtain⟨hl,s⟩:=CQ b;have v:u.length=ops.size:=Xj
 have q:∀(k:Nat) o,ops[k]?=some o->(u.map (·.after)).getD k []=Te o:=by
  intro k o g;obtain⟨d,p,j⟩:=s k o (by simpa using g);simp[Q0,p,(Fv j).2.2.1]
 rw[v];unfold Region.schedule;split
 ·exact Fc v q f (c .any) t
 ·split
  ·exact Fc v q f (c .text) (t / 2)
  ·exact Fc v q f (c .gc) (t / 2)
def aCo(hS:G8.ok P S):∀(ca:Code)(dc:DC),Bg P N ca=some dc->∀(k:St)(e:Ex)(fa:St),Ev S ns dc k e fa->∀(a:Act)(w:World)(g:Gh),Holds P B w0 N ns k a w g->
  ca.wp P (yN P B w0 N ns k w g e fa) a w:=by
 intro ca;induction ca with
 |skip=>
  intro dc ba k e fa ha a w g hx;simp only[Bg,Qa]at ba;subst ba;obtain⟨rfl,rfl⟩:=ha;exact wp_skip ⟨rfl,g,hx,Hr.refl w g,EO.refl _ _ _⟩
 |ret=>
  intro dc ba k e fa ha a w g hx;simp only[Bg,Qa]at ba;subst ba;obtain⟨rfl,rfl⟩:=ha;exact wp_ret ⟨rfl,g,hx,Hr.refl w g,EO.refl _ _ _⟩
 |exit i=>
  intro dc ba k e fa ha a w g hx;simp only[Bg,Qa]at ba;subst ba;obtain⟨rfl,rfl⟩:=ha;exact wp_exit ⟨rfl,g,hx,Hr.refl w g,EO.refl _ _ _⟩
 |region id ops oa=>
  intro dc ba k e fa ha a w g hx;cases oa with
  |false=>
   simp only[Bg,Qb]at ba;obtain⟨da,ea,rfl⟩:=ba;obtain⟨rfl,he,hc⟩:=ha;rw[IW,IY S ns k.c da da 0 _ _ rfl,←QR]at he;refine uH hS ea he hx (λa' w' g' h1 h2 h3=>⟨rfl,g',?_,h2,h3⟩);unfold Holds;rw[hc,QZ];exact h1
  |true=>
   simp only[Bg]at ba;obtain⟨da,aa,ea,hb,hs,ka,rfl⟩:=MN ba;obtain⟨rfl,⟨f,he,hf⟩,hc⟩:=ha;rw[GW]at he;refine wp_region_draw (λt=>?_);obtain⟨g1,g2⟩:=LN ea hb ka (P.follows .mixedOrders) t;have p:=PQ (c:=k.c) (ns:=ns) hS hb hs he hf g1 g2;have pa:InS P B w0 N ns k.c k.s k.m a w.drew g:=⟨hx.inv.drew,λt=>(hx.slots t).ext (Hr.drew w g),hx.size,hx.defers,hx.fresh⟩;refine E0 hS ea _ (λ_=>false) k.s k.m a w.drew g fa.s fa.m (NY g1) p (pa.start _) (λa' w' g' h1 h2 h3=>⟨rfl,g',?_,(Hr.drew w g).trans h2,h3⟩);unfold Holds;rw[hc,QZ];rw[g2]at h1;exact h1.done
 |seq x y z sa=>
  intro dc ba k e fa ha a w g hx;simp only[Bg]at ba;split at ba
  ·rename_i dx dy h1 h2;simp only[Qa]at ba;subst ba;obtain⟨e1,st1,d,q⟩:=ha;have za:=z dx h1 k e1 st1 d a w g hx;refine wp_seq (wp_mono za ?_);rintro e' a' w' ⟨rfl,g',hh,b,ja⟩;rcases q with ⟨rfl,v⟩|⟨ga,rfl,rfl⟩
   ·exact wp_mono (sa dy h2 st1 e fa v a' w' g' hh) (λya va ma h=>h.trans b ja)
   ·cases e with
    |normal=>exact absurd rfl ga
    |ret=>exact⟨rfl,g',hh,b,ja⟩
    |exit i=>exact⟨rfl,g',hh,b,ja⟩
  ·cases ba
 |cond c x y z sa=>
  intro dc ba k e fa ha a w g hx;simp only[Bg]at ba;split at ba
  ·rename_i o dx dy h0 h1 h2;simp only[Qa]at ba;subst ba;have hc:=hx.slots.arg h0;rcases ha with ⟨ht,ha⟩|⟨ht,ha⟩
   ·rw[ht]at hc;exact wp_cond_true hc.bool_inv (z dx h1 k e fa ha a w g hx)
   ·rw[ht]at hc;exact wp_cond_false hc.bool_inv (sa dy h2 k e fa ha a w g hx)
  ·cases ba
 |block i c ih=>
  intro dc ba k e fa ha a w g hx;simp only[Bg,Qb]at ba;obtain⟨o,h1,rfl⟩:=ba;obtain⟨e1,d,q⟩:=ha;refine wp_block (wp_mono (ih o h1 k e1 fa d a w g hx) ?_);rintro e' a' w' ⟨rfl,g',hh,b,ja⟩;rcases q with ⟨rfl,rfl⟩|⟨ga,rfl⟩
  ·simp only[Ex.toExit,Exit.inBlock,if_true];exact⟨rfl,g',hh,b,ja⟩
  ·cases e with
   |normal=>exact⟨rfl,g',hh,b,ja⟩
   |ret=>exact⟨rfl,g',hh,b,ja⟩
   |exit j=>
    simp only[Ex.toExit,Exit.inBlock];rw[if_neg (λe=>ga (by rw[e]))];exact⟨rfl,g',hh,b,ja⟩
 |loop c ih=>
  intro dc ba k e fa ha a w g hx;simp only[Bg,Qb]at ba;obtain⟨o,h1,rfl⟩:=ba;obtain⟨n,xa⟩:=ha;refine SR (λn a' w'=>∃st1 g1,Holds P B w0 N ns st1 a' w' g1∧Hr w g w' g1∧EO ns k.m g st1.m g1∧Lp (Ev S ns o) n st1 e fa) ?_ ⟨k,g,hx,Hr.refl w g,EO.refl _ _ _,xa⟩;rintro n a1 w1 ⟨st1,g1,hh,b,ja,r⟩;cases r with
  |stop _ _ _ hr ga=>
   refine wp_mono (ih o h1 st1 e fa hr a1 w1 g1 hh) ?_;rintro e' a' w' hp;have wa:=hp.trans b ja;obtain⟨rfl,_⟩:=hp;cases e with
   |normal=>exact absurd rfl ga
   |ret=>exact wa
   |exit i=>exact wa
  |more n' _ la _ _ hr qa=>
   refine wp_mono (ih o h1 st1 .normal la hr a1 w1 g1 hh) ?_;rintro e' a' w' ⟨rfl,g',ta,u,na⟩;exact⟨n',Nat.lt_succ_self _,la,g',ta,b.trans u,ja.trans na,qa⟩
 |_=>
  intro dc ba;simp[Bg]at ba
end
def LA{xs:List D}(h:∀d∈xs,d.calm=true):∀x∈flat xs,x.calm=true:=by
 induction xs with
 |nil=>intro x hx;cases hx
 |cons d r ih=>
  intro x hx;simp only[flat,Qg]at hx;rcases hx with hx|hx
  ·exact Mk (h d (Qn ..)) x hx
  ·exact ih (λd p=>h d (Qq _ p)) x hx
def Nh{cs:List D}(h:(D.agg cs).calm=true):∀x∈cs,x.calm=true:=Mk h
def Rep.calm_to{w w':World}{g g':Gh}{d:D}{v:Value}(h:Rep w g d v)(z:d.calm=true)(ka:∀p:Addr,p.off<g.G p.block->w'.cell? p=w.cell? p)(hG:∀b,g.G b<=g'.G b):Rep w' g' d v:=by
 induction h with
 |junk v=>exact .junk v
 |bool b=>exact .bool b
 |int k n=>exact .int k n
 |str s=>exact .str s
 |nils t=>exact .nils t
 |slice t xs a n c sz vv u y x e h5 h6 h7 h8 h9 ih=>
  have ht:t=[]:=XO
  subst ht;refine .slice [] xs a n c sz vv u y x (λj q=>?_) h5 (λj d hd=>ih j d hd (LA h9 d (Qr hd))) (λh=>QA (h7 h) (hG _)) (λh=>absurd rfl h) h9;rw[ka _ YS];exact e j q
 |ptr i o b u=>simp[D.calm,D.calm1]at z
 |row i n c b m u=>simp[D.calm,D.calm1]at z
 |eptr ds a vv u y x e h5 ih=>
  refine .eptr ds a vv (λj q=>?_) y (λj d hd=>ih j d hd (h5 d (Qr hd))) (λh=>QA (e h) (hG _)) h5;rw[ka _ YT];exact u j q
 |nilp=>exact .nilp
 |agg ds vs u y x ih=>exact .agg ds vs u y (λj d v hd r=>ih j d v hd r (Nh z d (Qr hd)))
 |tup ds vs u y ih=>simp[D.calm,D.calm1]at z
 |iface t d v u y ih=>exact .iface t d v u (ih u)
 |nili=>exact .nili
 |fn f ds vs u y ih=>
  have:ds=[]:=XO
  subst this;exact .fn f [] vs u U
 |nilf=>exact .nilf
 |nilm=>exact .nilm
 |itp i b u=>simp[D.calm,D.calm1]at z
def D.unR:D->D
 | .tup vs=> .tup (vs.map D.un)
 |d=>d.un
def D.calmR:D->Bool
 | .tup vs=>vs.all D.calm
 |d=>d.calm
def Rep.unR{w:World}{g:Gh}{d:D}{v:Value}(h:Rep w g d v):Rep w g d.unR v:=by
 cases d with
 |tup vs=>
  obtain⟨us,rfl,u,y⟩:=h.tup_inv;refine .tup _ us (by simp[u]) (λj d v p m=>?_);rw[Qj,Qb]at p;obtain⟨n,e,rfl⟩:=p;exact(y j n v e m).un
 |_=>exact h.un
def Rep.calmR_to{w k:World}{g q:Gh}{d:D}{v:Value}(h:Rep w g d v)(z:d.calmR=true)(c:∀p:Addr,p.off<g.G p.block->k.cell? p=w.cell? p)(a:∀b,g.G b<=q.G b):Rep k q d v:=by
 cases d with
 |tup vs=>
  obtain⟨us,rfl,u,y⟩:=h.tup_inv;exact .tup _ us u (λj d v s m=>(y j d v s m).calm_to (Qy.1 z d (Qr s)) c a)
 |_=>exact h.calm_to z c a
inductive RV where
 |t (n:Nat)
 |cell (k:Option Nat) (n:Nat)
def cX(m:Ha)(k:Option Nat):D->Option D
 | .ptr i o=>match k with
  |none=>m i o
  |some n=>(Ag m i o n).map .agg
 |_=>none
def RV.of(s:Nat->D)(m:Ha):RV->Option D
 | .t n=>some (s n)
 | .cell k n=>cX m k (s n)
def H9(s:Nat->D)(m:Ha):List RV->Option (List D)
 |[]=>some []
 |r::l=>match r.of s m,H9 s m l with
  |some d,some ds=>some (d::ds)
  |_,_=>none
def C_(rs:List RV)(s:Nat->D)(m:Ha):Option D:=
 match H9 s m rs with
 |some [d]=>some d
 |some ds=>some (.tup ds)
 |none=>none
def LM(P:Program):List ResultVar->Option (List RV)
 |[]=>some []
 | .tmp t::r=>(LM P r).map (.t t::·)
 | .cell a t::r=>match pL P t,LM P r with
  |some k,some l=>some (.cell k a::l)
  |_,_=>none
section
variable{P:Program}{B:Nat}{w0 w w':World}{m:Ha}{g:Gh}{s:Nat->D}{a:Act}
def WL(tmps:Array Value):ResultVar->Sem Value
 | .tmp t=>pure (tmps.getD t undef)
 | .cell a t=>do loadVar t (←asAddr (tmps.getD a undef))
def On(hi:Hi P B w0 m w g)(hs:Dg w g s a):∀{p:List ResultVar} {rs:List RV} {ds:List D},LM P p=some rs->H9 s m rs=some ds->
  ∃vs:List Value,(p.mapM (m:=Sem) (WL a.tmps)).run P w= .ok vs w∧vs.length=ds.length∧∀(j:Nat) d v,ds[j]?=some d->vs[j]?=some v->Rep w g d v
 |[],rs,ds,h1,h2=>by
  simp only[LM,Qa]at h1;subst h1;simp only[H9,Qa]at h2;subst h2;exact⟨[],U,rfl,U⟩
 |x::r,rs,ds,h1,h2=>by
  have z:∃rv h,rs=rv::h∧LM P r=some h∧∀d,rv.of s m=some d->∃v,(WL a.tmps x).run P w= .ok v w∧Rep w g d v:=by
   cases x with
   |tmp t=>
    simp only[LM,Qb]at h1;obtain⟨l,hl,rfl⟩:=h1;refine⟨.t t,l,rfl,hl,λd hd=>?_⟩;simp only[RV.of,Qa]at hd;subst hd;exact⟨_,rfl,hs t⟩
   |cell y t=>
    simp only[LM]at h1;split at h1
    ·rename_i k l hk hl;simp only[Qa]at h1;subst h1;refine⟨.cell k y,l,rfl,hl,λd hd=>?_⟩;simp only[RV.of]at hd;unfold cX at hd;split at hd
     ·rename_i i o e;have hr:=hs y;rw[e]at hr;obtain⟨b,e1,hb⟩:=hr.ptr_inv;split at hd
      ·obtain⟨v,c1,c2,c3⟩:=hi.cell hb hd;exact⟨v,by simp[WL,e1,asAddr,D_ hk c1],c3⟩
      ·rename_i n;rw[Qb]at hd;obtain⟨ds,f,rfl⟩:=hd;obtain⟨vs,c1,c2⟩:=hi.cells hb f;have hl:=(BE f).1;have:=Ey (P:=P) (w:=w) hk (ad:=⟨b,o,none⟩) (vs:=vs) (by rw[c1.1,hl]) (λj v hv=>by rw[FV];exact c2 j v hv);exact⟨_,by simp[WL,e1,asAddr,this],aJ c1⟩
     ·cases hd
    ·cases h1
  obtain⟨rv,h,rfl,hl,q⟩:=z;unfold H9 at h2;split at h2
  ·rename_i d c e1 e2;simp only[Qa]at h2;subst h2;obtain⟨v,u,q2⟩:=q d e1;obtain⟨vs,p1,p2,p3⟩:=On hi hs hl e2;refine⟨v::vs,?_,by simp[p2],λj d v hd hv=>?_⟩
   ·simp_all
   ·grind
  ·cases h2
def WZ{k:Func}{rs:List RV}{d:D}(hi:Hi P B w0 m w g)(i:Dg w g s a)(z:LM P k.results.toList=some rs)(p:C_ rs s m=some d):
  ∃v,(results k a.tmps).run P w= .ok v w∧Rep w g d v:=by
 unfold C_ at p;have run:∀ds,H9 s m rs=some ds->∃vs:List Value,(results k a.tmps).run P w= .ok (if h:vs.toArray.size=1 then vs.toArray[0]else .tuple vs.toArray) w∧vs.length=ds.length∧∀(j:Nat) d v,ds[j]?=some d->vs[j]?=some v->Rep w g d v:=by
  intro ds f;obtain⟨vs,q,o,c⟩:=On hi i z f;refine⟨vs,?_,o,c⟩;have b:results k a.tmps=(do
   let vs ←k.results.mapM (WL a.tmps)
   pure (if h:vs.size=1 then vs[0]else .tuple vs)):=by
   unfold results;congr 1
  rw[b];simp only[Sem.run_bind];rw[Zc,Sem.run_map,q];rfl
 split at p
 ·rename_i n e;simp only[Qa]at p;subst p;obtain⟨vs,q,o,c⟩:=run _ e
  match vs,o with
  |[v],_=>exact⟨v,q,c 0 _ v rfl rfl⟩
 ·rename_i ds t e;simp only[Qa]at p;subst p;obtain⟨vs,q,o,c⟩:=run _ e;refine⟨.tuple vs.toArray,?_,.tup ds vs o c⟩;rw[q,dif_neg];intro u
  match ds,t,o with
  |[],_,o=>simp at o;subst o;simp at u
  |[x],t,_=>exact t x rfl
  |x::y::r,_,o=>simp at o u;omega
 ·cases p
def Hi.less(h:Hi P B w0 m w g){m':Ha}(ta:∀i o d,m' i o=some d->m i o=some d):Hi P B w0 m' w g:=by
 refine⟨h.below,h.size,h.gz,h.old,λi b hi=>?_,h.inj,λi o d j c=>h.kind i o d (ta _ _ _ j) c,λi e hi=>h.tok i e (ta _ _ _ hi),λk t n v b y y' u f x h4=>h.tinj k t n v b y y' (ta _ _ _ u) (ta _ _ _ f) x h4,h.itr.to (λi s p e=>ta _ _ _ e) λi b s p _ _ _ n v a=>⟨rfl,rfl,v,a⟩⟩;obtain⟨p,q,vs,T,z,r⟩:=h.obj i b hi;exact⟨p,q,vs,T,z,λo d j=>r o d (ta _ _ _ j)⟩
def Gh.glue(g:Gh)(w:World)(G':Nat->Nat):Gh:={g with G:=λb=>if b<w.heap.size then g.G b else G' b}
def Hr.glue{G':Nat->Nat}(j:∀b,w.heap.size<=b->g.G b=0)(f:Below w.heap.size w w'):Hr w g w' (g.glue w G'):=by
 refine⟨λp c=>?_,λb=>?_,λi b h=>h,rfl,λi x h=>h,f.size,λi _ h=> .inl ⟨i,h⟩,λi x h=> .inl ⟨i,x,h,rfl⟩,λk o s _ _=>(f.block k (Qe.1 s).1).trans s⟩
 ·by_cases u:p.block<w.heap.size
  ·exact f.cell u
  ·simp_all
 ·grind [Gh.glue]
def Hi.glue(h:Hi P B w0 m w g)(f:Below w.heap.size w w'){G':Nat->Nat}(z:∀b,w'.heap.size<=b->G' b=0):Hi P B w0 m w' (g.glue w G'):=by
 have x:=Hr.glue (G':=G') h.gz f;refine⟨h.below.trans (f.mono h.size),QA h.size f.size,λb a=>?_,λb u=>by simp only[Gh.glue];rw[if_pos (QO u h.size)];exact h.old b u,λi b hi=>?_,h.inj,h.kind,λi e hi=>?_,h.tinj,h.itr.to (λ_ _ _ e=>e) λi b s p _ _ _ t y e3=>?_⟩
 rotate_right
 ·have u:b<w.heap.size:=(Qe.1 t).1;exact⟨rfl,f.block b u,by simp[Gh.glue,u,y],e3⟩
 ·simp only[Gh.glue];rw[if_neg (by have:=f.size;omega)];exact z b a
 ·obtain⟨p,q,vs,T,k,r⟩:=h.obj i b hi;have u:=h.lt hi;refine⟨p,by simp[Gh.glue,u,q],vs,T,(f.block b u).trans k,λo d j=>?_⟩;obtain⟨v,r1,r2,r3⟩:=r o d j;exact⟨v,r1,r2,r3.ext x⟩
 ·obtain⟨b,n,c,sz,cur,t1,t2,t3,t4,t5,t6,t7,t8,t9,ya⟩:=h.tok i e hi;have u:b<w.heap.size:=(Qe.1 t5).1;exact⟨b,n,c,sz,cur,t1,t2,t3,t4,(f.block b u).trans t5,t6,t7,t8,by simp[Gh.glue,u,t9],ya⟩
end
structure Fn (P:Program) (f:FuncId) (N:Nat) (dc:DC) (rs:List RV):Prop where
 is:∃fn code,P.funcs[f]?=some fn∧fn.body=some code∧(fn.name== "runtime.NumGoroutine")=false∧fn.ntmps=N∧Bg P N code=some dc∧LM P fn.results.toList=some rs
def BI(ds:List D):Nat->D:=λt=>ds.getD t .junk
def Ac(F:List D->Option D):HF where
 rd:=λ_ _=>[]
 ex:=λds _ _=>if(ds.map D.un).all D.calm=true then(F (ds.map D.un)).map λr=>(r,[])else none
def Ea(rs:List RV)(R:D->Ha->Prop)(e:Ex)(v:St):Prop:=(e= .normal∨e= .ret)∧∃d,C_ rs v.s v.m=some d∧R d v.m
section
variable{P:Program}{S:G8}{f:FuncId}{N:Nat}{dc:DC}{rs:List RV}
def GE{B:Nat}{w0 w:World}{g:Gh}{ns:Id}{m:Ha}{ds:List D}{vs:List Value}(hS:G8.ok P S)(hf:Fn P f N dc rs)(hN:ds.length<=N)(hi:Hi P B w0 m w g)
  (ia:∀k i,(k::ns)<:+i->B0 m g i) (hl:vs.length=ds.length) (b:∀(j:Nat) d v,ds[j]?=some d->vs[j]?=some v->Rep w g d v) {R:D->Ha->Prop}
  (za:dc.wp S ns (Ea rs R) ⟨BI ds,m,0⟩):
  Calls P f vs.toArray w λe c=>∃v d m' g',e= .returned v∧Hi P B w0 m' c g'∧Hr w g c g'∧EO ns m g m' g'∧Rep c g' d v∧R d m':=by
 obtain⟨fn,ca,u,y,h3,h4,h5,h6⟩:=hf.is;obtain⟨e,r,x,a,d,p,hR⟩:=za;refine calls_of_wp u y ?_;rw[h4];have la:Holds P B w0 N ns ⟨BI ds,m,0⟩ {tmps:=vs.toArray++Q9 (N-vs.toArray.size) undef,defers:=[]} w g:=by
  refine⟨hi,λt=>?_,Xb,rfl,λk i _ z=>ia k i z⟩;simp only[BI];by_cases ht:t<ds.length
  ·have e1:ds.getD t .junk=ds[t]:=by simp[Q0,ht]
   have e2:(vs.toArray++Q9 (N-vs.toArray.size) undef).getD t undef=vs[t]' O:=by
    rw[Qh,QI Xb];simp[hl,ht]
   rw[e1,e2];exact b t _ _ (Qc ht) (Qc _)
  ·have e1:ds.getD t .junk= .junk:=by simp[Q0,Qk (Nat.le_of_not_lt ht)]
   rw[e1];exact .junk _
 refine wp_mono (aCo hS ca dc h5 _ e r x _ w g la) ?_;rintro e' a' c ⟨rfl,g',hh,q,s⟩;obtain⟨v,l,n⟩:=WZ hh.inv hh.slots h6 p;have o:a'.defers=[]∧∃v,(results fn a'.tmps).run P c= .ok v c∧∃v' d m' g',Ending.returned v= .returned v'∧Hi P B w0 m' c g'∧Hr w g c g'∧EO ns m g m' g'∧Rep c g' d v'∧R d m':=
  ⟨hh.defers,v,l,v,d,r.m,g',rfl,hh.inv,q,s,n,hR⟩
 rcases a with rfl|rfl
 ·exact o
 ·exact o
def AN(hS:G8.ok P S)(hf:Fn P f N dc rs){F:List D->Option D}(hN:∀ds r,F ds=some r->ds.length<=N)
  (hF:∀ds r,F ds=some r->dc.wp S [] (Ea rs λd _=>d.unR=r∧r.calmR=true) ⟨BI ds,λ_ _=>none,0⟩):(Ac F).ok P f:=by
 obtain⟨fn,ca,q,y,h3,h4,h5,h6⟩:=hf.is;refine⟨⟨fn,q,Xu,h3⟩,λds m m' fr _=>rfl,?_⟩;intro B w0 w m g fr ds vs r u hi ia hl ea z;simp only[Ac]at z;split at z
 ·rename_i t;rw[Qb]at z;obtain⟨r',hr,z⟩:=z;simp only[Qd]at z;obtain⟨rfl,rfl⟩:=z
  let g0:Gh:={G:=g.G,G0:=g.G,dl:=λ_=>none,tb:=λ_=>none}
  have va:Hi P w.heap.size w (λ_ _=>none) w g0:=
   ⟨Below.refl _ _,Qi _,hi.gz,λ_ _=>rfl,λi b h=>by simp[g0]at h,λi i' b h=>by simp[g0]at h,λi o d h=>Xd,λi e h=>Xd,λi i' e e' b x x' h=>Xd,λi s p h=>Xd,λi i' s p s' p' b x x' h=>Xd⟩
  have ba:∀(j:Nat) d v,(ds.map D.un)[j]?=some d->vs[j]?=some v->Rep w g0 d v:=by
   intro j d v hd hv;have hc:=Qy.1 t d (Qr hd);rw[Qj,Qb]at hd;obtain⟨d',ra,rfl⟩:=hd;exact(ea j d' v ra hv).un.calm_to hc (λ_ _=>rfl) (λ_=>Qi _)
  have ja:=GE (B:=w.heap.size) (w0:=w) (w:=w) (g:=g0) (ns:=[]) (m:=λ_ _=>none) (ds:=ds.map D.un) (vs:=vs) hS hf (hN _ _ hr) va (λk i _=>⟨λ_=>rfl,rfl,rfl⟩) Xj ba (hF _ _ hr);refine ja.mono ?_;rintro e c ⟨v,d,m',g',rfl,fa,ma,_,ab,rfl,ta⟩;have a:∀b,(g.glue w g'.G).G b=g'.G b:=by
   intro b;simp only[Gh.glue];split
   ·rename_i n;rw[fa.old b n,ma.G0]
   ·rfl
  refine⟨v,g.glue w g'.G,rfl,hi.glue fa.below fa.gz,Hr.glue hi.gz fa.below,?_,λi hf _=>hf⟩;exact ab.unR.calmR_to ta (λ_ _=>rfl) (λb=>by rw[a];exact Qi _)
 ·cases z
def NK(hS:G8.ok P S)(n:Fn P f N dc rs){q:HF}(z:∀ds m m' fr,(∀l∈q.rd ds m,m l.1 l.2=m' l.1 l.2)->q.ex ds m fr=q.ex ds m' fr)
  (hq:∀ds m fr r u,q.ex ds m fr=some (r,u)->(∀k i o,(k::fr)<:+i->m i o=none)->ds.length<=N∧dc.wp S fr (Ea rs λd m'=>d=r∧∀i o x,Hf.app m u i o=some x->m' i o=some x) ⟨BI ds,m,0⟩):q.ok P f:=by
 obtain⟨fn,ca,t,y,a,h4,h5,h6⟩:=n.is;refine⟨⟨fn,t,Xu,a⟩,z,?_⟩;intro B w0 w m g fr ds vs r u hi ia hl b p;have j:∀k i,(k::fr)<:+i->B0 m g i:=λk i h=>ia i ((ZD k fr).trans h)
 obtain⟨hN,za⟩:=hq ds m fr r u p (λk i o h=>(j k i h).1 o);have s:=GE (ns:=fr) hS n hN hi j hl b za;refine s.mono ?_;rintro e w' ⟨v,d,m',g',rfl,fa,ma,xa,ab,rfl,ta⟩;refine⟨v,g',rfl,fa.less ta,ma,ab,λi n c=>?_⟩;obtain⟨k1,k2,k3⟩:=xa i n c;refine⟨λo=>?_,k2,k3⟩;cases hx:Hf.app m u i o with
 |none=>rfl
 |some x=>exact absurd (k1 o) (by rw[ta i o x hx];simp)
end
inductive Tag.{u} {α:Sort u} (a:α):Type
 |mk
def Au(p K:Prop)(_:Tag K):Prop:=p∧K
def OT(p A B:Prop)(_:Tag (A,B)):Prop:=(p->A)∧(¬p->B)
def Hq{α:Type}(o:Option α)(K:α->Prop)(_:Tag K):Prop:=∃x,o=some x∧K x
def Au.intro{p K:Prop}{t:Tag K}(h:p)(k:K):Au p K t:=⟨h,k⟩
def aF{p A B:Prop}{t:Tag (A,B)}(h:p->A)(k:¬p->B):OT p A B t:=⟨h,k⟩
def aH{α:Type}{o:Option α}{K:α->Prop}{t:Tag K}{x:α}(h:o=some x)(k:K x):Hq o K t:=⟨x,h,k⟩
def Ug{K:Prop}{t:Tag K}:Au True K t=K:=by simp[Au]
def aB1{A B:Prop}{t:Tag (A,B)}:OT True A B t=A:=by simp[OT]
def uW{A B:Prop}{t:Tag (A,B)}:OT False A B t=B:=by simp[OT]
theorem A6{α:Type}{x:α}{K:α->Prop}{t:Tag K}:Hq (some x) K t=K x:=by simp[Hq]
def AS{α:Type}{K:α->Prop}{t:Tag K}:Hq none K t=False:=by simp[Hq]
def CE{α β:Type}{o:Option α}{f:α->β}{K:β->Prop}{t:Tag K}:Hq (o.map f) K t=Hq o (λx=>K (f x)) .mk:=by
 cases o<;>simp[Hq]
def EB{α:Type}{p:Prop}[Decidable p]{o:Option α}{K:α->Prop}{t:Tag K}:Hq (if p then o else none) K t=Au p (Hq o K .mk) .mk:=by
 grind [Hq,Au]
def FS{α:Type}{p:Prop}[Decidable p]{x:α}{K:α->Prop}{t:Tag K}:Hq (if p then some x else none) K t=Au p (K x) .mk:=by
 grind [Hq,Au]
def aJi{α:Type}{p:Prop}[Decidable p]{o o':Option α}{K:α->Prop}{t:Tag K}:Hq (if p then o else o') K t=OT p (Hq o K .mk) (Hq o' K .mk) .mk:=by
 grind [Hq,OT]
def L6:D->Bool->(A B:Prop)->Tag (A,B)->Prop
 | .bool b',b,A,B,_=>OT (b'=b) A B .mk
 | .tup [],_,_,B,_=>B
 |_,_,_,_,_=>False
def Ru{d:D}{b:Bool}{A B:Prop}{t:Tag (A,B)}(h:L6 d b A B t):(∃r,d= .bool r∧OT (r=b) A B .mk)∨(d= .tup []∧B):=by
 cases d with
 |bool r=>exact .inl ⟨r,rfl,h⟩
 |tup l=>cases l with
  |nil=>exact .inr ⟨rfl,h⟩
  |cons _ _=>exact h.elim
 |_=>exact h.elim
def kS{b:Bool}{A B:Prop}{t:Tag (A,B)}:L6 (.tup []) b A B t=B:=rfl
def IS{r b:Bool}{A B:Prop}{t:Tag (A,B)}:L6 (.bool r) b A B t=OT (r=b) A B .mk:=rfl
def DD(ops:List DOper)(j:Nat):Option Nat:=(ops[j]?).bind (·.dst)
def GT(s:Nat->D):Option Nat->D
 |some t=>s t
 |none=> .junk
def CL(s:Nat->D)(t:Nat):GT s (some t)=s t:=rfl
def AA(S:G8)(s:Nat->D)(m:Ha)(fr:Id)(op:DOp)(K:D->Hf->Prop):Prop:=Hq (Ax S s m fr op) (λx=>K x.1 x.2) .mk
def Gb(S:G8)(ns:Id)(c:Nat)(ops:List DOper):List DOper->Nat->(Nat->D)->Ha->(Nat->(Nat->D)->Ha->Prop)->Prop
 |[],k,s,m,K=>K k s m
 |⟨dst,op,_,none⟩::l,k,s,m,K=>AA S s m ((c+k)::ns) op λd u=>Gb S ns c ops l (k+1) (Cq s dst d) (Hf.app m u) K
 |⟨dst,op,_,some (j,b)⟩::l,k,s,m,K=>L6 (GT s (DD ops j)) b
   (AA S s m ((c+k)::ns) op λd u=>Gb S ns c ops l (k+1) (Cq s dst d) (Hf.app m u) K)
   (Gb S ns c ops l (k+1) (Cq s dst (.tup [])) m K) .mk
section
variable{S:G8}{ns:Id}
def E5{c:Nat}{ops:List DOper}{K:Nat->(Nat->D)->Ha->Prop}:∀(l:List DOper)(k:Nat)(s:Nat->D)(m:Ha),Gb S ns c ops l k s m K->∃v m',Es S ns c ops l k s m=some (v,m')∧K (k+l.length) v m'
 |[],k,s,m,h=>⟨s,m,rfl,h⟩
 |⟨dst,op,af,none⟩::l,k,s,m,h=>by
  simp only[Gb,AA,Hq]at h;obtain⟨⟨d,u⟩,z,h⟩:=h;obtain⟨v,m',q,y⟩:=E5 l _ _ _ h;refine⟨v,m',?_,Xx⟩;simp only[Es,BP,By,z];exact q
 |⟨dst,op,af,some (j,b)⟩::l,k,s,m,h=>by
  simp only[Gb]at h;rcases Ru h with ⟨r,e,h⟩|⟨e,h⟩
  rotate_left
  ·have a:By ops s ⟨dst,op,af,some (j,b)⟩=some false:=by
    unfold By;simp only;unfold DD at e;cases ho:(ops[j]?).bind (·.dst)with
    |none=>rw[ho]at e;simp[GT]at e
    |some t=>rw[ho,CL]at e;simp only[e]
   obtain⟨v,m',q,y⟩:=E5 l _ _ _ h;refine⟨v,m',?_,Xx⟩;simp only[Es,BP,a];exact q
  ·have a:By ops s ⟨dst,op,af,some (j,b)⟩=some (r==b):=by
    unfold By;simp only;unfold DD at e;cases ho:(ops[j]?).bind (·.dst)with
    |none=>rw[ho]at e;simp[GT]at e
    |some t=>rw[ho,CL]at e;simp only[e]
   by_cases o:r=b
   ·have h:=h.1 o;simp only[AA,Hq]at h;obtain⟨⟨d,u⟩,z,h⟩:=h;obtain⟨v,m',q,y⟩:=E5 l _ _ _ h;refine⟨v,m',?_,Xx⟩;simp only[Es,BP,a,o,z,beq_self_eq_true];exact q
   ·have h:=h.2 o;obtain⟨v,m',q,y⟩:=E5 l _ _ _ h;refine⟨v,m',?_,Xx⟩;have:(r==b)=false:=by simpa using o
    simp only[Es,BP,a,this];exact q
def Db{c:Nat}{ops:List DOper}{K:Nat->(Nat->D)->Ha->Prop}:∀(l:List DOper)(k:Nat)(s:Nat->D)(m:Ha)(v:Nat->D)(m':Ha),Es S ns c ops l k s m=some (v,m')->K (k+l.length) v m'->Gb S ns c ops l k s m K
 |[],k,s,m,v,m',h,hk=>by
  simp only[Es,Qa,Qd]at h;obtain⟨rfl,rfl⟩:=h;exact hk
 |⟨dst,op,af,none⟩::l,k,s,m,v,m',h,hk=>by
  rw[Qo,show k+(l.length+1)=k+1+l.length by omega]at hk;simp only[Es,BP,By]at h;simp only[Gb,AA];cases he:Ax S s m ((c+k)::ns) op with
  |none=>rw[he]at h;cases h
  |some x=>rw[he]at h;exact⟨x,rfl,Db l _ _ _ _ _ h hk⟩
 |⟨dst,op,af,some (j,b)⟩::l,k,s,m,v,m',h,hk=>by
  rw[Qo,show k+(l.length+1)=k+1+l.length by omega]at hk;simp only[Es,BP,By]at h;simp only[Gb];unfold DD;cases ho:(ops[j]?).bind (·.dst)with
  |none=>rw[ho]at h;cases h
  |some t=>
   rw[ho]at h;rw[CL];simp only at h;cases hd:s t with
   |bool r=>
    rw[hd]at h;simp only at h;rw[IS];refine⟨λo=>?_,λo=>?_⟩
    ·subst o;simp only[beq_self_eq_true]at h;cases he:Ax S s m ((c+k)::ns) op with
     |none=>rw[he]at h;cases h
     |some x=>rw[he]at h;exact⟨x,he,Db l _ _ _ _ _ h hk⟩
    ·have:(r==b)=false:=by simpa using o
     rw[this]at h;exact Db l _ _ _ _ _ h hk
   |tup w=>
    rw[hd]at h;cases w with
    |nil=>exact Db l _ _ _ _ _ h hk
    |cons _ _=>cases h
   |_=>rw[hd]at h;cases h
def Ci(S:G8)(ns:Id)(c:Nat)(ops:List DOper):List DOper->Nat->(Nat->D)->Ha->(Nat->(Nat->D)->Ha->List Mm->Prop)->Prop
 |[],k,s,m,K=>K k s m []
 |⟨dst,op,_,none⟩::l,k,s,m,K=>AA S s m ((c+k)::ns) op λd u=>Ci S ns c ops l (k+1) (Cq s dst d) (Hf.app m u) λw v m' f=>K w v m' ((Hu S s m op,AF u)::f)
 |⟨dst,op,_,some (j,b)⟩::l,k,s,m,K=>L6 (GT s (DD ops j)) b
   (AA S s m ((c+k)::ns) op λd u=>Ci S ns c ops l (k+1) (Cq s dst d) (Hf.app m u) λw v m' f=>K w v m' ((Hu S s m op,AF u)::f))
   (Ci S ns c ops l (k+1) (Cq s dst (.tup [])) m λw v m' f=>K w v m' ((Hu S s m op,[])::f)) .mk
def DO{c:Nat}{ops:List DOper}:∀(l:List DOper)(k:Nat)(s:Nat->D)(m:Ha)(K:Nat->(Nat->D)->Ha->List Mm->Prop),Ci S ns c ops l k s m K->∃v m' f,Ch S ns c ops l k s m=some (v,m',f)∧K (k+l.length) v m' f
 |[],k,s,m,K,h=>⟨s,m,[],rfl,h⟩
 |⟨dst,op,af,none⟩::l,k,s,m,K,h=>by
  simp only[Ci,AA,Hq]at h;obtain⟨⟨d,u⟩,z,h⟩:=h;obtain⟨v,m',f,q,y⟩:=DO l _ _ _ _ h;refine⟨v,m',_,?_,Xx⟩;simp only[Ch,BP,By,z,q]
 |⟨dst,op,af,some (j,b)⟩::l,k,s,m,K,h=>by
  simp only[Ci]at h;rcases Ru h with ⟨r,e,h⟩|⟨e,h⟩
  rotate_left
  ·have a:By ops s ⟨dst,op,af,some (j,b)⟩=some false:=by
    unfold By;simp only;unfold DD at e;cases ho:(ops[j]?).bind (·.dst)with
    |none=>rw[ho]at e;simp[GT]at e
    |some t=>rw[ho,CL]at e;simp only[e]
   obtain⟨v,m',f,q,y⟩:=DO l _ _ _ _ h;refine⟨v,m',_,?_,Xx⟩;simp only[Ch,BP,a,Hf.app,q];simp[AF]
  ·have a:By ops s ⟨dst,op,af,some (j,b)⟩=some (r==b):=by
    unfold By;simp only;unfold DD at e;cases ho:(ops[j]?).bind (·.dst)with
    |none=>rw[ho]at e;simp[GT]at e
    |some t=>rw[ho,CL]at e;simp only[e]
   by_cases o:r=b
   ·have h:=h.1 o;simp only[AA,Hq]at h;obtain⟨⟨d,u⟩,z,h⟩:=h;obtain⟨v,m',f,q,y⟩:=DO l _ _ _ _ h;refine⟨v,m',_,?_,Xx⟩;simp only[Ch,BP,a,o,z,beq_self_eq_true,q]
   ·have h:=h.2 o;obtain⟨v,m',f,q,y⟩:=DO l _ _ _ _ h;refine⟨v,m',_,?_,Xx⟩;have:(r==b)=false:=by simpa using o
    simp only[Ch,BP,a,this,Hf.app,q];simp[AF]
def Cs{c:Nat}{ops:List DOper}:∀(l:List DOper)(k:Nat)(s:Nat->D)(m:Ha)(K:Nat->(Nat->D)->Ha->List Mm->Prop)(v:Nat->D)(m':Ha)(f:List Mm),Ch S ns c ops l k s m=some (v,m',f)->K (k+l.length) v m' f->Ci S ns c ops l k s m K
 |[],k,s,m,K,v,m',f,h,hk=>by
  simp only[Ch,Qa,Qd]at h;obtain⟨rfl,rfl,rfl⟩:=h;exact hk
 |⟨dst,op,af,none⟩::l,k,s,m,K,v,m',f,h,hk=>by
  rw[Qo,show k+(l.length+1)=k+1+l.length by omega]at hk;simp only[Ch,BP,By]at h;simp only[Ci,AA];cases he:Ax S s m ((c+k)::ns) op with
  |none=>rw[he]at h;cases h
  |some x=>
   rw[he]at h;obtain⟨d,u⟩:=x;simp only at h;split at h
   ·rename_i a z q e;simp only[Qa,Qd]at h;obtain⟨rfl,rfl,rfl⟩:=h;exact⟨_,rfl,Cs l _ _ _ _ _ _ _ e hk⟩
   ·cases h
 |⟨dst,op,af,some (j,b)⟩::l,k,s,m,K,v,m',f,h,hk=>by
  rw[Qo,show k+(l.length+1)=k+1+l.length by omega]at hk;simp only[Ch,BP,By]at h;simp only[Ci];unfold DD;cases ho:(ops[j]?).bind (·.dst)with
  |none=>rw[ho]at h;cases h
  |some t=>
   rw[ho]at h;rw[CL];simp only at h;cases hd:s t with
   |bool r=>
    rw[hd]at h;simp only at h;rw[IS];refine⟨λo=>?_,λo=>?_⟩
    ·subst o;simp only[beq_self_eq_true]at h;cases he:Ax S s m ((c+k)::ns) op with
     |none=>rw[he]at h;cases h
     |some x=>
      rw[he]at h;obtain⟨d,u⟩:=x;simp only at h;split at h
      ·rename_i a z q e;simp only[Qa,Qd]at h;obtain⟨rfl,rfl,rfl⟩:=h;exact⟨_,he,Cs l _ _ _ _ _ _ _ e hk⟩
      ·cases h
    ·have:(r==b)=false:=by simpa using o
     rw[this]at h;simp only[Hf.app]at h;split at h
     ·rename_i a z q e;simp only[Qa,Qd]at h;obtain⟨rfl,rfl,rfl⟩:=h;exact Cs l _ _ _ _ _ _ _ e hk
     ·cases h
   |tup w=>
    rw[hd]at h;cases w with
    |nil=>
     simp only[Hf.app]at h;split at h
     ·rename_i a z q e;simp only[Qa,Qd]at h;obtain⟨rfl,rfl,rfl⟩:=h;exact Cs l _ _ _ _ _ _ _ e hk
     ·cases h
    |cons _ _=>cases h
   |_=>rw[hd]at h;cases h
def aGn(S:G8)(ns:Id)(b:DC)(Q:Ex->St->Prop):Ex->St->Prop
 | .normal,st=>b.wp S ns Q st
 |e,st=>Q e st
def RX(i:Nat)(Q:Ex->St->Prop):Ex->St->Prop
 | .exit j,st=>if j=i then Q .normal st else Q (.exit j) st
 |e,st=>Q e st
def qP:D->(A B:Prop)->Tag (A,B)->Prop
 | .bool b,A,B,_=>OT (b=true) A B .mk
 |_,_,_,_=>False
def Mi{b:Bool}{A B:Prop}{t:Tag (A,B)}:qP (.bool b) A B t=OT (b=true) A B .mk:=rfl
variable{Q:Ex->St->Prop}{st:St}
def WJ{b:DC}:aGn S ns b Q .normal st=b.wp S ns Q st:=rfl
def aAm{b:DC}:aGn S ns b Q .ret st=Q .ret st:=rfl
def tY{b:DC}{i:Nat}:aGn S ns b Q (.exit i) st=Q (.exit i) st:=rfl
def SF{i:Nat}:RX i Q .normal st=Q .normal st:=rfl
def mD{i:Nat}:RX i Q .ret st=Q .ret st:=rfl
theorem Et{i j:Nat}:RX i Q (.exit j) st=if j=i then Q .normal st else Q (.exit j) st:=rfl
def zL:DC.skip.wp S ns Q st=Q .normal st:=by
 apply propext;exact⟨λ⟨e,r,⟨u,y⟩,h⟩=>Yb,λh=>⟨_,_,⟨rfl,rfl⟩,h⟩⟩
def aFT:DC.ret.wp S ns Q st=Q .ret st:=by
 apply propext;exact⟨λ⟨e,r,⟨u,y⟩,h⟩=>Yb,λh=>⟨_,_,⟨rfl,rfl⟩,h⟩⟩
def zN{i:Nat}:(DC.exit i).wp S ns Q st=Q (.exit i) st:=by
 apply propext;exact⟨λ⟨e,r,⟨u,y⟩,h⟩=>Yb,λh=>⟨_,_,⟨rfl,rfl⟩,h⟩⟩
def aFR{a b:DC}:(DC.seq a b).wp S ns Q st=a.wp S ns (aGn S ns b Q) st:=by
 apply propext;constructor
 ·rintro⟨e,r,⟨e1,st1,h1,y⟩,h⟩;refine⟨e1,st1,h1,?_⟩;rcases y with ⟨rfl,y⟩|⟨g,rfl,rfl⟩
  ·exact⟨e,r,y,h⟩
  ·cases e with
   |normal=>exact absurd rfl g
   |ret=>exact h
   |exit i=>exact h
 ·rintro⟨e1,st1,h1,h⟩;cases e1 with
  |normal=>obtain⟨e,r,y,h⟩:=h;exact⟨e,r,⟨.normal,st1,h1,.inl ⟨rfl,y⟩⟩,h⟩
  |ret=>exact⟨.ret,st1,⟨.ret,st1,h1,.inr ⟨U,rfl,rfl⟩⟩,h⟩
  |exit i=>exact⟨.exit i,st1,⟨.exit i,st1,h1,.inr ⟨U,rfl,rfl⟩⟩,h⟩
def sQ{i:Nat}{a:DC}(h:a.wp S ns (RX i Q) st):(DC.block i a).wp S ns Q st:=by
 obtain⟨e,r,u,h⟩:=h;cases e with
 |normal=>exact⟨_,r,⟨.normal,u,.inr ⟨U,rfl⟩⟩,h⟩
 |ret=>exact⟨_,r,⟨.ret,u,.inr ⟨U,rfl⟩⟩,h⟩
 |exit j=>
  by_cases q:j=i
  ·rw[Et,if_pos q]at h;exact⟨_,r,⟨.exit j,u,.inl ⟨by rw[q],rfl⟩⟩,h⟩
  ·rw[Et,if_neg q]at h;exact⟨_,r,⟨.exit j,u,.inr ⟨by simp[q],rfl⟩⟩,h⟩
def zO{c:Hd}{a b:DC}(h:qP (c.ev st.s) (a.wp S ns Q st) (b.wp S ns Q st) .mk):(DC.cond c a b).wp S ns Q st:=by
 unfold qP at h;split at h
 ·rename_i t e;cases t with
  |true=>obtain⟨p,r,u,y⟩:=h.1 rfl;exact⟨p,r,.inl ⟨e,u⟩,y⟩
  |false=>obtain⟨p,r,u,y⟩:=h.2 U;exact⟨p,r,.inr ⟨e,u⟩,y⟩
 ·exact h.elim
def aFS{ops:List DOper}(h:Gb S ns st.c ops ops 0 st.s st.m λk s m=>Q .normal ⟨s,m,st.c+k⟩):(DC.row ops).wp S ns Q st:=by
 obtain⟨v,m',u,y⟩:=E5 _ _ _ _ h;rw[Qu]at y;exact⟨.normal,_,⟨rfl,u,rfl⟩,y⟩
def sP{ops:List DOper}{ps:List (Nat×Nat)}(h:Ci S ns st.c ops ops 0 st.s st.m λk s m f=>Au (Mb f ps) (Q .normal ⟨s,m,st.c+k⟩) .mk):(DC.drawn ops ps).wp S ns Q st:=by
 obtain⟨v,m',f,u,y⟩:=DO _ _ _ _ _ h;rw[Qu]at y;exact⟨.normal,_,⟨rfl,⟨f,u,y.1⟩,rfl⟩,y.2⟩
def Wk{i:Nat}{a:DC}:(DC.block i a).wp S ns Q st=a.wp S ns (RX i Q) st:=by
 refine propext ⟨?_,sQ⟩;rintro⟨e,st',⟨e1,h1,h2⟩,h⟩;refine⟨e1,st',h1,?_⟩;rcases h2 with ⟨rfl,rfl⟩|⟨g,rfl⟩
 ·grind [Et]
 ·cases e with
  |normal=>exact h
  |ret=>exact h
  |exit j=>rw[Et,if_neg (λx=>g (by rw[x]))];exact h
def iF{c:Hd}{a b:DC}:(DC.cond c a b).wp S ns Q st=qP (c.ev st.s) (a.wp S ns Q st) (b.wp S ns Q st) .mk:=by
 refine propext ⟨?_,zO⟩;rintro⟨e,st',u,h2⟩;rcases u with ⟨f,u⟩|⟨f,u⟩
 ·rw[f,Mi];exact ZP (λ_=>⟨e,st',u,h2⟩) (λx=>absurd rfl x)
 ·rw[f,Mi];exact ZP (λ(x:false=true)=>absurd x V) (λ_=>⟨e,st',u,h2⟩)
def sO{ops:List DOper}:(DC.row ops).wp S ns Q st=Gb S ns st.c ops ops 0 st.s st.m λk s m=>Q .normal ⟨s,m,st.c+k⟩:=by
 refine propext ⟨?_,aFS⟩;rintro⟨e,⟨s',m',c'⟩,⟨rfl,h1,h2⟩,h3⟩;refine Db _ _ _ _ _ _ h1 ?_;simp only at h2;rw[Qu,←h2];exact h3
def Wj{ops:List DOper}{ps:List (Nat×Nat)}:(DC.drawn ops ps).wp S ns Q st=Ci S ns st.c ops ops 0 st.s st.m λk s m f=>Au (Mb f ps) (Q .normal ⟨s,m,st.c+k⟩) .mk:=by
 refine propext ⟨?_,sP⟩;rintro⟨e,⟨s',m',c'⟩,⟨rfl,⟨f,h1,hf⟩,h2⟩,h3⟩;refine Cs _ _ _ _ _ _ _ _ h1 ⟨hf,?_⟩;simp only at h2;rw[Qu,←h2];exact h3
def cJ(S:G8)(ns:Id)(c:DC)(Q:Ex->St->Prop):Ex->St->Prop
 | .normal,st=>(DC.loop c).wp S ns Q st
 |e,st=>Q e st
def Be(S:G8)(ns:Id)(c:DC)(Q:Ex->St->Prop)(v:St)(_:Tag (S,ns,c,Q,v)):Prop:=(DC.loop c).wp S ns Q v
def iE{c:DC}:(DC.loop c).wp S ns Q st=Be S ns c Q st .mk:=rfl
def U6{c:DC}:cJ S ns c Q .normal st=(DC.loop c).wp S ns Q st:=rfl
def uS{c:DC}:cJ S ns c Q .ret st=Q .ret st:=rfl
def jV{c:DC}{i:Nat}:cJ S ns c Q (.exit i) st=Q (.exit i) st:=rfl
def zM{c:DC}(h:c.wp S ns (cJ S ns c Q) st):(DC.loop c).wp S ns Q st:=by
 obtain⟨e,r,u,h⟩:=h;cases e with
 |normal=>obtain⟨m,w,⟨n,y⟩,h⟩:=h;exact⟨m,w,⟨n+1,.more n _ _ _ _ u y⟩,h⟩
 |ret=>exact⟨.ret,r,⟨0,.stop _ _ _ u U⟩,h⟩
 |exit i=>exact⟨.exit i,r,⟨0,.stop _ _ _ u U⟩,h⟩
def Mp{s:DC}{k:Ex->St->Prop}(h:s.wp S ns Q st)(v:∀e r,Q e r->k e r):s.wp S ns k st:=by
 obtain⟨e,r,u,y⟩:=h;exact⟨e,r,u,v _ _ y⟩
end
def tV{s:Nat->D}{t b:Nat}{d:D}:Cq s (some t) d b=if b=t then d else s b:=rfl
def tW{s:Nat->D}{d:D}:Cq s none d=s:=rfl
def bK{s:Nat->D}{n:Nat}:(Hd.t n).ev s=s n:=rfl
def bL{s:Nat->D}{d:D}:(Hd.c d).ev s=d:=rfl
end Go.Vd
end
