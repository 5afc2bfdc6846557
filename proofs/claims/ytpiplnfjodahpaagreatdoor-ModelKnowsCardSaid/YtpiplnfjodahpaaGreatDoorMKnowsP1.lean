/- A part of the proof; nothing in it is assumed. -/
import Derived.Maps.AppendAt
import Derived.RangeFuncOwn
import Derived.Laws.Concat
import Derived.Laws.Unary
import Derived.Laws.Runes
import Derived.Laws.AppendOwnNone
import Derived.Lib.ConvBytes
import Derived.Lib.AppendStr
import Derived.Laws.IdiomStrings

set_option linter.unusedSimpArgs false
set_option linter.unusedVariables false
set_option linter.defProp false
set_option maxHeartbeats 4000000
set_option maxRecDepth 100000
open Option.some renaming injEq→Qa,inj→QK
open Option renaming map_eq_some_iff→Qb,getD_some→QF,map_some→QY,isSome_iff_exists→Zf,bind_eq_some_iff→Zi,bind_some→ZE,map_none→ZG
open List renaming getElem?_eq_getElem→Qc,getElem?_eq_some_iff→Qf,mem_append→Qg,getElem?_map→Qj,getElem?_eq_none→Qk,mem_range→Ql,getElem?_append_left→Qm,mem_cons_self→Qn,length_cons→Qo,getElem?_take_of_lt→Qp,mem_cons_of_mem→Qq,mem_of_getElem?→Qr,map_cons→Qs,range→Qt,mem_map→Qv,getElem?_drop→Qw,mem_of_mem_drop→Qx,all_eq_true→Qy,replicate→Qz,mem_of_mem_take→QC,getElem?_cons_zero→QE,getElem?_append_right→QG,getElem?_toArray→QJ,append_assoc→QL,eq_nil_of_length_eq_zero→QN,range_eq_range'→QR,length_take→QT,extract_eq_take_drop→QV,map_congr_left→QX,length_map→QZ,mem_singleton→Q_,getD→Q0,getElem_mem→Q1,cons_append→Q2,range'_succ→Q3,mem_flatMap→Q5,filter_cons→Q6,extract_toArray→Q7,foldl_cons→Q8,getElem_of_mem→Za,flatMap_cons→Zd,getElem?_cons_succ→Zg,map_nil→Zk,nil_append→Zl,mem_filter→Zm,contains_iff_mem→Zn,drop_drop→Zo,range'→Zp,getElem?_range→Zq,length_take_le→Zr,getElem?_take→Zt,length_append→Zu,size_toArray→Zy,ext_getElem?→Zz,map_toArray→ZB,suffix_cons→ZD,length→ZL,foldlM→ZN
open Prod.mk renaming injEq→Qd
open Array renaming getElem?_eq_some_iff→Qe,getD_eq_getD_getElem?→Qh,toArray_toList→QD,getElem?_append_left→QI,toList_map→QM,length_toList→QW,toList_inj→Q4,replicate→Q9,mapM_eq_mapM_toList→Zc,size_append→Zx,all_eq_true→ZA,range→ZM
open Nat renaming le_refl→Qi,zero_add→Qu,le_trans→QA,mul_le_mul_right→QB,lt_of_lt_of_le→QO,add_mul→QQ,add_right_cancel_iff→Ze,add_zero→Zj,lt_or_ge→Zv,succ_mul→Zw,le_add_right→ZC,zero_le→ZF,strongRecOn→ZI,mod_lt→ZJ,mul_comm→ZK,not_lt→ZO
open Bool renaming false_eq_true→QH,or_eq_true→QP,or_eq_false_iff→QS,and_eq_true→QU,not_false→Zb,not_true→Zs
open Int renaming eq_ofNat_of_zero_le→Zh
open List.cons renaming injEq→ZH
open And renaming intro→ZP
noncomputable section
namespace Go
def O{P:Prop}(h:P:=by omega):P:=h
def U{P:Prop}(h:P:=by simp):P:=h
def V{P:Prop}(h:P:=by decide):P:=h
def Z{P:Prop}(h:P:=by kernel_rfl):P:=h
def Xa{P:Prop}(h:P:=by first|omega|(simp only;omega)):P:=h
def Xb{P:Prop}(h:P:=by simp;omega):P:=h
def Xc{P:Prop}(h:P:=by cases h):P:=h
def Xd{P:Prop}(h:P:=by simp at h):P:=h
def Xe{P:Prop}(h:P:=by first|(simp;done)|(simp;omega)):P:=h
def Xf{P:Prop}(h:P:=by decide+kernel):P:=h
def Xg{P:Prop}(h:P:=by simp only[Tr.wgt];omega):P:=h
def Xh{P:Prop}(h:P:=by simp only[Tr.cnt];omega):P:=h
def Xi{P:Prop}(h:P:=by rw[H9 (by omega) (by omega)];omega):P:=h
def Xj{P:Prop}(h:P:=by cases t<;>rfl):P:=h
def Xk{P:Prop}(h:P:=by simpa using hl):P:=h
def Xl{P:Prop}(h:P:=by simp[Gh.tok]):P:=h
def Xm{P:Prop}(h:P:=by cases g):P:=h
def Xn{P:Prop}(h:P:=by simp[AP]):P:=h
def Xo{P:Prop}(h:P:=by cases e):P:=h
def Xp{P:Prop}(h:P:=by intro e h;cases h):P:=h
def Xq{P:Prop}(h:P:=by unfold maxLen;omega):P:=h
def Xr{P:Prop}(h:P:=by simpa using h):P:=h
def Xs{P:Prop}(h:P:=by simp[Op.equalIn,run_underlying d]):P:=h
def Xt{P:Prop}(h:P:=by simp only[j];omega):P:=h
def Xu{P:Prop}(h:P:=by rw[List.length_take];omega):P:=h
def Xv{P:Prop}(h:P:=by rw[List.length_cons,show k+(l.length+1)=k+1+l.length by omega];exact y):P:=h
def Xw{P:Prop}(h:P:=by simpa using z):P:=h
def Xx{P:Prop}(h:P:=by simpa using w):P:=h
def Xy{P:Prop}(h:P:=by show(1:Int)≠3;decide):P:=h
def Xz{P:Prop}(h:P:=by first|rfl|simp):P:=h
def XA{P:Prop}(h:P:=by cases p):P:=h
def XB{P:Prop}(h:P:=by cases l<;>rfl):P:=h
def XC{P:Prop}(h:P:=by simp[sc0]):P:=h
def XD{P:Prop}(h:P:=by simp[Gh.base]at h):P:=h
def XE{P:Prop}(h:P:=by simp[A7]):P:=h
def XF{P:Prop}(h:P:=by simp only[Option.some.injEq]at h;subst h;exact⟨rfl,by simp⟩):P:=h
def XG{P:Prop}(h:P:=by show(2:Int)≠3;decide):P:=h
def XH{P:Prop}(h:P:=by rw[←hA,e1];simp):P:=h
def XI{P:Prop}(h:P:=by rw[y];rfl):P:=h
def XJ{P:Prop}(h:P:=by rw[AS];omega):P:=h
def XK{P:Prop}(h:P:=by cases h;rfl):P:=h
def XL{P:Prop}(h:P:=by simpa using u):P:=h
def XN{P:Prop}(h:P:=by simpa using g):P:=h
def XO{P:Prop}(h:P:=by simpa using c):P:=h
def XP{P:Prop}(h:P:=by simp[flat]):P:=h
def XQ{P:Prop}(h:P:=by simp[AK,AA,H3,Ai,Ac,HJ.ev,Cb,h2,h4,h5,eb,w,r,ca,y,v]):P:=h
def XS{P:Prop}(h:P:=by rw[BW,AX];exact⟨rfl,hl⟩):P:=h
def XT{P:Prop}(h:P:=by simp[Lib.join]):P:=h
def XU{P:Prop}(h:P:=by simp[HF.put]):P:=h
def XV{P:Prop}(h:P:=by simp[ByteArray.size]):P:=h
def XX{P:Prop}(h:P:=by simp[AK,AA,H3,Ai,Ac,HJ.ev,Cb]):P:=h
def XY{P:Prop}(h:P:=by simp only[EC];decide):P:=h
def XZ{P:Prop}(h:P:=by simp only[AC,exec];rw[CJ]):P:=h
def X0{P:Prop}(h:P:=by show _=_;rw[←HI.out,d.out]):P:=h
def X1{P:Prop}(h:P:=by rw[←hB,e2]):P:=h
def X2{P:Prop}(h:P:=by rw[x.int_inv]):P:=h
def X3{P:Prop}(h:P:=by rw[show l.length=j by omega];exact I):P:=h
def X4{P:Prop}(h:P:=by rw[List.length_drop];omega):P:=h
def X5{P:Prop}(h:P:=by rw[List.all_eq_true];intro x p;obtain⟨y,_,rfl⟩:=List.mem_map.1 p;rfl):P:=h
def X6{P:Prop}(h:P:=by have:=ZZ.out;omega):P:=h
def X7{P:Prop}(h:P:=by funext j;simp[below]):P:=h
def X8{P:Prop}(h:P:=by first|exact hG.more (by simp only;omega)|exact hG.put.more (by simp only;omega)|exact hG.put.put.more (by simp only;omega)|exact hG.put.put.put.more (by simp only;omega)|exact hG.put.put.put.put.more (by simp only;omega)|exact hG.put.put.put.put.put.more (by simp only;omega)):P:=h
def X9{P:Prop}(h:P:=by unfold AT;split<;>omega):P:=h
def X_{P:Prop}(h:P:=by subst u y;exact h):P:=h
def Ya{P:Prop}(h:P:=by simp[qX,PF,Oc.op,HM]):P:=h
def Yb{P:Prop}(h:P:=by simp[execOp,hop,e1]):P:=h
def Yc{P:Prop}(h:P:=by simp[World.setRow]):P:=h
def Yd{P:Prop}(h:P:=by simp[World.cell?,F0]):P:=h
def Ye{P:Prop}(h:P:=by simp[Mb,PF,Oc.op,HM]):P:=h
def Yf{P:Prop}(h:P:=by simp[Builtin.lenOf]):P:=h
def Yg{P:Prop}(h:P:=by simp only[↓C2,reduceIte,Nat.reduceEqDiff,o]):P:=h
def Yh{P:Prop}(h:P:=by simp only[];rw[Es,if_pos ⟨rfl,rfl⟩]):P:=h
def Yi{P:Prop}(h:P:=by simp at hx;subst hx;rfl):P:=h
def Yj{P:Prop}(h:P:=by show _=_;rw[←HI.out,d.out];simp):P:=h
def Yk{P:Prop}(h:P:=by rw[ka];exact h.size):P:=h
def Yl{P:Prop}(h:P:=by rw[ka];exact h.below.size):P:=h
def Ym{P:Prop}(h:P:=by rw[e];exact List.suffix_refl _):P:=h
def Yn{P:Prop}(h:P:=by rw[e];exact List.suffix_cons _ _):P:=h
def Yo{P:Prop}(h:P:=by rw[List.length_append,List.length_singleton];omega):P:=h
def Yp{P:Prop}(h:P:=by rw[IntWalk.i64_in _ ⟨by omega,by omega⟩];simp):P:=h
def Yq{P:Prop}(h:P:=by rw[Cf,Ds];have:=m (by omega);omega):P:=h
def Yr{P:Prop}(h:P:=by rw[Cf,Ds];have:=h7 (by omega);omega):P:=h
def Ys{P:Prop}(h:P:=by rw[Bool.eq_iff_iff];simp;omega):P:=h
def Yt{P:Prop}(h:P:=by have:=x.ok.pa;omega):P:=h
def Yu{P:Prop}(h:P:=by have:=ha.ok.tk;omega):P:=h
def Yv{P:Prop}(h:P:=by have:=ha.ok.rl;omega):P:=h
def Yw{P:Prop}(h:P:=by have:=h.size;simp;omega):P:=h
def Yx{P:Prop}(h:P:=by have:=h.1;have:=h.2;omega):P:=h
def Yy{P:Prop}(h:P:=by unfold mP;exact decide_eq_true (by omega)):P:=h
def Yz{P:Prop}(h:P:=by unfold DP;rw[List.length_append,List.length_take,List.length_drop];omega):P:=h
def YA{P:Prop}(h:P:=by simpa using (List.mem_filter.1 p).2):P:=h
def YB{P:Prop}(h:P:=by simp[List.map_map,Function.comp_def]):P:=h
def YC{P:Prop}(h:P:=by simp[IntKind.wrap,IntKind.bits,IntKind.signed]):P:=h
def YD{P:Prop}(h:P:=by simp[AK,AA,H3,Ai,Ac,HJ.ev,Cb,y,ba,h5,eb,w,i]):P:=h
def YE{P:Prop}(h:P:=by simp only[oL,D.dep.D.depL,D.dep,LN];omega):P:=h
def YF{P:Prop}(h:P:=by simp only[List.length_singleton];omega):P:=h
def YG{P:Prop}(h:P:=by simp only[List.length_cons]at h;omega):P:=h
def YH{P:Prop}(h:P:=by simp only[List.length_cons,List.length_nil];omega):P:=h
def YI{P:Prop}(h:P:=by simp only[List.length_append,List.length_cons,List.length_nil];omega):P:=h
def YJ{P:Prop}(h:P:=by simp only[List.length_append,CA,RS];omega):P:=h
def YK{P:Prop}(h:P:=by show(0:Int)<=((OU (BZ x 58).2.1).1:Int);omega):P:=h
def YL{P:Prop}(h:P:=by show o.ops.length<=_;rw[h0.ops];simp):P:=h
def YM{P:Prop}(h:P:=by rw[pa];congr 1;exact propext (by omega)):P:=h
def YN{P:Prop}(h:P:=by rw[List.length_take,List.length_drop];omega):P:=h
def YO{P:Prop}(h:P:=by rw[List.eq_of_mem_replicate hd];exact f):P:=h
def YP{P:Prop}(h:P:=by rw[List.append_assoc];exact PY (by decide)):P:=h
def YQ{P:Prop}(h:P:=by rw[List.append_assoc,List.append_assoc,L0,fO ht,hb]):P:=h
def YR{P:Prop}(h:P:=by rw[IntWalk.i64_in _ ⟨by omega,by omega⟩];omega):P:=h
def YS{P:Prop}(h:P:=by rw[As,List.map_map];exact List.map_congr_left λ_ _=>rfl):P:=h
def YT{P:Prop}(h:P:=by obtain⟨z,_,rfl⟩:=List.mem_map.1 p;rfl):P:=h
def YU{P:Prop}(h:P:=by have:=congrArg List.length h;simpa using this):P:=h
def YV{P:Prop}(h:P:=by have:=(six[k]?.getD 0).toNat_lt;omega):P:=h
def YW{P:Prop}(h:P:=by first|exact(hG.put.put.row (by omega) ht).grow|exact((hG.put.put.row (by omega) ht).put).grow):P:=h
def YX{P:Prop}(h:P:=by first|exact(hG.put.put.row (by omega) ht).app (by omega) (by simp only;omega)|exact((hG.put.put.row (by omega) ht).put).app (by omega) (by simp only;omega)):P:=h
def YY{P:Prop}(h:P:=by first|exact hG.grow|exact(hG.put (by omega)).grow|exact((hG.put (by omega)).put (by omega)).grow|exact(((hG.put (by omega)).put (by omega)).put (by omega)).grow|exact((((hG.put (by omega)).put (by omega)).put (by omega)).put (by omega)).grow|exact(((((hG.put (by omega)).put (by omega)).put (by omega)).put (by omega)).put (by omega)).grow):P:=h
def YZ{P:Prop}(h:P:=by first|exact hG.grow|exact hG.put.grow|exact hG.put.put.grow|exact hG.put.put.put.grow|exact hG.put.put.put.put.grow|exact hG.put.put.put.put.put.grow):P:=h
def Y0{P:Prop}(h:P:=by first|exact hG.app (by omega) (by simp only;omega)|exact hG.put.app (by omega) (by simp only;omega)|exact hG.put.put.app (by omega) (by simp only;omega)|exact hG.put.put.put.app (by omega) (by simp only;omega)|exact hG.put.put.put.put.app (by omega) (by simp only;omega)|exact hG.put.put.put.put.put.app (by omega) (by simp only;omega)):P:=h
def Y1{P:Prop}(h:P:=by cases y<;>exact⟨_,_,_,_,_,_,_,_,_,_,rfl⟩):P:=h
def Y2{P:Prop}(h:P:=by first|rfl|exact⟨rfl,rfl⟩|simp[*]):P:=h
def Y3{P:Prop}(h:P:=by first|rfl|exact⟨rfl,rfl⟩):P:=h
def Y4{P:Prop}(h:P:=by first|exact(Gz.set ((hR.other (by first|(simp;done)|(simp;omega))).other (by first|(simp;done)|(simp;omega)))).grow (by first|(simp;done)|(simp;omega)) (λh e=>ht h e.symm)|exact((Gz.set ((hR.other (by first|(simp;done)|(simp;omega))).other (by first|(simp;done)|(simp;omega)))).other (by first|(simp;done)|(simp;omega))).grow (by first|(simp;done)|(simp;omega)) (λh e=>ht h e.symm)):P:=h
def Y5{P:Prop}(h:P:=by first|(simp at h;done)|(rw[Option.map_eq_some_iff]at h;obtain⟨_,_,h⟩:=h;cases h)):P:=h
def Y6{P:Prop}(h:P:=by exact⟨rfl,rfl⟩):P:=h
end Go
namespace Go.Vd
open Go.RowKit
abbrev Id:=List Nat
inductive D where
 |junk
 |bool (b:Bool)
 |int (k:IntKind) (n:Int)
 |str (s:List UInt8)
 |slice (nl:Bool) (t:Id) (xs:List D)
 |ptr (i:Id) (o:Nat)
 |eptr (ds:List D)
 |row (i:Id) (n:Nat)
 |nilptr
 |agg (cs:List D)
 |tup (vs:List D)
 |iface (t:TypeId) (d:D)
 |nilIface
 |fn (f:FuncId) (caps:List D)
 |nilFunc
 |nilMap
 |tok (e:Nat)
 |it (s:List UInt8) (p:Nat)
 |itp (i:Id)
instance:Inhabited D:=⟨.junk⟩
def D.leaf:D->Bool
 | .agg _| .tup _| .junk| .tok _| .it _ _=>false
 |_=>true
def D.gh:D->Bool
 | .tok _| .it _ _=>true
 |_=>false
def D.isRw:D->Bool
 | .nilIface| .str []=>true
 |_=>false
def D.cells:D->List D
 | .agg cs=>cs
 |d=>[d]
def D.un1:D->D
 | .slice nl _ xs=> .slice nl [] xs
 |d=>d
def D.un:D->D
 | .agg cs=> .agg (cs.map D.un1)
 | .slice nl _ xs=> .slice nl [] xs
 |d=>d
def D.calm1:D->Bool
 | .slice _ t _=>t.isEmpty
 | .ptr _ _| .row _ _| .itp _| .it _ _=>false
 | .fn _ cs=>cs.isEmpty
 | .agg _| .tup _=>false
 |_=>true
def D.calm:D->Bool
 | .agg cs=>cs.all D.calm1
 |d=>d.calm1
def flat:List D->List D
 |[]=>[]
 |x::xs=>x.cells++flat xs
structure Gh where
 G:Nat->Nat
 G0:Nat->Nat
 dl:Id->Option Nat
 tb:Id->Option (Nat×Nat×Nat×Nat)
inductive Rep (w:World) (g:Gh):D->Value->Prop
 |junk (v:Value):Rep w g .junk v
 |bool (b:Bool):Rep w g (.bool b) (.bool b)
 |int (k:IntKind) (n:Int):Rep w g (.int k n) (.int k n)
 |str (s:List UInt8):Rep w g (.str s) (.string ⟨s.toArray⟩)
 |nils (t:Id):Rep w g (.slice true t []) (.slice none 0 0)
 |slice (t:Id) (xs:List D) (a:Addr) (n c sz:Nat) (vv:Nat->Value):
   n=xs.length->n<=c->(∀d∈xs,d.cells.length=sz)->
   (∀j,j<n*sz->w.cell? (a.add j)=some (vv j))->
   (∀j,j<n*sz->(vv j).oneCell'=true)->
   (∀(j:Nat) d,(flat xs)[j]?=some d->Rep w g d (vv j))->
   (0<n*sz->a.off+n*sz<=g.G a.block)->
   (t≠[]->a.off=0∧a.spot=none∧g.tb t=some (a.block,n,c,sz))->(∀d∈xs,d.calm=true)->
   Rep w g (.slice false t xs) (.slice (some a) n c)
 |ptr (i:Id) (o b:Nat):g.dl i=some b->Rep w g (.ptr i o) (.pointer (some ⟨b,o,none⟩))
 |row (i:Id) (n c b:Nat):n<=c->g.dl i=some b->Rep w g (.row i n) (.slice (some ⟨b,0,none⟩) n c)
 |eptr (ds:List D) (a:Addr) (vv:Nat->Value):
   (∀j,j<ds.length->w.cell? (a.add j)=some (vv j))->
   (∀j,j<ds.length->(vv j).oneCell'=true)->
   (∀(j:Nat) d,ds[j]?=some d->Rep w g d (vv j))->
   (0<ds.length->a.off+ds.length<=g.G a.block)->(∀d∈ds,d.calm=true)->
   Rep w g (.eptr ds) (.pointer (some a))
 |nilp:Rep w g .nilptr (.pointer none)
 |agg (ds:List D) (vs:List Value):vs.length=ds.length->(∀v∈vs,v.oneCell'=true)->
   (∀(j:Nat) d v,ds[j]?=some d->vs[j]?=some v->Rep w g d v)->Rep w g (.agg ds) (.agg vs.toArray)
 |tup (ds:List D) (vs:List Value):vs.length=ds.length->
   (∀(j:Nat) d v,ds[j]?=some d->vs[j]?=some v->Rep w g d v)->Rep w g (.tup ds) (.tuple vs.toArray)
 |iface (t:TypeId) (d:D) (v:Value):d.calm=true->Rep w g d v->Rep w g (.iface t d) (.iface t v)
 |nili:Rep w g .nilIface .nilIface
 |fn (f:FuncId) (ds:List D) (vs:List Value):vs.length=ds.length->
   (∀(j:Nat) d v,ds[j]?=some d->vs[j]?=some v->Rep w g d v)->Rep w g (.fn f ds) (.func (.func f) #[] vs.toArray)
 |nilf:Rep w g .nilFunc .nilFunc
 |nilm:Rep w g .nilMap (.map none)
 |itp (i:Id) (b:Nat):g.tb i=some (b,0,0,0)->Rep w g (.itp i) (.pointer (some ⟨b,0,none⟩))
structure H5 (w:World) (g:Gh) (w':World) (g':Gh):Prop where
 cell:∀p:Addr,p.off<g.G p.block->w'.cell? p=w.cell? p
 G:∀b,g.G b<=g'.G b
 dl:∀i b,g.dl i=some b->g'.dl i=some b
 G0:g'.G0=g.G0
 tb:∀i x,g.tb i=some x->g'.tb i=some x
 size:w.heap.size<=w'.heap.size
 dln:∀i b,g'.dl i=some b->(∃j,g.dl j=some b)∨w.heap.size<=b
 tbn:∀i x,g'.tb i=some x->(∃j y,g.tb j=some y∧y.1=x.1)∨w.heap.size<=x.1
 unt:∀(k:Nat)(o:Obj),w.heap[k]?=some o->(∀i,g.dl i≠some k)->(∀i x,g.tb i=some x->x.1≠k)->w'.heap[k]?=some o
def H5.refl(w:World)(g:Gh):H5 w g w g:=⟨λ_ _=>rfl,λ_=>Qi _,λ_ _ h=>h,rfl,λ_ _ h=>h,Qi _,λi _ h=> .inl ⟨i,h⟩,λi x h=> .inl ⟨i,x,h,rfl⟩,λ_ _ h _ _=>h⟩
theorem H5.trans {w w' a : World} {g t f : Gh} (h : H5 w g w' t) (k : H5 w' t a f) : H5 w g a f :=
 ⟨fun p s => (k.cell p (QO s (h.G _))).trans (h.cell p s), fun b => QA (h.G b) (k.G b),
  fun i b hi => k.dl i b (h.dl i b hi), k.G0.trans h.G0, fun i x hi => k.tb i x (h.tb i x hi), QA h.size k.size,
  fun i b hi => (k.dln i b hi).elim (fun ⟨j, u⟩ => h.dln j b u) (fun e => .inr (QA h.size e)),
  fun i x hi => (k.tbn i x hi).elim (fun ⟨j, y, u, e⟩ => (h.tbn j y u).elim (fun ⟨j', q, ta, m⟩ => .inl ⟨j', q, ta, m.trans e⟩) (fun m => .inr (e ▸ m))) (fun e => .inr (QA h.size e)),
  fun j o u z v => k.unt j o (h.unt j o u z v) (fun i e => (h.dln i j e).elim (fun ⟨j', r⟩ => z j' r) (fun m => absurd (Qe.1 u).1 (ZO.2 m)))
   (fun i x e n => (h.tbn i x e).elim (fun ⟨j', y, d, c⟩ => v j' y d (c.trans n)) (fun m => absurd (Qe.1 u).1 (ZO.2 (n ▸ m))))⟩
def Cf(a:Addr)(j:Nat):(a.add j).block=a.block:=by unfold Addr.add;split<;>rfl
def Ds(a:Addr)(j:Nat):(a.add j).off=a.off+j:=by unfold Addr.add;split<;>simp_all
theorem add_add(a:Addr)(i j:Nat):(a.add i).add j=a.add (i+j):=by
 unfold Addr.add;by_cases hi:i=0<;>by_cases z:j=0<;>simp[hi,z,Nat.add_assoc]
def Rep.ext{w w':World}{g g':Gh}{d:D}{v:Value}(h:Rep w g d v)(x:H5 w g w' g'):Rep w' g' d v:=by
 induction h with
 |junk v=>exact .junk v
 |bool b=>exact .bool b
 |int k n=>exact .int k n
 |str s=>exact .str s
 |nils t=>exact .nils t
 |slice t xs a n c sz vv u y h3 m e _ h7 h8 h9 ih=>
  refine .slice t xs a n c sz vv u y h3 (λj z=>?_) e ih (λh=>QA (h7 h) (x.G _)) (λht=>?_) h9
  ·rw[x.cell _ Yr];exact m j z
  ·obtain⟨p,q,r⟩:=h8 ht;exact⟨p,q,x.tb _ _ r⟩
 |ptr i o b u=>exact .ptr i o b (x.dl _ _ u)
 |row i n c b h0 u=>exact .row i n c b h0 (x.dl _ _ u)
 |eptr ds a vv u y _ m e ih=>
  refine .eptr ds a vv (λj z=>?_) y ih (λh=>QA (m h) (x.G _)) e;rw[x.cell _ Yq];exact u j z
 |nilp=>exact .nilp
 |agg ds vs u y _ ih=>exact .agg ds vs u y ih
 |tup ds vs u _ ih=>exact .tup ds vs u ih
 |iface t d v u _ ih=>exact .iface t d v u ih
 |nili=>exact .nili
 |fn f ds vs u _ ih=>exact .fn f ds vs u ih
 |nilf=>exact .nilf
 |nilm=>exact .nilm
 |itp i b u=>exact .itp i b (x.tb _ _ u)
def Rep.leaf_one{w:World}{g:Gh}{d:D}{v:Value}(h:Rep w g d v)(hl:d.leaf=true):v.oneCell'=true:=by
 cases h<;>simp_all [D.leaf,Value.oneCell']
abbrev HF:=Id->Nat->Option D
def wL(B:Nat)(m:HF)(w:World)(g:Gh):Prop:=
 (∀i s p,m i 1=some (.it s p)->∃b,g.tb i=some (b,0,0,0)∧B<=b∧w.heap[b]?=some (.stringIter ⟨s.toArray⟩ p)∧g.G b=0∧∀a,g.dl a≠some b)∧
 ∀i a s p r c b x v,m i 1=some (.it s p)->m a 1=some (.it r c)->g.tb i=some (b,x)->g.tb a=some (b,v)->i=a
theorem wL.to {B : Nat} {m m' : HF} {w w' : World} {g t : Gh} (h : wL B m w g) (n : ∀ i s p, m' i 1 = some (.it s p) → m i 1 = some (.it s p))
  (f : ∀ i b s p, m i 1 = some (.it s p) → g.tb i = some (b, 0, 0, 0) → B ≤ b → w.heap[b]? = some (.stringIter ⟨s.toArray⟩ p) → g.G b = 0 → (∀ a, g.dl a ≠ some b) →
   t.tb i = g.tb i ∧ w'.heap[b]? = w.heap[b]? ∧ t.G b = 0 ∧ ∀ a, t.dl a ≠ some b) : wL B m' w' t := by
 refine ⟨fun i s p hi => ?_, fun i a s p r p' b x x' u y o j => ?_⟩
 ·obtain ⟨b, q, e, v, t4, t5⟩ := h.1 i s p (n _ _ _ hi)
  obtain ⟨k, z, q3, q4⟩ := f i b s p (n _ _ _ hi) q e v t4 t5
  exact ⟨b, k.trans q, e, z.trans v, q3, q4⟩
 ·obtain ⟨c, q, e, v, t4, t5⟩ := h.1 i s p (n _ _ _ u)
  obtain ⟨c', u1, d, u3, u4, u5⟩ := h.1 a r p' (n _ _ _ y)
  rw [(f i c s p (n _ _ _ u) q e v t4 t5).1] at o
  rw [(f a c' r p' (n _ _ _ y) u1 d u3 u4 u5).1] at j
  exact h.2 i a s p r p' b x x' (n _ _ _ u) (n _ _ _ y) o j
structure HQ (P:Program) (B:Nat) (w0:World) (m:HF) (w:World) (g:Gh):Prop where
 below:Below B w0 w
 size:B<=w.heap.size
 gz:∀b,w.heap.size<=b->g.G b=0
 old:∀b,b<B->g.G b=g.G0 b
 obj:∀i b,g.dl i=some b->B<=b∧g.G b=0∧∃vs T,w.heap[b]?=some (.cells vs T (0,0))∧
  ∀o d,m i o=some d->∃v,vs[o]?=some v∧v.oneCell'=true∧Rep w g d v
 inj:∀i i' b,g.dl i=some b->g.dl i'=some b->i=i'
 kind:∀i o d,m i o=some d->g.dl i=none->d.gh=true
 tok:∀i e,m i 0=some (.tok (e+1))->∃b n c sz cur,g.tb i=some (b,n,c,sz)∧B<=b∧0<sz∧
  (∃t z,P.info? e=some t∧t.size=sz∧t.zero=some z∧z.cells.size=sz)∧
  w.heap[b]?=some (.cells cur e (0,0))∧n<=c∧c<=maxLen∧cur.size=c*sz∧g.G b=n*sz∧∀i',g.dl i'≠some b
 tinj:∀i i' e e' b x x',m i 0=some (.tok (e+1))->m i' 0=some (.tok (e'+1))->g.tb i=some (b,x)->g.tb i'=some (b,x')->i=i'
 itr:wL B m w g
def B3(m:HF)(g:Gh)(i:Id):Prop:=(∀o,m i o=none)∧g.dl i=none∧g.tb i=none
def HF.put(m:HF)(i:Id)(o:Nat)(ds:List D):HF:=λa o'=>if a=i∧o<=o'∧o'<o+ds.length then ds[o'-o]? else m a o'
theorem aA{m:HF}{i a:Id}{o o':Nat}{ds:List D}(h:a≠i):m.put i o ds a o'=m a o':=by simp[HF.put,h]
def aE{m:HF}{i:Id}{o j:Nat}{ds:List D}(h:j<ds.length):m.put i o ds i (o+j)=ds[j]?:=by
 grind [HF.put]
theorem aD{m:HF}{i:Id}{o o':Nat}{ds:List D}(h:¬(o<=o'∧o'<o+ds.length)):m.put i o ds i o'=m i o':=by
 grind [HF.put]
def AZ(w:World)(g:Gh)(ds:List D)(vs:List Value):Prop:=
 vs.length=ds.length∧(∀v∈vs,v.oneCell'=true)∧∀(j:Nat) d v,ds[j]?=some d->vs[j]?=some v->Rep w g d v
def AZ.ext{w w':World}{g t:Gh}{ds:List D}{vs:List Value}(h:AZ w g ds vs)(x:H5 w g w' t):AZ w' t ds vs:=
 ⟨h.1,h.2.1,λj d v z r=>(h.2.2 j d v z r).ext x⟩
def AZ.no_it{w:World}{g:Gh}{ds:List D}{vs:List Value}(h:AZ w g ds vs){j:Nat}{s:List UInt8}{p:Nat}(z:ds[j]?=some (.it s p)):False:=by
 have hl:j<vs.length:=by rw[h.1];exact(Qf.1 z).1
 have:=h.2.2 j _ vs[j] z (Qc hl);cases this
def aCi{w:World}{g:Gh}{m:HF}{ds:List D}{vs:List Value}(h:AZ w g ds vs){i a:Id}{o:Nat}{s:List UInt8}{p:Nat}(z:m.put i o ds a 1=some (.it s p)):m a 1=some (.it s p)∧(a=i->¬(o<=1∧1<o+ds.length)):=by
 unfold HF.put at z;split at z
 ·exact(h.no_it z).elim
 ·simp_all
theorem AZ.nil(w:World)(g:Gh):AZ w g [] []:=⟨rfl,U,U⟩
def AZ.one{w:World}{g:Gh}{d:D}{v:Value}(h:Rep w g d v)(hl:v.oneCell'=true):AZ w g [d] [v]:=by
 refine⟨rfl,Xk,λj n s z r=>?_⟩;cases j with
 |zero=>simp at z r;subst z r;exact h
 |succ j=>simp at z
def AZ.append{w:World}{g:Gh}{ds c:List D}{vs e:List Value}(h:AZ w g ds vs)(k:AZ w g c e):AZ w g (ds++c) (vs++e):=by
 refine⟨by simp[h.1,k.1],λv hv=>?_,λj d v z hv=>?_⟩
 ·rcases Qg.1 hv with hv|hv
  ·exact h.2.1 v hv
  ·exact k.2.1 v hv
 ·by_cases u:j<ds.length
  ·rw[Qm u]at z;rw[Qm (by rw[h.1];exact u)]at hv;exact h.2.2 j d v z hv
  ·rw[QG O]at z;rw[QG (by rw[h.1];omega),h.1]at hv;exact k.2.2 _ d v z hv
section
variable{P:Program}{B:Nat}{w0 w w':World}{m:HF}{g g':Gh}
def HQ.lt(h:HQ P B w0 m w g){i:Id}{b:Nat}(f:g.dl i=some b):b<w.heap.size:=by
 obtain⟨_,_,vs,T,a,_⟩:=h.obj i b f;exact(Qe.1 a).1
def Gh.over(g:Gh)(w w':World):Gh:=
 {g with G:=λb=>if b<w.heap.size then g.G b else match w'.heap[b]? with|some (.cells c _ _)=>c.size|_=>0}
def H5.over(j:∀b,w.heap.size<=b->g.G b=0)(f:Below w.heap.size w w'):H5 w g w' (g.over w w'):=by
 refine⟨λp y=>?_,λb=>?_,λi b h=>h,rfl,λi x h=>h,f.size,λi _ h=> .inl ⟨i,h⟩,λi x h=> .inl ⟨i,x,h,rfl⟩,λk o m _ _=>(f.block k (Qe.1 m).1).trans m⟩
 ·by_cases d:p.block<w.heap.size
  ·exact f.cell d
  ·simp_all
 ·grind [Gh.over]
def HQ.over(h:HQ P B w0 m w g)(f:Below w.heap.size w w'):HQ P B w0 m w' (g.over w w'):=by
 have x:=H5.over h.gz f;refine⟨h.below.trans (f.mono h.size),QA h.size f.size,λb a=>?_,λb k=>by simp only[Gh.over];rw[if_pos (QO k h.size)];exact h.old b k,λi b hi=>?_,h.inj,h.kind,λi e hi=>?_,h.tinj,h.itr.to (λ_ _ _ e=>e) λi b s p _ _ _ e1 z t=>?_⟩
 rotate_right
 ·have k:b<w.heap.size:=(Qe.1 e1).1;exact⟨rfl,f.block b k,by simp[Gh.over,k,z],t⟩
 ·simp only[Gh.over];rw[if_neg (by have:=f.size;omega),Array.getElem?_eq_none a]
 ·obtain⟨p,q,vs,T,y,r⟩:=h.obj i b hi;have k:=h.lt hi;refine⟨p,by simp[Gh.over,k,q],vs,T,(f.block b k).trans y,λo d j=>?_⟩;obtain⟨v,r1,r2,r3⟩:=r o d j;exact⟨v,r1,r2,r3.ext x⟩
 ·obtain⟨b,n,c,sz,cur,u,t2,t3,t4,t5,t6,t7,t8,t9,xa⟩:=h.tok i e hi;have k:b<w.heap.size:=(Qe.1 t5).1;exact⟨b,n,c,sz,cur,u,t2,t3,t4,(f.block b k).trans t5,t6,t7,t8,by simp[Gh.over,k,t9],xa⟩
def HQ.drew(h:HQ P B w0 m w g):HQ P B w0 m w.drew g:=by
 have x:H5 w g w.drew g:=⟨λ_ _=>rfl,λ_=>Qi _,λ_ _ h=>h,rfl,λ_ _ h=>h,Qi _,λi _ h=> .inl ⟨i,h⟩,λi x h=> .inl ⟨i,x,h,rfl⟩,λ_ _ h _ _=>h⟩;refine⟨h.below.drew,h.size,h.gz,h.old,λi b hi=>?_,h.inj,h.kind,λi e hi=>?_,h.tinj,h.itr.to (λ_ _ _ e=>e) λi b s p _ _ _ c z t=>⟨rfl,rfl,z,t⟩⟩
 ·obtain⟨p,q,vs,T,a,r⟩:=h.obj i b hi;exact⟨p,q,vs,T,a,λo d n=>let⟨v,r1,r2,r3⟩:=r o d n;⟨v,r1,r2,r3.ext x⟩⟩
 ·exact h.tok i e hi
def H5.drew(w:World)(g:Gh):H5 w g w.drew g:=⟨λ_ _=>rfl,λ_=>Qi _,λ_ _ h=>h,rfl,λ_ _ h=>h,Qi _,λi _ h=> .inl ⟨i,h⟩,λi x h=> .inl ⟨i,x,h,rfl⟩,λ_ _ h _ _=>h⟩
def Gh.obj(g:Gh)(i:Id)(b:Nat):Gh:={g with dl:=λa=>if a=i then some b else g.dl a}
def H5.newObj{i:Id}(o:Obj)(j:∀b,w.heap.size<=b->g.G b=0)(r:g.dl i=none):H5 w g (w.alloc o) (g.obj i w.heap.size):=by
 refine⟨λp y=>?_,λb=>Qi _,λa b h=>?_,rfl,λi x h=>h,U,λa b h=>?_,λi x h=> .inl ⟨i,x,h,rfl⟩,λk o' m _ _=>(Below.heap_alloc w o k (Qe.1 m).1).trans m⟩
 rotate_right
 ·simp only[Gh.obj]at h;split at h
  ·simp only[Qa]at h;exact .inr O
  ·exact .inl ⟨a,h⟩
 ·by_cases d:p.block<w.heap.size
  ·exact World.cell?_alloc_lt w o p d
  ·simp_all
 ·grind [Gh.obj]
def HQ.newObj(h:HQ P B w0 m w g){i:Id}(hf:B3 m g i){ds:List D}{vs:List Value}(T:TypeId)(k:AZ w g ds vs):
  HQ P B w0 (m.put i 0 ds) (w.alloc (.cells vs.toArray T)) (g.obj i w.heap.size):=by
 have x:=H5.newObj (i:=i) (Obj.cells vs.toArray T) h.gz hf.2.1;have ne:∀i' b,g.dl i'=some b->i'≠i:=λi' b hb e=>by subst e;rw[hf.2.1]at hb;cases hb
 refine⟨h.below.alloc h.size _,Yw,λb hb=>h.gz b (by simp at hb;omega),h.old,λi' b hi=>?_,λi1 i2 b u f=>?_,λi' o d hm z=>?_,λi' e hi=>?_,λi1 i2 e e' b y y' u f h3 a=>?_,h.itr.to (λi' s p e=>(aCi k e).1) λi' b s p _ _ _ e1 e2 e3=>?_⟩
 rotate_right
 ·have ea:b<w.heap.size:=(Qe.1 e1).1;refine⟨rfl,Below.heap_alloc w _ b ea,e2,λi1 u=>?_⟩;simp only[Gh.obj]at u;split at u
  ·simp_all
  ·exact e3 i1 u
 ·simp only[Gh.obj]at hi;split at hi
  ·rename_i e;subst e;simp only[Qa]at hi;subst hi;refine⟨h.size,h.gz _ (Qi _),vs.toArray,T,heap_alloc_new w _,λo d hm=>?_⟩;by_cases ho:o<ds.length
   ·have j:m.put i' 0 ds i' (0+o)=ds[o]?:=aE ho;rw[Qu]at j;rw[j]at hm;have hv:o<vs.length:=by rw[k.1];exact ho
    refine⟨vs[o],by simp[hv],k.2.1 _ (Q1 hv),?_⟩;exact(k.2.2 o d vs[o] hm (Qc hv)).ext x
   ·rw[aD O,hf.1 o]at hm;cases hm
  ·rename_i t;obtain⟨p,q,eb,T',hh,r⟩:=h.obj i' b hi;refine⟨p,q,eb,T',(Below.heap_alloc w _ b (h.lt hi)).trans hh,λo d hm=>?_⟩;rw[aA t]at hm;obtain⟨v,r1,r2,r3⟩:=r o d hm;exact⟨v,r1,r2,r3.ext x⟩
 ·simp only[Gh.obj]at u f;split at u<;>split at f
  ·simp_all
  ·simp only[Qa]at u;subst u;have:=h.lt f;omega
  ·simp only[Qa]at f;subst f;have:=h.lt u;omega
  ·exact h.inj _ _ _ u f
 ·simp only[Gh.obj]at z;split at z
  ·cases z
  ·rename_i t;rw[aA t]at hm;exact h.kind _ _ _ hm z
 ·by_cases t:i'=i
  ·subst t;by_cases ho:0<ds.length
   ·have j:m.put i' 0 ds i' (0+0)=ds[0]?:=aE ho;rw[Zj]at j;rw[j]at hi;have hv:0<vs.length:=by rw[k.1];exact ho
    have:=k.2.2 0 _ vs[0] hi (Qc hv);cases this
   ·rw[aD O,hf.1 0]at hi;cases hi
  ·rw[aA t]at hi;obtain⟨b,n,c,sz,cur,t1,t2,t3,t4,t5,t6,t7,t8,t9,xa⟩:=h.tok i' e hi;have ea:b<w.heap.size:=(Qe.1 t5).1;refine⟨b,n,c,sz,cur,t1,t2,t3,t4,(Below.heap_alloc w _ b ea).trans t5,t6,t7,t8,t9,λi1 u=>?_⟩;simp only[Gh.obj]at u;split at u
   ·simp_all
   ·exact xa i1 u
 ·have nt:∀e,m.put i 0 ds i 0≠some (.tok (e+1)):=by
   intro e hi;by_cases ho:0<ds.length
   ·have j:m.put i 0 ds i (0+0)=ds[0]?:=aE ho;rw[Zj]at j;rw[j]at hi;have hv:0<vs.length:=by rw[k.1];exact ho
    have:=k.2.2 0 _ vs[0] hi (Qc hv);cases this
   ·rw[aD O,hf.1 0]at hi;cases hi
  have n1:i1≠i:=λe=>by subst e;exact nt _ u
  have n2:i2≠i:=λe=>by subst e;exact nt _ f
  rw[aA n1]at u;rw[aA n2]at f;exact h.tinj _ _ _ _ _ _ _ u f h3 a
def Rep.newObj(w:World)(g:Gh)(i:Id)(b:Nat):Rep w (g.obj i b) (.ptr i 0) (.pointer (some ⟨b,0,none⟩)):=
 .ptr i 0 b (by simp[Gh.obj])
theorem FT(w:World)(b:Nat)(cs:Array Value)(p:Addr)(h:p.block≠b):(w.setRow b cs).cell? p=w.cell? p:=by
 simp only[World.cell?];rw[setRow_other w b p.block cs h]
def Hh(w:World)(b:Nat)(cs:Array Value):w.heap.size<=(w.setRow b cs).heap.size∧∀(k:Nat)(o:Obj),w.heap[k]?=some o->k≠b->(w.setRow b cs).heap[k]?=some o:=
 ⟨Yc,λk o g e=>by rw[setRow_other w b k cs e];exact g⟩
def H5.setRow{b:Nat}{cs:Array Value}(q:g.G b=0)(z:∃i,g.dl i=some b):H5 w g (w.setRow b cs) g:=by
 refine⟨λp y=>FT w b cs p (λe=>?_),λ_=>Qi _,λ_ _ h=>h,rfl,λ_ _ h=>h,(Hh w b cs).1,λi _ h=> .inl ⟨i,h⟩,λi x h=> .inl ⟨i,x,h,rfl⟩,λk o m u _=>(Hh w b cs).2 k o m (λe=>z.elim λi hi=>u i (by rw[e];exact hi))⟩;subst e;omega
def HQ.store(h:HQ P B w0 m w g){i:Id}{b o:Nat}(hd:g.dl i=some b){vs:Array Value}{T:TypeId}(hh:w.heap[b]?=some (.cells vs T (0,0)))
  {ds:List D} {us:List Value} (hr:AZ w g ds us) (ho:o+ds.length<=vs.size):
  HQ P B w0 (m.put i o ds) (w.setRow b (vs.toList.take o++us++vs.toList.drop (o+us.length)).toArray) g:=by
 obtain⟨hB,hG,eb,T',sa,ua⟩:=h.obj i b hd;rw[hh]at sa;simp only[Qa,Obj.cells.injEq]at sa;obtain⟨rfl,rfl,_⟩:=sa;have x:H5 w g (w.setRow b (vs.toList.take o++us++vs.toList.drop (o+us.length)).toArray) g:=H5.setRow hG ⟨i,hd⟩;have ka:(w.setRow b (vs.toList.take o++us++vs.toList.drop (o+us.length)).toArray).heap.size=w.heap.size:=Yc
 have z:∀k,k≠b->(w.setRow b (vs.toList.take o++us++vs.toList.drop (o+us.length)).toArray).heap[k]?=w.heap[k]?:=λk hk=>setRow_other w b k _ hk
 refine⟨⟨h.below.os,h.below.tape,h.below.output,Yl,λk hk=>(z k O).trans (h.below.block k hk)⟩,Yk,by rw[ka];exact h.gz,h.old,λi' b' hi=>?_,h.inj,λi' o' d hm hn=>?_,λi' e hi=>?_,λi1 i2 e e' b' y y' u h2 h3 h4=>?_,h.itr.to (λi' s p e=>(aCi hr e).1) λi' b' s p _ _ _ e1 e2 e3=>⟨rfl,z b' (λe=>e3 i (by rw[e];exact hd)),e2,e3⟩⟩
 ·by_cases a:i'=i
  ·subst a;rw[hd]at hi;simp only[Qa]at hi;subst hi;refine⟨hB,hG,_,T,setRow_heap w b vs _ T _ hh,λo' d hm=>?_⟩;have ca:us.length=ds.length:=hr.1;by_cases fa:o<=o'∧o'<o+ds.length
   ·have ba:m.put i' o ds i' (o+(o'-o))=ds[o'-o]?:=aE O;rw[show o+(o'-o)=o' by omega]at ba;rw[ba]at hm;have hv:o'-o<us.length:=by omega
    refine⟨us[o'-o],?_,hr.2.1 _ (Q1 hv),(hr.2.2 _ d _ hm (Qc hv)).ext x⟩;have ht:(vs.toList.take o).length=o:=by rw[QT];simp;omega
    simp only[QJ,QL];rw[QG O,ht,Qm hv];exact Qc hv
   ·rw[aD fa]at hm;obtain⟨v,r1,r2,r3⟩:=ua o' d hm;refine⟨v,?_,r2,r3.ext x⟩;have ht:(vs.toList.take o).length=o:=by rw[QT];simp;omega
    simp only[QJ,QL];by_cases t:o'<o
    ·grind
    ·grind
  ·obtain⟨p,q,f,T1,j,r⟩:=h.obj i' b' hi;have ga:b'≠b:=λe=>a (h.inj i' i b' hi (by rw[e];exact hd))
   refine⟨p,q,f,T1,(z b' ga).trans j,λo' d hm=>?_⟩;rw[aA a]at hm;obtain⟨v,r1,r2,r3⟩:=r o' d hm;exact⟨v,r1,r2,r3.ext x⟩
 ·have:i'≠i:=λe=>by subst e;rw[hd]at hn;cases hn
  rw[aA this]at hm;exact h.kind _ _ _ hm hn
 ·have ga:i'≠i:=by
   rintro rfl;by_cases fa:o<=0∧0<o+ds.length
   ·have ba:m.put i' o ds i' (o+(0-o))=ds[0-o]?:=aE O;rw[show o+(0-o)=0 by omega]at ba;rw[ba]at hi;have hv:0-o<us.length:=by have:=hr.1;omega
    have:=hr.2.2 _ _ _ hi (Qc hv);cases this
   ·rw[aD fa]at hi;obtain⟨v,r1,r2,r3⟩:=ua 0 _ hi;cases r3
  rw[aA ga]at hi;obtain⟨b1,n,c,sz,cur,t1,t2,t3,t4,t5,t6,t7,t8,t9,xa⟩:=h.tok i' e hi;exact⟨b1,n,c,sz,cur,t1,t2,t3,t4,(z b1 (λe=>xa i (by rw[e];exact hd))).trans t5,t6,t7,t8,t9,xa⟩
 ·have nt:∀e,m.put i o ds i 0≠some (.tok (e+1)):=by
   intro e hi;by_cases fa:o<=0∧0<o+ds.length
   ·have ba:m.put i o ds i (o+(0-o))=ds[0-o]?:=aE O;rw[show o+(0-o)=0 by omega]at ba;rw[ba]at hi;have hv:0-o<us.length:=by have:=hr.1;omega
    have:=hr.2.2 _ _ _ hi (Qc hv);cases this
   ·rw[aD fa]at hi;obtain⟨v,r1,r2,r3⟩:=ua 0 _ hi;cases r3
  have n1:i1≠i:=λe=>by subst e;exact nt _ u
  have n2:i2≠i:=λe=>by subst e;exact nt _ h2
  rw[aA n1]at u;rw[aA n2]at h2;exact h.tinj _ _ _ _ _ _ _ u h2 h3 h4
end
def Gh.tok(g:Gh)(t:Id)(b n c sz:Nat):Gh:=
 {g with G:=λz=>if z=b then n*sz else g.G z,tb:=λi=>if i=t then some (b,n,c,sz)else g.tb i}
section
variable{P:Program}{B:Nat}{w0 w w':World}{m:HF}{g g':Gh}
def HQ.kill(h:HQ P B w0 m w g){t:Id}(z:g.dl t=none):HQ P B w0 (m.put t 0 [.tok 0]) w g:=by
 have c:∀i o,m.put t 0 [.tok 0] i o=if i=t∧o=0 then some (.tok 0)else m i o:=by
  grind [HF.put]
 refine⟨h.below,h.size,h.gz,h.old,λi b hi=>?_,h.inj,λi o d n x=>?_,λi e hi=>?_,λi1 i2 e e' b y y' u f v j=>?_,h.itr.to (λi s p e=>by rw[c,if_neg U]at e;exact e) λi b s p _ _ _ e1 e2 k=>⟨rfl,rfl,e2,k⟩⟩
 ·obtain⟨p,q,vs,T,a,r⟩:=h.obj i b hi;refine⟨p,q,vs,T,a,λo d n=>?_⟩;rw[c,if_neg (by rintro⟨rfl,_⟩;rw[z]at hi;cases hi)]at n;exact r o d n
 ·rw[c]at n;split at n
  ·rw[←QK n];rfl
  ·exact h.kind _ _ _ n x
 ·rw[c]at hi;split at hi
  ·simp at hi
  ·exact h.tok i e hi
 ·rw[c]at u f;split at u
  ·simp at u
  ·split at f
   ·simp at f
   ·exact h.tinj _ _ _ _ _ _ _ u f v j
def B3.kill{t c:Id}(h:B3 m g t)(p:t≠c):B3 (m.put c 0 [.tok 0]) g t:=
 ⟨λo=>by rw[aA p];exact h.1 o,h.2⟩
theorem BV(m:HF)(t:Id)(x:Nat)(i:Id)(o:Nat):m.put t 0 [.tok x] i o=if i=t∧o=0 then some (.tok x)else m i o:=by
 grind [HF.put]
def H5.newTok{t:Id}{b n c sz:Nat}(o:Obj)(j:∀b,w.heap.size<=b->g.G b=0)(r:g.tb t=none)(f:b=w.heap.size):H5 w g (w.alloc o) (g.tok t b n c sz):=by
 refine⟨λp y=>?_,λz=>?_,λa b h=>h,rfl,λi x h=>?_,U,λi _ h=> .inl ⟨i,h⟩,λi x h=>?_,λk o' m _ _=>(Below.heap_alloc w o k (Qe.1 m).1).trans m⟩
 rotate_right
 ·simp only[Gh.tok]at h;split at h
  ·simp only[Qa]at h;subst h;exact .inr (Nat.le_of_eq f.symm)
  ·exact .inl ⟨i,x,h,rfl⟩
 ·by_cases d:p.block<w.heap.size
  ·exact World.cell?_alloc_lt w o p d
  ·simp_all
 ·grind [Gh.tok]
 ·simp only[Gh.tok];split
  ·rename_i e;subst e;rw[r]at h;cases h
  ·exact h
def HQ.newTok(h:HQ P B w0 m w g){t:Id}(hf:B3 m g t){e n c sz:Nat}{cur:Array Value}(ka:0<sz)
  (hi:∃ti z,P.info? e=some ti∧ti.size=sz∧ti.zero=some z∧z.cells.size=sz) (wa:n<=c) (hc:c<=maxLen) (a:cur.size=c*sz):
  HQ P B w0 (m.put t 0 [.tok (e+1)]) (w.alloc (.cells cur e)) (g.tok t w.heap.size n c sz):=by
 have x:=H5.newTok (t:=t) (n:=n) (c:=c) (sz:=sz) (Obj.cells cur e) h.gz hf.2.2 rfl;refine⟨h.below.alloc h.size _,Yw,λb hb=>?_,λb ea=>by simp only[Gh.tok];rw[if_neg (by have:=h.size;omega)];exact h.old b ea,λi b u=>?_,h.inj,λi o d j hn=>?_,λi e' u=>?_,λi1 i2 e1 e2 b y y' k f h3 h4=>?_,h.itr.to (λi s p e=>by rw[BV,if_neg U]at e;exact e) λi b s p e0 _ _ e1 e2 e3=>?_⟩
 rotate_right
 ·have ea:b<w.heap.size:=(Qe.1 e1).1;have ca:i≠t:=by rintro rfl;rw[hf.1 1]at e0;cases e0
  exact⟨by simp[Gh.tok,ca],Below.heap_alloc w _ b ea,by simp only[Gh.tok];rw[if_neg O];exact e2,e3⟩
 ·simp only[Gh.tok];simp at hb;rw[if_neg O];exact h.gz b O
 ·obtain⟨p,q,vs,T,hh,r⟩:=h.obj i b u;have ea:=h.lt u;refine⟨p,by simp only[Gh.tok];rw[if_neg O];exact q,vs,T,(Below.heap_alloc w _ b ea).trans hh,λo d j=>?_⟩;rw[BV,if_neg (by rintro⟨rfl,_⟩;simp only[Gh.tok]at u;rw[hf.2.1]at u;cases u)]at j;obtain⟨v,r1,r2,r3⟩:=r o d j;exact⟨v,r1,r2,r3.ext x⟩
 ·rw[BV]at j;split at j
  ·rw[←QK j];rfl
  ·exact h.kind _ _ _ j hn
 ·rw[BV]at u;split at u
  ·rename_i oa;obtain⟨rfl,_⟩:=oa;simp only[Qa,D.tok.injEq,Ze]at u;subst u;refine⟨w.heap.size,n,c,sz,cur,Xl,h.size,ka,hi,heap_alloc_new w _,wa,hc,a,Xl,λi' h'=>?_⟩;have:=h.lt h';omega
  ·rename_i ga;obtain⟨b,n',c',pa,na,t1,t2,t3,t4,t5,t6,t7,t8,t9,xa⟩:=h.tok i e' u;have ea:b<w.heap.size:=(Qe.1 t5).1;have ca:i≠t:=by
    simp_all
   exact⟨b,n',c',pa,na,by simp[Gh.tok,ca,t1],t2,t3,t4,(Below.heap_alloc w _ b ea).trans t5,t6,t7,t8,by simp only[Gh.tok];rw[if_neg O];exact t9,xa⟩
 ·have ha:∀i e,m i 0=some (.tok (e+1))->∀b y,(g.tok t w.heap.size n c sz).tb i=some (b,y)->i≠t∧g.tb i=some (b,y)∧b<w.heap.size:=by
   intro i e j b y hb;have ca:i≠t:=by rintro rfl;rw[hf.1 0]at j;cases j
   simp only[Gh.tok,if_neg ca]at hb;obtain⟨b',n',c',pa,na,t1,t2,t3,t4,t5,_⟩:=h.tok i e j;rw[t1]at hb;simp only[Qa,Qd]at hb;obtain⟨rfl,rfl⟩:=hb;exact⟨ca,t1,(Qe.1 t5).1⟩
  rw[BV]at k f;split at k<;>split at f
  ·simp_all
  ·grind [Gh.tok]
  ·grind [Gh.tok]
  ·obtain⟨_,k3,_⟩:=ha _ _ k _ _ h3;obtain⟨_,k4,_⟩:=ha _ _ f _ _ h4;exact h.tinj _ _ _ _ _ _ _ k f k3 k4
def H5.inPlace{t:Id}{b n n' c sz:Nat}{cur na:Array Value}{T:TypeId}{fr:Nat×Nat}(r:g.tb t=none)(hG:g.G b=n*sz)(v:n<=n')
  (hh:w.heap[b]?=some (.cells cur T fr)) (qa:∀j,j<n*sz->na[j]?=cur[j]?) (q:∃j y,g.tb j=some y∧y.1=b):H5 w g (w.setRow b na) (g.tok t b n' c sz):=by
 refine⟨λp s=>?_,λb'=>?_,λi' b h=>h,rfl,λi x h=>?_,(Hh w b na).1,λi _ h=> .inl ⟨i,h⟩,λi x h=>?_,λk o m _ f=>(Hh w b na).2 k o m (λe=>q.elim λj z=>z.elim λy d=>f j y d.1 (by rw[e];exact d.2))⟩
 rotate_right
 ·simp only[Gh.tok]at h;split at h
  ·simp only[Qa]at h;subst h;exact .inl q
  ·exact .inl ⟨i,x,h,rfl⟩
 ·by_cases a:p.block=b
  ·have u:(w.setRow b na).heap[p.block]?=some (.cells na T fr):=by rw[a];exact setRow_heap w b cur na T fr hh
   have f:w.heap[p.block]?=some (.cells cur T fr):=by rw[a];exact hh
   simp only[World.cell?,u,f];split
   ·rfl
   ·simp_all
  ·grind [FT]
 ·simp only[Gh.tok];split
  ·rename_i e;subst e;rw[hG];exact QB _ v
  ·exact Qi _
 ·grind [Gh.tok]
def HQ.inPlace(h:HQ P B w0 m w g){t0 t:Id}(hf:B3 m g t){e b n n' c sz:Nat}{cur na:Array Value}(h0:m t0 0=some (.tok (e+1)))
  (u:g.tb t0=some (b,n,c,sz)) (hn:n<=n') (hc:n'<=c) (hh:w.heap[b]?=some (.cells cur e (0,0))) (hs:na.size=cur.size)
  (qa:∀j,j<n*sz->na[j]?=cur[j]?):
  HQ P B w0 ((m.put t0 0 [.tok 0]).put t 0 [.tok (e+1)]) (w.setRow b na) (g.tok t b n' c sz):=by
 obtain⟨b0,n0,c0,la,ia,u1,u2,u3,u4,u5,u6,u7,u8,u9,z⟩:=h.tok t0 e h0;rw[u]at u1;simp only[Qa,Qd]at u1;obtain⟨rfl,rfl,rfl,rfl⟩:=u1;rw[hh]at u5;simp only[Qa,Obj.cells.injEq,and_true]at u5;subst u5;have x:H5 w g (w.setRow b na) (g.tok t b n' c sz):=H5.inPlace hf.2.2 u9 hn hh qa ⟨t0,_,u,rfl⟩;have ka:(w.setRow b na).heap.size=w.heap.size:=Yc
 have a:b<w.heap.size:=(Qe.1 hh).1;have aa:∀k,k≠b->(w.setRow b na).heap[k]?=w.heap[k]?:=λk hk=>setRow_other w b k na hk
 have ta:t≠t0:=by rintro rfl;rw[hf.1 0]at h0;cases h0
 have ba:∀i o,((m.put t0 0 [.tok 0]).put t 0 [.tok (e+1)]) i o=if i=t∧o=0 then some (.tok (e+1))else if i=t0∧o=0 then some (.tok 0)else m i o:=by
  grind [BV]
 have ja:g.dl t0=none:=by
  cases hd:g.dl t0 with
  |none=>rfl
  |some b'=>
   obtain⟨_,_,vs,T,_,r⟩:=h.obj t0 b' hd;obtain⟨v,_,_,r3⟩:=r 0 _ h0;cases r3
 refine⟨⟨h.below.os,h.below.tape,h.below.output,Yl,λk hk=>(aa k O).trans (h.below.block k hk)⟩,Yk,λb' wa=>?_,λb' ea=>by simp only[Gh.tok];rw[if_neg O];exact h.old b' ea,λi b' hi=>?_,h.inj,λi o d hm hd=>?_,λi e' hi=>?_,λi1 i2 e1 e2 b' y y' h1 h2 h3 h4=>?_,h.itr.to (λi s p e=>by rw[ba,if_neg U,if_neg U]at e;exact e) λi b' s p e0 _ _ e1 e2 e3=>?_⟩
 rotate_right
 ·have ga:b'≠b:=by rintro rfl;rw[hh]at e1;cases e1
  have ca:i≠t:=by rintro rfl;rw[hf.1 1]at e0;cases e0
  exact⟨by simp[Gh.tok,ca],aa b' ga,by simp only[Gh.tok];rw[if_neg ga];exact e2,e3⟩
 ·rw[ka]at wa;simp only[Gh.tok];rw[if_neg O];exact h.gz b' wa
 ·obtain⟨p,q,vs,T,sa,r⟩:=h.obj i b' hi;have ga:b'≠b:=λe=>z i (by rw[←e];exact hi)
  refine⟨p,by simp[Gh.tok,ga,q],vs,T,(aa b' ga).trans sa,λo d hm=>?_⟩;rw[ba,if_neg (by rintro⟨rfl,_⟩;have h':=hf.2.1;simp only[Gh.tok]at hi;rw[h']at hi;cases hi),if_neg (by rintro⟨rfl,_⟩;simp only[Gh.tok]at hi;rw[ja]at hi;cases hi)]at hm;obtain⟨v,r1,r2,r3⟩:=r o d hm;exact⟨v,r1,r2,r3.ext x⟩
 ·rw[ba]at hm;split at hm
  ·rw[←QK hm];rfl
  ·split at hm
   ·rw[←QK hm];rfl
   ·exact h.kind _ _ _ hm hd
 ·rw[ba]at hi;split at hi
  ·rename_i oa;obtain⟨rfl,_⟩:=oa;simp only[Qa,D.tok.injEq,Ze]at hi;subst hi;exact⟨b,n',c,sz,na,Xl,u2,u3,u4,setRow_heap w b cur na e _ hh,hc,u7,by rw[hs];exact u8,Xl,z⟩
  ·split at hi
   ·simp at hi
   ·rename_i n1 n2;obtain⟨b1,f,c1,l,da,t1,t2,t3,t4,t5,t6,t7,t8,t9,xa⟩:=h.tok i e' hi;have ca:i≠t:=by rintro rfl;rw[hf.1 0]at hi;cases hi
    have fa:b1≠b:=by
     rintro rfl;have:=h.tinj i t0 e' e b1 _ _ hi h0 t1 u;subst this;simp at n2
    exact⟨b1,f,c1,l,da,by simp[Gh.tok,ca,t1],t2,t3,t4,(aa b1 fa).trans t5,t6,t7,t8,by simp[Gh.tok,fa,t9],xa⟩
 ·have ha:∀i e',m i 0=some (.tok (e'+1))->i≠t0->∀b' y,(g.tok t b n' c sz).tb i=some (b',y)->i≠t∧g.tb i=some (b',y)∧b'≠b:=by
   intro i e' hm va b' y hb;have ca:i≠t:=by rintro rfl;rw[hf.1 0]at hm;cases hm
   simp only[Gh.tok,if_neg ca]at hb;refine⟨ca,hb,?_⟩;rintro rfl;exact va (h.tinj i t0 e' e b' _ _ hm h0 hb u)
  rw[ba]at h1 h2;split at h1
  ·grind [Gh.tok]
  ·split at h1
   ·simp at h1
   ·rename_i p q;split at h2
    ·grind [Gh.tok]
    ·split at h2
     ·simp at h2
     ·rename_i r s;obtain⟨_,k3,_⟩:=ha _ _ h1 (λe=>q ⟨e,rfl⟩) _ _ h3;obtain⟨_,k4,_⟩:=ha _ _ h2 (λe=>s ⟨e,rfl⟩) _ _ h4;exact h.tinj _ _ _ _ _ _ _ h1 h2 k3 k4
end
end Go.Vd
namespace Go.Vd
inductive HJ where
 |t (n:Nat)
 |c (d:D)
def HJ.ev(s:Nat->D):HJ->D
 | .t n=>s n
 | .c d=>d
abbrev HN:=List (Id×Nat×List D)
def HN.app(m:HF):HN->HF
 |[]=>m
 |(i,o,ds)::u=>HN.app (m.put i o ds) u
structure Il where
 rd:List D->HF->List (Id×Nat)
 ex:List D->HF->Id->Option (D×HN)
abbrev HD:=FuncId->Option Il
inductive DOp where
 |mv (x:HJ)
 |pick (c a b:HJ)
 |alloc (zs:List D)
 |box (x:HJ)
 |build (zs:List D) (parts:List (Nat×Nat×HJ))
 |bslice (e sz:Nat) (parts:List HJ)
 |load (k:Option Nat) (x:HJ)
 |store (n:Nat) (x v:HJ)
 |nilchk (x:HJ)
 |bin (op:BinOp) (x y:HJ)
 |beq (ne:Bool) (x y:HJ)
 |seq (ne:Bool) (offs:List (Nat×Nat)) (x y:HJ)
 |nileq (ne:Bool) (k:Nat) (x y:HJ)
 |un (op:UnOp) (x:HJ)
 |conv (k:IntKind) (x:HJ)
 |s2s (x:HJ)
 |s2b (x:HJ)
 |b2s (x:HJ)
 |faddr (off:Nat) (x:HJ)
 |field (k:Option Nat) (off:Nat) (x:HJ)
 |iaddr (sz:Nat) (x i:HJ)
 |idxs (x i:HJ)
 |idxa (len:Nat) (x i:HJ)
 |idxm (len sz:Nat) (x i:HJ)
 |mxm (mx:Bool) (x y:HJ)
 |iadda (len sz:Nat) (x i:HJ)
 |cuts (x:HJ) (lo hi:Option HJ)
 |cutl (sz:Nat) (x:HJ) (lo hi:Option HJ)
 |mkif (t:TypeId) (x:HJ)
 |tass (t:TypeId) (ok:Bool) (z:D) (x:HJ)
 |ext (i:Nat) (x:HJ)
 |mkfn (f:FuncId) (caps:List HJ)
 |len (isStr:Bool) (x:HJ)
 |app (e sz bytes:Nat) (x y:HJ)
 |mksl (e sz bytes:Nat) (z:D) (n c:HJ)
 |range (x:HJ)
 |next (x:HJ)
 |call (f:HJ) (xs:List HJ)
 |stop
def D.data:D->Bool
 | .junk| .tok _| .tup _| .it _ _=>false
 |_=>true
def Ag(m:HF)(i:Id):Nat->Nat->Option (List D)
 |_,0=>some []
 |o,n+1=>match m i o with
  |some d=>(Ag m i (o+1) n).map (d::·)
  |none=>none
def F_(cs:List D)(off:Nat)(ds:List D):List D:=cs.take off++ds++cs.drop (off+ds.length)
def Cj:List D->List (Nat×Nat×D)->Option (List D)
 |cs,[]=>some cs
 |cs,(off,sz,d)::r=>if d.data=true∧d.cells.length=sz∧off+sz<=cs.length then Cj (F_ cs off d.cells) r else none
def AP(op:BinOp)(x y:D):Option D:=
 match x,y with
 | .int k a,.int k' b=>
  match op with
  | .shl=>if 0<=b then some (.int k (k.wrap (a*2 ^ min b.toNat k.bits)))else none
  | .shr=>if 0<=b then some (.int k (a.fdiv (2 ^ min b.toNat k.bits)))else none
  |op=>if k≠k' then none else match op with
   | .add=>some (.int k (k.wrap (a+b)))
   | .sub=>some (.int k (k.wrap (a-b)))
   | .mul=>some (.int k (k.wrap (a*b)))
   | .quo=>if b=0 then none else some (.int k (k.wrap (a.tdiv b)))
   | .rem=>if b=0 then none else some (.int k (a.tmod b))
   | .and=>some (.int k (bits .and k a b))
   | .or=>some (.int k (bits .or k a b))
   | .xor=>some (.int k (bits .xor k a b))
   | .andNot=>some (.int k (bits .andNot k a b))
   | .eql=>some (.bool (a==b))
   | .neq=>some (.bool (a !=b))
   | .lss=>some (.bool (a<b))
   | .leq=>some (.bool (a<=b))
   | .gtr=>some (.bool (a>b))
   | .geq=>some (.bool (a≥b))
   |_=>none
 | .str a,.str b=>
  match op with
  | .add=>if a.length+b.length<=9223372036854775807 then some (.str (a++b))else none
  | .eql=>some (.bool (a==b))
  | .neq=>some (.bool (!(a==b)))
  | .lss=>some (.bool (Op.bytesLess a b))
  | .leq=>some (.bool (Op.bytesLess a b||a==b))
  | .gtr=>some (.bool (!(Op.bytesLess a b||a==b)))
  | .geq=>some (.bool (!(Op.bytesLess a b)))
  |_=>none
 |_,_=>none
def zL(op:UnOp)(x:D):Option D:=
 match op,x with
 | .neg,.int k n=>some (.int k (k.wrap (0-n)))
 | .not,.bool b=>some (.bool (!b))
 | .xor,.int k n=>some (.int k (bits .xor k (if k.signed then-1 else k.max) n))
 |_,_=>none
def ME:Nat->D->D->Option Bool
 |0,.int k a,.int k' b=>if k=k' then some (a==b)else none
 |1,.bool a,.bool b=>some (a==b)
 |2,.str a,.str b=>some (a==b)
 |_,_,_=>none
def Bn(xs ys:List D):List (Nat×Nat)->Option Bool
 |[]=>some true
 |(k,o)::r=>match xs[o]?,ys[o]? with
  |some x,some y=>match ME k x y with
   |some true=>Bn xs ys r
   |some false=>some false
   |none=>none
  |_,_=>none
def Nl:Nat->D->D->Option Bool
 |0,.slice n _ _,.slice true _ _=>some n
 |0,.slice true _ _,.slice n _ _=>some n
 |1,.nilptr,.nilptr=>some true
 |1,.nilptr,.ptr _ _=>some false
 |1,.ptr _ _,.nilptr=>some false
 |1,.nilptr,.eptr _=>some false
 |1,.eptr _,.nilptr=>some false
 |2,.nilIface,.nilIface=>some true
 |2,.nilIface,.iface _ _=>some false
 |2,.iface _ _,.nilIface=>some false
 |3,.nilFunc,.nilFunc=>some true
 |3,.nilFunc,.fn _ _=>some false
 |3,.fn _ _,.nilFunc=>some false
 |_,_,_=>none
def AF(s:List UInt8):List D:=s.map λb=> .int .u8 b.toNat
def BO:List D->Option (List UInt8)
 |[]=>some []
 | .int .u8 n::r=>(BO r).map (UInt8.ofNat n.toNat::·)
 |_=>none
def mW:Bool->D->Option Nat
 |true,.str s=>some s.length
 |false,.slice _ _ xs=>some xs.length
 |false,.row _ n=>some n
 |_,_=>none
def Gc(s:Nat->D)(x:Option HJ)(b:Nat)(j:Nat):Option Nat:=
 match x with
 |none=>some b
 |some a=>match a.ev s with
  | .int _ n=>if 0<=n∧n<=j then some n.toNat else none
  |_=>none
def aF:List D->Nat->Nat
 |[],k=>k
 |d::_,_=>d.cells.length
def Lz(sz:Nat):D->Option (List D)
 | .slice _ _ ys=>some ys
 | .str b=>if sz=1 then some (AF b)else none
 |_=>none
def exec(S:HD)(s:Nat->D)(m:HF)(fr:Id):DOp->Option (D×HN)
 | .mv x=>some (x.ev s,[])
 | .pick c a b=>match c.ev s with
  | .bool t=>some (if t then a.ev s else b.ev s,[])
  |_=>none
 | .alloc zs=>some (.ptr fr 0,[(fr,0,zs)])
 | .box x=>if(x.ev s).data then some (.ptr fr 0,[(fr,0,(x.ev s).cells)])else none
 | .build zs parts=>(Cj zs (parts.map λp=>(p.1,p.2.1,p.2.2.ev s))).map λcs=>(.agg cs,[])
 | .bslice e sz parts=>
  if(parts.all λp=>(p.ev s).data&&(p.ev s).cells.length==sz&&(p.ev s).un.calm)then some (.slice false fr (parts.map λp=>(p.ev s).un),[(fr,0,[.tok (e+1)])])else none
 | .load k x=>match x.ev s,k with
  | .ptr i o,none=>(m i o).map λd=>(d,[])
  | .ptr i o,some n=>(Ag m i o n).map λds=>(.agg ds,[])
  | .eptr ds,none=>ds.head?.map λd=>(d,[])
  | .eptr ds,some n=>if n<=ds.length then some (.agg (ds.take n),[])else none
  |_,_=>none
 | .store n x v=>match x.ev s with
  | .ptr i o=>if(v.ev s).data=true∧(v.ev s).cells.length=n∧(Ag m i o n).isSome=true then some (.junk,[(i,o,(v.ev s).cells)])else none
  |_=>none
 | .nilchk x=>match x.ev s with
  | .ptr i o=>some (.ptr i o,[])
  | .eptr ds=>some (.eptr ds,[])
  | .fn f cs=>some (.fn f cs,[])
  |_=>none
 | .bin op x y=>(AP op (x.ev s) (y.ev s)).map λd=>(d,[])
 | .beq ne x y=>match x.ev s,y.ev s with
  | .bool a,.bool b=>some (.bool ((a==b)!=ne),[])
  |_,_=>none
 | .seq ne offs x y=>match x.ev s,y.ev s with
  | .agg xs,.agg ys=>(Bn xs ys offs).map λb=>(.bool (b !=ne),[])
  |_,_=>none
 | .nileq ne k x y=>(Nl k (x.ev s) (y.ev s)).map λb=>(.bool (b !=ne),[])
 | .un op x=>(zL op (x.ev s)).map λd=>(d,[])
 | .conv k x=>match x.ev s with
  | .int _ n=>some (.int k (k.wrap n),[])
  |_=>none
 | .s2s x=>match x.ev s with
  | .str b=>some (.str b,[])
  |_=>none
 | .s2b x=>match x.ev s with
  | .str b=>some (.slice false [] (AF b),[])
  |_=>none
 | .b2s x=>match x.ev s with
  | .slice _ _ xs=>(BO xs).map λb=>(.str b,[])
  |_=>none
 | .faddr off x=>match x.ev s with
  | .ptr i o=>some (.ptr i (o+off),[])
  | .eptr ds=>if off<=ds.length then some (.eptr (ds.drop off),[])else none
  |_=>none
 | .field k off x=>match x.ev s,k with
  | .agg cs,none=>cs[off]?.map λd=>(d,[])
  | .agg cs,some n=>if off+n<=cs.length then some (.agg ((cs.drop off).take n),[])else none
  |_,_=>none
 | .iaddr sz x i=>match x.ev s,i.ev s with
  | .slice _ _ xs,.int _ n=>if 0<=n then match xs[n.toNat]? with
   |some d=>if d.cells.length=sz then some (.eptr d.cells,[])else none
   |none=>none
   else none
  | .row i l,.int _ n=>if 0<=n∧n<(l:Int)then some (.ptr i (if sz=1 then n.toNat else n.toNat*sz),[])else none
  |_,_=>none
 | .idxs x i=>match x.ev s,i.ev s with
  | .str b,.int _ n=>if 0<=n then(b[n.toNat]?).map λc=>(.int .u8 c.toNat,[])else none
  |_,_=>none
 | .iadda len sz x i=>match x.ev s,i.ev s with
  | .ptr j o,.int _ n=>if 0<=n∧n<(len:Int)then some (.ptr j (o+n.toNat*sz),[])else none
  |_,_=>none
 | .idxm len sz x i=>match x.ev s,i.ev s with
  | .agg cs,.int _ n=>if 0<=n∧n<(len:Int)∧n.toNat*sz+sz<=cs.length then some (.agg ((cs.drop (n.toNat*sz)).take sz),[])else none
  |_,_=>none
 | .mxm mx x y=>match x.ev s,y.ev s with
  | .int k a,.int _ b=>some (.int k (if mx=true then max a b else min a b),[])
  |_,_=>none
 | .idxa len x i=>match x.ev s,i.ev s with
  | .agg cs,.int _ n=>if 0<=n∧n<(len:Int)then(cs[n.toNat]?).map λd=>(d,[])else none
  |_,_=>none
 | .cuts x lo hi=>match x.ev s with
  | .str b=>match Gc s hi b.length b.length with
   |some h=>match Gc s lo 0 h with
    |some l=>some (.str ((b.drop l).take (h-l)),[])
    |none=>none
   |none=>none
  |_=>none
 | .cutl sz x lo hi=>match x.ev s with
  | .slice nl _ xs=>if aF xs sz=sz then match Gc s hi xs.length xs.length with
   |some h=>match Gc s lo 0 h with
    |some l=>some (.slice nl [] ((xs.drop l).take (h-l)),[])
    |none=>none
   |none=>none
   else none
  |_=>none
 | .mkif t x=>if(x.ev s).data=true∧(x.ev s).un.calm=true then some (.iface t (x.ev s).un,[])else none
 | .tass t ok z x=>match x.ev s with
  | .iface t' d=>if t'=t then some (if ok then .tup [d,.bool true]else d,[])else if ok then some (.tup [z,.bool false],[])else none
  | .nilIface=>if ok then some (.tup [z,.bool false],[])else none
  |_=>none
 | .ext i x=>match x.ev s with
  | .tup vs=>vs[i]?.map λd=>(d,[])
  |_=>none
 | .mkfn f caps=>some (.fn f (caps.map (·.ev s)),[])
 | .len k x=>(mW k (x.ev s)).map λ(n:Nat)=>(.int .i64 (n:Int),[])
 | .stop=>none
 | .app e sz bytes x y=>match x.ev s,Lz sz (y.ev s)with
  | .slice nl t xs,some ys=>
   if nl=true∧ys=[]then some (.slice true [] [],[])
   else if(xs.length+ys.length)*(bytes+1)<=140737488355328∧aF ys sz=sz then
    if nl=true then some (.slice false fr ys,[(fr,0,[.tok (e+1)])])
    else match m t 0 with
     |some (.tok k)=>if k=e+1∧t≠[]then some (.slice false fr (xs++ys),[(t,0,[.tok 0]),(fr,0,[.tok (e+1)])])else none
     |_=>none
   else none
  |_,_=>none
 | .mksl e sz bytes z n c=>match n.ev s,c.ev s with
  | .int _ n,.int _ c=>if 0<=n∧n<=c∧c*(bytes+1)<=140737488355328∧z.cells.length=sz then(if z.isRw=true then(if n=c then some (.row fr n.toNat,[(fr,0,Qz n.toNat z)])else none)
   else some (.slice false fr (Qz n.toNat z),[(fr,0,[.tok (e+1)])]))else none
  |_,_=>none
 | .range x=>match x.ev s with
  | .str b=>some (.itp fr,[(fr,1,[.it b 0])])
  |_=>none
 | .next x=>match x.ev s with
  | .itp i=>match m i 1 with
   |some (.it b u)=>if u<b.length then
     some (.tup [.bool true,.int .i64 (u:Nat),.int .i32 (Utf8.decode ⟨b.toArray⟩ u).1],[(i,1,[.it b (u+(Utf8.decode ⟨b.toArray⟩ u).2)])])
    else some (.tup [.bool false],[])
   |_=>none
  |_=>none
 | .call f xs=>match f.ev s with
  | .fn f caps=>match S f with
   |some q=>q.ex (xs.map (·.ev s)++caps) m fr
   |none=>none
  |_=>none
def ofLeaf:Value->Option D
 | .bool b=>some (.bool b)
 | .int k n=>some (.int k n)
 | .string s=>some (.str s.data.toList)
 | .slice none 0 0=>some (.slice true [] [])
 | .pointer none=>some .nilptr
 | .nilIface=>some .nilIface
 | .nilFunc=>some .nilFunc
 | .map none=>some .nilMap
 |_=>none
def ofLeaves:List Value->Option (List D)
 |[]=>some []
 |v::r=>match ofLeaf v,ofLeaves r with
  |some d,some ds=>some (d::ds)
  |_,_=>none
def ofVal:Value->Option D
 | .agg cs=>(ofLeaves cs.toList).map .agg
 |v=>ofLeaf v
def AD:Operand->Option HJ
 | .tmp t=>some (.t t)
 | .const v=>(ofVal v).map .c
 | .func f=>some (.c (.fn f []))
 | .global _=>none
def Ef:List Operand->Option (List HJ)
 |[]=>some []
 |x::r=>match AD x,Ef r with
  |some a,some l=>some (a::l)
  |_,_=>none
def I2:Option Operand->Option (Option HJ)
 |none=>some none
 |some x=>(AD x).map some
def CY(P:Program)(t:TypeId):Option Nat:=(P.info? t).map (·.size)
def sS(P:Program)(t:TypeId):Option (Option Nat):=
 match P.underlying t with
 |some (.struct _)|some (.array _ _)=>(CY P t).map some
 |some _=>some none
 |none=>none
def C9(P:Program)(t:TypeId):Option D:=
 match P.info? t with
 |some i=>match i.zero with
  |some z=>ofVal z
  |none=>none
 |none=>none
def Lt(P:Program)(e:TypeId):Option (Nat×Nat):=
 match P.info? e with
 |some i=>match i.zero with
  |some z=>if 0<i.size∧z.cells.size=i.size then some (i.size,i.bytes)else none
  |none=>none
 |none=>none
def Ls{P:Program}{e sz bytes:Nat}(h:Lt P e=some (sz,bytes)):
  0<sz∧∃i z,P.info? e=some i∧i.size=sz∧i.zero=some z∧z.cells.size=sz∧i.bytes=bytes:=by
 unfold Lt at h;split at h
 ·grind
 ·cases h
def Dx(P:Program)(w:Array Field):List (Nat×Operand)->Option (List (Nat×Nat×HJ))
 |[]=>some []
 |(i,x)::r=>match w[i]?,AD x,Dx P w r with
  |some f,some y,some l=>match CY P f.type with
   |some n=>some ((f.offset,n,y)::l)
   |none=>none
  |_,_,_=>none
def gD(P:Program)(r:List Field):Bool:=r.all λf=>(CY P f.type).isSome
def MP(P:Program):List Field->Option (List (Nat×Nat))
 |[]=>some []
 |f::r=>if f.name= "_" then none else match P.underlying f.type,MP P r with
  |some (.int _),some l=>some ((0,f.offset)::l)
  |some .bool,some l=>some ((1,f.offset)::l)
  |some .string,some l=>some ((2,f.offset)::l)
  |_,_=>none
def F8(P:Program):List Field->Option (List (Nat×Nat))
 |[]=>some []
 |f::r=>if f.name= "_" then none else match P.underlying f.type,F8 P r with
  |some (.int _),some l=>some ((0,f.offset)::l)
  |some .bool,some l=>some ((1,f.offset)::l)
  |some .string,some l=>some ((2,f.offset)::l)
  |some (.struct fs),some l=>match CY P f.type,MP P fs.toList with
   |some n,some l2=>if P.stoodInHeld f.type=false∧(l2.all λp=>decide (p.2<n))=true then some ((l2.map λp=>(p.1,f.offset+p.2))++l)else none
   |_,_=>none
  |_,_=>none
def Hn:Operand->Bool
 | .const _=>true
 |_=>false
def aBF(P:Program)(ne:Bool)(t:TypeId)(x y:Operand)(a b:HJ):Option DOp:=
 match P.underlying t with
 |some .bool=>some (.beq ne a b)
 |some (.int _)|some .string=>some (.bin (if ne then .neq else .eql) a b)
 |some (.struct fs)=>if P.stoodInHeld t=false∧P.eqGuardType P.depth t=false then(F8 P fs.toList).map λl=> .seq ne l a b else none
 |some (.slice _)=>some (.nileq ne 0 a b)
 |some (.pointer _)=>some (.nileq ne 1 a b)
 |some (.func ..)=>some (.nileq ne 3 a b)
 |some (.interface _)=>if Hn x||Hn y then some (.nileq ne 2 a b)else none
 |_=>none
def isStr(P:Program)(u:TypeId):Bool:=match P.underlying u with
 |some .string=>true
 |_=>false
def nF{P:Program}{u:TypeId}(h:isStr P u=true):P.underlying u=some .string:=by
 grind [isStr]
def RD(P:Program)(c:Call):Option DOp:=
 match c.callee with
 | .value f=>match AD f,Ef c.args.toList with
  |some g,some xs=>some (.call g xs)
  |_,_=>none
 | .builtin .len=>match c.args.toList,c.argTypes.toList with
  |[x],[t]=>match P.underlying t with
   |some .string=>(AD x).map (.len true)
   |some (.slice _)=>(AD x).map (.len false)
   |_=>none
  |_,_=>none
 | .builtin .append=>match c.args.toList,c.argTypes.toList with
  |[x,y],[t,u]=>if u=t∨isStr P u=true then match P.underlying t with
   |some (.slice e)=>match Lt P e,AD x,AD y with
    |some (sz,bytes),some a,some b=>some (.app e sz bytes a b)
    |_,_,_=>none
   |_=>none
   else none
  |_,_=>none
 | .builtin .max=>match c.args.toList with
  |[x,y]=>match AD x,AD y with
   |some a,some b=>some (.mxm true a b)
   |_,_=>none
  |_=>none
 | .builtin .min=>match c.args.toList with
  |[x,y]=>match AD x,AD y with
   |some a,some b=>some (.mxm false a b)
   |_,_=>none
  |_=>none
 |_=>none
def GI(sz:Nat):List (Nat×Operand)->Option (List (Nat×Nat×HJ))
 |[]=>some []
 |(i,x)::r=>match AD x,GI sz r with
  |some a,some l=>some ((i*sz,sz,a)::l)
  |_,_=>none
def tr(P:Program)(op:Op):Option DOp:=
 match op with
 | .move x| .assign x=>(AD x).map .mv
 | .pick c a b=>match AD c,AD a,AD b with
  |some c,some a,some b=>some (.pick c a b)
  |_,_,_=>none
 | .alloc t=>(C9 P t).map λd=> .alloc d.cells
 | .box _ x=>(AD x).map .box
 | .build t parts=>match P.underlying t,C9 P t with
  |some (.struct fields),some (.agg zs)=>if gD P fields.toList=true then(Dx P fields parts.toList).map λl=> .build zs l else none
  |some (.array _ e),some (.agg zs)=>match CY P e with
   |some sz=>(GI sz parts.toList).map λl=> .build zs l
   |none=>none
  |_,_=>none
 | .buildSlice t len parts=>match P.underlying t with
  |some (.slice e)=>match Lt P e,Ef (parts.toList.map (·.2))with
   |some (sz,_),some l=>if parts.toList.map (·.1)=Qt len∧len*sz<=2 ^ 24 then some (.bslice e sz l)else none
   |_,_=>none
  |_=>none
 | .load t x=>match sS P t,AD x with
  |some k,some x=>some (.load k x)
  |_,_=>none
 | .store t x v=>match CY P t,AD x,AD v with
  |some (n+1),some x,some v=>some (.store (n+1) x v)
  |_,_,_=>none
 | .nilCheck x=>(AD x).map .nilchk
 | .binOp .eql t x y _=>match AD x,AD y with
  |some a,some b=>aBF P false t x y a b
  |_,_=>none
 | .binOp .neq t x y _=>match AD x,AD y with
  |some a,some b=>aBF P true t x y a b
  |_,_=>none
 | .binOp op _ x y _=>match AD x,AD y with
  |some a,some b=>some (.bin op a b)
  |_,_=>none
 | .unOp op _ x=>(AD x).map (.un op)
 | .convert src dst x=>match P.underlying src,P.underlying dst,AD x with
  |some (.int _),some (.int k),some x=>some (.conv k x)
  |some .string,some .string,some x=>some (.s2s x)
  |some .string,some (.slice e),some x=>match P.underlying e with
   |some (.int .u8)=>some (.s2b x)
   |_=>none
  |some (.slice e),some .string,some x=>match P.underlying e with
   |some (.int .u8)=>some (.b2s x)
   |_=>none
  |_,_,_=>none
 | .fieldAddr t x f=>match P.underlying t,AD x with
  |some (.struct fields),some x=>match fields[f]? with
   |some o=>match CY P o.type with
    |some (_+1)=>some (.faddr o.offset x)
    |_=>none
   |none=>none
  |_,_=>none
 | .field t x f=>match P.underlying t,AD x with
  |some (.struct fields),some x=>match fields[f]? with
   |some o=>(sS P o.type).map λk=> .field k o.offset x
   |none=>none
  |_,_=>none
 | .indexAddr t x i=>match P.underlying t,AD x,AD i with
  |some (.slice e),some x,some i=>(CY P e).map λn=> .iaddr n x i
  |some (.array len e),some x,some i=>(CY P e).map λn=> .iadda len n x i
  |_,_,_=>none
 | .index t x i=>match P.underlying t,AD x,AD i with
  |some .string,some x,some i=>some (.idxs x i)
  |some (.array len e),some x,some i=>match sS P e with
   |some none=>if CY P e=some 1 then some (.idxa len x i)else none
   |some (some sz)=>some (.idxm len sz x i)
   |none=>none
  |_,_,_=>none
 | .slice t x lo hi none=>match P.underlying t,AD x,I2 lo,I2 hi with
  |some .string,some x,some l,some h=>some (.cuts x l h)
  |some (.slice e),some x,some l,some h=>(CY P e).map λn=> .cutl n x l h
  |_,_,_,_=>none
 | .makeInterface t x=>match P.underlying t,AD x with
  |some (.interface _),_=>none
  |some _,some x=>some (.mkif t x)
  |_,_=>none
 | .typeAssert x _ t ok=>match P.underlying t,C9 P t,AD x with
  |some (.interface _),_,_=>none
  |some _,some z,some x=>some (.tass t ok z x)
  |_,_,_=>none
 | .extract x i=>(AD x).map (.ext i)
 | .makeFunc (.func f) first caps=>match first.toList,Ef caps.toList with
  |[],some l=>some (.mkfn f l)
  |_,_=>none
 | .makeSlice t n c=>match P.underlying t with
  |some (.slice e)=>match Lt P e,C9 P e,AD n,AD c with
   |some (sz,bytes),some z,some n,some c=>some (.mksl e sz bytes z n c)
   |_,_,_,_=>none
  |_=>none
 | .range t x=>match P.underlying t,AD x with
  |some .string,some x=>some (.range x)
  |_,_=>none
 | .next x true=>(AD x).map .next
 | .call c=>RD P c
 |_=>none
def Rep.ofLeaf{w:World}{g:Gh}{v:Value}{d:D}(h:ofLeaf v=some d):Rep w g d v∧v.oneCell'=true∧d.leaf=true:=by
 unfold Vd.ofLeaf at h;split at h<;>first|(simp only[Qa]at h;subst h)|cases h
 ·exact⟨.bool _,rfl,rfl⟩
 ·exact⟨.int _ _,rfl,rfl⟩
 ·rename_i s;exact⟨.str s.data.toList,rfl,rfl⟩
 ·exact⟨.nils _,rfl,rfl⟩
 ·exact⟨.nilp,rfl,rfl⟩
 ·exact⟨.nili,rfl,rfl⟩
 ·exact⟨.nilf,rfl,rfl⟩
 ·exact⟨.nilm,rfl,rfl⟩
def AZ.ofLeaves{w:World}{g:Gh}:∀{vs:List Value} {ds:List D},ofLeaves vs=some ds->AZ w g ds vs
 |[],ds,h=>by simp only[Vd.ofLeaves,Qa]at h;subst h;exact AZ.nil w g
 |v::r,ds,h=>by
  unfold Vd.ofLeaves at h;split at h
  ·rename_i d c u y;simp only[Qa]at h;subst h;obtain⟨p,q,_⟩:=Rep.ofLeaf (w:=w) (g:=g) u;exact AZ.append (AZ.one p q) (AZ.ofLeaves y)
  ·cases h
def aK{w:World}{g:Gh}{ds:List D}{vs:List Value}(h:AZ w g ds vs):Rep w g (.agg ds) (.agg vs.toArray):= .agg ds vs h.1 h.2.1 h.2.2
def aJ{w:World}{g:Gh}{ds:List D}{v:Value}(h:Rep w g (.agg ds) v):∃vs:List Value,v= .agg vs.toArray∧AZ w g ds vs:=by
 cases h with
 |agg _ vs u y o=>exact⟨vs,rfl,u,y,o⟩
theorem Rep.ofVal{w:World}{g:Gh}{v:Value}{d:D}(h:ofVal v=some d):Rep w g d v:=by
 cases v with
 |agg cs=>
  simp only[Vd.ofVal,Qb]at h;obtain⟨ds,u,rfl⟩:=h;exact aK (AZ.ofLeaves u)
 |_=>simp only[Vd.ofVal]at h;exact(Rep.ofLeaf h).1
def Pv{v:Value}{d:D}(h:ofLeaf v=some d):d.data=true:=by
 unfold ofLeaf at h;split at h<;>first|(simp only[Qa]at h;subst h;rfl)|cases h
def Dn(w:World)(g:Gh)(s:Nat->D)(a:Act):Prop:=∀t,Rep w g (s t) (a.tmps.getD t undef)
def Dn.ext{w w':World}{g r:Gh}{s:Nat->D}{a:Act}(h:Dn w g s a)(x:H5 w g w' r):Dn w' r s a:=λt=>(h t).ext x
section
variable{P:Program}{w:World}{g:Gh}{s:Nat->D}{a:Act}
def Dn.arg(h:Dn w g s a){x:Operand}{y:HJ}(p:AD x=some y):Rep w g (y.ev s) (a.eval x):=by
 cases x with
 |tmp t=>simp only[AD,Qa]at p;subst p;exact h t
 |const v=>
  simp only[AD,Qb]at p;obtain⟨d,u,rfl⟩:=p;exact Rep.ofVal u
 |func f=>
  simp only[AD,Qa]at p;subst p;exact .fn f [] [] rfl U
 |global _=>cases p
def Dn.args(h:Dn w g s a):∀{xs:List Operand} {ys:List HJ},Ef xs=some ys->
  (xs.map a.eval).length=(ys.map (·.ev s)).length∧∀(j:Nat) d v,(ys.map (·.ev s))[j]?=some d->(xs.map a.eval)[j]?=some v->Rep w g d v
 |[],ys,hx=>by simp only[Ef,Qa]at hx;subst hx;simp
 |x::r,ys,hx=>by
  unfold Ef at hx;split at hx
  ·rename_i y l u f;simp only[Qa]at hx;subst hx;obtain⟨p,q⟩:=Dn.args h f;refine⟨by simpa using p,λj d v z e=>?_⟩;cases j with
   |zero=>
    simp only[Qs,QE,Qa]at z e;subst z e;exact h.arg u
   |succ j=>
    simp only[Qs,Zg]at z e;exact q j d v z e
  ·cases hx
def Rep.bool_inv{b:Bool}{v:Value}(h:Rep w g (.bool b) v):v= .bool b:=XK
def Rep.int_inv{k:IntKind}{n:Int}{v:Value}(h:Rep w g (.int k n) v):v= .int k n:=XK
def Rep.str_inv{b:List UInt8}{v:Value}(h:Rep w g (.str b) v):v= .string ⟨b.toArray⟩:=XK
def Rep.cells{d:D}{v:Value}(h:Rep w g d v)(z:d.data=true):AZ w g d.cells v.cells.toList:=by
 cases h with
 |agg ds vs u y r=>exact(⟨u,y,r⟩:AZ w g ds vs)
 |junk=>cases z
 |tup=>cases z
 |bool b=>exact AZ.one (.bool b) rfl
 |int k n=>exact AZ.one (.int k n) rfl
 |str b=>exact AZ.one (.str b) rfl
 |nils t=>exact AZ.one (.nils t) rfl
 |slice t xs a n c sz e u y r j p m s h8 x=>exact AZ.one (.slice t xs a n c sz e u y r j p m s h8 x) rfl
 |ptr i o b u=>exact AZ.one (.ptr i o b u) rfl
 |row i n c b q u=>exact AZ.one (.row i n c b q u) rfl
 |eptr ds a e u y r j p=>exact AZ.one (.eptr ds a e u y r j p) rfl
 |nilp=>exact AZ.one .nilp rfl
 |iface t d v u y=>exact AZ.one (.iface t d v u y) rfl
 |nili=>exact AZ.one .nili rfl
 |fn f ds vs u y=>exact AZ.one (.fn f ds vs u y) rfl
 |nilf=>exact AZ.one .nilf rfl
 |nilm=>exact AZ.one .nilm rfl
 |itp i b u=>exact AZ.one (.itp i b u) rfl
end
end Go.Vd
namespace Go.Vd
open Go.RowKit
structure aSz (P:Program) (B:Nat) (w0:World) (m:HF) (g:Gh) (fr:Id) (w:World) (m':HF) (d:D) (v':Value) (w':World) (g':Gh):Prop where
 inv:HQ P B w0 m' w' g'
 ext:H5 w g w' g'
 rep:Rep w' g' d v'
 fresh:∀i,B3 m g i->¬fr<:+i->B3 m' g' i
def C6(P:Program)(B:Nat)(w0:World)(m:HF)(g:Gh)(fr:Id)(w:World)(m':HF)(d:D)(x:Sem Next):Prop:=
 ∃s w' t r,x.run P w= .ok r w'∧(r= .value s∨(r= .skip∧s=undef))∧aSz P B w0 m g fr w m' d s w' t
section
variable{P:Program}{B:Nat}{w0 w:World}{m:HF}{g:Gh}{fr:Id}{s:Nat->D}{a:Act}
def C6.pure{x:Sem Next}{v:Value}{d:D}(hi:HQ P B w0 m w g)(i:x.run P w= .ok (.value v) w)(z:Rep w g d v):C6 P B w0 m g fr w m d x:=
 ⟨v,w,g,_,i,.inl rfl,hi,H5.refl w g,z,λ_ h _=>h⟩
theorem Rep.slice_inv {nl : Bool} {t : Id} {xs : List D} {v : Value} (h : Rep w g (.slice nl t xs) v) :
  (nl = true ∧ xs = [] ∧ v = .slice none 0 0) ∨
  (nl = false ∧ ∃ ad n c sz, ∃ vv : Nat → Value, v = .slice (some ad) n c ∧ n = xs.length ∧ n ≤ c ∧ (∀ d ∈ xs, d.cells.length = sz) ∧
   (∀ j, j < n * sz → w.cell? (ad.add j) = some (vv j)) ∧ (∀ j, j < n * sz → (vv j).oneCell' = true) ∧
   (∀ (j : Nat) d, (flat xs)[j]? = some d → Rep w g d (vv j)) ∧ (0 < n * sz → ad.off + n * sz ≤ g.G ad.block) ∧
   (t ≠ [] → ad.off = 0 ∧ ad.spot = none ∧ g.tb t = some (ad.block, n, c, sz)) ∧ (∀ d ∈ xs, d.calm = true)) := by
 cases h with
 | nils t => exact .inl ⟨rfl, rfl, rfl⟩
 | slice t xs ad n c sz vv h1 h2 h3 h4 h5 h6 h7 h8 h9 => exact .inr ⟨rfl, ad, n, c, sz, vv, rfl, h1, h2, h3, h4, h5, h6, h7, h8, h9⟩
def Rep.len_slice{nl:Bool}{t:Id}{xs:List D}{v:Value}(h:Rep w g (.slice nl t xs) v):∃ad c,v= .slice ad xs.length c∧(nl=ad.isNone):=by
 rcases h.slice_inv with ⟨rfl,rfl,rfl⟩|⟨rfl,ad,n,c,sz,e,rfl,rfl,_⟩
 ·exact⟨none,0,rfl,rfl⟩
 ·exact⟨some ad,c,rfl,rfl⟩
def Rep.ptr_inv{i:Id}{o:Nat}{v:Value}(h:Rep w g (.ptr i o) v):∃b,v= .pointer (some ⟨b,o,none⟩)∧g.dl i=some b:=by
 cases h with
 |ptr _ _ b f=>exact⟨b,rfl,f⟩
def Rep.row_inv{i:Id}{n:Nat}{v:Value}(h:Rep w g (.row i n) v):∃b c,v= .slice (some ⟨b,0,none⟩) n c∧n<=c∧g.dl i=some b:=by
 cases h with
 |row _ _ c b d f=>exact⟨b,c,rfl,d,f⟩
def Rep.eptr_inv{ds:List D}{v:Value}(h:Rep w g (.eptr ds) v):∃ad,∃e:Nat->Value,v= .pointer (some ad)∧(∀j,j<ds.length->w.cell? (ad.add j)=some (e j))∧
  (∀j,j<ds.length->(e j).oneCell'=true)∧(∀(j:Nat) d,ds[j]?=some d->Rep w g d (e j))∧(0<ds.length->ad.off+ds.length<=g.G ad.block)∧(∀d∈ds,d.calm=true):=by
 cases h with
 |eptr _ ad e u y o m p=>exact⟨ad,e,rfl,u,y,o,m,p⟩
def Rep.tup_inv{ds:List D}{v:Value}(h:Rep w g (.tup ds) v):∃vs:List Value,v= .tuple vs.toArray∧vs.length=ds.length∧∀(j:Nat) d v,ds[j]?=some d->vs[j]?=some v->Rep w g d v:=by
 cases h with
 |tup _ vs u y=>exact⟨vs,rfl,u,y⟩
def Rep.iface_inv{t:TypeId}{d:D}{v:Value}(h:Rep w g (.iface t d) v):∃u,v= .iface t u∧Rep w g d u∧d.calm=true:=by
 cases h with
 |iface _ _ u q y=>exact⟨u,rfl,y,q⟩
def Rep.fn_inv{f:FuncId}{ds:List D}{v:Value}(h:Rep w g (.fn f ds) v):∃vs:List Value,v= .func (.func f) #[] vs.toArray∧vs.length=ds.length∧∀(j:Nat) d v,ds[j]?=some d->vs[j]?=some v->Rep w g d v:=by
 cases h with
 |fn _ _ vs u y=>exact⟨vs,rfl,u,y⟩
def Rep.nilp_inv{v:Value}(h:Rep w g .nilptr v):v= .pointer none:=XK
def Rep.nili_inv{v:Value}(h:Rep w g .nilIface v):v= .nilIface:=XK
def Rep.nilf_inv{v:Value}(h:Rep w g .nilFunc v):v= .nilFunc:=XK
def Lj(op:BinOp)(t:TypeId)(x y:Operand)(i q:Value)(h:∀cs,i≠ .agg cs)(f:i≠ .nilIface)(W:World):(eqGuard op t x y i q).run P W= .ok () W:=by
 cases i with
 |nilIface=>exact absurd rfl f
 |agg c=>exact absurd rfl (h c)
 |_=>cases op<;>rfl
theorem UW {op:BinOp} {t:TypeId} {x y:D} {d:D} {i j:Value} (p:Rep w g x i) (s:Rep w g y j) (h:AP op x y=some d):
  ∃v,(binOp op t i j).run P w= .ok v w∧Rep w g d v∧(∀cs,i≠ .agg cs)∧i≠ .nilIface:=by
 unfold AP at h
 split at h
 ·rename_i k n z r
  rw[p.int_inv,s.int_inv]
  split at h
  ·split at h
   ·rename_i q
    simp only[Qa]at h;subst h
    refine⟨_,?_,.int _ _,U,U⟩
    have:¬r<0:=O
    simp[binOp,Op.shift,this]
   ·cases h
  ·split at h
   ·rename_i q
    simp only[Qa]at h;subst h
    refine⟨_,?_,.int _ _,U,U⟩
    have:¬r<0:=O
    simp[binOp,Op.shift,this]
   ·cases h
  ·rename_i u f
   by_cases m:k≠z
   ·rw[if_pos m]at h;cases h
   rw[if_neg m]at h
   have m:k=z:=Classical.not_not.1 m
   subst m
   cases op<;>simp only[reduceCtorEq,Qa]at h<;>
    first
    |(subst h;first
      |exact⟨_,by simp[binOp,Op.intArith,intBits_and,intBits_or,intBits_xor,intBits_andNot,Op.intCmp],.int _ _,U,U⟩
      |exact⟨_,by simp[binOp,Op.intCmp],.bool _,U,U⟩)
    |(exact absurd rfl u)
    |(exact absurd rfl f)
    |(
     split at h
     ·cases h
     ·rename_i o
      simp only[Qa]at h;subst h
      exact⟨_,by simp[binOp,Op.intDiv,o],.int _ _,U,U⟩)
 ·rename_i b c
  rw[p.str_inv,s.str_inv]
  split at h
  ·split at h
   ·rename_i hl
    simp only[Qa]at h;subst h
    refine⟨.string ⟨(b++c).toArray⟩,?_,.str _,U,U⟩
    have:=run_string_add_sum (P:=P) (w:=w) ⟨b.toArray⟩ ⟨c.toArray⟩ (by simpa[ByteArray.size]using hl)
    simp only[binOp,this]
    congr 2
   ·cases h
  all_goals first|(cases h;done)|skip
  all_goals
   simp only[Qa]at h;subst h
   exact⟨_,by simp[binOp,Op.stringOp,ByteArray.toList_mk],.bool _,U,U⟩
 ·cases h
def aBy{op:UnOp}{x d:D}{i:Value}(p:Rep w g x i)(h:zL op x=some d):∃v,(Op.unary op i).run P w= .ok v w∧Rep w g d v:=by
 unfold zL at h;split at h
 ·simp only[Qa]at h;subst h;rw[p.int_inv];exact⟨_,by simp[Op.unary,Op.intArith],.int _ _⟩
 ·simp only[Qa]at h;subst h;rw[p.bool_inv];exact⟨_,by simp[Op.unary],.bool _⟩
 ·simp only[Qa]at h;subst h;rw[p.int_inv];exact⟨_,by simp only[Op.unary,intBits_xor];rfl,.int _ _⟩
 ·cases h
end
section
variable{P:Program}{B:Nat}{w0 w:World}{m:HF}{g:Gh}{fr:Id}{s:Nat->D}{a:Act}
def Hx:TypeDesc->Bool
 | .struct _| .array _ _=>true
 |_=>false
def CE{t:TypeId}{d:TypeDesc}(m:P.underlying t=some d)(z:Hx d=false){cs:Array Value}{o:Nat}{v:Value}(r:cs[o]?=some v):
  (part t cs o).run P w= .ok v w:=by
 unfold part isAgg;simp only[Sem.run_bind,run_underlying m];cases d<;>simp_all [Hx]
def EY{k:Nat}{x y:D}{i q:Value}{b:Bool}{t:TypeId}{o:TypeDesc}(p:Rep w g x i)(s:Rep w g y q)(h:ME k x y=some b)(d:P.underlying t=some o)
  (z:(k=0∧∃k,o= .int k)∨(k=1∧o= .bool)∨(k=2∧o= .string)) (n:Nat):(Op.equalIn (n+1) t i q).run P w= .ok b w:=by
 unfold ME at h;split at h
 ·rename_i k1 a k2 j;split at h
  ·rename_i m;subst m;simp only[Qa]at h;subst h;rw[p.int_inv,s.int_inv];rcases z with ⟨_,r,rfl⟩|⟨u,_⟩|⟨u,_⟩
   ·exact run_equalIn_int w n t _ _ _ _ d
   ·cases u
   ·cases u
  ·cases h
 ·simp only[Qa]at h;subst h;rw[p.bool_inv,s.bool_inv];rcases z with ⟨u,_⟩|⟨_,rfl⟩|⟨u,_⟩
  ·cases u
  ·exact run_equalIn_bool' w n t _ _ d
  ·cases u
 ·simp only[Qa]at h;subst h;rw[p.str_inv,s.str_inv];rcases z with ⟨u,_⟩|⟨u,_⟩|⟨_,rfl⟩
  ·cases u
  ·cases u
  ·rw[run_equalIn_string w n t _ _ d];simp[ByteArray.toList_mk]
 ·cases h
def Nt{xs ys:List D}{vx vy:List Value}(p:AZ w g xs vx)(s:AZ w g ys vy)(n:Nat):∀{fs:List Field} {l:List (Nat×Nat)} {b:Bool},
  MP P fs=some l->Bn xs ys l=some b->(Op.eqFields (n+1) vx.toArray vy.toArray fs).run P w= .ok b w
 |[],l,b,h1,h2=>by
  simp only[MP,Qa]at h1;subst h1;simp only[Bn,Qa]at h2;subst h2;rfl
 |f::r,l,b,h1,h2=>by
  unfold MP at h1;split at h1
  ·cases h1
  rename_i t;have ia:∃k u td,P.underlying f.type=some td∧MP P r=some u∧l=(k,f.offset)::u∧((k=0∧∃k,td= .int k)∨(k=1∧td= .bool)∨(k=2∧td= .string)):=by
   grind
  obtain⟨k,u,td,m,hl,rfl,z⟩:=ia;unfold Bn at h2;split at h2
  ·rename_i x y d ey;have c:f.offset<vx.length:=by rw[p.1];exact(Qf.1 d).1
   have a:f.offset<vy.length:=by rw[s.1];exact(Qf.1 ey).1
   have rx:=p.2.2 _ x vx[f.offset] d (Qc c);have ry:=s.2.2 _ y vy[f.offset] ey (Qc a);have hd:Hx td=false:=by rcases z with ⟨_,i,rfl⟩|⟨_,rfl⟩|⟨_,rfl⟩<;>rfl
   have px:=CE (w:=w) m hd (cs:=vx.toArray) (o:=f.offset) (v:=vx[f.offset]) (by simp[c]);have py:=CE (w:=w) m hd (cs:=vy.toArray) (o:=f.offset) (v:=vy[f.offset]) (by simp[a]);have ih:=λb' (q:Bn xs ys u=some b')=>Nt p s n hl q
   split at h2
   ·rename_i j;have e:=EY rx ry j m z n;simp only[Op.eqFields,ne_eq,t,not_false_eq_true,if_true,Sem.run_bind,px,Result.andThen_ok,py,e,Zs,QH,if_false];exact ih b h2
   ·rename_i j;have e:=EY rx ry j m z n;simp only[Qa]at h2;subst h2;simp only[Op.eqFields,ne_eq,t,not_false_eq_true,if_true,Sem.run_bind,px,Result.andThen_ok,py,e,Zb,if_true,Sem.run_pure]
   ·cases h2
  ·cases h2
def AZ.part{ds:List D}{vs:List Value}(h:AZ w g ds vs)(o n:Nat):AZ w g ((ds.drop o).take n) ((vs.drop o).take n):=by
 refine⟨by simp[h.1],λv r=>h.2.1 v (Qx (QC r)),λj d v z r=>?_⟩;rw[Zt]at z r;split at z
 ·rw[if_pos (by assumption)]at r;rw[Qw]at z r;exact h.2.2 _ d v z r
 ·cases z
def Mn{xs ys:List D}{o n:Nat}{l:List (Nat×Nat)}{b:Bool}:∀{s:List (Nat×Nat)},(s.all λp=>decide (p.2<n))=true->Bn xs ys ((s.map λp=>(p.1,o+p.2))++l)=some b->
  ∃j,Bn ((xs.drop o).take n) ((ys.drop o).take n) s=some j∧(j=true->Bn xs ys l=some b)∧(j=false->b=false)
 |[],_,h=>⟨true,rfl,λ_=>h,λh=>Xc⟩
 |(k,q)::r,hn,h=>by
  rw[List.all_cons,QU,decide_eq_true_eq]at hn;obtain⟨d,i⟩:=hn;have f:∀zs:List D,((zs.drop o).take n)[q]?=zs[o+q]?:=λzs=>by
   rw[Zt,if_pos d,Qw]
  simp only[Qs,Q2,Bn]at h ⊢;rw[f,f];split at h
  ·rename_i x y m z;revert h;cases ME k x y with
   |none=>intro h;cases h
   |some v=>
    cases v with
    |true=>intro h;exact Mn i h
    |false=>
     intro h;simp only[Qa]at h;exact⟨false,rfl,λe=>(nomatch e),λ_=>h.symm⟩
  ·cases h
def IJ{t:TypeId}{n:Nat}{f:Array Field}(m:P.underlying t=some (.struct f))(v:CY P t=some n){cs:List Value}{o:Nat}:
  (part t cs.toArray o).run P w= .ok (.agg ((cs.drop o).take n).toArray) w:=by
 unfold CY at v;rw[Qb]at v;obtain⟨i,hi,rfl⟩:=v;unfold part isAgg;simp only[Sem.run_bind,run_underlying m,Result.andThen_ok,Sem.run_pure,if_true];simp[sizeOf,typeInfo,hi,List.extract]
def Gm{xs ys:List D}{vx vy:List Value}(m:AZ w g xs vx)(hy:AZ w g ys vy)(n:Nat):∀{fs:List Field} {l:List (Nat×Nat)} {b:Bool},
  F8 P fs=some l->Bn xs ys l=some b->(Op.eqFields (n+2) vx.toArray vy.toArray fs).run P w= .ok b w
 |[],l,b,h1,h2=>by
  simp only[F8,Qa]at h1;subst h1;simp only[Bn,Qa]at h2;subst h2;rfl
 |f::r,l,b,h1,h2=>by
  unfold F8 at h1;split at h1
  ·cases h1
  rename_i t;have ia:(∃k l' td,P.underlying f.type=some td∧F8 P r=some l'∧l=(k,f.offset)::l'∧((k=0∧∃k,td= .int k)∨(k=1∧td= .bool)∨(k=2∧td= .string)))∨
    ∃d l' l2 sz,P.underlying f.type=some (.struct d)∧F8 P r=some l'∧CY P f.type=some sz∧MP P d.toList=some l2∧P.stoodInHeld f.type=false∧(l2.all λp=>decide (p.2<sz))=true∧l=(l2.map λp=>(p.1,f.offset+p.2))++l':=by
   split at h1
   ·simp_all
   ·simp_all
   ·simp_all
   ·grind
   ·cases h1
  rcases ia with ⟨k,l',td,u,hl,rfl,z⟩|⟨d,l',l2,sz,u,hl,ka,ma,s,i,rfl⟩
  ·unfold Bn at h2;split at h2
   ·rename_i x y ex ey;have c:f.offset<vx.length:=by rw[m.1];exact(Qf.1 ex).1
    have a:f.offset<vy.length:=by rw[hy.1];exact(Qf.1 ey).1
    have rx:=m.2.2 _ x vx[f.offset] ex (Qc c);have ry:=hy.2.2 _ y vy[f.offset] ey (Qc a);have hd:Hx td=false:=by rcases z with ⟨_,k',rfl⟩|⟨_,rfl⟩|⟨_,rfl⟩<;>rfl
    have px:=CE (w:=w) u hd (cs:=vx.toArray) (o:=f.offset) (v:=vx[f.offset]) (by simp[c]);have py:=CE (w:=w) u hd (cs:=vy.toArray) (o:=f.offset) (v:=vy[f.offset]) (by simp[a]);have ih:=λb' (hb:Bn xs ys l'=some b')=>Gm m hy n hl hb
    split at h2
    ·rename_i j;have e:=EY rx ry j u z (n+1);simp only[Op.eqFields,ne_eq,t,not_false_eq_true,if_true,Sem.run_bind,px,Result.andThen_ok,py,e,Zs,QH,if_false];exact ih b h2
    ·rename_i j;have e:=EY rx ry j u z (n+1);simp only[Qa]at h2;subst h2;simp only[Op.eqFields,ne_eq,t,not_false_eq_true,if_true,Sem.run_bind,px,Result.andThen_ok,py,e,Zb,if_true,Sem.run_pure]
    ·cases h2
   ·cases h2
  ·obtain⟨b2,na,ht,hf⟩:=Mn i h2;have px:=IJ (w:=w) u ka (cs:=vx) (o:=f.offset);have py:=IJ (w:=w) u ka (cs:=vy) (o:=f.offset);have q:P.fieldsOf f.type=d:=by simp[Program.fieldsOf,u]
   have e:(Op.equalIn (n+2) f.type (.agg ((vx.drop f.offset).take sz).toArray) (.agg ((vy.drop f.offset).take sz).toArray)).run P w= .ok b2 w:=by
    rw[run_equalIn_struct w (n+1) f.type _ _ (by rw[q];exact u) s,q];exact Nt (m.part f.offset sz) (hy.part f.offset sz) n ma na
   cases b2 with
   |true=>
    simp only[Op.eqFields,ne_eq,t,not_false_eq_true,if_true,Sem.run_bind,px,Result.andThen_ok,py,e,Zs,QH,if_false];exact Gm m hy n hl (ht rfl)
   |false=>
    rw[hf rfl];simp only[Op.eqFields,ne_eq,t,not_false_eq_true,if_true,Sem.run_bind,px,Result.andThen_ok,py,e,Zb,if_true,Sem.run_pure]
def Vn{xs ys:List D}{i q:Value}{b:Bool}{t:TypeId}{f:Array Field}{l:List (Nat×Nat)}(p:Rep w g (.agg xs) i)(o:Rep w g (.agg ys) q)
  (m:P.underlying t=some (.struct f)) (s:P.stoodInHeld t=false) (a:P.eqGuardType P.depth t=false) (hl:F8 P f.toList=some l) (h:Bn xs ys l=some b) (x y:Operand) (op:BinOp):
  (Op.equal t i q).run P w= .ok b w∧(eqGuard op t x y i q).run P w= .ok () w:=by
 obtain⟨e,rfl,z⟩:=aJ p;obtain⟨j,rfl,c⟩:=aJ o;constructor
 ·have k:P.fieldsOf t=f:=by simp[Program.fieldsOf,m]
  unfold Op.equal Op.maxDepth;rw[run_equalIn_struct w 9999 t _ _ (by rw[k];exact m) s,k];exact Gm z c 9997 hl h
 ·cases op<;>first|rfl|(simp[eqGuard,a])
def SE:Value->Bool
 | .int .. | .string .. | .float .. | .complex ..=>false
 |_=>true
def Vr{t:TypeId}{i q:Value}{b:Bool}(r:SE i=true)(ne:Bool)(h:(Op.equal t i q).run P w= .ok b w):
  (binOp (if ne then .neq else .eql) t i q).run P w= .ok (.bool (b !=ne)) w:=by
 cases ne<;>cases i<;>first|(simp[SE]at r;done)|(cases q<;>simp[binOp,h])
def aEj:Nat->TypeDesc->Prop
 |0,d=>∃e,d= .slice e
 |1,d=>∃e,d= .pointer e
 |2,d=>∃e,d= .interface e
 |3,d=>∃p r v,d= .func p r v
 |_,_=>False
def eL{k:Nat}{x y:D}{i j:Value}{b:Bool}{t:TypeId}{td:TypeDesc}(m:Rep w g x i)(s:Rep w g y j)(h:Nl k x y=some b)(d:P.underlying t=some td)
  (z:aEj k td) (n:Nat):(Op.equalIn (n+1) t i j).run P w= .ok b w∧SE i=true∧(∀cs,i≠ .agg cs)∧(i= .nilIface->k=2):=by
 unfold Nl at h;split at h<;>first|(exfalso;simp at h;done)|(simp only[Qa]at h;subst h)
 ·obtain⟨e,rfl⟩:=z;obtain⟨ad,c,rfl,rfl⟩:=m.len_slice;obtain⟨a,c',rfl,f⟩:=s.len_slice;have:a=none:=by
   simp_all
  subst this;refine⟨?_,rfl,U,U⟩;cases ad<;>simp[Op.equalIn,run_underlying d]
 ·obtain⟨e,rfl⟩:=z;obtain⟨ad,c,rfl,q⟩:=m.len_slice;obtain⟨a,c',rfl,rfl⟩:=s.len_slice;have:ad=none:=by
   simp_all
  subst this;refine⟨?_,rfl,U,U⟩;simp[Op.equalIn,run_underlying d]
 ·obtain⟨e,rfl⟩:=z;rw[m.nilp_inv,s.nilp_inv];exact⟨Xs,rfl,U,U⟩
 ·obtain⟨e,rfl⟩:=z;obtain⟨b,rfl,_⟩:=s.ptr_inv;rw[m.nilp_inv];exact⟨Xs,rfl,U,U⟩
 ·obtain⟨e,rfl⟩:=z;obtain⟨b,rfl,_⟩:=m.ptr_inv;rw[s.nilp_inv];exact⟨Xs,rfl,U,U⟩
 ·obtain⟨e,rfl⟩:=z;obtain⟨ad,o,rfl,_⟩:=s.eptr_inv;rw[m.nilp_inv];exact⟨Xs,rfl,U,U⟩
 ·obtain⟨e,rfl⟩:=z;obtain⟨ad,o,rfl,_⟩:=m.eptr_inv;rw[s.nilp_inv];exact⟨Xs,rfl,U,U⟩
 ·obtain⟨e,rfl⟩:=z;rw[m.nili_inv,s.nili_inv];exact⟨Xs,rfl,U,λ_=>rfl⟩
 ·obtain⟨e,rfl⟩:=z;obtain⟨u,rfl,_,_⟩:=s.iface_inv;rw[m.nili_inv];exact⟨Xs,rfl,U,λ_=>rfl⟩
 ·obtain⟨e,rfl⟩:=z;obtain⟨u,rfl,_,_⟩:=m.iface_inv;rw[s.nili_inv];exact⟨Xs,rfl,U,U⟩
 ·obtain⟨p,r,v,rfl⟩:=z;rw[m.nilf_inv,s.nilf_inv];exact⟨Xs,rfl,U,U⟩
 ·obtain⟨p,r,v,rfl⟩:=z;obtain⟨vs,rfl,_⟩:=s.fn_inv;rw[m.nilf_inv];exact⟨Xs,rfl,U,U⟩
 ·obtain⟨p,r,v,rfl⟩:=z;obtain⟨vs,rfl,_⟩:=m.fn_inv;rw[s.nilf_inv];exact⟨Xs,rfl,U,U⟩
def fS(op:BinOp)(t:TypeId)(x y:Operand)(i q:Value)(h:∀cs,i≠ .agg cs)(f:i= .nilIface->(Hn x||Hn y)=true)(W:World):(eqGuard op t x y i q).run P W= .ok () W:=by
 cases i with
 |nilIface=>
  have:=f rfl;cases op<;>first|rfl|(cases q<;>first|rfl|(cases x<;>cases y<;>first|rfl|(simp[Hn]at this)))
 |agg c=>exact absurd rfl (h c)
 |_=>cases op<;>rfl
end
def xE{P:Program}{t n:Nat}(h:CY P t=some n):∃i,P.info? t=some i∧i.size=n:=by
 simp_all [CY]
def HU{P:Program}{t n:Nat}(h:CY P t=some n)(w:World):(sizeOf t).run P w= .ok n w:=by
 obtain⟨i,hi,rfl⟩:=xE h;simp[sizeOf,typeInfo,hi]
def ID{P:Program}{t:TypeId}{d:TypeDesc}(h:P.underlying t=some d)(w:World):(isAgg t).run P w= .ok (Hx d) w:=by
 unfold isAgg;simp only[Sem.run_bind,run_underlying h,Result.andThen_ok];cases d<;>rfl
def Rep.un1{w:World}{g:Gh}{d:D}{v:Value}(h:Rep w g d v):Rep w g d.un1 v:=by
 cases h with
 |nils t=>exact .nils []
 |slice t xs a n c sz e u y r j p m z h8 x=>exact .slice [] xs a n c sz e u y r j p m z (λh=>absurd rfl h) x
 |junk v=>exact .junk v
 |bool b=>exact .bool b
 |int k n=>exact .int k n
 |str s=>exact .str s
 |ptr i o b u=>exact .ptr i o b u
 |row i n c b q u=>exact .row i n c b q u
 |eptr ds a e u y r j p=>exact .eptr ds a e u y r j p
 |nilp=>exact .nilp
 |agg ds vs u y r=>exact .agg ds vs u y r
 |tup ds vs u y=>exact .tup ds vs u y
 |iface t d v u y=>exact .iface t d v u y
 |nili=>exact .nili
 |fn f ds vs u y=>exact .fn f ds vs u y
 |nilf=>exact .nilf
 |nilm=>exact .nilm
 |itp i b u=>exact .itp i b u
def Rep.un{w:World}{g:Gh}{d:D}{v:Value}(h:Rep w g d v):Rep w g d.un v:=by
 cases d with
 |agg cs=>
  obtain⟨vs,rfl,u,y,o⟩:=aJ h;refine .agg _ vs (by simp[u]) y (λj d v z r=>?_);rw[Qj,Qb]at z;obtain⟨n,f,rfl⟩:=z;exact(o j n v f r).un1
 |slice nl t xs=>exact h.un1
 |_=>exact h
def aH5{d:D}(h:d.data=true):d.un.data=true:=by cases d<;>first|exact h|rfl
theorem RB(d:D):d.un.cells.length=d.cells.length:=by cases d<;>simp[D.un,D.cells]
def So{P:Program}{t:TypeId}(h:sS P t=some none):∃d,P.underlying t=some d∧Hx d=false:=by
 unfold sS at h;split at h
 ·simp at h
 ·simp at h
 ·rename_i d n1 n2 z;refine⟨d,z,?_⟩;cases d<;>first|rfl|(exact absurd rfl (n1 _))|(exact absurd rfl (n2 _ _))
 ·cases h
def Sn{P:Program}{t n:Nat}(h:sS P t=some (some n)):∃d,P.underlying t=some d∧Hx d=true∧CY P t=some n:=by
 unfold sS at h;split at h
 ·rename_i z;simp only[Qb,Qa]at h;obtain⟨x,p,rfl⟩:=h;exact⟨_,z,rfl,p⟩
 ·rename_i z;simp only[Qb,Qa]at h;obtain⟨x,p,rfl⟩:=h;exact⟨_,z,rfl,p⟩
 ·simp at h
 ·cases h
def Cx{sz:Nat}:∀{xs:List D},(∀d∈xs,d.cells.length=sz)->(flat xs).length=xs.length*sz
 |[],_=>XP
 |x::r,h=>by
  have ih:=Cx (xs:=r) (λd z=>h d (Qq _ z));simp only[flat,Zu,Qo,ih,h x (Qn ..),QQ,Nat.one_mul];omega
theorem EJ{sz:Nat}:∀{xs:List D} {k j:Nat},(∀d∈xs,d.cells.length=sz)->(g:k<xs.length)->j<sz->(flat xs)[k*sz+j]?=(xs[k]).cells[j]?
 |x::r,0,j,h,g,hj=>by
  simp only[flat,Nat.zero_mul,Qu,List.getElem_cons_zero];rw[Qm (by rw[h x (Qn ..)];exact hj)]
 |x::r,k+1,j,h,g,hj=>by
  have p:=h x (Qn ..);have ih:=EJ (xs:=r) (k:=k) (j:=j) (λd z=>h d (Qq _ z)) XN hj;simp only[flat,List.getElem_cons_succ];rw[QG (by rw[p,QQ];omega),p,←ih];congr 1;rw[QQ];omega
def UJ{sz:Nat}:∀{xs:List D} (l:Nat),(∀d∈xs,d.cells.length=sz)->flat (xs.drop l)=(flat xs).drop (l*sz)
 |[],l,_=>XP
 |x::r,0,_=>U
 |x::r,l+1,h=>by
  have p:=h x (Qn ..);rw[List.drop_succ_cons,UJ l (λd z=>h d (Qq _ z))];simp only[flat];rw[show(l+1)*sz=x.cells.length+l*sz by rw[p,QQ];omega,←Zo,List.drop_left]
def Ln:∀(xs ys:List D),flat (xs++ys)=flat xs++flat ys
 |[],ys=>XP
 |x::r,ys=>by simp[flat,Ln r ys]
def Tq{sz:Nat}{xs:List D}{n:Nat}{j:Nat}{d:D}(h:(flat (xs.take n))[j]?=some d):(flat xs)[j]?=some d:=by
 have e:flat xs=flat (xs.take n)++flat (xs.drop n):=by rw[←Ln,List.take_append_drop]
 rw[e,Qm (Qf.1 h).1];exact h
def aAB(l:List UInt8)(n:Nat):(ByteArray.mk l.toArray)[n]?=l[n]?:=by
 by_cases h:n<l.length
 ·rw[Qc h];rw[getElem?_pos (ByteArray.mk l.toArray) n (by simpa[ByteArray.size]using h)];rfl
 ·rw[Qk O];exact getElem?_neg (ByteArray.mk l.toArray) n (by simpa[ByteArray.size]using h)
def Tt(l:List UInt8)(a b:Nat):(ByteArray.mk l.toArray).extract a b=⟨((l.drop a).take (b-a)).toArray⟩:=by
 apply ByteArray.ext;rw[ByteArray.data_extract];simp[Q7,QV]
section
variable{P:Program}{B:Nat}{w0 w:World}{m:HF}{g:Gh}{fr:Id}{s:Nat->D}{a:Act}
theorem Ga(h:Dn w g s a){x:Option Operand}{y:Option HJ}(p:I2 x=some y){b j n:Nat}(f:Gc s y b j=some n):
  (x=none∧n=b∧y=none)∨(∃o k,x=some o∧a.eval o= .int k (n:Int)∧n<=j):=by
 cases x with
 |none=>
  simp only[I2,Qa]at p;subst p;simp only[Gc,Qa]at f;exact .inl ⟨rfl,f.symm,rfl⟩
 |some o=>
  simp only[I2,Qb]at p;obtain⟨z,t,rfl⟩:=p;have i:=h.arg t;simp only[Gc]at f;split at f
  ·rename_i k q c;rw[c]at i;split at f
   ·rename_i d;simp only[Qa]at f;refine .inr ⟨o,k,rfl,?_,O⟩;rw[i.int_inv];congr 1;omega
   ·cases f
  ·cases f
def EN(h:Dn w g s a){lo hi:Option Operand}{f r:Option HJ}(x:I2 lo=some f)(y:I2 hi=some r)(v:Bool){len cap l q:Nat}(d:len<=cap)
  (j:Gc s r len len=some q) (n:Gc s f 0 q=some l):
  (Instr.sliceBounds v len cap (lo.map a.eval) (hi.map a.eval) none).run P w= .ok (l,q,cap) w∧l<=q∧q<=len:=by
 have t:q<=len:=by
  grind [Ga]
 have b:l<=q:=by
  grind [Ga]
 refine⟨?_,b,t⟩;unfold Instr.sliceBounds;rcases Ga h y j with ⟨rfl,rfl,_⟩|⟨o,k,rfl,e,u⟩<;>rcases Ga h x n with ⟨rfl,rfl,_⟩|⟨o',i,rfl,c,z⟩
 ·simp
 ·simp[Instr.sliceBound,asIntOf,c];intro;omega
 ·simp[Instr.sliceBound,asIntOf,e];intro;omega
 ·simp[Instr.sliceBound,asIntOf,e,c];rw[if_pos O];simp;intro;omega
end
section
variable{P:Program}{B:Nat}{w0 w:World}{m:HF}{g:Gh}{fr:Id}{s:Nat->D}{a:Act}
theorem BM:∀{n o:Nat} {i:Id} {ds:List D},Ag m i o n=some ds->ds.length=n∧∀j,j<n->m i (o+j)=ds[j]?
 |0,o,i,ds,h=>by simp only[Ag,Qa]at h;subst h;simp
 |n+1,o,i,ds,h=>by
  unfold Ag at h;split at h
  ·rename_i d z;rw[Qb]at h;obtain⟨r,k,rfl⟩:=h;obtain⟨p,q⟩:=BM k;refine⟨by simp[p],λj u=>?_⟩;cases j with
   |zero=>simpa using z
   |succ j=>
    have:=q j O;rw[show o+(j+1)=o+1+j by omega,this];simp
  ·cases h
def HQ.cells(h:HQ P B w0 m w g){i:Id}{b o n:Nat}{ds:List D}(f:g.dl i=some b)(q:Ag m i o n=some ds):
  ∃vs:List Value,AZ w g ds vs∧∀j v,vs[j]?=some v->w.cell? ⟨b,o+j,none⟩=some v:=by
 obtain⟨_,_,cs,T,hh,t⟩:=h.obj i b f;obtain⟨hl,a⟩:=BM q;have y:∀j,j<n->∃d v,ds[j]?=some d∧cs[o+j]?=some v∧v.oneCell'=true∧Rep w g d v:=by
  simp_all
 refine⟨(Qt n).map λj=>cs.getD (o+j) undef,⟨by simp[hl],λv r=>?_,λj d v z r=>?_⟩,λj v r=>?_⟩
 ·rw[Qv]at r;obtain⟨j,u,rfl⟩:=r;obtain⟨d,v,_,e,k,_⟩:=y j (Ql.1 u);rw[Qh,e];exact k
 ·have u:j<n:=by have:=(Qf.1 z).1;omega
  obtain⟨p,s,c,e,k,x⟩:=y j u;rw[c]at z;simp only[Qa]at z;subst z;rw[Qj,Zq u,QY,Qa,Qh,e]at r;subst r;exact x
 ·have u:j<n:=by have:=(Qf.1 r).1;simpa using this
  obtain⟨p,s,c,e,k,x⟩:=y j u;rw[Qj,Zq u,QY,Qa,Qh,e]at r;subst r;simp[World.cell?,hh,e]
def HQ.cell(h:HQ P B w0 m w g){i:Id}{b o:Nat}{d:D}(f:g.dl i=some b)(n:m i o=some d):
  ∃v,w.cell? ⟨b,o,none⟩=some v∧v.oneCell'=true∧Rep w g d v:=by
 obtain⟨_,_,cs,T,a,q⟩:=h.obj i b f;obtain⟨v,e,k,r⟩:=q _ _ n;exact⟨v,by simp[World.cell?,a,e],k,r⟩
def Gk(b o j:Nat):(⟨b,o,none⟩:Addr).add j=⟨b,o+j,none⟩:=by unfold Addr.add;split<;>simp_all
def Eg{t:TypeId}(g:sS P t=some none){ad:Addr}{v:Value}(s:w.cell? ad=some v):(loadVar t ad).run P w= .ok v w:=by
 obtain⟨d,m,z⟩:=So g;simp[loadVar,ID m,z,s]
def EO{t n:Nat}(g:sS P t=some (some n)){ad:Addr}{vs:List Value}(hl:vs.length=n)(s:∀j v,vs[j]?=some v->w.cell? (ad.add j)=some v):
  (loadVar t ad).run P w= .ok (.agg vs.toArray) w:=by
 obtain⟨d,m,z,k⟩:=Sn g;subst hl;simp[loadVar,ID m,z,HU k,run_loadCells_list w ad vs s]
def Tg{t n:Nat}(j:CY P t=some n){b o:Nat}{cs:Array Value}{T:TypeId}(a:w.heap[b]?=some (.cells cs T (0,0))){v:Value}(r:v.cells.size=n)
  (q:∀u∈v.cells.toList,u.oneCell'=true) (k:o+n<=cs.size):
  (storeVar t ⟨b,o,none⟩ v).run P w= .ok () (w.setRow b (cs.toList.take o++v.cells.toList++cs.toList.drop (o+v.cells.toList.length)).toArray):=by
 unfold storeVar;simp only[Sem.run_bind,HU j,Result.andThen_ok];rw[if_neg (by simp[r])];have:=run_storeCells_at (P:=P) b o T v.cells.toList 0 cs w a (by simp[r];omega) q;simpa using this
def Hi(e:TypeId)(cells:Array Value)(w:World):(newRow e cells).run P w= .ok ⟨w.heap.size,0,none⟩ (w.alloc (.cells cells e)):=by
 simp only[newRow,Sem.run_bind,run_newObj,Result.andThen_ok,Sem.run_pure];rfl
def AZ.flat{sz:Nat}:∀{xs:List D} {vs:List Value},(∀d∈xs,d.data=true∧d.cells.length=sz)->vs.length=xs.length->(∀(j:Nat) d v,xs[j]?=some d->vs[j]?=some v->Rep w g d v)->
  AZ w g (flat xs) (vs.flatMap λv=>v.cells.toList)
 |[],vs,_,hl,_=>by
  have:vs=[]:=QN Xk;subst this;exact AZ.nil w g
 |x::r,[],_,hl,_=>by cases hl
 |x::r,v::vs,h,hl,hr=>by
  have b:=hr 0 x v rfl rfl;simp only[Vd.flat,Zd];exact AZ.append (b.cells (h x (Qn ..)).1) (AZ.flat (λd z=>h d (Qq _ z)) Xk (λj d u z m=>hr (j+1) d u Xw (by simpa using m)))
def aH{t:Id}{xs:List D}{vs:List Value}{b n c sz:Nat}{cur:Array Value}{T:TypeId}{fz:Nat×Nat}(a:w.heap[b]?=some (.cells cur T fz))(x:n=xs.length)(s:n<=c)
  (p:∀d∈xs,d.cells.length=sz) (i:AZ w g (flat xs) vs) (r:∀(j:Nat) v,vs[j]?=some v->cur[j]?=some v) (q:n*sz<=g.G b) (m:t≠[]->g.tb t=some (b,n,c,sz)) (e:∀d∈xs,d.calm=true):
  Rep w g (.slice false t xs) (.slice (some ⟨b,0,none⟩) n c):=by
 have o:=Cx p;have k:vs.length=n*sz:=by rw[i.1,o,x]
 refine .slice t xs ⟨b,0,none⟩ n c sz (λj=>vs.getD j undef) x s p (λj u=>?_) (λj u=>?_) (λj d z=>?_) (λ_=>by simpa using q) (λh=>⟨rfl,rfl,m h⟩) e
 ·have ta:j<vs.length:=by omega
  rw[Gk,Qu];have:=r j vs[j] (Qc ta);simp[World.cell?,a,this,Q0,Qc ta]
 ·have ta:j<vs.length:=by omega
  simp only[Q0,Qc ta,QF];exact i.2.1 _ (Q1 ta)
 ·have ta:j<vs.length:=by have:=(Qf.1 z).1;rw[i.1];exact this
  simp only[Q0,Qc ta,QF];exact i.2.2 j d _ z (Qc ta)
def Pq:∀(vs:List Value)(k:Nat)(off:Nat)(cs:Array Value),off+k+vs.length<=cs.size->
  ((vs.zipIdx k).foldl (λcs (x:Value×Nat)=>cs.setIfInBounds (off+x.2) x.1) cs).toList=cs.toList.take (off+k)++vs++cs.toList.drop (off+k+vs.length)
 |[],k,off,cs,_=>U
 |v::r,k,off,cs,h=>by
  simp only[List.zipIdx_cons,Q8];rw[Pq r (k+1) off (cs.setIfInBounds (off+k) v) (by simp at h ⊢;omega)];simp only[Array.toList_setIfInBounds,Qo];have hl:off+k<cs.toList.length:=by simp at h ⊢;omega
  rw[show off+(k+1)=off+k+1 by omega];rw[List.take_succ_eq_append_getElem Xk];rw[List.take_set_of_le O];rw[List.drop_set_of_lt O];simp only[List.getElem_set_self,QL,Q2,Zl];rw[show off+k+1+r.length=off+k+(r.length+1)by omega]
def Fy(vs:Array Value)(off:Nat)(cs:Array Value)(h:off+vs.size<=cs.size):
  (vs.zipIdx.foldl (λcs (x:Value×Nat)=>cs.setIfInBounds (off+x.2) x.1) cs).toList=cs.toList.take off++vs.toList++cs.toList.drop (off+vs.toList.length):=by
 have:=Pq vs.toList 0 off cs Xr;rw[←Array.foldl_toList,Array.toList_zipIdx];simpa using this
end
structure At (P:Program) (B:Nat) (w0 w:World) (m:HF) (g:Gh) (fr:Id) (s:Nat->D) (a:Act):Prop where
 inv:HQ P B w0 m w g
 slots:Dn w g s a
 fresh:∀i,fr<:+i->B3 m g i
section
variable{P:Program}{B:Nat}{w0 w:World}{m:HF}{g:Gh}{fr:Id}{s:Nat->D}{a:Act}{S:HD}{d:D}{u:HN}
def At.self(h:At P B w0 w m g fr s a):B3 m g fr:=h.fresh fr (List.suffix_refl fr)
def EZ{i:Id}(k:B3 m g i)(p:¬fr<:+i)(ds:List D)(b:Nat):B3 (m.put fr 0 ds) (g.obj fr b) i:=by
 have:i≠fr:=λe=>p Ym
 exact⟨λo=>by rw[aA this];exact k.1 o,by simp only[Gh.obj];rw[if_neg this];exact k.2.1,k.2.2⟩
def C_{i:Id}(k:B3 m g i)(p:¬fr<:+i)(x b n c sz:Nat):B3 (m.put fr 0 [.tok x]) (g.tok fr b n c sz) i:=by
 have:i≠fr:=λe=>p Ym
 exact⟨λo=>by rw[aA this];exact k.1 o,k.2.1,by simp only[Gh.tok];rw[if_neg this];exact k.2.2⟩
def oK{t:TypeId}{o:Oper}(h:At P B w0 w m g fr s a){z:D}(n:C9 P t=some z)(k:o.op= .alloc t):
  C6 P B w0 m g fr w (m.put fr 0 z.cells) (.ptr fr 0) (execOp a.eval o):=by
 unfold C9 at n;split at n
 ·rename_i i hi;split at n
  ·rename_i v r;have q:Rep w g z v:=Rep.ofVal n;have hd:z.data=true:=by
    cases v<;>first|(simp only[ofVal,Qb]at n;obtain⟨l,_,rfl⟩:=n;rfl)|(simp only[ofVal]at n;exact Pv n)
   have d:=q.cells hd;refine⟨.pointer (some ⟨w.heap.size,0,none⟩),w.alloc (.cells v.cells t),g.obj fr w.heap.size,.value (.pointer (some ⟨w.heap.size,0,none⟩)),?_,.inl rfl,?_⟩
   ·simp only[execOp,k,Instr.alloc,zeroValue,Sem.run_bind,typeInfo,run_program,Result.andThen_ok,hi,r,Sem.run_pure,newVar,Hi]
   ·have:=h.inv.newObj h.self (ds:=z.cells) (vs:=v.cells.toList) t d;rw[QD]at this;exact⟨this,H5.newObj _ h.inv.gz h.self.2.1,Rep.newObj _ g fr _,λi b p=>EZ b p _ _⟩
  ·cases n
 ·cases n
def aEe{t:TypeId}{o:Oper}{x:Operand}{y:HJ}(h:At P B w0 w m g fr s a)(p:AD x=some y)(z:(y.ev s).data=true)(v:o.op= .box t x):
  C6 P B w0 m g fr w (m.put fr 0 (y.ev s).cells) (.ptr fr 0) (execOp a.eval o):=by
 have q:=h.slots.arg p;have d:=q.cells z;refine⟨.pointer (some ⟨w.heap.size,0,none⟩),w.alloc (.cells (a.eval x).cells t),g.obj fr w.heap.size,.value (.pointer (some ⟨w.heap.size,0,none⟩)),?_,.inl rfl,?_⟩
 ·simp only[execOp,v,Instr.box,Sem.run_bind,Result.andThen_ok,Sem.run_pure,newVar,Hi]
 ·have:=h.inv.newObj h.self (ds:=(y.ev s).cells) (vs:=(a.eval x).cells.toList) t d;rw[QD]at this;exact⟨this,H5.newObj _ h.inv.gz h.self.2.1,Rep.newObj _ g fr _,λi k b=>EZ k b _ _⟩
def zX{t:TypeId}{o:Oper}{x:Operand}{y:HJ}{k:Option Nat}(h:At P B w0 w m g fr s a)(hk:sS P t=some k)(p:AD x=some y)(ho:o.op= .load t x)
  (c:exec S s m fr (.load k y)=some (d,u)):u=[]∧C6 P B w0 m g fr w m d (execOp a.eval o):=by
 have q:=h.slots.arg p;have la:∀ad v,a.eval x= .pointer (some ad)->(loadVar t ad).run P w= .ok v w->(execOp a.eval o).run P w= .ok (.value v) w:=by
  intro ad v e1 e2;simp only[execOp,ho,Instr.loadAt,e1,Instr.sureAddr,Sem.run_bind,Result.andThen_ok,Sem.run_pure,e2]
 simp only[exec]at c;split at c
 ·rename_i i o' e;rw[e]at q;obtain⟨b,e1,f⟩:=q.ptr_inv;rw[Qb]at c;obtain⟨d',hm,c⟩:=c;simp only[Qd]at c;obtain⟨rfl,rfl⟩:=c;obtain⟨v,c1,c2,c3⟩:=h.inv.cell f hm;exact⟨rfl,.pure h.inv (la _ _ e1 (Eg hk c1)) c3⟩
 ·rename_i i o' n e;rw[e]at q;obtain⟨b,e1,f⟩:=q.ptr_inv;rw[Qb]at c;obtain⟨ds,hm,c⟩:=c;simp only[Qd]at c;obtain⟨rfl,rfl⟩:=c;obtain⟨vs,c1,c2⟩:=h.inv.cells f hm;have hl:=(BM hm).1;exact⟨rfl,.pure h.inv (la _ _ e1 (EO hk (by rw[c1.1,hl]) (λj v hv=>by rw[Gk];exact c2 j v hv))) (aK c1)⟩
 ·rename_i ds e;rw[e]at q;obtain⟨ad,vv,e1,q1,q2,q3,q4,q5⟩:=q.eptr_inv;rw[Qb]at c;obtain⟨d',hm,c⟩:=c;simp only[Qd]at c;obtain⟨rfl,rfl⟩:=c;have h0:ds[0]?=some d':=by rw[←List.head?_eq_getElem?];exact hm
  have hl:0<ds.length:=(Qf.1 h0).1;exact⟨rfl,.pure h.inv (la _ _ e1 (Eg hk (by have:=q1 0 hl;simpa[Addr.add]using this))) (q3 0 _ h0)⟩
 ·rename_i ds n e;rw[e]at q;obtain⟨ad,vv,e1,q1,q2,q3,q4,q5⟩:=q.eptr_inv;split at c
  ·rename_i hn;simp only[Qa,Qd]at c;obtain⟨rfl,rfl⟩:=c;have r:((Qt n).map vv).length=n:=by simp
   refine⟨rfl,.pure h.inv (la _ _ e1 (EO hk r (λj v hv=>?_))) (aK ⟨Xb,λv hv=>?_,λj d v z hv=>?_⟩)⟩
   ·grind
   ·grind
   ·grind
  ·cases c
 ·cases c
theorem oD{t:TypeId}{o:Oper}{x v:Operand}{y z:HJ}{n:Nat}(h:At P B w0 w m g fr s a)(hn:CY P t=some n)(va:0<n)(p:AD x=some y)(hv:AD v=some z)(ho:o.op= .store t x v)
  (he:exec S s m fr (.store n y z)=some (d,u)):C6 P B w0 m g fr w (HN.app m u) d (execOp a.eval o):=by
 have k:=h.slots.arg p;have f:=h.slots.arg hv;simp only[exec]at he;split at he
 ·rename_i i o' e;rw[e]at k;obtain⟨b,e1,q⟩:=k.ptr_inv;split at he
  ·rename_i hc;obtain⟨c1,c2,c3⟩:=hc;simp only[Qa,Qd]at he;obtain⟨rfl,rfl⟩:=he;rw[Zf]at c3;obtain⟨r,da⟩:=c3;obtain⟨vs,r1,r2⟩:=h.inv.cells q da;obtain⟨_,_,cs,T,hh,ua⟩:=h.inv.obj i b q;have aa:=f.cells c1;have ka:(a.eval v).cells.size=n:=by have:=aa.1;simp at this;omega
   have j:o'+n<=cs.size:=by
    have hl:=(BM da).1;have c:vs[n-1]?=some (vs[n-1]'(by rw[r1.1];omega)):=Qc _;have:=r2 (n-1) _ c;simp only[World.cell?,hh]at this;have:=(Qe.1 (by simpa using this)).1;omega
   refine⟨undef,w.setRow b (cs.toList.take o'++(a.eval v).cells.toList++cs.toList.drop (o'+(a.eval v).cells.toList.length)).toArray,g,.skip,?_,.inr ⟨rfl,rfl⟩,?_⟩
   ·have:=Tg hn hh (v:=a.eval v) ka aa.2.1 j;simp only[execOp,ho,Instr.storeAt,e1,Instr.sureAddr,Sem.run_bind,Result.andThen_ok,Sem.run_pure,this]
   ·have hG:=(h.inv.obj i b q).2.1;refine⟨?_,H5.setRow hG ⟨_,q⟩,.junk _,λi' hf ga=>?_⟩
    ·exact h.inv.store q hh (ds:=(z.ev s).cells) (us:=(a.eval v).cells.toList) aa O
    ·refine⟨λo=>?_,hf.2⟩;simp only[HN.app];rw[aA (by rintro rfl;rw[hf.2.1]at q;cases q)];exact hf.1 o
  ·cases he
 ·cases he
end
section
variable{P:Program}{B:Nat}{w0 w:World}{m:HF}{g:Gh}{fr:Id}{s:Nat->D}{a:Act}{S:HD}{d:D}{u:HN}
def oI{t:TypeId}{f:Nat}{o:Oper}{x:Operand}{y:HJ}{r:Array Field}{fd:Field}{n:Nat}(h:At P B w0 w m g fr s a)(hu:P.underlying t=some (.struct r))(hf:r[f]?=some fd)
  (v:CY P fd.type=some (n+1)) (p:AD x=some y) (ho:o.op= .fieldAddr t x f) (c:exec S s m fr (.faddr fd.offset y)=some (d,u)):u=[]∧C6 P B w0 m g fr w m d (execOp a.eval o):=by
 have k:=h.slots.arg p;have la:∀ad,a.eval x= .pointer (some ad)->(execOp a.eval o).run P w= .ok (.value (.pointer (some (ad.add fd.offset)))) w:=by
  intro ad e;simp[execOp,ho,Instr.fieldAt,run_underlying hu,hf,e,Instr.sureAddr,fieldPlace,HU v]
 simp only[exec]at c;split at c
 ·rename_i i o' e;rw[e]at k;obtain⟨b,e1,q⟩:=k.ptr_inv;simp only[Qa,Qd]at c;obtain⟨rfl,rfl⟩:=c;refine⟨rfl,.pure h.inv (la _ e1) ?_⟩;rw[Gk];exact .ptr i _ b q
 ·rename_i ds e;rw[e]at k;obtain⟨ad,vv,e1,q1,q2,q3,q4,q5⟩:=k.eptr_inv;split at c
  ·rename_i hl;simp only[Qa,Qd]at c;obtain⟨rfl,rfl⟩:=c;refine⟨rfl,.pure h.inv (la _ e1) (.eptr _ _ (λj=>vv (fd.offset+j)) (λj hj=>?_) (λj hj=>?_) (λj d z=>?_) (λhp=>?_) (λd z=>q5 d (Qx z)))⟩
   ·grind [add_add]
   ·grind
   ·simp_all
   ·rw[Cf,Ds];simp at hp ⊢;have:=q4 O;omega
  ·cases c
 ·cases c
def oH{t:TypeId}{f:Nat}{o:Oper}{x:Operand}{y:HJ}{r:Array Field}{fd:Field}{k:Option Nat}(h:At P B w0 w m g fr s a)(hu:P.underlying t=some (.struct r))(hf:r[f]?=some fd)
  (hk:sS P fd.type=some k) (p:AD x=some y) (q:o.op= .field t x f) (he:exec S s m fr (.field k fd.offset y)=some (d,u)):u=[]∧C6 P B w0 m g fr w m d (execOp a.eval o):=by
 have i:=h.slots.arg p;simp only[exec]at he;split at he
 ·rename_i cs e;rw[e]at i;obtain⟨vs,e1,r1⟩:=aJ i;rw[Qb]at he;obtain⟨d',z,he⟩:=he;simp only[Qd]at he;obtain⟨rfl,rfl⟩:=he;obtain⟨td,c,b⟩:=So hk;have hv:fd.offset<vs.length:=by rw[r1.1];exact(Qf.1 z).1
  refine⟨rfl,.pure (v:=vs[fd.offset]) h.inv ?_ (r1.2.2 _ _ _ z (Qc hv))⟩;have:=CE (w:=w) c b (cs:=vs.toArray) (o:=fd.offset) (v:=vs[fd.offset]) (by simp[hv]);simp[execOp,q,Instr.field,run_underlying hu,hf,e1,asAgg,this]
 ·rename_i cs n e;rw[e]at i;obtain⟨vs,e1,r1⟩:=aJ i;split at he
  ·rename_i hl;simp only[Qa,Qd]at he;obtain⟨rfl,rfl⟩:=he;obtain⟨td,c,b,hs⟩:=Sn hk;refine⟨rfl,.pure (v:= .agg ((vs.drop fd.offset).take n).toArray) h.inv ?_ (aK ⟨by simp[r1.1],λv hv=>?_,λj d v z hv=>?_⟩)⟩
   ·simp only[execOp,q,Instr.field,Sem.run_bind,run_underlying hu,hf,e1,asAgg,part,ID c,b,Result.andThen_ok,HU hs,Sem.run_pure,if_true];congr 3;simp[Q7,QV]
   ·exact r1.2.1 v (Qx (QC hv))
   ·have hj:j<n:=by
     rcases Zv j n with h1|h1
     ·exact h1
     ·rw[Qk Xb]at z;cases z
    rw[Qp hj,Qw]at z hv;exact r1.2.2 _ d v z hv
  ·cases he
 ·cases he
def MV{d:D}(h:d.calm=true):∀x∈d.cells,x.calm=true:=by
 intro x p;have e:∀x:D,x.calm1=true->x.calm=true:=by
  intro x p;cases x<;>first|exact p|(simp[D.calm1]at p)
 cases d with
 |agg cs=>exact e x (Qy.1 h x p)
 |_=>simp only[D.cells,Q_]at p;subst p;exact h
def oF{t e:TypeId}{o:Oper}{x i:Operand}{y z:HJ}{sz:Nat}(h:At P B w0 w m g fr s a)(hu:P.underlying t=some (.slice e))(hs:CY P e=some sz)
  (hx:AD x=some y) (hi:AD i=some z) (ho:o.op= .indexAddr t x i) (he:exec S s m fr (.iaddr sz y z)=some (d,u)):u=[]∧C6 P B w0 m g fr w m d (execOp a.eval o):=by
 have hr:=h.slots.arg hx;have aa:=h.slots.arg hi;simp only[exec]at he;split at he
 ·rename_i nl t' xs k n ex ei;rw[ex]at hr;rw[ei]at aa;split at he
  ·rename_i h0;split at he
   ·rename_i d' hd;split at he
    ·rename_i ka;simp only[Qa,Qd]at he;obtain⟨rfl,rfl⟩:=he;have ea:n.toNat<xs.length:=(Qf.1 hd).1;rcases hr.slice_inv with ⟨_,rfl,_⟩|⟨rfl,ad,n',c,pa,vv,ev,rfl,h2,h3,h4,h5,h6,h7,h8,h9⟩
     ·simp at ea
     ·have r:d'∈xs:=Qr hd;have:pa=sz:=by rw[←h3 d' r];exact ka
      subst this;have qa:xs[n.toNat]=d':=by rw[Qc ea]at hd;simpa using hd
      have p:n.toNat*pa+pa<=xs.length*pa:=by rw[←Zw];exact QB _ ea
      refine⟨rfl,.pure (v:= .pointer (some (ad.add (n.toNat*pa)))) h.inv ?_ (.eptr _ _ (λj=>vv (n.toNat*pa+j)) (λj hj=>?_) (λj hj=>?_) (λj d2 ga=>?_) (λhp=>?_) (MV (h9 d' r)))⟩
      ·have q:(0:Int)<=n∧n<(xs.length:Int):=by omega
       simp[execOp,ho,Instr.indexAt,asIntOf,aa.int_inv,ev,run_underlying hu,q,HU hs]
      ·grind [add_add]
      ·exact h5 _ O
      ·grind [EJ]
      ·rw[Cf,Ds];have hz:0<xs.length*pa:=by omega
       have:=h7 hz;omega
    ·cases he
   ·cases he
  ·cases he
 ·rename_i i' l k n ex ei;rw[ex]at hr;rw[ei]at aa;split at he
  ·rename_i hc;obtain⟨h0,ea⟩:=hc;simp only[Qa,Qd]at he;obtain⟨rfl,rfl⟩:=he;obtain⟨b,cap,ev,_,hb⟩:=hr.row_inv;have bb:(if sz=1 then n.toNat else n.toNat*sz)=n.toNat*sz:=by
    simp_all
   rw[bb];have f:(Addr.mk b 0 none).add (n.toNat*sz)=⟨b,n.toNat*sz,none⟩:=by rw[Gk,Qu]
   refine⟨rfl,.pure (v:= .pointer (some ⟨b,n.toNat*sz,none⟩)) h.inv ?_ (.ptr _ _ b hb)⟩;have q:(0:Int)<=n∧n<(l:Int):=⟨h0,ea⟩;simp only[←f];simp[execOp,ho,Instr.indexAt,asIntOf,aa.int_inv,ev,run_underlying hu,q,HU hs]
  ·cases he
 ·cases he
def zY{t:TypeId}{o:Oper}{x i:Operand}{y z:HJ}(h:At P B w0 w m g fr s a)(hu:P.underlying t=some .string)
  (p:AD x=some y) (hi:AD i=some z) (ho:o.op= .index t x i) (j:exec S s m fr (.idxs y z)=some (d,u)):u=[]∧C6 P B w0 m g fr w m d (execOp a.eval o):=by
 have q:=h.slots.arg p;have aa:=h.slots.arg hi;simp only[exec]at j;split at j
 ·rename_i b k n f e;rw[f]at q;rw[e]at aa;split at j
  ·rename_i h0;rw[Qb]at j;obtain⟨c,r,j⟩:=j;simp only[Qd]at j;obtain⟨rfl,rfl⟩:=j;refine⟨rfl,.pure (v:= .int .u8 c.toNat) h.inv ?_ (.int _ _)⟩;simp[execOp,ho,Instr.index,asIntOf,aa.int_inv,q.str_inv,run_underlying hu,h0,aAB,r]
  ·cases j
 ·cases j
def aAa{t e:TypeId}{len:Nat}{o:Oper}{x i:Operand}{y z:HJ}(h:At P B w0 w m g fr s a)(hu:P.underlying t=some (.array len e))(hk:sS P e=some none)(hs:CY P e=some 1)
  (p:AD x=some y) (hi:AD i=some z) (ho:o.op= .index t x i) (j:exec S s m fr (.idxa len y z)=some (d,u)):u=[]∧C6 P B w0 m g fr w m d (execOp a.eval o):=by
 have q:=h.slots.arg p;have aa:=h.slots.arg hi;simp only[exec]at j;split at j
 ·rename_i cs k n ex ei;rw[ex]at q;rw[ei]at aa;split at j
  ·rename_i h0;rw[Qb]at j;obtain⟨d',hd,j⟩:=j;simp only[Qd]at j;obtain⟨rfl,rfl⟩:=j;obtain⟨vs,e1,f⟩:=aJ q;obtain⟨td,c,b⟩:=So hk;have r:n.toNat<vs.length:=by rw[f.1];exact(Qf.1 hd).1
   refine⟨rfl,.pure (v:=vs[n.toNat]) h.inv ?_ (f.2.2 _ _ _ hd (Qc r))⟩;have:=CE (w:=w) c b (cs:=vs.toArray) (o:=n.toNat) (v:=vs[n.toNat]) (by simp[r]);simp[execOp,ho,Instr.index,asIntOf,aa.int_inv,run_underlying hu,e1,h0,HU hs,this]
  ·cases j
 ·cases j
def oG{t e:TypeId}{len sz:Nat}{o:Oper}{x i:Operand}{y z:HJ}(h:At P B w0 w m g fr s a)(hu:P.underlying t=some (.array len e))(hs:CY P e=some sz)
  (p:AD x=some y) (hi:AD i=some z) (ho:o.op= .indexAddr t x i) (c:exec S s m fr (.iadda len sz y z)=some (d,u)):u=[]∧C6 P B w0 m g fr w m d (execOp a.eval o):=by
 have hr:=h.slots.arg p;have aa:=h.slots.arg hi;simp only[exec]at c;split at c
 ·rename_i j off k n ex ei;rw[ex]at hr;rw[ei]at aa;split at c
  ·rename_i r;obtain⟨h0,q⟩:=r;simp only[Qa,Qd]at c;obtain⟨rfl,rfl⟩:=c;obtain⟨b,ev,f⟩:=hr.ptr_inv;refine⟨rfl,.pure (v:= .pointer (some ⟨b,off+n.toNat*sz,none⟩)) h.inv ?_ (.ptr _ _ b f)⟩;have fa:(0:Int)<=n∧n<(len:Int):=⟨h0,q⟩;simp only[←Gk b off (n.toNat*sz)];simp[execOp,ho,Instr.indexAt,asIntOf,Instr.sureAddr,aa.int_inv,ev,run_underlying hu,fa,HU hs]
  ·cases c
 ·cases c
def zZ{t e:TypeId}{len sz:Nat}{o:Oper}{x i:Operand}{y z:HJ}(h:At P B w0 w m g fr s a)(hu:P.underlying t=some (.array len e))(hk:sS P e=some (some sz))
  (p:AD x=some y) (hi:AD i=some z) (ho:o.op= .index t x i) (he:exec S s m fr (.idxm len sz y z)=some (d,u)):u=[]∧C6 P B w0 m g fr w m d (execOp a.eval o):=by
 have q:=h.slots.arg p;have aa:=h.slots.arg hi;simp only[exec]at he;split at he
 ·rename_i cs k n ex ei;rw[ex]at q;rw[ei]at aa;split at he
  ·rename_i r;obtain⟨h0,h1,hl⟩:=r;simp only[Qa,Qd]at he;obtain⟨rfl,rfl⟩:=he;obtain⟨vs,e1,f⟩:=aJ q;obtain⟨td,c,b,hs⟩:=Sn hk;refine⟨rfl,.pure (v:= .agg ((vs.drop (n.toNat*sz)).take sz).toArray) h.inv ?_ (aK ⟨by simp[f.1],λv hv=>?_,λj d v hd hv=>?_⟩)⟩
   ·simp only[execOp,ho,Instr.index,Sem.run_bind,run_underlying hu,e1,aa.int_inv,asIntOf,Result.andThen_ok,Sem.run_pure,h0,h1,and_self,if_true,HU hs,part,ID c,b];congr 3;simp[Q7,QV]
   ·exact f.2.1 v (Qx (QC hv))
   ·have hj:j<sz:=by
     rcases Zv j sz with h1|h1
     ·exact h1
     ·rw[Qk Xb]at hd;cases hd
    rw[Qp hj,Qw]at hd hv;exact f.2.2 _ d v hd hv
  ·cases he
 ·cases he
def aAb{t:TypeId}{o:Oper}{x:Operand}{lo hi:Option Operand}{y:HJ}{j z:Option HJ}(h:At P B w0 w m g fr s a)(hu:P.underlying t=some .string)
  (p:AD x=some y) (r:I2 lo=some j) (ra:I2 hi=some z) (k:o.op= .slice t x lo hi none) (c:exec S s m fr (.cuts y j z)=some (d,u)):
  u=[]∧C6 P B w0 m g fr w m d (execOp a.eval o):=by
 have i:=h.slots.arg p;simp only[exec]at c;split at c
 ·rename_i b e;rw[e]at i;split at c
  ·rename_i q eh;split at c
   ·rename_i l n;simp only[Qa,Qd]at c;obtain⟨rfl,rfl⟩:=c;obtain⟨f,_,_⟩:=EN (P:=P) (w:=w) h.slots r ra false (len:=b.length) (cap:=b.length) (Qi _) eh n;refine⟨rfl,.pure (v:= .string ⟨((b.drop l).take (q-l)).toArray⟩) h.inv ?_ (.str _)⟩;have ka:(ByteArray.mk b.toArray).size=b.length:=by simp[ByteArray.size]
    simp only[execOp,k,Instr.sliceAt,Sem.run_bind,run_underlying hu,Result.andThen_ok,Instr.slice,i.str_inv,ZG,Option.isSome_none,QH,if_false,ka,f,Sem.run_pure,Tt]
   ·cases c
  ·cases c
 ·cases c
def UC{xs:List D}{sz k:Nat}(h:∀d∈xs,d.cells.length=sz)(g:aF xs k=k):xs=[]∨sz=k:=by
 cases xs with
 |nil=>exact .inl rfl
 |cons x r=>right;rw[←h x (Qn ..)];exact g
def aAc{t e:TypeId}{o:Oper}{x:Operand}{lo hi:Option Operand}{y:HJ}{l' h':Option HJ}{sz:Nat}(h:At P B w0 w m g fr s a)(hu:P.underlying t=some (.slice e))(hs:CY P e=some sz)
  (p:AD x=some y) (r:I2 lo=some l') (ra:I2 hi=some h') (ho:o.op= .slice t x lo hi none) (he:exec S s m fr (.cutl sz y l' h')=some (d,u)):
  u=[]∧C6 P B w0 m g fr w m d (execOp a.eval o):=by
 have i:=h.slots.arg p;simp only[exec]at he;split at he
 ·rename_i nl t' xs e';rw[e']at i;split at he
  ·rename_i f;split at he
   ·rename_i hh eh;split at he
    ·rename_i l el;simp only[Qa,Qd]at he;obtain⟨rfl,rfl⟩:=he;have la:∀ad n c l hh m',a.eval x= .slice ad n c->(Instr.sliceBounds true n c (lo.map a.eval) (hi.map a.eval) none).run P w= .ok (l,hh,m') w->
       (execOp a.eval o).run P w= .ok (.value (.slice (if m'=l then ad else ad.map (·.add (l*sz))) (hh-l) (m'-l))) w:=by
      intro ad n c l hh m' e1 e2;simp only[execOp,ho,Instr.sliceAt,Sem.run_bind,run_underlying hu,Result.andThen_ok,Instr.slice,e1,ZG,e2,HU hs,Sem.run_pure]
     rcases i.slice_inv with ⟨rfl,rfl,ev⟩|⟨rfl,ad,n,c,pa,vv,ev,hn,v,h3,h4,h5,h6,h7,h8,h9⟩
     ·obtain⟨q,q1,q2⟩:=EN (P:=P) (w:=w) h.slots r ra true (len:=0) (cap:=0) (Qi _) eh el;obtain rfl:hh=0:=by omega
      obtain rfl:l=0:=O
      exact⟨rfl,.pure h.inv (la _ _ _ _ _ _ ev q) (.nils _)⟩
     ·subst hn;obtain⟨q,q1,q2⟩:=EN (P:=P) (w:=w) h.slots r ra true (len:=xs.length) (cap:=c) v eh el;refine⟨rfl,.pure h.inv (la _ _ _ _ _ _ ev q) ?_⟩;have b:∀d∈(xs.drop l).take (hh-l),d.cells.length=pa:=λd z=>h3 d (Qx (QC z))
      have k:((xs.drop l).take (hh-l)).length=hh-l:=Xb
      by_cases oa:c=l
      ·have h0:hh-l=0:=by omega
       rw[if_pos oa,h0];refine .slice [] _ ad 0 _ pa vv U (ZF _) U U U XP U U U
      ·rw[if_neg oa,QY];by_cases h0:hh-l=0
       ·rw[h0];exact .slice [] _ _ 0 _ pa vv U (ZF _) U U U XP U U U
       ·have ga:xs≠[]:=by rintro rfl;simp at q2;omega
        have ka:pa=sz:=(UC h3 f).resolve_left ga;subst ka;have ua:l*pa+(hh-l)*pa<=xs.length*pa:=by rw[←QQ];exact QB _ O
        refine .slice [] _ _ _ _ pa (λj=>vv (l*pa+j)) k.symm O b (λj hj=>?_) (λj hj=>h5 _ O) (λj d z=>h6 _ d ?_) (λhp=>?_) U (λd z=>h9 d (Qx (QC z)))
        ·rw[add_add];exact h4 _ O
        ·have:=Tq (sz:=pa) z;rw[UJ l h3,Qw]at this;exact this
        ·rw[Cf,Ds];have:=h7 O;omega
    ·cases he
   ·cases he
  ·cases he
 ·cases he
end
section
variable{P:Program}{B:Nat}{w0 w:World}{m:HF}{g:Gh}{fr:Id}{s:Nat->D}{a:Act}{S:HD}{d:D}{u:HN}
def MM:∀{l:List (Nat×Nat×D)} {ps:List (Nat×Value)} {zs cs:List D} {zv:Array Value} {place:Nat->Option (Nat×Nat)},
  AZ w g zs zv.toList->l.length=ps.length->(∀(j:Nat) x p,l[j]?=some x->ps[j]?=some p->place p.1=some (x.1,x.2.1)∧Rep w g x.2.2 p.2)->
  Cj zs l=some cs->∃b:Array Value,Instr.fill place zv ps=some b∧AZ w g cs b.toList
 |[],[],zs,cs,zv,place,hz,_,_,h=>by
  simp only[Cj,Qa]at h;subst h;exact⟨zv,rfl,hz⟩
 |(off,sz,d)::l,[],zs,cs,zv,place,hz,hl,_,h=>by cases hl
 |[],p::ps,zs,cs,zv,place,hz,hl,_,h=>by cases hl
 |(off,sz,d)::l,(i,v)::ps,zs,cs,zv,place,hz,hl,hp,h=>by
  unfold Cj at h;split at h
  ·rename_i r;obtain⟨c1,c2,c3⟩:=r;obtain⟨c,n⟩:=hp 0 _ _ rfl rfl;simp only at c n;have z:=n.cells c1;have t:v.cells.size=sz:=by have:=z.1;simp at this;omega
   have f:=hz.1;simp only[QW]at f;have s:off+v.cells.size<=zv.size:=O
   have na:=Fy v.cells off zv s;have ra:AZ w g (F_ zs off d.cells) ((v.cells.zipIdx.foldl (λcs (x:Value×Nat)=>cs.setIfInBounds (off+x.2) x.1) zv)).toList:=by
    rw[na];unfold F_;have h1:AZ w g (zs.take off) (zv.toList.take off):=by
     refine⟨Xb,λv e=>hz.2.1 v (QC e),λj d v o e=>?_⟩;have u:j<off:=by
      rcases Zv j off with h1|h1
      ·exact h1
      ·rw[Qk Xb]at o;cases o
     rw[Qp u]at o e;exact hz.2.2 j d v o e
    have y:AZ w g (zs.drop (off+d.cells.length)) (zv.toList.drop (off+v.cells.toList.length)):=by
     rw[z.1];refine⟨Xb,λv e=>hz.2.1 v (Qx e),λj d v o e=>?_⟩;rw[Qw]at o e;exact hz.2.2 _ d v o e
    exact AZ.append (AZ.append h1 z) y
   obtain⟨b,k,q⟩:=MM (ps:=ps) (place:=place) ra Xk (λj x p m la=>hp (j+1) x p (by simpa using m) (by simpa using la)) h;refine⟨b,?_,q⟩;unfold Instr.fill;rw[c];simp only;rw[if_neg (by simp[t];omega)];exact k
  ·cases h
def PE{w:List Field}(W:World)(h:∀f∈w,∃n,CY P f.type=some n):
  ∃a:List (Nat×Nat),(w.mapM (m:=Sem) λ(f:Field)=>do pure (f.offset,←sizeOf f.type)).run P W= .ok a W∧a.length=w.length∧∀(i:Nat)(f:Field) n,w[i]?=some f->CY P f.type=some n->a[i]?=some (f.offset,n):=by
 induction w with
 |nil=>exact⟨[],U,rfl,U⟩
 |cons f r ih=>
  obtain⟨n,v⟩:=h f (Qn ..);obtain⟨a,c,z,t⟩:=ih (λf k=>h f (Qq _ k));refine⟨(f.offset,n)::a,?_,by simp[z],λi y e hi j=>?_⟩
  ·simp_all [HU,c]
  ·grind
def GH{k:Array Field}:∀{ps:List (Nat×Operand)} {l:List (Nat×Nat×HJ)},Dx P k ps=some l->
  l.length=ps.length∧∀(j:Nat) x p,l[j]?=some x->ps[j]?=some p->∃f:Field,k[p.1]?=some f∧CY P f.type=some x.2.1∧x.1=f.offset∧AD p.2=some x.2.2
 |[],l,h=>by simp only[Dx,Qa]at h;subst h;simp
 |(i,x)::r,l,h=>by
  unfold Dx at h;split at h
  ·rename_i f y u m z t;split at h
   ·rename_i n b;simp only[Qa]at h;subst h;obtain⟨e,o⟩:=GH t;refine⟨by simp[e],λj v p w g=>?_⟩;cases j with
    |zero=>
     simp only[QE,Qa]at w g;subst w g;exact⟨f,m,b,rfl,z⟩
    |succ j=>exact o j v p Xx XN
   ·cases h
  ·cases h
def Mk{sz:Nat}:∀{ps:List (Nat×Operand)} {l:List (Nat×Nat×HJ)},GI sz ps=some l->
  l.length=ps.length∧∀(j:Nat) x p,l[j]?=some x->ps[j]?=some p->x.1=p.1*sz∧x.2.1=sz∧AD p.2=some x.2.2
 |[],l,h=>by simp only[GI,Qa]at h;subst h;simp
 |(i,x)::r,l,h=>by
  unfold GI at h;split at h
  ·rename_i y f n t;simp only[Qa]at h;subst h;obtain⟨k,z⟩:=Mk t;refine⟨by simp[k],λj v p w g=>?_⟩;cases j with
   |zero=>
    simp only[QE,Qa]at w g;subst w g;exact⟨rfl,rfl,n⟩
   |succ j=>exact z j v p Xx XN
  ·cases h
def gN{t e:TypeId}{len sz:Nat}{z:Array (Nat×Operand)}{o:Oper}{zs:List D}{l:List (Nat×Nat×HJ)}(h:At P B w0 w m g fr s a)(hu:P.underlying t=some (.array len e))
  (oa:CY P e=some sz) (hz:C9 P t=some (.agg zs)) (hl:GI sz z.toList=some l) (ho:o.op= .build t z) (y:exec S s m fr (.build zs l)=some (d,u)):
  u=[]∧C6 P B w0 m g fr w m d (execOp a.eval o):=by
 simp only[exec]at y;rw[Qb]at y;obtain⟨cs,f,y⟩:=y;simp only[Qd]at y;obtain⟨rfl,rfl⟩:=y;unfold C9 at hz;split at hz
 ·rename_i k c;split at hz
  ·rename_i zv r;have q:Rep w g (.agg zs) zv:=Rep.ofVal hz;obtain⟨vs,rfl,rz⟩:=aJ q;obtain⟨q1,q2⟩:=Mk hl;have b:=MM (w:=w) (g:=g) (l:=l.map λp=>(p.1,p.2.1,p.2.2.ev s)) (ps:=(z.map λ(i,x)=>(i,a.eval x)).toList) (zs:=zs) (cs:=cs) (zv:=vs.toArray) (place:=λi=>some (i*sz,sz))
    (by simpa using rz) (by simp[q1]) (λj x p hx hp=>?_) f
   ·obtain⟨cv,f1,f2⟩:=b;refine⟨rfl,.pure (v:= .agg cv) h.inv ?_ ?_⟩
    ·simp only[execOp,ho,Instr.build,zeroValue,typeInfo,Sem.run_bind,run_program,Result.andThen_ok,c,r,Sem.run_pure,run_underlying hu,HU oa,Value.cells,f1]
    ·have:=aK f2
     rwa [QD]at this
   ·rw[Qj,Qb]at hx;obtain⟨x',pa,rfl⟩:=hx;rw[QM,Qj,Qb]at hp;obtain⟨p',n,rfl⟩:=hp;obtain⟨r1,r2,r4⟩:=q2 j x' p' pa n;refine⟨?_,h.slots.arg r4⟩;simp[r1,r2]
  ·cases hz
 ·cases hz
def oJ{t:TypeId}{z:Array (Nat×Operand)}{o:Oper}{ca:Array Field}{zs:List D}{l:List (Nat×Nat×HJ)}(h:At P B w0 w m g fr s a)(hu:P.underlying t=some (.struct ca))
  (na:gD P ca.toList=true) (hz:C9 P t=some (.agg zs)) (hl:Dx P ca z.toList=some l) (ho:o.op= .build t z) (y:exec S s m fr (.build zs l)=some (d,u)):
  u=[]∧C6 P B w0 m g fr w m d (execOp a.eval o):=by
 simp only[exec]at y;rw[Qb]at y;obtain⟨cs,ra,y⟩:=y;simp only[Qd]at y;obtain⟨rfl,rfl⟩:=y;unfold C9 at hz;split at hz
 ·rename_i k c;split at hz
  ·rename_i zv r;have hr:Rep w g (.agg zs) zv:=Rep.ofVal hz;obtain⟨vs,rfl,rz⟩:=aJ hr;have q:∀f∈ca.toList,∃n,CY P f.type=some n:=by
    intro f hf;have:=Qy.1 na f hf;rw[Zf]at this;exact this
   obtain⟨pl,p1,p2,p3⟩:=PE (P:=P) w q;obtain⟨q1,q2⟩:=GH hl;have b:=MM (w:=w) (g:=g) (l:=l.map λp=>(p.1,p.2.1,p.2.2.ev s)) (ps:=(z.map λ(i,x)=>(i,a.eval x)).toList) (zs:=zs) (cs:=cs) (zv:=vs.toArray) (place:=λi=>pl.toArray[i]?)
    (by simpa using rz) (by simp[q1]) (λj x p hx hp=>?_) ra
   ·obtain⟨cv,f1,f2⟩:=b;refine⟨rfl,.pure (v:= .agg cv) h.inv ?_ ?_⟩
    ·have hm:(ca.mapM (m:=Sem) λ(f:Field)=>do pure (f.offset,←sizeOf f.type)).run P w= .ok pl.toArray w:=by
      rw[Zc,Sem.run_map,p1];rfl
     simp only[execOp,ho,Instr.build,zeroValue,typeInfo,Sem.run_bind,run_program,Result.andThen_ok,c,r,Sem.run_pure,run_underlying hu,hm,Value.cells,f1]
    ·have:=aK f2
     rwa [QD]at this
   ·rw[Qj,Qb]at hx;obtain⟨x',pa,rfl⟩:=hx;rw[QM,Qj,Qb]at hp;obtain⟨p',e,rfl⟩:=hp;obtain⟨f,r1,r2,r3,r4⟩:=q2 j x' p' pa e;refine⟨?_,h.slots.arg r4⟩;have:=p3 p'.1 f x'.2.1 (by simpa using r1) r2;simp only[QJ];rw[this,r3]
  ·cases hz
 ·cases hz
end
section
variable{P:Program}{B:Nat}{w0 w:World}{m:HF}{g:Gh}{fr:Id}{s:Nat->D}{a:Act}{S:HD}{d:D}{u:HN}
def RE:∀{xs:List Operand} {ys:List HJ},Ef xs=some ys->xs.length=ys.length∧∀(j:Nat) x y,xs[j]?=some x->ys[j]?=some y->AD x=some y
 |[],ys,h=>by simp only[Ef,Qa]at h;subst h;simp
 |x::r,ys,h=>by
  unfold Ef at h;split at h
  ·rename_i y l u f;simp only[Qa]at h;subst h;obtain⟨p,q⟩:=RE f;refine⟨by simp[p],λj v e w s=>?_⟩;cases j with
   |zero=>simp only[QE,Qa]at w s;subst w s;exact u
   |succ j=>exact q j v e Xx (by simpa using s)
  ·cases h
def gC{sz:Nat}(o:0<sz):∀{ps:List (Nat×Value)} {k:Nat} {cs:Array Value},ps.map (·.1)=Zp k ps.length->(∀p∈ps,p.2.cells.size=sz)->cs.size=(k+ps.length)*sz->
  ∃b:Array Value,Instr.fill (λi=>some (i*sz,sz)) cs ps=some b∧b.toList=cs.toList.take (k*sz)++ps.flatMap λp=>p.2.cells.toList
 |[],k,cs,_,_,hcs=>⟨cs,rfl,by simp at hcs;simp[List.take_of_length_le,hcs]⟩
 |(i,v)::r,k,cs,g,hp,hcs=>by
  simp only[Qs,Qo,Q3,ZH]at g;obtain⟨rfl,g⟩:=g;have e:=hp (i,v) (Qn ..);simp only at e;have t:i*sz+v.cells.size<=cs.size:=by
   rw[hcs,e,←Zw];exact QB _ (by simp only[Qo];omega)
  have na:=Fy v.cells (i*sz) cs t;have a:(v.cells.zipIdx.foldl (λcs (x:Value×Nat)=>cs.setIfInBounds (i*sz+x.2) x.1) cs).size=cs.size:=by
   rw[←QW,na];simp;omega
  obtain⟨b,w,c⟩:=gC (k:=i+1) (ps:=r) (cs:=v.cells.zipIdx.foldl (λcs (x:Value×Nat)=>cs.setIfInBounds (i*sz+x.2) x.1) cs) o g (λp n=>hp p (Qq _ n)) (by rw[a,hcs];congr 1;simp only[Qo];omega);refine⟨b,?_,?_⟩
  ·unfold Instr.fill;simp only;rw[if_neg (by simp[e];first|done|omega)];exact w
  ·rw[c,na];have hl:(cs.toList.take (i*sz)).length=i*sz:=by rw[QT];simp;omega
   have z:v.cells.toList.length=sz:=by simpa using e
   simp only[Zd];rw[←QL];congr 1;rw[show(i+1)*sz=(cs.toList.take (i*sz)++v.cells.toList).length by rw[Zu,hl,z,Zw]];exact List.take_left
theorem gO{t e:TypeId}{aa:Array (Nat×Operand)}{len:Nat}{o:Oper}{sz bytes:Nat}{l:List HJ}(h:At P B w0 w m g fr s a)(hu:P.underlying t=some (.slice e))(he:Lt P e=some (sz,bytes))
  (hl:Ef (aa.toList.map (·.2))=some l) (f:aa.toList.map (·.1)=Qt len) (qa:len*sz<=2 ^ 24) (ho:o.op= .buildSlice t len aa)
  (hx:exec S s m fr (.bslice e sz l)=some (d,u)):C6 P B w0 m g fr w (HN.app m u) d (execOp a.eval o):=by
 obtain⟨va,ti,z,hi,oa,hz,kb,ka⟩:=Ls he;simp only[exec]at hx;split at hx
 ·rename_i ja;simp only[Qa,Qd]at hx;obtain⟨rfl,rfl⟩:=hx;have r:∀p∈l,((p.ev s).data=true∧(p.ev s).cells.length=sz)∧(p.ev s).un.calm=true:=by
   simp_all
  have b:∀p∈l,(p.ev s).data=true∧(p.ev s).cells.length=sz:=λp hp=>(r p hp).1
  obtain⟨ca,ia⟩:=RE hl;have za:aa.toList.length=len:=by have:=congrArg ZL f;simpa using this
  simp only[QZ]at ca;have da:∀(j:Nat) d v,(l.map λp=>(p.ev s).un)[j]?=some d->(aa.toList.map λp=>a.eval p.2)[j]?=some v->Rep w g d v:=by
   intro j d v hd hv;rw[Qj,Qb]at hd hv;obtain⟨y,hy,rfl⟩:=hd;obtain⟨p,hp,rfl⟩:=hv;exact(h.slots.arg (ia j p.2 y (by rw[Qj,hp];rfl) hy)).un
  have ra:=AZ.flat (w:=w) (g:=g) (sz:=sz) (xs:=l.map λp=>(p.ev s).un) (vs:=aa.toList.map λp=>a.eval p.2) (λd hd=>by
   rw[Qv]at hd;obtain⟨y,hy,rfl⟩:=hd;exact⟨aH5 (b y hy).1,by rw[RB];exact(b y hy).2⟩) Xb da
  have na:∀p∈(aa.map λ(i,x)=>(i,a.eval x)).toList,p.2.cells.size=sz:=by
   intro p hp;rw[QM,Qv]at hp;obtain⟨q,hq,rfl⟩:=hp;obtain⟨j,hj,ya⟩:=Za hq;have hy:l[j]?=some (l[j]' O):=Qc _;have hr:=h.slots.arg (ia j q.2 _ (by rw[Qj,Qc hj,ya];rfl) hy);have hd:=b _ (Q1 (by omega:j<l.length));have:=(hr.cells hd.1).1;simp at this ⊢;omega
  let row:Array Value:=(ZM (len*sz)).map (z.cells[· % z.cells.size]!)
  have ba:row.size=(0+(aa.map λ(i,x)=>(i,a.eval x)).toList.length)*sz:=by
   grind
  obtain⟨cv,f1,f2⟩:=gC va (ps:=(aa.map λ(i,x)=>(i,a.eval x)).toList) (k:=0) (cs:=row) (by
   rw[←QR];simp only[QM,List.map_map,QZ,za];rw[←f];apply QX;intro p _;rfl) na ba
  have ha:cv.toList=(aa.toList.map λp=>a.eval p.2).flatMap λv=>v.cells.toList:=by
   rw[f2];simp[List.flatMap_map]
  have pa:cv.size=len*sz:=by
   have:=ra.1;rw[←ha]at this;rw[Cx (sz:=sz) (λd hd=>by
    rw[Qv]at hd;obtain⟨y,hy,rfl⟩:=hd;rw[RB];exact(b y hy).2)]at this
   simp only[QW,QZ]at this;rw[this];congr 1;omega
  have wa:len<=maxLen:=by
   have:len*1<=len*sz:=Nat.mul_le_mul_left _ va;unfold maxLen;omega
  have fa:=h.inv.newTok h.self (e:=e) (n:=len) (c:=len) (sz:=sz) (cur:=cv) va ⟨ti,z,hi,oa,hz,kb⟩ (Qi _) wa pa;have ma:=H5.newTok (t:=fr) (n:=len) (c:=len) (sz:=sz) (Obj.cells cv e) h.inv.gz h.self.2.2 rfl;refine⟨.slice (some ⟨w.heap.size,0,none⟩) len len,w.alloc (.cells cv e),g.tok fr w.heap.size len len sz,.value (.slice (some ⟨w.heap.size,0,none⟩) len len),?_,.inl rfl,fa,ma,?_,λi hf ga=>C_ hf ga _ _ _ _ _⟩
  ·have ea:¬(len*sz>2 ^ 24):=by omega
   have lb:CY P e=some sz:=by simp[CY,hi,oa]
   by_cases h0:len*sz=0
   ·have la:(ZM 0).map ((#[]:Array Value)[· % (#[]:Array Value).size]!)=row:=by simp[row,h0]
    simp only[execOp,ho,Instr.buildSlice,Sem.run_bind,run_underlying hu,Result.andThen_ok,HU lb,show ¬((0:Nat)>2 ^ 24)from by omega,if_false,h0,if_true,Sem.run_pure,la,f1,Hi]
   ·simp only[execOp,ho,Instr.buildSlice,Sem.run_bind,run_underlying hu,Result.andThen_ok,HU lb,ea,if_false,h0,Sem.run_pure,zeroValue,typeInfo,run_program,hi,hz];change (Sem.run P (match Instr.fill (λi=>some (i*sz,sz)) row (aa.map λ(i,x)=>(i,a.eval x)).toList with|some cells=>_|_=>_) w).andThen _=_;rw[f1];simp only[Sem.run_bind,Hi,Result.andThen_ok,Sem.run_pure]
  ·refine aH (sz:=sz) (cur:=cv) (T:=e) (fz:=(0,0)) (heap_alloc_new w _) Xb (Qi _) (λd hd=>?_) (ra.ext ma) (λj v hv=>?_) Xl (λ_=>Xl) (λd hd=>?_)
   ·grind [RB]
   ·grind
   ·grind
 ·cases hx
end
structure kU (P:Program) (w:World) (size:Nat) (y:Value) (n:Nat) (ws:List Value):Prop where
 len:∀W:World,(Builtin.lenOf y).run P W= .ok n W
 cells:(Builtin.firstCells size n y).run P w= .ok ws.toArray w
 drew:(Builtin.firstCells size n y).run P w.drew= .ok ws.toArray w.drew
 wl:ws.length=n*size
section
variable{P:Program}{w:World}
theorem kU.slice{y n c:Nat}{ad:Addr}{o:List Value}(hl:o.length=n*y)(h:∀j u,o[j]?=some u->w.cell? (ad.add j)=some u):kU P w y (.slice (some ad) n c) n o:=
 ⟨λW=>Yf,run_firstCells_some (P:=P) w y n ad n c o hl h,run_firstCells_some (P:=P) w.drew y n ad n c o hl Xr,hl⟩
def kU.string(s:ByteArray):kU P w 1 (.string s) s.size (Lib.strCells s):=
 ⟨λW=>Yf,Lib.run_firstCells_string w 1 s,Lib.run_firstCells_string w.drew 1 s,by rw[Lib.strCells_length];omega⟩
def dD{t ty e:TypeId}{i:TypeInfo}{z:Value}(m:P.underlying t=some (.slice e))(hi:P.info? e=some i)(d:i.zero=some z)
  {y:Value} {n:Nat} {o:List Value} (j:kU P w i.size y n o)
  (b:0<n) (g:(n:Int)<=9223372036854775807) (f:n*i.bytes<=281474976710656):
  (Builtin.append_ #[t,t] ty #[.slice none 0 0,y]).run P w=
   .ok (.slice (some ⟨w.heap.size,0,none⟩) n (grownCap w n 0 e)) (w.drew.alloc (.cells (o.toArray++Builtin.zeroCells z.cells (grownCap w n 0 e-n)) e)):=by
 have v:n≠0:=O
 have a:¬(9223372036854775807<(n:Int)):=O
 have c:¬(281474976710656<Builtin.nextslicecap n 0*i.bytes):=by rw[nextslicecap_zero b];omega
 have k:=j.drew;have hl:=j.len;simp[Builtin.append_,run_underlying m,sizeOf,typeInfo,zeroValue,hi,d,hl,v,a,c,Question.forced,run_firstCells_none,k,newRow,grownCap]
def Vv{t ty e:TypeId}{i:TypeInfo}{z:Value}(m:P.underlying t=some (.slice e))(hi:P.info? e=some i)(hz:i.zero=some z)
  {b:Addr} {sLen sCap:Nat} {olds:List Value} (x:olds.length=sLen*i.size) (d:∀j v,olds[j]?=some v->w.cell? (b.add j)=some v)
  {y:Value} {n:Nat} {o:List Value} (k:kU P w i.size y n o)
  (hg:sCap<sLen+n) (g:((sLen+n:Nat):Int)<=9223372036854775807) (s:Builtin.nextslicecap (sLen+n) sCap*i.bytes<=281474976710656):
  (Builtin.append_ #[t,t] ty #[.slice (some b) sLen sCap,y]).run P w=
   .ok (.slice (some ⟨w.heap.size,0,none⟩) (sLen+n) (grownCap w (sLen+n) sCap e))
    (w.drew.alloc (.cells (olds.toArray++o.toArray++Builtin.zeroCells z.cells (grownCap w (sLen+n) sCap e-(sLen+n))) e)):=by
 have hn:¬(sLen+n<=sCap):=O
 have a:¬(9223372036854775807<((sLen:Int)+(n:Int))):=O
 have c:¬(281474976710656<Builtin.nextslicecap (sLen+n) sCap*i.bytes):=O
 have r:=k.drew;have hl:=k.len;have q:=run_firstCells_some (P:=P) w.drew i.size sLen b sLen sCap olds x (by simpa using d);simp[Builtin.append_,run_underlying m,sizeOf,typeInfo,zeroValue,hi,hz,hl,hn,a,c,Question.forced,r,q,newRow,grownCap];congr 2;apply Array.ext';simp[QL]
def Vt{t ty e:TypeId}{i:TypeInfo}(v:P.underlying t=some (.slice e))(hi:P.info? e=some i)
  {g sLen sCap:Nat} {cur:Array Value} (a:w.heap[g]?=some (.cells cur e (0,0))) {y:Value} {n:Nat} {o:List Value} (k:kU P w i.size y n o) (q:∀u∈o,u.oneCell'=true)
  (f:sLen+n<=sCap) (j:sLen*i.size+o.length<=cur.size):
  (Builtin.append_ #[t,t] ty #[.slice (some ⟨g,0,none⟩) sLen sCap,y]).run P w=
   .ok (.slice (some ⟨g,0,none⟩) (sLen+n) sCap) (w.setRow g (cur.toList.take (sLen*i.size)++o++cur.toList.drop (sLen*i.size+o.length)).toArray):=by
 have b:=k.cells;have hl:=k.len;have p:=run_storeCells_at P g (sLen*i.size) e o 0 cur w a (by simpa using j) q;simp only[Zj]at p;simp[Builtin.append_,run_underlying v,sizeOf,typeInfo,hi,hl,f,b,Addr.add_lit,p]
def kU.nil{j:Nat}:kU P w j (.slice none 0 0) 0 []:=
 ⟨λW=>Yf,by simp[Builtin.firstCells],by simp[Builtin.firstCells],U⟩
def Vu{t ty e:TypeId}{i:TypeInfo}(v:P.underlying t=some (.slice e))(hi:P.info? e=some i){y:Value}{o:List Value}(j:kU P w i.size y 0 o):
  (Builtin.append_ #[t,t] ty #[.slice none 0 0,y]).run P w= .ok (.slice none 0 0) w:=by
 have k:=j.cells;have hl:=j.len;simp[Builtin.append_,run_underlying v,sizeOf,typeInfo,hi,hl,k]
def Vs{t u ty e:TypeId}(v:P.underlying t=some (.slice e))(m:P.underlying u=some .string)(x y:Value):
  (Builtin.append_ #[t,u] ty #[x,y]).run P w=(Builtin.append_ #[t,t] ty #[x,y]).run P w:=by
 cases x<;>simp[Builtin.append_,run_underlying v,run_underlying m,sizeOf]
end
section
variable{P:Program}{B:Nat}{w0 w:World}{m:HF}{g:Gh}{fr:Id}{s:Nat->D}{a:Act}{S:HD}{d:D}{u:HN}
def Rep.slice_list{t:Id}{xs:List D}{v:Value}(h:Rep w g (.slice false t xs) v):∃ad n c sz,∃e:List Value,v= .slice (some ad) n c∧n=xs.length∧n<=c∧(∀d∈xs,d.cells.length=sz)∧
  e.length=n*sz∧AZ w g (flat xs) e∧(∀j u,e[j]?=some u->w.cell? (ad.add j)=some u)∧(0<n*sz->ad.off+n*sz<=g.G ad.block)∧
  (t≠[]->ad.off=0∧ad.spot=none∧g.tb t=some (ad.block,n,c,sz))∧(∀d∈xs,d.calm=true):=by
 rcases h.slice_inv with ⟨b,_⟩|⟨_,ad,n,c,sz,vv,ev,q,y,o,m,p,h6,s,h8,x⟩
 ·cases b
 ·have hl:=Cx o;refine⟨ad,n,c,sz,(Qt (n*sz)).map vv,ev,q,y,o,U,⟨by simp[hl,q],λv r=>?_,λj d v z r=>?_⟩,λj u hu=>?_,s,h8,x⟩
  ·grind
  ·grind
  ·grind
def SA:∀{ys:List D},(∀d∈ys,d.cells=[d])->flat ys=ys
 |[],_=>rfl
 |d::r,h=>by
  rw[flat,h d (Qn ..),SA λd z=>h d (Qq _ z)];rfl
def rG{y:D}{v:Value}{ys:List D}{sz:Nat}(h:Rep w g y v)(k:Lz sz y=some ys)(hh:aF ys sz=sz):
  ∃ws:List Value,kU P w sz v ys.length ws∧AZ w g (flat ys) ws∧(∀d∈ys,d.cells.length=sz)∧∀d∈ys,d.calm=true:=by
 unfold Lz at k;split at k
 ·rename_i nl t e;simp only[Qa]at k;subst k;cases nl with
  |true=>
   rcases h.slice_inv with ⟨_,rfl,rfl⟩|⟨o,_⟩
   ·exact⟨[],kU.nil,AZ.nil w g,U,U⟩
   ·cases o
  |false=>
   obtain⟨ad,n,c,pa,ws,rfl,hn,wa,p,ta,da,x,f,qa,a⟩:=h.slice_list;subst hn;rcases UC p hh with rfl|rfl
   ·grind [kU.slice,AZ.nil]
   ·exact⟨ws,kU.slice ta x,da,p,a⟩
 ·rename_i b;split at k
  ·rename_i q;subst q;simp only[Qa]at k;subst k;have i:v= .string ⟨b.toArray⟩:=by cases h;rfl
   subst i;have r:(AF b).length=(⟨b.toArray⟩:ByteArray).size:=by simp[AF];rfl
   have q:∀d∈AF b,d.cells=[d]∧d.calm=true:=by
    intro d z;simp only[AF,Qv]at z;obtain⟨c,_,rfl⟩:=z;exact⟨rfl,rfl⟩
   refine⟨Lib.strCells ⟨b.toArray⟩,r▸kU.string _,⟨?_,Lib.strCells_oneCell _,λj d u z m=>?_⟩,λd z=>by rw[(q d z).1];rfl,λd z=>(q d z).2⟩
   ·rw[SA λd z=>(q d z).1,Lib.strCells_length,r]
   ·rw[SA λd z=>(q d z).1]at z;simp only[AF,Lib.strCells,Qj,Qb]at z m;obtain⟨c,s,rfl⟩:=z;obtain⟨c',oa,rfl⟩:=m;rw[s]at oa;simp only[Qa]at oa;subst oa;exact .int _ _
  ·cases k
 ·cases k
def aEh{t t2 e:TypeId}{o:Oper}{x y:Operand}{p q:HJ}{sz bytes:Nat}(h:At P B w0 w m g fr s a)(hu:P.underlying t=some (.slice e))(he:Lt P e=some (sz,bytes))
  (hx:AD x=some p) (hy:AD y=some q) (ho:o.op= .call {callee:= .builtin .append,args:=#[x,y],argTypes:=#[t,t2]}) (ht2:t2=t∨P.underlying t2=some .string)
  (aa:exec S s m fr (.app e sz bytes p q)=some (d,u)):C6 P B w0 m g fr w (HN.app m u) d (execOp a.eval o):=by
 obtain⟨va,ti,z,hi,oa,hz,kb,ka⟩:=Ls he;have lb:CY P e=some sz:=by simp[CY,hi,oa]
 have ua:=h.slots.arg hx;have gb:=h.slots.arg hy;have ab:∃ti z,P.info? e=some ti∧ti.size=sz∧ti.zero=some z∧z.cells.size=sz:=⟨ti,z,hi,oa,hz,kb⟩;have la:∀v' w',(Builtin.append_ #[t,t] o.type #[a.eval x,a.eval y]).run P w= .ok v' w'->(execOp a.eval o).run P w= .ok (.value v') w':=by
  intro v' w' e1;have e1:(Builtin.append_ #[t,t2] o.type #[a.eval x,a.eval y]).run P w= .ok v' w':=by
   rcases ht2 with rfl|ht2
   ·exact e1
   ·simp_all [Vs,e1]
  simp only[execOp,ho,resolve,invoke,builtin,Sem.run_bind,Sem.run_pure,Result.andThen_ok,ZB,Qs,Zk,e1]
 simp only[exec]at aa;split at aa
 ·rename_i nl t' xs ys ex ey;rw[ex]at ua;split at aa
  ·rename_i hc;obtain⟨rfl,rfl⟩:=hc;simp only[Qa,Qd]at aa;obtain⟨rfl,rfl⟩:=aa;rcases ua.slice_inv with ⟨_,rfl,ev⟩|⟨h0,_⟩
   ·obtain⟨ws,za,_⟩:=rG (P:=P) gb ey (show aF [] sz=sz from rfl);have hv:=Vu (ty:=o.type) hu hi (oa▸za);exact .pure h.inv (la _ _ (by rw[ev];exact hv)) (.nils _)
   ·cases h0
  ·rename_i wa;split at aa
   ·rename_i hc;obtain⟨pb,gc⟩:=hc;obtain⟨ws,za,da,ub,ib⟩:=rG (P:=P) gb ey gc;have ta:ws.length=ys.length*sz:=za.wl;have hb:kU P w ti.size (a.eval y) ys.length ws:=by rw[oa];exact za
    have fc:xs.length+ys.length<=140737488355328:=by
     grind
    have cb:(xs.length+ys.length)*bytes<=140737488355328:=by
     grind
    split at aa
    ·-- onto nil
     rename_i pa;subst pa;simp only[Qa,Qd]at aa;obtain⟨rfl,rfl⟩:=aa;have bb:ys≠[]:=λe=>wa ⟨rfl,e⟩
     rcases ua.slice_inv with ⟨_,rfl,ev⟩|⟨h0,_⟩
     ·have ca:0<ys.length:=List.length_pos_iff.2 bb;simp only[List.length_nil,Qu]at fc cb;have hr:=dD (P:=P) (ty:=o.type) hu hi hz hb ca O (by rw[ka];omega);have ha:=grownCap_ge w ys.length 0 e;have eb:grownCap w ys.length 0 e<=maxLen:=grownCap_le_maxLen w ys.length 0 e Xq;have fb:(ws.toArray++Builtin.zeroCells z.cells (grownCap w ys.length 0 e-ys.length)).size=grownCap w ys.length 0 e*sz:=by
       simp only[Zx,Zy,size_zeroCells,kb,ta,←QQ];congr 1;omega
      have fa:=h.inv.drew.newTok h.self (e:=e) (n:=ys.length) (c:=grownCap w ys.length 0 e) (sz:=sz) (cur:=ws.toArray++Builtin.zeroCells z.cells (grownCap w ys.length 0 e-ys.length)) va ab ha eb fb;have ma:H5 w g (w.drew.alloc (.cells (ws.toArray++Builtin.zeroCells z.cells (grownCap w ys.length 0 e-ys.length)) e)) (g.tok fr w.heap.size ys.length (grownCap w ys.length 0 e) sz):=
       (H5.drew w g).trans (H5.newTok (w:=w.drew) _ h.inv.gz h.self.2.2 rfl)
      refine⟨_,_,_,_,la _ _ (by rw[ev];exact hr),.inl rfl,fa,ma,?_,λi hf ga=>C_ hf ga _ _ _ _ _⟩;refine aH (sz:=sz) (cur:=ws.toArray++Builtin.zeroCells z.cells (grownCap w ys.length 0 e-ys.length)) (T:=e) (fz:=(0,0)) (heap_alloc_new w.drew _) rfl ha ub (da.ext ma) (λj v hv=>?_) Xl (λ_=>Xl) ib;rw[QI (by simpa using (Qf.1 hv).1)];simpa using hv
     ·cases h0
    ·-- onto a growing slice
     rename_i pa;have pa:nl=false:=by cases nl<;>simp_all
     subst pa;split at aa
     ·rename_i k hk;split at aa
      ·rename_i rb;obtain⟨rb,ec⟩:=rb;subst rb;simp only[Qa,Qd]at aa;obtain⟨rfl,rfl⟩:=aa;obtain⟨ad,n0,c0,lc,mb,ev,hn,ac,yb,wb,vb,jb,mc,zb,jc⟩:=ua.slice_list;obtain⟨b,n,c,l,cur,t1,t2,t3,t4,t5,t6,t7,t8,t9,xa⟩:=h.inv.tok t' e hk;obtain⟨q1,q2,q3⟩:=zb ec;rw[t1]at q3;simp only[Qa,Qd]at q3;obtain⟨rfl,rfl,rfl,rfl⟩:=q3;have ob:l=sz:=by obtain⟨ic,z',i1,i2,_⟩:=t4;rw[hi]at i1;simp only[Qa]at i1;subst i1;omega
       subst ob;have xb:ad=⟨ad.block,0,none⟩:=by cases ad;simp_all
       have ya:w.heap[ad.block]?=some (.cells cur e (0,0)):=t5;have qb:∀(j:Nat) v,mb[j]?=some v->cur[j]?=some v:=by
        intro j v hv;have:=jb j v hv;rw[xb,Gk,Qu]at this;simpa[World.cell?,ya]using this
       have tb:cur.toList.take (n*l)=mb:=by
        apply Zz;intro j;by_cases hj:j<n*l
        ·rw[Qp hj];have:mb[j]?=some (mb[j]' O):=Qc _;rw[this];simpa using qb j _ this
        ·rw[Qk Xb,Qk O]
       have sb:HQ P B w0 (m.put t' 0 [.tok 0]) w g:=h.inv.kill (by
        cases hd:g.dl t' with
        |none=>rfl
        |some b'=>
         obtain⟨_,_,vs,T,_,r⟩:=h.inv.obj t' b' hd;obtain⟨v,_,_,r3⟩:=r 0 _ hk;cases r3)
       have dc:fr≠t':=by rintro rfl;rw[h.self.1 0]at hk;cases hk
       have kc:B3 (m.put t' 0 [.tok 0]) g fr:=B3.kill h.self dc;have ia:∀b' n' c' s',∀i,B3 m g i->¬fr<:+i->B3 ((m.put t' 0 [.tok 0]).put fr 0 [.tok (e+1)]) (g.tok fr b' n' c' s') i:=by
        intro b' n' c' s' i hf ga;exact C_ (B3.kill hf (by rintro rfl;rw[hf.1 0]at hk;cases hk)) ga _ _ _ _ _
       have ja:∀dd∈xs++ys,dd.cells.length=l:=by
        intro dd bc;rcases Qg.1 bc with hd|hd
        ·exact yb dd hd
        ·exact ub dd hd
       have db:∀dd∈xs++ys,dd.calm=true:=by
        intro dd bc;rcases Qg.1 bc with hd|hd
        ·exact jc dd hd
        ·exact ib dd hd
       have ra:AZ w g (flat (xs++ys)) (mb++ws):=by rw[Ln];exact AZ.append vb da
       have ca:n+ys.length=(xs++ys).length:=Xb
       have cc:(n+ys.length)<=maxLen:=Xq
       by_cases f:n+ys.length<=c
       ·-- there is room
        have ba:n*ti.size+ws.length<=cur.size:=by rw[ta,oa,t8,←QQ];exact QB _ f
        have hr:=Vt (P:=P) (ty:=o.type) hu hi ya hb da.2.1 f ba;rw[oa]at hr ba
        let na:Array Value:=(cur.toList.take (n*l)++ws++cur.toList.drop (n*l+ws.length)).toArray
        have ea:(cur.toList.take (n*l)).length=n*l:=by rw[QT];simp;omega
        have sa:na.size=cur.size:=by simp[na];omega
        have qa:∀j,j<n*l->na[j]?=cur[j]?:=by
         intro j hj;simp only[na,QJ,QL];rw[Qm O,Qp hj];simp
        have fa:=h.inv.inPlace h.self hk t1 (ZC n ys.length) f ya sa qa;have ma:H5 w g (w.setRow ad.block na) (g.tok fr ad.block (n+ys.length) c l):=H5.inPlace h.self.2.2 t9 (ZC n ys.length) ya qa ⟨_,_,t1,rfl⟩;refine⟨_,_,_,_,la _ _ (by rw[ev,xb];exact hr),.inl rfl,fa,ma,?_,ia _ _ _ _⟩;refine aH (sz:=l) (cur:=na) (T:=e) (fz:=(0,0)) (setRow_heap w ad.block cur na e _ ya) ca f ja (ra.ext ma) (λj v hv=>?_) Xl (λ_=>Xl) db;simp only[na,QJ,tb];rw[Qm (Qf.1 hv).1];exact hv
       ·-- there is none
        have hr:=Vv (P:=P) (ty:=o.type) hu hi hz (b:=ad) (sLen:=n) (sCap:=c) (olds:=mb) (by rw[wb,oa]) jb hb O O (growslice_fits O (by rw[ka,hn];exact cb));have ha:=grownCap_ge w (n+ys.length) c e;have eb:grownCap w (n+ys.length) c e<=maxLen:=grownCap_le_maxLen w (n+ys.length) c e cc;have fb:(mb.toArray++ws.toArray++Builtin.zeroCells z.cells (grownCap w (n+ys.length) c e-(n+ys.length))).size=grownCap w (n+ys.length) c e*l:=by
         simp only[Zx,Zy,size_zeroCells,kb,ta,wb,←QQ];congr 1;omega
        have fa:=sb.drew.newTok kc (e:=e) (n:=n+ys.length) (c:=grownCap w (n+ys.length) c e) (sz:=l) (cur:=mb.toArray++ws.toArray++Builtin.zeroCells z.cells (grownCap w (n+ys.length) c e-(n+ys.length))) va ab ha eb fb;have ma:H5 w g (w.drew.alloc (.cells (mb.toArray++ws.toArray++Builtin.zeroCells z.cells (grownCap w (n+ys.length) c e-(n+ys.length))) e)) (g.tok fr w.heap.size (n+ys.length) (grownCap w (n+ys.length) c e) l):=
         (H5.drew w g).trans (H5.newTok (w:=w.drew) _ h.inv.gz h.self.2.2 rfl)
        refine⟨_,_,_,_,la _ _ (by rw[ev];exact hr),.inl rfl,fa,ma,?_,ia _ _ _ _⟩;refine aH (sz:=l) (cur:=mb.toArray++ws.toArray++Builtin.zeroCells z.cells (grownCap w (n+ys.length) c e-(n+ys.length))) (T:=e) (fz:=(0,0)) (heap_alloc_new w.drew _) ca ha ja (ra.ext ma) (λj v hv=>?_) Xl (λ_=>Xl) db;have hj:=(Qf.1 hv).1;rw[QI (by simpa using hj)];simpa using hv
      ·cases aa
     ·cases aa
   ·cases aa
 ·cases aa
end
section
variable{P:Program}{B:Nat}{w0 w:World}{m:HF}{g:Gh}{fr:Id}{s:Nat->D}{a:Act}{S:HD}{d:D}{u:HN}
theorem Px{v:Value}{d:D}(h:ofLeaf v=some d):d.calm1=true∧d.calm=true:=by
 unfold ofLeaf at h;split at h<;>first|(simp only[Qa]at h;subst h;exact⟨rfl,rfl⟩)|cases h
theorem pD{v:Value}{d:D}(h:ofVal v=some d):d.calm=true:=by
 cases v with
 |agg cs=>
  simp only[ofVal,Qb]at h;obtain⟨l,hl,rfl⟩:=h;have e:∀{vs:List Value} {l:List D},ofLeaves vs=some l->l.all D.calm1=true:=by
   intro vs;induction vs with
   |nil=>intro l h;simp only[ofLeaves,Qa]at h;subst h;rfl
   |cons v r ih=>
    intro l h;unfold ofLeaves at h;split at h
    ·grind [Px]
    ·cases h
  exact e hl
 |_=>simp only[ofVal]at h;exact(Px h).2
def zW{t e:TypeId}{o:Oper}{x y:Operand}{p q:HJ}{sz bytes:Nat}{z:D}(h:At P B w0 w m g fr s a)(hu:P.underlying t=some (.slice e))(he:Lt P e=some (sz,bytes))
  (hz:C9 P e=some z) (hx:AD x=some p) (hy:AD y=some q) (ho:o.op= .makeSlice t x y)
  (aa:exec S s m fr (.mksl e sz bytes z p q)=some (d,u)):C6 P B w0 m g fr w (HN.app m u) d (execOp a.eval o):=by
 obtain⟨va,ti,zv,hi,oa,r,kb,ka⟩:=Ls he;have ua:=h.slots.arg hx;have gb:=h.slots.arg hy;have ea:Rep w g z zv:=by
  grind [C9,Rep.ofVal]
 have xa:z.data=true:=by
  unfold C9 at hz;simp only[hi,r]at hz;cases zv<;>first|(simp only[ofVal,Qb]at hz;obtain⟨l,_,rfl⟩:=hz;rfl)|(simp only[ofVal]at hz;exact Pv hz)
 have ab:z.calm=true:=by
  grind [C9,pD]
 simp only[exec]at aa;split at aa
 ·rename_i k n k' c ex ey;rw[ex]at ua;rw[ey]at gb;split at aa
  ·rename_i hc;obtain⟨h0,wa,pb,f⟩:=hc;obtain⟨n,rfl⟩:=Zh h0;obtain⟨c,rfl⟩:=Zh (Int.le_trans h0 wa);have db:c*(bytes+1)<=140737488355328:=by
    grind
   have cb:bytes*c<=140737488355328:=by
    grind
   have qa:c<=140737488355328:=by
    grind
   have da:(ti.bytes:Int)*(c:Int)<=281474976710656:=by
    grind
   have hr:=run_make (P:=P) w t e ti zv hu hi r k k' (n:Int) (c:Int) O O da O;simp only[Int.toNat_natCast,oa]at hr;split at aa
   ·rename_i ja;split at aa
    ·rename_i ac;simp only[Qa,Qd]at aa;obtain⟨rfl,rfl⟩:=aa;obtain rfl:n=c:=by omega
     have la:z.cells.length=1∧zv.cells=#[zv]∧zv.oneCell'=true:=by
      cases z with
      |nilIface=>
       obtain rfl:zv= .nilIface:=by cases ea;rfl
       exact⟨rfl,rfl,rfl⟩
      |str b=>
       obtain⟨v,rfl⟩:∃v,zv= .string v:=by cases ea;exact⟨_,rfl⟩
       exact⟨rfl,rfl,rfl⟩
      |_=>cases ja
     obtain⟨pa,eb,bb⟩:=la;obtain rfl:1=sz:=pa.symm.trans f;have ha:∀(j:Nat),j<n->(madeCells #[zv] (n*1)).toList[j]?=some zv:=by
      intro j hj;simp[madeCells,hj,Nat.mod_one]
     have ca:(madeCells #[zv] (n*1)).toList.length=n:=by simp[madeCells]
     have ra:AZ w g (Qz n z) (madeCells #[zv] (n*1)).toList:=by
      refine⟨by rw[ca];simp,λv hv=>?_,λj d v hd hv=>?_⟩
      ·obtain⟨j,hj,rfl⟩:=Za hv;have:=ha j (by rw[ca]at hj;exact hj);rw[Qc hj]at this;rw[QK this];exact bb
      ·grind
     refine⟨.slice (some ⟨w.heap.size,0,none⟩) n n,w.alloc (.cells (madeCells #[zv] (n*1)) e),g.obj fr w.heap.size,.value (.slice (some ⟨w.heap.size,0,none⟩) n n),?_,.inl rfl,?_⟩
     ·simp only[execOp,ho,ua.int_inv,gb.int_inv,Sem.run_bind,Sem.run_pure];rw[eb]at hr;rw[hr];rfl
     ·have:=h.inv.newObj h.self (ds:=Qz n z) (vs:=(madeCells #[zv] (n*1)).toList) e ra;rw[QD]at this;exact⟨this,H5.newObj _ h.inv.gz h.self.2.1,.row fr n n w.heap.size (Qi _) (by simp[Gh.obj]),λi hf ga=>EZ hf ga _ _⟩
    ·cases aa
   ·simp only[Qa,Qd]at aa;obtain⟨rfl,rfl⟩:=aa;have fb:zv.cells.size=sz:=kb;have ba:=ea.cells xa;have fa:=h.inv.newTok h.self (e:=e) (n:=n) (c:=c) (sz:=sz) (cur:=madeCells zv.cells (c*sz)) va ⟨ti,zv,hi,oa,r,kb⟩ O Xq (by simp[size_madeCells]);have ma:=H5.newTok (t:=fr) (n:=n) (c:=c) (sz:=sz) (Obj.cells (madeCells zv.cells (c*sz)) e) h.inv.gz h.self.2.2 rfl;refine⟨.slice (some ⟨w.heap.size,0,none⟩) n c,_,_,.value (.slice (some ⟨w.heap.size,0,none⟩) n c),?_,.inl rfl,fa,ma,?_,λi hf ga=>C_ hf ga _ _ _ _ _⟩
    ·simp only[execOp,ho,ua.int_inv,gb.int_inv,Sem.run_bind,hr,Result.andThen_ok,Sem.run_pure]
    ·have na:∀k,flat (Qz k z)=(Qz k z.cells).flatten:=by
      intro k;induction k with
      |zero=>rfl
      |succ k ih=>simp[List.replicate_succ,flat,ih]
     have ia:∀(j:Nat),j<n*sz->(flat (Qz n z))[j]?=z.cells[j % sz]?:=by
      intro j hj;have hq:j / sz<n:=Nat.div_lt_of_lt_mul (by rw[ZK];exact hj);have:=EJ (sz:=sz) (xs:=Qz n z) (k:=j / sz) (j:=j % sz) (λd hd=>YO) (by simpa using hq) (ZJ _ va);rw[show j / sz*sz+j % sz=j by rw[ZK];exact Nat.div_add_mod j sz]at this;rw[this];simp
     have ya:(flat (Qz n z)).length=n*sz:=by
      simp_all
     have za:AZ w g (flat (Qz n z)) ((madeCells zv.cells (c*sz)).toList.take (n*sz)):=by
      have sa:n*sz<=c*sz:=QB _ O;have ha:∀j,j<n*sz->((madeCells zv.cells (c*sz)).toList.take (n*sz))[j]?=zv.cells.toList[j % sz]?:=by
       intro j hj;rw[Qp hj];have hm:j % sz<zv.cells.size:=by rw[kb];exact ZJ _ va
       simp[madeCells,kb,show j<c*sz by omega];rw[getElem!_pos zv.cells _ hm,getElem?_pos zv.cells _ hm]
      refine⟨by rw[QT,ya,QW,size_madeCells];omega,λv hv=>?_,λj d v hd hv=>?_⟩
      ·obtain⟨j,hj,rfl⟩:=Za hv;have ta:j<n*sz:=QO hj (Zr _ _);have:=ha j ta;rw[Qc hj]at this;exact ba.2.1 _ (Qr this.symm)
      ·have ta:j<n*sz:=by have:=(Qf.1 hd).1;omega
       rw[ia j ta]at hd;rw[ha j ta]at hv;exact ba.2.2 _ d v hd hv
     refine aH (sz:=sz) (cur:=madeCells zv.cells (c*sz)) (T:=e) (fz:=(0,0)) (heap_alloc_new w _) U O (λd hd=>YO) (za.ext ma) (λj v hv=>?_) Xl (λ_=>Xl) (λd hd=>by rw[List.eq_of_mem_replicate hd];exact ab);have hj:j<n*sz:=QO (Qf.1 hv).1 (Zr _ _);rw[Qp hj]at hv;simpa using hv
  ·cases aa
 ·cases aa
def Ps:∀b:List UInt8,flat (AF b)=AF b
 |[]=>rfl
 |c::r=>by
  have:=Ps r;simp only[AF]at this;simp only[AF,Qs,flat,D.cells,Q2,Zl,this]
def aEd{p q e:TypeId}{o:Oper}{x:Operand}{y:HJ}(h:At P B w0 w m g fr s a)(n:P.underlying p=some .string)(t:P.underlying q=some (.slice e))(he:P.underlying e=some (.int .u8))
  (hx:AD x=some y) (ho:o.op= .convert p q x) (z:exec S s m fr (.s2b y)=some (d,u)):u=[]∧C6 P B w0 m g fr w m d (execOp a.eval o):=by
 have hr:=h.slots.arg hx;simp only[exec]at z;split at z
 ·rename_i b e1;rw[e1]at hr;simp only[Qa,Qd]at z;obtain⟨rfl,rfl⟩:=z;have la:=Lib.run_convert_string_bytes (P:=P) w p q e ⟨b.toArray⟩ n t he;have f:Below w.heap.size w (Lib.bytesWorld w e ⟨b.toArray⟩):=
   ⟨rfl,rfl,rfl,by rw[Lib.bytesWorld_size];omega,λk hk=>Lib.bytesWorld_at_old w e _ k hk⟩
  have ka:(ByteArray.mk b.toArray).size=b.length:=XV
  rw[ka]at la;refine⟨rfl,.slice (some ⟨w.heap.size,0,none⟩) b.length (grownCap w b.length 0 e),_,_,.value (.slice (some ⟨w.heap.size,0,none⟩) b.length (grownCap w b.length 0 e)),?_,.inl rfl,h.inv.over f,H5.over h.inv.gz f,?_,λi hf _=>hf⟩
  ·simp only[execOp,ho,hr.str_inv,Sem.run_bind,la,Result.andThen_ok,Sem.run_pure]
  ·have ga:=Lib.bytesWorld_at_new w e ⟨b.toArray⟩;have ya:=Ps b;refine aH (sz:=1) (cur:=Lib.bytesCells w e ⟨b.toArray⟩) (vs:=b.map λc=> .int .u8 c.toNat) ga (by simp[AF]) (grownCap_ge w _ 0 e) (λd t=>?_) ⟨?_,?_,?_⟩ (λj v hv=>?_) ?_ U (λd t=>by simp only[AF,Qv]at t;obtain⟨c,_,rfl⟩:=t;rfl)
   ·simp only[AF,Qv]at t;obtain⟨c,_,rfl⟩:=t;rfl
   ·rw[ya];simp[AF]
   ·intro v hv;simp only[Qv]at hv;obtain⟨c,_,rfl⟩:=hv;rfl
   ·intro j d v t hv;rw[ya]at t;simp only[AF,Qj,Qb]at t hv;obtain⟨c,r,rfl⟩:=t;obtain⟨c',oa,rfl⟩:=hv;rw[r]at oa;simp only[Qa]at oa;subst oa;exact .int _ _
   ·simp only[Lib.bytesCells];have hj:=(Qf.1 hv).1;rw[QI (by simpa using hj)];simpa using hv
   ·simp only[Gh.over];rw[if_neg O,ga];simp[Lib.bytesCells,ka]
 ·cases z
def Mh:∀{xs:List D} {b:List UInt8},BO xs=some b->∃ns:List Int,xs=ns.map (D.int .u8)∧b=ns.map λn=>UInt8.ofNat n.toNat
 |[],b,h=>by simp only[BO,Qa]at h;subst h;exact⟨[],rfl,rfl⟩
 |x::r,b,h=>by
  unfold BO at h;split at h
  ·rename_i q;cases q
  ·rename_i n k q;cases q;rw[Qb]at h;obtain⟨z,f,rfl⟩:=h;obtain⟨ns,rfl,rfl⟩:=Mh f;exact⟨n::ns,rfl,rfl⟩
  ·cases h
def G_:∀(ns:List Int)(r:List UInt8),ns.foldl (λ(r:ByteArray) n=>r.push (UInt8.ofNat n.toNat)) ⟨r.toArray⟩=⟨(r++ns.map λn=>UInt8.ofNat n.toNat).toArray⟩
 |[],r=>U
 |n::ns,r=>by
  simp only[Q8,Qs];have:(ByteArray.mk r.toArray).push (UInt8.ofNat n.toNat)=⟨(r++[UInt8.ofNat n.toNat]).toArray⟩:=by
   simp[ByteArray.push]
  rw[this,G_ ns];simp
def aEg{p q e:TypeId}{o:Oper}{x:Operand}{y:HJ}(h:At P B w0 w m g fr s a)(hs:P.underlying p=some (.slice e))(hd:P.underlying q=some .string)(he:P.underlying e=some (.int .u8))
  (hx:AD x=some y) (ho:o.op= .convert p q x) (z:exec S s m fr (.b2s y)=some (d,u)):u=[]∧C6 P B w0 m g fr w m d (execOp a.eval o):=by
 have hr:=h.slots.arg hx;simp only[exec]at z;split at z
 ·rename_i nl t' xs e1;rw[e1]at hr;rw[Qb]at z;obtain⟨b,hb,z⟩:=z;simp only[Qd]at z;obtain⟨rfl,rfl⟩:=z;cases nl with
  |true=>
   rcases hr.slice_inv with ⟨_,rfl,ev⟩|⟨h0,_⟩
   ·simp only[BO,Qa]at hb;subst hb;refine⟨rfl,.pure (v:= .string ⟨([]:List UInt8).toArray⟩) h.inv ?_ (.str _)⟩;simp[execOp,ho,ev,convert,run_underlying hs,run_underlying hd,run_underlying he,Conv.bytesToString];rfl
   ·cases h0
  |false=>
   obtain⟨ns,rfl,rfl⟩:=Mh hb;obtain⟨ad,n,c,sz,ws,ev,hn,wa,ka,ta,da,t,hG,_,_⟩:=hr.slice_list;have ya:∀l:List Int,flat (l.map (D.int .u8))=l.map (D.int .u8):=by
    intro l;induction l with
    |nil=>rfl
    |cons c r ih=>simp only[Qs,flat,D.cells,Q2,Zl,ih]
   rw[ya]at da;have za:ws=ns.map (Value.int .u8):=by
    apply Zz;intro j;have hl:=da.1;by_cases hj:j<ws.length
    ·have qa:j<ns.length:=by simpa[hl]using hj
     have:=da.2.2 j (.int .u8 ns[j]) ws[j] (by simp[qa]) (Qc hj);rw[Qc hj,this.int_inv];simp[qa]
    ·rw[Qk O,Qk (by simp;simp at hl;omega)]
   have ma:ws.length=n:=by rw[za,hn];simp
   have f:(loadCells ad n).run P w= .ok (ns.map (Value.int .u8)).toArray w:=by
    have:=run_loadCells_list (P:=P) w ad ws t;rw[ma,za]at this;exact this
   have la:=run_bytesToString (P:=P) w ad n c ns f;have i:=G_ ns [];refine⟨rfl,.pure (v:= .string ⟨(ns.map λn=>UInt8.ofNat n.toNat).toArray⟩) h.inv ?_ (.str _)⟩;have k:(convert p q (.slice (some ad) n c)).run P w=(Conv.bytesToString (.slice (some ad) n c)).run P w:=by
    simp[convert,run_underlying hs,run_underlying hd,run_underlying he]
   simp only[execOp,ho,ev,Sem.run_bind,k,la,Result.andThen_ok,Sem.run_pure];rw[show ByteArray.empty=⟨([]:List UInt8).toArray⟩from rfl,i];rfl
 ·cases z
end
section
variable{P:Program}{B:Nat}{w0 w:World}{m:HF}{g:Gh}{fr:Id}{s:Nat->D}{a:Act}{S:HD}{d:D}{u:HN}
def C6.of_nil{x:Sem Next}(h:u=[]∧C6 P B w0 m g fr w m d x):C6 P B w0 m g fr w (HN.app m u) d x:=by
 obtain⟨rfl,h⟩:=h;exact h
def bD{w:World}{g:Gh}{d e:D}{v u:Value}(h:Rep w g d v)(k:Rep w g e u):Rep w g (.tup [d,e]) (.tuple #[v,u]):=by
 refine .tup [d,e] [v,u] rfl (λj n s z r=>?_)
 match j with
 |0=>simp at z r;subst z r;exact h
 |1=>simp at z r;subst z r;exact k
 |j+2=>simp at z
def tY{ne:Bool}{t:TypeId}{x y:Operand}{yt:TypeId}{o:Oper}{p q:HJ}{ma:DOp}(h:At P B w0 w m g fr s a)(hx:AD x=some p)(hy:AD y=some q)
  (j:aBF P ne t x y p q=some ma) (ho:o.op= .binOp (if ne then .neq else .eql) t x y yt) (z:exec S s m fr ma=some (d,u)):u=[]∧C6 P B w0 m g fr w m d (execOp a.eval o):=by
 have ua:=h.slots.arg hx;have gb:=h.slots.arg hy;have la:∀v,(eqGuard (if ne then .neq else .eql) t x y (a.eval x) (a.eval y)).run P w= .ok () w->(binOp (if ne then .neq else .eql) t (a.eval x) (a.eval y)).run P w= .ok v w->(execOp a.eval o).run P w= .ok (.value v) w:=by
  intro v e1 n;simp only[execOp,ho,Sem.run_bind,e1,n,Result.andThen_ok,Sem.run_pure]
 have i:ma= .bin (if ne then .neq else .eql) p q->u=[]∧C6 P B w0 m g fr w m d (execOp a.eval o):=by
  rintro rfl;simp only[exec]at z;rw[Qb]at z;obtain⟨d',h1,z⟩:=z;simp only[Qd]at z;obtain⟨rfl,rfl⟩:=z;obtain⟨v,e1,n,e3,e4⟩:=UW (P:=P) (t:=t) ua gb h1;exact⟨rfl,.pure h.inv (la v (Lj _ t x y _ _ e3 e4 w) e1) n⟩
 have f:∀k td,P.underlying t=some td->aEj k td->(k=2->(Hn x||Hn y)=true)->ma= .nileq ne k p q->u=[]∧C6 P B w0 m g fr w m d (execOp a.eval o):=by
  rintro k td hu hd r rfl;simp only[exec]at z;rw[Qb]at z;obtain⟨b,h1,z⟩:=z;simp only[Qd]at z;obtain⟨rfl,rfl⟩:=z;obtain⟨e1,n,e3,e4⟩:=eL ua gb h1 hu hd 9999;exact⟨rfl,.pure h.inv (la _ (fS _ t x y _ _ e3 (λe=>r (e4 e)) w) (Vr n ne e1)) (.bool _)⟩
 unfold aBF at j;split at j
 ·rename_i hu;simp only[Qa]at j;subst j;simp only[exec]at z;split at z
  ·rename_i b c ex ey;rw[ex]at ua;rw[ey]at gb;simp only[Qa,Qd]at z;obtain⟨rfl,rfl⟩:=z;refine⟨rfl,.pure h.inv (la _ (Lj _ t x y _ _ (by rw[ua.bool_inv];simp) (by rw[ua.bool_inv];simp) w) (Vr (by rw[ua.bool_inv];rfl) ne (b:=b==c) ?_)) (.bool _)⟩;rw[ua.bool_inv,gb.bool_inv];exact run_equalIn_bool' w 9999 t _ _ hu
  ·cases z
 ·simp_all
 ·simp_all
 ·rename_i fs hu;split at j
  ·rename_i r;rw[Qb]at j;obtain⟨l,hl,rfl⟩:=j;simp only[exec]at z;split at z
   ·rename_i xs ys ex ey;rw[ex]at ua;rw[ey]at gb;rw[Qb]at z;obtain⟨b,h1,z⟩:=z;simp only[Qd]at z;obtain⟨rfl,rfl⟩:=z;obtain⟨e1,n⟩:=Vn ua gb hu r.1 r.2 hl h1 x y (if ne then .neq else .eql);refine⟨rfl,.pure h.inv (la _ n (Vr ?_ ne e1)) (.bool _)⟩;obtain⟨vs,e3,_⟩:=aJ ua;rw[e3];rfl
   ·cases z
  ·cases j
 ·rename_i e hu;simp only[Qa]at j;exact f 0 _ hu ⟨e,rfl⟩ U j.symm
 ·rename_i e hu;simp only[Qa]at j;exact f 1 _ hu ⟨e,rfl⟩ U j.symm
 ·rename_i p' r' v' hu;simp only[Qa]at j;exact f 3 _ hu ⟨p',r',v',rfl⟩ U j.symm
 ·rename_i ms hu;split at j
  ·rename_i r;simp only[Qa]at j;exact f 2 _ hu ⟨ms,rfl⟩ (λ_=>r) j.symm
  ·cases j
 ·cases j
def aEf{op:BinOp}{t:TypeId}{x y:Operand}{r:TypeId}{o:Oper}{p q:HJ}(h:At P B w0 w m g fr s a)(hx:AD x=some p)(hy:AD y=some q)
  (ho:o.op= .binOp op t x y r) (z:exec S s m fr (.bin op p q)=some (d,u)):u=[]∧C6 P B w0 m g fr w m d (execOp a.eval o):=by
 simp only[exec]at z;rw[Qb]at z;obtain⟨e,k,z⟩:=z;simp only[Qd]at z;obtain⟨rfl,rfl⟩:=z;obtain⟨v,c,n,e3,i⟩:=UW (P:=P) (t:=t) (h.slots.arg hx) (h.slots.arg hy) k;refine⟨rfl,.pure h.inv ?_ n⟩;simp only[execOp,ho,Sem.run_bind,Lj op t x y _ _ e3 i w,c,Result.andThen_ok,Sem.run_pure]
def zU{x:Operand}{xt t:TypeId}{ok:Bool}{z:D}{o:Oper}{p:HJ}{td:TypeDesc}(h:At P B w0 w m g fr s a)(hu:P.underlying t=some td)(ja:∀ms,td≠ .interface ms)(n:C9 P t=some z)
  (hx:AD x=some p) (k:o.op= .typeAssert x xt t ok) (y:exec S s m fr (.tass t ok z p)=some (d,u)):u=[]∧C6 P B w0 m g fr w m d (execOp a.eval o):=by
 have q:=h.slots.arg hx;obtain⟨zv,c,b⟩:∃zv,Rep w g z zv∧(zeroValue t).run P w= .ok zv w:=by
  unfold C9 at n;split at n
  ·rename_i i hi;split at n
   ·rename_i v r;exact⟨v,Rep.ofVal n,by simp[zeroValue,typeInfo,hi,r]⟩
   ·cases n
  ·cases n
 have f:∀v,(Instr.typeAssert (a.eval x) xt t ok).run P w= .ok v w->(execOp a.eval o).run P w= .ok (.value v) w:=by
  intro v e;simp only[execOp,k,Sem.run_bind,e,Result.andThen_ok,Sem.run_pure]
 simp only[exec]at y;split at y
 ·rename_i t' d' ex;rw[ex]at q;obtain⟨v,ev,r,_⟩:=q.iface_inv;split at y
  ·rename_i ta;subst ta;simp only[Qa,Qd]at y;obtain⟨rfl,rfl⟩:=y;refine⟨rfl,.pure (v:=if ok then .tuple #[v,.bool true]else v) h.inv (f _ ?_) ?_⟩
   ·rw[ev];unfold Instr.typeAssert;simp only[Sem.run_bind,run_underlying hu,Result.andThen_ok];cases td<;>first|exact absurd rfl (ja _)|(cases ok<;>simp)
   ·cases ok
    ·exact r
    ·exact bD r (.bool true)
  ·rename_i ta;split at y
   ·rename_i na;subst na;simp only[Qa,Qd]at y;obtain⟨rfl,rfl⟩:=y;refine⟨rfl,.pure (v:= .tuple #[zv,.bool false]) h.inv (f _ ?_) (bD c (.bool false))⟩;rw[ev];unfold Instr.typeAssert;simp only[Sem.run_bind,run_underlying hu,Result.andThen_ok];have j:¬t'=t:=ta;cases td<;>first|exact absurd rfl (ja _)|(simp[j,b])
   ·cases y
 ·rename_i ex;rw[ex]at q;have ev:=q.nili_inv;split at y
  ·rename_i na;subst na;simp only[Qa,Qd]at y;obtain⟨rfl,rfl⟩:=y;refine⟨rfl,.pure (v:= .tuple #[zv,.bool false]) h.inv (f _ ?_) (bD c (.bool false))⟩;rw[ev];unfold Instr.typeAssert;simp only[Sem.run_bind,run_underlying hu,Result.andThen_ok];cases td<;>first|exact absurd rfl (ja _)|(simp[b])
  ·cases y
 ·cases y
def iO{xs:Array Operand}{l:List HJ}(h:At P B w0 w m g fr s a)(hl:Ef xs.toList=some l):
  ((xs.map a.eval).toList).length=(l.map (·.ev s)).length∧∀(j:Nat) d v,(l.map (·.ev s))[j]?=some d->((xs.map a.eval).toList)[j]?=some v->Rep w g d v:=by
 have:=h.slots.args hl;simpa using this
end
def OD{w:World}{b k:Nat}{o:Obj}(h:k≠b):({w with heap:=w.heap.setIfInBounds b o}:World).heap[k]?=w.heap[k]?:=by
 grind
def Gh.itr(g:Gh)(t:Id)(b:Nat):Gh:={g with tb:=λi=>if i=t then some (b,0,0,0)else g.tb i}
section
variable{P:Program}{B:Nat}{w0 w w':World}{m:HF}{g g':Gh}{fr:Id}{s:Nat->D}{a:Act}{S:HD}{d:D}{u:HN}
def Es(m:HF)(t:Id)(x:D)(i:Id)(o:Nat):m.put t 1 [x] i o=if i=t∧o=1 then some x else m i o:=by
 grind [HF.put]
def H5.newItr{t:Id}(o:Obj)(j:∀b,w.heap.size<=b->g.G b=0)(r:g.tb t=none):H5 w g (w.alloc o) (g.itr t w.heap.size):=by
 refine⟨λp y=>?_,λz=>Qi _,λa b h=>h,rfl,λi x h=>?_,U,λi _ h=> .inl ⟨i,h⟩,λi x h=>?_,λk o' m _ _=>(Below.heap_alloc w o k (Qe.1 m).1).trans m⟩
 rotate_right
 ·simp only[Gh.itr]at h;split at h
  ·simp only[Qa]at h;subst h;exact .inr (Qi _)
  ·exact .inl ⟨i,x,h,rfl⟩
 ·by_cases d:p.block<w.heap.size
  ·exact World.cell?_alloc_lt w o p d
  ·simp_all
 ·grind [Gh.itr]
def HQ.newItr(h:HQ P B w0 m w g){t:Id}(hf:B3 m g t)(bs:List UInt8):HQ P B w0 (m.put t 1 [.it bs 0]) (w.alloc (.stringIter ⟨bs.toArray⟩ 0)) (g.itr t w.heap.size):=by
 have x:=H5.newItr (t:=t) (Obj.stringIter ⟨bs.toArray⟩ 0) h.gz hf.2.2;have da:=Es m t (.it bs 0);refine⟨h.below.alloc h.size _,Yw,λb hb=>h.gz b (by simp at hb;omega),h.old,λi b hi=>?_,h.inj,λi o d j hn=>?_,λi e hi=>?_,λi1 i2 e1 z b y y' u f h3 a=>?_,λi s p hi=>?_,λi i' s p s' p' b y y' u f h3 a=>?_⟩
 ·obtain⟨p,q,vs,T,hh,r⟩:=h.obj i b hi;refine⟨p,q,vs,T,(Below.heap_alloc w _ b (h.lt hi)).trans hh,λo d j=>?_⟩;rw[da,if_neg (by rintro⟨rfl,_⟩;simp only[Gh.itr]at hi;rw[hf.2.1]at hi;cases hi)]at j;obtain⟨v,r1,r2,r3⟩:=r o d j;exact⟨v,r1,r2,r3.ext x⟩
 ·rw[da]at j;split at j
  ·rw[←QK j];rfl
  ·exact h.kind _ _ _ j hn
 ·rw[da,if_neg U]at hi;obtain⟨b,n,c,sz,cur,t1,t2,t3,t4,t5,t6,t7,t8,t9,xa⟩:=h.tok i e hi;have ea:b<w.heap.size:=(Qe.1 t5).1;have k:i≠t:=by rintro rfl;rw[hf.1 0]at hi;cases hi
  exact⟨b,n,c,sz,cur,by simp[Gh.itr,k,t1],t2,t3,t4,(Below.heap_alloc w _ b ea).trans t5,t6,t7,t8,t9,xa⟩
 ·rw[da,if_neg U]at u f;have n1:i1≠t:=by rintro rfl;rw[hf.1 0]at u;cases u
  have n2:i2≠t:=by rintro rfl;rw[hf.1 0]at f;cases f
  simp only[Gh.itr,if_neg n1]at h3;simp only[Gh.itr,if_neg n2]at a;exact h.tinj _ _ _ _ _ _ _ u f h3 a
 ·rw[da]at hi;split at hi
  ·rename_i hc;obtain⟨rfl,_⟩:=hc;simp only[Qa,D.it.injEq]at hi;obtain⟨rfl,rfl⟩:=hi;exact⟨w.heap.size,by simp[Gh.itr],h.size,heap_alloc_new w _,h.gz _ (Qi _),λi' h'=>by have:=h.lt h';omega⟩
  ·obtain⟨b,t1,t2,t3,t4,t5⟩:=h.itr.1 i s p hi;have ea:b<w.heap.size:=(Qe.1 t3).1;have k:i≠t:=by rintro rfl;rw[hf.1 1]at hi;cases hi
   exact⟨b,by simp[Gh.itr,k,t1],t2,(Below.heap_alloc w _ b ea).trans t3,t4,t5⟩
 ·have ha:∀i s p,m i 1=some (.it s p)->∀b y,(g.itr t w.heap.size).tb i=some (b,y)->i≠t∧g.tb i=some (b,y)∧b<w.heap.size:=by
   intro i s p j b y hb;have k:i≠t:=by rintro rfl;rw[hf.1 1]at j;cases j
   simp only[Gh.itr,if_neg k]at hb;obtain⟨b',t1,t2,t3,t4,t5⟩:=h.itr.1 i s p j;rw[t1]at hb;simp only[Qa,Qd]at hb;obtain⟨rfl,rfl⟩:=hb;exact⟨k,t1,(Qe.1 t3).1⟩
  rw[da]at u f;split at u<;>split at f
  ·simp_all
  ·grind [Gh.itr]
  ·grind [Gh.itr]
  ·obtain⟨_,k3,_⟩:=ha _ _ _ u _ _ h3;obtain⟨_,k4,_⟩:=ha _ _ _ f _ _ a;exact h.itr.2 _ _ _ _ _ _ _ _ _ u f k3 k4
def HQ.nextItr(h:HQ P B w0 m w g){i:Id}{b:Nat}{bs:List UInt8}{p q:Nat}(hm:m i 1=some (.it bs p))(hb:g.tb i=some (b,0,0,0)):
  HQ P B w0 (m.put i 1 [.it bs q]) {w with heap:=w.heap.setIfInBounds b (.stringIter ⟨bs.toArray⟩ q)} g∧H5 w g {w with heap:=w.heap.setIfInBounds b (.stringIter ⟨bs.toArray⟩ q)} g:=by
 obtain⟨b0,t1,t2,t3,t4,t5⟩:=h.itr.1 i bs p hm;rw[hb]at t1;simp only[Qa,Qd,and_true]at t1;subst t1;have ea:b<w.heap.size:=(Qe.1 t3).1;have u:∀k,k≠b->({w with heap:=w.heap.setIfInBounds b (.stringIter ⟨bs.toArray⟩ q)}:World).heap[k]?=w.heap[k]?:=λk hk=>OD hk
 have da:=Es m i (.it bs q);have x:H5 w g {w with heap:=w.heap.setIfInBounds b (.stringIter ⟨bs.toArray⟩ q)} g:=by
  refine⟨λr hr=>?_,λ_=>Qi _,λ_ _ h=>h,rfl,λ_ _ h=>h,U,λi _ h=> .inl ⟨i,h⟩,λi x h=> .inl ⟨i,x,h,rfl⟩,λk o hk _ hn=>(u k (λe=>hn i _ hb e.symm)).trans hk⟩;have ga:r.block≠b:=by rintro e;rw[e,t4]at hr;omega
  simp only[World.cell?];rw[u _ ga]
 have ka:({w with heap:=w.heap.setIfInBounds b (.stringIter ⟨bs.toArray⟩ q)}:World).heap.size=w.heap.size:=U
 refine⟨⟨⟨h.below.os,h.below.tape,h.below.output,Yl,λk hk=>(u k O).trans (h.below.block k hk)⟩,Yk,by rw[ka];exact h.gz,h.old,λi' b' hi=>?_,h.inj,λi' o d j hn=>?_,λi' e hi=>?_,λi1 i2 e1 e2 b' y y' h1 f h3 a=>?_,λi' s' p' hi=>?_,λi1 i2 s1 p1 s2 p2 b' y y' h1 f h3 a=>?_⟩,x⟩
 ·obtain⟨p1,q1,vs,T,hh,r⟩:=h.obj i' b' hi;have ga:b'≠b:=by rintro rfl;exact t5 i' hi
  refine⟨p1,q1,vs,T,(u b' ga).trans hh,λo d j=>?_⟩;rw[da]at j;split at j
  ·rename_i hc;obtain⟨rfl,rfl⟩:=hc;obtain⟨v,_,_,r3⟩:=r 1 _ hm;cases r3
  ·obtain⟨v,r1,r2,r3⟩:=r o d j;exact⟨v,r1,r2,r3.ext x⟩
 ·rw[da]at j;split at j
  ·rw[←QK j];rfl
  ·exact h.kind _ _ _ j hn
 ·rw[da,if_neg U]at hi;obtain⟨b1,n,c,sz,cur,u1,u2,u3,u4,u5,u6,u7,u8,u9,z⟩:=h.tok i' e hi;have ga:b1≠b:=by rintro rfl;rw[t3]at u5;cases u5
  exact⟨b1,n,c,sz,cur,u1,u2,u3,u4,(u b1 ga).trans u5,u6,u7,u8,u9,z⟩
 ·rw[da,if_neg U]at h1 f;exact h.tinj _ _ _ _ _ _ _ h1 f h3 a
 ·rw[da]at hi;split at hi
  ·simp_all
  ·rename_i hc;obtain⟨b1,u1,u2,u3,u4,u5⟩:=h.itr.1 i' s' p' hi;have ga:b1≠b:=by
    rintro rfl;exact hc ⟨h.itr.2 _ _ _ _ _ _ _ _ _ hi hm u1 hb,rfl⟩
   exact⟨b1,u1,u2,(u b1 ga).trans u3,u4,u5⟩
 ·have t:∀i' s' p',m.put i 1 [.it bs q] i' 1=some (.it s' p')->∃s p,m i' 1=some (.it s p):=by
   intro i' s' p' hi;rw[da]at hi;split at hi
   ·simp_all
   ·exact⟨_,_,hi⟩
  obtain⟨_,_,k1⟩:=t _ _ _ h1;obtain⟨_,_,k2⟩:=t _ _ _ f;exact h.itr.2 _ _ _ _ _ _ _ _ _ k1 k2 h3 a
def Rep.itp_inv{i:Id}{v:Value}(h:Rep w g (.itp i) v):∃b,v= .pointer (some ⟨b,0,none⟩)∧g.tb i=some (b,0,0,0):=by
 cases h with
 |itp _ b f=>exact⟨b,rfl,f⟩
def oE{t:TypeId}{o:Oper}{x:Operand}{y:HJ}(h:At P B w0 w m g fr s a)(hu:P.underlying t=some .string)(p:AD x=some y)(k:o.op= .range t x)
  (c:exec S s m fr (.range y)=some (d,u)):C6 P B w0 m g fr w (HN.app m u) d (execOp a.eval o):=by
 have q:=h.slots.arg p;simp only[exec]at c;split at c
 ·rename_i b j;rw[j]at q;simp only[Qa,Qd]at c;obtain⟨rfl,rfl⟩:=c;refine⟨.pointer (some ⟨w.heap.size,0,none⟩),w.alloc (.stringIter ⟨b.toArray⟩ 0),g.itr fr w.heap.size,.value (.pointer (some ⟨w.heap.size,0,none⟩)),?_,.inl rfl,?_⟩
  ·have v:a.eval x= .string ⟨b.toArray⟩:=q.str_inv;simp[execOp,k,Instr.range,run_underlying hu,v]
  ·refine⟨h.inv.newItr h.self b,H5.newItr _ h.inv.gz h.self.2.2,.itp fr _ (by simp[Gh.itr]),λi r ga=>?_⟩;have:i≠fr:=λe=>ga Ym
   exact⟨λo=>by show m.put fr 1 _ i o=none;rw[Es,if_neg (by simp[this])];exact r.1 o,r.2.1,by simp only[Gh.itr];rw[if_neg this];exact r.2.2⟩
 ·cases c
def zV{o:Oper}{x:Operand}{y:HJ}(h:At P B w0 w m g fr s a)(p:AD x=some y)(ho:o.op= .next x true)
  (he:exec S s m fr (.next y)=some (d,u)):C6 P B w0 m g fr w (HN.app m u) d (execOp a.eval o):=by
 have k:=h.slots.arg p;simp only[exec]at he;split at he
 ·rename_i i ex;rw[ex]at k;obtain⟨b,e1,f⟩:=k.itp_inv;split at he
  ·rename_i bs z n;obtain⟨b',t1,t2,t3,t4,t5⟩:=h.inv.itr.1 i bs z n;rw[f]at t1;simp only[Qa,Qd,and_true]at t1;subst t1;have ea:b<w.heap.size:=(Qe.1 t3).1;have ia:(getObj b).run P w= .ok (.stringIter ⟨bs.toArray⟩ z) w:=by simp[getObj,Sem.run,t3]
   have na:∀o',(setObj b o').run P w= .ok () {w with heap:=w.heap.setIfInBounds b o'}:=by intro o';simp[setObj,Sem.run,t3]
   have ka:(ByteArray.mk bs.toArray).size=bs.length:=XV
   split at he
   ·rename_i hp;simp only[Qa,Qd]at he;obtain⟨rfl,rfl⟩:=he;obtain⟨hi,r⟩:=h.inv.nextItr (q:=z+(Utf8.decode ⟨bs.toArray⟩ z).2) n f;refine⟨.tuple #[.bool true,.int .i64 (z:Nat),.int .i32 (Utf8.decode ⟨bs.toArray⟩ z).1],_,g,.value (.tuple #[.bool true,.int .i64 (z:Nat),.int .i32 (Utf8.decode ⟨bs.toArray⟩ z).1]),?_,.inl rfl,⟨hi,r,?_,λj hf ga=>?_⟩⟩
    ·simp only[execOp,ho,Instr.next,e1,Sem.run_bind,ia,Result.andThen_ok,ka,hp,if_true];cases t:Utf8.decode ⟨bs.toArray⟩ z with
     |mk c wd=>
      simp only[na,Result.andThen_ok,Sem.run_pure];rfl
    ·refine .tup [_,_,_] [_,_,_] rfl (λj d v t e=>?_)
     match j with
     |0=>simp at t e;subst t e;exact .bool _
     |1=>simp at t e;subst t e;exact .int _ _
     |2=>simp at t e;subst t e;exact .int _ _
     |j+3=>simp at t
    ·have:j≠i:=by rintro rfl;rw[hf.1 1]at n;cases n
     exact⟨λo=>by show m.put i 1 _ j o=none;rw[Es,if_neg (by simp[this])];exact hf.1 o,hf.2⟩
   ·rename_i hp;simp only[Qa,Qd]at he;obtain⟨rfl,rfl⟩:=he;refine .pure (v:= .tuple #[.bool false]) h.inv ?_ (.tup [_] [_] rfl (λj d v t e=>?_))
    ·simp only[execOp,ho,Instr.next,e1,Sem.run_bind,ia,Result.andThen_ok,ka,hp,if_false,Sem.run_pure]
    ·match j with
     |0=>simp at t e;subst t e;exact .bool _
     |j+1=>simp at t
  ·cases he
 ·cases he
end
structure Il.ok (P:Program) (f:FuncId) (q:Il):Prop where
 ent:∃fn,P.funcs[f]?=some fn∧fn.body.isSome=true∧(fn.name== "runtime.NumGoroutine")=false
 loc:∀ds m m' fr,(∀l∈q.rd ds m,m l.1 l.2=m' l.1 l.2)->q.ex ds m fr=q.ex ds m' fr
 run:∀{B:Nat} {w0 w:World} {m:HF} {g:Gh} {fr:Id} {ds:List D} {vs:List Value} {r:D} {u:HN},HQ P B w0 m w g->(∀i,fr<:+i->B3 m g i)->
  vs.length=ds.length->(∀(j:Nat) d v,ds[j]?=some d->vs[j]?=some v->Rep w g d v)->q.ex ds m fr=some (r,u)->
  Calls P f vs.toArray w λe w'=>∃v g',e= .returned v∧aSz P B w0 m g fr w (HN.app m u) r v w' g'
def HD.ok(P:Program)(S:HD):Prop:=∀f q,S f=some q->q.ok P f
section
variable{P:Program}{B:Nat}{w0 w:World}{m:HF}{g:Gh}{fr:Id}{s:Nat->D}{a:Act}{S:HD}{d:D}{u:HN}
def aIW{o:Oper}{ma:DOp}(h:At P B w0 w m g fr s a)(ba:tr P o.op=some ma)(wa:∀f xs,ma≠ .call f xs)(aa:exec S s m fr ma=some (d,u)):
  C6 P B w0 m g fr w (HN.app m u) d (execOp a.eval o):=by
 have da:∀{x:Operand} {F:HJ->DOp},(AD x).map F=some ma->∃y,AD x=some y∧ma=F y:=by
  simp_all
 have j:∀{v:Value} {d':D},(execOp a.eval o).run P w= .ok (.value v) w->Rep w g d' v->some (d',([]:HN))=some (d,u)->C6 P B w0 m g fr w (HN.app m u) d (execOp a.eval o):=by
  intro v d' e1 e2 e3;simp only[Qa,Qd]at e3;obtain⟨rfl,rfl⟩:=e3;exact .pure h.inv e1 e2
 cases hop:o.op<;>rw[hop]at ba<;>first|(simp only[tr]at ba;done)|skip
 case move x=>
  obtain⟨y,hx,rfl⟩:=da ba;exact j (by simp[execOp,hop]) (h.slots.arg hx) aa
 case assign x=>
  obtain⟨y,hx,rfl⟩:=da ba;exact j (by simp[execOp,hop]) (h.slots.arg hx) aa
 case pick c x y=>
  simp only[tr]at ba;split at ba
  ·rename_i c' x' y' e1 e2 e3;simp only[Qa]at ba;subst ba;simp only[exec]at aa;split at aa
   ·rename_i b eb;have hb:=h.slots.arg e1;rw[eb]at hb;have la:(execOp a.eval o).run P w= .ok (.value (if b then a.eval x else a.eval y)) w:=by
     simp[execOp,hop,hb.bool_inv,asBool]
    refine j la ?_ aa;cases b
    ·exact h.slots.arg e3
    ·exact h.slots.arg e2
   ·cases aa
  ·cases ba
 case alloc t=>
  simp only[tr]at ba;rw[Qb]at ba;obtain⟨z,hz,rfl⟩:=ba;simp only[exec,Qa,Qd]at aa;obtain⟨rfl,rfl⟩:=aa;exact oK h hz hop
 case box t x=>
  obtain⟨y,hx,rfl⟩:=da ba;simp only[exec]at aa;split at aa
  ·rename_i hd;simp only[Qa,Qd]at aa;obtain⟨rfl,rfl⟩:=aa;exact aEe h hx hd hop
  ·cases aa
 case build t parts=>
  simp only[tr]at ba;split at ba
  ·rename_i ca zs hu hz;split at ba
   ·rename_i na;rw[Qb]at ba;obtain⟨l,hl,rfl⟩:=ba;exact .of_nil (oJ h hu na hz hl hop aa)
   ·cases ba
  ·rename_i len e zs hu hz;split at ba
   ·rename_i oa;rw[Qb]at ba;obtain⟨l,hl,rfl⟩:=ba;exact .of_nil (gN h hu oa hz hl hop aa)
   ·cases ba
  ·cases ba
 case buildSlice t len parts=>
  simp only[tr]at ba;split at ba
  ·grind [gO]
  ·cases ba
 case load t x=>
  simp only[tr]at ba;split at ba
  ·rename_i k y hk hx;simp only[Qa]at ba;subst ba;exact .of_nil (zX h hk hx hop aa)
  ·cases ba
 case store t x v=>
  simp only[tr]at ba;split at ba
  ·grind [oD]
  ·cases ba
 case nilCheck x=>
  obtain⟨y,hx,rfl⟩:=da ba;have hr:=h.slots.arg hx;simp only[exec]at aa;split at aa
  ·rename_i i o' e;rw[e]at hr;obtain⟨b,e1,hb⟩:=hr.ptr_inv;exact j (v:=a.eval x) Yb hr aa
  ·rename_i ds e;rw[e]at hr;obtain⟨ad,vv,e1,_⟩:=hr.eptr_inv;exact j (v:=a.eval x) Yb hr aa
  ·rename_i f cs e;rw[e]at hr;obtain⟨vs,e1,_⟩:=hr.fn_inv;exact j (v:=a.eval x) Yb hr aa
  ·cases aa
 case binOp op t x y yt=>
  cases op
  case eql=>
   simp only[tr]at ba;split at ba
   ·rename_i p q hx hy;exact .of_nil (tY (ne:=false) h hx hy ba hop aa)
   ·cases ba
  case neq=>
   simp only[tr]at ba;split at ba
   ·rename_i p q hx hy;exact .of_nil (tY (ne:=true) h hx hy ba hop aa)
   ·cases ba
  all_goals
   simp only[tr]at ba;split at ba
   ·rename_i p q hx hy;simp only[Qa]at ba;subst ba;exact .of_nil (aEf h hx hy hop aa)
   ·cases ba
 case unOp op t x=>
  obtain⟨y,hx,rfl⟩:=da ba;simp only[exec]at aa;rw[Qb]at aa;obtain⟨d',h1,aa⟩:=aa;obtain⟨v,e1,e2⟩:=aBy (P:=P) (h.slots.arg hx) h1;exact j (by simp only[execOp,hop,Sem.run_bind,e1,Result.andThen_ok,Sem.run_pure]) e2 (by rw[aa])
 case convert src dst x=>
  simp only[tr]at ba;split at ba
  ·rename_i k1 k y hs hd hx;simp only[Qa]at ba;subst ba;have hr:=h.slots.arg hx;simp only[exec]at aa;split at aa
   ·rename_i k' n e;rw[e]at hr;refine j (v:= .int k (k.wrap n)) ?_ (.int _ _) aa;simp[execOp,hop,hr.int_inv,convert,run_underlying hs,run_underlying hd,Conv.intToInt]
   ·cases aa
  ·rename_i y hs hd hx;simp only[Qa]at ba;subst ba;have hr:=h.slots.arg hx;simp only[exec]at aa;split at aa
   ·rename_i b e;rw[e]at hr;refine j (v:=a.eval x) ?_ hr aa;simp[execOp,hop,hr.str_inv,convert,run_underlying hs,run_underlying hd]
   ·cases aa
  ·rename_i e y hs hd hx;split at ba
   ·rename_i he;simp only[Qa]at ba;subst ba;exact .of_nil (aEd h hs hd he hx hop aa)
   ·cases ba
  ·rename_i e y hs hd hx;split at ba
   ·rename_i he;simp only[Qa]at ba;subst ba;exact .of_nil (aEg h hs hd he hx hop aa)
   ·cases ba
  ·cases ba
 case fieldAddr t x f=>
  simp only[tr]at ba;split at ba
  ·rename_i ca y hu hx;split at ba
   ·rename_i fd hf;split at ba
    ·rename_i n hn;simp only[Qa]at ba;subst ba;exact .of_nil (oI h hu hf hn hx hop aa)
    ·cases ba
   ·cases ba
  ·cases ba
 case field t x f=>
  simp only[tr]at ba;split at ba
  ·rename_i ca y hu hx;split at ba
   ·rename_i fd hf;rw[Qb]at ba;obtain⟨k,hk,rfl⟩:=ba;exact .of_nil (oH h hu hf hk hx hop aa)
   ·cases ba
  ·cases ba
 case indexAddr t x i=>
  simp only[tr]at ba;split at ba
  ·rename_i e y z hu hx hi;rw[Qb]at ba;obtain⟨n,hn,rfl⟩:=ba;exact .of_nil (oF h hu hn hx hi hop aa)
  ·rename_i len e y z hu hx hi;rw[Qb]at ba;obtain⟨n,hn,rfl⟩:=ba;exact .of_nil (oG h hu hn hx hi hop aa)
  ·cases ba
 case index t x i=>
  simp only[tr]at ba;split at ba
  ·rename_i y z hu hx hi;simp only[Qa]at ba;subst ba;exact .of_nil (zY h hu hx hi hop aa)
  ·rename_i len e y z hu hx hi;split at ba
   ·rename_i hk;split at ba
    ·rename_i hc;simp only[Qa]at ba;subst ba;exact .of_nil (aAa h hu hk hc hx hi hop aa)
    ·cases ba
   ·rename_i sz hk;simp only[Qa]at ba;subst ba;exact .of_nil (zZ h hu hk hx hi hop aa)
   ·cases ba
  ·cases ba
 case slice t x lo hi mx=>
  cases mx with
  |some mx=>simp only[tr]at ba;cases ba
  |none=>
   simp only[tr]at ba;split at ba
   ·rename_i y l' h' hu hx ha ra;simp only[Qa]at ba;subst ba;exact .of_nil (aAb h hu hx ha ra hop aa)
   ·rename_i e y l' h' hu hx ha ra;rw[Qb]at ba;obtain⟨n,hn,rfl⟩:=ba;exact .of_nil (aAc h hu hn hx ha ra hop aa)
   ·cases ba
 case makeInterface t x=>
  simp only[tr]at ba;split at ba
  ·cases ba
  ·rename_i td y ja hu hx;simp only[Qa]at ba;subst ba;have hr:=h.slots.arg hx;simp only[exec]at aa;split at aa
   ·rename_i hc;refine j (v:= .iface t (a.eval x)) ?_ (.iface t _ _ hc.2 hr.un) aa;simp only[execOp,hop,Instr.makeInterface,Sem.run_bind,run_underlying hu,Result.andThen_ok];cases td<;>first|exact absurd rfl (ja _)|rfl
   ·cases aa
  ·cases ba
 case typeAssert x xt t ok=>
  simp only[tr]at ba;split at ba
  ·cases ba
  ·rename_i td z y ja hu hz hx;simp only[Qa]at ba;subst ba;exact .of_nil (zU h hu (λms e=>ja ms (by rw[←e])) hz hx hop aa)
  ·cases ba
 case extract x i=>
  obtain⟨y,hx,rfl⟩:=da ba;have hr:=h.slots.arg hx;simp only[exec]at aa;split at aa
  ·rename_i ds e;rw[e]at hr;obtain⟨vs,e1,e2,e3⟩:=hr.tup_inv;rw[Qb]at aa;obtain⟨d',hd,aa⟩:=aa;have hv:i<vs.length:=by rw[e2];exact(Qf.1 hd).1
   exact j (v:=vs[i]) (by simp[execOp,hop,e1,Instr.extract,hv]) (e3 i d' _ hd (Qc hv)) (by rw[aa])
  ·cases aa
 case makeFunc fn first caps=>
  cases fn with
  |func f=>
   simp only[tr]at ba;split at ba
   ·rename_i l hf hl;simp only[Qa]at ba;subst ba;have sa:first=#[]:=Array.toList_eq_nil_iff.1 hf
    subst sa;obtain⟨a1,a2⟩:=iO h hl;simp only[exec]at aa;refine j (v:= .func (.func f) #[] (caps.map a.eval)) (by simp[execOp,hop,Instr.makeFunc]) ?_ aa;have:=Rep.fn (w:=w) (g:=g) f (l.map (·.ev s)) (caps.map a.eval).toList a1 a2
    rwa [QD]at this
   ·cases ba
  |_=>simp only[tr]at ba;cases ba
 case makeSlice t x y=>
  simp only[tr]at ba;split at ba
  ·rename_i e hu;split at ba
   ·rename_i sz bytes z p q he hz hx hy;simp only[Qa]at ba;subst ba;exact zW h hu he hz hx hy hop aa
   ·cases ba
  ·cases ba
 case range t x=>
  simp only[tr]at ba;split at ba
  ·rename_i y hu hx;simp only[Qa]at ba;subst ba;exact oE h hu hx hop aa
  ·cases ba
 case next x b=>
  cases b with
  |true=>
   obtain⟨y,hx,rfl⟩:=da ba;exact zV h hx hop aa
  |false=>simp only[tr]at ba;cases ba
 case call c=>
  simp only[tr,RD]at ba;split at ba
  ·split at ba
   ·simp only[Qa]at ba;exact absurd ba.symm (wa _ _)
   ·cases ba
  ·rename_i ea;split at ba
   ·rename_i x t r qa;have hc:c={callee:= .builtin .len,args:=#[x],argTypes:=#[t]}:=by
     cases c;simp only at ea r qa ⊢;subst ea;congr
     ·exact Q4.1 r
     ·exact Q4.1 qa
    subst hc;have ga:∀n,(Builtin.len_ #[t] o.type #[a.eval x]).run P w= .ok (goInt n) w->(execOp a.eval o).run P w= .ok (.value (.int .i64 n)) w:=by
     intro n e;simp only[execOp,hop,resolve,invoke,builtin,Sem.run_bind,Sem.run_pure,Result.andThen_ok,ZB,Qs,Zk,e];rfl
    split at ba
    ·rename_i hu;obtain⟨y,hx,rfl⟩:=da ba;have hr:=h.slots.arg hx;simp only[exec]at aa;rw[Qb]at aa;obtain⟨n,hn,aa⟩:=aa;unfold mW at hn;split at hn
     ·rename_i b _ e;rw[e]at hr;simp only[Qa]at hn;subst hn;have hl:(Builtin.len_ #[t] o.type #[a.eval x]).run P w= .ok (goInt (b.length:Int)) w:=by
       have ka:(ByteArray.mk b.toArray).size=b.length:=XV
       simp[Builtin.len_,run_underlying hu,hr.str_inv,ka]
      exact j (ga _ hl) (.int _ _) (by rw[aa])
     ·rename_i fa _;cases fa
     ·rename_i fa _;cases fa
     ·cases hn
    ·rename_i e hu;obtain⟨y,hx,rfl⟩:=da ba;have hr:=h.slots.arg hx;simp only[exec]at aa;rw[Qb]at aa;obtain⟨n,hn,aa⟩:=aa;unfold mW at hn;split at hn
     ·rename_i fa _;cases fa
     ·rename_i nl t' xs _ e';rw[e']at hr;obtain⟨ad,cc,e1,_⟩:=hr.len_slice;simp only[Qa]at hn;subst hn;have hl:(Builtin.len_ #[t] o.type #[a.eval x]).run P w= .ok (goInt (xs.length:Int)) w:=by
       simp[Builtin.len_,run_underlying hu,e1]
      exact j (ga _ hl) (.int _ _) (by rw[aa])
     ·rename_i i' n' _ e';rw[e']at hr;obtain⟨b',cc,e1,_,_⟩:=hr.row_inv;simp only[Qa]at hn;subst hn;have hl:(Builtin.len_ #[t] o.type #[a.eval x]).run P w= .ok (goInt (n':Int)) w:=by
       simp[Builtin.len_,run_underlying hu,e1]
      exact j (ga _ hl) (.int _ _) (by rw[aa])
     ·cases hn
    ·cases ba
   ·cases ba
  ·rename_i ea;split at ba
   ·rename_i x y t t' r qa;split at ba
    ·rename_i ta;have hc:c={callee:= .builtin .append,args:=#[x,y],argTypes:=#[t,t']}:=by
      cases c;simp only at ea r qa ⊢;subst ea;congr
      ·exact Q4.1 r
      ·exact Q4.1 qa
     subst hc;split at ba
     ·rename_i e hu;split at ba
      ·rename_i sz bytes p q he hx hy;simp only[Qa]at ba;subst ba;exact aEh h hu he hx hy hop (ta.imp id nF) aa
      ·cases ba
     ·cases ba
    ·cases ba
   ·cases ba
  ·rename_i ea;split at ba
   ·rename_i x y r;split at ba
    ·rename_i p q hx hy;simp only[Qa]at ba;subst ba;have pa:=h.slots.arg hx;have ia:=h.slots.arg hy;simp only[exec]at aa;split at aa
     ·rename_i k n k' n' e1 e2;rw[e1]at pa;rw[e2]at ia;refine j (v:= .int k (max n n')) ?_ (.int _ _) aa;simp only[execOp,hop,resolve,invoke,builtin,ea,Sem.run_bind,Sem.run_pure,Result.andThen_ok];simp only[Builtin.max_,QM,r,Qs,Zk,pa.int_inv,ia.int_inv,ZN,Builtin.max2,Sem.run_bind,Sem.run_pure,Result.andThen_ok];have:(if n'>n then n' else n)=max n n':=by omega
      simp[this]
     ·cases aa
    ·cases ba
   ·cases ba
  ·rename_i ea;split at ba
   ·rename_i x y r;split at ba
    ·rename_i p q hx hy;simp only[Qa]at ba;subst ba;have pa:=h.slots.arg hx;have ia:=h.slots.arg hy;simp only[exec]at aa;split at aa
     ·rename_i k n k' n' e1 e2;rw[e1]at pa;rw[e2]at ia;refine j (v:= .int k (min n n')) ?_ (.int _ _) aa;simp only[execOp,hop,resolve,invoke,builtin,ea,Sem.run_bind,Sem.run_pure,Result.andThen_ok];simp only[Builtin.min_,QM,r,Qs,Zk,pa.int_inv,ia.int_inv,ZN,Builtin.min2,Sem.run_bind,Sem.run_pure,Result.andThen_ok];have:(if n'<n then n' else n)=min n n':=by omega
      simp[this]
     ·cases aa
    ·cases ba
   ·cases ba
  ·cases ba
 all_goals (simp[tr]at ba)
end
section
variable{P:Program}{B:Nat}{w0 w:World}{m:HF}{g:Gh}{fr:Id}{s:Nat->D}{a:Act}{S:HD}{d:D}{u:HN}
def cM{c:Call}{f:HJ}{xs:List HJ}(h:RD P c=some (.call f xs)):∃e,c.callee= .value e∧AD e=some f∧Ef c.args.toList=some xs:=by
 unfold RD at h;split at h
 ·grind
 ·exfalso
  repeat' (split at h)
  all_goals exact Y5
 ·grind
 ·grind
 ·grind
 ·cases h
def aIf{op:Op}{f:HJ}{xs:List HJ}(h:tr P op=some (.call f xs)):∃c,op= .call c∧RD P c=some (.call f xs):=by
 cases op with
 |call c=>exact⟨c,rfl,h⟩
 |binOp op t x y r=>
  exfalso;cases op<;>simp only[tr,aBF]at h<;>repeat' (split at h)
  all_goals exact Y5
 |makeFunc a x y=>
  exfalso;cases a<;>simp only[tr]at h<;>repeat' (split at h)
  all_goals exact Y5
 |slice t x lo hi e=>
  exfalso;cases e<;>simp only[tr]at h<;>repeat' (split at h)
  all_goals exact Y5
 |next x b=>
  exfalso;cases b<;>simp only[tr]at h
  all_goals exact Y5
 |_=>
  exfalso;simp only[tr]at h<;>repeat' (split at h)
  all_goals exact Y5
def aUl{o:Oper}{ma:DOp}{K:Act->World->Prop}{Q:Exit->Act->World->Prop}(hS:HD.ok P S)(h:At P B w0 w m g fr s a)(y:tr P o.op=some ma)(z:exec S s m fr ma=some (d,u))
  (hK:∀v' w' g',aSz P B w0 m g fr w (HN.app m u) d v' w' g'->K (a.put o.dst v') w'):o.wp P a w K Q:=by
 by_cases hc:∃f xs,ma= .call f xs
 ·obtain⟨f,xs,rfl⟩:=hc;obtain⟨c,fa,p⟩:=aIf y;obtain⟨fo,x,hf,ib⟩:=cM p;simp only[exec]at z;split at z
  ·rename_i nW caps ef;split at z
   ·rename_i q hq;have na:=hS nW q hq;have b:=h.slots.arg hf;rw[ef]at b;obtain⟨vs,e1,e2,e3⟩:=b.fn_inv;obtain⟨a1,a2⟩:=iO h ib;obtain⟨fn,l,k,t⟩:=na.ent;have n:fn.body.isNone=false:=by cases hb:fn.body<;>simp_all
    have ca:((c.args.map a.eval).toList++vs).length=(xs.map (·.ev s)++caps).length:=by simp at a1 ⊢;omega
    have da:∀(j:Nat) d v,(xs.map (·.ev s)++caps)[j]?=some d->((c.args.map a.eval).toList++vs)[j]?=some v->Rep w g d v:=by
     grind
    have ja:=na.run h.inv h.fresh ca da z;have i:((c.args.map a.eval).toList++vs).toArray=c.args.map a.eval++vs.toArray:=U
    rw[i]at ja;have la:(execOp a.eval o).run P w= .ok (.enter nW (c.args.map a.eval++vs.toArray)) w:=by
     simp only[execOp,fa,resolve,x,e1,Deferred.ofValue,Sem.run_bind,Sem.run_pure,Result.andThen_ok,invoke,callFunc,run_program,l,t,n,QH,if_false];simp
    unfold Oper.wp;rw[la,Oper.upon_enter];refine ja.mono ?_;rintro e w' ⟨v,g',rfl,ga⟩;exact hK v w' g' ga
   ·cases z
  ·cases z
 ·obtain⟨v',w',g',r,e1,e2,e3⟩:=aIW h y (λf xs e=>hc ⟨f,xs,e⟩) z;unfold Oper.wp;rw[e1];rcases e2 with rfl|⟨rfl,rfl⟩
  ·exact hK v' w' g' e3
  ·exact hK undef w' g' e3
end
end Go.Vd
namespace Go.Vd
structure DOper where
 dst:Option Nat
 op:DOp
 after:List Nat
 guard:Option (Nat×Bool)
abbrev Loc:=Id×Nat
structure Eff where
 d:D
 u:HN
def Cb(s:Nat->D)(t:Option Nat)(d:D):Nat->D:=
 match t with
 |some t=>λc=>if c=t then d else s c
 |none=>s
def GW(ops:List DOper)(o:DOper):Option Nat:=
 match o.guard with
 |none=>none
 |some (j,_)=>(ops[j]?).bind (·.dst)
def BD(ops:List DOper)(s:Nat->D)(o:DOper):Option Bool:=
 match o.guard with
 |none=>some true
 |some (j,b)=>match (ops[j]?).bind (·.dst)with
  |some t=>match s t with
   | .bool b'=>some (b'==b)
   | .tup []=>some false
   |_=>none
  |none=>none
def BY(S:HD)(ops:List DOper)(fr:Id)(o:DOper)(s:Nat->D)(m:HF):Option Eff:=
 match BD ops s o with
 |some true=>match exec S s m fr o.op with
  |some (d,u)=>some ⟨d,u⟩
  |none=>none
 |some false=>some ⟨.tup [],[]⟩
 |none=>none
def Dr(S:HD)(ns:Id)(c:Nat)(ops:List DOper):List Nat->(Nat->D)->HF->Option ((Nat->D)×HF)
 |[],s,m=>some (s,m)
 |i::l,s,m=>match ops[i]? with
  |none=>Dr S ns c ops l s m
  |some o=>match BY S ops ((c+i)::ns) o s m with
   |some e=>Dr S ns c ops l (Cb s o.dst e.d) (HN.app m e.u)
   |none=>none
def HJ.uses:HJ->List Nat
 | .t n=>[n]
 | .c _=>[]
def VQ:Option HJ->List Nat
 |some a=>a.uses
 |none=>[]
def DOp.uses:DOp->List Nat
 | .range x| .next x| .mv x| .box x| .load _ x| .nilchk x| .un _ x| .conv _ x| .s2s x| .s2b x| .b2s x| .faddr _ x| .field _ _ x| .mkif _ x| .tass _ _ _ x| .ext _ x| .len _ x=>x.uses
 | .pick c a b=>c.uses++a.uses++b.uses
 | .alloc _| .stop=>[]
 | .build _ ps=>ps.flatMap λp=>p.2.2.uses
 | .bslice _ _ ps=>ps.flatMap HJ.uses
 | .store _ x y| .bin _ x y| .beq _ x y| .seq _ _ x y| .nileq _ _ x y| .iaddr _ x y| .idxs x y| .idxa _ x y| .idxm _ _ x y| .mxm _ x y| .iadda _ _ x y| .app _ _ _ x y| .mksl _ _ _ _ x y=>x.uses++y.uses
 | .cuts x l h| .cutl _ x l h=>x.uses++VQ l++VQ h
 | .mkfn _ cs=>cs.flatMap HJ.uses
 | .call f xs=>f.uses++xs.flatMap HJ.uses
def Ai(i:Id)(o n:Nat):List Loc:=(Qt n).map λj=>(i,o+j)
def H3(S:HD)(s:Nat->D)(m:HF):DOp->List Loc
 | .load k x=>match x.ev s with
  | .ptr i o=>Ai i o (k.getD 1)
  |_=>[]
 | .store n x _=>match x.ev s with
  | .ptr i o=>Ai i o n
  |_=>[]
 | .app _ _ _ x _=>match x.ev s with
  | .slice _ t _=>[(t,0)]
  |_=>[]
 | .next x=>match x.ev s with
  | .itp i=>[(i,1)]
  |_=>[]
 | .call f xs=>match f.ev s with
  | .fn f caps=>match S f with
   |some q=>q.rd (xs.map (·.ev s)++caps) m
   |none=>[]
  |_=>[]
 |_=>[]
def aC{x:HJ}{s r:Nat->D}(h:∀t∈x.uses,s t=r t):x.ev s=x.ev r:=by
 cases x with
 |t n=>exact h n (Q_.2 rfl)
 |c d=>rfl
def SS{xs:List HJ}{s r:Nat->D}(h:∀t∈xs.flatMap HJ.uses,s t=r t):xs.map (·.ev s)=xs.map (·.ev r):=
 QX λx p=>aC λt v=>h t (Q5.2 ⟨x,p,v⟩)
theorem BN{m m':HF}{i:Id}:∀{n o:Nat},(∀l∈Ai i o n,m l.1 l.2=m' l.1 l.2)->Ag m i o n=Ag m' i o n
 |0,o,_=>rfl
 |n+1,o,h=>by
  have b:m i o=m' i o:=h (i,o) (by simp only[Ai,Qv,Ql];exact⟨0,O,rfl⟩);have ih:=BN (m:=m) (m':=m') (i:=i) (n:=n) (o:=o+1) (λl hl=>h l (by
   simp only[Ai,Qv,Ql]at hl ⊢;obtain⟨j,z,rfl⟩:=hl;exact⟨j+1,O,by rw[show o+(j+1)=o+1+j by omega]⟩))
  unfold Ag;rw[b,ih]
theorem Gb{x:Option HJ}{s r:Nat->D}(h:∀t∈VQ x,s t=r t)(a b:Nat):Gc s x a b=Gc r x a b:=by
 cases x with
 |none=>rfl
 |some x=>simp only[Gc];rw[aC h]
def nY{P:Program}{S:HD}(hS:HD.ok P S){op:DOp}{s s':Nat->D}{m m':HF}{fr:Id}(j:∀t∈op.uses,s t=s' t)(u:∀l∈H3 S s m op,m l.1 l.2=m' l.1 l.2):
  exec S s m fr op=exec S s' m' fr op:=by
 cases op with
 |mv x=>simp only[exec];rw[aC j]
 |box x=>simp only[exec];rw[aC j]
 |nilchk x=>simp only[exec];rw[aC j]
 |un op x=>simp only[exec];rw[aC j]
 |conv k x=>simp only[exec];rw[aC j]
 |s2s x=>simp only[exec];rw[aC j]
 |s2b x=>simp only[exec];rw[aC j]
 |b2s x=>simp only[exec];rw[aC j]
 |faddr off x=>simp only[exec];rw[aC j]
 |field k off x=>simp only[exec];rw[aC j]
 |mkif t x=>simp only[exec];rw[aC j]
 |tass t ok z x=>simp only[exec];rw[aC j]
 |ext i x=>simp only[exec];rw[aC j]
 |len k x=>simp only[exec];rw[aC j]
 |alloc zs=>rfl
 |pick c a b=>
  simp only[DOp.uses,Qg]at j;simp only[exec];rw[aC (λt ht=>j t (.inl (.inl ht))),aC (λt ht=>j t (.inl (.inr ht))),aC (λt ht=>j t (.inr ht))]
 |build zs ps=>
  simp only[exec];have:(ps.map λp=>(p.1,p.2.1,p.2.2.ev s))=ps.map λp=>(p.1,p.2.1,p.2.2.ev s'):=
   QX λp g=>by rw[aC λt ht=>j t (Q5.2 ⟨p,g,ht⟩)]
  rw[this]
 |bslice e sz ps=>
  have g:∀p∈ps,p.ev s=p.ev s':=λp g=>aC λt ht=>j t (Q5.2 ⟨p,g,ht⟩)
  simp only[exec];have d:(ps.map λp=>(p.ev s).un)=ps.map λp=>(p.ev s').un:=QX λp la=>by rw[g p la]
  rw[d];have:(ps.all λp=>(p.ev s).data&&(p.ev s).cells.length==sz&&(p.ev s).un.calm)=ps.all λp=>(p.ev s').data&&(p.ev s').cells.length==sz&&(p.ev s').un.calm:=by
   grind
  rw[this]
 |load k x=>
  have w:x.ev s=x.ev s':=aC j;simp only[H3]at u;simp only[exec];rw[←w];cases hxe:x.ev s<;>simp only[hxe]at u ⊢
  case eptr ds=>cases k<;>rfl
  rename_i i o;cases k with
  |none=>
   have:=u (i,o) (by simp only[Ai,Qv,Ql];exact⟨0,U,rfl⟩);simp only at this;simp only[this]
  |some n=>
   simp only[QF]at u;simp only;rw[BN u]
 |store n x v=>
  simp only[DOp.uses,Qg]at j;have w:x.ev s=x.ev s':=aC λt ht=>j t (.inl ht)
  have r:v.ev s=v.ev s':=aC λt ht=>j t (.inr ht)
  simp only[H3]at u;simp only[exec];rw[←w,←r];cases hxe:x.ev s<;>simp only[hxe]at u ⊢;rw[BN u]
 |bin op x y=>
  simp only[DOp.uses,Qg]at j;simp only[exec];rw[aC (λt ht=>j t (.inl ht)),aC (λt ht=>j t (.inr ht))]
 |beq ne x y=>
  simp only[DOp.uses,Qg]at j;simp only[exec];rw[aC (λt ht=>j t (.inl ht)),aC (λt ht=>j t (.inr ht))]
 |seq ne l x y=>
  simp only[DOp.uses,Qg]at j;simp only[exec];rw[aC (λt ht=>j t (.inl ht)),aC (λt ht=>j t (.inr ht))]
 |nileq ne k x y=>
  simp only[DOp.uses,Qg]at j;simp only[exec];rw[aC (λt ht=>j t (.inl ht)),aC (λt ht=>j t (.inr ht))]
 |iaddr sz x y=>
  simp only[DOp.uses,Qg]at j;simp only[exec];rw[aC (λt ht=>j t (.inl ht)),aC (λt ht=>j t (.inr ht))]
 |idxs x y=>
  simp only[DOp.uses,Qg]at j;simp only[exec];rw[aC (λt ht=>j t (.inl ht)),aC (λt ht=>j t (.inr ht))]
 |iadda len sz x y=>
  simp only[DOp.uses,Qg]at j;simp only[exec];rw[aC (λt ht=>j t (.inl ht)),aC (λt ht=>j t (.inr ht))]
 |idxm len sz x y=>
  simp only[DOp.uses,Qg]at j;simp only[exec];rw[aC (λt ht=>j t (.inl ht)),aC (λt ht=>j t (.inr ht))]
 |mxm mx x y=>
  simp only[DOp.uses,Qg]at j;simp only[exec];rw[aC (λt ht=>j t (.inl ht)),aC (λt ht=>j t (.inr ht))]
 |idxa len x y=>
  simp only[DOp.uses,Qg]at j;simp only[exec];rw[aC (λt ht=>j t (.inl ht)),aC (λt ht=>j t (.inr ht))]
 |mksl e sz b z x y=>
  simp only[DOp.uses,Qg]at j;simp only[exec];rw[aC (λt ht=>j t (.inl ht)),aC (λt ht=>j t (.inr ht))]
 |app e sz b x y=>
  simp only[DOp.uses,Qg]at j;have w:x.ev s=x.ev s':=aC λt ht=>j t (.inl ht)
  have hy:y.ev s=y.ev s':=aC λt ht=>j t (.inr ht)
  simp only[H3]at u;simp only[exec];rw[←w,←hy];cases hxe:x.ev s<;>simp only[hxe]at u ⊢;rename_i nl t xs;have:=u (t,0) (Q_.2 rfl);simp only at this;cases Lz sz (y.ev s)<;>simp only[this]
 |stop=>rfl
 |range x=>simp only[exec];rw[aC j]
 |next x=>
  have w:x.ev s=x.ev s':=aC j;simp only[H3]at u;simp only[exec];rw[←w];cases hxe:x.ev s<;>simp only[hxe]at u ⊢;rename_i i;have:=u (i,1) (Q_.2 rfl);simp only at this;rw[this]
 |cuts x l h=>
  simp only[DOp.uses,Qg]at j;simp only[exec];rw[aC (λt ht=>j t (.inl (.inl ht)))];cases x.ev s'<;>simp only;rw[Gb (λt ht=>j t (.inr ht))];split
  ·grind [Gb]
  ·rfl
 |cutl sz x l h=>
  simp only[DOp.uses,Qg]at j;simp only[exec];rw[aC (λt ht=>j t (.inl (.inl ht)))];cases x.ev s'<;>simp only;rw[Gb (λt ht=>j t (.inr ht))];split
  ·split
   ·rw[Gb (λt ht=>j t (.inl (.inr ht)))]
   ·rfl
  ·rfl
 |mkfn f cs=>
  simp only[exec];rw[SS j]
 |call f xs=>
  simp only[DOp.uses,Qg]at j;have hf:f.ev s=f.ev s':=aC λt ht=>j t (.inl ht)
  have w:xs.map (·.ev s)=xs.map (·.ev s'):=SS λt ht=>j t (.inr ht)
  simp only[H3]at u;simp only[exec];rw[←hf,←w];cases hfe:f.ev s<;>simp only[hfe]at u ⊢;rename_i nW caps;cases hSf:S nW<;>simp only[hSf]at u ⊢;rename_i q;exact(hS nW q hSf).loc _ _ _ _ u
def DY(ops:List DOper)(k:Nat):Option Nat:=(ops[k]?).bind (·.dst)
def Fu:HN->Id->Nat->Option D
 |[],_,_=>none
 |(i',o',ds)::r,i,o=>match Fu r i o with
  |some d=>some d
  |none=>if i=i'∧o'<=o∧o<o'+ds.length then ds[o-o']? else none
def iP:∀(u:HN)(m:HF)(i:Id)(o:Nat),HN.app m u i o=match Fu u i o with|some d=>some d|none=>m i o
 |[],m,i,o=>rfl
 |(i',o',ds)::r,m,i,o=>by
  simp only[HN.app,Fu];rw[iP r (m.put i' o' ds) i o];cases Fu r i o with
  |some d=>rfl
  |none=>
   simp only[HF.put];split
   ·grind
   ·rfl
def AA(u:HN):List Loc:=u.flatMap λx=>Ai x.1 x.2.1 x.2.2.length
theorem look_mem:∀{u:HN} {i:Id} {o:Nat},Fu u i o≠none->(i,o)∈AA u
 |[],i,o,h=>absurd rfl h
 |(i',o',ds)::r,i,o,h=>by
  simp only[AA,Zd,Qg];simp only[Fu]at h;split at h
  ·rename_i d z;exact .inr (look_mem (by rw[z];simp))
  ·split at h
   ·rename_i s;obtain⟨rfl,q,y⟩:=s;left;simp only[Ai,Qv,Ql];exact⟨o-o',O,by rw[show o'+(o-o')=o by omega]⟩
   ·exact absurd rfl h
section
variable(ops:List DOper)(E:Nat->Eff)
def Lf(X:Nat->Bool)(t:Nat):Nat->Option D
 |0=>none
 |k+1=>if X k=true∧DY ops k=some t then some (E k).d else Lf X t k
def IN(X:Nat->Bool)(i:Id)(o:Nat):Nat->Option D
 |0=>none
 |k+1=>if X k=true then match Fu (E k).u i o with
  |some d=>some d
  |none=>IN X i o k
  else IN X i o k
variable(s0:Nat->D)(m0:HF)
def lL(X:Nat->Bool)(n:Nat):Nat->D:=λt=>(Lf ops E X t n).getD (s0 t)
def xG(X:Nat->Bool)(n:Nat):HF:=λi o=>match IN E X i o n with|some d=>some d|none=>m0 i o
variable{ops E s0 m0}
theorem Le{X Y:Nat->Bool}{t:Nat}:∀{n:Nat},(∀k,k<n->DY ops k=some t->X k=Y k)->Lf ops E X t n=Lf ops E Y t n
 |0,_=>rfl
 |n+1,h=>by
  have ih:=Le (X:=X) (Y:=Y) (t:=t) (n:=n) (λk g=>h k O);simp only[Lf];by_cases z:DY ops n=some t
  ·rw[h n O z,ih]
  ·simp[z,ih]
def Lg{X Y:Nat->Bool}{i:Id}{o:Nat}:∀{n:Nat},(∀k,k<n->Fu (E k).u i o≠none->X k=Y k)->IN E X i o n=IN E Y i o n
 |0,_=>rfl
 |n+1,h=>by
  have ih:=Lg (X:=X) (Y:=Y) (i:=i) (o:=o) (n:=n) (λk g=>h k O);simp only[IN];cases hl:Fu (E n).u i o with
  |none=>simp[ih]
  |some d=>rw[h n O (by rw[hl];simp)];simp[ih]
def ins(X:Nat->Bool)(k:Nat):Nat->Bool:=λj=>X j||j==k
def Uv{X:Nat->Bool}{t k:Nat}(m:X k=false):∀{n:Nat},k<n->(DY ops k=some t->∀j,k<j->j<n->X j=true->DY ops j≠some t)->
  Lf ops E (ins X k) t n=if DY ops k=some t then some (E k).d else Lf ops E X t n
 |n+1,hk,h=>by
  by_cases z:DY ops k=some t
  ·rw[if_pos z];by_cases w:k=n
   ·grind [Lf,ins]
   ·have ih:=Uv m (n:=n) O (λf j u y o=>h f j u O o);rw[if_pos z]at ih;simp only[Lf];have:¬(ins X k n=true∧DY ops n=some t):=by
     grind [ins]
    rw[if_neg this,ih]
  ·grind [Le,ins]
def Uw{X:Nat->Bool}{i:Id}{o k:Nat}(m:X k=false):∀{n:Nat},k<n->(Fu (E k).u i o≠none->∀j,k<j->j<n->X j=true->Fu (E j).u i o=none)->
  IN E (ins X k) i o n=match Fu (E k).u i o with|some d=>some d|none=>IN E X i o n
 |n+1,hk,h=>by
  cases hl:Fu (E k).u i o with
  |none=>
   simp only;refine Lg (λj z a=>?_);have:j≠k:=by rintro rfl;exact a hl
   simp[ins,this]
  |some d=>
   simp only;by_cases w:k=n
   ·grind [IN,ins]
   ·have ih:=Uw (i:=i) (o:=o) m (n:=n) O (λf j q y r=>h f j q O r);rw[hl]at ih;simp only at ih;simp only[IN];split
    ·grind [ins]
    ·exact ih
def rE{X:Nat->Bool}{k n:Nat}(m:X k=false)(g:k<n)(h:∀t,DY ops k=some t->∀j,k<j->j<n->X j=true->DY ops j≠some t):
  lL ops E s0 (ins X k) n=Cb (lL ops E s0 X n) (DY ops k) (E k).d:=by
 funext t;simp only[lL];rw[Uv m g (h t)];cases hd:DY ops k with
 |none=>simp[Cb,lL]
 |some c=>
  simp only[Cb,lL,Qa];by_cases v:t=c
  ·subst v;simp
  ·grind
def rF{X:Nat->Bool}{k n:Nat}(m:X k=false)(g:k<n)(h:∀i o,Fu (E k).u i o≠none->∀j,k<j->j<n->X j=true->Fu (E j).u i o=none):
  xG E m0 (ins X k) n=HN.app (xG E m0 X n) (E k).u:=by
 funext i o;rw[iP];simp only[xG];rw[Uw m g (h i o)];cases Fu (E k).u i o<;>rfl
def below(k:Nat):Nat->Bool:=λj=>decide (j<k)
def OE(k:Nat):ins (below k) k=below (k+1):=by
 grind [ins,below]
structure aHi (ops:List DOper) (E:Nat->Eff) (rd:Nat->List Loc) (bef:Nat->Nat->Prop):Prop where
 lt:∀j k,bef j k->j<k
 slot:∀j k t oj ok,j≠k->ops[j]?=some oj->ops[k]?=some ok->oj.dst=some t->(t∈ok.op.uses∨GW ops ok=some t∨ok.dst=some t)->bef j k∨bef k j
 mem:∀j k i o,j≠k->j<ops.length->k<ops.length->Fu (E j).u i o≠none->((i,o)∈rd k∨Fu (E k).u i o≠none)->bef j k∨bef k j
def kG(ops:List DOper)(a:Nat->Nat->Prop):(Nat->Bool)->List Nat->Prop
 |_,[]=>True
 |X,i::l=>i<ops.length∧X i=false∧(∀j,a j i->X j=true)∧kG ops a (ins X i) l
def Td(a:Nat->Nat->Prop)(X:Nat->Bool):Prop:=∀j k,X k=true->a j k->X j=true
def To{s r:Nat->D}{o:DOper}(h:∀t,GW ops o=some t->s t=r t):BD ops s o=BD ops r o:=by
 grind [BD,GW]
def gK{P:Program}{S:HD}(g:HD.ok P S){o:DOper}{fr:Id}{s r:Nat->D}{m m':HF}(j:∀t,(t∈o.op.uses∨GW ops o=some t)->s t=r t)(n:∀l∈H3 S s m o.op,m l.1 l.2=m' l.1 l.2):
  BY S ops fr o s m=BY S ops fr o r m':=by
 unfold BY;rw[To (λt v=>j t (.inr v)),nY g (λt v=>j t (.inl v)) n]
variable{P:Program}{S:HD}{ns:Id}{c:Nat}{rd:Nat->List Loc}{bef:Nat->Nat->Prop}
def aR5(s:HD.ok P S)(e:aHi ops E rd bef){k:Nat}{o:DOper}(v:ops[k]?=some o)
  (q:rd k=H3 S (lL ops E s0 (below k) ops.length) (xG E m0 (below k) ops.length) o.op)
  (i:BY S ops ((c+k)::ns) o (lL ops E s0 (below k) ops.length) (xG E m0 (below k) ops.length)=some (E k))
  {X:Nat->Bool} (m:Td bef X) (g:X k=false) (x:∀j,bef j k->X j=true):
  BY S ops ((c+k)::ns) o (lL ops E s0 X ops.length) (xG E m0 X ops.length)=some (E k):=by
 have r:k<ops.length:=(Qf.1 v).1;rw[←i];symm;have n:∀j,j<ops.length->bef j k∨bef k j->below k j=X j:=by
  intro j u d;rcases d with h1|h1
  ·rw[x j h1];simp[below,e.lt j k h1]
  ·have:=e.lt k j h1;have b:X j=false:=by
    cases hx:X j with
    |false=>rfl
    |true=>rw[m k j hx h1]at g;cases g
   rw[b];simp[below];omega
 have self:∀j,j<ops.length->j=k->below k j=X j:=by
  grind [below]
 refine gK s (λt ht=>?_) (λl hl=>?_)
 ·simp only[lL];rw[Le (λj u z=>?_)];by_cases a:j=k
  ·exact self j u a
  ·have y:ops[j]?=some ops[j]:=Qc u;refine n j u (e.slot j k t _ o a y v ?_ (by rcases ht with ht|ht;exact .inl ht;exact .inr (.inl ht)));simpa[DY,y]using z
 ·simp only[xG];rw[Lg (λj u z=>?_)];by_cases a:j=k
  ·exact self j u a
  ·exact n j u (e.mem j k l.1 l.2 a u r z (.inl (by rw[q];exact hl)))
def Td.ins{X:Nat->Bool}{k:Nat}(m:Td bef X)(d:∀j,bef j k->X j=true):Td bef (ins X k):=by
 intro j z f q;simp only[Vd.ins,QP,beq_iff_eq]at f ⊢;rcases f with h|rfl
 ·exact .inl (m j z h q)
 ·exact .inl (d j q)
def RR(g:HD.ok P S)(e:aHi ops E rd bef)(ab:∀k o,ops[k]?=some o->rd k=H3 S (lL ops E s0 (below k) ops.length) (xG E m0 (below k) ops.length) o.op)
  (hE:∀k o,ops[k]?=some o->BY S ops ((c+k)::ns) o (lL ops E s0 (below k) ops.length) (xG E m0 (below k) ops.length)=some (E k)):
  ∀(l:List Nat)(X:Nat->Bool),Td bef X->kG ops bef X l->
   Dr S ns c ops l (lL ops E s0 X ops.length) (xG E m0 X ops.length)=some (lL ops E s0 (l.foldl ins X) ops.length,xG E m0 (l.foldl ins X) ops.length)
 |[],X,_,_=>rfl
 |i::l,X,hX,hg=>by
  obtain⟨hi,n,x,f⟩:=hg;have v:ops[i]?=some ops[i]:=Qc hi;have he:=aR5 g e v (ab i _ v) (hE i _ v) hX n x;have a:∀j,i<j->X j=true->¬(bef j i∨bef i j):=by
   intro j p b hb;rcases hb with hb|hb
   ·have:=e.lt j i hb;omega
   ·rw[hX i j b hb]at n;cases n
  have m:=rE (ops:=ops) (E:=E) (s0:=s0) n hi (λt z j q y r ra=>by
   have s:ops[j]?=some ops[j]:=Qc y;refine a j q r (e.slot j i t _ _ O s v ?_ (.inr (.inr ?_)))
   ·simpa[DY,s]using ra
   ·simpa[DY,v]using z)
  have w:=rF (E:=E) (m0:=m0) n hi (λi' o hl j q y r=>by
   cases hlj:Fu (E j).u i' o with
   |none=>rfl
   |some d=>exact absurd (e.mem j i i' o O y hi (by rw[hlj];simp) (.inr hl)) (a j q r))
  have z:DY ops i=(ops[i]).dst:=by simp[DY,v]
  rw[z]at m;simp only[Dr,v,he,Q8];rw[←m,←w];exact RR g e ab hE l (ins X i) (hX.ins x) f
end
def Nz(m:Region.Mode)(ops:Array Oper):List Nat->List Nat->Bool
 |_,[]=>true
 |done,i::r=>(match ops[i]? with
  |some o=>o.after.all λe=>!Region.binds m e||done.contains e.on
  |none=>false)&&Nz m ops (i::done) r
def F6(m:Region.Mode)(ops:Array Oper)(j:List Nat):Bool:=(Qt ops.size).all (λi=>j.contains i)&&Nz m ops [] j
def EV(m:Region.Mode)(ops:Array Oper)(listed:Array Bool):List Nat:=
 (Qt ops.size).filter λi=>!listed.getD i true&&((ops[i]?).map (·.after.all λe=>!Region.binds m e||listed.getD e.on false)).getD false
def aJN{a:Array Bool}{i:Nat}(h:i<a.size)(x y:Bool):a.getD i x=a.getD i y:=by
 simp_all
def R_{m:Region.Mode}{ops:Array Oper}{listed:Array Bool}(e:listed.size=ops.size):∀{s done:List Nat},Nz m ops done s=true->(∀j∈done,listed.getD j false=true)->
  (∃i∈s,i<ops.size∧listed.getD i false=false)->∃i,i∈EV m ops listed
 |[],done,_,_,⟨i,hi,_⟩=>by cases hi
 |i::r,done,h,hd,⟨k,hk,hkn,hkl⟩=>by
  unfold Nz at h;rw[QU]at h;obtain⟨u,y⟩:=h;split at u
  ·rename_i o v;have q:i<ops.size:=(Qe.1 v).1;by_cases a:listed.getD i false=false
   ·refine⟨i,?_⟩;simp only[EV,Zm,Ql];refine⟨q,?_⟩;rw[aJN O true false,a];simp only[Zb,Bool.true_and,v,QY,QF];rw[ZA]at u ⊢;intro j z;have:=u j z;simp only[QP,Zn]at this ⊢;rcases this with h3|h3
    ·exact .inl h3
    ·exact .inr (hd _ h3)
   ·have b:listed.getD i false=true:=by simpa using a
    refine R_ e y (λj z=>?_) ?_
    ·grind
    ·grind
  ·cases u
def EP(listed:Array Bool):Nat->Bool:=λi=>listed.getD i false
def mR{listed:Array Bool}{i:Nat}(h:i<listed.size):EP (listed.setIfInBounds i true)=ins (EP listed) i:=by
 funext j;simp only[EP,ins,Qh,Array.getElem?_setIfInBounds];by_cases z:i=j
 ·subst z;simp[h]
 ·grind
def GA(listed:Array Bool)(n:Nat):Nat:=((Qt n).filter λi=>!listed.getD i false).length
def gB{p q:Nat->Bool}{i:Nat}(hi:p i=true)(z:∀j,q j=(p j&&j !=i)):∀{l:List Nat},i∈l->(l.filter q).length<(l.filter p).length:=by
 have t:∀l:List Nat,(l.filter q).length<=(l.filter p).length:=by
  intro l;induction l with
  |nil=>exact Qi _
  |cons x l ih=>
   rw[Q6,Q6,z x];cases hp:p x
   ·exact ih
   ·grind
 intro l;induction l with
 |nil=>intro h;cases h
 |cons x l ih=>
  intro n;rw[Q6,Q6,z x];by_cases w:x=i
  ·grind
  ·have r:(x !=i)=true:=by simpa using w
   have:=ih (by rcases List.mem_cons.1 n with h|h;exact absurd h.symm w;exact h);cases hp:p x
   ·simpa using this
   ·simp only[r,Bool.and_true,if_true,Qo];omega
def Vf{listed:Array Bool}{n i:Nat}(o:listed.size=n)(hi:i<n)(hl:listed.getD i false=false):GA (listed.setIfInBounds i true) n<GA listed n:=by
 unfold GA;refine gB (i:=i) (by rw[hl];rfl) (λj=>?_) (Ql.2 hi);by_cases z:j=i
 ·simp_all
 ·have ta:¬i=j:=λe=>z e.symm
  simp[Qh,ta,z]
def Uh(o:Oper):List Nat:=(o.after.toList.filter (Region.binds .any)).map (·.on)
theorem aAE{m:Region.Mode}{e:Edge}(h:Region.binds .any e=true):Region.binds m e=true:=by
 unfold Region.binds at h ⊢;split at h<;>simp_all
def FG(c:List (List Nat))(j k:Nat):Prop:=j∈c.getD k []
def Gu(ps:List (List Nat))(c:List (List Nat)):Bool:=
 (Qt c.length).all λk=>(c.getD k []).all λj=>decide (j<k)&&((ps.getD k []).any λp=>p==j||(decide (p<k)&&(c.getD p []).contains j))
def WI{ps c:List (List Nat)}(h:Gu ps c=true){j k:Nat}(f:FG c j k):j<k∧∃p∈ps.getD k [],p=j∨(p<k∧FG c j p):=by
 unfold FG at f;have g:k<c.length:=by
  grind
 have u:=Qy.1 h k (Ql.2 g);have y:=Qy.1 u j f;simp only[QU,decide_eq_true_eq,List.any_eq_true,QP,beq_iff_eq,Zn]at y;exact⟨y.1,y.2⟩
def iL{ps c:List (List Nat)}(h:Gu ps c=true){X:Nat->Bool}(m:∀k,X k=true->∀p∈ps.getD k [],X p=true):∀{k j:Nat},X k=true->FG c j k->X j=true:=by
 intro k;induction k using ZI with
 |_ k ih=>
  intro j g f;obtain⟨_,p,y,d⟩:=WI h f;rcases d with rfl|⟨x,a⟩
  ·exact m k g p y
  ·grind
def aFH{ps c:List (List Nat)}(h:Gu ps c=true){X:Nat->Bool}(m:∀k,X k=true->∀p∈ps.getD k [],X p=true){k:Nat}(g:∀p∈ps.getD k [],X p=true){j:Nat}(f:FG c j k):X j=true:=by
 obtain⟨_,p,y,d⟩:=WI h f;rcases d with rfl|⟨x,a⟩
 ·exact g p y
 ·exact iL h m (g p y) a
def sX{m:Region.Mode}{ops:Array Oper}{x:List DOper}{da:List (List Nat)}(r:x.length=ops.size)(ia:∀(k:Nat) o,ops[k]?=some o->(x.map (·.after)).getD k []=Uh o)
  (hb:Gu (x.map (·.after)) da=true) {y:List Nat} (ka:F6 m ops y=true):
  ∀(fuel t:Nat)(listed:Array Bool)(z:List Nat),listed.size=ops.size->GA listed ops.size<=fuel->
   (∀k,EP listed k=true->∀p∈(x.map (·.after)).getD k [],EP listed p=true)->
   ∃l,Region.linearise.go m ops fuel t listed z=z.reverse++l∧kG x (FG da) (EP listed) l∧∀i,i<ops.size->l.foldl ins (EP listed) i=true
 |0,t,listed,z,hsz,hu,hcl=>by
  refine⟨[],by simp[Region.linearise.go],trivial,λi hi=>?_⟩;have b:((Qt ops.size).filter λi=>!listed.getD i false)=[]:=QN (by unfold GA at hu;omega);rw[List.filter_eq_nil_iff]at b;have:=b i (Ql.2 hi);simpa[EP]using this
 |fuel+1,t,listed,z,hsz,hu,hcl=>by
  have f:Region.linearise.go m ops (fuel+1) t listed z=match (EV m ops listed)[t % (EV m ops listed).length]? with
   |some i=>Region.linearise.go m ops fuel (t / (EV m ops listed).length) (listed.setIfInBounds i true) (i::z)
   |none=>z.reverse:=rfl
  rw[f];split
  ·rename_i i hi;have ua:i∈EV m ops listed:=Qr hi;simp only[EV,Zm,Ql,QU]at ua;obtain⟨q,pa,s⟩:=ua;have u:listed.getD i false=false:=by
    simp_all
   have ho:ops[i]?=some ops[i]:=Array.getElem?_eq_getElem q;rw[ho]at s;simp only[QY,QF,ZA]at s;have ea:∀p∈(x.map (·.after)).getD i [],EP listed p=true:=by
    intro p g;rw[ia i _ ho]at g;simp only[Uh,Qv,Zm]at g;obtain⟨e,⟨c,d⟩,rfl⟩:=g;obtain⟨j,hj,rfl⟩:=Array.getElem_of_mem (Array.mem_toList_iff.1 c);have:=s j hj;simp only[QP]at this;rcases this with h1|h1
    ·grind [aAE]
    ·exact h1
   have na:=mR (listed:=listed) (i:=i) O;obtain⟨l,v,n,e3⟩:=sX r ia hb ka fuel (t / (EV m ops listed).length) (listed.setIfInBounds i true) (i::z) (by simpa using hsz)
    (by have:=Vf hsz q u;omega) (λk hk p g=>by
     rw[na]at hk ⊢;simp only[ins,QP,beq_iff_eq]at hk ⊢;rcases hk with hk|rfl
     ·exact .inl (hcl k hk p g)
     ·exact .inl (ea p g))
   refine⟨i::l,?_,⟨O,u,λj hj=>aFH hb hcl ea hj,?_⟩,?_⟩
   ·rw[v];simp
   ·rw[←na];exact n
   ·simp_all
  ·rename_i w;refine⟨[],U,trivial,λi hi=>?_⟩;simp only[List.foldl_nil];cases hmi:EP listed i with
   |true=>rfl
   |false=>
    exfalso;unfold F6 at ka;rw[QU]at ka;have a:=Qy.1 ka.1 i (Ql.2 hi);obtain⟨k,hk⟩:=R_ hsz ka.2 U ⟨i,by simpa using a,hi,hmi⟩;have va:0<(EV m ops listed).length:=List.length_pos_of_mem hk;rw[List.getElem?_eq_none_iff]at w;have:=ZJ t va;omega
def Fv{m:Region.Mode}{ops:Array Oper}{x:List DOper}{c:List (List Nat)}(r:x.length=ops.size)(y:∀(k:Nat) o,ops[k]?=some o->(x.map (·.after)).getD k []=Uh o)
  (f:Gu (x.map (·.after)) c=true) {j:List Nat} (e:F6 m ops j=true) (t:Nat):
  kG x (FG c) (λ_=>false) (Region.linearise m ops t)∧(Region.linearise m ops t).foldl ins (λ_=>false)=below ops.size:=by
 have b:EP (Q9 ops.size false)=λ_=>false:=by
  funext i;by_cases hi:i<ops.size<;>simp[EP,Qh,hi]
 obtain⟨l,v,n,e3⟩:=sX r y f e ops.size t (Q9 ops.size false) [] U (by
  unfold GA;exact QA (List.length_filter_le _ _) U) (by rw[b];simp)
 rw[b]at n e3;have hl:Region.linearise m ops t=l:=by
  unfold Region.linearise;simpa using v
 rw[hl];refine⟨n,?_⟩;funext i;by_cases hi:i<ops.size
 ·simp_all [e3,below]
 ·have a:∀(l:List Nat)(X:Nat->Bool),kG x (FG c) X l->X i=false->l.foldl ins X i=false:=by
   intro l;induction l with
   |nil=>intro X _ h;exact h
   |cons k l ih=>
    intro X z p;obtain⟨q,u,g3,g4⟩:=z;refine ih _ g4 ?_;have:¬i=k:=O
    simp[ins,p,this]
  rw[a l _ n rfl];simp[below,hi]
end Go.Vd
namespace Go.Vd
open Go.RowKit
def aNd(N:Nat):Option Nat->Bool
 |some t=>decide (t<N)
 |none=>true
def Vj(P:Program)(N:Nat)(o:Oper):Option DOper:=
 if aNd N o.dst=true then some ⟨o.dst,(tr P o.op).getD .stop,Uh o,o.guard⟩else none
def DJ(P:Program)(N:Nat):List Oper->Option (List DOper)
 |[]=>some []
 |o::r=>match Vj P N o,DJ P N r with
  |some d,some l=>some (d::l)
  |_,_=>none
def FQ{P:Program}{N:Nat}{o:Oper}{d:DOper}(h:Vj P N o=some d):(tr P o.op).getD .stop=d.op∧d.dst=o.dst∧d.after=Uh o∧d.guard=o.guard∧∀t,o.dst=some t->t<N:=by
 grind [Vj,aNd]
def aId{P:Program}{S:HD}{op:Op}{d:DOp}{s:Nat->D}{m:HF}{fr:Id}{x:D×HN}(h:(tr P op).getD .stop=d)(c:exec S s m fr d=some x):tr P op=some d:=by
 cases htr:tr P op with
 |none=>rw[htr]at h;simp only[Option.getD_none]at h;subst h;simp[exec]at c
 |some n=>rw[htr]at h;simp only[QF]at h;rw[h]
def CX{P:Program}{N:Nat}:∀{l:List Oper} {e:List DOper},DJ P N l=some e->e.length=l.length∧∀(i:Nat) o,l[i]?=some o->∃d,e[i]?=some d∧Vj P N o=some d
 |[],e,h=>by simp only[DJ,Qa]at h;subst h;simp
 |o::r,e,h=>by
  unfold DJ at h;split at h
  ·rename_i d l u y;simp only[Qa]at h;subst h;obtain⟨p,q⟩:=CX y;refine⟨by simp[p],λi o' hi=>?_⟩;cases i with
   |zero=>simp only[QE,Qa]at hi;subst hi;exact⟨d,rfl,u⟩
   |succ i=>simp only[Zg]at hi ⊢;exact q i o' hi
  ·cases h
def E0(ns:Id)(m:HF)(g:Gh)(m':HF)(t:Gh):Prop:=∀i,B3 m g i->¬ns<:+i->B3 m' t i
def E0.refl(ns:Id)(m:HF)(g:Gh):E0 ns m g m g:=λ_ h _=>h
def E0.trans{ns:Id}{m m' a:HF}{g t f:Gh}(h:E0 ns m g m' t)(k:E0 ns m' t a f):E0 ns m g a f:=λi b w=>k i (h i b w) w
structure InX (P:Program) (B:Nat) (w0:World) (N:Nat) (ns:Id) (c:Nat) (X:Nat->Bool) (s:Nat->D) (m:HF) (a:Act) (w:World) (g:Gh):Prop where
 inv:HQ P B w0 m w g
 slots:Dn w g s a
 size:a.tmps.size=N
 defers:a.defers=[]
 fresh:∀k i,c<=k->X (k-c)=false->(k::ns)<:+i->B3 m g i
def aLy:(Nat->Bool)->List Nat->Prop
 |_,[]=>True
 |X,i::l=>X i=false∧aLy (ins X i) l
def cU{k z:Nat}{ns i:Id}(h:(k::ns)<:+i)(c:(z::ns)<:+i):k=z:=by
 obtain⟨x,p⟩:=h;obtain⟨y,s⟩:=c;have hl:x.length=y.length:=by have:=congrArg ZL (p.trans s.symm);simpa using this
 have:=List.append_inj (p.trans s.symm) hl;simpa using this.2
def Dn.put{w:World}{g:Gh}{s:Nat->D}{a:Act}{q:Option Nat}{d:D}{v:Value}(h:Dn w g s a)(i:Rep w g d v)(k:∀t,q=some t->t<a.tmps.size):Dn w g (Cb s q d) (a.put q v):=by
 intro t;cases q with
 |none=>exact h t
 |some c=>
  have z:=k c rfl;simp only[Cb,Act.put];by_cases m:t=c
  ·simp_all
  ·rw[if_neg m];have p:¬c=t:=λe=>m e.symm
   have:(a.tmps.setIfInBounds c v).getD t undef=a.tmps.getD t undef:=by simp[Qh,p]
   rw[this];exact h t
def dY(a:Act)(q:Option Nat)(v:Value):(a.put q v).tmps.size=a.tmps.size∧(a.put q v).defers=a.defers:=by
 cases q<;>simp[Act.put]
section
variable{P:Program}{B:Nat}{w0:World}{N:Nat}{ns:Id}{c:Nat}{S:HD}{ops:Array Oper}{dops:List DOper}{Q:Exit->Act->World->Prop}
def zC{k:Nat}{i:Id}(h:¬ns<:+i):¬(k::ns)<:+i:=λc=>h ((ZD k ns).trans c)
def M1{w:World}{g:Gh}{s:Nat->D}{a:Act}(ea:DJ P N ops.toList=some dops)(k:Dn w g s a){o:Oper}{d:DOper}(z:d.guard=o.guard){b:Bool}(hg:BD dops s d=some b):
  Region.wanted o (yielded ops a.tmps)=b:=by
 obtain⟨hl,ja⟩:=CX ea;unfold BD at hg;unfold Region.wanted;rw[←z];cases hgd:d.guard with
 |none=>rw[hgd]at hg;simp only[Qa]at hg;exact hg
 |some p=>
  obtain⟨j,c⟩:=p;rw[hgd]at hg;simp only at hg ⊢;split at hg
  ·rename_i t v;split at hg
   ·rename_i b' wa;simp only[Qa]at hg;have i:=k t;rw[wa]at i;have r:=i.bool_inv;have y:∃oj,ops[j]?=some oj∧oj.dst=some t:=by
     cases hdj:dops[j]? with
     |none=>rw[hdj]at v;cases v
     |some dj=>
      rw[hdj]at v;simp only[ZE]at v;have f:j<ops.toList.length:=by have:=(Qf.1 hdj).1;omega
      obtain⟨d2,m,n⟩:=ja j _ (Qc f);rw[hdj]at m;simp only[Qa]at m;subst m;refine⟨ops.toList[j],by simp at f;simp[f],?_⟩;rw[←(FQ n).2.1];exact v
    obtain⟨oj,m,n⟩:=y;have q:a.tmps[t]?=some (.bool b'):=by
     rw[Qh]at r;cases hh:a.tmps[t]? with
     |none=>rw[hh]at r;simp[undef]at r
     |some x=>rw[hh]at r;simp at r;rw[r]
    have hy:yielded ops a.tmps j=some b':=by
     simp[yielded,m,n,q]
    rw[hy,←hg];cases b'<;>cases c<;>rfl
   ·rename_i wa;simp only[Qa]at hg;subst hg;have i:=k t;rw[wa]at i;obtain⟨us,r,hl,_⟩:=i.tup_inv;have u:us=[]:=QN Xk;subst u;have hy:yielded ops a.tmps j=none:=by
     unfold yielded;split
     ·rename_i b2 e;exfalso;rw[Zi]at e;obtain⟨t2,m,n⟩:=e;rw[Zi]at m;obtain⟨oj,e3,e4⟩:=m;have y:(dops[j]?).bind (·.dst)=some t2:=by
       obtain⟨d2,q1,q2⟩:=ja j oj (by simpa using e3);rw[q1];simp only[ZE];rw[(FQ q2).2.1];exact e4
      rw[v]at y;simp only[Qa]at y;subst y;rw[Qh,n]at r;cases r
     ·rfl
    rw[hy];rfl
   ·cases hg
  ·cases hg
def Fk(hS:HD.ok P S)(ea:DJ P N ops.toList=some dops):∀(l:List Nat)(X:Nat->Bool)(s:Nat->D)(m:HF)(a:Act)(w:World)(g:Gh)(s':Nat->D)(m':HF),
  aLy X l->Dr S ns c dops l s m=some (s',m')->InX P B w0 N ns c X s m a w g->
  (∀a' w' g',InX P B w0 N ns c (l.foldl ins X) s' m' a' w' g'->H5 w g w' g'->E0 ns m g m' g'->Q .normal a' w')->wpOps P ops Q l a w
 |[],X,s,m,a,w,g,s',m',_,he,hx,hq=>by
  simp only[Dr,Qa,Qd]at he;obtain⟨rfl,rfl⟩:=he;exact hq a w g hx (H5.refl w g) (E0.refl ns m g)
 |i::l,X,s,m,a,w,g,s',m',hf,he,hx,hq=>by
  obtain⟨n,ya⟩:=hf;obtain⟨r,ja⟩:=CX ea;simp only[wpOps];cases ho:ops[i]? with
  |none=>
   simp only;have hd:dops[i]?=none:=by
    simp_all
   simp only[Dr,hd]at he;have pa:InX P B w0 N ns c (ins X i) s m a w g:=⟨hx.inv,hx.slots,hx.size,hx.defers,λk i' q y v=>hx.fresh k i' q (by simp only[ins,QS]at y;exact y.1) v⟩;exact Fk hS ea l (ins X i) s m a w g s' m' ya he pa hq
  |some o=>
   simp only;obtain⟨d,hd,ba⟩:=ja i o (by simpa using ho);obtain⟨t1,t2,t3,t4,t5⟩:=FQ ba;simp only[Dr,hd]at he;split at he
   ·rename_i e b;unfold BY at b;have p:∀i',((c+i)::ns)<:+i'->B3 m g i':=λi' h=>hx.fresh (c+i) i' O (by rw[show c+i-c=i by omega];exact n) h
    have j:∀t,o.dst=some t->t<a.tmps.size:=λt ht=>by rw[hx.size];exact t5 t ht
    split at b
    ·rename_i hg;rw[M1 ea hx.slots t4 hg];simp only[if_true];split at b
     ·rename_i dd u z;simp only[Qa]at b;subst b;left;refine aUl hS ⟨hx.inv,hx.slots,p⟩ (aId t1 z) z (λv' w' g' ga=>?_);have ia:=dY a o.dst v';have pa:InX P B w0 N ns c (ins X i) (Cb s d.dst dd) (HN.app m u) (a.put o.dst v') w' g':=by
       refine⟨ga.inv,?_,by rw[ia.1];exact hx.size,by rw[ia.2];exact hx.defers,λk i' q y v=>?_⟩
       ·rw[t2];exact(hx.slots.ext ga.ext).put ga.rep j
       ·simp only[ins,QS,beq_eq_false_iff_ne]at y;refine ga.fresh i' (hx.fresh k i' q y.1 v) (λh4=>?_);have:=cU v h4;omega
      exact Fk hS ea l (ins X i) _ _ _ w' g' s' m' ya he pa (λab oa f q y v=>hq ab oa f q (ga.ext.trans y) (E0.trans (λi' hf x=>ga.fresh i' hf (zC x)) v))
     ·cases b
    ·rename_i hg;rw[M1 ea hx.slots t4 hg];simp only[QH,if_false];simp only[Qa]at b;subst b;have ia:=dY a o.dst undef;have pa:InX P B w0 N ns c (ins X i) (Cb s d.dst (.tup [])) m (a.put o.dst undef) w g:=by
      refine⟨hx.inv,?_,by rw[ia.1];exact hx.size,by rw[ia.2];exact hx.defers,λk i' q y v=>?_⟩
      ·rw[t2];exact hx.slots.put (.tup [] [] rfl U) j
      ·simp only[ins,QS]at y;exact hx.fresh k i' q y.1 v
     exact Fk hS ea l (ins X i) _ _ _ w g s' m' ya he pa hq
    ·cases b
   ·cases he
def OL{a:Nat->Nat->Prop}:∀{l:List Nat} {X:Nat->Bool},kG dops a X l->aLy X l
 |[],_,_=>trivial
 |i::l,X,h=>⟨h.2.1,OL h.2.2.2⟩
def SB(n:Nat):∀k,aLy (below k) (Zp k n):=by
 induction n with
 |zero=>intro k;trivial
 |succ n ih=>
  intro k;rw[Q3];exact⟨by simp[below],by rw[OE];exact ih (k+1)⟩
def Pr(n:Nat):∀k,(Zp k n).foldl ins (below k)=below (k+n):=by
 induction n with
 |zero=>intro k;rfl
 |succ n ih=>
  intro k;rw[Q3,Q8,OE,ih (k+1)];congr 1;omega
structure InS (P:Program) (B:Nat) (w0:World) (N:Nat) (ns:Id) (c:Nat) (s:Nat->D) (m:HF) (a:Act) (w:World) (g:Gh):Prop where
 inv:HQ P B w0 m w g
 slots:Dn w g s a
 size:a.tmps.size=N
 defers:a.defers=[]
 fresh:∀k i,c<=k->(k::ns)<:+i->B3 m g i
def InS.start{s:Nat->D}{m:HF}{a:Act}{w:World}{g:Gh}(h:InS P B w0 N ns c s m a w g)(X:Nat->Bool):InX P B w0 N ns c X s m a w g:=
 ⟨h.inv,h.slots,h.size,h.defers,λk i u _ o=>h.fresh k i u o⟩
def InX.done{s:Nat->D}{m:HF}{a:Act}{w:World}{g:Gh}{n:Nat}(h:InX P B w0 N ns c (below n) s m a w g):InS P B w0 N ns (c+n) s m a w g:=
 ⟨h.inv,h.slots,h.size,h.defers,λk i u o=>h.fresh k i O (by simp[below];omega) o⟩
def xX(v:HD.ok P S)(d:DJ P N ops.toList=some dops){s:Nat->D}{m:HF}{a:Act}{w:World}{g:Gh}{r:Nat->D}{m':HF}{id:Nat}
  (he:Dr S ns c dops (Qt dops.length) s m=some (r,m')) (p:InS P B w0 N ns c s m a w g)
  (z:∀k w' t,InS P B w0 N ns (c+dops.length) r m' k w' t->H5 w g w' t->E0 ns m g m' t->Q .normal k w'):(Code.region id ops false).wp P Q a w:=by
 have hl:dops.length=ops.size:=by simpa using (CX d).1
 refine wp_region ?_;rw[←hl];have b:below 0=λ_=>false:=X7
 refine Fk v d (Qt dops.length) (below 0) s m a w g r m' ?_ he (p.start _) (λk w' t u y o=>?_)
 ·rw[QR];exact SB _ 0
 ·rw[QR,Pr]at u;rw[Qu]at u;exact z k w' t u.done y o
end
abbrev MX:=List Loc×List Loc
def Cs(S:HD)(ns:Id)(c:Nat)(ops:List DOper):List DOper->Nat->(Nat->D)->HF->Option ((Nat->D)×HF×List MX)
 |[],_,s,m=>some (s,m,[])
 |o::l,k,s,m=>match BY S ops ((c+k)::ns) o s m with
  |some e=>match Cs S ns c ops l (k+1) (Cb s o.dst e.d) (HN.app m e.u)with
   |some (s',m',f)=>some (s',m',(H3 S s m o.op,AA e.u)::f)
   |none=>none
  |none=>none
def DOp.mayW:DOp->Bool
 | .alloc _| .box _| .bslice .. | .mksl .. | .store .. | .app .. | .call .. | .range _| .next _=>true
 |_=>false
def DOp.ownW:DOp->Bool
 | .alloc _| .box _| .bslice .. | .mksl ..=>true
 |_=>false
def DOp.mayR:DOp->Bool
 | .load .. | .store .. | .app .. | .call .. | .next _=>true
 |_=>false
def aFv(a b:DOp):Bool:=a.mayW&&(b.mayR||b.mayW)&&!(a.ownW&&b.ownW)
def Tv(c:List (List Nat))(j k:Nat):Bool:=(c.getD k []).contains j
def LV(ops:List DOper)(c:List (List Nat)):List (Nat×Nat):=
 (Qt ops.length).flatMap λj=>(Qt ops.length).filterMap λk=>
  match ops[j]?,ops[k]? with
  |some a,some b=>if(j !=k)&&!Tv c j k&&!Tv c k j&&aFv a.op b.op then some (j,k)else none
  |_,_=>none
def PQ(ops:List DOper)(c:List (List Nat)):Bool:=
 (Qt ops.length).all λj=>(Qt ops.length).all λk=>
  match ops[j]?,ops[k]? with
  |some a,some b=>match a.dst with
   |some t=>(j==k)||Tv c j k||Tv c k j||!(b.op.uses.contains t||GW ops b==some t||b.dst==some t)
   |none=>true
  |_,_=>true
def MN(f:List MX)(ps:List (Nat×Nat)):Prop:=∀p∈ps,∀l∈(f.getD p.1 ([],[])).2,l∉(f.getD p.2 ([],[])).1∧l∉(f.getD p.2 ([],[])).2
section
variable{S:HD}{ns:Id}{c:Nat}{ops:List DOper}
def DH(S:HD)(ns:Id)(c:Nat)(ops:List DOper)(s0:Nat->D)(m0:HF):Nat->(Nat->D)×HF
 |0=>(s0,m0)
 |k+1=>match ops[k]? with
  |some o=>
   let e:=(BY S ops ((c+k)::ns) o (DH S ns c ops s0 m0 k).1 (DH S ns c ops s0 m0 k).2).getD ⟨.junk,[]⟩
   (Cb (DH S ns c ops s0 m0 k).1 o.dst e.d,HN.app (DH S ns c ops s0 m0 k).2 e.u)
  |none=>DH S ns c ops s0 m0 k
def MQ(S:HD)(ns:Id)(c:Nat)(ops:List DOper)(s0:Nat->D)(m0:HF)(k:Nat):Eff:=
 match ops[k]? with
 |some o=>(BY S ops ((c+k)::ns) o (DH S ns c ops s0 m0 k).1 (DH S ns c ops s0 m0 k).2).getD ⟨.junk,[]⟩
 |none=>⟨.junk,[]⟩
variable{s0:Nat->D}{m0:HF}
def Hj:∀k,k<=ops.length->(DH S ns c ops s0 m0 k).1=lL ops (MQ S ns c ops s0 m0) s0 (below k) ops.length∧(DH S ns c ops s0 m0 k).2=xG (MQ S ns c ops s0 m0) m0 (below k) ops.length
 |0,_=>by
  have b:below 0=λ_=>false:=X7
  constructor
  ·funext t;simp only[DH,lL,b];have:∀n,Lf ops (MQ S ns c ops s0 m0) (λ_=>false) t n=none:=by
    intro n;induction n with
    |zero=>rfl
    |succ n ih=>simp[Lf,ih]
   rw[this];rfl
  ·funext i o;simp only[DH,xG,b];have:∀n,IN (MQ S ns c ops s0 m0) (λ_=>false) i o n=none:=by
    intro n;induction n with
    |zero=>rfl
    |succ n ih=>simp[IN,ih]
   rw[this]
 |k+1,hk=>by
  obtain⟨u,y⟩:=Hj k O;have v:ops[k]?=some ops[k]:=Qc O;have s:MQ S ns c ops s0 m0 k=(BY S ops ((c+k)::ns) ops[k] (DH S ns c ops s0 m0 k).1 (DH S ns c ops s0 m0 k).2).getD ⟨.junk,[]⟩:=by
   simp only[MQ,v]
  have f:below k k=false:=by simp[below]
  have m:=rE (ops:=ops) (E:=MQ S ns c ops s0 m0) (s0:=s0) f (n:=ops.length) O (λt _ j u _ r=>by simp[below]at r;omega);have w:=rF (E:=MQ S ns c ops s0 m0) (m0:=m0) f (n:=ops.length) O (λi o _ j u _ r=>by simp[below]at r;omega);rw[OE]at m w;have z:DY ops k=(ops[k]).dst:=by simp[DY,v]
  rw[z]at m;simp only[DH,v];rw[←s,u,y,←m,←w];exact⟨rfl,rfl⟩
def Lo:∀{l:List DOper} {k:Nat} {r:Nat->D} {m':HF} {f:List MX},l=ops.drop k->Cs S ns c ops l k (DH S ns c ops s0 m0 k).1 (DH S ns c ops s0 m0 k).2=some (r,m',f)->
  (r,m')=DH S ns c ops s0 m0 (k+l.length)∧∀j o,ops[k+j]?=some o->
   BY S ops ((c+(k+j))::ns) o (DH S ns c ops s0 m0 (k+j)).1 (DH S ns c ops s0 m0 (k+j)).2=some (MQ S ns c ops s0 m0 (k+j))∧
   f[j]?=some (H3 S (DH S ns c ops s0 m0 (k+j)).1 (DH S ns c ops s0 m0 (k+j)).2 o.op,AA (MQ S ns c ops s0 m0 (k+j)).u)
 |[],k,r,m',f,hl,h=>by
  simp only[Cs,Qa,Qd]at h;obtain⟨rfl,rfl,rfl⟩:=h;refine⟨rfl,λj o v=>?_⟩;have:ops.length<=k:=by
   simp_all
  rw[Qk O]at v;cases v
 |o::l,k,r,m',f,hl,h=>by
  have na:ops[k]?=some o:=by
   have:(ops.drop k)[0]?=some o:=by rw[←hl];rfl
   rw[Qw]at this;simpa using this
  have x:l=ops.drop (k+1):=by
   have:(ops.drop k).drop 1=ops.drop (k+1):=by rw[Zo]
   rw[←this,←hl];rfl
  unfold Cs at h;split at h
  ·rename_i e y;have s:MQ S ns c ops s0 m0 k=e:=by simp only[MQ,na,y,QF]
   have z:DH S ns c ops s0 m0 (k+1)=(Cb (DH S ns c ops s0 m0 k).1 o.dst e.d,HN.app (DH S ns c ops s0 m0 k).2 e.u):=by
    grind [DH]
   split at h
   ·rename_i i n w h1;simp only[Qa,Qd]at h;obtain⟨rfl,rfl,rfl⟩:=h;obtain⟨p,q⟩:=Lo (k:=k+1) x (by rw[z];exact h1);refine⟨by rw[p];congr 1;simp;omega,λj o' a=>?_⟩;cases j with
    |zero=>
     simp only[Zj]at a ⊢;rw[na]at a;simp only[Qa]at a;subst a;refine⟨by rw[y,s],?_⟩;rw[s];rfl
    |succ j=>
     have:=q j o' (by rw[show k+1+j=k+(j+1)by omega];exact a);rw[show k+1+j=k+(j+1)by omega]at this;exact⟨this.1,by simpa using this.2⟩
   ·cases h
  ·cases h
theorem gH{P:Program}(v:HD.ok P S){op:DOp}{s:Nat->D}{m:HF}{fr:Id}{d:D}{u:HN}(h:exec S s m fr op=some (d,u)):
  (op.mayW=false->u=[])∧(op.ownW=true->∀i o,Fu u i o≠none->i=fr):=by
 have a:∀ds,∀i o,Fu [(fr,0,ds)] i o≠none->i=fr:=by
  grind [Fu]
 cases op<;>(constructor<;>intro g<;>first|(simp[DOp.mayW]at g;done)|(simp[DOp.ownW]at g;done)|skip)
 all_goals simp only[exec]at h
 case alloc zs=>simp only[Qa,Qd]at h;obtain⟨rfl,rfl⟩:=h;exact a _
 case box x=>split at h;(simp only[Qa,Qd]at h;obtain⟨rfl,rfl⟩:=h;exact a _);cases h
 case bslice=>split at h;(simp only[Qa,Qd]at h;obtain⟨rfl,rfl⟩:=h;exact a _);cases h
 case mksl=>
  split at h
  ·grind
  ·cases h
 all_goals
  repeat' (split at h)
 all_goals first
  |(simp at h;done)
  |(simp only[Qa,Qd]at h;exact h.2.symm)
  |(rw[Qb]at h;obtain⟨_,_,h⟩:=h;simp only[Qd]at h;exact h.2.symm)
def dT{op:DOp}{s:Nat->D}{m:HF}(h:op.mayR=false):H3 S s m op=[]:=by
 cases op<;>first|rfl|(simp[DOp.mayR]at h)
def yC{op:DOp}(h:op.ownW=true):op.mayR=false:=by
 cases op<;>first|rfl|(simp[DOp.ownW]at h)
def NZ{c:List (List Nat)}{j k:Nat}:Tv c j k=true↔FG c j k:=by
 simp[Tv,FG]
def aDK{P:Program}(v:HD.ok P S){da:List (List Nat)}(x:Gu (ops.map (·.after)) da=true)(hs:PQ ops da=true){s':Nat->D}{m':HF}{f:List MX}
  (he:Cs S ns c ops ops 0 s0 m0=some (s',m',f)) (hf:MN f (LV ops da)):
  aHi ops (MQ S ns c ops s0 m0) (λk=>(f.getD k ([],[])).1) (FG da):=by
 obtain⟨_,ja⟩:=Lo (k:=0) (ops:=ops) rfl he;simp only[Qu]at ja;refine⟨λj k h=>(WI x h).1,λj k t oj ok a p hk hd ht=>?_,λj k i o a p hk hl ht=>?_⟩
 ·have ra:j<ops.length:=(Qf.1 p).1;have r:k<ops.length:=(Qf.1 hk).1;have q:=Qy.1 hs j (Ql.2 ra);have h2:=Qy.1 q k (Ql.2 r);simp only[p,hk,hd]at h2;simp only[QP,beq_iff_eq,Bool.not_eq_true',QS]at h2;rcases h2 with ((h2|h2)|h2)|h2
  ·exact absurd h2 a
  ·exact .inl (NZ.1 h2)
  ·exact .inr (NZ.1 h2)
  ·simp_all
 ·by_cases hc:FG da j k∨FG da k j
  ·exact hc
  exfalso;have y:ops[j]?=some ops[j]:=Qc p;have na:ops[k]?=some ops[k]:=Qc hk;obtain⟨ej,fj⟩:=ja j _ y;obtain⟨ek,fk⟩:=ja k _ na;have n:f.getD j ([],[])=(H3 S (DH S ns c ops s0 m0 j).1 (DH S ns c ops s0 m0 j).2 ops[j].op,AA (MQ S ns c ops s0 m0 j).u):=by simp[Q0,fj]
  have d:f.getD k ([],[])=(H3 S (DH S ns c ops s0 m0 k).1 (DH S ns c ops s0 m0 k).2 ops[k].op,AA (MQ S ns c ops s0 m0 k).u):=by simp[Q0,fk]
  have wr:∀{k o e s m},BY S ops ((c+k)::ns) o s m=some e->(o.op.mayW=false->e.u=[])∧(o.op.ownW=true->∀i o',Fu e.u i o'≠none->i=(c+k)::ns):=by
   intro k o e s m h;unfold BY at h;split at h
   ·grind [gH]
   ·simp only[Qa]at h;subst h;exact⟨λ_=>rfl,λ_ i o' hl=>absurd rfl hl⟩
   ·cases h
  by_cases w:aFv (ops[j]).op (ops[k]).op=true
  ·have ua:(j,k)∈LV ops da:=by
    unfold LV;rw[Q5];refine⟨j,Ql.2 p,?_⟩;rw[List.mem_filterMap];refine⟨k,Ql.2 hk,?_⟩;simp only[y,na];have n1:Tv da j k=false:=by
     cases h:Tv da j k with
     |false=>rfl
     |true=>exact absurd (.inl (NZ.1 h)) hc
    have n2:Tv da k j=false:=by
     cases h:Tv da k j with
     |false=>rfl
     |true=>exact absurd (.inr (NZ.1 h)) hc
    have n3:(j !=k)=true:=by simpa using a
    rw[n1,n2,n3,w];rfl
   have g:=hf (j,k) ua (i,o) (by simp only;rw[n];exact look_mem hl);rcases ht with ht|ht
   ·exact g.1 ht
   ·grind [look_mem]
  ·obtain⟨w1,w2⟩:=wr ej;obtain⟨w3,w4⟩:=wr ek;have l:(ops[j]).op.mayW=true:=by
    cases h:(ops[j]).op.mayW with
    |true=>rfl
    |false=>rw[w1 h]at hl;exact absurd rfl hl
   by_cases b:(ops[k]).op.mayR=true∨(ops[k]).op.mayW=true
   ·have ka:(ops[j]).op.ownW=true∧(ops[k]).op.ownW=true:=by
     unfold aFv at w;rw[l]at w;have:((ops[k]).op.mayR||(ops[k]).op.mayW)=true:=by rcases b with h|h<;>simp[h]
     rw[this]at w;simpa using w
    have hi:=w2 ka.1 i o hl;rcases ht with ht|ht
    ·have:(ops[k]).op.mayR=false:=yC ka.2;rw[d,dT this]at ht;cases ht
    ·have z:=w4 ka.2 i o ht;rw[hi]at z;simp only[ZH,and_true]at z;omega
   ·have q:(ops[k]).op.mayR=false:=by simpa using (λh=>b (.inl h))
    have h2:(ops[k]).op.mayW=false:=by simpa using (λh=>b (.inr h))
    rcases ht with ht|ht
    ·rw[d,dT q]at ht;cases ht
    ·rw[w3 h2]at ht;exact absurd rfl ht
def RH{P:Program}(hS:HD.ok P S){u:List (List Nat)}(q:Gu (ops.map (·.after)) u=true)(n:PQ ops u=true){m:Nat->D}{m':HF}{f:List MX}
  (y:Cs S ns c ops ops 0 s0 m0=some (m,m',f)) (hf:MN f (LV ops u)) {l:List Nat} (z:kG ops (FG u) (λ_=>false) l) (hl:l.foldl ins (λ_=>false)=below ops.length):
  Dr S ns c ops l s0 m0=some (m,m'):=by
 obtain⟨a,s⟩:=Lo (k:=0) (ops:=ops) rfl y;simp only[Qu,List.drop_zero]at s a;have e:=aDK hS q n y hf;have b:=Hj (S:=S) (ns:=ns) (c:=c) (ops:=ops) (s0:=s0) (m0:=m0) 0 (ZF _);have r:below 0=λ_=>false:=X7
 rw[r]at b;simp only[DH]at b;have w:=Hj (S:=S) (ns:=ns) (c:=c) (ops:=ops) (s0:=s0) (m0:=m0) ops.length (Qi _);have d:=RR (c:=c) (ns:=ns) (s0:=s0) (m0:=m0) hS e (λk o v=>by
  have g:k<ops.length:=(Qf.1 v).1;have:=(s k o v).2;rw[(Hj k O).1,(Hj k O).2]at this;simp[Q0,this]) (λk o v=>by
  have g:k<ops.length:=(Qf.1 v).1;have:=(s k o v).1;rw[(Hj k O).1,(Hj k O).2]at this;exact this) l (λ_=>false) (λj k h _=>Xc) z
 rw[←b.1,←b.2,hl,←w.1,←w.2]at d;rw[d,←a]
end
def DOper.strip(o:DOper):DOper:={o with after:=[]}
def EK(S:HD)(ns:Id)(c:Nat)(ops:List DOper):List DOper->Nat->(Nat->D)->HF->Option ((Nat->D)×HF)
 |[],_,s,m=>some (s,m)
 |o::l,k,s,m=>match BY S ops ((c+k)::ns) o s m with
  |some e=>EK S ns c ops l (k+1) (Cb s o.dst e.d) (HN.app m e.u)
  |none=>none
def Tn(ops:List DOper)(s:Nat->D)(o:DOper):BD (ops.map DOper.strip) s o.strip=BD ops s o:=by
 grind [BD,DOper.strip]
def Pu(S:HD)(ops:List DOper)(fr:Id)(o:DOper)(s:Nat->D)(m:HF):BY S (ops.map DOper.strip) fr o.strip s m=BY S ops fr o s m:=by
 unfold BY;rw[Tn];rfl
def Lq(S:HD)(ns:Id)(c:Nat)(ops:List DOper):∀(l:List DOper)(k:Nat)(s:Nat->D)(m:HF),EK S ns c (ops.map DOper.strip) (l.map DOper.strip) k s m=EK S ns c ops l k s m
 |[],k,s,m=>rfl
 |o::l,k,s,m=>by
  simp only[Qs,EK,Pu];cases BY S ops ((c+k)::ns) o s m with
  |none=>rfl
  |some e=>simp only;exact Lq S ns c ops l (k+1) _ _
def Hu(S:HD)(ns:Id)(c:Nat)(ops:List DOper):∀(l:List DOper)(k:Nat)(s:Nat->D)(m:HF),Cs S ns c (ops.map DOper.strip) (l.map DOper.strip) k s m=Cs S ns c ops l k s m
 |[],k,s,m=>rfl
 |o::l,k,s,m=>by
  simp only[Qs,Cs,Pu];cases BY S ops ((c+k)::ns) o s m with
  |none=>rfl
  |some e=>simp only;rw[show o.strip.dst=o.dst from rfl,Hu S ns c ops l (k+1) _ _];rfl
def Lr(S:HD)(ns:Id)(c:Nat)(ops:List DOper):∀(l:List DOper)(k:Nat)(s:Nat->D)(m:HF),l=ops.drop k->EK S ns c ops l k s m=Dr S ns c ops (Zp k l.length) s m
 |[],k,s,m,_=>rfl
 |o::l,k,s,m,hl=>by
  have na:ops[k]?=some o:=by
   have:(ops.drop k)[0]?=some o:=by rw[←hl];rfl
   rw[Qw]at this;simpa using this
  have d:l=ops.drop (k+1):=by
   have:(ops.drop k).drop 1=ops.drop (k+1):=by rw[Zo]
   rw[←this,←hl];rfl
  rw[Qo,Q3];simp only[EK,Dr,na];cases BY S ops ((c+k)::ns) o s m with
  |none=>rfl
  |some e=>simp only;exact Lr S ns c ops l (k+1) _ _ d
inductive DC where
 |skip
 |ret
 |exit (i:Nat)
 |row (ops:List DOper)
 |drawn (ops:List DOper) (ps:List (Nat×Nat))
 |seq (a b:DC)
 |cond (c:HJ) (a b:DC)
 |block (i:Nat) (c:DC)
 |loop (c:DC)
def SR(ps:List (List Nat)):List (List Nat):=
 ps.foldl (λz p=>z++[(p.flatMap λj=>j::z.getD j []).eraseDups]) []
def VW(P:Program)(N:Nat)(ops:Array Oper):Option DC:=
 match DJ P N ops.toList with
 |some x=>
  if Gu (x.map (·.after)) (SR (x.map (·.after)))=true∧PQ x (SR (x.map (·.after)))=true∧F6 .any ops (Region.linearise .any ops 0)=true∧
   F6 .text ops (Region.linearise .text ops 0)=true∧F6 .gc ops (Region.linearise .gc ops 0)=true
  then some (.drawn (x.map DOper.strip) (LV x (SR (x.map (·.after)))))else none
 |none=>none
def Bh(P:Program)(N:Nat):Code->Option DC
 | .skip=>some .skip
 | .ret=>some .ret
 | .exit i=>some (.exit i)
 | .region _ ops false=>(DJ P N ops.toList).map λl=> .row (l.map DOper.strip)
 | .region _ ops true=>VW P N ops
 | .seq a b=>match Bh P N a,Bh P N b with
  |some a,some b=>some (.seq a b)
  |_,_=>none
 | .cond c a b=>match AD c,Bh P N a,Bh P N b with
  |some c,some a,some b=>some (.cond c a b)
  |_,_,_=>none
 | .block i c=>(Bh P N c).map (.block i)
 | .loop c=>(Bh P N c).map .loop
 |_=>none
structure St where
 s:Nat->D
 m:HF
 c:Nat
inductive Ex where
 |normal
 |ret
 |exit (i:Nat)
def Ex.toExit:Ex->Exit
 | .normal=> .normal
 | .ret=> .ret
 | .exit i=> .exit i
inductive Lp (R:St->Ex->St->Prop):Nat->St->Ex->St->Prop
 |stop (st:St) (e:Ex) (st':St):R st e st'->e≠ .normal->Lp R 0 st e st'
 |more (n:Nat) (st st1:St) (e:Ex) (st':St):R st .normal st1->Lp R n st1 e st'->Lp R (n+1) st e st'
def Ev(S:HD)(ns:Id):DC->St->Ex->St->Prop
 | .skip,st,e,st'=>e= .normal∧st'=st
 | .ret,st,e,st'=>e= .ret∧st'=st
 | .exit i,st,e,st'=>e= .exit i∧st'=st
 | .row ops,st,e,st'=>e= .normal∧EK S ns st.c ops ops 0 st.s st.m=some (st'.s,st'.m)∧st'.c=st.c+ops.length
 | .drawn ops ps,st,e,st'=>e= .normal∧(∃f,Cs S ns st.c ops ops 0 st.s st.m=some (st'.s,st'.m,f)∧MN f ps)∧st'.c=st.c+ops.length
 | .seq a b,st,e,st'=>∃v y,Ev S ns a st v y∧((v= .normal∧Ev S ns b y e st')∨(v≠ .normal∧e=v∧st'=y))
 | .cond c a b,st,e,st'=>(c.ev st.s= .bool true∧Ev S ns a st e st')∨(c.ev st.s= .bool false∧Ev S ns b st e st')
 | .block i c,st,e,st'=>∃v,Ev S ns c st v st'∧((v= .exit i∧e= .normal)∨(v≠ .exit i∧e=v))
 | .loop c,st,e,st'=>∃n,Lp (Ev S ns c) n st e st'
def DC.wp(S:HD)(ns:Id)(b:DC)(Q:Ex->St->Prop)(v:St):Prop:=∃e q,Ev S ns b v e q∧Q e q
def TK{P:Program}{Q:Exit->Act->World->Prop}{c:Code}(J:Nat->Act->World->Prop)
  (d:∀n a w,J n a w->c.wp P (Exit.then (λp w'=>∃k,k<n∧J k p w') Q) a w) {n:Nat} {a:Act} {w:World} (o:J n a w):(Code.loop c).wp P Q a w:=by
 intro b k cs;have y:∀n a w,J n a w->∃e p w',Q e p w'∧Arrives P (lone (b.at a (.code c:: .inLoop c::k)) cs w) b k cs e p w':=by
  intro n;induction n using ZI with
  |_ n ih=>
   intro a w q;obtain⟨e,t,u,z,i⟩:=d n a w q b (.inLoop c::k) cs;cases e with
   |normal=>
    obtain⟨r,ea,h⟩:=z;obtain⟨s,v,j,g,f⟩:=ih r ea t u h;exact⟨s,v,j,g,.of_steps (Steps.trans i (.one step_inLoop)) f⟩
   |exit id=>exact⟨_,t,u,z,.pass (x:= .inLoop c) rfl (λ_ _=> .inl U) i⟩
   |goto l=>exact⟨_,t,u,z,.pass (x:= .inLoop c) rfl (λ_ _=> .inl U) i⟩
   |ret=>exact⟨_,t,u,z,.pass (x:= .inLoop c) rfl (λ_ _=> .inl U) i⟩
   |panic m=>exact⟨_,t,u,z,.pass (x:= .inLoop c) rfl (λ_ _=> .inl U) i⟩
   |outgrown=>exact⟨_,t,u,z,.pass (x:= .inLoop c) rfl (λ_ _=> .inl U) i⟩
 obtain⟨e,p,w',z,i⟩:=y n a w o;exact⟨e,p,w',z,.of_steps (.one step_loop) i⟩
section
variable{P:Program}{B:Nat}{w0:World}{N:Nat}{ns:Id}{S:HD}
def Nq{ops:Array Oper}{b:DC}(h:VW P N ops=some b):∃x c,DJ P N ops.toList=some x∧Gu (x.map (·.after)) c=true∧PQ x c=true∧
  (∀e,F6 e ops (Region.linearise e ops 0)=true)∧b= .drawn (x.map DOper.strip) (LV x c):=by
 unfold VW at h;split at h
 ·rename_i x z;split at h
  ·rename_i d;simp only[Qa]at h;refine⟨x,_,z,d.1,d.2.1,λe=>?_,h.symm⟩;cases e
   ·exact d.2.2.2.1
   ·exact d.2.2.2.2
   ·exact d.2.2.1
  ·cases h
 ·cases h
def Holds(P:Program)(B:Nat)(w0:World)(N:Nat)(ns:Id)(v:St)(a:Act)(w:World)(g:Gh):Prop:=InS P B w0 N ns v.c v.s v.m a w g
def aA3(P:Program)(B:Nat)(w0:World)(N:Nat)(ns:Id)(v:St)(w:World)(g:Gh)(e:Ex)(q:St):Exit->Act->World->Prop:=
 λc k w'=>c=e.toExit∧∃t,Holds P B w0 N ns q k w' t∧H5 w g w' t∧E0 ns v.m g q.m t
def aA3.trans{v t q:St}{w s:World}{g z:Gh}{e:Ex}{c:Exit}{k:Act}{w':World}(p:H5 w g s z)(hk:E0 ns v.m g t.m z)(h:aA3 P B w0 N ns t s z e q c k w'):aA3 P B w0 N ns v w g e q c k w':=by
 obtain⟨u,r,y,o,j⟩:=h;exact⟨u,r,y,p.trans o,hk.trans j⟩
def Mj{ops:Array Oper}{x:List DOper}{c:List (List Nat)}(ea:DJ P N ops.toList=some x)(f:Gu (x.map (·.after)) c=true)
  (i:∀e,F6 e ops (Region.linearise e ops 0)=true) (a:Bool) (t:Nat):
  kG x (FG c) (λ_=>false) (Region.schedule a ops t)∧(Region.schedule a ops t).foldl ins (λ_=>false)=below x.length:=by
 obtain⟨hl,s⟩:=CX ea;have r:x.length=ops.size:=Xk
 have y:∀(k:Nat) o,ops[k]?=some o->(x.map (·.after)).getD k []=Uh o:=by
  intro k o v;obtain⟨d,z,j⟩:=s k o (by simpa using v);simp[Q0,z,(FQ j).2.2.1]
 rw[r];unfold Region.schedule;split
 ·exact Fv r y f (i .any) t
 ·split
  ·exact Fv r y f (i .text) (t / 2)
  ·exact Fv r y f (i .gc) (t / 2)
def aD7(hS:HD.ok P S):∀(ca:Code)(dc:DC),Bh P N ca=some dc->∀(st:St)(e:Ex)(fa:St),Ev S ns dc st e fa->∀(a:Act)(w:World)(g:Gh),Holds P B w0 N ns st a w g->
  ca.wp P (aA3 P B w0 N ns st w g e fa) a w:=by
 intro ca;induction ca with
 |skip=>
  intro dc ba st e fa aa a w g hx;simp only[Bh,Qa]at ba;subst ba;obtain⟨rfl,rfl⟩:=aa;exact wp_skip ⟨rfl,g,hx,H5.refl w g,E0.refl _ _ _⟩
 |ret=>
  intro dc ba st e fa aa a w g hx;simp only[Bh,Qa]at ba;subst ba;obtain⟨rfl,rfl⟩:=aa;exact wp_ret ⟨rfl,g,hx,H5.refl w g,E0.refl _ _ _⟩
 |exit i=>
  intro dc ba st e fa aa a w g hx;simp only[Bh,Qa]at ba;subst ba;obtain⟨rfl,rfl⟩:=aa;exact wp_exit ⟨rfl,g,hx,H5.refl w g,E0.refl _ _ _⟩
 |region id ops ta=>
  intro dc ba st e fa aa a w g hx;cases ta with
  |false=>
   simp only[Bh,Qb]at ba;obtain⟨ha,ea,rfl⟩:=ba;obtain⟨rfl,he,hc⟩:=aa;rw[Lq,Lr S ns st.c ha ha 0 _ _ rfl,←QR]at he;refine xX hS ea he hx (λa' w' g' k h2 h3=>⟨rfl,g',?_,h2,h3⟩);unfold Holds;rw[hc,QZ];exact k
  |true=>
   simp only[Bh]at ba;obtain⟨ha,da,ea,hb,hs,ka,rfl⟩:=Nq ba;obtain⟨rfl,⟨f,he,hf⟩,hc⟩:=aa;rw[Hu]at he;refine wp_region_draw (λt=>?_);obtain⟨g1,g2⟩:=Mj ea hb ka (P.follows .mixedOrders) t;have z:=RH (c:=st.c) (ns:=ns) hS hb hs he hf g1 g2;have pa:InS P B w0 N ns st.c st.s st.m a w.drew g:=⟨hx.inv.drew,λt=>(hx.slots t).ext (H5.drew w g),hx.size,hx.defers,hx.fresh⟩;refine Fk hS ea _ (λ_=>false) st.s st.m a w.drew g fa.s fa.m (OL g1) z (pa.start _) (λa' w' g' k h2 h3=>⟨rfl,g',?_,(H5.drew w g).trans h2,h3⟩);unfold Holds;rw[hc,QZ];rw[g2]at k;exact k.done
 |seq x y u va=>
  intro dc ba st e fa aa a w g hx;simp only[Bh]at ba;split at ba
  ·rename_i dx dy k h2;simp only[Qa]at ba;subst ba;obtain⟨e1,ia,d,na⟩:=aa;have za:=u dx k st e1 ia d a w g hx;refine wp_seq (wp_mono za ?_);rintro e' a' w' ⟨rfl,g',hh,b,ma⟩;rcases na with ⟨rfl,p⟩|⟨ga,rfl,rfl⟩
   ·exact wp_mono (va dy h2 ia e fa p a' w' g' hh) (λya ab oa h=>h.trans b ma)
   ·cases e with
    |normal=>exact absurd rfl ga
    |ret=>exact⟨rfl,g',hh,b,ma⟩
    |exit i=>exact⟨rfl,g',hh,b,ma⟩
  ·cases ba
 |cond c x y u va=>
  intro dc ba st e fa aa a w g hx;simp only[Bh]at ba;split at ba
  ·rename_i o dx dy h0 k h2;simp only[Qa]at ba;subst ba;have hc:=hx.slots.arg h0;rcases aa with ⟨ht,aa⟩|⟨ht,aa⟩
   ·rw[ht]at hc;exact wp_cond_true hc.bool_inv (u dx k st e fa aa a w g hx)
   ·rw[ht]at hc;exact wp_cond_false hc.bool_inv (va dy h2 st e fa aa a w g hx)
  ·cases ba
 |block i c ih=>
  intro dc ba st e fa aa a w g hx;simp only[Bh,Qb]at ba;obtain⟨o,k,rfl⟩:=ba;obtain⟨e1,d,na⟩:=aa;refine wp_block (wp_mono (ih o k st e1 fa d a w g hx) ?_);rintro e' a' w' ⟨rfl,g',hh,b,ma⟩;rcases na with ⟨rfl,rfl⟩|⟨ga,rfl⟩
  ·simp only[Ex.toExit,Exit.inBlock,if_true];exact⟨rfl,g',hh,b,ma⟩
  ·cases e with
   |normal=>exact⟨rfl,g',hh,b,ma⟩
   |ret=>exact⟨rfl,g',hh,b,ma⟩
   |exit j=>
    simp only[Ex.toExit,Exit.inBlock];rw[if_neg (λe=>ga (by rw[e]))];exact⟨rfl,g',hh,b,ma⟩
 |loop c ih=>
  intro dc ba st e fa aa a w g hx;simp only[Bh,Qb]at ba;obtain⟨o,k,rfl⟩:=ba;obtain⟨n,r⟩:=aa;refine TK (λn a' w'=>∃ia g1,Holds P B w0 N ns ia a' w' g1∧H5 w g w' g1∧E0 ns st.m g ia.m g1∧Lp (Ev S ns o) n ia e fa) ?_ ⟨st,g,hx,H5.refl w g,E0.refl _ _ _,r⟩;rintro n a1 w1 ⟨ia,g1,hh,b,ma,v⟩;cases v with
  |stop _ _ _ hr ga=>
   refine wp_mono (ih o k ia e fa hr a1 w1 g1 hh) ?_;rintro e' a' w' hp;have la:=hp.trans b ma;obtain⟨rfl,_⟩:=hp;cases e with
   |normal=>exact absurd rfl ga
   |ret=>exact la
   |exit i=>exact la
  |more n' _ ra _ _ hr ua=>
   refine wp_mono (ih o k ia .normal ra hr a1 w1 g1 hh) ?_;rintro e' a' w' ⟨rfl,g',sa,q,xa⟩;exact⟨n',Nat.lt_succ_self _,ra,g',sa,b.trans q,ma.trans xa,ua⟩
 |_=>
  intro dc ba;simp[Bh]at ba
end
def G9{xs:List D}(h:∀d∈xs,d.calm=true):∀x∈flat xs,x.calm=true:=by
 induction xs with
 |nil=>intro x hx;cases hx
 |cons d r ih=>
  intro x hx;simp only[flat,Qg]at hx;rcases hx with hx|hx
  ·exact MV (h d (Qn ..)) x hx
  ·exact ih (λd z=>h d (Qq _ z)) x hx
def iD{cs:List D}(h:(D.agg cs).calm=true):∀x∈cs,x.calm=true:=MV h
def Rep.calm_to{w w':World}{g g':Gh}{d:D}{v:Value}(h:Rep w g d v)(hc:d.calm=true)(x:∀p:Addr,p.off<g.G p.block->w'.cell? p=w.cell? p)(hG:∀b,g.G b<=g'.G b):Rep w' g' d v:=by
 induction h with
 |junk v=>exact .junk v
 |bool b=>exact .bool b
 |int k n=>exact .int k n
 |str s=>exact .str s
 |nils t=>exact .nils t
 |slice t xs a n c sz vv u y r m h5 h6 h7 h8 h9 ih=>
  have ht:t=[]:=by simpa[D.calm,D.calm1]using hc
  subst ht;refine .slice [] xs a n c sz vv u y r (λj hj=>?_) h5 (λj d z=>ih j d z (G9 h9 d (Qr z))) (λh=>QA (h7 h) (hG _)) (λh=>absurd rfl h) h9;rw[x _ Yr];exact m j hj
 |ptr i o b u=>simp[D.calm,D.calm1]at hc
 |row i n c b q u=>simp[D.calm,D.calm1]at hc
 |eptr ds a vv u y r m h5 ih=>
  refine .eptr ds a vv (λj hj=>?_) y (λj d z=>ih j d z (h5 d (Qr z))) (λh=>QA (m h) (hG _)) h5;rw[x _ Yq];exact u j hj
 |nilp=>exact .nilp
 |agg ds vs u y r ih=>exact .agg ds vs u y (λj d v z e=>ih j d v z e (iD hc d (Qr z)))
 |tup ds vs u y ih=>simp[D.calm,D.calm1]at hc
 |iface t d v u y ih=>exact .iface t d v u (ih u)
 |nili=>exact .nili
 |fn f ds vs u y ih=>
  have:ds=[]:=by simpa[D.calm,D.calm1]using hc
  subst this;exact .fn f [] vs u U
 |nilf=>exact .nilf
 |nilm=>exact .nilm
 |itp i b u=>simp[D.calm,D.calm1]at hc
def D.unR:D->D
 | .tup vs=> .tup (vs.map D.un)
 |d=>d.un
def D.calmR:D->Bool
 | .tup vs=>vs.all D.calm
 |d=>d.calm
def Rep.unR{w:World}{g:Gh}{d:D}{v:Value}(h:Rep w g d v):Rep w g d.unR v:=by
 cases d with
 |tup vs=>
  obtain⟨us,rfl,u,y⟩:=h.tup_inv;refine .tup _ us (by simp[u]) (λj d v z r=>?_);rw[Qj,Qb]at z;obtain⟨n,o,rfl⟩:=z;exact(y j n v o r).un
 |_=>exact h.un
def Rep.calmR_to{w w':World}{g t:Gh}{d:D}{v:Value}(h:Rep w g d v)(s:d.calmR=true)(x:∀p:Addr,p.off<g.G p.block->w'.cell? p=w.cell? p)(q:∀b,g.G b<=t.G b):Rep w' t d v:=by
 cases d with
 |tup vs=>
  obtain⟨us,rfl,u,y⟩:=h.tup_inv;exact .tup _ us u (λj d v z r=>(y j d v z r).calm_to (Qy.1 s d (Qr z)) x q)
 |_=>exact h.calm_to s x q
inductive RV where
 |t (n:Nat)
 |cell (k:Option Nat) (n:Nat)
def bU(m:HF)(k:Option Nat):D->Option D
 | .ptr i o=>match k with
  |none=>m i o
  |some n=>(Ag m i o n).map .agg
 |_=>none
def RV.of(s:Nat->D)(m:HF):RV->Option D
 | .t n=>some (s n)
 | .cell k n=>bU m k (s n)
def GD(s:Nat->D)(m:HF):List RV->Option (List D)
 |[]=>some []
 |r::l=>match r.of s m,GD s m l with
  |some d,some ds=>some (d::ds)
  |_,_=>none
def CB(rs:List RV)(s:Nat->D)(m:HF):Option D:=
 match GD s m rs with
 |some [d]=>some d
 |some ds=>some (.tup ds)
 |none=>none
def Mi(P:Program):List ResultVar->Option (List RV)
 |[]=>some []
 | .tmp t::r=>(Mi P r).map (.t t::·)
 | .cell a t::r=>match sS P t,Mi P r with
  |some k,some l=>some (.cell k a::l)
  |_,_=>none
section
variable{P:Program}{B:Nat}{w0 w w':World}{m:HF}{g:Gh}{s:Nat->D}{a:Act}
def dB(tmps:Array Value):ResultVar->Sem Value
 | .tmp t=>pure (tmps.getD t undef)
 | .cell a t=>do loadVar t (←asAddr (tmps.getD a undef))
def Pd(hi:HQ P B w0 m w g)(hs:Dn w g s a):∀{h:List ResultVar} {rs:List RV} {ds:List D},Mi P h=some rs->GD s m rs=some ds->
  ∃vs:List Value,(h.mapM (m:=Sem) (dB a.tmps)).run P w= .ok vs w∧vs.length=ds.length∧∀(j:Nat) d v,ds[j]?=some d->vs[j]?=some v->Rep w g d v
 |[],rs,ds,h1,h2=>by
  simp only[Mi,Qa]at h1;subst h1;simp only[GD,Qa]at h2;subst h2;exact⟨[],U,rfl,U⟩
 |x::r,rs,ds,h1,h2=>by
  have ia:∃rv f,rs=rv::f∧Mi P r=some f∧∀d,rv.of s m=some d->∃v,(dB a.tmps x).run P w= .ok v w∧Rep w g d v:=by
   cases x with
   |tmp t=>
    simp only[Mi,Qb]at h1;obtain⟨l,hl,rfl⟩:=h1;refine⟨.t t,l,rfl,hl,λd z=>?_⟩;simp only[RV.of,Qa]at z;subst z;exact⟨_,rfl,hs t⟩
   |cell y t=>
    simp only[Mi]at h1;split at h1
    ·rename_i k l u hl;simp only[Qa]at h1;subst h1;refine⟨.cell k y,l,rfl,hl,λd z=>?_⟩;simp only[RV.of]at z;unfold bU at z;split at z
     ·rename_i i o e;have hr:=hs y;rw[e]at hr;obtain⟨b,e1,hb⟩:=hr.ptr_inv;split at z
      ·obtain⟨v,c1,c2,c3⟩:=hi.cell hb z;exact⟨v,by simp[dB,e1,asAddr,Eg u c1],c3⟩
      ·rename_i n;rw[Qb]at z;obtain⟨ds,q,rfl⟩:=z;obtain⟨vs,c1,c2⟩:=hi.cells hb q;have hl:=(BM q).1;have:=EO (P:=P) (w:=w) u (ad:=⟨b,o,none⟩) (vs:=vs) (by rw[c1.1,hl]) (λj v hv=>by rw[Gk];exact c2 j v hv);exact⟨_,by simp[dB,e1,asAddr,this],aK c1⟩
     ·cases z
    ·cases h1
  obtain⟨rv,f,rfl,hl,p⟩:=ia;unfold GD at h2;split at h2
  ·rename_i d c e1 e2;simp only[Qa]at h2;subst h2;obtain⟨v,q1,q2⟩:=p d e1;obtain⟨vs,p1,p2,p3⟩:=Pd hi hs hl e2;refine⟨v::vs,?_,by simp[p2],λj d v z hv=>?_⟩
   ·simp_all
   ·grind
  ·cases h2
def dO{c:Func}{rs:List RV}{d:D}(hi:HQ P B w0 m w g)(k:Dn w g s a)(i:Mi P c.results.toList=some rs)(z:CB rs s m=some d):
  ∃v,(results c a.tmps).run P w= .ok v w∧Rep w g d v:=by
 unfold CB at z;have run:∀ds,GD s m rs=some ds->∃vs:List Value,(results c a.tmps).run P w= .ok (if h:vs.toArray.size=1 then vs.toArray[0]else .tuple vs.toArray) w∧vs.length=ds.length∧∀(j:Nat) d v,ds[j]?=some d->vs[j]?=some v->Rep w g d v:=by
  intro ds q;obtain⟨vs,t,o,f⟩:=Pd hi k i q;refine⟨vs,?_,o,f⟩;have b:results c a.tmps=(do
   let vs ←c.results.mapM (dB a.tmps)
   pure (if h:vs.size=1 then vs[0]else .tuple vs)):=by
   unfold results;congr 1
  rw[b];simp only[Sem.run_bind];rw[Zc,Sem.run_map,t];rfl
 split at z
 ·rename_i n e;simp only[Qa]at z;subst z;obtain⟨vs,t,o,f⟩:=run _ e
  match vs,o with
  |[v],_=>exact⟨v,t,f 0 _ v rfl rfl⟩
 ·rename_i ds p e;simp only[Qa]at z;subst z;obtain⟨vs,t,o,f⟩:=run _ e;refine⟨.tuple vs.toArray,?_,.tup ds vs o f⟩;rw[t,dif_neg];intro u
  match ds,p,o with
  |[],_,o=>simp at o;subst o;simp at u
  |[x],p,_=>exact p x rfl
  |x::y::r,_,o=>simp at o u;omega
 ·cases z
def HQ.less(h:HQ P B w0 m w g){m':HF}(t:∀i o d,m' i o=some d->m i o=some d):HQ P B w0 m' w g:=by
 refine⟨h.below,h.size,h.gz,h.old,λi b hi=>?_,h.inj,λi o d n x=>h.kind i o d (t _ _ _ n) x,λi e hi=>h.tok i e (t _ _ _ hi),λi1 i2 c z b y y' u f v j=>h.tinj i1 i2 c z b y y' (t _ _ _ u) (t _ _ _ f) v j,h.itr.to (λi s p e=>t _ _ _ e) λi b s p _ _ _ c z k=>⟨rfl,rfl,z,k⟩⟩;obtain⟨p,q,vs,T,a,r⟩:=h.obj i b hi;exact⟨p,q,vs,T,a,λo d n=>r o d (t _ _ _ n)⟩
def Gh.glue(g:Gh)(w:World)(G':Nat->Nat):Gh:={g with G:=λb=>if b<w.heap.size then g.G b else G' b}
def H5.glue{G':Nat->Nat}(j:∀b,w.heap.size<=b->g.G b=0)(f:Below w.heap.size w w'):H5 w g w' (g.glue w G'):=by
 refine⟨λp y=>?_,λb=>?_,λi b h=>h,rfl,λi x h=>h,f.size,λi _ h=> .inl ⟨i,h⟩,λi x h=> .inl ⟨i,x,h,rfl⟩,λk o m _ _=>(f.block k (Qe.1 m).1).trans m⟩
 ·by_cases d:p.block<w.heap.size
  ·exact f.cell d
  ·simp_all
 ·grind [Gh.glue]
def HQ.glue(h:HQ P B w0 m w g)(f:Below w.heap.size w w'){G':Nat->Nat}(hG:∀b,w'.heap.size<=b->G' b=0):HQ P B w0 m w' (g.glue w G'):=by
 have x:=H5.glue (G':=G') h.gz f;refine⟨h.below.trans (f.mono h.size),QA h.size f.size,λb a=>?_,λb k=>by simp only[Gh.glue];rw[if_pos (QO k h.size)];exact h.old b k,λi b hi=>?_,h.inj,h.kind,λi e hi=>?_,h.tinj,h.itr.to (λ_ _ _ e=>e) λi b s p _ _ _ e1 z t=>?_⟩
 rotate_right
 ·have k:b<w.heap.size:=(Qe.1 e1).1;exact⟨rfl,f.block b k,by simp[Gh.glue,k,z],t⟩
 ·simp only[Gh.glue];rw[if_neg (by have:=f.size;omega)];exact hG b a
 ·obtain⟨p,q,vs,T,y,r⟩:=h.obj i b hi;have k:=h.lt hi;refine⟨p,by simp[Gh.glue,k,q],vs,T,(f.block b k).trans y,λo d j=>?_⟩;obtain⟨v,r1,r2,r3⟩:=r o d j;exact⟨v,r1,r2,r3.ext x⟩
 ·obtain⟨b,n,c,sz,cur,u,t2,t3,t4,t5,t6,t7,t8,t9,xa⟩:=h.tok i e hi;have k:b<w.heap.size:=(Qe.1 t5).1;exact⟨b,n,c,sz,cur,u,t2,t3,t4,(f.block b k).trans t5,t6,t7,t8,by simp[Gh.glue,k,t9],xa⟩
end
structure Fn (P:Program) (f:FuncId) (N:Nat) (dc:DC) (rs:List RV):Prop where
 is:∃fn code,P.funcs[f]?=some fn∧fn.body=some code∧(fn.name== "runtime.NumGoroutine")=false∧fn.ntmps=N∧Bh P N code=some dc∧Mi P fn.results.toList=some rs
def BQ(ds:List D):Nat->D:=λt=>ds.getD t .junk
def Ac(F:List D->Option D):Il where
 rd:=λ_ _=>[]
 ex:=λds _ _=>if(ds.map D.un).all D.calm=true then(F (ds.map D.un)).map λr=>(r,[])else none
def Eo(rs:List RV)(R:D->HF->Prop)(e:Ex)(v:St):Prop:=(e= .normal∨e= .ret)∧∃d,CB rs v.s v.m=some d∧R d v.m
section
variable{P:Program}{S:HD}{f:FuncId}{N:Nat}{dc:DC}{rs:List RV}
def Ha{B:Nat}{w0 w:World}{g:Gh}{ns:Id}{m:HF}{ds:List D}{vs:List Value}(hS:HD.ok P S)(hf:Fn P f N dc rs)(hN:ds.length<=N)(hi:HQ P B w0 m w g)
  (ia:∀k i,(k::ns)<:+i->B3 m g i) (hl:vs.length=ds.length) (c:∀(j:Nat) d v,ds[j]?=some d->vs[j]?=some v->Rep w g d v) {R:D->HF->Prop}
  (za:dc.wp S ns (Eo rs R) ⟨BQ ds,m,0⟩):
  Calls P f vs.toArray w λe w'=>∃v d m' g',e= .returned v∧HQ P B w0 m' w' g'∧H5 w g w' g'∧E0 ns m g m' g'∧Rep w' g' d v∧R d m':=by
 obtain⟨fn,r,u,y,h3,h4,h5,h6⟩:=hf.is;obtain⟨e,q,z,a,d,o,hR⟩:=za;refine calls_of_wp u y ?_;rw[h4];have b:Holds P B w0 N ns ⟨BQ ds,m,0⟩ {tmps:=vs.toArray++Q9 (N-vs.toArray.size) undef,defers:=[]} w g:=by
  refine⟨hi,λt=>?_,Xb,rfl,λk i _ n=>ia k i n⟩;simp only[BQ];by_cases s:t<ds.length
  ·have e1:ds.getD t .junk=ds[t]:=by simp[Q0,s]
   have e2:(vs.toArray++Q9 (N-vs.toArray.size) undef).getD t undef=vs[t]' O:=by
    rw[Qh,QI Xb];simp[hl,s]
   rw[e1,e2];exact c t _ _ (Qc s) (Qc _)
  ·have e1:ds.getD t .junk= .junk:=by simp[Q0,Qk (Nat.le_of_not_lt s)]
   rw[e1];exact .junk _
 refine wp_mono (aD7 hS r dc h5 _ e q z _ w g b) ?_;rintro e' a' w' ⟨rfl,g',hh,p,hk⟩;obtain⟨v,la,bb⟩:=dO hh.inv hh.slots h6 o;have x:a'.defers=[]∧∃v,(results fn a'.tmps).run P w'= .ok v w'∧∃v' d m' g',Ending.returned v= .returned v'∧HQ P B w0 m' w' g'∧H5 w g w' g'∧E0 ns m g m' g'∧Rep w' g' d v'∧R d m':=
  ⟨hh.defers,v,la,v,d,q.m,g',rfl,hh.inv,p,hk,bb,hR⟩
 rcases a with rfl|rfl
 ·exact x
 ·exact x
def AO(hS:HD.ok P S)(hf:Fn P f N dc rs){F:List D->Option D}(hN:∀ds r,F ds=some r->ds.length<=N)
  (hF:∀ds r,F ds=some r->dc.wp S [] (Eo rs λd _=>d.unR=r∧r.calmR=true) ⟨BQ ds,λ_ _=>none,0⟩):(Ac F).ok P f:=by
 obtain⟨fn,ca,q,y,h3,h4,h5,h6⟩:=hf.is;refine⟨⟨fn,q,XI,h3⟩,λds m m' fr _=>rfl,?_⟩;intro B w0 w m g fr ds vs r u hi ia hl c z;simp only[Ac]at z;split at z
 ·rename_i la;rw[Qb]at z;obtain⟨r',hr,z⟩:=z;simp only[Qd]at z;obtain⟨rfl,rfl⟩:=z
  let g0:Gh:={G:=g.G,G0:=g.G,dl:=λ_=>none,tb:=λ_=>none}
  have va:HQ P w.heap.size w (λ_ _=>none) w g0:=
   ⟨Below.refl _ _,Qi _,hi.gz,λ_ _=>rfl,λi b h=>by simp[g0]at h,λi i' b h=>by simp[g0]at h,λi o d h=>Xd,λi e h=>Xd,λi i' e e' b x x' h=>Xd,λi s p h=>Xd,λi i' s p s' p' b x x' h=>Xd⟩
  have ba:∀(j:Nat) d v,(ds.map D.un)[j]?=some d->vs[j]?=some v->Rep w g0 d v:=by
   intro j d v t hv;have hc:=Qy.1 la d (Qr t);rw[Qj,Qb]at t;obtain⟨d',ra,rfl⟩:=t;exact(c j d' v ra hv).un.calm_to hc (λ_ _=>rfl) (λ_=>Qi _)
  have ja:=Ha (B:=w.heap.size) (w0:=w) (w:=w) (g:=g0) (ns:=[]) (m:=λ_ _=>none) (ds:=ds.map D.un) (vs:=vs) hS hf (hN _ _ hr) va (λk i _=>⟨λ_=>rfl,rfl,rfl⟩) Xk ba (hF _ _ hr);refine ja.mono ?_;rintro e w' ⟨v,d,m',g',rfl,n,ma,_,ab,rfl,oa⟩;have a:∀b,(g.glue w g'.G).G b=g'.G b:=by
   intro b;simp only[Gh.glue];split
   ·rename_i ea;rw[n.old b ea,ma.G0]
   ·rfl
  refine⟨v,g.glue w g'.G,rfl,hi.glue n.below n.gz,H5.glue hi.gz n.below,?_,λi hf _=>hf⟩;exact ab.unR.calmR_to oa (λ_ _=>rfl) (λb=>by rw[a];exact Qi _)
 ·cases z
def Ox(hS:HD.ok P S)(b:Fn P f N dc rs){q:Il}(z:∀ds m m' fr,(∀l∈q.rd ds m,m l.1 l.2=m' l.1 l.2)->q.ex ds m fr=q.ex ds m' fr)
  (hq:∀ds m fr r u,q.ex ds m fr=some (r,u)->(∀k i o,(k::fr)<:+i->m i o=none)->ds.length<=N∧dc.wp S fr (Eo rs λd m'=>d=r∧∀i o x,HN.app m u i o=some x->m' i o=some x) ⟨BQ ds,m,0⟩):q.ok P f:=by
 obtain⟨fn,ca,h1,h2,h3,a,p,h6⟩:=b.is;refine⟨⟨fn,h1,by rw[h2];rfl,h3⟩,z,?_⟩;intro B w0 w m g fr ds vs r u hi t hl c y;have j:∀k i,(k::fr)<:+i->B3 m g i:=λk i h=>t i ((ZD k fr).trans h)
 obtain⟨hN,za⟩:=hq ds m fr r u y (λk i o h=>(j k i h).1 o);have s:=Ha (ns:=fr) hS b hN hi j hl c za;refine s.mono ?_;rintro e w' ⟨v,d,m',g',rfl,n,ma,oa,ab,rfl,sa⟩;refine⟨v,g',rfl,n.less sa,ma,ab,λi b hn=>?_⟩;obtain⟨k1,k2,k3⟩:=oa i b hn;refine⟨λo=>?_,k2,k3⟩;cases hx:HN.app m u i o with
 |none=>rfl
 |some x=>exact absurd (k1 o) (by rw[sa i o x hx];simp)
end
inductive Tag.{u} {α:Sort u} (a:α):Type
 |mk
def Ap(p K:Prop)(_:Tag K):Prop:=p∧K
def PG(p A B:Prop)(_:Tag (A,B)):Prop:=(p->A)∧(¬p->B)
def H4{α:Type}(o:Option α)(K:α->Prop)(_:Tag K):Prop:=∃x,o=some x∧K x
def aB{p K:Prop}{t:Tag K}(h:p)(k:K):Ap p K t:=⟨h,k⟩
def aG{p A B:Prop}{t:Tag (A,B)}(h:p->A)(k:¬p->B):PG p A B t:=⟨h,k⟩
def aI{α:Type}{o:Option α}{K:α->Prop}{t:Tag K}{x:α}(h:o=some x)(k:K x):H4 o K t:=⟨x,h,k⟩
def U6{K:Prop}{t:Tag K}:Ap True K t=K:=by simp[Ap]
def aDL{A B:Prop}{t:Tag (A,B)}:PG True A B t=A:=by simp[PG]
def yR{A B:Prop}{t:Tag (A,B)}:PG False A B t=B:=by simp[PG]
theorem A4{α:Type}{x:α}{K:α->Prop}{t:Tag K}:H4 (some x) K t=K x:=by simp[H4]
def AU{α:Type}{K:α->Prop}{t:Tag K}:H4 none K t=False:=by simp[H4]
def CJ{α β:Type}{o:Option α}{f:α->β}{K:β->Prop}{t:Tag K}:H4 (o.map f) K t=H4 o (λx=>K (f x)) .mk:=by
 cases o<;>simp[H4]
def EQ{α:Type}{p:Prop}[Decidable p]{o:Option α}{K:α->Prop}{t:Tag K}:H4 (if p then o else none) K t=Ap p (H4 o K .mk) .mk:=by
 grind [H4,Ap]
def Gi{α:Type}{p:Prop}[Decidable p]{x:α}{K:α->Prop}{t:Tag K}:H4 (if p then some x else none) K t=Ap p (K x) .mk:=by
 grind [H4,Ap]
def aLt{α:Type}{p:Prop}[Decidable p]{o o':Option α}{K:α->Prop}{t:Tag K}:H4 (if p then o else o') K t=PG p (H4 o K .mk) (H4 o' K .mk) .mk:=by
 grind [H4,PG]
def MH:D->Bool->(A B:Prop)->Tag (A,B)->Prop
 | .bool b',b,A,B,_=>PG (b'=b) A B .mk
 | .tup [],_,_,B,_=>B
 |_,_,_,_,_=>False
def Sv{d:D}{b:Bool}{A B:Prop}{t:Tag (A,B)}(h:MH d b A B t):(∃z,d= .bool z∧PG (z=b) A B .mk)∨(d= .tup []∧B):=by
 cases d with
 |bool z=>exact .inl ⟨z,rfl,h⟩
 |tup l=>cases l with
  |nil=>exact .inr ⟨rfl,h⟩
  |cons _ _=>exact h.elim
 |_=>exact h.elim
def nQ{b:Bool}{A B:Prop}{t:Tag (A,B)}:MH (.tup []) b A B t=B:=rfl
def Lk{z b:Bool}{A B:Prop}{t:Tag (A,B)}:MH (.bool z) b A B t=PG (z=b) A B .mk:=rfl
def DL(ops:List DOper)(j:Nat):Option Nat:=(ops[j]?).bind (·.dst)
def Hq(s:Nat->D):Option Nat->D
 |some t=>s t
 |none=> .junk
def CS(s:Nat->D)(t:Nat):Hq s (some t)=s t:=rfl
def AC(S:HD)(s:Nat->D)(m:HF)(fr:Id)(op:DOp)(K:D->HN->Prop):Prop:=H4 (exec S s m fr op) (λx=>K x.1 x.2) .mk
def GF(S:HD)(ns:Id)(c:Nat)(ops:List DOper):List DOper->Nat->(Nat->D)->HF->(Nat->(Nat->D)->HF->Prop)->Prop
 |[],k,s,m,K=>K k s m
 |⟨dst,op,_,none⟩::l,k,s,m,K=>AC S s m ((c+k)::ns) op λd u=>GF S ns c ops l (k+1) (Cb s dst d) (HN.app m u) K
 |⟨dst,op,_,some (j,b)⟩::l,k,s,m,K=>MH (Hq s (DL ops j)) b
   (AC S s m ((c+k)::ns) op λd u=>GF S ns c ops l (k+1) (Cb s dst d) (HN.app m u) K)
   (GF S ns c ops l (k+1) (Cb s dst (.tup [])) m K) .mk
section
variable{S:HD}{ns:Id}
def Fm{c:Nat}{ops:List DOper}{K:Nat->(Nat->D)->HF->Prop}:∀(l:List DOper)(k:Nat)(s:Nat->D)(m:HF),GF S ns c ops l k s m K->∃r m',EK S ns c ops l k s m=some (r,m')∧K (k+l.length) r m'
 |[],k,s,m,h=>⟨s,m,rfl,h⟩
 |⟨dst,op,af,none⟩::l,k,s,m,h=>by
  simp only[GF,AC,H4]at h;obtain⟨⟨d,u⟩,he,h⟩:=h;obtain⟨r,m',q,y⟩:=Fm l _ _ _ h;refine⟨r,m',?_,Xv⟩;simp only[EK,BY,BD,he];exact q
 |⟨dst,op,af,some (j,b)⟩::l,k,s,m,h=>by
  simp only[GF]at h;rcases Sv h with ⟨z,e,h⟩|⟨e,h⟩
  rotate_left
  ·have a:BD ops s ⟨dst,op,af,some (j,b)⟩=some false:=by
    unfold BD;simp only;unfold DL at e;cases ho:(ops[j]?).bind (·.dst)with
    |none=>rw[ho]at e;simp[Hq]at e
    |some t=>rw[ho,CS]at e;simp only[e]
   obtain⟨r,m',q,y⟩:=Fm l _ _ _ h;refine⟨r,m',?_,Xv⟩;simp only[EK,BY,a];exact q
  ·have a:BD ops s ⟨dst,op,af,some (j,b)⟩=some (z==b):=by
    unfold BD;simp only;unfold DL at e;cases ho:(ops[j]?).bind (·.dst)with
    |none=>rw[ho]at e;simp[Hq]at e
    |some t=>rw[ho,CS]at e;simp only[e]
   by_cases f:z=b
   ·have h:=h.1 f;simp only[AC,H4]at h;obtain⟨⟨d,u⟩,he,h⟩:=h;obtain⟨r,m',q,y⟩:=Fm l _ _ _ h;refine⟨r,m',?_,Xv⟩;simp only[EK,BY,a,f,he,beq_self_eq_true];exact q
   ·have h:=h.2 f;obtain⟨r,m',q,y⟩:=Fm l _ _ _ h;refine⟨r,m',?_,Xv⟩;have:(z==b)=false:=by simpa using f
    simp only[EK,BY,a,this];exact q
def Dh{c:Nat}{ops:List DOper}{K:Nat->(Nat->D)->HF->Prop}:∀(l:List DOper)(k:Nat)(s:Nat->D)(m:HF)(r:Nat->D)(m':HF),EK S ns c ops l k s m=some (r,m')->K (k+l.length) r m'->GF S ns c ops l k s m K
 |[],k,s,m,r,m',h,hk=>by
  simp only[EK,Qa,Qd]at h;obtain⟨rfl,rfl⟩:=h;exact hk
 |⟨dst,op,af,none⟩::l,k,s,m,r,m',h,hk=>by
  rw[Qo,show k+(l.length+1)=k+1+l.length by omega]at hk;simp only[EK,BY,BD]at h;simp only[GF,AC];cases he:exec S s m ((c+k)::ns) op with
  |none=>rw[he]at h;cases h
  |some x=>rw[he]at h;exact⟨x,rfl,Dh l _ _ _ _ _ h hk⟩
 |⟨dst,op,af,some (j,b)⟩::l,k,s,m,r,m',h,hk=>by
  rw[Qo,show k+(l.length+1)=k+1+l.length by omega]at hk;simp only[EK,BY,BD]at h;simp only[GF];unfold DL;cases ho:(ops[j]?).bind (·.dst)with
  |none=>rw[ho]at h;cases h
  |some t=>
   rw[ho]at h;rw[CS];simp only at h;cases hd:s t with
   |bool z=>
    rw[hd]at h;simp only at h;rw[Lk];refine⟨λf=>?_,λf=>?_⟩
    ·subst f;simp only[beq_self_eq_true]at h;cases he:exec S s m ((c+k)::ns) op with
     |none=>rw[he]at h;cases h
     |some x=>rw[he]at h;exact⟨x,he,Dh l _ _ _ _ _ h hk⟩
    ·have:(z==b)=false:=by simpa using f
     rw[this]at h;exact Dh l _ _ _ _ _ h hk
   |tup o=>
    rw[hd]at h;cases o with
    |nil=>exact Dh l _ _ _ _ _ h hk
    |cons _ _=>cases h
   |_=>rw[hd]at h;cases h
def Ct(S:HD)(ns:Id)(c:Nat)(ops:List DOper):List DOper->Nat->(Nat->D)->HF->(Nat->(Nat->D)->HF->List MX->Prop)->Prop
 |[],k,s,m,K=>K k s m []
 |⟨dst,op,_,none⟩::l,k,s,m,K=>AC S s m ((c+k)::ns) op λd u=>Ct S ns c ops l (k+1) (Cb s dst d) (HN.app m u) λz r m' f=>K z r m' ((H3 S s m op,AA u)::f)
 |⟨dst,op,_,some (j,b)⟩::l,k,s,m,K=>MH (Hq s (DL ops j)) b
   (AC S s m ((c+k)::ns) op λd u=>Ct S ns c ops l (k+1) (Cb s dst d) (HN.app m u) λz r m' f=>K z r m' ((H3 S s m op,AA u)::f))
   (Ct S ns c ops l (k+1) (Cb s dst (.tup [])) m λz r m' f=>K z r m' ((H3 S s m op,[])::f)) .mk
def DZ{c:Nat}{ops:List DOper}:∀(l:List DOper)(k:Nat)(s:Nat->D)(m:HF)(K:Nat->(Nat->D)->HF->List MX->Prop),Ct S ns c ops l k s m K->∃r m' f,Cs S ns c ops l k s m=some (r,m',f)∧K (k+l.length) r m' f
 |[],k,s,m,K,h=>⟨s,m,[],rfl,h⟩
 |⟨dst,op,af,none⟩::l,k,s,m,K,h=>by
  simp only[Ct,AC,H4]at h;obtain⟨⟨d,u⟩,he,h⟩:=h;obtain⟨r,m',f,q,y⟩:=DZ l _ _ _ _ h;refine⟨r,m',_,?_,Xv⟩;simp only[Cs,BY,BD,he,q]
 |⟨dst,op,af,some (j,b)⟩::l,k,s,m,K,h=>by
  simp only[Ct]at h;rcases Sv h with ⟨z,e,h⟩|⟨e,h⟩
  rotate_left
  ·have a:BD ops s ⟨dst,op,af,some (j,b)⟩=some false:=by
    unfold BD;simp only;unfold DL at e;cases ho:(ops[j]?).bind (·.dst)with
    |none=>rw[ho]at e;simp[Hq]at e
    |some t=>rw[ho,CS]at e;simp only[e]
   obtain⟨r,m',f,q,y⟩:=DZ l _ _ _ _ h;refine⟨r,m',_,?_,Xv⟩;simp only[Cs,BY,a,HN.app,q];simp[AA]
  ·have a:BD ops s ⟨dst,op,af,some (j,b)⟩=some (z==b):=by
    unfold BD;simp only;unfold DL at e;cases ho:(ops[j]?).bind (·.dst)with
    |none=>rw[ho]at e;simp[Hq]at e
    |some t=>rw[ho,CS]at e;simp only[e]
   by_cases x:z=b
   ·have h:=h.1 x;simp only[AC,H4]at h;obtain⟨⟨d,u⟩,he,h⟩:=h;obtain⟨r,m',f,q,y⟩:=DZ l _ _ _ _ h;refine⟨r,m',_,?_,Xv⟩;simp only[Cs,BY,a,x,he,beq_self_eq_true,q]
   ·have h:=h.2 x;obtain⟨r,m',f,q,y⟩:=DZ l _ _ _ _ h;refine⟨r,m',_,?_,Xv⟩;have:(z==b)=false:=by simpa using x
    simp only[Cs,BY,a,this,HN.app,q];simp[AA]
def CC{c:Nat}{ops:List DOper}:∀(l:List DOper)(k:Nat)(s:Nat->D)(m:HF)(K:Nat->(Nat->D)->HF->List MX->Prop)(r:Nat->D)(m':HF)(f:List MX),Cs S ns c ops l k s m=some (r,m',f)->K (k+l.length) r m' f->Ct S ns c ops l k s m K
 |[],k,s,m,K,r,m',f,h,hk=>by
  simp only[Cs,Qa,Qd]at h;obtain⟨rfl,rfl,rfl⟩:=h;exact hk
 |⟨dst,op,af,none⟩::l,k,s,m,K,r,m',f,h,hk=>by
  rw[Qo,show k+(l.length+1)=k+1+l.length by omega]at hk;simp only[Cs,BY,BD]at h;simp only[Ct,AC];cases he:exec S s m ((c+k)::ns) op with
  |none=>rw[he]at h;cases h
  |some x=>
   rw[he]at h;obtain⟨d,u⟩:=x;simp only at h;split at h
   ·rename_i i a w e;simp only[Qa,Qd]at h;obtain⟨rfl,rfl,rfl⟩:=h;exact⟨_,rfl,CC l _ _ _ _ _ _ _ e hk⟩
   ·cases h
 |⟨dst,op,af,some (j,b)⟩::l,k,s,m,K,r,m',f,h,hk=>by
  rw[Qo,show k+(l.length+1)=k+1+l.length by omega]at hk;simp only[Cs,BY,BD]at h;simp only[Ct];unfold DL;cases ho:(ops[j]?).bind (·.dst)with
  |none=>rw[ho]at h;cases h
  |some t=>
   rw[ho]at h;rw[CS];simp only at h;cases hd:s t with
   |bool z=>
    rw[hd]at h;simp only at h;rw[Lk];refine⟨λq=>?_,λq=>?_⟩
    ·subst q;simp only[beq_self_eq_true]at h;cases he:exec S s m ((c+k)::ns) op with
     |none=>rw[he]at h;cases h
     |some x=>
      rw[he]at h;obtain⟨d,u⟩:=x;simp only at h;split at h
      ·rename_i i a w e;simp only[Qa,Qd]at h;obtain⟨rfl,rfl,rfl⟩:=h;exact⟨_,he,CC l _ _ _ _ _ _ _ e hk⟩
      ·cases h
    ·have:(z==b)=false:=by simpa using q
     rw[this]at h;simp only[HN.app]at h;split at h
     ·rename_i i a w e;simp only[Qa,Qd]at h;obtain⟨rfl,rfl,rfl⟩:=h;exact CC l _ _ _ _ _ _ _ e hk
     ·cases h
   |tup o=>
    rw[hd]at h;cases o with
    |nil=>
     simp only[HN.app]at h;split at h
     ·rename_i i a w e;simp only[Qa,Qd]at h;obtain⟨rfl,rfl,rfl⟩:=h;exact CC l _ _ _ _ _ _ _ e hk
     ·cases h
    |cons _ _=>cases h
   |_=>rw[hd]at h;cases h
def aIr(S:HD)(ns:Id)(b:DC)(Q:Ex->St->Prop):Ex->St->Prop
 | .normal,st=>b.wp S ns Q st
 |e,st=>Q e st
def SP(i:Nat)(Q:Ex->St->Prop):Ex->St->Prop
 | .exit j,st=>if j=i then Q .normal st else Q (.exit j) st
 |e,st=>Q e st
def uJ:D->(A B:Prop)->Tag (A,B)->Prop
 | .bool b,A,B,_=>PG (b=true) A B .mk
 |_,_,_,_=>False
def MT{b:Bool}{A B:Prop}{t:Tag (A,B)}:uJ (.bool b) A B t=PG (b=true) A B .mk:=rfl
variable{Q:Ex->St->Prop}{st:St}
def cY{b:DC}:aIr S ns b Q .normal st=b.wp S ns Q st:=rfl
def aBO{b:DC}:aIr S ns b Q .ret st=Q .ret st:=rfl
def xN{b:DC}{i:Nat}:aIr S ns b Q (.exit i) st=Q (.exit i) st:=rfl
def Tu{i:Nat}:SP i Q .normal st=Q .normal st:=rfl
def pJ{i:Nat}:SP i Q .ret st=Q .ret st:=rfl
theorem EL{i j:Nat}:SP i Q (.exit j) st=if j=i then Q .normal st else Q (.exit j) st:=rfl
def aBo:DC.skip.wp S ns Q st=Q .normal st:=by
 apply propext;exact⟨λ⟨e,q,⟨u,y⟩,h⟩=>X_,λh=>⟨_,_,⟨rfl,rfl⟩,h⟩⟩
def aHV:DC.ret.wp S ns Q st=Q .ret st:=by
 apply propext;exact⟨λ⟨e,q,⟨u,y⟩,h⟩=>X_,λh=>⟨_,_,⟨rfl,rfl⟩,h⟩⟩
def aBq{i:Nat}:(DC.exit i).wp S ns Q st=Q (.exit i) st:=by
 apply propext;exact⟨λ⟨e,q,⟨u,y⟩,h⟩=>X_,λh=>⟨_,_,⟨rfl,rfl⟩,h⟩⟩
def aHT{a b:DC}:(DC.seq a b).wp S ns Q st=a.wp S ns (aIr S ns b Q) st:=by
 apply propext;constructor
 ·rintro⟨e,q,⟨e1,st1,h1,y⟩,h⟩;refine⟨e1,st1,h1,?_⟩;rcases y with ⟨rfl,y⟩|⟨w,rfl,rfl⟩
  ·exact⟨e,q,y,h⟩
  ·cases e with
   |normal=>exact absurd rfl w
   |ret=>exact h
   |exit i=>exact h
 ·rintro⟨e1,st1,h1,h⟩;cases e1 with
  |normal=>obtain⟨e,q,y,h⟩:=h;exact⟨e,q,⟨.normal,st1,h1,.inl ⟨rfl,y⟩⟩,h⟩
  |ret=>exact⟨.ret,st1,⟨.ret,st1,h1,.inr ⟨U,rfl,rfl⟩⟩,h⟩
  |exit i=>exact⟨.exit i,st1,⟨.exit i,st1,h1,.inr ⟨U,rfl,rfl⟩⟩,h⟩
def wV{i:Nat}{a:DC}(h:a.wp S ns (SP i Q) st):(DC.block i a).wp S ns Q st:=by
 obtain⟨e,q,u,h⟩:=h;cases e with
 |normal=>exact⟨_,q,⟨.normal,u,.inr ⟨U,rfl⟩⟩,h⟩
 |ret=>exact⟨_,q,⟨.ret,u,.inr ⟨U,rfl⟩⟩,h⟩
 |exit j=>
  by_cases z:j=i
  ·rw[EL,if_pos z]at h;exact⟨_,q,⟨.exit j,u,.inl ⟨by rw[z],rfl⟩⟩,h⟩
  ·rw[EL,if_neg z]at h;exact⟨_,q,⟨.exit j,u,.inr ⟨by simp[z],rfl⟩⟩,h⟩
def aBr{c:HJ}{a b:DC}(h:uJ (c.ev st.s) (a.wp S ns Q st) (b.wp S ns Q st) .mk):(DC.cond c a b).wp S ns Q st:=by
 unfold uJ at h;split at h
 ·rename_i t e;cases t with
  |true=>obtain⟨m,q,u,y⟩:=h.1 rfl;exact⟨m,q,.inl ⟨e,u⟩,y⟩
  |false=>obtain⟨m,q,u,y⟩:=h.2 U;exact⟨m,q,.inr ⟨e,u⟩,y⟩
 ·exact h.elim
def aHU{ops:List DOper}(h:GF S ns st.c ops ops 0 st.s st.m λk s m=>Q .normal ⟨s,m,st.c+k⟩):(DC.row ops).wp S ns Q st:=by
 obtain⟨r,m',u,y⟩:=Fm _ _ _ _ h;rw[Qu]at y;exact⟨.normal,_,⟨rfl,u,rfl⟩,y⟩
def wU{ops:List DOper}{ps:List (Nat×Nat)}(h:Ct S ns st.c ops ops 0 st.s st.m λk s m f=>Ap (MN f ps) (Q .normal ⟨s,m,st.c+k⟩) .mk):(DC.drawn ops ps).wp S ns Q st:=by
 obtain⟨r,m',f,u,y⟩:=DZ _ _ _ _ _ h;rw[Qu]at y;exact⟨.normal,_,⟨rfl,⟨f,u,y.1⟩,rfl⟩,y.2⟩
def cA{i:Nat}{a:DC}:(DC.block i a).wp S ns Q st=a.wp S ns (SP i Q) st:=by
 refine propext ⟨?_,wV⟩;rintro⟨e,st',⟨e1,h1,h2⟩,h⟩;refine⟨e1,st',h1,?_⟩;rcases h2 with ⟨rfl,rfl⟩|⟨w,rfl⟩
 ·grind [EL]
 ·cases e with
  |normal=>exact h
  |ret=>exact h
  |exit j=>rw[EL,if_neg (λx=>w (by rw[x]))];exact h
def kZ{c:HJ}{a b:DC}:(DC.cond c a b).wp S ns Q st=uJ (c.ev st.s) (a.wp S ns Q st) (b.wp S ns Q st) .mk:=by
 refine propext ⟨?_,aBr⟩;rintro⟨e,st',u,h2⟩;rcases u with ⟨o,u⟩|⟨o,u⟩
 ·rw[o,MT];exact ZP (λ_=>⟨e,st',u,h2⟩) (λx=>absurd rfl x)
 ·rw[o,MT];exact ZP (λ(x:false=true)=>absurd x V) (λ_=>⟨e,st',u,h2⟩)
def wT{ops:List DOper}:(DC.row ops).wp S ns Q st=GF S ns st.c ops ops 0 st.s st.m λk s m=>Q .normal ⟨s,m,st.c+k⟩:=by
 refine propext ⟨?_,aHU⟩;rintro⟨e,⟨s',m',c'⟩,⟨rfl,h1,h2⟩,h3⟩;refine Dh _ _ _ _ _ _ h1 ?_;simp only at h2;rw[Qu,←h2];exact h3
def bZ{ops:List DOper}{ps:List (Nat×Nat)}:(DC.drawn ops ps).wp S ns Q st=Ct S ns st.c ops ops 0 st.s st.m λk s m f=>Ap (MN f ps) (Q .normal ⟨s,m,st.c+k⟩) .mk:=by
 refine propext ⟨?_,wU⟩;rintro⟨e,⟨s',m',c'⟩,⟨rfl,⟨f,h1,hf⟩,h2⟩,h3⟩;refine CC _ _ _ _ _ _ _ _ h1 ⟨hf,?_⟩;simp only at h2;rw[Qu,←h2];exact h3
def eV(S:HD)(ns:Id)(c:DC)(Q:Ex->St->Prop):Ex->St->Prop
 | .normal,st=>(DC.loop c).wp S ns Q st
 |e,st=>Q e st
def A9(S:HD)(ns:Id)(c:DC)(Q:Ex->St->Prop)(v:St)(_:Tag (S,ns,c,Q,v)):Prop:=(DC.loop c).wp S ns Q v
def kY{c:DC}:(DC.loop c).wp S ns Q st=A9 S ns c Q st .mk:=rfl
def V1{c:DC}:eV S ns c Q .normal st=(DC.loop c).wp S ns Q st:=rfl
def yL{c:DC}:eV S ns c Q .ret st=Q .ret st:=rfl
def mT{c:DC}{i:Nat}:eV S ns c Q (.exit i) st=Q (.exit i) st:=rfl
def aBp{c:DC}(h:c.wp S ns (eV S ns c Q) st):(DC.loop c).wp S ns Q st:=by
 obtain⟨e,q,u,h⟩:=h;cases e with
 |normal=>obtain⟨z,o,⟨n,y⟩,h⟩:=h;exact⟨z,o,⟨n+1,.more n _ _ _ _ u y⟩,h⟩
 |ret=>exact⟨.ret,q,⟨0,.stop _ _ _ u U⟩,h⟩
 |exit i=>exact⟨.exit i,q,⟨0,.stop _ _ _ u U⟩,h⟩
def M_{b:DC}{c:Ex->St->Prop}(h:b.wp S ns Q st)(z:∀e q,Q e q->c e q):b.wp S ns c st:=by
 obtain⟨e,q,u,y⟩:=h;exact⟨e,q,u,z _ _ y⟩
end
def xL{s:Nat->D}{t c:Nat}{d:D}:Cb s (some t) d c=if c=t then d else s c:=rfl
def xM{s:Nat->D}{d:D}:Cb s none d=s:=rfl
def bK{s:Nat->D}{n:Nat}:(HJ.t n).ev s=s n:=rfl
def bL{s:Nat->D}{d:D}:(HJ.c d).ev s=d:=rfl
end Go.Vd
end
