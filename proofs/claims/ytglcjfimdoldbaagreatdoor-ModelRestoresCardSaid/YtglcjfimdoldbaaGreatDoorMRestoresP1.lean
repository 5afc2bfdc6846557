/- A part of the proof; nothing in it is assumed. -/
import Derived.Maps.AppendAt
import Derived.RangeFuncOwn
import Derived.Laws.Concat
import Derived.Laws.Unary
import Derived.Laws.Runes
import Derived.Laws.AppendOwnNone
import Derived.Lib.ConvBytes
import Derived.Lib.AppendStr
import Derived.Laws.IdiomStrings

set_option linter.unusedSimpArgs false
set_option linter.unusedVariables false
set_option linter.defProp false
set_option maxHeartbeats 4000000
set_option maxRecDepth 100000
open Option.some renaming injEq→Qh,inj→QR
open Option renaming map_eq_some_iff→Qi,getD_some→QM,map_some→Q3,isSome_iff_exists→Zl,bind_eq_some_iff→Zp,bind_some→ZL,map_none→ZN
open List renaming getElem?_eq_getElem→Qj,getElem?_eq_some_iff→Qm,mem_append→Qn,getElem?_map→Qq,getElem?_eq_none→Qr,mem_range→Qs,getElem?_append_left→Qt,mem_cons_self→Qu,getElem?_take_of_lt→Qv,mem_cons_of_mem→Qw,mem_of_getElem?→Qx,map_cons→Qy,length_cons→Qz,range→QA,mem_map→QC,getElem?_drop→QD,mem_of_mem_drop→QE,all_eq_true→QF,replicate→QG,mem_of_mem_take→QJ,getElem?_cons_zero→QL,getElem?_append_right→QN,getElem?_toArray→QQ,append_assoc→QS,eq_nil_of_length_eq_zero→QU,range_eq_range'→QY,extract_eq_take_drop→Q0,map_congr_left→Q2,length_map→Q4,mem_singleton→Q5,getD→Q6,getElem_mem→Q7,cons_append→Q8,range'_succ→Q9,mem_flatMap→Zb,filter_cons→Zc,extract_toArray→Zd,foldl_cons→Ze,getElem_of_mem→Zg,flatMap_cons→Zj,length_take→Zm,getElem?_cons_succ→Zn,map_nil→Zr,nil_append→Zs,mem_filter→Zt,contains_iff_mem→Zu,drop_drop→Zv,range'→Zw,getElem?_range→Zx,length_take_le→Zy,getElem?_take→ZA,length_append→ZB,size_toArray→ZF,ext_getElem?→ZG,map_toArray→ZI,suffix_cons→ZK,length→ZS,foldlM→ZU
open Prod.mk renaming injEq→Qk
open Array renaming getElem?_eq_some_iff→Ql,getD_eq_getD_getElem?→Qo,toArray_toList→QK,getElem?_append_left→QP,toList_map→QT,length_toList→Q1,toList_inj→Za,replicate→Zf,mapM_eq_mapM_toList→Zi,size_append→ZE,all_eq_true→ZH,range→ZT
open Nat renaming le_refl→Qp,zero_add→QB,le_trans→QH,mul_le_mul_right→QI,lt_of_lt_of_le→QV,add_mul→QX,add_right_cancel_iff→Zk,add_zero→Zq,lt_or_ge→ZC,succ_mul→ZD,le_add_right→ZJ,zero_le→ZM,strongRecOn→ZP,mod_lt→ZQ,mul_comm→ZR,not_lt→ZV
open Bool renaming false_eq_true→QO,or_eq_true→QW,or_eq_false_iff→QZ,and_eq_true→Q_,not_false→Zh,not_true→Zz
open Int renaming eq_ofNat_of_zero_le→Zo
open List.cons renaming injEq→ZO
open And renaming intro→ZW
noncomputable section
namespace Go
def O{P:Prop}(h:P:=by omega):P:=h
def U{P:Prop}(h:P:=by simp):P:=h
def Z{P:Prop}(h:P:=by decide):P:=h
def Xa{P:Prop}(h:P:=by kernel_rfl):P:=h
def Xb{P:Prop}(h:P:=by first|omega|(simp only;omega)):P:=h
def Xc{P:Prop}(h:P:=by simp;omega):P:=h
def Xd{P:Prop}(h:P:=by cases h):P:=h
def Xe{P:Prop}(h:P:=by simp[Ap,An,GZ,Ag,Ac,GW.ev,AG]):P:=h
def Xf{P:Prop}(h:P:=by simp at h):P:=h
def Xg{P:Prop}(h:P:=by rw[Hg (by omega) (by omega)];omega):P:=h
def Xh{P:Prop}(h:P:=by simp only[Tr.wgt];omega):P:=h
def Xi{P:Prop}(h:P:=by simp only[Tr.cnt];omega):P:=h
def Xj{P:Prop}(h:P:=by decide+kernel):P:=h
def Xk{P:Prop}(h:P:=by cases t<;>rfl):P:=h
def Xl{P:Prop}(h:P:=by simp[Gh.tok]):P:=h
def Xm{P:Prop}(h:P:=by simp[AQ]):P:=h
def Xn{P:Prop}(h:P:=by rw[List.length_take];omega):P:=h
def Xo{P:Prop}(h:P:=by simpa using hl):P:=h
def Xp{P:Prop}(h:P:=by simpa using h):P:=h
def Xq{P:Prop}(h:P:=by simp[Op.equalIn,run_underlying a]):P:=h
def Xr{P:Prop}(h:P:=by simp only[g];omega):P:=h
def Xs{P:Prop}(h:P:=by rw[List.length_take,List.length_drop];omega):P:=h
def Xt{P:Prop}(h:P:=by unfold maxLen;omega):P:=h
def Xu{P:Prop}(h:P:=by rw[List.length_cons,show k+(l.length+1)=k+1+l.length by omega];exact q):P:=h
def Xv{P:Prop}(h:P:=by cases f):P:=h
def Xw{P:Prop}(h:P:=by cases e):P:=h
def Xx{P:Prop}(h:P:=by simp[Ap,An,GZ,Ag,Ac,GW.ev,AG,h4,r]):P:=h
def Xy{P:Prop}(h:P:=by simp[Ap,An,GZ,Ag,Ac,GW.ev,AG,h2,ba,h5,ta,w,i]):P:=h
def Xz{P:Prop}(h:P:=by simp[Ap,An,GZ,Ag,Ac,GW.ev,AG,b,a]):P:=h
def XA{P:Prop}(h:P:=by rw[List.length_append,List.length_singleton];omega):P:=h
def XB{P:Prop}(h:P:=by cases l<;>rfl):P:=h
def XC{P:Prop}(h:P:=by cases h;rfl):P:=h
def XD{P:Prop}(h:P:=by simpa using q):P:=h
def XE{P:Prop}(h:P:=by simpa using o):P:=h
def XF{P:Prop}(h:P:=by simp[sc0]):P:=h
def XG{P:Prop}(h:P:=by simp[Gh.base]at h):P:=h
def XH{P:Prop}(h:P:=by simp[A2]):P:=h
def XI{P:Prop}(h:P:=by simp; omega):P:=h
def XJ{P:Prop}(h:P:=by simp only[↓GQ,reduceIte,Nat.reduceEqDiff,d]):P:=h
def XK{P:Prop}(h:P:=by rw[←u]):P:=h
def XL{P:Prop}(h:P:=by rw[q];rfl):P:=h
def XN{P:Prop}(h:P:=by rw[List.length_drop];omega):P:=h
def XO{P:Prop}(h:P:=by rw[Bd,AC];exact⟨rfl,hl⟩):P:=h
def XP{P:Prop}(h:P:=by cases s):P:=h
def XQ{P:Prop}(h:P:=by simpa using u):P:=h
def XS{P:Prop}(h:P:=by simpa using d):P:=h
def XT{P:Prop}(h:P:=by simp[flat]):P:=h
def XU{P:Prop}(h:P:=by simp[GV.put]):P:=h
def XV{P:Prop}(h:P:=by rw[List.length_drop];exact Nat.le_refl _):P:=h
def XX{P:Prop}(h:P:=by funext j;simp[below]):P:=h
def XY{P:Prop}(h:P:=by simpa using y):P:=h
def XZ{P:Prop}(h:P:=by simpa using w):P:=h
def X0{P:Prop}(h:P:=by simp[World.setRow]):P:=h
def X1{P:Prop}(h:P:=by simp[ByteArray.size]):P:=h
def X2{P:Prop}(h:P:=by simp[Ap,An,GZ,Ag,Ac,GW.ev,AG,h4,ta,d,b]):P:=h
def X3{P:Prop}(h:P:=by simp[Ap,An,GZ,Ag,Ac,GW.ev,AG,h4,h5]):P:=h
def X6{P:Prop}(h:P:=by simp[Ap,An,GZ,Ag,Ac,GW.ev,AG,h2,h4,h5,ta,w,ha,eb,za,v]):P:=h
def X7{P:Prop}(h:P:=by simp only[Fl];decide):P:=h
def X8{P:Prop}(h:P:=by simp only[AF,exec];rw[CQ]):P:=h
def X9{P:Prop}(h:P:=by rw[show l.length=j by omega];exact I):P:=h
def X_{P:Prop}(h:P:=by rw[List.mem_singleton.1 j];decide):P:=h
def Ya{P:Prop}(h:P:=by rw[List.all_eq_true];intro x f;obtain⟨y,_,rfl⟩:=List.mem_map.1 f;rfl):P:=h
def Yb{P:Prop}(h:P:=by rw[IntWalk.i64_in _ ⟨by omega,by omega⟩];omega):P:=h
def Yc{P:Prop}(h:P:=by rw[BA];omega):P:=h
def Yd{P:Prop}(h:P:=by rw[AD];exact hl):P:=h
def Ye{P:Prop}(h:P:=by rw[A5];omega):P:=h
def Yf{P:Prop}(h:P:=by have:=hB.len;omega):P:=h
def Yg{P:Prop}(h:P:=by have:=ZZ.out;omega):P:=h
def Yh{P:Prop}(h:P:=by subst u q;exact h):P:=h
def Yi{P:Prop}(h:P:=by simp[execOp,hop,e1]):P:=h
def Yj{P:Prop}(h:P:=by simp[World.setCell]):P:=h
def Yk{P:Prop}(h:P:=by simp[Gh.bare]at h):P:=h
def Yl{P:Prop}(h:P:=by simp[Builtin.lenOf]):P:=h
def Ym{P:Prop}(h:P:=by simp[Ap,An,GZ,Ag,Ac,GW.ev,AG,w]):P:=h
def Yn{P:Prop}(h:P:=by simp only[];rw[Ea,if_pos ⟨rfl,rfl⟩]):P:=h
def Yo{P:Prop}(h:P:=by simp only[Option.some.injEq]at h;subst h;exact⟨rfl,by simp⟩):P:=h
def Yp{P:Prop}(h:P:=by simp only[List.length_map];omega):P:=h
def Yq{P:Prop}(h:P:=by simp only[List.length_cons];omega):P:=h
def Yr{P:Prop}(h:P:=by show(0:Int)<=((Ia (BY x 58).2.1).1:Int);omega):P:=h
def Ys{P:Prop}(h:P:=by rw[pa];exact h.size):P:=h
def Yt{P:Prop}(h:P:=by rw[pa];exact h.below.size):P:=h
def Yu{P:Prop}(h:P:=by rw[e];exact List.suffix_refl _):P:=h
def Yv{P:Prop}(h:P:=by rw[e];exact List.suffix_cons _ _):P:=h
def Yw{P:Prop}(h:P:=by rw[List.length_take];simp;omega):P:=h
def Yx{P:Prop}(h:P:=by rw[List.length_map];intro i hi;exact ka i (by omega)):P:=h
def Yy{P:Prop}(h:P:=by rw[IntWalk.i64_in _ ⟨by omega,by omega⟩];simp):P:=h
def Yz{P:Prop}(h:P:=by rw[EU z];exact hx):P:=h
def YA{P:Prop}(h:P:=by rw[Bool.eq_iff_iff];simp;omega):P:=h
def YB{P:Prop}(h:P:=by rw[B8,Dr];have:=h7 (by omega);omega):P:=h
def YC{P:Prop}(h:P:=by intro e h;cases h):P:=h
def YD{P:Prop}(h:P:=by have:=h.size;simp;omega):P:=h
def YE{P:Prop}(h:P:=by have:=h.1;have:=h.2;omega):P:=h
def YF{P:Prop}(h:P:=by first|exact i.grow|exact(i.put (by omega)).grow|exact((i.put (by omega)).put (by omega)).grow|exact(((i.put (by omega)).put (by omega)).put (by omega)).grow|exact((((i.put (by omega)).put (by omega)).put (by omega)).put (by omega)).grow|exact(((((i.put (by omega)).put (by omega)).put (by omega)).put (by omega)).put (by omega)).grow):P:=h
def YG{P:Prop}(h:P:=by simpa using (List.mem_filter.1 f).2):P:=h
def YH{P:Prop}(h:P:=by simp[results,Tryz.results38,go_sem,wa,World.cell?]):P:=h
def YI{P:Prop}(h:P:=by simp[List.map_map,Function.comp_def]):P:=h
def YJ{P:Prop}(h:P:=by simp[IntKind.wrap,IntKind.bits,IntKind.signed]):P:=h
def YK{P:Prop}(h:P:=by simp[Ap,An,GZ,Ag,Ac,GW.ev,AG,q,ta]):P:=h
def YL{P:Prop}(h:P:=by simp[Ap,An,GZ,Ag,Ac,GW.ev,AG,k,m,j,h,c,e,g,f,a,n,o,u]):P:=h
def YM{P:Prop}(h:P:=by simp[Ap,An,GZ,Ag,Ac,GW.ev,AG,g4,j]):P:=h
def YN{P:Prop}(h:P:=by simp only[lO,D.dep.D.depL,D.dep,Lf];omega):P:=h
def YO{P:Prop}(h:P:=by simp only[List.length_map];have:=CB (q:=44) s;omega):P:=h
def YP{P:Prop}(h:P:=by simp only[List.length_cons]at h;omega):P:=h
def YQ{P:Prop}(h:P:=by simp only[List.length_cons,List.length_nil];omega):P:=h
def YR{P:Prop}(h:P:=by simp only[List.length_append,List.length_cons,List.length_nil];omega):P:=h
def YS{P:Prop}(h:P:=by simp only[List.length_append,BA,Lu];omega):P:=h
def YT{P:Prop}(h:P:=by simp only[List.length_append,BA,Iq];omega):P:=h
def YU{P:Prop}(h:P:=by show(BY x 58).1.length<=1000;omega):P:=h
def YV{P:Prop}(h:P:=by show((Ia (BY x 58).2.1).1:Int)<256;omega):P:=h
def YW{P:Prop}(h:P:=by rw[qa]at e;exact List.length_eq_zero_iff.1 (of_decide_eq_true e)):P:=h
def YX{P:Prop}(h:P:=by rw[hR];unfold CA;rw[if_pos (by omega)]):P:=h
def YY{P:Prop}(h:P:=by rw[b]at h;rw[of_decide_eq_true h];rfl):P:=h
def YZ{P:Prop}(h:P:=by rw[Wz (by decide) (λr j=>by rw[List.mem_singleton.1 j];decide)];rfl):P:=h
def Y0{P:Prop}(h:P:=by rw[List.isEmpty_iff]at h;rw[h];rfl):P:=h
def Y1{P:Prop}(h:P:=by rw[List.eq_of_mem_replicate hd];exact f):P:=h
def Y2{P:Prop}(h:P:=by rw[List.drop_eq_getElem_cons (by omega),List.drop_eq_getElem_cons (by omega:p+1<s.length)]):P:=h
def Y3{P:Prop}(h:P:=by rw[Int.add_zero];exact Hg (by omega) (by omega)):P:=h
def Y4{P:Prop}(h:P:=by rw[HV (by decide) (λr j=>by rw[List.mem_singleton.1 j];decide) (by decide) (by decide)];rfl):P:=h
def Y5{P:Prop}(h:P:=by rw[B8,Dr];have:=h4 (by omega);omega):P:=h
def Y6{P:Prop}(h:P:=by rw[Am,List.map_map];exact List.map_congr_left λ_ _=>rfl):P:=h
def Y7{P:Prop}(h:P:=by rintro rfl;rw[hf.1 0]at hm;cases hm):P:=h
def Y8{P:Prop}(h:P:=by obtain⟨z,_,rfl⟩:=List.mem_map.1 f;rfl):P:=h
def Y9{P:Prop}(h:P:=by have:=h.2;rw[hb]at this;cases this):P:=h
def Y_{P:Prop}(h:P:=by have:=(six[k]?.getD 0).toNat_lt;omega):P:=h
def Or{P:Prop}(h:P:=by first|exact hG.grow|exact(hG.put (by omega)).grow|exact((hG.put (by omega)).put (by omega)).grow|exact(((hG.put (by omega)).put (by omega)).put (by omega)).grow|exact((((hG.put (by omega)).put (by omega)).put (by omega)).put (by omega)).grow|exact(((((hG.put (by omega)).put (by omega)).put (by omega)).put (by omega)).put (by omega)).grow):P:=h
def Qa{P:Prop}(h:P:=by first|exact hG.grow|exact hG.put.grow|exact hG.put.put.grow|exact hG.put.put.put.grow|exact hG.put.put.put.put.grow|exact hG.put.put.put.put.put.grow):P:=h
def Qb{P:Prop}(h:P:=by first|exact hG.app (by omega) (by simp only;omega)|exact hG.put.app (by omega) (by simp only;omega)|exact hG.put.put.app (by omega) (by simp only;omega)|exact hG.put.put.put.app (by omega) (by simp only;omega)|exact hG.put.put.put.put.app (by omega) (by simp only;omega)|exact hG.put.put.put.put.put.app (by omega) (by simp only;omega)):P:=h
def Qc{P:Prop}(h:P:=by cases y<;>exact⟨_,_,_,_,_,_,_,_,_,_,rfl⟩):P:=h
def Qd{P:Prop}(h:P:=by first|rfl|exact⟨rfl,rfl⟩|simp[*]):P:=h
def Qe{P:Prop}(h:P:=by first|rfl|exact⟨rfl,rfl⟩):P:=h
def Qf{P:Prop}(h:P:=by first|(simp at h;done)|(rw[Option.map_eq_some_iff]at h;obtain⟨_,_,h⟩:=h;cases h)):P:=h
def Qg{P:Prop}(h:P:=by exact⟨rfl,rfl⟩):P:=h
end Go
namespace Go.Vd
open Go.RowKit
abbrev Id:=List Nat
inductive D where
 |junk
 |bool (b:Bool)
 |int (k:IntKind) (n:Int)
 |str (s:List UInt8)
 |slice (nl:Bool) (t:Id) (xs:List D)
 |ptr (i:Id) (o:Nat)
 |eptr (ds:List D)
 |row (i:Id) (n:Nat)
 |nilptr
 |agg (cs:List D)
 |tup (vs:List D)
 |iface (t:TypeId) (d:D)
 |nilIface
 |fn (f:FuncId) (caps:List D)
 |nilFunc
 |nilMap
 |tok (e:Nat)
 |it (s:List UInt8) (p:Nat)
 |itp (i:Id)
instance:Inhabited D:=⟨.junk⟩
def D.leaf:D->Bool
 | .agg _| .tup _| .junk| .tok _| .it _ _=>false
 |_=>true
def D.gh:D->Bool
 | .tok _| .it _ _=>true
 |_=>false
def D.isRw:D->Bool
 | .nilIface| .str []=>true
 |_=>false
def D.cells:D->List D
 | .agg cs=>cs
 |d=>[d]
def D.un1:D->D
 | .slice nl _ xs=> .slice nl [] xs
 |d=>d
def D.un:D->D
 | .agg cs=> .agg (cs.map D.un1)
 | .slice nl _ xs=> .slice nl [] xs
 |d=>d
def D.calm1:D->Bool
 | .slice _ t _=>t.isEmpty
 | .ptr _ _| .row _ _| .itp _| .it _ _=>false
 | .fn _ cs=>cs.isEmpty
 | .agg _| .tup _=>false
 |_=>true
def D.calm:D->Bool
 | .agg cs=>cs.all D.calm1
 |d=>d.calm1
def flat:List D->List D
 |[]=>[]
 |x::xs=>x.cells++flat xs
structure Gh where
 G:Nat->Nat
 G0:Nat->Nat
 dl:Id->Option Nat
 tb:Id->Option (Nat×Nat×Nat×Nat)
inductive Rep (w:World) (g:Gh):D->Value->Prop
 |junk (v:Value):Rep w g .junk v
 |bool (b:Bool):Rep w g (.bool b) (.bool b)
 |int (k:IntKind) (n:Int):Rep w g (.int k n) (.int k n)
 |str (s:List UInt8):Rep w g (.str s) (.string ⟨s.toArray⟩)
 |nils (t:Id):Rep w g (.slice true t []) (.slice none 0 0)
 |slice (t:Id) (xs:List D) (a:Addr) (n c sz:Nat) (vv:Nat->Value):
   n=xs.length->n<=c->(∀d∈xs,d.cells.length=sz)->
   (∀j,j<n*sz->w.cell? (a.add j)=some (vv j))->
   (∀j,j<n*sz->(vv j).oneCell'=true)->
   (∀(j:Nat) d,(flat xs)[j]?=some d->Rep w g d (vv j))->
   (0<n*sz->a.off+n*sz<=g.G a.block)->
   (t≠[]->a.off=0∧a.spot=none∧g.tb t=some (a.block,n,c,sz))->(∀d∈xs,d.calm=true)->
   Rep w g (.slice false t xs) (.slice (some a) n c)
 |ptr (i:Id) (o b:Nat):g.dl i=some b->Rep w g (.ptr i o) (.pointer (some ⟨b,o,none⟩))
 |row (i:Id) (n c b:Nat):n<=c->g.dl i=some b->Rep w g (.row i n) (.slice (some ⟨b,0,none⟩) n c)
 |eptr (ds:List D) (a:Addr) (vv:Nat->Value):
   (∀j,j<ds.length->w.cell? (a.add j)=some (vv j))->
   (∀j,j<ds.length->(vv j).oneCell'=true)->
   (∀(j:Nat) d,ds[j]?=some d->Rep w g d (vv j))->
   (0<ds.length->a.off+ds.length<=g.G a.block)->(∀d∈ds,d.calm=true)->
   Rep w g (.eptr ds) (.pointer (some a))
 |nilp:Rep w g .nilptr (.pointer none)
 |agg (ds:List D) (vs:List Value):vs.length=ds.length->(∀v∈vs,v.oneCell'=true)->
   (∀(j:Nat) d v,ds[j]?=some d->vs[j]?=some v->Rep w g d v)->Rep w g (.agg ds) (.agg vs.toArray)
 |tup (ds:List D) (vs:List Value):vs.length=ds.length->
   (∀(j:Nat) d v,ds[j]?=some d->vs[j]?=some v->Rep w g d v)->Rep w g (.tup ds) (.tuple vs.toArray)
 |iface (t:TypeId) (d:D) (v:Value):d.calm=true->Rep w g d v->Rep w g (.iface t d) (.iface t v)
 |nili:Rep w g .nilIface .nilIface
 |fn (f:FuncId) (ds:List D) (vs:List Value):vs.length=ds.length->
   (∀(j:Nat) d v,ds[j]?=some d->vs[j]?=some v->Rep w g d v)->Rep w g (.fn f ds) (.func (.func f) #[] vs.toArray)
 |nilf:Rep w g .nilFunc .nilFunc
 |nilm:Rep w g .nilMap (.map none)
 |itp (i:Id) (b:Nat):g.tb i=some (b,0,0,0)->Rep w g (.itp i) (.pointer (some ⟨b,0,none⟩))
structure Hk (w:World) (g:Gh) (w':World) (g':Gh):Prop where
 cell:∀p:Addr,p.off<g.G p.block->w'.cell? p=w.cell? p
 G:∀b,g.G b<=g'.G b
 dl:∀i b,g.dl i=some b->g'.dl i=some b
 G0:g'.G0=g.G0
 tb:∀i x,g.tb i=some x->g'.tb i=some x
 size:w.heap.size<=w'.heap.size
 dln:∀i b,g'.dl i=some b->(∃j,g.dl j=some b)∨w.heap.size<=b
 tbn:∀i x,g'.tb i=some x->(∃j y,g.tb j=some y∧y.1=x.1)∨w.heap.size<=x.1
 unt:∀(k:Nat)(o:Obj),w.heap[k]?=some o->(∀i,g.dl i≠some k)->(∀i x,g.tb i=some x->x.1≠k)->w'.heap[k]?=some o
def Hk.refl(w:World)(g:Gh):Hk w g w g:=⟨λ_ _=>rfl,λ_=>Qp _,λ_ _ h=>h,rfl,λ_ _ h=>h,Qp _,λi _ h=> .inl ⟨i,h⟩,λi x h=> .inl ⟨i,x,h,rfl⟩,λ_ _ h _ _=>h⟩
theorem Hk.trans {w w' a : World} {g c f : Gh} (h : Hk w g w' c) (k : Hk w' c a f) : Hk w g a f :=
 ⟨fun p u => (k.cell p (QV u (h.G _))).trans (h.cell p u), fun b => QH (h.G b) (k.G b),
  fun i b hi => k.dl i b (h.dl i b hi), k.G0.trans h.G0, fun i x hi => k.tb i x (h.tb i x hi), QH h.size k.size,
  fun i b hi => (k.dln i b hi).elim (fun ⟨j, d⟩ => h.dln j b d) (fun e => .inr (QH h.size e)),
  fun i x hi => (k.tbn i x hi).elim (fun ⟨j, y, d, e⟩ => (h.tbn j y d).elim (fun ⟨j', r, v, t⟩ => .inl ⟨j', r, v, t.trans e⟩) (fun t => .inr (e ▸ t))) (fun e => .inr (QH h.size e)),
  fun j o d z s => k.unt j o (h.unt j o d z s) (fun i e => (h.dln i j e).elim (fun ⟨j', n⟩ => z j' n) (fun t => absurd (Ql.1 d).1 (ZV.2 t)))
   (fun i x e m => (h.tbn i x e).elim (fun ⟨j', y, hy, q⟩ => s j' y hy (q.trans m)) (fun t => absurd (Ql.1 d).1 (ZV.2 (m ▸ t))))⟩
def B8(a:Addr)(j:Nat):(a.add j).block=a.block:=by unfold Addr.add;split<;>rfl
def Dr(a:Addr)(j:Nat):(a.add j).off=a.off+j:=by unfold Addr.add;split<;>simp_all
theorem add_add(a:Addr)(i j:Nat):(a.add i).add j=a.add (i+j):=by
 unfold Addr.add;by_cases hi:i=0<;>by_cases w:j=0<;>simp[hi,w,Nat.add_assoc]
def Rep.ext{w w':World}{g g':Gh}{d:D}{v:Value}(h:Rep w g d v)(x:Hk w g w' g'):Rep w' g' d v:=by
 induction h with
 |junk v=>exact .junk v
 |bool b=>exact .bool b
 |int k n=>exact .int k n
 |str s=>exact .str s
 |nils t=>exact .nils t
 |slice t xs a n c sz vv u z m h4 h5 _ h7 h8 h9 ih=>
  refine .slice t xs a n c sz vv u z m (λj e=>?_) h5 ih (λh=>QH (h7 h) (x.G _)) (λht=>?_) h9
  ·rw[x.cell _ YB];exact h4 j e
  ·obtain⟨p,q,r⟩:=h8 ht;exact⟨p,q,x.tb _ _ r⟩
 |ptr i o b u=>exact .ptr i o b (x.dl _ _ u)
 |row i n c b y u=>exact .row i n c b y (x.dl _ _ u)
 |eptr ds a vv u z _ h4 h5 ih=>
  refine .eptr ds a vv (λj e=>?_) z ih (λh=>QH (h4 h) (x.G _)) h5;rw[x.cell _ Y5];exact u j e
 |nilp=>exact .nilp
 |agg ds vs u z _ ih=>exact .agg ds vs u z ih
 |tup ds vs u _ ih=>exact .tup ds vs u ih
 |iface t d v u _ ih=>exact .iface t d v u ih
 |nili=>exact .nili
 |fn f ds vs u _ ih=>exact .fn f ds vs u ih
 |nilf=>exact .nilf
 |nilm=>exact .nilm
 |itp i b u=>exact .itp i b (x.tb _ _ u)
def Rep.leaf_one{w:World}{g:Gh}{d:D}{v:Value}(h:Rep w g d v)(hl:d.leaf=true):v.oneCell'=true:=by
 cases h<;>simp_all [D.leaf,Value.oneCell']
abbrev GV:=Id->Nat->Option D
def tY(B:Nat)(m:GV)(w:World)(g:Gh):Prop:=
 (∀i s p,m i 1=some (.it s p)->∃b,g.tb i=some (b,0,0,0)∧B<=b∧w.heap[b]?=some (.stringIter ⟨s.toArray⟩ p)∧g.G b=0∧∀a,g.dl a≠some b)∧
 ∀i a s p z y b x v,m i 1=some (.it s p)->m a 1=some (.it z y)->g.tb i=some (b,x)->g.tb a=some (b,v)->i=a
theorem tY.to {B : Nat} {m m' : GV} {w w' : World} {g n : Gh} (h : tY B m w g) (r : ∀ i s p, m' i 1 = some (.it s p) → m i 1 = some (.it s p))
  (f : ∀ i b s p, m i 1 = some (.it s p) → g.tb i = some (b, 0, 0, 0) → B ≤ b → w.heap[b]? = some (.stringIter ⟨s.toArray⟩ p) → g.G b = 0 → (∀ a, g.dl a ≠ some b) →
   n.tb i = g.tb i ∧ w'.heap[b]? = w.heap[b]? ∧ n.G b = 0 ∧ ∀ a, n.dl a ≠ some b) : tY B m' w' n := by
 refine ⟨fun i s p hi => ?_, fun i a s p z p' b x x' u q d o => ?_⟩
 ·obtain ⟨b, j, t, y, t4, v⟩ := h.1 i s p (r _ _ _ hi)
  obtain ⟨k, q2, e, q4⟩ := f i b s p (r _ _ _ hi) j t y t4 v
  exact ⟨b, k.trans j, t, q2.trans y, e, q4⟩
 ·obtain ⟨c, j, t, y, t4, v⟩ := h.1 i s p (r _ _ _ u)
  obtain ⟨c', u1, u2, u3, u4, u5⟩ := h.1 a z p' (r _ _ _ q)
  rw [(f i c s p (r _ _ _ u) j t y t4 v).1] at d
  rw [(f a c' z p' (r _ _ _ q) u1 u2 u3 u4 u5).1] at o
  exact h.2 i a s p z p' b x x' (r _ _ _ u) (r _ _ _ q) d o
structure Hc (P:Program) (B:Nat) (w0:World) (m:GV) (w:World) (g:Gh):Prop where
 below:Below B w0 w
 size:B<=w.heap.size
 gz:∀b,w.heap.size<=b->g.G b=0
 old:∀b,b<B->g.G b=g.G0 b
 obj:∀i b,g.dl i=some b->B<=b∧g.G b=0∧∃vs T,w.heap[b]?=some (.cells vs T (0,0))∧
  ∀o d,m i o=some d->∃v,vs[o]?=some v∧v.oneCell'=true∧Rep w g d v
 inj:∀i i' b,g.dl i=some b->g.dl i'=some b->i=i'
 kind:∀i o d,m i o=some d->g.dl i=none->d.gh=true
 tok:∀i e,m i 0=some (.tok (e+1))->∃b n c sz cur,g.tb i=some (b,n,c,sz)∧B<=b∧0<sz∧
  (∃t z,P.info? e=some t∧t.size=sz∧t.zero=some z∧z.cells.size=sz)∧
  w.heap[b]?=some (.cells cur e (0,0))∧n<=c∧c<=maxLen∧cur.size=c*sz∧g.G b=n*sz∧∀i',g.dl i'≠some b
 tinj:∀i i' e e' b x x',m i 0=some (.tok (e+1))->m i' 0=some (.tok (e'+1))->g.tb i=some (b,x)->g.tb i'=some (b,x')->i=i'
 itr:tY B m w g
def B2(m:GV)(g:Gh)(i:Id):Prop:=(∀o,m i o=none)∧g.dl i=none∧g.tb i=none
def GV.put(m:GV)(i:Id)(o:Nat)(ds:List D):GV:=λa o'=>if a=i∧o<=o'∧o'<o+ds.length then ds[o'-o]? else m a o'
theorem aB{m:GV}{i a:Id}{o o':Nat}{ds:List D}(h:a≠i):m.put i o ds a o'=m a o':=by simp[GV.put,h]
def aG{m:GV}{i:Id}{o j:Nat}{ds:List D}(h:j<ds.length):m.put i o ds i (o+j)=ds[j]?:=by
 grind [GV.put]
theorem aE{m:GV}{i:Id}{o o':Nat}{ds:List D}(h:¬(o<=o'∧o'<o+ds.length)):m.put i o ds i o'=m i o':=by
 grind [GV.put]
def A1(w:World)(g:Gh)(ds:List D)(vs:List Value):Prop:=
 vs.length=ds.length∧(∀v∈vs,v.oneCell'=true)∧∀(j:Nat) d v,ds[j]?=some d->vs[j]?=some v->Rep w g d v
def A1.ext{w w':World}{g c:Gh}{ds:List D}{vs:List Value}(h:A1 w g ds vs)(x:Hk w g w' c):A1 w' c ds vs:=
 ⟨h.1,h.2.1,λj d v z y=>(h.2.2 j d v z y).ext x⟩
def A1.no_it{w:World}{g:Gh}{ds:List D}{vs:List Value}(h:A1 w g ds vs){j:Nat}{s:List UInt8}{p:Nat}(e:ds[j]?=some (.it s p)):False:=by
 have hl:j<vs.length:=by rw[h.1];exact(Qm.1 e).1
 have:=h.2.2 j _ vs[j] e (Qj hl);cases this
def aBH{w:World}{g:Gh}{m:GV}{ds:List D}{vs:List Value}(h:A1 w g ds vs){i a:Id}{o:Nat}{s:List UInt8}{p:Nat}(e:m.put i o ds a 1=some (.it s p)):m a 1=some (.it s p)∧(a=i->¬(o<=1∧1<o+ds.length)):=by
 unfold GV.put at e;split at e
 ·exact(h.no_it e).elim
 ·simp_all
theorem A1.nil(w:World)(g:Gh):A1 w g [] []:=⟨rfl,U,U⟩
def A1.one{w:World}{g:Gh}{d:D}{v:Value}(h:Rep w g d v)(hl:v.oneCell'=true):A1 w g [d] [v]:=by
 refine⟨rfl,Xo,λj n s z y=>?_⟩;cases j with
 |zero=>simp at z y;subst z y;exact h
 |succ j=>simp at z
def A1.append{w:World}{g:Gh}{ds c:List D}{vs t:List Value}(h:A1 w g ds vs)(k:A1 w g c t):A1 w g (ds++c) (vs++t):=by
 refine⟨by simp[h.1,k.1],λv hv=>?_,λj d v z hv=>?_⟩
 ·rcases Qn.1 hv with hv|hv
  ·exact h.2.1 v hv
  ·exact k.2.1 v hv
 ·by_cases e:j<ds.length
  ·rw[Qt e]at z;rw[Qt (by rw[h.1];exact e)]at hv;exact h.2.2 j d v z hv
  ·rw[QN O]at z;rw[QN (by rw[h.1];omega),h.1]at hv;exact k.2.2 _ d v z hv
section
variable{P:Program}{B:Nat}{w0 w w':World}{m:GV}{g g':Gh}
def Hc.lt(h:Hc P B w0 m w g){i:Id}{b:Nat}(f:g.dl i=some b):b<w.heap.size:=by
 obtain⟨_,_,vs,T,t,_⟩:=h.obj i b f;exact(Ql.1 t).1
def Gh.over(g:Gh)(w w':World):Gh:=
 {g with G:=λb=>if b<w.heap.size then g.G b else match w'.heap[b]? with|some (.cells c _ _)=>c.size|_=>0}
def Hk.over(q:∀b,w.heap.size<=b->g.G b=0)(f:Below w.heap.size w w'):Hk w g w' (g.over w w'):=by
 refine⟨λp z=>?_,λb=>?_,λi b h=>h,rfl,λi x h=>h,f.size,λi _ h=> .inl ⟨i,h⟩,λi x h=> .inl ⟨i,x,h,rfl⟩,λk o s _ _=>(f.block k (Ql.1 s).1).trans s⟩
 ·by_cases v:p.block<w.heap.size
  ·exact f.cell v
  ·simp_all
 ·grind [Gh.over]
def Hc.over(h:Hc P B w0 m w g)(f:Below w.heap.size w w'):Hc P B w0 m w' (g.over w w'):=by
 have x:=Hk.over h.gz f;refine⟨h.below.trans (f.mono h.size),QH h.size f.size,λb a=>?_,λb y=>by simp only[Gh.over];rw[if_pos (QV y h.size)];exact h.old b y,λi b hi=>?_,h.inj,h.kind,λi e hi=>?_,h.tinj,h.itr.to (λ_ _ _ e=>e) λi b s p _ _ _ u j z=>?_⟩
 rotate_right
 ·have y:b<w.heap.size:=(Ql.1 u).1;exact⟨rfl,f.block b y,by simp[Gh.over,y,j],z⟩
 ·simp only[Gh.over];rw[if_neg (by have:=f.size;omega),Array.getElem?_eq_none a]
 ·obtain⟨p,q,vs,T,t,r⟩:=h.obj i b hi;have y:=h.lt hi;refine⟨p,by simp[Gh.over,y,q],vs,T,(f.block b y).trans t,λo d hm=>?_⟩;obtain⟨v,k,r2,r3⟩:=r o d hm;exact⟨v,k,r2,r3.ext x⟩
 ·obtain⟨b,n,c,sz,cur,t1,t2,t3,t4,t5,t6,t7,t8,t9,za⟩:=h.tok i e hi;have y:b<w.heap.size:=(Ql.1 t5).1;exact⟨b,n,c,sz,cur,t1,t2,t3,t4,(f.block b y).trans t5,t6,t7,t8,by simp[Gh.over,y,t9],za⟩
def Hc.drew(h:Hc P B w0 m w g):Hc P B w0 m w.drew g:=by
 have x:Hk w g w.drew g:=⟨λ_ _=>rfl,λ_=>Qp _,λ_ _ h=>h,rfl,λ_ _ h=>h,Qp _,λi _ h=> .inl ⟨i,h⟩,λi x h=> .inl ⟨i,x,h,rfl⟩,λ_ _ h _ _=>h⟩;refine⟨h.below.drew,h.size,h.gz,h.old,λi b hi=>?_,h.inj,h.kind,λi e hi=>?_,h.tinj,h.itr.to (λ_ _ _ e=>e) λi b s p _ _ _ n j c=>⟨rfl,rfl,j,c⟩⟩
 ·obtain⟨p,q,vs,T,t,r⟩:=h.obj i b hi;exact⟨p,q,vs,T,t,λo d a=>let⟨v,r1,r2,r3⟩:=r o d a;⟨v,r1,r2,r3.ext x⟩⟩
 ·exact h.tok i e hi
def Hk.drew(w:World)(g:Gh):Hk w g w.drew g:=⟨λ_ _=>rfl,λ_=>Qp _,λ_ _ h=>h,rfl,λ_ _ h=>h,Qp _,λi _ h=> .inl ⟨i,h⟩,λi x h=> .inl ⟨i,x,h,rfl⟩,λ_ _ h _ _=>h⟩
def Gh.obj(g:Gh)(i:Id)(b:Nat):Gh:={g with dl:=λa=>if a=i then some b else g.dl a}
def Hk.newObj{i:Id}(o:Obj)(q:∀b,w.heap.size<=b->g.G b=0)(r:g.dl i=none):Hk w g (w.alloc o) (g.obj i w.heap.size):=by
 refine⟨λp z=>?_,λb=>Qp _,λa b h=>?_,rfl,λi x h=>h,U,λa b h=>?_,λi x h=> .inl ⟨i,x,h,rfl⟩,λk o' s _ _=>(Below.heap_alloc w o k (Ql.1 s).1).trans s⟩
 rotate_right
 ·simp only[Gh.obj]at h;split at h
  ·simp only[Qh]at h;exact .inr O
  ·exact .inl ⟨a,h⟩
 ·by_cases v:p.block<w.heap.size
  ·exact World.cell?_alloc_lt w o p v
  ·simp_all
 ·grind [Gh.obj]
def Hc.newObj(h:Hc P B w0 m w g){i:Id}(hf:B2 m g i){ds:List D}{vs:List Value}(T:TypeId)(hr:A1 w g ds vs):
  Hc P B w0 (m.put i 0 ds) (w.alloc (.cells vs.toArray T)) (g.obj i w.heap.size):=by
 have x:=Hk.newObj (i:=i) (Obj.cells vs.toArray T) h.gz hf.2.1;have ne:∀i' b,g.dl i'=some b->i'≠i:=λi' b f e=>by subst e;rw[hf.2.1]at f;cases f
 refine⟨h.below.alloc h.size _,YD,λb f=>h.gz b (by simp at f;omega),h.old,λi' b hi=>?_,λi1 i2 b u z=>?_,λi' o d a t=>?_,λi' e hi=>?_,λi1 i2 e e' b y y' u z k h4=>?_,h.itr.to (λi' s p e=>(aBH hr e).1) λi' b s p _ _ _ e1 e2 e3=>?_⟩
 rotate_right
 ·have j:b<w.heap.size:=(Ql.1 e1).1;refine⟨rfl,Below.heap_alloc w _ b j,e2,λi1 u=>?_⟩;simp only[Gh.obj]at u;split at u
  ·simp_all
  ·exact e3 i1 u
 ·simp only[Gh.obj]at hi;split at hi
  ·rename_i e;subst e;simp only[Qh]at hi;subst hi;refine⟨h.size,h.gz _ (Qp _),vs.toArray,T,heap_alloc_new w _,λo d a=>?_⟩;by_cases ho:o<ds.length
   ·have ia:m.put i' 0 ds i' (0+o)=ds[o]?:=aG ho;rw[QB]at ia;rw[ia]at a;have hv:o<vs.length:=by rw[hr.1];exact ho
    refine⟨vs[o],by simp[hv],hr.2.1 _ (Q7 hv),?_⟩;exact(hr.2.2 o d vs[o] a (Qj hv)).ext x
   ·rw[aE O,hf.1 o]at a;cases a
  ·rename_i la;obtain⟨p,q,eb,T',hh,r⟩:=h.obj i' b hi;refine⟨p,q,eb,T',(Below.heap_alloc w _ b (h.lt hi)).trans hh,λo d a=>?_⟩;rw[aB la]at a;obtain⟨v,r1,r2,r3⟩:=r o d a;exact⟨v,r1,r2,r3.ext x⟩
 ·simp only[Gh.obj]at u z;split at u<;>split at z
  ·simp_all
  ·simp only[Qh]at u;subst u;have:=h.lt z;omega
  ·simp only[Qh]at z;subst z;have:=h.lt u;omega
  ·exact h.inj _ _ _ u z
 ·simp only[Gh.obj]at t;split at t
  ·cases t
  ·rename_i la;rw[aB la]at a;exact h.kind _ _ _ a t
 ·by_cases la:i'=i
  ·subst la;by_cases ho:0<ds.length
   ·have ia:m.put i' 0 ds i' (0+0)=ds[0]?:=aG ho;rw[Zq]at ia;rw[ia]at hi;have hv:0<vs.length:=by rw[hr.1];exact ho
    have:=hr.2.2 0 _ vs[0] hi (Qj hv);cases this
   ·rw[aE O,hf.1 0]at hi;cases hi
  ·rw[aB la]at hi;obtain⟨b,n,c,sz,cur,t1,t2,t3,t4,t5,t6,t7,t8,t9,za⟩:=h.tok i' e hi;have j:b<w.heap.size:=(Ql.1 t5).1;refine⟨b,n,c,sz,cur,t1,t2,t3,t4,(Below.heap_alloc w _ b j).trans t5,t6,t7,t8,t9,λi1 u=>?_⟩;simp only[Gh.obj]at u;split at u
   ·simp_all
   ·exact za i1 u
 ·have nt:∀e,m.put i 0 ds i 0≠some (.tok (e+1)):=by
   intro e hi;by_cases ho:0<ds.length
   ·have ia:m.put i 0 ds i (0+0)=ds[0]?:=aG ho;rw[Zq]at ia;rw[ia]at hi;have hv:0<vs.length:=by rw[hr.1];exact ho
    have:=hr.2.2 0 _ vs[0] hi (Qj hv);cases this
   ·rw[aE O,hf.1 0]at hi;cases hi
  have n1:i1≠i:=λe=>by subst e;exact nt _ u
  have n2:i2≠i:=λe=>by subst e;exact nt _ z
  rw[aB n1]at u;rw[aB n2]at z;exact h.tinj _ _ _ _ _ _ _ u z k h4
def Rep.newObj(w:World)(g:Gh)(i:Id)(b:Nat):Rep w (g.obj i b) (.ptr i 0) (.pointer (some ⟨b,0,none⟩)):=
 .ptr i 0 b (by simp[Gh.obj])
theorem Fi(w:World)(b:Nat)(cs:Array Value)(p:Addr)(h:p.block≠b):(w.setRow b cs).cell? p=w.cell? p:=by
 simp only[World.cell?];rw[setRow_other w b p.block cs h]
def GD(w:World)(b:Nat)(cs:Array Value):w.heap.size<=(w.setRow b cs).heap.size∧∀(k:Nat)(o:Obj),w.heap[k]?=some o->k≠b->(w.setRow b cs).heap[k]?=some o:=
 ⟨X0,λk o s e=>by rw[setRow_other w b k cs e];exact s⟩
def Hk.setRow{b:Nat}{cs:Array Value}(r:g.G b=0)(z:∃i,g.dl i=some b):Hk w g (w.setRow b cs) g:=by
 refine⟨λp hp=>Fi w b cs p (λe=>?_),λ_=>Qp _,λ_ _ h=>h,rfl,λ_ _ h=>h,(GD w b cs).1,λi _ h=> .inl ⟨i,h⟩,λi x h=> .inl ⟨i,x,h,rfl⟩,λk o s u _=>(GD w b cs).2 k o s (λe=>z.elim λi hi=>u i (by rw[e];exact hi))⟩;subst e;omega
def Hc.store(h:Hc P B w0 m w g){i:Id}{b o:Nat}(hd:g.dl i=some b){vs:Array Value}{T:TypeId}(hh:w.heap[b]?=some (.cells vs T (0,0)))
  {ds:List D} {us:List Value} (hr:A1 w g ds us) (ho:o+ds.length<=vs.size):
  Hc P B w0 (m.put i o ds) (w.setRow b (vs.toList.take o++us++vs.toList.drop (o+us.length)).toArray) g:=by
 obtain⟨hB,hG,eb,T',ra,wa⟩:=h.obj i b hd;rw[hh]at ra;simp only[Qh,Obj.cells.injEq]at ra;obtain⟨rfl,rfl,_⟩:=ra;have x:Hk w g (w.setRow b (vs.toList.take o++us++vs.toList.drop (o+us.length)).toArray) g:=Hk.setRow hG ⟨i,hd⟩;have pa:(w.setRow b (vs.toList.take o++us++vs.toList.drop (o+us.length)).toArray).heap.size=w.heap.size:=X0
 have ba:∀k,k≠b->(w.setRow b (vs.toList.take o++us++vs.toList.drop (o+us.length)).toArray).heap[k]?=w.heap[k]?:=λk hk=>setRow_other w b k _ hk
 refine⟨⟨h.below.os,h.below.tape,h.below.output,Yt,λk hk=>(ba k O).trans (h.below.block k hk)⟩,Ys,by rw[pa];exact h.gz,h.old,λi' b' hi=>?_,h.inj,λi' o' d hm hn=>?_,λi' e hi=>?_,λi1 i2 e e' b' y y' u z h3 h4=>?_,h.itr.to (λi' s p e=>(aBH hr e).1) λi' b' s p _ _ _ e1 e2 e3=>⟨rfl,ba b' (λe=>e3 i (by rw[e];exact hd)),e2,e3⟩⟩
 ·by_cases a:i'=i
  ·subst a;rw[hd]at hi;simp only[Qh]at hi;subst hi;refine⟨hB,hG,_,T,setRow_heap w b vs _ T _ hh,λo' d hm=>?_⟩;have ea:us.length=ds.length:=hr.1;by_cases t:o<=o'∧o'<o+ds.length
   ·have ia:m.put i' o ds i' (o+(o'-o))=ds[o'-o]?:=aG O;rw[show o+(o'-o)=o' by omega]at ia;rw[ia]at hm;have hv:o'-o<us.length:=by omega
    refine⟨us[o'-o],?_,hr.2.1 _ (Q7 hv),(hr.2.2 _ d _ hm (Qj hv)).ext x⟩;have ht:(vs.toList.take o).length=o:=Yw
    simp only[QQ,QS];rw[QN O,ht,Qt hv];exact Qj hv
   ·rw[aE t]at hm;obtain⟨v,r1,r2,r3⟩:=wa o' d hm;refine⟨v,?_,r2,r3.ext x⟩;have ht:(vs.toList.take o).length=o:=by rw[Zm];simp;omega
    simp only[QQ,QS];by_cases oa:o'<o
    ·grind
    ·grind
  ·obtain⟨p,q,j,T1,f,r⟩:=h.obj i' b' hi;have la:b'≠b:=λe=>a (h.inj i' i b' hi (by rw[e];exact hd))
   refine⟨p,q,j,T1,(ba b' la).trans f,λo' d hm=>?_⟩;rw[aB a]at hm;obtain⟨v,r1,r2,r3⟩:=r o' d hm;exact⟨v,r1,r2,r3.ext x⟩
 ·have:i'≠i:=λe=>by subst e;rw[hd]at hn;cases hn
  rw[aB this]at hm;exact h.kind _ _ _ hm hn
 ·have la:i'≠i:=by
   rintro rfl;by_cases t:o<=0∧0<o+ds.length
   ·have ia:m.put i' o ds i' (o+(0-o))=ds[0-o]?:=aG O;rw[show o+(0-o)=0 by omega]at ia;rw[ia]at hi;have hv:0-o<us.length:=by have:=hr.1;omega
    have:=hr.2.2 _ _ _ hi (Qj hv);cases this
   ·rw[aE t]at hi;obtain⟨v,r1,r2,r3⟩:=wa 0 _ hi;cases r3
  rw[aB la]at hi;obtain⟨b1,n,c,sz,cur,t1,t2,t3,t4,t5,t6,t7,t8,t9,za⟩:=h.tok i' e hi;exact⟨b1,n,c,sz,cur,t1,t2,t3,t4,(ba b1 (λe=>za i (by rw[e];exact hd))).trans t5,t6,t7,t8,t9,za⟩
 ·have nt:∀e,m.put i o ds i 0≠some (.tok (e+1)):=by
   intro e hi;by_cases t:o<=0∧0<o+ds.length
   ·have ia:m.put i o ds i (o+(0-o))=ds[0-o]?:=aG O;rw[show o+(0-o)=0 by omega]at ia;rw[ia]at hi;have hv:0-o<us.length:=by have:=hr.1;omega
    have:=hr.2.2 _ _ _ hi (Qj hv);cases this
   ·rw[aE t]at hi;obtain⟨v,r1,r2,r3⟩:=wa 0 _ hi;cases r3
  have n1:i1≠i:=λe=>by subst e;exact nt _ u
  have n2:i2≠i:=λe=>by subst e;exact nt _ z
  rw[aB n1]at u;rw[aB n2]at z;exact h.tinj _ _ _ _ _ _ _ u z h3 h4
end
def Gh.tok(g:Gh)(t:Id)(b n c sz:Nat):Gh:=
 {g with G:=λr=>if r=b then n*sz else g.G r,tb:=λi=>if i=t then some (b,n,c,sz)else g.tb i}
section
variable{P:Program}{B:Nat}{w0 w w':World}{m:GV}{g g':Gh}
def Hc.kill(h:Hc P B w0 m w g){t:Id}(hd:g.dl t=none):Hc P B w0 (m.put t 0 [.tok 0]) w g:=by
 have n:∀i o,m.put t 0 [.tok 0] i o=if i=t∧o=0 then some (.tok 0)else m i o:=by
  grind [GV.put]
 refine⟨h.below,h.size,h.gz,h.old,λi b hi=>?_,h.inj,λi o d a c=>?_,λi e hi=>?_,λi1 i2 e v b y y' u z k x=>?_,h.itr.to (λi s p e=>by rw[n,if_neg U]at e;exact e) λi b s p _ _ _ e1 j f=>⟨rfl,rfl,j,f⟩⟩
 ·obtain⟨p,q,vs,T,hh,r⟩:=h.obj i b hi;refine⟨p,q,vs,T,hh,λo d a=>?_⟩;rw[n,if_neg (by rintro⟨rfl,_⟩;rw[hd]at hi;cases hi)]at a;exact r o d a
 ·rw[n]at a;split at a
  ·rw[←QR a];rfl
  ·exact h.kind _ _ _ a c
 ·rw[n]at hi;split at hi
  ·simp at hi
  ·exact h.tok i e hi
 ·rw[n]at u z;split at u
  ·simp at u
  ·split at z
   ·simp at z
   ·exact h.tinj _ _ _ _ _ _ _ u z k x
def B2.kill{t n:Id}(h:B2 m g t)(v:t≠n):B2 (m.put n 0 [.tok 0]) g t:=
 ⟨λo=>by rw[aB v];exact h.1 o,h.2⟩
theorem Bp(m:GV)(t:Id)(x:Nat)(i:Id)(o:Nat):m.put t 0 [.tok x] i o=if i=t∧o=0 then some (.tok x)else m i o:=by
 grind [GV.put]
def Hk.newTok{t:Id}{b n c sz:Nat}(o:Obj)(q:∀b,w.heap.size<=b->g.G b=0)(r:g.tb t=none)(f:b=w.heap.size):Hk w g (w.alloc o) (g.tok t b n c sz):=by
 refine⟨λp z=>?_,λu=>?_,λa b h=>h,rfl,λi x h=>?_,U,λi _ h=> .inl ⟨i,h⟩,λi x h=>?_,λk o' s _ _=>(Below.heap_alloc w o k (Ql.1 s).1).trans s⟩
 rotate_right
 ·simp only[Gh.tok]at h;split at h
  ·simp only[Qh]at h;subst h;exact .inr (Nat.le_of_eq f.symm)
  ·exact .inl ⟨i,x,h,rfl⟩
 ·by_cases v:p.block<w.heap.size
  ·exact World.cell?_alloc_lt w o p v
  ·simp_all
 ·grind [Gh.tok]
 ·simp only[Gh.tok];split
  ·rename_i e;subst e;rw[r]at h;cases h
  ·exact h
def Hc.newTok(h:Hc P B w0 m w g){t:Id}(hf:B2 m g t){e n c sz:Nat}{cur:Array Value}(pa:0<sz)
  (hi:∃ti z,P.info? e=some ti∧ti.size=sz∧ti.zero=some z∧z.cells.size=sz) (fb:n<=c) (hc:c<=maxLen) (a:cur.size=c*sz):
  Hc P B w0 (m.put t 0 [.tok (e+1)]) (w.alloc (.cells cur e)) (g.tok t w.heap.size n c sz):=by
 have x:=Hk.newTok (t:=t) (n:=n) (c:=c) (sz:=sz) (Obj.cells cur e) h.gz hf.2.2 rfl;refine⟨h.below.alloc h.size _,YD,λb f=>?_,λb j=>by simp only[Gh.tok];rw[if_neg (by have:=h.size;omega)];exact h.old b j,λi b k=>?_,h.inj,λi o d hm hn=>?_,λi e' k=>?_,λi1 i2 e1 e2 b y y' u h2 h3 h4=>?_,h.itr.to (λi s p e=>by rw[Bp,if_neg U]at e;exact e) λi b s p e0 _ _ e1 e2 e3=>?_⟩
 rotate_right
 ·have j:b<w.heap.size:=(Ql.1 e1).1;have ea:i≠t:=by rintro rfl;rw[hf.1 1]at e0;cases e0
  exact⟨by simp[Gh.tok,ea],Below.heap_alloc w _ b j,by simp only[Gh.tok];rw[if_neg O];exact e2,e3⟩
 ·simp only[Gh.tok];simp at f;rw[if_neg O];exact h.gz b O
 ·obtain⟨p,q,vs,T,hh,r⟩:=h.obj i b k;have j:=h.lt k;refine⟨p,by simp only[Gh.tok];rw[if_neg O];exact q,vs,T,(Below.heap_alloc w _ b j).trans hh,λo d hm=>?_⟩;rw[Bp,if_neg (by rintro⟨rfl,_⟩;simp only[Gh.tok]at k;rw[hf.2.1]at k;cases k)]at hm;obtain⟨v,r1,r2,r3⟩:=r o d hm;exact⟨v,r1,r2,r3.ext x⟩
 ·rw[Bp]at hm;split at hm
  ·rw[←QR hm];rfl
  ·exact h.kind _ _ _ hm hn
 ·rw[Bp]at k;split at k
  ·rename_i qa;obtain⟨rfl,_⟩:=qa;simp only[Qh,D.tok.injEq,Zk]at k;subst k;refine⟨w.heap.size,n,c,sz,cur,Xl,h.size,pa,hi,heap_alloc_new w _,fb,hc,a,Xl,λi' h'=>?_⟩;have:=h.lt h';omega
  ·rename_i la;obtain⟨b,n',c',xa,ja,t1,t2,t3,t4,t5,t6,t7,t8,t9,za⟩:=h.tok i e' k;have j:b<w.heap.size:=(Ql.1 t5).1;have ea:i≠t:=by
    simp_all
   exact⟨b,n',c',xa,ja,by simp[Gh.tok,ea,t1],t2,t3,t4,(Below.heap_alloc w _ b j).trans t5,t6,t7,t8,by simp only[Gh.tok];rw[if_neg O];exact t9,za⟩
 ·have fa:∀i e,m i 0=some (.tok (e+1))->∀b y,(g.tok t w.heap.size n c sz).tb i=some (b,y)->i≠t∧g.tb i=some (b,y)∧b<w.heap.size:=by
   intro i e hm b y f;have ea:i≠t:=Y7
   simp only[Gh.tok,if_neg ea]at f;obtain⟨b',n',c',xa,ja,t1,t2,t3,t4,t5,_⟩:=h.tok i e hm;rw[t1]at f;simp only[Qh,Qk]at f;obtain⟨rfl,rfl⟩:=f;exact⟨ea,t1,(Ql.1 t5).1⟩
  rw[Bp]at u h2;split at u<;>split at h2
  ·simp_all
  ·grind [Gh.tok]
  ·grind [Gh.tok]
  ·obtain⟨_,k3,_⟩:=fa _ _ u _ _ h3;obtain⟨_,k4,_⟩:=fa _ _ h2 _ _ h4;exact h.tinj _ _ _ _ _ _ _ u h2 k3 k4
def Hk.inPlace{t:Id}{b n n' c sz:Nat}{cur m:Array Value}{T:TypeId}{fr:Nat×Nat}(hf:g.tb t=none)(hG:g.G b=n*sz)(v:n<=n')
  (hh:w.heap[b]?=some (.cells cur T fr)) (f:∀j,j<n*sz->m[j]?=cur[j]?) (r:∃j y,g.tb j=some y∧y.1=b):Hk w g (w.setRow b m) (g.tok t b n' c sz):=by
 refine⟨λp z=>?_,λb'=>?_,λi' b h=>h,rfl,λi x h=>?_,(GD w b m).1,λi _ h=> .inl ⟨i,h⟩,λi x h=>?_,λk o s _ q=>(GD w b m).2 k o s (λe=>r.elim λj d=>d.elim λy hy=>q j y hy.1 (by rw[e];exact hy.2))⟩
 rotate_right
 ·simp only[Gh.tok]at h;split at h
  ·simp only[Qh]at h;subst h;exact .inl r
  ·exact .inl ⟨i,x,h,rfl⟩
 ·by_cases a:p.block=b
  ·have u:(w.setRow b m).heap[p.block]?=some (.cells m T fr):=by rw[a];exact setRow_heap w b cur m T fr hh
   have q:w.heap[p.block]?=some (.cells cur T fr):=by rw[a];exact hh
   simp only[World.cell?,u,q];split
   ·rfl
   ·simp_all
  ·grind [Fi]
 ·simp only[Gh.tok];split
  ·rename_i e;subst e;rw[hG];exact QI _ v
  ·exact Qp _
 ·grind [Gh.tok]
def Hc.inPlace(h:Hc P B w0 m w g){t0 t:Id}(hf:B2 m g t){e b n n' c sz:Nat}{cur ja:Array Value}(h0:m t0 0=some (.tok (e+1)))
  (cb:g.tb t0=some (b,n,c,sz)) (hn:n<=n') (hc:n'<=c) (hh:w.heap[b]?=some (.cells cur e (0,0))) (hs:ja.size=cur.size)
  (oa:∀j,j<n*sz->ja[j]?=cur[j]?):
  Hc P B w0 ((m.put t0 0 [.tok 0]).put t 0 [.tok (e+1)]) (w.setRow b ja) (g.tok t b n' c sz):=by
 obtain⟨b0,n0,c0,ga,da,u1,u2,u3,u4,u5,u6,u7,u8,u9,a⟩:=h.tok t0 e h0;rw[cb]at u1;simp only[Qh,Qk]at u1;obtain⟨rfl,rfl,rfl,rfl⟩:=u1;rw[hh]at u5;simp only[Qh,Obj.cells.injEq,and_true]at u5;subst u5;have x:Hk w g (w.setRow b ja) (g.tok t b n' c sz):=Hk.inPlace hf.2.2 u9 hn hh oa ⟨t0,_,cb,rfl⟩;have pa:(w.setRow b ja).heap.size=w.heap.size:=X0
 have ka:b<w.heap.size:=(Ql.1 hh).1;have ba:∀k,k≠b->(w.setRow b ja).heap[k]?=w.heap[k]?:=λk hk=>setRow_other w b k ja hk
 have ta:t≠t0:=by rintro rfl;rw[hf.1 0]at h0;cases h0
 have ia:∀i o,((m.put t0 0 [.tok 0]).put t 0 [.tok (e+1)]) i o=if i=t∧o=0 then some (.tok (e+1))else if i=t0∧o=0 then some (.tok 0)else m i o:=by
  grind [Bp]
 have z:g.dl t0=none:=by
  cases hd:g.dl t0 with
  |none=>rfl
  |some b'=>
   obtain⟨_,_,vs,T,_,r⟩:=h.obj t0 b' hd;obtain⟨v,_,_,r3⟩:=r 0 _ h0;cases r3
 refine⟨⟨h.below.os,h.below.tape,h.below.output,Yt,λk hk=>(ba k O).trans (h.below.block k hk)⟩,Ys,λb' va=>?_,λb' aa=>by simp only[Gh.tok];rw[if_neg O];exact h.old b' aa,λi b' hi=>?_,h.inj,λi o d hm hd=>?_,λi e' hi=>?_,λi1 i2 e1 e2 b' y y' h1 h2 h3 h4=>?_,h.itr.to (λi s p e=>by rw[ia,if_neg U,if_neg U]at e;exact e) λi b' s p e0 _ _ e1 e2 e3=>?_⟩
 rotate_right
 ·have la:b'≠b:=by rintro rfl;rw[hh]at e1;cases e1
  have ea:i≠t:=by rintro rfl;rw[hf.1 1]at e0;cases e0
  exact⟨by simp[Gh.tok,ea],ba b' la,by simp only[Gh.tok];rw[if_neg la];exact e2,e3⟩
 ·rw[pa]at va;simp only[Gh.tok];rw[if_neg O];exact h.gz b' va
 ·obtain⟨p,q,vs,T,ra,r⟩:=h.obj i b' hi;have la:b'≠b:=λe=>a i (by rw[←e];exact hi)
  refine⟨p,by simp[Gh.tok,la,q],vs,T,(ba b' la).trans ra,λo d hm=>?_⟩;rw[ia,if_neg (by rintro⟨rfl,_⟩;have h':=hf.2.1;simp only[Gh.tok]at hi;rw[h']at hi;cases hi),if_neg (by rintro⟨rfl,_⟩;simp only[Gh.tok]at hi;rw[z]at hi;cases hi)]at hm;obtain⟨v,r1,r2,r3⟩:=r o d hm;exact⟨v,r1,r2,r3.ext x⟩
 ·rw[ia]at hm;split at hm
  ·rw[←QR hm];rfl
  ·split at hm
   ·rw[←QR hm];rfl
   ·exact h.kind _ _ _ hm hd
 ·rw[ia]at hi;split at hi
  ·rename_i qa;obtain⟨rfl,_⟩:=qa;simp only[Qh,D.tok.injEq,Zk]at hi;subst hi;exact⟨b,n',c,sz,ja,Xl,u2,u3,u4,setRow_heap w b cur ja e _ hh,hc,u7,by rw[hs];exact u8,Xl,a⟩
  ·split at hi
   ·simp at hi
   ·rename_i n1 n2;obtain⟨b1,f,c1,l,u,t1,t2,t3,t4,t5,t6,t7,t8,t9,za⟩:=h.tok i e' hi;have ea:i≠t:=by rintro rfl;rw[hf.1 0]at hi;cases hi
    have ca:b1≠b:=by
     rintro rfl;have:=h.tinj i t0 e' e b1 _ _ hi h0 t1 cb;subst this;simp at n2
    exact⟨b1,f,c1,l,u,by simp[Gh.tok,ea,t1],t2,t3,t4,(ba b1 ca).trans t5,t6,t7,t8,by simp[Gh.tok,ca,t9],za⟩
 ·have fa:∀i e',m i 0=some (.tok (e'+1))->i≠t0->∀b' y,(g.tok t b n' c sz).tb i=some (b',y)->i≠t∧g.tb i=some (b',y)∧b'≠b:=by
   intro i e' hm ua b' y hb;have ea:i≠t:=Y7
   simp only[Gh.tok,if_neg ea]at hb;refine⟨ea,hb,?_⟩;rintro rfl;exact ua (h.tinj i t0 e' e b' _ _ hm h0 hb cb)
  rw[ia]at h1 h2;split at h1
  ·grind [Gh.tok]
  ·split at h1
   ·simp at h1
   ·rename_i p q;split at h2
    ·grind [Gh.tok]
    ·split at h2
     ·simp at h2
     ·rename_i r s;obtain⟨_,k3,_⟩:=fa _ _ h1 (λe=>q ⟨e,rfl⟩) _ _ h3;obtain⟨_,k4,_⟩:=fa _ _ h2 (λe=>s ⟨e,rfl⟩) _ _ h4;exact h.tinj _ _ _ _ _ _ _ h1 h2 k3 k4
end
end Go.Vd
namespace Go.Vd
inductive GW where
 |t (n:Nat)
 |c (d:D)
def GW.ev(s:Nat->D):GW->D
 | .t n=>s n
 | .c d=>d
abbrev Ha:=List (Id×Nat×List D)
def Ha.app(m:GV):Ha->GV
 |[]=>m
 |(i,o,ds)::u=>Ha.app (m.put i o ds) u
structure HA where
 rd:List D->GV->List (Id×Nat)
 ex:List D->GV->Id->Option (D×Ha)
abbrev GR:=FuncId->Option HA
inductive DOp where
 |mv (x:GW)
 |pick (c a b:GW)
 |alloc (zs:List D)
 |box (x:GW)
 |build (zs:List D) (parts:List (Nat×Nat×GW))
 |bslice (e sz:Nat) (parts:List GW)
 |load (k:Option Nat) (x:GW)
 |store (n:Nat) (x v:GW)
 |nilchk (x:GW)
 |bin (op:BinOp) (x y:GW)
 |beq (ne:Bool) (x y:GW)
 |seq (ne:Bool) (offs:List (Nat×Nat)) (x y:GW)
 |nileq (ne:Bool) (k:Nat) (x y:GW)
 |un (op:UnOp) (x:GW)
 |conv (k:IntKind) (x:GW)
 |s2s (x:GW)
 |s2b (x:GW)
 |b2s (x:GW)
 |faddr (off:Nat) (x:GW)
 |field (k:Option Nat) (off:Nat) (x:GW)
 |iaddr (sz:Nat) (x i:GW)
 |idxs (x i:GW)
 |idxa (len:Nat) (x i:GW)
 |idxm (len sz:Nat) (x i:GW)
 |mxm (mx:Bool) (x y:GW)
 |iadda (len sz:Nat) (x i:GW)
 |cuts (x:GW) (lo hi:Option GW)
 |cutl (sz:Nat) (x:GW) (lo hi:Option GW)
 |mkif (t:TypeId) (x:GW)
 |tass (t:TypeId) (ok:Bool) (z:D) (x:GW)
 |ext (i:Nat) (x:GW)
 |mkfn (f:FuncId) (caps:List GW)
 |len (isStr:Bool) (x:GW)
 |app (e sz bytes:Nat) (x y:GW)
 |mksl (e sz bytes:Nat) (z:D) (n c:GW)
 |range (x:GW)
 |next (x:GW)
 |call (f:GW) (xs:List GW)
 |stop
def D.data:D->Bool
 | .junk| .tok _| .tup _| .it _ _=>false
 |_=>true
def Ai(m:GV)(i:Id):Nat->Nat->Option (List D)
 |_,0=>some []
 |o,n+1=>match m i o with
  |some d=>(Ai m i (o+1) n).map (d::·)
  |none=>none
def Eh(cs:List D)(off:Nat)(ds:List D):List D:=cs.take off++ds++cs.drop (off+ds.length)
def Bw:List D->List (Nat×Nat×D)->Option (List D)
 |cs,[]=>some cs
 |cs,(off,sz,d)::r=>if d.data=true∧d.cells.length=sz∧off+sz<=cs.length then Bw (Eh cs off d.cells) r else none
def AQ(op:BinOp)(x y:D):Option D:=
 match x,y with
 | .int k a,.int k' b=>
  match op with
  | .shl=>if 0<=b then some (.int k (k.wrap (a*2 ^ min b.toNat k.bits)))else none
  | .shr=>if 0<=b then some (.int k (a.fdiv (2 ^ min b.toNat k.bits)))else none
  |op=>if k≠k' then none else match op with
   | .add=>some (.int k (k.wrap (a+b)))
   | .sub=>some (.int k (k.wrap (a-b)))
   | .mul=>some (.int k (k.wrap (a*b)))
   | .quo=>if b=0 then none else some (.int k (k.wrap (a.tdiv b)))
   | .rem=>if b=0 then none else some (.int k (a.tmod b))
   | .and=>some (.int k (bits .and k a b))
   | .or=>some (.int k (bits .or k a b))
   | .xor=>some (.int k (bits .xor k a b))
   | .andNot=>some (.int k (bits .andNot k a b))
   | .eql=>some (.bool (a==b))
   | .neq=>some (.bool (a !=b))
   | .lss=>some (.bool (a<b))
   | .leq=>some (.bool (a<=b))
   | .gtr=>some (.bool (a>b))
   | .geq=>some (.bool (a≥b))
   |_=>none
 | .str a,.str b=>
  match op with
  | .add=>if a.length+b.length<=9223372036854775807 then some (.str (a++b))else none
  | .eql=>some (.bool (a==b))
  | .neq=>some (.bool (!(a==b)))
  | .lss=>some (.bool (Op.bytesLess a b))
  | .leq=>some (.bool (Op.bytesLess a b||a==b))
  | .gtr=>some (.bool (!(Op.bytesLess a b||a==b)))
  | .geq=>some (.bool (!(Op.bytesLess a b)))
  |_=>none
 |_,_=>none
def xW(op:UnOp)(x:D):Option D:=
 match op,x with
 | .neg,.int k n=>some (.int k (k.wrap (0-n)))
 | .not,.bool b=>some (.bool (!b))
 | .xor,.int k n=>some (.int k (bits .xor k (if k.signed then-1 else k.max) n))
 |_,_=>none
def Dt:Nat->D->D->Option Bool
 |0,.int k a,.int k' b=>if k=k' then some (a==b)else none
 |1,.bool a,.bool b=>some (a==b)
 |2,.str a,.str b=>some (a==b)
 |_,_,_=>none
def AW(xs ys:List D):List (Nat×Nat)->Option Bool
 |[]=>some true
 |(k,o)::r=>match xs[o]?,ys[o]? with
  |some x,some y=>match Dt k x y with
   |some true=>AW xs ys r
   |some false=>some false
   |none=>none
  |_,_=>none
def ID:Nat->D->D->Option Bool
 |0,.slice n _ _,.slice true _ _=>some n
 |0,.slice true _ _,.slice n _ _=>some n
 |1,.nilptr,.nilptr=>some true
 |1,.nilptr,.ptr _ _=>some false
 |1,.ptr _ _,.nilptr=>some false
 |1,.nilptr,.eptr _=>some false
 |1,.eptr _,.nilptr=>some false
 |2,.nilIface,.nilIface=>some true
 |2,.nilIface,.iface _ _=>some false
 |2,.iface _ _,.nilIface=>some false
 |3,.nilFunc,.nilFunc=>some true
 |3,.nilFunc,.fn _ _=>some false
 |3,.fn _ _,.nilFunc=>some false
 |_,_,_=>none
def Aw(s:List UInt8):List D:=s.map λb=> .int .u8 b.toNat
def BM:List D->Option (List UInt8)
 |[]=>some []
 | .int .u8 n::r=>(BM r).map (UInt8.ofNat n.toNat::·)
 |_=>none
def dD:Bool->D->Option Nat
 |true,.str s=>some s.length
 |false,.slice _ _ xs=>some xs.length
 |false,.row _ n=>some n
 |_,_=>none
def FE(s:Nat->D)(x:Option GW)(b:Nat)(c:Nat):Option Nat:=
 match x with
 |none=>some b
 |some a=>match a.ev s with
  | .int _ n=>if 0<=n∧n<=c then some n.toNat else none
  |_=>none
def aF:List D->Nat->Nat
 |[],k=>k
 |d::_,_=>d.cells.length
def I1(sz:Nat):D->Option (List D)
 | .slice _ _ ys=>some ys
 | .str b=>if sz=1 then some (Aw b)else none
 |_=>none
def exec(S:GR)(s:Nat->D)(m:GV)(fr:Id):DOp->Option (D×Ha)
 | .mv x=>some (x.ev s,[])
 | .pick c a b=>match c.ev s with
  | .bool t=>some (if t then a.ev s else b.ev s,[])
  |_=>none
 | .alloc zs=>some (.ptr fr 0,[(fr,0,zs)])
 | .box x=>if(x.ev s).data then some (.ptr fr 0,[(fr,0,(x.ev s).cells)])else none
 | .build zs parts=>(Bw zs (parts.map λp=>(p.1,p.2.1,p.2.2.ev s))).map λcs=>(.agg cs,[])
 | .bslice e sz parts=>
  if(parts.all λp=>(p.ev s).data&&(p.ev s).cells.length==sz&&(p.ev s).un.calm)then some (.slice false fr (parts.map λp=>(p.ev s).un),[(fr,0,[.tok (e+1)])])else none
 | .load k x=>match x.ev s,k with
  | .ptr i o,none=>(m i o).map λd=>(d,[])
  | .ptr i o,some n=>(Ai m i o n).map λds=>(.agg ds,[])
  | .eptr ds,none=>ds.head?.map λd=>(d,[])
  | .eptr ds,some n=>if n<=ds.length then some (.agg (ds.take n),[])else none
  |_,_=>none
 | .store n x v=>match x.ev s with
  | .ptr i o=>if(v.ev s).data=true∧(v.ev s).cells.length=n∧(Ai m i o n).isSome=true then some (.junk,[(i,o,(v.ev s).cells)])else none
  |_=>none
 | .nilchk x=>match x.ev s with
  | .ptr i o=>some (.ptr i o,[])
  | .eptr ds=>some (.eptr ds,[])
  | .fn f cs=>some (.fn f cs,[])
  |_=>none
 | .bin op x y=>(AQ op (x.ev s) (y.ev s)).map λd=>(d,[])
 | .beq ne x y=>match x.ev s,y.ev s with
  | .bool a,.bool b=>some (.bool ((a==b)!=ne),[])
  |_,_=>none
 | .seq ne offs x y=>match x.ev s,y.ev s with
  | .agg xs,.agg ys=>(AW xs ys offs).map λb=>(.bool (b !=ne),[])
  |_,_=>none
 | .nileq ne k x y=>(ID k (x.ev s) (y.ev s)).map λb=>(.bool (b !=ne),[])
 | .un op x=>(xW op (x.ev s)).map λd=>(d,[])
 | .conv k x=>match x.ev s with
  | .int _ n=>some (.int k (k.wrap n),[])
  |_=>none
 | .s2s x=>match x.ev s with
  | .str b=>some (.str b,[])
  |_=>none
 | .s2b x=>match x.ev s with
  | .str b=>some (.slice false [] (Aw b),[])
  |_=>none
 | .b2s x=>match x.ev s with
  | .slice _ _ xs=>(BM xs).map λb=>(.str b,[])
  |_=>none
 | .faddr off x=>match x.ev s with
  | .ptr i o=>some (.ptr i (o+off),[])
  | .eptr ds=>if off<=ds.length then some (.eptr (ds.drop off),[])else none
  |_=>none
 | .field k off x=>match x.ev s,k with
  | .agg cs,none=>cs[off]?.map λd=>(d,[])
  | .agg cs,some n=>if off+n<=cs.length then some (.agg ((cs.drop off).take n),[])else none
  |_,_=>none
 | .iaddr sz x i=>match x.ev s,i.ev s with
  | .slice _ _ xs,.int _ n=>if 0<=n then match xs[n.toNat]? with
   |some d=>if d.cells.length=sz then some (.eptr d.cells,[])else none
   |none=>none
   else none
  | .row i l,.int _ n=>if 0<=n∧n<(l:Int)then some (.ptr i (if sz=1 then n.toNat else n.toNat*sz),[])else none
  |_,_=>none
 | .idxs x i=>match x.ev s,i.ev s with
  | .str b,.int _ n=>if 0<=n then(b[n.toNat]?).map λc=>(.int .u8 c.toNat,[])else none
  |_,_=>none
 | .iadda len sz x i=>match x.ev s,i.ev s with
  | .ptr j o,.int _ n=>if 0<=n∧n<(len:Int)then some (.ptr j (o+n.toNat*sz),[])else none
  |_,_=>none
 | .idxm len sz x i=>match x.ev s,i.ev s with
  | .agg cs,.int _ n=>if 0<=n∧n<(len:Int)∧n.toNat*sz+sz<=cs.length then some (.agg ((cs.drop (n.toNat*sz)).take sz),[])else none
  |_,_=>none
 | .mxm mx x y=>match x.ev s,y.ev s with
  | .int k a,.int _ b=>some (.int k (if mx=true then max a b else min a b),[])
  |_,_=>none
 | .idxa len x i=>match x.ev s,i.ev s with
  | .agg cs,.int _ n=>if 0<=n∧n<(len:Int)then(cs[n.toNat]?).map λd=>(d,[])else none
  |_,_=>none
 | .cuts x lo hi=>match x.ev s with
  | .str b=>match FE s hi b.length b.length with
   |some h=>match FE s lo 0 h with
    |some l=>some (.str ((b.drop l).take (h-l)),[])
    |none=>none
   |none=>none
  |_=>none
 | .cutl sz x lo hi=>match x.ev s with
  | .slice nl _ xs=>if aF xs sz=sz then match FE s hi xs.length xs.length with
   |some h=>match FE s lo 0 h with
    |some l=>some (.slice nl [] ((xs.drop l).take (h-l)),[])
    |none=>none
   |none=>none
   else none
  |_=>none
 | .mkif t x=>if(x.ev s).data=true∧(x.ev s).un.calm=true then some (.iface t (x.ev s).un,[])else none
 | .tass t ok z x=>match x.ev s with
  | .iface t' d=>if t'=t then some (if ok then .tup [d,.bool true]else d,[])else if ok then some (.tup [z,.bool false],[])else none
  | .nilIface=>if ok then some (.tup [z,.bool false],[])else none
  |_=>none
 | .ext i x=>match x.ev s with
  | .tup vs=>vs[i]?.map λd=>(d,[])
  |_=>none
 | .mkfn f caps=>some (.fn f (caps.map (·.ev s)),[])
 | .len k x=>(dD k (x.ev s)).map λ(n:Nat)=>(.int .i64 (n:Int),[])
 | .stop=>none
 | .app e sz bytes x y=>match x.ev s,I1 sz (y.ev s)with
  | .slice nl t xs,some ys=>
   if nl=true∧ys=[]then some (.slice true [] [],[])
   else if(xs.length+ys.length)*(bytes+1)<=140737488355328∧aF ys sz=sz then
    if nl=true then some (.slice false fr ys,[(fr,0,[.tok (e+1)])])
    else match m t 0 with
     |some (.tok k)=>if k=e+1∧t≠[]then some (.slice false fr (xs++ys),[(t,0,[.tok 0]),(fr,0,[.tok (e+1)])])else none
     |_=>none
   else none
  |_,_=>none
 | .mksl e sz bytes z n c=>match n.ev s,c.ev s with
  | .int _ n,.int _ c=>if 0<=n∧n<=c∧c*(bytes+1)<=140737488355328∧z.cells.length=sz then(if z.isRw=true then(if n=c then some (.row fr n.toNat,[(fr,0,QG n.toNat z)])else none)
   else some (.slice false fr (QG n.toNat z),[(fr,0,[.tok (e+1)])]))else none
  |_,_=>none
 | .range x=>match x.ev s with
  | .str b=>some (.itp fr,[(fr,1,[.it b 0])])
  |_=>none
 | .next x=>match x.ev s with
  | .itp i=>match m i 1 with
   |some (.it b w)=>if w<b.length then
     some (.tup [.bool true,.int .i64 (w:Nat),.int .i32 (Utf8.decode ⟨b.toArray⟩ w).1],[(i,1,[.it b (w+(Utf8.decode ⟨b.toArray⟩ w).2)])])
    else some (.tup [.bool false],[])
   |_=>none
  |_=>none
 | .call f xs=>match f.ev s with
  | .fn f caps=>match S f with
   |some q=>q.ex (xs.map (·.ev s)++caps) m fr
   |none=>none
  |_=>none
def ofLeaf:Value->Option D
 | .bool b=>some (.bool b)
 | .int k n=>some (.int k n)
 | .string s=>some (.str s.data.toList)
 | .slice none 0 0=>some (.slice true [] [])
 | .pointer none=>some .nilptr
 | .nilIface=>some .nilIface
 | .nilFunc=>some .nilFunc
 | .map none=>some .nilMap
 |_=>none
def ofLeaves:List Value->Option (List D)
 |[]=>some []
 |v::r=>match ofLeaf v,ofLeaves r with
  |some d,some ds=>some (d::ds)
  |_,_=>none
def ofVal:Value->Option D
 | .agg cs=>(ofLeaves cs.toList).map .agg
 |v=>ofLeaf v
def AE:Operand->Option GW
 | .tmp t=>some (.t t)
 | .const v=>(ofVal v).map .c
 | .func f=>some (.c (.fn f []))
 | .global _=>none
def D0:List Operand->Option (List GW)
 |[]=>some []
 |x::r=>match AE x,D0 r with
  |some a,some l=>some (a::l)
  |_,_=>none
def Ij:Option Operand->Option (Option GW)
 |none=>some none
 |some x=>(AE x).map some
def CS(P:Program)(t:TypeId):Option Nat:=(P.info? t).map (·.size)
def qJ(P:Program)(t:TypeId):Option (Option Nat):=
 match P.underlying t with
 |some (.struct _)|some (.array _ _)=>(CS P t).map some
 |some _=>some none
 |none=>none
def Db(P:Program)(t:TypeId):Option D:=
 match P.info? t with
 |some i=>match i.zero with
  |some z=>ofVal z
  |none=>none
 |none=>none
def IV(P:Program)(e:TypeId):Option (Nat×Nat):=
 match P.info? e with
 |some i=>match i.zero with
  |some z=>if 0<i.size∧z.cells.size=i.size then some (i.size,i.bytes)else none
  |none=>none
 |none=>none
def IU{P:Program}{e sz bytes:Nat}(h:IV P e=some (sz,bytes)):
  0<sz∧∃i z,P.info? e=some i∧i.size=sz∧i.zero=some z∧z.cells.size=sz∧i.bytes=bytes:=by
 unfold IV at h;split at h
 ·grind
 ·cases h
def DB(P:Program)(v:Array Field):List (Nat×Operand)->Option (List (Nat×Nat×GW))
 |[]=>some []
 |(i,x)::r=>match v[i]?,AE x,DB P v r with
  |some f,some y,some l=>match CS P f.type with
   |some n=>some ((f.offset,n,y)::l)
   |none=>none
  |_,_,_=>none
def eD(P:Program)(v:List Field):Bool:=v.all λf=>(CS P f.type).isSome
def Mb(P:Program):List Field->Option (List (Nat×Nat))
 |[]=>some []
 |f::r=>if f.name= "_" then none else match P.underlying f.type,Mb P r with
  |some (.int _),some l=>some ((0,f.offset)::l)
  |some .bool,some l=>some ((1,f.offset)::l)
  |some .string,some l=>some ((2,f.offset)::l)
  |_,_=>none
def Fy(P:Program):List Field->Option (List (Nat×Nat))
 |[]=>some []
 |f::r=>if f.name= "_" then none else match P.underlying f.type,Fy P r with
  |some (.int _),some l=>some ((0,f.offset)::l)
  |some .bool,some l=>some ((1,f.offset)::l)
  |some .string,some l=>some ((2,f.offset)::l)
  |some (.struct fs),some l=>match CS P f.type,Mb P fs.toList with
   |some n,some l2=>if P.stoodInHeld f.type=false∧(l2.all λp=>decide (p.2<n))=true then some ((l2.map λp=>(p.1,f.offset+p.2))++l)else none
   |_,_=>none
  |_,_=>none
def GK:Operand->Bool
 | .const _=>true
 |_=>false
def UV(P:Program)(ne:Bool)(t:TypeId)(x y:Operand)(a b:GW):Option DOp:=
 match P.underlying t with
 |some .bool=>some (.beq ne a b)
 |some (.int _)|some .string=>some (.bin (if ne then .neq else .eql) a b)
 |some (.struct fs)=>if P.stoodInHeld t=false∧P.eqGuardType P.depth t=false then(Fy P fs.toList).map λl=> .seq ne l a b else none
 |some (.slice _)=>some (.nileq ne 0 a b)
 |some (.pointer _)=>some (.nileq ne 1 a b)
 |some (.func ..)=>some (.nileq ne 3 a b)
 |some (.interface _)=>if GK x||GK y then some (.nileq ne 2 a b)else none
 |_=>none
def isStr(P:Program)(u:TypeId):Bool:=match P.underlying u with
 |some .string=>true
 |_=>false
def kM{P:Program}{u:TypeId}(h:isStr P u=true):P.underlying u=some .string:=by
 grind [isStr]
def Gz(P:Program)(c:Call):Option DOp:=
 match c.callee with
 | .value f=>match AE f,D0 c.args.toList with
  |some g,some xs=>some (.call g xs)
  |_,_=>none
 | .builtin .len=>match c.args.toList,c.argTypes.toList with
  |[x],[t]=>match P.underlying t with
   |some .string=>(AE x).map (.len true)
   |some (.slice _)=>(AE x).map (.len false)
   |_=>none
  |_,_=>none
 | .builtin .append=>match c.args.toList,c.argTypes.toList with
  |[x,y],[t,u]=>if u=t∨isStr P u=true then match P.underlying t with
   |some (.slice e)=>match IV P e,AE x,AE y with
    |some (sz,bytes),some a,some b=>some (.app e sz bytes a b)
    |_,_,_=>none
   |_=>none
   else none
  |_,_=>none
 | .builtin .max=>match c.args.toList with
  |[x,y]=>match AE x,AE y with
   |some a,some b=>some (.mxm true a b)
   |_,_=>none
  |_=>none
 | .builtin .min=>match c.args.toList with
  |[x,y]=>match AE x,AE y with
   |some a,some b=>some (.mxm false a b)
   |_,_=>none
  |_=>none
 |_=>none
def F5(sz:Nat):List (Nat×Operand)->Option (List (Nat×Nat×GW))
 |[]=>some []
 |(i,x)::r=>match AE x,F5 sz r with
  |some a,some l=>some ((i*sz,sz,a)::l)
  |_,_=>none
def tr(P:Program)(op:Op):Option DOp:=
 match op with
 | .move x| .assign x=>(AE x).map .mv
 | .pick c a b=>match AE c,AE a,AE b with
  |some c,some a,some b=>some (.pick c a b)
  |_,_,_=>none
 | .alloc t=>(Db P t).map λd=> .alloc d.cells
 | .box _ x=>(AE x).map .box
 | .build t parts=>match P.underlying t,Db P t with
  |some (.struct fields),some (.agg zs)=>if eD P fields.toList=true then(DB P fields parts.toList).map λl=> .build zs l else none
  |some (.array _ e),some (.agg zs)=>match CS P e with
   |some sz=>(F5 sz parts.toList).map λl=> .build zs l
   |none=>none
  |_,_=>none
 | .buildSlice t len parts=>match P.underlying t with
  |some (.slice e)=>match IV P e,D0 (parts.toList.map (·.2))with
   |some (sz,_),some l=>if parts.toList.map (·.1)=QA len∧len*sz<=2 ^ 24 then some (.bslice e sz l)else none
   |_,_=>none
  |_=>none
 | .load t x=>match qJ P t,AE x with
  |some k,some x=>some (.load k x)
  |_,_=>none
 | .store t x v=>match CS P t,AE x,AE v with
  |some (n+1),some x,some v=>some (.store (n+1) x v)
  |_,_,_=>none
 | .nilCheck x=>(AE x).map .nilchk
 | .binOp .eql t x y _=>match AE x,AE y with
  |some a,some b=>UV P false t x y a b
  |_,_=>none
 | .binOp .neq t x y _=>match AE x,AE y with
  |some a,some b=>UV P true t x y a b
  |_,_=>none
 | .binOp op _ x y _=>match AE x,AE y with
  |some a,some b=>some (.bin op a b)
  |_,_=>none
 | .unOp op _ x=>(AE x).map (.un op)
 | .convert src dst x=>match P.underlying src,P.underlying dst,AE x with
  |some (.int _),some (.int k),some x=>some (.conv k x)
  |some .string,some .string,some x=>some (.s2s x)
  |some .string,some (.slice e),some x=>match P.underlying e with
   |some (.int .u8)=>some (.s2b x)
   |_=>none
  |some (.slice e),some .string,some x=>match P.underlying e with
   |some (.int .u8)=>some (.b2s x)
   |_=>none
  |_,_,_=>none
 | .fieldAddr t x f=>match P.underlying t,AE x with
  |some (.struct fields),some x=>match fields[f]? with
   |some u=>match CS P u.type with
    |some (_+1)=>some (.faddr u.offset x)
    |_=>none
   |none=>none
  |_,_=>none
 | .field t x f=>match P.underlying t,AE x with
  |some (.struct fields),some x=>match fields[f]? with
   |some u=>(qJ P u.type).map λk=> .field k u.offset x
   |none=>none
  |_,_=>none
 | .indexAddr t x i=>match P.underlying t,AE x,AE i with
  |some (.slice e),some x,some i=>(CS P e).map λn=> .iaddr n x i
  |some (.array len e),some x,some i=>(CS P e).map λn=> .iadda len n x i
  |_,_,_=>none
 | .index t x i=>match P.underlying t,AE x,AE i with
  |some .string,some x,some i=>some (.idxs x i)
  |some (.array len e),some x,some i=>match qJ P e with
   |some none=>if CS P e=some 1 then some (.idxa len x i)else none
   |some (some sz)=>some (.idxm len sz x i)
   |none=>none
  |_,_,_=>none
 | .slice t x lo hi none=>match P.underlying t,AE x,Ij lo,Ij hi with
  |some .string,some x,some l,some h=>some (.cuts x l h)
  |some (.slice e),some x,some l,some h=>(CS P e).map λn=> .cutl n x l h
  |_,_,_,_=>none
 | .makeInterface t x=>match P.underlying t,AE x with
  |some (.interface _),_=>none
  |some _,some x=>some (.mkif t x)
  |_,_=>none
 | .typeAssert x _ t ok=>match P.underlying t,Db P t,AE x with
  |some (.interface _),_,_=>none
  |some _,some z,some x=>some (.tass t ok z x)
  |_,_,_=>none
 | .extract x i=>(AE x).map (.ext i)
 | .makeFunc (.func f) first caps=>match first.toList,D0 caps.toList with
  |[],some l=>some (.mkfn f l)
  |_,_=>none
 | .makeSlice t n c=>match P.underlying t with
  |some (.slice e)=>match IV P e,Db P e,AE n,AE c with
   |some (sz,bytes),some z,some n,some c=>some (.mksl e sz bytes z n c)
   |_,_,_,_=>none
  |_=>none
 | .range t x=>match P.underlying t,AE x with
  |some .string,some x=>some (.range x)
  |_,_=>none
 | .next x true=>(AE x).map .next
 | .call c=>Gz P c
 |_=>none
def Rep.ofLeaf{w:World}{g:Gh}{v:Value}{d:D}(h:ofLeaf v=some d):Rep w g d v∧v.oneCell'=true∧d.leaf=true:=by
 unfold Vd.ofLeaf at h;split at h<;>first|(simp only[Qh]at h;subst h)|cases h
 ·exact⟨.bool _,rfl,rfl⟩
 ·exact⟨.int _ _,rfl,rfl⟩
 ·rename_i s;exact⟨.str s.data.toList,rfl,rfl⟩
 ·exact⟨.nils _,rfl,rfl⟩
 ·exact⟨.nilp,rfl,rfl⟩
 ·exact⟨.nili,rfl,rfl⟩
 ·exact⟨.nilf,rfl,rfl⟩
 ·exact⟨.nilm,rfl,rfl⟩
def A1.ofLeaves{w:World}{g:Gh}:∀{vs:List Value} {ds:List D},ofLeaves vs=some ds->A1 w g ds vs
 |[],ds,h=>by simp only[Vd.ofLeaves,Qh]at h;subst h;exact A1.nil w g
 |v::r,ds,h=>by
  unfold Vd.ofLeaves at h;split at h
  ·rename_i d c u z;simp only[Qh]at h;subst h;obtain⟨p,q,_⟩:=Rep.ofLeaf (w:=w) (g:=g) u;exact A1.append (A1.one p q) (A1.ofLeaves z)
  ·cases h
def aK{w:World}{g:Gh}{ds:List D}{vs:List Value}(h:A1 w g ds vs):Rep w g (.agg ds) (.agg vs.toArray):= .agg ds vs h.1 h.2.1 h.2.2
def aJ{w:World}{g:Gh}{ds:List D}{v:Value}(h:Rep w g (.agg ds) v):∃vs:List Value,v= .agg vs.toArray∧A1 w g ds vs:=by
 cases h with
 |agg _ vs u q d=>exact⟨vs,rfl,u,q,d⟩
theorem Rep.ofVal{w:World}{g:Gh}{v:Value}{d:D}(h:ofVal v=some d):Rep w g d v:=by
 cases v with
 |agg cs=>
  simp only[Vd.ofVal,Qi]at h;obtain⟨ds,u,rfl⟩:=h;exact aK (A1.ofLeaves u)
 |_=>simp only[Vd.ofVal]at h;exact(Rep.ofLeaf h).1
def OW{v:Value}{d:D}(h:ofLeaf v=some d):d.data=true:=by
 unfold ofLeaf at h;split at h<;>first|(simp only[Qh]at h;subst h;rfl)|cases h
def Da(w:World)(g:Gh)(s:Nat->D)(a:Act):Prop:=∀t,Rep w g (s t) (a.tmps.getD t undef)
def Da.ext{w w':World}{g c:Gh}{s:Nat->D}{a:Act}(h:Da w g s a)(x:Hk w g w' c):Da w' c s a:=λt=>(h t).ext x
section
variable{P:Program}{w:World}{g:Gh}{s:Nat->D}{a:Act}
def Da.arg(h:Da w g s a){x:Operand}{y:GW}(p:AE x=some y):Rep w g (y.ev s) (a.eval x):=by
 cases x with
 |tmp t=>simp only[AE,Qh]at p;subst p;exact h t
 |const v=>
  simp only[AE,Qi]at p;obtain⟨d,u,rfl⟩:=p;exact Rep.ofVal u
 |func f=>
  simp only[AE,Qh]at p;subst p;exact .fn f [] [] rfl U
 |global _=>cases p
def Da.args(h:Da w g s a):∀{xs:List Operand} {ys:List GW},D0 xs=some ys->
  (xs.map a.eval).length=(ys.map (·.ev s)).length∧∀(j:Nat) d v,(ys.map (·.ev s))[j]?=some d->(xs.map a.eval)[j]?=some v->Rep w g d v
 |[],ys,hx=>by simp only[D0,Qh]at hx;subst hx;simp
 |x::r,ys,hx=>by
  unfold D0 at hx;split at hx
  ·rename_i y l u z;simp only[Qh]at hx;subst hx;obtain⟨p,q⟩:=Da.args h z;refine⟨by simpa using p,λj d v t i=>?_⟩;cases j with
   |zero=>
    simp only[Qy,QL,Qh]at t i;subst t i;exact h.arg u
   |succ j=>
    simp only[Qy,Zn]at t i;exact q j d v t i
  ·cases hx
def Rep.bool_inv{b:Bool}{v:Value}(h:Rep w g (.bool b) v):v= .bool b:=XC
def Rep.int_inv{k:IntKind}{n:Int}{v:Value}(h:Rep w g (.int k n) v):v= .int k n:=XC
def Rep.str_inv{b:List UInt8}{v:Value}(h:Rep w g (.str b) v):v= .string ⟨b.toArray⟩:=XC
def Rep.cells{d:D}{v:Value}(h:Rep w g d v)(z:d.data=true):A1 w g d.cells v.cells.toList:=by
 cases h with
 |agg ds vs u q m=>exact(⟨u,q,m⟩:A1 w g ds vs)
 |junk=>cases z
 |tup=>cases z
 |bool b=>exact A1.one (.bool b) rfl
 |int k n=>exact A1.one (.int k n) rfl
 |str b=>exact A1.one (.str b) rfl
 |nils t=>exact A1.one (.nils t) rfl
 |slice t xs a n c sz vv u q m x e r p s j=>exact A1.one (.slice t xs a n c sz vv u q m x e r p s j) rfl
 |ptr i o b u=>exact A1.one (.ptr i o b u) rfl
 |row i n c b y u=>exact A1.one (.row i n c b y u) rfl
 |eptr ds a vv u q m x e=>exact A1.one (.eptr ds a vv u q m x e) rfl
 |nilp=>exact A1.one .nilp rfl
 |iface t d v u q=>exact A1.one (.iface t d v u q) rfl
 |nili=>exact A1.one .nili rfl
 |fn f ds vs u q=>exact A1.one (.fn f ds vs u q) rfl
 |nilf=>exact A1.one .nilf rfl
 |nilm=>exact A1.one .nilm rfl
 |itp i b u=>exact A1.one (.itp i b u) rfl
end
end Go.Vd
namespace Go.Vd
open Go.RowKit
structure aTg (P:Program) (B:Nat) (w0:World) (m:GV) (g:Gh) (fr:Id) (w:World) (m':GV) (d:D) (v':Value) (w':World) (g':Gh):Prop where
 inv:Hc P B w0 m' w' g'
 ext:Hk w g w' g'
 rep:Rep w' g' d v'
 fresh:∀i,B2 m g i->¬fr<:+i->B2 m' g' i
def C7(P:Program)(B:Nat)(w0:World)(m:GV)(g:Gh)(fr:Id)(w:World)(m':GV)(d:D)(x:Sem Next):Prop:=
 ∃s w' c r,x.run P w= .ok r w'∧(r= .value s∨(r= .skip∧s=undef))∧aTg P B w0 m g fr w m' d s w' c
section
variable{P:Program}{B:Nat}{w0 w:World}{m:GV}{g:Gh}{fr:Id}{s:Nat->D}{a:Act}
def C7.pure{x:Sem Next}{v:Value}{d:D}(hi:Hc P B w0 m w g)(j:x.run P w= .ok (.value v) w)(z:Rep w g d v):C7 P B w0 m g fr w m d x:=
 ⟨v,w,g,_,j,.inl rfl,hi,Hk.refl w g,z,λ_ h _=>h⟩
theorem Rep.slice_inv {nl : Bool} {t : Id} {xs : List D} {v : Value} (h : Rep w g (.slice nl t xs) v) :
  (nl = true ∧ xs = [] ∧ v = .slice none 0 0) ∨
  (nl = false ∧ ∃ ad n c sz, ∃ vv : Nat → Value, v = .slice (some ad) n c ∧ n = xs.length ∧ n ≤ c ∧ (∀ d ∈ xs, d.cells.length = sz) ∧
   (∀ j, j < n * sz → w.cell? (ad.add j) = some (vv j)) ∧ (∀ j, j < n * sz → (vv j).oneCell' = true) ∧
   (∀ (j : Nat) d, (flat xs)[j]? = some d → Rep w g d (vv j)) ∧ (0 < n * sz → ad.off + n * sz ≤ g.G ad.block) ∧
   (t ≠ [] → ad.off = 0 ∧ ad.spot = none ∧ g.tb t = some (ad.block, n, c, sz)) ∧ (∀ d ∈ xs, d.calm = true)) := by
 cases h with
 | nils t => exact .inl ⟨rfl, rfl, rfl⟩
 | slice t xs ad n c sz vv h1 h2 h3 h4 h5 h6 h7 h8 h9 => exact .inr ⟨rfl, ad, n, c, sz, vv, rfl, h1, h2, h3, h4, h5, h6, h7, h8, h9⟩
def Rep.len_slice{nl:Bool}{t:Id}{xs:List D}{v:Value}(h:Rep w g (.slice nl t xs) v):∃ad c,v= .slice ad xs.length c∧(nl=ad.isNone):=by
 rcases h.slice_inv with ⟨rfl,rfl,rfl⟩|⟨rfl,ad,n,c,sz,z,rfl,rfl,_⟩
 ·exact⟨none,0,rfl,rfl⟩
 ·exact⟨some ad,c,rfl,rfl⟩
def Rep.ptr_inv{i:Id}{o:Nat}{v:Value}(h:Rep w g (.ptr i o) v):∃b,v= .pointer (some ⟨b,o,none⟩)∧g.dl i=some b:=by
 cases h with
 |ptr _ _ b f=>exact⟨b,rfl,f⟩
def Rep.row_inv{i:Id}{n:Nat}{v:Value}(h:Rep w g (.row i n) v):∃b c,v= .slice (some ⟨b,0,none⟩) n c∧n<=c∧g.dl i=some b:=by
 cases h with
 |row _ _ c b p f=>exact⟨b,c,rfl,p,f⟩
def Rep.eptr_inv{ds:List D}{v:Value}(h:Rep w g (.eptr ds) v):∃ad,∃z:Nat->Value,v= .pointer (some ad)∧(∀j,j<ds.length->w.cell? (ad.add j)=some (z j))∧
  (∀j,j<ds.length->(z j).oneCell'=true)∧(∀(j:Nat) d,ds[j]?=some d->Rep w g d (z j))∧(0<ds.length->ad.off+ds.length<=g.G ad.block)∧(∀d∈ds,d.calm=true):=by
 cases h with
 |eptr _ ad z u q m x k=>exact⟨ad,z,rfl,u,q,m,x,k⟩
def Rep.tup_inv{ds:List D}{v:Value}(h:Rep w g (.tup ds) v):∃vs:List Value,v= .tuple vs.toArray∧vs.length=ds.length∧∀(j:Nat) d v,ds[j]?=some d->vs[j]?=some v->Rep w g d v:=by
 cases h with
 |tup _ vs u q=>exact⟨vs,rfl,u,q⟩
def Rep.iface_inv{t:TypeId}{d:D}{v:Value}(h:Rep w g (.iface t d) v):∃u,v= .iface t u∧Rep w g d u∧d.calm=true:=by
 cases h with
 |iface _ _ u y q=>exact⟨u,rfl,q,y⟩
def Rep.fn_inv{f:FuncId}{ds:List D}{v:Value}(h:Rep w g (.fn f ds) v):∃vs:List Value,v= .func (.func f) #[] vs.toArray∧vs.length=ds.length∧∀(j:Nat) d v,ds[j]?=some d->vs[j]?=some v->Rep w g d v:=by
 cases h with
 |fn _ _ vs u q=>exact⟨vs,rfl,u,q⟩
def Rep.nilp_inv{v:Value}(h:Rep w g .nilptr v):v= .pointer none:=XC
def Rep.nili_inv{v:Value}(h:Rep w g .nilIface v):v= .nilIface:=XC
def Rep.nilf_inv{v:Value}(h:Rep w g .nilFunc v):v= .nilFunc:=XC
def IK(op:BinOp)(t:TypeId)(x y:Operand)(o j:Value)(h:∀cs,o≠ .agg cs)(q:o≠ .nilIface)(W:World):(eqGuard op t x y o j).run P W= .ok () W:=by
 cases o with
 |nilIface=>exact absurd rfl q
 |agg c=>exact absurd rfl (h c)
 |_=>cases op<;>rfl
theorem Uy {op:BinOp} {t:TypeId} {x y:D} {d:D} {o j:Value} (f:Rep w g x o) (p:Rep w g y j) (h:AQ op x y=some d):
  ∃v,(binOp op t o j).run P w= .ok v w∧Rep w g d v∧(∀cs,o≠ .agg cs)∧o≠ .nilIface:=by
 unfold AQ at h
 split at h
 ·rename_i k n m a
  rw[f.int_inv,p.int_inv]
  split at h
  ·split at h
   ·rename_i i
    simp only[Qh]at h;subst h
    refine⟨_,?_,.int _ _,U,U⟩
    have:¬a<0:=O
    simp[binOp,Op.shift,this]
   ·cases h
  ·split at h
   ·rename_i i
    simp only[Qh]at h;subst h
    refine⟨_,?_,.int _ _,U,U⟩
    have:¬a<0:=O
    simp[binOp,Op.shift,this]
   ·cases h
  ·rename_i u q
   by_cases s:k≠m
   ·rw[if_pos s]at h;cases h
   rw[if_neg s]at h
   have s:k=m:=Classical.not_not.1 s
   subst s
   cases op<;>simp only[reduceCtorEq,Qh]at h<;>
    first
    |(subst h;first
      |exact⟨_,by simp[binOp,Op.intArith,intBits_and,intBits_or,intBits_xor,intBits_andNot,Op.intCmp],.int _ _,U,U⟩
      |exact⟨_,by simp[binOp,Op.intCmp],.bool _,U,U⟩)
    |(exact absurd rfl u)
    |(exact absurd rfl q)
    |(
     split at h
     ·cases h
     ·rename_i r
      simp only[Qh]at h;subst h
      exact⟨_,by simp[binOp,Op.intDiv,r],.int _ _,U,U⟩)
 ·rename_i b c
  rw[f.str_inv,p.str_inv]
  split at h
  ·split at h
   ·rename_i hl
    simp only[Qh]at h;subst h
    refine⟨.string ⟨(b++c).toArray⟩,?_,.str _,U,U⟩
    have:=run_string_add_sum (P:=P) (w:=w) ⟨b.toArray⟩ ⟨c.toArray⟩ (by simpa[ByteArray.size]using hl)
    simp only[binOp,this]
    congr 2
   ·cases h
  all_goals first|(cases h;done)|skip
  all_goals
   simp only[Qh]at h;subst h
   exact⟨_,by simp[binOp,Op.stringOp,ByteArray.toList_mk],.bool _,U,U⟩
 ·cases h
def aAP{op:UnOp}{x d:D}{q:Value}(f:Rep w g x q)(h:xW op x=some d):∃v,(Op.unary op q).run P w= .ok v w∧Rep w g d v:=by
 unfold xW at h;split at h
 ·simp only[Qh]at h;subst h;rw[f.int_inv];exact⟨_,by simp[Op.unary,Op.intArith],.int _ _⟩
 ·simp only[Qh]at h;subst h;rw[f.bool_inv];exact⟨_,by simp[Op.unary],.bool _⟩
 ·simp only[Qh]at h;subst h;rw[f.int_inv];exact⟨_,by simp only[Op.unary,intBits_xor];rfl,.int _ _⟩
 ·cases h
end
section
variable{P:Program}{B:Nat}{w0 w:World}{m:GV}{g:Gh}{fr:Id}{s:Nat->D}{a:Act}
def GO:TypeDesc->Bool
 | .struct _| .array _ _=>true
 |_=>false
def CJ{t:TypeId}{d:TypeDesc}(a:P.underlying t=some d)(z:GO d=false){cs:Array Value}{o:Nat}{v:Value}(y:cs[o]?=some v):
  (part t cs o).run P w= .ok v w:=by
 unfold part isAgg;simp only[Sem.run_bind,run_underlying a];cases d<;>simp_all [GO]
def EG{k:Nat}{x y:D}{q j:Value}{b:Bool}{t:TypeId}{p:TypeDesc}(f:Rep w g x q)(d:Rep w g y j)(h:Dt k x y=some b)(e:P.underlying t=some p)
  (v:(k=0∧∃k,p= .int k)∨(k=1∧p= .bool)∨(k=2∧p= .string)) (n:Nat):(Op.equalIn (n+1) t q j).run P w= .ok b w:=by
 unfold Dt at h;split at h
 ·rename_i i a k2 r;split at h
  ·rename_i s;subst s;simp only[Qh]at h;subst h;rw[f.int_inv,d.int_inv];rcases v with ⟨_,m,rfl⟩|⟨u,_⟩|⟨u,_⟩
   ·exact run_equalIn_int w n t _ _ _ _ e
   ·cases u
   ·cases u
  ·cases h
 ·simp only[Qh]at h;subst h;rw[f.bool_inv,d.bool_inv];rcases v with ⟨u,_⟩|⟨_,rfl⟩|⟨u,_⟩
  ·cases u
  ·exact run_equalIn_bool' w n t _ _ e
  ·cases u
 ·simp only[Qh]at h;subst h;rw[f.str_inv,d.str_inv];rcases v with ⟨u,_⟩|⟨u,_⟩|⟨_,rfl⟩
  ·cases u
  ·cases u
  ·rw[run_equalIn_string w n t _ _ e];simp[ByteArray.toList_mk]
 ·cases h
def MM{xs ys:List D}{vx vy:List Value}(p:A1 w g xs vx)(d:A1 w g ys vy)(n:Nat):∀{fs:List Field} {l:List (Nat×Nat)} {b:Bool},
  Mb P fs=some l->AW xs ys l=some b->(Op.eqFields (n+1) vx.toArray vy.toArray fs).run P w= .ok b w
 |[],l,b,h1,h2=>by
  simp only[Mb,Qh]at h1;subst h1;simp only[AW,Qh]at h2;subst h2;rfl
 |f::r,l,b,h1,h2=>by
  unfold Mb at h1;split at h1
  ·cases h1
  rename_i t;have key:∃k s td,P.underlying f.type=some td∧Mb P r=some s∧l=(k,f.offset)::s∧((k=0∧∃k,td= .int k)∨(k=1∧td= .bool)∨(k=2∧td= .string)):=by
   grind
  obtain⟨k,s,td,hu,hl,rfl,j⟩:=key;unfold AW at h2;split at h2
  ·rename_i x y u ey;have a:f.offset<vx.length:=by rw[p.1];exact(Qm.1 u).1
   have c:f.offset<vy.length:=by rw[d.1];exact(Qm.1 ey).1
   have rx:=p.2.2 _ x vx[f.offset] u (Qj a);have ry:=d.2.2 _ y vy[f.offset] ey (Qj c);have z:GO td=false:=by rcases j with ⟨_,m,rfl⟩|⟨_,rfl⟩|⟨_,rfl⟩<;>rfl
   have px:=CJ (w:=w) hu z (cs:=vx.toArray) (o:=f.offset) (v:=vx[f.offset]) (by simp[a]);have py:=CJ (w:=w) hu z (cs:=vy.toArray) (o:=f.offset) (v:=vy[f.offset]) (by simp[c]);have ih:=λb' (i:AW xs ys s=some b')=>MM p d n hl i
   split at h2
   ·rename_i q;have e:=EG rx ry q hu j n;simp only[Op.eqFields,ne_eq,t,not_false_eq_true,if_true,Sem.run_bind,px,Result.andThen_ok,py,e,Zz,QO,if_false];exact ih b h2
   ·rename_i q;have e:=EG rx ry q hu j n;simp only[Qh]at h2;subst h2;simp only[Op.eqFields,ne_eq,t,not_false_eq_true,if_true,Sem.run_bind,px,Result.andThen_ok,py,e,Zh,if_true,Sem.run_pure]
   ·cases h2
  ·cases h2
def A1.part{ds:List D}{vs:List Value}(h:A1 w g ds vs)(o n:Nat):A1 w g ((ds.drop o).take n) ((vs.drop o).take n):=by
 refine⟨by simp[h.1],λv y=>h.2.1 v (QE (QJ y)),λj d v z y=>?_⟩;rw[ZA]at z y;split at z
 ·rw[if_pos (by assumption)]at y;rw[QD]at z y;exact h.2.2 _ d v z y
 ·cases z
def LP{xs ys:List D}{o n:Nat}{l:List (Nat×Nat)}{b:Bool}:∀{l2:List (Nat×Nat)},(l2.all λp=>decide (p.2<n))=true->AW xs ys ((l2.map λp=>(p.1,o+p.2))++l)=some b->
  ∃b2,AW ((xs.drop o).take n) ((ys.drop o).take n) l2=some b2∧(b2=true->AW xs ys l=some b)∧(b2=false->b=false)
 |[],_,h=>⟨true,rfl,λ_=>h,λh=>Xd⟩
 |(k,q)::r,hn,h=>by
  rw[List.all_cons,Q_,decide_eq_true_eq]at hn;obtain⟨z,j⟩:=hn;have g:∀zs:List D,((zs.drop o).take n)[q]?=zs[o+q]?:=λzs=>by
   rw[ZA,if_pos z,QD]
  simp only[Qy,Q8,AW]at h ⊢;rw[g,g];split at h
  ·rename_i x y u m;revert h;cases Dt k x y with
   |none=>intro h;cases h
   |some v=>
    cases v with
    |true=>intro h;exact LP j h
    |false=>
     intro h;simp only[Qh]at h;exact⟨false,rfl,λe=>(nomatch e),λ_=>h.symm⟩
  ·cases h
def HZ{t:TypeId}{n:Nat}{u:Array Field}(a:P.underlying t=some (.struct u))(c:CS P t=some n){cs:List Value}{o:Nat}:
  (part t cs.toArray o).run P w= .ok (.agg ((cs.drop o).take n).toArray) w:=by
 unfold CS at c;rw[Qi]at c;obtain⟨i,hi,rfl⟩:=c;unfold part isAgg;simp only[Sem.run_bind,run_underlying a,Result.andThen_ok,Sem.run_pure,if_true];simp[sizeOf,typeInfo,hi,List.extract]
def FN{xs ys:List D}{vx vy:List Value}(u:A1 w g xs vx)(hy:A1 w g ys vy)(n:Nat):∀{fs:List Field} {l:List (Nat×Nat)} {b:Bool},
  Fy P fs=some l->AW xs ys l=some b->(Op.eqFields (n+2) vx.toArray vy.toArray fs).run P w= .ok b w
 |[],l,b,h1,h2=>by
  simp only[Fy,Qh]at h1;subst h1;simp only[AW,Qh]at h2;subst h2;rfl
 |f::r,l,b,h1,h2=>by
  unfold Fy at h1;split at h1
  ·cases h1
  rename_i t;have key:(∃k l' td,P.underlying f.type=some td∧Fy P r=some l'∧l=(k,f.offset)::l'∧((k=0∧∃k,td= .int k)∨(k=1∧td= .bool)∨(k=2∧td= .string)))∨
    ∃d l' l2 sz,P.underlying f.type=some (.struct d)∧Fy P r=some l'∧CS P f.type=some sz∧Mb P d.toList=some l2∧P.stoodInHeld f.type=false∧(l2.all λp=>decide (p.2<sz))=true∧l=(l2.map λp=>(p.1,f.offset+p.2))++l':=by
   split at h1
   ·simp_all
   ·simp_all
   ·simp_all
   ·grind
   ·cases h1
  rcases key with ⟨k,l',td,hu,hl,rfl,j⟩|⟨d,l',l2,sz,hu,hl,pa,ca,hp,s,rfl⟩
  ·unfold AW at h2;split at h2
   ·rename_i x y ex ey;have a:f.offset<vx.length:=by rw[u.1];exact(Qm.1 ex).1
    have c:f.offset<vy.length:=by rw[hy.1];exact(Qm.1 ey).1
    have rx:=u.2.2 _ x vx[f.offset] ex (Qj a);have ry:=hy.2.2 _ y vy[f.offset] ey (Qj c);have z:GO td=false:=by rcases j with ⟨_,k',rfl⟩|⟨_,rfl⟩|⟨_,rfl⟩<;>rfl
    have px:=CJ (w:=w) hu z (cs:=vx.toArray) (o:=f.offset) (v:=vx[f.offset]) (by simp[a]);have py:=CJ (w:=w) hu z (cs:=vy.toArray) (o:=f.offset) (v:=vy[f.offset]) (by simp[c]);have ih:=λb' (i:AW xs ys l'=some b')=>FN u hy n hl i
    split at h2
    ·rename_i m;have e:=EG rx ry m hu j (n+1);simp only[Op.eqFields,ne_eq,t,not_false_eq_true,if_true,Sem.run_bind,px,Result.andThen_ok,py,e,Zz,QO,if_false];exact ih b h2
    ·rename_i m;have e:=EG rx ry m hu j (n+1);simp only[Qh]at h2;subst h2;simp only[Op.eqFields,ne_eq,t,not_false_eq_true,if_true,Sem.run_bind,px,Result.andThen_ok,py,e,Zh,if_true,Sem.run_pure]
    ·cases h2
   ·cases h2
  ·obtain⟨b2,ra,ht,hf⟩:=LP s h2;have px:=HZ (w:=w) hu pa (cs:=vx) (o:=f.offset);have py:=HZ (w:=w) hu pa (cs:=vy) (o:=f.offset);have q:P.fieldsOf f.type=d:=by simp[Program.fieldsOf,hu]
   have e:(Op.equalIn (n+2) f.type (.agg ((vx.drop f.offset).take sz).toArray) (.agg ((vy.drop f.offset).take sz).toArray)).run P w= .ok b2 w:=by
    rw[run_equalIn_struct w (n+1) f.type _ _ (by rw[q];exact hu) hp,q];exact MM (u.part f.offset sz) (hy.part f.offset sz) n ca ra
   cases b2 with
   |true=>
    simp only[Op.eqFields,ne_eq,t,not_false_eq_true,if_true,Sem.run_bind,px,Result.andThen_ok,py,e,Zz,QO,if_false];exact FN u hy n hl (ht rfl)
   |false=>
    rw[hf rfl];simp only[Op.eqFields,ne_eq,t,not_false_eq_true,if_true,Sem.run_bind,px,Result.andThen_ok,py,e,Zh,if_true,Sem.run_pure]
def U1{xs ys:List D}{q j:Value}{b:Bool}{t:TypeId}{u:Array Field}{l:List (Nat×Nat)}(f:Rep w g (.agg xs) q)(d:Rep w g (.agg ys) j)
  (a:P.underlying t=some (.struct u)) (o:P.stoodInHeld t=false) (z:P.eqGuardType P.depth t=false) (hl:Fy P u.toList=some l) (h:AW xs ys l=some b) (x y:Operand) (op:BinOp):
  (Op.equal t q j).run P w= .ok b w∧(eqGuard op t x y q j).run P w= .ok () w:=by
 obtain⟨n,rfl,e⟩:=aJ f;obtain⟨v,rfl,i⟩:=aJ d;constructor
 ·have r:P.fieldsOf t=u:=by simp[Program.fieldsOf,a]
  unfold Op.equal Op.maxDepth;rw[run_equalIn_struct w 9999 t _ _ (by rw[r];exact a) o,r];exact FN e i 9997 hl h
 ·cases op<;>first|rfl|(simp[eqGuard,z])
def Sn:Value->Bool
 | .int .. | .string .. | .float .. | .complex ..=>false
 |_=>true
def U3{t:TypeId}{q j:Value}{b:Bool}(y:Sn q=true)(ne:Bool)(h:(Op.equal t q j).run P w= .ok b w):
  (binOp (if ne then .neq else .eql) t q j).run P w= .ok (.bool (b !=ne)) w:=by
 cases ne<;>cases q<;>first|(simp[Sn]at y;done)|(cases j<;>simp[binOp,h])
def aDK:Nat->TypeDesc->Prop
 |0,d=>∃e,d= .slice e
 |1,d=>∃e,d= .pointer e
 |2,d=>∃e,d= .interface e
 |3,d=>∃p r v,d= .func p r v
 |_,_=>False
def cI{k:Nat}{x y:D}{o i:Value}{b:Bool}{t:TypeId}{m:TypeDesc}(f:Rep w g x o)(d:Rep w g y i)(h:ID k x y=some b)(a:P.underlying t=some m)
  (j:aDK k m) (n:Nat):(Op.equalIn (n+1) t o i).run P w= .ok b w∧Sn o=true∧(∀cs,o≠ .agg cs)∧(o= .nilIface->k=2):=by
 unfold ID at h;split at h<;>first|(exfalso;simp at h;done)|(simp only[Qh]at h;subst h)
 ·obtain⟨e,rfl⟩:=j;obtain⟨ad,c,rfl,rfl⟩:=f.len_slice;obtain⟨s,c',rfl,q⟩:=d.len_slice;have:s=none:=by
   simp_all
  subst this;refine⟨?_,rfl,U,U⟩;cases ad<;>simp[Op.equalIn,run_underlying a]
 ·obtain⟨e,rfl⟩:=j;obtain⟨ad,c,rfl,h1⟩:=f.len_slice;obtain⟨s,c',rfl,rfl⟩:=d.len_slice;have:ad=none:=by
   simp_all
  subst this;refine⟨?_,rfl,U,U⟩;simp[Op.equalIn,run_underlying a]
 ·obtain⟨e,rfl⟩:=j;rw[f.nilp_inv,d.nilp_inv];exact⟨Xq,rfl,U,U⟩
 ·obtain⟨e,rfl⟩:=j;obtain⟨b,rfl,_⟩:=d.ptr_inv;rw[f.nilp_inv];exact⟨Xq,rfl,U,U⟩
 ·obtain⟨e,rfl⟩:=j;obtain⟨b,rfl,_⟩:=f.ptr_inv;rw[d.nilp_inv];exact⟨Xq,rfl,U,U⟩
 ·obtain⟨e,rfl⟩:=j;obtain⟨ad,z,rfl,_⟩:=d.eptr_inv;rw[f.nilp_inv];exact⟨Xq,rfl,U,U⟩
 ·obtain⟨e,rfl⟩:=j;obtain⟨ad,z,rfl,_⟩:=f.eptr_inv;rw[d.nilp_inv];exact⟨Xq,rfl,U,U⟩
 ·obtain⟨e,rfl⟩:=j;rw[f.nili_inv,d.nili_inv];exact⟨Xq,rfl,U,λ_=>rfl⟩
 ·obtain⟨e,rfl⟩:=j;obtain⟨u,rfl,_,_⟩:=d.iface_inv;rw[f.nili_inv];exact⟨Xq,rfl,U,λ_=>rfl⟩
 ·obtain⟨e,rfl⟩:=j;obtain⟨u,rfl,_,_⟩:=f.iface_inv;rw[d.nili_inv];exact⟨Xq,rfl,U,U⟩
 ·obtain⟨p,r,v,rfl⟩:=j;rw[f.nilf_inv,d.nilf_inv];exact⟨Xq,rfl,U,U⟩
 ·obtain⟨p,r,v,rfl⟩:=j;obtain⟨vs,rfl,_⟩:=d.fn_inv;rw[f.nilf_inv];exact⟨Xq,rfl,U,U⟩
 ·obtain⟨p,r,v,rfl⟩:=j;obtain⟨vs,rfl,_⟩:=f.fn_inv;rw[d.nilf_inv];exact⟨Xq,rfl,U,U⟩
def dT(op:BinOp)(t:TypeId)(x y:Operand)(o j:Value)(h:∀cs,o≠ .agg cs)(q:o= .nilIface->(GK x||GK y)=true)(W:World):(eqGuard op t x y o j).run P W= .ok () W:=by
 cases o with
 |nilIface=>
  have:=q rfl;cases op<;>first|rfl|(cases j<;>first|rfl|(cases x<;>cases y<;>first|rfl|(simp[GK]at this)))
 |agg c=>exact absurd rfl (h c)
 |_=>cases op<;>rfl
end
def vB{P:Program}{t n:Nat}(h:CS P t=some n):∃i,P.info? t=some i∧i.size=n:=by
 simp_all [CS]
def Hd{P:Program}{t n:Nat}(h:CS P t=some n)(w:World):(sizeOf t).run P w= .ok n w:=by
 obtain⟨i,hi,rfl⟩:=vB h;simp[sizeOf,typeInfo,hi]
def HO{P:Program}{t:TypeId}{d:TypeDesc}(h:P.underlying t=some d)(w:World):(isAgg t).run P w= .ok (GO d) w:=by
 unfold isAgg;simp only[Sem.run_bind,run_underlying h,Result.andThen_ok];cases d<;>rfl
def Rep.un1{w:World}{g:Gh}{d:D}{v:Value}(h:Rep w g d v):Rep w g d.un1 v:=by
 cases h with
 |nils t=>exact .nils []
 |slice t xs a n c sz z u q m x e r p h8 j=>exact .slice [] xs a n c sz z u q m x e r p (λh=>absurd rfl h) j
 |junk v=>exact .junk v
 |bool b=>exact .bool b
 |int k n=>exact .int k n
 |str s=>exact .str s
 |ptr i o b u=>exact .ptr i o b u
 |row i n c b y u=>exact .row i n c b y u
 |eptr ds a z u q m x e=>exact .eptr ds a z u q m x e
 |nilp=>exact .nilp
 |agg ds vs u q m=>exact .agg ds vs u q m
 |tup ds vs u q=>exact .tup ds vs u q
 |iface t d v u q=>exact .iface t d v u q
 |nili=>exact .nili
 |fn f ds vs u q=>exact .fn f ds vs u q
 |nilf=>exact .nilf
 |nilm=>exact .nilm
 |itp i b u=>exact .itp i b u
def Rep.un{w:World}{g:Gh}{d:D}{v:Value}(h:Rep w g d v):Rep w g d.un v:=by
 cases d with
 |agg cs=>
  obtain⟨vs,rfl,u,q,m⟩:=aJ h;refine .agg _ vs (by simp[u]) q (λj d v z y=>?_);rw[Qq,Qi]at z;obtain⟨n,x,rfl⟩:=z;exact(m j n v x y).un1
 |slice nl t xs=>exact h.un1
 |_=>exact h
def aHX{d:D}(h:d.data=true):d.un.data=true:=by cases d<;>first|exact h|rfl
theorem Rn(d:D):d.un.cells.length=d.cells.length:=by cases d<;>simp[D.un,D.cells]
def R9{P:Program}{t:TypeId}(h:qJ P t=some none):∃d,P.underlying t=some d∧GO d=false:=by
 unfold qJ at h;split at h
 ·simp at h
 ·simp at h
 ·rename_i d n1 n2 z;refine⟨d,z,?_⟩;cases d<;>first|rfl|(exact absurd rfl (n1 _))|(exact absurd rfl (n2 _ _))
 ·cases h
def R8{P:Program}{t n:Nat}(h:qJ P t=some (some n)):∃d,P.underlying t=some d∧GO d=true∧CS P t=some n:=by
 unfold qJ at h;split at h
 ·rename_i z;simp only[Qi,Qh]at h;obtain⟨x,f,rfl⟩:=h;exact⟨_,z,rfl,f⟩
 ·rename_i z;simp only[Qi,Qh]at h;obtain⟨x,f,rfl⟩:=h;exact⟨_,z,rfl,f⟩
 ·simp at h
 ·cases h
def C_{sz:Nat}:∀{xs:List D},(∀d∈xs,d.cells.length=sz)->(flat xs).length=xs.length*sz
 |[],_=>XT
 |x::r,h=>by
  have ih:=C_ (xs:=r) (λd z=>h d (Qw _ z));simp only[flat,ZB,Qz,ih,h x (Qu ..),QX,Nat.one_mul];omega
theorem E3{sz:Nat}:∀{xs:List D} {k j:Nat},(∀d∈xs,d.cells.length=sz)->(s:k<xs.length)->j<sz->(flat xs)[k*sz+j]?=(xs[k]).cells[j]?
 |x::r,0,j,h,s,hj=>by
  simp only[flat,Nat.zero_mul,QB,List.getElem_cons_zero];rw[Qt (by rw[h x (Qu ..)];exact hj)]
 |x::r,k+1,j,h,s,hj=>by
  have f:=h x (Qu ..);have ih:=E3 (xs:=r) (k:=k) (j:=j) (λd z=>h d (Qw _ z)) (by simpa using s) hj;simp only[flat,List.getElem_cons_succ];rw[QN (by rw[f,QX];omega),f,←ih];congr 1;rw[QX];omega
def Up{sz:Nat}:∀{xs:List D} (l:Nat),(∀d∈xs,d.cells.length=sz)->flat (xs.drop l)=(flat xs).drop (l*sz)
 |[],l,_=>XT
 |x::r,0,_=>U
 |x::r,l+1,h=>by
  have f:=h x (Qu ..);rw[List.drop_succ_cons,Up l (λd z=>h d (Qw _ z))];simp only[flat];rw[show(l+1)*sz=x.cells.length+l*sz by rw[f,QX];omega,←Zv,List.drop_left]
def IR:∀(xs ys:List D),flat (xs++ys)=flat xs++flat ys
 |[],ys=>XT
 |x::r,ys=>by simp[flat,IR r ys]
def Tm{sz:Nat}{xs:List D}{n:Nat}{j:Nat}{d:D}(h:(flat (xs.take n))[j]?=some d):(flat xs)[j]?=some d:=by
 have e:flat xs=flat (xs.take n)++flat (xs.drop n):=by rw[←IR,List.take_append_drop]
 rw[e,Qt (Qm.1 h).1];exact h
def zH(l:List UInt8)(n:Nat):(ByteArray.mk l.toArray)[n]?=l[n]?:=by
 by_cases h:n<l.length
 ·rw[Qj h];rw[getElem?_pos (ByteArray.mk l.toArray) n (by simpa[ByteArray.size]using h)];rfl
 ·rw[Qr O];exact getElem?_neg (ByteArray.mk l.toArray) n (by simpa[ByteArray.size]using h)
def Tp(l:List UInt8)(a b:Nat):(ByteArray.mk l.toArray).extract a b=⟨((l.drop a).take (b-a)).toArray⟩:=by
 apply ByteArray.ext;rw[ByteArray.data_extract];simp[Zd,Q0]
section
variable{P:Program}{B:Nat}{w0 w:World}{m:GV}{g:Gh}{fr:Id}{s:Nat->D}{a:Act}
theorem FB(h:Da w g s a){x:Option Operand}{y:Option GW}(f:Ij x=some y){b c n:Nat}(i:FE s y b c=some n):
  (x=none∧n=b∧y=none)∨(∃o k,x=some o∧a.eval o= .int k (n:Int)∧n<=c):=by
 cases x with
 |none=>
  simp only[Ij,Qh]at f;subst f;simp only[FE,Qh]at i;exact .inl ⟨rfl,i.symm,rfl⟩
 |some o=>
  simp only[Ij,Qi]at f;obtain⟨z,e,rfl⟩:=f;have j:=h.arg e;simp only[FE]at i;split at i
  ·rename_i k q m;rw[m]at j;split at i
   ·rename_i p;simp only[Qh]at i;refine .inr ⟨o,k,rfl,?_,O⟩;rw[j.int_inv];congr 1;omega
   ·cases i
  ·cases i
def Eo(h:Da w g s a){lo hi:Option Operand}{z j:Option GW}(f:Ij lo=some z)(n:Ij hi=some j)(x:Bool){len cap l t:Nat}(p:len<=cap)
  (v:FE s j len len=some t) (y:FE s z 0 t=some l):
  (Instr.sliceBounds x len cap (lo.map a.eval) (hi.map a.eval) none).run P w= .ok (l,t,cap) w∧l<=t∧t<=len:=by
 have ta:t<=len:=by
  grind [FB]
 have b:l<=t:=by
  grind [FB]
 refine⟨?_,b,ta⟩;unfold Instr.sliceBounds;rcases FB h n v with ⟨rfl,rfl,_⟩|⟨o,k,rfl,q,u⟩<;>rcases FB h f y with ⟨rfl,rfl,_⟩|⟨o',r,rfl,c,ka⟩
 ·simp
 ·simp[Instr.sliceBound,asIntOf,c];intro;omega
 ·simp[Instr.sliceBound,asIntOf,q];intro;omega
 ·simp[Instr.sliceBound,asIntOf,q,c];rw[if_pos O];simp;intro;omega
end
section
variable{P:Program}{B:Nat}{w0 w:World}{m:GV}{g:Gh}{fr:Id}{s:Nat->D}{a:Act}
theorem BL:∀{n o:Nat} {i:Id} {ds:List D},Ai m i o n=some ds->ds.length=n∧∀j,j<n->m i (o+j)=ds[j]?
 |0,o,i,ds,h=>by simp only[Ai,Qh]at h;subst h;simp
 |n+1,o,i,ds,h=>by
  unfold Ai at h;split at h
  ·rename_i d z;rw[Qi]at h;obtain⟨r,c,rfl⟩:=h;obtain⟨p,q⟩:=BL c;refine⟨by simp[p],λj w=>?_⟩;cases j with
   |zero=>simpa using z
   |succ j=>
    have:=q j O;rw[show o+(j+1)=o+1+j by omega,this];simp
  ·cases h
def Hc.cells(h:Hc P B w0 m w g){i:Id}{b o n:Nat}{ds:List D}(f:g.dl i=some b)(c:Ai m i o n=some ds):
  ∃vs:List Value,A1 w g ds vs∧∀j v,vs[j]?=some v->w.cell? ⟨b,o+j,none⟩=some v:=by
 obtain⟨_,_,cs,T,t,k⟩:=h.obj i b f;obtain⟨hl,a⟩:=BL c;have key:∀j,j<n->∃d v,ds[j]?=some d∧cs[o+j]?=some v∧v.oneCell'=true∧Rep w g d v:=by
  simp_all
 refine⟨(QA n).map λj=>cs.getD (o+j) undef,⟨by simp[hl],λv y=>?_,λj d v z y=>?_⟩,λj v y=>?_⟩
 ·rw[QC]at y;obtain⟨j,e,rfl⟩:=y;obtain⟨d,v,_,r,q,_⟩:=key j (Qs.1 e);rw[Qo,r];exact q
 ·have e:j<n:=by have:=(Qm.1 z).1;omega
  obtain⟨x,s,p,r,q,u⟩:=key j e;rw[p]at z;simp only[Qh]at z;subst z;rw[Qq,Zx e,Q3,Qh,Qo,r]at y;subst y;exact u
 ·have e:j<n:=by have:=(Qm.1 y).1;simpa using this
  obtain⟨x,s,p,r,q,u⟩:=key j e;rw[Qq,Zx e,Q3,Qh,Qo,r]at y;subst y;simp[World.cell?,t,r]
def Hc.cell(h:Hc P B w0 m w g){i:Id}{b o:Nat}{d:D}(f:g.dl i=some b)(r:m i o=some d):
  ∃v,w.cell? ⟨b,o,none⟩=some v∧v.oneCell'=true∧Rep w g d v:=by
 obtain⟨_,_,cs,T,t,x⟩:=h.obj i b f;obtain⟨v,k,a,u⟩:=x _ _ r;exact⟨v,by simp[World.cell?,t,k],a,u⟩
def D8(b o j:Nat):(⟨b,o,none⟩:Addr).add j=⟨b,o+j,none⟩:=by unfold Addr.add;split<;>simp_all
def D4{t:TypeId}(s:qJ P t=some none){ad:Addr}{v:Value}(g:w.cell? ad=some v):(loadVar t ad).run P w= .ok v w:=by
 obtain⟨d,a,z⟩:=R9 s;simp[loadVar,HO a,z,g]
def Ep{t n:Nat}(s:qJ P t=some (some n)){ad:Addr}{vs:List Value}(hl:vs.length=n)(g:∀j v,vs[j]?=some v->w.cell? (ad.add j)=some v):
  (loadVar t ad).run P w= .ok (.agg vs.toArray) w:=by
 obtain⟨d,a,z,y⟩:=R8 s;subst hl;simp[loadVar,HO a,z,Hd y,run_loadCells_list w ad vs g]
def LK{t n:Nat}(g:CS P t=some n){b o:Nat}{cs:Array Value}{T:TypeId}(p:w.heap[b]?=some (.cells cs T (0,0))){v:Value}(i:v.cells.size=n)
  (y:∀u∈v.cells.toList,u.oneCell'=true) (r:o+n<=cs.size):
  (storeVar t ⟨b,o,none⟩ v).run P w= .ok () (w.setRow b (cs.toList.take o++v.cells.toList++cs.toList.drop (o+v.cells.toList.length)).toArray):=by
 unfold storeVar;simp only[Sem.run_bind,Hd g,Result.andThen_ok];rw[if_neg (by simp[i])];have:=run_storeCells_at (P:=P) b o T v.cells.toList 0 cs w p (by simp[i];omega) y;simpa using this
def GF(e:TypeId)(cells:Array Value)(w:World):(newRow e cells).run P w= .ok ⟨w.heap.size,0,none⟩ (w.alloc (.cells cells e)):=by
 simp only[newRow,Sem.run_bind,run_newObj,Result.andThen_ok,Sem.run_pure];rfl
def A1.flat{sz:Nat}:∀{xs:List D} {vs:List Value},(∀d∈xs,d.data=true∧d.cells.length=sz)->vs.length=xs.length->(∀(j:Nat) d v,xs[j]?=some d->vs[j]?=some v->Rep w g d v)->
  A1 w g (flat xs) (vs.flatMap λv=>v.cells.toList)
 |[],vs,_,hl,_=>by
  have:vs=[]:=QU Xo;subst this;exact A1.nil w g
 |x::r,[],_,hl,_=>by cases hl
 |x::r,v::vs,h,hl,hr=>by
  have y:=hr 0 x v rfl rfl;simp only[Vd.flat,Zj];exact A1.append (y.cells (h x (Qu ..)).1) (A1.flat (λd z=>h d (Qw _ z)) Xo (λj d u z a=>hr (j+1) d u (by simpa using z) (by simpa using a)))
def aH{t:Id}{xs:List D}{vs:List Value}{b n c sz:Nat}{cur:Array Value}{T:TypeId}{fz:Nat×Nat}(u:w.heap[b]?=some (.cells cur T fz))(q:n=xs.length)(p:n<=c)
  (f:∀d∈xs,d.cells.length=sz) (m:A1 w g (flat xs) vs) (y:∀(j:Nat) v,vs[j]?=some v->cur[j]?=some v) (i:n*sz<=g.G b) (s:t≠[]->g.tb t=some (b,n,c,sz)) (lb:∀d∈xs,d.calm=true):
  Rep w g (.slice false t xs) (.slice (some ⟨b,0,none⟩) n c):=by
 have ra:=C_ f;have a:vs.length=n*sz:=by rw[m.1,ra,q]
 refine .slice t xs ⟨b,0,none⟩ n c sz (λj=>vs.getD j undef) q p f (λj e=>?_) (λj e=>?_) (λj d z=>?_) (λ_=>by simpa using i) (λh=>⟨rfl,rfl,s h⟩) lb
 ·have o:j<vs.length:=by omega
  rw[D8,QB];have:=y j vs[j] (Qj o);simp[World.cell?,u,this,Q6,Qj o]
 ·have o:j<vs.length:=by omega
  simp only[Q6,Qj o,QM];exact m.2.1 _ (Q7 o)
 ·have o:j<vs.length:=by have:=(Qm.1 z).1;rw[m.1];exact this
  simp only[Q6,Qj o,QM];exact m.2.2 j d _ z (Qj o)
def OT:∀(vs:List Value)(k:Nat)(off:Nat)(cs:Array Value),off+k+vs.length<=cs.size->
  ((vs.zipIdx k).foldl (λcs (x:Value×Nat)=>cs.setIfInBounds (off+x.2) x.1) cs).toList=cs.toList.take (off+k)++vs++cs.toList.drop (off+k+vs.length)
 |[],k,off,cs,_=>U
 |v::r,k,off,cs,h=>by
  simp only[List.zipIdx_cons,Ze];rw[OT r (k+1) off (cs.setIfInBounds (off+k) v) (by simp at h ⊢;omega)];simp only[Array.toList_setIfInBounds,Qz];have hl:off+k<cs.toList.length:=by simp at h ⊢;omega
  rw[show off+(k+1)=off+k+1 by omega];rw[List.take_succ_eq_append_getElem Xo];rw[List.take_set_of_le O];rw[List.drop_set_of_lt O];simp only[List.getElem_set_self,QS,Q8,Zs];rw[show off+k+1+r.length=off+k+(r.length+1)by omega]
def E2(vs:Array Value)(off:Nat)(cs:Array Value)(h:off+vs.size<=cs.size):
  (vs.zipIdx.foldl (λcs (x:Value×Nat)=>cs.setIfInBounds (off+x.2) x.1) cs).toList=cs.toList.take off++vs.toList++cs.toList.drop (off+vs.toList.length):=by
 have:=OT vs.toList 0 off cs Xp;rw[←Array.foldl_toList,Array.toList_zipIdx];simpa using this
end
structure At (P:Program) (B:Nat) (w0 w:World) (m:GV) (g:Gh) (fr:Id) (s:Nat->D) (a:Act):Prop where
 inv:Hc P B w0 m w g
 slots:Da w g s a
 fresh:∀i,fr<:+i->B2 m g i
section
variable{P:Program}{B:Nat}{w0 w:World}{m:GV}{g:Gh}{fr:Id}{s:Nat->D}{a:Act}{S:GR}{d:D}{u:Ha}
def At.self(h:At P B w0 w m g fr s a):B2 m g fr:=h.fresh fr (List.suffix_refl fr)
def EH{i:Id}(r:B2 m g i)(v:¬fr<:+i)(ds:List D)(b:Nat):B2 (m.put fr 0 ds) (g.obj fr b) i:=by
 have:i≠fr:=λe=>v Yu
 exact⟨λo=>by rw[aB this];exact r.1 o,by simp only[Gh.obj];rw[if_neg this];exact r.2.1,r.2.2⟩
def C5{i:Id}(r:B2 m g i)(v:¬fr<:+i)(x b n c sz:Nat):B2 (m.put fr 0 [.tok x]) (g.tok fr b n c sz) i:=by
 have:i≠fr:=λe=>v Yu
 exact⟨λo=>by rw[aB this];exact r.1 o,r.2.1,by simp only[Gh.tok];rw[if_neg this];exact r.2.2⟩
def lN{t:TypeId}{o:Oper}(h:At P B w0 w m g fr s a){z:D}(e:Db P t=some z)(u:o.op= .alloc t):
  C7 P B w0 m g fr w (m.put fr 0 z.cells) (.ptr fr 0) (execOp a.eval o):=by
 unfold Db at e;split at e
 ·rename_i i hi;split at e
  ·rename_i v y;have j:Rep w g z v:=Rep.ofVal e;have hd:z.data=true:=by
    cases v<;>first|(simp only[ofVal,Qi]at e;obtain⟨l,_,rfl⟩:=e;rfl)|(simp only[ofVal]at e;exact OW e)
   have p:=j.cells hd;refine⟨.pointer (some ⟨w.heap.size,0,none⟩),w.alloc (.cells v.cells t),g.obj fr w.heap.size,.value (.pointer (some ⟨w.heap.size,0,none⟩)),?_,.inl rfl,?_⟩
   ·simp only[execOp,u,Instr.alloc,zeroValue,Sem.run_bind,typeInfo,run_program,Result.andThen_ok,hi,y,Sem.run_pure,newVar,GF]
   ·have:=h.inv.newObj h.self (ds:=z.cells) (vs:=v.cells.toList) t p;rw[QK]at this;exact⟨this,Hk.newObj _ h.inv.gz h.self.2.1,Rep.newObj _ g fr _,λi r f=>EH r f _ _⟩
  ·cases e
 ·cases e
def aDF{t:TypeId}{o:Oper}{x:Operand}{y:GW}(h:At P B w0 w m g fr s a)(f:AE x=some y)(z:(y.ev s).data=true)(u:o.op= .box t x):
  C7 P B w0 m g fr w (m.put fr 0 (y.ev s).cells) (.ptr fr 0) (execOp a.eval o):=by
 have j:=h.slots.arg f;have p:=j.cells z;refine⟨.pointer (some ⟨w.heap.size,0,none⟩),w.alloc (.cells (a.eval x).cells t),g.obj fr w.heap.size,.value (.pointer (some ⟨w.heap.size,0,none⟩)),?_,.inl rfl,?_⟩
 ·simp only[execOp,u,Instr.box,Sem.run_bind,Result.andThen_ok,Sem.run_pure,newVar,GF]
 ·have:=h.inv.newObj h.self (ds:=(y.ev s).cells) (vs:=(a.eval x).cells.toList) t p;rw[QK]at this;exact⟨this,Hk.newObj _ h.inv.gz h.self.2.1,Rep.newObj _ g fr _,λi r v=>EH r v _ _⟩
def yG{t:TypeId}{o:Oper}{x:Operand}{y:GW}{k:Option Nat}(h:At P B w0 w m g fr s a)(hk:qJ P t=some k)(f:AE x=some y)(ho:o.op= .load t x)
  (q:exec S s m fr (.load k y)=some (d,u)):u=[]∧C7 P B w0 m g fr w m d (execOp a.eval o):=by
 have c:=h.slots.arg f;have ma:∀ad v,a.eval x= .pointer (some ad)->(loadVar t ad).run P w= .ok v w->(execOp a.eval o).run P w= .ok (.value v) w:=by
  intro ad v p e2;simp only[execOp,ho,Instr.loadAt,p,Instr.sureAddr,Sem.run_bind,Result.andThen_ok,Sem.run_pure,e2]
 simp only[exec]at q;split at q
 ·rename_i i o' e;rw[e]at c;obtain⟨b,p,hb⟩:=c.ptr_inv;rw[Qi]at q;obtain⟨d',hm,q⟩:=q;simp only[Qk]at q;obtain⟨rfl,rfl⟩:=q;obtain⟨v,c1,c2,c3⟩:=h.inv.cell hb hm;exact⟨rfl,.pure h.inv (ma _ _ p (D4 hk c1)) c3⟩
 ·rename_i i o' n e;rw[e]at c;obtain⟨b,p,hb⟩:=c.ptr_inv;rw[Qi]at q;obtain⟨ds,hm,q⟩:=q;simp only[Qk]at q;obtain⟨rfl,rfl⟩:=q;obtain⟨vs,c1,c2⟩:=h.inv.cells hb hm;have hl:=(BL hm).1;exact⟨rfl,.pure h.inv (ma _ _ p (Ep hk (by rw[c1.1,hl]) (λj v hv=>by rw[D8];exact c2 j v hv))) (aK c1)⟩
 ·rename_i ds e;rw[e]at c;obtain⟨ad,vv,p,q1,q2,q3,q4,q5⟩:=c.eptr_inv;rw[Qi]at q;obtain⟨d',hm,q⟩:=q;simp only[Qk]at q;obtain⟨rfl,rfl⟩:=q;have r:ds[0]?=some d':=by rw[←List.head?_eq_getElem?];exact hm
  have hl:0<ds.length:=(Qm.1 r).1;exact⟨rfl,.pure h.inv (ma _ _ p (D4 hk (by have:=q1 0 hl;simpa[Addr.add]using this))) (q3 0 _ r)⟩
 ·rename_i ds n e;rw[e]at c;obtain⟨ad,vv,p,q1,q2,q3,q4,q5⟩:=c.eptr_inv;split at q
  ·rename_i hn;simp only[Qh,Qk]at q;obtain⟨rfl,rfl⟩:=q;have ea:((QA n).map vv).length=n:=by simp
   refine⟨rfl,.pure h.inv (ma _ _ p (Ep hk ea (λj v hv=>?_))) (aK ⟨Xc,λv hv=>?_,λj d v z hv=>?_⟩)⟩
   ·grind
   ·grind
   ·grind
  ·cases q
 ·cases q
theorem lG{t:TypeId}{o:Oper}{x v:Operand}{y z:GW}{n:Nat}(h:At P B w0 w m g fr s a)(hn:CS P t=some n)(va:0<n)(hx:AE x=some y)(hv:AE v=some z)(ho:o.op= .store t x v)
  (he:exec S s m fr (.store n y z)=some (d,u)):C7 P B w0 m g fr w (Ha.app m u) d (execOp a.eval o):=by
 have hr:=h.slots.arg hx;have c:=h.slots.arg hv;simp only[exec]at he;split at he
 ·rename_i i o' e;rw[e]at hr;obtain⟨b,e1,k⟩:=hr.ptr_inv;split at he
  ·rename_i r;obtain⟨c1,c2,c3⟩:=r;simp only[Qh,Qk]at he;obtain⟨rfl,rfl⟩:=he;rw[Zl]at c3;obtain⟨fa,f⟩:=c3;obtain⟨vs,r1,r2⟩:=h.inv.cells k f;obtain⟨_,_,cs,T,hh,wa⟩:=h.inv.obj i b k;have p:=c.cells c1;have pa:(a.eval v).cells.size=n:=by have:=p.1;simp at this;omega
   have q:o'+n<=cs.size:=by
    have hl:=(BL f).1;have j:vs[n-1]?=some (vs[n-1]'(by rw[r1.1];omega)):=Qj _;have:=r2 (n-1) _ j;simp only[World.cell?,hh]at this;have:=(Ql.1 (by simpa using this)).1;omega
   refine⟨undef,w.setRow b (cs.toList.take o'++(a.eval v).cells.toList++cs.toList.drop (o'+(a.eval v).cells.toList.length)).toArray,g,.skip,?_,.inr ⟨rfl,rfl⟩,?_⟩
   ·have:=LK hn hh (v:=a.eval v) pa p.2.1 q;simp only[execOp,ho,Instr.storeAt,e1,Instr.sureAddr,Sem.run_bind,Result.andThen_ok,Sem.run_pure,this]
   ·have hG:=(h.inv.obj i b k).2.1;refine⟨?_,Hk.setRow hG ⟨_,k⟩,.junk _,λi' hf la=>?_⟩
    ·exact h.inv.store k hh (ds:=(z.ev s).cells) (us:=(a.eval v).cells.toList) p O
    ·refine⟨λo=>?_,hf.2⟩;simp only[Ha.app];rw[aB (by rintro rfl;rw[hf.2.1]at k;cases k)];exact hf.1 o
  ·cases he
 ·cases he
end
section
variable{P:Program}{B:Nat}{w0 w:World}{m:GV}{g:Gh}{fr:Id}{s:Nat->D}{a:Act}{S:GR}{d:D}{u:Ha}
def lL{t:TypeId}{f:Nat}{o:Oper}{x:Operand}{y:GW}{v:Array Field}{fd:Field}{n:Nat}(h:At P B w0 w m g fr s a)(hu:P.underlying t=some (.struct v))(r:v[f]?=some fd)
  (hn:CS P fd.type=some (n+1)) (p:AE x=some y) (ho:o.op= .fieldAddr t x f) (q:exec S s m fr (.faddr fd.offset y)=some (d,u)):u=[]∧C7 P B w0 m g fr w m d (execOp a.eval o):=by
 have c:=h.slots.arg p;have ma:∀ad,a.eval x= .pointer (some ad)->(execOp a.eval o).run P w= .ok (.value (.pointer (some (ad.add fd.offset)))) w:=by
  intro ad e;simp[execOp,ho,Instr.fieldAt,run_underlying hu,r,e,Instr.sureAddr,fieldPlace,Hd hn]
 simp only[exec]at q;split at q
 ·rename_i i o' e;rw[e]at c;obtain⟨b,e1,k⟩:=c.ptr_inv;simp only[Qh,Qk]at q;obtain⟨rfl,rfl⟩:=q;refine⟨rfl,.pure h.inv (ma _ e1) ?_⟩;rw[D8];exact .ptr i _ b k
 ·rename_i ds e;rw[e]at c;obtain⟨ad,vv,e1,q1,q2,q3,q4,q5⟩:=c.eptr_inv;split at q
  ·rename_i hl;simp only[Qh,Qk]at q;obtain⟨rfl,rfl⟩:=q;refine⟨rfl,.pure h.inv (ma _ e1) (.eptr _ _ (λj=>vv (fd.offset+j)) (λj hj=>?_) (λj hj=>?_) (λj d z=>?_) (λhp=>?_) (λd z=>q5 d (QE z)))⟩
   ·grind [add_add]
   ·grind
   ·simp_all
   ·rw[B8,Dr];simp at hp ⊢;have:=q4 O;omega
  ·cases q
 ·cases q
def lK{t:TypeId}{f:Nat}{o:Oper}{x:Operand}{y:GW}{aa:Array Field}{fd:Field}{k:Option Nat}(h:At P B w0 w m g fr s a)(hu:P.underlying t=some (.struct aa))(r:aa[f]?=some fd)
  (hk:qJ P fd.type=some k) (p:AE x=some y) (ho:o.op= .field t x f) (q:exec S s m fr (.field k fd.offset y)=some (d,u)):u=[]∧C7 P B w0 m g fr w m d (execOp a.eval o):=by
 have hr:=h.slots.arg p;simp only[exec]at q;split at q
 ·rename_i cs e;rw[e]at hr;obtain⟨vs,e1,r1⟩:=aJ hr;rw[Qi]at q;obtain⟨d',z,q⟩:=q;simp only[Qk]at q;obtain⟨rfl,rfl⟩:=q;obtain⟨td,c,b⟩:=R9 hk;have hv:fd.offset<vs.length:=by rw[r1.1];exact(Qm.1 z).1
  refine⟨rfl,.pure (v:=vs[fd.offset]) h.inv ?_ (r1.2.2 _ _ _ z (Qj hv))⟩;have:=CJ (w:=w) c b (cs:=vs.toArray) (o:=fd.offset) (v:=vs[fd.offset]) (by simp[hv]);simp[execOp,ho,Instr.field,run_underlying hu,r,e1,asAgg,this]
 ·rename_i cs n e;rw[e]at hr;obtain⟨vs,e1,r1⟩:=aJ hr;split at q
  ·rename_i hl;simp only[Qh,Qk]at q;obtain⟨rfl,rfl⟩:=q;obtain⟨td,c,b,i⟩:=R8 hk;refine⟨rfl,.pure (v:= .agg ((vs.drop fd.offset).take n).toArray) h.inv ?_ (aK ⟨by simp[r1.1],λv hv=>?_,λj d v z hv=>?_⟩)⟩
   ·simp only[execOp,ho,Instr.field,Sem.run_bind,run_underlying hu,r,e1,asAgg,part,HO c,b,Result.andThen_ok,Hd i,Sem.run_pure,if_true];congr 3;simp[Zd,Q0]
   ·exact r1.2.1 v (QE (QJ hv))
   ·have hj:j<n:=by
     rcases ZC j n with h1|h1
     ·exact h1
     ·rw[Qr Xc]at z;cases z
    rw[Qv hj,QD]at z hv;exact r1.2.2 _ d v z hv
  ·cases q
 ·cases q
def Mg{d:D}(h:d.calm=true):∀x∈d.cells,x.calm=true:=by
 intro x f;have t:∀x:D,x.calm1=true->x.calm=true:=by
  intro x f;cases x<;>first|exact f|(simp[D.calm1]at f)
 cases d with
 |agg cs=>exact t x (QF.1 h x f)
 |_=>simp only[D.cells,Q5]at f;subst f;exact h
def lI{t e:TypeId}{o:Oper}{x i:Operand}{y z:GW}{sz:Nat}(h:At P B w0 w m g fr s a)(hu:P.underlying t=some (.slice e))(hs:CS P e=some sz)
  (hx:AE x=some y) (hi:AE i=some z) (ho:o.op= .indexAddr t x i) (he:exec S s m fr (.iaddr sz y z)=some (d,u)):u=[]∧C7 P B w0 m g fr w m d (execOp a.eval o):=by
 have hr:=h.slots.arg hx;have p:=h.slots.arg hi;simp only[exec]at he;split at he
 ·rename_i nl t' xs k n ex ei;rw[ex]at hr;rw[ei]at p;split at he
  ·rename_i r;split at he
   ·rename_i d' hd;split at he
    ·rename_i pa;simp only[Qh,Qk]at he;obtain⟨rfl,rfl⟩:=he;have aa:n.toNat<xs.length:=(Qm.1 hd).1;rcases hr.slice_inv with ⟨_,rfl,_⟩|⟨rfl,ad,n',c,xa,vv,ev,rfl,q,h3,h4,h5,h6,h7,h8,h9⟩
     ·simp at aa
     ·have ea:d'∈xs:=Qx hd;have:xa=sz:=by rw[←h3 d' ea];exact pa
      subst this;have la:xs[n.toNat]=d':=by rw[Qj aa]at hd;simpa using hd
      have f:n.toNat*xa+xa<=xs.length*xa:=by rw[←ZD];exact QI _ aa
      refine⟨rfl,.pure (v:= .pointer (some (ad.add (n.toNat*xa)))) h.inv ?_ (.eptr _ _ (λj=>vv (n.toNat*xa+j)) (λj hj=>?_) (λj hj=>?_) (λj d2 ta=>?_) (λhp=>?_) (Mg (h9 d' ea)))⟩
      ·have da:(0:Int)<=n∧n<(xs.length:Int):=by omega
       simp[execOp,ho,Instr.indexAt,asIntOf,p.int_inv,ev,run_underlying hu,da,Hd hs]
      ·grind [add_add]
      ·exact h5 _ O
      ·grind [E3]
      ·rw[B8,Dr];have hz:0<xs.length*xa:=by omega
       have:=h7 hz;omega
    ·cases he
   ·cases he
  ·cases he
 ·rename_i i' l k n ex ei;rw[ex]at hr;rw[ei]at p;split at he
  ·rename_i hc;obtain⟨r,aa⟩:=hc;simp only[Qh,Qk]at he;obtain⟨rfl,rfl⟩:=he;obtain⟨b,cap,ev,_,hb⟩:=hr.row_inv;have ib:(if sz=1 then n.toNat else n.toNat*sz)=n.toNat*sz:=by
    simp_all
   rw[ib];have ra:(Addr.mk b 0 none).add (n.toNat*sz)=⟨b,n.toNat*sz,none⟩:=by rw[D8,QB]
   refine⟨rfl,.pure (v:= .pointer (some ⟨b,n.toNat*sz,none⟩)) h.inv ?_ (.ptr _ _ b hb)⟩;have da:(0:Int)<=n∧n<(l:Int):=⟨r,aa⟩;simp only[←ra];simp[execOp,ho,Instr.indexAt,asIntOf,p.int_inv,ev,run_underlying hu,da,Hd hs]
  ·cases he
 ·cases he
def yH{t:TypeId}{o:Oper}{x i:Operand}{y z:GW}(h:At P B w0 w m g fr s a)(e:P.underlying t=some .string)
  (f:AE x=some y) (hi:AE i=some z) (ho:o.op= .index t x i) (q:exec S s m fr (.idxs y z)=some (d,u)):u=[]∧C7 P B w0 m g fr w m d (execOp a.eval o):=by
 have j:=h.slots.arg f;have p:=h.slots.arg hi;simp only[exec]at q;split at q
 ·rename_i b k n ex ei;rw[ex]at j;rw[ei]at p;split at q
  ·rename_i r;rw[Qi]at q;obtain⟨c,hc,q⟩:=q;simp only[Qk]at q;obtain⟨rfl,rfl⟩:=q;refine⟨rfl,.pure (v:= .int .u8 c.toNat) h.inv ?_ (.int _ _)⟩;simp[execOp,ho,Instr.index,asIntOf,p.int_inv,j.str_inv,run_underlying e,r,zH,hc]
  ·cases q
 ·cases q
def yJ{t e:TypeId}{len:Nat}{o:Oper}{x i:Operand}{y z:GW}(h:At P B w0 w m g fr s a)(hu:P.underlying t=some (.array len e))(j:qJ P e=some none)(hs:CS P e=some 1)
  (f:AE x=some y) (hi:AE i=some z) (ho:o.op= .index t x i) (q:exec S s m fr (.idxa len y z)=some (d,u)):u=[]∧C7 P B w0 m g fr w m d (execOp a.eval o):=by
 have hr:=h.slots.arg f;have p:=h.slots.arg hi;simp only[exec]at q;split at q
 ·rename_i cs k n ex ei;rw[ex]at hr;rw[ei]at p;split at q
  ·rename_i r;rw[Qi]at q;obtain⟨d',hd,q⟩:=q;simp only[Qk]at q;obtain⟨rfl,rfl⟩:=q;obtain⟨vs,e1,r1⟩:=aJ hr;obtain⟨td,c,b⟩:=R9 j;have hv:n.toNat<vs.length:=by rw[r1.1];exact(Qm.1 hd).1
   refine⟨rfl,.pure (v:=vs[n.toNat]) h.inv ?_ (r1.2.2 _ _ _ hd (Qj hv))⟩;have:=CJ (w:=w) c b (cs:=vs.toArray) (o:=n.toNat) (v:=vs[n.toNat]) (by simp[hv]);simp[execOp,ho,Instr.index,asIntOf,p.int_inv,run_underlying hu,e1,r,Hd hs,this]
  ·cases q
 ·cases q
def lJ{t e:TypeId}{len sz:Nat}{o:Oper}{x i:Operand}{y z:GW}(h:At P B w0 w m g fr s a)(hu:P.underlying t=some (.array len e))(hs:CS P e=some sz)
  (f:AE x=some y) (hi:AE i=some z) (ho:o.op= .indexAddr t x i) (q:exec S s m fr (.iadda len sz y z)=some (d,u)):u=[]∧C7 P B w0 m g fr w m d (execOp a.eval o):=by
 have c:=h.slots.arg f;have p:=h.slots.arg hi;simp only[exec]at q;split at q
 ·rename_i j off k n ex ei;rw[ex]at c;rw[ei]at p;split at q
  ·rename_i hc;obtain⟨r,h1⟩:=hc;simp only[Qh,Qk]at q;obtain⟨rfl,rfl⟩:=q;obtain⟨b,ev,hb⟩:=c.ptr_inv;refine⟨rfl,.pure (v:= .pointer (some ⟨b,off+n.toNat*sz,none⟩)) h.inv ?_ (.ptr _ _ b hb)⟩;have da:(0:Int)<=n∧n<(len:Int):=⟨r,h1⟩;simp only[←D8 b off (n.toNat*sz)];simp[execOp,ho,Instr.indexAt,asIntOf,Instr.sureAddr,p.int_inv,ev,run_underlying hu,da,Hd hs]
  ·cases q
 ·cases q
def yI{t e:TypeId}{len sz:Nat}{o:Oper}{x i:Operand}{y z:GW}(h:At P B w0 w m g fr s a)(hu:P.underlying t=some (.array len e))(hk:qJ P e=some (some sz))
  (f:AE x=some y) (hi:AE i=some z) (ho:o.op= .index t x i) (q:exec S s m fr (.idxm len sz y z)=some (d,u)):u=[]∧C7 P B w0 m g fr w m d (execOp a.eval o):=by
 have hr:=h.slots.arg f;have p:=h.slots.arg hi;simp only[exec]at q;split at q
 ·rename_i cs k n ex ei;rw[ex]at hr;rw[ei]at p;split at q
  ·rename_i hc;obtain⟨r,h1,hl⟩:=hc;simp only[Qh,Qk]at q;obtain⟨rfl,rfl⟩:=q;obtain⟨vs,e1,r1⟩:=aJ hr;obtain⟨td,c,b,hs⟩:=R8 hk;refine⟨rfl,.pure (v:= .agg ((vs.drop (n.toNat*sz)).take sz).toArray) h.inv ?_ (aK ⟨by simp[r1.1],λv hv=>?_,λj d v hd hv=>?_⟩)⟩
   ·simp only[execOp,ho,Instr.index,Sem.run_bind,run_underlying hu,e1,p.int_inv,asIntOf,Result.andThen_ok,Sem.run_pure,r,h1,and_self,if_true,Hd hs,part,HO c,b];congr 3;simp[Zd,Q0]
   ·exact r1.2.1 v (QE (QJ hv))
   ·have hj:j<sz:=by
     rcases ZC j sz with h1|h1
     ·exact h1
     ·rw[Qr Xc]at hd;cases hd
    rw[Qv hj,QD]at hd hv;exact r1.2.2 _ d v hd hv
  ·cases q
 ·cases q
def yK{t:TypeId}{o:Oper}{x:Operand}{lo hi:Option Operand}{y:GW}{z h':Option GW}(h:At P B w0 w m g fr s a)(n:P.underlying t=some .string)
  (f:AE x=some y) (oa:Ij lo=some z) (k:Ij hi=some h') (r:o.op= .slice t x lo hi none) (q:exec S s m fr (.cuts y z h')=some (d,u)):
  u=[]∧C7 P B w0 m g fr w m d (execOp a.eval o):=by
 have j:=h.slots.arg f;simp only[exec]at q;split at q
 ·rename_i b e;rw[e]at j;split at q
  ·rename_i p eh;split at q
   ·rename_i l el;simp only[Qh,Qk]at q;obtain⟨rfl,rfl⟩:=q;obtain⟨i,_,_⟩:=Eo (P:=P) (w:=w) h.slots oa k false (len:=b.length) (cap:=b.length) (Qp _) eh el;refine⟨rfl,.pure (v:= .string ⟨((b.drop l).take (p-l)).toArray⟩) h.inv ?_ (.str _)⟩;have c:(ByteArray.mk b.toArray).size=b.length:=by simp[ByteArray.size]
    simp only[execOp,r,Instr.sliceAt,Sem.run_bind,run_underlying n,Result.andThen_ok,Instr.slice,j.str_inv,ZN,Option.isSome_none,QO,if_false,c,i,Sem.run_pure,Tp]
   ·cases q
  ·cases q
 ·cases q
def Uf{xs:List D}{sz k:Nat}(h:∀d∈xs,d.cells.length=sz)(s:aF xs k=k):xs=[]∨sz=k:=by
 cases xs with
 |nil=>exact .inl rfl
 |cons x r=>right;rw[←h x (Qu ..)];exact s
def yL{t e:TypeId}{o:Oper}{x:Operand}{lo hi:Option Operand}{y:GW}{l' h':Option GW}{sz:Nat}(h:At P B w0 w m g fr s a)(hu:P.underlying t=some (.slice e))(hs:CS P e=some sz)
  (f:AE x=some y) (oa:Ij lo=some l') (sa:Ij hi=some h') (ho:o.op= .slice t x lo hi none) (he:exec S s m fr (.cutl sz y l' h')=some (d,u)):
  u=[]∧C7 P B w0 m g fr w m d (execOp a.eval o):=by
 have hr:=h.slots.arg f;simp only[exec]at he;split at he
 ·rename_i nl t' xs e';rw[e']at hr;split at he
  ·rename_i b;split at he
   ·rename_i hh eh;split at he
    ·rename_i l el;simp only[Qh,Qk]at he;obtain⟨rfl,rfl⟩:=he;have ma:∀ad n c l hh m',a.eval x= .slice ad n c->(Instr.sliceBounds true n c (lo.map a.eval) (hi.map a.eval) none).run P w= .ok (l,hh,m') w->
       (execOp a.eval o).run P w= .ok (.value (.slice (if m'=l then ad else ad.map (·.add (l*sz))) (hh-l) (m'-l))) w:=by
      intro ad n c l hh m' e1 e2;simp only[execOp,ho,Instr.sliceAt,Sem.run_bind,run_underlying hu,Result.andThen_ok,Instr.slice,e1,ZN,e2,Hd hs,Sem.run_pure]
     rcases hr.slice_inv with ⟨rfl,rfl,ev⟩|⟨rfl,ad,n,c,xa,vv,ev,v,q,k,h4,h5,h6,h7,h8,h9⟩
     ·obtain⟨i,q1,q2⟩:=Eo (P:=P) (w:=w) h.slots oa sa true (len:=0) (cap:=0) (Qp _) eh el;obtain rfl:hh=0:=by omega
      obtain rfl:l=0:=O
      exact⟨rfl,.pure h.inv (ma _ _ _ _ _ _ ev i) (.nils _)⟩
     ·subst v;obtain⟨i,q1,q2⟩:=Eo (P:=P) (w:=w) h.slots oa sa true (len:=xs.length) (cap:=c) q eh el;refine⟨rfl,.pure h.inv (ma _ _ _ _ _ _ ev i) ?_⟩;have p:∀d∈(xs.drop l).take (hh-l),d.cells.length=xa:=λd z=>k d (QE (QJ z))
      have ea:((xs.drop l).take (hh-l)).length=hh-l:=Xc
      by_cases wa:c=l
      ·have r:hh-l=0:=by omega
       rw[if_pos wa,r];refine .slice [] _ ad 0 _ xa vv U (ZM _) U U U XT U U U
      ·rw[if_neg wa,Q3];by_cases r:hh-l=0
       ·rw[r];exact .slice [] _ _ 0 _ xa vv U (ZM _) U U U XT U U U
       ·have la:xs≠[]:=by rintro rfl;simp at q2;omega
        have pa:xa=sz:=(Uf k b).resolve_left la;subst pa;have qa:l*xa+(hh-l)*xa<=xs.length*xa:=by rw[←QX];exact QI _ O
        refine .slice [] _ _ _ _ xa (λj=>vv (l*xa+j)) ea.symm O p (λj hj=>?_) (λj hj=>h5 _ O) (λj d z=>h6 _ d ?_) (λhp=>?_) U (λd z=>h9 d (QE (QJ z)))
        ·rw[add_add];exact h4 _ O
        ·have:=Tm (sz:=xa) z;rw[Up l k,QD]at this;exact this
        ·rw[B8,Dr];have:=h7 O;omega
    ·cases he
   ·cases he
  ·cases he
 ·cases he
end
section
variable{P:Program}{B:Nat}{w0 w:World}{m:GV}{g:Gh}{fr:Id}{s:Nat->D}{a:Act}{S:GR}{d:D}{u:Ha}
def L9:∀{l:List (Nat×Nat×D)} {ps:List (Nat×Value)} {zs cs:List D} {zv:Array Value} {place:Nat->Option (Nat×Nat)},
  A1 w g zs zv.toList->l.length=ps.length->(∀(j:Nat) x p,l[j]?=some x->ps[j]?=some p->place p.1=some (x.1,x.2.1)∧Rep w g x.2.2 p.2)->
  Bw zs l=some cs->∃cv:Array Value,Instr.fill place zv ps=some cv∧A1 w g cs cv.toList
 |[],[],zs,cs,zv,place,hz,_,_,h=>by
  simp only[Bw,Qh]at h;subst h;exact⟨zv,rfl,hz⟩
 |(off,sz,d)::l,[],zs,cs,zv,place,hz,hl,_,h=>by cases hl
 |[],p::ps,zs,cs,zv,place,hz,hl,_,h=>by cases hl
 |(off,sz,d)::l,(i,v)::ps,zs,cs,zv,place,hz,hl,hp,h=>by
  unfold Bw at h;split at h
  ·rename_i r;obtain⟨c1,c2,c3⟩:=r;obtain⟨n,m⟩:=hp 0 _ _ rfl rfl;simp only at n m;have z:=m.cells c1;have a:v.cells.size=sz:=by have:=z.1;simp at this;omega
   have f:=hz.1;simp only[Q1]at f;have ha:off+v.cells.size<=zv.size:=O
   have c:=E2 v.cells off zv ha;have k:A1 w g (Eh zs off d.cells) ((v.cells.zipIdx.foldl (λcs (x:Value×Nat)=>cs.setIfInBounds (off+x.2) x.1) zv)).toList:=by
    rw[c];unfold Eh;have h1:A1 w g (zs.take off) (zv.toList.take off):=by
     refine⟨Xc,λv y=>hz.2.1 v (QJ y),λj d v s y=>?_⟩;have e:j<off:=by
      rcases ZC j off with h1|h1
      ·exact h1
      ·rw[Qr Xc]at s;cases s
     rw[Qv e]at s y;exact hz.2.2 j d v s y
    have q:A1 w g (zs.drop (off+d.cells.length)) (zv.toList.drop (off+v.cells.toList.length)):=by
     rw[z.1];refine⟨Xc,λv y=>hz.2.1 v (QE y),λj d v s y=>?_⟩;rw[QD]at s y;exact hz.2.2 _ d v s y
    exact A1.append (A1.append h1 z) q
   obtain⟨cv,b,t⟩:=L9 (ps:=ps) (place:=place) k Xo (λj x p u o=>hp (j+1) x p XQ XE) h;refine⟨cv,?_,t⟩;unfold Instr.fill;rw[n];simp only;rw[if_neg (by simp[a];omega)];exact b
  ·cases h
def Pa{v:List Field}(W:World)(h:∀f∈v,∃n,CS P f.type=some n):
  ∃t:List (Nat×Nat),(v.mapM (m:=Sem) λ(f:Field)=>do pure (f.offset,←sizeOf f.type)).run P W= .ok t W∧t.length=v.length∧∀(i:Nat)(f:Field) n,v[i]?=some f->CS P f.type=some n->t[i]?=some (f.offset,n):=by
 induction v with
 |nil=>exact⟨[],U,rfl,U⟩
 |cons f r ih=>
  obtain⟨n,c⟩:=h f (Qu ..);obtain⟨t,p,j,z⟩:=ih (λf o=>h f (Qw _ o));refine⟨(f.offset,n)::t,?_,by simp[j],λi q a hi g=>?_⟩
  ·simp_all [Hd,p]
  ·grind
def F4{v:Array Field}:∀{ps:List (Nat×Operand)} {l:List (Nat×Nat×GW)},DB P v ps=some l->
  l.length=ps.length∧∀(j:Nat) x p,l[j]?=some x->ps[j]?=some p->∃f:Field,v[p.1]?=some f∧CS P f.type=some x.2.1∧x.1=f.offset∧AE p.2=some x.2.2
 |[],l,h=>by simp only[DB,Qh]at h;subst h;simp
 |(i,x)::r,l,h=>by
  unfold DB at h;split at h
  ·rename_i f y z e1 m c;split at h
   ·rename_i n b;simp only[Qh]at h;subst h;obtain⟨k,q2⟩:=F4 c;refine⟨by simp[k],λj t p u o=>?_⟩;cases j with
    |zero=>
     simp only[QL,Qh]at u o;subst u o;exact⟨f,e1,b,rfl,m⟩
    |succ j=>exact q2 j t p XQ XE
   ·cases h
  ·cases h
def LN{sz:Nat}:∀{ps:List (Nat×Operand)} {l:List (Nat×Nat×GW)},F5 sz ps=some l->
  l.length=ps.length∧∀(j:Nat) x p,l[j]?=some x->ps[j]?=some p->x.1=p.1*sz∧x.2.1=sz∧AE p.2=some x.2.2
 |[],l,h=>by simp only[F5,Qh]at h;subst h;simp
 |(i,x)::r,l,h=>by
  unfold F5 at h;split at h
  ·rename_i y z m c;simp only[Qh]at h;subst h;obtain⟨k,q2⟩:=LN c;refine⟨by simp[k],λj v p f o=>?_⟩;cases j with
   |zero=>
    simp only[QL,Qh]at f o;subst f o;exact⟨rfl,rfl,m⟩
   |succ j=>exact q2 j v p (by simpa using f) XE
  ·cases h
def eO{t e:TypeId}{len sz:Nat}{z:Array (Nat×Operand)}{o:Oper}{zs:List D}{l:List (Nat×Nat×GW)}(h:At P B w0 w m g fr s a)(n:P.underlying t=some (.array len e))
  (ja:CS P e=some sz) (y:Db P t=some (.agg zs)) (hl:F5 sz z.toList=some l) (ho:o.op= .build t z) (q:exec S s m fr (.build zs l)=some (d,u)):
  u=[]∧C7 P B w0 m g fr w m d (execOp a.eval o):=by
 simp only[exec]at q;rw[Qi]at q;obtain⟨cs,sa,q⟩:=q;simp only[Qk]at q;obtain⟨rfl,rfl⟩:=q;unfold Db at y;split at y
 ·rename_i k c;split at y
  ·rename_i zv r;have hr:Rep w g (.agg zs) zv:=Rep.ofVal y;obtain⟨vs,rfl,rz⟩:=aJ hr;obtain⟨q1,q2⟩:=LN hl;have b:=L9 (w:=w) (g:=g) (l:=l.map λp=>(p.1,p.2.1,p.2.2.ev s)) (ps:=(z.map λ(i,x)=>(i,a.eval x)).toList) (zs:=zs) (cs:=cs) (zv:=vs.toArray) (place:=λi=>some (i*sz,sz))
    (by simpa using rz) (by simp[q1]) (λj x p f hp=>?_) sa
   ·obtain⟨cv,f1,f2⟩:=b;refine⟨rfl,.pure (v:= .agg cv) h.inv ?_ ?_⟩
    ·simp only[execOp,ho,Instr.build,zeroValue,typeInfo,Sem.run_bind,run_program,Result.andThen_ok,c,r,Sem.run_pure,run_underlying n,Hd ja,Value.cells,f1]
    ·have:=aK f2
     rwa [QK]at this
   ·rw[Qq,Qi]at f;obtain⟨x',oa,rfl⟩:=f;rw[QT,Qq,Qi]at hp;obtain⟨p',va,rfl⟩:=hp;obtain⟨r1,r2,r4⟩:=q2 j x' p' oa va;refine⟨?_,h.slots.arg r4⟩;simp[r1,r2]
  ·cases y
 ·cases y
def lM{t:TypeId}{z:Array (Nat×Operand)}{o:Oper}{y:Array Field}{zs:List D}{l:List (Nat×Nat×GW)}(h:At P B w0 w m g fr s a)(e:P.underlying t=some (.struct y))
  (ra:eD P y.toList=true) (hz:Db P t=some (.agg zs)) (hl:DB P y z.toList=some l) (ho:o.op= .build t z) (he:exec S s m fr (.build zs l)=some (d,u)):
  u=[]∧C7 P B w0 m g fr w m d (execOp a.eval o):=by
 simp only[exec]at he;rw[Qi]at he;obtain⟨cs,sa,he⟩:=he;simp only[Qk]at he;obtain⟨rfl,rfl⟩:=he;unfold Db at hz;split at hz
 ·rename_i k c;split at hz
  ·rename_i zv r;have hr:Rep w g (.agg zs) zv:=Rep.ofVal hz;obtain⟨vs,rfl,rz⟩:=aJ hr;have q:∀f∈y.toList,∃n,CS P f.type=some n:=by
    intro f hf;have:=QF.1 ra f hf;rw[Zl]at this;exact this
   obtain⟨pl,p1,p2,p3⟩:=Pa (P:=P) w q;obtain⟨q1,q2⟩:=F4 hl;have b:=L9 (w:=w) (g:=g) (l:=l.map λp=>(p.1,p.2.1,p.2.2.ev s)) (ps:=(z.map λ(i,x)=>(i,a.eval x)).toList) (zs:=zs) (cs:=cs) (zv:=vs.toArray) (place:=λi=>pl.toArray[i]?)
    (by simpa using rz) (by simp[q1]) (λj x p hx hp=>?_) sa
   ·obtain⟨cv,f1,f2⟩:=b;refine⟨rfl,.pure (v:= .agg cv) h.inv ?_ ?_⟩
    ·have hm:(y.mapM (m:=Sem) λ(f:Field)=>do pure (f.offset,←sizeOf f.type)).run P w= .ok pl.toArray w:=by
      rw[Zi,Sem.run_map,p1];rfl
     simp only[execOp,ho,Instr.build,zeroValue,typeInfo,Sem.run_bind,run_program,Result.andThen_ok,c,r,Sem.run_pure,run_underlying e,hm,Value.cells,f1]
    ·have:=aK f2
     rwa [QK]at this
   ·rw[Qq,Qi]at hx;obtain⟨x',oa,rfl⟩:=hx;rw[QT,Qq,Qi]at hp;obtain⟨p',va,rfl⟩:=hp;obtain⟨f,r1,r2,r3,r4⟩:=q2 j x' p' oa va;refine⟨?_,h.slots.arg r4⟩;have:=p3 p'.1 f x'.2.1 (by simpa using r1) r2;simp only[QQ];rw[this,r3]
  ·cases hz
 ·cases hz
end
section
variable{P:Program}{B:Nat}{w0 w:World}{m:GV}{g:Gh}{fr:Id}{s:Nat->D}{a:Act}{S:GR}{d:D}{u:Ha}
def Rp:∀{xs:List Operand} {ys:List GW},D0 xs=some ys->xs.length=ys.length∧∀(j:Nat) x y,xs[j]?=some x->ys[j]?=some y->AE x=some y
 |[],ys,h=>by simp only[D0,Qh]at h;subst h;simp
 |x::r,ys,h=>by
  unfold D0 at h;split at h
  ·rename_i y l u z;simp only[Qh]at h;subst h;obtain⟨p,q⟩:=Rp z;refine⟨by simp[p],λj v b f d=>?_⟩;cases j with
   |zero=>simp only[QL,Qh]at f d;subst f d;exact u
   |succ j=>exact q j v b (by simpa using f) XS
  ·cases h
def eC{sz:Nat}(c:0<sz):∀{ps:List (Nat×Value)} {k:Nat} {cs:Array Value},ps.map (·.1)=Zw k ps.length->(∀p∈ps,p.2.cells.size=sz)->cs.size=(k+ps.length)*sz->
  ∃b:Array Value,Instr.fill (λi=>some (i*sz,sz)) cs ps=some b∧b.toList=cs.toList.take (k*sz)++ps.flatMap λp=>p.2.cells.toList
 |[],k,cs,_,_,hcs=>⟨cs,rfl,by simp at hcs;simp[List.take_of_length_le,hcs]⟩
 |(i,v)::r,k,cs,s,hp,hcs=>by
  simp only[Qy,Qz,Q9,ZO]at s;obtain⟨rfl,s⟩:=s;have y:=hp (i,v) (Qu ..);simp only at y;have ta:i*sz+v.cells.size<=cs.size:=by
   rw[hcs,y,←ZD];exact QI _ Yq
  have u:=E2 v.cells (i*sz) cs ta;have o:(v.cells.zipIdx.foldl (λcs (x:Value×Nat)=>cs.setIfInBounds (i*sz+x.2) x.1) cs).size=cs.size:=by
   rw[←Q1,u];simp;omega
  obtain⟨b,g,d⟩:=eC (k:=i+1) (ps:=r) (cs:=v.cells.zipIdx.foldl (λcs (x:Value×Nat)=>cs.setIfInBounds (i*sz+x.2) x.1) cs) c s (λp q=>hp p (Qw _ q)) (by rw[o,hcs];congr 1;simp only[Qz];omega);refine⟨b,?_,?_⟩
  ·unfold Instr.fill;simp only;rw[if_neg (by simp[y];first|done|omega)];exact g
  ·rw[d,u];have hl:(cs.toList.take (i*sz)).length=i*sz:=by rw[Zm];simp;omega
   have a:v.cells.toList.length=sz:=XY
   simp only[Zj];rw[←QS];congr 1;rw[show(i+1)*sz=(cs.toList.take (i*sz)++v.cells.toList).length by rw[ZB,hl,a,ZD]];exact List.take_left
theorem eP{t e:TypeId}{ba:Array (Nat×Operand)}{len:Nat}{o:Oper}{sz bytes:Nat}{l:List GW}(h:At P B w0 w m g fr s a)(hu:P.underlying t=some (.slice e))(he:IV P e=some (sz,bytes))
  (hl:D0 (ba.toList.map (·.2))=some l) (f:ba.toList.map (·.1)=QA len) (ta:len*sz<=2 ^ 24) (ho:o.op= .buildSlice t len ba)
  (hx:exec S s m fr (.bslice e sz l)=some (d,u)):C7 P B w0 m g fr w (Ha.app m u) d (execOp a.eval o):=by
 obtain⟨va,ti,z,hi,ca,hz,mb,na⟩:=IU he;simp only[exec]at hx;split at hx
 ·rename_i ka;simp only[Qh,Qk]at hx;obtain⟨rfl,rfl⟩:=hx;have ja:∀p∈l,((p.ev s).data=true∧(p.ev s).cells.length=sz)∧(p.ev s).un.calm=true:=by
   simp_all
  have b:∀p∈l,(p.ev s).data=true∧(p.ev s).cells.length=sz:=λp hp=>(ja p hp).1
  obtain⟨ea,da⟩:=Rp hl;have r:ba.toList.length=len:=by have:=congrArg ZS f;simpa using this
  simp only[Q4]at ea;have fa:∀(j:Nat) d v,(l.map λp=>(p.ev s).un)[j]?=some d->(ba.toList.map λp=>a.eval p.2)[j]?=some v->Rep w g d v:=by
   intro j d v hd hv;rw[Qq,Qi]at hd hv;obtain⟨y,hy,rfl⟩:=hd;obtain⟨p,hp,rfl⟩:=hv;exact(h.slots.arg (da j p.2 y (by rw[Qq,hp];rfl) hy)).un
  have sa:=A1.flat (w:=w) (g:=g) (sz:=sz) (xs:=l.map λp=>(p.ev s).un) (vs:=ba.toList.map λp=>a.eval p.2) (λd hd=>by
   rw[QC]at hd;obtain⟨y,hy,rfl⟩:=hd;exact⟨aHX (b y hy).1,by rw[Rn];exact(b y hy).2⟩) Xc fa
  have oa:∀p∈(ba.map λ(i,x)=>(i,a.eval x)).toList,p.2.cells.size=sz:=by
   intro p hp;rw[QT,QC]at hp;obtain⟨q,hq,rfl⟩:=hp;obtain⟨j,hj,ra⟩:=Zg hq;have hy:l[j]?=some (l[j]' O):=Qj _;have hr:=h.slots.arg (da j q.2 _ (by rw[Qq,Qj hj,ra];rfl) hy);have hd:=b _ (Q7 (by omega:j<l.length));have:=(hr.cells hd.1).1;simp at this ⊢;omega
  let row:Array Value:=(ZT (len*sz)).map (z.cells[· % z.cells.size]!)
  have ha:row.size=(0+(ba.map λ(i,x)=>(i,a.eval x)).toList.length)*sz:=by
   grind
  obtain⟨cv,f1,f2⟩:=eC va (ps:=(ba.map λ(i,x)=>(i,a.eval x)).toList) (k:=0) (cs:=row) (by
   rw[←QY];simp only[QT,List.map_map,Q4,r];rw[←f];apply Q2;intro p _;rfl) oa ha
  have ma:cv.toList=(ba.toList.map λp=>a.eval p.2).flatMap λv=>v.cells.toList:=by
   rw[f2];simp[List.flatMap_map]
  have qa:cv.size=len*sz:=by
   have:=sa.1;rw[←ma]at this;rw[C_ (sz:=sz) (λd hd=>by
    rw[QC]at hd;obtain⟨y,hy,rfl⟩:=hd;rw[Rn];exact(b y hy).2)]at this
   simp only[Q1,Q4]at this;rw[this];congr 1;omega
  have ua:len<=maxLen:=by
   have:len*1<=len*sz:=Nat.mul_le_mul_left _ va;unfold maxLen;omega
  have ia:=h.inv.newTok h.self (e:=e) (n:=len) (c:=len) (sz:=sz) (cur:=cv) va ⟨ti,z,hi,ca,hz,mb⟩ (Qp _) ua qa;have ga:=Hk.newTok (t:=fr) (n:=len) (c:=len) (sz:=sz) (Obj.cells cv e) h.inv.gz h.self.2.2 rfl;refine⟨.slice (some ⟨w.heap.size,0,none⟩) len len,w.alloc (.cells cv e),g.tok fr w.heap.size len len sz,.value (.slice (some ⟨w.heap.size,0,none⟩) len len),?_,.inl rfl,ia,ga,?_,λi hf la=>C5 hf la _ _ _ _ _⟩
  ·have pa:¬(len*sz>2 ^ 24):=by omega
   have hb:CS P e=some sz:=by simp[CS,hi,ca]
   by_cases h0:len*sz=0
   ·have aa:(ZT 0).map ((#[]:Array Value)[· % (#[]:Array Value).size]!)=row:=by simp[row,h0]
    simp only[execOp,ho,Instr.buildSlice,Sem.run_bind,run_underlying hu,Result.andThen_ok,Hd hb,show ¬((0:Nat)>2 ^ 24)from by omega,if_false,h0,if_true,Sem.run_pure,aa,f1,GF]
   ·simp only[execOp,ho,Instr.buildSlice,Sem.run_bind,run_underlying hu,Result.andThen_ok,Hd hb,pa,if_false,h0,Sem.run_pure,zeroValue,typeInfo,run_program,hi,hz];change (Sem.run P (match Instr.fill (λi=>some (i*sz,sz)) row (ba.map λ(i,x)=>(i,a.eval x)).toList with|some cells=>_|_=>_) w).andThen _=_;rw[f1];simp only[Sem.run_bind,GF,Result.andThen_ok,Sem.run_pure]
  ·refine aH (sz:=sz) (cur:=cv) (T:=e) (fz:=(0,0)) (heap_alloc_new w _) Xc (Qp _) (λd hd=>?_) (sa.ext ga) (λj v hv=>?_) Xl (λ_=>Xl) (λd hd=>?_)
   ·grind [Rn]
   ·grind
   ·grind
 ·cases hx
end
structure iE (P:Program) (w:World) (size:Nat) (y:Value) (n:Nat) (ws:List Value):Prop where
 len:∀W:World,(Builtin.lenOf y).run P W= .ok n W
 cells:(Builtin.firstCells size n y).run P w= .ok ws.toArray w
 drew:(Builtin.firstCells size n y).run P w.drew= .ok ws.toArray w.drew
 wl:ws.length=n*size
section
variable{P:Program}{w:World}
theorem iE.slice{v n c:Nat}{ad:Addr}{b:List Value}(hl:b.length=n*v)(h:∀j u,b[j]?=some u->w.cell? (ad.add j)=some u):iE P w v (.slice (some ad) n c) n b:=
 ⟨λW=>Yl,run_firstCells_some (P:=P) w v n ad n c b hl h,run_firstCells_some (P:=P) w.drew v n ad n c b hl Xp,hl⟩
def iE.string(s:ByteArray):iE P w 1 (.string s) s.size (Lib.strCells s):=
 ⟨λW=>Yl,Lib.run_firstCells_string w 1 s,Lib.run_firstCells_string w.drew 1 s,by rw[Lib.strCells_length];omega⟩
def bJ{t ty e:TypeId}{i:TypeInfo}{z:Value}(s:P.underlying t=some (.slice e))(hi:P.info? e=some i)(j:i.zero=some z)
  {y:Value} {n:Nat} {b:List Value} (g:iE P w i.size y n b)
  (r:0<n) (v:(n:Int)<=9223372036854775807) (f:n*i.bytes<=281474976710656):
  (Builtin.append_ #[t,t] ty #[.slice none 0 0,y]).run P w=
   .ok (.slice (some ⟨w.heap.size,0,none⟩) n (grownCap w n 0 e)) (w.drew.alloc (.cells (b.toArray++Builtin.zeroCells z.cells (grownCap w n 0 e-n)) e)):=by
 have q:n≠0:=O
 have a:¬(9223372036854775807<(n:Int)):=O
 have c:¬(281474976710656<Builtin.nextslicecap n 0*i.bytes):=by rw[nextslicecap_zero r];omega
 have o:=g.drew;have hl:=g.len;simp[Builtin.append_,run_underlying s,sizeOf,typeInfo,zeroValue,hi,j,hl,q,a,c,Question.forced,run_firstCells_none,o,newRow,grownCap]
def U7{t ty e:TypeId}{i:TypeInfo}{z:Value}(s:P.underlying t=some (.slice e))(hi:P.info? e=some i)(hz:i.zero=some z)
  {b:Addr} {sLen sCap:Nat} {olds:List Value} (f:olds.length=sLen*i.size) (d:∀j v,olds[j]?=some v->w.cell? (b.add j)=some v)
  {y:Value} {n:Nat} {u:List Value} (g:iE P w i.size y n u)
  (hg:sCap<sLen+n) (aa:((sLen+n:Nat):Int)<=9223372036854775807) (x:Builtin.nextslicecap (sLen+n) sCap*i.bytes<=281474976710656):
  (Builtin.append_ #[t,t] ty #[.slice (some b) sLen sCap,y]).run P w=
   .ok (.slice (some ⟨w.heap.size,0,none⟩) (sLen+n) (grownCap w (sLen+n) sCap e))
    (w.drew.alloc (.cells (olds.toArray++u.toArray++Builtin.zeroCells z.cells (grownCap w (sLen+n) sCap e-(sLen+n))) e)):=by
 have hn:¬(sLen+n<=sCap):=O
 have a:¬(9223372036854775807<((sLen:Int)+(n:Int))):=O
 have c:¬(281474976710656<Builtin.nextslicecap (sLen+n) sCap*i.bytes):=O
 have o:=g.drew;have hl:=g.len;have q:=run_firstCells_some (P:=P) w.drew i.size sLen b sLen sCap olds f XS;simp[Builtin.append_,run_underlying s,sizeOf,typeInfo,zeroValue,hi,hz,hl,hn,a,c,Question.forced,o,q,newRow,grownCap];congr 2;apply Array.ext';simp[QS]
def U5{t ty e:TypeId}{i:TypeInfo}(s:P.underlying t=some (.slice e))(hi:P.info? e=some i)
  {g sLen sCap:Nat} {cur:Array Value} (a:w.heap[g]?=some (.cells cur e (0,0))) {y:Value} {n:Nat} {b:List Value} (hs:iE P w i.size y n b) (k:∀u∈b,u.oneCell'=true)
  (f:sLen+n<=sCap) (x:sLen*i.size+b.length<=cur.size):
  (Builtin.append_ #[t,t] ty #[.slice (some ⟨g,0,none⟩) sLen sCap,y]).run P w=
   .ok (.slice (some ⟨g,0,none⟩) (sLen+n) sCap) (w.setRow g (cur.toList.take (sLen*i.size)++b++cur.toList.drop (sLen*i.size+b.length)).toArray):=by
 have o:=hs.cells;have hl:=hs.len;have v:=run_storeCells_at P g (sLen*i.size) e b 0 cur w a (by simpa using x) k;simp only[Zq]at v;simp[Builtin.append_,run_underlying s,sizeOf,typeInfo,hi,hl,f,o,Addr.add_lit,v]
def iE.nil{v:Nat}:iE P w v (.slice none 0 0) 0 []:=
 ⟨λW=>Yl,by simp[Builtin.firstCells],by simp[Builtin.firstCells],U⟩
def U6{t ty e:TypeId}{i:TypeInfo}(s:P.underlying t=some (.slice e))(hi:P.info? e=some i){y:Value}{b:List Value}(g:iE P w i.size y 0 b):
  (Builtin.append_ #[t,t] ty #[.slice none 0 0,y]).run P w= .ok (.slice none 0 0) w:=by
 have o:=g.cells;have hl:=g.len;simp[Builtin.append_,run_underlying s,sizeOf,typeInfo,hi,hl,o]
def U4{t u ty e:TypeId}(s:P.underlying t=some (.slice e))(a:P.underlying u=some .string)(x y:Value):
  (Builtin.append_ #[t,u] ty #[x,y]).run P w=(Builtin.append_ #[t,t] ty #[x,y]).run P w:=by
 cases x<;>simp[Builtin.append_,run_underlying s,run_underlying a,sizeOf]
end
section
variable{P:Program}{B:Nat}{w0 w:World}{m:GV}{g:Gh}{fr:Id}{s:Nat->D}{a:Act}{S:GR}{d:D}{u:Ha}
def Rep.slice_list{t:Id}{xs:List D}{v:Value}(h:Rep w g (.slice false t xs) v):∃ad n c sz,∃b:List Value,v= .slice (some ad) n c∧n=xs.length∧n<=c∧(∀d∈xs,d.cells.length=sz)∧
  b.length=n*sz∧A1 w g (flat xs) b∧(∀j u,b[j]?=some u->w.cell? (ad.add j)=some u)∧(0<n*sz->ad.off+n*sz<=g.G ad.block)∧
  (t≠[]->ad.off=0∧ad.spot=none∧g.tb t=some (ad.block,n,c,sz))∧(∀d∈xs,d.calm=true):=by
 rcases h.slice_inv with ⟨r,_⟩|⟨_,ad,n,c,sz,vv,ev,y,q,m,x,k,o,p,s,f⟩
 ·cases r
 ·have hl:=C_ m;refine⟨ad,n,c,sz,(QA (n*sz)).map vv,ev,y,q,m,U,⟨by simp[hl,y],λv i=>?_,λj d v z i=>?_⟩,λj u a=>?_,p,s,f⟩
  ·grind
  ·grind
  ·grind
def Sj:∀{ys:List D},(∀d∈ys,d.cells=[d])->flat ys=ys
 |[],_=>rfl
 |d::r,h=>by
  rw[flat,h d (Qu ..),Sj λd z=>h d (Qw _ z)];rfl
def oS{y:D}{v:Value}{ys:List D}{sz:Nat}(h:Rep w g y v)(i:I1 sz y=some ys)(hh:aF ys sz=sz):
  ∃ws:List Value,iE P w sz v ys.length ws∧A1 w g (flat ys) ws∧(∀d∈ys,d.cells.length=sz)∧∀d∈ys,d.calm=true:=by
 unfold I1 at i;split at i
 ·rename_i nl t e;simp only[Qh]at i;subst i;cases nl with
  |true=>
   rcases h.slice_inv with ⟨_,rfl,rfl⟩|⟨r,_⟩
   ·exact⟨[],iE.nil,A1.nil w g,U,U⟩
   ·cases r
  |false=>
   obtain⟨ad,n,c,xa,ws,rfl,q,fb,z,bb,m,x,o,na,a⟩:=h.slice_list;subst q;rcases Uf z hh with rfl|rfl
   ·grind [iE.slice,A1.nil]
   ·exact⟨ws,iE.slice bb x,m,z,a⟩
 ·rename_i b;split at i
  ·rename_i k;subst k;simp only[Qh]at i;subst i;have hv:v= .string ⟨b.toArray⟩:=by cases h;rfl
   subst hv;have ea:(Aw b).length=(⟨b.toArray⟩:ByteArray).size:=by simp[Aw];rfl
   have k:∀d∈Aw b,d.cells=[d]∧d.calm=true:=by
    intro d s;simp only[Aw,QC]at s;obtain⟨c,_,rfl⟩:=s;exact⟨rfl,rfl⟩
   refine⟨Lib.strCells ⟨b.toArray⟩,ea▸iE.string _,⟨?_,Lib.strCells_oneCell _,λj d u s hu=>?_⟩,λd s=>by rw[(k d s).1];rfl,λd s=>(k d s).2⟩
   ·rw[Sj λd s=>(k d s).1,Lib.strCells_length,ea]
   ·rw[Sj λd s=>(k d s).1]at s;simp only[Aw,Lib.strCells,Qq,Qi]at s hu;obtain⟨c,p,rfl⟩:=s;obtain⟨c',f,rfl⟩:=hu;rw[p]at f;simp only[Qh]at f;subst f;exact .int _ _
  ·cases i
 ·cases i
def aDI{t t2 e:TypeId}{o:Oper}{x y:Operand}{p q:GW}{sz bytes:Nat}(h:At P B w0 w m g fr s a)(hu:P.underlying t=some (.slice e))(he:IV P e=some (sz,bytes))
  (hx:AE x=some p) (hy:AE y=some q) (ho:o.op= .call {callee:= .builtin .append,args:=#[x,y],argTypes:=#[t,t2]}) (ht2:t2=t∨P.underlying t2=some .string)
  (ba:exec S s m fr (.app e sz bytes p q)=some (d,u)):C7 P B w0 m g fr w (Ha.app m u) d (execOp a.eval o):=by
 obtain⟨va,ti,z,hi,ca,hz,mb,na⟩:=IU he;have hb:CS P e=some sz:=by simp[CS,hi,ca]
 have ua:=h.slots.arg hx;have wa:=h.slots.arg hy;have eb:∃ti z,P.info? e=some ti∧ti.size=sz∧ti.zero=some z∧z.cells.size=sz:=⟨ti,z,hi,ca,hz,mb⟩;have ma:∀v' w',(Builtin.append_ #[t,t] o.type #[a.eval x,a.eval y]).run P w= .ok v' w'->(execOp a.eval o).run P w= .ok (.value v') w':=by
  intro v' w' e1;have e1:(Builtin.append_ #[t,t2] o.type #[a.eval x,a.eval y]).run P w= .ok v' w':=by
   rcases ht2 with rfl|ht2
   ·exact e1
   ·simp_all [U4,e1]
  simp only[execOp,ho,resolve,invoke,builtin,Sem.run_bind,Sem.run_pure,Result.andThen_ok,ZI,Qy,Zr,e1]
 simp only[exec]at ba;split at ba
 ·rename_i nl t' xs ys ex ey;rw[ex]at ua;split at ba
  ·rename_i hc;obtain⟨rfl,rfl⟩:=hc;simp only[Qh,Qk]at ba;obtain⟨rfl,rfl⟩:=ba;rcases ua.slice_inv with ⟨_,rfl,ev⟩|⟨h0,_⟩
   ·obtain⟨ws,ra,_⟩:=oS (P:=P) wa ey (show aF [] sz=sz from rfl);have hv:=U6 (ty:=o.type) hu hi (ca▸ra);exact .pure h.inv (ma _ _ (by rw[ev];exact hv)) (.nils _)
   ·cases h0
  ·rename_i fb;split at ba
   ·rename_i hc;obtain⟨ya,jc⟩:=hc;obtain⟨ws,ra,fa,tb,kb⟩:=oS (P:=P) wa ey jc;have bb:ws.length=ys.length*sz:=ra.wl;have jb:iE P w ti.size (a.eval y) ys.length ws:=by rw[ca];exact ra
    have zb:xs.length+ys.length<=140737488355328:=by
     grind
    have db:(xs.length+ys.length)*bytes<=140737488355328:=by
     grind
    split at ba
    ·-- onto nil
     rename_i qa;subst qa;simp only[Qh,Qk]at ba;obtain⟨rfl,rfl⟩:=ba;have gb:ys≠[]:=λe=>fb ⟨rfl,e⟩
     rcases ua.slice_inv with ⟨_,rfl,ev⟩|⟨h0,_⟩
     ·have ea:0<ys.length:=List.length_pos_iff.2 gb;simp only[List.length_nil,QB]at zb db;have hr:=bJ (P:=P) (ty:=o.type) hu hi hz jb ea O (by rw[na];omega);have pa:=grownCap_ge w ys.length 0 e;have lb:grownCap w ys.length 0 e<=maxLen:=grownCap_le_maxLen w ys.length 0 e Xt;have xa:(ws.toArray++Builtin.zeroCells z.cells (grownCap w ys.length 0 e-ys.length)).size=grownCap w ys.length 0 e*sz:=by
       simp only[ZE,ZF,size_zeroCells,mb,bb,←QX];congr 1;omega
      have ia:=h.inv.drew.newTok h.self (e:=e) (n:=ys.length) (c:=grownCap w ys.length 0 e) (sz:=sz) (cur:=ws.toArray++Builtin.zeroCells z.cells (grownCap w ys.length 0 e-ys.length)) va eb pa lb xa;have ga:Hk w g (w.drew.alloc (.cells (ws.toArray++Builtin.zeroCells z.cells (grownCap w ys.length 0 e-ys.length)) e)) (g.tok fr w.heap.size ys.length (grownCap w ys.length 0 e) sz):=
       (Hk.drew w g).trans (Hk.newTok (w:=w.drew) _ h.inv.gz h.self.2.2 rfl)
      refine⟨_,_,_,_,ma _ _ (by rw[ev];exact hr),.inl rfl,ia,ga,?_,λi hf la=>C5 hf la _ _ _ _ _⟩;refine aH (sz:=sz) (cur:=ws.toArray++Builtin.zeroCells z.cells (grownCap w ys.length 0 e-ys.length)) (T:=e) (fz:=(0,0)) (heap_alloc_new w.drew _) rfl pa tb (fa.ext ga) (λj v hv=>?_) Xl (λ_=>Xl) kb;rw[QP (by simpa using (Qm.1 hv).1)];simpa using hv
     ·cases h0
    ·-- onto a growing slice
     rename_i qa;have qa:nl=false:=by cases nl<;>simp_all
     subst qa;split at ba
     ·rename_i k hk;split at ba
      ·rename_i bc;obtain⟨bc,fc⟩:=bc;subst bc;simp only[Qh,Qk]at ba;obtain⟨rfl,rfl⟩:=ba;obtain⟨ad,n0,c0,lc,ob,ev,hn,xb,yb,rb,ub,ib,mc,ec,kc⟩:=ua.slice_list;obtain⟨b,n,c,l,cur,t1,t2,t3,t4,t5,t6,t7,t8,t9,za⟩:=h.inv.tok t' e hk;obtain⟨q1,q2,q3⟩:=ec fc;rw[t1]at q3;simp only[Qh,Qk]at q3;obtain⟨rfl,rfl,rfl,rfl⟩:=q3;have qb:l=sz:=by obtain⟨ic,z',i1,i2,_⟩:=t4;rw[hi]at i1;simp only[Qh]at i1;subst i1;omega
       subst qb;have wb:ad=⟨ad.block,0,none⟩:=by cases ad;simp_all
       have ab:w.heap[ad.block]?=some (.cells cur e (0,0)):=t5;have cb:∀(j:Nat) v,ob[j]?=some v->cur[j]?=some v:=by
        intro j v hv;have:=ib j v hv;rw[wb,D8,QB]at this;simpa[World.cell?,ab]using this
       have sb:cur.toList.take (n*l)=ob:=by
        apply ZG;intro j;by_cases hj:j<n*l
        ·rw[Qv hj];have:ob[j]?=some (ob[j]' O):=Qj _;rw[this];simpa using cb j _ this
        ·rw[Qr Xc,Qr O]
       have vb:Hc P B w0 (m.put t' 0 [.tok 0]) w g:=h.inv.kill (by
        cases hd:g.dl t' with
        |none=>rfl
        |some b'=>
         obtain⟨_,_,vs,T,_,r⟩:=h.inv.obj t' b' hd;obtain⟨v,_,_,r3⟩:=r 0 _ hk;cases r3)
       have dc:fr≠t':=by rintro rfl;rw[h.self.1 0]at hk;cases hk
       have gc:B2 (m.put t' 0 [.tok 0]) g fr:=B2.kill h.self dc;have da:∀b' n' c' s',∀i,B2 m g i->¬fr<:+i->B2 ((m.put t' 0 [.tok 0]).put fr 0 [.tok (e+1)]) (g.tok fr b' n' c' s') i:=by
        intro b' n' c' s' i hf la;exact C5 (B2.kill hf (by rintro rfl;rw[hf.1 0]at hk;cases hk)) la _ _ _ _ _
       have ka:∀dd∈xs++ys,dd.cells.length=l:=by
        intro dd ac;rcases Qn.1 ac with hd|hd
        ·exact yb dd hd
        ·exact tb dd hd
       have pb:∀dd∈xs++ys,dd.calm=true:=by
        intro dd ac;rcases Qn.1 ac with hd|hd
        ·exact kc dd hd
        ·exact kb dd hd
       have sa:A1 w g (flat (xs++ys)) (ob++ws):=by rw[IR];exact A1.append ub fa
       have ea:n+ys.length=(xs++ys).length:=Xc
       have cc:(n+ys.length)<=maxLen:=Xt
       by_cases f:n+ys.length<=c
       ·-- there is room
        have ha:n*ti.size+ws.length<=cur.size:=by rw[bb,ca,t8,←QX];exact QI _ f
        have hr:=U5 (P:=P) (ty:=o.type) hu hi ab jb fa.2.1 f ha;rw[ca]at hr ha
        let ja:Array Value:=(cur.toList.take (n*l)++ws++cur.toList.drop (n*l+ws.length)).toArray
        have aa:(cur.toList.take (n*l)).length=n*l:=Yw
        have ta:ja.size=cur.size:=by simp[ja];omega
        have oa:∀j,j<n*l->ja[j]?=cur[j]?:=by
         intro j hj;simp only[ja,QQ,QS];rw[Qt O,Qv hj];simp
        have ia:=h.inv.inPlace h.self hk t1 (ZJ n ys.length) f ab ta oa;have ga:Hk w g (w.setRow ad.block ja) (g.tok fr ad.block (n+ys.length) c l):=Hk.inPlace h.self.2.2 t9 (ZJ n ys.length) ab oa ⟨_,_,t1,rfl⟩;refine⟨_,_,_,_,ma _ _ (by rw[ev,wb];exact hr),.inl rfl,ia,ga,?_,da _ _ _ _⟩;refine aH (sz:=l) (cur:=ja) (T:=e) (fz:=(0,0)) (setRow_heap w ad.block cur ja e _ ab) ea f ka (sa.ext ga) (λj v hv=>?_) Xl (λ_=>Xl) pb;simp only[ja,QQ,sb];rw[Qt (Qm.1 hv).1];exact hv
       ·-- there is none
        have hr:=U7 (P:=P) (ty:=o.type) hu hi hz (b:=ad) (sLen:=n) (sCap:=c) (olds:=ob) (by rw[rb,ca]) ib jb O O (growslice_fits O (by rw[na,hn];exact db));have pa:=grownCap_ge w (n+ys.length) c e;have lb:grownCap w (n+ys.length) c e<=maxLen:=grownCap_le_maxLen w (n+ys.length) c e cc;have xa:(ob.toArray++ws.toArray++Builtin.zeroCells z.cells (grownCap w (n+ys.length) c e-(n+ys.length))).size=grownCap w (n+ys.length) c e*l:=by
         simp only[ZE,ZF,size_zeroCells,mb,bb,rb,←QX];congr 1;omega
        have ia:=vb.drew.newTok gc (e:=e) (n:=n+ys.length) (c:=grownCap w (n+ys.length) c e) (sz:=l) (cur:=ob.toArray++ws.toArray++Builtin.zeroCells z.cells (grownCap w (n+ys.length) c e-(n+ys.length))) va eb pa lb xa;have ga:Hk w g (w.drew.alloc (.cells (ob.toArray++ws.toArray++Builtin.zeroCells z.cells (grownCap w (n+ys.length) c e-(n+ys.length))) e)) (g.tok fr w.heap.size (n+ys.length) (grownCap w (n+ys.length) c e) l):=
         (Hk.drew w g).trans (Hk.newTok (w:=w.drew) _ h.inv.gz h.self.2.2 rfl)
        refine⟨_,_,_,_,ma _ _ (by rw[ev];exact hr),.inl rfl,ia,ga,?_,da _ _ _ _⟩;refine aH (sz:=l) (cur:=ob.toArray++ws.toArray++Builtin.zeroCells z.cells (grownCap w (n+ys.length) c e-(n+ys.length))) (T:=e) (fz:=(0,0)) (heap_alloc_new w.drew _) ea pa ka (sa.ext ga) (λj v hv=>?_) Xl (λ_=>Xl) pb;have hj:=(Qm.1 hv).1;rw[QP (by simpa using hj)];simpa using hv
      ·cases ba
     ·cases ba
   ·cases ba
 ·cases ba
end
section
variable{P:Program}{B:Nat}{w0 w:World}{m:GV}{g:Gh}{fr:Id}{s:Nat->D}{a:Act}{S:GR}{d:D}{u:Ha}
theorem OX{v:Value}{d:D}(h:ofLeaf v=some d):d.calm1=true∧d.calm=true:=by
 unfold ofLeaf at h;split at h<;>first|(simp only[Qh]at h;subst h;exact⟨rfl,rfl⟩)|cases h
theorem lZ{v:Value}{d:D}(h:ofVal v=some d):d.calm=true:=by
 cases v with
 |agg cs=>
  simp only[ofVal,Qi]at h;obtain⟨l,hl,rfl⟩:=h;have t:∀{vs:List Value} {l:List D},ofLeaves vs=some l->l.all D.calm1=true:=by
   intro vs;induction vs with
   |nil=>intro l h;simp only[ofLeaves,Qh]at h;subst h;rfl
   |cons v r ih=>
    intro l h;unfold ofLeaves at h;split at h
    ·grind [OX]
    ·cases h
  exact t hl
 |_=>simp only[ofVal]at h;exact(OX h).2
def yF{t e:TypeId}{o:Oper}{x y:Operand}{p q:GW}{sz bytes:Nat}{z:D}(h:At P B w0 w m g fr s a)(hu:P.underlying t=some (.slice e))(he:IV P e=some (sz,bytes))
  (hz:Db P e=some z) (hx:AE x=some p) (hy:AE y=some q) (ho:o.op= .makeSlice t x y)
  (ba:exec S s m fr (.mksl e sz bytes z p q)=some (d,u)):C7 P B w0 m g fr w (Ha.app m u) d (execOp a.eval o):=by
 obtain⟨va,ti,zv,hi,ca,r,mb,na⟩:=IU he;have ua:=h.slots.arg hx;have wa:=h.slots.arg hy;have ja:Rep w g z zv:=by
  grind [Db,Rep.ofVal]
 have eb:z.data=true:=by
  unfold Db at hz;simp only[hi,r]at hz;cases zv<;>first|(simp only[ofVal,Qi]at hz;obtain⟨l,_,rfl⟩:=hz;rfl)|(simp only[ofVal]at hz;exact OW hz)
 have qa:z.calm=true:=by
  grind [Db,lZ]
 simp only[exec]at ba;split at ba
 ·rename_i k n k' c ex ey;rw[ex]at ua;rw[ey]at wa;split at ba
  ·rename_i hc;obtain⟨h0,fb,ya,f⟩:=hc;obtain⟨n,rfl⟩:=Zo h0;obtain⟨c,rfl⟩:=Zo (Int.le_trans h0 fb);have ab:c*(bytes+1)<=140737488355328:=by
    grind
   have db:bytes*c<=140737488355328:=by
    grind
   have pa:c<=140737488355328:=by
    grind
   have fa:(ti.bytes:Int)*(c:Int)<=281474976710656:=by
    grind
   have hr:=run_make (P:=P) w t e ti zv hu hi r k k' (n:Int) (c:Int) O O fa O;simp only[Int.toNat_natCast,ca]at hr;split at ba
   ·rename_i ka;split at ba
    ·rename_i xb;simp only[Qh,Qk]at ba;obtain⟨rfl,rfl⟩:=ba;obtain rfl:n=c:=by omega
     have ma:z.cells.length=1∧zv.cells=#[zv]∧zv.oneCell'=true:=by
      cases z with
      |nilIface=>
       obtain rfl:zv= .nilIface:=by cases ja;rfl
       exact⟨rfl,rfl,rfl⟩
      |str b=>
       obtain⟨v,rfl⟩:∃v,zv= .string v:=by cases ja;exact⟨_,rfl⟩
       exact⟨rfl,rfl,rfl⟩
      |_=>cases ka
     obtain⟨bb,gb,cb⟩:=ma;obtain rfl:1=sz:=bb.symm.trans f;have ha:∀(j:Nat),j<n->(madeCells #[zv] (n*1)).toList[j]?=some zv:=by
      intro j hj;simp[madeCells,hj,Nat.mod_one]
     have ea:(madeCells #[zv] (n*1)).toList.length=n:=by simp[madeCells]
     have sa:A1 w g (QG n z) (madeCells #[zv] (n*1)).toList:=by
      refine⟨by rw[ea];simp,λv hv=>?_,λj d v hd hv=>?_⟩
      ·obtain⟨j,hj,rfl⟩:=Zg hv;have:=ha j (by rw[ea]at hj;exact hj);rw[Qj hj]at this;rw[QR this];exact cb
      ·grind
     refine⟨.slice (some ⟨w.heap.size,0,none⟩) n n,w.alloc (.cells (madeCells #[zv] (n*1)) e),g.obj fr w.heap.size,.value (.slice (some ⟨w.heap.size,0,none⟩) n n),?_,.inl rfl,?_⟩
     ·simp only[execOp,ho,ua.int_inv,wa.int_inv,Sem.run_bind,Sem.run_pure];rw[gb]at hr;rw[hr];rfl
     ·have:=h.inv.newObj h.self (ds:=QG n z) (vs:=(madeCells #[zv] (n*1)).toList) e sa;rw[QK]at this;exact⟨this,Hk.newObj _ h.inv.gz h.self.2.1,.row fr n n w.heap.size (Qp _) (by simp[Gh.obj]),λi hf la=>EH hf la _ _⟩
    ·cases ba
   ·simp only[Qh,Qk]at ba;obtain⟨rfl,rfl⟩:=ba;have hb:zv.cells.size=sz:=mb;have aa:=ja.cells eb;have ia:=h.inv.newTok h.self (e:=e) (n:=n) (c:=c) (sz:=sz) (cur:=madeCells zv.cells (c*sz)) va ⟨ti,zv,hi,ca,r,mb⟩ O Xt (by simp[size_madeCells]);have ga:=Hk.newTok (t:=fr) (n:=n) (c:=c) (sz:=sz) (Obj.cells (madeCells zv.cells (c*sz)) e) h.inv.gz h.self.2.2 rfl;refine⟨.slice (some ⟨w.heap.size,0,none⟩) n c,_,_,.value (.slice (some ⟨w.heap.size,0,none⟩) n c),?_,.inl rfl,ia,ga,?_,λi hf la=>C5 hf la _ _ _ _ _⟩
    ·simp only[execOp,ho,ua.int_inv,wa.int_inv,Sem.run_bind,hr,Result.andThen_ok,Sem.run_pure]
    ·have oa:∀k,flat (QG k z)=(QG k z.cells).flatten:=by
      intro k;induction k with
      |zero=>rfl
      |succ k ih=>simp[List.replicate_succ,flat,ih]
     have da:∀(j:Nat),j<n*sz->(flat (QG n z))[j]?=z.cells[j % sz]?:=by
      intro j hj;have hq:j / sz<n:=Nat.div_lt_of_lt_mul (by rw[ZR];exact hj);have:=E3 (sz:=sz) (xs:=QG n z) (k:=j / sz) (j:=j % sz) (λd hd=>Y1) (by simpa using hq) (ZQ _ va);rw[show j / sz*sz+j % sz=j by rw[ZR];exact Nat.div_add_mod j sz]at this;rw[this];simp
     have ra:(flat (QG n z)).length=n*sz:=by
      simp_all
     have za:A1 w g (flat (QG n z)) ((madeCells zv.cells (c*sz)).toList.take (n*sz)):=by
      have ta:n*sz<=c*sz:=QI _ O;have ha:∀j,j<n*sz->((madeCells zv.cells (c*sz)).toList.take (n*sz))[j]?=zv.cells.toList[j % sz]?:=by
       intro j hj;rw[Qv hj];have hm:j % sz<zv.cells.size:=by rw[mb];exact ZQ _ va
       simp[madeCells,mb,show j<c*sz by omega];rw[getElem!_pos zv.cells _ hm,getElem?_pos zv.cells _ hm]
      refine⟨by rw[Zm,ra,Q1,size_madeCells];omega,λv hv=>?_,λj d v hd hv=>?_⟩
      ·obtain⟨j,hj,rfl⟩:=Zg hv;have xa:j<n*sz:=QV hj (Zy _ _);have:=ha j xa;rw[Qj hj]at this;exact aa.2.1 _ (Qx this.symm)
      ·have xa:j<n*sz:=by have:=(Qm.1 hd).1;omega
       rw[da j xa]at hd;rw[ha j xa]at hv;exact aa.2.2 _ d v hd hv
     refine aH (sz:=sz) (cur:=madeCells zv.cells (c*sz)) (T:=e) (fz:=(0,0)) (heap_alloc_new w _) U O (λd hd=>Y1) (za.ext ga) (λj v hv=>?_) Xl (λ_=>Xl) (λd hd=>by rw[List.eq_of_mem_replicate hd];exact qa);have hj:j<n*sz:=QV (Qm.1 hv).1 (Zy _ _);rw[Qv hj]at hv;simpa using hv
  ·cases ba
 ·cases ba
def Fu:∀b:List UInt8,flat (Aw b)=Aw b
 |[]=>rfl
 |c::r=>by
  have:=Fu r;simp only[Aw]at this;simp only[Aw,Qy,flat,D.cells,Q8,Zs,this]
def aDE{p dst e:TypeId}{o:Oper}{x:Operand}{y:GW}(h:At P B w0 w m g fr s a)(hs:P.underlying p=some .string)(t:P.underlying dst=some (.slice e))(q:P.underlying e=some (.int .u8))
  (hx:AE x=some y) (ho:o.op= .convert p dst x) (z:exec S s m fr (.s2b y)=some (d,u)):u=[]∧C7 P B w0 m g fr w m d (execOp a.eval o):=by
 have hr:=h.slots.arg hx;simp only[exec]at z;split at z
 ·rename_i b n;rw[n]at hr;simp only[Qh,Qk]at z;obtain⟨rfl,rfl⟩:=z;have ma:=Lib.run_convert_string_bytes (P:=P) w p dst e ⟨b.toArray⟩ hs t q;have f:Below w.heap.size w (Lib.bytesWorld w e ⟨b.toArray⟩):=
   ⟨rfl,rfl,rfl,by rw[Lib.bytesWorld_size];omega,λk hk=>Lib.bytesWorld_at_old w e _ k hk⟩
  have pa:(ByteArray.mk b.toArray).size=b.length:=X1
  rw[pa]at ma;refine⟨rfl,.slice (some ⟨w.heap.size,0,none⟩) b.length (grownCap w b.length 0 e),_,_,.value (.slice (some ⟨w.heap.size,0,none⟩) b.length (grownCap w b.length 0 e)),?_,.inl rfl,h.inv.over f,Hk.over h.inv.gz f,?_,λi hf _=>hf⟩
  ·simp only[execOp,ho,hr.str_inv,Sem.run_bind,ma,Result.andThen_ok,Sem.run_pure]
  ·have aa:=Lib.bytesWorld_at_new w e ⟨b.toArray⟩;have ra:=Fu b;refine aH (sz:=1) (cur:=Lib.bytesCells w e ⟨b.toArray⟩) (vs:=b.map λc=> .int .u8 c.toNat) aa (by simp[Aw]) (grownCap_ge w _ 0 e) (λd t=>?_) ⟨?_,?_,?_⟩ (λj v hv=>?_) ?_ U (λd t=>by simp only[Aw,QC]at t;obtain⟨c,_,rfl⟩:=t;rfl)
   ·simp only[Aw,QC]at t;obtain⟨c,_,rfl⟩:=t;rfl
   ·rw[ra];simp[Aw]
   ·intro v hv;simp only[QC]at hv;obtain⟨c,_,rfl⟩:=hv;rfl
   ·intro j d v t hv;rw[ra]at t;simp only[Aw,Qq,Qi]at t hv;obtain⟨c,r,rfl⟩:=t;obtain⟨c',qa,rfl⟩:=hv;rw[r]at qa;simp only[Qh]at qa;subst qa;exact .int _ _
   ·simp only[Lib.bytesCells];have hj:=(Qm.1 hv).1;rw[QP (by simpa using hj)];simpa using hv
   ·simp only[Gh.over];rw[if_neg O,aa];simp[Lib.bytesCells,pa]
 ·cases z
def LH:∀{xs:List D} {b:List UInt8},BM xs=some b->∃ns:List Int,xs=ns.map (D.int .u8)∧b=ns.map λn=>UInt8.ofNat n.toNat
 |[],b,h=>by simp only[BM,Qh]at h;subst h;exact⟨[],rfl,rfl⟩
 |x::r,b,h=>by
  unfold BM at h;split at h
  ·rename_i o;cases o
  ·rename_i n v o;cases o;rw[Qi]at h;obtain⟨u,f,rfl⟩:=h;obtain⟨ns,rfl,rfl⟩:=LH f;exact⟨n::ns,rfl,rfl⟩
  ·cases h
def Gk:∀(ns:List Int)(r:List UInt8),ns.foldl (λ(r:ByteArray) n=>r.push (UInt8.ofNat n.toNat)) ⟨r.toArray⟩=⟨(r++ns.map λn=>UInt8.ofNat n.toNat).toArray⟩
 |[],r=>U
 |n::ns,r=>by
  simp only[Ze,Qy];have:(ByteArray.mk r.toArray).push (UInt8.ofNat n.toNat)=⟨(r++[UInt8.ofNat n.toNat]).toArray⟩:=by
   simp[ByteArray.push]
  rw[this,Gk ns];simp
def aDH{p dst e:TypeId}{o:Oper}{x:Operand}{y:GW}(h:At P B w0 w m g fr s a)(hs:P.underlying p=some (.slice e))(t:P.underlying dst=some .string)(he:P.underlying e=some (.int .u8))
  (hx:AE x=some y) (ho:o.op= .convert p dst x) (z:exec S s m fr (.b2s y)=some (d,u)):u=[]∧C7 P B w0 m g fr w m d (execOp a.eval o):=by
 have hr:=h.slots.arg hx;simp only[exec]at z;split at z
 ·rename_i nl t' xs e1;rw[e1]at hr;rw[Qi]at z;obtain⟨b,hb,z⟩:=z;simp only[Qk]at z;obtain⟨rfl,rfl⟩:=z;cases nl with
  |true=>
   rcases hr.slice_inv with ⟨_,rfl,ev⟩|⟨h0,_⟩
   ·simp only[BM,Qh]at hb;subst hb;refine⟨rfl,.pure (v:= .string ⟨([]:List UInt8).toArray⟩) h.inv ?_ (.str _)⟩;simp[execOp,ho,ev,convert,run_underlying hs,run_underlying t,run_underlying he,Conv.bytesToString];rfl
   ·cases h0
  |false=>
   obtain⟨ns,rfl,rfl⟩:=LH hb;obtain⟨ad,n,c,sz,ws,ev,hn,fb,pa,bb,fa,q,hG,_,_⟩:=hr.slice_list;have ra:∀l:List Int,flat (l.map (D.int .u8))=l.map (D.int .u8):=by
    intro l;induction l with
    |nil=>rfl
    |cons c r ih=>simp only[Qy,flat,D.cells,Q8,Zs,ih]
   rw[ra]at fa;have za:ws=ns.map (Value.int .u8):=by
    apply ZG;intro j;have hl:=fa.1;by_cases hj:j<ws.length
    ·have qa:j<ns.length:=by simpa[hl]using hj
     have:=fa.2.2 j (.int .u8 ns[j]) ws[j] (by simp[qa]) (Qj hj);rw[Qj hj,this.int_inv];simp[qa]
    ·rw[Qr O,Qr (by simp;simp at hl;omega)]
   have ca:ws.length=n:=by rw[za,hn];simp
   have k:(loadCells ad n).run P w= .ok (ns.map (Value.int .u8)).toArray w:=by
    have:=run_loadCells_list (P:=P) w ad ws q;rw[ca,za]at this;exact this
   have ma:=run_bytesToString (P:=P) w ad n c ns k;have i:=Gk ns [];refine⟨rfl,.pure (v:= .string ⟨(ns.map λn=>UInt8.ofNat n.toNat).toArray⟩) h.inv ?_ (.str _)⟩;have f:(convert p dst (.slice (some ad) n c)).run P w=(Conv.bytesToString (.slice (some ad) n c)).run P w:=by
    simp[convert,run_underlying hs,run_underlying t,run_underlying he]
   simp only[execOp,ho,ev,Sem.run_bind,f,ma,Result.andThen_ok,Sem.run_pure];rw[show ByteArray.empty=⟨([]:List UInt8).toArray⟩from rfl,i];rfl
 ·cases z
end
section
variable{P:Program}{B:Nat}{w0 w:World}{m:GV}{g:Gh}{fr:Id}{s:Nat->D}{a:Act}{S:GR}{d:D}{u:Ha}
def C7.of_nil{x:Sem Next}(h:u=[]∧C7 P B w0 m g fr w m d x):C7 P B w0 m g fr w (Ha.app m u) d x:=by
 obtain⟨rfl,h⟩:=h;exact h
def aZ{w:World}{g:Gh}{d e:D}{v u:Value}(h:Rep w g d v)(k:Rep w g e u):Rep w g (.tup [d,e]) (.tuple #[v,u]):=by
 refine .tup [d,e] [v,u] rfl (λj n s z y=>?_)
 match j with
 |0=>simp at z y;subst z y;exact h
 |1=>simp at z y;subst z y;exact k
 |j+2=>simp at z
def rA{ne:Bool}{t:TypeId}{x y:Operand}{yt:TypeId}{o:Oper}{p q:GW}{ha:DOp}(h:At P B w0 w m g fr s a)(hx:AE x=some p)(hy:AE y=some q)
  (r:UV P ne t x y p q=some ha) (ho:o.op= .binOp (if ne then .neq else .eql) t x y yt) (z:exec S s m fr ha=some (d,u)):u=[]∧C7 P B w0 m g fr w m d (execOp a.eval o):=by
 have ua:=h.slots.arg hx;have wa:=h.slots.arg hy;have ma:∀v,(eqGuard (if ne then .neq else .eql) t x y (a.eval x) (a.eval y)).run P w= .ok () w->(binOp (if ne then .neq else .eql) t (a.eval x) (a.eval y)).run P w= .ok v w->(execOp a.eval o).run P w= .ok (.value v) w:=by
  intro v n j;simp only[execOp,ho,Sem.run_bind,n,j,Result.andThen_ok,Sem.run_pure]
 have i:ha= .bin (if ne then .neq else .eql) p q->u=[]∧C7 P B w0 m g fr w m d (execOp a.eval o):=by
  rintro rfl;simp only[exec]at z;rw[Qi]at z;obtain⟨d',h1,z⟩:=z;simp only[Qk]at z;obtain⟨rfl,rfl⟩:=z;obtain⟨v,n,j,e3,e4⟩:=Uy (P:=P) (t:=t) ua wa h1;exact⟨rfl,.pure h.inv (ma v (IK _ t x y _ _ e3 e4 w) n) j⟩
 have f:∀k td,P.underlying t=some td->aDK k td->(k=2->(GK x||GK y)=true)->ha= .nileq ne k p q->u=[]∧C7 P B w0 m g fr w m d (execOp a.eval o):=by
  rintro k td hu hd hc rfl;simp only[exec]at z;rw[Qi]at z;obtain⟨b,h1,z⟩:=z;simp only[Qk]at z;obtain⟨rfl,rfl⟩:=z;obtain⟨n,j,e3,e4⟩:=cI ua wa h1 hu hd 9999;exact⟨rfl,.pure h.inv (ma _ (dT _ t x y _ _ e3 (λe=>hc (e4 e)) w) (U3 j ne n)) (.bool _)⟩
 unfold UV at r;split at r
 ·rename_i hu;simp only[Qh]at r;subst r;simp only[exec]at z;split at z
  ·rename_i b c ex ey;rw[ex]at ua;rw[ey]at wa;simp only[Qh,Qk]at z;obtain⟨rfl,rfl⟩:=z;refine⟨rfl,.pure h.inv (ma _ (IK _ t x y _ _ (by rw[ua.bool_inv];simp) (by rw[ua.bool_inv];simp) w) (U3 (by rw[ua.bool_inv];rfl) ne (b:=b==c) ?_)) (.bool _)⟩;rw[ua.bool_inv,wa.bool_inv];exact run_equalIn_bool' w 9999 t _ _ hu
  ·cases z
 ·simp_all
 ·simp_all
 ·rename_i fs hu;split at r
  ·rename_i hc;rw[Qi]at r;obtain⟨l,hl,rfl⟩:=r;simp only[exec]at z;split at z
   ·rename_i xs ys ex ey;rw[ex]at ua;rw[ey]at wa;rw[Qi]at z;obtain⟨b,h1,z⟩:=z;simp only[Qk]at z;obtain⟨rfl,rfl⟩:=z;obtain⟨n,j⟩:=U1 ua wa hu hc.1 hc.2 hl h1 x y (if ne then .neq else .eql);refine⟨rfl,.pure h.inv (ma _ j (U3 ?_ ne n)) (.bool _)⟩;obtain⟨vs,e3,_⟩:=aJ ua;rw[e3];rfl
   ·cases z
  ·cases r
 ·rename_i e hu;simp only[Qh]at r;exact f 0 _ hu ⟨e,rfl⟩ U r.symm
 ·rename_i e hu;simp only[Qh]at r;exact f 1 _ hu ⟨e,rfl⟩ U r.symm
 ·rename_i p' r' v' hu;simp only[Qh]at r;exact f 3 _ hu ⟨p',r',v',rfl⟩ U r.symm
 ·rename_i ms hu;split at r
  ·rename_i hc;simp only[Qh]at r;exact f 2 _ hu ⟨ms,rfl⟩ (λ_=>hc) r.symm
  ·cases r
 ·cases r
def aDG{op:BinOp}{t:TypeId}{x y:Operand}{e:TypeId}{o:Oper}{p q:GW}(h:At P B w0 w m g fr s a)(f:AE x=some p)(i:AE y=some q)
  (r:o.op= .binOp op t x y e) (z:exec S s m fr (.bin op p q)=some (d,u)):u=[]∧C7 P B w0 m g fr w m d (execOp a.eval o):=by
 simp only[exec]at z;rw[Qi]at z;obtain⟨d',k,z⟩:=z;simp only[Qk]at z;obtain⟨rfl,rfl⟩:=z;obtain⟨v,n,j,c,b⟩:=Uy (P:=P) (t:=t) (h.slots.arg f) (h.slots.arg i) k;refine⟨rfl,.pure h.inv ?_ j⟩;simp only[execOp,r,Sem.run_bind,IK op t x y _ _ c b w,n,Result.andThen_ok,Sem.run_pure]
def yD{x:Operand}{xt t:TypeId}{ok:Bool}{z:D}{o:Oper}{p:GW}{td:TypeDesc}(h:At P B w0 w m g fr s a)(n:P.underlying t=some td)(k:∀ms,td≠ .interface ms)(hz:Db P t=some z)
  (hx:AE x=some p) (r:o.op= .typeAssert x xt t ok) (ba:exec S s m fr (.tass t ok z p)=some (d,u)):u=[]∧C7 P B w0 m g fr w m d (execOp a.eval o):=by
 have ua:=h.slots.arg hx;obtain⟨zv,c,b⟩:∃zv,Rep w g z zv∧(zeroValue t).run P w= .ok zv w:=by
  unfold Db at hz;split at hz
  ·rename_i i hi;split at hz
   ·rename_i v y;exact⟨v,Rep.ofVal hz,by simp[zeroValue,typeInfo,hi,y]⟩
   ·cases hz
  ·cases hz
 have f:∀v,(Instr.typeAssert (a.eval x) xt t ok).run P w= .ok v w->(execOp a.eval o).run P w= .ok (.value v) w:=by
  intro v e;simp only[execOp,r,Sem.run_bind,e,Result.andThen_ok,Sem.run_pure]
 simp only[exec]at ba;split at ba
 ·rename_i t' d' ex;rw[ex]at ua;obtain⟨v,ev,y,_⟩:=ua.iface_inv;split at ba
  ·rename_i ta;subst ta;simp only[Qh,Qk]at ba;obtain⟨rfl,rfl⟩:=ba;refine⟨rfl,.pure (v:=if ok then .tuple #[v,.bool true]else v) h.inv (f _ ?_) ?_⟩
   ·rw[ev];unfold Instr.typeAssert;simp only[Sem.run_bind,run_underlying n,Result.andThen_ok];cases td<;>first|exact absurd rfl (k _)|(cases ok<;>simp)
   ·cases ok
    ·exact y
    ·exact aZ y (.bool true)
  ·rename_i ta;split at ba
   ·rename_i q;subst q;simp only[Qh,Qk]at ba;obtain⟨rfl,rfl⟩:=ba;refine⟨rfl,.pure (v:= .tuple #[zv,.bool false]) h.inv (f _ ?_) (aZ c (.bool false))⟩;rw[ev];unfold Instr.typeAssert;simp only[Sem.run_bind,run_underlying n,Result.andThen_ok];have j:¬t'=t:=ta;cases td<;>first|exact absurd rfl (k _)|(simp[j,b])
   ·cases ba
 ·rename_i ex;rw[ex]at ua;have ev:=ua.nili_inv;split at ba
  ·rename_i q;subst q;simp only[Qh,Qk]at ba;obtain⟨rfl,rfl⟩:=ba;refine⟨rfl,.pure (v:= .tuple #[zv,.bool false]) h.inv (f _ ?_) (aZ c (.bool false))⟩;rw[ev];unfold Instr.typeAssert;simp only[Sem.run_bind,run_underlying n,Result.andThen_ok];cases td<;>first|exact absurd rfl (k _)|(simp[b])
  ·cases ba
 ·cases ba
def fJ{xs:Array Operand}{l:List GW}(h:At P B w0 w m g fr s a)(hl:D0 xs.toList=some l):
  ((xs.map a.eval).toList).length=(l.map (·.ev s)).length∧∀(j:Nat) d v,(l.map (·.ev s))[j]?=some d->((xs.map a.eval).toList)[j]?=some v->Rep w g d v:=by
 have:=h.slots.args hl;simpa using this
end
def Ob{w:World}{b k:Nat}{o:Obj}(h:k≠b):({w with heap:=w.heap.setIfInBounds b o}:World).heap[k]?=w.heap[k]?:=by
 grind
def Gh.itr(g:Gh)(t:Id)(b:Nat):Gh:={g with tb:=λi=>if i=t then some (b,0,0,0)else g.tb i}
section
variable{P:Program}{B:Nat}{w0 w w':World}{m:GV}{g g':Gh}{fr:Id}{s:Nat->D}{a:Act}{S:GR}{d:D}{u:Ha}
def Ea(m:GV)(t:Id)(x:D)(i:Id)(o:Nat):m.put t 1 [x] i o=if i=t∧o=1 then some x else m i o:=by
 grind [GV.put]
def Hk.newItr{t:Id}(o:Obj)(q:∀b,w.heap.size<=b->g.G b=0)(r:g.tb t=none):Hk w g (w.alloc o) (g.itr t w.heap.size):=by
 refine⟨λp z=>?_,λu=>Qp _,λa b h=>h,rfl,λi x h=>?_,U,λi _ h=> .inl ⟨i,h⟩,λi x h=>?_,λk o' s _ _=>(Below.heap_alloc w o k (Ql.1 s).1).trans s⟩
 rotate_right
 ·simp only[Gh.itr]at h;split at h
  ·simp only[Qh]at h;subst h;exact .inr (Qp _)
  ·exact .inl ⟨i,x,h,rfl⟩
 ·by_cases v:p.block<w.heap.size
  ·exact World.cell?_alloc_lt w o p v
  ·simp_all
 ·grind [Gh.itr]
def Hc.newItr(h:Hc P B w0 m w g){t:Id}(hf:B2 m g t)(bs:List UInt8):Hc P B w0 (m.put t 1 [.it bs 0]) (w.alloc (.stringIter ⟨bs.toArray⟩ 0)) (g.itr t w.heap.size):=by
 have x:=Hk.newItr (t:=t) (Obj.stringIter ⟨bs.toArray⟩ 0) h.gz hf.2.2;have da:=Ea m t (.it bs 0);refine⟨h.below.alloc h.size _,YD,λb f=>h.gz b (by simp at f;omega),h.old,λi b hi=>?_,h.inj,λi o d a hn=>?_,λi e hi=>?_,λi1 i2 e1 e2 b y y' u z k h4=>?_,λi s p hi=>?_,λi i' s p s' p' b y y' u z k h4=>?_⟩
 ·obtain⟨p,q,vs,T,hh,r⟩:=h.obj i b hi;refine⟨p,q,vs,T,(Below.heap_alloc w _ b (h.lt hi)).trans hh,λo d a=>?_⟩;rw[da,if_neg (by rintro⟨rfl,_⟩;simp only[Gh.itr]at hi;rw[hf.2.1]at hi;cases hi)]at a;obtain⟨v,r1,r2,r3⟩:=r o d a;exact⟨v,r1,r2,r3.ext x⟩
 ·rw[da]at a;split at a
  ·rw[←QR a];rfl
  ·exact h.kind _ _ _ a hn
 ·rw[da,if_neg U]at hi;obtain⟨b,n,c,sz,cur,t1,t2,t3,t4,t5,t6,t7,t8,t9,za⟩:=h.tok i e hi;have j:b<w.heap.size:=(Ql.1 t5).1;have ea:i≠t:=by rintro rfl;rw[hf.1 0]at hi;cases hi
  exact⟨b,n,c,sz,cur,by simp[Gh.itr,ea,t1],t2,t3,t4,(Below.heap_alloc w _ b j).trans t5,t6,t7,t8,t9,za⟩
 ·rw[da,if_neg U]at u z;have n1:i1≠t:=by rintro rfl;rw[hf.1 0]at u;cases u
  have n2:i2≠t:=by rintro rfl;rw[hf.1 0]at z;cases z
  simp only[Gh.itr,if_neg n1]at k;simp only[Gh.itr,if_neg n2]at h4;exact h.tinj _ _ _ _ _ _ _ u z k h4
 ·rw[da]at hi;split at hi
  ·rename_i hc;obtain⟨rfl,_⟩:=hc;simp only[Qh,D.it.injEq]at hi;obtain⟨rfl,rfl⟩:=hi;exact⟨w.heap.size,by simp[Gh.itr],h.size,heap_alloc_new w _,h.gz _ (Qp _),λi' h'=>by have:=h.lt h';omega⟩
  ·obtain⟨b,t1,t2,t3,t4,t5⟩:=h.itr.1 i s p hi;have j:b<w.heap.size:=(Ql.1 t3).1;have ea:i≠t:=by rintro rfl;rw[hf.1 1]at hi;cases hi
   exact⟨b,by simp[Gh.itr,ea,t1],t2,(Below.heap_alloc w _ b j).trans t3,t4,t5⟩
 ·have fa:∀i s p,m i 1=some (.it s p)->∀b y,(g.itr t w.heap.size).tb i=some (b,y)->i≠t∧g.tb i=some (b,y)∧b<w.heap.size:=by
   intro i s p a b y f;have ea:i≠t:=by rintro rfl;rw[hf.1 1]at a;cases a
   simp only[Gh.itr,if_neg ea]at f;obtain⟨b',t1,t2,t3,t4,t5⟩:=h.itr.1 i s p a;rw[t1]at f;simp only[Qh,Qk]at f;obtain⟨rfl,rfl⟩:=f;exact⟨ea,t1,(Ql.1 t3).1⟩
  rw[da]at u z;split at u<;>split at z
  ·simp_all
  ·grind [Gh.itr]
  ·grind [Gh.itr]
  ·obtain⟨_,k3,_⟩:=fa _ _ _ u _ _ k;obtain⟨_,k4,_⟩:=fa _ _ _ z _ _ h4;exact h.itr.2 _ _ _ _ _ _ _ _ _ u z k3 k4
def Hc.nextItr(h:Hc P B w0 m w g){i:Id}{b:Nat}{bs:List UInt8}{p q:Nat}(hm:m i 1=some (.it bs p))(f:g.tb i=some (b,0,0,0)):
  Hc P B w0 (m.put i 1 [.it bs q]) {w with heap:=w.heap.setIfInBounds b (.stringIter ⟨bs.toArray⟩ q)} g∧Hk w g {w with heap:=w.heap.setIfInBounds b (.stringIter ⟨bs.toArray⟩ q)} g:=by
 obtain⟨b0,t1,t2,t3,t4,t5⟩:=h.itr.1 i bs p hm;rw[f]at t1;simp only[Qh,Qk,and_true]at t1;subst t1;have j:b<w.heap.size:=(Ql.1 t3).1;have ba:∀k,k≠b->({w with heap:=w.heap.setIfInBounds b (.stringIter ⟨bs.toArray⟩ q)}:World).heap[k]?=w.heap[k]?:=λk hk=>Ob hk
 have t:=Ea m i (.it bs q);have x:Hk w g {w with heap:=w.heap.setIfInBounds b (.stringIter ⟨bs.toArray⟩ q)} g:=by
  refine⟨λr hr=>?_,λ_=>Qp _,λ_ _ h=>h,rfl,λ_ _ h=>h,U,λi _ h=> .inl ⟨i,h⟩,λi x h=> .inl ⟨i,x,h,rfl⟩,λk o hk _ hn=>(ba k (λe=>hn i _ f e.symm)).trans hk⟩;have la:r.block≠b:=by rintro e;rw[e,t4]at hr;omega
  simp only[World.cell?];rw[ba _ la]
 have pa:({w with heap:=w.heap.setIfInBounds b (.stringIter ⟨bs.toArray⟩ q)}:World).heap.size=w.heap.size:=U
 refine⟨⟨⟨h.below.os,h.below.tape,h.below.output,Yt,λk hk=>(ba k O).trans (h.below.block k hk)⟩,Ys,by rw[pa];exact h.gz,h.old,λi' b' hi=>?_,h.inj,λi' o d ia hn=>?_,λi' e hi=>?_,λi1 i2 e1 e2 b' y y' u z h3 h4=>?_,λi' s' p' hi=>?_,λi1 i2 s1 p1 s2 p2 b' y y' u z h3 h4=>?_⟩,x⟩
 ·obtain⟨p1,q1,vs,T,hh,r⟩:=h.obj i' b' hi;have la:b'≠b:=by rintro rfl;exact t5 i' hi
  refine⟨p1,q1,vs,T,(ba b' la).trans hh,λo d ia=>?_⟩;rw[t]at ia;split at ia
  ·rename_i hc;obtain⟨rfl,rfl⟩:=hc;obtain⟨v,_,_,r3⟩:=r 1 _ hm;cases r3
  ·obtain⟨v,r1,r2,r3⟩:=r o d ia;exact⟨v,r1,r2,r3.ext x⟩
 ·rw[t]at ia;split at ia
  ·rw[←QR ia];rfl
  ·exact h.kind _ _ _ ia hn
 ·rw[t,if_neg U]at hi;obtain⟨b1,n,c,sz,cur,u1,u2,u3,u4,u5,u6,u7,u8,u9,a⟩:=h.tok i' e hi;have la:b1≠b:=by rintro rfl;rw[t3]at u5;cases u5
  exact⟨b1,n,c,sz,cur,u1,u2,u3,u4,(ba b1 la).trans u5,u6,u7,u8,u9,a⟩
 ·rw[t,if_neg U]at u z;exact h.tinj _ _ _ _ _ _ _ u z h3 h4
 ·rw[t]at hi;split at hi
  ·simp_all
  ·rename_i hc;obtain⟨b1,u1,u2,u3,u4,u5⟩:=h.itr.1 i' s' p' hi;have la:b1≠b:=by
    rintro rfl;exact hc ⟨h.itr.2 _ _ _ _ _ _ _ _ _ hi hm u1 f,rfl⟩
   exact⟨b1,u1,u2,(ba b1 la).trans u3,u4,u5⟩
 ·have fa:∀i' s' p',m.put i 1 [.it bs q] i' 1=some (.it s' p')->∃s p,m i' 1=some (.it s p):=by
   intro i' s' p' hi;rw[t]at hi;split at hi
   ·simp_all
   ·exact⟨_,_,hi⟩
  obtain⟨_,_,k1⟩:=fa _ _ _ u;obtain⟨_,_,k2⟩:=fa _ _ _ z;exact h.itr.2 _ _ _ _ _ _ _ _ _ k1 k2 h3 h4
def Rep.itp_inv{i:Id}{v:Value}(h:Rep w g (.itp i) v):∃b,v= .pointer (some ⟨b,0,none⟩)∧g.tb i=some (b,0,0,0):=by
 cases h with
 |itp _ b f=>exact⟨b,rfl,f⟩
def lH{t:TypeId}{o:Oper}{x:Operand}{y:GW}(h:At P B w0 w m g fr s a)(n:P.underlying t=some .string)(f:AE x=some y)(c:o.op= .range t x)
  (q:exec S s m fr (.range y)=some (d,u)):C7 P B w0 m g fr w (Ha.app m u) d (execOp a.eval o):=by
 have j:=h.slots.arg f;simp only[exec]at q;split at q
 ·rename_i b z;rw[z]at j;simp only[Qh,Qk]at q;obtain⟨rfl,rfl⟩:=q;refine⟨.pointer (some ⟨w.heap.size,0,none⟩),w.alloc (.stringIter ⟨b.toArray⟩ 0),g.itr fr w.heap.size,.value (.pointer (some ⟨w.heap.size,0,none⟩)),?_,.inl rfl,?_⟩
  ·have p:a.eval x= .string ⟨b.toArray⟩:=j.str_inv;simp[execOp,c,Instr.range,run_underlying n,p]
  ·refine⟨h.inv.newItr h.self b,Hk.newItr _ h.inv.gz h.self.2.2,.itp fr _ (by simp[Gh.itr]),λi r v=>?_⟩;have:i≠fr:=λe=>v Yu
   exact⟨λo=>by show m.put fr 1 _ i o=none;rw[Ea,if_neg (by simp[this])];exact r.1 o,r.2.1,by simp only[Gh.itr];rw[if_neg this];exact r.2.2⟩
 ·cases q
def yE{o:Oper}{x:Operand}{y:GW}(h:At P B w0 w m g fr s a)(f:AE x=some y)(ho:o.op= .next x true)
  (n:exec S s m fr (.next y)=some (d,u)):C7 P B w0 m g fr w (Ha.app m u) d (execOp a.eval o):=by
 have hr:=h.slots.arg f;simp only[exec]at n;split at n
 ·rename_i i ex;rw[ex]at hr;obtain⟨b,p,k⟩:=hr.itp_inv;split at n
  ·rename_i bs z hm;obtain⟨b',t1,t2,t3,t4,t5⟩:=h.inv.itr.1 i bs z hm;rw[k]at t1;simp only[Qh,Qk,and_true]at t1;subst t1;have aa:b<w.heap.size:=(Ql.1 t3).1;have r:(getObj b).run P w= .ok (.stringIter ⟨bs.toArray⟩ z) w:=by simp[getObj,Sem.run,t3]
   have ja:∀o',(setObj b o').run P w= .ok () {w with heap:=w.heap.setIfInBounds b o'}:=by intro o';simp[setObj,Sem.run,t3]
   have pa:(ByteArray.mk bs.toArray).size=bs.length:=X1
   split at n
   ·rename_i hp;simp only[Qh,Qk]at n;obtain⟨rfl,rfl⟩:=n;obtain⟨hi,ta⟩:=h.inv.nextItr (q:=z+(Utf8.decode ⟨bs.toArray⟩ z).2) hm k;refine⟨.tuple #[.bool true,.int .i64 (z:Nat),.int .i32 (Utf8.decode ⟨bs.toArray⟩ z).1],_,g,.value (.tuple #[.bool true,.int .i64 (z:Nat),.int .i32 (Utf8.decode ⟨bs.toArray⟩ z).1]),?_,.inl rfl,⟨hi,ta,?_,λj hf e=>?_⟩⟩
    ·simp only[execOp,ho,Instr.next,p,Sem.run_bind,r,Result.andThen_ok,pa,hp,if_true];cases t:Utf8.decode ⟨bs.toArray⟩ z with
     |mk c wd=>
      simp only[ja,Result.andThen_ok,Sem.run_pure];rfl
    ·refine .tup [_,_,_] [_,_,_] rfl (λj d v t hv=>?_)
     match j with
     |0=>simp at t hv;subst t hv;exact .bool _
     |1=>simp at t hv;subst t hv;exact .int _ _
     |2=>simp at t hv;subst t hv;exact .int _ _
     |j+3=>simp at t
    ·have:j≠i:=by rintro rfl;rw[hf.1 1]at hm;cases hm
     exact⟨λo=>by show m.put i 1 _ j o=none;rw[Ea,if_neg (by simp[this])];exact hf.1 o,hf.2⟩
   ·rename_i hp;simp only[Qh,Qk]at n;obtain⟨rfl,rfl⟩:=n;refine .pure (v:= .tuple #[.bool false]) h.inv ?_ (.tup [_] [_] rfl (λj d v t hv=>?_))
    ·simp only[execOp,ho,Instr.next,p,Sem.run_bind,r,Result.andThen_ok,pa,hp,if_false,Sem.run_pure]
    ·match j with
     |0=>simp at t hv;subst t hv;exact .bool _
     |j+1=>simp at t
  ·cases n
 ·cases n
end
structure HA.ok (P:Program) (f:FuncId) (q:HA):Prop where
 ent:∃fn,P.funcs[f]?=some fn∧fn.body.isSome=true∧(fn.name== "runtime.NumGoroutine")=false
 loc:∀ds m m' fr,(∀l∈q.rd ds m,m l.1 l.2=m' l.1 l.2)->q.ex ds m fr=q.ex ds m' fr
 run:∀{B:Nat} {w0 w:World} {m:GV} {g:Gh} {fr:Id} {ds:List D} {vs:List Value} {r:D} {u:Ha},Hc P B w0 m w g->(∀i,fr<:+i->B2 m g i)->
  vs.length=ds.length->(∀(j:Nat) d v,ds[j]?=some d->vs[j]?=some v->Rep w g d v)->q.ex ds m fr=some (r,u)->
  Calls P f vs.toArray w λe w'=>∃v g',e= .returned v∧aTg P B w0 m g fr w (Ha.app m u) r v w' g'
def GR.ok(P:Program)(S:GR):Prop:=∀f q,S f=some q->q.ok P f
section
variable{P:Program}{B:Nat}{w0 w:World}{m:GV}{g:Gh}{fr:Id}{s:Nat->D}{a:Act}{S:GR}{d:D}{u:Ha}
def aIL{o:Oper}{ha:DOp}(h:At P B w0 w m g fr s a)(da:tr P o.op=some ha)(fb:∀f xs,ha≠ .call f xs)(ba:exec S s m fr ha=some (d,u)):
  C7 P B w0 m g fr w (Ha.app m u) d (execOp a.eval o):=by
 have ea:∀{x:Operand} {F:GW->DOp},(AE x).map F=some ha->∃y,AE x=some y∧ha=F y:=by
  simp_all
 have j:∀{v:Value} {d':D},(execOp a.eval o).run P w= .ok (.value v) w->Rep w g d' v->some (d',([]:Ha))=some (d,u)->C7 P B w0 m g fr w (Ha.app m u) d (execOp a.eval o):=by
  intro v d' e1 e2 e3;simp only[Qh,Qk]at e3;obtain⟨rfl,rfl⟩:=e3;exact .pure h.inv e1 e2
 cases hop:o.op<;>rw[hop]at da<;>first|(simp only[tr]at da;done)|skip
 case move x=>
  obtain⟨y,hx,rfl⟩:=ea da;exact j (by simp[execOp,hop]) (h.slots.arg hx) ba
 case assign x=>
  obtain⟨y,hx,rfl⟩:=ea da;exact j (by simp[execOp,hop]) (h.slots.arg hx) ba
 case pick c x y=>
  simp only[tr]at da;split at da
  ·rename_i c' x' y' e1 e2 e3;simp only[Qh]at da;subst da;simp only[exec]at ba;split at ba
   ·rename_i b eb;have hb:=h.slots.arg e1;rw[eb]at hb;have ma:(execOp a.eval o).run P w= .ok (.value (if b then a.eval x else a.eval y)) w:=by
     simp[execOp,hop,hb.bool_inv,asBool]
    refine j ma ?_ ba;cases b
    ·exact h.slots.arg e3
    ·exact h.slots.arg e2
   ·cases ba
  ·cases da
 case alloc t=>
  simp only[tr]at da;rw[Qi]at da;obtain⟨z,hz,rfl⟩:=da;simp only[exec,Qh,Qk]at ba;obtain⟨rfl,rfl⟩:=ba;exact lN h hz hop
 case box t x=>
  obtain⟨y,hx,rfl⟩:=ea da;simp only[exec]at ba;split at ba
  ·rename_i hd;simp only[Qh,Qk]at ba;obtain⟨rfl,rfl⟩:=ba;exact aDF h hx hd hop
  ·cases ba
 case build t parts=>
  simp only[tr]at da;split at da
  ·rename_i aa zs hu hz;split at da
   ·rename_i ra;rw[Qi]at da;obtain⟨l,hl,rfl⟩:=da;exact .of_nil (lM h hu ra hz hl hop ba)
   ·cases da
  ·rename_i len e zs hu hz;split at da
   ·rename_i ja;rw[Qi]at da;obtain⟨l,hl,rfl⟩:=da;exact .of_nil (eO h hu ja hz hl hop ba)
   ·cases da
  ·cases da
 case buildSlice t len parts=>
  simp only[tr]at da;split at da
  ·grind [eP]
  ·cases da
 case load t x=>
  simp only[tr]at da;split at da
  ·rename_i k y hk hx;simp only[Qh]at da;subst da;exact .of_nil (yG h hk hx hop ba)
  ·cases da
 case store t x v=>
  simp only[tr]at da;split at da
  ·grind [lG]
  ·cases da
 case nilCheck x=>
  obtain⟨y,hx,rfl⟩:=ea da;have hr:=h.slots.arg hx;simp only[exec]at ba;split at ba
  ·rename_i i o' e;rw[e]at hr;obtain⟨b,e1,hb⟩:=hr.ptr_inv;exact j (v:=a.eval x) Yi hr ba
  ·rename_i ds e;rw[e]at hr;obtain⟨ad,vv,e1,_⟩:=hr.eptr_inv;exact j (v:=a.eval x) Yi hr ba
  ·rename_i f cs e;rw[e]at hr;obtain⟨vs,e1,_⟩:=hr.fn_inv;exact j (v:=a.eval x) Yi hr ba
  ·cases ba
 case binOp op t x y yt=>
  cases op
  case eql=>
   simp only[tr]at da;split at da
   ·rename_i p q hx hy;exact .of_nil (rA (ne:=false) h hx hy da hop ba)
   ·cases da
  case neq=>
   simp only[tr]at da;split at da
   ·rename_i p q hx hy;exact .of_nil (rA (ne:=true) h hx hy da hop ba)
   ·cases da
  all_goals
   simp only[tr]at da;split at da
   ·rename_i p q hx hy;simp only[Qh]at da;subst da;exact .of_nil (aDG h hx hy hop ba)
   ·cases da
 case unOp op t x=>
  obtain⟨y,hx,rfl⟩:=ea da;simp only[exec]at ba;rw[Qi]at ba;obtain⟨d',h1,ba⟩:=ba;obtain⟨v,e1,e2⟩:=aAP (P:=P) (h.slots.arg hx) h1;exact j (by simp only[execOp,hop,Sem.run_bind,e1,Result.andThen_ok,Sem.run_pure]) e2 (by rw[ba])
 case convert src dst x=>
  simp only[tr]at da;split at da
  ·rename_i k1 k y hs hd hx;simp only[Qh]at da;subst da;have hr:=h.slots.arg hx;simp only[exec]at ba;split at ba
   ·rename_i k' n e;rw[e]at hr;refine j (v:= .int k (k.wrap n)) ?_ (.int _ _) ba;simp[execOp,hop,hr.int_inv,convert,run_underlying hs,run_underlying hd,Conv.intToInt]
   ·cases ba
  ·rename_i y hs hd hx;simp only[Qh]at da;subst da;have hr:=h.slots.arg hx;simp only[exec]at ba;split at ba
   ·rename_i b e;rw[e]at hr;refine j (v:=a.eval x) ?_ hr ba;simp[execOp,hop,hr.str_inv,convert,run_underlying hs,run_underlying hd]
   ·cases ba
  ·rename_i e y hs hd hx;split at da
   ·rename_i he;simp only[Qh]at da;subst da;exact .of_nil (aDE h hs hd he hx hop ba)
   ·cases da
  ·rename_i e y hs hd hx;split at da
   ·rename_i he;simp only[Qh]at da;subst da;exact .of_nil (aDH h hs hd he hx hop ba)
   ·cases da
  ·cases da
 case fieldAddr t x f=>
  simp only[tr]at da;split at da
  ·rename_i aa y hu hx;split at da
   ·rename_i fd hf;split at da
    ·rename_i n hn;simp only[Qh]at da;subst da;exact .of_nil (lL h hu hf hn hx hop ba)
    ·cases da
   ·cases da
  ·cases da
 case field t x f=>
  simp only[tr]at da;split at da
  ·rename_i aa y hu hx;split at da
   ·rename_i fd hf;rw[Qi]at da;obtain⟨k,hk,rfl⟩:=da;exact .of_nil (lK h hu hf hk hx hop ba)
   ·cases da
  ·cases da
 case indexAddr t x i=>
  simp only[tr]at da;split at da
  ·rename_i e y z hu hx hi;rw[Qi]at da;obtain⟨n,hn,rfl⟩:=da;exact .of_nil (lI h hu hn hx hi hop ba)
  ·rename_i len e y z hu hx hi;rw[Qi]at da;obtain⟨n,hn,rfl⟩:=da;exact .of_nil (lJ h hu hn hx hi hop ba)
  ·cases da
 case index t x i=>
  simp only[tr]at da;split at da
  ·rename_i y z hu hx hi;simp only[Qh]at da;subst da;exact .of_nil (yH h hu hx hi hop ba)
  ·rename_i len e y z hu hx hi;split at da
   ·rename_i hk;split at da
    ·rename_i hc;simp only[Qh]at da;subst da;exact .of_nil (yJ h hu hk hc hx hi hop ba)
    ·cases da
   ·rename_i sz hk;simp only[Qh]at da;subst da;exact .of_nil (yI h hu hk hx hi hop ba)
   ·cases da
  ·cases da
 case slice t x lo hi mx=>
  cases mx with
  |some mx=>simp only[tr]at da;cases da
  |none=>
   simp only[tr]at da;split at da
   ·rename_i y l' h' hu hx oa sa;simp only[Qh]at da;subst da;exact .of_nil (yK h hu hx oa sa hop ba)
   ·rename_i e y l' h' hu hx oa sa;rw[Qi]at da;obtain⟨n,hn,rfl⟩:=da;exact .of_nil (yL h hu hn hx oa sa hop ba)
   ·cases da
 case makeInterface t x=>
  simp only[tr]at da;split at da
  ·cases da
  ·rename_i td y ka hu hx;simp only[Qh]at da;subst da;have hr:=h.slots.arg hx;simp only[exec]at ba;split at ba
   ·rename_i hc;refine j (v:= .iface t (a.eval x)) ?_ (.iface t _ _ hc.2 hr.un) ba;simp only[execOp,hop,Instr.makeInterface,Sem.run_bind,run_underlying hu,Result.andThen_ok];cases td<;>first|exact absurd rfl (ka _)|rfl
   ·cases ba
  ·cases da
 case typeAssert x xt t ok=>
  simp only[tr]at da;split at da
  ·cases da
  ·rename_i td z y ka hu hz hx;simp only[Qh]at da;subst da;exact .of_nil (yD h hu (λms e=>ka ms (by rw[←e])) hz hx hop ba)
  ·cases da
 case extract x i=>
  obtain⟨y,hx,rfl⟩:=ea da;have hr:=h.slots.arg hx;simp only[exec]at ba;split at ba
  ·rename_i ds e;rw[e]at hr;obtain⟨vs,e1,e2,e3⟩:=hr.tup_inv;rw[Qi]at ba;obtain⟨d',hd,ba⟩:=ba;have hv:i<vs.length:=by rw[e2];exact(Qm.1 hd).1
   exact j (v:=vs[i]) (by simp[execOp,hop,e1,Instr.extract,hv]) (e3 i d' _ hd (Qj hv)) (by rw[ba])
  ·cases ba
 case makeFunc fn first caps=>
  cases fn with
  |func f=>
   simp only[tr]at da;split at da
   ·rename_i l hf hl;simp only[Qh]at da;subst da;have qa:first=#[]:=Array.toList_eq_nil_iff.1 hf
    subst qa;obtain⟨a1,a2⟩:=fJ h hl;simp only[exec]at ba;refine j (v:= .func (.func f) #[] (caps.map a.eval)) (by simp[execOp,hop,Instr.makeFunc]) ?_ ba;have:=Rep.fn (w:=w) (g:=g) f (l.map (·.ev s)) (caps.map a.eval).toList a1 a2
    rwa [QK]at this
   ·cases da
  |_=>simp only[tr]at da;cases da
 case makeSlice t x y=>
  simp only[tr]at da;split at da
  ·rename_i e hu;split at da
   ·rename_i sz bytes z p q he hz hx hy;simp only[Qh]at da;subst da;exact yF h hu he hz hx hy hop ba
   ·cases da
  ·cases da
 case range t x=>
  simp only[tr]at da;split at da
  ·rename_i y hu hx;simp only[Qh]at da;subst da;exact lH h hu hx hop ba
  ·cases da
 case next x b=>
  cases b with
  |true=>
   obtain⟨y,hx,rfl⟩:=ea da;exact yE h hx hop ba
  |false=>simp only[tr]at da;cases da
 case call c=>
  simp only[tr,Gz]at da;split at da
  ·split at da
   ·simp only[Qh]at da;exact absurd da.symm (fb _ _)
   ·cases da
  ·rename_i ga;split at da
   ·rename_i x t r ia;have hc:c={callee:= .builtin .len,args:=#[x],argTypes:=#[t]}:=by
     cases c;simp only at ga r ia ⊢;subst ga;congr
     ·exact Za.1 r
     ·exact Za.1 ia
    subst hc;have fa:∀n,(Builtin.len_ #[t] o.type #[a.eval x]).run P w= .ok (goInt n) w->(execOp a.eval o).run P w= .ok (.value (.int .i64 n)) w:=by
     intro n e;simp only[execOp,hop,resolve,invoke,builtin,Sem.run_bind,Sem.run_pure,Result.andThen_ok,ZI,Qy,Zr,e];rfl
    split at da
    ·rename_i hu;obtain⟨y,hx,rfl⟩:=ea da;have hr:=h.slots.arg hx;simp only[exec]at ba;rw[Qi]at ba;obtain⟨n,hn,ba⟩:=ba;unfold dD at hn;split at hn
     ·rename_i b _ e;rw[e]at hr;simp only[Qh]at hn;subst hn;have hl:(Builtin.len_ #[t] o.type #[a.eval x]).run P w= .ok (goInt (b.length:Int)) w:=by
       have pa:(ByteArray.mk b.toArray).size=b.length:=X1
       simp[Builtin.len_,run_underlying hu,hr.str_inv,pa]
      exact j (fa _ hl) (.int _ _) (by rw[ba])
     ·rename_i ca _;cases ca
     ·rename_i ca _;cases ca
     ·cases hn
    ·rename_i e hu;obtain⟨y,hx,rfl⟩:=ea da;have hr:=h.slots.arg hx;simp only[exec]at ba;rw[Qi]at ba;obtain⟨n,hn,ba⟩:=ba;unfold dD at hn;split at hn
     ·rename_i ca _;cases ca
     ·rename_i nl t' xs _ e';rw[e']at hr;obtain⟨ad,cc,e1,_⟩:=hr.len_slice;simp only[Qh]at hn;subst hn;have hl:(Builtin.len_ #[t] o.type #[a.eval x]).run P w= .ok (goInt (xs.length:Int)) w:=by
       simp[Builtin.len_,run_underlying hu,e1]
      exact j (fa _ hl) (.int _ _) (by rw[ba])
     ·rename_i i' n' _ e';rw[e']at hr;obtain⟨b',cc,e1,_,_⟩:=hr.row_inv;simp only[Qh]at hn;subst hn;have hl:(Builtin.len_ #[t] o.type #[a.eval x]).run P w= .ok (goInt (n':Int)) w:=by
       simp[Builtin.len_,run_underlying hu,e1]
      exact j (fa _ hl) (.int _ _) (by rw[ba])
     ·cases hn
    ·cases da
   ·cases da
  ·rename_i ga;split at da
   ·rename_i x y t t' r ia;split at da
    ·rename_i ta;have hc:c={callee:= .builtin .append,args:=#[x,y],argTypes:=#[t,t']}:=by
      cases c;simp only at ga r ia ⊢;subst ga;congr
      ·exact Za.1 r
      ·exact Za.1 ia
     subst hc;split at da
     ·rename_i e hu;split at da
      ·rename_i sz bytes p q he hx hy;simp only[Qh]at da;subst da;exact aDI h hu he hx hy hop (ta.imp id kM) ba
      ·cases da
     ·cases da
    ·cases da
   ·cases da
  ·rename_i ga;split at da
   ·rename_i x y r;split at da
    ·rename_i p q hx hy;simp only[Qh]at da;subst da;have la:=h.slots.arg hx;have na:=h.slots.arg hy;simp only[exec]at ba;split at ba
     ·rename_i k n k' n' e1 e2;rw[e1]at la;rw[e2]at na;refine j (v:= .int k (max n n')) ?_ (.int _ _) ba;simp only[execOp,hop,resolve,invoke,builtin,ga,Sem.run_bind,Sem.run_pure,Result.andThen_ok];simp only[Builtin.max_,QT,r,Qy,Zr,la.int_inv,na.int_inv,ZU,Builtin.max2,Sem.run_bind,Sem.run_pure,Result.andThen_ok];have:(if n'>n then n' else n)=max n n':=by omega
      simp[this]
     ·cases ba
    ·cases da
   ·cases da
  ·rename_i ga;split at da
   ·rename_i x y r;split at da
    ·rename_i p q hx hy;simp only[Qh]at da;subst da;have la:=h.slots.arg hx;have na:=h.slots.arg hy;simp only[exec]at ba;split at ba
     ·rename_i k n k' n' e1 e2;rw[e1]at la;rw[e2]at na;refine j (v:= .int k (min n n')) ?_ (.int _ _) ba;simp only[execOp,hop,resolve,invoke,builtin,ga,Sem.run_bind,Sem.run_pure,Result.andThen_ok];simp only[Builtin.min_,QT,r,Qy,Zr,la.int_inv,na.int_inv,ZU,Builtin.min2,Sem.run_bind,Sem.run_pure,Result.andThen_ok];have:(if n'<n then n' else n)=min n n':=by omega
      simp[this]
     ·cases ba
    ·cases da
   ·cases da
  ·cases da
 all_goals (simp[tr]at da)
end
section
variable{P:Program}{B:Nat}{w0 w:World}{m:GV}{g:Gh}{fr:Id}{s:Nat->D}{a:Act}{S:GR}{d:D}{u:Ha}
def WV{c:Call}{f:GW}{xs:List GW}(h:Gz P c=some (.call f xs)):∃t,c.callee= .value t∧AE t=some f∧D0 c.args.toList=some xs:=by
 unfold Gz at h;split at h
 ·grind
 ·exfalso
  repeat' (split at h)
  all_goals exact Qf
 ·grind
 ·grind
 ·grind
 ·cases h
def aH9{op:Op}{f:GW}{xs:List GW}(h:tr P op=some (.call f xs)):∃c,op= .call c∧Gz P c=some (.call f xs):=by
 cases op with
 |call c=>exact⟨c,rfl,h⟩
 |binOp op t x y e=>
  exfalso;cases op<;>simp only[tr,UV]at h<;>repeat' (split at h)
  all_goals exact Qf
 |makeFunc n x y=>
  exfalso;cases n<;>simp only[tr]at h<;>repeat' (split at h)
  all_goals exact Qf
 |slice t x lo hi v=>
  exfalso;cases v<;>simp only[tr]at h<;>repeat' (split at h)
  all_goals exact Qf
 |next x b=>
  exfalso;cases b<;>simp only[tr]at h
  all_goals exact Qf
 |_=>
  exfalso;simp only[tr]at h<;>repeat' (split at h)
  all_goals exact Qf
def aU4{o:Oper}{x:DOp}{K:Act->World->Prop}{Q:Exit->Act->World->Prop}(hS:GR.ok P S)(h:At P B w0 w m g fr s a)(da:tr P o.op=some x)(z:exec S s m fr x=some (d,u))
  (hK:∀v' w' g',aTg P B w0 m g fr w (Ha.app m u) d v' w' g'->K (a.put o.dst v') w'):o.wp P a w K Q:=by
 by_cases p:∃f xs,x= .call f xs
 ·obtain⟨f,xs,rfl⟩:=p;obtain⟨c,oa,n⟩:=aH9 da;obtain⟨fo,ga,hf,fb⟩:=WV n;simp only[exec]at z;split at z
  ·rename_i qX caps ef;split at z
   ·rename_i q hq;have ra:=hS qX q hq;have k:=h.slots.arg hf;rw[ef]at k;obtain⟨vs,e1,e2,e3⟩:=k.fn_inv;obtain⟨a1,a2⟩:=fJ h fb;obtain⟨fn,l,b,t⟩:=ra.ent;have wa:fn.body.isNone=false:=by cases hb:fn.body<;>simp_all
    have y:((c.args.map a.eval).toList++vs).length=(xs.map (·.ev s)++caps).length:=by simp at a1 ⊢;omega
    have fa:∀(j:Nat) d v,(xs.map (·.ev s)++caps)[j]?=some d->((c.args.map a.eval).toList++vs)[j]?=some v->Rep w g d v:=by
     grind
    have ka:=ra.run h.inv h.fresh y fa z;have i:((c.args.map a.eval).toList++vs).toArray=c.args.map a.eval++vs.toArray:=U
    rw[i]at ka;have ma:(execOp a.eval o).run P w= .ok (.enter qX (c.args.map a.eval++vs.toArray)) w:=by
     simp only[execOp,oa,resolve,ga,e1,Deferred.ofValue,Sem.run_bind,Sem.run_pure,Result.andThen_ok,invoke,callFunc,run_program,l,t,wa,QO,if_false];simp
    unfold Oper.wp;rw[ma,Oper.upon_enter];refine ka.mono ?_;rintro e w' ⟨v,g',rfl,la⟩;exact hK v w' g' la
   ·cases z
  ·cases z
 ·obtain⟨v',w',g',r,e1,e2,e3⟩:=aIL h da (λf xs e=>p ⟨f,xs,e⟩) z;unfold Oper.wp;rw[e1];rcases e2 with rfl|⟨rfl,rfl⟩
  ·exact hK v' w' g' e3
  ·exact hK undef w' g' e3
end
end Go.Vd
namespace Go.Vd
structure DOper where
 dst:Option Nat
 op:DOp
 after:List Nat
 guard:Option (Nat×Bool)
abbrev Loc:=Id×Nat
structure Eff where
 d:D
 u:Ha
def AG(s:Nat->D)(t:Option Nat)(d:D):Nat->D:=
 match t with
 |some t=>λn=>if n=t then d else s n
 |none=>s
def Gf(ops:List DOper)(o:DOper):Option Nat:=
 match o.guard with
 |none=>none
 |some (j,_)=>(ops[j]?).bind (·.dst)
def Bm(ops:List DOper)(s:Nat->D)(o:DOper):Option Bool:=
 match o.guard with
 |none=>some true
 |some (j,b)=>match (ops[j]?).bind (·.dst)with
  |some t=>match s t with
   | .bool b'=>some (b'==b)
   | .tup []=>some false
   |_=>none
  |none=>none
def BQ(S:GR)(ops:List DOper)(fr:Id)(o:DOper)(s:Nat->D)(m:GV):Option Eff:=
 match Bm ops s o with
 |some true=>match exec S s m fr o.op with
  |some (d,u)=>some ⟨d,u⟩
  |none=>none
 |some false=>some ⟨.tup [],[]⟩
 |none=>none
def CP(S:GR)(ns:Id)(c:Nat)(ops:List DOper):List Nat->(Nat->D)->GV->Option ((Nat->D)×GV)
 |[],s,m=>some (s,m)
 |i::l,s,m=>match ops[i]? with
  |none=>CP S ns c ops l s m
  |some o=>match BQ S ops ((c+i)::ns) o s m with
   |some e=>CP S ns c ops l (AG s o.dst e.d) (Ha.app m e.u)
   |none=>none
def GW.uses:GW->List Nat
 | .t n=>[n]
 | .c _=>[]
def Vo:Option GW->List Nat
 |some a=>a.uses
 |none=>[]
def DOp.uses:DOp->List Nat
 | .range x| .next x| .mv x| .box x| .load _ x| .nilchk x| .un _ x| .conv _ x| .s2s x| .s2b x| .b2s x| .faddr _ x| .field _ _ x| .mkif _ x| .tass _ _ _ x| .ext _ x| .len _ x=>x.uses
 | .pick c a b=>c.uses++a.uses++b.uses
 | .alloc _| .stop=>[]
 | .build _ ps=>ps.flatMap λp=>p.2.2.uses
 | .bslice _ _ ps=>ps.flatMap GW.uses
 | .store _ x y| .bin _ x y| .beq _ x y| .seq _ _ x y| .nileq _ _ x y| .iaddr _ x y| .idxs x y| .idxa _ x y| .idxm _ _ x y| .mxm _ x y| .iadda _ _ x y| .app _ _ _ x y| .mksl _ _ _ _ x y=>x.uses++y.uses
 | .cuts x l h| .cutl _ x l h=>x.uses++Vo l++Vo h
 | .mkfn _ cs=>cs.flatMap GW.uses
 | .call f xs=>f.uses++xs.flatMap GW.uses
def Ag(i:Id)(o n:Nat):List Loc:=(QA n).map λj=>(i,o+j)
def GZ(S:GR)(s:Nat->D)(m:GV):DOp->List Loc
 | .load k x=>match x.ev s with
  | .ptr i o=>Ag i o (k.getD 1)
  |_=>[]
 | .store n x _=>match x.ev s with
  | .ptr i o=>Ag i o n
  |_=>[]
 | .app _ _ _ x _=>match x.ev s with
  | .slice _ t _=>[(t,0)]
  |_=>[]
 | .next x=>match x.ev s with
  | .itp i=>[(i,1)]
  |_=>[]
 | .call f xs=>match f.ev s with
  | .fn f caps=>match S f with
   |some q=>q.rd (xs.map (·.ev s)++caps) m
   |none=>[]
  |_=>[]
 |_=>[]
def aC{x:GW}{s z:Nat->D}(h:∀t∈x.uses,s t=z t):x.ev s=x.ev z:=by
 cases x with
 |t n=>exact h n (Q5.2 rfl)
 |c d=>rfl
def SL{xs:List GW}{s z:Nat->D}(h:∀t∈xs.flatMap GW.uses,s t=z t):xs.map (·.ev s)=xs.map (·.ev z):=
 Q2 λx f=>aC λt w=>h t (Zb.2 ⟨x,f,w⟩)
theorem B_{m m':GV}{i:Id}:∀{n o:Nat},(∀l∈Ag i o n,m l.1 l.2=m' l.1 l.2)->Ai m i o n=Ai m' i o n
 |0,o,_=>rfl
 |n+1,o,h=>by
  have y:m i o=m' i o:=h (i,o) (by simp only[Ag,QC,Qs];exact⟨0,O,rfl⟩);have ih:=B_ (m:=m) (m':=m') (i:=i) (n:=n) (o:=o+1) (λl hl=>h l (by
   simp only[Ag,QC,Qs]at hl ⊢;obtain⟨j,w,rfl⟩:=hl;exact⟨j+1,O,by rw[show o+(j+1)=o+1+j by omega]⟩))
  unfold Ai;rw[y,ih]
theorem FD{x:Option GW}{s z:Nat->D}(h:∀t∈Vo x,s t=z t)(a b:Nat):FE s x a b=FE z x a b:=by
 cases x with
 |none=>rfl
 |some x=>simp only[FE];rw[aC h]
def lB{P:Program}{S:GR}(hS:GR.ok P S){op:DOp}{s s':Nat->D}{m m':GV}{fr:Id}(g:∀t∈op.uses,s t=s' t)(r:∀l∈GZ S s m op,m l.1 l.2=m' l.1 l.2):
  exec S s m fr op=exec S s' m' fr op:=by
 cases op with
 |mv x=>simp only[exec];rw[aC g]
 |box x=>simp only[exec];rw[aC g]
 |nilchk x=>simp only[exec];rw[aC g]
 |un op x=>simp only[exec];rw[aC g]
 |conv k x=>simp only[exec];rw[aC g]
 |s2s x=>simp only[exec];rw[aC g]
 |s2b x=>simp only[exec];rw[aC g]
 |b2s x=>simp only[exec];rw[aC g]
 |faddr off x=>simp only[exec];rw[aC g]
 |field k off x=>simp only[exec];rw[aC g]
 |mkif t x=>simp only[exec];rw[aC g]
 |tass t ok z x=>simp only[exec];rw[aC g]
 |ext i x=>simp only[exec];rw[aC g]
 |len k x=>simp only[exec];rw[aC g]
 |alloc zs=>rfl
 |pick c a b=>
  simp only[DOp.uses,Qn]at g;simp only[exec];rw[aC (λt w=>g t (.inl (.inl w))),aC (λt w=>g t (.inl (.inr w))),aC (λt w=>g t (.inr w))]
 |build zs ps=>
  simp only[exec];have:(ps.map λp=>(p.1,p.2.1,p.2.2.ev s))=ps.map λp=>(p.1,p.2.1,p.2.2.ev s'):=
   Q2 λp hp=>by rw[aC λt w=>g t (Zb.2 ⟨p,hp,w⟩)]
  rw[this]
 |bslice e sz ps=>
  have hp:∀p∈ps,p.ev s=p.ev s':=λp hp=>aC λt w=>g t (Zb.2 ⟨p,hp,w⟩)
  simp only[exec];have j:(ps.map λp=>(p.ev s).un)=ps.map λp=>(p.ev s').un:=Q2 λp va=>by rw[hp p va]
  rw[j];have:(ps.all λp=>(p.ev s).data&&(p.ev s).cells.length==sz&&(p.ev s).un.calm)=ps.all λp=>(p.ev s').data&&(p.ev s').cells.length==sz&&(p.ev s').un.calm:=by
   grind
  rw[this]
 |load k x=>
  have u:x.ev s=x.ev s':=aC g;simp only[GZ]at r;simp only[exec];rw[←u];cases hxe:x.ev s<;>simp only[hxe]at r ⊢
  case eptr ds=>cases k<;>rfl
  rename_i i o;cases k with
  |none=>
   have:=r (i,o) (by simp only[Ag,QC,Qs];exact⟨0,U,rfl⟩);simp only at this;simp only[this]
  |some n=>
   simp only[QM]at r;simp only;rw[B_ r]
 |store n x v=>
  simp only[DOp.uses,Qn]at g;have u:x.ev s=x.ev s':=aC λt w=>g t (.inl w)
  have hv:v.ev s=v.ev s':=aC λt w=>g t (.inr w)
  simp only[GZ]at r;simp only[exec];rw[←u,←hv];cases hxe:x.ev s<;>simp only[hxe]at r ⊢;rw[B_ r]
 |bin op x y=>
  simp only[DOp.uses,Qn]at g;simp only[exec];rw[aC (λt w=>g t (.inl w)),aC (λt w=>g t (.inr w))]
 |beq ne x y=>
  simp only[DOp.uses,Qn]at g;simp only[exec];rw[aC (λt w=>g t (.inl w)),aC (λt w=>g t (.inr w))]
 |seq ne l x y=>
  simp only[DOp.uses,Qn]at g;simp only[exec];rw[aC (λt w=>g t (.inl w)),aC (λt w=>g t (.inr w))]
 |nileq ne k x y=>
  simp only[DOp.uses,Qn]at g;simp only[exec];rw[aC (λt w=>g t (.inl w)),aC (λt w=>g t (.inr w))]
 |iaddr sz x y=>
  simp only[DOp.uses,Qn]at g;simp only[exec];rw[aC (λt w=>g t (.inl w)),aC (λt w=>g t (.inr w))]
 |idxs x y=>
  simp only[DOp.uses,Qn]at g;simp only[exec];rw[aC (λt w=>g t (.inl w)),aC (λt w=>g t (.inr w))]
 |iadda len sz x y=>
  simp only[DOp.uses,Qn]at g;simp only[exec];rw[aC (λt w=>g t (.inl w)),aC (λt w=>g t (.inr w))]
 |idxm len sz x y=>
  simp only[DOp.uses,Qn]at g;simp only[exec];rw[aC (λt w=>g t (.inl w)),aC (λt w=>g t (.inr w))]
 |mxm mx x y=>
  simp only[DOp.uses,Qn]at g;simp only[exec];rw[aC (λt w=>g t (.inl w)),aC (λt w=>g t (.inr w))]
 |idxa len x y=>
  simp only[DOp.uses,Qn]at g;simp only[exec];rw[aC (λt w=>g t (.inl w)),aC (λt w=>g t (.inr w))]
 |mksl e sz b z x y=>
  simp only[DOp.uses,Qn]at g;simp only[exec];rw[aC (λt w=>g t (.inl w)),aC (λt w=>g t (.inr w))]
 |app e sz b x y=>
  simp only[DOp.uses,Qn]at g;have u:x.ev s=x.ev s':=aC λt w=>g t (.inl w)
  have d:y.ev s=y.ev s':=aC λt w=>g t (.inr w)
  simp only[GZ]at r;simp only[exec];rw[←u,←d];cases hxe:x.ev s<;>simp only[hxe]at r ⊢;rename_i nl t xs;have:=r (t,0) (Q5.2 rfl);simp only at this;cases I1 sz (y.ev s)<;>simp only[this]
 |stop=>rfl
 |range x=>simp only[exec];rw[aC g]
 |next x=>
  have u:x.ev s=x.ev s':=aC g;simp only[GZ]at r;simp only[exec];rw[←u];cases hxe:x.ev s<;>simp only[hxe]at r ⊢;rename_i i;have:=r (i,1) (Q5.2 rfl);simp only at this;rw[this]
 |cuts x l h=>
  simp only[DOp.uses,Qn]at g;simp only[exec];rw[aC (λt w=>g t (.inl (.inl w)))];cases x.ev s'<;>simp only;rw[FD (λt w=>g t (.inr w))];split
  ·grind [FD]
  ·rfl
 |cutl sz x l h=>
  simp only[DOp.uses,Qn]at g;simp only[exec];rw[aC (λt w=>g t (.inl (.inl w)))];cases x.ev s'<;>simp only;rw[FD (λt w=>g t (.inr w))];split
  ·split
   ·rw[FD (λt w=>g t (.inl (.inr w)))]
   ·rfl
  ·rfl
 |mkfn f cs=>
  simp only[exec];rw[SL g]
 |call f xs=>
  simp only[DOp.uses,Qn]at g;have hf:f.ev s=f.ev s':=aC λt w=>g t (.inl w)
  have u:xs.map (·.ev s)=xs.map (·.ev s'):=SL λt w=>g t (.inr w)
  simp only[GZ]at r;simp only[exec];rw[←hf,←u];cases hfe:f.ev s<;>simp only[hfe]at r ⊢;rename_i qX caps;cases hSf:S qX<;>simp only[hSf]at r ⊢;rename_i q;exact(hS qX q hSf).loc _ _ _ _ r
def DN(ops:List DOper)(k:Nat):Option Nat:=(ops[k]?).bind (·.dst)
def EZ:Ha->Id->Nat->Option D
 |[],_,_=>none
 |(i',o',ds)::r,i,o=>match EZ r i o with
  |some d=>some d
  |none=>if i=i'∧o'<=o∧o<o'+ds.length then ds[o-o']? else none
def fK:∀(u:Ha)(m:GV)(i:Id)(o:Nat),Ha.app m u i o=match EZ u i o with|some d=>some d|none=>m i o
 |[],m,i,o=>rfl
 |(i',o',ds)::r,m,i,o=>by
  simp only[Ha.app,EZ];rw[fK r (m.put i' o' ds) i o];cases EZ r i o with
  |some d=>rfl
  |none=>
   simp only[GV.put];split
   ·grind
   ·rfl
def An(u:Ha):List Loc:=u.flatMap λx=>Ag x.1 x.2.1 x.2.2.length
theorem look_mem:∀{u:Ha} {i:Id} {o:Nat},EZ u i o≠none->(i,o)∈An u
 |[],i,o,h=>absurd rfl h
 |(i',o',ds)::r,i,o,h=>by
  simp only[An,Zj,Qn];simp only[EZ]at h;split at h
  ·rename_i d z;exact .inr (look_mem (by rw[z];simp))
  ·split at h
   ·rename_i g;obtain⟨rfl,y,q⟩:=g;left;simp only[Ag,QC,Qs];exact⟨o-o',O,by rw[show o'+(o-o')=o by omega]⟩
   ·exact absurd rfl h
section
variable(ops:List DOper)(E:Nat->Eff)
def IH(X:Nat->Bool)(t:Nat):Nat->Option D
 |0=>none
 |k+1=>if X k=true∧DN ops k=some t then some (E k).d else IH X t k
def H6(X:Nat->Bool)(i:Id)(o:Nat):Nat->Option D
 |0=>none
 |k+1=>if X k=true then match EZ (E k).u i o with
  |some d=>some d
  |none=>H6 X i o k
  else H6 X i o k
variable(s0:Nat->D)(m0:GV)
def iV(X:Nat->Bool)(n:Nat):Nat->D:=λt=>(IH ops E X t n).getD (s0 t)
def vC(X:Nat->Bool)(n:Nat):GV:=λi o=>match H6 E X i o n with|some d=>some d|none=>m0 i o
variable{ops E s0 m0}
theorem IG{X Y:Nat->Bool}{t:Nat}:∀{n:Nat},(∀k,k<n->DN ops k=some t->X k=Y k)->IH ops E X t n=IH ops E Y t n
 |0,_=>rfl
 |n+1,h=>by
  have ih:=IG (X:=X) (Y:=Y) (t:=t) (n:=n) (λk s=>h k O);simp only[IH];by_cases z:DN ops n=some t
  ·rw[h n O z,ih]
  ·simp[z,ih]
def II{X Y:Nat->Bool}{i:Id}{o:Nat}:∀{n:Nat},(∀k,k<n->EZ (E k).u i o≠none->X k=Y k)->H6 E X i o n=H6 E Y i o n
 |0,_=>rfl
 |n+1,h=>by
  have ih:=II (X:=X) (Y:=Y) (i:=i) (o:=o) (n:=n) (λk s=>h k O);simp only[H6];cases hl:EZ (E n).u i o with
  |none=>simp[ih]
  |some d=>rw[h n O (by rw[hl];simp)];simp[ih]
def ins(X:Nat->Bool)(k:Nat):Nat->Bool:=λj=>X j||j==k
def T0{X:Nat->Bool}{t k:Nat}(e:X k=false):∀{n:Nat},k<n->(DN ops k=some t->∀j,k<j->j<n->X j=true->DN ops j≠some t)->
  IH ops E (ins X k) t n=if DN ops k=some t then some (E k).d else IH ops E X t n
 |n+1,hk,h=>by
  by_cases z:DN ops k=some t
  ·rw[if_pos z];by_cases c:k=n
   ·grind [IH,ins]
   ·have ih:=T0 e (n:=n) O (λx j u q m=>h x j u O m);rw[if_pos z]at ih;simp only[IH];have:¬(ins X k n=true∧DN ops n=some t):=by
     grind [ins]
    rw[if_neg this,ih]
  ·grind [IG,ins]
def Ua{X:Nat->Bool}{i:Id}{o k:Nat}(e:X k=false):∀{n:Nat},k<n->(EZ (E k).u i o≠none->∀j,k<j->j<n->X j=true->EZ (E j).u i o=none)->
  H6 E (ins X k) i o n=match EZ (E k).u i o with|some d=>some d|none=>H6 E X i o n
 |n+1,hk,h=>by
  cases hl:EZ (E k).u i o with
  |none=>
   simp only;refine II (λj w a=>?_);have:j≠k:=by rintro rfl;exact a hl
   simp[ins,this]
  |some d=>
   simp only;by_cases c:k=n
   ·grind [H6,ins]
   ·have ih:=Ua (i:=i) (o:=o) e (n:=n) O (λx j y q m=>h x j y O m);rw[hl]at ih;simp only at ih;simp only[H6];split
    ·grind [ins]
    ·exact ih
def oP{X:Nat->Bool}{k n:Nat}(e:X k=false)(s:k<n)(h:∀t,DN ops k=some t->∀j,k<j->j<n->X j=true->DN ops j≠some t):
  iV ops E s0 (ins X k) n=AG (iV ops E s0 X n) (DN ops k) (E k).d:=by
 funext t;simp only[iV];rw[T0 e s (h t)];cases hd:DN ops k with
 |none=>simp[AG,iV]
 |some i=>
  simp only[AG,iV,Qh];by_cases w:t=i
  ·subst w;simp
  ·grind
def oQ{X:Nat->Bool}{k n:Nat}(e:X k=false)(s:k<n)(h:∀i o,EZ (E k).u i o≠none->∀j,k<j->j<n->X j=true->EZ (E j).u i o=none):
  vC E m0 (ins X k) n=Ha.app (vC E m0 X n) (E k).u:=by
 funext i o;rw[fK];simp only[vC];rw[Ua e s (h i o)];cases EZ (E k).u i o<;>rfl
def below(k:Nat):Nat->Bool:=λj=>decide (j<k)
def Od(k:Nat):ins (below k) k=below (k+1):=by
 grind [ins,below]
structure aG7 (ops:List DOper) (E:Nat->Eff) (rd:Nat->List Loc) (bef:Nat->Nat->Prop):Prop where
 lt:∀j k,bef j k->j<k
 slot:∀j k t oj ok,j≠k->ops[j]?=some oj->ops[k]?=some ok->oj.dst=some t->(t∈ok.op.uses∨Gf ops ok=some t∨ok.dst=some t)->bef j k∨bef k j
 mem:∀j k i o,j≠k->j<ops.length->k<ops.length->EZ (E j).u i o≠none->((i,o)∈rd k∨EZ (E k).u i o≠none)->bef j k∨bef k j
def gX(ops:List DOper)(a:Nat->Nat->Prop):(Nat->Bool)->List Nat->Prop
 |_,[]=>True
 |X,i::l=>i<ops.length∧X i=false∧(∀j,a j i->X j=true)∧gX ops a (ins X i) l
def Tc(a:Nat->Nat->Prop)(X:Nat->Bool):Prop:=∀j k,X k=true->a j k->X j=true
def Tl{s z:Nat->D}{o:DOper}(h:∀t,Gf ops o=some t->s t=z t):Bm ops s o=Bm ops z o:=by
 grind [Bm,Gf]
def eK{P:Program}{S:GR}(v:GR.ok P S){o:DOper}{fr:Id}{s z:Nat->D}{m m':GV}(g:∀t,(t∈o.op.uses∨Gf ops o=some t)->s t=z t)(r:∀l∈GZ S s m o.op,m l.1 l.2=m' l.1 l.2):
  BQ S ops fr o s m=BQ S ops fr o z m':=by
 unfold BQ;rw[Tl (λt w=>g t (.inr w)),lB v (λt w=>g t (.inl w)) r]
variable{P:Program}{S:GR}{ns:Id}{c:Nat}{rd:Nat->List Loc}{bef:Nat->Nat->Prop}
def aSP(x:GR.ok P S)(m:aG7 ops E rd bef){k:Nat}{o:DOper}(r:ops[k]?=some o)
  (i:rd k=GZ S (iV ops E s0 (below k) ops.length) (vC E m0 (below k) ops.length) o.op)
  (n:BQ S ops ((c+k)::ns) o (iV ops E s0 (below k) ops.length) (vC E m0 (below k) ops.length)=some (E k))
  {X:Nat->Bool} (u:Tc bef X) (s:X k=false) (e:∀j,bef j k->X j=true):
  BQ S ops ((c+k)::ns) o (iV ops E s0 X ops.length) (vC E m0 X ops.length)=some (E k):=by
 have y:k<ops.length:=(Qm.1 r).1;rw[←n];symm;have key:∀j,j<ops.length->bef j k∨bef k j->below k j=X j:=by
  intro j w g;rcases g with h1|h1
  ·rw[e j h1];simp[below,m.lt j k h1]
  ·have:=m.lt k j h1;have b:X j=false:=by
    cases hx:X j with
    |false=>rfl
    |true=>rw[u k j hx h1]at s;cases s
   rw[b];simp[below];omega
 have self:∀j,j<ops.length->j=k->below k j=X j:=by
  grind [below]
 refine eK x (λt ht=>?_) (λl hl=>?_)
 ·simp only[iV];rw[IG (λj w z=>?_)];by_cases a:j=k
  ·exact self j w a
  ·have v:ops[j]?=some ops[j]:=Qj w;refine key j w (m.slot j k t _ o a v r ?_ (by rcases ht with ht|ht;exact .inl ht;exact .inr (.inl ht)));simpa[DN,v]using z
 ·simp only[vC];rw[II (λj w z=>?_)];by_cases a:j=k
  ·exact self j w a
  ·exact key j w (m.mem j k l.1 l.2 a w y z (.inl (by rw[i];exact hl)))
def Tc.ins{X:Nat->Bool}{k:Nat}(e:Tc bef X)(z:∀j,bef j k->X j=true):Tc bef (ins X k):=by
 intro j r ia f;simp only[Vd.ins,QW,beq_iff_eq]at ia ⊢;rcases ia with h|rfl
 ·exact .inl (e j r h f)
 ·exact .inl (z j f)
def Rx(x:GR.ok P S)(s:aG7 ops E rd bef)(ab:∀k o,ops[k]?=some o->rd k=GZ S (iV ops E s0 (below k) ops.length) (vC E m0 (below k) ops.length) o.op)
  (hE:∀k o,ops[k]?=some o->BQ S ops ((c+k)::ns) o (iV ops E s0 (below k) ops.length) (vC E m0 (below k) ops.length)=some (E k)):
  ∀(l:List Nat)(X:Nat->Bool),Tc bef X->gX ops bef X l->
   CP S ns c ops l (iV ops E s0 X ops.length) (vC E m0 X ops.length)=some (iV ops E s0 (l.foldl ins X) ops.length,vC E m0 (l.foldl ins X) ops.length)
 |[],X,_,_=>rfl
 |i::l,X,hX,hg=>by
  obtain⟨hi,n,e,f⟩:=hg;have r:ops[i]?=some ops[i]:=Qj hi;have m:=aSP x s r (ab i _ r) (hE i _ r) hX n e;have a:∀j,i<j->X j=true->¬(bef j i∨bef i j):=by
   intro j w b hb;rcases hb with hb|hb
   ·have:=s.lt j i hb;omega
   ·rw[hX i j b hb]at n;cases n
  have p:=oP (ops:=ops) (E:=E) (s0:=s0) n hi (λt z j y q h3 qa=>by
   have v:ops[j]?=some ops[j]:=Qj q;refine a j y h3 (s.slot j i t _ _ O v r ?_ (.inr (.inr ?_)))
   ·simpa[DN,v]using qa
   ·simpa[DN,r]using z)
  have e2:=oQ (E:=E) (m0:=m0) n hi (λg o hl j y q h3=>by
   cases hlj:EZ (E j).u g o with
   |none=>rfl
   |some d=>exact absurd (s.mem j i g o O q hi (by rw[hlj];simp) (.inr hl)) (a j y h3))
  have z:DN ops i=(ops[i]).dst:=by simp[DN,r]
  rw[z]at p;simp only[CP,r,m,Ze];rw[←p,←e2];exact Rx x s ab hE l (ins X i) (hX.ins e) f
end
def MR(m:Region.Mode)(ops:Array Oper):List Nat->List Nat->Bool
 |_,[]=>true
 |done,i::r=>(match ops[i]? with
  |some o=>o.after.all λe=>!Region.binds m e||done.contains e.on
  |none=>false)&&MR m ops (i::done) r
def Fs(m:Region.Mode)(ops:Array Oper)(o:List Nat):Bool:=(QA ops.size).all (λi=>o.contains i)&&MR m ops [] o
def ED(m:Region.Mode)(ops:Array Oper)(listed:Array Bool):List Nat:=
 (QA ops.size).filter λi=>!listed.getD i true&&((ops[i]?).map (·.after.all λe=>!Region.binds m e||listed.getD e.on false)).getD false
def aJT{a:Array Bool}{i:Nat}(h:i<a.size)(x y:Bool):a.getD i x=a.getD i y:=by
 simp_all
def RB{m:Region.Mode}{ops:Array Oper}{listed:Array Bool}(s:listed.size=ops.size):∀{x done:List Nat},MR m ops done x=true->(∀j∈done,listed.getD j false=true)->
  (∃i∈x,i<ops.size∧listed.getD i false=false)->∃i,i∈ED m ops listed
 |[],done,_,_,⟨i,hi,_⟩=>by cases hi
 |i::r,done,h,hd,⟨k,hk,hkn,hkl⟩=>by
  unfold MR at h;rw[Q_]at h;obtain⟨u,q⟩:=h;split at u
  ·rename_i o c;have t:i<ops.size:=(Ql.1 c).1;by_cases a:listed.getD i false=false
   ·refine⟨i,?_⟩;simp only[ED,Zt,Qs];refine⟨t,?_⟩;rw[aJT O true false,a];simp only[Zh,Bool.true_and,c,Q3,QM];rw[ZH]at u ⊢;intro j w;have:=u j w;simp only[QW,Zu]at this ⊢;rcases this with h3|h3
    ·exact .inl h3
    ·exact .inr (hd _ h3)
   ·have b:listed.getD i false=true:=by simpa using a
    refine RB s q (λj w=>?_) ?_
    ·grind
    ·grind
  ·cases u
def Er(listed:Array Bool):Nat->Bool:=λi=>listed.getD i false
def kC{listed:Array Bool}{i:Nat}(h:i<listed.size):Er (listed.setIfInBounds i true)=ins (Er listed) i:=by
 funext j;simp only[Er,ins,Qo,Array.getElem?_setIfInBounds];by_cases w:i=j
 ·subst w;simp[h]
 ·grind
def FW(listed:Array Bool)(n:Nat):Nat:=((QA n).filter λi=>!listed.getD i false).length
def eB{p q:Nat->Bool}{i:Nat}(hi:p i=true)(z:∀j,q j=(p j&&j !=i)):∀{l:List Nat},i∈l->(l.filter q).length<(l.filter p).length:=by
 have ta:∀l:List Nat,(l.filter q).length<=(l.filter p).length:=by
  intro l;induction l with
  |nil=>exact Qp _
  |cons x l ih=>
   rw[Zc,Zc,z x];cases hp:p x
   ·exact ih
   ·grind
 intro l;induction l with
 |nil=>intro h;cases h
 |cons x l ih=>
  intro r;rw[Zc,Zc,z x];by_cases f:x=i
  ·grind
  ·have b:(x !=i)=true:=by simpa using f
   have:=ih (by rcases List.mem_cons.1 r with h|h;exact absurd h.symm f;exact h);cases hp:p x
   ·simpa using this
   ·simp only[b,Bool.and_true,if_true,Qz];omega
def UR{listed:Array Bool}{n i:Nat}(c:listed.size=n)(hi:i<n)(hl:listed.getD i false=false):FW (listed.setIfInBounds i true) n<FW listed n:=by
 unfold FW;refine eB (i:=i) (by rw[hl];rfl) (λj=>?_) (Qs.2 hi);by_cases w:j=i
 ·simp_all
 ·have o:¬i=j:=λe=>w e.symm
  simp[Qo,o,w]
def TP(o:Oper):List Nat:=(o.after.toList.filter (Region.binds .any)).map (·.on)
theorem zL{m:Region.Mode}{e:Edge}(h:Region.binds .any e=true):Region.binds m e=true:=by
 unfold Region.binds at h ⊢;split at h<;>simp_all
def Fa(w:List (List Nat))(j k:Nat):Prop:=j∈w.getD k []
def FR(ps:List (List Nat))(w:List (List Nat)):Bool:=
 (QA w.length).all λk=>(w.getD k []).all λj=>decide (j<k)&&((ps.getD k []).any λp=>p==j||(decide (p<k)&&(w.getD p []).contains j))
def Wd{ps w:List (List Nat)}(h:FR ps w=true){j k:Nat}(f:Fa w j k):j<k∧∃p∈ps.getD k [],p=j∨(p<k∧Fa w j p):=by
 unfold Fa at f;have s:k<w.length:=by
  grind
 have u:=QF.1 h k (Qs.2 s);have q:=QF.1 u j f;simp only[Q_,decide_eq_true_eq,List.any_eq_true,QW,beq_iff_eq,Zu]at q;exact⟨q.1,q.2⟩
def fI{ps w:List (List Nat)}(h:FR ps w=true){X:Nat->Bool}(e:∀k,X k=true->∀p∈ps.getD k [],X p=true):∀{k j:Nat},X k=true->Fa w j k->X j=true:=by
 intro k;induction k using ZP with
 |_ k ih=>
  intro j s f;obtain⟨_,p,o,g⟩:=Wd h f;rcases g with rfl|⟨v,q⟩
  ·exact e k s p o
  ·grind
def aFp{ps w:List (List Nat)}(h:FR ps w=true){X:Nat->Bool}(e:∀k,X k=true->∀p∈ps.getD k [],X p=true){k:Nat}(s:∀p∈ps.getD k [],X p=true){j:Nat}(f:Fa w j k):X j=true:=by
 obtain⟨_,p,o,g⟩:=Wd h f;rcases g with rfl|⟨v,q⟩
 ·exact s p o
 ·exact fI h e (s p o) q
def qQ{m:Region.Mode}{ops:Array Oper}{v:List DOper}{w:List (List Nat)}(g:v.length=ops.size)(ma:∀(k:Nat) o,ops[k]?=some o->(v.map (·.after)).getD k []=TP o)
  (hb:FR (v.map (·.after)) w=true) {x:List Nat} (ia:Fs m ops x=true):
  ∀(fuel t:Nat)(listed:Array Bool)(acc:List Nat),listed.size=ops.size->FW listed ops.size<=fuel->
   (∀k,Er listed k=true->∀p∈(v.map (·.after)).getD k [],Er listed p=true)->
   ∃l,Region.linearise.go m ops fuel t listed acc=acc.reverse++l∧gX v (Fa w) (Er listed) l∧∀i,i<ops.size->l.foldl ins (Er listed) i=true
 |0,t,listed,acc,hsz,hu,hcl=>by
  refine⟨[],by simp[Region.linearise.go],trivial,λi hi=>?_⟩;have y:((QA ops.size).filter λi=>!listed.getD i false)=[]:=QU (by unfold FW at hu;omega);rw[List.filter_eq_nil_iff]at y;have:=y i (Qs.2 hi);simpa[Er]using this
 |fuel+1,t,listed,acc,hsz,hu,hcl=>by
  have f:Region.linearise.go m ops (fuel+1) t listed acc=match (ED m ops listed)[t % (ED m ops listed).length]? with
   |some i=>Region.linearise.go m ops fuel (t / (ED m ops listed).length) (listed.setIfInBounds i true) (i::acc)
   |none=>acc.reverse:=rfl
  rw[f];split
  ·rename_i i hi;have ta:i∈ED m ops listed:=Qx hi;simp only[ED,Zt,Qs,Q_]at ta;obtain⟨r,qa,s⟩:=ta;have u:listed.getD i false=false:=by
    simp_all
   have ho:ops[i]?=some ops[i]:=Array.getElem?_eq_getElem r;rw[ho]at s;simp only[Q3,QM,ZH]at s;have ua:∀p∈(v.map (·.after)).getD i [],Er listed p=true:=by
    intro p z;rw[ma i _ ho]at z;simp only[TP,QC,Zt]at z;obtain⟨e,⟨q,b⟩,rfl⟩:=z;obtain⟨j,d,rfl⟩:=Array.getElem_of_mem (Array.mem_toList_iff.1 q);have:=s j d;simp only[QW]at this;rcases this with h1|h1
    ·grind [zL]
    ·exact h1
   have ja:=kC (listed:=listed) (i:=i) O;obtain⟨l,n,e2,e3⟩:=qQ g ma hb ia fuel (t / (ED m ops listed).length) (listed.setIfInBounds i true) (i::acc) (by simpa using hsz)
    (by have:=UR hsz r u;omega) (λk hk p z=>by
     rw[ja]at hk ⊢;simp only[ins,QW,beq_iff_eq]at hk ⊢;rcases hk with hk|rfl
     ·exact .inl (hcl k hk p z)
     ·exact .inl (ua p z))
   refine⟨i::l,?_,⟨O,u,λj d=>aFp hb hcl ua d,?_⟩,?_⟩
   ·rw[n];simp
   ·rw[←ja];exact e2
   ·simp_all
  ·rename_i c;refine⟨[],U,trivial,λi hi=>?_⟩;simp only[List.foldl_nil];cases hmi:Er listed i with
   |true=>rfl
   |false=>
    exfalso;unfold Fs at ia;rw[Q_]at ia;have a:=QF.1 ia.1 i (Qs.2 hi);obtain⟨k,hk⟩:=RB hsz ia.2 U ⟨i,by simpa using a,hi,hmi⟩;have va:0<(ED m ops listed).length:=List.length_pos_of_mem hk;rw[List.getElem?_eq_none_iff]at c;have:=ZQ t va;omega
def E0{m:Region.Mode}{ops:Array Oper}{v:List DOper}{w:List (List Nat)}(n:v.length=ops.size)(q:∀(k:Nat) o,ops[k]?=some o->(v.map (·.after)).getD k []=TP o)
  (hb:FR (v.map (·.after)) w=true) {x:List Nat} (ia:Fs m ops x=true) (t:Nat):
  gX v (Fa w) (λ_=>false) (Region.linearise m ops t)∧(Region.linearise m ops t).foldl ins (λ_=>false)=below ops.size:=by
 have y:Er (Zf ops.size false)=λ_=>false:=by
  funext i;by_cases hi:i<ops.size<;>simp[Er,Qo,hi]
 obtain⟨l,p,j,c⟩:=qQ n q hb ia ops.size t (Zf ops.size false) [] U (by
  unfold FW;exact QH (List.length_filter_le _ _) U) (by rw[y];simp)
 rw[y]at j c;have hl:Region.linearise m ops t=l:=by
  unfold Region.linearise;simpa using p
 rw[hl];refine⟨j,?_⟩;funext i;by_cases hi:i<ops.size
 ·simp_all [c,below]
 ·have a:∀(l:List Nat)(X:Nat->Bool),gX v (Fa w) X l->X i=false->l.foldl ins X i=false:=by
   intro l;induction l with
   |nil=>intro X _ h;exact h
   |cons k l ih=>
    intro X z f;obtain⟨r,u,e,g4⟩:=z;refine ih _ g4 ?_;have:¬i=k:=O
    simp[ins,f,this]
  rw[a l _ j rfl];simp[below,hi]
end Go.Vd
namespace Go.Vd
open Go.RowKit
def aNo(N:Nat):Option Nat->Bool
 |some t=>decide (t<N)
 |none=>true
def UU(P:Program)(N:Nat)(o:Oper):Option DOper:=
 if aNo N o.dst=true then some ⟨o.dst,(tr P o.op).getD .stop,TP o,o.guard⟩else none
def C2(P:Program)(N:Nat):List Oper->Option (List DOper)
 |[]=>some []
 |o::r=>match UU P N o,C2 P N r with
  |some d,some l=>some (d::l)
  |_,_=>none
def Cw{P:Program}{N:Nat}{o:Oper}{d:DOper}(h:UU P N o=some d):(tr P o.op).getD .stop=d.op∧d.dst=o.dst∧d.after=TP o∧d.guard=o.guard∧∀t,o.dst=some t->t<N:=by
 grind [UU,aNo]
def aH5{P:Program}{S:GR}{op:Op}{d:DOp}{s:Nat->D}{m:GV}{fr:Id}{x:D×Ha}(h:(tr P op).getD .stop=d)(q:exec S s m fr d=some x):tr P op=some d:=by
 cases htr:tr P op with
 |none=>rw[htr]at h;simp only[Option.getD_none]at h;subst h;simp[exec]at q
 |some n=>rw[htr]at h;simp only[QM]at h;rw[h]
def Ca{P:Program}{N:Nat}:∀{l:List Oper} {b:List DOper},C2 P N l=some b->b.length=l.length∧∀(i:Nat) o,l[i]?=some o->∃d,b[i]?=some d∧UU P N o=some d
 |[],b,h=>by simp only[C2,Qh]at h;subst h;simp
 |o::r,b,h=>by
  unfold C2 at h;split at h
  ·rename_i d l u z;simp only[Qh]at h;subst h;obtain⟨p,q⟩:=Ca z;refine⟨by simp[p],λi o' hi=>?_⟩;cases i with
   |zero=>simp only[QL,Qh]at hi;subst hi;exact⟨d,rfl,u⟩
   |succ i=>simp only[Zn]at hi ⊢;exact q i o' hi
  ·cases h
def DS(ns:Id)(m:GV)(g:Gh)(m':GV)(c:Gh):Prop:=∀i,B2 m g i->¬ns<:+i->B2 m' c i
def DS.refl(ns:Id)(m:GV)(g:Gh):DS ns m g m g:=λ_ h _=>h
def DS.trans{ns:Id}{m m' a:GV}{g p f:Gh}(h:DS ns m g m' p)(k:DS ns m' p a f):DS ns m g a f:=λi o c=>k i (h i o c) c
structure InX (P:Program) (B:Nat) (w0:World) (N:Nat) (ns:Id) (c:Nat) (X:Nat->Bool) (s:Nat->D) (m:GV) (a:Act) (w:World) (g:Gh):Prop where
 inv:Hc P B w0 m w g
 slots:Da w g s a
 size:a.tmps.size=N
 defers:a.defers=[]
 fresh:∀k i,c<=k->X (k-c)=false->(k::ns)<:+i->B2 m g i
def aG9:(Nat->Bool)->List Nat->Prop
 |_,[]=>True
 |X,i::l=>X i=false∧aG9 (ins X i) l
def WZ{k r:Nat}{ns i:Id}(h:(k::ns)<:+i)(j:(r::ns)<:+i):k=r:=by
 obtain⟨x,f⟩:=h;obtain⟨y,d⟩:=j;have hl:x.length=y.length:=by have:=congrArg ZS (f.trans d.symm);simpa using this
 have:=List.append_inj (f.trans d.symm) hl;simpa using this.2
def Da.put{w:World}{g:Gh}{s:Nat->D}{a:Act}{dst:Option Nat}{d:D}{v:Value}(h:Da w g s a)(j:Rep w g d v)(y:∀t,dst=some t->t<a.tmps.size):Da w g (AG s dst d) (a.put dst v):=by
 intro t;cases dst with
 |none=>exact h t
 |some n=>
  have x:=y n rfl;simp only[AG,Act.put];by_cases i:t=n
  ·simp_all
  ·rw[if_neg i];have f:¬n=t:=λe=>i e.symm
   have:(a.tmps.setIfInBounds n v).getD t undef=a.tmps.getD t undef:=by simp[Qo,f]
   rw[this];exact h t
def bU(a:Act)(dst:Option Nat)(v:Value):(a.put dst v).tmps.size=a.tmps.size∧(a.put dst v).defers=a.defers:=by
 cases dst<;>simp[Act.put]
section
variable{P:Program}{B:Nat}{w0:World}{N:Nat}{ns:Id}{c:Nat}{S:GR}{ops:Array Oper}{dops:List DOper}{Q:Exit->Act->World->Prop}
def xT{k:Nat}{i:Id}(h:¬ns<:+i):¬(k::ns)<:+i:=λj=>h ((ZK k ns).trans j)
def EB{w:World}{g:Gh}{s:Nat->D}{a:Act}(u:C2 P N ops.toList=some dops)(y:Da w g s a){o:Oper}{d:DOper}(z:d.guard=o.guard){b:Bool}(hg:Bm dops s d=some b):
  Region.wanted o (yielded ops a.tmps)=b:=by
 obtain⟨hl,k⟩:=Ca u;unfold Bm at hg;unfold Region.wanted;rw[←z];cases hgd:d.guard with
 |none=>rw[hgd]at hg;simp only[Qh]at hg;exact hg
 |some p=>
  obtain⟨j,c⟩:=p;rw[hgd]at hg;simp only at hg ⊢;split at hg
  ·rename_i t i;split at hg
   ·rename_i b' va;simp only[Qh]at hg;have m:=y t;rw[va]at m;have q:=m.bool_inv;have v:∃oj,ops[j]?=some oj∧oj.dst=some t:=by
     cases hdj:dops[j]? with
     |none=>rw[hdj]at i;cases i
     |some dj=>
      rw[hdj]at i;simp only[ZL]at i;have f:j<ops.toList.length:=by have:=(Qm.1 hdj).1;omega
      obtain⟨d2,n,e2⟩:=k j _ (Qj f);rw[hdj]at n;simp only[Qh]at n;subst n;refine⟨ops.toList[j],by simp at f;simp[f],?_⟩;rw[←(Cw e2).2.1];exact i
    obtain⟨oj,n,e2⟩:=v;have r:a.tmps[t]?=some (.bool b'):=by
     rw[Qo]at q;cases hh:a.tmps[t]? with
     |none=>rw[hh]at q;simp[undef]at q
     |some x=>rw[hh]at q;simp at q;rw[q]
    have hy:yielded ops a.tmps j=some b':=by
     simp[yielded,n,e2,r]
    rw[hy,←hg];cases b'<;>cases c<;>rfl
   ·rename_i va;simp only[Qh]at hg;subst hg;have m:=y t;rw[va]at m;obtain⟨us,q,hl,_⟩:=m.tup_inv;have hu:us=[]:=QU Xo;subst hu;have hy:yielded ops a.tmps j=none:=by
     unfold yielded;split
     ·rename_i b2 e;exfalso;rw[Zp]at e;obtain⟨t2,n,e2⟩:=e;rw[Zp]at n;obtain⟨oj,e3,e4⟩:=n;have v:(dops[j]?).bind (·.dst)=some t2:=by
       obtain⟨d2,q1,q2⟩:=k j oj (by simpa using e3);rw[q1];simp only[ZL];rw[(Cw q2).2.1];exact e4
      rw[i]at v;simp only[Qh]at v;subst v;rw[Qo,e2]at q;cases q
     ·rfl
    rw[hy];rfl
   ·cases hg
  ·cases hg
def De(hS:GR.ok P S)(fa:C2 P N ops.toList=some dops):∀(l:List Nat)(X:Nat->Bool)(s:Nat->D)(m:GV)(a:Act)(w:World)(g:Gh)(s':Nat->D)(m':GV),
  aG9 X l->CP S ns c dops l s m=some (s',m')->InX P B w0 N ns c X s m a w g->
  (∀a' w' g',InX P B w0 N ns c (l.foldl ins X) s' m' a' w' g'->Hk w g w' g'->DS ns m g m' g'->Q .normal a' w')->wpOps P ops Q l a w
 |[],X,s,m,a,w,g,s',m',_,he,hx,hq=>by
  simp only[CP,Qh,Qk]at he;obtain⟨rfl,rfl⟩:=he;exact hq a w g hx (Hk.refl w g) (DS.refl ns m g)
 |i::l,X,s,m,a,w,g,s',m',hf,he,hx,hq=>by
  obtain⟨n,ra⟩:=hf;obtain⟨ea,ka⟩:=Ca fa;simp only[wpOps];cases ho:ops[i]? with
  |none=>
   simp only;have hd:dops[i]?=none:=by
    simp_all
   simp only[CP,hd]at he;have oa:InX P B w0 N ns c (ins X i) s m a w g:=⟨hx.inv,hx.slots,hx.size,hx.defers,λk i' y z h3=>hx.fresh k i' y (by simp only[ins,QZ]at z;exact z.1) h3⟩;exact De hS fa l (ins X i) s m a w g s' m' ra he oa hq
  |some o=>
   simp only;obtain⟨d,hd,r⟩:=ka i o (by simpa using ho);obtain⟨t1,t2,t3,t4,t5⟩:=Cw r;simp only[CP,hd]at he;split at he
   ·rename_i e b;unfold BQ at b;have j:∀i',((c+i)::ns)<:+i'->B2 m g i':=λi' h=>hx.fresh (c+i) i' O (by rw[show c+i-c=i by omega];exact n) h
    have q:∀t,o.dst=some t->t<a.tmps.size:=λt ht=>by rw[hx.size];exact t5 t ht
    split at b
    ·rename_i hg;rw[EB fa hx.slots t4 hg];simp only[if_true];split at b
     ·rename_i dd u p;simp only[Qh]at b;subst b;left;refine aU4 hS ⟨hx.inv,hx.slots,j⟩ (aH5 t1 p) p (λv' w' g' la=>?_);have ma:=bU a o.dst v';have oa:InX P B w0 N ns c (ins X i) (AG s d.dst dd) (Ha.app m u) (a.put o.dst v') w' g':=by
       refine⟨la.inv,?_,by rw[ma.1];exact hx.size,by rw[ma.2];exact hx.defers,λk i' y z h3=>?_⟩
       ·rw[t2];exact(hx.slots.ext la.ext).put la.rep q
       ·simp only[ins,QZ,beq_eq_false_iff_ne]at z;refine la.fresh i' (hx.fresh k i' y z.1 h3) (λx=>?_);have:=WZ h3 x;omega
      exact De hS fa l (ins X i) _ _ _ w' g' s' m' ra he oa (λab ya f y z h3=>hq ab ya f y (la.ext.trans z) (DS.trans (λi' hf v=>la.fresh i' hf (xT v)) h3))
     ·cases b
    ·rename_i hg;rw[EB fa hx.slots t4 hg];simp only[QO,if_false];simp only[Qh]at b;subst b;have ma:=bU a o.dst undef;have oa:InX P B w0 N ns c (ins X i) (AG s d.dst (.tup [])) m (a.put o.dst undef) w g:=by
      refine⟨hx.inv,?_,by rw[ma.1];exact hx.size,by rw[ma.2];exact hx.defers,λk i' y z h3=>?_⟩
      ·rw[t2];exact hx.slots.put (.tup [] [] rfl U) q
      ·simp only[ins,QZ]at z;exact hx.fresh k i' y z.1 h3
     exact De hS fa l (ins X i) _ _ _ w g s' m' ra he oa hq
    ·cases b
   ·cases he
def Lr{a:Nat->Nat->Prop}:∀{l:List Nat} {X:Nat->Bool},gX dops a X l->aG9 X l
 |[],_,_=>trivial
 |i::l,X,h=>⟨h.2.1,Lr h.2.2.2⟩
def L6(n:Nat):∀k,aG9 (below k) (Zw k n):=by
 induction n with
 |zero=>intro k;trivial
 |succ n ih=>
  intro k;rw[Q9];exact⟨by simp[below],by rw[Od];exact ih (k+1)⟩
def IQ(n:Nat):∀k,(Zw k n).foldl ins (below k)=below (k+n):=by
 induction n with
 |zero=>intro k;rfl
 |succ n ih=>
  intro k;rw[Q9,Ze,Od,ih (k+1)];congr 1;omega
structure InS (P:Program) (B:Nat) (w0:World) (N:Nat) (ns:Id) (c:Nat) (s:Nat->D) (m:GV) (a:Act) (w:World) (g:Gh):Prop where
 inv:Hc P B w0 m w g
 slots:Da w g s a
 size:a.tmps.size=N
 defers:a.defers=[]
 fresh:∀k i,c<=k->(k::ns)<:+i->B2 m g i
def InS.start{s:Nat->D}{m:GV}{a:Act}{w:World}{g:Gh}(h:InS P B w0 N ns c s m a w g)(X:Nat->Bool):InX P B w0 N ns c X s m a w g:=
 ⟨h.inv,h.slots,h.size,h.defers,λk i u _ d=>h.fresh k i u d⟩
def InX.done{s:Nat->D}{m:GV}{a:Act}{w:World}{g:Gh}{n:Nat}(h:InX P B w0 N ns c (below n) s m a w g):InS P B w0 N ns (c+n) s m a w g:=
 ⟨h.inv,h.slots,h.size,h.defers,λk i u d=>h.fresh k i O (by simp[below];omega) d⟩
def vV(v:GR.ok P S)(b:C2 P N ops.toList=some dops){s:Nat->D}{m:GV}{a:Act}{w:World}{g:Gh}{t:Nat->D}{m':GV}{id:Nat}
  (n:CP S ns c dops (QA dops.length) s m=some (t,m')) (f:InS P B w0 N ns c s m a w g)
  (z:∀k w' p,InS P B w0 N ns (c+dops.length) t m' k w' p->Hk w g w' p->DS ns m g m' p->Q .normal k w'):(Code.region id ops false).wp P Q a w:=by
 have hl:dops.length=ops.size:=by simpa using (Ca b).1
 refine wp_region ?_;rw[←hl];have y:below 0=λ_=>false:=XX
 refine De v b (QA dops.length) (below 0) s m a w g t m' ?_ n (f.start _) (λk w' p u q d=>?_)
 ·rw[QY];exact L6 _ 0
 ·rw[QY,IQ]at u;rw[QB]at u;exact z k w' p u.done q d
end
abbrev Ml:=List Loc×List Loc
def Cs(S:GR)(ns:Id)(c:Nat)(ops:List DOper):List DOper->Nat->(Nat->D)->GV->Option ((Nat->D)×GV×List Ml)
 |[],_,s,m=>some (s,m,[])
 |o::l,k,s,m=>match BQ S ops ((c+k)::ns) o s m with
  |some e=>match Cs S ns c ops l (k+1) (AG s o.dst e.d) (Ha.app m e.u)with
   |some (s',m',f)=>some (s',m',(GZ S s m o.op,An e.u)::f)
   |none=>none
  |none=>none
def DOp.mayW:DOp->Bool
 | .alloc _| .box _| .bslice .. | .mksl .. | .store .. | .app .. | .call .. | .range _| .next _=>true
 |_=>false
def DOp.ownW:DOp->Bool
 | .alloc _| .box _| .bslice .. | .mksl ..=>true
 |_=>false
def DOp.mayR:DOp->Bool
 | .load .. | .store .. | .app .. | .call .. | .next _=>true
 |_=>false
def aE9(a b:DOp):Bool:=a.mayW&&(b.mayR||b.mayW)&&!(a.ownW&&b.ownW)
def Ts(w:List (List Nat))(j k:Nat):Bool:=(w.getD k []).contains j
def Lj(ops:List DOper)(w:List (List Nat)):List (Nat×Nat):=
 (QA ops.length).flatMap λj=>(QA ops.length).filterMap λk=>
  match ops[j]?,ops[k]? with
  |some a,some b=>if(j !=k)&&!Ts w j k&&!Ts w k j&&aE9 a.op b.op then some (j,k)else none
  |_,_=>none
def Pi(ops:List DOper)(w:List (List Nat)):Bool:=
 (QA ops.length).all λj=>(QA ops.length).all λk=>
  match ops[j]?,ops[k]? with
  |some a,some b=>match a.dst with
   |some t=>(j==k)||Ts w j k||Ts w k j||!(b.op.uses.contains t||Gf ops b==some t||b.dst==some t)
   |none=>true
  |_,_=>true
def Ma(f:List Ml)(ps:List (Nat×Nat)):Prop:=∀p∈ps,∀l∈(f.getD p.1 ([],[])).2,l∉(f.getD p.2 ([],[])).1∧l∉(f.getD p.2 ([],[])).2
section
variable{S:GR}{ns:Id}{c:Nat}{ops:List DOper}
def DH(S:GR)(ns:Id)(c:Nat)(ops:List DOper)(s0:Nat->D)(m0:GV):Nat->(Nat->D)×GV
 |0=>(s0,m0)
 |k+1=>match ops[k]? with
  |some o=>
   let e:=(BQ S ops ((c+k)::ns) o (DH S ns c ops s0 m0 k).1 (DH S ns c ops s0 m0 k).2).getD ⟨.junk,[]⟩
   (AG (DH S ns c ops s0 m0 k).1 o.dst e.d,Ha.app (DH S ns c ops s0 m0 k).2 e.u)
  |none=>DH S ns c ops s0 m0 k
def Mc(S:GR)(ns:Id)(c:Nat)(ops:List DOper)(s0:Nat->D)(m0:GV)(k:Nat):Eff:=
 match ops[k]? with
 |some o=>(BQ S ops ((c+k)::ns) o (DH S ns c ops s0 m0 k).1 (DH S ns c ops s0 m0 k).2).getD ⟨.junk,[]⟩
 |none=>⟨.junk,[]⟩
variable{s0:Nat->D}{m0:GV}
def GG:∀k,k<=ops.length->(DH S ns c ops s0 m0 k).1=iV ops (Mc S ns c ops s0 m0) s0 (below k) ops.length∧(DH S ns c ops s0 m0 k).2=vC (Mc S ns c ops s0 m0) m0 (below k) ops.length
 |0,_=>by
  have y:below 0=λ_=>false:=XX
  constructor
  ·funext t;simp only[DH,iV,y];have:∀n,IH ops (Mc S ns c ops s0 m0) (λ_=>false) t n=none:=by
    intro n;induction n with
    |zero=>rfl
    |succ n ih=>simp[IH,ih]
   rw[this];rfl
  ·funext i o;simp only[DH,vC,y];have:∀n,H6 (Mc S ns c ops s0 m0) (λ_=>false) i o n=none:=by
    intro n;induction n with
    |zero=>rfl
    |succ n ih=>simp[H6,ih]
   rw[this]
 |k+1,hk=>by
  obtain⟨u,q⟩:=GG k O;have r:ops[k]?=some ops[k]:=Qj O;have b:Mc S ns c ops s0 m0 k=(BQ S ops ((c+k)::ns) ops[k] (DH S ns c ops s0 m0 k).1 (DH S ns c ops s0 m0 k).2).getD ⟨.junk,[]⟩:=by
   simp only[Mc,r]
  have f:below k k=false:=by simp[below]
  have p:=oP (ops:=ops) (E:=Mc S ns c ops s0 m0) (s0:=s0) f (n:=ops.length) O (λt _ j u _ d=>by simp[below]at d;omega);have m:=oQ (E:=Mc S ns c ops s0 m0) (m0:=m0) f (n:=ops.length) O (λi o _ j u _ d=>by simp[below]at d;omega);rw[Od]at p m;have z:DN ops k=(ops[k]).dst:=by simp[DN,r]
  rw[z]at p;simp only[DH,r];rw[←b,u,q,←p,←m];exact⟨rfl,rfl⟩
def IT:∀{l:List DOper} {k:Nat} {t:Nat->D} {m':GV} {f:List Ml},l=ops.drop k->Cs S ns c ops l k (DH S ns c ops s0 m0 k).1 (DH S ns c ops s0 m0 k).2=some (t,m',f)->
  (t,m')=DH S ns c ops s0 m0 (k+l.length)∧∀j o,ops[k+j]?=some o->
   BQ S ops ((c+(k+j))::ns) o (DH S ns c ops s0 m0 (k+j)).1 (DH S ns c ops s0 m0 (k+j)).2=some (Mc S ns c ops s0 m0 (k+j))∧
   f[j]?=some (GZ S (DH S ns c ops s0 m0 (k+j)).1 (DH S ns c ops s0 m0 (k+j)).2 o.op,An (Mc S ns c ops s0 m0 (k+j)).u)
 |[],k,t,m',f,hl,h=>by
  simp only[Cs,Qh,Qk]at h;obtain⟨rfl,rfl,rfl⟩:=h;refine⟨rfl,λj o r=>?_⟩;have:ops.length<=k:=by
   simp_all
  rw[Qr O]at r;cases r
 |o::l,k,t,m',f,hl,h=>by
  have z:ops[k]?=some o:=by
   have:(ops.drop k)[0]?=some o:=by rw[←hl];rfl
   rw[QD]at this;simpa using this
  have v:l=ops.drop (k+1):=by
   have:(ops.drop k).drop 1=ops.drop (k+1):=by rw[Zv]
   rw[←this,←hl];rfl
  unfold Cs at h;split at h
  ·rename_i e m;have n:Mc S ns c ops s0 m0 k=e:=by simp only[Mc,z,m,QM]
   have g:DH S ns c ops s0 m0 (k+1)=(AG (DH S ns c ops s0 m0 k).1 o.dst e.d,Ha.app (DH S ns c ops s0 m0 k).2 e.u):=by
    grind [DH]
   split at h
   ·rename_i s x b y;simp only[Qh,Qk]at h;obtain⟨rfl,rfl,rfl⟩:=h;obtain⟨p,q⟩:=IT (k:=k+1) v (by rw[g];exact y);refine⟨by rw[p];congr 1;simp;omega,λj o' a=>?_⟩;cases j with
    |zero=>
     simp only[Zq]at a ⊢;rw[z]at a;simp only[Qh]at a;subst a;refine⟨by rw[m,n],?_⟩;rw[n];rfl
    |succ j=>
     have:=q j o' (by rw[show k+1+j=k+(j+1)by omega];exact a);rw[show k+1+j=k+(j+1)by omega]at this;exact⟨this.1,by simpa using this.2⟩
   ·cases h
  ·cases h
theorem eH{P:Program}(v:GR.ok P S){op:DOp}{s:Nat->D}{m:GV}{fr:Id}{d:D}{u:Ha}(h:exec S s m fr op=some (d,u)):
  (op.mayW=false->u=[])∧(op.ownW=true->∀i o,EZ u i o≠none->i=fr):=by
 have a:∀ds,∀i o,EZ [(fr,0,ds)] i o≠none->i=fr:=by
  grind [EZ]
 cases op<;>(constructor<;>intro j<;>first|(simp[DOp.mayW]at j;done)|(simp[DOp.ownW]at j;done)|skip)
 all_goals simp only[exec]at h
 case alloc zs=>simp only[Qh,Qk]at h;obtain⟨rfl,rfl⟩:=h;exact a _
 case box x=>split at h;(simp only[Qh,Qk]at h;obtain⟨rfl,rfl⟩:=h;exact a _);cases h
 case bslice=>split at h;(simp only[Qh,Qk]at h;obtain⟨rfl,rfl⟩:=h;exact a _);cases h
 case mksl=>
  split at h
  ·grind
  ·cases h
 all_goals
  repeat' (split at h)
 all_goals first
  |(simp at h;done)
  |(simp only[Qh,Qk]at h;exact h.2.symm)
  |(rw[Qi]at h;obtain⟨_,_,h⟩:=h;simp only[Qk]at h;exact h.2.symm)
def bR{op:DOp}{s:Nat->D}{m:GV}(h:op.mayR=false):GZ S s m op=[]:=by
 cases op<;>first|rfl|(simp[DOp.mayR]at h)
def wB{op:DOp}(h:op.ownW=true):op.mayR=false:=by
 cases op<;>first|rfl|(simp[DOp.ownW]at h)
def Nu{w:List (List Nat)}{j k:Nat}:Ts w j k=true↔Fa w j k:=by
 simp[Ts,Fa]
def aDb{P:Program}(hS:GR.ok P S){w:List (List Nat)}(hb:FR (ops.map (·.after)) w=true)(hs:Pi ops w=true){s':Nat->D}{m':GV}{f:List Ml}
  (q:Cs S ns c ops ops 0 s0 m0=some (s',m',f)) (hf:Ma f (Lj ops w)):
  aG7 ops (Mc S ns c ops s0 m0) (λk=>(f.getD k ([],[])).1) (Fa w):=by
 obtain⟨_,ka⟩:=IT (k:=0) (ops:=ops) rfl q;simp only[QB]at ka;refine⟨λj k h=>(Wd hb h).1,λj k t oj ok a hj hk z ht=>?_,λj k i o a hj hk hl ht=>?_⟩
 ·have l:j<ops.length:=(Qm.1 hj).1;have ea:k<ops.length:=(Qm.1 hk).1;have y:=QF.1 hs j (Qs.2 l);have h2:=QF.1 y k (Qs.2 ea);simp only[hj,hk,z]at h2;simp only[QW,beq_iff_eq,Bool.not_eq_true',QZ]at h2;rcases h2 with ((h2|h2)|h2)|h2
  ·exact absurd h2 a
  ·exact .inl (Nu.1 h2)
  ·exact .inr (Nu.1 h2)
  ·simp_all
 ·by_cases r:Fa w j k∨Fa w k j
  ·exact r
  exfalso;have v:ops[j]?=some ops[j]:=Qj hj;have ra:ops[k]?=some ops[k]:=Qj hk;obtain⟨ej,fj⟩:=ka j _ v;obtain⟨ek,fk⟩:=ka k _ ra;have g:f.getD j ([],[])=(GZ S (DH S ns c ops s0 m0 j).1 (DH S ns c ops s0 m0 j).2 ops[j].op,An (Mc S ns c ops s0 m0 j).u):=by simp[Q6,fj]
  have d:f.getD k ([],[])=(GZ S (DH S ns c ops s0 m0 k).1 (DH S ns c ops s0 m0 k).2 ops[k].op,An (Mc S ns c ops s0 m0 k).u):=by simp[Q6,fk]
  have wr:∀{k o e s m},BQ S ops ((c+k)::ns) o s m=some e->(o.op.mayW=false->e.u=[])∧(o.op.ownW=true->∀i o',EZ e.u i o'≠none->i=(c+k)::ns):=by
   intro k o e s m h;unfold BQ at h;split at h
   ·grind [eH]
   ·simp only[Qh]at h;subst h;exact⟨λ_=>rfl,λ_ i o' hl=>absurd rfl hl⟩
   ·cases h
  by_cases wa:aE9 (ops[j]).op (ops[k]).op=true
  ·have ta:(j,k)∈Lj ops w:=by
    unfold Lj;rw[Zb];refine⟨j,Qs.2 hj,?_⟩;rw[List.mem_filterMap];refine⟨k,Qs.2 hk,?_⟩;simp only[v,ra];have n1:Ts w j k=false:=by
     cases h:Ts w j k with
     |false=>rfl
     |true=>exact absurd (.inl (Nu.1 h)) r
    have n2:Ts w k j=false:=by
     cases h:Ts w k j with
     |false=>rfl
     |true=>exact absurd (.inr (Nu.1 h)) r
    have n3:(j !=k)=true:=by simpa using a
    rw[n1,n2,n3,wa];rfl
   have n:=hf (j,k) ta (i,o) (by simp only;rw[g];exact look_mem hl);rcases ht with ht|ht
   ·exact n.1 ht
   ·grind [look_mem]
  ·obtain⟨w1,w2⟩:=wr ej;obtain⟨w3,w4⟩:=wr ek;have p:(ops[j]).op.mayW=true:=by
    cases h:(ops[j]).op.mayW with
    |true=>rfl
    |false=>rw[w1 h]at hl;exact absurd rfl hl
   by_cases b:(ops[k]).op.mayR=true∨(ops[k]).op.mayW=true
   ·have fa:(ops[j]).op.ownW=true∧(ops[k]).op.ownW=true:=by
     unfold aE9 at wa;rw[p]at wa;have:((ops[k]).op.mayR||(ops[k]).op.mayW)=true:=by rcases b with h|h<;>simp[h]
     rw[this]at wa;simpa using wa
    have hi:=w2 fa.1 i o hl;rcases ht with ht|ht
    ·have:(ops[k]).op.mayR=false:=wB fa.2;rw[d,bR this]at ht;cases ht
    ·have x:=w4 fa.2 i o ht;rw[hi]at x;simp only[ZO,and_true]at x;omega
   ·have y:(ops[k]).op.mayR=false:=by simpa using (λh=>b (.inl h))
    have h2:(ops[k]).op.mayW=false:=by simpa using (λh=>b (.inr h))
    rcases ht with ht|ht
    ·rw[d,bR y]at ht;cases ht
    ·rw[w3 h2]at ht;exact absurd rfl ht
def LW{P:Program}(x:GR.ok P S){w:List (List Nat)}(i:FR (ops.map (·.after)) w=true)(g:Pi ops w=true){t:Nat->D}{m':GV}{f:List Ml}
  (q:Cs S ns c ops ops 0 s0 m0=some (t,m',f)) (r:Ma f (Lj ops w)) {l:List Nat} (z:gX ops (Fa w) (λ_=>false) l) (hl:l.foldl ins (λ_=>false)=below ops.length):
  CP S ns c ops l s0 m0=some (t,m'):=by
 obtain⟨n,p⟩:=IT (k:=0) (ops:=ops) rfl q;simp only[QB,List.drop_zero]at p n;have m:=aDb x i g q r;have a:=GG (S:=S) (ns:=ns) (c:=c) (ops:=ops) (s0:=s0) (m0:=m0) 0 (ZM _);have e:below 0=λ_=>false:=XX
 rw[e]at a;simp only[DH]at a;have v:=GG (S:=S) (ns:=ns) (c:=c) (ops:=ops) (s0:=s0) (m0:=m0) ops.length (Qp _);have b:=Rx (c:=c) (ns:=ns) (s0:=s0) (m0:=m0) x m (λk o u=>by
  have s:k<ops.length:=(Qm.1 u).1;have:=(p k o u).2;rw[(GG k O).1,(GG k O).2]at this;simp[Q6,this]) (λk o u=>by
  have s:k<ops.length:=(Qm.1 u).1;have:=(p k o u).1;rw[(GG k O).1,(GG k O).2]at this;exact this) l (λ_=>false) (λj k h _=>Xd) z
 rw[←a.1,←a.2,hl,←v.1,←v.2]at b;rw[b,←n]
end
def DOper.strip(o:DOper):DOper:={o with after:=[]}
def Ek(S:GR)(ns:Id)(c:Nat)(ops:List DOper):List DOper->Nat->(Nat->D)->GV->Option ((Nat->D)×GV)
 |[],_,s,m=>some (s,m)
 |o::l,k,s,m=>match BQ S ops ((c+k)::ns) o s m with
  |some e=>Ek S ns c ops l (k+1) (AG s o.dst e.d) (Ha.app m e.u)
  |none=>none
def Tj(ops:List DOper)(s:Nat->D)(o:DOper):Bm (ops.map DOper.strip) s o.strip=Bm ops s o:=by
 grind [Bm,DOper.strip]
def OV(S:GR)(ops:List DOper)(fr:Id)(o:DOper)(s:Nat->D)(m:GV):BQ S (ops.map DOper.strip) fr o.strip s m=BQ S ops fr o s m:=by
 unfold BQ;rw[Tj];rfl
def Fw(S:GR)(ns:Id)(c:Nat)(ops:List DOper):∀(l:List DOper)(k:Nat)(s:Nat->D)(m:GV),Ek S ns c (ops.map DOper.strip) (l.map DOper.strip) k s m=Ek S ns c ops l k s m
 |[],k,s,m=>rfl
 |o::l,k,s,m=>by
  simp only[Qy,Ek,OV];cases BQ S ops ((c+k)::ns) o s m with
  |none=>rfl
  |some e=>simp only;exact Fw S ns c ops l (k+1) _ _
def EI(S:GR)(ns:Id)(c:Nat)(ops:List DOper):∀(l:List DOper)(k:Nat)(s:Nat->D)(m:GV),Cs S ns c (ops.map DOper.strip) (l.map DOper.strip) k s m=Cs S ns c ops l k s m
 |[],k,s,m=>rfl
 |o::l,k,s,m=>by
  simp only[Qy,Cs,OV];cases BQ S ops ((c+k)::ns) o s m with
  |none=>rfl
  |some e=>simp only;rw[show o.strip.dst=o.dst from rfl,EI S ns c ops l (k+1) _ _];rfl
def Fx(S:GR)(ns:Id)(c:Nat)(ops:List DOper):∀(l:List DOper)(k:Nat)(s:Nat->D)(m:GV),l=ops.drop k->Ek S ns c ops l k s m=CP S ns c ops (Zw k l.length) s m
 |[],k,s,m,_=>rfl
 |o::l,k,s,m,hl=>by
  have z:ops[k]?=some o:=by
   have:(ops.drop k)[0]?=some o:=by rw[←hl];rfl
   rw[QD]at this;simpa using this
  have v:l=ops.drop (k+1):=by
   have:(ops.drop k).drop 1=ops.drop (k+1):=by rw[Zv]
   rw[←this,←hl];rfl
  rw[Qz,Q9];simp only[Ek,CP,z];cases BQ S ops ((c+k)::ns) o s m with
  |none=>rfl
  |some e=>simp only;exact Fx S ns c ops l (k+1) _ _ v
inductive DC where
 |skip
 |ret
 |exit (i:Nat)
 |row (ops:List DOper)
 |drawn (ops:List DOper) (ps:List (Nat×Nat))
 |seq (a b:DC)
 |cond (c:GW) (a b:DC)
 |block (i:Nat) (c:DC)
 |loop (c:DC)
def SJ(ps:List (List Nat)):List (List Nat):=
 ps.foldl (λacc p=>acc++[(p.flatMap λj=>j::acc.getD j []).eraseDups]) []
def Vx(P:Program)(N:Nat)(ops:Array Oper):Option DC:=
 match C2 P N ops.toList with
 |some v=>
  if FR (v.map (·.after)) (SJ (v.map (·.after)))=true∧Pi v (SJ (v.map (·.after)))=true∧Fs .any ops (Region.linearise .any ops 0)=true∧
   Fs .text ops (Region.linearise .text ops 0)=true∧Fs .gc ops (Region.linearise .gc ops 0)=true
  then some (.drawn (v.map DOper.strip) (Lj v (SJ (v.map (·.after)))))else none
 |none=>none
def AA(P:Program)(N:Nat):Code->Option DC
 | .skip=>some .skip
 | .ret=>some .ret
 | .exit i=>some (.exit i)
 | .region _ ops false=>(C2 P N ops.toList).map λl=> .row (l.map DOper.strip)
 | .region _ ops true=>Vx P N ops
 | .seq a b=>match AA P N a,AA P N b with
  |some a,some b=>some (.seq a b)
  |_,_=>none
 | .cond c a b=>match AE c,AA P N a,AA P N b with
  |some c,some a,some b=>some (.cond c a b)
  |_,_,_=>none
 | .block i c=>(AA P N c).map (.block i)
 | .loop c=>(AA P N c).map .loop
 |_=>none
structure St where
 s:Nat->D
 m:GV
 c:Nat
inductive Ex where
 |normal
 |ret
 |exit (i:Nat)
def Ex.toExit:Ex->Exit
 | .normal=> .normal
 | .ret=> .ret
 | .exit i=> .exit i
inductive Lp (R:St->Ex->St->Prop):Nat->St->Ex->St->Prop
 |stop (st:St) (e:Ex) (st':St):R st e st'->e≠ .normal->Lp R 0 st e st'
 |more (n:Nat) (st st1:St) (e:Ex) (st':St):R st .normal st1->Lp R n st1 e st'->Lp R (n+1) st e st'
def Ev(S:GR)(ns:Id):DC->St->Ex->St->Prop
 | .skip,st,e,st'=>e= .normal∧st'=st
 | .ret,st,e,st'=>e= .ret∧st'=st
 | .exit i,st,e,st'=>e= .exit i∧st'=st
 | .row ops,st,e,st'=>e= .normal∧Ek S ns st.c ops ops 0 st.s st.m=some (st'.s,st'.m)∧st'.c=st.c+ops.length
 | .drawn ops ps,st,e,st'=>e= .normal∧(∃f,Cs S ns st.c ops ops 0 st.s st.m=some (st'.s,st'.m,f)∧Ma f ps)∧st'.c=st.c+ops.length
 | .seq a b,st,e,st'=>∃p d,Ev S ns a st p d∧((p= .normal∧Ev S ns b d e st')∨(p≠ .normal∧e=p∧st'=d))
 | .cond c a b,st,e,st'=>(c.ev st.s= .bool true∧Ev S ns a st e st')∨(c.ev st.s= .bool false∧Ev S ns b st e st')
 | .block i c,st,e,st'=>∃p,Ev S ns c st p st'∧((p= .exit i∧e= .normal)∨(p≠ .exit i∧e=p))
 | .loop c,st,e,st'=>∃n,Lp (Ev S ns c) n st e st'
def DC.wp(S:GR)(ns:Id)(b:DC)(Q:Ex->St->Prop)(z:St):Prop:=∃e o,Ev S ns b z e o∧Q e o
def Le{P:Program}{Q:Exit->Act->World->Prop}{c:Code}(J:Nat->Act->World->Prop)
  (d:∀n a w,J n a w->c.wp P (Exit.then (λj w'=>∃k,k<n∧J k j w') Q) a w) {n:Nat} {a:Act} {w:World} (y:J n a w):(Code.loop c).wp P Q a w:=by
 intro b k cs;have key:∀n a w,J n a w->∃e j w',Q e j w'∧Arrives P (lone (b.at a (.code c:: .inLoop c::k)) cs w) b k cs e j w':=by
  intro n;induction n using ZP with
  |_ n ih=>
   intro a w m;obtain⟨e,q,t,z,i⟩:=d n a w m b (.inLoop c::k) cs;cases e with
   |normal=>
    obtain⟨u,v,h⟩:=z;obtain⟨p,s,o,g,f⟩:=ih u v q t h;exact⟨p,s,o,g,.of_steps (Steps.trans i (.one step_inLoop)) f⟩
   |exit id=>exact⟨_,q,t,z,.pass (x:= .inLoop c) rfl (λ_ _=> .inl U) i⟩
   |goto l=>exact⟨_,q,t,z,.pass (x:= .inLoop c) rfl (λ_ _=> .inl U) i⟩
   |ret=>exact⟨_,q,t,z,.pass (x:= .inLoop c) rfl (λ_ _=> .inl U) i⟩
   |panic r=>exact⟨_,q,t,z,.pass (x:= .inLoop c) rfl (λ_ _=> .inl U) i⟩
   |outgrown=>exact⟨_,q,t,z,.pass (x:= .inLoop c) rfl (λ_ _=> .inl U) i⟩
 obtain⟨e,j,w',z,i⟩:=key n a w y;exact⟨e,j,w',z,.of_steps (.one step_loop) i⟩
section
variable{P:Program}{B:Nat}{w0:World}{N:Nat}{ns:Id}{S:GR}
def Cd{ops:Array Oper}{b:DC}(h:Vx P N ops=some b):∃v w,C2 P N ops.toList=some v∧FR (v.map (·.after)) w=true∧Pi v w=true∧
  (∀md,Fs md ops (Region.linearise md ops 0)=true)∧b= .drawn (v.map DOper.strip) (Lj v w):=by
 unfold Vx at h;split at h
 ·rename_i v z;split at h
  ·rename_i g;simp only[Qh]at h;refine⟨v,_,z,g.1,g.2.1,λmd=>?_,h.symm⟩;cases md
   ·exact g.2.2.2.1
   ·exact g.2.2.2.2
   ·exact g.2.2.1
  ·cases h
 ·cases h
def Cm(P:Program)(B:Nat)(w0:World)(N:Nat)(ns:Id)(z:St)(a:Act)(w:World)(g:Gh):Prop:=InS P B w0 N ns z.c z.s z.m a w g
def Wr(P:Program)(B:Nat)(w0:World)(N:Nat)(ns:Id)(z:St)(w:World)(g:Gh)(e:Ex)(o:St):Exit->Act->World->Prop:=
 λt k w'=>t=e.toExit∧∃c,Cm P B w0 N ns o k w' c∧Hk w g w' c∧DS ns z.m g o.m c
def Wr.trans{z k o:St}{w i:World}{g r:Gh}{e:Ex}{t:Exit}{j:Act}{w':World}(f:Hk w g i r)(s:DS ns z.m g k.m r)(h:Wr P B w0 N ns k i r e o t j w'):Wr P B w0 N ns z w g e o t j w':=by
 obtain⟨u,c,q,d,x⟩:=h;exact⟨u,c,q,f.trans d,s.trans x⟩
def FL{ops:Array Oper}{v:List DOper}{w:List (List Nat)}(m:C2 P N ops.toList=some v)(f:FR (v.map (·.after)) w=true)
  (ia:∀md,Fs md ops (Region.linearise md ops 0)=true) (a:Bool) (t:Nat):
  gX v (Fa w) (λ_=>false) (Region.schedule a ops t)∧(Region.schedule a ops t).foldl ins (λ_=>false)=below v.length:=by
 obtain⟨hl,p⟩:=Ca m;have y:v.length=ops.size:=Xo
 have q:∀(k:Nat) o,ops[k]?=some o->(v.map (·.after)).getD k []=TP o:=by
  intro k o u;obtain⟨d,z,r⟩:=p k o XQ;simp[Q6,z,(Cw r).2.2.1]
 rw[y];unfold Region.schedule;split
 ·exact E0 y q f (ia .any) t
 ·split
  ·exact E0 y q f (ia .text) (t / 2)
  ·exact E0 y q f (ia .gc) (t / 2)
def aDx(hS:GR.ok P S):∀(ea:Code)(dc:DC),AA P N ea=some dc->∀(u:St)(e:Ex)(ca:St),Ev S ns dc u e ca->∀(a:Act)(w:World)(g:Gh),Cm P B w0 N ns u a w g->
  ea.wp P (Wr P B w0 N ns u w g e ca) a w:=by
 intro ea;induction ea with
 |skip=>
  intro dc da u e ca ha a w g hx;simp only[AA,Qh]at da;subst da;obtain⟨rfl,rfl⟩:=ha;exact wp_skip ⟨rfl,g,hx,Hk.refl w g,DS.refl _ _ _⟩
 |ret=>
  intro dc da u e ca ha a w g hx;simp only[AA,Qh]at da;subst da;obtain⟨rfl,rfl⟩:=ha;exact wp_ret ⟨rfl,g,hx,Hk.refl w g,DS.refl _ _ _⟩
 |exit i=>
  intro dc da u e ca ha a w g hx;simp only[AA,Qh]at da;subst da;obtain⟨rfl,rfl⟩:=ha;exact wp_exit ⟨rfl,g,hx,Hk.refl w g,DS.refl _ _ _⟩
 |region id ops r=>
  intro dc da u e ca ha a w g hx;cases r with
  |false=>
   simp only[AA,Qi]at da;obtain⟨aa,fa,rfl⟩:=da;obtain⟨rfl,he,hc⟩:=ha;rw[Fw,Fx S ns u.c aa aa 0 _ _ rfl,←QY]at he;refine vV hS fa he hx (λa' w' g' k h2 h3=>⟨rfl,g',?_,h2,h3⟩);unfold Cm;rw[hc,Q4];exact k
  |true=>
   simp only[AA]at da;obtain⟨aa,ba,fa,hb,hs,ia,rfl⟩:=Cd da;obtain⟨rfl,⟨f,he,hf⟩,hc⟩:=ha;rw[EI]at he;refine wp_region_draw (λt=>?_);obtain⟨g1,g2⟩:=FL fa hb ia (P.follows .mixedOrders) t;have z:=LW (c:=u.c) (ns:=ns) hS hb hs he hf g1 g2;have oa:InS P B w0 N ns u.c u.s u.m a w.drew g:=⟨hx.inv.drew,λt=>(hx.slots t).ext (Hk.drew w g),hx.size,hx.defers,hx.fresh⟩;refine De hS fa _ (λ_=>false) u.s u.m a w.drew g ca.s ca.m (Lr g1) z (oa.start _) (λa' w' g' k h2 h3=>⟨rfl,g',?_,(Hk.drew w g).trans h2,h3⟩);unfold Cm;rw[hc,Q4];rw[g2]at k;exact k.done
 |seq x y ta ua=>
  intro dc da u e ca ha a w g hx;simp only[AA]at da;split at da
  ·rename_i dx dy k h2;simp only[Qh]at da;subst da;obtain⟨e1,ga,d,ja⟩:=ha;have bb:=ta dx k u e1 ga d a w g hx;refine wp_seq (wp_mono bb ?_);rintro e' a' w' ⟨rfl,g',hh,ma,b⟩;rcases ja with ⟨rfl,v⟩|⟨la,rfl,rfl⟩
   ·exact wp_mono (ua dy h2 ga e ca v a' w' g' hh) (λcb ab ya h=>h.trans ma b)
   ·cases e with
    |normal=>exact absurd rfl la
    |ret=>exact⟨rfl,g',hh,ma,b⟩
    |exit i=>exact⟨rfl,g',hh,ma,b⟩
  ·cases da
 |cond c x y ta ua=>
  intro dc da u e ca ha a w g hx;simp only[AA]at da;split at da
  ·rename_i o dx dy h0 k h2;simp only[Qh]at da;subst da;have hc:=hx.slots.arg h0;rcases ha with ⟨ht,ha⟩|⟨ht,ha⟩
   ·rw[ht]at hc;exact wp_cond_true hc.bool_inv (ta dx k u e ca ha a w g hx)
   ·rw[ht]at hc;exact wp_cond_false hc.bool_inv (ua dy h2 u e ca ha a w g hx)
  ·cases da
 |block i c ih=>
  intro dc da u e ca ha a w g hx;simp only[AA,Qi]at da;obtain⟨o,k,rfl⟩:=da;obtain⟨e1,d,ja⟩:=ha;refine wp_block (wp_mono (ih o k u e1 ca d a w g hx) ?_);rintro e' a' w' ⟨rfl,g',hh,ma,b⟩;rcases ja with ⟨rfl,rfl⟩|⟨la,rfl⟩
  ·simp only[Ex.toExit,Exit.inBlock,if_true];exact⟨rfl,g',hh,ma,b⟩
  ·cases e with
   |normal=>exact⟨rfl,g',hh,ma,b⟩
   |ret=>exact⟨rfl,g',hh,ma,b⟩
   |exit j=>
    simp only[Ex.toExit,Exit.inBlock];rw[if_neg (λe=>la (by rw[e]))];exact⟨rfl,g',hh,ma,b⟩
 |loop c ih=>
  intro dc da u e ca ha a w g hx;simp only[AA,Qi]at da;obtain⟨o,k,rfl⟩:=da;obtain⟨n,za⟩:=ha;refine Le (λn a' w'=>∃ga g1,Cm P B w0 N ns ga a' w' g1∧Hk w g w' g1∧DS ns u.m g ga.m g1∧Lp (Ev S ns o) n ga e ca) ?_ ⟨u,g,hx,Hk.refl w g,DS.refl _ _ _,za⟩;rintro n a1 w1 ⟨ga,g1,hh,ma,b,sa⟩;cases sa with
  |stop _ _ _ hr la=>
   refine wp_mono (ih o k ga e ca hr a1 w1 g1 hh) ?_;rintro e' a' w' hp;have va:=hp.trans ma b;obtain⟨rfl,_⟩:=hp;cases e with
   |normal=>exact absurd rfl la
   |ret=>exact va
   |exit i=>exact va
  |more n' _ qa _ _ hr q=>
   refine wp_mono (ih o k ga .normal qa hr a1 w1 g1 hh) ?_;rintro e' a' w' ⟨rfl,g',ra,p,wa⟩;exact⟨n',Nat.lt_succ_self _,qa,g',ra,ma.trans p,b.trans wa,q⟩
 |_=>
  intro dc da;simp[AA]at da
end
def Gn{xs:List D}(h:∀d∈xs,d.calm=true):∀x∈flat xs,x.calm=true:=by
 induction xs with
 |nil=>intro x hx;cases hx
 |cons d r ih=>
  intro x hx;simp only[flat,Qn]at hx;rcases hx with hx|hx
  ·exact Mg (h d (Qu ..)) x hx
  ·exact ih (λd z=>h d (Qw _ z)) x hx
def fA{cs:List D}(h:(D.agg cs).calm=true):∀x∈cs,x.calm=true:=Mg h
def Rep.calm_to{w w':World}{g g':Gh}{d:D}{v:Value}(h:Rep w g d v)(r:d.calm=true)(x:∀p:Addr,p.off<g.G p.block->w'.cell? p=w.cell? p)(hG:∀b,g.G b<=g'.G b):Rep w' g' d v:=by
 induction h with
 |junk v=>exact .junk v
 |bool b=>exact .bool b
 |int k n=>exact .int k n
 |str s=>exact .str s
 |nils t=>exact .nils t
 |slice t xs a n c sz vv u q m h4 h5 h6 h7 h8 h9 ih=>
  have ht:t=[]:=by simpa[D.calm,D.calm1]using r
  subst ht;refine .slice [] xs a n c sz vv u q m (λj e=>?_) h5 (λj d z=>ih j d z (Gn h9 d (Qx z))) (λh=>QH (h7 h) (hG _)) (λh=>absurd rfl h) h9;rw[x _ YB];exact h4 j e
 |ptr i o b u=>simp[D.calm,D.calm1]at r
 |row i n c b y u=>simp[D.calm,D.calm1]at r
 |eptr ds a vv u q m h4 h5 ih=>
  refine .eptr ds a vv (λj e=>?_) q (λj d z=>ih j d z (h5 d (Qx z))) (λh=>QH (h4 h) (hG _)) h5;rw[x _ Y5];exact u j e
 |nilp=>exact .nilp
 |agg ds vs u q m ih=>exact .agg ds vs u q (λj d v z hv=>ih j d v z hv (fA r d (Qx z)))
 |tup ds vs u q ih=>simp[D.calm,D.calm1]at r
 |iface t d v u q ih=>exact .iface t d v u (ih u)
 |nili=>exact .nili
 |fn f ds vs u q ih=>
  have:ds=[]:=by simpa[D.calm,D.calm1]using r
  subst this;exact .fn f [] vs u U
 |nilf=>exact .nilf
 |nilm=>exact .nilm
 |itp i b u=>simp[D.calm,D.calm1]at r
def D.unR:D->D
 | .tup vs=> .tup (vs.map D.un)
 |d=>d.un
def D.calmR:D->Bool
 | .tup vs=>vs.all D.calm
 |d=>d.calm
def Rep.unR{w:World}{g:Gh}{d:D}{v:Value}(h:Rep w g d v):Rep w g d.unR v:=by
 cases d with
 |tup vs=>
  obtain⟨us,rfl,u,q⟩:=h.tup_inv;refine .tup _ us (by simp[u]) (λj d v z y=>?_);rw[Qq,Qi]at z;obtain⟨n,x,rfl⟩:=z;exact(q j n v x y).un
 |_=>exact h.un
def Rep.calmR_to{w w':World}{g c:Gh}{d:D}{v:Value}(h:Rep w g d v)(r:d.calmR=true)(x:∀p:Addr,p.off<g.G p.block->w'.cell? p=w.cell? p)(i:∀b,g.G b<=c.G b):Rep w' c d v:=by
 cases d with
 |tup vs=>
  obtain⟨us,rfl,u,q⟩:=h.tup_inv;exact .tup _ us u (λj d v z y=>(q j d v z y).calm_to (QF.1 r d (Qx z)) x i)
 |_=>exact h.calm_to r x i
inductive RV where
 |t (n:Nat)
 |cell (k:Option Nat) (n:Nat)
def WF(m:GV)(k:Option Nat):D->Option D
 | .ptr i o=>match k with
  |none=>m i o
  |some n=>(Ai m i o n).map .agg
 |_=>none
def RV.of(s:Nat->D)(m:GV):RV->Option D
 | .t n=>some (s n)
 | .cell k n=>WF m k (s n)
def Fj(s:Nat->D)(m:GV):List RV->Option (List D)
 |[]=>some []
 |r::l=>match r.of s m,Fj s m l with
  |some d,some ds=>some (d::ds)
  |_,_=>none
def B6(rs:List RV)(s:Nat->D)(m:GV):Option D:=
 match Fj s m rs with
 |some [d]=>some d
 |some ds=>some (.tup ds)
 |none=>none
def LI(P:Program):List ResultVar->Option (List RV)
 |[]=>some []
 | .tmp t::r=>(LI P r).map (.t t::·)
 | .cell a t::r=>match qJ P t,LI P r with
  |some k,some l=>some (.cell k a::l)
  |_,_=>none
section
variable{P:Program}{B:Nat}{w0 w w':World}{m:GV}{g:Gh}{s:Nat->D}{a:Act}
def bH(tmps:Array Value):ResultVar->Sem Value
 | .tmp t=>pure (tmps.getD t undef)
 | .cell a t=>do loadVar t (←asAddr (tmps.getD a undef))
def OG(hi:Hc P B w0 m w g)(hs:Da w g s a):∀{h:List ResultVar} {rs:List RV} {ds:List D},LI P h=some rs->Fj s m rs=some ds->
  ∃vs:List Value,(h.mapM (m:=Sem) (bH a.tmps)).run P w= .ok vs w∧vs.length=ds.length∧∀(j:Nat) d v,ds[j]?=some d->vs[j]?=some v->Rep w g d v
 |[],rs,ds,h1,h2=>by
  simp only[LI,Qh]at h1;subst h1;simp only[Fj,Qh]at h2;subst h2;exact⟨[],U,rfl,U⟩
 |x::r,rs,ds,h1,h2=>by
  have key:∃rv f,rs=rv::f∧LI P r=some f∧∀d,rv.of s m=some d->∃v,(bH a.tmps x).run P w= .ok v w∧Rep w g d v:=by
   cases x with
   |tmp t=>
    simp only[LI,Qi]at h1;obtain⟨l,hl,rfl⟩:=h1;refine⟨.t t,l,rfl,hl,λd z=>?_⟩;simp only[RV.of,Qh]at z;subst z;exact⟨_,rfl,hs t⟩
   |cell y t=>
    simp only[LI]at h1;split at h1
    ·rename_i k l u hl;simp only[Qh]at h1;subst h1;refine⟨.cell k y,l,rfl,hl,λd z=>?_⟩;simp only[RV.of]at z;unfold WF at z;split at z
     ·rename_i i o e;have hr:=hs y;rw[e]at hr;obtain⟨b,e1,hb⟩:=hr.ptr_inv;split at z
      ·obtain⟨v,c1,c2,c3⟩:=hi.cell hb z;exact⟨v,by simp[bH,e1,asAddr,D4 u c1],c3⟩
      ·rename_i n;rw[Qi]at z;obtain⟨ds,fa,rfl⟩:=z;obtain⟨vs,c1,c2⟩:=hi.cells hb fa;have hl:=(BL fa).1;have:=Ep (P:=P) (w:=w) u (ad:=⟨b,o,none⟩) (vs:=vs) (by rw[c1.1,hl]) (λj v q=>by rw[D8];exact c2 j v q);exact⟨_,by simp[bH,e1,asAddr,this],aK c1⟩
     ·cases z
    ·cases h1
  obtain⟨rv,f,rfl,hl,p⟩:=key;unfold Fj at h2;split at h2
  ·rename_i d c e1 e2;simp only[Qh]at h2;subst h2;obtain⟨v,q1,q2⟩:=p d e1;obtain⟨vs,p1,p2,p3⟩:=OG hi hs hl e2;refine⟨v::vs,?_,by simp[p2],λj d v z q=>?_⟩
   ·simp_all
   ·grind
  ·cases h2
def OJ{n:Func}{rs:List RV}{d:D}(hi:Hc P B w0 m w g)(i:Da w g s a)(c:LI P n.results.toList=some rs)(z:B6 rs s m=some d):
  ∃v,(results n a.tmps).run P w= .ok v w∧Rep w g d v:=by
 unfold B6 at z;have run:∀ds,Fj s m rs=some ds->∃vs:List Value,(results n a.tmps).run P w= .ok (if h:vs.toArray.size=1 then vs.toArray[0]else .tuple vs.toArray) w∧vs.length=ds.length∧∀(j:Nat) d v,ds[j]?=some d->vs[j]?=some v->Rep w g d v:=by
  intro ds fa;obtain⟨vs,q,p,o⟩:=OG hi i c fa;refine⟨vs,?_,p,o⟩;have b:results n a.tmps=(do
   let vs ←n.results.mapM (bH a.tmps)
   pure (if h:vs.size=1 then vs[0]else .tuple vs)):=by
   unfold results;congr 1
  rw[b];simp only[Sem.run_bind];rw[Zi,Sem.run_map,q];rfl
 split at z
 ·rename_i t e;simp only[Qh]at z;subst z;obtain⟨vs,q,p,o⟩:=run _ e
  match vs,p with
  |[v],_=>exact⟨v,q,o 0 _ v rfl rfl⟩
 ·rename_i ds f e;simp only[Qh]at z;subst z;obtain⟨vs,q,p,o⟩:=run _ e;refine⟨.tuple vs.toArray,?_,.tup ds vs p o⟩;rw[q,dif_neg];intro u
  match ds,f,p with
  |[],_,p=>simp at p;subst p;simp at u
  |[x],f,_=>exact f x rfl
  |x::y::r,_,p=>simp at p u;omega
 ·cases z
def Hc.less(h:Hc P B w0 m w g){m':GV}(ta:∀i o d,m' i o=some d->m i o=some d):Hc P B w0 m' w g:=by
 refine⟨h.below,h.size,h.gz,h.old,λi b hi=>?_,h.inj,λi o d a c=>h.kind i o d (ta _ _ _ a) c,λi e hi=>h.tok i e (ta _ _ _ hi),λv i2 n j b y y' u z k x=>h.tinj v i2 n j b y y' (ta _ _ _ u) (ta _ _ _ z) k x,h.itr.to (λi s p e=>ta _ _ _ e) λi b s p _ _ _ n j f=>⟨rfl,rfl,j,f⟩⟩;obtain⟨p,q,vs,T,t,r⟩:=h.obj i b hi;exact⟨p,q,vs,T,t,λo d a=>r o d (ta _ _ _ a)⟩
def Gh.glue(g:Gh)(w:World)(G':Nat->Nat):Gh:={g with G:=λb=>if b<w.heap.size then g.G b else G' b}
def Hk.glue{G':Nat->Nat}(q:∀b,w.heap.size<=b->g.G b=0)(f:Below w.heap.size w w'):Hk w g w' (g.glue w G'):=by
 refine⟨λp z=>?_,λb=>?_,λi b h=>h,rfl,λi x h=>h,f.size,λi _ h=> .inl ⟨i,h⟩,λi x h=> .inl ⟨i,x,h,rfl⟩,λk o s _ _=>(f.block k (Ql.1 s).1).trans s⟩
 ·by_cases v:p.block<w.heap.size
  ·exact f.cell v
  ·simp_all
 ·grind [Gh.glue]
def Hc.glue(h:Hc P B w0 m w g)(f:Below w.heap.size w w'){G':Nat->Nat}(hG:∀b,w'.heap.size<=b->G' b=0):Hc P B w0 m w' (g.glue w G'):=by
 have x:=Hk.glue (G':=G') h.gz f;refine⟨h.below.trans (f.mono h.size),QH h.size f.size,λb a=>?_,λb y=>by simp only[Gh.glue];rw[if_pos (QV y h.size)];exact h.old b y,λi b hi=>?_,h.inj,h.kind,λi e hi=>?_,h.tinj,h.itr.to (λ_ _ _ e=>e) λi b s p _ _ _ u j z=>?_⟩
 rotate_right
 ·have y:b<w.heap.size:=(Ql.1 u).1;exact⟨rfl,f.block b y,by simp[Gh.glue,y,j],z⟩
 ·simp only[Gh.glue];rw[if_neg (by have:=f.size;omega)];exact hG b a
 ·obtain⟨p,q,vs,T,t,r⟩:=h.obj i b hi;have y:=h.lt hi;refine⟨p,by simp[Gh.glue,y,q],vs,T,(f.block b y).trans t,λo d hm=>?_⟩;obtain⟨v,k,r2,r3⟩:=r o d hm;exact⟨v,k,r2,r3.ext x⟩
 ·obtain⟨b,n,c,sz,cur,t1,t2,t3,t4,t5,t6,t7,t8,t9,za⟩:=h.tok i e hi;have y:b<w.heap.size:=(Ql.1 t5).1;exact⟨b,n,c,sz,cur,t1,t2,t3,t4,(f.block b y).trans t5,t6,t7,t8,by simp[Gh.glue,y,t9],za⟩
end
structure Fn (P:Program) (f:FuncId) (N:Nat) (dc:DC) (rs:List RV):Prop where
 is:∃fn code,P.funcs[f]?=some fn∧fn.body=some code∧(fn.name== "runtime.NumGoroutine")=false∧fn.ntmps=N∧AA P N code=some dc∧LI P fn.results.toList=some rs
def Bz(ds:List D):Nat->D:=λt=>ds.getD t .junk
def Ac(F:List D->Option D):HA where
 rd:=λ_ _=>[]
 ex:=λds _ _=>if(ds.map D.un).all D.calm=true then(F (ds.map D.un)).map λr=>(r,[])else none
def DV(rs:List RV)(R:D->GV->Prop)(e:Ex)(z:St):Prop:=(e= .normal∨e= .ret)∧∃d,B6 rs z.s z.m=some d∧R d z.m
section
variable{P:Program}{S:GR}{f:FuncId}{N:Nat}{dc:DC}{rs:List RV}
def Gp{B:Nat}{w0 w:World}{g:Gh}{ns:Id}{m:GV}{ds:List D}{vs:List Value}(hS:GR.ok P S)(hf:Fn P f N dc rs)(hN:ds.length<=N)(hi:Hc P B w0 m w g)
  (r:∀k i,(k::ns)<:+i->B2 m g i) (hl:vs.length=ds.length) (fa:∀(j:Nat) d v,ds[j]?=some d->vs[j]?=some v->Rep w g d v) {R:D->GV->Prop}
  (bb:dc.wp S ns (DV rs R) ⟨Bz ds,m,0⟩):
  Calls P f vs.toArray w λe w'=>∃v d m' c,e= .returned v∧Hc P B w0 m' w' c∧Hk w g w' c∧DS ns m g m' c∧Rep w' c d v∧R d m':=by
 obtain⟨fn,y,u,q,h3,h4,b,h6⟩:=hf.is;obtain⟨e,o,x,n,d,z,a⟩:=bb;refine calls_of_wp u q ?_;rw[h4];have la:Cm P B w0 N ns ⟨Bz ds,m,0⟩ {tmps:=vs.toArray++Zf (N-vs.toArray.size) undef,defers:=[]} w g:=by
  refine⟨hi,λt=>?_,Xc,rfl,λk i _ hs=>r k i hs⟩;simp only[Bz];by_cases ht:t<ds.length
  ·have e1:ds.getD t .junk=ds[t]:=by simp[Q6,ht]
   have e2:(vs.toArray++Zf (N-vs.toArray.size) undef).getD t undef=vs[t]' O:=by
    rw[Qo,QP Xc];simp[hl,ht]
   rw[e1,e2];exact fa t _ _ (Qj ht) (Qj _)
  ·have e1:ds.getD t .junk= .junk:=by simp[Q6,Qr (Nat.le_of_not_lt ht)]
   rw[e1];exact .junk _
 refine wp_mono (aDx hS y dc b _ e o x _ w g la) ?_;rintro e' a' w' ⟨rfl,c,hh,p,s⟩;obtain⟨v,va,za⟩:=OJ hh.inv hh.slots h6 z;have hb:a'.defers=[]∧∃v,(results fn a'.tmps).run P w'= .ok v w'∧∃v' d m' c,Ending.returned v= .returned v'∧Hc P B w0 m' w' c∧Hk w g w' c∧DS ns m g m' c∧Rep w' c d v'∧R d m':=
  ⟨hh.defers,v,va,v,d,o.m,c,rfl,hh.inv,p,s,za,a⟩
 rcases n with rfl|rfl
 ·exact hb
 ·exact hb
def AB(hS:GR.ok P S)(hf:Fn P f N dc rs){F:List D->Option D}(hN:∀ds r,F ds=some r->ds.length<=N)
  (hF:∀ds r,F ds=some r->dc.wp S [] (DV rs λd _=>d.unR=r∧r.calmR=true) ⟨Bz ds,λ_ _=>none,0⟩):(Ac F).ok P f:=by
 obtain⟨fn,n,y,q,h3,h4,h5,h6⟩:=hf.is;refine⟨⟨fn,y,XL,h3⟩,λds m m' fr _=>rfl,?_⟩;intro B w0 w m g fr ds vs r u hi t hl fa z;simp only[Ac]at z;split at z
 ·rename_i ma;rw[Qi]at z;obtain⟨r',hr,z⟩:=z;simp only[Qk]at z;obtain⟨rfl,rfl⟩:=z
  let g0:Gh:={G:=g.G,G0:=g.G,dl:=λ_=>none,tb:=λ_=>none}
  have ua:Hc P w.heap.size w (λ_ _=>none) w g0:=
   ⟨Below.refl _ _,Qp _,hi.gz,λ_ _=>rfl,λi b h=>by simp[g0]at h,λi i' b h=>by simp[g0]at h,λi o d h=>Xf,λi e h=>Xf,λi i' e e' b x x' h=>Xf,λi s p h=>Xf,λi i' s p s' p' b x x' h=>Xf⟩
  have na:∀(j:Nat) d v,(ds.map D.un)[j]?=some d->vs[j]?=some v->Rep w g0 d v:=by
   intro j d v hd hv;have hc:=QF.1 ma d (Qx hd);rw[Qq,Qi]at hd;obtain⟨d',qa,rfl⟩:=hd;exact(fa j d' v qa hv).un.calm_to hc (λ_ _=>rfl) (λ_=>Qp _)
  have ka:=Gp (B:=w.heap.size) (w0:=w) (w:=w) (g:=g0) (ns:=[]) (m:=λ_ _=>none) (ds:=ds.map D.un) (vs:=vs) hS hf (hN _ _ hr) ua (λk i _=>⟨λ_=>rfl,rfl,rfl⟩) Xo na (hF _ _ hr);refine ka.mono ?_;rintro e w' ⟨v,d,m',g',rfl,ia,a,_,ab,rfl,sa⟩;have c:∀b,(g.glue w g'.G).G b=g'.G b:=by
   intro b;simp only[Gh.glue];split
   ·rename_i aa;rw[ia.old b aa,a.G0]
   ·rfl
  refine⟨v,g.glue w g'.G,rfl,hi.glue ia.below ia.gz,Hk.glue hi.gz ia.below,?_,λi hf _=>hf⟩;exact ab.unR.calmR_to sa (λ_ _=>rfl) (λb=>by rw[c];exact Qp _)
 ·cases z
def N4(hS:GR.ok P S)(j:Fn P f N dc rs){q:HA}(z:∀ds m m' fr,(∀l∈q.rd ds m,m l.1 l.2=m' l.1 l.2)->q.ex ds m fr=q.ex ds m' fr)
  (hq:∀ds m fr r u,q.ex ds m fr=some (r,u)->(∀k i o,(k::fr)<:+i->m i o=none)->ds.length<=N∧dc.wp S fr (DV rs λd m'=>d=r∧∀i o x,Ha.app m u i o=some x->m' i o=some x) ⟨Bz ds,m,0⟩):q.ok P f:=by
 obtain⟨fn,n,y,h2,h3,h4,b,h6⟩:=j.is;refine⟨⟨fn,y,by rw[h2];rfl,h3⟩,z,?_⟩;intro B w0 w m g fr ds vs r u hi t hl fa p;have na:∀k i,(k::fr)<:+i->B2 m g i:=λk i h=>t i ((ZK k fr).trans h)
 obtain⟨hN,bb⟩:=hq ds m fr r u p (λk i o h=>(na k i h).1 o);have s:=Gp (ns:=fr) hS j hN hi na hl fa bb;refine s.mono ?_;rintro e w' ⟨v,d,m',g',rfl,ia,a,qa,ab,rfl,ta⟩;refine⟨v,g',rfl,ia.less ta,a,ab,λi j c=>?_⟩;obtain⟨k1,k2,k3⟩:=qa i j c;refine⟨λo=>?_,k2,k3⟩;cases hx:Ha.app m u i o with
 |none=>rfl
 |some x=>exact absurd (k1 o) (by rw[ta i o x hx];simp)
end
inductive Tag.{u} {α:Sort u} (a:α):Type
 |mk
def Ao(p K:Prop)(_:Tag K):Prop:=p∧K
def Pd(p A B:Prop)(_:Tag (A,B)):Prop:=(p->A)∧(¬p->B)
def Hl{α:Type}(o:Option α)(K:α->Prop)(_:Tag K):Prop:=∃x,o=some x∧K x
def aA{p K:Prop}{t:Tag K}(h:p)(k:K):Ao p K t:=⟨h,k⟩
def aD{p A B:Prop}{t:Tag (A,B)}(h:p->A)(k:¬p->B):Pd p A B t:=⟨h,k⟩
def aI{α:Type}{o:Option α}{K:α->Prop}{t:Tag K}{x:α}(h:o=some x)(k:K x):Hl o K t:=⟨x,h,k⟩
def UM{K:Prop}{t:Tag K}:Ao True K t=K:=by simp[Ao]
def aDc{A B:Prop}{t:Tag (A,B)}:Pd True A B t=A:=by simp[Pd]
def xI{A B:Prop}{t:Tag (A,B)}:Pd False A B t=B:=by simp[Pd]
theorem A3{α:Type}{x:α}{K:α->Prop}{t:Tag K}:Hl (some x) K t=K x:=by simp[Hl]
def AX{α:Type}{K:α->Prop}{t:Tag K}:Hl none K t=False:=by simp[Hl]
def CQ{α β:Type}{o:Option α}{f:α->β}{K:β->Prop}{t:Tag K}:Hl (o.map f) K t=Hl o (λx=>K (f x)) .mk:=by
 cases o<;>simp[Hl]
def Es{α:Type}{p:Prop}[Decidable p]{o:Option α}{K:α->Prop}{t:Tag K}:Hl (if p then o else none) K t=Ao p (Hl o K .mk) .mk:=by
 grind [Hl,Ao]
def FK{α:Type}{p:Prop}[Decidable p]{x:α}{K:α->Prop}{t:Tag K}:Hl (if p then some x else none) K t=Ao p (K x) .mk:=by
 grind [Hl,Ao]
def aLl{α:Type}{p:Prop}[Decidable p]{o o':Option α}{K:α->Prop}{t:Tag K}:Hl (if p then o else o') K t=Pd p (Hl o K .mk) (Hl o' K .mk) .mk:=by
 grind [Hl,Pd]
def L5:D->Bool->(A B:Prop)->Tag (A,B)->Prop
 | .bool b',b,A,B,_=>Pd (b'=b) A B .mk
 | .tup [],_,_,B,_=>B
 |_,_,_,_,_=>False
def Sh{d:D}{b:Bool}{A B:Prop}{t:Tag (A,B)}(h:L5 d b A B t):(∃r,d= .bool r∧Pd (r=b) A B .mk)∨(d= .tup []∧B):=by
 cases d with
 |bool r=>exact .inl ⟨r,rfl,h⟩
 |tup l=>cases l with
  |nil=>exact .inr ⟨rfl,h⟩
  |cons _ _=>exact h.elim
 |_=>exact h.elim
def kX{b:Bool}{A B:Prop}{t:Tag (A,B)}:L5 (.tup []) b A B t=B:=rfl
def IL{r b:Bool}{A B:Prop}{t:Tag (A,B)}:L5 (.bool r) b A B t=Pd (r=b) A B .mk:=rfl
def DI(ops:List DOper)(j:Nat):Option Nat:=(ops[j]?).bind (·.dst)
def GL(s:Nat->D):Option Nat->D
 |some t=>s t
 |none=> .junk
def CX(s:Nat->D)(t:Nat):GL s (some t)=s t:=rfl
def AF(S:GR)(s:Nat->D)(m:GV)(fr:Id)(op:DOp)(K:D->Ha->Prop):Prop:=Hl (exec S s m fr op) (λx=>K x.1 x.2) .mk
def F_(S:GR)(ns:Id)(c:Nat)(ops:List DOper):List DOper->Nat->(Nat->D)->GV->(Nat->(Nat->D)->GV->Prop)->Prop
 |[],k,s,m,K=>K k s m
 |⟨dst,op,_,none⟩::l,k,s,m,K=>AF S s m ((c+k)::ns) op λd u=>F_ S ns c ops l (k+1) (AG s dst d) (Ha.app m u) K
 |⟨dst,op,_,some (j,b)⟩::l,k,s,m,K=>L5 (GL s (DI ops j)) b
   (AF S s m ((c+k)::ns) op λd u=>F_ S ns c ops l (k+1) (AG s dst d) (Ha.app m u) K)
   (F_ S ns c ops l (k+1) (AG s dst (.tup [])) m K) .mk
section
variable{S:GR}{ns:Id}
def ES{c:Nat}{ops:List DOper}{K:Nat->(Nat->D)->GV->Prop}:∀(l:List DOper)(k:Nat)(s:Nat->D)(m:GV),F_ S ns c ops l k s m K->∃z m',Ek S ns c ops l k s m=some (z,m')∧K (k+l.length) z m'
 |[],k,s,m,h=>⟨s,m,rfl,h⟩
 |⟨dst,op,af,none⟩::l,k,s,m,h=>by
  simp only[F_,AF,Hl]at h;obtain⟨⟨d,u⟩,n,h⟩:=h;obtain⟨z,m',y,q⟩:=ES l _ _ _ h;refine⟨z,m',?_,Xu⟩;simp only[Ek,BQ,Bm,n];exact y
 |⟨dst,op,af,some (j,b)⟩::l,k,s,m,h=>by
  simp only[F_]at h;rcases Sh h with ⟨r,e,h⟩|⟨e,h⟩
  rotate_left
  ·have a:Bm ops s ⟨dst,op,af,some (j,b)⟩=some false:=by
    unfold Bm;simp only;unfold DI at e;cases ho:(ops[j]?).bind (·.dst)with
    |none=>rw[ho]at e;simp[GL]at e
    |some t=>rw[ho,CX]at e;simp only[e]
   obtain⟨z,m',y,q⟩:=ES l _ _ _ h;refine⟨z,m',?_,Xu⟩;simp only[Ek,BQ,a];exact y
  ·have a:Bm ops s ⟨dst,op,af,some (j,b)⟩=some (r==b):=by
    unfold Bm;simp only;unfold DI at e;cases ho:(ops[j]?).bind (·.dst)with
    |none=>rw[ho]at e;simp[GL]at e
    |some t=>rw[ho,CX]at e;simp only[e]
   by_cases f:r=b
   ·have h:=h.1 f;simp only[AF,Hl]at h;obtain⟨⟨d,u⟩,n,h⟩:=h;obtain⟨z,m',y,q⟩:=ES l _ _ _ h;refine⟨z,m',?_,Xu⟩;simp only[Ek,BQ,a,f,n,beq_self_eq_true];exact y
   ·have h:=h.2 f;obtain⟨z,m',y,q⟩:=ES l _ _ _ h;refine⟨z,m',?_,Xu⟩;have:(r==b)=false:=by simpa using f
    simp only[Ek,BQ,a,this];exact y
def Df{c:Nat}{ops:List DOper}{K:Nat->(Nat->D)->GV->Prop}:∀(l:List DOper)(k:Nat)(s:Nat->D)(m:GV)(z:Nat->D)(m':GV),Ek S ns c ops l k s m=some (z,m')->K (k+l.length) z m'->F_ S ns c ops l k s m K
 |[],k,s,m,z,m',h,hk=>by
  simp only[Ek,Qh,Qk]at h;obtain⟨rfl,rfl⟩:=h;exact hk
 |⟨dst,op,af,none⟩::l,k,s,m,z,m',h,hk=>by
  rw[Qz,show k+(l.length+1)=k+1+l.length by omega]at hk;simp only[Ek,BQ,Bm]at h;simp only[F_,AF];cases he:exec S s m ((c+k)::ns) op with
  |none=>rw[he]at h;cases h
  |some x=>rw[he]at h;exact⟨x,rfl,Df l _ _ _ _ _ h hk⟩
 |⟨dst,op,af,some (j,b)⟩::l,k,s,m,z,m',h,hk=>by
  rw[Qz,show k+(l.length+1)=k+1+l.length by omega]at hk;simp only[Ek,BQ,Bm]at h;simp only[F_];unfold DI;cases ho:(ops[j]?).bind (·.dst)with
  |none=>rw[ho]at h;cases h
  |some t=>
   rw[ho]at h;rw[CX];simp only at h;cases hd:s t with
   |bool r=>
    rw[hd]at h;simp only at h;rw[IL];refine⟨λf=>?_,λf=>?_⟩
    ·subst f;simp only[beq_self_eq_true]at h;cases he:exec S s m ((c+k)::ns) op with
     |none=>rw[he]at h;cases h
     |some x=>rw[he]at h;exact⟨x,he,Df l _ _ _ _ _ h hk⟩
    ·have:(r==b)=false:=by simpa using f
     rw[this]at h;exact Df l _ _ _ _ _ h hk
   |tup n=>
    rw[hd]at h;cases n with
    |nil=>exact Df l _ _ _ _ _ h hk
    |cons _ _=>cases h
   |_=>rw[hd]at h;cases h
def Ct(S:GR)(ns:Id)(c:Nat)(ops:List DOper):List DOper->Nat->(Nat->D)->GV->(Nat->(Nat->D)->GV->List Ml->Prop)->Prop
 |[],k,s,m,K=>K k s m []
 |⟨dst,op,_,none⟩::l,k,s,m,K=>AF S s m ((c+k)::ns) op λd u=>Ct S ns c ops l (k+1) (AG s dst d) (Ha.app m u) λr z m' f=>K r z m' ((GZ S s m op,An u)::f)
 |⟨dst,op,_,some (j,b)⟩::l,k,s,m,K=>L5 (GL s (DI ops j)) b
   (AF S s m ((c+k)::ns) op λd u=>Ct S ns c ops l (k+1) (AG s dst d) (Ha.app m u) λr z m' f=>K r z m' ((GZ S s m op,An u)::f))
   (Ct S ns c ops l (k+1) (AG s dst (.tup [])) m λr z m' f=>K r z m' ((GZ S s m op,[])::f)) .mk
def DO{c:Nat}{ops:List DOper}:∀(l:List DOper)(k:Nat)(s:Nat->D)(m:GV)(K:Nat->(Nat->D)->GV->List Ml->Prop),Ct S ns c ops l k s m K->∃z m' f,Cs S ns c ops l k s m=some (z,m',f)∧K (k+l.length) z m' f
 |[],k,s,m,K,h=>⟨s,m,[],rfl,h⟩
 |⟨dst,op,af,none⟩::l,k,s,m,K,h=>by
  simp only[Ct,AF,Hl]at h;obtain⟨⟨d,u⟩,n,h⟩:=h;obtain⟨z,m',f,y,q⟩:=DO l _ _ _ _ h;refine⟨z,m',_,?_,Xu⟩;simp only[Cs,BQ,Bm,n,y]
 |⟨dst,op,af,some (j,b)⟩::l,k,s,m,K,h=>by
  simp only[Ct]at h;rcases Sh h with ⟨r,e,h⟩|⟨e,h⟩
  rotate_left
  ·have a:Bm ops s ⟨dst,op,af,some (j,b)⟩=some false:=by
    unfold Bm;simp only;unfold DI at e;cases ho:(ops[j]?).bind (·.dst)with
    |none=>rw[ho]at e;simp[GL]at e
    |some t=>rw[ho,CX]at e;simp only[e]
   obtain⟨z,m',f,y,q⟩:=DO l _ _ _ _ h;refine⟨z,m',_,?_,Xu⟩;simp only[Cs,BQ,a,Ha.app,y];simp[An]
  ·have a:Bm ops s ⟨dst,op,af,some (j,b)⟩=some (r==b):=by
    unfold Bm;simp only;unfold DI at e;cases ho:(ops[j]?).bind (·.dst)with
    |none=>rw[ho]at e;simp[GL]at e
    |some t=>rw[ho,CX]at e;simp only[e]
   by_cases i:r=b
   ·have h:=h.1 i;simp only[AF,Hl]at h;obtain⟨⟨d,u⟩,n,h⟩:=h;obtain⟨z,m',f,y,q⟩:=DO l _ _ _ _ h;refine⟨z,m',_,?_,Xu⟩;simp only[Cs,BQ,a,i,n,beq_self_eq_true,y]
   ·have h:=h.2 i;obtain⟨z,m',f,y,q⟩:=DO l _ _ _ _ h;refine⟨z,m',_,?_,Xu⟩;have:(r==b)=false:=by simpa using i
    simp only[Cs,BQ,a,this,Ha.app,y];simp[An]
def CI{c:Nat}{ops:List DOper}:∀(l:List DOper)(k:Nat)(s:Nat->D)(m:GV)(K:Nat->(Nat->D)->GV->List Ml->Prop)(z:Nat->D)(m':GV)(f:List Ml),Cs S ns c ops l k s m=some (z,m',f)->K (k+l.length) z m' f->Ct S ns c ops l k s m K
 |[],k,s,m,K,z,m',f,h,hk=>by
  simp only[Cs,Qh,Qk]at h;obtain⟨rfl,rfl,rfl⟩:=h;exact hk
 |⟨dst,op,af,none⟩::l,k,s,m,K,z,m',f,h,hk=>by
  rw[Qz,show k+(l.length+1)=k+1+l.length by omega]at hk;simp only[Cs,BQ,Bm]at h;simp only[Ct,AF];cases he:exec S s m ((c+k)::ns) op with
  |none=>rw[he]at h;cases h
  |some x=>
   rw[he]at h;obtain⟨d,u⟩:=x;simp only at h;split at h
   ·rename_i v a g e;simp only[Qh,Qk]at h;obtain⟨rfl,rfl,rfl⟩:=h;exact⟨_,rfl,CI l _ _ _ _ _ _ _ e hk⟩
   ·cases h
 |⟨dst,op,af,some (j,b)⟩::l,k,s,m,K,z,m',f,h,hk=>by
  rw[Qz,show k+(l.length+1)=k+1+l.length by omega]at hk;simp only[Cs,BQ,Bm]at h;simp only[Ct];unfold DI;cases ho:(ops[j]?).bind (·.dst)with
  |none=>rw[ho]at h;cases h
  |some t=>
   rw[ho]at h;rw[CX];simp only at h;cases hd:s t with
   |bool r=>
    rw[hd]at h;simp only at h;rw[IL];refine⟨λi=>?_,λi=>?_⟩
    ·subst i;simp only[beq_self_eq_true]at h;cases he:exec S s m ((c+k)::ns) op with
     |none=>rw[he]at h;cases h
     |some x=>
      rw[he]at h;obtain⟨d,u⟩:=x;simp only at h;split at h
      ·rename_i v a g e;simp only[Qh,Qk]at h;obtain⟨rfl,rfl,rfl⟩:=h;exact⟨_,he,CI l _ _ _ _ _ _ _ e hk⟩
      ·cases h
    ·have:(r==b)=false:=by simpa using i
     rw[this]at h;simp only[Ha.app]at h;split at h
     ·rename_i v a g e;simp only[Qh,Qk]at h;obtain⟨rfl,rfl,rfl⟩:=h;exact CI l _ _ _ _ _ _ _ e hk
     ·cases h
   |tup n=>
    rw[hd]at h;cases n with
    |nil=>
     simp only[Ha.app]at h;split at h
     ·rename_i v a g e;simp only[Qh,Qk]at h;obtain⟨rfl,rfl,rfl⟩:=h;exact CI l _ _ _ _ _ _ _ e hk
     ·cases h
    |cons _ _=>cases h
   |_=>rw[hd]at h;cases h
def aBd(S:GR)(ns:Id)(b:DC)(Q:Ex->St->Prop):Ex->St->Prop
 | .normal,st=>b.wp S ns Q st
 |e,st=>Q e st
def Ox(i:Nat)(Q:Ex->St->Prop):Ex->St->Prop
 | .exit j,st=>if j=i then Q .normal st else Q (.exit j) st
 |e,st=>Q e st
def rM:D->(A B:Prop)->Tag (A,B)->Prop
 | .bool b,A,B,_=>Pd (b=true) A B .mk
 |_,_,_,_=>False
def Me{b:Bool}{A B:Prop}{t:Tag (A,B)}:rM (.bool b) A B t=Pd (b=true) A B .mk:=rfl
variable{Q:Ex->St->Prop}{st:St}
def W6{b:DC}:aBd S ns b Q .normal st=b.wp S ns Q st:=rfl
def aBc{b:DC}:aBd S ns b Q .ret st=Q .ret st:=rfl
def vL{b:DC}{i:Nat}:aBd S ns b Q (.exit i) st=Q (.exit i) st:=rfl
def Tq{i:Nat}:Ox i Q .normal st=Q .normal st:=rfl
def mG{i:Nat}:Ox i Q .ret st=Q .ret st:=rfl
theorem El{i j:Nat}:Ox i Q (.exit j) st=if j=i then Q .normal st else Q (.exit j) st:=rfl
def aAH:DC.skip.wp S ns Q st=Q .normal st:=by
 apply propext;exact⟨λ⟨e,o,⟨u,q⟩,h⟩=>Yh,λh=>⟨_,_,⟨rfl,rfl⟩,h⟩⟩
def aHO:DC.ret.wp S ns Q st=Q .ret st:=by
 apply propext;exact⟨λ⟨e,o,⟨u,q⟩,h⟩=>Yh,λh=>⟨_,_,⟨rfl,rfl⟩,h⟩⟩
def aAJ{i:Nat}:(DC.exit i).wp S ns Q st=Q (.exit i) st:=by
 apply propext;exact⟨λ⟨e,o,⟨u,q⟩,h⟩=>Yh,λh=>⟨_,_,⟨rfl,rfl⟩,h⟩⟩
def aHM{a b:DC}:(DC.seq a b).wp S ns Q st=a.wp S ns (aBd S ns b Q) st:=by
 apply propext;constructor
 ·rintro⟨e,o,⟨e1,st1,h1,q⟩,h⟩;refine⟨e1,st1,h1,?_⟩;rcases q with ⟨rfl,q⟩|⟨c,rfl,rfl⟩
  ·exact⟨e,o,q,h⟩
  ·cases e with
   |normal=>exact absurd rfl c
   |ret=>exact h
   |exit i=>exact h
 ·rintro⟨e1,st1,h1,h⟩;cases e1 with
  |normal=>obtain⟨e,o,q,h⟩:=h;exact⟨e,o,⟨.normal,st1,h1,.inl ⟨rfl,q⟩⟩,h⟩
  |ret=>exact⟨.ret,st1,⟨.ret,st1,h1,.inr ⟨U,rfl,rfl⟩⟩,h⟩
  |exit i=>exact⟨.exit i,st1,⟨.exit i,st1,h1,.inr ⟨U,rfl,rfl⟩⟩,h⟩
def uO{i:Nat}{a:DC}(h:a.wp S ns (Ox i Q) st):(DC.block i a).wp S ns Q st:=by
 obtain⟨e,o,u,h⟩:=h;cases e with
 |normal=>exact⟨_,o,⟨.normal,u,.inr ⟨U,rfl⟩⟩,h⟩
 |ret=>exact⟨_,o,⟨.ret,u,.inr ⟨U,rfl⟩⟩,h⟩
 |exit j=>
  by_cases w:j=i
  ·rw[El,if_pos w]at h;exact⟨_,o,⟨.exit j,u,.inl ⟨by rw[w],rfl⟩⟩,h⟩
  ·rw[El,if_neg w]at h;exact⟨_,o,⟨.exit j,u,.inr ⟨by simp[w],rfl⟩⟩,h⟩
def aAK{c:GW}{a b:DC}(h:rM (c.ev st.s) (a.wp S ns Q st) (b.wp S ns Q st) .mk):(DC.cond c a b).wp S ns Q st:=by
 unfold rM at h;split at h
 ·rename_i t e;cases t with
  |true=>obtain⟨n,o,u,q⟩:=h.1 rfl;exact⟨n,o,.inl ⟨e,u⟩,q⟩
  |false=>obtain⟨n,o,u,q⟩:=h.2 U;exact⟨n,o,.inr ⟨e,u⟩,q⟩
 ·exact h.elim
def aHN{ops:List DOper}(h:F_ S ns st.c ops ops 0 st.s st.m λk s m=>Q .normal ⟨s,m,st.c+k⟩):(DC.row ops).wp S ns Q st:=by
 obtain⟨z,m',u,q⟩:=ES _ _ _ _ h;rw[QB]at q;exact⟨.normal,_,⟨rfl,u,rfl⟩,q⟩
def uN{ops:List DOper}{ps:List (Nat×Nat)}(h:Ct S ns st.c ops ops 0 st.s st.m λk s m f=>Ao (Ma f ps) (Q .normal ⟨s,m,st.c+k⟩) .mk):(DC.drawn ops ps).wp S ns Q st:=by
 obtain⟨z,m',f,u,q⟩:=DO _ _ _ _ _ h;rw[QB]at q;exact⟨.normal,_,⟨rfl,⟨f,u,q.1⟩,rfl⟩,q.2⟩
def WI{i:Nat}{a:DC}:(DC.block i a).wp S ns Q st=a.wp S ns (Ox i Q) st:=by
 refine propext ⟨?_,uO⟩;rintro⟨e,st',⟨e1,h1,h2⟩,h⟩;refine⟨e1,st',h1,?_⟩;rcases h2 with ⟨rfl,rfl⟩|⟨c,rfl⟩
 ·grind [El]
 ·cases e with
  |normal=>exact h
  |ret=>exact h
  |exit j=>rw[El,if_neg (λx=>c (by rw[x]))];exact h
def iG{c:GW}{a b:DC}:(DC.cond c a b).wp S ns Q st=rM (c.ev st.s) (a.wp S ns Q st) (b.wp S ns Q st) .mk:=by
 refine propext ⟨?_,aAK⟩;rintro⟨e,st',u,h2⟩;rcases u with ⟨y,u⟩|⟨y,u⟩
 ·rw[y,Me];exact ZW (λ_=>⟨e,st',u,h2⟩) (λx=>absurd rfl x)
 ·rw[y,Me];exact ZW (λ(x:false=true)=>absurd x Z) (λ_=>⟨e,st',u,h2⟩)
def uM{ops:List DOper}:(DC.row ops).wp S ns Q st=F_ S ns st.c ops ops 0 st.s st.m λk s m=>Q .normal ⟨s,m,st.c+k⟩:=by
 refine propext ⟨?_,aHN⟩;rintro⟨e,⟨s',m',c'⟩,⟨rfl,h1,h2⟩,h3⟩;refine Df _ _ _ _ _ _ h1 ?_;simp only at h2;rw[QB,←h2];exact h3
def WH{ops:List DOper}{ps:List (Nat×Nat)}:(DC.drawn ops ps).wp S ns Q st=Ct S ns st.c ops ops 0 st.s st.m λk s m f=>Ao (Ma f ps) (Q .normal ⟨s,m,st.c+k⟩) .mk:=by
 refine propext ⟨?_,uN⟩;rintro⟨e,⟨s',m',c'⟩,⟨rfl,⟨f,h1,hf⟩,h2⟩,h3⟩;refine CI _ _ _ _ _ _ _ _ h1 ⟨hf,?_⟩;simp only at h2;rw[QB,←h2];exact h3
def cT(S:GR)(ns:Id)(c:DC)(Q:Ex->St->Prop):Ex->St->Prop
 | .normal,st=>(DC.loop c).wp S ns Q st
 |e,st=>Q e st
def AK(S:GR)(ns:Id)(c:DC)(Q:Ex->St->Prop)(z:St)(_:Tag (S,ns,c,Q,z)):Prop:=(DC.loop c).wp S ns Q z
def iF{c:DC}:(DC.loop c).wp S ns Q st=AK S ns c Q st .mk:=rfl
def VC{c:DC}:cT S ns c Q .normal st=(DC.loop c).wp S ns Q st:=rfl
def wP{c:DC}:cT S ns c Q .ret st=Q .ret st:=rfl
def kE{c:DC}{i:Nat}:cT S ns c Q (.exit i) st=Q (.exit i) st:=rfl
def aAI{c:DC}(h:c.wp S ns (cT S ns c Q) st):(DC.loop c).wp S ns Q st:=by
 obtain⟨e,o,u,h⟩:=h;cases e with
 |normal=>obtain⟨m,x,⟨n,q⟩,h⟩:=h;exact⟨m,x,⟨n+1,.more n _ _ _ _ u q⟩,h⟩
 |ret=>exact⟨.ret,o,⟨0,.stop _ _ _ u U⟩,h⟩
 |exit i=>exact⟨.exit i,o,⟨0,.stop _ _ _ u U⟩,h⟩
def Ri{b:DC}{n:Ex->St->Prop}(h:b.wp S ns Q st)(z:∀e o,Q e o->n e o):b.wp S ns n st:=by
 obtain⟨e,o,u,q⟩:=h;exact⟨e,o,u,z _ _ q⟩
end
def vI{s:Nat->D}{t n:Nat}{d:D}:AG s (some t) d n=if n=t then d else s n:=rfl
def vJ{s:Nat->D}{d:D}:AG s none d=s:=rfl
def bE{s:Nat->D}{n:Nat}:(GW.t n).ev s=s n:=rfl
def bF{s:Nat->D}{d:D}:(GW.c d).ev s=d:=rfl
end Go.Vd
end
