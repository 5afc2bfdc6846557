/- A part of the proof; nothing in it is assumed. -/
import Derived.Below
import Derived.Maps.AppendAt
import Derived.Laws.Concat
import Derived.Laws.Unary
import Derived.Laws.StructEq
import Derived.Laws.Runes
import Derived.Laws.AppendOwnNone
import Derived.Lib.ConvBytes
import Derived.Lib.AppendStr
import Derived.Laws.IdiomStrings

set_option linter.unusedSimpArgs false
set_option linter.unusedVariables false
set_option linter.defProp false
set_option maxHeartbeats 4000000
set_option maxRecDepth 100000
open Option.some renaming injEq→Qn,inj→QW
open Option renaming map_eq_some_iff→Qo,getD_some→QR,map_some→Q9,isSome_iff_exists→Zr,bind_eq_some_iff→Zv,bind_some→ZR,map_none→ZT
open List renaming getElem?_eq_getElem→Qp,getElem?_eq_some_iff→Qr,mem_append→Qt,getElem?_map→Qv,getElem?_eq_none→Qw,mem_range→Qy,getElem?_append_left→Qz,mem_cons_self→QA,length_cons→QB,getElem?_take_of_lt→QC,mem_cons_of_mem→QD,map_cons→QE,range→QF,mem_map→QH,getElem?_drop→QI,mem_of_mem_drop→QJ,all_eq_true→QK,mem_of_getElem?→QL,replicate→QM,mem_of_mem_take→QO,getElem?_cons_zero→QQ,getElem?_append_right→QS,getElem?_toArray→QV,append_assoc→QX,eq_nil_of_length_eq_zero→QZ,range_eq_range'→Q2,extract_eq_take_drop→Q6,map_congr_left→Q8,length_map→Za,mem_singleton→Zb,getD→Zc,getElem_mem→Zd,cons_append→Ze,range'_succ→Zf,mem_flatMap→Zh,filter_cons→Zi,extract_toArray→Zj,foldl_cons→Zk,getElem_of_mem→Zm,flatMap_cons→Zp,length_take→Zs,getElem?_cons_succ→Zt,map_nil→Zx,nil_append→Zy,mem_filter→Zz,contains_iff_mem→ZA,drop_drop→ZB,range'→ZC,getElem?_range→ZD,length_take_le→ZE,getElem?_take→ZG,length_append→ZH,size_toArray→ZL,ext_getElem?→ZM,map_toArray→ZO,suffix_cons→ZQ,length→ZY,foldlM→Z_
open Prod.mk renaming injEq→Qq
open Array renaming getElem?_eq_some_iff→Qs,getD_eq_getD_getElem?→Qu,toArray_toList→QP,getElem?_append_left→QU,toList_map→QY,length_toList→Q7,toList_inj→Zg,replicate→Zl,mapM_eq_mapM_toList→Zo,size_append→ZK,all_eq_true→ZN,range→ZZ
open Nat renaming le_refl→Qx,zero_add→QG,mul_le_mul_right→QN,lt_of_lt_of_le→Q_,add_mul→Q1,le_trans→Q4,add_right_cancel_iff→Zq,add_zero→Zw,lt_or_ge→ZI,succ_mul→ZJ,le_add_right→ZP,zero_le→ZS,strongRecOn→ZV,mod_lt→ZW,mul_comm→ZX
open Bool renaming false_eq_true→QT,or_eq_true→Q0,or_eq_false_iff→Q3,and_eq_true→Q5,not_false→Zn,not_true→ZF
open Int renaming eq_ofNat_of_zero_le→Zu
open List.cons renaming injEq→ZU
open And renaming intro→Z0
noncomputable section
namespace Go
def O{P:Prop}(h:P:=by omega):P:=h
def U{P:Prop}(h:P:=by simp):P:=h
def Z{P:Prop}(h:P:=by decide):P:=h
def Xa{P:Prop}(h:P:=by kernel_rfl):P:=h
def Xb{P:Prop}(h:P:=by first|omega|(simp only;omega)):P:=h
def Xc{P:Prop}(h:P:=by simp;omega):P:=h
def Xd{P:Prop}(h:P:=by cases h):P:=h
def Xe{P:Prop}(h:P:=by simp at h):P:=h
def Xf{P:Prop}(h:P:=by first|(simp;done)|(simp;omega)):P:=h
def Xg{P:Prop}(h:P:=by rw[List.length_take];omega):P:=h
def Xh{P:Prop}(h:P:=by simp[Ig.put]):P:=h
def Xi{P:Prop}(h:P:=by simp[Gh.tok]):P:=h
def Xj{P:Prop}(h:P:=by simp[AJ]):P:=h
def Xk{P:Prop}(h:P:=by unfold maxLen;omega):P:=h
def Xl{P:Prop}(h:P:=by simpa using h):P:=h
def Xm{P:Prop}(h:P:=by cases g):P:=h
def Xn{P:Prop}(h:P:=by rw[Iz (by omega) (by omega)];omega):P:=h
def Xo{P:Prop}(h:P:=by rw[As];omega):P:=h
def Xp{P:Prop}(h:P:=by decide+kernel):P:=h
def Xq{P:Prop}(h:P:=by cases l<;>rfl):P:=h
def Xr{P:Prop}(h:P:=by simpa using w):P:=h
def Xs{P:Prop}(h:P:=by simp[Op.equalIn,run_underlying m]):P:=h
def Xt{P:Prop}(h:P:=by rw[List.length_drop];omega):P:=h
def Xu{P:Prop}(h:P:=by intro h;cases h):P:=h
def Xv{P:Prop}(h:P:=by first|rfl|simp):P:=h
def Xw{P:Prop}(h:P:=by first|exact hG.grow|exact hG.put.grow|exact hG.put.put.grow|exact hG.put.put.put.grow|exact hG.put.put.put.put.grow|exact hG.put.put.put.put.put.grow):P:=h
def Xx{P:Prop}(h:P:=by simpa using u):P:=h
def Xy{P:Prop}(h:P:=by simpa using o):P:=h
def Xz{P:Prop}(h:P:=by simp[p]):P:=h
def XA{P:Prop}(h:P:=by cases h;rfl):P:=h
def XB{P:Prop}(h:P:=by simpa using x):P:=h
def XC{P:Prop}(h:P:=by simpa using hl):P:=h
def XD{P:Prop}(h:P:=by simp[sc0]):P:=h
def XE{P:Prop}(h:P:=by simp[World.cell?,G0]):P:=h
def XF{P:Prop}(h:P:=by simp<;>omega):P:=h
def XG{P:Prop}(h:P:=by simp only[↓C2,reduceIte,Nat.reduceEqDiff,o]):P:=h
def XH{P:Prop}(h:P:=by simp only[Option.some.injEq]at h;subst h;exact⟨rfl,by simp⟩):P:=h
def XI{P:Prop}(h:P:=by simp only[List.length_append,List.length_cons,List.length_nil];omega):P:=h
def XJ{P:Prop}(h:P:=by rw[←u]):P:=h
def XK{P:Prop}(h:P:=by rw[←hA,e1];simp):P:=h
def XL{P:Prop}(h:P:=by rw[t];rfl):P:=h
def XM{P:Prop}(h:P:=by rw[Bj,Au];exact⟨rfl,w⟩):P:=h
def XN{P:Prop}(h:P:=by cases p):P:=h
def XO{P:Prop}(h:P:=by unfold IH at h;rw[m]at h;exact h):P:=h
def XP{P:Prop}(h:P:=by simpa using z):P:=h
def XQ{P:Prop}(h:P:=by simpa using l):P:=h
def XR{P:Prop}(h:P:=by simpa using hj):P:=h
def XS{P:Prop}(h:P:=by simpa using g):P:=h
def XT{P:Prop}(h:P:=by simpa using b):P:=h
def XU{P:Prop}(h:P:=by simp[flat]):P:=h
def XV{P:Prop}(h:P:=by simp only[List.length_cons,List.length_nil];omega):P:=h
def XW{P:Prop}(h:P:=by rw[show(wr.alloc _).heap.size=wr.heap.size+1 from Array.size_push _];omega):P:=h
def XX{P:Prop}(h:P:=by rw[AQ];omega):P:=h
def XY{P:Prop}(h:P:=by assumption):P:=h
def XZ{P:Prop}(h:P:=by unfold MD at h;simp only at h;split at h;assumption;cases h):P:=h
def X0{P:Prop}(h:P:=by simpa using y):P:=h
def X1{P:Prop}(h:P:=by simpa using d):P:=h
def X2{P:Prop}(h:P:=by simp[spJ,Lib.join,List.intercalate]):P:=h
def X3{P:Prop}(h:P:=by simp[World.frozen?,G0]):P:=h
def X6{P:Prop}(h:P:=by simp[ByteArray.size]):P:=h
def X7{P:Prop}(h:P:=by simp only[AP,AG];rw[Dl]):P:=h
def X8{P:Prop}(h:P:=by show _=_;rw[←HI.out,d.out]):P:=h
def X_{P:Prop}(h:P:=by rw[←hB,e2]):P:=h
def Ya{P:Prop}(h:P:=by rw[show l.length=j by omega];exact I):P:=h
def Yb{P:Prop}(h:P:=by rw[List.length_take,List.length_drop];omega):P:=h
def Yc{P:Prop}(h:P:=by rw[List.length_cons,show k+(l.length+1)=k+1+l.length by omega];exact h2):P:=h
def Yd{P:Prop}(h:P:=by rw[List.length_cons,show k+(l.length+1)=k+1+l.length by omega];exact f):P:=h
def Ye{P:Prop}(h:P:=by rw[List.all_eq_true];intro x p;obtain⟨y,_,rfl⟩:=List.mem_map.1 p;rfl):P:=h
def Yf{P:Prop}(h:P:=by rw[By];exact j):P:=h
def Yg{P:Prop}(h:P:=by rw[BS];omega):P:=h
def Yh{P:Prop}(h:P:=by rw[AH];exact w):P:=h
def Yi{P:Prop}(h:P:=by funext j;simp[below]):P:=h
def Yj{P:Prop}(h:P:=by first|exact hG.more (by simp only;omega)|exact hG.put.more (by simp only;omega)|exact hG.put.put.more (by simp only;omega)|exact hG.put.put.put.more (by simp only;omega)|exact hG.put.put.put.put.more (by simp only;omega)|exact hG.put.put.put.put.put.more (by simp only;omega)):P:=h
def Yk{P:Prop}(h:P:=by subst u q;exact h):P:=h
def Yl{P:Prop}(h:P:=by simp[execOp,hop,e1]):P:=h
def Ym{P:Prop}(h:P:=by simp[World.setRow]):P:=h
def Yn{P:Prop}(h:P:=by simp[World.cell?,G6]):P:=h
def Yo{P:Prop}(h:P:=by simp[World.cell?,F0]):P:=h
def Yp{P:Prop}(h:P:=by simp[Value.oneCell']):P:=h
def Yq{P:Prop}(h:P:=by simp[Builtin.lenOf]):P:=h
def Yr{P:Prop}(h:P:=by simp only[];rw[Gv,if_pos ⟨rfl,rfl⟩]):P:=h
def Ys{P:Prop}(h:P:=by show o.ops.length<=_;rw[r.ops];simp):P:=h
def Yt{P:Prop}(h:P:=by show _=_;rw[←HI.out,d.out];simp):P:=h
def Yu{P:Prop}(h:P:=by rw[pa];exact h.size):P:=h
def Yv{P:Prop}(h:P:=by rw[pa];exact h.below.size):P:=h
def Yw{P:Prop}(h:P:=by rw[hm,aA (by simp<;>omega)]<;>exact hM _ _ _ rfl):P:=h
def Yx{P:Prop}(h:P:=by rw[e];exact List.suffix_refl _):P:=h
def Yy{P:Prop}(h:P:=by rw[e];exact List.suffix_cons _ _):P:=h
def Yz{P:Prop}(h:P:=by rw[T6.row.1];omega):P:=h
def YA{P:Prop}(h:P:=by rw[T5.row.1];omega):P:=h
def YB{P:Prop}(h:P:=by rw[PY];unfold Di;rw[List.length_map];omega):P:=h
def YC{P:Prop}(h:P:=by rw[List.take_add_one,w];rfl):P:=h
def YD{P:Prop}(h:P:=by rw[List.length_take];simp;omega):P:=h
def YE{P:Prop}(h:P:=by rw[List.length_map];omega):P:=h
def YF{P:Prop}(h:P:=by rw[List.length_map];intro i hi;exact x i (by omega)):P:=h
def YG{P:Prop}(h:P:=by rw[List.isEmpty_iff]at h;rw[h];rfl):P:=h
def YH{P:Prop}(h:P:=by rw[IntWalk.i64_in _ ⟨by omega,by omega⟩];simp):P:=h
def YI{P:Prop}(h:P:=by rw[IntWalk.i64_in _ ⟨by omega,by omega⟩];omega):P:=h
def YJ{P:Prop}(h:P:=by rw[FP k];exact hx):P:=h
def YK{P:Prop}(h:P:=by rw[Bool.eq_iff_iff];simp;omega):P:=h
def YL{P:Prop}(h:P:=by rw[Aj,List.map_map];exact List.map_congr_left λ_ _=>rfl):P:=h
def YM{P:Prop}(h:P:=by have:=q.op0;exact Iz (by omega) (by omega)):P:=h
def YN{P:Prop}(h:P:=by have:=h.size;simp;omega):P:=h
def YO{P:Prop}(h:P:=by have:=h.1;have:=h.2;omega):P:=h
def YP{P:Prop}(h:P:=by first|trivial|rfl):P:=h
def YQ{P:Prop}(h:P:=by simp[List.map_map,Function.comp_def]):P:=h
def YR{P:Prop}(h:P:=by simp[IntKind.wrap,IntKind.bits,IntKind.signed]):P:=h
def YS{P:Prop}(h:P:=by simp only[List.length_singleton];omega):P:=h
def YT{P:Prop}(h:P:=by simp only[List.length_append,BS,Mu];omega):P:=h
def YU{P:Prop}(h:P:=by simp only[List.length_append,BS,Lo];omega):P:=h
def YV{P:Prop}(h:P:=by simp only[List.cons.injEq,D.int.injEq,true_and,and_true]at h;omega):P:=h
def YW{P:Prop}(h:P:=by simp only[Am,List.length_take];omega):P:=h
def YX{P:Prop}(h:P:=by simp only[Am,List.length_take,List.length_drop,List.length_append,List.length_cons,List.length_nil];omega):P:=h
def YY{P:Prop}(h:P:=by show _≤((w3.alloc _).alloc _).heap.size;rw[wa];omega):P:=h
def YZ{P:Prop}(h:P:=by show _=_;rw[←Hys.out,HO.out];rfl):P:=h
def Y0{P:Prop}(h:P:=by rw[na,List.foldl_append,←hr];rfl):P:=h
def Y1{P:Prop}(h:P:=by rw[na,List.foldl_append,←ha];rfl):P:=h
def Y2{P:Prop}(h:P:=by rw[ka];exact hG.put.put.more (by simp only;omega)):P:=h
def Y3{P:Prop}(h:P:=by rw[b _ (by omega)];exact ca i (by omega) (by omega)):P:=h
def Y4{P:Prop}(h:P:=by rw[b _ (by omega)];exact c i (by omega) (by omega)):P:=h
def Y5{P:Prop}(h:P:=by rw[List.length_drop];exact Nat.le_refl _):P:=h
def Y6{P:Prop}(h:P:=by rw[List.eq_of_mem_replicate hd];exact f):P:=h
def Y7{P:Prop}(h:P:=by rw[Int.tmod_eq_emod_of_nonneg (by omega)];omega):P:=h
def Y8{P:Prop}(h:P:=by rw[EO,H7];have:=h7 (by omega);omega):P:=h
def Y_{P:Prop}(h:P:=by rcases z with ⟨_,k',rfl⟩|⟨_,rfl⟩|⟨_,rfl⟩<;>rfl):P:=h
def Or{P:Prop}(h:P:=by obtain⟨z,_,rfl⟩:=List.mem_map.1 p;rfl):P:=h
def Qa{P:Prop}(h:P:=by have:=HQ.out.row.1;rw[Hj]at this;omega):P:=h
def Qb{P:Prop}(h:P:=by have:=B6 (n / 10);have:=B6 (n % 10);omega):P:=h
def Qc{P:Prop}(h:P:=by have:=(six[k]?.getD 0).toNat_lt;omega):P:=h
def Qd{P:Prop}(h:P:=by first|exact(hG.put.put.row (by omega) ht).grow|exact((hG.put.put.row (by omega) ht).put).grow):P:=h
def Qe{P:Prop}(h:P:=by first|exact(hG.put.put.row (by omega) ht).app (by omega) (by simp only;omega)|exact((hG.put.put.row (by omega) ht).put).app (by omega) (by simp only;omega)):P:=h
def Qf{P:Prop}(h:P:=by first|exact y.grow|exact y.put.grow|exact y.put.put.grow|exact y.put.put.put.grow|exact y.put.put.put.put.grow|exact y.put.put.put.put.put.grow):P:=h
def Qg{P:Prop}(h:P:=by first|exact hG.app (by omega) (by simp only;omega)|exact hG.put.app (by omega) (by simp only;omega)|exact hG.put.put.app (by omega) (by simp only;omega)|exact hG.put.put.put.app (by omega) (by simp only;omega)|exact hG.put.put.put.put.app (by omega) (by simp only;omega)|exact hG.put.put.put.put.put.app (by omega) (by simp only;omega)):P:=h
def Qh{P:Prop}(h:P:=by cases y<;>exact⟨_,_,_,_,_,_,_,_,_,_,rfl⟩):P:=h
def Qi{P:Prop}(h:P:=by first|rfl|exact⟨rfl,rfl⟩|simp[*]):P:=h
def Qj{P:Prop}(h:P:=by first|rfl|exact⟨rfl,rfl⟩):P:=h
def Qk{P:Prop}(h:P:=by first|exact(Hb.set ((hR.other (by first|(simp;done)|(simp;omega))).other (by first|(simp;done)|(simp;omega)))).grow (by first|(simp;done)|(simp;omega)) (λh e=>ht h e.symm)|exact((Hb.set ((hR.other (by first|(simp;done)|(simp;omega))).other (by first|(simp;done)|(simp;omega)))).other (by first|(simp;done)|(simp;omega))).grow (by first|(simp;done)|(simp;omega)) (λh e=>ht h e.symm)):P:=h
def Ql{P:Prop}(h:P:=by first|(simp at h;done)|(rw[Option.map_eq_some_iff]at h;obtain⟨_,_,h⟩:=h;cases h)):P:=h
def Qm{P:Prop}(h:P:=by exact⟨rfl,rfl⟩):P:=h
end Go
namespace Go.Vd
open Go.RowKit
abbrev Id:=List Nat
inductive D where
 |junk
 |bool (b:Bool)
 |int (k:IntKind) (n:Int)
 |str (s:List UInt8)
 |slice (nl:Bool) (t:Id) (xs:List D)
 |ptr (i:Id) (o:Nat)
 |eptr (ds:List D)
 |row (i:Id) (n:Nat)
 |nilptr
 |agg (cs:List D)
 |tup (vs:List D)
 |iface (t:TypeId) (d:D)
 |nilIface
 |fn (f:FuncId) (caps:List D)
 |nilFunc
 |nilMap
 |tok (e:Nat)
 |it (s:List UInt8) (p:Nat)
 |itp (i:Id)
instance:Inhabited D:=⟨.junk⟩
def D.leaf:D->Bool
 | .agg _| .tup _| .junk| .tok _| .it _ _=>false
 |_=>true
def D.gh:D->Bool
 | .tok _| .it _ _=>true
 |_=>false
def D.isRw:D->Bool
 | .nilIface| .str []=>true
 |_=>false
def D.cells:D->List D
 | .agg cs=>cs
 |d=>[d]
def D.un1:D->D
 | .slice nl _ xs=> .slice nl [] xs
 |d=>d
def D.un:D->D
 | .agg cs=> .agg (cs.map D.un1)
 | .slice nl _ xs=> .slice nl [] xs
 |d=>d
def D.calm1:D->Bool
 | .slice _ t _=>t.isEmpty
 | .ptr _ _| .eptr _| .row _ _| .itp _| .it _ _=>false
 | .fn _ cs=>cs.isEmpty
 | .agg _| .tup _=>false
 |_=>true
def D.calm:D->Bool
 | .agg cs=>cs.all D.calm1
 |d=>d.calm1
def flat:List D->List D
 |[]=>[]
 |x::xs=>x.cells++flat xs
structure Gh where
 G:Nat->Nat
 G0:Nat->Nat
 dl:Id->Option Nat
 tb:Id->Option (Nat×Nat×Nat×Nat)
inductive Im (w:World) (g:Gh):D->Value->Prop
 |junk (v:Value):Im w g .junk v
 |bool (b:Bool):Im w g (.bool b) (.bool b)
 |int (k:IntKind) (n:Int):Im w g (.int k n) (.int k n)
 |str (s:List UInt8):Im w g (.str s) (.string ⟨s.toArray⟩)
 |nils (t:Id):Im w g (.slice true t []) (.slice none 0 0)
 |slice (t:Id) (xs:List D) (a:Addr) (n c sz:Nat) (vv:Nat->Value):
   n=xs.length->n<=c->(∀d∈xs,d.cells.length=sz)->
   (∀j,j<n*sz->w.cell? (a.add j)=some (vv j))->
   (∀j,j<n*sz->(vv j).oneCell'=true)->
   (∀(j:Nat) d,(flat xs)[j]?=some d->Im w g d (vv j))->
   (0<n*sz->a.off+n*sz<=g.G a.block)->
   (t≠[]->a.off=0∧a.spot=none∧g.tb t=some (a.block,n,c,sz))->(∀d∈xs,d.calm=true)->
   Im w g (.slice false t xs) (.slice (some a) n c)
 |ptr (i:Id) (o b:Nat):g.dl i=some b->Im w g (.ptr i o) (.pointer (some ⟨b,o,none⟩))
 |row (i:Id) (n c b:Nat):n<=c->g.dl i=some b->Im w g (.row i n) (.slice (some ⟨b,0,none⟩) n c)
 |eptr (ds:List D) (a:Addr) (vv:Nat->Value):
   (∀j,j<ds.length->w.cell? (a.add j)=some (vv j))->
   (∀j,j<ds.length->(vv j).oneCell'=true)->
   (∀(j:Nat) d,ds[j]?=some d->Im w g d (vv j))->
   (0<ds.length->a.off+ds.length<=g.G a.block)->(∀d∈ds,d.calm=true)->
   Im w g (.eptr ds) (.pointer (some a))
 |nilp:Im w g .nilptr (.pointer none)
 |agg (ds:List D) (vs:List Value):vs.length=ds.length->(∀v∈vs,v.oneCell'=true)->
   (∀(j:Nat) d v,ds[j]?=some d->vs[j]?=some v->Im w g d v)->Im w g (.agg ds) (.agg vs.toArray)
 |tup (ds:List D) (vs:List Value):vs.length=ds.length->
   (∀(j:Nat) d v,ds[j]?=some d->vs[j]?=some v->Im w g d v)->Im w g (.tup ds) (.tuple vs.toArray)
 |iface (t:TypeId) (d:D) (v:Value):d.calm=true->Im w g d v->Im w g (.iface t d) (.iface t v)
 |nili:Im w g .nilIface .nilIface
 |fn (f:FuncId) (ds:List D) (vs:List Value):vs.length=ds.length->
   (∀(j:Nat) d v,ds[j]?=some d->vs[j]?=some v->Im w g d v)->Im w g (.fn f ds) (.func (.func f) #[] vs.toArray)
 |nilf:Im w g .nilFunc .nilFunc
 |nilm:Im w g .nilMap (.map none)
 |itp (i:Id) (b:Nat):g.tb i=some (b,0,0,0)->Im w g (.itp i) (.pointer (some ⟨b,0,none⟩))
structure IF (w:World) (g:Gh) (w':World) (g':Gh):Prop where
 cell:∀p:Addr,p.off<g.G p.block->w'.cell? p=w.cell? p
 G:∀b,g.G b<=g'.G b
 dl:∀i b,g.dl i=some b->g'.dl i=some b
 G0:g'.G0=g.G0
 tb:∀i x,g.tb i=some x->g'.tb i=some x
def IF.refl(w:World)(g:Gh):IF w g w g:=⟨λ_ _=>rfl,λ_=>Qx _,λ_ _ h=>h,rfl,λ_ _ h=>h⟩
theorem IF.trans {w n e : World} {g l f : Gh} (h : IF w g n l) (k : IF n l e f) : IF w g e f :=
 ⟨fun p m => (k.cell p (Q_ m (h.G _))).trans (h.cell p m), fun b => Q4 (h.G b) (k.G b),
  fun i b hi => k.dl i b (h.dl i b hi), k.G0.trans h.G0, fun i x hi => k.tb i x (h.tb i x hi)⟩
def EO(a:Addr)(j:Nat):(a.add j).block=a.block:=by unfold Addr.add;split<;>rfl
def H7(a:Addr)(j:Nat):(a.add j).off=a.off+j:=by unfold Addr.add;split<;>simp_all
theorem add_add(a:Addr)(i j:Nat):(a.add i).add j=a.add (i+j):=by
 unfold Addr.add;by_cases hi:i=0<;>by_cases y:j=0<;>simp[hi,y,Nat.add_assoc]
def Im.ext{w w':World}{g l:Gh}{d:D}{v:Value}(h:Im w g d v)(x:IF w g w' l):Im w' l d v:=by
 induction h with
 |junk v=>exact .junk v
 |bool b=>exact .bool b
 |int k n=>exact .int k n
 |str s=>exact .str s
 |nils t=>exact .nils t
 |slice t xs a n c sz z u h2 y e h5 _ h7 h8 h9 ih=>
  refine .slice t xs a n c sz z u h2 y (λj hj=>?_) h5 ih (λh=>Q4 (h7 h) (x.G _)) (λht=>?_) h9
  ·rw[x.cell _ Y8];exact e j hj
  ·obtain⟨p,q,r⟩:=h8 ht;exact⟨p,q,x.tb _ _ r⟩
 |ptr i o b u=>exact .ptr i o b (x.dl _ _ u)
 |row i n c b m u=>exact .row i n c b m (x.dl _ _ u)
 |eptr ds a z u h2 _ e h5 ih=>
  refine .eptr ds a z (λj hj=>?_) h2 ih (λh=>Q4 (e h) (x.G _)) h5;rw[x.cell _ (by rw[EO,H7];have:=e O;omega)];exact u j hj
 |nilp=>exact .nilp
 |agg ds vs u h2 _ ih=>exact .agg ds vs u h2 ih
 |tup ds vs u _ ih=>exact .tup ds vs u ih
 |iface t d v u _ ih=>exact .iface t d v u ih
 |nili=>exact .nili
 |fn f ds vs u _ ih=>exact .fn f ds vs u ih
 |nilf=>exact .nilf
 |nilm=>exact .nilm
 |itp i b u=>exact .itp i b (x.tb _ _ u)
abbrev Ig:=Id->Nat->Option D
def tT(B:Nat)(m:Ig)(w:World)(g:Gh):Prop:=
 (∀i s p,m i 1=some (.it s p)->∃b,g.tb i=some (b,0,0,0)∧B<=b∧w.heap[b]?=some (.stringIter ⟨s.toArray⟩ p)∧g.G b=0∧∀a,g.dl a≠some b)∧
 ∀i a s p t k b x z,m i 1=some (.it s p)->m a 1=some (.it t k)->g.tb i=some (b,x)->g.tb a=some (b,z)->i=a
theorem tT.to {B : Nat} {m m' : Ig} {w r : World} {g l : Gh} (h : tT B m w g) (z : ∀ i s p, m' i 1 = some (.it s p) → m i 1 = some (.it s p))
  (j : ∀ i b s p, m i 1 = some (.it s p) → g.tb i = some (b, 0, 0, 0) → B ≤ b → w.heap[b]? = some (.stringIter ⟨s.toArray⟩ p) → g.G b = 0 → (∀ a, g.dl a ≠ some b) →
   l.tb i = g.tb i ∧ r.heap[b]? = w.heap[b]? ∧ l.G b = 0 ∧ ∀ a, l.dl a ≠ some b) : tT B m' r l := by
 refine ⟨fun i s p hi => ?_, fun i a s p t p' b x x' u q o n => ?_⟩
 ·obtain ⟨b, t1, k, d, t4, e⟩ := h.1 i s p (z _ _ _ hi)
  obtain ⟨y, f, v, q4⟩ := j i b s p (z _ _ _ hi) t1 k d t4 e
  exact ⟨b, y.trans t1, k, f.trans d, v, q4⟩
 ·obtain ⟨c, t1, k, d, t4, e⟩ := h.1 i s p (z _ _ _ u)
  obtain ⟨c', u1, u2, u3, u4, u5⟩ := h.1 a t p' (z _ _ _ q)
  rw [(j i c s p (z _ _ _ u) t1 k d t4 e).1] at o
  rw [(j a c' t p' (z _ _ _ q) u1 u2 u3 u4 u5).1] at n
  exact h.2 i a s p t p' b x x' (z _ _ _ u) (z _ _ _ q) o n
structure Iv (P:Program) (B:Nat) (w0:World) (m:Ig) (w:World) (g:Gh):Prop where
 below:Below B w0 w
 size:B<=w.heap.size
 gz:∀b,w.heap.size<=b->g.G b=0
 old:∀b,b<B->g.G b=g.G0 b
 obj:∀i b,g.dl i=some b->B<=b∧g.G b=0∧∃vs T,w.heap[b]?=some (.cells vs T (0,0))∧
  ∀o d,m i o=some d->∃v,vs[o]?=some v∧v.oneCell'=true∧Im w g d v
 inj:∀i i' b,g.dl i=some b->g.dl i'=some b->i=i'
 kind:∀i o d,m i o=some d->g.dl i=none->d.gh=true
 tok:∀i e,m i 0=some (.tok (e+1))->∃b n c sz cur,g.tb i=some (b,n,c,sz)∧B<=b∧0<sz∧
  (∃t z,P.info? e=some t∧t.size=sz∧t.zero=some z∧z.cells.size=sz)∧
  w.heap[b]?=some (.cells cur e (0,0))∧n<=c∧c<=maxLen∧cur.size=c*sz∧g.G b=n*sz∧∀i',g.dl i'≠some b
 tinj:∀i i' e e' b x x',m i 0=some (.tok (e+1))->m i' 0=some (.tok (e'+1))->g.tb i=some (b,x)->g.tb i'=some (b,x')->i=i'
 itr:tT B m w g
def Cp(m:Ig)(g:Gh)(i:Id):Prop:=(∀o,m i o=none)∧g.dl i=none∧g.tb i=none
def Ig.put(m:Ig)(i:Id)(o:Nat)(ds:List D):Ig:=λa o'=>if a=i∧o<=o'∧o'<o+ds.length then ds[o'-o]? else m a o'
theorem aA{m:Ig}{i a:Id}{o o':Nat}{ds:List D}(h:a≠i):m.put i o ds a o'=m a o':=by simp[Ig.put,h]
def aF{m:Ig}{i:Id}{o j:Nat}{ds:List D}(h:j<ds.length):m.put i o ds i (o+j)=ds[j]?:=by
 grind [Ig.put]
theorem aC{m:Ig}{i:Id}{o o':Nat}{ds:List D}(h:¬(o<=o'∧o'<o+ds.length)):m.put i o ds i o'=m i o':=by
 grind [Ig.put]
def A8(w:World)(g:Gh)(ds:List D)(vs:List Value):Prop:=
 vs.length=ds.length∧(∀v∈vs,v.oneCell'=true)∧∀(j:Nat) d v,ds[j]?=some d->vs[j]?=some v->Im w g d v
def A8.ext{w n:World}{g y:Gh}{ds:List D}{vs:List Value}(h:A8 w g ds vs)(x:IF w g n y):A8 n y ds vs:=
 ⟨h.1,h.2.1,λj d v l t=>(h.2.2 j d v l t).ext x⟩
def A8.no_it{w:World}{g:Gh}{ds:List D}{vs:List Value}(h:A8 w g ds vs){j:Nat}{s:List UInt8}{p:Nat}(y:ds[j]?=some (.it s p)):False:=by
 have z:j<vs.length:=by rw[h.1];exact(Qr.1 y).1
 have:=h.2.2 j _ vs[j] y (Qp z);cases this
def aBn{w:World}{g:Gh}{m:Ig}{ds:List D}{vs:List Value}(h:A8 w g ds vs){i a:Id}{o:Nat}{s:List UInt8}{p:Nat}(y:m.put i o ds a 1=some (.it s p)):m a 1=some (.it s p)∧(a=i->¬(o<=1∧1<o+ds.length)):=by
 unfold Ig.put at y;split at y
 ·exact(h.no_it y).elim
 ·simp_all
theorem A8.nil(w:World)(g:Gh):A8 w g [] []:=⟨rfl,U,U⟩
def A8.one{w:World}{g:Gh}{d:D}{v:Value}(h:Im w g d v)(z:v.oneCell'=true):A8 w g [d] [v]:=by
 refine⟨rfl,XP,λj i a l t=>?_⟩;cases j with
 |zero=>simp at l t;subst l t;exact h
 |succ j=>simp at l
def A8.append{w:World}{g:Gh}{ds c:List D}{vs i:List Value}(h:A8 w g ds vs)(k:A8 w g c i):A8 w g (ds++c) (vs++i):=by
 refine⟨by simp[h.1,k.1],λv hv=>?_,λj d v l hv=>?_⟩
 ·rcases Qt.1 hv with hv|hv
  ·exact h.2.1 v hv
  ·exact k.2.1 v hv
 ·by_cases y:j<ds.length
  ·rw[Qz y]at l;rw[Qz (by rw[h.1];exact y)]at hv;exact h.2.2 j d v l hv
  ·rw[QS O]at l;rw[QS (by rw[h.1];omega),h.1]at hv;exact k.2.2 _ d v l hv
section
variable{P:Program}{B:Nat}{w0 w w':World}{m:Ig}{g g':Gh}
def Iv.lt(h:Iv P B w0 m w g){i:Id}{b:Nat}(j:g.dl i=some b):b<w.heap.size:=by
 obtain⟨_,_,vs,T,f,_⟩:=h.obj i b j;exact(Qs.1 f).1
def Gh.over(g:Gh)(w n:World):Gh:=
 {g with G:=λb=>if b<w.heap.size then g.G b else match n.heap[b]? with|some (.cells c _ _)=>c.size|_=>0}
def IF.over(c:∀b,w.heap.size<=b->g.G b=0)(j:Below w.heap.size w w'):IF w g w' (g.over w w'):=by
 refine⟨λp m=>?_,λb=>?_,λi b h=>h,rfl,λi x h=>h⟩
 ·by_cases v:p.block<w.heap.size
  ·exact j.cell v
  ·simp_all
 ·grind [Gh.over]
def Iv.over(h:Iv P B w0 m w g)(j:Below w.heap.size w w'):Iv P B w0 m w' (g.over w w'):=by
 have x:=IF.over h.gz j;refine⟨h.below.trans (j.mono h.size),Q4 h.size j.size,λb a=>?_,λb z=>by simp only[Gh.over];rw[if_pos (Q_ z h.size)];exact h.old b z,λi b hi=>?_,h.inj,h.kind,λi e hi=>?_,h.tinj,h.itr.to (λ_ _ _ e=>e) λi b s p _ _ _ e1 e2 e3=>?_⟩
 rotate_right
 ·have z:b<w.heap.size:=(Qs.1 e1).1;exact⟨rfl,j.block b z,by simp[Gh.over,z,e2],e3⟩
 ·simp only[Gh.over];rw[if_neg (by have:=j.size;omega),Array.getElem?_eq_none a]
 ·obtain⟨p,q,vs,T,f,r⟩:=h.obj i b hi;have z:=h.lt hi;refine⟨p,by simp[Gh.over,z,q],vs,T,(j.block b z).trans f,λo d hm=>?_⟩;obtain⟨v,l,t,y⟩:=r o d hm;exact⟨v,l,t,y.ext x⟩
 ·obtain⟨b,n,c,sz,cur,t1,u,t3,t4,t5,t6,t7,t8,t9,k⟩:=h.tok i e hi;have z:b<w.heap.size:=(Qs.1 t5).1;exact⟨b,n,c,sz,cur,t1,u,t3,t4,(j.block b z).trans t5,t6,t7,t8,by simp[Gh.over,z,t9],k⟩
def Iv.drew(h:Iv P B w0 m w g):Iv P B w0 m w.drew g:=by
 have x:IF w g w.drew g:=⟨λ_ _=>rfl,λ_=>Qx _,λ_ _ h=>h,rfl,λ_ _ h=>h⟩;refine⟨h.below.drew,h.size,h.gz,h.old,λi b hi=>?_,h.inj,h.kind,λi e hi=>?_,h.tinj,h.itr.to (λ_ _ _ e=>e) λi b s p _ _ _ e1 e2 e3=>⟨rfl,rfl,e2,e3⟩⟩
 ·obtain⟨p,q,vs,T,f,r⟩:=h.obj i b hi;exact⟨p,q,vs,T,f,λo d z=>let⟨v,r1,r2,r3⟩:=r o d z;⟨v,r1,r2,r3.ext x⟩⟩
 ·exact h.tok i e hi
def IF.drew(w:World)(g:Gh):IF w g w.drew g:=⟨λ_ _=>rfl,λ_=>Qx _,λ_ _ h=>h,rfl,λ_ _ h=>h⟩
def Gh.obj(g:Gh)(i:Id)(b:Nat):Gh:={g with dl:=λa=>if a=i then some b else g.dl a}
def IF.newObj{i:Id}(o:Obj)(c:∀b,w.heap.size<=b->g.G b=0)(k:g.dl i=none):IF w g (w.alloc o) (g.obj i w.heap.size):=by
 refine⟨λp m=>?_,λb=>Qx _,λa b h=>?_,rfl,λi x h=>h⟩
 ·by_cases v:p.block<w.heap.size
  ·exact World.cell?_alloc_lt w o p v
  ·simp_all
 ·grind [Gh.obj]
def Iv.newObj(h:Iv P B w0 m w g){i:Id}(hf:Cp m g i){ds:List D}{vs:List Value}(T:TypeId)(hr:A8 w g ds vs):
  Iv P B w0 (m.put i 0 ds) (w.alloc (.cells vs.toArray T)) (g.obj i w.heap.size):=by
 have x:=IF.newObj (i:=i) (Obj.cells vs.toArray T) h.gz hf.2.1;have ne:∀i' b,g.dl i'=some b->i'≠i:=λi' b j e=>by subst e;rw[hf.2.1]at j;cases j
 refine⟨h.below.alloc h.size _,YN,λb j=>h.gz b (by simp at j;omega),h.old,λi' b hi=>?_,λi1 i2 b u f=>?_,λi' o d a k=>?_,λi' e hi=>?_,λi1 i2 e e' b y y' u f l h4=>?_,h.itr.to (λi' s p e=>(aBn hr e).1) λi' b s p _ _ _ e1 e2 e3=>?_⟩
 rotate_right
 ·have z:b<w.heap.size:=(Qs.1 e1).1;refine⟨rfl,Below.heap_alloc w _ b z,e2,λi1 u=>?_⟩;simp only[Gh.obj]at u;split at u
  ·simp_all
  ·exact e3 i1 u
 ·simp only[Gh.obj]at hi;split at hi
  ·rename_i e;subst e;simp only[Qn]at hi;subst hi;refine⟨h.size,h.gz _ (Qx _),vs.toArray,T,heap_alloc_new w _,λo d a=>?_⟩;by_cases ho:o<ds.length
   ·have t:m.put i' 0 ds i' (0+o)=ds[o]?:=aF ho;rw[QG]at t;rw[t]at a;have hv:o<vs.length:=by rw[hr.1];exact ho
    refine⟨vs[o],by simp[hv],hr.2.1 _ (Zd hv),?_⟩;exact(hr.2.2 o d vs[o] a (Qp hv)).ext x
   ·rw[aC O,hf.1 o]at a;cases a
  ·rename_i ma;obtain⟨p,q,cb,T',hh,r⟩:=h.obj i' b hi;refine⟨p,q,cb,T',(Below.heap_alloc w _ b (h.lt hi)).trans hh,λo d a=>?_⟩;rw[aA ma]at a;obtain⟨v,r1,r2,r3⟩:=r o d a;exact⟨v,r1,r2,r3.ext x⟩
 ·simp only[Gh.obj]at u f;split at u<;>split at f
  ·simp_all
  ·simp only[Qn]at u;subst u;have:=h.lt f;omega
  ·simp only[Qn]at f;subst f;have:=h.lt u;omega
  ·exact h.inj _ _ _ u f
 ·simp only[Gh.obj]at k;split at k
  ·cases k
  ·rename_i ma;rw[aA ma]at a;exact h.kind _ _ _ a k
 ·by_cases ma:i'=i
  ·subst ma;by_cases ho:0<ds.length
   ·have t:m.put i' 0 ds i' (0+0)=ds[0]?:=aF ho;rw[Zw]at t;rw[t]at hi;have hv:0<vs.length:=by rw[hr.1];exact ho
    have:=hr.2.2 0 _ vs[0] hi (Qp hv);cases this
   ·rw[aC O,hf.1 0]at hi;cases hi
  ·rw[aA ma]at hi;obtain⟨b,n,c,sz,cur,t1,t2,t3,t4,t5,t6,t7,t8,t9,ya⟩:=h.tok i' e hi;have z:b<w.heap.size:=(Qs.1 t5).1;refine⟨b,n,c,sz,cur,t1,t2,t3,t4,(Below.heap_alloc w _ b z).trans t5,t6,t7,t8,t9,λi1 u=>?_⟩;simp only[Gh.obj]at u;split at u
   ·simp_all
   ·exact ya i1 u
 ·have nt:∀e,m.put i 0 ds i 0≠some (.tok (e+1)):=by
   intro e hi;by_cases ho:0<ds.length
   ·have t:m.put i 0 ds i (0+0)=ds[0]?:=aF ho;rw[Zw]at t;rw[t]at hi;have hv:0<vs.length:=by rw[hr.1];exact ho
    have:=hr.2.2 0 _ vs[0] hi (Qp hv);cases this
   ·rw[aC O,hf.1 0]at hi;cases hi
  have n1:i1≠i:=λe=>by subst e;exact nt _ u
  have n2:i2≠i:=λe=>by subst e;exact nt _ f
  rw[aA n1]at u;rw[aA n2]at f;exact h.tinj _ _ _ _ _ _ _ u f l h4
def Im.newObj(w:World)(g:Gh)(i:Id)(b:Nat):Im w (g.obj i b) (.ptr i 0) (.pointer (some ⟨b,0,none⟩)):=
 .ptr i 0 b (by simp[Gh.obj])
theorem Gq(w:World)(b:Nat)(cs:Array Value)(p:Addr)(h:p.block≠b):(w.setRow b cs).cell? p=w.cell? p:=by
 simp only[World.cell?];rw[setRow_other w b p.block cs h]
def IF.setRow{b:Nat}{cs:Array Value}(y:g.G b=0):IF w g (w.setRow b cs) g:=by
 refine⟨λp m=>Gq w b cs p (λe=>?_),λ_=>Qx _,λ_ _ h=>h,rfl,λ_ _ h=>h⟩;subst e;omega
def Iv.store(h:Iv P B w0 m w g){i:Id}{b o:Nat}(hd:g.dl i=some b){vs:Array Value}{T:TypeId}(hh:w.heap[b]?=some (.cells vs T (0,0)))
  {ds:List D} {us:List Value} (hr:A8 w g ds us) (ho:o+ds.length<=vs.size):
  Iv P B w0 (m.put i o ds) (w.setRow b (vs.toList.take o++us++vs.toList.drop (o+us.length)).toArray) g:=by
 obtain⟨hB,hG,cb,T',na,xa⟩:=h.obj i b hd;rw[hh]at na;simp only[Qn,Obj.cells.injEq]at na;obtain⟨rfl,rfl,_⟩:=na;have x:IF w g (w.setRow b (vs.toList.take o++us++vs.toList.drop (o+us.length)).toArray) g:=IF.setRow hG;have pa:(w.setRow b (vs.toList.take o++us++vs.toList.drop (o+us.length)).toArray).heap.size=w.heap.size:=Ym
 have z:∀k,k≠b->(w.setRow b (vs.toList.take o++us++vs.toList.drop (o+us.length)).toArray).heap[k]?=w.heap[k]?:=λk hk=>setRow_other w b k _ hk
 refine⟨⟨h.below.os,h.below.tape,h.below.output,Yv,λk hk=>(z k O).trans (h.below.block k hk)⟩,Yu,by rw[pa];exact h.gz,h.old,λi' b' hi=>?_,h.inj,λi' o' d hm hn=>?_,λi' e hi=>?_,λi1 i2 e e' b' y y' u t l h4=>?_,h.itr.to (λi' s p e=>(aBn hr e).1) λi' b' s p _ _ _ e1 e2 e3=>⟨rfl,z b' (λe=>e3 i (by rw[e];exact hd)),e2,e3⟩⟩
 ·by_cases a:i'=i
  ·subst a;rw[hd]at hi;simp only[Qn]at hi;subst hi;refine⟨hB,hG,_,T,setRow_heap w b vs _ T _ hh,λo' d hm=>?_⟩;have ka:us.length=ds.length:=hr.1;by_cases ra:o<=o'∧o'<o+ds.length
   ·have da:m.put i' o ds i' (o+(o'-o))=ds[o'-o]?:=aF O;rw[show o+(o'-o)=o' by omega]at da;rw[da]at hm;have hv:o'-o<us.length:=by omega
    refine⟨us[o'-o],?_,hr.2.1 _ (Zd hv),(hr.2.2 _ d _ hm (Qp hv)).ext x⟩;have ht:(vs.toList.take o).length=o:=YD
    simp only[QV,QX];rw[QS O,ht,Qz hv];exact Qp hv
   ·rw[aC ra]at hm;obtain⟨v,r1,r2,r3⟩:=xa o' d hm;refine⟨v,?_,r2,r3.ext x⟩;have ht:(vs.toList.take o).length=o:=by rw[Zs];simp;omega
    simp only[QV,QX];by_cases ja:o'<o
    ·grind
    ·grind
  ·obtain⟨p,q,f,T1,j,r⟩:=h.obj i' b' hi;have ma:b'≠b:=λe=>a (h.inj i' i b' hi (by rw[e];exact hd))
   refine⟨p,q,f,T1,(z b' ma).trans j,λo' d hm=>?_⟩;rw[aA a]at hm;obtain⟨v,r1,r2,r3⟩:=r o' d hm;exact⟨v,r1,r2,r3.ext x⟩
 ·have:i'≠i:=λe=>by subst e;rw[hd]at hn;cases hn
  rw[aA this]at hm;exact h.kind _ _ _ hm hn
 ·have ma:i'≠i:=by
   rintro rfl;by_cases ra:o<=0∧0<o+ds.length
   ·have da:m.put i' o ds i' (o+(0-o))=ds[0-o]?:=aF O;rw[show o+(0-o)=0 by omega]at da;rw[da]at hi;have hv:0-o<us.length:=by have:=hr.1;omega
    have:=hr.2.2 _ _ _ hi (Qp hv);cases this
   ·rw[aC ra]at hi;obtain⟨v,r1,r2,r3⟩:=xa 0 _ hi;cases r3
  rw[aA ma]at hi;obtain⟨b1,n,c,sz,cur,t1,t2,t3,t4,t5,t6,t7,t8,t9,ya⟩:=h.tok i' e hi;exact⟨b1,n,c,sz,cur,t1,t2,t3,t4,(z b1 (λe=>ya i (by rw[e];exact hd))).trans t5,t6,t7,t8,t9,ya⟩
 ·have nt:∀e,m.put i o ds i 0≠some (.tok (e+1)):=by
   intro e hi;by_cases ra:o<=0∧0<o+ds.length
   ·have da:m.put i o ds i (o+(0-o))=ds[0-o]?:=aF O;rw[show o+(0-o)=0 by omega]at da;rw[da]at hi;have hv:0-o<us.length:=by have:=hr.1;omega
    have:=hr.2.2 _ _ _ hi (Qp hv);cases this
   ·rw[aC ra]at hi;obtain⟨v,r1,r2,r3⟩:=xa 0 _ hi;cases r3
  have n1:i1≠i:=λe=>by subst e;exact nt _ u
  have n2:i2≠i:=λe=>by subst e;exact nt _ t
  rw[aA n1]at u;rw[aA n2]at t;exact h.tinj _ _ _ _ _ _ _ u t l h4
end
def Gh.tok(g:Gh)(t:Id)(b n c sz:Nat):Gh:=
 {g with G:=λz=>if z=b then n*sz else g.G z,tb:=λi=>if i=t then some (b,n,c,sz)else g.tb i}
section
variable{P:Program}{B:Nat}{w0 w w':World}{m:Ig}{g g':Gh}
def Iv.kill(h:Iv P B w0 m w g){t:Id}(k:g.dl t=none):Iv P B w0 (m.put t 0 [.tok 0]) w g:=by
 have x:∀i o,m.put t 0 [.tok 0] i o=if i=t∧o=0 then some (.tok 0)else m i o:=by
  grind [Ig.put]
 refine⟨h.below,h.size,h.gz,h.old,λi b hi=>?_,h.inj,λi o d z c=>?_,λi e hi=>?_,λv a e j b y y' u f l n=>?_,h.itr.to (λi s p e=>by rw[x,if_neg U]at e;exact e) λi b s p _ _ _ e1 e2 e3=>⟨rfl,rfl,e2,e3⟩⟩
 ·obtain⟨p,q,vs,T,hh,r⟩:=h.obj i b hi;refine⟨p,q,vs,T,hh,λo d z=>?_⟩;rw[x,if_neg (by rintro⟨rfl,_⟩;rw[k]at hi;cases hi)]at z;exact r o d z
 ·rw[x]at z;split at z
  ·rw[←QW z];rfl
  ·exact h.kind _ _ _ z c
 ·rw[x]at hi;split at hi
  ·simp at hi
  ·exact h.tok i e hi
 ·rw[x]at u f;split at u
  ·simp at u
  ·split at f
   ·simp at f
   ·exact h.tinj _ _ _ _ _ _ _ u f l n
def Cp.kill{t x:Id}(h:Cp m g t)(c:t≠x):Cp (m.put x 0 [.tok 0]) g t:=
 ⟨λo=>by rw[aA c];exact h.1 o,h.2⟩
theorem BK(m:Ig)(t:Id)(x:Nat)(i:Id)(o:Nat):m.put t 0 [.tok x] i o=if i=t∧o=0 then some (.tok x)else m i o:=by
 grind [Ig.put]
def IF.newTok{t:Id}{b n c sz:Nat}(o:Obj)(ja:∀b,w.heap.size<=b->g.G b=0)(k:g.tb t=none)(j:b=w.heap.size):IF w g (w.alloc o) (g.tok t b n c sz):=by
 refine⟨λp m=>?_,λz=>?_,λa b h=>h,rfl,λi x h=>?_⟩
 ·by_cases v:p.block<w.heap.size
  ·exact World.cell?_alloc_lt w o p v
  ·simp_all
 ·grind [Gh.tok]
 ·simp only[Gh.tok];split
  ·rename_i e;subst e;rw[k]at h;cases h
  ·exact h
def Iv.newTok(h:Iv P B w0 m w g){t:Id}(hf:Cp m g t){e n c sz:Nat}{cur:Array Value}(pa:0<sz)
  (hi:∃ti z,P.info? e=some ti∧ti.size=sz∧ti.zero=some z∧z.cells.size=sz) (va:n<=c) (k:c<=maxLen) (f:cur.size=c*sz):
  Iv P B w0 (m.put t 0 [.tok (e+1)]) (w.alloc (.cells cur e)) (g.tok t w.heap.size n c sz):=by
 have x:=IF.newTok (t:=t) (n:=n) (c:=c) (sz:=sz) (Obj.cells cur e) h.gz hf.2.2 rfl;refine⟨h.below.alloc h.size _,YN,λb j=>?_,λb aa=>by simp only[Gh.tok];rw[if_neg (by have:=h.size;omega)];exact h.old b aa,λi b da=>?_,h.inj,λi o d a hn=>?_,λi e' da=>?_,λi1 i2 e1 e2 b y y' u h2 l h4=>?_,h.itr.to (λi s p e=>by rw[BK,if_neg U]at e;exact e) λi b s p e0 _ _ e1 e2 e3=>?_⟩
 rotate_right
 ·have aa:b<w.heap.size:=(Qs.1 e1).1;have ka:i≠t:=by rintro rfl;rw[hf.1 1]at e0;cases e0
  exact⟨by simp[Gh.tok,ka],Below.heap_alloc w _ b aa,by simp only[Gh.tok];rw[if_neg O];exact e2,e3⟩
 ·simp only[Gh.tok];simp at j;rw[if_neg O];exact h.gz b O
 ·obtain⟨p,q,vs,T,hh,r⟩:=h.obj i b da;have aa:=h.lt da;refine⟨p,by simp only[Gh.tok];rw[if_neg O];exact q,vs,T,(Below.heap_alloc w _ b aa).trans hh,λo d a=>?_⟩;rw[BK,if_neg (by rintro⟨rfl,_⟩;simp only[Gh.tok]at da;rw[hf.2.1]at da;cases da)]at a;obtain⟨v,r1,r2,r3⟩:=r o d a;exact⟨v,r1,r2,r3.ext x⟩
 ·rw[BK]at a;split at a
  ·rw[←QW a];rfl
  ·exact h.kind _ _ _ a hn
 ·rw[BK]at da;split at da
  ·rename_i fa;obtain⟨rfl,_⟩:=fa;simp only[Qn,D.tok.injEq,Zq]at da;subst da;refine⟨w.heap.size,n,c,sz,cur,Xi,h.size,pa,hi,heap_alloc_new w _,va,k,f,Xi,λi' h'=>?_⟩;have:=h.lt h';omega
  ·rename_i ma;obtain⟨b,n',c',qa,la,t1,t2,t3,t4,t5,t6,t7,t8,t9,ya⟩:=h.tok i e' da;have aa:b<w.heap.size:=(Qs.1 t5).1;have ka:i≠t:=by
    simp_all
   exact⟨b,n',c',qa,la,by simp[Gh.tok,ka,t1],t2,t3,t4,(Below.heap_alloc w _ b aa).trans t5,t6,t7,t8,by simp only[Gh.tok];rw[if_neg O];exact t9,ya⟩
 ·have ea:∀i e,m i 0=some (.tok (e+1))->∀b y,(g.tok t w.heap.size n c sz).tb i=some (b,y)->i≠t∧g.tb i=some (b,y)∧b<w.heap.size:=by
   intro i e a b y j;have ka:i≠t:=by rintro rfl;rw[hf.1 0]at a;cases a
   simp only[Gh.tok,if_neg ka]at j;obtain⟨b',n',c',qa,la,t1,t2,t3,t4,t5,_⟩:=h.tok i e a;rw[t1]at j;simp only[Qn,Qq]at j;obtain⟨rfl,rfl⟩:=j;exact⟨ka,t1,(Qs.1 t5).1⟩
  rw[BK]at u h2;split at u<;>split at h2
  ·simp_all
  ·grind [Gh.tok]
  ·grind [Gh.tok]
  ·obtain⟨_,k3,_⟩:=ea _ _ u _ _ l;obtain⟨_,k4,_⟩:=ea _ _ h2 _ _ h4;exact h.tinj _ _ _ _ _ _ _ u h2 k3 k4
def IF.inPlace{t:Id}{b n r c sz:Nat}{cur la:Array Value}{T:TypeId}{fr:Nat×Nat}(k:g.tb t=none)(y:g.G b=n*sz)(f:n<=r)
  (z:w.heap[b]?=some (.cells cur T fr)) (l:∀j,j<n*sz->la[j]?=cur[j]?):IF w g (w.setRow b la) (g.tok t b r c sz):=by
 refine⟨λp m=>?_,λd=>?_,λs b h=>h,rfl,λi x h=>?_⟩
 ·by_cases a:p.block=b
  ·have u:(w.setRow b la).heap[p.block]?=some (.cells la T fr):=by rw[a];exact setRow_heap w b cur la T fr z
   have q:w.heap[p.block]?=some (.cells cur T fr):=by rw[a];exact z
   simp only[World.cell?,u,q];split
   ·rfl
   ·simp_all
  ·grind [Gq]
 ·simp only[Gh.tok];split
  ·rename_i e;subst e;rw[y];exact QN _ f
  ·exact Qx _
 ·grind [Gh.tok]
def Iv.inPlace(h:Iv P B w0 m w g){t0 t:Id}(hf:Cp m g t){e b n n' c sz:Nat}{cur la:Array Value}(h0:m t0 0=some (.tok (e+1)))
  (ha:g.tb t0=some (b,n,c,sz)) (hn:n<=n') (hc:n'<=c) (hh:w.heap[b]?=some (.cells cur e (0,0))) (hs:la.size=cur.size)
  (l:∀j,j<n*sz->la[j]?=cur[j]?):
  Iv P B w0 ((m.put t0 0 [.tok 0]).put t 0 [.tok (e+1)]) (w.setRow b la) (g.tok t b n' c sz):=by
 obtain⟨b0,n0,c0,ga,ca,u1,u2,u3,u4,u5,u6,u7,u8,u9,a⟩:=h.tok t0 e h0;rw[ha]at u1;simp only[Qn,Qq]at u1;obtain⟨rfl,rfl,rfl,rfl⟩:=u1;rw[hh]at u5;simp only[Qn,Obj.cells.injEq,and_true]at u5;subst u5;have x:IF w g (w.setRow b la) (g.tok t b n' c sz):=IF.inPlace hf.2.2 u9 hn hh l;have pa:(w.setRow b la).heap.size=w.heap.size:=Ym
 have ia:b<w.heap.size:=(Qs.1 hh).1;have ba:∀k,k≠b->(w.setRow b la).heap[k]?=w.heap[k]?:=λk hk=>setRow_other w b k la hk
 have ta:t≠t0:=by rintro rfl;rw[hf.1 0]at h0;cases h0
 have da:∀i o,((m.put t0 0 [.tok 0]).put t 0 [.tok (e+1)]) i o=if i=t∧o=0 then some (.tok (e+1))else if i=t0∧o=0 then some (.tok 0)else m i o:=by
  grind [BK]
 have z:g.dl t0=none:=by
  cases hd:g.dl t0 with
  |none=>rfl
  |some b'=>
   obtain⟨_,_,vs,T,_,r⟩:=h.obj t0 b' hd;obtain⟨v,_,_,r3⟩:=r 0 _ h0;cases r3
 refine⟨⟨h.below.os,h.below.tape,h.below.output,Yv,λk hk=>(ba k O).trans (h.below.block k hk)⟩,Yu,λb' sa=>?_,λb' aa=>by simp only[Gh.tok];rw[if_neg O];exact h.old b' aa,λi b' hi=>?_,h.inj,λi o d hm hd=>?_,λi e' hi=>?_,λi1 i2 e1 e2 b' y y' h1 h2 h3 h4=>?_,h.itr.to (λi s p e=>by rw[da,if_neg U,if_neg U]at e;exact e) λi b' s p e0 _ _ e1 e2 e3=>?_⟩
 rotate_right
 ·have ma:b'≠b:=by rintro rfl;rw[hh]at e1;cases e1
  have ka:i≠t:=by rintro rfl;rw[hf.1 1]at e0;cases e0
  exact⟨by simp[Gh.tok,ka],ba b' ma,by simp only[Gh.tok];rw[if_neg ma];exact e2,e3⟩
 ·rw[pa]at sa;simp only[Gh.tok];rw[if_neg O];exact h.gz b' sa
 ·obtain⟨p,q,vs,T,na,r⟩:=h.obj i b' hi;have ma:b'≠b:=λe=>a i (by rw[←e];exact hi)
  refine⟨p,by simp[Gh.tok,ma,q],vs,T,(ba b' ma).trans na,λo d hm=>?_⟩;rw[da,if_neg (by rintro⟨rfl,_⟩;have h':=hf.2.1;simp only[Gh.tok]at hi;rw[h']at hi;cases hi),if_neg (by rintro⟨rfl,_⟩;simp only[Gh.tok]at hi;rw[z]at hi;cases hi)]at hm;obtain⟨v,r1,r2,r3⟩:=r o d hm;exact⟨v,r1,r2,r3.ext x⟩
 ·rw[da]at hm;split at hm
  ·rw[←QW hm];rfl
  ·split at hm
   ·rw[←QW hm];rfl
   ·exact h.kind _ _ _ hm hd
 ·rw[da]at hi;split at hi
  ·rename_i fa;obtain⟨rfl,_⟩:=fa;simp only[Qn,D.tok.injEq,Zq]at hi;subst hi;exact⟨b,n',c,sz,la,Xi,u2,u3,u4,setRow_heap w b cur la e _ hh,hc,u7,by rw[hs];exact u8,Xi,a⟩
  ·split at hi
   ·simp at hi
   ·rename_i n1 n2;obtain⟨b1,u,c1,za,f,t1,t2,t3,t4,t5,t6,t7,t8,t9,ya⟩:=h.tok i e' hi;have ka:i≠t:=by rintro rfl;rw[hf.1 0]at hi;cases hi
    have ua:b1≠b:=by
     rintro rfl;have:=h.tinj i t0 e' e b1 _ _ hi h0 t1 ha;subst this;simp at n2
    exact⟨b1,u,c1,za,f,by simp[Gh.tok,ka,t1],t2,t3,t4,(ba b1 ua).trans t5,t6,t7,t8,by simp[Gh.tok,ua,t9],ya⟩
 ·have ea:∀i e',m i 0=some (.tok (e'+1))->i≠t0->∀b' y,(g.tok t b n' c sz).tb i=some (b',y)->i≠t∧g.tb i=some (b',y)∧b'≠b:=by
   intro i e' hm va b' y hb;have ka:i≠t:=by rintro rfl;rw[hf.1 0]at hm;cases hm
   simp only[Gh.tok,if_neg ka]at hb;refine⟨ka,hb,?_⟩;rintro rfl;exact va (h.tinj i t0 e' e b' _ _ hm h0 hb ha)
  rw[da]at h1 h2;split at h1
  ·grind [Gh.tok]
  ·split at h1
   ·simp at h1
   ·rename_i p q;split at h2
    ·grind [Gh.tok]
    ·split at h2
     ·simp at h2
     ·rename_i r s;obtain⟨_,k3,_⟩:=ea _ _ h1 (λe=>q ⟨e,rfl⟩) _ _ h3;obtain⟨_,k4,_⟩:=ea _ _ h2 (λe=>s ⟨e,rfl⟩) _ _ h4;exact h.tinj _ _ _ _ _ _ _ h1 h2 k3 k4
end
end Go.Vd
namespace Go.Vd
inductive Ip where
 |t (n:Nat)
 |c (d:D)
def Ip.ev(s:Nat->D):Ip->D
 | .t n=>s n
 | .c d=>d
abbrev Ir:=List (Id×Nat×List D)
def Ir.app(m:Ig):Ir->Ig
 |[]=>m
 |(i,o,ds)::u=>Ir.app (m.put i o ds) u
structure IS where
 rd:List D->Ig->List (Id×Nat)
 ex:List D->Ig->Id->Option (D×Ir)
abbrev Ic:=FuncId->Option IS
inductive DOp where
 |mv (x:Ip)
 |pick (c a b:Ip)
 |alloc (zs:List D)
 |box (x:Ip)
 |build (zs:List D) (parts:List (Nat×Nat×Ip))
 |bslice (e sz:Nat) (parts:List Ip)
 |load (k:Option Nat) (x:Ip)
 |store (n:Nat) (x v:Ip)
 |nilchk (x:Ip)
 |bin (op:BinOp) (x y:Ip)
 |beq (ne:Bool) (x y:Ip)
 |seq (ne:Bool) (offs:List (Nat×Nat)) (x y:Ip)
 |nileq (ne:Bool) (k:Nat) (x y:Ip)
 |un (op:UnOp) (x:Ip)
 |conv (k:IntKind) (x:Ip)
 |s2s (x:Ip)
 |s2b (x:Ip)
 |b2s (x:Ip)
 |faddr (off:Nat) (x:Ip)
 |field (k:Option Nat) (off:Nat) (x:Ip)
 |iaddr (sz:Nat) (x i:Ip)
 |idxs (x i:Ip)
 |idxa (len:Nat) (x i:Ip)
 |idxm (len sz:Nat) (x i:Ip)
 |mxm (mx:Bool) (x y:Ip)
 |iadda (len sz:Nat) (x i:Ip)
 |cuts (x:Ip) (lo hi:Option Ip)
 |cutl (sz:Nat) (x:Ip) (lo hi:Option Ip)
 |mkif (t:TypeId) (x:Ip)
 |tass (t:TypeId) (ok:Bool) (z:D) (x:Ip)
 |ext (i:Nat) (x:Ip)
 |mkfn (f:FuncId) (caps:List Ip)
 |len (isStr:Bool) (x:Ip)
 |app (e sz bytes:Nat) (x y:Ip)
 |mksl (e sz bytes:Nat) (z:D) (n c:Ip)
 |range (x:Ip)
 |next (x:Ip)
 |call (f:Ip) (xs:List Ip)
 |stop
def D.data:D->Bool
 | .junk| .tok _| .tup _| .it _ _=>false
 |_=>true
def Ah(m:Ig)(i:Id):Nat->Nat->Option (List D)
 |_,0=>some []
 |o,n+1=>match m i o with
  |some d=>(Ah m i (o+1) n).map (d::·)
  |none=>none
def DV(cs:List D)(off:Nat)(ds:List D):List D:=cs.take off++ds++cs.drop (off+ds.length)
def Cd:List D->List (Nat×Nat×D)->Option (List D)
 |cs,[]=>some cs
 |cs,(off,sz,d)::r=>if d.data=true∧d.cells.length=sz∧off+sz<=cs.length then Cd (DV cs off d.cells) r else none
def AJ(op:BinOp)(x y:D):Option D:=
 match x,y with
 | .int k a,.int k' b=>
  match op with
  | .shl=>if 0<=b then some (.int k (k.wrap (a*2 ^ min b.toNat k.bits)))else none
  | .shr=>if 0<=b then some (.int k (a.fdiv (2 ^ min b.toNat k.bits)))else none
  |op=>if k≠k' then none else match op with
   | .add=>some (.int k (k.wrap (a+b)))
   | .sub=>some (.int k (k.wrap (a-b)))
   | .mul=>some (.int k (k.wrap (a*b)))
   | .quo=>if b=0 then none else some (.int k (k.wrap (a.tdiv b)))
   | .rem=>if b=0 then none else some (.int k (a.tmod b))
   | .and=>some (.int k (bits .and k a b))
   | .or=>some (.int k (bits .or k a b))
   | .xor=>some (.int k (bits .xor k a b))
   | .andNot=>some (.int k (bits .andNot k a b))
   | .eql=>some (.bool (a==b))
   | .neq=>some (.bool (a !=b))
   | .lss=>some (.bool (a<b))
   | .leq=>some (.bool (a<=b))
   | .gtr=>some (.bool (a>b))
   | .geq=>some (.bool (a≥b))
   |_=>none
 | .str a,.str b=>
  match op with
  | .add=>if a.length+b.length<=9223372036854775807 then some (.str (a++b))else none
  | .eql=>some (.bool (a==b))
  | .neq=>some (.bool (!(a==b)))
  | .lss=>some (.bool (Op.bytesLess a b))
  | .leq=>some (.bool (Op.bytesLess a b||a==b))
  | .gtr=>some (.bool (!(Op.bytesLess a b||a==b)))
  | .geq=>some (.bool (!(Op.bytesLess a b)))
  |_=>none
 |_,_=>none
def xD(op:UnOp)(x:D):Option D:=
 match op,x with
 | .neg,.int k n=>some (.int k (k.wrap (0-n)))
 | .not,.bool b=>some (.bool (!b))
 | .xor,.int k n=>some (.int k (bits .xor k (if k.signed then-1 else k.max) n))
 |_,_=>none
def LJ:Nat->D->D->Option Bool
 |0,.int k a,.int k' b=>if k=k' then some (a==b)else none
 |1,.bool a,.bool b=>some (a==b)
 |2,.str a,.str b=>some (a==b)
 |_,_,_=>none
def Bn(xs ys:List D):List (Nat×Nat)->Option Bool
 |[]=>some true
 |(k,o)::r=>match xs[o]?,ys[o]? with
  |some x,some y=>match LJ k x y with
   |some true=>Bn xs ys r
   |some false=>some false
   |none=>none
  |_,_=>none
def NY:Nat->D->D->Option Bool
 |0,.slice n _ _,.slice true _ _=>some n
 |0,.slice true _ _,.slice n _ _=>some n
 |1,.nilptr,.nilptr=>some true
 |1,.nilptr,.ptr _ _=>some false
 |1,.ptr _ _,.nilptr=>some false
 |2,.nilIface,.nilIface=>some true
 |2,.nilIface,.iface _ _=>some false
 |2,.iface _ _,.nilIface=>some false
 |3,.nilFunc,.nilFunc=>some true
 |3,.nilFunc,.fn _ _=>some false
 |3,.fn _ _,.nilFunc=>some false
 |_,_,_=>none
def Ax(s:List UInt8):List D:=s.map λb=> .int .u8 b.toNat
def BQ:List D->Option (List UInt8)
 |[]=>some []
 | .int .u8 n::r=>(BQ r).map (UInt8.ofNat n.toNat::·)
 |_=>none
def dR:Bool->D->Option Nat
 |true,.str s=>some s.length
 |false,.slice _ _ xs=>some xs.length
 |false,.row _ n=>some n
 |_,_=>none
def GI(s:Nat->D)(x:Option Ip)(b:Nat)(v:Nat):Option Nat:=
 match x with
 |none=>some b
 |some a=>match a.ev s with
  | .int _ n=>if 0<=n∧n<=v then some n.toNat else none
  |_=>none
def aE:List D->Nat->Nat
 |[],k=>k
 |d::_,_=>d.cells.length
def L5(sz:Nat):D->Option (List D)
 | .slice _ _ ys=>some ys
 | .str b=>if sz=1 then some (Ax b)else none
 |_=>none
def AG(S:Ic)(s:Nat->D)(m:Ig)(fr:Id):DOp->Option (D×Ir)
 | .mv x=>some (x.ev s,[])
 | .pick c a b=>match c.ev s with
  | .bool t=>some (if t then a.ev s else b.ev s,[])
  |_=>none
 | .alloc zs=>some (.ptr fr 0,[(fr,0,zs)])
 | .box x=>if(x.ev s).data then some (.ptr fr 0,[(fr,0,(x.ev s).cells)])else none
 | .build zs parts=>(Cd zs (parts.map λp=>(p.1,p.2.1,p.2.2.ev s))).map λcs=>(.agg cs,[])
 | .bslice e sz parts=>
  if(parts.all λp=>(p.ev s).data&&(p.ev s).cells.length==sz&&(p.ev s).un.calm)then some (.slice false fr (parts.map λp=>(p.ev s).un),[(fr,0,[.tok (e+1)])])else none
 | .load k x=>match x.ev s,k with
  | .ptr i o,none=>(m i o).map λd=>(d,[])
  | .ptr i o,some n=>(Ah m i o n).map λds=>(.agg ds,[])
  | .eptr ds,none=>ds.head?.map λd=>(d,[])
  | .eptr ds,some n=>if n<=ds.length then some (.agg (ds.take n),[])else none
  |_,_=>none
 | .store n x v=>match x.ev s with
  | .ptr i o=>if(v.ev s).data=true∧(v.ev s).cells.length=n∧(Ah m i o n).isSome=true then some (.junk,[(i,o,(v.ev s).cells)])else none
  |_=>none
 | .nilchk x=>match x.ev s with
  | .ptr i o=>some (.ptr i o,[])
  | .eptr ds=>some (.eptr ds,[])
  | .fn f cs=>some (.fn f cs,[])
  |_=>none
 | .bin op x y=>(AJ op (x.ev s) (y.ev s)).map λd=>(d,[])
 | .beq ne x y=>match x.ev s,y.ev s with
  | .bool a,.bool b=>some (.bool ((a==b)!=ne),[])
  |_,_=>none
 | .seq ne offs x y=>match x.ev s,y.ev s with
  | .agg xs,.agg ys=>(Bn xs ys offs).map λb=>(.bool (b !=ne),[])
  |_,_=>none
 | .nileq ne k x y=>(NY k (x.ev s) (y.ev s)).map λb=>(.bool (b !=ne),[])
 | .un op x=>(xD op (x.ev s)).map λd=>(d,[])
 | .conv k x=>match x.ev s with
  | .int _ n=>some (.int k (k.wrap n),[])
  |_=>none
 | .s2s x=>match x.ev s with
  | .str b=>some (.str b,[])
  |_=>none
 | .s2b x=>match x.ev s with
  | .str b=>some (.slice false [] (Ax b),[])
  |_=>none
 | .b2s x=>match x.ev s with
  | .slice _ _ xs=>(BQ xs).map λb=>(.str b,[])
  |_=>none
 | .faddr off x=>match x.ev s with
  | .ptr i o=>some (.ptr i (o+off),[])
  | .eptr ds=>if off<=ds.length then some (.eptr (ds.drop off),[])else none
  |_=>none
 | .field k off x=>match x.ev s,k with
  | .agg cs,none=>cs[off]?.map λd=>(d,[])
  | .agg cs,some n=>if off+n<=cs.length then some (.agg ((cs.drop off).take n),[])else none
  |_,_=>none
 | .iaddr sz x i=>match x.ev s,i.ev s with
  | .slice _ _ xs,.int _ n=>if 0<=n then match xs[n.toNat]? with
   |some d=>if d.cells.length=sz then some (.eptr d.cells,[])else none
   |none=>none
   else none
  | .row i l,.int _ n=>if 0<=n∧n<(l:Int)then some (.ptr i (if sz=1 then n.toNat else n.toNat*sz),[])else none
  |_,_=>none
 | .idxs x i=>match x.ev s,i.ev s with
  | .str b,.int _ n=>if 0<=n then(b[n.toNat]?).map λc=>(.int .u8 c.toNat,[])else none
  |_,_=>none
 | .iadda len sz x i=>match x.ev s,i.ev s with
  | .ptr j o,.int _ n=>if 0<=n∧n<(len:Int)then some (.ptr j (o+n.toNat*sz),[])else none
  |_,_=>none
 | .idxm len sz x i=>match x.ev s,i.ev s with
  | .agg cs,.int _ n=>if 0<=n∧n<(len:Int)∧n.toNat*sz+sz<=cs.length then some (.agg ((cs.drop (n.toNat*sz)).take sz),[])else none
  |_,_=>none
 | .mxm mx x y=>match x.ev s,y.ev s with
  | .int k a,.int _ b=>some (.int k (if mx=true then max a b else min a b),[])
  |_,_=>none
 | .idxa len x i=>match x.ev s,i.ev s with
  | .agg cs,.int _ n=>if 0<=n∧n<(len:Int)then(cs[n.toNat]?).map λd=>(d,[])else none
  |_,_=>none
 | .cuts x lo hi=>match x.ev s with
  | .str b=>match GI s hi b.length b.length with
   |some h=>match GI s lo 0 h with
    |some l=>some (.str ((b.drop l).take (h-l)),[])
    |none=>none
   |none=>none
  |_=>none
 | .cutl sz x lo hi=>match x.ev s with
  | .slice nl _ xs=>if aE xs sz=sz then match GI s hi xs.length xs.length with
   |some h=>match GI s lo 0 h with
    |some l=>some (.slice nl [] ((xs.drop l).take (h-l)),[])
    |none=>none
   |none=>none
   else none
  |_=>none
 | .mkif t x=>if(x.ev s).data=true∧(x.ev s).un.calm=true then some (.iface t (x.ev s).un,[])else none
 | .tass t ok z x=>match x.ev s with
  | .iface t' d=>if t'=t then some (if ok then .tup [d,.bool true]else d,[])else if ok then some (.tup [z,.bool false],[])else none
  | .nilIface=>if ok then some (.tup [z,.bool false],[])else none
  |_=>none
 | .ext i x=>match x.ev s with
  | .tup vs=>vs[i]?.map λd=>(d,[])
  |_=>none
 | .mkfn f caps=>some (.fn f (caps.map (·.ev s)),[])
 | .len k x=>(dR k (x.ev s)).map λ(n:Nat)=>(.int .i64 (n:Int),[])
 | .stop=>none
 | .app e sz bytes x y=>match x.ev s,L5 sz (y.ev s)with
  | .slice nl t xs,some ys=>
   if nl=true∧ys=[]then some (.slice true [] [],[])
   else if(xs.length+ys.length)*(bytes+1)<=140737488355328∧aE ys sz=sz then
    if nl=true then some (.slice false fr ys,[(fr,0,[.tok (e+1)])])
    else match m t 0 with
     |some (.tok k)=>if k=e+1∧t≠[]then some (.slice false fr (xs++ys),[(t,0,[.tok 0]),(fr,0,[.tok (e+1)])])else none
     |_=>none
   else none
  |_,_=>none
 | .mksl e sz bytes z n c=>match n.ev s,c.ev s with
  | .int _ n,.int _ c=>if 0<=n∧n<=c∧c*(bytes+1)<=140737488355328∧z.cells.length=sz then(if z.isRw=true then(if n=c then some (.row fr n.toNat,[(fr,0,QM n.toNat z)])else none)
   else some (.slice false fr (QM n.toNat z),[(fr,0,[.tok (e+1)])]))else none
  |_,_=>none
 | .range x=>match x.ev s with
  | .str b=>some (.itp fr,[(fr,1,[.it b 0])])
  |_=>none
 | .next x=>match x.ev s with
  | .itp i=>match m i 1 with
   |some (.it b ba)=>if ba<b.length then
     some (.tup [.bool true,.int .i64 (ba:Nat),.int .i32 (Utf8.decode ⟨b.toArray⟩ ba).1],[(i,1,[.it b (ba+(Utf8.decode ⟨b.toArray⟩ ba).2)])])
    else some (.tup [.bool false],[])
   |_=>none
  |_=>none
 | .call f xs=>match f.ev s with
  | .fn f caps=>match S f with
   |some q=>q.ex (xs.map (·.ev s)++caps) m fr
   |none=>none
  |_=>none
def ofLeaf:Value->Option D
 | .bool b=>some (.bool b)
 | .int k n=>some (.int k n)
 | .string s=>some (.str s.data.toList)
 | .slice none 0 0=>some (.slice true [] [])
 | .pointer none=>some .nilptr
 | .nilIface=>some .nilIface
 | .nilFunc=>some .nilFunc
 | .map none=>some .nilMap
 |_=>none
def ofLeaves:List Value->Option (List D)
 |[]=>some []
 |v::r=>match ofLeaf v,ofLeaves r with
  |some d,some ds=>some (d::ds)
  |_,_=>none
def ofVal:Value->Option D
 | .agg cs=>(ofLeaves cs.toList).map .agg
 |v=>ofLeaf v
def AK:Operand->Option Ip
 | .tmp t=>some (.t t)
 | .const v=>(ofVal v).map .c
 | .func f=>some (.c (.fn f []))
 | .global _=>none
def EF:List Operand->Option (List Ip)
 |[]=>some []
 |x::r=>match AK x,EF r with
  |some a,some l=>some (a::l)
  |_,_=>none
def Lm:Option Operand->Option (Option Ip)
 |none=>some none
 |some x=>(AK x).map some
def Dm(P:Program)(t:TypeId):Option Nat:=(P.info? t).map (·.size)
def qX(P:Program)(t:TypeId):Option (Option Nat):=
 match P.underlying t with
 |some (.struct _)|some (.array _ _)=>(Dm P t).map some
 |some _=>some none
 |none=>none
def DL(P:Program)(t:TypeId):Option D:=
 match P.info? t with
 |some i=>match i.zero with
  |some z=>ofVal z
  |none=>none
 |none=>none
def L2(P:Program)(e:TypeId):Option (Nat×Nat):=
 match P.info? e with
 |some i=>match i.zero with
  |some z=>if 0<i.size∧z.cells.size=i.size then some (i.size,i.bytes)else none
  |none=>none
 |none=>none
def L1{P:Program}{e sz bytes:Nat}(h:L2 P e=some (sz,bytes)):
  0<sz∧∃i z,P.info? e=some i∧i.size=sz∧i.zero=some z∧z.cells.size=sz∧i.bytes=bytes:=by
 unfold L2 at h;split at h
 ·grind
 ·cases h
def Eb(P:Program)(c:Array Field):List (Nat×Operand)->Option (List (Nat×Nat×Ip))
 |[]=>some []
 |(i,x)::r=>match c[i]?,AK x,Eb P c r with
  |some f,some y,some l=>match Dm P f.type with
   |some n=>some ((f.offset,n,y)::l)
   |none=>none
  |_,_,_=>none
def eS(P:Program)(x:List Field):Bool:=x.all λf=>(Dm P f.type).isSome
def Nx(P:Program):List Field->Option (List (Nat×Nat))
 |[]=>some []
 |f::r=>if f.name= "_" then none else match P.underlying f.type,Nx P r with
  |some (.int _),some l=>some ((0,f.offset)::l)
  |some .bool,some l=>some ((1,f.offset)::l)
  |some .string,some l=>some ((2,f.offset)::l)
  |_,_=>none
def GE(P:Program):List Field->Option (List (Nat×Nat))
 |[]=>some []
 |f::r=>if f.name= "_" then none else match P.underlying f.type,GE P r with
  |some (.int _),some l=>some ((0,f.offset)::l)
  |some .bool,some l=>some ((1,f.offset)::l)
  |some .string,some l=>some ((2,f.offset)::l)
  |some (.struct fs),some l=>match Dm P f.type,Nx P fs.toList with
   |some n,some l2=>if P.stoodInHeld f.type=false∧(l2.all λp=>decide (p.2<n))=true then some ((l2.map λp=>(p.1,f.offset+p.2))++l)else none
   |_,_=>none
  |_,_=>none
def HZ:Operand->Bool
 | .const _=>true
 |_=>false
def Vb(P:Program)(ne:Bool)(t:TypeId)(x y:Operand)(a b:Ip):Option DOp:=
 match P.underlying t with
 |some .bool=>some (.beq ne a b)
 |some (.int _)|some .string=>some (.bin (if ne then .neq else .eql) a b)
 |some (.struct fs)=>if P.stoodInHeld t=false∧P.eqGuardType P.depth t=false then(GE P fs.toList).map λl=> .seq ne l a b else none
 |some (.slice _)=>some (.nileq ne 0 a b)
 |some (.pointer _)=>some (.nileq ne 1 a b)
 |some (.func ..)=>some (.nileq ne 3 a b)
 |some (.interface _)=>if HZ x||HZ y then some (.nileq ne 2 a b)else none
 |_=>none
def isStr(P:Program)(u:TypeId):Bool:=match P.underlying u with
 |some .string=>true
 |_=>false
def lB{P:Program}{u:TypeId}(h:isStr P u=true):P.underlying u=some .string:=by
 grind [isStr]
def HG(P:Program)(c:Call):Option DOp:=
 match c.callee with
 | .value f=>match AK f,EF c.args.toList with
  |some g,some xs=>some (.call g xs)
  |_,_=>none
 | .builtin .len=>match c.args.toList,c.argTypes.toList with
  |[x],[t]=>match P.underlying t with
   |some .string=>(AK x).map (.len true)
   |some (.slice _)=>(AK x).map (.len false)
   |_=>none
  |_,_=>none
 | .builtin .append=>match c.args.toList,c.argTypes.toList with
  |[x,y],[t,u]=>if u=t∨isStr P u=true then match P.underlying t with
   |some (.slice e)=>match L2 P e,AK x,AK y with
    |some (sz,bytes),some a,some b=>some (.app e sz bytes a b)
    |_,_,_=>none
   |_=>none
   else none
  |_,_=>none
 | .builtin .max=>match c.args.toList with
  |[x,y]=>match AK x,AK y with
   |some a,some b=>some (.mxm true a b)
   |_,_=>none
  |_=>none
 | .builtin .min=>match c.args.toList with
  |[x,y]=>match AK x,AK y with
   |some a,some b=>some (.mxm false a b)
   |_,_=>none
  |_=>none
 |_=>none
def Hn(sz:Nat):List (Nat×Operand)->Option (List (Nat×Nat×Ip))
 |[]=>some []
 |(i,x)::r=>match AK x,Hn sz r with
  |some a,some l=>some ((i*sz,sz,a)::l)
  |_,_=>none
def tr(P:Program)(op:Op):Option DOp:=
 match op with
 | .move x| .assign x=>(AK x).map .mv
 | .pick c a b=>match AK c,AK a,AK b with
  |some c,some a,some b=>some (.pick c a b)
  |_,_,_=>none
 | .alloc t=>(DL P t).map λd=> .alloc d.cells
 | .box _ x=>(AK x).map .box
 | .build t parts=>match P.underlying t,DL P t with
  |some (.struct fields),some (.agg zs)=>if eS P fields.toList=true then(Eb P fields parts.toList).map λl=> .build zs l else none
  |some (.array _ e),some (.agg zs)=>match Dm P e with
   |some sz=>(Hn sz parts.toList).map λl=> .build zs l
   |none=>none
  |_,_=>none
 | .buildSlice t len parts=>match P.underlying t with
  |some (.slice e)=>match L2 P e,EF (parts.toList.map (·.2))with
   |some (sz,_),some l=>if parts.toList.map (·.1)=QF len∧len*sz<=2 ^ 24 then some (.bslice e sz l)else none
   |_,_=>none
  |_=>none
 | .load t x=>match qX P t,AK x with
  |some k,some x=>some (.load k x)
  |_,_=>none
 | .store t x v=>match Dm P t,AK x,AK v with
  |some (n+1),some x,some v=>some (.store (n+1) x v)
  |_,_,_=>none
 | .nilCheck x=>(AK x).map .nilchk
 | .binOp .eql t x y _=>match AK x,AK y with
  |some a,some b=>Vb P false t x y a b
  |_,_=>none
 | .binOp .neq t x y _=>match AK x,AK y with
  |some a,some b=>Vb P true t x y a b
  |_,_=>none
 | .binOp op _ x y _=>match AK x,AK y with
  |some a,some b=>some (.bin op a b)
  |_,_=>none
 | .unOp op _ x=>(AK x).map (.un op)
 | .convert src dst x=>match P.underlying src,P.underlying dst,AK x with
  |some (.int _),some (.int k),some x=>some (.conv k x)
  |some .string,some .string,some x=>some (.s2s x)
  |some .string,some (.slice e),some x=>match P.underlying e with
   |some (.int .u8)=>some (.s2b x)
   |_=>none
  |some (.slice e),some .string,some x=>match P.underlying e with
   |some (.int .u8)=>some (.b2s x)
   |_=>none
  |_,_,_=>none
 | .fieldAddr t x f=>match P.underlying t,AK x with
  |some (.struct fields),some x=>match fields[f]? with
   |some m=>match Dm P m.type with
    |some (_+1)=>some (.faddr m.offset x)
    |_=>none
   |none=>none
  |_,_=>none
 | .field t x f=>match P.underlying t,AK x with
  |some (.struct fields),some x=>match fields[f]? with
   |some m=>(qX P m.type).map λk=> .field k m.offset x
   |none=>none
  |_,_=>none
 | .indexAddr t x i=>match P.underlying t,AK x,AK i with
  |some (.slice e),some x,some i=>(Dm P e).map λn=> .iaddr n x i
  |some (.array len e),some x,some i=>(Dm P e).map λn=> .iadda len n x i
  |_,_,_=>none
 | .index t x i=>match P.underlying t,AK x,AK i with
  |some .string,some x,some i=>some (.idxs x i)
  |some (.array len e),some x,some i=>match qX P e with
   |some none=>if Dm P e=some 1 then some (.idxa len x i)else none
   |some (some sz)=>some (.idxm len sz x i)
   |none=>none
  |_,_,_=>none
 | .slice t x lo hi none=>match P.underlying t,AK x,Lm lo,Lm hi with
  |some .string,some x,some l,some h=>some (.cuts x l h)
  |some (.slice e),some x,some l,some h=>(Dm P e).map λn=> .cutl n x l h
  |_,_,_,_=>none
 | .makeInterface t x=>match P.underlying t,AK x with
  |some (.interface _),_=>none
  |some _,some x=>some (.mkif t x)
  |_,_=>none
 | .typeAssert x _ t ok=>match P.underlying t,DL P t,AK x with
  |some (.interface _),_,_=>none
  |some _,some z,some x=>some (.tass t ok z x)
  |_,_,_=>none
 | .extract x i=>(AK x).map (.ext i)
 | .makeFunc (.func f) first caps=>match first.toList,EF caps.toList with
  |[],some l=>some (.mkfn f l)
  |_,_=>none
 | .makeSlice t n c=>match P.underlying t with
  |some (.slice e)=>match L2 P e,DL P e,AK n,AK c with
   |some (sz,bytes),some z,some n,some c=>some (.mksl e sz bytes z n c)
   |_,_,_,_=>none
  |_=>none
 | .range t x=>match P.underlying t,AK x with
  |some .string,some x=>some (.range x)
  |_,_=>none
 | .next x true=>(AK x).map .next
 | .call c=>HG P c
 |_=>none
def Im.ofLeaf{w:World}{g:Gh}{v:Value}{d:D}(h:ofLeaf v=some d):Im w g d v∧v.oneCell'=true∧d.leaf=true:=by
 unfold Vd.ofLeaf at h;split at h<;>first|(simp only[Qn]at h;subst h)|cases h
 ·exact⟨.bool _,rfl,rfl⟩
 ·exact⟨.int _ _,rfl,rfl⟩
 ·rename_i s;exact⟨.str s.data.toList,rfl,rfl⟩
 ·exact⟨.nils _,rfl,rfl⟩
 ·exact⟨.nilp,rfl,rfl⟩
 ·exact⟨.nili,rfl,rfl⟩
 ·exact⟨.nilf,rfl,rfl⟩
 ·exact⟨.nilm,rfl,rfl⟩
def A8.ofLeaves{w:World}{g:Gh}:∀{vs:List Value} {ds:List D},ofLeaves vs=some ds->A8 w g ds vs
 |[],ds,h=>by simp only[Vd.ofLeaves,Qn]at h;subst h;exact A8.nil w g
 |v::r,ds,h=>by
  unfold Vd.ofLeaves at h;split at h
  ·rename_i d c u f;simp only[Qn]at h;subst h;obtain⟨p,q,_⟩:=Im.ofLeaf (w:=w) (g:=g) u;exact A8.append (A8.one p q) (A8.ofLeaves f)
  ·cases h
def aJ{w:World}{g:Gh}{ds:List D}{vs:List Value}(h:A8 w g ds vs):Im w g (.agg ds) (.agg vs.toArray):= .agg ds vs h.1 h.2.1 h.2.2
def aG{w:World}{g:Gh}{ds:List D}{v:Value}(h:Im w g (.agg ds) v):∃vs:List Value,v= .agg vs.toArray∧A8 w g ds vs:=by
 cases h with
 |agg _ vs u q o=>exact⟨vs,rfl,u,q,o⟩
theorem Im.ofVal{w:World}{g:Gh}{v:Value}{d:D}(h:ofVal v=some d):Im w g d v:=by
 cases v with
 |agg cs=>
  simp only[Vd.ofVal,Qo]at h;obtain⟨ds,u,rfl⟩:=h;exact aJ (A8.ofLeaves u)
 |_=>simp only[Vd.ofVal]at h;exact(Im.ofLeaf h).1
def PC{v:Value}{d:D}(h:ofLeaf v=some d):d.data=true:=by
 unfold ofLeaf at h;split at h<;>first|(simp only[Qn]at h;subst h;rfl)|cases h
def Ef(w:World)(g:Gh)(s:Nat->D)(a:Act):Prop:=∀t,Im w g (s t) (a.tmps.getD t undef)
def Ef.ext{w n:World}{g l:Gh}{s:Nat->D}{a:Act}(h:Ef w g s a)(x:IF w g n l):Ef n l s a:=λt=>(h t).ext x
section
variable{P:Program}{w:World}{g:Gh}{s:Nat->D}{a:Act}
def Ef.arg(h:Ef w g s a){x:Operand}{y:Ip}(p:AK x=some y):Im w g (y.ev s) (a.eval x):=by
 cases x with
 |tmp t=>simp only[AK,Qn]at p;subst p;exact h t
 |const v=>
  simp only[AK,Qo]at p;obtain⟨d,u,rfl⟩:=p;exact Im.ofVal u
 |func f=>
  simp only[AK,Qn]at p;subst p;exact .fn f [] [] rfl U
 |global _=>cases p
def Ef.args(h:Ef w g s a):∀{xs:List Operand} {ys:List Ip},EF xs=some ys->
  (xs.map a.eval).length=(ys.map (·.ev s)).length∧∀(j:Nat) d v,(ys.map (·.ev s))[j]?=some d->(xs.map a.eval)[j]?=some v->Im w g d v
 |[],ys,hx=>by simp only[EF,Qn]at hx;subst hx;simp
 |x::r,ys,hx=>by
  unfold EF at hx;split at hx
  ·rename_i y l u f;simp only[Qn]at hx;subst hx;obtain⟨p,q⟩:=Ef.args h f;refine⟨by simpa using p,λj d v k t=>?_⟩;cases j with
   |zero=>
    simp only[QE,QQ,Qn]at k t;subst k t;exact h.arg u
   |succ j=>
    simp only[QE,Zt]at k t;exact q j d v k t
  ·cases hx
def Im.bool_inv{b:Bool}{v:Value}(h:Im w g (.bool b) v):v= .bool b:=XA
def Im.int_inv{k:IntKind}{n:Int}{v:Value}(h:Im w g (.int k n) v):v= .int k n:=XA
def Im.str_inv{b:List UInt8}{v:Value}(h:Im w g (.str b) v):v= .string ⟨b.toArray⟩:=XA
def Im.cells{d:D}{v:Value}(h:Im w g d v)(l:d.data=true):A8 w g d.cells v.cells.toList:=by
 cases h with
 |agg ds vs u q y=>exact(⟨u,q,y⟩:A8 w g ds vs)
 |junk=>cases l
 |tup=>cases l
 |bool b=>exact A8.one (.bool b) rfl
 |int k n=>exact A8.one (.int k n) rfl
 |str b=>exact A8.one (.str b) rfl
 |nils t=>exact A8.one (.nils t) rfl
 |slice t xs a n c sz z u q y e m x h7 p h9=>exact A8.one (.slice t xs a n c sz z u q y e m x h7 p h9) rfl
 |ptr i o b u=>exact A8.one (.ptr i o b u) rfl
 |row i n c b r u=>exact A8.one (.row i n c b r u) rfl
 |eptr ds a z u q y e m=>exact A8.one (.eptr ds a z u q y e m) rfl
 |nilp=>exact A8.one .nilp rfl
 |iface t d v u q=>exact A8.one (.iface t d v u q) rfl
 |nili=>exact A8.one .nili rfl
 |fn f ds vs u q=>exact A8.one (.fn f ds vs u q) rfl
 |nilf=>exact A8.one .nilf rfl
 |nilm=>exact A8.one .nilm rfl
 |itp i b u=>exact A8.one (.itp i b u) rfl
end
end Go.Vd
namespace Go.Vd
open Go.RowKit
structure aRI (P:Program) (B:Nat) (w0:World) (m:Ig) (g:Gh) (fr:Id) (w:World) (m':Ig) (d:D) (v':Value) (w':World) (g':Gh):Prop where
 inv:Iv P B w0 m' w' g'
 ext:IF w g w' g'
 rep:Im w' g' d v'
 fresh:∀i,Cp m g i->¬fr<:+i->Cp m' g' i
def DH(P:Program)(B:Nat)(w0:World)(m:Ig)(g:Gh)(fr:Id)(w:World)(m':Ig)(d:D)(x:Sem Next):Prop:=
 ∃a n l r,x.run P w= .ok r n∧(r= .value a∨(r= .skip∧a=undef))∧aRI P B w0 m g fr w m' d a n l
section
variable{P:Program}{B:Nat}{w0 w:World}{m:Ig}{g:Gh}{fr:Id}{s:Nat->D}{a:Act}
def DH.pure{x:Sem Next}{v:Value}{d:D}(hi:Iv P B w0 m w g)(y:x.run P w= .ok (.value v) w)(l:Im w g d v):DH P B w0 m g fr w m d x:=
 ⟨v,w,g,_,y,.inl rfl,hi,IF.refl w g,l,λ_ h _=>h⟩
theorem Im.slice_inv {nl : Bool} {t : Id} {xs : List D} {v : Value} (h : Im w g (.slice nl t xs) v) :
  (nl = true ∧ xs = [] ∧ v = .slice none 0 0) ∨
  (nl = false ∧ ∃ ad n c sz, ∃ vv : Nat → Value, v = .slice (some ad) n c ∧ n = xs.length ∧ n ≤ c ∧ (∀ d ∈ xs, d.cells.length = sz) ∧
   (∀ j, j < n * sz → w.cell? (ad.add j) = some (vv j)) ∧ (∀ j, j < n * sz → (vv j).oneCell' = true) ∧
   (∀ (j : Nat) d, (flat xs)[j]? = some d → Im w g d (vv j)) ∧ (0 < n * sz → ad.off + n * sz ≤ g.G ad.block) ∧
   (t ≠ [] → ad.off = 0 ∧ ad.spot = none ∧ g.tb t = some (ad.block, n, c, sz)) ∧ (∀ d ∈ xs, d.calm = true)) := by
 cases h with
 | nils t => exact .inl ⟨rfl, rfl, rfl⟩
 | slice t xs ad n c sz vv h1 h2 h3 h4 h5 h6 h7 h8 h9 => exact .inr ⟨rfl, ad, n, c, sz, vv, rfl, h1, h2, h3, h4, h5, h6, h7, h8, h9⟩
def Im.len_slice{nl:Bool}{t:Id}{xs:List D}{v:Value}(h:Im w g (.slice nl t xs) v):∃ad c,v= .slice ad xs.length c∧(nl=ad.isNone):=by
 rcases h.slice_inv with ⟨rfl,rfl,rfl⟩|⟨rfl,ad,n,c,sz,z,rfl,rfl,_⟩
 ·exact⟨none,0,rfl,rfl⟩
 ·exact⟨some ad,c,rfl,rfl⟩
def Im.ptr_inv{i:Id}{o:Nat}{v:Value}(h:Im w g (.ptr i o) v):∃b,v= .pointer (some ⟨b,o,none⟩)∧g.dl i=some b:=by
 cases h with
 |ptr _ _ b j=>exact⟨b,rfl,j⟩
def Im.row_inv{i:Id}{n:Nat}{v:Value}(h:Im w g (.row i n) v):∃b c,v= .slice (some ⟨b,0,none⟩) n c∧n<=c∧g.dl i=some b:=by
 cases h with
 |row _ _ c b k j=>exact⟨b,c,rfl,k,j⟩
def Im.eptr_inv{ds:List D}{v:Value}(h:Im w g (.eptr ds) v):∃ad,∃z:Nat->Value,v= .pointer (some ad)∧(∀j,j<ds.length->w.cell? (ad.add j)=some (z j))∧
  (∀j,j<ds.length->(z j).oneCell'=true)∧(∀(j:Nat) d,ds[j]?=some d->Im w g d (z j))∧(0<ds.length->ad.off+ds.length<=g.G ad.block)∧(∀d∈ds,d.calm=true):=by
 cases h with
 |eptr _ ad z u q o b m=>exact⟨ad,z,rfl,u,q,o,b,m⟩
def Im.tup_inv{ds:List D}{v:Value}(h:Im w g (.tup ds) v):∃vs:List Value,v= .tuple vs.toArray∧vs.length=ds.length∧∀(j:Nat) d v,ds[j]?=some d->vs[j]?=some v->Im w g d v:=by
 cases h with
 |tup _ vs u q=>exact⟨vs,rfl,u,q⟩
def Im.iface_inv{t:TypeId}{d:D}{v:Value}(h:Im w g (.iface t d) v):∃u,v= .iface t u∧Im w g d u∧d.calm=true:=by
 cases h with
 |iface _ _ u q f=>exact⟨u,rfl,f,q⟩
def Im.fn_inv{f:FuncId}{ds:List D}{v:Value}(h:Im w g (.fn f ds) v):∃vs:List Value,v= .func (.func f) #[] vs.toArray∧vs.length=ds.length∧∀(j:Nat) d v,ds[j]?=some d->vs[j]?=some v->Im w g d v:=by
 cases h with
 |fn _ _ vs u q=>exact⟨vs,rfl,u,q⟩
def Im.nilp_inv{v:Value}(h:Im w g .nilptr v):v= .pointer none:=XA
def Im.nili_inv{v:Value}(h:Im w g .nilIface v):v= .nilIface:=XA
def Im.nilf_inv{v:Value}(h:Im w g .nilFunc v):v= .nilFunc:=XA
def LT(op:BinOp)(t:TypeId)(x y:Operand)(o f:Value)(h:∀cs,o≠ .agg cs)(q:o≠ .nilIface)(W:World):(eqGuard op t x y o f).run P W= .ok () W:=by
 cases o with
 |nilIface=>exact absurd rfl q
 |agg c=>exact absurd rfl (h c)
 |_=>cases op<;>rfl
theorem UY {op:BinOp} {t:TypeId} {x y:D} {d:D} {o f:Value} (p:Im w g x o) (m:Im w g y f) (h:AJ op x y=some d):
  ∃v,(binOp op t o f).run P w= .ok v w∧Im w g d v∧(∀cs,o≠ .agg cs)∧o≠ .nilIface:=by
 unfold AJ at h
 split at h
 ·rename_i k n k' a
  rw[p.int_inv,m.int_inv]
  split at h
  ·split at h
   ·rename_i i
    simp only[Qn]at h;subst h
    refine⟨_,?_,.int _ _,U,U⟩
    have:¬a<0:=O
    simp[binOp,Op.shift,this]
   ·cases h
  ·split at h
   ·rename_i i
    simp only[Qn]at h;subst h
    refine⟨_,?_,.int _ _,U,U⟩
    have:¬a<0:=O
    simp[binOp,Op.shift,this]
   ·cases h
  ·rename_i u q
   by_cases j:k≠k'
   ·rw[if_pos j]at h;cases h
   rw[if_neg j]at h
   have j:k=k':=Classical.not_not.1 j
   subst j
   cases op<;>simp only[reduceCtorEq,Qn]at h<;>
    first
    |(subst h;first
      |exact⟨_,by simp[binOp,Op.intArith,intBits_and,intBits_or,intBits_xor,intBits_andNot,Op.intCmp],.int _ _,U,U⟩
      |exact⟨_,by simp[binOp,Op.intCmp],.bool _,U,U⟩)
    |(exact absurd rfl u)
    |(exact absurd rfl q)
    |(
     split at h
     ·cases h
     ·rename_i r
      simp only[Qn]at h;subst h
      exact⟨_,by simp[binOp,Op.intDiv,r],.int _ _,U,U⟩)
 ·rename_i b c
  rw[p.str_inv,m.str_inv]
  split at h
  ·split at h
   ·rename_i z
    simp only[Qn]at h;subst h
    refine⟨.string ⟨(b++c).toArray⟩,?_,.str _,U,U⟩
    have:=run_string_add_sum (P:=P) (w:=w) ⟨b.toArray⟩ ⟨c.toArray⟩ (by simpa[ByteArray.size]using z)
    simp only[binOp,this]
    congr 2
   ·cases h
  all_goals first|(cases h;done)|skip
  all_goals
   simp only[Qn]at h;subst h
   exact⟨_,by simp[binOp,Op.stringOp,ByteArray.toList_mk],.bool _,U,U⟩
 ·cases h
def aAA{op:UnOp}{x d:D}{o:Value}(p:Im w g x o)(h:xD op x=some d):∃v,(Op.unary op o).run P w= .ok v w∧Im w g d v:=by
 unfold xD at h;split at h
 ·simp only[Qn]at h;subst h;rw[p.int_inv];exact⟨_,by simp[Op.unary,Op.intArith],.int _ _⟩
 ·simp only[Qn]at h;subst h;rw[p.bool_inv];exact⟨_,by simp[Op.unary],.bool _⟩
 ·simp only[Qn]at h;subst h;rw[p.int_inv];exact⟨_,by simp only[Op.unary,intBits_xor];rfl,.int _ _⟩
 ·cases h
end
section
variable{P:Program}{B:Nat}{w0 w:World}{m:Ig}{g:Gh}{fr:Id}{s:Nat->D}{a:Act}
def H6:TypeDesc->Bool
 | .struct _| .array _ _=>true
 |_=>false
def CX{t:TypeId}{d:TypeDesc}(m:P.underlying t=some d)(l:H6 d=false){cs:Array Value}{o:Nat}{v:Value}(r:cs[o]?=some v):
  (part t cs o).run P w= .ok v w:=by
 unfold part isAgg;simp only[Sem.run_bind,run_underlying m];cases d<;>simp_all [H6]
def Fy{k:Nat}{x y:D}{o f:Value}{b:Bool}{t:TypeId}{l:TypeDesc}(p:Im w g x o)(d:Im w g y f)(h:LJ k x y=some b)(m:P.underlying t=some l)
  (v:(k=0∧∃k,l= .int k)∨(k=1∧l= .bool)∨(k=2∧l= .string)) (n:Nat):(Op.equalIn (n+1) t o f).run P w= .ok b w:=by
 unfold LJ at h;split at h
 ·rename_i r a s z;split at h
  ·rename_i j;subst j;simp only[Qn]at h;subst h;rw[p.int_inv,d.int_inv];rcases v with ⟨_,k',rfl⟩|⟨u,_⟩|⟨u,_⟩
   ·exact run_equalIn_int w n t _ _ _ _ m
   ·cases u
   ·cases u
  ·cases h
 ·simp only[Qn]at h;subst h;rw[p.bool_inv,d.bool_inv];rcases v with ⟨u,_⟩|⟨_,rfl⟩|⟨u,_⟩
  ·cases u
  ·exact run_equalIn_bool' w n t _ _ m
  ·cases u
 ·simp only[Qn]at h;subst h;rw[p.str_inv,d.str_inv];rcases v with ⟨u,_⟩|⟨u,_⟩|⟨_,rfl⟩
  ·cases u
  ·cases u
  ·rw[run_equalIn_string w n t _ _ m];simp[ByteArray.toList_mk]
 ·cases h
def N2{xs ys:List D}{vx vy:List Value}(p:A8 w g xs vx)(d:A8 w g ys vy)(n:Nat):∀{fs:List Field} {l:List (Nat×Nat)} {b:Bool},
  Nx P fs=some l->Bn xs ys l=some b->(Op.eqFields (n+1) vx.toArray vy.toArray fs).run P w= .ok b w
 |[],l,b,h1,h2=>by
  simp only[Nx,Qn]at h1;subst h1;simp only[Bn,Qn]at h2;subst h2;rfl
 |f::r,l,b,h1,h2=>by
  unfold Nx at h1;split at h1
  ·cases h1
  rename_i i;have ia:∃k t s,P.underlying f.type=some s∧Nx P r=some t∧l=(k,f.offset)::t∧((k=0∧∃k,s= .int k)∨(k=1∧s= .bool)∨(k=2∧s= .string)):=by
   grind
  obtain⟨k,t,s,m,q,rfl,z⟩:=ia;unfold Bn at h2;split at h2
  ·rename_i x y h ey;have c:f.offset<vx.length:=by rw[p.1];exact(Qr.1 h).1
   have a:f.offset<vy.length:=by rw[d.1];exact(Qr.1 ey).1
   have rx:=p.2.2 _ x vx[f.offset] h (Qp c);have ry:=d.2.2 _ y vy[f.offset] ey (Qp a);have u:H6 s=false:=Y_
   have px:=CX (w:=w) m u (cs:=vx.toArray) (o:=f.offset) (v:=vx[f.offset]) (by simp[c]);have py:=CX (w:=w) m u (cs:=vy.toArray) (o:=f.offset) (v:=vy[f.offset]) (by simp[a]);have ih:=λb' (hb:Bn xs ys t=some b')=>N2 p d n q hb
   split at h2
   ·rename_i j;have e:=Fy rx ry j m z n;simp only[Op.eqFields,ne_eq,i,not_false_eq_true,if_true,Sem.run_bind,px,Result.andThen_ok,py,e,ZF,QT,if_false];exact ih b h2
   ·rename_i j;have e:=Fy rx ry j m z n;simp only[Qn]at h2;subst h2;simp only[Op.eqFields,ne_eq,i,not_false_eq_true,if_true,Sem.run_bind,px,Result.andThen_ok,py,e,Zn,if_true,Sem.run_pure]
   ·cases h2
  ·cases h2
def A8.part{ds:List D}{vs:List Value}(h:A8 w g ds vs)(o n:Nat):A8 w g ((ds.drop o).take n) ((vs.drop o).take n):=by
 refine⟨by simp[h.1],λv t=>h.2.1 v (QJ (QO t)),λj d v l t=>?_⟩;rw[ZG]at l t;split at l
 ·rw[if_pos XY]at t;rw[QI]at l t;exact h.2.2 _ d v l t
 ·cases l
def MW{xs ys:List D}{o n:Nat}{l:List (Nat×Nat)}{b:Bool}:∀{l2:List (Nat×Nat)},(l2.all λp=>decide (p.2<n))=true->Bn xs ys ((l2.map λp=>(p.1,o+p.2))++l)=some b->
  ∃m,Bn ((xs.drop o).take n) ((ys.drop o).take n) l2=some m∧(m=true->Bn xs ys l=some b)∧(m=false->b=false)
 |[],_,h=>⟨true,rfl,λ_=>h,λh=>Xd⟩
 |(k,q)::r,hn,h=>by
  rw[List.all_cons,Q5,decide_eq_true_eq]at hn;obtain⟨s,hr⟩:=hn;have w:∀zs:List D,((zs.drop o).take n)[q]?=zs[o+q]?:=λzs=>by
   rw[ZG,if_pos s,QI]
  simp only[QE,Ze,Bn]at h ⊢;rw[w,w];split at h
  ·rename_i x y e1 e2;revert h;cases LJ k x y with
   |none=>intro h;cases h
   |some v=>
    cases v with
    |true=>intro h;exact MW hr h
    |false=>
     intro h;simp only[Qn]at h;exact⟨false,rfl,λe=>(nomatch e),λ_=>h.symm⟩
  ·cases h
def La{t:TypeId}{n:Nat}{e:Array Field}(m:P.underlying t=some (.struct e))(f:Dm P t=some n){cs:List Value}{o:Nat}:
  (part t cs.toArray o).run P w= .ok (.agg ((cs.drop o).take n).toArray) w:=by
 unfold Dm at f;rw[Qo]at f;obtain⟨i,hi,rfl⟩:=f;unfold part isAgg;simp only[Sem.run_bind,run_underlying m,Result.andThen_ok,Sem.run_pure,if_true];simp[sizeOf,typeInfo,hi,List.extract]
def GT{xs ys:List D}{vx vy:List Value}(hx:A8 w g xs vx)(hy:A8 w g ys vy)(n:Nat):∀{fs:List Field} {l:List (Nat×Nat)} {b:Bool},
  GE P fs=some l->Bn xs ys l=some b->(Op.eqFields (n+2) vx.toArray vy.toArray fs).run P w= .ok b w
 |[],l,b,h1,h2=>by
  simp only[GE,Qn]at h1;subst h1;simp only[Bn,Qn]at h2;subst h2;rfl
 |f::r,l,b,h1,h2=>by
  unfold GE at h1;split at h1
  ·cases h1
  rename_i i;have ia:(∃k t td,P.underlying f.type=some td∧GE P r=some t∧l=(k,f.offset)::t∧((k=0∧∃k,td= .int k)∨(k=1∧td= .bool)∨(k=2∧td= .string)))∨
    ∃d t l2 sz,P.underlying f.type=some (.struct d)∧GE P r=some t∧Dm P f.type=some sz∧Nx P d.toList=some l2∧P.stoodInHeld f.type=false∧(l2.all λp=>decide (p.2<sz))=true∧l=(l2.map λp=>(p.1,f.offset+p.2))++t:=by
   split at h1
   ·simp_all
   ·simp_all
   ·simp_all
   ·grind
   ·cases h1
  rcases ia with ⟨k,t,td,h,hl,rfl,z⟩|⟨d,t,l2,sz,h,hl,pa,ea,m,s,rfl⟩
  ·unfold Bn at h2;split at h2
   ·rename_i x y ex ey;have c:f.offset<vx.length:=by rw[hx.1];exact(Qr.1 ex).1
    have a:f.offset<vy.length:=by rw[hy.1];exact(Qr.1 ey).1
    have rx:=hx.2.2 _ x vx[f.offset] ex (Qp c);have ry:=hy.2.2 _ y vy[f.offset] ey (Qp a);have u:H6 td=false:=Y_
    have px:=CX (w:=w) h u (cs:=vx.toArray) (o:=f.offset) (v:=vx[f.offset]) (by simp[c]);have py:=CX (w:=w) h u (cs:=vy.toArray) (o:=f.offset) (v:=vy[f.offset]) (by simp[a]);have ih:=λb' (hb:Bn xs ys t=some b')=>GT hx hy n hl hb
    split at h2
    ·rename_i j;have e:=Fy rx ry j h z (n+1);simp only[Op.eqFields,ne_eq,i,not_false_eq_true,if_true,Sem.run_bind,px,Result.andThen_ok,py,e,ZF,QT,if_false];exact ih b h2
    ·rename_i j;have e:=Fy rx ry j h z (n+1);simp only[Qn]at h2;subst h2;simp only[Op.eqFields,ne_eq,i,not_false_eq_true,if_true,Sem.run_bind,px,Result.andThen_ok,py,e,Zn,if_true,Sem.run_pure]
    ·cases h2
   ·cases h2
  ·obtain⟨b2,ra,ht,hf⟩:=MW s h2;have px:=La (w:=w) h pa (cs:=vx) (o:=f.offset);have py:=La (w:=w) h pa (cs:=vy) (o:=f.offset);have q:P.fieldsOf f.type=d:=by simp[Program.fieldsOf,h]
   have e:(Op.equalIn (n+2) f.type (.agg ((vx.drop f.offset).take sz).toArray) (.agg ((vy.drop f.offset).take sz).toArray)).run P w= .ok b2 w:=by
    rw[run_equalIn_struct w (n+1) f.type _ _ (by rw[q];exact h) m,q];exact N2 (hx.part f.offset sz) (hy.part f.offset sz) n ea ra
   cases b2 with
   |true=>
    simp only[Op.eqFields,ne_eq,i,not_false_eq_true,if_true,Sem.run_bind,px,Result.andThen_ok,py,e,ZF,QT,if_false];exact GT hx hy n hl (ht rfl)
   |false=>
    rw[hf rfl];simp only[Op.eqFields,ne_eq,i,not_false_eq_true,if_true,Sem.run_bind,px,Result.andThen_ok,py,e,Zn,if_true,Sem.run_pure]
def Vf{xs ys:List D}{o f:Value}{b:Bool}{t:TypeId}{e:Array Field}{l:List (Nat×Nat)}(p:Im w g (.agg xs) o)(d:Im w g (.agg ys) f)
  (hu:P.underlying t=some (.struct e)) (m:P.stoodInHeld t=false) (n:P.eqGuardType P.depth t=false) (z:GE P e.toList=some l) (h:Bn xs ys l=some b) (x y:Operand) (op:BinOp):
  (Op.equal t o f).run P w= .ok b w∧(eqGuard op t x y o f).run P w= .ok () w:=by
 obtain⟨j,rfl,s⟩:=aG p;obtain⟨r,rfl,q⟩:=aG d;constructor
 ·have k:P.fieldsOf t=e:=by simp[Program.fieldsOf,hu]
  unfold Op.equal Op.maxDepth;rw[run_equalIn_struct w 9999 t _ _ (by rw[k];exact hu) m,k];exact GT s q 9997 z h
 ·cases op<;>first|rfl|(simp[eqGuard,n])
def SR:Value->Bool
 | .int .. | .string .. | .float .. | .complex ..=>false
 |_=>true
def Vk{t:TypeId}{o f:Value}{b:Bool}(r:SR o=true)(ne:Bool)(h:(Op.equal t o f).run P w= .ok b w):
  (binOp (if ne then .neq else .eql) t o f).run P w= .ok (.bool (b !=ne)) w:=by
 cases ne<;>cases o<;>first|(simp[SR]at r;done)|(cases f<;>simp[binOp,h])
def aDk:Nat->TypeDesc->Prop
 |0,d=>∃e,d= .slice e
 |1,d=>∃e,d= .pointer e
 |2,d=>∃e,d= .interface e
 |3,d=>∃p r v,d= .func p r v
 |_,_=>False
def dE{k:Nat}{x y:D}{j s:Value}{b:Bool}{t:TypeId}{l:TypeDesc}(o:Im w g x j)(d:Im w g y s)(h:NY k x y=some b)(m:P.underlying t=some l)
  (z:aDk k l) (n:Nat):(Op.equalIn (n+1) t j s).run P w= .ok b w∧SR j=true∧(∀cs,j≠ .agg cs)∧(j= .nilIface->k=2):=by
 unfold NY at h;split at h<;>first|(exfalso;simp at h;done)|(simp only[Qn]at h;subst h)
 ·obtain⟨e,rfl⟩:=z;obtain⟨ad,c,rfl,rfl⟩:=o.len_slice;obtain⟨i,c',rfl,f⟩:=d.len_slice;have:i=none:=by
   simp_all
  subst this;refine⟨?_,rfl,U,U⟩;cases ad<;>simp[Op.equalIn,run_underlying m]
 ·obtain⟨e,rfl⟩:=z;obtain⟨ad,c,rfl,q⟩:=o.len_slice;obtain⟨i,c',rfl,rfl⟩:=d.len_slice;have:ad=none:=by
   simp_all
  subst this;refine⟨?_,rfl,U,U⟩;simp[Op.equalIn,run_underlying m]
 ·obtain⟨e,rfl⟩:=z;rw[o.nilp_inv,d.nilp_inv];exact⟨Xs,rfl,U,U⟩
 ·obtain⟨e,rfl⟩:=z;obtain⟨b,rfl,_⟩:=d.ptr_inv;rw[o.nilp_inv];exact⟨Xs,rfl,U,U⟩
 ·obtain⟨e,rfl⟩:=z;obtain⟨b,rfl,_⟩:=o.ptr_inv;rw[d.nilp_inv];exact⟨Xs,rfl,U,U⟩
 ·obtain⟨e,rfl⟩:=z;rw[o.nili_inv,d.nili_inv];exact⟨Xs,rfl,U,λ_=>rfl⟩
 ·obtain⟨e,rfl⟩:=z;obtain⟨u,rfl,_,_⟩:=d.iface_inv;rw[o.nili_inv];exact⟨Xs,rfl,U,λ_=>rfl⟩
 ·obtain⟨e,rfl⟩:=z;obtain⟨u,rfl,_,_⟩:=o.iface_inv;rw[d.nili_inv];exact⟨Xs,rfl,U,U⟩
 ·obtain⟨p,r,v,rfl⟩:=z;rw[o.nilf_inv,d.nilf_inv];exact⟨Xs,rfl,U,U⟩
 ·obtain⟨p,r,v,rfl⟩:=z;obtain⟨vs,rfl,_⟩:=d.fn_inv;rw[o.nilf_inv];exact⟨Xs,rfl,U,U⟩
 ·obtain⟨p,r,v,rfl⟩:=z;obtain⟨vs,rfl,_⟩:=o.fn_inv;rw[d.nilf_inv];exact⟨Xs,rfl,U,U⟩
def eE(op:BinOp)(t:TypeId)(x y:Operand)(o f:Value)(h:∀cs,o≠ .agg cs)(q:o= .nilIface->(HZ x||HZ y)=true)(W:World):(eqGuard op t x y o f).run P W= .ok () W:=by
 cases o with
 |nilIface=>
  have:=q rfl;cases op<;>first|rfl|(cases f<;>first|rfl|(cases x<;>cases y<;>first|rfl|(simp[HZ]at this)))
 |agg c=>exact absurd rfl (h c)
 |_=>cases op<;>rfl
end
def uQ{P:Program}{t n:Nat}(h:Dm P t=some n):∃i,P.info? t=some i∧i.size=n:=by
 simp_all [Dm]
def Iu{P:Program}{t n:Nat}(h:Dm P t=some n)(w:World):(sizeOf t).run P w= .ok n w:=by
 obtain⟨i,hi,rfl⟩:=uQ h;simp[sizeOf,typeInfo,hi]
def I7{P:Program}{t:TypeId}{d:TypeDesc}(h:P.underlying t=some d)(w:World):(isAgg t).run P w= .ok (H6 d) w:=by
 unfold isAgg;simp only[Sem.run_bind,run_underlying h,Result.andThen_ok];cases d<;>rfl
def Im.un1{w:World}{g:Gh}{d:D}{v:Value}(h:Im w g d v):Im w g d.un1 v:=by
 cases h with
 |nils t=>exact .nils []
 |slice t xs a n c sz z u q y e m x h7 p h9=>exact .slice [] xs a n c sz z u q y e m x h7 (λh=>absurd rfl h) h9
 |junk v=>exact .junk v
 |bool b=>exact .bool b
 |int k n=>exact .int k n
 |str s=>exact .str s
 |ptr i o b u=>exact .ptr i o b u
 |row i n c b r u=>exact .row i n c b r u
 |eptr ds a z u q y e m=>exact .eptr ds a z u q y e m
 |nilp=>exact .nilp
 |agg ds vs u q y=>exact .agg ds vs u q y
 |tup ds vs u q=>exact .tup ds vs u q
 |iface t d v u q=>exact .iface t d v u q
 |nili=>exact .nili
 |fn f ds vs u q=>exact .fn f ds vs u q
 |nilf=>exact .nilf
 |nilm=>exact .nilm
 |itp i b u=>exact .itp i b u
def Im.un{w:World}{g:Gh}{d:D}{v:Value}(h:Im w g d v):Im w g d.un v:=by
 cases d with
 |agg cs=>
  obtain⟨vs,rfl,u,q,o⟩:=aG h;refine .agg _ vs (by simp[u]) q (λj d v l r=>?_);rw[Qv,Qo]at l;obtain⟨i,ta,rfl⟩:=l;exact(o j i v ta r).un1
 |slice nl t xs=>exact h.un1
 |_=>exact h
def aFM{d:D}(h:d.data=true):d.un.data=true:=by cases d<;>first|exact h|rfl
theorem R2(d:D):d.un.cells.length=d.cells.length:=by cases d<;>simp[D.un,D.cells]
def SA{P:Program}{t:TypeId}(h:qX P t=some none):∃d,P.underlying t=some d∧H6 d=false:=by
 unfold qX at h;split at h
 ·simp at h
 ·simp at h
 ·rename_i d n1 n2 l;refine⟨d,l,?_⟩;cases d<;>first|rfl|(exact absurd rfl (n1 _))|(exact absurd rfl (n2 _ _))
 ·cases h
def Sz{P:Program}{t n:Nat}(h:qX P t=some (some n)):∃d,P.underlying t=some d∧H6 d=true∧Dm P t=some n:=by
 unfold qX at h;split at h
 ·rename_i l;simp only[Qo,Qn]at h;obtain⟨x,p,rfl⟩:=h;exact⟨_,l,rfl,p⟩
 ·rename_i l;simp only[Qo,Qn]at h;obtain⟨x,p,rfl⟩:=h;exact⟨_,l,rfl,p⟩
 ·simp at h
 ·cases h
def Cx{sz:Nat}:∀{xs:List D},(∀d∈xs,d.cells.length=sz)->(flat xs).length=xs.length*sz
 |[],_=>XU
 |x::r,h=>by
  have ih:=Cx (xs:=r) (λd l=>h d (QD _ l));simp only[flat,ZH,QB,ih,h x (QA ..),Q1,Nat.one_mul];omega
theorem E6{sz:Nat}:∀{xs:List D} {k j:Nat},(∀d∈xs,d.cells.length=sz)->(g:k<xs.length)->j<sz->(flat xs)[k*sz+j]?=(xs[k]).cells[j]?
 |x::r,0,j,h,g,hj=>by
  simp only[flat,Nat.zero_mul,QG,List.getElem_cons_zero];rw[Qz (by rw[h x (QA ..)];exact hj)]
 |x::r,k+1,j,h,g,hj=>by
  have p:=h x (QA ..);have ih:=E6 (xs:=r) (k:=k) (j:=j) (λd l=>h d (QD _ l)) XS hj;simp only[flat,List.getElem_cons_succ];rw[QS (by rw[p,Q1];omega),p,←ih];congr 1;rw[Q1];omega
def UR{sz:Nat}:∀{xs:List D} (l:Nat),(∀d∈xs,d.cells.length=sz)->flat (xs.drop l)=(flat xs).drop (l*sz)
 |[],l,_=>XU
 |x::r,0,_=>U
 |x::r,l+1,h=>by
  have p:=h x (QA ..);rw[List.drop_succ_cons,UR l (λd u=>h d (QD _ u))];simp only[flat];rw[show(l+1)*sz=x.cells.length+l*sz by rw[p,Q1];omega,←ZB,List.drop_left]
def LW:∀(xs ys:List D),flat (xs++ys)=flat xs++flat ys
 |[],ys=>XU
 |x::r,ys=>by simp[flat,LW r ys]
def Tx{sz:Nat}{xs:List D}{n:Nat}{j:Nat}{d:D}(h:(flat (xs.take n))[j]?=some d):(flat xs)[j]?=some d:=by
 have e:flat xs=flat (xs.take n)++flat (xs.drop n):=by rw[←LW,List.take_append_drop]
 rw[e,Qz (Qr.1 h).1];exact h
def yO(l:List UInt8)(n:Nat):(ByteArray.mk l.toArray)[n]?=l[n]?:=by
 by_cases h:n<l.length
 ·rw[Qp h];rw[getElem?_pos (ByteArray.mk l.toArray) n (by simpa[ByteArray.size]using h)];rfl
 ·rw[Qw O];exact getElem?_neg (ByteArray.mk l.toArray) n (by simpa[ByteArray.size]using h)
def TB(l:List UInt8)(a b:Nat):(ByteArray.mk l.toArray).extract a b=⟨((l.drop a).take (b-a)).toArray⟩:=by
 apply ByteArray.ext;rw[ByteArray.data_extract];simp[Zj,Q6]
section
variable{P:Program}{B:Nat}{w0 w:World}{m:Ig}{g:Gh}{fr:Id}{s:Nat->D}{a:Act}
theorem GG(h:Ef w g s a){x:Option Operand}{y:Option Ip}(p:Lm x=some y){b v n:Nat}(i:GI s y b v=some n):
  (x=none∧n=b∧y=none)∨(∃o k,x=some o∧a.eval o= .int k (n:Int)∧n<=v):=by
 cases x with
 |none=>
  simp only[Lm,Qn]at p;subst p;simp only[GI,Qn]at i;exact .inl ⟨rfl,i.symm,rfl⟩
 |some o=>
  simp only[Lm,Qo]at p;obtain⟨z,u,rfl⟩:=p;have hr:=h.arg u;simp only[GI]at i;split at i
  ·rename_i k q j;rw[j]at hr;split at i
   ·rename_i hc;simp only[Qn]at i;refine .inr ⟨o,k,rfl,?_,O⟩;rw[hr.int_inv];congr 1;omega
   ·cases i
  ·cases i
def Fd(h:Ef w g s a){lo hi:Option Operand}{t d:Option Ip}(i:Lm lo=some t)(z:Lm hi=some d)(x:Bool){len cap l f:Nat}(hc:len<=cap)
  (e:GI s d len len=some f) (r:GI s t 0 f=some l):
  (Instr.sliceBounds x len cap (lo.map a.eval) (hi.map a.eval) none).run P w= .ok (l,f,cap) w∧l<=f∧f<=len:=by
 have ta:f<=len:=by
  grind [GG]
 have b:l<=f:=by
  grind [GG]
 refine⟨?_,b,ta⟩;unfold Instr.sliceBounds;rcases GG h z e with ⟨rfl,rfl,_⟩|⟨o,k,rfl,j,u⟩<;>rcases GG h i r with ⟨rfl,rfl,_⟩|⟨o',k',rfl,c,v⟩
 ·simp
 ·simp[Instr.sliceBound,asIntOf,c];intro;omega
 ·simp[Instr.sliceBound,asIntOf,j];intro;omega
 ·simp[Instr.sliceBound,asIntOf,j,c];rw[if_pos O];simp;intro;omega
end
section
variable{P:Program}{B:Nat}{w0 w:World}{m:Ig}{g:Gh}{fr:Id}{s:Nat->D}{a:Act}
theorem Ci:∀{n o:Nat} {i:Id} {ds:List D},Ah m i o n=some ds->ds.length=n∧∀j,j<n->m i (o+j)=ds[j]?
 |0,o,i,ds,h=>by simp only[Ah,Qn]at h;subst h;simp
 |n+1,o,i,ds,h=>by
  unfold Ah at h;split at h
  ·rename_i d l;rw[Qo]at h;obtain⟨r,v,rfl⟩:=h;obtain⟨p,q⟩:=Ci v;refine⟨Xz,λj y=>?_⟩;cases j with
   |zero=>simpa using l
   |succ j=>
    have:=q j O;rw[show o+(j+1)=o+1+j by omega,this];simp
  ·cases h
def Iv.cells(h:Iv P B w0 m w g){i:Id}{b o n:Nat}{ds:List D}(p:g.dl i=some b)(q:Ah m i o n=some ds):
  ∃vs:List Value,A8 w g ds vs∧∀j v,vs[j]?=some v->w.cell? ⟨b,o+j,none⟩=some v:=by
 obtain⟨_,_,cs,T,f,c⟩:=h.obj i b p;obtain⟨z,x⟩:=Ci q;have e:∀j,j<n->∃d v,ds[j]?=some d∧cs[o+j]?=some v∧v.oneCell'=true∧Im w g d v:=by
  simp_all
 refine⟨(QF n).map λj=>cs.getD (o+j) undef,⟨by simp[z],λv t=>?_,λj d v l t=>?_⟩,λj v t=>?_⟩
 ·rw[QH]at t;obtain⟨j,y,rfl⟩:=t;obtain⟨d,v,_,s,k,_⟩:=e j (Qy.1 y);rw[Qu,s];exact k
 ·have y:j<n:=by have:=(Qr.1 l).1;omega
  obtain⟨u,a,e1,s,k,r⟩:=e j y;rw[e1]at l;simp only[Qn]at l;subst l;rw[Qv,ZD y,Q9,Qn,Qu,s]at t;subst t;exact r
 ·have y:j<n:=by have:=(Qr.1 t).1;simpa using this
  obtain⟨u,a,e1,s,k,r⟩:=e j y;rw[Qv,ZD y,Q9,Qn,Qu,s]at t;subst t;simp[World.cell?,f,s]
def Iv.cell(h:Iv P B w0 m w g){i:Id}{b o:Nat}{d:D}(j:g.dl i=some b)(z:m i o=some d):
  ∃v,w.cell? ⟨b,o,none⟩=some v∧v.oneCell'=true∧Im w g d v:=by
 obtain⟨_,_,cs,T,f,c⟩:=h.obj i b j;obtain⟨v,l,t,e⟩:=c _ _ z;exact⟨v,by simp[World.cell?,f,l],t,e⟩
def Fg(b o j:Nat):(⟨b,o,none⟩:Addr).add j=⟨b,o+j,none⟩:=by unfold Addr.add;split<;>simp_all
def EH{t:TypeId}(j:qX P t=some none){ad:Addr}{v:Value}(k:w.cell? ad=some v):(loadVar t ad).run P w= .ok v w:=by
 obtain⟨d,m,l⟩:=SA j;simp[loadVar,I7 m,l,k]
def Fe{t n:Nat}(g:qX P t=some (some n)){ad:Addr}{vs:List Value}(z:vs.length=n)(k:∀j v,vs[j]?=some v->w.cell? (ad.add j)=some v):
  (loadVar t ad).run P w= .ok (.agg vs.toArray) w:=by
 obtain⟨d,h,l,m⟩:=Sz g;subst z;simp[loadVar,I7 h,l,Iu m,run_loadCells_list w ad vs k]
def MQ{t n:Nat}(j:Dm P t=some n){b o:Nat}{cs:Array Value}{T:TypeId}(f:w.heap[b]?=some (.cells cs T (0,0))){v:Value}(r:v.cells.size=n)
  (q:∀u∈v.cells.toList,u.oneCell'=true) (d:o+n<=cs.size):
  (storeVar t ⟨b,o,none⟩ v).run P w= .ok () (w.setRow b (cs.toList.take o++v.cells.toList++cs.toList.drop (o+v.cells.toList.length)).toArray):=by
 unfold storeVar;simp only[Sem.run_bind,Iu j,Result.andThen_ok];rw[if_neg (by simp[r])];have:=run_storeCells_at (P:=P) b o T v.cells.toList 0 cs w f (by simp[r];omega) q;simpa using this
def HP(e:TypeId)(cells:Array Value)(w:World):(newRow e cells).run P w= .ok ⟨w.heap.size,0,none⟩ (w.alloc (.cells cells e)):=by
 simp only[newRow,Sem.run_bind,run_newObj,Result.andThen_ok,Sem.run_pure];rfl
def A8.flat{sz:Nat}:∀{xs:List D} {vs:List Value},(∀d∈xs,d.data=true∧d.cells.length=sz)->vs.length=xs.length->(∀(j:Nat) d v,xs[j]?=some d->vs[j]?=some v->Im w g d v)->
  A8 w g (flat xs) (vs.flatMap λv=>v.cells.toList)
 |[],vs,_,hl,_=>by
  have:vs=[]:=QZ XC;subst this;exact A8.nil w g
 |x::r,[],_,hl,_=>by cases hl
 |x::r,v::vs,h,hl,hr=>by
  have m:=hr 0 x v rfl rfl;simp only[Vd.flat,Zp];exact A8.append (m.cells (h x (QA ..)).1) (A8.flat (λd l=>h d (QD _ l)) XC (λj d u l k=>hr (j+1) d u XQ (by simpa using k)))
def aH{t:Id}{xs:List D}{vs:List Value}{b n c sz:Nat}{cur:Array Value}{T:TypeId}{fz:Nat×Nat}(x:w.heap[b]?=some (.cells cur T fz))(f:n=xs.length)(k:n<=c)
  (p:∀d∈xs,d.cells.length=sz) (q:A8 w g (flat xs) vs) (r:∀(j:Nat) v,vs[j]?=some v->cur[j]?=some v) (z:n*sz<=g.G b) (i:t≠[]->g.tb t=some (b,n,c,sz)) (o:∀d∈xs,d.calm=true):
  Im w g (.slice false t xs) (.slice (some ⟨b,0,none⟩) n c):=by
 have u:=Cx p;have s:vs.length=n*sz:=by rw[q.1,u,f]
 refine .slice t xs ⟨b,0,none⟩ n c sz (λj=>vs.getD j undef) f k p (λj y=>?_) (λj y=>?_) (λj d l=>?_) (λ_=>XP) (λh=>⟨rfl,rfl,i h⟩) o
 ·have e:j<vs.length:=by omega
  rw[Fg,QG];have:=r j vs[j] (Qp e);simp[World.cell?,x,this,Zc,Qp e]
 ·have e:j<vs.length:=by omega
  simp only[Zc,Qp e,QR];exact q.2.1 _ (Zd e)
 ·have e:j<vs.length:=by have:=(Qr.1 l).1;rw[q.1];exact this
  simp only[Zc,Qp e,QR];exact q.2.2 j d _ l (Qp e)
def Py:∀(vs:List Value)(k:Nat)(off:Nat)(cs:Array Value),off+k+vs.length<=cs.size->
  ((vs.zipIdx k).foldl (λcs (x:Value×Nat)=>cs.setIfInBounds (off+x.2) x.1) cs).toList=cs.toList.take (off+k)++vs++cs.toList.drop (off+k+vs.length)
 |[],k,off,cs,_=>U
 |v::r,k,off,cs,h=>by
  simp only[List.zipIdx_cons,Zk];rw[Py r (k+1) off (cs.setIfInBounds (off+k) v) (by simp at h ⊢;omega)];simp only[Array.toList_setIfInBounds,QB];have w:off+k<cs.toList.length:=by simp at h ⊢;omega
  rw[show off+(k+1)=off+k+1 by omega];rw[List.take_succ_eq_append_getElem Xr];rw[List.take_set_of_le O];rw[List.drop_set_of_lt O];simp only[List.getElem_set_self,QX,Ze,Zy];rw[show off+k+1+r.length=off+k+(r.length+1)by omega]
def F7(vs:Array Value)(off:Nat)(cs:Array Value)(h:off+vs.size<=cs.size):
  (vs.zipIdx.foldl (λcs (x:Value×Nat)=>cs.setIfInBounds (off+x.2) x.1) cs).toList=cs.toList.take off++vs.toList++cs.toList.drop (off+vs.toList.length):=by
 have:=Py vs.toList 0 off cs Xl;rw[←Array.foldl_toList,Array.toList_zipIdx];simpa using this
end
structure At (P:Program) (B:Nat) (w0 w:World) (m:Ig) (g:Gh) (fr:Id) (s:Nat->D) (a:Act):Prop where
 inv:Iv P B w0 m w g
 slots:Ef w g s a
 fresh:∀i,fr<:+i->Cp m g i
section
variable{P:Program}{B:Nat}{w0 w:World}{m:Ig}{g:Gh}{fr:Id}{s:Nat->D}{a:Act}{S:Ic}{d:D}{u:Ir}
def At.self(h:At P B w0 w m g fr s a):Cp m g fr:=h.fresh fr (List.suffix_refl fr)
def Fz{i:Id}(k:Cp m g i)(c:¬fr<:+i)(ds:List D)(b:Nat):Cp (m.put fr 0 ds) (g.obj fr b) i:=by
 have:i≠fr:=λe=>c Yx
 exact⟨λo=>by rw[aA this];exact k.1 o,by simp only[Gh.obj];rw[if_neg this];exact k.2.1,k.2.2⟩
def DE{i:Id}(k:Cp m g i)(h:¬fr<:+i)(x b n c sz:Nat):Cp (m.put fr 0 [.tok x]) (g.tok fr b n c sz) i:=by
 have:i≠fr:=λe=>h Yx
 exact⟨λo=>by rw[aA this];exact k.1 o,k.2.1,by simp only[Gh.tok];rw[if_neg this];exact k.2.2⟩
def mD{t:TypeId}{o:Oper}(h:At P B w0 w m g fr s a){z:D}(p:DL P t=some z)(d:o.op= .alloc t):
  DH P B w0 m g fr w (m.put fr 0 z.cells) (.ptr fr 0) (execOp a.eval o):=by
 unfold DL at p;split at p
 ·rename_i i hi;split at p
  ·rename_i v r;have y:Im w g z v:=Im.ofVal p;have u:z.data=true:=by
    cases v<;>first|(simp only[ofVal,Qo]at p;obtain⟨l,_,rfl⟩:=p;rfl)|(simp only[ofVal]at p;exact PC p)
   have k:=y.cells u;refine⟨.pointer (some ⟨w.heap.size,0,none⟩),w.alloc (.cells v.cells t),g.obj fr w.heap.size,.value (.pointer (some ⟨w.heap.size,0,none⟩)),?_,.inl rfl,?_⟩
   ·simp only[execOp,d,Instr.alloc,zeroValue,Sem.run_bind,typeInfo,run_program,Result.andThen_ok,hi,r,Sem.run_pure,newVar,HP]
   ·have:=h.inv.newObj h.self (ds:=z.cells) (vs:=v.cells.toList) t k;rw[QP]at this;exact⟨this,IF.newObj _ h.inv.gz h.self.2.1,Im.newObj _ g fr _,λi e c=>Fz e c _ _⟩
  ·cases p
 ·cases p
def aDe{t:TypeId}{o:Oper}{x:Operand}{y:Ip}(h:At P B w0 w m g fr s a)(p:AK x=some y)(l:(y.ev s).data=true)(r:o.op= .box t x):
  DH P B w0 m g fr w (m.put fr 0 (y.ev s).cells) (.ptr fr 0) (execOp a.eval o):=by
 have q:=h.slots.arg p;have k:=q.cells l;refine⟨.pointer (some ⟨w.heap.size,0,none⟩),w.alloc (.cells (a.eval x).cells t),g.obj fr w.heap.size,.value (.pointer (some ⟨w.heap.size,0,none⟩)),?_,.inl rfl,?_⟩
 ·simp only[execOp,r,Instr.box,Sem.run_bind,Result.andThen_ok,Sem.run_pure,newVar,HP]
 ·have:=h.inv.newObj h.self (ds:=(y.ev s).cells) (vs:=(a.eval x).cells.toList) t k;rw[QP]at this;exact⟨this,IF.newObj _ h.inv.gz h.self.2.1,Im.newObj _ g fr _,λi e c=>Fz e c _ _⟩
def xM{t:TypeId}{o:Oper}{x:Operand}{y:Ip}{k:Option Nat}(h:At P B w0 w m g fr s a)(hk:qX P t=some k)(p:AK x=some y)(ho:o.op= .load t x)
  (f:AG S s m fr (.load k y)=some (d,u)):u=[]∧DH P B w0 m g fr w m d (execOp a.eval o):=by
 have hr:=h.slots.arg p;have q:∀ad v,a.eval x= .pointer (some ad)->(loadVar t ad).run P w= .ok v w->(execOp a.eval o).run P w= .ok (.value v) w:=by
  intro ad v e1 e2;simp only[execOp,ho,Instr.loadAt,e1,Instr.sureAddr,Sem.run_bind,Result.andThen_ok,Sem.run_pure,e2]
 simp only[AG]at f;split at f
 ·rename_i i o' e;rw[e]at hr;obtain⟨b,e1,hb⟩:=hr.ptr_inv;rw[Qo]at f;obtain⟨d',c,f⟩:=f;simp only[Qq]at f;obtain⟨rfl,rfl⟩:=f;obtain⟨v,c1,c2,c3⟩:=h.inv.cell hb c;exact⟨rfl,.pure h.inv (q _ _ e1 (EH hk c1)) c3⟩
 ·rename_i i o' n e;rw[e]at hr;obtain⟨b,e1,hb⟩:=hr.ptr_inv;rw[Qo]at f;obtain⟨ds,c,f⟩:=f;simp only[Qq]at f;obtain⟨rfl,rfl⟩:=f;obtain⟨vs,c1,c2⟩:=h.inv.cells hb c;have z:=(Ci c).1;exact⟨rfl,.pure h.inv (q _ _ e1 (Fe hk (by rw[c1.1,z]) (λj v hv=>by rw[Fg];exact c2 j v hv))) (aJ c1)⟩
 ·rename_i ds e;rw[e]at hr;obtain⟨ad,vv,e1,q1,q2,q3,q4,q5⟩:=hr.eptr_inv;rw[Qo]at f;obtain⟨d',c,f⟩:=f;simp only[Qq]at f;obtain⟨rfl,rfl⟩:=f;have r:ds[0]?=some d':=by rw[←List.head?_eq_getElem?];exact c
  have z:0<ds.length:=(Qr.1 r).1;exact⟨rfl,.pure h.inv (q _ _ e1 (EH hk (by have:=q1 0 z;simpa[Addr.add]using this))) (q3 0 _ r)⟩
 ·rename_i ds n e;rw[e]at hr;obtain⟨ad,vv,e1,q1,q2,q3,q4,q5⟩:=hr.eptr_inv;split at f
  ·rename_i hn;simp only[Qn,Qq]at f;obtain⟨rfl,rfl⟩:=f;have ka:((QF n).map vv).length=n:=by simp
   refine⟨rfl,.pure h.inv (q _ _ e1 (Fe hk ka (λj v hv=>?_))) (aJ ⟨Xc,λv hv=>?_,λj d v l hv=>?_⟩)⟩
   ·grind
   ·grind
   ·grind
  ·cases f
 ·cases f
theorem lW{t:TypeId}{o:Oper}{x v:Operand}{y z:Ip}{n:Nat}(h:At P B w0 w m g fr s a)(hn:Dm P t=some n)(na:0<n)(p:AK x=some y)(hv:AK v=some z)(ho:o.op= .store t x v)
  (he:AG S s m fr (.store n y z)=some (d,u)):DH P B w0 m g fr w (Ir.app m u) d (execOp a.eval o):=by
 have hr:=h.slots.arg p;have j:=h.slots.arg hv;simp only[AG]at he;split at he
 ·rename_i i o' e;rw[e]at hr;obtain⟨b,e1,hb⟩:=hr.ptr_inv;split at he
  ·rename_i hc;obtain⟨c1,c2,c3⟩:=hc;simp only[Qn,Qq]at he;obtain⟨rfl,rfl⟩:=he;rw[Zr]at c3;obtain⟨ea,f⟩:=c3;obtain⟨vs,l,r2⟩:=h.inv.cells hb f;obtain⟨_,_,cs,T,hh,xa⟩:=h.inv.obj i b hb;have c:=j.cells c1;have pa:(a.eval v).cells.size=n:=by have:=c.1;simp at this;omega
   have r:o'+n<=cs.size:=by
    have q:=(Ci f).1;have k:vs[n-1]?=some (vs[n-1]'(by rw[l.1];omega)):=Qp _;have:=r2 (n-1) _ k;simp only[World.cell?,hh]at this;have:=(Qs.1 (by simpa using this)).1;omega
   refine⟨undef,w.setRow b (cs.toList.take o'++(a.eval v).cells.toList++cs.toList.drop (o'+(a.eval v).cells.toList.length)).toArray,g,.skip,?_,.inr ⟨rfl,rfl⟩,?_⟩
   ·have:=MQ hn hh (v:=a.eval v) pa c.2.1 r;simp only[execOp,ho,Instr.storeAt,e1,Instr.sureAddr,Sem.run_bind,Result.andThen_ok,Sem.run_pure,this]
   ·have hG:=(h.inv.obj i b hb).2.1;refine⟨?_,IF.setRow hG,.junk _,λi' hf ma=>?_⟩
    ·exact h.inv.store hb hh (ds:=(z.ev s).cells) (us:=(a.eval v).cells.toList) c O
    ·refine⟨λo=>?_,hf.2⟩;simp only[Ir.app];rw[aA (by rintro rfl;rw[hf.2.1]at hb;cases hb)];exact hf.1 o
  ·cases he
 ·cases he
end
section
variable{P:Program}{B:Nat}{w0 w:World}{m:Ig}{g:Gh}{fr:Id}{s:Nat->D}{a:Act}{S:Ic}{d:D}{u:Ir}
def mB{t:TypeId}{f:Nat}{o:Oper}{x:Operand}{y:Ip}{c:Array Field}{fd:Field}{n:Nat}(h:At P B w0 w m g fr s a)(hu:P.underlying t=some (.struct c))(hf:c[f]?=some fd)
  (r:Dm P fd.type=some (n+1)) (p:AK x=some y) (ho:o.op= .fieldAddr t x f) (he:AG S s m fr (.faddr fd.offset y)=some (d,u)):u=[]∧DH P B w0 m g fr w m d (execOp a.eval o):=by
 have v:=h.slots.arg p;have q:∀ad,a.eval x= .pointer (some ad)->(execOp a.eval o).run P w= .ok (.value (.pointer (some (ad.add fd.offset)))) w:=by
  intro ad e;simp[execOp,ho,Instr.fieldAt,run_underlying hu,hf,e,Instr.sureAddr,fieldPlace,Iu r]
 simp only[AG]at he;split at he
 ·rename_i i o' e;rw[e]at v;obtain⟨b,e1,hb⟩:=v.ptr_inv;simp only[Qn,Qq]at he;obtain⟨rfl,rfl⟩:=he;refine⟨rfl,.pure h.inv (q _ e1) ?_⟩;rw[Fg];exact .ptr i _ b hb
 ·rename_i ds e;rw[e]at v;obtain⟨ad,vv,e1,q1,q2,q3,q4,q5⟩:=v.eptr_inv;split at he
  ·rename_i z;simp only[Qn,Qq]at he;obtain⟨rfl,rfl⟩:=he;refine⟨rfl,.pure h.inv (q _ e1) (.eptr _ _ (λj=>vv (fd.offset+j)) (λj k=>?_) (λj k=>?_) (λj d l=>?_) (λhp=>?_) (λd l=>q5 d (QJ l)))⟩
   ·grind [add_add]
   ·grind
   ·simp_all
   ·rw[EO,H7];simp at hp ⊢;have:=q4 O;omega
  ·cases he
 ·cases he
def mA{t:TypeId}{f:Nat}{o:Oper}{x:Operand}{y:Ip}{ca:Array Field}{fd:Field}{k:Option Nat}(h:At P B w0 w m g fr s a)(hu:P.underlying t=some (.struct ca))(hf:ca[f]?=some fd)
  (i:qX P fd.type=some k) (p:AK x=some y) (ho:o.op= .field t x f) (he:AG S s m fr (.field k fd.offset y)=some (d,u)):u=[]∧DH P B w0 m g fr w m d (execOp a.eval o):=by
 have q:=h.slots.arg p;simp only[AG]at he;split at he
 ·rename_i cs e;rw[e]at q;obtain⟨vs,e1,r1⟩:=aG q;rw[Qo]at he;obtain⟨d',l,he⟩:=he;simp only[Qq]at he;obtain⟨rfl,rfl⟩:=he;obtain⟨td,c,b⟩:=SA i;have r:fd.offset<vs.length:=by rw[r1.1];exact(Qr.1 l).1
  refine⟨rfl,.pure (v:=vs[fd.offset]) h.inv ?_ (r1.2.2 _ _ _ l (Qp r))⟩;have:=CX (w:=w) c b (cs:=vs.toArray) (o:=fd.offset) (v:=vs[fd.offset]) (by simp[r]);simp[execOp,ho,Instr.field,run_underlying hu,hf,e1,asAgg,this]
 ·rename_i cs n e;rw[e]at q;obtain⟨vs,e1,r1⟩:=aG q;split at he
  ·rename_i z;simp only[Qn,Qq]at he;obtain⟨rfl,rfl⟩:=he;obtain⟨td,c,b,hs⟩:=Sz i;refine⟨rfl,.pure (v:= .agg ((vs.drop fd.offset).take n).toArray) h.inv ?_ (aJ ⟨by simp[r1.1],λv r=>?_,λj d v l r=>?_⟩)⟩
   ·simp only[execOp,ho,Instr.field,Sem.run_bind,run_underlying hu,hf,e1,asAgg,part,I7 c,b,Result.andThen_ok,Iu hs,Sem.run_pure,if_true];congr 3;simp[Zj,Q6]
   ·exact r1.2.1 v (QJ (QO r))
   ·have hj:j<n:=by
     rcases ZI j n with h1|h1
     ·exact h1
     ·rw[Qw Xc]at l;cases l
    rw[QC hj,QI]at l r;exact r1.2.2 _ d v l r
  ·cases he
 ·cases he
def ND{d:D}(h:d.calm=true):∀x∈d.cells,x.calm=true:=by
 intro x p;have f:∀x:D,x.calm1=true->x.calm=true:=by
  intro x p;cases x<;>first|exact p|(simp[D.calm1]at p)
 cases d with
 |agg cs=>exact f x (QK.1 h x p)
 |_=>simp only[D.cells,Zb]at p;subst p;exact h
def lY{t e:TypeId}{o:Oper}{x i:Operand}{y z:Ip}{sz:Nat}(h:At P B w0 w m g fr s a)(hu:P.underlying t=some (.slice e))(hs:Dm P e=some sz)
  (hx:AK x=some y) (hi:AK i=some z) (ho:o.op= .indexAddr t x i) (he:AG S s m fr (.iaddr sz y z)=some (d,u)):u=[]∧DH P B w0 m g fr w m d (execOp a.eval o):=by
 have hr:=h.slots.arg hx;have ba:=h.slots.arg hi;simp only[AG]at he;split at he
 ·rename_i nl t' xs k n ex ei;rw[ex]at hr;rw[ei]at ba;split at he
  ·rename_i h0;split at he
   ·rename_i d' hd;split at he
    ·rename_i pa;simp only[Qn,Qq]at he;obtain⟨rfl,rfl⟩:=he;have aa:n.toNat<xs.length:=(Qr.1 hd).1;rcases hr.slice_inv with ⟨_,rfl,_⟩|⟨rfl,ad,n',c,qa,vv,ev,rfl,h2,h3,h4,h5,h6,h7,h8,h9⟩
     ·simp at aa
     ·have p:d'∈xs:=QL hd;have:qa=sz:=by rw[←h3 d' p];exact pa
      subst this;have f:xs[n.toNat]=d':=by rw[Qp aa]at hd;simpa using hd
      have r:n.toNat*qa+qa<=xs.length*qa:=by rw[←ZJ];exact QN _ aa
      refine⟨rfl,.pure (v:= .pointer (some (ad.add (n.toNat*qa)))) h.inv ?_ (.eptr _ _ (λj=>vv (n.toNat*qa+j)) (λj hj=>?_) (λj hj=>?_) (λj d2 oa=>?_) (λhp=>?_) (ND (h9 d' p)))⟩
      ·have ra:(0:Int)<=n∧n<(xs.length:Int):=by omega
       simp[execOp,ho,Instr.indexAt,asIntOf,ba.int_inv,ev,run_underlying hu,ra,Iu hs]
      ·grind [add_add]
      ·exact h5 _ O
      ·grind [E6]
      ·rw[EO,H7];have hz:0<xs.length*qa:=by omega
       have:=h7 hz;omega
    ·cases he
   ·cases he
  ·cases he
 ·rename_i i' l k n ex ei;rw[ex]at hr;rw[ei]at ba;split at he
  ·rename_i hc;obtain⟨h0,aa⟩:=hc;simp only[Qn,Qq]at he;obtain⟨rfl,rfl⟩:=he;obtain⟨b,cap,ev,_,hb⟩:=hr.row_inv;have gb:(if sz=1 then n.toNat else n.toNat*sz)=n.toNat*sz:=by
    simp_all
   rw[gb];have q:(Addr.mk b 0 none).add (n.toNat*sz)=⟨b,n.toNat*sz,none⟩:=by rw[Fg,QG]
   refine⟨rfl,.pure (v:= .pointer (some ⟨b,n.toNat*sz,none⟩)) h.inv ?_ (.ptr _ _ b hb)⟩;have ra:(0:Int)<=n∧n<(l:Int):=⟨h0,aa⟩;simp only[←q];simp[execOp,ho,Instr.indexAt,asIntOf,ba.int_inv,ev,run_underlying hu,ra,Iu hs]
  ·cases he
 ·cases he
def xN{t:TypeId}{o:Oper}{x i:Operand}{y z:Ip}(h:At P B w0 w m g fr s a)(hu:P.underlying t=some .string)
  (r:AK x=some y) (hi:AK i=some z) (ho:o.op= .index t x i) (j:AG S s m fr (.idxs y z)=some (d,u)):u=[]∧DH P B w0 m g fr w m d (execOp a.eval o):=by
 have q:=h.slots.arg r;have p:=h.slots.arg hi;simp only[AG]at j;split at j
 ·rename_i b k n l e;rw[l]at q;rw[e]at p;split at j
  ·rename_i f;rw[Qo]at j;obtain⟨c,hc,j⟩:=j;simp only[Qq]at j;obtain⟨rfl,rfl⟩:=j;refine⟨rfl,.pure (v:= .int .u8 c.toNat) h.inv ?_ (.int _ _)⟩;simp[execOp,ho,Instr.index,asIntOf,p.int_inv,q.str_inv,run_underlying hu,f,yO,hc]
  ·cases j
 ·cases j
def xP{t e:TypeId}{len:Nat}{o:Oper}{x i:Operand}{y z:Ip}(h:At P B w0 w m g fr s a)(hu:P.underlying t=some (.array len e))(hk:qX P e=some none)(hs:Dm P e=some 1)
  (r:AK x=some y) (hi:AK i=some z) (ho:o.op= .index t x i) (j:AG S s m fr (.idxa len y z)=some (d,u)):u=[]∧DH P B w0 m g fr w m d (execOp a.eval o):=by
 have q:=h.slots.arg r;have p:=h.slots.arg hi;simp only[AG]at j;split at j
 ·rename_i cs k n ex ei;rw[ex]at q;rw[ei]at p;split at j
  ·rename_i f;rw[Qo]at j;obtain⟨d',l,j⟩:=j;simp only[Qq]at j;obtain⟨rfl,rfl⟩:=j;obtain⟨vs,e1,r1⟩:=aG q;obtain⟨td,c,b⟩:=SA hk;have hv:n.toNat<vs.length:=by rw[r1.1];exact(Qr.1 l).1
   refine⟨rfl,.pure (v:=vs[n.toNat]) h.inv ?_ (r1.2.2 _ _ _ l (Qp hv))⟩;have:=CX (w:=w) c b (cs:=vs.toArray) (o:=n.toNat) (v:=vs[n.toNat]) (by simp[hv]);simp[execOp,ho,Instr.index,asIntOf,p.int_inv,run_underlying hu,e1,f,Iu hs,this]
  ·cases j
 ·cases j
def lZ{t e:TypeId}{len sz:Nat}{o:Oper}{x i:Operand}{y z:Ip}(h:At P B w0 w m g fr s a)(hu:P.underlying t=some (.array len e))(hs:Dm P e=some sz)
  (r:AK x=some y) (hi:AK i=some z) (ho:o.op= .indexAddr t x i) (he:AG S s m fr (.iadda len sz y z)=some (d,u)):u=[]∧DH P B w0 m g fr w m d (execOp a.eval o):=by
 have hr:=h.slots.arg r;have p:=h.slots.arg hi;simp only[AG]at he;split at he
 ·rename_i j off k n l c;rw[l]at hr;rw[c]at p;split at he
  ·rename_i hc;obtain⟨f,q⟩:=hc;simp only[Qn,Qq]at he;obtain⟨rfl,rfl⟩:=he;obtain⟨b,ev,hb⟩:=hr.ptr_inv;refine⟨rfl,.pure (v:= .pointer (some ⟨b,off+n.toNat*sz,none⟩)) h.inv ?_ (.ptr _ _ b hb)⟩;have ra:(0:Int)<=n∧n<(len:Int):=⟨f,q⟩;simp only[←Fg b off (n.toNat*sz)];simp[execOp,ho,Instr.indexAt,asIntOf,Instr.sureAddr,p.int_inv,ev,run_underlying hu,ra,Iu hs]
  ·cases he
 ·cases he
def xO{t e:TypeId}{len sz:Nat}{o:Oper}{x i:Operand}{y z:Ip}(h:At P B w0 w m g fr s a)(hu:P.underlying t=some (.array len e))(hk:qX P e=some (some sz))
  (r:AK x=some y) (hi:AK i=some z) (ho:o.op= .index t x i) (he:AG S s m fr (.idxm len sz y z)=some (d,u)):u=[]∧DH P B w0 m g fr w m d (execOp a.eval o):=by
 have hr:=h.slots.arg r;have p:=h.slots.arg hi;simp only[AG]at he;split at he
 ·rename_i cs k n ex ei;rw[ex]at hr;rw[ei]at p;split at he
  ·rename_i hc;obtain⟨f,h1,q⟩:=hc;simp only[Qn,Qq]at he;obtain⟨rfl,rfl⟩:=he;obtain⟨vs,e1,r1⟩:=aG hr;obtain⟨td,c,b,hs⟩:=Sz hk;refine⟨rfl,.pure (v:= .agg ((vs.drop (n.toNat*sz)).take sz).toArray) h.inv ?_ (aJ ⟨by simp[r1.1],λv hv=>?_,λj d v l hv=>?_⟩)⟩
   ·simp only[execOp,ho,Instr.index,Sem.run_bind,run_underlying hu,e1,p.int_inv,asIntOf,Result.andThen_ok,Sem.run_pure,f,h1,and_self,if_true,Iu hs,part,I7 c,b];congr 3;simp[Zj,Q6]
   ·exact r1.2.1 v (QJ (QO hv))
   ·have hj:j<sz:=by
     rcases ZI j sz with h1|h1
     ·exact h1
     ·rw[Qw Xc]at l;cases l
    rw[QC hj,QI]at l hv;exact r1.2.2 _ d v l hv
  ·cases he
 ·cases he
def xQ{t:TypeId}{o:Oper}{x:Operand}{lo hi:Option Operand}{y:Ip}{n h':Option Ip}(h:At P B w0 w m g fr s a)(k:P.underlying t=some .string)
  (p:AK x=some y) (c:Lm lo=some n) (z:Lm hi=some h') (r:o.op= .slice t x lo hi none) (j:AG S s m fr (.cuts y n h')=some (d,u)):
  u=[]∧DH P B w0 m g fr w m d (execOp a.eval o):=by
 have q:=h.slots.arg p;simp only[AG]at j;split at j
 ·rename_i b e;rw[e]at q;split at j
  ·rename_i f eh;split at j
   ·rename_i l el;simp only[Qn,Qq]at j;obtain⟨rfl,rfl⟩:=j;obtain⟨i,_,_⟩:=Fd (P:=P) (w:=w) h.slots c z false (len:=b.length) (cap:=b.length) (Qx _) eh el;refine⟨rfl,.pure (v:= .string ⟨((b.drop l).take (f-l)).toArray⟩) h.inv ?_ (.str _)⟩;have pa:(ByteArray.mk b.toArray).size=b.length:=by simp[ByteArray.size]
    simp only[execOp,r,Instr.sliceAt,Sem.run_bind,run_underlying k,Result.andThen_ok,Instr.slice,q.str_inv,ZT,Option.isSome_none,QT,if_false,pa,i,Sem.run_pure,TB]
   ·cases j
  ·cases j
 ·cases j
def UK{xs:List D}{sz k:Nat}(h:∀d∈xs,d.cells.length=sz)(j:aE xs k=k):xs=[]∨sz=k:=by
 cases xs with
 |nil=>exact .inl rfl
 |cons x r=>right;rw[←h x (QA ..)];exact j
def xR{t e:TypeId}{o:Oper}{x:Operand}{lo hi:Option Operand}{y:Ip}{l' h':Option Ip}{sz:Nat}(h:At P B w0 w m g fr s a)(hu:P.underlying t=some (.slice e))(hs:Dm P e=some sz)
  (p:AK x=some y) (ja:Lm lo=some l') (z:Lm hi=some h') (ho:o.op= .slice t x lo hi none) (f:AG S s m fr (.cutl sz y l' h')=some (d,u)):
  u=[]∧DH P B w0 m g fr w m d (execOp a.eval o):=by
 have hr:=h.slots.arg p;simp only[AG]at f;split at f
 ·rename_i nl t' xs e';rw[e']at hr;split at f
  ·rename_i b;split at f
   ·rename_i hh eh;split at f
    ·rename_i l el;simp only[Qn,Qq]at f;obtain⟨rfl,rfl⟩:=f;have ha:∀ad n c l hh m',a.eval x= .slice ad n c->(Instr.sliceBounds true n c (lo.map a.eval) (hi.map a.eval) none).run P w= .ok (l,hh,m') w->
       (execOp a.eval o).run P w= .ok (.value (.slice (if m'=l then ad else ad.map (·.add (l*sz))) (hh-l) (m'-l))) w:=by
      intro ad n c l hh m' e1 e2;simp only[execOp,ho,Instr.sliceAt,Sem.run_bind,run_underlying hu,Result.andThen_ok,Instr.slice,e1,ZT,e2,Iu hs,Sem.run_pure]
     rcases hr.slice_inv with ⟨rfl,rfl,ev⟩|⟨rfl,ad,n,c,qa,vv,ev,hn,q,h3,h4,h5,h6,h7,h8,h9⟩
     ·obtain⟨i,q1,q2⟩:=Fd (P:=P) (w:=w) h.slots ja z true (len:=0) (cap:=0) (Qx _) eh el;obtain rfl:hh=0:=by omega
      obtain rfl:l=0:=O
      exact⟨rfl,.pure h.inv (ha _ _ _ _ _ _ ev i) (.nils _)⟩
     ·subst hn;obtain⟨i,q1,q2⟩:=Fd (P:=P) (w:=w) h.slots ja z true (len:=xs.length) (cap:=c) q eh el;refine⟨rfl,.pure h.inv (ha _ _ _ _ _ _ ev i) ?_⟩;have ta:∀d∈(xs.drop l).take (hh-l),d.cells.length=qa:=λd k=>h3 d (QJ (QO k))
      have ka:((xs.drop l).take (hh-l)).length=hh-l:=Xc
      by_cases v:c=l
      ·have r:hh-l=0:=by omega
       rw[if_pos v,r];refine .slice [] _ ad 0 _ qa vv U (ZS _) U U U XU U U U
      ·rw[if_neg v,Q9];by_cases r:hh-l=0
       ·rw[r];exact .slice [] _ _ 0 _ qa vv U (ZS _) U U U XU U U U
       ·have ma:xs≠[]:=by rintro rfl;simp at q2;omega
        have pa:qa=sz:=(UK h3 b).resolve_left ma;subst pa;have na:l*qa+(hh-l)*qa<=xs.length*qa:=by rw[←Q1];exact QN _ O
        refine .slice [] _ _ _ _ qa (λj=>vv (l*qa+j)) ka.symm O ta (λj hj=>?_) (λj hj=>h5 _ O) (λj d k=>h6 _ d ?_) (λhp=>?_) U (λd k=>h9 d (QJ (QO k)))
        ·rw[add_add];exact h4 _ O
        ·have:=Tx (sz:=qa) k;rw[UR l h3,QI]at this;exact this
        ·rw[EO,H7];have:=h7 O;omega
    ·cases f
   ·cases f
  ·cases f
 ·cases f
end
section
variable{P:Program}{B:Nat}{w0 w:World}{m:Ig}{g:Gh}{fr:Id}{s:Nat->D}{a:Act}{S:Ic}{d:D}{u:Ir}
def Nt:∀{l:List (Nat×Nat×D)} {ps:List (Nat×Value)} {zs cs:List D} {zv:Array Value} {place:Nat->Option (Nat×Nat)},
  A8 w g zs zv.toList->l.length=ps.length->(∀(j:Nat) x p,l[j]?=some x->ps[j]?=some p->place p.1=some (x.1,x.2.1)∧Im w g x.2.2 p.2)->
  Cd zs l=some cs->∃b:Array Value,Instr.fill place zv ps=some b∧A8 w g cs b.toList
 |[],[],zs,cs,zv,place,hz,_,_,h=>by
  simp only[Cd,Qn]at h;subst h;exact⟨zv,rfl,hz⟩
 |(off,sz,d)::l,[],zs,cs,zv,place,hz,hl,_,h=>by cases hl
 |[],p::ps,zs,cs,zv,place,hz,hl,_,h=>by cases hl
 |(off,sz,d)::l,(i,v)::ps,zs,cs,zv,place,hz,hl,hp,h=>by
  unfold Cd at h;split at h
  ·rename_i k;obtain⟨s,c2,c3⟩:=k;obtain⟨e1,e2⟩:=hp 0 _ _ rfl rfl;simp only at e1 e2;have c:=e2.cells s;have z:v.cells.size=sz:=by have:=c.1;simp at this;omega
   have f:=hz.1;simp only[Q7]at f;have r:off+v.cells.size<=zv.size:=O
   have m:=F7 v.cells off zv r;have a:A8 w g (DV zs off d.cells) ((v.cells.zipIdx.foldl (λcs (x:Value×Nat)=>cs.setIfInBounds (off+x.2) x.1) zv)).toList:=by
    rw[m];unfold DV;have h1:A8 w g (zs.take off) (zv.toList.take off):=by
     refine⟨Xc,λv t=>hz.2.1 v (QO t),λj d v u t=>?_⟩;have y:j<off:=by
      rcases ZI j off with h1|h1
      ·exact h1
      ·rw[Qw Xc]at u;cases u
     rw[QC y]at u t;exact hz.2.2 j d v u t
    have q:A8 w g (zs.drop (off+d.cells.length)) (zv.toList.drop (off+v.cells.toList.length)):=by
     rw[c.1];refine⟨Xc,λv t=>hz.2.1 v (QJ t),λj d v u t=>?_⟩;rw[QI]at u t;exact hz.2.2 _ d v u t
    exact A8.append (A8.append h1 c) q
   obtain⟨b,n,f2⟩:=Nt (ps:=ps) (place:=place) a XC (λj x p o ka=>hp (j+1) x p Xy (by simpa using ka)) h;refine⟨b,?_,f2⟩;unfold Instr.fill;rw[e1];simp only;rw[if_neg (by simp[z];omega)];exact n
  ·cases h
def PM{x:List Field}(W:World)(h:∀f∈x,∃n,Dm P f.type=some n):
  ∃w:List (Nat×Nat),(x.mapM (m:=Sem) λ(f:Field)=>do pure (f.offset,←sizeOf f.type)).run P W= .ok w W∧w.length=x.length∧∀(i:Nat)(f:Field) n,x[i]?=some f->Dm P f.type=some n->w[i]?=some (f.offset,n):=by
 induction x with
 |nil=>exact⟨[],U,rfl,U⟩
 |cons f r ih=>
  obtain⟨n,c⟩:=h f (QA ..);obtain⟨w,e1,e2,e3⟩:=ih (λf k=>h f (QD _ k));refine⟨(f.offset,n)::w,?_,by simp[e2],λi d a hi j=>?_⟩
  ·simp_all [Iu,e1]
  ·grind
def Hm{c:Array Field}:∀{ps:List (Nat×Operand)} {l:List (Nat×Nat×Ip)},Eb P c ps=some l->
  l.length=ps.length∧∀(j:Nat) x p,l[j]?=some x->ps[j]?=some p->∃f:Field,c[p.1]?=some f∧Dm P f.type=some x.2.1∧x.1=f.offset∧AK p.2=some x.2.2
 |[],l,h=>by simp only[Eb,Qn]at h;subst h;simp
 |(i,x)::r,l,h=>by
  unfold Eb at h;split at h
  ·rename_i f y u e1 e2 e3;split at h
   ·rename_i n e4;simp only[Qn]at h;subst h;obtain⟨t,w⟩:=Hm e3;refine⟨by simp[t],λj z p o g=>?_⟩;cases j with
    |zero=>
     simp only[QQ,Qn]at o g;subst o g;exact⟨f,e1,e4,rfl,e2⟩
    |succ j=>exact w j z p Xy XS
   ·cases h
  ·cases h
def MS{sz:Nat}:∀{ps:List (Nat×Operand)} {l:List (Nat×Nat×Ip)},Hn sz ps=some l->
  l.length=ps.length∧∀(j:Nat) x p,l[j]?=some x->ps[j]?=some p->x.1=p.1*sz∧x.2.1=sz∧AK p.2=some x.2.2
 |[],l,h=>by simp only[Hn,Qn]at h;subst h;simp
 |(i,x)::r,l,h=>by
  unfold Hn at h;split at h
  ·rename_i y u e2 e3;simp only[Qn]at h;subst h;obtain⟨t,f⟩:=MS e3;refine⟨by simp[t],λj z p o g=>?_⟩;cases j with
   |zero=>
    simp only[QQ,Qn]at o g;subst o g;exact⟨rfl,rfl,e2⟩
   |succ j=>exact f j z p Xy XS
  ·cases h
def fA{t e:TypeId}{len sz:Nat}{z:Array (Nat×Operand)}{o:Oper}{zs:List D}{l:List (Nat×Nat×Ip)}(h:At P B w0 w m g fr s a)(hu:P.underlying t=some (.array len e))
  (n:Dm P e=some sz) (hz:DL P t=some (.agg zs)) (q:Hn sz z.toList=some l) (ho:o.op= .build t z) (f:AG S s m fr (.build zs l)=some (d,u)):
  u=[]∧DH P B w0 m g fr w m d (execOp a.eval o):=by
 simp only[AG]at f;rw[Qo]at f;obtain⟨cs,xa,f⟩:=f;simp only[Qq]at f;obtain⟨rfl,rfl⟩:=f;unfold DL at hz;split at hz
 ·rename_i k c;split at hz
  ·rename_i zv r;have y:Im w g (.agg zs) zv:=Im.ofVal hz;obtain⟨vs,rfl,rz⟩:=aG y;obtain⟨q1,q2⟩:=MS q;have b:=Nt (w:=w) (g:=g) (l:=l.map λp=>(p.1,p.2.1,p.2.2.ev s)) (ps:=(z.map λ(i,x)=>(i,a.eval x)).toList) (zs:=zs) (cs:=cs) (zv:=vs.toArray) (place:=λi=>some (i*sz,sz))
    (by simpa using rz) (by simp[q1]) (λj x p hx hp=>?_) xa
   ·obtain⟨cv,f1,f2⟩:=b;refine⟨rfl,.pure (v:= .agg cv) h.inv ?_ ?_⟩
    ·simp only[execOp,ho,Instr.build,zeroValue,typeInfo,Sem.run_bind,run_program,Result.andThen_ok,c,r,Sem.run_pure,run_underlying hu,Iu n,Value.cells,f1]
    ·have:=aJ f2
     rwa [QP]at this
   ·rw[Qv,Qo]at hx;obtain⟨x',oa,rfl⟩:=hx;rw[QY,Qv,Qo]at hp;obtain⟨p',ka,rfl⟩:=hp;obtain⟨r1,r2,r4⟩:=q2 j x' p' oa ka;refine⟨?_,h.slots.arg r4⟩;simp[r1,r2]
  ·cases hz
 ·cases hz
def mC{t:TypeId}{z:Array (Nat×Operand)}{o:Oper}{ca:Array Field}{zs:List D}{l:List (Nat×Nat×Ip)}(h:At P B w0 w m g fr s a)(hu:P.underlying t=some (.struct ca))
  (ga:eS P ca.toList=true) (hz:DL P t=some (.agg zs)) (hl:Eb P ca z.toList=some l) (ho:o.op= .build t z) (he:AG S s m fr (.build zs l)=some (d,u)):
  u=[]∧DH P B w0 m g fr w m d (execOp a.eval o):=by
 simp only[AG]at he;rw[Qo]at he;obtain⟨cs,xa,he⟩:=he;simp only[Qq]at he;obtain⟨rfl,rfl⟩:=he;unfold DL at hz;split at hz
 ·rename_i k c;split at hz
  ·rename_i zv r;have y:Im w g (.agg zs) zv:=Im.ofVal hz;obtain⟨vs,rfl,rz⟩:=aG y;have q:∀f∈ca.toList,∃n,Dm P f.type=some n:=by
    intro f e;have:=QK.1 ga f e;rw[Zr]at this;exact this
   obtain⟨pl,p1,p2,p3⟩:=PM (P:=P) w q;obtain⟨q1,q2⟩:=Hm hl;have b:=Nt (w:=w) (g:=g) (l:=l.map λp=>(p.1,p.2.1,p.2.2.ev s)) (ps:=(z.map λ(i,x)=>(i,a.eval x)).toList) (zs:=zs) (cs:=cs) (zv:=vs.toArray) (place:=λi=>pl.toArray[i]?)
    (by simpa using rz) (by simp[q1]) (λj x p hx hp=>?_) xa
   ·obtain⟨cv,f1,f2⟩:=b;refine⟨rfl,.pure (v:= .agg cv) h.inv ?_ ?_⟩
    ·have hm:(ca.mapM (m:=Sem) λ(f:Field)=>do pure (f.offset,←sizeOf f.type)).run P w= .ok pl.toArray w:=by
      rw[Zo,Sem.run_map,p1];rfl
     simp only[execOp,ho,Instr.build,zeroValue,typeInfo,Sem.run_bind,run_program,Result.andThen_ok,c,r,Sem.run_pure,run_underlying hu,hm,Value.cells,f1]
    ·have:=aJ f2
     rwa [QP]at this
   ·rw[Qv,Qo]at hx;obtain⟨x',oa,rfl⟩:=hx;rw[QY,Qv,Qo]at hp;obtain⟨p',ka,rfl⟩:=hp;obtain⟨f,r1,r2,r3,r4⟩:=q2 j x' p' oa ka;refine⟨?_,h.slots.arg r4⟩;have:=p3 p'.1 f x'.2.1 (by simpa using r1) r2;simp only[QV];rw[this,r3]
  ·cases hz
 ·cases hz
end
section
variable{P:Program}{B:Nat}{w0 w:World}{m:Ig}{g:Gh}{fr:Id}{s:Nat->D}{a:Act}{S:Ic}{d:D}{u:Ir}
def R3:∀{xs:List Operand} {ys:List Ip},EF xs=some ys->xs.length=ys.length∧∀(j:Nat) x y,xs[j]?=some x->ys[j]?=some y->AK x=some y
 |[],ys,h=>by simp only[EF,Qn]at h;subst h;simp
 |x::r,ys,h=>by
  unfold EF at h;split at h
  ·rename_i y l u f;simp only[Qn]at h;subst h;obtain⟨p,q⟩:=R3 f;refine⟨Xz,λj z k o d=>?_⟩;cases j with
   |zero=>simp only[QQ,Qn]at o d;subst o d;exact u
   |succ j=>exact q j z k Xy X1
  ·cases h
def eR{sz:Nat}(pa:0<sz):∀{ps:List (Nat×Value)} {k:Nat} {cs:Array Value},ps.map (·.1)=ZC k ps.length->(∀p∈ps,p.2.cells.size=sz)->cs.size=(k+ps.length)*sz->
  ∃b:Array Value,Instr.fill (λi=>some (i*sz,sz)) cs ps=some b∧b.toList=cs.toList.take (k*sz)++ps.flatMap λp=>p.2.cells.toList
 |[],k,cs,_,_,hcs=>⟨cs,rfl,by simp at hcs;simp[List.take_of_length_le,hcs]⟩
 |(i,v)::r,k,cs,j,hp,hcs=>by
  simp only[QE,QB,Zf,ZU]at j;obtain⟨rfl,j⟩:=j;have t:=hp (i,v) (QA ..);simp only at t;have ta:i*sz+v.cells.size<=cs.size:=by
   rw[hcs,t,←ZJ];exact QN _ (by simp only[QB];omega)
  have f:=F7 v.cells (i*sz) cs ta;have n:(v.cells.zipIdx.foldl (λcs (x:Value×Nat)=>cs.setIfInBounds (i*sz+x.2) x.1) cs).size=cs.size:=by
   rw[←Q7,f];simp;omega
  obtain⟨b,y,g⟩:=eR (k:=i+1) (ps:=r) (cs:=v.cells.zipIdx.foldl (λcs (x:Value×Nat)=>cs.setIfInBounds (i*sz+x.2) x.1) cs) pa j (λp u=>hp p (QD _ u)) (by rw[n,hcs];congr 1;simp only[QB];omega);refine⟨b,?_,?_⟩
  ·unfold Instr.fill;simp only;rw[if_neg (by simp[t];first|done|omega)];exact y
  ·rw[g,f];have w:(cs.toList.take (i*sz)).length=i*sz:=by rw[Zs];simp;omega
   have s:v.cells.toList.length=sz:=by simpa using t
   simp only[Zp];rw[←QX];congr 1;rw[show(i+1)*sz=(cs.toList.take (i*sz)++v.cells.toList).length by rw[ZH,w,s,ZJ]];exact List.take_left
theorem fB{t e:TypeId}{aa:Array (Nat×Operand)}{len:Nat}{o:Oper}{sz bytes:Nat}{l:List Ip}(h:At P B w0 w m g fr s a)(hu:P.underlying t=some (.slice e))(he:L2 P e=some (sz,bytes))
  (hl:EF (aa.toList.map (·.2))=some l) (f:aa.toList.map (·.1)=QF len) (ta:len*sz<=2 ^ 24) (ho:o.op= .buildSlice t len aa)
  (hx:AG S s m fr (.bslice e sz l)=some (d,u)):DH P B w0 m g fr w (Ir.app m u) d (execOp a.eval o):=by
 obtain⟨na,ti,z,hi,ea,hz,mb,cb⟩:=L1 he;simp only[AG]at hx;split at hx
 ·rename_i ca;simp only[Qn,Qq]at hx;obtain⟨rfl,rfl⟩:=hx;have ba:∀p∈l,((p.ev s).data=true∧(p.ev s).cells.length=sz)∧(p.ev s).un.calm=true:=by
   simp_all
  have b:∀p∈l,(p.ev s).data=true∧(p.ev s).cells.length=sz:=λp hp=>(ba p hp).1
  obtain⟨ka,fa⟩:=R3 hl;have r:aa.toList.length=len:=by have:=congrArg ZY f;simpa using this
  simp only[Za]at ka;have da:∀(j:Nat) d v,(l.map λp=>(p.ev s).un)[j]?=some d->(aa.toList.map λp=>a.eval p.2)[j]?=some v->Im w g d v:=by
   intro j d v hd hv;rw[Qv,Qo]at hd hv;obtain⟨y,hy,rfl⟩:=hd;obtain⟨p,hp,rfl⟩:=hv;exact(h.slots.arg (fa j p.2 y (by rw[Qv,hp];rfl) hy)).un
  have qa:=A8.flat (w:=w) (g:=g) (sz:=sz) (xs:=l.map λp=>(p.ev s).un) (vs:=aa.toList.map λp=>a.eval p.2) (λd hd=>by
   rw[QH]at hd;obtain⟨y,hy,rfl⟩:=hd;exact⟨aFM (b y hy).1,by rw[R2];exact(b y hy).2⟩) Xc da
  have oa:∀p∈(aa.map λ(i,x)=>(i,a.eval x)).toList,p.2.cells.size=sz:=by
   intro p hp;rw[QY,QH]at hp;obtain⟨q,hq,rfl⟩:=hp;obtain⟨j,hj,ga⟩:=Zm hq;have hy:l[j]?=some (l[j]' O):=Qp _;have hr:=h.slots.arg (fa j q.2 _ (by rw[Qv,Qp hj,ga];rfl) hy);have hd:=b _ (Zd (by omega:j<l.length));have:=(hr.cells hd.1).1;simp at this ⊢;omega
  let row:Array Value:=(ZZ (len*sz)).map (z.cells[· % z.cells.size]!)
  have ha:row.size=(0+(aa.map λ(i,x)=>(i,a.eval x)).toList.length)*sz:=by
   grind
  obtain⟨cv,f1,f2⟩:=eR na (ps:=(aa.map λ(i,x)=>(i,a.eval x)).toList) (k:=0) (cs:=row) (by
   rw[←Q2];simp only[QY,List.map_map,Za,r];rw[←f];apply Q8;intro p _;rfl) oa ha
  have wa:cv.toList=(aa.toList.map λp=>a.eval p.2).flatMap λv=>v.cells.toList:=by
   rw[f2];simp[List.flatMap_map]
  have la:cv.size=len*sz:=by
   have:=qa.1;rw[←wa]at this;rw[Cx (sz:=sz) (λd hd=>by
    rw[QH]at hd;obtain⟨y,hy,rfl⟩:=hd;rw[R2];exact(b y hy).2)]at this
   simp only[Q7,Za]at this;rw[this];congr 1;omega
  have sa:len<=maxLen:=by
   have:len*1<=len*sz:=Nat.mul_le_mul_left _ na;unfold maxLen;omega
  have ia:=h.inv.newTok h.self (e:=e) (n:=len) (c:=len) (sz:=sz) (cur:=cv) na ⟨ti,z,hi,ea,hz,mb⟩ (Qx _) sa la;have ja:=IF.newTok (t:=fr) (n:=len) (c:=len) (sz:=sz) (Obj.cells cv e) h.inv.gz h.self.2.2 rfl;refine⟨.slice (some ⟨w.heap.size,0,none⟩) len len,w.alloc (.cells cv e),g.tok fr w.heap.size len len sz,.value (.slice (some ⟨w.heap.size,0,none⟩) len len),?_,.inl rfl,ia,ja,?_,λi hf ma=>DE hf ma _ _ _ _ _⟩
  ·have ra:¬(len*sz>2 ^ 24):=by omega
   have pa:Dm P e=some sz:=by simp[Dm,hi,ea]
   by_cases h0:len*sz=0
   ·have ua:(ZZ 0).map ((#[]:Array Value)[· % (#[]:Array Value).size]!)=row:=by simp[row,h0]
    simp only[execOp,ho,Instr.buildSlice,Sem.run_bind,run_underlying hu,Result.andThen_ok,Iu pa,show ¬((0:Nat)>2 ^ 24)from by omega,if_false,h0,if_true,Sem.run_pure,ua,f1,HP]
   ·simp only[execOp,ho,Instr.buildSlice,Sem.run_bind,run_underlying hu,Result.andThen_ok,Iu pa,ra,if_false,h0,Sem.run_pure,zeroValue,typeInfo,run_program,hi,hz];change (Sem.run P (match Instr.fill (λi=>some (i*sz,sz)) row (aa.map λ(i,x)=>(i,a.eval x)).toList with|some cells=>_|_=>_) w).andThen _=_;rw[f1];simp only[Sem.run_bind,HP,Result.andThen_ok,Sem.run_pure]
  ·refine aH (sz:=sz) (cur:=cv) (T:=e) (fz:=(0,0)) (heap_alloc_new w _) Xc (Qx _) (λd hd=>?_) (qa.ext ja) (λj v hv=>?_) Xi (λ_=>Xi) (λd hd=>?_)
   ·grind [R2]
   ·grind
   ·grind
 ·cases hx
end
structure iP (P:Program) (w:World) (size:Nat) (y:Value) (n:Nat) (ws:List Value):Prop where
 len:∀W:World,(Builtin.lenOf y).run P W= .ok n W
 cells:(Builtin.firstCells size n y).run P w= .ok ws.toArray w
 drew:(Builtin.firstCells size n y).run P w.drew= .ok ws.toArray w.drew
 wl:ws.length=n*size
section
variable{P:Program}{w:World}
theorem iP.slice{size n c:Nat}{ad:Addr}{s:List Value}(z:s.length=n*size)(h:∀j u,s[j]?=some u->w.cell? (ad.add j)=some u):iP P w size (.slice (some ad) n c) n s:=
 ⟨λW=>Yq,run_firstCells_some (P:=P) w size n ad n c s z h,run_firstCells_some (P:=P) w.drew size n ad n c s z Xl,z⟩
def iP.string(s:ByteArray):iP P w 1 (.string s) s.size (Lib.strCells s):=
 ⟨λW=>Yq,Lib.run_firstCells_string w 1 s,Lib.run_firstCells_string w.drew 1 s,by rw[Lib.strCells_length];omega⟩
def cP{t ty e:TypeId}{i:TypeInfo}{z:Value}(d:P.underlying t=some (.slice e))(hi:P.info? e=some i)(u:i.zero=some z)
  {y:Value} {n:Nat} {s:List Value} (j:iP P w i.size y n s)
  (r:0<n) (x:(n:Int)<=9223372036854775807) (p:n*i.bytes<=281474976710656):
  (Builtin.append_ #[t,t] ty #[.slice none 0 0,y]).run P w=
   .ok (.slice (some ⟨w.heap.size,0,none⟩) n (grownCap w n 0 e)) (w.drew.alloc (.cells (s.toArray++Builtin.zeroCells z.cells (grownCap w n 0 e-n)) e)):=by
 have f:n≠0:=O
 have a:¬(9223372036854775807<(n:Int)):=O
 have c:¬(281474976710656<Builtin.nextslicecap n 0*i.bytes):=by rw[nextslicecap_zero r];omega
 have k:=j.drew;have q:=j.len;simp[Builtin.append_,run_underlying d,sizeOf,typeInfo,zeroValue,hi,u,q,f,a,c,Question.forced,run_firstCells_none,k,newRow,grownCap]
def Vo{t ty e:TypeId}{i:TypeInfo}{z:Value}(g:P.underlying t=some (.slice e))(hi:P.info? e=some i)(p:i.zero=some z)
  {b:Addr} {sLen sCap:Nat} {olds:List Value} (o:olds.length=sLen*i.size) (d:∀j v,olds[j]?=some v->w.cell? (b.add j)=some v)
  {y:Value} {n:Nat} {s:List Value} (m:iP P w i.size y n s)
  (hg:sCap<sLen+n) (x:((sLen+n:Nat):Int)<=9223372036854775807) (r:Builtin.nextslicecap (sLen+n) sCap*i.bytes<=281474976710656):
  (Builtin.append_ #[t,t] ty #[.slice (some b) sLen sCap,y]).run P w=
   .ok (.slice (some ⟨w.heap.size,0,none⟩) (sLen+n) (grownCap w (sLen+n) sCap e))
    (w.drew.alloc (.cells (olds.toArray++s.toArray++Builtin.zeroCells z.cells (grownCap w (sLen+n) sCap e-(sLen+n))) e)):=by
 have f:¬(sLen+n<=sCap):=O
 have a:¬(9223372036854775807<((sLen:Int)+(n:Int))):=O
 have c:¬(281474976710656<Builtin.nextslicecap (sLen+n) sCap*i.bytes):=O
 have k:=m.drew;have hl:=m.len;have q:=run_firstCells_some (P:=P) w.drew i.size sLen b sLen sCap olds o X1;simp[Builtin.append_,run_underlying g,sizeOf,typeInfo,zeroValue,hi,p,hl,f,a,c,Question.forced,k,q,newRow,grownCap];congr 2;apply Array.ext';simp[QX]
def Vm{t ty e:TypeId}{i:TypeInfo}(ht:P.underlying t=some (.slice e))(hi:P.info? e=some i)
  {g sLen sCap:Nat} {cur:Array Value} (x:w.heap[g]?=some (.cells cur e (0,0))) {y:Value} {n:Nat} {s:List Value} (j:iP P w i.size y n s) (q:∀u∈s,u.oneCell'=true)
  (f:sLen+n<=sCap) (d:sLen*i.size+s.length<=cur.size):
  (Builtin.append_ #[t,t] ty #[.slice (some ⟨g,0,none⟩) sLen sCap,y]).run P w=
   .ok (.slice (some ⟨g,0,none⟩) (sLen+n) sCap) (w.setRow g (cur.toList.take (sLen*i.size)++s++cur.toList.drop (sLen*i.size+s.length)).toArray):=by
 have k:=j.cells;have z:=j.len;have c:=run_storeCells_at P g (sLen*i.size) e s 0 cur w x X1 q;simp only[Zw]at c;simp[Builtin.append_,run_underlying ht,sizeOf,typeInfo,hi,z,f,k,Addr.add_lit,c]
def iP.nil{size:Nat}:iP P w size (.slice none 0 0) 0 []:=
 ⟨λW=>Yq,by simp[Builtin.firstCells],by simp[Builtin.firstCells],U⟩
def Vn{t ty e:TypeId}{i:TypeInfo}(d:P.underlying t=some (.slice e))(hi:P.info? e=some i){y:Value}{s:List Value}(j:iP P w i.size y 0 s):
  (Builtin.append_ #[t,t] ty #[.slice none 0 0,y]).run P w= .ok (.slice none 0 0) w:=by
 have k:=j.cells;have z:=j.len;simp[Builtin.append_,run_underlying d,sizeOf,typeInfo,hi,z,k]
def Vl{t u ty e:TypeId}(d:P.underlying t=some (.slice e))(m:P.underlying u=some .string)(x y:Value):
  (Builtin.append_ #[t,u] ty #[x,y]).run P w=(Builtin.append_ #[t,t] ty #[x,y]).run P w:=by
 cases x<;>simp[Builtin.append_,run_underlying d,run_underlying m,sizeOf]
end
section
variable{P:Program}{B:Nat}{w0 w:World}{m:Ig}{g:Gh}{fr:Id}{s:Nat->D}{a:Act}{S:Ic}{d:D}{u:Ir}
def Im.slice_list{t:Id}{xs:List D}{v:Value}(h:Im w g (.slice false t xs) v):∃ad n c sz,∃s:List Value,v= .slice (some ad) n c∧n=xs.length∧n<=c∧(∀d∈xs,d.cells.length=sz)∧
  s.length=n*sz∧A8 w g (flat xs) s∧(∀j u,s[j]?=some u->w.cell? (ad.add j)=some u)∧(0<n*sz->ad.off+n*sz<=g.G ad.block)∧
  (t≠[]->ad.off=0∧ad.spot=none∧g.tb t=some (ad.block,n,c,sz))∧(∀d∈xs,d.calm=true):=by
 rcases h.slice_inv with ⟨r,_⟩|⟨_,ad,n,c,sz,i,ev,q,f,o,b,m,x,e,y,h9⟩
 ·cases r
 ·have z:=Cx o;refine⟨ad,n,c,sz,(QF (n*sz)).map i,ev,q,f,o,U,⟨by simp[z,q],λv p=>?_,λj d v l p=>?_⟩,λj u k=>?_,e,y,h9⟩
  ·grind
  ·grind
  ·grind
def SM:∀{ys:List D},(∀d∈ys,d.cells=[d])->flat ys=ys
 |[],_=>rfl
 |d::r,h=>by
  rw[flat,h d (QA ..),SM λd l=>h d (QD _ l)];rfl
def pJ{y:D}{v:Value}{ys:List D}{sz:Nat}(h:Im w g y v)(m:L5 sz y=some ys)(hh:aE ys sz=sz):
  ∃s:List Value,iP P w sz v ys.length s∧A8 w g (flat ys) s∧(∀d∈ys,d.cells.length=sz)∧∀d∈ys,d.calm=true:=by
 unfold L5 at m;split at m
 ·rename_i nl t f;simp only[Qn]at m;subst m;cases nl with
  |true=>
   rcases h.slice_inv with ⟨_,rfl,rfl⟩|⟨r,_⟩
   ·exact⟨[],iP.nil,A8.nil w g,U,U⟩
   ·cases r
  |false=>
   obtain⟨ad,n,c,x,s,rfl,hn,va,a,i,da,ga,z,na,e⟩:=h.slice_list;subst hn;rcases UK a hh with rfl|rfl
   ·grind [iP.slice,A8.nil]
   ·exact⟨s,iP.slice i ga,da,a,e⟩
 ·rename_i b;split at m
  ·rename_i q;subst q;simp only[Qn]at m;subst m;have p:v= .string ⟨b.toArray⟩:=by cases h;rfl
   subst p;have ka:(Ax b).length=(⟨b.toArray⟩:ByteArray).size:=by simp[Ax];rfl
   have q:∀d∈Ax b,d.cells=[d]∧d.calm=true:=by
    intro d l;simp only[Ax,QH]at l;obtain⟨c,_,rfl⟩:=l;exact⟨rfl,rfl⟩
   refine⟨Lib.strCells ⟨b.toArray⟩,ka▸iP.string _,⟨?_,Lib.strCells_oneCell _,λj d u l hu=>?_⟩,λd l=>by rw[(q d l).1];rfl,λd l=>(q d l).2⟩
   ·rw[SM λd l=>(q d l).1,Lib.strCells_length,ka]
   ·rw[SM λd l=>(q d l).1]at l;simp only[Ax,Lib.strCells,Qv,Qo]at l hu;obtain⟨c,k,rfl⟩:=l;obtain⟨c',o,rfl⟩:=hu;rw[k]at o;simp only[Qn]at o;subst o;exact .int _ _
  ·cases m
 ·cases m
def aDh{t t2 e:TypeId}{o:Oper}{x y:Operand}{p q:Ip}{sz bytes:Nat}(h:At P B w0 w m g fr s a)(hu:P.underlying t=some (.slice e))(he:L2 P e=some (sz,bytes))
  (hx:AK x=some p) (hy:AK y=some q) (ho:o.op= .call {callee:= .builtin .append,args:=#[x,y],argTypes:=#[t,t2]}) (ht2:t2=t∨P.underlying t2=some .string)
  (ba:AG S s m fr (.app e sz bytes p q)=some (d,u)):DH P B w0 m g fr w (Ir.app m u) d (execOp a.eval o):=by
 obtain⟨na,ti,z,hi,ea,hz,mb,cb⟩:=L1 he;have pa:Dm P e=some sz:=by simp[Dm,hi,ea]
 have oa:=h.slots.arg hx;have hb:=h.slots.arg hy;have fb:∃ti z,P.info? e=some ti∧ti.size=sz∧ti.zero=some z∧z.cells.size=sz:=⟨ti,z,hi,ea,hz,mb⟩;have ha:∀v' w',(Builtin.append_ #[t,t] o.type #[a.eval x,a.eval y]).run P w= .ok v' w'->(execOp a.eval o).run P w= .ok (.value v') w':=by
  intro v' w' e1;have e1:(Builtin.append_ #[t,t2] o.type #[a.eval x,a.eval y]).run P w= .ok v' w':=by
   rcases ht2 with rfl|ht2
   ·exact e1
   ·simp_all [Vl,e1]
  simp only[execOp,ho,resolve,invoke,builtin,Sem.run_bind,Sem.run_pure,Result.andThen_ok,ZO,QE,Zx,e1]
 simp only[AG]at ba;split at ba
 ·rename_i nl t' xs ys ex ey;rw[ex]at oa;split at ba
  ·rename_i hc;obtain⟨rfl,rfl⟩:=hc;simp only[Qn,Qq]at ba;obtain⟨rfl,rfl⟩:=ba;rcases oa.slice_inv with ⟨_,rfl,ev⟩|⟨h0,_⟩
   ·obtain⟨ws,bb,_⟩:=pJ (P:=P) hb ey (show aE [] sz=sz from rfl);have hv:=Vn (ty:=o.type) hu hi (ea▸bb);exact .pure h.inv (ha _ _ (by rw[ev];exact hv)) (.nils _)
   ·cases h0
  ·rename_i va;split at ba
   ·rename_i hc;obtain⟨ab,fc⟩:=hc;obtain⟨ws,bb,da,tb,jb⟩:=pJ (P:=P) hb ey fc;have db:ws.length=ys.length*sz:=bb.wl;have lb:iP P w ti.size (a.eval y) ys.length ws:=by rw[ea];exact bb
    have ac:xs.length+ys.length<=140737488355328:=by
     grind
    have pb:(xs.length+ys.length)*bytes<=140737488355328:=by
     grind
    split at ba
    ·-- onto nil
     rename_i ta;subst ta;simp only[Qn,Qq]at ba;obtain⟨rfl,rfl⟩:=ba;have nb:ys≠[]:=λe=>va ⟨rfl,e⟩
     rcases oa.slice_inv with ⟨_,rfl,ev⟩|⟨h0,_⟩
     ·have ka:0<ys.length:=List.length_pos_iff.2 nb;simp only[List.length_nil,QG]at ac pb;have hr:=cP (P:=P) (ty:=o.type) hu hi hz lb ka O (by rw[cb];omega);have ra:=grownCap_ge w ys.length 0 e;have ib:grownCap w ys.length 0 e<=maxLen:=grownCap_le_maxLen w ys.length 0 e Xk;have wa:(ws.toArray++Builtin.zeroCells z.cells (grownCap w ys.length 0 e-ys.length)).size=grownCap w ys.length 0 e*sz:=by
       simp only[ZK,ZL,size_zeroCells,mb,db,←Q1];congr 1;omega
      have ia:=h.inv.drew.newTok h.self (e:=e) (n:=ys.length) (c:=grownCap w ys.length 0 e) (sz:=sz) (cur:=ws.toArray++Builtin.zeroCells z.cells (grownCap w ys.length 0 e-ys.length)) na fb ra ib wa;have ja:IF w g (w.drew.alloc (.cells (ws.toArray++Builtin.zeroCells z.cells (grownCap w ys.length 0 e-ys.length)) e)) (g.tok fr w.heap.size ys.length (grownCap w ys.length 0 e) sz):=
       (IF.drew w g).trans (IF.newTok (w:=w.drew) _ h.inv.gz h.self.2.2 rfl)
      refine⟨_,_,_,_,ha _ _ (by rw[ev];exact hr),.inl rfl,ia,ja,?_,λi hf ma=>DE hf ma _ _ _ _ _⟩;refine aH (sz:=sz) (cur:=ws.toArray++Builtin.zeroCells z.cells (grownCap w ys.length 0 e-ys.length)) (T:=e) (fz:=(0,0)) (heap_alloc_new w.drew _) rfl ra tb (da.ext ja) (λj v hv=>?_) Xi (λ_=>Xi) jb;rw[QU (by simpa using (Qr.1 hv).1)];simpa using hv
     ·cases h0
    ·-- onto a growing slice
     rename_i ta;have ta:nl=false:=by cases nl<;>simp_all
     subst ta;split at ba
     ·rename_i k hk;split at ba
      ·rename_i bc;obtain⟨bc,wb⟩:=bc;subst bc;simp only[Qn,Qq]at ba;obtain⟨rfl,rfl⟩:=ba;obtain⟨ad,n0,c0,jc,ob,ev,hn,cc,xb,sb,rb,kb,lc,yb,gc⟩:=oa.slice_list;obtain⟨b,n,c,za,cur,t1,t2,t3,t4,t5,t6,t7,t8,t9,ya⟩:=h.inv.tok t' e hk;obtain⟨q1,q2,q3⟩:=yb wb;rw[t1]at q3;simp only[Qn,Qq]at q3;obtain⟨rfl,rfl,rfl,rfl⟩:=q3;have sa:za=sz:=by obtain⟨kc,z',i1,i2,_⟩:=t4;rw[hi]at i1;simp only[Qn]at i1;subst i1;omega
       subst sa;have vb:ad=⟨ad.block,0,none⟩:=by cases ad;simp_all
       have xa:w.heap[ad.block]?=some (.cells cur e (0,0)):=t5;have eb:∀(j:Nat) v,ob[j]?=some v->cur[j]?=some v:=by
        intro j v hv;have:=kb j v hv;rw[vb,Fg,QG]at this;simpa[World.cell?,xa]using this
       have qb:cur.toList.take (n*za)=ob:=by
        apply ZM;intro j;by_cases hj:j<n*za
        ·rw[QC hj];have:ob[j]?=some (ob[j]' O):=Qp _;rw[this];simpa using eb j _ this
        ·rw[Qw Xc,Qw O]
       have ub:Iv P B w0 (m.put t' 0 [.tok 0]) w g:=h.inv.kill (by
        cases hd:g.dl t' with
        |none=>rfl
        |some b'=>
         obtain⟨_,_,vs,T,_,r⟩:=h.inv.obj t' b' hd;obtain⟨v,_,_,r3⟩:=r 0 _ hk;cases r3)
       have ec:fr≠t':=by rintro rfl;rw[h.self.1 0]at hk;cases hk
       have ic:Cp (m.put t' 0 [.tok 0]) g fr:=Cp.kill h.self ec;have fa:∀b' n' c' s',∀i,Cp m g i->¬fr<:+i->Cp ((m.put t' 0 [.tok 0]).put fr 0 [.tok (e+1)]) (g.tok fr b' n' c' s') i:=by
        intro b' n' c' s' i hf ma;exact DE (Cp.kill hf (by rintro rfl;rw[hf.1 0]at hk;cases hk)) ma _ _ _ _ _
       have ca:∀dd∈xs++ys,dd.cells.length=za:=by
        intro dd dc;rcases Qt.1 dc with hd|hd
        ·exact xb dd hd
        ·exact tb dd hd
       have gb:∀dd∈xs++ys,dd.calm=true:=by
        intro dd dc;rcases Qt.1 dc with hd|hd
        ·exact gc dd hd
        ·exact jb dd hd
       have qa:A8 w g (flat (xs++ys)) (ob++ws):=by rw[LW];exact A8.append rb da
       have ka:n+ys.length=(xs++ys).length:=Xc
       have zb:(n+ys.length)<=maxLen:=Xk
       by_cases f:n+ys.length<=c
       ·-- there is room
        have ga:n*ti.size+ws.length<=cur.size:=by rw[db,ea,t8,←Q1];exact QN _ f
        have hr:=Vm (P:=P) (ty:=o.type) hu hi xa lb da.2.1 f ga;rw[ea]at hr ga
        let la:Array Value:=(cur.toList.take (n*za)++ws++cur.toList.drop (n*za+ws.length)).toArray
        have aa:(cur.toList.take (n*za)).length=n*za:=YD
        have ua:la.size=cur.size:=by simp[la];omega
        have l:∀j,j<n*za->la[j]?=cur[j]?:=by
         intro j hj;simp only[la,QV,QX];rw[Qz O,QC hj];simp
        have ia:=h.inv.inPlace h.self hk t1 (ZP n ys.length) f xa ua l;have ja:IF w g (w.setRow ad.block la) (g.tok fr ad.block (n+ys.length) c za):=IF.inPlace h.self.2.2 t9 (ZP n ys.length) xa l;refine⟨_,_,_,_,ha _ _ (by rw[ev,vb];exact hr),.inl rfl,ia,ja,?_,fa _ _ _ _⟩;refine aH (sz:=za) (cur:=la) (T:=e) (fz:=(0,0)) (setRow_heap w ad.block cur la e _ xa) ka f ca (qa.ext ja) (λj v hv=>?_) Xi (λ_=>Xi) gb;simp only[la,QV,qb];rw[Qz (Qr.1 hv).1];exact hv
       ·-- there is none
        have hr:=Vo (P:=P) (ty:=o.type) hu hi hz (b:=ad) (sLen:=n) (sCap:=c) (olds:=ob) (by rw[sb,ea]) kb lb O O (growslice_fits O (by rw[cb,hn];exact pb));have ra:=grownCap_ge w (n+ys.length) c e;have ib:grownCap w (n+ys.length) c e<=maxLen:=grownCap_le_maxLen w (n+ys.length) c e zb;have wa:(ob.toArray++ws.toArray++Builtin.zeroCells z.cells (grownCap w (n+ys.length) c e-(n+ys.length))).size=grownCap w (n+ys.length) c e*za:=by
         simp only[ZK,ZL,size_zeroCells,mb,db,sb,←Q1];congr 1;omega
        have ia:=ub.drew.newTok ic (e:=e) (n:=n+ys.length) (c:=grownCap w (n+ys.length) c e) (sz:=za) (cur:=ob.toArray++ws.toArray++Builtin.zeroCells z.cells (grownCap w (n+ys.length) c e-(n+ys.length))) na fb ra ib wa;have ja:IF w g (w.drew.alloc (.cells (ob.toArray++ws.toArray++Builtin.zeroCells z.cells (grownCap w (n+ys.length) c e-(n+ys.length))) e)) (g.tok fr w.heap.size (n+ys.length) (grownCap w (n+ys.length) c e) za):=
         (IF.drew w g).trans (IF.newTok (w:=w.drew) _ h.inv.gz h.self.2.2 rfl)
        refine⟨_,_,_,_,ha _ _ (by rw[ev];exact hr),.inl rfl,ia,ja,?_,fa _ _ _ _⟩;refine aH (sz:=za) (cur:=ob.toArray++ws.toArray++Builtin.zeroCells z.cells (grownCap w (n+ys.length) c e-(n+ys.length))) (T:=e) (fz:=(0,0)) (heap_alloc_new w.drew _) ka ra ca (qa.ext ja) (λj v hv=>?_) Xi (λ_=>Xi) gb;have hj:=(Qr.1 hv).1;rw[QU XR];simpa using hv
      ·cases ba
     ·cases ba
   ·cases ba
 ·cases ba
end
section
variable{P:Program}{B:Nat}{w0 w:World}{m:Ig}{g:Gh}{fr:Id}{s:Nat->D}{a:Act}{S:Ic}{d:D}{u:Ir}
theorem PD{v:Value}{d:D}(h:ofLeaf v=some d):d.calm1=true∧d.calm=true:=by
 unfold ofLeaf at h;split at h<;>first|(simp only[Qn]at h;subst h;exact⟨rfl,rfl⟩)|cases h
theorem mX{v:Value}{d:D}(h:ofVal v=some d):d.calm=true:=by
 cases v with
 |agg cs=>
  simp only[ofVal,Qo]at h;obtain⟨l,w,rfl⟩:=h;have f:∀{vs:List Value} {l:List D},ofLeaves vs=some l->l.all D.calm1=true:=by
   intro vs;induction vs with
   |nil=>intro l h;simp only[ofLeaves,Qn]at h;subst h;rfl
   |cons v r ih=>
    intro l h;unfold ofLeaves at h;split at h
    ·grind [PD]
    ·cases h
  exact f w
 |_=>simp only[ofVal]at h;exact(PD h).2
def xL{t e:TypeId}{o:Oper}{x y:Operand}{p q:Ip}{sz bytes:Nat}{z:D}(h:At P B w0 w m g fr s a)(hu:P.underlying t=some (.slice e))(he:L2 P e=some (sz,bytes))
  (hz:DL P e=some z) (hx:AK x=some p) (hy:AK y=some q) (ho:o.op= .makeSlice t x y)
  (ba:AG S s m fr (.mksl e sz bytes z p q)=some (d,u)):DH P B w0 m g fr w (Ir.app m u) d (execOp a.eval o):=by
 obtain⟨na,ti,zv,hi,ea,r,mb,cb⟩:=L1 he;have oa:=h.slots.arg hx;have hb:=h.slots.arg hy;have da:Im w g z zv:=by
  grind [DL,Im.ofVal]
 have eb:z.data=true:=by
  unfold DL at hz;simp only[hi,r]at hz;cases zv<;>first|(simp only[ofVal,Qo]at hz;obtain⟨l,_,rfl⟩:=hz;rfl)|(simp only[ofVal]at hz;exact PC hz)
 have la:z.calm=true:=by
  grind [DL,mX]
 simp only[AG]at ba;split at ba
 ·rename_i k n k' c ex ey;rw[ex]at oa;rw[ey]at hb;split at ba
  ·rename_i hc;obtain⟨h0,va,ab,f⟩:=hc;obtain⟨n,rfl⟩:=Zu h0;obtain⟨c,rfl⟩:=Zu (Int.le_trans h0 va);have ha:c*(bytes+1)<=140737488355328:=by
    grind
   have pb:bytes*c<=140737488355328:=by
    grind
   have ca:c<=140737488355328:=by
    grind
   have pa:(ti.bytes:Int)*(c:Int)<=281474976710656:=by
    grind
   have hr:=run_make (P:=P) w t e ti zv hu hi r k k' (n:Int) (c:Int) O O pa O;simp only[Int.toNat_natCast,ea]at hr;split at ba
   ·rename_i sa;split at ba
    ·rename_i cc;simp only[Qn,Qq]at ba;obtain⟨rfl,rfl⟩:=ba;obtain rfl:n=c:=by omega
     have bb:z.cells.length=1∧zv.cells=#[zv]∧zv.oneCell'=true:=by
      cases z with
      |nilIface=>
       obtain rfl:zv= .nilIface:=by cases da;rfl
       exact⟨rfl,rfl,rfl⟩
      |str b=>
       obtain⟨v,rfl⟩:∃v,zv= .string v:=by cases da;exact⟨_,rfl⟩
       exact⟨rfl,rfl,rfl⟩
      |_=>cases sa
     obtain⟨ya,ra,db⟩:=bb;obtain rfl:1=sz:=ya.symm.trans f;have ga:∀(j:Nat),j<n->(madeCells #[zv] (n*1)).toList[j]?=some zv:=by
      intro j hj;simp[madeCells,hj,Nat.mod_one]
     have ka:(madeCells #[zv] (n*1)).toList.length=n:=by simp[madeCells]
     have xa:A8 w g (QM n z) (madeCells #[zv] (n*1)).toList:=by
      refine⟨by rw[ka];simp,λv hv=>?_,λj d v hd hv=>?_⟩
      ·obtain⟨j,hj,rfl⟩:=Zm hv;have:=ga j (by rw[ka]at hj;exact hj);rw[Qp hj]at this;rw[QW this];exact db
      ·grind
     refine⟨.slice (some ⟨w.heap.size,0,none⟩) n n,w.alloc (.cells (madeCells #[zv] (n*1)) e),g.obj fr w.heap.size,.value (.slice (some ⟨w.heap.size,0,none⟩) n n),?_,.inl rfl,?_⟩
     ·simp only[execOp,ho,oa.int_inv,hb.int_inv,Sem.run_bind,Sem.run_pure];rw[ra]at hr;rw[hr];rfl
     ·have:=h.inv.newObj h.self (ds:=QM n z) (vs:=(madeCells #[zv] (n*1)).toList) e xa;rw[QP]at this;exact⟨this,IF.newObj _ h.inv.gz h.self.2.1,.row fr n n w.heap.size (Qx _) (by simp[Gh.obj]),λi hf ma=>Fz hf ma _ _⟩
    ·cases ba
   ·simp only[Qn,Qq]at ba;obtain⟨rfl,rfl⟩:=ba;have fb:zv.cells.size=sz:=mb;have aa:=da.cells eb;have ia:=h.inv.newTok h.self (e:=e) (n:=n) (c:=c) (sz:=sz) (cur:=madeCells zv.cells (c*sz)) na ⟨ti,zv,hi,ea,r,mb⟩ O Xk (by simp[size_madeCells]);have ja:=IF.newTok (t:=fr) (n:=n) (c:=c) (sz:=sz) (Obj.cells (madeCells zv.cells (c*sz)) e) h.inv.gz h.self.2.2 rfl;refine⟨.slice (some ⟨w.heap.size,0,none⟩) n c,_,_,.value (.slice (some ⟨w.heap.size,0,none⟩) n c),?_,.inl rfl,ia,ja,?_,λi hf ma=>DE hf ma _ _ _ _ _⟩
    ·simp only[execOp,ho,oa.int_inv,hb.int_inv,Sem.run_bind,hr,Result.andThen_ok,Sem.run_pure]
    ·have za:∀k,flat (QM k z)=(QM k z.cells).flatten:=by
      intro k;induction k with
      |zero=>rfl
      |succ k ih=>simp[List.replicate_succ,flat,ih]
     have fa:∀(j:Nat),j<n*sz->(flat (QM n z))[j]?=z.cells[j % sz]?:=by
      intro j hj;have hq:j / sz<n:=Nat.div_lt_of_lt_mul (by rw[ZX];exact hj);have:=E6 (sz:=sz) (xs:=QM n z) (k:=j / sz) (j:=j % sz) (λd hd=>Y6) (by simpa using hq) (ZW _ na);rw[show j / sz*sz+j % sz=j by rw[ZX];exact Nat.div_add_mod j sz]at this;rw[this];simp
     have wa:(flat (QM n z)).length=n*sz:=by
      simp_all
     have qa:A8 w g (flat (QM n z)) ((madeCells zv.cells (c*sz)).toList.take (n*sz)):=by
      have ta:n*sz<=c*sz:=QN _ O;have ga:∀j,j<n*sz->((madeCells zv.cells (c*sz)).toList.take (n*sz))[j]?=zv.cells.toList[j % sz]?:=by
       intro j hj;rw[QC hj];have hm:j % sz<zv.cells.size:=by rw[mb];exact ZW _ na
       simp[madeCells,mb,show j<c*sz by omega];rw[getElem!_pos zv.cells _ hm,getElem?_pos zv.cells _ hm]
      refine⟨by rw[Zs,wa,Q7,size_madeCells];omega,λv hv=>?_,λj d v hd hv=>?_⟩
      ·obtain⟨j,hj,rfl⟩:=Zm hv;have ua:j<n*sz:=Q_ hj (ZE _ _);have:=ga j ua;rw[Qp hj]at this;exact aa.2.1 _ (QL this.symm)
      ·have ua:j<n*sz:=by have:=(Qr.1 hd).1;omega
       rw[fa j ua]at hd;rw[ga j ua]at hv;exact aa.2.2 _ d v hd hv
     refine aH (sz:=sz) (cur:=madeCells zv.cells (c*sz)) (T:=e) (fz:=(0,0)) (heap_alloc_new w _) U O (λd hd=>Y6) (qa.ext ja) (λj v hv=>?_) Xi (λ_=>Xi) (λd hd=>by rw[List.eq_of_mem_replicate hd];exact la);have hj:j<n*sz:=Q_ (Qr.1 hv).1 (ZE _ _);rw[QC hj]at hv;simpa using hv
  ·cases ba
 ·cases ba
def GB:∀b:List UInt8,flat (Ax b)=Ax b
 |[]=>rfl
 |c::r=>by
  have:=GB r;simp only[Ax]at this;simp only[Ax,QE,flat,D.cells,Ze,Zy,this]
def aDd{p dst e:TypeId}{o:Oper}{x:Operand}{y:Ip}(h:At P B w0 w m g fr s a)(hs:P.underlying p=some .string)(hd:P.underlying dst=some (.slice e))(he:P.underlying e=some (.int .u8))
  (r:AK x=some y) (ho:o.op= .convert p dst x) (z:AG S s m fr (.s2b y)=some (d,u)):u=[]∧DH P B w0 m g fr w m d (execOp a.eval o):=by
 have hr:=h.slots.arg r;simp only[AG]at z;split at z
 ·rename_i b e1;rw[e1]at hr;simp only[Qn,Qq]at z;obtain⟨rfl,rfl⟩:=z;have q:=Lib.run_convert_string_bytes (P:=P) w p dst e ⟨b.toArray⟩ hs hd he;have f:Below w.heap.size w (Lib.bytesWorld w e ⟨b.toArray⟩):=
   ⟨rfl,rfl,rfl,by rw[Lib.bytesWorld_size];omega,λk hk=>Lib.bytesWorld_at_old w e _ k hk⟩
  have pa:(ByteArray.mk b.toArray).size=b.length:=X6
  rw[pa]at q;refine⟨rfl,.slice (some ⟨w.heap.size,0,none⟩) b.length (grownCap w b.length 0 e),_,_,.value (.slice (some ⟨w.heap.size,0,none⟩) b.length (grownCap w b.length 0 e)),?_,.inl rfl,h.inv.over f,IF.over h.inv.gz f,?_,λi hf _=>hf⟩
  ·simp only[execOp,ho,hr.str_inv,Sem.run_bind,q,Result.andThen_ok,Sem.run_pure]
  ·have l:=Lib.bytesWorld_at_new w e ⟨b.toArray⟩;have wa:=GB b;refine aH (sz:=1) (cur:=Lib.bytesCells w e ⟨b.toArray⟩) (vs:=b.map λc=> .int .u8 c.toNat) l (by simp[Ax]) (grownCap_ge w _ 0 e) (λd hd=>?_) ⟨?_,?_,?_⟩ (λj v t=>?_) ?_ U (λd hd=>by simp only[Ax,QH]at hd;obtain⟨c,_,rfl⟩:=hd;rfl)
   ·simp only[Ax,QH]at hd;obtain⟨c,_,rfl⟩:=hd;rfl
   ·rw[wa];simp[Ax]
   ·intro v t;simp only[QH]at t;obtain⟨c,_,rfl⟩:=t;rfl
   ·intro j d v hd t;rw[wa]at hd;simp only[Ax,Qv,Qo]at hd t;obtain⟨c,hc,rfl⟩:=hd;obtain⟨c',fa,rfl⟩:=t;rw[hc]at fa;simp only[Qn]at fa;subst fa;exact .int _ _
   ·simp only[Lib.bytesCells];have hj:=(Qr.1 t).1;rw[QU XR];simpa using t
   ·simp only[Gh.over];rw[if_neg O,l];simp[Lib.bytesCells,pa]
 ·cases z
def MM:∀{xs:List D} {b:List UInt8},BQ xs=some b->∃ns:List Int,xs=ns.map (D.int .u8)∧b=ns.map λn=>UInt8.ofNat n.toNat
 |[],b,h=>by simp only[BQ,Qn]at h;subst h;exact⟨[],rfl,rfl⟩
 |x::r,b,h=>by
  unfold BQ at h;split at h
  ·rename_i o;cases o
  ·rename_i n s o;cases o;rw[Qo]at h;obtain⟨z,i,rfl⟩:=h;obtain⟨ns,rfl,rfl⟩:=MM i;exact⟨n::ns,rfl,rfl⟩
  ·cases h
def Hs:∀(ns:List Int)(r:List UInt8),ns.foldl (λ(r:ByteArray) n=>r.push (UInt8.ofNat n.toNat)) ⟨r.toArray⟩=⟨(r++ns.map λn=>UInt8.ofNat n.toNat).toArray⟩
 |[],r=>U
 |n::ns,r=>by
  simp only[Zk,QE];have:(ByteArray.mk r.toArray).push (UInt8.ofNat n.toNat)=⟨(r++[UInt8.ofNat n.toNat]).toArray⟩:=by
   simp[ByteArray.push]
  rw[this,Hs ns];simp
def aDg{p dst e:TypeId}{o:Oper}{x:Operand}{y:Ip}(h:At P B w0 w m g fr s a)(hs:P.underlying p=some (.slice e))(hd:P.underlying dst=some .string)(he:P.underlying e=some (.int .u8))
  (hx:AK x=some y) (ho:o.op= .convert p dst x) (z:AG S s m fr (.b2s y)=some (d,u)):u=[]∧DH P B w0 m g fr w m d (execOp a.eval o):=by
 have hr:=h.slots.arg hx;simp only[AG]at z;split at z
 ·rename_i nl t' xs e1;rw[e1]at hr;rw[Qo]at z;obtain⟨b,hb,z⟩:=z;simp only[Qq]at z;obtain⟨rfl,rfl⟩:=z;cases nl with
  |true=>
   rcases hr.slice_inv with ⟨_,rfl,ev⟩|⟨h0,_⟩
   ·simp only[BQ,Qn]at hb;subst hb;refine⟨rfl,.pure (v:= .string ⟨([]:List UInt8).toArray⟩) h.inv ?_ (.str _)⟩;simp[execOp,ho,ev,convert,run_underlying hs,run_underlying hd,run_underlying he,Conv.bytesToString];rfl
   ·cases h0
  |false=>
   obtain⟨ns,rfl,rfl⟩:=MM hb;obtain⟨ad,n,c,sz,ws,ev,hn,va,pa,db,t,ga,hG,_,_⟩:=hr.slice_list;have wa:∀l:List Int,flat (l.map (D.int .u8))=l.map (D.int .u8):=by
    intro l;induction l with
    |nil=>rfl
    |cons c r ih=>simp only[QE,flat,D.cells,Ze,Zy,ih]
   rw[wa]at t;have qa:ws=ns.map (Value.int .u8):=by
    apply ZM;intro j;have q:=t.1;by_cases hj:j<ws.length
    ·have la:j<ns.length:=by simpa[q]using hj
     have:=t.2.2 j (.int .u8 ns[j]) ws[j] (by simp[la]) (Qp hj);rw[Qp hj,this.int_inv];simp[la]
    ·rw[Qw O,Qw (by simp;simp at q;omega)]
   have ea:ws.length=n:=by rw[qa,hn];simp
   have i:(loadCells ad n).run P w= .ok (ns.map (Value.int .u8)).toArray w:=by
    have:=run_loadCells_list (P:=P) w ad ws ga;rw[ea,qa]at this;exact this
   have ha:=run_bytesToString (P:=P) w ad n c ns i;have f:=Hs ns [];refine⟨rfl,.pure (v:= .string ⟨(ns.map λn=>UInt8.ofNat n.toNat).toArray⟩) h.inv ?_ (.str _)⟩;have k:(convert p dst (.slice (some ad) n c)).run P w=(Conv.bytesToString (.slice (some ad) n c)).run P w:=by
    simp[convert,run_underlying hs,run_underlying hd,run_underlying he]
   simp only[execOp,ho,ev,Sem.run_bind,k,ha,Result.andThen_ok,Sem.run_pure];rw[show ByteArray.empty=⟨([]:List UInt8).toArray⟩from rfl,f];rfl
 ·cases z
end
section
variable{P:Program}{B:Nat}{w0 w:World}{m:Ig}{g:Gh}{fr:Id}{s:Nat->D}{a:Act}{S:Ic}{d:D}{u:Ir}
def DH.of_nil{x:Sem Next}(h:u=[]∧DH P B w0 m g fr w m d x):DH P B w0 m g fr w (Ir.app m u) d x:=by
 obtain⟨rfl,h⟩:=h;exact h
def aZ{w:World}{g:Gh}{d e:D}{v u:Value}(h:Im w g d v)(k:Im w g e u):Im w g (.tup [d,e]) (.tuple #[v,u]):=by
 refine .tup [d,e] [v,u] rfl (λj i a l t=>?_)
 match j with
 |0=>simp at l t;subst l t;exact h
 |1=>simp at l t;subst l t;exact k
 |j+2=>simp at l
def rK{ne:Bool}{t:TypeId}{x y:Operand}{yt:TypeId}{o:Oper}{p q:Ip}{la:DOp}(h:At P B w0 w m g fr s a)(hx:AK x=some p)(hy:AK y=some q)
  (r:Vb P ne t x y p q=some la) (ho:o.op= .binOp (if ne then .neq else .eql) t x y yt) (z:AG S s m fr la=some (d,u)):u=[]∧DH P B w0 m g fr w m d (execOp a.eval o):=by
 have oa:=h.slots.arg hx;have j:=h.slots.arg hy;have n:∀v,(eqGuard (if ne then .neq else .eql) t x y (a.eval x) (a.eval y)).run P w= .ok () w->(binOp (if ne then .neq else .eql) t (a.eval x) (a.eval y)).run P w= .ok v w->(execOp a.eval o).run P w= .ok (.value v) w:=by
  intro v e1 e2;simp only[execOp,ho,Sem.run_bind,e1,e2,Result.andThen_ok,Sem.run_pure]
 have i:la= .bin (if ne then .neq else .eql) p q->u=[]∧DH P B w0 m g fr w m d (execOp a.eval o):=by
  rintro rfl;simp only[AG]at z;rw[Qo]at z;obtain⟨d',h1,z⟩:=z;simp only[Qq]at z;obtain⟨rfl,rfl⟩:=z;obtain⟨v,e1,e2,e3,e4⟩:=UY (P:=P) (t:=t) oa j h1;exact⟨rfl,.pure h.inv (n v (LT _ t x y _ _ e3 e4 w) e1) e2⟩
 have f:∀k td,P.underlying t=some td->aDk k td->(k=2->(HZ x||HZ y)=true)->la= .nileq ne k p q->u=[]∧DH P B w0 m g fr w m d (execOp a.eval o):=by
  rintro k td hu hd hc rfl;simp only[AG]at z;rw[Qo]at z;obtain⟨b,h1,z⟩:=z;simp only[Qq]at z;obtain⟨rfl,rfl⟩:=z;obtain⟨e1,e2,e3,e4⟩:=dE oa j h1 hu hd 9999;exact⟨rfl,.pure h.inv (n _ (eE _ t x y _ _ e3 (λe=>hc (e4 e)) w) (Vk e2 ne e1)) (.bool _)⟩
 unfold Vb at r;split at r
 ·rename_i hu;simp only[Qn]at r;subst r;simp only[AG]at z;split at z
  ·rename_i b c ex ey;rw[ex]at oa;rw[ey]at j;simp only[Qn,Qq]at z;obtain⟨rfl,rfl⟩:=z;refine⟨rfl,.pure h.inv (n _ (LT _ t x y _ _ (by rw[oa.bool_inv];simp) (by rw[oa.bool_inv];simp) w) (Vk (by rw[oa.bool_inv];rfl) ne (b:=b==c) ?_)) (.bool _)⟩;rw[oa.bool_inv,j.bool_inv];exact run_equalIn_bool' w 9999 t _ _ hu
  ·cases z
 ·simp_all
 ·simp_all
 ·rename_i fs hu;split at r
  ·rename_i hc;rw[Qo]at r;obtain⟨l,hl,rfl⟩:=r;simp only[AG]at z;split at z
   ·rename_i xs ys ex ey;rw[ex]at oa;rw[ey]at j;rw[Qo]at z;obtain⟨b,h1,z⟩:=z;simp only[Qq]at z;obtain⟨rfl,rfl⟩:=z;obtain⟨e1,e2⟩:=Vf oa j hu hc.1 hc.2 hl h1 x y (if ne then .neq else .eql);refine⟨rfl,.pure h.inv (n _ e2 (Vk ?_ ne e1)) (.bool _)⟩;obtain⟨vs,e3,_⟩:=aG oa;rw[e3];rfl
   ·cases z
  ·cases r
 ·rename_i e hu;simp only[Qn]at r;exact f 0 _ hu ⟨e,rfl⟩ U r.symm
 ·rename_i e hu;simp only[Qn]at r;exact f 1 _ hu ⟨e,rfl⟩ U r.symm
 ·rename_i p' r' v' hu;simp only[Qn]at r;exact f 3 _ hu ⟨p',r',v',rfl⟩ U r.symm
 ·rename_i ms hu;split at r
  ·rename_i hc;simp only[Qn]at r;exact f 2 _ hu ⟨ms,rfl⟩ (λ_=>hc) r.symm
  ·cases r
 ·cases r
def aDf{op:BinOp}{t:TypeId}{x y:Operand}{e:TypeId}{o:Oper}{p q:Ip}(h:At P B w0 w m g fr s a)(r:AK x=some p)(hy:AK y=some q)
  (ho:o.op= .binOp op t x y e) (z:AG S s m fr (.bin op p q)=some (d,u)):u=[]∧DH P B w0 m g fr w m d (execOp a.eval o):=by
 simp only[AG]at z;rw[Qo]at z;obtain⟨i,h1,z⟩:=z;simp only[Qq]at z;obtain⟨rfl,rfl⟩:=z;obtain⟨v,e1,e2,e3,e4⟩:=UY (P:=P) (t:=t) (h.slots.arg r) (h.slots.arg hy) h1;refine⟨rfl,.pure h.inv ?_ e2⟩;simp only[execOp,ho,Sem.run_bind,LT op t x y _ _ e3 e4 w,e1,Result.andThen_ok,Sem.run_pure]
def xJ{x:Operand}{xt t:TypeId}{ok:Bool}{z:D}{o:Oper}{p:Ip}{q:TypeDesc}(h:At P B w0 w m g fr s a)(k:P.underlying t=some q)(sa:∀ms,q≠ .interface ms)(j:DL P t=some z)
  (r:AK x=some p) (ho:o.op= .typeAssert x xt t ok) (y:AG S s m fr (.tass t ok z p)=some (d,u)):u=[]∧DH P B w0 m g fr w m d (execOp a.eval o):=by
 have oa:=h.slots.arg r;obtain⟨zv,f,b⟩:∃zv,Im w g z zv∧(zeroValue t).run P w= .ok zv w:=by
  unfold DL at j;split at j
  ·rename_i i hi;split at j
   ·rename_i v hv;exact⟨v,Im.ofVal j,by simp[zeroValue,typeInfo,hi,hv]⟩
   ·cases j
  ·cases j
 have n:∀v,(Instr.typeAssert (a.eval x) xt t ok).run P w= .ok v w->(execOp a.eval o).run P w= .ok (.value v) w:=by
  intro v e;simp only[execOp,ho,Sem.run_bind,e,Result.andThen_ok,Sem.run_pure]
 simp only[AG]at y;split at y
 ·rename_i l d' ex;rw[ex]at oa;obtain⟨v,ev,hv,_⟩:=oa.iface_inv;split at y
  ·rename_i ta;subst ta;simp only[Qn,Qq]at y;obtain⟨rfl,rfl⟩:=y;refine⟨rfl,.pure (v:=if ok then .tuple #[v,.bool true]else v) h.inv (n _ ?_) ?_⟩
   ·rw[ev];unfold Instr.typeAssert;simp only[Sem.run_bind,run_underlying k,Result.andThen_ok];cases q<;>first|exact absurd rfl (sa _)|(cases ok<;>simp)
   ·cases ok
    ·exact hv
    ·exact aZ hv (.bool true)
  ·rename_i ta;split at y
   ·rename_i ga;subst ga;simp only[Qn,Qq]at y;obtain⟨rfl,rfl⟩:=y;refine⟨rfl,.pure (v:= .tuple #[zv,.bool false]) h.inv (n _ ?_) (aZ f (.bool false))⟩;rw[ev];unfold Instr.typeAssert;simp only[Sem.run_bind,run_underlying k,Result.andThen_ok];have c:¬l=t:=ta;cases q<;>first|exact absurd rfl (sa _)|(simp[c,b])
   ·cases y
 ·rename_i ex;rw[ex]at oa;have ev:=oa.nili_inv;split at y
  ·rename_i ga;subst ga;simp only[Qn,Qq]at y;obtain⟨rfl,rfl⟩:=y;refine⟨rfl,.pure (v:= .tuple #[zv,.bool false]) h.inv (n _ ?_) (aZ f (.bool false))⟩;rw[ev];unfold Instr.typeAssert;simp only[Sem.run_bind,run_underlying k,Result.andThen_ok];cases q<;>first|exact absurd rfl (sa _)|(simp[b])
  ·cases y
 ·cases y
def gD{xs:Array Operand}{l:List Ip}(h:At P B w0 w m g fr s a)(z:EF xs.toList=some l):
  ((xs.map a.eval).toList).length=(l.map (·.ev s)).length∧∀(j:Nat) d v,(l.map (·.ev s))[j]?=some d->((xs.map a.eval).toList)[j]?=some v->Im w g d v:=by
 have:=h.slots.args z;simpa using this
end
def OQ{w:World}{b k:Nat}{o:Obj}(h:k≠b):({w with heap:=w.heap.setIfInBounds b o}:World).heap[k]?=w.heap[k]?:=by
 grind
def Gh.itr(g:Gh)(t:Id)(b:Nat):Gh:={g with tb:=λi=>if i=t then some (b,0,0,0)else g.tb i}
section
variable{P:Program}{B:Nat}{w0 w w':World}{m:Ig}{g g':Gh}{fr:Id}{s:Nat->D}{a:Act}{S:Ic}{d:D}{u:Ir}
def Gv(m:Ig)(t:Id)(x:D)(i:Id)(o:Nat):m.put t 1 [x] i o=if i=t∧o=1 then some x else m i o:=by
 grind [Ig.put]
def IF.newItr{t:Id}(o:Obj)(c:∀b,w.heap.size<=b->g.G b=0)(k:g.tb t=none):IF w g (w.alloc o) (g.itr t w.heap.size):=by
 refine⟨λp m=>?_,λz=>Qx _,λa b h=>h,rfl,λi x h=>?_⟩
 ·by_cases v:p.block<w.heap.size
  ·exact World.cell?_alloc_lt w o p v
  ·simp_all
 ·grind [Gh.itr]
def Iv.newItr(h:Iv P B w0 m w g){t:Id}(hf:Cp m g t)(bs:List UInt8):Iv P B w0 (m.put t 1 [.it bs 0]) (w.alloc (.stringIter ⟨bs.toArray⟩ 0)) (g.itr t w.heap.size):=by
 have x:=IF.newItr (t:=t) (Obj.stringIter ⟨bs.toArray⟩ 0) h.gz hf.2.2;have ca:=Gv m t (.it bs 0);refine⟨h.below.alloc h.size _,YN,λb j=>h.gz b (by simp at j;omega),h.old,λi b hi=>?_,h.inj,λi o d a hn=>?_,λi e hi=>?_,λi1 i2 e1 e2 b y y' u f l h4=>?_,λi s p hi=>?_,λi i' s p s' p' b y y' u f l h4=>?_⟩
 ·obtain⟨p,q,vs,T,hh,r⟩:=h.obj i b hi;refine⟨p,q,vs,T,(Below.heap_alloc w _ b (h.lt hi)).trans hh,λo d a=>?_⟩;rw[ca,if_neg (by rintro⟨rfl,_⟩;simp only[Gh.itr]at hi;rw[hf.2.1]at hi;cases hi)]at a;obtain⟨v,r1,r2,r3⟩:=r o d a;exact⟨v,r1,r2,r3.ext x⟩
 ·rw[ca]at a;split at a
  ·rw[←QW a];rfl
  ·exact h.kind _ _ _ a hn
 ·rw[ca,if_neg U]at hi;obtain⟨b,n,c,sz,cur,t1,t2,t3,t4,t5,t6,t7,t8,t9,ya⟩:=h.tok i e hi;have z:b<w.heap.size:=(Qs.1 t5).1;have ka:i≠t:=by rintro rfl;rw[hf.1 0]at hi;cases hi
  exact⟨b,n,c,sz,cur,by simp[Gh.itr,ka,t1],t2,t3,t4,(Below.heap_alloc w _ b z).trans t5,t6,t7,t8,t9,ya⟩
 ·rw[ca,if_neg U]at u f;have n1:i1≠t:=by rintro rfl;rw[hf.1 0]at u;cases u
  have n2:i2≠t:=by rintro rfl;rw[hf.1 0]at f;cases f
  simp only[Gh.itr,if_neg n1]at l;simp only[Gh.itr,if_neg n2]at h4;exact h.tinj _ _ _ _ _ _ _ u f l h4
 ·rw[ca]at hi;split at hi
  ·rename_i k;obtain⟨rfl,_⟩:=k;simp only[Qn,D.it.injEq]at hi;obtain⟨rfl,rfl⟩:=hi;exact⟨w.heap.size,by simp[Gh.itr],h.size,heap_alloc_new w _,h.gz _ (Qx _),λi' h'=>by have:=h.lt h';omega⟩
  ·obtain⟨b,t1,t2,t3,t4,t5⟩:=h.itr.1 i s p hi;have z:b<w.heap.size:=(Qs.1 t3).1;have ka:i≠t:=by rintro rfl;rw[hf.1 1]at hi;cases hi
   exact⟨b,by simp[Gh.itr,ka,t1],t2,(Below.heap_alloc w _ b z).trans t3,t4,t5⟩
 ·have ea:∀i s p,m i 1=some (.it s p)->∀b y,(g.itr t w.heap.size).tb i=some (b,y)->i≠t∧g.tb i=some (b,y)∧b<w.heap.size:=by
   intro i s p a b y j;have ka:i≠t:=by rintro rfl;rw[hf.1 1]at a;cases a
   simp only[Gh.itr,if_neg ka]at j;obtain⟨b',t1,t2,t3,t4,t5⟩:=h.itr.1 i s p a;rw[t1]at j;simp only[Qn,Qq]at j;obtain⟨rfl,rfl⟩:=j;exact⟨ka,t1,(Qs.1 t3).1⟩
  rw[ca]at u f;split at u<;>split at f
  ·simp_all
  ·grind [Gh.itr]
  ·grind [Gh.itr]
  ·obtain⟨_,k3,_⟩:=ea _ _ _ u _ _ l;obtain⟨_,k4,_⟩:=ea _ _ _ f _ _ h4;exact h.itr.2 _ _ _ _ _ _ _ _ _ u f k3 k4
def Iv.nextItr(h:Iv P B w0 m w g){i:Id}{b:Nat}{bs:List UInt8}{p q:Nat}(hm:m i 1=some (.it bs p))(hb:g.tb i=some (b,0,0,0)):
  Iv P B w0 (m.put i 1 [.it bs q]) {w with heap:=w.heap.setIfInBounds b (.stringIter ⟨bs.toArray⟩ q)} g∧IF w g {w with heap:=w.heap.setIfInBounds b (.stringIter ⟨bs.toArray⟩ q)} g:=by
 obtain⟨b0,t1,t2,t3,t4,t5⟩:=h.itr.1 i bs p hm;rw[hb]at t1;simp only[Qn,Qq,and_true]at t1;subst t1;have aa:b<w.heap.size:=(Qs.1 t3).1;have z:∀k,k≠b->({w with heap:=w.heap.setIfInBounds b (.stringIter ⟨bs.toArray⟩ q)}:World).heap[k]?=w.heap[k]?:=λk j=>OQ j
 have ca:=Gv m i (.it bs q);have x:IF w g {w with heap:=w.heap.setIfInBounds b (.stringIter ⟨bs.toArray⟩ q)} g:=by
  refine⟨λr hr=>?_,λ_=>Qx _,λ_ _ h=>h,rfl,λ_ _ h=>h⟩;have ma:r.block≠b:=by rintro e;rw[e,t4]at hr;omega
  simp only[World.cell?];rw[z _ ma]
 have pa:({w with heap:=w.heap.setIfInBounds b (.stringIter ⟨bs.toArray⟩ q)}:World).heap.size=w.heap.size:=U
 refine⟨⟨⟨h.below.os,h.below.tape,h.below.output,Yv,λk j=>(z k O).trans (h.below.block k j)⟩,Yu,by rw[pa];exact h.gz,h.old,λi' b' hi=>?_,h.inj,λi' o d t hn=>?_,λi' e hi=>?_,λi1 i2 e1 e2 b' y y' u f l h4=>?_,λi' s' p' hi=>?_,λi1 i2 s1 p1 s2 p2 b' y y' u f l h4=>?_⟩,x⟩
 ·obtain⟨p1,q1,vs,T,hh,r⟩:=h.obj i' b' hi;have ma:b'≠b:=by rintro rfl;exact t5 i' hi
  refine⟨p1,q1,vs,T,(z b' ma).trans hh,λo d t=>?_⟩;rw[ca]at t;split at t
  ·rename_i hc;obtain⟨rfl,rfl⟩:=hc;obtain⟨v,_,_,r3⟩:=r 1 _ hm;cases r3
  ·obtain⟨v,r1,r2,r3⟩:=r o d t;exact⟨v,r1,r2,r3.ext x⟩
 ·rw[ca]at t;split at t
  ·rw[←QW t];rfl
  ·exact h.kind _ _ _ t hn
 ·rw[ca,if_neg U]at hi;obtain⟨b1,n,c,sz,cur,u1,u2,u3,u4,u5,u6,u7,u8,u9,a⟩:=h.tok i' e hi;have ma:b1≠b:=by rintro rfl;rw[t3]at u5;cases u5
  exact⟨b1,n,c,sz,cur,u1,u2,u3,u4,(z b1 ma).trans u5,u6,u7,u8,u9,a⟩
 ·rw[ca,if_neg U]at u f;exact h.tinj _ _ _ _ _ _ _ u f l h4
 ·rw[ca]at hi;split at hi
  ·simp_all
  ·rename_i hc;obtain⟨b1,u1,u2,u3,u4,u5⟩:=h.itr.1 i' s' p' hi;have ma:b1≠b:=by
    rintro rfl;exact hc ⟨h.itr.2 _ _ _ _ _ _ _ _ _ hi hm u1 hb,rfl⟩
   exact⟨b1,u1,u2,(z b1 ma).trans u3,u4,u5⟩
 ·have ea:∀i' s' p',m.put i 1 [.it bs q] i' 1=some (.it s' p')->∃s p,m i' 1=some (.it s p):=by
   intro i' s' p' hi;rw[ca]at hi;split at hi
   ·simp_all
   ·exact⟨_,_,hi⟩
  obtain⟨_,_,k1⟩:=ea _ _ _ u;obtain⟨_,_,k2⟩:=ea _ _ _ f;exact h.itr.2 _ _ _ _ _ _ _ _ _ k1 k2 l h4
def Im.itp_inv{i:Id}{v:Value}(h:Im w g (.itp i) v):∃b,v= .pointer (some ⟨b,0,none⟩)∧g.tb i=some (b,0,0,0):=by
 cases h with
 |itp _ b j=>exact⟨b,rfl,j⟩
def lX{t:TypeId}{o:Oper}{x:Operand}{y:Ip}(h:At P B w0 w m g fr s a)(hu:P.underlying t=some .string)(p:AK x=some y)(r:o.op= .range t x)
  (j:AG S s m fr (.range y)=some (d,u)):DH P B w0 m g fr w (Ir.app m u) d (execOp a.eval o):=by
 have q:=h.slots.arg p;simp only[AG]at j;split at j
 ·rename_i b l;rw[l]at q;simp only[Qn,Qq]at j;obtain⟨rfl,rfl⟩:=j;refine⟨.pointer (some ⟨w.heap.size,0,none⟩),w.alloc (.stringIter ⟨b.toArray⟩ 0),g.itr fr w.heap.size,.value (.pointer (some ⟨w.heap.size,0,none⟩)),?_,.inl rfl,?_⟩
  ·have e1:a.eval x= .string ⟨b.toArray⟩:=q.str_inv;simp[execOp,r,Instr.range,run_underlying hu,e1]
  ·refine⟨h.inv.newItr h.self b,IF.newItr _ h.inv.gz h.self.2.2,.itp fr _ (by simp[Gh.itr]),λi k c=>?_⟩;have:i≠fr:=λe=>c Yx
   exact⟨λo=>by show m.put fr 1 _ i o=none;rw[Gv,if_neg (by simp[this])];exact k.1 o,k.2.1,by simp only[Gh.itr];rw[if_neg this];exact k.2.2⟩
 ·cases j
def xK{o:Oper}{x:Operand}{y:Ip}(h:At P B w0 w m g fr s a)(p:AK x=some y)(ho:o.op= .next x true)
  (f:AG S s m fr (.next y)=some (d,u)):DH P B w0 m g fr w (Ir.app m u) d (execOp a.eval o):=by
 have hr:=h.slots.arg p;simp only[AG]at f;split at f
 ·rename_i i ex;rw[ex]at hr;obtain⟨b,e1,hb⟩:=hr.itp_inv;split at f
  ·rename_i bs z hm;obtain⟨b',t1,t2,t3,t4,t5⟩:=h.inv.itr.1 i bs z hm;rw[hb]at t1;simp only[Qn,Qq,and_true]at t1;subst t1;have r:b<w.heap.size:=(Qs.1 t3).1;have fa:(getObj b).run P w= .ok (.stringIter ⟨bs.toArray⟩ z) w:=by simp[getObj,Sem.run,t3]
   have sa:∀o',(setObj b o').run P w= .ok () {w with heap:=w.heap.setIfInBounds b o'}:=by intro o';simp[setObj,Sem.run,t3]
   have pa:(ByteArray.mk bs.toArray).size=bs.length:=X6
   split at f
   ·rename_i k;simp only[Qn,Qq]at f;obtain⟨rfl,rfl⟩:=f;obtain⟨hi,ga⟩:=h.inv.nextItr (q:=z+(Utf8.decode ⟨bs.toArray⟩ z).2) hm hb;refine⟨.tuple #[.bool true,.int .i64 (z:Nat),.int .i32 (Utf8.decode ⟨bs.toArray⟩ z).1],_,g,.value (.tuple #[.bool true,.int .i64 (z:Nat),.int .i32 (Utf8.decode ⟨bs.toArray⟩ z).1]),?_,.inl rfl,⟨hi,ga,?_,λj e n=>?_⟩⟩
    ·simp only[execOp,ho,Instr.next,e1,Sem.run_bind,fa,Result.andThen_ok,pa,k,if_true];cases l:Utf8.decode ⟨bs.toArray⟩ z with
     |mk c wd=>
      simp only[sa,Result.andThen_ok,Sem.run_pure];rfl
    ·refine .tup [_,_,_] [_,_,_] rfl (λj d v l t=>?_)
     match j with
     |0=>simp at l t;subst l t;exact .bool _
     |1=>simp at l t;subst l t;exact .int _ _
     |2=>simp at l t;subst l t;exact .int _ _
     |j+3=>simp at l
    ·have:j≠i:=by rintro rfl;rw[e.1 1]at hm;cases hm
     exact⟨λo=>by show m.put i 1 _ j o=none;rw[Gv,if_neg (by simp[this])];exact e.1 o,e.2⟩
   ·rename_i k;simp only[Qn,Qq]at f;obtain⟨rfl,rfl⟩:=f;refine .pure (v:= .tuple #[.bool false]) h.inv ?_ (.tup [_] [_] rfl (λj d v l t=>?_))
    ·simp only[execOp,ho,Instr.next,e1,Sem.run_bind,fa,Result.andThen_ok,pa,k,if_false,Sem.run_pure]
    ·match j with
     |0=>simp at l t;subst l t;exact .bool _
     |j+1=>simp at l
  ·cases f
 ·cases f
end
structure IS.ok (P:Program) (f:FuncId) (q:IS):Prop where
 ent:∃fn,P.funcs[f]?=some fn∧fn.body.isSome=true∧(fn.name== "runtime.NumGoroutine")=false
 loc:∀ds m m' fr,(∀l∈q.rd ds m,m l.1 l.2=m' l.1 l.2)->q.ex ds m fr=q.ex ds m' fr
 run:∀{B:Nat} {w0 w:World} {m:Ig} {g:Gh} {fr:Id} {ds:List D} {vs:List Value} {r:D} {u:Ir},Iv P B w0 m w g->(∀i,fr<:+i->Cp m g i)->
  vs.length=ds.length->(∀(j:Nat) d v,ds[j]?=some d->vs[j]?=some v->Im w g d v)->q.ex ds m fr=some (r,u)->
  Calls P f vs.toArray w λe w'=>∃v g',e= .returned v∧aRI P B w0 m g fr w (Ir.app m u) r v w' g'
def Ic.ok(P:Program)(S:Ic):Prop:=∀f q,S f=some q->q.ok P f
section
variable{P:Program}{B:Nat}{w0 w:World}{m:Ig}{g:Gh}{fr:Id}{s:Nat->D}{a:Act}{S:Ic}{d:D}{u:Ir}
def aGB{o:Oper}{la:DOp}(h:At P B w0 w m g fr s a)(aa:tr P o.op=some la)(va:∀f xs,la≠ .call f xs)(ba:AG S s m fr la=some (d,u)):
  DH P B w0 m g fr w (Ir.app m u) d (execOp a.eval o):=by
 have da:∀{x:Operand} {F:Ip->DOp},(AK x).map F=some la->∃y,AK x=some y∧la=F y:=by
  simp_all
 have j:∀{v:Value} {d':D},(execOp a.eval o).run P w= .ok (.value v) w->Im w g d' v->some (d',([]:Ir))=some (d,u)->DH P B w0 m g fr w (Ir.app m u) d (execOp a.eval o):=by
  intro v d' e1 e2 e3;simp only[Qn,Qq]at e3;obtain⟨rfl,rfl⟩:=e3;exact .pure h.inv e1 e2
 cases hop:o.op<;>rw[hop]at aa<;>first|(simp only[tr]at aa;done)|skip
 case move x=>
  obtain⟨y,hx,rfl⟩:=da aa;exact j (by simp[execOp,hop]) (h.slots.arg hx) ba
 case assign x=>
  obtain⟨y,hx,rfl⟩:=da aa;exact j (by simp[execOp,hop]) (h.slots.arg hx) ba
 case pick c x y=>
  simp only[tr]at aa;split at aa
  ·rename_i c' x' y' e1 e2 e3;simp only[Qn]at aa;subst aa;simp only[AG]at ba;split at ba
   ·rename_i b eb;have hb:=h.slots.arg e1;rw[eb]at hb;have ha:(execOp a.eval o).run P w= .ok (.value (if b then a.eval x else a.eval y)) w:=by
     simp[execOp,hop,hb.bool_inv,asBool]
    refine j ha ?_ ba;cases b
    ·exact h.slots.arg e3
    ·exact h.slots.arg e2
   ·cases ba
  ·cases aa
 case alloc t=>
  simp only[tr]at aa;rw[Qo]at aa;obtain⟨z,hz,rfl⟩:=aa;simp only[AG,Qn,Qq]at ba;obtain⟨rfl,rfl⟩:=ba;exact mD h hz hop
 case box t x=>
  obtain⟨y,hx,rfl⟩:=da aa;simp only[AG]at ba;split at ba
  ·rename_i hd;simp only[Qn,Qq]at ba;obtain⟨rfl,rfl⟩:=ba;exact aDe h hx hd hop
  ·cases ba
 case build t parts=>
  simp only[tr]at aa;split at aa
  ·rename_i ca zs hu hz;split at aa
   ·rename_i ga;rw[Qo]at aa;obtain⟨l,hl,rfl⟩:=aa;exact .of_nil (mC h hu ga hz hl hop ba)
   ·cases aa
  ·rename_i len e zs hu hz;split at aa
   ·rename_i qa;rw[Qo]at aa;obtain⟨l,hl,rfl⟩:=aa;exact .of_nil (fA h hu qa hz hl hop ba)
   ·cases aa
  ·cases aa
 case buildSlice t len parts=>
  simp only[tr]at aa;split at aa
  ·grind [fB]
  ·cases aa
 case load t x=>
  simp only[tr]at aa;split at aa
  ·rename_i k y hk hx;simp only[Qn]at aa;subst aa;exact .of_nil (xM h hk hx hop ba)
  ·cases aa
 case store t x v=>
  simp only[tr]at aa;split at aa
  ·grind [lW]
  ·cases aa
 case nilCheck x=>
  obtain⟨y,hx,rfl⟩:=da aa;have hr:=h.slots.arg hx;simp only[AG]at ba;split at ba
  ·rename_i i o' e;rw[e]at hr;obtain⟨b,e1,hb⟩:=hr.ptr_inv;exact j (v:=a.eval x) Yl hr ba
  ·rename_i ds e;rw[e]at hr;obtain⟨ad,vv,e1,_⟩:=hr.eptr_inv;exact j (v:=a.eval x) Yl hr ba
  ·rename_i f cs e;rw[e]at hr;obtain⟨vs,e1,_⟩:=hr.fn_inv;exact j (v:=a.eval x) Yl hr ba
  ·cases ba
 case binOp op t x y yt=>
  cases op
  case eql=>
   simp only[tr]at aa;split at aa
   ·rename_i p q hx hy;exact .of_nil (rK (ne:=false) h hx hy aa hop ba)
   ·cases aa
  case neq=>
   simp only[tr]at aa;split at aa
   ·rename_i p q hx hy;exact .of_nil (rK (ne:=true) h hx hy aa hop ba)
   ·cases aa
  all_goals
   simp only[tr]at aa;split at aa
   ·rename_i p q hx hy;simp only[Qn]at aa;subst aa;exact .of_nil (aDf h hx hy hop ba)
   ·cases aa
 case unOp op t x=>
  obtain⟨y,hx,rfl⟩:=da aa;simp only[AG]at ba;rw[Qo]at ba;obtain⟨d',h1,ba⟩:=ba;obtain⟨v,e1,e2⟩:=aAA (P:=P) (h.slots.arg hx) h1;exact j (by simp only[execOp,hop,Sem.run_bind,e1,Result.andThen_ok,Sem.run_pure]) e2 (by rw[ba])
 case convert src dst x=>
  simp only[tr]at aa;split at aa
  ·rename_i k1 k y hs hd hx;simp only[Qn]at aa;subst aa;have hr:=h.slots.arg hx;simp only[AG]at ba;split at ba
   ·rename_i k' n e;rw[e]at hr;refine j (v:= .int k (k.wrap n)) ?_ (.int _ _) ba;simp[execOp,hop,hr.int_inv,convert,run_underlying hs,run_underlying hd,Conv.intToInt]
   ·cases ba
  ·rename_i y hs hd hx;simp only[Qn]at aa;subst aa;have hr:=h.slots.arg hx;simp only[AG]at ba;split at ba
   ·rename_i b e;rw[e]at hr;refine j (v:=a.eval x) ?_ hr ba;simp[execOp,hop,hr.str_inv,convert,run_underlying hs,run_underlying hd]
   ·cases ba
  ·rename_i e y hs hd hx;split at aa
   ·rename_i he;simp only[Qn]at aa;subst aa;exact .of_nil (aDd h hs hd he hx hop ba)
   ·cases aa
  ·rename_i e y hs hd hx;split at aa
   ·rename_i he;simp only[Qn]at aa;subst aa;exact .of_nil (aDg h hs hd he hx hop ba)
   ·cases aa
  ·cases aa
 case fieldAddr t x f=>
  simp only[tr]at aa;split at aa
  ·rename_i ca y hu hx;split at aa
   ·rename_i fd hf;split at aa
    ·rename_i n hn;simp only[Qn]at aa;subst aa;exact .of_nil (mB h hu hf hn hx hop ba)
    ·cases aa
   ·cases aa
  ·cases aa
 case field t x f=>
  simp only[tr]at aa;split at aa
  ·rename_i ca y hu hx;split at aa
   ·rename_i fd hf;rw[Qo]at aa;obtain⟨k,hk,rfl⟩:=aa;exact .of_nil (mA h hu hf hk hx hop ba)
   ·cases aa
  ·cases aa
 case indexAddr t x i=>
  simp only[tr]at aa;split at aa
  ·rename_i e y z hu hx hi;rw[Qo]at aa;obtain⟨n,hn,rfl⟩:=aa;exact .of_nil (lY h hu hn hx hi hop ba)
  ·rename_i len e y z hu hx hi;rw[Qo]at aa;obtain⟨n,hn,rfl⟩:=aa;exact .of_nil (lZ h hu hn hx hi hop ba)
  ·cases aa
 case index t x i=>
  simp only[tr]at aa;split at aa
  ·rename_i y z hu hx hi;simp only[Qn]at aa;subst aa;exact .of_nil (xN h hu hx hi hop ba)
  ·rename_i len e y z hu hx hi;split at aa
   ·rename_i hk;split at aa
    ·rename_i hc;simp only[Qn]at aa;subst aa;exact .of_nil (xP h hu hk hc hx hi hop ba)
    ·cases aa
   ·rename_i sz hk;simp only[Qn]at aa;subst aa;exact .of_nil (xO h hu hk hx hi hop ba)
   ·cases aa
  ·cases aa
 case slice t x lo hi mx=>
  cases mx with
  |some mx=>simp only[tr]at aa;cases aa
  |none=>
   simp only[tr]at aa;split at aa
   ·rename_i y l' h' hu hx ja oa;simp only[Qn]at aa;subst aa;exact .of_nil (xQ h hu hx ja oa hop ba)
   ·rename_i e y l' h' hu hx ja oa;rw[Qo]at aa;obtain⟨n,hn,rfl⟩:=aa;exact .of_nil (xR h hu hn hx ja oa hop ba)
   ·cases aa
 case makeInterface t x=>
  simp only[tr]at aa;split at aa
  ·cases aa
  ·rename_i td y sa hu hx;simp only[Qn]at aa;subst aa;have hr:=h.slots.arg hx;simp only[AG]at ba;split at ba
   ·rename_i hc;refine j (v:= .iface t (a.eval x)) ?_ (.iface t _ _ hc.2 hr.un) ba;simp only[execOp,hop,Instr.makeInterface,Sem.run_bind,run_underlying hu,Result.andThen_ok];cases td<;>first|exact absurd rfl (sa _)|rfl
   ·cases ba
  ·cases aa
 case typeAssert x xt t ok=>
  simp only[tr]at aa;split at aa
  ·cases aa
  ·rename_i td z y sa hu hz hx;simp only[Qn]at aa;subst aa;exact .of_nil (xJ h hu (λms e=>sa ms (by rw[←e])) hz hx hop ba)
  ·cases aa
 case extract x i=>
  obtain⟨y,hx,rfl⟩:=da aa;have hr:=h.slots.arg hx;simp only[AG]at ba;split at ba
  ·rename_i ds e;rw[e]at hr;obtain⟨vs,e1,e2,e3⟩:=hr.tup_inv;rw[Qo]at ba;obtain⟨d',hd,ba⟩:=ba;have hv:i<vs.length:=by rw[e2];exact(Qr.1 hd).1
   exact j (v:=vs[i]) (by simp[execOp,hop,e1,Instr.extract,hv]) (e3 i d' _ hd (Qp hv)) (by rw[ba])
  ·cases ba
 case makeFunc fn first caps=>
  cases fn with
  |func f=>
   simp only[tr]at aa;split at aa
   ·rename_i l hf hl;simp only[Qn]at aa;subst aa;have ra:first=#[]:=Array.toList_eq_nil_iff.1 hf
    subst ra;obtain⟨a1,a2⟩:=gD h hl;simp only[AG]at ba;refine j (v:= .func (.func f) #[] (caps.map a.eval)) (by simp[execOp,hop,Instr.makeFunc]) ?_ ba;have:=Im.fn (w:=w) (g:=g) f (l.map (·.ev s)) (caps.map a.eval).toList a1 a2
    rwa [QP]at this
   ·cases aa
  |_=>simp only[tr]at aa;cases aa
 case makeSlice t x y=>
  simp only[tr]at aa;split at aa
  ·rename_i e hu;split at aa
   ·rename_i sz bytes z p q he hz hx hy;simp only[Qn]at aa;subst aa;exact xL h hu he hz hx hy hop ba
   ·cases aa
  ·cases aa
 case range t x=>
  simp only[tr]at aa;split at aa
  ·rename_i y hu hx;simp only[Qn]at aa;subst aa;exact lX h hu hx hop ba
  ·cases aa
 case next x b=>
  cases b with
  |true=>
   obtain⟨y,hx,rfl⟩:=da aa;exact xK h hx hop ba
  |false=>simp only[tr]at aa;cases aa
 case call c=>
  simp only[tr,HG]at aa;split at aa
  ·split at aa
   ·simp only[Qn]at aa;exact absurd aa.symm (va _ _)
   ·cases aa
  ·rename_i ea;split at aa
   ·rename_i x t r ka;have hc:c={callee:= .builtin .len,args:=#[x],argTypes:=#[t]}:=by
     cases c;simp only at ea r ka ⊢;subst ea;congr
     ·exact Zg.1 r
     ·exact Zg.1 ka
    subst hc;have ia:∀n,(Builtin.len_ #[t] o.type #[a.eval x]).run P w= .ok (goInt n) w->(execOp a.eval o).run P w= .ok (.value (.int .i64 n)) w:=by
     intro n e;simp only[execOp,hop,resolve,invoke,builtin,Sem.run_bind,Sem.run_pure,Result.andThen_ok,ZO,QE,Zx,e];rfl
    split at aa
    ·rename_i hu;obtain⟨y,hx,rfl⟩:=da aa;have hr:=h.slots.arg hx;simp only[AG]at ba;rw[Qo]at ba;obtain⟨n,hn,ba⟩:=ba;unfold dR at hn;split at hn
     ·rename_i b _ e;rw[e]at hr;simp only[Qn]at hn;subst hn;have hl:(Builtin.len_ #[t] o.type #[a.eval x]).run P w= .ok (goInt (b.length:Int)) w:=by
       have pa:(ByteArray.mk b.toArray).size=b.length:=X6
       simp[Builtin.len_,run_underlying hu,hr.str_inv,pa]
      exact j (ia _ hl) (.int _ _) (by rw[ba])
     ·rename_i fa _;cases fa
     ·rename_i fa _;cases fa
     ·cases hn
    ·rename_i e hu;obtain⟨y,hx,rfl⟩:=da aa;have hr:=h.slots.arg hx;simp only[AG]at ba;rw[Qo]at ba;obtain⟨n,hn,ba⟩:=ba;unfold dR at hn;split at hn
     ·rename_i fa _;cases fa
     ·rename_i nl t' xs _ e';rw[e']at hr;obtain⟨ad,cc,e1,_⟩:=hr.len_slice;simp only[Qn]at hn;subst hn;have hl:(Builtin.len_ #[t] o.type #[a.eval x]).run P w= .ok (goInt (xs.length:Int)) w:=by
       simp[Builtin.len_,run_underlying hu,e1]
      exact j (ia _ hl) (.int _ _) (by rw[ba])
     ·rename_i i' n' _ e';rw[e']at hr;obtain⟨b',cc,e1,_,_⟩:=hr.row_inv;simp only[Qn]at hn;subst hn;have hl:(Builtin.len_ #[t] o.type #[a.eval x]).run P w= .ok (goInt (n':Int)) w:=by
       simp[Builtin.len_,run_underlying hu,e1]
      exact j (ia _ hl) (.int _ _) (by rw[ba])
     ·cases hn
    ·cases aa
   ·cases aa
  ·rename_i ea;split at aa
   ·rename_i x y t t' r ka;split at aa
    ·rename_i ta;have hc:c={callee:= .builtin .append,args:=#[x,y],argTypes:=#[t,t']}:=by
      cases c;simp only at ea r ka ⊢;subst ea;congr
      ·exact Zg.1 r
      ·exact Zg.1 ka
     subst hc;split at aa
     ·rename_i e hu;split at aa
      ·rename_i sz bytes p q he hx hy;simp only[Qn]at aa;subst aa;exact aDh h hu he hx hy hop (ta.imp id lB) ba
      ·cases aa
     ·cases aa
    ·cases aa
   ·cases aa
  ·rename_i ea;split at aa
   ·rename_i x y r;split at aa
    ·rename_i p q hx hy;simp only[Qn]at aa;subst aa;have na:=h.slots.arg hx;have wa:=h.slots.arg hy;simp only[AG]at ba;split at ba
     ·rename_i k n k' n' e1 e2;rw[e1]at na;rw[e2]at wa;refine j (v:= .int k (max n n')) ?_ (.int _ _) ba;simp only[execOp,hop,resolve,invoke,builtin,ea,Sem.run_bind,Sem.run_pure,Result.andThen_ok];simp only[Builtin.max_,QY,r,QE,Zx,na.int_inv,wa.int_inv,Z_,Builtin.max2,Sem.run_bind,Sem.run_pure,Result.andThen_ok];have:(if n'>n then n' else n)=max n n':=by omega
      simp[this]
     ·cases ba
    ·cases aa
   ·cases aa
  ·rename_i ea;split at aa
   ·rename_i x y r;split at aa
    ·rename_i p q hx hy;simp only[Qn]at aa;subst aa;have na:=h.slots.arg hx;have wa:=h.slots.arg hy;simp only[AG]at ba;split at ba
     ·rename_i k n k' n' e1 e2;rw[e1]at na;rw[e2]at wa;refine j (v:= .int k (min n n')) ?_ (.int _ _) ba;simp only[execOp,hop,resolve,invoke,builtin,ea,Sem.run_bind,Sem.run_pure,Result.andThen_ok];simp only[Builtin.min_,QY,r,QE,Zx,na.int_inv,wa.int_inv,Z_,Builtin.min2,Sem.run_bind,Sem.run_pure,Result.andThen_ok];have:(if n'<n then n' else n)=min n n':=by omega
      simp[this]
     ·cases ba
    ·cases aa
   ·cases aa
  ·cases aa
 all_goals (simp[tr]at aa)
end
section
variable{P:Program}{B:Nat}{w0 w:World}{m:Ig}{g:Gh}{fr:Id}{s:Nat->D}{a:Act}{S:Ic}{d:D}{u:Ir}
def cD{c:Call}{f:Ip}{xs:List Ip}(h:HG P c=some (.call f xs)):∃w,c.callee= .value w∧AK w=some f∧EF c.args.toList=some xs:=by
 unfold HG at h;split at h
 ·grind
 ·exfalso
  repeat' (split at h)
  all_goals exact Ql
 ·grind
 ·grind
 ·grind
 ·cases h
def aFX{op:Op}{f:Ip}{xs:List Ip}(h:tr P op=some (.call f xs)):∃c,op= .call c∧HG P c=some (.call f xs):=by
 cases op with
 |call c=>exact⟨c,rfl,h⟩
 |binOp op t x y e=>
  exfalso;cases op<;>simp only[tr,Vb]at h<;>repeat' (split at h)
  all_goals exact Ql
 |makeFunc z x y=>
  exfalso;cases z<;>simp only[tr]at h<;>repeat' (split at h)
  all_goals exact Ql
 |slice t x lo hi w=>
  exfalso;cases w<;>simp only[tr]at h<;>repeat' (split at h)
  all_goals exact Ql
 |next x b=>
  exfalso;cases b<;>simp only[tr]at h
  all_goals exact Ql
 |_=>
  exfalso;simp only[tr]at h<;>repeat' (split at h)
  all_goals exact Ql
def aT8{o:Oper}{la:DOp}{K:Act->World->Prop}{Q:Exit->Act->World->Prop}(hS:Ic.ok P S)(h:At P B w0 w m g fr s a)(z:tr P o.op=some la)(y:AG S s m fr la=some (d,u))
  (hK:∀v' w' g',aRI P B w0 m g fr w (Ir.app m u) d v' w' g'->K (a.put o.dst v') w'):o.wp P a w K Q:=by
 by_cases hc:∃f xs,la= .call f xs
 ·obtain⟨f,xs,rfl⟩:=hc;obtain⟨c,oa,l⟩:=aFX z;obtain⟨fo,ea,hf,ib⟩:=cD l;simp only[AG]at y;split at y
  ·rename_i xC caps ef;split at y
   ·rename_i q hq;have ga:=hS xC q hq;have k:=h.slots.arg hf;rw[ef]at k;obtain⟨vs,e1,e2,e3⟩:=k.fn_inv;obtain⟨a1,a2⟩:=gD h ib;obtain⟨fn,n,b,i⟩:=ga.ent;have ya:fn.body.isNone=false:=by cases hb:fn.body<;>simp_all
    have ka:((c.args.map a.eval).toList++vs).length=(xs.map (·.ev s)++caps).length:=by simp at a1 ⊢;omega
    have t:∀(j:Nat) d v,(xs.map (·.ev s)++caps)[j]?=some d->((c.args.map a.eval).toList++vs)[j]?=some v->Im w g d v:=by
     grind
    have na:=ga.run h.inv h.fresh ka t y;have p:((c.args.map a.eval).toList++vs).toArray=c.args.map a.eval++vs.toArray:=U
    rw[p]at na;have x:(execOp a.eval o).run P w= .ok (.enter xC (c.args.map a.eval++vs.toArray)) w:=by
     simp only[execOp,oa,resolve,ea,e1,Deferred.ofValue,Sem.run_bind,Sem.run_pure,Result.andThen_ok,invoke,callFunc,run_program,n,i,ya,QT,if_false];simp
    unfold Oper.wp;rw[x,Oper.upon_enter];refine na.mono ?_;rintro e w' ⟨v,g',rfl,ma⟩;exact hK v w' g' ma
   ·cases y
  ·cases y
 ·obtain⟨v',w',g',r,e1,e2,e3⟩:=aGB h z (λf xs e=>hc ⟨f,xs,e⟩) y;unfold Oper.wp;rw[e1];rcases e2 with rfl|⟨rfl,rfl⟩
  ·exact hK v' w' g' e3
  ·exact hK undef w' g' e3
end
end Go.Vd
namespace Go.Vd
structure DOper where
 dst:Option Nat
 op:DOp
 after:List Nat
 guard:Option (Nat×Bool)
abbrev Loc:=Id×Nat
structure Eff where
 d:D
 u:Ir
def Ct(s:Nat->D)(t:Option Nat)(d:D):Nat->D:=
 match t with
 |some t=>λx=>if x=t then d else s x
 |none=>s
def Hr(ops:List DOper)(o:DOper):Option Nat:=
 match o.guard with
 |none=>none
 |some (j,_)=>(ops[j]?).bind (·.dst)
def BG(ops:List DOper)(s:Nat->D)(o:DOper):Option Bool:=
 match o.guard with
 |none=>some true
 |some (j,b)=>match (ops[j]?).bind (·.dst)with
  |some t=>match s t with
   | .bool b'=>some (b'==b)
   | .tup []=>some false
   |_=>none
  |none=>none
def B9(S:Ic)(ops:List DOper)(fr:Id)(o:DOper)(s:Nat->D)(m:Ig):Option Eff:=
 match BG ops s o with
 |some true=>match AG S s m fr o.op with
  |some (d,u)=>some ⟨d,u⟩
  |none=>none
 |some false=>some ⟨.tup [],[]⟩
 |none=>none
def Dh(S:Ic)(ns:Id)(c:Nat)(ops:List DOper):List Nat->(Nat->D)->Ig->Option ((Nat->D)×Ig)
 |[],s,m=>some (s,m)
 |i::l,s,m=>match ops[i]? with
  |none=>Dh S ns c ops l s m
  |some o=>match B9 S ops ((c+i)::ns) o s m with
   |some e=>Dh S ns c ops l (Ct s o.dst e.d) (Ir.app m e.u)
   |none=>none
def Ip.uses:Ip->List Nat
 | .t n=>[n]
 | .c _=>[]
def VA:Option Ip->List Nat
 |some a=>a.uses
 |none=>[]
def DOp.uses:DOp->List Nat
 | .range x| .next x| .mv x| .box x| .load _ x| .nilchk x| .un _ x| .conv _ x| .s2s x| .s2b x| .b2s x| .faddr _ x| .field _ _ x| .mkif _ x| .tass _ _ _ x| .ext _ x| .len _ x=>x.uses
 | .pick c a b=>c.uses++a.uses++b.uses
 | .alloc _| .stop=>[]
 | .build _ ps=>ps.flatMap λp=>p.2.2.uses
 | .bslice _ _ ps=>ps.flatMap Ip.uses
 | .store _ x y| .bin _ x y| .beq _ x y| .seq _ _ x y| .nileq _ _ x y| .iaddr _ x y| .idxs x y| .idxa _ x y| .idxm _ _ x y| .mxm _ x y| .iadda _ _ x y| .app _ _ _ x y| .mksl _ _ _ _ x y=>x.uses++y.uses
 | .cuts x l h| .cutl _ x l h=>x.uses++VA l++VA h
 | .mkfn _ cs=>cs.flatMap Ip.uses
 | .call f xs=>f.uses++xs.flatMap Ip.uses
def A4(i:Id)(o n:Nat):List Loc:=(QF n).map λj=>(i,o+j)
def Lf(S:Ic)(s:Nat->D)(m:Ig):DOp->List Loc
 | .load k x=>match x.ev s with
  | .ptr i o=>A4 i o (k.getD 1)
  |_=>[]
 | .store n x _=>match x.ev s with
  | .ptr i o=>A4 i o n
  |_=>[]
 | .app _ _ _ x _=>match x.ev s with
  | .slice _ t _=>[(t,0)]
  |_=>[]
 | .next x=>match x.ev s with
  | .itp i=>[(i,1)]
  |_=>[]
 | .call f xs=>match f.ev s with
  | .fn f caps=>match S f with
   |some q=>q.rd (xs.map (·.ev s)++caps) m
   |none=>[]
  |_=>[]
 |_=>[]
def aB{x:Ip}{s w:Nat->D}(h:∀t∈x.uses,s t=w t):x.ev s=x.ev w:=by
 cases x with
 |t n=>exact h n (Zb.2 rfl)
 |c d=>rfl
def S4{xs:List Ip}{s w:Nat->D}(h:∀t∈xs.flatMap Ip.uses,s t=w t):xs.map (·.ev s)=xs.map (·.ev w):=
 Q8 λx p=>aB λt d=>h t (Zh.2 ⟨x,p,d⟩)
theorem B2{m m':Ig}{i:Id}:∀{n o:Nat},(∀l∈A4 i o n,m l.1 l.2=m' l.1 l.2)->Ah m i o n=Ah m' i o n
 |0,o,_=>rfl
 |n+1,o,h=>by
  have r:m i o=m' i o:=h (i,o) (by simp only[A4,QH,Qy];exact⟨0,O,rfl⟩);have ih:=B2 (m:=m) (m':=m') (i:=i) (n:=n) (o:=o+1) (λl w=>h l (by
   simp only[A4,QH,Qy]at w ⊢;obtain⟨j,y,rfl⟩:=w;exact⟨j+1,O,by rw[show o+(j+1)=o+1+j by omega]⟩))
  unfold Ah;rw[r,ih]
theorem GH{x:Option Ip}{s w:Nat->D}(h:∀t∈VA x,s t=w t)(a b:Nat):GI s x a b=GI w x a b:=by
 cases x with
 |none=>rfl
 |some x=>simp only[GI];rw[aB h]
def lR{P:Program}{S:Ic}(hS:Ic.ok P S){op:DOp}{s w:Nat->D}{m m':Ig}{fr:Id}(j:∀t∈op.uses,s t=w t)(hm:∀l∈Lf S s m op,m l.1 l.2=m' l.1 l.2):
  AG S s m fr op=AG S w m' fr op:=by
 cases op with
 |mv x=>simp only[AG];rw[aB j]
 |box x=>simp only[AG];rw[aB j]
 |nilchk x=>simp only[AG];rw[aB j]
 |un op x=>simp only[AG];rw[aB j]
 |conv k x=>simp only[AG];rw[aB j]
 |s2s x=>simp only[AG];rw[aB j]
 |s2b x=>simp only[AG];rw[aB j]
 |b2s x=>simp only[AG];rw[aB j]
 |faddr off x=>simp only[AG];rw[aB j]
 |field k off x=>simp only[AG];rw[aB j]
 |mkif t x=>simp only[AG];rw[aB j]
 |tass t ok z x=>simp only[AG];rw[aB j]
 |ext i x=>simp only[AG];rw[aB j]
 |len k x=>simp only[AG];rw[aB j]
 |alloc zs=>rfl
 |pick c a b=>
  simp only[DOp.uses,Qt]at j;simp only[AG];rw[aB (λt d=>j t (.inl (.inl d))),aB (λt d=>j t (.inl (.inr d))),aB (λt d=>j t (.inr d))]
 |build zs ps=>
  simp only[AG];have:(ps.map λp=>(p.1,p.2.1,p.2.2.ev s))=ps.map λp=>(p.1,p.2.1,p.2.2.ev w):=
   Q8 λp g=>by rw[aB λt d=>j t (Zh.2 ⟨p,g,d⟩)]
  rw[this]
 |bslice e sz ps=>
  have g:∀p∈ps,p.ev s=p.ev w:=λp g=>aB λt d=>j t (Zh.2 ⟨p,g,d⟩)
  simp only[AG];have ca:(ps.map λp=>(p.ev s).un)=ps.map λp=>(p.ev w).un:=Q8 λp u=>by rw[g p u]
  rw[ca];have:(ps.all λp=>(p.ev s).data&&(p.ev s).cells.length==sz&&(p.ev s).un.calm)=ps.all λp=>(p.ev w).data&&(p.ev w).cells.length==sz&&(p.ev w).un.calm:=by
   grind
  rw[this]
 |load k x=>
  have r:x.ev s=x.ev w:=aB j;simp only[Lf]at hm;simp only[AG];rw[←r];cases hxe:x.ev s<;>simp only[hxe]at hm ⊢
  case eptr ds=>cases k<;>rfl
  rename_i i o;cases k with
  |none=>
   have:=hm (i,o) (by simp only[A4,QH,Qy];exact⟨0,U,rfl⟩);simp only at this;simp only[this]
  |some n=>
   simp only[QR]at hm;simp only;rw[B2 hm]
 |store n x v=>
  simp only[DOp.uses,Qt]at j;have r:x.ev s=x.ev w:=aB λt d=>j t (.inl d)
  have hv:v.ev s=v.ev w:=aB λt d=>j t (.inr d)
  simp only[Lf]at hm;simp only[AG];rw[←r,←hv];cases hxe:x.ev s<;>simp only[hxe]at hm ⊢;rw[B2 hm]
 |bin op x y=>
  simp only[DOp.uses,Qt]at j;simp only[AG];rw[aB (λt d=>j t (.inl d)),aB (λt d=>j t (.inr d))]
 |beq ne x y=>
  simp only[DOp.uses,Qt]at j;simp only[AG];rw[aB (λt d=>j t (.inl d)),aB (λt d=>j t (.inr d))]
 |seq ne l x y=>
  simp only[DOp.uses,Qt]at j;simp only[AG];rw[aB (λt d=>j t (.inl d)),aB (λt d=>j t (.inr d))]
 |nileq ne k x y=>
  simp only[DOp.uses,Qt]at j;simp only[AG];rw[aB (λt d=>j t (.inl d)),aB (λt d=>j t (.inr d))]
 |iaddr sz x y=>
  simp only[DOp.uses,Qt]at j;simp only[AG];rw[aB (λt d=>j t (.inl d)),aB (λt d=>j t (.inr d))]
 |idxs x y=>
  simp only[DOp.uses,Qt]at j;simp only[AG];rw[aB (λt d=>j t (.inl d)),aB (λt d=>j t (.inr d))]
 |iadda len sz x y=>
  simp only[DOp.uses,Qt]at j;simp only[AG];rw[aB (λt d=>j t (.inl d)),aB (λt d=>j t (.inr d))]
 |idxm len sz x y=>
  simp only[DOp.uses,Qt]at j;simp only[AG];rw[aB (λt d=>j t (.inl d)),aB (λt d=>j t (.inr d))]
 |mxm mx x y=>
  simp only[DOp.uses,Qt]at j;simp only[AG];rw[aB (λt d=>j t (.inl d)),aB (λt d=>j t (.inr d))]
 |idxa len x y=>
  simp only[DOp.uses,Qt]at j;simp only[AG];rw[aB (λt d=>j t (.inl d)),aB (λt d=>j t (.inr d))]
 |mksl e sz b z x y=>
  simp only[DOp.uses,Qt]at j;simp only[AG];rw[aB (λt d=>j t (.inl d)),aB (λt d=>j t (.inr d))]
 |app e sz b x y=>
  simp only[DOp.uses,Qt]at j;have r:x.ev s=x.ev w:=aB λt d=>j t (.inl d)
  have hy:y.ev s=y.ev w:=aB λt d=>j t (.inr d)
  simp only[Lf]at hm;simp only[AG];rw[←r,←hy];cases hxe:x.ev s<;>simp only[hxe]at hm ⊢;rename_i nl t xs;have:=hm (t,0) (Zb.2 rfl);simp only at this;cases L5 sz (y.ev s)<;>simp only[this]
 |stop=>rfl
 |range x=>simp only[AG];rw[aB j]
 |next x=>
  have r:x.ev s=x.ev w:=aB j;simp only[Lf]at hm;simp only[AG];rw[←r];cases hxe:x.ev s<;>simp only[hxe]at hm ⊢;rename_i i;have:=hm (i,1) (Zb.2 rfl);simp only at this;rw[this]
 |cuts x l h=>
  simp only[DOp.uses,Qt]at j;simp only[AG];rw[aB (λt d=>j t (.inl (.inl d)))];cases x.ev w<;>simp only;rw[GH (λt d=>j t (.inr d))];split
  ·grind [GH]
  ·rfl
 |cutl sz x l h=>
  simp only[DOp.uses,Qt]at j;simp only[AG];rw[aB (λt d=>j t (.inl (.inl d)))];cases x.ev w<;>simp only;rw[GH (λt d=>j t (.inr d))];split
  ·split
   ·rw[GH (λt d=>j t (.inl (.inr d)))]
   ·rfl
  ·rfl
 |mkfn f cs=>
  simp only[AG];rw[S4 j]
 |call f xs=>
  simp only[DOp.uses,Qt]at j;have hf:f.ev s=f.ev w:=aB λt d=>j t (.inl d)
  have r:xs.map (·.ev s)=xs.map (·.ev w):=S4 λt d=>j t (.inr d)
  simp only[Lf]at hm;simp only[AG];rw[←hf,←r];cases hfe:f.ev s<;>simp only[hfe]at hm ⊢;rename_i xC caps;cases hSf:S xC<;>simp only[hSf]at hm ⊢;rename_i q;exact(hS xC q hSf).loc _ _ _ _ hm
def Eo(ops:List DOper)(k:Nat):Option Nat:=(ops[k]?).bind (·.dst)
def FV:Ir->Id->Nat->Option D
 |[],_,_=>none
 |(i',o',ds)::r,i,o=>match FV r i o with
  |some d=>some d
  |none=>if i=i'∧o'<=o∧o<o'+ds.length then ds[o-o']? else none
def gE:∀(u:Ir)(m:Ig)(i:Id)(o:Nat),Ir.app m u i o=match FV u i o with|some d=>some d|none=>m i o
 |[],m,i,o=>rfl
 |(i',o',ds)::r,m,i,o=>by
  simp only[Ir.app,FV];rw[gE r (m.put i' o' ds) i o];cases FV r i o with
  |some d=>rfl
  |none=>
   simp only[Ig.put];split
   ·grind
   ·rfl
def BP(u:Ir):List Loc:=u.flatMap λx=>A4 x.1 x.2.1 x.2.2.length
theorem look_mem:∀{u:Ir} {i:Id} {o:Nat},FV u i o≠none->(i,o)∈BP u
 |[],i,o,h=>absurd rfl h
 |(i',o',ds)::r,i,o,h=>by
  simp only[BP,Zp,Qt];simp only[FV]at h;split at h
  ·rename_i d l;exact .inr (look_mem (by rw[l];simp))
  ·split at h
   ·rename_i k;obtain⟨rfl,q,f⟩:=k;left;simp only[A4,QH,Qy];exact⟨o-o',O,by rw[show o'+(o-o')=o by omega]⟩
   ·exact absurd rfl h
section
variable(ops:List DOper)(E:Nat->Eff)
def LL(X:Nat->Bool)(t:Nat):Nat->Option D
 |0=>none
 |k+1=>if X k=true∧Eo ops k=some t then some (E k).d else LL X t k
def Ld(X:Nat->Bool)(i:Id)(o:Nat):Nat->Option D
 |0=>none
 |k+1=>if X k=true then match FV (E k).u i o with
  |some d=>some d
  |none=>Ld X i o k
  else Ld X i o k
variable(s0:Nat->D)(m0:Ig)
def jG(X:Nat->Bool)(n:Nat):Nat->D:=λt=>(LL ops E X t n).getD (s0 t)
def uS(X:Nat->Bool)(n:Nat):Ig:=λi o=>match Ld E X i o n with|some d=>some d|none=>m0 i o
variable{ops E s0 m0}
theorem LK{X Y:Nat->Bool}{t:Nat}:∀{n:Nat},(∀k,k<n->Eo ops k=some t->X k=Y k)->LL ops E X t n=LL ops E Y t n
 |0,_=>rfl
 |n+1,h=>by
  have ih:=LK (X:=X) (Y:=Y) (t:=t) (n:=n) (λk j=>h k O);simp only[LL];by_cases l:Eo ops n=some t
  ·rw[h n O l,ih]
  ·simp[l,ih]
def LM{X Y:Nat->Bool}{i:Id}{o:Nat}:∀{n:Nat},(∀k,k<n->FV (E k).u i o≠none->X k=Y k)->Ld E X i o n=Ld E Y i o n
 |0,_=>rfl
 |n+1,h=>by
  have ih:=LM (X:=X) (Y:=Y) (i:=i) (o:=o) (n:=n) (λk j=>h k O);simp only[Ld];cases hl:FV (E n).u i o with
  |none=>simp[ih]
  |some d=>rw[h n O (by rw[hl];simp)];simp[ih]
def ins(X:Nat->Bool)(k:Nat):Nat->Bool:=λj=>X j||j==k
def UB{X:Nat->Bool}{t k:Nat}(z:X k=false):∀{n:Nat},k<n->(Eo ops k=some t->∀j,k<j->j<n->X j=true->Eo ops j≠some t)->
  LL ops E (ins X k) t n=if Eo ops k=some t then some (E k).d else LL ops E X t n
 |n+1,hk,h=>by
  by_cases l:Eo ops k=some t
  ·rw[if_pos l];by_cases f:k=n
   ·grind [LL,ins]
   ·have ih:=UB z (n:=n) O (λta j u q o=>h ta j u O o);rw[if_pos l]at ih;simp only[LL];have:¬(ins X k n=true∧Eo ops n=some t):=by
     grind [ins]
    rw[if_neg this,ih]
  ·grind [LK,ins]
def UC{X:Nat->Bool}{i:Id}{o k:Nat}(z:X k=false):∀{n:Nat},k<n->(FV (E k).u i o≠none->∀j,k<j->j<n->X j=true->FV (E j).u i o=none)->
  Ld E (ins X k) i o n=match FV (E k).u i o with|some d=>some d|none=>Ld E X i o n
 |n+1,hk,h=>by
  cases hl:FV (E k).u i o with
  |none=>
   simp only;refine LM (λj s a=>?_);have:j≠k:=by rintro rfl;exact a hl
   simp[ins,this]
  |some d=>
   simp only;by_cases r:k=n
   ·grind [Ld,ins]
   ·have ih:=UC (i:=i) (o:=o) z (n:=n) O (λta j q f y=>h ta j q O y);rw[hl]at ih;simp only at ih;simp only[Ld];split
    ·grind [ins]
    ·exact ih
def pF{X:Nat->Bool}{k n:Nat}(z:X k=false)(g:k<n)(h:∀t,Eo ops k=some t->∀j,k<j->j<n->X j=true->Eo ops j≠some t):
  jG ops E s0 (ins X k) n=Ct (jG ops E s0 X n) (Eo ops k) (E k).d:=by
 funext t;simp only[jG];rw[UB z g (h t)];cases hd:Eo ops k with
 |none=>simp[Ct,jG]
 |some x=>
  simp only[Ct,jG,Qn];by_cases i:t=x
  ·subst i;simp
  ·grind
def pG{X:Nat->Bool}{k n:Nat}(z:X k=false)(g:k<n)(h:∀i o,FV (E k).u i o≠none->∀j,k<j->j<n->X j=true->FV (E j).u i o=none):
  uS E m0 (ins X k) n=Ir.app (uS E m0 X n) (E k).u:=by
 funext i o;rw[gE];simp only[uS];rw[UC z g (h i o)];cases FV (E k).u i o<;>rfl
def below(k:Nat):Nat->Bool:=λj=>decide (j<k)
def OR(k:Nat):ins (below k) k=below (k+1):=by
 grind [ins,below]
structure aEU (ops:List DOper) (E:Nat->Eff) (rd:Nat->List Loc) (bef:Nat->Nat->Prop):Prop where
 lt:∀j k,bef j k->j<k
 slot:∀j k t oj ok,j≠k->ops[j]?=some oj->ops[k]?=some ok->oj.dst=some t->(t∈ok.op.uses∨Hr ops ok=some t∨ok.dst=some t)->bef j k∨bef k j
 mem:∀j k i o,j≠k->j<ops.length->k<ops.length->FV (E j).u i o≠none->((i,o)∈rd k∨FV (E k).u i o≠none)->bef j k∨bef k j
def iC(ops:List DOper)(a:Nat->Nat->Prop):(Nat->Bool)->List Nat->Prop
 |_,[]=>True
 |X,i::l=>i<ops.length∧X i=false∧(∀j,a j i->X j=true)∧iC ops a (ins X i) l
def Tj(a:Nat->Nat->Prop)(X:Nat->Bool):Prop:=∀j k,X k=true->a j k->X j=true
def Tw{s w:Nat->D}{o:DOper}(h:∀t,Hr ops o=some t->s t=w t):BG ops s o=BG ops w o:=by
 grind [BG,Hr]
def eX{P:Program}{S:Ic}(v:Ic.ok P S){o:DOper}{fr:Id}{s w:Nat->D}{m m':Ig}(j:∀t,(t∈o.op.uses∨Hr ops o=some t)->s t=w t)(z:∀l∈Lf S s m o.op,m l.1 l.2=m' l.1 l.2):
  B9 S ops fr o s m=B9 S ops fr o w m':=by
 unfold B9;rw[Tw (λt d=>j t (.inr d)),lR v (λt d=>j t (.inl d)) z]
variable{P:Program}{S:Ic}{ns:Id}{c:Nat}{rd:Nat->List Loc}{bef:Nat->Nat->Prop}
def aRf(s:Ic.ok P S)(m:aEU ops E rd bef){k:Nat}{o:DOper}(r:ops[k]?=some o)
  (h:rd k=Lf S (jG ops E s0 (below k) ops.length) (uS E m0 (below k) ops.length) o.op)
  (d:B9 S ops ((c+k)::ns) o (jG ops E s0 (below k) ops.length) (uS E m0 (below k) ops.length)=some (E k))
  {X:Nat->Bool} (z:Tj bef X) (g:X k=false) (v:∀j,bef j k->X j=true):
  B9 S ops ((c+k)::ns) o (jG ops E s0 X ops.length) (uS E m0 X ops.length)=some (E k):=by
 have p:k<ops.length:=(Qr.1 r).1;rw[←d];symm;have e:∀j,j<ops.length->bef j k∨bef k j->below k j=X j:=by
  intro j y x;rcases x with h1|h1
  ·rw[v j h1];simp[below,m.lt j k h1]
  ·have:=m.lt k j h1;have b:X j=false:=by
    cases hx:X j with
    |false=>rfl
    |true=>rw[z k j hx h1]at g;cases g
   rw[b];simp[below];omega
 have self:∀j,j<ops.length->j=k->below k j=X j:=by
  grind [below]
 refine eX s (λt ht=>?_) (λl w=>?_)
 ·simp only[jG];rw[LK (λj y u=>?_)];by_cases a:j=k
  ·exact self j y a
  ·have q:ops[j]?=some ops[j]:=Qp y;refine e j y (m.slot j k t _ o a q r ?_ (by rcases ht with ht|ht;exact .inl ht;exact .inr (.inl ht)));simpa[Eo,q]using u
 ·simp only[uS];rw[LM (λj y u=>?_)];by_cases a:j=k
  ·exact self j y a
  ·exact e j y (m.mem j k l.1 l.2 a y p u (.inl (by rw[h];exact w)))
def Tj.ins{X:Nat->Bool}{k:Nat}(z:Tj bef X)(v:∀j,bef j k->X j=true):Tj bef (ins X k):=by
 intro j k' n i;simp only[Vd.ins,Q0,beq_iff_eq]at n ⊢;rcases n with h|rfl
 ·exact .inl (z j k' h i)
 ·exact .inl (v j i)
def R8(hS:Ic.ok P S)(m:aEU ops E rd bef)(h:∀k o,ops[k]?=some o->rd k=Lf S (jG ops E s0 (below k) ops.length) (uS E m0 (below k) ops.length) o.op)
  (g:∀k o,ops[k]?=some o->B9 S ops ((c+k)::ns) o (jG ops E s0 (below k) ops.length) (uS E m0 (below k) ops.length)=some (E k)):
  ∀(l:List Nat)(X:Nat->Bool),Tj bef X->iC ops bef X l->
   Dh S ns c ops l (jG ops E s0 X ops.length) (uS E m0 X ops.length)=some (jG ops E s0 (l.foldl ins X) ops.length,uS E m0 (l.foldl ins X) ops.length)
 |[],X,_,_=>rfl
 |i::l,X,hX,hg=>by
  obtain⟨hi,p,v,n⟩:=hg;have r:ops[i]?=some ops[i]:=Qp hi;have he:=aRf hS m r (h i _ r) (g i _ r) hX p v;have a:∀j,i<j->X j=true->¬(bef j i∨bef i j):=by
   intro j s b hb;rcases hb with hb|hb
   ·have:=m.lt j i hb;omega
   ·rw[hX i j b hb]at p;cases p
  have e1:=pF (ops:=ops) (E:=E) (s0:=s0) p hi (λt hd j q f y ta=>by
   have x:ops[j]?=some ops[j]:=Qp f;refine a j q y (m.slot j i t _ _ O x r ?_ (.inr (.inr ?_)))
   ·simpa[Eo,x]using ta
   ·simpa[Eo,r]using hd)
  have e2:=pG (E:=E) (m0:=m0) p hi (λe o w j q f y=>by
   cases hlj:FV (E j).u e o with
   |none=>rfl
   |some d=>exact absurd (m.mem j i e o O f hi (by rw[hlj];simp) (.inr w)) (a j q y))
  have hd:Eo ops i=(ops[i]).dst:=by simp[Eo,r]
  rw[hd]at e1;simp only[Dh,r,he,Zk];rw[←e1,←e2];exact R8 hS m h g l (ins X i) (hX.ins v) n
end
def Ob(m:Region.Mode)(ops:Array Oper):List Nat->List Nat->Bool
 |_,[]=>true
 |done,i::r=>(match ops[i]? with
  |some o=>o.after.all λe=>!Region.binds m e||done.contains e.on
  |none=>false)&&Ob m ops (i::done) r
def GA(m:Region.Mode)(ops:Array Oper)(o:List Nat):Bool:=(QF ops.size).all (λi=>o.contains i)&&Ob m ops [] o
def Fv(m:Region.Mode)(ops:Array Oper)(listed:Array Bool):List Nat:=
 (QF ops.size).filter λi=>!listed.getD i true&&((ops[i]?).map (·.after.all λe=>!Region.binds m e||listed.getD e.on false)).getD false
def aHG{a:Array Bool}{i:Nat}(h:i<a.size)(x y:Bool):a.getD i x=a.getD i y:=by
 simp_all
def Se{m:Region.Mode}{ops:Array Oper}{listed:Array Bool}(pa:listed.size=ops.size):∀{fa done:List Nat},Ob m ops done fa=true->(∀j∈done,listed.getD j false=true)->
  (∃i∈fa,i<ops.size∧listed.getD i false=false)->∃i,i∈Fv m ops listed
 |[],done,_,_,⟨i,hi,_⟩=>by cases hi
 |i::r,done,h,hd,⟨k,hk,hkn,hkl⟩=>by
  unfold Ob at h;rw[Q5]at h;obtain⟨u,q⟩:=h;split at u
  ·rename_i o d;have s:i<ops.size:=(Qs.1 d).1;by_cases a:listed.getD i false=false
   ·refine⟨i,?_⟩;simp only[Fv,Zz,Qy];refine⟨s,?_⟩;rw[aHG O true false,a];simp only[Zn,Bool.true_and,d,Q9,QR];rw[ZN]at u ⊢;intro j y;have:=u j y;simp only[Q0,ZA]at this ⊢;rcases this with h3|h3
    ·exact .inl h3
    ·exact .inr (hd _ h3)
   ·have b:listed.getD i false=true:=by simpa using a
    refine Se pa q (λj y=>?_) ?_
    ·grind
    ·grind
  ·cases u
def Fh(listed:Array Bool):Nat->Bool:=λi=>listed.getD i false
def kQ{listed:Array Bool}{i:Nat}(h:i<listed.size):Fh (listed.setIfInBounds i true)=ins (Fh listed) i:=by
 funext j;simp only[Fh,ins,Qu,Array.getElem?_setIfInBounds];by_cases y:i=j
 ·subst y;simp[h]
 ·grind
def Hf(listed:Array Bool)(n:Nat):Nat:=((QF n).filter λi=>!listed.getD i false).length
def eQ{p q:Nat->Bool}{i:Nat}(hi:p i=true)(s:∀j,q j=(p j&&j !=i)):∀{l:List Nat},i∈l->(l.filter q).length<(l.filter p).length:=by
 have ta:∀l:List Nat,(l.filter q).length<=(l.filter p).length:=by
  intro l;induction l with
  |nil=>exact Qx _
  |cons x l ih=>
   rw[Zi,Zi,s x];cases hp:p x
   ·exact ih
   ·grind
 intro l;induction l with
 |nil=>intro h;cases h
 |cons x l ih=>
  intro z;rw[Zi,Zi,s x];by_cases o:x=i
  ·grind
  ·have b:(x !=i)=true:=by simpa using o
   have:=ih (by rcases List.mem_cons.1 z with h|h;exact absurd h.symm o;exact h);cases hp:p x
   ·simpa using this
   ·simp only[b,Bool.and_true,if_true,QB];omega
def U8{listed:Array Bool}{n i:Nat}(pa:listed.size=n)(hi:i<n)(w:listed.getD i false=false):Hf (listed.setIfInBounds i true) n<Hf listed n:=by
 unfold Hf;refine eQ (i:=i) (by rw[w];rfl) (λj=>?_) (Qy.2 hi);by_cases y:j=i
 ·simp_all
 ·have q:¬i=j:=λe=>y e.symm
  simp[Qu,q,y]
def Uk(o:Oper):List Nat:=(o.after.toList.filter (Region.binds .any)).map (·.on)
theorem yT{m:Region.Mode}{e:Edge}(h:Region.binds .any e=true):Region.binds m e=true:=by
 unfold Region.binds at h ⊢;split at h<;>simp_all
def Ge(y:List (List Nat))(j k:Nat):Prop:=j∈y.getD k []
def G_(ps:List (List Nat))(y:List (List Nat)):Bool:=
 (QF y.length).all λk=>(y.getD k []).all λj=>decide (j<k)&&((ps.getD k []).any λp=>p==j||(decide (p<k)&&(y.getD p []).contains j))
def WI{ps y:List (List Nat)}(h:G_ ps y=true){j k:Nat}(i:Ge y j k):j<k∧∃p∈ps.getD k [],p=j∨(p<k∧Ge y j p):=by
 unfold Ge at i;have g:k<y.length:=by
  grind
 have u:=QK.1 h k (Qy.2 g);have q:=QK.1 u j i;simp only[Q5,decide_eq_true_eq,List.any_eq_true,Q0,beq_iff_eq,ZA]at q;exact⟨q.1,q.2⟩
def fY{ps y:List (List Nat)}(h:G_ ps y=true){X:Nat->Bool}(z:∀k,X k=true->∀p∈ps.getD k [],X p=true):∀{k j:Nat},X k=true->Ge y j k->X j=true:=by
 intro k;induction k using ZV with
 |_ k ih=>
  intro j g i;obtain⟨_,p,m,x⟩:=WI h i;rcases x with rfl|⟨v,f⟩
  ·exact z k g p m
  ·grind
def aD4{ps y:List (List Nat)}(h:G_ ps y=true){X:Nat->Bool}(z:∀k,X k=true->∀p∈ps.getD k [],X p=true){k:Nat}(g:∀p∈ps.getD k [],X p=true){j:Nat}(i:Ge y j k):X j=true:=by
 obtain⟨_,p,m,x⟩:=WI h i;rcases x with rfl|⟨v,f⟩
 ·exact g p m
 ·exact fY h z (g p m) f
def rD{m:Region.Mode}{ops:Array Oper}{u:List DOper}{y:List (List Nat)}(h:u.length=ops.size)(qa:∀(k:Nat) o,ops[k]?=some o->(u.map (·.after)).getD k []=Uk o)
  (hb:G_ (u.map (·.after)) y=true) {fa:List Nat} (w:GA m ops fa=true):
  ∀(fuel t:Nat)(listed:Array Bool)(q:List Nat),listed.size=ops.size->Hf listed ops.size<=fuel->
   (∀k,Fh listed k=true->∀p∈(u.map (·.after)).getD k [],Fh listed p=true)->
   ∃l,Region.linearise.go m ops fuel t listed q=q.reverse++l∧iC u (Ge y) (Fh listed) l∧∀i,i<ops.size->l.foldl ins (Fh listed) i=true
 |0,t,listed,q,hsz,hu,hcl=>by
  refine⟨[],by simp[Region.linearise.go],trivial,λi hi=>?_⟩;have r:((QF ops.size).filter λi=>!listed.getD i false)=[]:=QZ (by unfold Hf at hu;omega);rw[List.filter_eq_nil_iff]at r;have:=r i (Qy.2 hi);simpa[Fh]using this
 |fuel+1,t,listed,q,hsz,hu,hcl=>by
  have n:Region.linearise.go m ops (fuel+1) t listed q=match (Fv m ops listed)[t % (Fv m ops listed).length]? with
   |some i=>Region.linearise.go m ops fuel (t / (Fv m ops listed).length) (listed.setIfInBounds i true) (i::q)
   |none=>q.reverse:=rfl
  rw[n];split
  ·rename_i i hi;have z:i∈Fv m ops listed:=QL hi;simp only[Fv,Zz,Qy,Q5]at z;obtain⟨ra,ta,c⟩:=z;have f:listed.getD i false=false:=by
    simp_all
   have d:ops[i]?=some ops[i]:=Array.getElem?_eq_getElem ra;rw[d]at c;simp only[Q9,QR,ZN]at c;have v:∀p∈(u.map (·.after)).getD i [],Fh listed p=true:=by
    intro p g;rw[qa i _ d]at g;simp only[Uk,QH,Zz]at g;obtain⟨e,⟨x,b⟩,rfl⟩:=g;obtain⟨j,s,rfl⟩:=Array.getElem_of_mem (Array.mem_toList_iff.1 x);have:=c j s;simp only[Q0]at this;rcases this with h1|h1
    ·grind [yT]
    ·exact h1
   have sa:=kQ (listed:=listed) (i:=i) O;obtain⟨l,e1,e2,e3⟩:=rD h qa hb w fuel (t / (Fv m ops listed).length) (listed.setIfInBounds i true) (i::q) (by simpa using hsz)
    (by have:=U8 hsz ra f;omega) (λk hk p g=>by
     rw[sa]at hk ⊢;simp only[ins,Q0,beq_iff_eq]at hk ⊢;rcases hk with hk|rfl
     ·exact .inl (hcl k hk p g)
     ·exact .inl (v p g))
   refine⟨i::l,?_,⟨O,f,λj s=>aD4 hb hcl v s,?_⟩,?_⟩
   ·rw[e1];simp
   ·rw[←sa];exact e2
   ·simp_all
  ·rename_i hn;refine⟨[],U,trivial,λi hi=>?_⟩;simp only[List.foldl_nil];cases hmi:Fh listed i with
   |true=>rfl
   |false=>
    exfalso;unfold GA at w;rw[Q5]at w;have a:=QK.1 w.1 i (Qy.2 hi);obtain⟨k,hk⟩:=Se hsz w.2 U ⟨i,by simpa using a,hi,hmi⟩;have na:0<(Fv m ops listed).length:=List.length_pos_of_mem hk;rw[List.getElem?_eq_none_iff]at hn;have:=ZW t na;omega
def FZ{m:Region.Mode}{ops:Array Oper}{f:List DOper}{y:List (List Nat)}(u:f.length=ops.size)(n:∀(k:Nat) o,ops[k]?=some o->(f.map (·.after)).getD k []=Uk o)
  (j:G_ (f.map (·.after)) y=true) {b:List Nat} (e:GA m ops b=true) (t:Nat):
  iC f (Ge y) (λ_=>false) (Region.linearise m ops t)∧(Region.linearise m ops t).foldl ins (λ_=>false)=below ops.size:=by
 have r:Fh (Zl ops.size false)=λ_=>false:=by
  funext i;by_cases hi:i<ops.size<;>simp[Fh,Qu,hi]
 obtain⟨l,e1,e2,e3⟩:=rD u n j e ops.size t (Zl ops.size false) [] U (by
  unfold Hf;exact Q4 (List.length_filter_le _ _) U) (by rw[r];simp)
 rw[r]at e2 e3;have w:Region.linearise m ops t=l:=by
  unfold Region.linearise;simpa using e1
 rw[w];refine⟨e2,?_⟩;funext i;by_cases hi:i<ops.size
 ·simp_all [e3,below]
 ·have a:∀(l:List Nat)(X:Nat->Bool),iC f (Ge y) X l->X i=false->l.foldl ins X i=false:=by
   intro l;induction l with
   |nil=>intro X _ h;exact h
   |cons k l ih=>
    intro X x p;obtain⟨z,c,s,d⟩:=x;refine ih _ d ?_;have:¬i=k:=O
    simp[ins,p,this]
  rw[a l _ e2 rfl];simp[below,hi]
end Go.Vd
namespace Go.Vd
open Go.RowKit
def aL7(N:Nat):Option Nat->Bool
 |some t=>decide (t<N)
 |none=>true
def Va(P:Program)(N:Nat)(o:Oper):Option DOper:=
 if aL7 N o.dst=true then some ⟨o.dst,(tr P o.op).getD .stop,Uk o,o.guard⟩else none
def DA(P:Program)(N:Nat):List Oper->Option (List DOper)
 |[]=>some []
 |o::r=>match Va P N o,DA P N r with
  |some d,some l=>some (d::l)
  |_,_=>none
def CL{P:Program}{N:Nat}{o:Oper}{d:DOper}(h:Va P N o=some d):(tr P o.op).getD .stop=d.op∧d.dst=o.dst∧d.after=Uk o∧d.guard=o.guard∧∀t,o.dst=some t->t<N:=by
 grind [Va,aL7]
def aFU{P:Program}{S:Ic}{op:Op}{d:DOp}{s:Nat->D}{m:Ig}{fr:Id}{x:D×Ir}(h:(tr P op).getD .stop=d)(j:AG S s m fr d=some x):tr P op=some d:=by
 cases htr:tr P op with
 |none=>rw[htr]at h;simp only[Option.getD_none]at h;subst h;simp[AG]at j
 |some i=>rw[htr]at h;simp only[QR]at h;rw[h]
def CS{P:Program}{N:Nat}:∀{l:List Oper} {w:List DOper},DA P N l=some w->w.length=l.length∧∀(i:Nat) o,l[i]?=some o->∃d,w[i]?=some d∧Va P N o=some d
 |[],w,h=>by simp only[DA,Qn]at h;subst h;simp
 |o::r,w,h=>by
  unfold DA at h;split at h
  ·rename_i d l u f;simp only[Qn]at h;subst h;obtain⟨p,q⟩:=CS f;refine⟨Xz,λi o' hi=>?_⟩;cases i with
   |zero=>simp only[QQ,Qn]at hi;subst hi;exact⟨d,rfl,u⟩
   |succ i=>simp only[Zt]at hi ⊢;exact q i o' hi
  ·cases h
def FF(ns:Id)(m:Ig)(g:Gh)(m':Ig)(l:Gh):Prop:=∀i,Cp m g i->¬ns<:+i->Cp m' l i
def FF.refl(ns:Id)(m:Ig)(g:Gh):FF ns m g m g:=λ_ h _=>h
def FF.trans{ns:Id}{m m' a:Ig}{g l f:Gh}(h:FF ns m g m' l)(k:FF ns m' l a f):FF ns m g a f:=λi e r=>k i (h i e r) r
structure InX (P:Program) (B:Nat) (w0:World) (N:Nat) (ns:Id) (c:Nat) (X:Nat->Bool) (s:Nat->D) (m:Ig) (a:Act) (w:World) (g:Gh):Prop where
 inv:Iv P B w0 m w g
 slots:Ef w g s a
 size:a.tmps.size=N
 defers:a.defers=[]
 fresh:∀k i,c<=k->X (k-c)=false->(k::ns)<:+i->Cp m g i
def aEW:(Nat->Bool)->List Nat->Prop
 |_,[]=>True
 |X,i::l=>X i=false∧aEW (ins X i) l
def cH{k k':Nat}{ns i:Id}(h:(k::ns)<:+i)(b:(k'::ns)<:+i):k=k':=by
 obtain⟨x,p⟩:=h;obtain⟨y,d⟩:=b;have w:x.length=y.length:=by have:=congrArg ZY (p.trans d.symm);simpa using this
 have:=List.append_inj (p.trans d.symm) w;simpa using this.2
def Ef.put{w:World}{g:Gh}{s:Nat->D}{a:Act}{dst:Option Nat}{d:D}{v:Value}(h:Ef w g s a)(y:Im w g d v)(z:∀t,dst=some t->t<a.tmps.size):Ef w g (Ct s dst d) (a.put dst v):=by
 intro t;cases dst with
 |none=>exact h t
 |some x=>
  have u:=z x rfl;simp only[Ct,Act.put];by_cases i:t=x
  ·simp_all
  ·rw[if_neg i];have c:¬x=t:=λe=>i e.symm
   have:(a.tmps.setIfInBounds x v).getD t undef=a.tmps.getD t undef:=by simp[Qu,c]
   rw[this];exact h t
def cY(a:Act)(dst:Option Nat)(v:Value):(a.put dst v).tmps.size=a.tmps.size∧(a.put dst v).defers=a.defers:=by
 cases dst<;>simp[Act.put]
section
variable{P:Program}{B:Nat}{w0:World}{N:Nat}{ns:Id}{c:Nat}{S:Ic}{ops:Array Oper}{dops:List DOper}{Q:Exit->Act->World->Prop}
def wT{k:Nat}{i:Id}(h:¬ns<:+i):¬(k::ns)<:+i:=λb=>h ((ZQ k ns).trans b)
def Fs{w:World}{g:Gh}{s:Nat->D}{a:Act}(fa:DA P N ops.toList=some dops)(m:Ef w g s a){o:Oper}{d:DOper}(l:d.guard=o.guard){b:Bool}(n:BG dops s d=some b):
  Region.wanted o (yielded ops a.tmps)=b:=by
 obtain⟨z,ca⟩:=CS fa;unfold BG at n;unfold Region.wanted;rw[←l];cases hgd:d.guard with
 |none=>rw[hgd]at n;simp only[Qn]at n;exact n
 |some p=>
  obtain⟨j,f⟩:=p;rw[hgd]at n;simp only at n ⊢;split at n
  ·rename_i t i;split at n
   ·rename_i u sa;simp only[Qn]at n;have y:=m t;rw[sa]at y;have r:=y.bool_inv;have q:∃oj,ops[j]?=some oj∧oj.dst=some t:=by
     cases hdj:dops[j]? with
     |none=>rw[hdj]at i;cases i
     |some dj=>
      rw[hdj]at i;simp only[ZR]at i;have c:j<ops.toList.length:=by have:=(Qr.1 hdj).1;omega
      obtain⟨d2,e1,e2⟩:=ca j _ (Qp c);rw[hdj]at e1;simp only[Qn]at e1;subst e1;refine⟨ops.toList[j],by simp at c;simp[c],?_⟩;rw[←(CL e2).2.1];exact i
    obtain⟨oj,e1,e2⟩:=q;have v:a.tmps[t]?=some (.bool u):=by
     rw[Qu]at r;cases hh:a.tmps[t]? with
     |none=>rw[hh]at r;simp[undef]at r
     |some x=>rw[hh]at r;simp at r;rw[r]
    have h:yielded ops a.tmps j=some u:=by
     simp[yielded,e1,e2,v]
    rw[h,←n];cases u<;>cases f<;>rfl
   ·rename_i sa;simp only[Qn]at n;subst n;have y:=m t;rw[sa]at y;obtain⟨us,r,z,_⟩:=y.tup_inv;have k:us=[]:=QZ XP;subst k;have h:yielded ops a.tmps j=none:=by
     unfold yielded;split
     ·rename_i b2 e;exfalso;rw[Zv]at e;obtain⟨t2,e1,e2⟩:=e;rw[Zv]at e1;obtain⟨oj,e3,e4⟩:=e1;have q:(dops[j]?).bind (·.dst)=some t2:=by
       obtain⟨d2,q1,q2⟩:=ca j oj (by simpa using e3);rw[q1];simp only[ZR];rw[(CL q2).2.1];exact e4
      rw[i]at q;simp only[Qn]at q;subst q;rw[Qu,e2]at r;cases r
     ·rfl
    rw[h];rfl
   ·cases n
  ·cases n
def EW(hS:Ic.ok P S)(fa:DA P N ops.toList=some dops):∀(l:List Nat)(X:Nat->Bool)(s:Nat->D)(m:Ig)(a:Act)(w:World)(g:Gh)(s':Nat->D)(m':Ig),
  aEW X l->Dh S ns c dops l s m=some (s',m')->InX P B w0 N ns c X s m a w g->
  (∀a' w' g',InX P B w0 N ns c (l.foldl ins X) s' m' a' w' g'->IF w g w' g'->FF ns m g m' g'->Q .normal a' w')->wpOps P ops Q l a w
 |[],X,s,m,a,w,g,s',m',_,he,hx,hq=>by
  simp only[Dh,Qn,Qq]at he;obtain⟨rfl,rfl⟩:=he;exact hq a w g hx (IF.refl w g) (FF.refl ns m g)
 |i::l,X,s,m,a,w,g,s',m',hf,he,hx,hq=>by
  obtain⟨p,wa⟩:=hf;obtain⟨ka,x⟩:=CS fa;simp only[wpOps];cases ho:ops[i]? with
  |none=>
   simp only;have hd:dops[i]?=none:=by
    simp_all
   simp only[Dh,hd]at he;have z:InX P B w0 N ns c (ins X i) s m a w g:=⟨hx.inv,hx.slots,hx.size,hx.defers,λk i' q h2 h3=>hx.fresh k i' q (by simp only[ins,Q3]at h2;exact h2.1) h3⟩;exact EW hS fa l (ins X i) s m a w g s' m' wa he z hq
  |some o=>
   simp only;obtain⟨d,hd,v⟩:=x i o (by simpa using ho);obtain⟨t1,t2,t3,t4,t5⟩:=CL v;simp only[Dh,hd]at he;split at he
   ·rename_i e b;unfold B9 at b;have n:∀i',((c+i)::ns)<:+i'->Cp m g i':=λi' h=>hx.fresh (c+i) i' O (by rw[show c+i-c=i by omega];exact p) h
    have j:∀t,o.dst=some t->t<a.tmps.size:=λt ht=>by rw[hx.size];exact t5 t ht
    split at b
    ·rename_i hg;rw[Fs fa hx.slots t4 hg];simp only[if_true];split at b
     ·rename_i dd u y;simp only[Qn]at b;subst b;left;refine aT8 hS ⟨hx.inv,hx.slots,n⟩ (aFU t1 y) y (λv' w' g' ma=>?_);have qa:=cY a o.dst v';have z:InX P B w0 N ns c (ins X i) (Ct s d.dst dd) (Ir.app m u) (a.put o.dst v') w' g':=by
       refine⟨ma.inv,?_,by rw[qa.1];exact hx.size,by rw[qa.2];exact hx.defers,λk i' q h2 h3=>?_⟩
       ·rw[t2];exact(hx.slots.ext ma.ext).put ma.rep j
       ·simp only[ins,Q3,beq_eq_false_iff_ne]at h2;refine ma.fresh i' (hx.fresh k i' q h2.1 h3) (λh4=>?_);have:=cH h3 h4;omega
      exact EW hS fa l (ins X i) _ _ _ w' g' s' m' wa he z (λxa ua f q h2 h3=>hq xa ua f q (ma.ext.trans h2) (FF.trans (λi' hf r=>ma.fresh i' hf (wT r)) h3))
     ·cases b
    ·rename_i hg;rw[Fs fa hx.slots t4 hg];simp only[QT,if_false];simp only[Qn]at b;subst b;have qa:=cY a o.dst undef;have z:InX P B w0 N ns c (ins X i) (Ct s d.dst (.tup [])) m (a.put o.dst undef) w g:=by
      refine⟨hx.inv,?_,by rw[qa.1];exact hx.size,by rw[qa.2];exact hx.defers,λk i' q h2 h3=>?_⟩
      ·rw[t2];exact hx.slots.put (.tup [] [] rfl U) j
      ·simp only[ins,Q3]at h2;exact hx.fresh k i' q h2.1 h3
     exact EW hS fa l (ins X i) _ _ _ w g s' m' wa he z hq
    ·cases b
   ·cases he
def OV{a:Nat->Nat->Prop}:∀{l:List Nat} {X:Nat->Bool},iC dops a X l->aEW X l
 |[],_,_=>trivial
 |i::l,X,h=>⟨h.2.1,OV h.2.2.2⟩
def SO(n:Nat):∀k,aEW (below k) (ZC k n):=by
 induction n with
 |zero=>intro k;trivial
 |succ n ih=>
  intro k;rw[Zf];exact⟨by simp[below],by rw[OR];exact ih (k+1)⟩
def Pz(n:Nat):∀k,(ZC k n).foldl ins (below k)=below (k+n):=by
 induction n with
 |zero=>intro k;rfl
 |succ n ih=>
  intro k;rw[Zf,Zk,OR,ih (k+1)];congr 1;omega
structure InS (P:Program) (B:Nat) (w0:World) (N:Nat) (ns:Id) (c:Nat) (s:Nat->D) (m:Ig) (a:Act) (w:World) (g:Gh):Prop where
 inv:Iv P B w0 m w g
 slots:Ef w g s a
 size:a.tmps.size=N
 defers:a.defers=[]
 fresh:∀k i,c<=k->(k::ns)<:+i->Cp m g i
def InS.start{s:Nat->D}{m:Ig}{a:Act}{w:World}{g:Gh}(h:InS P B w0 N ns c s m a w g)(X:Nat->Bool):InX P B w0 N ns c X s m a w g:=
 ⟨h.inv,h.slots,h.size,h.defers,λk i u _ o=>h.fresh k i u o⟩
def InX.done{s:Nat->D}{m:Ig}{a:Act}{w:World}{g:Gh}{n:Nat}(h:InX P B w0 N ns c (below n) s m a w g):InS P B w0 N ns (c+n) s m a w g:=
 ⟨h.inv,h.slots,h.size,h.defers,λk i u o=>h.fresh k i O (by simp[below];omega) o⟩
def vI(v:Ic.ok P S)(b:DA P N ops.toList=some dops){s:Nat->D}{m:Ig}{a:Act}{w:World}{g:Gh}{t:Nat->D}{m':Ig}{id:Nat}
  (x:Dh S ns c dops (QF dops.length) s m=some (t,m')) (p:InS P B w0 N ns c s m a w g)
  (hq:∀y n l,InS P B w0 N ns (c+dops.length) t m' y n l->IF w g n l->FF ns m g m' l->Q .normal y n):(Code.region id ops false).wp P Q a w:=by
 have z:dops.length=ops.size:=by simpa using (CS b).1
 refine wp_region ?_;rw[←z];have r:below 0=λ_=>false:=Yi
 refine EW v b (QF dops.length) (below 0) s m a w g t m' ?_ x (p.start _) (λy n l u q o=>?_)
 ·rw[Q2];exact SO _ 0
 ·rw[Q2,Pz]at u;rw[QG]at u;exact hq y n l u.done q o
end
abbrev NH:=List Loc×List Loc
def CH(S:Ic)(ns:Id)(c:Nat)(ops:List DOper):List DOper->Nat->(Nat->D)->Ig->Option ((Nat->D)×Ig×List NH)
 |[],_,s,m=>some (s,m,[])
 |o::l,k,s,m=>match B9 S ops ((c+k)::ns) o s m with
  |some e=>match CH S ns c ops l (k+1) (Ct s o.dst e.d) (Ir.app m e.u)with
   |some (s',m',f)=>some (s',m',(Lf S s m o.op,BP e.u)::f)
   |none=>none
  |none=>none
def DOp.mayW:DOp->Bool
 | .alloc _| .box _| .bslice .. | .mksl .. | .store .. | .app .. | .call .. | .range _| .next _=>true
 |_=>false
def DOp.ownW:DOp->Bool
 | .alloc _| .box _| .bslice .. | .mksl ..=>true
 |_=>false
def DOp.mayR:DOp->Bool
 | .load .. | .store .. | .app .. | .call .. | .next _=>true
 |_=>false
def aDP(a b:DOp):Bool:=a.mayW&&(b.mayR||b.mayW)&&!(a.ownW&&b.ownW)
def TE(y:List (List Nat))(j k:Nat):Bool:=(y.getD k []).contains j
def Ml(ops:List DOper)(y:List (List Nat)):List (Nat×Nat):=
 (QF ops.length).flatMap λj=>(QF ops.length).filterMap λk=>
  match ops[j]?,ops[k]? with
  |some a,some b=>if(j !=k)&&!TE y j k&&!TE y k j&&aDP a.op b.op then some (j,k)else none
  |_,_=>none
def PV(ops:List DOper)(y:List (List Nat)):Bool:=
 (QF ops.length).all λj=>(QF ops.length).all λk=>
  match ops[j]?,ops[k]? with
  |some a,some b=>match a.dst with
   |some t=>(j==k)||TE y j k||TE y k j||!(b.op.uses.contains t||Hr ops b==some t||b.dst==some t)
   |none=>true
  |_,_=>true
def Nw(f:List NH)(ps:List (Nat×Nat)):Prop:=∀p∈ps,∀l∈(f.getD p.1 ([],[])).2,l∉(f.getD p.2 ([],[])).1∧l∉(f.getD p.2 ([],[])).2
section
variable{S:Ic}{ns:Id}{c:Nat}{ops:List DOper}
def Eg(S:Ic)(ns:Id)(c:Nat)(ops:List DOper)(s0:Nat->D)(m0:Ig):Nat->(Nat->D)×Ig
 |0=>(s0,m0)
 |k+1=>match ops[k]? with
  |some o=>
   let e:=(B9 S ops ((c+k)::ns) o (Eg S ns c ops s0 m0 k).1 (Eg S ns c ops s0 m0 k).2).getD ⟨.junk,[]⟩
   (Ct (Eg S ns c ops s0 m0 k).1 o.dst e.d,Ir.app (Eg S ns c ops s0 m0 k).2 e.u)
  |none=>Eg S ns c ops s0 m0 k
def Ny(S:Ic)(ns:Id)(c:Nat)(ops:List DOper)(s0:Nat->D)(m0:Ig)(k:Nat):Eff:=
 match ops[k]? with
 |some o=>(B9 S ops ((c+k)::ns) o (Eg S ns c ops s0 m0 k).1 (Eg S ns c ops s0 m0 k).2).getD ⟨.junk,[]⟩
 |none=>⟨.junk,[]⟩
variable{s0:Nat->D}{m0:Ig}
def HU:∀k,k<=ops.length->(Eg S ns c ops s0 m0 k).1=jG ops (Ny S ns c ops s0 m0) s0 (below k) ops.length∧(Eg S ns c ops s0 m0 k).2=uS (Ny S ns c ops s0 m0) m0 (below k) ops.length
 |0,_=>by
  have r:below 0=λ_=>false:=Yi
  constructor
  ·funext t;simp only[Eg,jG,r];have:∀n,LL ops (Ny S ns c ops s0 m0) (λ_=>false) t n=none:=by
    intro n;induction n with
    |zero=>rfl
    |succ n ih=>simp[LL,ih]
   rw[this];rfl
  ·funext i o;simp only[Eg,uS,r];have:∀n,Ld (Ny S ns c ops s0 m0) (λ_=>false) i o n=none:=by
    intro n;induction n with
    |zero=>rfl
    |succ n ih=>simp[Ld,ih]
   rw[this]
 |k+1,hk=>by
  obtain⟨u,q⟩:=HU k O;have d:ops[k]?=some ops[k]:=Qp O;have g:Ny S ns c ops s0 m0 k=(B9 S ops ((c+k)::ns) ops[k] (Eg S ns c ops s0 m0 k).1 (Eg S ns c ops s0 m0 k).2).getD ⟨.junk,[]⟩:=by
   simp only[Ny,d]
  have p:below k k=false:=by simp[below]
  have e1:=pF (ops:=ops) (E:=Ny S ns c ops s0 m0) (s0:=s0) p (n:=ops.length) O (λt _ j u _ y=>by simp[below]at y;omega);have e2:=pG (E:=Ny S ns c ops s0 m0) (m0:=m0) p (n:=ops.length) O (λi o _ j u _ y=>by simp[below]at y;omega);rw[OR]at e1 e2;have l:Eo ops k=(ops[k]).dst:=by simp[Eo,d]
  rw[l]at e1;simp only[Eg,d];rw[←g,u,q,←e1,←e2];exact⟨rfl,rfl⟩
def LZ:∀{l:List DOper} {k:Nat} {t:Nat->D} {m':Ig} {f:List NH},l=ops.drop k->CH S ns c ops l k (Eg S ns c ops s0 m0 k).1 (Eg S ns c ops s0 m0 k).2=some (t,m',f)->
  (t,m')=Eg S ns c ops s0 m0 (k+l.length)∧∀j o,ops[k+j]?=some o->
   B9 S ops ((c+(k+j))::ns) o (Eg S ns c ops s0 m0 (k+j)).1 (Eg S ns c ops s0 m0 (k+j)).2=some (Ny S ns c ops s0 m0 (k+j))∧
   f[j]?=some (Lf S (Eg S ns c ops s0 m0 (k+j)).1 (Eg S ns c ops s0 m0 (k+j)).2 o.op,BP (Ny S ns c ops s0 m0 (k+j)).u)
 |[],k,t,m',f,hl,h=>by
  simp only[CH,Qn,Qq]at h;obtain⟨rfl,rfl,rfl⟩:=h;refine⟨rfl,λj o r=>?_⟩;have:ops.length<=k:=by
   simp_all
  rw[Qw O]at r;cases r
 |o::l,k,t,m',f,hl,h=>by
  have w:ops[k]?=some o:=by
   have:(ops.drop k)[0]?=some o:=by rw[←hl];rfl
   rw[QI]at this;simpa using this
  have b:l=ops.drop (k+1):=by
   have:(ops.drop k).drop 1=ops.drop (k+1):=by rw[ZB]
   rw[←this,←hl];rfl
  unfold CH at h;split at h
  ·rename_i e x;have g:Ny S ns c ops s0 m0 k=e:=by simp only[Ny,w,x,QR]
   have z:Eg S ns c ops s0 m0 (k+1)=(Ct (Eg S ns c ops s0 m0 k).1 o.dst e.d,Ir.app (Eg S ns c ops s0 m0 k).2 e.u):=by
    grind [Eg]
   split at h
   ·rename_i v s n y;simp only[Qn,Qq]at h;obtain⟨rfl,rfl,rfl⟩:=h;obtain⟨p,q⟩:=LZ (k:=k+1) b (by rw[z];exact y);refine⟨by rw[p];congr 1;simp;omega,λj o' a=>?_⟩;cases j with
    |zero=>
     simp only[Zw]at a ⊢;rw[w]at a;simp only[Qn]at a;subst a;refine⟨by rw[x,g],?_⟩;rw[g];rfl
    |succ j=>
     have:=q j o' (by rw[show k+1+j=k+(j+1)by omega];exact a);rw[show k+1+j=k+(j+1)by omega]at this;exact⟨this.1,by simpa using this.2⟩
   ·cases h
  ·cases h
theorem eV{P:Program}(v:Ic.ok P S){op:DOp}{s:Nat->D}{m:Ig}{fr:Id}{d:D}{u:Ir}(h:AG S s m fr op=some (d,u)):
  (op.mayW=false->u=[])∧(op.ownW=true->∀i o,FV u i o≠none->i=fr):=by
 have a:∀ds,∀i o,FV [(fr,0,ds)] i o≠none->i=fr:=by
  grind [FV]
 cases op<;>(constructor<;>intro j<;>first|(simp[DOp.mayW]at j;done)|(simp[DOp.ownW]at j;done)|skip)
 all_goals simp only[AG]at h
 case alloc zs=>simp only[Qn,Qq]at h;obtain⟨rfl,rfl⟩:=h;exact a _
 case box x=>split at h;(simp only[Qn,Qq]at h;obtain⟨rfl,rfl⟩:=h;exact a _);cases h
 case bslice=>split at h;(simp only[Qn,Qq]at h;obtain⟨rfl,rfl⟩:=h;exact a _);cases h
 case mksl=>
  split at h
  ·grind
  ·cases h
 all_goals
  repeat' (split at h)
 all_goals first
  |(simp at h;done)
  |(simp only[Qn,Qq]at h;exact h.2.symm)
  |(rw[Qo]at h;obtain⟨_,_,h⟩:=h;simp only[Qq]at h;exact h.2.symm)
def cX{op:DOp}{s:Nat->D}{m:Ig}(h:op.mayR=false):Lf S s m op=[]:=by
 cases op<;>first|rfl|(simp[DOp.mayR]at h)
def vL{op:DOp}(h:op.ownW=true):op.mayR=false:=by
 cases op<;>first|rfl|(simp[DOp.ownW]at h)
def Om{y:List (List Nat)}{j k:Nat}:TE y j k=true↔Ge y j k:=by
 simp[TE,Ge]
def aCJ{P:Program}(hS:Ic.ok P S){y:List (List Nat)}(p:G_ (ops.map (·.after)) y=true)(hs:PV ops y=true){s':Nat->D}{m':Ig}{f:List NH}
  (he:CH S ns c ops ops 0 s0 m0=some (s',m',f)) (hf:Nw f (Ml ops y)):
  aEU ops (Ny S ns c ops s0 m0) (λk=>(f.getD k ([],[])).1) (Ge y):=by
 obtain⟨_,ca⟩:=LZ (k:=0) (ops:=ops) rfl he;simp only[QG]at ca;refine⟨λj k h=>(WI p h).1,λj k t oj ok a hj hk hd ht=>?_,λj k i o a hj hk z ht=>?_⟩
 ·have ua:j<ops.length:=(Qr.1 hj).1;have ka:k<ops.length:=(Qr.1 hk).1;have q:=QK.1 hs j (Qy.2 ua);have h2:=QK.1 q k (Qy.2 ka);simp only[hj,hk,hd]at h2;simp only[Q0,beq_iff_eq,Bool.not_eq_true',Q3]at h2;rcases h2 with ((h2|h2)|h2)|h2
  ·exact absurd h2 a
  ·exact .inl (Om.1 h2)
  ·exact .inr (Om.1 h2)
  ·simp_all
 ·by_cases hc:Ge y j k∨Ge y k j
  ·exact hc
  exfalso;have x:ops[j]?=some ops[j]:=Qp hj;have r:ops[k]?=some ops[k]:=Qp hk;obtain⟨ej,fj⟩:=ca j _ x;obtain⟨ek,fk⟩:=ca k _ r;have l:f.getD j ([],[])=(Lf S (Eg S ns c ops s0 m0 j).1 (Eg S ns c ops s0 m0 j).2 ops[j].op,BP (Ny S ns c ops s0 m0 j).u):=by simp[Zc,fj]
  have d:f.getD k ([],[])=(Lf S (Eg S ns c ops s0 m0 k).1 (Eg S ns c ops s0 m0 k).2 ops[k].op,BP (Ny S ns c ops s0 m0 k).u):=by simp[Zc,fk]
  have wr:∀{k o e s m},B9 S ops ((c+k)::ns) o s m=some e->(o.op.mayW=false->e.u=[])∧(o.op.ownW=true->∀i o',FV e.u i o'≠none->i=(c+k)::ns):=by
   intro k o e s m h;unfold B9 at h;split at h
   ·grind [eV]
   ·simp only[Qn]at h;subst h;exact⟨λ_=>rfl,λ_ i o' z=>absurd rfl z⟩
   ·cases h
  by_cases v:aDP (ops[j]).op (ops[k]).op=true
  ·have n:(j,k)∈Ml ops y:=by
    unfold Ml;rw[Zh];refine⟨j,Qy.2 hj,?_⟩;rw[List.mem_filterMap];refine⟨k,Qy.2 hk,?_⟩;simp only[x,r];have n1:TE y j k=false:=by
     cases h:TE y j k with
     |false=>rfl
     |true=>exact absurd (.inl (Om.1 h)) hc
    have n2:TE y k j=false:=by
     cases h:TE y k j with
     |false=>rfl
     |true=>exact absurd (.inr (Om.1 h)) hc
    have n3:(j !=k)=true:=by simpa using a
    rw[n1,n2,n3,v];rfl
   have w:=hf (j,k) n (i,o) (by simp only;rw[l];exact look_mem z);rcases ht with ht|ht
   ·exact w.1 ht
   ·grind [look_mem]
  ·obtain⟨w1,w2⟩:=wr ej;obtain⟨w3,w4⟩:=wr ek;have g:(ops[j]).op.mayW=true:=by
    cases h:(ops[j]).op.mayW with
    |true=>rfl
    |false=>rw[w1 h]at z;exact absurd rfl z
   by_cases b:(ops[k]).op.mayR=true∨(ops[k]).op.mayW=true
   ·have ia:(ops[j]).op.ownW=true∧(ops[k]).op.ownW=true:=by
     unfold aDP at v;rw[g]at v;have:((ops[k]).op.mayR||(ops[k]).op.mayW)=true:=by rcases b with h|h<;>simp[h]
     rw[this]at v;simpa using v
    have hi:=w2 ia.1 i o z;rcases ht with ht|ht
    ·have:(ops[k]).op.mayR=false:=vL ia.2;rw[d,cX this]at ht;cases ht
    ·have da:=w4 ia.2 i o ht;rw[hi]at da;simp only[ZU,and_true]at da;omega
   ·have q:(ops[k]).op.mayR=false:=by simpa using (λh=>b (.inl h))
    have h2:(ops[k]).op.mayW=false:=by simpa using (λh=>b (.inr h))
    rcases ht with ht|ht
    ·rw[d,cX q]at ht;cases ht
    ·rw[w3 h2]at ht;exact absurd rfl ht
def R5{P:Program}(v:Ic.ok P S){y:List (List Nat)}(i:G_ (ops.map (·.after)) y=true)(m:PV ops y=true){p:Nat->D}{m':Ig}{f:List NH}
  (x:CH S ns c ops ops 0 s0 m0=some (p,m',f)) (e:Nw f (Ml ops y)) {l:List Nat} (hg:iC ops (Ge y) (λ_=>false) l) (w:l.foldl ins (λ_=>false)=below ops.length):
  Dh S ns c ops l s0 m0=some (p,m'):=by
 obtain⟨d,s⟩:=LZ (k:=0) (ops:=ops) rfl x;simp only[QG,List.drop_zero]at s d;have t:=aCJ v i m x e;have a:=HU (S:=S) (ns:=ns) (c:=c) (ops:=ops) (s0:=s0) (m0:=m0) 0 (ZS _);have n:below 0=λ_=>false:=Yi
 rw[n]at a;simp only[Eg]at a;have r:=HU (S:=S) (ns:=ns) (c:=c) (ops:=ops) (s0:=s0) (m0:=m0) ops.length (Qx _);have b:=R8 (c:=c) (ns:=ns) (s0:=s0) (m0:=m0) v t (λk o u=>by
  have g:k<ops.length:=(Qr.1 u).1;have:=(s k o u).2;rw[(HU k O).1,(HU k O).2]at this;simp[Zc,this]) (λk o u=>by
  have g:k<ops.length:=(Qr.1 u).1;have:=(s k o u).1;rw[(HU k O).1,(HU k O).2]at this;exact this) l (λ_=>false) (λj k h _=>Xd) hg
 rw[←a.1,←a.2,w,←r.1,←r.2]at b;rw[b,←d]
end
def DOper.strip(o:DOper):DOper:={o with after:=[]}
def E9(S:Ic)(ns:Id)(c:Nat)(ops:List DOper):List DOper->Nat->(Nat->D)->Ig->Option ((Nat->D)×Ig)
 |[],_,s,m=>some (s,m)
 |o::l,k,s,m=>match B9 S ops ((c+k)::ns) o s m with
  |some e=>E9 S ns c ops l (k+1) (Ct s o.dst e.d) (Ir.app m e.u)
  |none=>none
def Tv(ops:List DOper)(s:Nat->D)(o:DOper):BG (ops.map DOper.strip) s o.strip=BG ops s o:=by
 grind [BG,DOper.strip]
def PB(S:Ic)(ops:List DOper)(fr:Id)(o:DOper)(s:Nat->D)(m:Ig):B9 S (ops.map DOper.strip) fr o.strip s m=B9 S ops fr o s m:=by
 unfold B9;rw[Tv];rfl
def L_(S:Ic)(ns:Id)(c:Nat)(ops:List DOper):∀(l:List DOper)(k:Nat)(s:Nat->D)(m:Ig),E9 S ns c (ops.map DOper.strip) (l.map DOper.strip) k s m=E9 S ns c ops l k s m
 |[],k,s,m=>rfl
 |o::l,k,s,m=>by
  simp only[QE,E9,PB];cases B9 S ops ((c+k)::ns) o s m with
  |none=>rfl
  |some e=>simp only;exact L_ S ns c ops l (k+1) _ _
def H4(S:Ic)(ns:Id)(c:Nat)(ops:List DOper):∀(l:List DOper)(k:Nat)(s:Nat->D)(m:Ig),CH S ns c (ops.map DOper.strip) (l.map DOper.strip) k s m=CH S ns c ops l k s m
 |[],k,s,m=>rfl
 |o::l,k,s,m=>by
  simp only[QE,CH,PB];cases B9 S ops ((c+k)::ns) o s m with
  |none=>rfl
  |some e=>simp only;rw[show o.strip.dst=o.dst from rfl,H4 S ns c ops l (k+1) _ _];rfl
def L0(S:Ic)(ns:Id)(c:Nat)(ops:List DOper):∀(l:List DOper)(k:Nat)(s:Nat->D)(m:Ig),l=ops.drop k->E9 S ns c ops l k s m=Dh S ns c ops (ZC k l.length) s m
 |[],k,s,m,_=>rfl
 |o::l,k,s,m,hl=>by
  have d:ops[k]?=some o:=by
   have:(ops.drop k)[0]?=some o:=by rw[←hl];rfl
   rw[QI]at this;simpa using this
  have b:l=ops.drop (k+1):=by
   have:(ops.drop k).drop 1=ops.drop (k+1):=by rw[ZB]
   rw[←this,←hl];rfl
  rw[QB,Zf];simp only[E9,Dh,d];cases B9 S ops ((c+k)::ns) o s m with
  |none=>rfl
  |some e=>simp only;exact L0 S ns c ops l (k+1) _ _ b
inductive DC where
 |skip
 |ret
 |exit (i:Nat)
 |row (ops:List DOper)
 |drawn (ops:List DOper) (ps:List (Nat×Nat))
 |seq (a b:DC)
 |cond (c:Ip) (a b:DC)
 |block (i:Nat) (c:DC)
 |loop (c:DC)
def S3(ps:List (List Nat)):List (List Nat):=
 ps.foldl (λq p=>q++[(p.flatMap λj=>j::q.getD j []).eraseDups]) []
def VH(P:Program)(N:Nat)(ops:Array Oper):Option DC:=
 match DA P N ops.toList with
 |some f=>
  if G_ (f.map (·.after)) (S3 (f.map (·.after)))=true∧PV f (S3 (f.map (·.after)))=true∧GA .any ops (Region.linearise .any ops 0)=true∧
   GA .text ops (Region.linearise .text ops 0)=true∧GA .gc ops (Region.linearise .gc ops 0)=true
  then some (.drawn (f.map DOper.strip) (Ml f (S3 (f.map (·.after)))))else none
 |none=>none
def AM(P:Program)(N:Nat):Code->Option DC
 | .skip=>some .skip
 | .ret=>some .ret
 | .exit i=>some (.exit i)
 | .region _ ops false=>(DA P N ops.toList).map λl=> .row (l.map DOper.strip)
 | .region _ ops true=>VH P N ops
 | .seq a b=>match AM P N a,AM P N b with
  |some a,some b=>some (.seq a b)
  |_,_=>none
 | .cond c a b=>match AK c,AM P N a,AM P N b with
  |some c,some a,some b=>some (.cond c a b)
  |_,_,_=>none
 | .block i c=>(AM P N c).map (.block i)
 | .loop c=>(AM P N c).map .loop
 |_=>none
structure St where
 s:Nat->D
 m:Ig
 c:Nat
inductive Ex where
 |normal
 |ret
 |exit (i:Nat)
def Ex.toExit:Ex->Exit
 | .normal=> .normal
 | .ret=> .ret
 | .exit i=> .exit i
inductive Lp (R:St->Ex->St->Prop):Nat->St->Ex->St->Prop
 |stop (st:St) (e:Ex) (st':St):R st e st'->e≠ .normal->Lp R 0 st e st'
 |more (n:Nat) (st st1:St) (e:Ex) (st':St):R st .normal st1->Lp R n st1 e st'->Lp R (n+1) st e st'
def Ev(S:Ic)(ns:Id):DC->St->Ex->St->Prop
 | .skip,st,e,st'=>e= .normal∧st'=st
 | .ret,st,e,st'=>e= .ret∧st'=st
 | .exit i,st,e,st'=>e= .exit i∧st'=st
 | .row ops,st,e,st'=>e= .normal∧E9 S ns st.c ops ops 0 st.s st.m=some (st'.s,st'.m)∧st'.c=st.c+ops.length
 | .drawn ops ps,st,e,st'=>e= .normal∧(∃f,CH S ns st.c ops ops 0 st.s st.m=some (st'.s,st'.m,f)∧Nw f ps)∧st'.c=st.c+ops.length
 | .seq a b,st,e,st'=>∃e1 d,Ev S ns a st e1 d∧((e1= .normal∧Ev S ns b d e st')∨(e1≠ .normal∧e=e1∧st'=d))
 | .cond c a b,st,e,st'=>(c.ev st.s= .bool true∧Ev S ns a st e st')∨(c.ev st.s= .bool false∧Ev S ns b st e st')
 | .block i c,st,e,st'=>∃e1,Ev S ns c st e1 st'∧((e1= .exit i∧e= .normal)∨(e1≠ .exit i∧e=e1))
 | .loop c,st,e,st'=>∃n,Lp (Ev S ns c) n st e st'
def DC.wp(S:Ic)(ns:Id)(p:DC)(Q:Ex->St->Prop)(z:St):Prop:=∃e la,Ev S ns p z e la∧Q e la
def Ma{P:Program}{Q:Exit->Act->World->Prop}{c:Code}(J:Nat->Act->World->Prop)
  (f:∀n a w,J n a w->c.wp P (Exit.then (λy o=>∃k,k<n∧J k y o) Q) a w) {n:Nat} {a:Act} {w:World} (r:J n a w):(Code.loop c).wp P Q a w:=by
 intro b k cs;have u:∀n a w,J n a w->∃e y o,Q e y o∧Arrives P (lone (b.at a (.code c:: .inLoop c::k)) cs w) b k cs e y o:=by
  intro n;induction n using ZV with
  |_ n ih=>
   intro a w t;obtain⟨e,i,q,s,p⟩:=f n a w t b (.inLoop c::k) cs;cases e with
   |normal=>
    obtain⟨j,v,g⟩:=s;obtain⟨m,z,w₂,h,d⟩:=ih j v i q g;exact⟨m,z,w₂,h,.of_steps (Steps.trans p (.one step_inLoop)) d⟩
   |exit id=>exact⟨_,i,q,s,.pass (x:= .inLoop c) rfl (λ_ _=> .inl U) p⟩
   |goto l=>exact⟨_,i,q,s,.pass (x:= .inLoop c) rfl (λ_ _=> .inl U) p⟩
   |ret=>exact⟨_,i,q,s,.pass (x:= .inLoop c) rfl (λ_ _=> .inl U) p⟩
   |panic ch=>exact⟨_,i,q,s,.pass (x:= .inLoop c) rfl (λ_ _=> .inl U) p⟩
   |outgrown=>exact⟨_,i,q,s,.pass (x:= .inLoop c) rfl (λ_ _=> .inl U) p⟩
 obtain⟨e,y,o,s,p⟩:=u n a w r;exact⟨e,y,o,s,.of_steps (.one step_loop) p⟩
section
variable{P:Program}{B:Nat}{w0:World}{N:Nat}{ns:Id}{S:Ic}
def CU{ops:Array Oper}{p:DC}(h:VH P N ops=some p):∃f y,DA P N ops.toList=some f∧G_ (f.map (·.after)) y=true∧PV f y=true∧
  (∀s,GA s ops (Region.linearise s ops 0)=true)∧p= .drawn (f.map DOper.strip) (Ml f y):=by
 unfold VH at h;split at h
 ·rename_i f l;split at h
  ·rename_i k;simp only[Qn]at h;refine⟨f,_,l,k.1,k.2.1,λs=>?_,h.symm⟩;cases s
   ·exact k.2.2.2.1
   ·exact k.2.2.2.2
   ·exact k.2.2.1
  ·cases h
 ·cases h
def Holds(P:Program)(B:Nat)(w0:World)(N:Nat)(ns:Id)(z:St)(a:Act)(w:World)(g:Gh):Prop:=InS P B w0 N ns z.c z.s z.m a w g
def oI(P:Program)(B:Nat)(w0:World)(N:Nat)(ns:Id)(z:St)(w:World)(g:Gh)(e:Ex)(la:St):Exit->Act->World->Prop:=
 λr y n=>r=e.toExit∧∃l,Holds P B w0 N ns la y n l∧IF w g n l∧FF ns z.m g la.m l
def oI.trans{z d la:St}{w v:World}{g t:Gh}{e:Ex}{r:Exit}{y:Act}{n:World}(p:IF w g v t)(j:FF ns z.m g d.m t)(h:oI P B w0 N ns d v t e la r y n):oI P B w0 N ns z w g e la r y n:=by
 obtain⟨u,l,q,o,b⟩:=h;exact⟨u,l,q,p.trans o,j.trans b⟩
def MP{ops:Array Oper}{f:List DOper}{y:List (List Nat)}(b:DA P N ops.toList=some f)(i:G_ (f.map (·.after)) y=true)
  (e:∀s,GA s ops (Region.linearise s ops 0)=true) (a:Bool) (t:Nat):
  iC f (Ge y) (λ_=>false) (Region.schedule a ops t)∧(Region.schedule a ops t).foldl ins (λ_=>false)=below f.length:=by
 obtain⟨w,x⟩:=CS b;have u:f.length=ops.size:=Xr
 have n:∀(k:Nat) o,ops[k]?=some o->(f.map (·.after)).getD k []=Uk o:=by
  intro k o r;obtain⟨d,l,v⟩:=x k o (by simpa using r);simp[Zc,l,(CL v).2.2.1]
 rw[u];unfold Region.schedule;split
 ·exact FZ u n i (e .any) t
 ·split
  ·exact FZ u n i (e .text) (t / 2)
  ·exact FZ u n i (e .gc) (t / 2)
def aC7(hS:Ic.ok P S):∀(ca:Code)(dc:DC),AM P N ca=some dc->∀(u:St)(e:Ex)(la:St),Ev S ns dc u e la->∀(a:Act)(w:World)(g:Gh),Holds P B w0 N ns u a w g->
  ca.wp P (oI P B w0 N ns u w g e la) a w:=by
 intro ca;induction ca with
 |skip=>
  intro dc aa u e la ha a w g hx;simp only[AM,Qn]at aa;subst aa;obtain⟨rfl,rfl⟩:=ha;exact wp_skip ⟨rfl,g,hx,IF.refl w g,FF.refl _ _ _⟩
 |ret=>
  intro dc aa u e la ha a w g hx;simp only[AM,Qn]at aa;subst aa;obtain⟨rfl,rfl⟩:=ha;exact wp_ret ⟨rfl,g,hx,IF.refl w g,FF.refl _ _ _⟩
 |exit i=>
  intro dc aa u e la ha a w g hx;simp only[AM,Qn]at aa;subst aa;obtain⟨rfl,rfl⟩:=ha;exact wp_exit ⟨rfl,g,hx,IF.refl w g,FF.refl _ _ _⟩
 |region id ops v=>
  intro dc aa u e la ha a w g hx;cases v with
  |false=>
   simp only[AM,Qo]at aa;obtain⟨da,fa,rfl⟩:=aa;obtain⟨rfl,he,hc⟩:=ha;rw[L_,L0 S ns u.c da da 0 _ _ rfl,←Q2]at he;refine vI hS fa he hx (λa' w' g' h1 h2 h3=>⟨rfl,g',?_,h2,h3⟩);unfold Holds;rw[hc,Za];exact h1
  |true=>
   simp only[AM]at aa;obtain⟨da,ba,fa,hb,hs,ia,rfl⟩:=CU aa;obtain⟨rfl,⟨f,he,hf⟩,hc⟩:=ha;rw[H4]at he;refine wp_region_draw (λt=>?_);obtain⟨g1,g2⟩:=MP fa hb ia (P.follows .mixedOrders) t;have q:=R5 (c:=u.c) (ns:=ns) hS hb hs he hf g1 g2;have oa:InS P B w0 N ns u.c u.s u.m a w.drew g:=⟨hx.inv.drew,λt=>(hx.slots t).ext (IF.drew w g),hx.size,hx.defers,hx.fresh⟩;refine EW hS fa _ (λ_=>false) u.s u.m a w.drew g la.s la.m (OV g1) q (oa.start _) (λa' w' g' h1 h2 h3=>⟨rfl,g',?_,(IF.drew w g).trans h2,h3⟩);unfold Holds;rw[hc,Za];rw[g2]at h1;exact h1.done
 |seq x y ra qa=>
  intro dc aa u e la ha a w g hx;simp only[AM]at aa;split at aa
  ·rename_i dx dy h1 h2;simp only[Qn]at aa;subst aa;obtain⟨e1,ga,d,l⟩:=ha;have bb:=ra dx h1 u e1 ga d a w g hx;refine wp_seq (wp_mono bb ?_);rintro e' a' w' ⟨rfl,g',hh,ja,b⟩;rcases l with ⟨rfl,ta⟩|⟨ma,rfl,rfl⟩
   ·exact wp_mono (qa dy h2 ga e la ta a' w' g' hh) (λwa xa ua h=>h.trans ja b)
   ·cases e with
    |normal=>exact absurd rfl ma
    |ret=>exact⟨rfl,g',hh,ja,b⟩
    |exit i=>exact⟨rfl,g',hh,ja,b⟩
  ·cases aa
 |cond c x y ra qa=>
  intro dc aa u e la ha a w g hx;simp only[AM]at aa;split at aa
  ·rename_i k dx dy h0 h1 h2;simp only[Qn]at aa;subst aa;have hc:=hx.slots.arg h0;rcases ha with ⟨ht,ha⟩|⟨ht,ha⟩
   ·rw[ht]at hc;exact wp_cond_true hc.bool_inv (ra dx h1 u e la ha a w g hx)
   ·rw[ht]at hc;exact wp_cond_false hc.bool_inv (qa dy h2 u e la ha a w g hx)
  ·cases aa
 |block i c ih=>
  intro dc aa u e la ha a w g hx;simp only[AM,Qo]at aa;obtain⟨k,h1,rfl⟩:=aa;obtain⟨e1,d,l⟩:=ha;refine wp_block (wp_mono (ih k h1 u e1 la d a w g hx) ?_);rintro e' a' w' ⟨rfl,g',hh,ja,b⟩;rcases l with ⟨rfl,rfl⟩|⟨ma,rfl⟩
  ·simp only[Ex.toExit,Exit.inBlock,if_true];exact⟨rfl,g',hh,ja,b⟩
  ·cases e with
   |normal=>exact⟨rfl,g',hh,ja,b⟩
   |ret=>exact⟨rfl,g',hh,ja,b⟩
   |exit j=>
    simp only[Ex.toExit,Exit.inBlock];rw[if_neg (λe=>ma (by rw[e]))];exact⟨rfl,g',hh,ja,b⟩
 |loop c ih=>
  intro dc aa u e la ha a w g hx;simp only[AM,Qo]at aa;obtain⟨k,h1,rfl⟩:=aa;obtain⟨n,o⟩:=ha;refine Ma (λn a' w'=>∃ga g1,Holds P B w0 N ns ga a' w' g1∧IF w g w' g1∧FF ns u.m g ga.m g1∧Lp (Ev S ns k) n ga e la) ?_ ⟨u,g,hx,IF.refl w g,FF.refl _ _ _,o⟩;rintro n a1 w1 ⟨ga,g1,hh,ja,b,sa⟩;cases sa with
  |stop _ _ _ hr ma=>
   refine wp_mono (ih k h1 ga e la hr a1 w1 g1 hh) ?_;rintro e' a' w' hp;have ka:=hp.trans ja b;obtain⟨rfl,_⟩:=hp;cases e with
   |normal=>exact absurd rfl ma
   |ret=>exact ka
   |exit i=>exact ka
  |more n' _ pa _ _ hr z=>
   refine wp_mono (ih k h1 ga .normal pa hr a1 w1 g1 hh) ?_;rintro e' a' w' ⟨rfl,g',na,r,p⟩;exact⟨n',Nat.lt_succ_self _,pa,g',na,ja.trans r,b.trans p,z⟩
 |_=>
  intro dc aa;simp[AM]at aa
end
def O2{xs:List D}(h:∀d∈xs,d.calm=true):∀x∈flat xs,x.calm=true:=by
 induction xs with
 |nil=>intro x hx;cases hx
 |cons d r ih=>
  intro x hx;simp only[flat,Qt]at hx;rcases hx with hx|hx
  ·exact ND (h d (QA ..)) x hx
  ·exact ih (λd l=>h d (QD _ l)) x hx
def fP{cs:List D}(h:(D.agg cs).calm=true):∀x∈cs,x.calm=true:=ND h
def Im.calm_to{w w':World}{g g':Gh}{d:D}{v:Value}(h:Im w g d v)(x:d.calm=true)(ga:∀p:Addr,p.off<g.G p.block->w'.cell? p=w.cell? p)(z:∀b,g.G b<=g'.G b):Im w' g' d v:=by
 induction h with
 |junk v=>exact .junk v
 |bool b=>exact .bool b
 |int k n=>exact .int k n
 |str s=>exact .str s
 |nils t=>exact .nils t
 |slice t xs a n c sz vv u q y e m h6 h7 h8 h9 ih=>
  have ht:t=[]:=by simpa[D.calm,D.calm1]using x
  subst ht;refine .slice [] xs a n c sz vv u q y (λj hj=>?_) m (λj d l=>ih j d l (O2 h9 d (QL l))) (λh=>Q4 (h7 h) (z _)) (λh=>absurd rfl h) h9;rw[ga _ Y8];exact e j hj
 |ptr i o b u=>simp[D.calm,D.calm1]at x
 |row i n c b r u=>simp[D.calm,D.calm1]at x
 |eptr ds a vv u q y e m=>simp[D.calm,D.calm1]at x
 |nilp=>exact .nilp
 |agg ds vs u q y ih=>exact .agg ds vs u q (λj d v l hv=>ih j d v l hv (fP x d (QL l)))
 |tup ds vs u q ih=>simp[D.calm,D.calm1]at x
 |iface t d v u q ih=>exact .iface t d v u (ih u)
 |nili=>exact .nili
 |fn f ds vs u q ih=>
  have:ds=[]:=by simpa[D.calm,D.calm1]using x
  subst this;exact .fn f [] vs u U
 |nilf=>exact .nilf
 |nilm=>exact .nilm
 |itp i b u=>simp[D.calm,D.calm1]at x
def D.unR:D->D
 | .tup vs=> .tup (vs.map D.un)
 |d=>d.un
def D.calmR:D->Bool
 | .tup vs=>vs.all D.calm
 |d=>d.calm
def Im.unR{w:World}{g:Gh}{d:D}{v:Value}(h:Im w g d v):Im w g d.unR v:=by
 cases d with
 |tup vs=>
  obtain⟨us,rfl,u,q⟩:=h.tup_inv;refine .tup _ us (by simp[u]) (λj d v l t=>?_);rw[Qv,Qo]at l;obtain⟨i,ta,rfl⟩:=l;exact(q j i v ta t).un
 |_=>exact h.un
def Im.calmR_to{w n:World}{g x:Gh}{d:D}{v:Value}(h:Im w g d v)(k:d.calmR=true)(r:∀p:Addr,p.off<g.G p.block->n.cell? p=w.cell? p)(y:∀b,g.G b<=x.G b):Im n x d v:=by
 cases d with
 |tup vs=>
  obtain⟨us,rfl,u,q⟩:=h.tup_inv;exact .tup _ us u (λj d v l t=>(q j d v l t).calm_to (QK.1 k d (QL l)) r y)
 |_=>exact h.calm_to k r y
inductive RV where
 |t (n:Nat)
 |cell (k:Option Nat) (n:Nat)
def Tl(m:Ig)(k:Option Nat):D->Option D
 | .ptr i o=>match k with
  |none=>m i o
  |some n=>(Ah m i o n).map .agg
 |_=>none
def RV.of(s:Nat->D)(m:Ig):RV->Option D
 | .t n=>some (s n)
 | .cell k n=>Tl m k (s n)
def Gt(s:Nat->D)(m:Ig):List RV->Option (List D)
 |[]=>some []
 |r::l=>match r.of s m,Gt s m l with
  |some d,some ds=>some (d::ds)
  |_,_=>none
def Cw(rs:List RV)(s:Nat->D)(m:Ig):Option D:=
 match Gt s m rs with
 |some [d]=>some d
 |some ds=>some (.tup ds)
 |none=>none
def MN(P:Program):List ResultVar->Option (List RV)
 |[]=>some []
 | .tmp t::r=>(MN P r).map (.t t::·)
 | .cell a t::r=>match qX P t,MN P r with
  |some k,some l=>some (.cell k a::l)
  |_,_=>none
section
variable{P:Program}{B:Nat}{w0 w w':World}{m:Ig}{g:Gh}{s:Nat->D}{a:Act}
def cN(tmps:Array Value):ResultVar->Sem Value
 | .tmp t=>pure (tmps.getD t undef)
 | .cell a t=>do loadVar t (←asAddr (tmps.getD a undef))
def Pk(hi:Iv P B w0 m w g)(hs:Ef w g s a):∀{h:List ResultVar} {rs:List RV} {ds:List D},MN P h=some rs->Gt s m rs=some ds->
  ∃vs:List Value,(h.mapM (m:=Sem) (cN a.tmps)).run P w= .ok vs w∧vs.length=ds.length∧∀(j:Nat) d v,ds[j]?=some d->vs[j]?=some v->Im w g d v
 |[],rs,ds,h1,h2=>by
  simp only[MN,Qn]at h1;subst h1;simp only[Gt,Qn]at h2;subst h2;exact⟨[],U,rfl,U⟩
 |x::r,rs,ds,h1,h2=>by
  have ia:∃rv f,rs=rv::f∧MN P r=some f∧∀d,rv.of s m=some d->∃v,(cN a.tmps x).run P w= .ok v w∧Im w g d v:=by
   cases x with
   |tmp t=>
    simp only[MN,Qo]at h1;obtain⟨l,z,rfl⟩:=h1;refine⟨.t t,l,rfl,z,λd u=>?_⟩;simp only[RV.of,Qn]at u;subst u;exact⟨_,rfl,hs t⟩
   |cell y t=>
    simp only[MN]at h1;split at h1
    ·rename_i k l hk z;simp only[Qn]at h1;subst h1;refine⟨.cell k y,l,rfl,z,λd u=>?_⟩;simp only[RV.of]at u;unfold Tl at u;split at u
     ·rename_i i o e;have hr:=hs y;rw[e]at hr;obtain⟨b,e1,hb⟩:=hr.ptr_inv;split at u
      ·obtain⟨v,c1,c2,c3⟩:=hi.cell hb u;exact⟨v,by simp[cN,e1,asAddr,EH hk c1],c3⟩
      ·rename_i n;rw[Qo]at u;obtain⟨ds,q,rfl⟩:=u;obtain⟨vs,c1,c2⟩:=hi.cells hb q;have z:=(Ci q).1;have:=Fe (P:=P) (w:=w) hk (ad:=⟨b,o,none⟩) (vs:=vs) (by rw[c1.1,z]) (λj v hv=>by rw[Fg];exact c2 j v hv);exact⟨_,by simp[cN,e1,asAddr,this],aJ c1⟩
     ·cases u
    ·cases h1
  obtain⟨rv,f,rfl,z,p⟩:=ia;unfold Gt at h2;split at h2
  ·rename_i d c e1 e2;simp only[Qn]at h2;subst h2;obtain⟨v,q1,q2⟩:=p d e1;obtain⟨vs,p1,p2,p3⟩:=Pk hi hs z e2;refine⟨v::vs,?_,by simp[p2],λj d v u hv=>?_⟩
   ·simp_all
   ·grind
  ·cases h2
def Pn{z:Func}{rs:List RV}{d:D}(hi:Iv P B w0 m w g)(hs:Ef w g s a)(hr:MN P z.results.toList=some rs)(l:Cw rs s m=some d):
  ∃v,(results z a.tmps).run P w= .ok v w∧Im w g d v:=by
 unfold Cw at l;have run:∀ds,Gt s m rs=some ds->∃vs:List Value,(results z a.tmps).run P w= .ok (if h:vs.toArray.size=1 then vs.toArray[0]else .tuple vs.toArray) w∧vs.length=ds.length∧∀(j:Nat) d v,ds[j]?=some d->vs[j]?=some v->Im w g d v:=by
  intro ds q;obtain⟨vs,f,o,k⟩:=Pk hi hs hr q;refine⟨vs,?_,o,k⟩;have b:results z a.tmps=(do
   let vs ←z.results.mapM (cN a.tmps)
   pure (if h:vs.size=1 then vs[0]else .tuple vs)):=by
   unfold results;congr 1
  rw[b];simp only[Sem.run_bind];rw[Zo,Sem.run_map,f];rfl
 split at l
 ·rename_i i e;simp only[Qn]at l;subst l;obtain⟨vs,f,o,k⟩:=run _ e
  match vs,o with
  |[v],_=>exact⟨v,f,k 0 _ v rfl rfl⟩
 ·rename_i ds c e;simp only[Qn]at l;subst l;obtain⟨vs,f,o,k⟩:=run _ e;refine⟨.tuple vs.toArray,?_,.tup ds vs o k⟩;rw[f,dif_neg];intro u
  match ds,c,o with
  |[],_,o=>simp at o;subst o;simp at u
  |[x],c,_=>exact c x rfl
  |x::y::r,_,o=>simp at o u;omega
 ·cases l
def Iv.less(h:Iv P B w0 m w g){m':Ig}(ta:∀i o d,m' i o=some d->m i o=some d):Iv P B w0 m' w g:=by
 refine⟨h.below,h.size,h.gz,h.old,λi b hi=>?_,h.inj,λi o d z c=>h.kind i o d (ta _ _ _ z) c,λi e hi=>h.tok i e (ta _ _ _ hi),λv a e1 e2 b y k u f l n=>h.tinj v a e1 e2 b y k (ta _ _ _ u) (ta _ _ _ f) l n,h.itr.to (λi s p e=>ta _ _ _ e) λi b s p _ _ _ e1 e2 e3=>⟨rfl,rfl,e2,e3⟩⟩;obtain⟨p,q,vs,T,x,r⟩:=h.obj i b hi;exact⟨p,q,vs,T,x,λo d z=>r o d (ta _ _ _ z)⟩
def Gh.glue(g:Gh)(w:World)(G':Nat->Nat):Gh:={g with G:=λb=>if b<w.heap.size then g.G b else G' b}
def IF.glue{G':Nat->Nat}(c:∀b,w.heap.size<=b->g.G b=0)(j:Below w.heap.size w w'):IF w g w' (g.glue w G'):=by
 refine⟨λp m=>?_,λb=>?_,λi b h=>h,rfl,λi x h=>h⟩
 ·by_cases v:p.block<w.heap.size
  ·exact j.cell v
  ·simp_all
 ·grind [Gh.glue]
def Iv.glue(h:Iv P B w0 m w g)(j:Below w.heap.size w w'){G':Nat->Nat}(y:∀b,w'.heap.size<=b->G' b=0):Iv P B w0 m w' (g.glue w G'):=by
 have x:=IF.glue (G':=G') h.gz j;refine⟨h.below.trans (j.mono h.size),Q4 h.size j.size,λb a=>?_,λb z=>by simp only[Gh.glue];rw[if_pos (Q_ z h.size)];exact h.old b z,λi b hi=>?_,h.inj,h.kind,λi e hi=>?_,h.tinj,h.itr.to (λ_ _ _ e=>e) λi b s p _ _ _ e1 e2 e3=>?_⟩
 rotate_right
 ·have z:b<w.heap.size:=(Qs.1 e1).1;exact⟨rfl,j.block b z,by simp[Gh.glue,z,e2],e3⟩
 ·simp only[Gh.glue];rw[if_neg (by have:=j.size;omega)];exact y b a
 ·obtain⟨p,q,vs,T,f,r⟩:=h.obj i b hi;have z:=h.lt hi;refine⟨p,by simp[Gh.glue,z,q],vs,T,(j.block b z).trans f,λo d hm=>?_⟩;obtain⟨v,l,t,r3⟩:=r o d hm;exact⟨v,l,t,r3.ext x⟩
 ·obtain⟨b,n,c,sz,cur,t1,u,t3,t4,t5,t6,t7,t8,t9,k⟩:=h.tok i e hi;have z:b<w.heap.size:=(Qs.1 t5).1;exact⟨b,n,c,sz,cur,t1,u,t3,t4,(j.block b z).trans t5,t6,t7,t8,by simp[Gh.glue,z,t9],k⟩
end
structure Fn (P:Program) (f:FuncId) (N:Nat) (dc:DC) (rs:List RV):Prop where
 is:∃fn code,P.funcs[f]?=some fn∧fn.body=some code∧(fn.name== "runtime.NumGoroutine")=false∧fn.ntmps=N∧AM P N code=some dc∧MN P fn.results.toList=some rs
def BR(ds:List D):Nat->D:=λt=>ds.getD t .junk
def Af(F:List D->Option D):IS where
 rd:=λ_ _=>[]
 ex:=λds _ _=>if(ds.map D.un).all D.calm=true then(F (ds.map D.un)).map λr=>(r,[])else none
def Ew(rs:List RV)(R:D->Ig->Prop)(e:Ex)(z:St):Prop:=(e= .normal∨e= .ret)∧∃d,Cw rs z.s z.m=some d∧R d z.m
section
variable{P:Program}{S:Ic}{f:FuncId}{N:Nat}{dc:DC}{rs:List RV}
def Hw{B:Nat}{w0 w:World}{g:Gh}{ns:Id}{m:Ig}{ds:List D}{vs:List Value}(hS:Ic.ok P S)(a:Fn P f N dc rs)(hN:ds.length<=N)(hi:Iv P B w0 m w g)
  (fa:∀k i,(k::ns)<:+i->Cp m g i) (z:vs.length=ds.length) (da:∀(j:Nat) d v,ds[j]?=some d->vs[j]?=some v->Im w g d v) {R:D->Ig->Prop}
  (bb:dc.wp S ns (Ew rs R) ⟨BR ds,m,0⟩):
  Calls P f vs.toArray w λe n=>∃v d m' y,e= .returned v∧Iv P B w0 m' n y∧IF w g n y∧FF ns m g m' y∧Im n y d v∧R d m':=by
 obtain⟨fn,c,u,q,o,b,h5,h6⟩:=a.is;obtain⟨e,la,x,r,d,l,hR⟩:=bb;refine calls_of_wp u q ?_;rw[b];have h:Holds P B w0 N ns ⟨BR ds,m,0⟩ {tmps:=vs.toArray++Zl (N-vs.toArray.size) undef,defers:=[]} w g:=by
  refine⟨hi,λt=>?_,Xc,rfl,λk i _ s=>fa k i s⟩;simp only[BR];by_cases ht:t<ds.length
  ·have e1:ds.getD t .junk=ds[t]:=by simp[Zc,ht]
   have e2:(vs.toArray++Zl (N-vs.toArray.size) undef).getD t undef=vs[t]' O:=by
    rw[Qu,QU Xc];simp[z,ht]
   rw[e1,e2];exact da t _ _ (Qp ht) (Qp _)
  ·have e1:ds.getD t .junk= .junk:=by simp[Zc,Qw (Nat.le_of_not_lt ht)]
   rw[e1];exact .junk _
 refine wp_mono (aC7 hS c dc h5 _ e la x _ w g h) ?_;rintro e' a' n ⟨rfl,y,hh,p,hk⟩;obtain⟨v,ja,oa⟩:=Pn hh.inv hh.slots h6 l;have hb:a'.defers=[]∧∃v,(results fn a'.tmps).run P n= .ok v n∧∃v' d m' y,Ending.returned v= .returned v'∧Iv P B w0 m' n y∧IF w g n y∧FF ns m g m' y∧Im n y d v'∧R d m':=
  ⟨hh.defers,v,ja,v,d,la.m,y,rfl,hh.inv,p,hk,oa,hR⟩
 rcases r with rfl|rfl
 ·exact hb
 ·exact hb
def AD(hS:Ic.ok P S)(a:Fn P f N dc rs){F:List D->Option D}(hN:∀ds r,F ds=some r->ds.length<=N)
  (hF:∀ds r,F ds=some r->dc.wp S [] (Ew rs λd _=>d.unR=r∧r.calmR=true) ⟨BR ds,λ_ _=>none,0⟩):(Af F).ok P f:=by
 obtain⟨fn,ca,q,t,l,h4,h5,h6⟩:=a.is;refine⟨⟨fn,q,XL,l⟩,λds m m' fr _=>rfl,?_⟩;intro B w0 w m g fr ds vs r u hi fa hl da y;simp only[Af]at y;split at y
 ·rename_i n;rw[Qo]at y;obtain⟨r',hr,y⟩:=y;simp only[Qq]at y;obtain⟨rfl,rfl⟩:=y
  let g0:Gh:={G:=g.G,G0:=g.G,dl:=λ_=>none,tb:=λ_=>none}
  have va:Iv P w.heap.size w (λ_ _=>none) w g0:=
   ⟨Below.refl _ _,Qx _,hi.gz,λ_ _=>rfl,λi b h=>by simp[g0]at h,λi i' b h=>by simp[g0]at h,λi o d h=>Xe,λi e h=>Xe,λi i' e e' b x x' h=>Xe,λi s p h=>Xe,λi i' s p s' p' b x x' h=>Xe⟩
  have ea:∀(j:Nat) d v,(ds.map D.un)[j]?=some d->vs[j]?=some v->Im w g0 d v:=by
   intro j d v hd hv;have hc:=QK.1 n d (QL hd);rw[Qv,Qo]at hd;obtain⟨d',ta,rfl⟩:=hd;exact(da j d' v ta hv).un.calm_to hc (λ_ _=>rfl) (λ_=>Qx _)
  have na:=Hw (B:=w.heap.size) (w0:=w) (w:=w) (g:=g0) (ns:=[]) (m:=λ_ _=>none) (ds:=ds.map D.un) (vs:=vs) hS a (hN _ _ hr) va (λk i _=>⟨λ_=>rfl,rfl,rfl⟩) XC ea (hF _ _ hr);refine na.mono ?_;rintro e w' ⟨v,d,m',g',rfl,ia,ja,_,ab,rfl,qa⟩;have c:∀b,(g.glue w g'.G).G b=g'.G b:=by
   intro b;simp only[Gh.glue];split
   ·rename_i z;rw[ia.old b z,ja.G0]
   ·rfl
  refine⟨v,g.glue w g'.G,rfl,hi.glue ia.below ia.gz,IF.glue hi.gz ia.below,?_,λi a _=>a⟩;exact ab.unR.calmR_to qa (λ_ _=>rfl) (λb=>by rw[c];exact Qx _)
 ·cases y
def OM(s:Ic.ok P S)(a:Fn P f N dc rs){q:IS}(z:∀ds m m' fr,(∀l∈q.rd ds m,m l.1 l.2=m' l.1 l.2)->q.ex ds m fr=q.ex ds m' fr)
  (hq:∀ds m fr r u,q.ex ds m fr=some (r,u)->(∀k i o,(k::fr)<:+i->m i o=none)->ds.length<=N∧dc.wp S fr (Ew rs λd m'=>d=r∧∀i o x,Ir.app m u i o=some x->m' i o=some x) ⟨BR ds,m,0⟩):q.ok P f:=by
 obtain⟨fn,c,y,t,h3,b,h5,h6⟩:=a.is;refine⟨⟨fn,y,XL,h3⟩,z,?_⟩;intro B w0 w m g fr ds vs r u hi fa hl da p;have n:∀k i,(k::fr)<:+i->Cp m g i:=λk i h=>fa i ((ZQ k fr).trans h)
 obtain⟨hN,bb⟩:=hq ds m fr r u p (λk i o h=>(n k i h).1 o);have na:=Hw (ns:=fr) s a hN hi n hl da bb;refine na.mono ?_;rintro e w' ⟨v,d,m',g',rfl,ia,ja,ka,ab,rfl,ta⟩;refine⟨v,g',rfl,ia.less ta,ja,ab,λi a hn=>?_⟩;obtain⟨k1,j,k3⟩:=ka i a hn;refine⟨λo=>?_,j,k3⟩;cases hx:Ir.app m u i o with
 |none=>rfl
 |some x=>exact absurd (k1 o) (by rw[ta i o x hx];simp)
end
inductive Tag.{u} {α:Sort u} (a:α):Type
 |mk
def AF(p K:Prop)(_:Tag K):Prop:=p∧K
def PO(p A B:Prop)(_:Tag (A,B)):Prop:=(p->A)∧(¬p->B)
def IE{α:Type}(o:Option α)(K:α->Prop)(_:Tag K):Prop:=∃x,o=some x∧K x
def AF.intro{p K:Prop}{t:Tag K}(h:p)(k:K):AF p K t:=⟨h,k⟩
def aD{p A B:Prop}{t:Tag (A,B)}(h:p->A)(k:¬p->B):PO p A B t:=⟨h,k⟩
def aI{α:Type}{o:Option α}{K:α->Prop}{t:Tag K}{x:α}(h:o=some x)(k:K x):IE o K t:=⟨x,h,k⟩
def U2{K:Prop}{t:Tag K}:AF True K t=K:=by simp[AF]
def aCK{A B:Prop}{t:Tag (A,B)}:PO True A B t=A:=by simp[PO]
def wF{A B:Prop}{t:Tag (A,B)}:PO False A B t=B:=by simp[PO]
theorem Bi{α:Type}{x:α}{K:α->Prop}{t:Tag K}:IE (some x) K t=K x:=by simp[IE]
def A5{α:Type}{K:α->Prop}{t:Tag K}:IE none K t=False:=by simp[IE]
def Dl{α β:Type}{o:Option α}{f:α->β}{K:β->Prop}{t:Tag K}:IE (o.map f) K t=IE o (λx=>K (f x)) .mk:=by
 cases o<;>simp[IE]
def Fl{α:Type}{p:Prop}[Decidable p]{o:Option α}{K:α->Prop}{t:Tag K}:IE (if p then o else none) K t=AF p (IE o K .mk) .mk:=by
 grind [IE,AF]
def GP{α:Type}{p:Prop}[Decidable p]{x:α}{K:α->Prop}{t:Tag K}:IE (if p then some x else none) K t=AF p (K x) .mk:=by
 grind [IE,AF]
def aJZ{α:Type}{p:Prop}[Decidable p]{o o':Option α}{K:α->Prop}{t:Tag K}:IE (if p then o else o') K t=PO p (IE o K .mk) (IE o' K .mk) .mk:=by
 grind [IE,PO]
def Nq:D->Bool->(A B:Prop)->Tag (A,B)->Prop
 | .bool b',b,A,B,_=>PO (b'=b) A B .mk
 | .tup [],_,_,B,_=>B
 |_,_,_,_,_=>False
def SH{d:D}{b:Bool}{A B:Prop}{t:Tag (A,B)}(h:Nq d b A B t):(∃z,d= .bool z∧PO (z=b) A B .mk)∨(d= .tup []∧B):=by
 cases d with
 |bool z=>exact .inl ⟨z,rfl,h⟩
 |tup l=>cases l with
  |nil=>exact .inr ⟨rfl,h⟩
  |cons _ _=>exact h.elim
 |_=>exact h.elim
def lM{b:Bool}{A B:Prop}{t:Tag (A,B)}:Nq (.tup []) b A B t=B:=rfl
def LU{z b:Bool}{A B:Prop}{t:Tag (A,B)}:Nq (.bool z) b A B t=PO (z=b) A B .mk:=rfl
def BB(ops:List DOper)(j:Nat):Option Nat:=(ops[j]?).bind (·.dst)
def H0(s:Nat->D):Option Nat->D
 |some t=>s t
 |none=> .junk
def Dt(s:Nat->D)(t:Nat):H0 s (some t)=s t:=rfl
def AP(S:Ic)(s:Nat->D)(m:Ig)(fr:Id)(op:DOp)(K:D->Ir->Prop):Prop:=IE (AG S s m fr op) (λx=>K x.1 x.2) .mk
def CJ(S:Ic)(ns:Id)(c:Nat)(ops:List DOper):List DOper->Nat->(Nat->D)->Ig->(Nat->(Nat->D)->Ig->Prop)->Prop
 |[],k,s,m,K=>K k s m
 |⟨dst,op,_,none⟩::l,k,s,m,K=>AP S s m ((c+k)::ns) op λd u=>CJ S ns c ops l (k+1) (Ct s dst d) (Ir.app m u) K
 |⟨dst,op,_,some (j,b)⟩::l,k,s,m,K=>Nq (H0 s (BB ops j)) b
   (AP S s m ((c+k)::ns) op λd u=>CJ S ns c ops l (k+1) (Ct s dst d) (Ir.app m u) K)
   (CJ S ns c ops l (k+1) (Ct s dst (.tup [])) m K) .mk
section
variable{S:Ic}{ns:Id}
def FN{c:Nat}{ops:List DOper}{K:Nat->(Nat->D)->Ig->Prop}:∀(l:List DOper)(k:Nat)(s:Nat->D)(m:Ig),CJ S ns c ops l k s m K->∃w m',E9 S ns c ops l k s m=some (w,m')∧K (k+l.length) w m'
 |[],k,s,m,h=>⟨s,m,rfl,h⟩
 |⟨dst,op,af,none⟩::l,k,s,m,h=>by
  simp only[CJ,AP,IE]at h;obtain⟨⟨d,u⟩,x,h⟩:=h;obtain⟨w,m',q,f⟩:=FN l _ _ _ h;refine⟨w,m',?_,Yd⟩;simp only[E9,B9,BG,x];exact q
 |⟨dst,op,af,some (j,b)⟩::l,k,s,m,h=>by
  simp only[CJ]at h;rcases SH h with ⟨z,e,h⟩|⟨e,h⟩
  rotate_left
  ·have n:BG ops s ⟨dst,op,af,some (j,b)⟩=some false:=by
    unfold BG;simp only;unfold BB at e;cases ho:(ops[j]?).bind (·.dst)with
    |none=>rw[ho]at e;simp[H0]at e
    |some t=>rw[ho,Dt]at e;simp only[e]
   obtain⟨w,m',q,f⟩:=FN l _ _ _ h;refine⟨w,m',?_,Yd⟩;simp only[E9,B9,n];exact q
  ·have n:BG ops s ⟨dst,op,af,some (j,b)⟩=some (z==b):=by
    unfold BG;simp only;unfold BB at e;cases ho:(ops[j]?).bind (·.dst)with
    |none=>rw[ho]at e;simp[H0]at e
    |some t=>rw[ho,Dt]at e;simp only[e]
   by_cases i:z=b
   ·have h:=h.1 i;simp only[AP,IE]at h;obtain⟨⟨d,u⟩,x,h⟩:=h;obtain⟨w,m',q,f⟩:=FN l _ _ _ h;refine⟨w,m',?_,Yd⟩;simp only[E9,B9,n,i,x,beq_self_eq_true];exact q
   ·have h:=h.2 i;obtain⟨w,m',q,f⟩:=FN l _ _ _ h;refine⟨w,m',?_,Yd⟩;have:(z==b)=false:=by simpa using i
    simp only[E9,B9,n,this];exact q
def DU{c:Nat}{ops:List DOper}{K:Nat->(Nat->D)->Ig->Prop}:∀(l:List DOper)(k:Nat)(s:Nat->D)(m:Ig)(w:Nat->D)(m':Ig),E9 S ns c ops l k s m=some (w,m')->K (k+l.length) w m'->CJ S ns c ops l k s m K
 |[],k,s,m,w,m',h,hk=>by
  simp only[E9,Qn,Qq]at h;obtain⟨rfl,rfl⟩:=h;exact hk
 |⟨dst,op,af,none⟩::l,k,s,m,w,m',h,hk=>by
  rw[QB,show k+(l.length+1)=k+1+l.length by omega]at hk;simp only[E9,B9,BG]at h;simp only[CJ,AP];cases he:AG S s m ((c+k)::ns) op with
  |none=>rw[he]at h;cases h
  |some x=>rw[he]at h;exact⟨x,rfl,DU l _ _ _ _ _ h hk⟩
 |⟨dst,op,af,some (j,b)⟩::l,k,s,m,w,m',h,hk=>by
  rw[QB,show k+(l.length+1)=k+1+l.length by omega]at hk;simp only[E9,B9,BG]at h;simp only[CJ];unfold BB;cases ho:(ops[j]?).bind (·.dst)with
  |none=>rw[ho]at h;cases h
  |some t=>
   rw[ho]at h;rw[Dt];simp only at h;cases hd:s t with
   |bool z=>
    rw[hd]at h;simp only at h;rw[LU];refine⟨λi=>?_,λi=>?_⟩
    ·subst i;simp only[beq_self_eq_true]at h;cases he:AG S s m ((c+k)::ns) op with
     |none=>rw[he]at h;cases h
     |some x=>rw[he]at h;exact⟨x,he,DU l _ _ _ _ _ h hk⟩
    ·have:(z==b)=false:=by simpa using i
     rw[this]at h;exact DU l _ _ _ _ _ h hk
   |tup o=>
    rw[hd]at h;cases o with
    |nil=>exact DU l _ _ _ _ _ h hk
    |cons _ _=>cases h
   |_=>rw[hd]at h;cases h
def CI(S:Ic)(ns:Id)(c:Nat)(ops:List DOper):List DOper->Nat->(Nat->D)->Ig->(Nat->(Nat->D)->Ig->List NH->Prop)->Prop
 |[],k,s,m,K=>K k s m []
 |⟨dst,op,_,none⟩::l,k,s,m,K=>AP S s m ((c+k)::ns) op λd u=>CI S ns c ops l (k+1) (Ct s dst d) (Ir.app m u) λk' w m' f=>K k' w m' ((Lf S s m op,BP u)::f)
 |⟨dst,op,_,some (j,b)⟩::l,k,s,m,K=>Nq (H0 s (BB ops j)) b
   (AP S s m ((c+k)::ns) op λd u=>CI S ns c ops l (k+1) (Ct s dst d) (Ir.app m u) λk' w m' f=>K k' w m' ((Lf S s m op,BP u)::f))
   (CI S ns c ops l (k+1) (Ct s dst (.tup [])) m λk' w m' f=>K k' w m' ((Lf S s m op,[])::f)) .mk
def Ep{c:Nat}{ops:List DOper}:∀(l:List DOper)(k:Nat)(s:Nat->D)(m:Ig)(K:Nat->(Nat->D)->Ig->List NH->Prop),CI S ns c ops l k s m K->∃w m' f,CH S ns c ops l k s m=some (w,m',f)∧K (k+l.length) w m' f
 |[],k,s,m,K,h=>⟨s,m,[],rfl,h⟩
 |⟨dst,op,af,none⟩::l,k,s,m,K,h=>by
  simp only[CI,AP,IE]at h;obtain⟨⟨d,u⟩,x,h⟩:=h;obtain⟨w,m',f,q,h2⟩:=Ep l _ _ _ _ h;refine⟨w,m',_,?_,Yc⟩;simp only[CH,B9,BG,x,q]
 |⟨dst,op,af,some (j,b)⟩::l,k,s,m,K,h=>by
  simp only[CI]at h;rcases SH h with ⟨z,e,h⟩|⟨e,h⟩
  rotate_left
  ·have n:BG ops s ⟨dst,op,af,some (j,b)⟩=some false:=by
    unfold BG;simp only;unfold BB at e;cases ho:(ops[j]?).bind (·.dst)with
    |none=>rw[ho]at e;simp[H0]at e
    |some t=>rw[ho,Dt]at e;simp only[e]
   obtain⟨w,m',f,q,h2⟩:=Ep l _ _ _ _ h;refine⟨w,m',_,?_,Yc⟩;simp only[CH,B9,n,Ir.app,q];simp[BP]
  ·have n:BG ops s ⟨dst,op,af,some (j,b)⟩=some (z==b):=by
    unfold BG;simp only;unfold BB at e;cases ho:(ops[j]?).bind (·.dst)with
    |none=>rw[ho]at e;simp[H0]at e
    |some t=>rw[ho,Dt]at e;simp only[e]
   by_cases i:z=b
   ·have h:=h.1 i;simp only[AP,IE]at h;obtain⟨⟨d,u⟩,x,h⟩:=h;obtain⟨w,m',f,q,h2⟩:=Ep l _ _ _ _ h;refine⟨w,m',_,?_,Yc⟩;simp only[CH,B9,n,i,x,beq_self_eq_true,q]
   ·have h:=h.2 i;obtain⟨w,m',f,q,h2⟩:=Ep l _ _ _ _ h;refine⟨w,m',_,?_,Yc⟩;have:(z==b)=false:=by simpa using i
    simp only[CH,B9,n,this,Ir.app,q];simp[BP]
def CW{c:Nat}{ops:List DOper}:∀(l:List DOper)(k:Nat)(s:Nat->D)(m:Ig)(K:Nat->(Nat->D)->Ig->List NH->Prop)(w:Nat->D)(m':Ig)(f:List NH),CH S ns c ops l k s m=some (w,m',f)->K (k+l.length) w m' f->CI S ns c ops l k s m K
 |[],k,s,m,K,w,m',f,h,hk=>by
  simp only[CH,Qn,Qq]at h;obtain⟨rfl,rfl,rfl⟩:=h;exact hk
 |⟨dst,op,af,none⟩::l,k,s,m,K,w,m',f,h,hk=>by
  rw[QB,show k+(l.length+1)=k+1+l.length by omega]at hk;simp only[CH,B9,BG]at h;simp only[CI,AP];cases he:AG S s m ((c+k)::ns) op with
  |none=>rw[he]at h;cases h
  |some x=>
   rw[he]at h;obtain⟨d,u⟩:=x;simp only at h;split at h
   ·rename_i v r y e;simp only[Qn,Qq]at h;obtain⟨rfl,rfl,rfl⟩:=h;exact⟨_,rfl,CW l _ _ _ _ _ _ _ e hk⟩
   ·cases h
 |⟨dst,op,af,some (j,b)⟩::l,k,s,m,K,w,m',f,h,hk=>by
  rw[QB,show k+(l.length+1)=k+1+l.length by omega]at hk;simp only[CH,B9,BG]at h;simp only[CI];unfold BB;cases ho:(ops[j]?).bind (·.dst)with
  |none=>rw[ho]at h;cases h
  |some t=>
   rw[ho]at h;rw[Dt];simp only at h;cases hd:s t with
   |bool z=>
    rw[hd]at h;simp only at h;rw[LU];refine⟨λi=>?_,λi=>?_⟩
    ·subst i;simp only[beq_self_eq_true]at h;cases he:AG S s m ((c+k)::ns) op with
     |none=>rw[he]at h;cases h
     |some x=>
      rw[he]at h;obtain⟨d,u⟩:=x;simp only at h;split at h
      ·rename_i v r y e;simp only[Qn,Qq]at h;obtain⟨rfl,rfl,rfl⟩:=h;exact⟨_,he,CW l _ _ _ _ _ _ _ e hk⟩
      ·cases h
    ·have:(z==b)=false:=by simpa using i
     rw[this]at h;simp only[Ir.app]at h;split at h
     ·rename_i v r y e;simp only[Qn,Qq]at h;obtain⟨rfl,rfl,rfl⟩:=h;exact CW l _ _ _ _ _ _ _ e hk
     ·cases h
   |tup o=>
    rw[hd]at h;cases o with
    |nil=>
     simp only[Ir.app]at h;split at h
     ·rename_i v r y e;simp only[Qn,Qq]at h;obtain⟨rfl,rfl,rfl⟩:=h;exact CW l _ _ _ _ _ _ _ e hk
     ·cases h
    |cons _ _=>cases h
   |_=>rw[hd]at h;cases h
def vA(S:Ic)(ns:Id)(b:DC)(Q:Ex->St->Prop):Ex->St->Prop
 | .normal,st=>b.wp S ns Q st
 |e,st=>Q e st
def NE(i:Nat)(Q:Ex->St->Prop):Ex->St->Prop
 | .exit j,st=>if j=i then Q .normal st else Q (.exit j) st
 |e,st=>Q e st
def rW:D->(A B:Prop)->Tag (A,B)->Prop
 | .bool b,A,B,_=>PO (b=true) A B .mk
 |_,_,_,_=>False
def NB{b:Bool}{A B:Prop}{t:Tag (A,B)}:rW (.bool b) A B t=PO (b=true) A B .mk:=rfl
variable{Q:Ex->St->Prop}{st:St}
def cM{b:DC}:vA S ns b Q .normal st=b.wp S ns Q st:=rfl
def aAO{b:DC}:vA S ns b Q .ret st=Q .ret st:=rfl
def uZ{b:DC}{i:Nat}:vA S ns b Q (.exit i) st=Q (.exit i) st:=rfl
def TC{i:Nat}:NE i Q .normal st=Q .normal st:=rfl
def nF{i:Nat}:NE i Q .ret st=Q .ret st:=rfl
theorem Fb{i j:Nat}:NE i Q (.exit j) st=if j=i then Q .normal st else Q (.exit j) st:=rfl
def aAs:DC.skip.wp S ns Q st=Q .normal st:=by
 apply propext;exact⟨λ⟨e,la,⟨u,q⟩,h⟩=>Yk,λh=>⟨_,_,⟨rfl,rfl⟩,h⟩⟩
def aFH:DC.ret.wp S ns Q st=Q .ret st:=by
 apply propext;exact⟨λ⟨e,la,⟨u,q⟩,h⟩=>Yk,λh=>⟨_,_,⟨rfl,rfl⟩,h⟩⟩
def aAu{i:Nat}:(DC.exit i).wp S ns Q st=Q (.exit i) st:=by
 apply propext;exact⟨λ⟨e,la,⟨u,q⟩,h⟩=>Yk,λh=>⟨_,_,⟨rfl,rfl⟩,h⟩⟩
def aFF{a b:DC}:(DC.seq a b).wp S ns Q st=a.wp S ns (vA S ns b Q) st:=by
 apply propext;constructor
 ·rintro⟨e,la,⟨e1,st1,h1,q⟩,h⟩;refine⟨e1,st1,h1,?_⟩;rcases q with ⟨rfl,q⟩|⟨f,rfl,rfl⟩
  ·exact⟨e,la,q,h⟩
  ·cases e with
   |normal=>exact absurd rfl f
   |ret=>exact h
   |exit i=>exact h
 ·rintro⟨e1,st1,h1,h⟩;cases e1 with
  |normal=>obtain⟨e,la,q,h⟩:=h;exact⟨e,la,⟨.normal,st1,h1,.inl ⟨rfl,q⟩⟩,h⟩
  |ret=>exact⟨.ret,st1,⟨.ret,st1,h1,.inr ⟨U,rfl,rfl⟩⟩,h⟩
  |exit i=>exact⟨.exit i,st1,⟨.exit i,st1,h1,.inr ⟨U,rfl,rfl⟩⟩,h⟩
def uG{i:Nat}{a:DC}(h:a.wp S ns (NE i Q) st):(DC.block i a).wp S ns Q st:=by
 obtain⟨e,la,u,h⟩:=h;cases e with
 |normal=>exact⟨_,la,⟨.normal,u,.inr ⟨U,rfl⟩⟩,h⟩
 |ret=>exact⟨_,la,⟨.ret,u,.inr ⟨U,rfl⟩⟩,h⟩
 |exit j=>
  by_cases y:j=i
  ·rw[Fb,if_pos y]at h;exact⟨_,la,⟨.exit j,u,.inl ⟨by rw[y],rfl⟩⟩,h⟩
  ·rw[Fb,if_neg y]at h;exact⟨_,la,⟨.exit j,u,.inr ⟨by simp[y],rfl⟩⟩,h⟩
def aAv{c:Ip}{a b:DC}(h:rW (c.ev st.s) (a.wp S ns Q st) (b.wp S ns Q st) .mk):(DC.cond c a b).wp S ns Q st:=by
 unfold rW at h;split at h
 ·rename_i t e;cases t with
  |true=>obtain⟨r,la,u,q⟩:=h.1 rfl;exact⟨r,la,.inl ⟨e,u⟩,q⟩
  |false=>obtain⟨r,la,u,q⟩:=h.2 U;exact⟨r,la,.inr ⟨e,u⟩,q⟩
 ·exact h.elim
def aFG{ops:List DOper}(h:CJ S ns st.c ops ops 0 st.s st.m λk s m=>Q .normal ⟨s,m,st.c+k⟩):(DC.row ops).wp S ns Q st:=by
 obtain⟨w,m',u,q⟩:=FN _ _ _ _ h;rw[QG]at q;exact⟨.normal,_,⟨rfl,u,rfl⟩,q⟩
def uF{ops:List DOper}{ps:List (Nat×Nat)}(h:CI S ns st.c ops ops 0 st.s st.m λk s m f=>AF (Nw f ps) (Q .normal ⟨s,m,st.c+k⟩) .mk):(DC.drawn ops ps).wp S ns Q st:=by
 obtain⟨w,m',f,u,q⟩:=Ep _ _ _ _ _ h;rw[QG]at q;exact⟨.normal,_,⟨rfl,⟨f,u,q.1⟩,rfl⟩,q.2⟩
def bQ{i:Nat}{a:DC}:(DC.block i a).wp S ns Q st=a.wp S ns (NE i Q) st:=by
 refine propext ⟨?_,uG⟩;rintro⟨e,st',⟨e1,h1,h2⟩,h⟩;refine⟨e1,st',h1,?_⟩;rcases h2 with ⟨rfl,rfl⟩|⟨f,rfl⟩
 ·grind [Fb]
 ·cases e with
  |normal=>exact h
  |ret=>exact h
  |exit j=>rw[Fb,if_neg (λx=>f (by rw[x]))];exact h
def iT{c:Ip}{a b:DC}:(DC.cond c a b).wp S ns Q st=rW (c.ev st.s) (a.wp S ns Q st) (b.wp S ns Q st) .mk:=by
 refine propext ⟨?_,aAv⟩;rintro⟨e,st',u,h2⟩;rcases u with ⟨r,u⟩|⟨r,u⟩
 ·rw[r,NB];exact Z0 (λ_=>⟨e,st',u,h2⟩) (λx=>absurd rfl x)
 ·rw[r,NB];exact Z0 (λ(x:false=true)=>absurd x Z) (λ_=>⟨e,st',u,h2⟩)
def uE{ops:List DOper}:(DC.row ops).wp S ns Q st=CJ S ns st.c ops ops 0 st.s st.m λk s m=>Q .normal ⟨s,m,st.c+k⟩:=by
 refine propext ⟨?_,aFG⟩;rintro⟨e,⟨s',m',c'⟩,⟨rfl,h1,h2⟩,h3⟩;refine DU _ _ _ _ _ _ h1 ?_;simp only at h2;rw[QG,←h2];exact h3
def bP{ops:List DOper}{ps:List (Nat×Nat)}:(DC.drawn ops ps).wp S ns Q st=CI S ns st.c ops ops 0 st.s st.m λk s m f=>AF (Nw f ps) (Q .normal ⟨s,m,st.c+k⟩) .mk:=by
 refine propext ⟨?_,uF⟩;rintro⟨e,⟨s',m',c'⟩,⟨rfl,⟨f,h1,hf⟩,h2⟩,h3⟩;refine CW _ _ _ _ _ _ _ _ h1 ⟨hf,?_⟩;simp only at h2;rw[QG,←h2];exact h3
def dO(S:Ic)(ns:Id)(c:DC)(Q:Ex->St->Prop):Ex->St->Prop
 | .normal,st=>(DC.loop c).wp S ns Q st
 |e,st=>Q e st
def A2(S:Ic)(ns:Id)(c:DC)(Q:Ex->St->Prop)(z:St)(_:Tag (S,ns,c,Q,z)):Prop:=(DC.loop c).wp S ns Q z
def iS{c:DC}:(DC.loop c).wp S ns Q st=A2 S ns c Q st .mk:=rfl
def VK{c:DC}:dO S ns c Q .normal st=(DC.loop c).wp S ns Q st:=rfl
def vV{c:DC}:dO S ns c Q .ret st=Q .ret st:=rfl
def kT{c:DC}{i:Nat}:dO S ns c Q (.exit i) st=Q (.exit i) st:=rfl
def aAt{c:DC}(h:c.wp S ns (dO S ns c Q) st):(DC.loop c).wp S ns Q st:=by
 obtain⟨e,la,u,h⟩:=h;cases e with
 |normal=>obtain⟨e2,pa,⟨n,q⟩,h⟩:=h;exact⟨e2,pa,⟨n+1,.more n _ _ _ _ u q⟩,h⟩
 |ret=>exact⟨.ret,la,⟨0,.stop _ _ _ u U⟩,h⟩
 |exit i=>exact⟨.exit i,la,⟨0,.stop _ _ _ u U⟩,h⟩
def NK{p:DC}{k:Ex->St->Prop}(h:p.wp S ns Q st)(s:∀e la,Q e la->k e la):p.wp S ns k st:=by
 obtain⟨e,la,u,q⟩:=h;exact⟨e,la,u,s _ _ q⟩
end
def uX{s:Nat->D}{t x:Nat}{d:D}:Ct s (some t) d x=if x=t then d else s x:=rfl
def uY{s:Nat->D}{d:D}:Ct s none d=s:=rfl
def bF{s:Nat->D}{n:Nat}:(Ip.t n).ev s=s n:=rfl
def bG{s:Nat->D}{d:D}:(Ip.c d).ev s=d:=rfl
end Go.Vd
end
