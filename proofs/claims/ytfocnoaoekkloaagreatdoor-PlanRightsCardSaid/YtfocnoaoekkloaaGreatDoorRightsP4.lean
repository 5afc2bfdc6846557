/-
  A part of the proof: the layers over the model. Nothing in it is assumed.
-/
import Derived.Test.YtfocnoaoekkloaaGreatDoorRightsP3
import Derived.Test.YtfocnoaoekkloaaGreatDoorProg
import Derived.Lib.AppendZeros
import Derived.WalkKit
import Derived.Shelf.Strings.OnBuilder
import Derived.Shelf.Strings.BuilderRune
import Derived.Shelf.Strings.BuilderF

set_option linter.unusedSimpArgs false
set_option linter.unusedVariables false
set_option linter.defProp false
set_option maxHeartbeats 4000000
set_option maxRecDepth 100000
open Nat renaming reduceEqDiff→Qa,le_of_ble_eq_true→Qb,reduceAdd→Qd,reduceLT→Qh,reduceLeDiff→Qi,zero_le→Qq,reduceSub→Qu,zero_add→QI,lt_or_eq_of_le→QK,le_refl→QM,le_of_lt_succ→QR,not_lt_zero→QX,succ_ne_zero→Q8,sub_self→Zk
open Go.Proofs.Tryz renaming prog→Qc
open Int renaming toNat_natCast→Qe,lt_irrefl→Qo,toNat_of_nonneg→Qr,tmod_eq_emod_of_nonneg→Q1,tdiv_eq_ediv_of_nonneg→Q2,reduceLE→Zl,reduceNe→Zm,le_refl→Zq
open List renaming getElem?_eq_getElem→Qf,length_map→Qg,length_cons→Qj,length_append→Qk,length_nil→Qm,take_of_length_le→Qt,length_eq_zero_iff→Qv,getElem?_cons_zero→Qw,append_assoc→Qx,append_nil→Qy,drop_eq_getElem_cons→QA,all_eq_true→QB,getElem_mem→QD,mem_map→QE,getElem?_append_right→QF,length_take→QG,cons_append→QH,map_congr_left→QJ,getElem?_cons_succ→QL,findIdx?_eq_some_iff_getElem→QN,take_zero→QO,take_succ_eq_append_getElem→QQ,take_add_one→QS,length_drop→QT,drop_length→QU,map_cons→QV,map_append→QW,take_succ_cons→QZ,getElem_of_mem→Q_,drop_zero→Q0,getElem?_eq_some_iff→Q3,mem_cons→Q6,mem_nil_iff→Q7,map_map→Q9,nil_append→Zb,foldl_cons→Zc,getElem?_eq_none→Zd,foldl_nil→Ze,drop_succ_cons→Zf,length_pos_iff→Zg,any_map→Zj,map_nil→Zn,getD→Zo,length→Zp
open Bool renaming false_eq_true→Ql,false_ne_true→Qz,false_or→Zh
open Option.some renaming injEq→Qn
open List.cons renaming injEq→Qp
open Option renaming map_some→Qs,bind_some→QC,map_eq_some_iff→Za,isSome_some→Zi
open Prod renaming ext→QP
open Array renaming getElem?_setIfInBounds→QY,size_append→Q4
open Prod.mk renaming injEq→Q5
open Go.Proofs.Tryz
noncomputable section
namespace Go.Vd
open Go.Proofs
def dc257:DC:=(sr [ci 2 0] (.seq (sr [mm 3 0] (cd 3 (sr [ci 2 0] .ret) .skip)) (sr [ci 2 4] .ret)))
def fn257:Fn Qc 257 4 dc257 [.t 2]:=Am func257
def dc258:DC:=(sr [cb 2 false] (sr [mm 3 0,oo 4 (.build [zu,zs,zi] [(0,1,(.c (.int .u8 3))),(1,1,(.t 3))]),c1 5 98 4,bi 6 .eql 5 0,mm 2 6] .ret))
def fn258:Fn Qc 258 7 dc258 [.t 2]:=Am func258
def dc260:DC:=(sr [cb 2 false] (sr [mm 3 0,nn 4 false 3,bi 5 .leq 4 6,mm 6 5,gm 7 0 3 true,gc 8 343 [(.t 7),(.c (.fn 344 []))] 3 true,og 9 (.un .not (.t 8)) 3 true,pa 10 6 9,mm 2 10] .ret))
def fn260:Fn Qc 260 11 dc260 [.t 2]:=Am func260
def dc261l0:DC:=(sr [bt 14 .lss 13 12] (.seq (cd 14 .skip (.exit 0)) (.seq (.block 1 (sr [mm 15 13,mm 5 15] (.seq (.drawn [mm 16 0,mm 17 5,ii 18 1 16 17,ll 19 18,mm 20 1,mm 21 5,ii 22 1 20 21,ll 23 22,bt 24 .neq 19 23] []) (cd 24 (sr [cb 4 false] .ret) .skip)))) (.row [bi 25 .add 13 1,mm 13 25]))))
def dc261:DC:=(sr [cb 4 false] (.seq (sr [mm 6 0,nn 7 false 6,mm 8 1,nn 9 false 8,bt 10 .neq 7 9] (cd 10 (sr [cb 4 false] .ret) .skip)) (.seq (sr [mm 11 0,nn 12 false 11,ci 13 0] (.block 0 (.loop dc261l0))) (sr [cb 4 true] .ret))))
def fn261:Fn Qc 261 26 dc261 [.t 4]:=Am func261
def dc347:DC:=(sr [cs 2 []] (.seq (sr [mm 3 0,bs 4 .eql 3 []] (cd 4 (sr [cs 2 [45]] .ret) .skip)) (sr [mm 5 0,mm 2 5] .ret)))
def fn347:Fn Qc 347 6 dc347 [.t 2]:=Am func347
def dc346l0:DC:=(.seq (sr [mm 11 0,bi 12 .gtr 11 0] (cd 12 .skip (.exit 0))) (.seq (.block 1 (.row [mm 15 0,bi 16 .rem 15 10,oo 17 (.idxs (.c (.str [48,49,50,51,52,53,54,55,56,57,97,98,99,100,101,102])) (.t 16)),bl 18 5 1 17,oo 19 (.b2s (.t 18)),mm 20 3,bt 21 .add 19 20,mm 3 21])) (.row [mm 13 0,bi 14 .quo 13 10,mm 0 14])))
def dc346:DC:=(sr [cs 2 []] (sr [mm 4 0,bi 5 .rem 4 10,oo 6 (.idxs (.c (.str [48,49,50,51,52,53,54,55,56,57,97,98,99,100,101,102])) (.t 5)),bl 7 5 1 6,oo 8 (.b2s (.t 7)),mm 3 8] (.seq (sr [mm 9 0,bi 10 .quo 9 10,mm 0 10] (.block 0 (.loop dc346l0))) (sr [mm 22 3,mm 2 22] .ret))))
def fn346:Fn Qc 346 23 dc346 [.t 2]:=Am func346
def dc262:DC:=(sr [cb 4 false] (sr [mm 5 0,mm 6 1,c2 7 345 5 6,mm 4 7] .ret))
def fn262:Fn Qc 262 8 dc262 [.t 4]:=Am func262
def dc345l0:DC:=(sr [bt 14 .lss 13 12] (.seq (cd 14 .skip (.exit 0)) (.seq (.block 1 (sr [mm 15 13,mm 5 15] (.seq (.drawn [mm 16 0,mm 17 5,ii 18 2 16 17,lk 19 2 18,mm 20 1,mm 21 5,ii 22 2 20 21,lk 23 2 22,oo 24 (.seq true [(2,0),(0,1)] (.t 19) (.t 23))] []) (cd 24 (sr [cb 4 false] .ret) .skip)))) (.row [bi 25 .add 13 1,mm 13 25]))))
def dc345:DC:=(sr [cb 4 false] (.seq (sr [mm 6 0,nn 7 false 6,mm 8 1,nn 9 false 8,bt 10 .neq 7 9] (cd 10 (sr [cb 4 false] .ret) .skip)) (.seq (sr [mm 11 0,nn 12 false 11,ci 13 0] (.block 0 (.loop dc345l0))) (sr [cb 4 true] .ret))))
def fn345:Fn Qc 345 26 dc345 [.t 4]:=Am func345
def dc317l0:DC:=(sr [bt 14 .lss 13 12] (.seq (cd 14 .skip (.exit 0)) (.seq (.block 1 (sr [ii 15 1 11 13,ll 16 15,mm 5 16] (.drawn [mm 17 3,mm 18 5,oo 19 (.bin .shr (.t 18) (.c (.int .u64 4))),oo 20 (.idxs (.c (.str [48,49,50,51,52,53,54,55,56,57,97,98,99,100,101,102])) (.t 19)),mm 21 5,bu 22 .and 21 15,oo 23 (.idxs (.c (.str [48,49,50,51,52,53,54,55,56,57,97,98,99,100,101,102])) (.t 22)),oo 24 (.bslice 5 1 [(.t 20),(.t 23)]),ap 25 5 1 1 17 24,mm 3 25] []))) (.row [bi 26 .add 13 1,mm 13 26]))))
def dc317:DC:=(sr [cs 2 []] (sr [mm 6 0,nn 7 true 6,oo 8 (.bin .mul (.c (.int .i64 2)) (.t 7)),oo 9 (.mksl 5 1 1 (.int .u8 0) (.c (.int .i64 0)) (.t 8)),mm 3 9] (.seq (sr [mm 10 0,oo 11 (.s2b (.t 10)),nn 12 false 11,ci 13 0] (.block 0 (.loop dc317l0))) (sr [mm 27 3,oo 28 (.b2s (.t 27)),mm 2 28] .ret))))
def fn317:Fn Qc 317 29 dc317 [.t 2]:=Am func317
def dc348l0:DC:=(sr [bt 12 .lss 11 10] (.seq (cd 12 .skip (.exit 0)) (.seq (.block 1 (sr [mm 13 11,ii 14 1 9 11,ll 15 14,mm 4 13,mm 5 15] (.row [mm 16 3,mm 17 4,mm 18 5,c1 19 346 18,ii 20 1 16 17,st 1 20 19]))) (.row [bi 21 .add 11 1,mm 11 21]))))
def dc348:DC:=(sr [cs 2 []] (sr [mm 6 0,nn 7 false 6,oo 8 (.mksl 9 1 16 (.str []) (.t 7) (.t 7)),mm 3 8] (.seq (sr [mm 9 0,nn 10 false 9,ci 11 0] (.block 0 (.loop dc348l0))) (sr [mm 22 3,cc 23 221 [(.t 22),(.c (.str [44]))],mm 2 23] .ret))))
def fn348:Fn Qc 348 24 dc348 [.t 2]:=Am func348
def dc232l0:DC:=(sr [bt 19 .lss 18 17] (.seq (cd 19 .skip (.exit 0)) (.seq (.block 1 (sr [mm 20 18,ii 21 2 16 18,lk 22 2 21,al 7 [zs,zu],mm 6 20,st 2 7 22] (.drawn [mm 23 5,mm 24 6,ff 25 0 7,ll 26 25,bs 27 .add 26 [58],ff 28 1 7,ll 29 28,c1 30 328 29,bt 31 .add 27 30,ii 32 1 23 24,st 1 32 31] [(7,3)]))) (.row [bi 33 .add 18 1,mm 18 33]))))
def dc232:DC:=(sr [cs 2 [],ci 3 0] (.seq (sr [mm 8 0,c1 9 214 8,mm 4 9] (sr [mm 10 4,bi 11 .neq 10 0] (cd 11 (sr [mm 12 4,cs 2 [],mm 3 12] .ret) .skip))) (sr [mm 13 0,nn 14 false 13,oo 15 (.mksl 9 1 16 (.str []) (.t 14) (.t 14)),mm 5 15] (.seq (sr [mm 16 0,nn 17 false 16,ci 18 0] (.block 0 (.loop dc232l0))) (sr [mm 34 5,cc 35 221 [(.t 34),(.c (.str [44]))],mm 2 35,ci 3 0] .ret)))))
def fn232:Fn Qc 232 36 dc232 [.t 2,.t 3]:=Am func232
end Go.Vd
namespace Go.Vd
open Go.Proofs Go.RowKit
structure Ak where
 op:Int
 tk:Bs
 pa:Bs
 ot:Bs
 n:Int
 cas:Int
 fl:Bool
 nln:Bool
 ns:List Int
 da:Bs
 nlr:Bool
 rs:List Rl
 key:Bs
def AS(l:List Int):List D:=l.map (.int .i64)
def B2(l:List Int):(AS l).length=l.length:=Qg ..
def intsD_inj:∀{a b:List Int},AS a=AS b->a=b
 |[],[],_=>rfl
 |[],_::_,h=>by simp[AS]at h
 |_::_,[],h=>by simp[AS]at h
 |x::a,y::b,h=>by
  simp only[AS,QV,Qp,D.int.injEq,true_and]at h;rw[h.1,intsD_inj (a:=a) (b:=b) h.2]
def intsD_el(l:List Int):(AS l).all (elB none)=true:=by rw[QB];intro x hx;obtain⟨y,_,rfl⟩:=QE.1 hx;rfl
def rlsD_inj{a b:List Rl}(h:An a=An b):a=b:=by rw[←AN a,h,AN]
def mtsD_inj{a b:List Mt}(h:Ar a=Ar b):a=b:=by rw[←Bh a,h,Bh]
def tksD_inj{a b:List Tk}(h:Aw a=Aw b):a=b:=by rw[←Bd a,h,Bd]
def akC(a:Ak):List D:=[.int .u8 a.op,.str a.tk,.str a.pa,.str a.ot,.int .i64 a.n,.int .i64 a.cas,.bool a.fl,.slice a.nln [] (AS a.ns),.str a.da,.slice a.nlr [] (An a.rs),.str a.key]
def akD(a:Ak):D:= .agg (akC a)
def Eo{a b:Ak}(h:akD a=akD b):a=b:=by
 cases a;cases b;simp only[akD,akC,D.agg.injEq,Qp,D.int.injEq,D.str.injEq,D.bool.injEq,D.slice.injEq,true_and,and_true]at h;obtain⟨h1,h2,h3,h4,h5,h6,h7,⟨h8,h9⟩,h10,⟨h11,h12⟩,h13⟩:=h;have e9:=intsD_inj h9;have e12:=rlsD_inj h12;subst h1 h2 h3 h4 h5 h6 h7 h8 h10 h11 h13 e9 e12;rfl
def E8(b:Bool):Int:=if b=true then 0 else 4
def F257:List D->Option D:=FX (λb:Bool=>[.bool b]) (λ_=>True) (λb=> .int .i64 (E8 b))
def F257_eq(b:Bool):F257 [.bool b]=some (.int .i64 (E8 b)):=BB (mk:=λb:Bool=>[.bool b]) (λa b h=>by simpa using h) trivial
def ok257:(Ac F257).ok Qc 257:=by
 refine BM (S:=λ_=>none) AL fn257 (λ_=>by simp) (λb _=>?_);unfold dc257;cases b<;>simp only[↓go1,gB3,reduceIte,Qa,Qd]
 all_goals first|rfl|exact⟨rfl,rfl⟩
def F258:List D->Option D:=FX (λs:Bs=>[.str s]) (λs=>s.length<=1000000) (λs=> .bool (BD s))
def F258_eq{s:Bs}(h:s.length<=1000000):F258 [.str s]=some (.bool (BD s)):=BB (mk:=λs:Bs=>[.str s]) (λa b h=>by simpa using h) h
def ok258:(Ac F258).ok Qc 258:=by
 obtain⟨S,hS,hl⟩:=A7 (Ab ok98 Ad);have s98:=hl 98 _ rfl;clear hl;refine BM hS fn258 (λ_=>by simp) (λs hs=>?_);have h98:F98 [.agg [.int .u8 3,.str s,.int .i64 0]]=some (.int .i64 (DT 3 s 0)):=if_pos hs;have hr:DT 3 s 0=if BD s=true then 0 else 2:=by simp[DT]
 rw[hr]at h98;unfold dc258;cases hn:BD s<;>rw[hn]at h98<;>simp only[if_true,Ql,if_false]at h98
 ·simp only[↓go1,gB2,go4,reduceIte,Qa,Qd,Aa s98,h98,BK,C5,Qi,and_self,QZ,QO,Q0,Zf]
  all_goals first|rfl|exact⟨rfl,rfl⟩
 ·simp only[↓go1,gB2,go4,reduceIte,Qa,Qd,Aa s98,h98,BK,C5,Qi,and_self,QZ,QO,Q0,Zf]
  all_goals first|rfl|exact⟨rfl,rfl⟩
def countB(l:List Int):Bool:=decide (l.length<=6)&&!(l.any λx=>!decide (1<=x∧x<=999))
def F260:List D->Option D:=FX (λp:Bool×List Int=>[.slice p.1 [] (AS p.2)]) (λp=>p.2.length<=1000000) (λp=> .bool (countB p.2))
def F260_eq{nl:Bool}{l:List Int}(h:l.length<=1000000):F260 [.slice nl [] (AS l)]=some (.bool (countB l)):=
 BB (mk:=λp:Bool×List Int=>[.slice p.1 [] (AS p.2)]) (a:=(nl,l)) (λa b h=>by
  simp only[Qp,D.slice.injEq,true_and,and_true]at h;exact QP h.1 (intsD_inj h.2)) h
def cn343_ex{l:List Int}{nl:Bool}{t:Id}(hl:l.length<=1000000)(m:Mem)(fr:Id):
  (cnS 344 none K344).ex [.slice nl t (AS l),.fn 344 []] m fr=some (.bool (l.any λx=>!decide (1<=x∧x<=999)),[]):=by
 have e:(AS l).map (K344 .junk)=(l.map λx=>!decide (1<=x∧x<=999)).map λb=>some (.bool b):=by
  simp only[AS,Q9];exact QJ λr _=>rfl
 simp only[cnS,B2,hl,intsD_el,and_self,if_true,Fl,QC,e,Dc,Qs,Zj];rfl
def ok260:(Ac F260).ok Qc 260:=by
 obtain⟨S,hS,hl⟩:=A7 (Ab cn343 Ad);have s343:=hl 343 _ rfl;clear hl;refine BM hS fn260 (λ_=>by simp) (λp hs=>?_);obtain⟨nl,l⟩:=p;have h343:=cn343_ex (nl:=nl) (t:=[]) hs;unfold dc260 countB;simp only;generalize (l.any λx=>!decide (1<=x∧x<=999))=b at h343;by_cases h6:l.length<=6
 ·have h6':((l.length:Int)<=6):=by omega
  simp only[↓go1,gB3,reduceIte,Qa,Qd,Ag s343,h343,h6,h6',B2]
  all_goals first|rfl|exact⟨rfl,rfl⟩
 ·have h6':¬((l.length:Int)<=6):=by omega
  simp only[↓go1,gB3,reduceIte,Qa,Qd,h6,h6',B2,Bool.false_and,and_self]
  all_goals first|rfl|exact⟨rfl,rfl⟩
def F261:List D->Option D:=FX (λp:Bool×List D×Bool=>[.slice p.1 [] p.2.1,.slice p.2.2 [] []]) (λp=>p.2.1.length<=1000000) (λp=> .bool p.2.1.isEmpty)
def F261_eq{nl nl':Bool}{l:List D}(h:l.length<=1000000):F261 [.slice nl [] l,.slice nl' [] []]=some (.bool l.isEmpty):=
 BB (mk:=λp:Bool×List D×Bool=>[.slice p.1 [] p.2.1,.slice p.2.2 [] []]) (a:=(nl,l,nl')) (λa b h=>by
  simp only[Qp,D.slice.injEq,true_and,and_true]at h;exact QP h.1.1 (QP h.1.2 h.2)) h
def ok261:(Ac F261).ok Qc 261:=by
 refine BM (S:=λ_=>none) AL fn261 (λ_=>by simp) (λp hs=>?_);obtain⟨nl,l,nl'⟩:=p;unfold dc261;cases l with
 |nil=>
  simp only[↓go1,go2,go4,reduceIte,Qa,Qd,Qm];have h00:((0:Int)<((0:Nat):Int))=False:=by simp
  refine Ae dc261l0.eq_1 ?_;simp only[↓go1,gB3,reduceIte,Qa,Qd,h00]
  all_goals first|rfl|exact⟨rfl,rfl⟩
 |cons x r=>
  have hne:(((r.length+1:Nat):Int)=((0:Nat):Int))=False:=eq_false (by omega);simp only[↓go1,gB3,reduceIte,Qa,Qd,Qj,Qm,hne]
  all_goals first|rfl|exact⟨rfl,rfl⟩
def ok345:(Ac F261).ok Qc 345:=by
 refine BM (S:=λ_=>none) AL fn345 (λ_=>by simp) (λp hs=>?_);obtain⟨nl,l,nl'⟩:=p;unfold dc345;cases l with
 |nil=>
  simp only[↓go1,go2,go4,reduceIte,Qa,Qd,Qm];have h00:((0:Int)<((0:Nat):Int))=False:=by simp
  refine Ae dc345l0.eq_1 ?_;simp only[↓go1,gB3,reduceIte,Qa,Qd,h00]
  all_goals first|rfl|exact⟨rfl,rfl⟩
 |cons x r=>
  have hne:(((r.length+1:Nat):Int)=((0:Nat):Int))=False:=eq_false (by omega);simp only[↓go1,gB3,reduceIte,Qa,Qd,Qj,Qm,hne]
  all_goals first|rfl|exact⟨rfl,rfl⟩
structure LG (c0:Nat) (m0:Mem) (e:Nat) (m:Mem) (c:Nat) (nl:Bool) (t:Id):Prop where
 low:∀q o,q<c0->m [q] o=m0 [q] o
 tok:nl=true∨∃j,t=[j]∧c0<=j∧j<c∧m t 0=some (.tok (e+1))
 le:c0<=c
section
variable{c0 e c c' c2 o:Nat}{m0 m:Mem}{nl:Bool}{t:Id}{ds xs:List D}
def LG.start(h:c0<=c):LG c0 m0 e m0 c true t:=⟨λ_ _ _=>rfl,.inl rfl,h⟩
def LG.put(h:LG c0 m0 e m c nl t)(hc:c<=c'):LG c0 m0 e (m.put [c'] o ds) c nl t:=by
 obtain⟨h1,h2,h3⟩:=h;refine⟨λq o' hq=>?_,?_,h3⟩
 ·rw[Mem.put_other (by simp;omega)];exact h1 q o' hq
 ·rcases h2 with h2|⟨j,rfl,a,b,d⟩
  ·exact .inl h2
  ·exact .inr ⟨j,rfl,a,b,by rw[Mem.put_other (by simp;omega)];exact d⟩
def LG.more(h:LG c0 m0 e m c nl t)(hc:c<=c'):LG c0 m0 e m c' nl t:=by
 obtain⟨h1,h2,h3⟩:=h;refine⟨h1,?_,by omega⟩;rcases h2 with h2|⟨j,a,b,b',d⟩
 ·exact .inl h2
 ·exact .inr ⟨j,a,b,by omega,d⟩
def LG.grow(h:LG c0 m0 e m c nl t):Grow m e (.slice nl t xs):=by
 rcases h.tok with h|⟨j,rfl,_,_,d⟩
 ·exact .inl h
 ·exact .inr ⟨d,by simp⟩
def LG.app(h:LG c0 m0 e m c nl t)(hc:c<=c')(h2:c'<c2):LG c0 m0 e (Upd.app m (Bg e [c'] (.slice nl t xs))) c2 false [c']:=by
 obtain⟨h1,ht,h3⟩:=h;refine⟨λq o hq=>?_,.inr ⟨c',rfl,by omega,h2,?_⟩,by omega⟩
 ·rw[CQ,if_neg (by simp;omega)];rcases ht with rfl|⟨j,rfl,a,b,d⟩
  ·rw[if_neg (by simp)];exact h1 q o hq
  ·rw[if_neg (by simp;omega)];exact h1 q o hq
 ·rw[CQ,if_pos ⟨rfl,rfl⟩]
def LG.appf(h:LG c0 m0 e m c false t)(hc:c<=c')(h2:c'<c2):LG c0 m0 e ((m.put t 0 [.tok 0]).put [c'] 0 [.tok (e+1)]) c2 false [c']:=LG.app (xs:=[]) h hc h2
def LG.nil(h:LG c0 m0 e m c nl t):LG c0 m0 e (Upd.app m []) c nl t:=h
def LG.rd(h:LG c0 m0 e m c nl t){q p n:Nat}(hq:q<c0):Ah m [q] p n=Ah m0 [q] p n:=by
 have:∀n p,Ah m [q] p n=Ah m0 [q] p n:=by
  intro n;induction n with
  |zero=>intro p;rfl
  |succ n ih=>intro p;simp only[Ah,h.low q p hq,ih]
 exact this n p
end
def rwsD_hd(l:List Rw):D.headSz (A6 l) 3=3:=by cases l<;>rfl
def intsD_len'(l:List Int):(AS l).length=l.length:=Qg ..
def capV_int{m:Mem}{caps:List D}{k:IntKind}{n:Int}(h:Fl m caps=some (.int k n)):∃i,caps=[.ptr i 0]∧m i 0=some (.int k n):=by
 unfold Fl at h;split at h
 ·simp at h
 ·rename_i i;exact⟨i,rfl,h⟩
 ·cases h
def K337:D->D->Option D
 | .int .i64 n,.agg [.int .i64 a,.bool _,.bool _]=>some (.bool (decide (a=n)))
 |_,_=>none
def clo337:(cloS K337).ok Qc 337:=by
 refine clo_ok (S:=λ_=>none) AL fn337 (λx caps m fr c d hcap hF hfr hl=>⟨by omega,?_⟩);unfold K337 at hF;split at hF
 ·simp only[Qn]at hF;subst hF;obtain⟨i,rfl,hm⟩:=capV_int hcap;have hi:i≠0::fr:=by rintro rfl;have:=hfr 0 (0::fr) 0 (List.suffix_refl _);rw[hm]at this;cases this
  unfold dc337;simp only[↓go1,gB3,go5,simprocAttr,hm,hi];intro i o y h;split
  ·rename_i e;rw[e.1,hfr 0 _ o (List.suffix_refl _)]at h;cases h
  ·exact h
 ·cases hF
def fn336:Fn Qc 336 19 (dcI 3 (some 3)) [.t 4]:=⟨f336,_,func336,rfl,by kernel_rfl,rfl,by kernel_rfl,by kernel_rfl⟩
def idx336:(EO 337 (some 3) K337).ok Qc 336:=idx_ok (by omega) fn336 rfl clo337
def placeR(l:List Rw)(n:Int):Int:=Bb (l.map λr=>decide (r.1=n))
def idx336_ex{l:List Rw}{nl:Bool}{t:Id}(hl:l.length<=1000000){n:Int}(m:Mem)(fr i:Id)(hm:m i 0=some (.int .i64 n)):
  (EO 337 (some 3) K337).ex [.slice nl t (A6 l),.fn 337 [.ptr i 0]] m fr=some (.int .i64 (placeR l n),[]):=by
 have e:(A6 l).map (K337 (.int .i64 n))=(l.map λr=>decide (r.1=n)).map λb=>some (.bool b):=by
  simp only[A6,Q9];exact QJ λr _=>rfl
 have he:(A6 l).all (elB (some 3))=true:=by
  rw[QB];intro x hx;obtain⟨r,_,rfl⟩:=QE.1 hx;rfl
 simp only[EO,AU,hl,he,and_self,if_true,Fl,hm,QC,e,Dc,Qs];rfl
def FL(s:Sc)(n:Int):Int:=if n=0 then(s.rs.length:Int)-1 else placeR s.rs n
def S242:Summs:=AC [(336,EO 337 (some 3) K337)]
def R242:List D->Option D:=RF S242 dc242 [.t 4] 15
def ko242:(Ac R242).ok Qc 242:=AH fn242 (Ab idx336 Ad)
def R242_eq(s:Sc)(n:Int)(hl:s.rs.length<=1000):R242 [.agg (scC s),.int .i64 n]=some (.int .i64 (FL s n)):=by
 refine AE (Qb rfl) ?_;have s336:S242 336=some (EO 337 (some 3) K337):=rfl;unfold dc242;have hn:IntKind.i64.wrap ((s.rs.length:Int)-1)=(s.rs.length:Int)-1:=w64 (by omega) (by omega);unfold FL scC;by_cases c1:n=0
 ·simp only[↓go1,gB3,go5,simprocAttr,c1,hn,AU]
  all_goals first|rfl|exact⟨rfl,rfl⟩|simp[*]
 ·simp only[↓go1,gB3,go5,simprocAttr,c1,Ag s336,idx336_ex (n:=n) (show s.rs.length<=1000000 by omega)]
  all_goals first|rfl|exact⟨rfl,rfl⟩|simp[*]
def rw0:Rw:=(0,false,false)
def readS(s:Sc)(n:Int):Rw×Int:=if Dx s 6=true then(rw0,2)else if FL s n<0 then(rw0,6)else
 if((s.rs.getD (FL s n).toNat rw0).2.1||(s.rs.getD (FL s n).toNat rw0).2.2)=true then(s.rs.getD (FL s n).toNat rw0,21)else(s.rs.getD (FL s n).toNat rw0,0)
def placeR_lt(l:List Rw)(n:Int):placeR l n<l.length:=by
 unfold placeR Bb;split
 ·rename_i k h;rw[QN]at h;obtain⟨hk,_⟩:=h;rw[Qg]at hk;omega
 ·omega
def findS_lt(s:Sc)(n:Int):FL s n<s.rs.length:=by
 unfold FL;split
 ·omega
 ·exact placeR_lt _ _
def S136:Summs:=AC [(191,Ac Gk),(241,Ac R241),(242,Ac R242)]
def R136:List D->Option D:=RF S136 dc136 [.cell (some 3) 4,.t 5] 32
def ko136:(Ac R136).ok Qc 136:=AH fn136 (Ab ko191 (Ab ko241 (Ab ko242 Ad)))
def R136_eq(s:Sc)(n:Int)(hl:s.rs.length<=1000):R136 [.agg (scC s),.int .i64 n]=some (.tup [rwD (readS s n).1,.int .i64 (readS s n).2]):=by
 refine AE (Qb rfl) ?_;have s241:S136 241=some (Ac R241):=rfl;have s242:S136 242=some (Ac R242):=rfl;unfold dc136;have h191:=Gj s 6 false hl;have h241:=R241_eq;have h242:=R242_eq s n hl;have hlt:=findS_lt s n;unfold readS;unfold secE at h191;unfold scC at h191 h242 ⊢;generalize FL s n=i at h242 hlt;cases hb:Dx s 6 with
 |true=>
  rw[hb]at h191;simp only[if_true]at h191;simp only[↓go1,gB3,go5,simprocAttr,Al S136 191,h191,Aa s241,h241]
  (refine Ao.intro (Aj ?_) ?_;first|rfl|simp[A5,AM,rds,Ai,Ac])
  simp only[↓go1,gB3,go5,simprocAttr]
  all_goals first|rfl|exact⟨rfl,rfl⟩|simp[*]
 |false=>
  rw[hb]at h191;simp only[if_false,Ql]at h191;simp only[↓go1,gB3,go5,simprocAttr,Al S136 191,h191,Aa s241,h241]
  (refine Ao.intro (Aj ?_) ?_;first|rfl|simp[A5,AM,rds,Ai,Ac])
  by_cases c1:i<0
  ·simp only[↓go1,gB3,go5,simprocAttr,Aa s242,h242,c1]
   all_goals first|rfl|exact⟨rfl,rfl⟩|simp[*]
  ·have c1':0<=i:=by omega
   have hj:i.toNat<s.rs.length:=by omega
   have hat:=EW hj;have hg:s.rs.getD i.toNat rw0=s.rs[i.toNat]:=by simp[Zo,Qf hj]
   rw[hg];generalize s.rs[i.toNat]=x at hat;obtain⟨a,g,d⟩:=x;simp only at hat;cases g with
   |true=>
    simp only[↓go1,gB3,go5,simprocAttr,Aa s242,h242,c1,c1',hat]
    all_goals first|rfl|exact⟨rfl,rfl⟩|simp[*]
   |false=>
    cases d with
    |true=>
     simp only[↓go1,gB3,go5,simprocAttr,Aa s242,h242,c1,c1',hat]
     all_goals first|rfl|exact⟨rfl,rfl⟩|simp[*]
    |false=>
     simp only[↓go1,gB3,go5,simprocAttr,Aa s242,h242,c1,c1',hat]
     all_goals first|rfl|exact⟨rfl,rfl⟩|simp[*]
def refE(s:Sc)(q:Int)(b:Bool)(cas size:Int):Int:=if Dx s q=true∨cas< -1∨size<0 then 2 else if 96<size then 18 else if cas=-1∧(s.cas=true∨b=true)then 17 else if cas≠-1∧cas≠s.la then 16 else if s.la=30 then 19 else 0
def S338:Summs:=AC [(191,Ac Gk)]
def R338:List D->Option D:=RF S338 dc338 [.t 8] 49
def ko338:(Ac R338).ok Qc 338:=AH fn338 (Ab ko191 Ad)
def R338_eq(s:Sc)(q:Int)(b:Bool)(cas size:Int)(hl:s.rs.length<=1000):R338 [.agg (scC s),.agg [.int .i64 q,.bool b],.int .i64 cas,.int .i64 size]=some (.int .i64 (refE s q b cas size)):=by
 refine AE (Qb rfl) ?_;unfold dc338;have h191:=Gj s q b hl;unfold refE;unfold secE at h191;unfold scC at h191 ⊢;generalize Dx s q=bad at h191;cases bad with
 |true=>
  simp only[if_true]at h191;simp only[↓go1,gB3,go5,simprocAttr,Al S338 191,h191,ne_eq]
  all_goals first|rfl|exact⟨rfl,rfl⟩|simp[*]
 |false=>
  simp only[if_false,Ql]at h191;by_cases c1:cas< -1
  ·simp only[↓go1,gB3,go5,simprocAttr,Al S338 191,h191,ne_eq,c1]
   all_goals first|rfl|exact⟨rfl,rfl⟩|simp[*]
  by_cases c2:size<0
  ·simp only[↓go1,gB3,go5,simprocAttr,Al S338 191,h191,ne_eq,c1,c2]
   all_goals first|rfl|exact⟨rfl,rfl⟩|simp[*]
  by_cases c3:96<size
  ·simp only[↓go1,gB3,go5,simprocAttr,Al S338 191,h191,ne_eq,c1,c2,c3]
   all_goals first|rfl|exact⟨rfl,rfl⟩|simp[*]
  by_cases c4:cas=-1
  ·have c4':(cas=-1)=True:=eq_true c4;cases h1:s.cas with
   |true=>
    rw[h1]at h191;simp only[↓go1,gB3,go5,simprocAttr,Al S338 191,h191,ne_eq,c1,c2,c3,c4']
    all_goals first|rfl|exact⟨rfl,rfl⟩|simp[*]
   |false=>
    rw[h1]at h191;cases b with
    |true=>
     simp only[↓go1,gB3,go5,simprocAttr,Al S338 191,h191,ne_eq,c1,c2,c3,c4']
     all_goals first|rfl|exact⟨rfl,rfl⟩|simp[*]
    |false=>
     by_cases c6:s.la=30
     ·have c6':(s.la=30)=True:=eq_true c6;simp only[↓go1,gB3,go5,simprocAttr,Al S338 191,h191,ne_eq,c1,c2,c3,c4',c6']
      all_goals first|rfl|exact⟨rfl,rfl⟩|simp[*]
     ·have c6':(s.la=30)=False:=eq_false c6;simp only[↓go1,gB3,go5,simprocAttr,Al S338 191,h191,ne_eq,c1,c2,c3,c4',c6']
      all_goals first|rfl|exact⟨rfl,rfl⟩|simp[*]
  ·have c4':(cas=-1)=False:=eq_false c4;by_cases c5:cas=s.la
   ·have c5':(cas=s.la)=True:=eq_true c5;by_cases c6:s.la=30
    ·have c6':(s.la=30)=True:=eq_true c6;simp only[↓go1,gB3,go5,simprocAttr,Al S338 191,h191,ne_eq,c1,c2,c3,c4',c5',c6']
     all_goals first|rfl|exact⟨rfl,rfl⟩|simp[*]
    ·have c6':(s.la=30)=False:=eq_false c6;simp only[↓go1,gB3,go5,simprocAttr,Al S338 191,h191,ne_eq,c1,c2,c3,c4',c5',c6']
     all_goals first|rfl|exact⟨rfl,rfl⟩|simp[*]
   ·have c5':(cas=s.la)=False:=eq_false c5;simp only[↓go1,gB3,go5,simprocAttr,Al S338 191,h191,ne_eq,c1,c2,c3,c4',c5']
    all_goals first|rfl|exact⟨rfl,rfl⟩|simp[*]
def S339:Summs:=AC []
def R339:List D->Option D:=RF S339 dc339 [.t 2] 8
def ko339:(Ac R339).ok Qc 339:=AH fn339 Ad
def R339_eq{nl:Bool}{l:List Rw}(hl:l.length<=100000)(hn:nl=true->l=[]):R339 [.slice nl [] (A6 l)]=some (.slice nl [] (A6 l)):=by
 refine AE (Qb rfl) ?_;unfold dc339;cases nl with
 |true=>
  rw[hn rfl];simp only[↓go1,go2,go3,go5,simprocAttr]
  all_goals first|rfl|exact⟨rfl,rfl⟩|simp[*]
 |false=>
  simp only[↓go1,go2,go4,go5,simprocAttr];refine Ao.intro ⟨by rw[AU];omega,rwsD_hd l,.inr ⟨rfl,by simp⟩⟩ ?_;simp only[↓go1,gB3,go5,simprocAttr]
def C7(s:Sc)(q:Int):Nat:=s.rs.length-(B1 s q).toNat
def fewS(s:Sc)(q:Int):Sc:={s with rs:=s.rs.drop (C7 s q)}
def fewL(s:Sc)(q:Int):List Int:=(s.rs.take (C7 s q)).map (·.1)
def S247:Summs:=AC [(294,Ac R294),(339,Ac R339)]
def R247:List D->Option D:=RF S247 dc247 [.cell (some 4) 4,.t 5] 41
def ko247:(Ac R247).ok Qc 247:=AH fn247 (Ab ko294 (Ab ko339 Ad))
def R247_eq(s:Sc)(q:Int)(b:Bool)(hl:s.rs.length<=1000)(hk:0<=B1 s q∧B1 s q<=1000)(hnl:s.nl=true->s.rs=[]):R247 [.agg (scC s),.agg [.int .i64 q,.bool b]]=some (.tup [.agg (scC (fewS s q)),.slice (decide (C7 s q=0)) [] (AS (fewL s q))]):=by
 refine AE (Qb rfl) ?_;have s339:S247 339=some (Ac R339):=rfl;unfold dc247;have h294:=R294_eq s q b;have h339:=R339_eq (nl:=s.nl) (l:=s.rs.drop (C7 s q)) (by rw[QT];omega) (λh=>by rw[hnl h,List.drop_nil]);have hw:IntKind.i64.wrap ((s.rs.length:Int)-B1 s q)=(s.rs.length:Int)-B1 s q:=w64 (by omega) (by omega);have hm:max 0 ((s.rs.length:Int)-B1 s q)=(C7 s q:Int):=by unfold C7;omega
 have hn:C7 s q<=s.rs.length:=by unfold C7;omega
 have hb1:(0:Int)<=(C7 s q:Int)∧(C7 s q:Int)<=((s.rs.length:Nat):Int):=⟨by omega,by omega⟩;have htk:(A6 s.rs).take (C7 s q)=A6 (s.rs.take (C7 s q)):=List.map_take.symm;have hdr:(A6 s.rs).drop (C7 s q)=A6 (s.rs.drop (C7 s q)):=List.map_drop.symm;have hfew:fewS s q={s with rs:=s.rs.drop (C7 s q)}:=rfl;unfold fewL;rw[hfew];unfold scC at h294 ⊢;generalize C7 s q=n at *;generalize B1 s q=kp at *;clear hfew;simp only[↓go1,gB3,go5,simprocAttr,Al S247 294,h294,AU,hw,hm]
 (refine Ao.intro (Aj ?_) ?_;first|rfl|simp[A5,AM,rds,Ai,Ac])
 simp only[↓go1,gB3,go5,simprocAttr,AU,rwsD_hd,hb1,Qe,htk,Nat.sub_zero,QG,Nat.min_eq_left hn];refine Bk (n:=n) (I:=λj st=>st.s 21= .slice s.nl [] (A6 (s.rs.take n))∧st.s 22= .int .i64 (n:Int)∧st.s 23= .int .i64 (j:Int)∧st.s 2= .ptr [0] 0∧st.s 4= .ptr [2] 0∧st.s 6= .int .i64 (n:Int)∧∃nl t,st.s 7= .slice nl t (AS (((s.rs.take n).take j).map (·.1)))∧nl=decide (j=0)∧LG 4 _ 3 st.m st.c nl t) (λj hj ih st g hI=>?_) (λst g hI=>?_) 0 (Qq _) _ _ ⟨(by show D.slice _ _ (List.take n (List.drop 0 (A6 s.rs)))=_;rw[Q0,htk]),rfl,rfl,rfl,rfl,rfl,true,[],rfl,rfl,LG.start (by simp only;omega)⟩
 ·obtain⟨st_s,st_m,st_c⟩:=st;obtain⟨h21,h22,h23,h2,h4,h6,nl,t,h7,hnl',hG⟩:=hI;simp only at h21 h22 h23 h2 h4 h6 h7 hG;refine Ae dc247l0.eq_1 ?_;have hlt:((j:Int)<n):=by omega
  have hj0:=nJ (j:=j);have hw:=wJ (j:=j) (by omega);have hlen:(s.rs.take n).length=n:=by rw[QG];omega
  generalize s.rs.take n=l at *;have hat:=EW (l:=l) (j:=j) (by omega);have htk:AS ((l.take (j+1)).map (·.1))=AS ((l.take j).map (·.1))++[.int .i64 (l[j]'(by omega)).1]:=by
   rw[QQ (by omega),QW];simp[AS]
  have hal:(AS ((l.take j).map (·.1))).length=j:=by simp[AS];omega
  have hnil:nl=true->AS ((l.take j).map (·.1))=[]:=by
   rw[hnl'];intro h;have:j=0:=by simpa using h
   subst this;rfl
  generalize AS ((l.take j).map (·.1))=acc at h7 htk hal hnil;generalize l[j]'(by omega)=x at hat htk;simp only[↓go1,gB3,go5,simprocAttr,h21,h22,h23,h7,hlt,hj0,Qe,hat];refine Ao.intro ⟨by omega,rfl,(by first|exact hG.grow|exact(hG.put (by omega)).grow|exact((hG.put (by omega)).put (by omega)).grow|exact(((hG.put (by omega)).put (by omega)).put (by omega)).grow|exact((((hG.put (by omega)).put (by omega)).put (by omega)).put (by omega)).grow|exact(((((hG.put (by omega)).put (by omega)).put (by omega)).put (by omega)).put (by omega)).grow)⟩ ?_;rw[BG hnil,←htk];simp only[↓go1,go2,simprocAttr,h23,hw];exact ih _ _ ⟨h21,h22,rfl,h2,h4,h6,false,_,rfl,by simp,(by first|exact hG.app (by omega) (by simp only;omega)|exact(hG.put (by omega)).app (by omega) (by simp only;omega)|exact((hG.put (by omega)).put (by omega)).app (by omega) (by simp only;omega)|exact(((hG.put (by omega)).put (by omega)).put (by omega)).app (by omega) (by simp only;omega)|exact((((hG.put (by omega)).put (by omega)).put (by omega)).put (by omega)).app (by omega) (by simp only;omega)|exact(((((hG.put (by omega)).put (by omega)).put (by omega)).put (by omega)).put (by omega)).app (by omega) (by simp only;omega))⟩
 ·obtain⟨st_s,st_m,st_c⟩:=st;obtain⟨h21,h22,h23,h2,h4,h6,nl,t,h7,hnl',hG⟩:=hI;simp only at h21 h22 h23 h2 h4 h6 h7 hG;refine Ae dc247l0.eq_1 ?_;have m0:∀k,st_m [0] k=_:=λk=>hG.low 0 k (by omega)
  have m2:∀k,st_m [2] k=_:=λk=>hG.low 2 k (by omega)
  have hd2:(A6 s.rs).take s.rs.length=A6 s.rs:=Qt (by rw[AU];omega);have hdt:(A6 (s.rs.drop n)).take (s.rs.length-n)=A6 (s.rs.drop n):=Qt (by rw[AU,QT];omega);have ht2:(s.rs.take n).take n=s.rs.take n:=Qt (by rw[QG];omega);rw[ht2]at h7;simp only[↓go1,gB3,go5,simprocAttr,h22,h23,h2,h4,h6,h7,Qo,m0,m2,AU,rwsD_hd,hb1,Qe,hdt,hdr,Aa s339,h339];subst hnl'
  all_goals first|rfl|exact⟨rfl,rfl⟩|simp[*]
def clQ:Summ where
 rd:=λ_ _=>[]
 ex:=λds _ fr=>match ds with
  |[.slice nl _ xs]=>if xs.length<=100000∧(nl=true->xs=[])∧D.headSz xs 3=3 then(if nl=true then some (.slice true [] [],[])else some (.slice false (5::fr) xs,[(5::fr,0,[.tok 229])]))else none
  |_=>none
def clone339{nl:Bool}{t:Id}{xs:List D}{m:Mem}{fr:Id}(h1:xs.length<=100000)(h2:nl=true->xs=[])(h3:D.headSz xs 3=3)(S:Summs){R:D->Mem->Prop}(hR:if nl=true then R (.slice true [] []) m else R (.slice false (5::fr) xs) (((m.put (3::fr) 0 [.tok 229]).put (3::fr) 0 [.tok 0]).put (5::fr) 0 [.tok 229])):dc339.wp S fr (DO [.t 2] R) ⟨Bx [.slice nl t xs],m,0⟩:=by
 unfold dc339;cases nl with
 |true=>
  simp only[↓go1,go2,go5,reduceIte,Qa,Qd,reduceCtorEq];simpa using hR
 |false=>
  simp only[↓go1,go2,go4,go5,reduceIte,Qa,Qd,reduceCtorEq];refine Ao.intro ⟨by omega,h3,.inr ⟨Bm ..▸by simp,by simp⟩⟩ ?_;simp only[↓go1,go2,go4,go5,reduceIte,Qa,Qd];simp only[Ql,if_false]at hR;exact hR
def ok339q:clQ.ok Qc 339:=by
 refine opn_ok2 (S:=λ_=>none) AL fn339 (λds m m' fr _=>rfl) (λds m fr r u hex hfr=>?_);simp only[clQ]at hex;split at hex
 ·rename_i nl t xs;split at hex
  ·rename_i hc;obtain⟨h1,h2,h3⟩:=hc;refine⟨by simp,clone339 h1 h2 h3 _ ?_⟩;cases nl with
   |true=>
    simp only[if_true,Qn,Q5]at hex ⊢;obtain⟨rfl,rfl⟩:=hex;exact⟨rfl,λ_ _ _ h=>h⟩
   |false=>
    simp only[Ql,if_false,Qn,Q5]at hex ⊢;obtain⟨rfl,rfl⟩:=hex;refine⟨rfl,λi o x h=>?_⟩;have h':(m.put (5::fr) 0 [.tok 229]) i o=some x:=h;rw[Bm]at h' ⊢;split at h'
    ·rename_i e;rw[if_pos e];exact h'
    ·rename_i e;rw[if_neg e,Bm,if_neg,Bm,if_neg]
     ·exact h'
     ·rintro⟨rfl,_⟩;rw[hfr (3::fr) _ ⟨[3],rfl⟩]at h';cases h'
     ·rintro⟨rfl,_⟩;rw[hfr (3::fr) _ ⟨[3],rfl⟩]at h';cases h'
  ·cases hex
 ·cases hex
def clQ_ex{nl:Bool}{t:Id}{l:List Rw}{m:Mem}{fr:Id}(h1:l.length<=1000)(h2:nl=true->l=[]):clQ.ex [.slice nl t (A6 l)] m fr=if nl=true then some (.slice true [] [],[])else some (.slice false (5::fr) (A6 l),[(5::fr,0,[.tok 229])]):=
 if_pos ⟨by rw[AU];omega,λh=>by rw[h2 h];rfl,rwsD_hd l⟩
def badS_get{s:Sc}{q:Int}(h:Dx s q=false):(1<=q∧q<=6)∧(0<=s.mx∧s.mx<=6)∧(0<=s.la∧s.la<=30)∧(s.rs.length:Int)<=B1 s q∧risB s.rs 0=true∧newE s.rs=s.la:=by
 simpa[Dx]using h
def refE_get{s:Sc}{q:Int}{b:Bool}{cas size:Int}(h:refE s q b cas size=0):Dx s q=false:=by
 unfold refE at h;split at h
 ·omega
 ·rename_i hc;cases hb:Dx s q with
  |true=>exact absurd (.inl hb) hc
  |false=>rfl
def keeps_bd{s:Sc}{q:Int}(h1:1<=q∧q<=6)(h2:0<=s.mx∧s.mx<=6):0<=B1 s q∧B1 s q<=1000:=by
 unfold B1;split<;>omega
def E_(s:Sc):Sc:={s with la:=s.la+1,nl:=false,rs:=s.rs++[(s.la+1,false,false)]}
def CK(s:Sc)(q:Int)(b:Bool)(cas size:Int):Sc×Int×List Int×Int:=if refE s q b cas size≠0 then(s,0,[],refE s q b cas size)else(fewS (E_ s) q,s.la+1,fewL (E_ s) q,0)
def fewL_nil{s:Sc}{q:Int}:(fewL s q=[])=(C7 s q=0):=by
 unfold fewL;apply propext;rw[List.map_eq_nil_iff,←Qv,QG];unfold C7;omega
def S243:Summs:=AC [(338,Ac R338),(247,Ac R247),(339,clQ)]
def R243:List D->Option D:=RF S243 dc243 [.cell (some 4) 8,.t 9,.t 10,.t 11] 47
def ko243:(Ac R243).ok Qc 243:=AH fn243 (Ab ko338 (Ab ko247 (Ab ok339q Ad)))
def R243_eq(s:Sc)(q:Int)(b:Bool)(cas size:Int)(hl:s.rs.length<=900)(hnl:s.nl=true->s.rs=[]):R243 [.agg (scC s),.agg [.int .i64 q,.bool b],.int .i64 cas,.int .i64 size]=some (.tup [.agg (scC (CK s q b cas size).1),.int .i64 (CK s q b cas size).2.1,.slice (decide ((CK s q b cas size).2.2.1=[])) [] (AS (CK s q b cas size).2.2.1),.int .i64 (CK s q b cas size).2.2.2]):=by
 refine AE (Qb rfl) ?_;have s247:S243 247=some (Ac R247):=rfl;have s339:S243 339=some (clQ):=rfl;unfold dc243;have h338:=R338_eq s q b cas size (by omega);have h339:=λ(m:Mem)(fr:Id)=>clQ_ex (nl:=s.nl) (t:=[]) (l:=s.rs) (m:=m) (fr:=fr) (by omega) hnl
 unfold CK;by_cases he:refE s q b cas size=0
 ·obtain⟨b1,b2,b3,_⟩:=badS_get (refE_get he);have hk:B1 (E_ s) q=B1 s q:=rfl;have h247:=R247_eq (E_ s) q b (by simp[E_];omega) (by rw[hk];exact keeps_bd b1 b2) (by simp[E_]);have hw:IntKind.i64.wrap (s.la+1)=s.la+1:=w64 (by omega) (by omega);have hfl:(fewS (E_ s) q).la=s.la+1:=rfl;have hnE:=fewL_nil (s:=E_ s) (q:=q);rw[he]at h338;rw[he];simp only[ne_eq,not_true_eq_false,if_false,hnE];generalize decide (C7 (E_ s) q=0)=nl2 at h247 ⊢;generalize fewL (E_ s) q=l2 at *;generalize fewS (E_ s) q=s2 at *;have hrs:A6 (s.rs++[(s.la+1,false,false)])=A6 s.rs++[.agg [.int .i64 (s.la+1),.bool false,.bool false]]:=by simp[A6,rwD]
  unfold E_ scC at h247;simp only[hrs]at h247;unfold scC at h338 ⊢;rw[hfl]at h247;clear hk;have hal:(A6 s.rs).length=s.rs.length:=AU _;cases hn:s.nl with
  |true=>
   rw[hn]at h338 h339;rw[hnl hn]at h338 h247 h339 hal ⊢;simp only[if_true]at h339;have e0:A6 []=[]:=rfl;rw[e0]at h338 h247 h339 hal ⊢;rw[Zb]at h247;simp only[↓go1,gB3,go5,reduceIte,Qa,Qd,Qh,Qi,Qu,reduceCtorEq,Al S243 338,h338,Ag s339,h339,hw];refine Ao.intro ⟨by simp,rfl,.inl rfl⟩ ?_;simp only[↓go1,gB3,go5,reduceIte,Qa,Qd,Qh,Qi,Qu,reduceCtorEq]
   (refine Ao.intro (Aj ?_) ?_;first|rfl|simp[A5,AM,rds,Ai,Ac])
   simp only[↓go1,gB3,go5,reduceIte,Qa,Qd,Qh,Qi,Qu,reduceCtorEq,Aa s247,h247]
   (refine Ao.intro (Aj ?_) ?_;first|rfl|simp[A5,AM,rds,Ai,Ac])
   simp only[↓go1,gB3,go5,reduceIte,Qa,Qd,Qh,Qi,Qu,hfl]
   all_goals first|rfl|exact⟨rfl,rfl⟩|simp[*]
  |false=>
   rw[hn]at h338 h339;simp only[if_false,Ql]at h339;simp only[↓go1,gB3,go5,reduceIte,Qa,Qd,Qh,Qi,Qu,reduceCtorEq,Al S243 338,h338,Ag s339,h339,hw];refine Ao.intro ⟨by simp only[hal];omega,rfl,.inr ⟨by simp[Mem.put],by simp⟩⟩ ?_;simp only[↓go1,gB3,go5,reduceIte,Qa,Qd,Qh,Qi,Qu,reduceCtorEq]
   (refine Ao.intro (Aj ?_) ?_;first|rfl|simp[A5,AM,rds,Ai,Ac])
   simp only[↓go1,gB3,go5,reduceIte,Qa,Qd,Qh,Qi,Qu,reduceCtorEq,Aa s247,h247]
   (refine Ao.intro (Aj ?_) ?_;first|rfl|simp[A5,AM,rds,Ai,Ac])
   simp only[↓go1,gB3,go5,reduceIte,Qa,Qd,Qh,Qi,Qu,reduceCtorEq,hfl]
   all_goals first|rfl|exact⟨rfl,rfl⟩|simp[*]
 ·have he':(refE s q b cas size=0)=False:=eq_false he;unfold scC at h338 ⊢;simp only[ne_eq,he',not_false_eq_true,if_true];generalize refE s q b cas size=e at *;simp only[↓go1,gB3,go5,reduceIte,Qa,Qd,Qh,reduceCtorEq,Al S243 338,h338,he']
  all_goals first|rfl|exact⟨rfl,rfl⟩|simp[*]
def Ee(s:Sc)(q:Int)(most:Int)(cas:Bool):Sc×List Int×Int:=if Dx s q=true∨¬(0<=most∧most<=6)then(s,[],2)else(fewS {s with mx:=most,cas:=cas} q,fewL {s with mx:=most,cas:=cas} q,0)
def S139:Summs:=AC [(246,Ac F246),(191,Ac Gk),(247,Ac R247)]
def R139:List D->Option D:=RF S139 dc139 [.cell (some 4) 8,.t 9,.t 10] 35
def ko139:(Ac R139).ok Qc 139:=AH fn139 (Ab ok246 (Ab ko191 (Ab ko247 Ad)))
def R139_eq(s:Sc)(q:Int)(b:Bool)(most:Int)(cas:Bool)(hl:s.rs.length<=1000)(hnl:s.nl=true->s.rs=[]):R139 [.agg (scC s),.agg [.int .i64 q,.bool b],.int .i64 most,.bool cas]=some (.tup [.agg (scC (Ee s q most cas).1),.slice (decide ((Ee s q most cas).2.1=[])) [] (AS (Ee s q most cas).2.1),.int .i64 (Ee s q most cas).2.2]):=by
 refine AE (Qb rfl) ?_;have s191:S139 191=some (Ac Gk):=rfl;have s247:S139 247=some (Ac R247):=rfl;unfold dc139;have h191:=Gj s q b hl;have h246:∀x a b:Int,F246 [.int .i64 x,.int .i64 a,.int .i64 b]=some (.bool (decide (a<=x∧x<=b))):=λ_ _ _=>rfl
 unfold Ee;unfold secE at h191;cases hb:Dx s q with
 |true=>
  rw[hb]at h191;simp only[if_true]at h191;unfold scC at h191 ⊢;simp only[↓go1,gB3,go5,reduceIte,Qa,Qd,Qh,reduceCtorEq,Int.reduceEq,Aa s191,h191,true_or,if_true]
  all_goals first|rfl|exact⟨rfl,rfl⟩|simp[*]
 |false=>
  rw[hb]at h191;simp only[if_false,Ql]at h191;by_cases c1:0<=most∧most<=6
  ·obtain⟨b1,b2,b3,_⟩:=badS_get hb;have h247:=R247_eq {s with mx:=most,cas:=cas} q b hl (keeps_bd b1 c1) hnl;have hnE:=fewL_nil (s:={s with mx:=most,cas:=cas}) (q:=q);simp only[c1,and_self,not_true_eq_false,or_self,if_false,Ql,hnE];generalize decide (C7 {s with mx:=most,cas:=cas} q=0)=nl2 at h247 ⊢;generalize fewL {s with mx:=most,cas:=cas} q=l2 at *;generalize fewS {s with mx:=most,cas:=cas} q=s2 at *;unfold scC at h191 h247 ⊢;simp only[↓go1,gB3,go5,reduceIte,Qa,Qd,Qh,Qi,Qu,reduceCtorEq,Aa s191,h191,Al S139 246,h246,Aa s247,h247,c1]
   all_goals first|rfl|exact⟨rfl,rfl⟩|simp[*]
  ·unfold scC at h191 ⊢;simp only[↓go1,gB3,go5,reduceIte,Qa,Qd,Qh,reduceCtorEq,Aa s191,h191,Al S139 246,h246,c1,or_true,if_true]
   all_goals first|rfl|exact⟨rfl,rfl⟩|simp[*]
def fxs_ok{α:Type}{mk:α->List D}{ok:α->Prop}{res:α->D}{P:Program}{S:Summs}{f:FuncId}{N:Nat}{dc:DC}{rs:List RV}(hS:Summs.ok P S)(hf:Fn P f N dc rs)(hN:∀a,(mk a).length<=N)
  (hF:∀a,ok a->(res a).calmR=true∧dc.wp S [] (DO rs λd m'=>SetR m' d (res a)) ⟨Bx (mk a),λ_ _=>none,0⟩):(Ac (FX mk ok res)).ok P f:=by
 refine fun_set hS hf (λds r h=>?_) (λds r h=>?_)
 ·obtain⟨a,_,rfl,_⟩:=Gn h;exact hN a
 ·obtain⟨a,ha,rfl,rfl⟩:=Gn h;exact hF a ha
def firstT_at{l:List Int}{n:Int}{j:Nat}(hj:j<l.length)(hx:n=l[j])(hall:∀i (h:i<j),n≠l[i]'(by omega)):Bb (l.map λx=>decide (n=x))=j:=by
 unfold Bb;have:(l.map λx=>decide (n=x)).findIdx? id=some j:=by
  rw[QN];refine⟨by simpa using hj,by simp[hx],λi hi=>?_⟩;have:=hall i hi;simpa using this
 rw[this]
def firstT_no{l:List Int}{n:Int}(hall:∀i (h:i<l.length),n≠l[i]):Bb (l.map λx=>decide (n=x))=-1:=by
 unfold Bb;have:(l.map λx=>decide (n=x)).findIdx? id=none:=by
  rw[List.findIdx?_eq_none_iff];intro b hb;obtain⟨x,hx,rfl⟩:=QE.1 hb;obtain⟨i,hi,rfl⟩:=Q_ hx;simpa using hall i hi
 rw[this]
def intsD_at'{l:List Int}{j:Nat}(h:j<l.length):(AS l)[j]?=some (.int .i64 l[j]):=by simp[AS,Qf h]
def hasI(l:List Int)(n:Int):Bool:=l.any λx=>decide (n=x)
def hasI_first(l:List Int)(n:Int):decide (0<=Bb (l.map λx=>decide (n=x)))=hasI l n:=by
 rw[Gc,Zj];rfl
def S387:Summs:=AC []
def R387:List D->Option D:=RF S387 dc387 [.t 4] 19
def ko387:(Ac R387).ok Qc 387:=AH fn387 Ad
def R387_eq{nl:Bool}{l:List Int}(n:Int)(hl:l.length<=1000):R387 [.slice nl [] (AS l),.int .i64 n]=some (.int .i64 (Bb (l.map λx=>decide (n=x)))):=by
 refine AE (Qb rfl) ?_;unfold dc387;simp only[↓go1,go2,simprocAttr,intsD_len'];refine Bk (n:=l.length) (I:=λj st=>st.s 0= .slice nl [] (AS l)∧st.s 1= .int .i64 n∧st.s 7= .int .i64 l.length∧st.s 8= .int .i64 (j:Int)∧∀i (h:i<j) (h2:i<l.length),n≠l[i]) (λj hj ih st g hI=>?_) (λst g hI=>?_) 0 (Qq _) _ _ ⟨rfl,rfl,rfl,rfl,λi h=>absurd h (QX _)⟩
 ·obtain⟨st_s,st_m,st_c⟩:=st;obtain⟨h0,h1,h7,h8,hall⟩:=hI;simp only at h0 h1 h7 h8;refine Ae dc387l0.eq_1 ?_;have hlt:((j:Int)<l.length):=by omega
  have hj0:=nJ (j:=j);have hw:=wJ (j:=j) (by omega);have hat:=intsD_at' hj;by_cases hx:n=l[j]
  ·have e:=firstT_at hj hx (λi h=>hall i h (by omega));have hx':(n=l[j])=True:=eq_true hx;simp only[↓go1,gB3,go5,simprocAttr,h0,h1,h7,h8,hlt,hj0,Qe,hat,hx'];rw[e]
   all_goals first|rfl|exact⟨rfl,rfl⟩|simp[*]
  ·have hx':(n=l[j])=False:=eq_false hx;simp only[↓go1,gB3,go5,simprocAttr,h0,h1,h7,h8,hlt,hj0,Qe,hat,hx',hw];refine ih _ _ ⟨h0,h1,h7,rfl,λi h h2=>?_⟩;rcases QK (QR h)with h|rfl
   ·exact hall i h h2
   ·exact hx
 ·obtain⟨h0,h1,h7,h8,hall⟩:=hI;refine Ae dc387l0.eq_1 ?_;have e:=firstT_no (λi h=>hall i h h);simp only[↓go1,gB3,go5,simprocAttr,h7,h8,Qo];rw[e]
  all_goals first|rfl|exact⟨rfl,rfl⟩|simp[*]
def S341:Summs:=AC [(387,Ac R387)]
def R341:List D->Option D:=RF S341 dc341 [.t 4] 9
def ko341:(Ac R341).ok Qc 341:=AH fn341 (Ab ko387 Ad)
def R341_eq{nl:Bool}{l:List Int}(n:Int)(hl:l.length<=1000):R341 [.slice nl [] (AS l),.int .i64 n]=some (.bool (hasI l n)):=by
 refine AE (Qb rfl) ?_;unfold dc341;have h387:=R387_eq (nl:=nl) n hl;have e:=hasI_first l n;generalize Bb (l.map λx=>decide (n=x))=i at *;simp only[↓go1,gB3,go5,simprocAttr,Al S341 387,h387];rw[←e]
 all_goals first|rfl|exact⟨rfl,rfl⟩|simp[*]
def S250:Summs:=AC []
def R250:List D->Option D:=RF S250 dc250 [.cell (some 3) 2] 6
def ko250:(Ac R250).ok Qc 250:=AH fn250 Ad
def R250_eq(r:Rw):R250 [.agg [.int .i64 r.1,.bool r.2.1,.bool r.2.2]]=some (.agg [.int .i64 r.1,.bool true,.bool false]):=by
 refine AE (Qb rfl) ?_;unfold dc250;simp only[↓go1,gB3,go5,simprocAttr]
 all_goals first|rfl|exact⟨rfl,rfl⟩|simp[*]
def S251:Summs:=AC []
def R251:List D->Option D:=RF S251 dc251 [.cell (some 3) 2] 6
def ko251:(Ac R251).ok Qc 251:=AH fn251 Ad
def R251_eq(r:Rw):R251 [.agg [.int .i64 r.1,.bool r.2.1,.bool r.2.2]]=some (.agg [.int .i64 r.1,.bool false,.bool false]):=by
 refine AE (Qb rfl) ?_;unfold dc251;simp only[↓go1,gB3,go5,simprocAttr]
 all_goals first|rfl|exact⟨rfl,rfl⟩|simp[*]
def S252:Summs:=AC []
def R252:List D->Option D:=RF S252 dc252 [.cell (some 3) 2] 6
def ko252:(Ac R252).ok Qc 252:=AH fn252 Ad
def R252_eq(r:Rw):R252 [.agg [.int .i64 r.1,.bool r.2.1,.bool r.2.2]]=some (.agg [.int .i64 r.1,.bool false,.bool true]):=by
 refine AE (Qb rfl) ?_;unfold dc252;simp only[↓go1,gB3,go5,simprocAttr]
 all_goals first|rfl|exact⟨rfl,rfl⟩|simp[*]
def chR(k:Nat)(r:Rw):Rw:=if k=250 then(r.1,true,false)else if k=251 then(r.1,false,false)else(r.1,false,true)
def hitR(ns:List Int)(n j:Nat)(x:Rw):Bool:=(hasI ns x.1||(ns.isEmpty&&decide (j+1=n)))&&!x.2.2
def turnR(ns:List Int)(k n:Nat):Nat->List Rw->List Rw
 |_,[]=>[]
 |j,x::r=>(if hitR ns n j x=true then chR k x else x)::turnR ns k n (j+1) r
def ET(ns:List Int)(n:Nat):Nat->List Rw->List Int
 |_,[]=>[]
 |j,x::r=>if hitR ns n j x=true then x.1::ET ns n (j+1) r else ET ns n (j+1) r
def turnR_len(ns:List Int)(k n:Nat):∀(l:List Rw)(j:Nat),(turnR ns k n j l).length=l.length
 |[],_=>rfl
 |x::r,j=>by simp[turnR,turnR_len ns k n r]
def BC(s:Sc)(ns:List Int)(k:Nat):Sc×List Int×Int:=if Dx s 6=true then(s,[],2)else if s.rs=[]then(s,[],6)else({s with rs:=turnR ns k s.rs.length 0 s.rs},ET ns s.rs.length 0 s.rs,0)
def mkTn(p:Sc×Bool×List Int×Nat):List D:=[.agg (scC p.1),.slice p.2.1 [] (AS p.2.2.1),.fn p.2.2.2 []]
def rwsD_inj{a b:List Rw}(h:A6 a=A6 b):a=b:=(List.map_inj_right (λx y e=>by
 simp only[rwD,D.agg.injEq,Qp,D.int.injEq,D.bool.injEq,true_and,and_true]at e;exact QP e.1 (QP e.2.1 e.2.2))).1 h
def scC_inj{a b:Sc}(h:scC a=scC b):a=b:=by
 cases a;cases b;simp only[scC,Qp,D.int.injEq,D.bool.injEq,D.slice.injEq,true_and,and_true]at h;obtain⟨h1,h2,h3,h4,h5⟩:=h;have:=rwsD_inj h5;subst h1 h2 h3 h4 this;rfl
def intsD_inj'{a b:List Int}(h:AS a=AS b):a=b:=(List.map_inj_right (λx y e=>by simpa using e)).1 h
def mkTn_inj(x y:Sc×Bool×List Int×Nat)(e:mkTn x=mkTn y):x=y:=by
 simp only[mkTn,Qp,D.agg.injEq,D.slice.injEq,D.fn.injEq,true_and,and_true]at e;exact QP (scC_inj e.1) (QP e.2.1.1 (QP (intsD_inj' e.2.1.2) e.2.2))
def resTn(p:Sc×Bool×List Int×Nat):D:= .tup [.agg (scC (BC p.1 p.2.2.1 p.2.2.2).1),.slice (decide ((BC p.1 p.2.2.1 p.2.2.2).2.1=[])) [] (AS (BC p.1 p.2.2.1 p.2.2.2).2.1),.int .i64 (BC p.1 p.2.2.1 p.2.2.2).2.2]
structure TnOk (p:Sc×Bool×List Int×Nat):Prop where
 hl:p.1.rs.length<=1000
 hn:p.1.nl=true->p.1.rs=[]
 hs:p.2.2.1.length<=1000
 hk:p.2.2.2=250∨p.2.2.2=251∨p.2.2.2=252
def F249:List D->Option D:=FX mkTn TnOk resTn
def OW:List D->Option (List D):=λds=>match ds with|[.slice false _ xs]=>if xs.length<=100000∧D.headSz xs 3=3∧(flat xs).all D.plain=true then some xs else none|_=>none
def own339:(ownS OW).ok Qc 339:=by
 unfold OW;refine own_ok (S:=λ_=>none) AL fn339 (λds r h=>?_) (λds xs h=>?_)
 ·split at h
  ·simp
  ·cases h
 ·split at h
  ·split at h
   ·rename_i hc;simp only[Qn]at h;subst h;exact⟨QB.1 hc.2.2,clone339 hc.1 (by simp) hc.2.1 _ ⟨_,228,rfl,by simp,by simp[Mem.put]⟩⟩
   ·cases h
  ·cases h
def rwsD_flat(l:List Rw):(flat (A6 l)).all D.plain=true:=by
 rw[QB];induction l with
 |nil=>intro x hx;cases hx
 |cons y r ih=>
  intro x hx;have hx':x∈[D.int .i64 y.1,.bool y.2.1,.bool y.2.2]++flat (A6 r):=hx;rcases List.mem_append.1 hx' with h|h
  ·simp only[Q6,Q7,or_false]at h;rcases h with rfl|rfl|rfl<;>rfl
  ·exact ih x h
def own_ex{l:List Rw}{t:Id}{m:Mem}{fr:Id}(h:l.length<=1000):(ownS OW).ex [.slice false t (A6 l)] m fr=some (.row fr l.length,[(fr,0,flat (A6 l))]):=by
 have e:OW [.slice false [] ((A6 l).map D.un)]=some (A6 l):=by
  have:(A6 l).map D.un=A6 l:=by rw[A6,Q9];exact QJ λ_ _=>rfl
  rw[this];exact if_pos ⟨by rw[AU];omega,rwsD_hd l,rwsD_flat l⟩
 have e2:OW ([D.slice false t (A6 l)].map D.un)=some (A6 l):=if_pos ⟨by rw[AU];omega,rwsD_hd l,rwsD_flat l⟩;simp only[ownS];refine(if_pos rfl).trans ?_;rw[e2,Qs,AU]
def Fr(m:Mem)(i:Id)(l:List Rw):Prop:=∀k x,l[k]?=some x->Ah m i (k*3) 3=some [.int .i64 x.1,.bool x.2.1,.bool x.2.2]
def rdW3{m:Mem}{i:Id}{o:Nat}{a b c:D}:Ah m i o 3=some [a,b,c]↔(m i o=some a∧m i (o+1)=some b∧m i (o+2)=some c):=by
 simp only[Ah];cases m i o<;>cases m i (o+1)<;>cases m i (o+1+1)<;>simp
def Fr.toFlat{m:Mem}{i:Id}:∀{l:List Rw} {p:Nat},(∀k x,l[k]?=some x->Ah m i (p+k*3) 3=some [.int .i64 x.1,.bool x.2.1,.bool x.2.2])->∀(j:Nat) d,(flat (A6 l))[j]?=some d->m i (p+j)=some d
 |[],p,_,j,d,h=>by simp[A6,Vd.flat]at h
 |x::r,p,hr,j,d,h=>by
  have h':([D.int .i64 x.1,.bool x.2.1,.bool x.2.2]++Vd.flat (A6 r))[j]?=some d:=h;obtain⟨a0,a1,a2⟩:=rdW3.1 (hr 0 x rfl);simp only[Nat.zero_mul,Nat.add_zero]at a0 a1 a2
  match j,h' with
  |0,h'=>simp only[QH,Qw,Qn]at h';subst h';exact a0
  |1,h'=>simp only[QH,QL,Qw,Qn]at h';subst h';exact a1
  |2,h'=>simp only[QH,QL,Qw,Qn]at h';subst h';exact a2
  |j+3,h'=>
   have:=Fr.toFlat (p:=p+3) (l:=r) (λk y hk=>by
    have:=hr (k+1) y (by simpa using hk);rw[show p+(k+1)*3=p+3+k*3 by omega]at this;exact this) j d (by simpa using h')
   rw[show p+3+j=p+(j+3)by omega]at this;exact this
def Fr.of{m:Mem}{i:Id}:∀{l:List Rw} {p:Nat},(∀(j:Nat) d,(flat (A6 l))[j]?=some d->m i (p+j)=some d)->∀k x,l[k]?=some x->Ah m i (p+k*3) 3=some [.int .i64 x.1,.bool x.2.1,.bool x.2.2]
 |[],p,_,k,x,h=>by simp at h
 |y::r,p,hr,k,x,h=>by
  match k,h with
  |0,h=>
   simp only[Qw,Qn]at h;subst h;exact rdW3.2 ⟨by simpa using hr 0 _ rfl,by simpa using hr 1 _ rfl,by simpa using hr 2 _ rfl⟩
  |k+1,h=>
   have:=Fr.of (p:=p+3) (l:=r) (λj d hj=>by
    have:=hr (j+3) d hj;rw[show p+(j+3)=p+3+j by omega]at this;exact this) k x (by simpa using h)
   rw[show p+3+k*3=p+(k+1)*3 by omega]at this;exact this
def Fr.set{m:Mem}{i:Id}{A B:List Rw}{x y:Rw}(h:Fr m i (A++x::B)):Fr (m.put i (A.length*3) [.int .i64 y.1,.bool y.2.1,.bool y.2.2]) i (A++y::B):=by
 intro k z hz;by_cases hk:k=A.length
 ·subst hk;rw[QF (QM _),Zk,Qw,Qn]at hz;subst hz;refine rdW3.2 ⟨?_,?_,?_⟩<;>simp[Mem.put]
 ·have hz':(A++x::B)[k]?=some z:=by
   rcases Nat.lt_or_gt_of_ne hk with h1|h1
   ·rw[List.getElem?_append_left h1]at hz ⊢;exact hz
   ·rw[QF (by omega)]at hz ⊢;rw[show k-A.length=(k-A.length-1)+1 by omega,QL]at hz ⊢;exact hz
  obtain⟨a0,a1,a2⟩:=rdW3.1 (h k z hz');have ho:∀o,(o=k*3∨o=k*3+1∨o=k*3+2)->(m.put i (A.length*3) [.int .i64 y.1,.bool y.2.1,.bool y.2.2]) i o=m i o:=λo ho=>by
   refine Mem.put_out ?_;simp only[Qj,Qm];omega
  exact rdW3.2 ⟨by rw[ho _ (.inl rfl)];exact a0,by rw[ho _ (.inr (.inl rfl))];exact a1,by rw[ho _ (.inr (.inr rfl))];exact a2⟩
def Fr.other{m:Mem}{i j:Id}{o:Nat}{ds:List D}{l:List Rw}(h:Fr m i l)(hne:i≠j):Fr (m.put j o ds) i l:=λk x hk=>by
 obtain⟨a0,a1,a2⟩:=rdW3.1 (h k x hk);exact rdW3.2 ⟨by rw[Mem.put_other hne];exact a0,by rw[Mem.put_other hne];exact a1,by rw[Mem.put_other hne];exact a2⟩
def Fr.grow{m:Mem}{i f t:Id}{e:Nat}{nl:Bool}{xs:List D}{l:List Rw}(h:Fr m i l)(h1:i≠f)(h2:nl=false->i≠t):Fr (Upd.app m (Bg e f (.slice nl t xs))) i l:=by
 cases nl with
 |true=>exact h.other h1
 |false=>exact(h.other (h2 rfl)).other h1
def LG.row{c0 e c r o:Nat}{m0 m:Mem}{nl:Bool}{t:Id}{ds:List D}(h:LG c0 m0 e m c nl t)(hr:c0<=r)(ht:nl=false->t≠[r]):LG c0 m0 e (m.put [r] o ds) c nl t:=by
 obtain⟨h1,h2,h3⟩:=h;refine⟨λq o' hq=>?_,?_,h3⟩
 ·rw[Mem.put_other (by simp;omega)];exact h1 q o' hq
 ·rcases h2 with h2|⟨j,rfl,a,b,d⟩
  ·exact .inl h2
  ·cases nl with
   |true=>exact .inl rfl
   |false=>exact .inr ⟨j,rfl,a,b,by rw[Mem.put_other (ht rfl)];exact d⟩
def rd3s{m:Mem}{i:Id}{o:Nat}{a b c:D}(h:Ah m i o 3=some [a,b,c]):m i o=some a∧m i (o+1)=some b∧m i (o+1+1)=some c:=rdW3.1 h
def row_da{i:Id}{n:Nat}:D.data (.row i n)=true:=rfl
def row_ce{i:Id}{n:Nat}:D.cells (.row i n)=[.row i n]:=rfl
def ok249:(Ac F249).ok Qc 249:=by
 have hS:Summs.ok Qc (AC [(191,Ac Gk),(241,Ac R241),(339,ownS OW),(341,Ac R341),(250,Ac R250),(251,Ac R251),(252,Ac R252)]):=Ab ko191 (Ab ko241 (Ab own339 (Ab ko341 (Ab ko250 (Ab ko251 (Ab ko252 Ad))))));have s191:AC [(191,Ac Gk),(241,Ac R241),(339,ownS OW),(341,Ac R341),(250,Ac R250),(251,Ac R251),(252,Ac R252)] 191=some (Ac Gk):=rfl;have s241:AC [(191,Ac Gk),(241,Ac R241),(339,ownS OW),(341,Ac R341),(250,Ac R250),(251,Ac R251),(252,Ac R252)] 241=some (Ac R241):=rfl;have s339:AC [(191,Ac Gk),(241,Ac R241),(339,ownS OW),(341,Ac R341),(250,Ac R250),(251,Ac R251),(252,Ac R252)] 339=some (ownS OW):=rfl;have s341:AC [(191,Ac Gk),(241,Ac R241),(339,ownS OW),(341,Ac R341),(250,Ac R250),(251,Ac R251),(252,Ac R252)] 341=some (Ac R341):=rfl;have sk:∀k,k=250∨k=251∨k=252->∃F,AC [(191,Ac Gk),(241,Ac R241),(339,ownS OW),(341,Ac R341),(250,Ac R250),(251,Ac R251),(252,Ac R252)] k=some (Ac F)∧∀x:Rw,F [.agg [.int .i64 x.1,.bool x.2.1,.bool x.2.2]]=some (.agg [.int .i64 (chR k x).1,.bool (chR k x).2.1,.bool (chR k x).2.2]):=λk hk=>by
  rcases hk with rfl|rfl|rfl
  ·exact⟨R250,rfl,R250_eq⟩
  ·exact⟨R251,rfl,R251_eq⟩
  ·exact⟨R252,rfl,R252_eq⟩
 generalize AC [(191,Ac Gk),(241,Ac R241),(339,ownS OW),(341,Ac R341),(250,Ac R250),(251,Ac R251),(252,Ac R252)]=S at hS s191 s241 s339 s341 sk;refine fxs_ok hS fn249 (λ_=>by simp[mkTn]) (λp hp=>⟨by rfl,?_⟩);obtain⟨s,bn,ns,k⟩:=p;obtain⟨hl,hn,hs,hk⟩:=hp;simp only at hl hn hs hk;obtain⟨F,sF,hF⟩:=sk k hk;have h191:=Gj s 6 false hl;have h241:=R241_eq;unfold dc249 mkTn resTn BC;simp only;unfold secE at h191;cases hb:Dx s 6 with
 |true=>
  rw[hb]at h191;simp only[if_true]at h191 ⊢;unfold scC at h191 ⊢;simp only[↓go1,gB3,go5,simprocAttr,Aa s191,h191,Aa s241,h241]
  (refine Ao.intro (Aj ?_) ?_;first|rfl|simp[A5,AM,rds,Ai,Ac])
  simp only[↓go1,gB3,go5,simprocAttr];exact .inr ⟨_,_,rfl,rfl,.inl (.inl rfl),.inl (.inl rfl),.inl (.inl rfl),trivial⟩
 |false=>
  rw[hb]at h191;simp only[if_false,Ql]at h191 ⊢;by_cases hz:s.rs=[]
  ·have hz':((s.rs.length:Int)=0)=True:=eq_true (by rw[hz];rfl);simp only[if_pos hz];unfold scC at h191 ⊢;simp only[↓go1,gB3,go5,simprocAttr,Aa s191,h191,Aa s241,h241]
   (refine Ao.intro (Aj ?_) ?_;first|rfl|simp[A5,AM,rds,Ai,Ac])
   simp only[↓go1,gB3,go5,simprocAttr,AU,hz'];exact .inr ⟨_,_,rfl,rfl,.inl (.inl rfl),.inl (.inl rfl),.inl (.inl rfl),trivial⟩
  ·have hpos:0<s.rs.length:=by
    rcases Nat.eq_zero_or_pos s.rs.length with h|h
    ·exact absurd (Qv.1 h) hz
    ·exact h
   have hz':((s.rs.length:Int)=0)=False:=eq_false (by omega);have hsn:s.nl=false:=by
    cases h:s.nl with
    |true=>exact absurd (hn h) hz
    |false=>rfl
   have hown:=λ(m:Mem)(fr:Id)=>own_ex (l:=s.rs) (t:=[]) (m:=m) (fr:=fr) hl
   simp only[if_neg hz];unfold scC at h191 ⊢;simp only[hsn]at h191 ⊢;simp only[↓go1,gB3,go5,simprocAttr,Aa s191,h191,Aa s241,h241]
   (refine Ao.intro (Aj ?_) ?_;first|rfl|simp[A5,AM,rds,Ai,Ac])
   simp only[↓go1,gB3,go5,simprocAttr,AU,hz',Ag s339,hown];have hflat:Fr (Mem.put (λ_ _=>none) [14] 0 (flat (A6 s.rs))) [14] s.rs:=λk x hk=>by
    have:=Fr.of (m:=Mem.put (λ_ _=>none) [14] 0 (flat (A6 s.rs))) (i:=[14]) (p:=0) (l:=s.rs) (λj d hj=>by
     have hjl:=(Q3.1 hj).1;rw[Mem.put_same hjl,hj]) k x hk
    rwa [QI]at this
   refine Bk (n:=s.rs.length) (I:=λj st=>st.s 27= .row [14] s.rs.length∧st.s 28= .int .i64 s.rs.length∧st.s 29= .int .i64 (j:Int)∧st.s 9= .row [14] s.rs.length∧st.s 1= .slice bn [] (AS ns)∧st.s 2= .fn k []∧st.s 3= .ptr [0] 0∧st.s 6= .ptr [1] 0∧∃A B nl t,A.length=j∧A++turnR ns k s.rs.length j (s.rs.drop j)=turnR ns k s.rs.length 0 s.rs∧B++ET ns s.rs.length j (s.rs.drop j)=ET ns s.rs.length 0 s.rs∧st.s 10= .slice nl t (AS B)∧nl=decide (B=[])∧Fr st.m [14] (A++s.rs.drop j)∧15<=st.c∧(nl=false->t≠[14])∧LG 14 _ 3 st.m st.c nl t) (λj hj ih st g hI=>?_) (λst g hI=>?_) 0 (Qq _) _ _ ⟨rfl,rfl,rfl,rfl,rfl,rfl,rfl,rfl,[],[],true,[],rfl,rfl,rfl,rfl,rfl,?_,by simp only;omega,by simp,LG.start (by simp only;omega)⟩
   rotate_left 2
   ·intro k x hk;obtain⟨a0,a1,a2⟩:=rdW3.1 (hflat k x hk);have hpl:k*3+2<(flat (A6 s.rs)).length:=by
     by_cases hh:k*3+2<(flat (A6 s.rs)).length
     ·exact hh
     ·rw[Mem.put_out (by omega)]at a2;cases a2
    refine rdW3.2 ⟨?_,?_,?_⟩
    ·rw[←a0];simp[Mem.put]
    ·rw[←a1];simp[Mem.put]
    ·rw[←a2];simp[Mem.put]
   ·obtain⟨st_s,st_m,st_c⟩:=st;obtain⟨h27,h28,h29,h9,h1,h2,h3,h6,A,B,nl,t,hAl,hA,hB,h10,hnl,hR,hc,ht,hG⟩:=hI;simp only at h27 h28 h29 h9 h1 h2 h3 h6 h10 hR hc hG;refine Ae dc249l0.eq_1 ?_;have hlt:((j:Int)<s.rs.length):=by omega
    have hj0:=nJ (j:=j);have hjn:((j:Int)<((s.rs.length:Nat):Int)):=by omega
    have hw:=wJ (j:=j) (by omega);have hwl:IntKind.i64.wrap ((s.rs.length:Int)-1)=(s.rs.length:Int)-1:=w64 (by omega) (by omega);have hd:s.rs.drop j=s.rs[j]::s.rs.drop (j+1):=QA hj;rw[hd]at hA hB hR;generalize s.rs[j]=x at hA hB hR;have hrow:Ah st_m [14] (j*3) 3=some [.int .i64 x.1,.bool x.2.1,.bool x.2.2]:=hR j x (by rw[QF (by omega),hAl,Zk];rfl);have h341:=R341_eq (nl:=bn) (l:=ns) x.1 hs;have hBl:(AS B).length<=100000:=by
     have h1:=congrArg Zp hB;have h2:∀(l:List Rw)(j:Nat),(ET ns s.rs.length j l).length<=l.length:=λl=>by
      induction l with
      |nil=>intro j;simp[ET]
      |cons y r ih=>intro j;unfold ET;split<;>have:=ih (j+1)<;>simp only[Qj]<;>omega
     have h3:=h2 s.rs 0;rw[Qk]at h1;rw[intsD_len'];omega
    have hBl2:B.length<=100000:=by rw[←intsD_len'];exact hBl
    have hBn:nl=true->AS B=[]:=by rw[hnl];intro h;rw[of_decide_eq_true h];rfl
    have e1:turnR ns k s.rs.length j (x::s.rs.drop (j+1))=(if hitR ns s.rs.length j x=true then chR k x else x)::turnR ns k s.rs.length (j+1) (s.rs.drop (j+1)):=rfl;have e2:ET ns s.rs.length j (x::s.rs.drop (j+1))=if hitR ns s.rs.length j x=true then x.1::ET ns s.rs.length (j+1) (s.rs.drop (j+1))else ET ns s.rs.length (j+1) (s.rs.drop (j+1)):=rfl
    have hBa:AS (B++[x.1])=AS B++[.int .i64 x.1]:=by simp[AS]
    have hFx:=hF x;subst hAl;generalize hcb:hasI ns x.1=cb at h341;have h0:((ns.length:Int)=0)=(ns.isEmpty=true):=by cases ns<;>simp<;>omega
    have h14:(14=st_c+1+3)=False:=eq_false (by omega);have h15:(st_c=10)=False:=eq_false (by omega);have hjq:((A.length:Int)=(s.rs.length:Int)-1)=(A.length+1=s.rs.length):=propext (by omega);cases cb with
    |true=>
     cases hxd:x.2.2 with
     |true=>
      rw[hxd]at hrow;obtain⟨a0,a1,a2⟩:=rd3s hrow;have hh:hitR ns s.rs.length A.length x=false:=by simp[hitR,hcb,hxd]
      rw[hh,if_neg Qz]at e1 e2;simp only[↓go1,gB3,go5,simprocAttr,h27,h28,h29,h1,hlt,hj0,Qe,a0,a1,a2,Aa s341,h341,hw];refine ih _ _ ⟨h27,h28,rfl,h9,h1,h2,h3,h6,A++[x],B,nl,t,by simp,by rw[←hA,e1];simp,by rw[←hB,e2],h10,hnl,?_,by simp only;omega,ht,(by first|exact hG.more (by simp only;omega)|exact(hG.put (by omega)).more (by simp only;omega)|exact((hG.put (by omega)).put (by omega)).more (by simp only;omega)|exact(((hG.put (by omega)).put (by omega)).put (by omega)).more (by simp only;omega)|exact((((hG.put (by omega)).put (by omega)).put (by omega)).put (by omega)).more (by simp only;omega)|exact(((((hG.put (by omega)).put (by omega)).put (by omega)).put (by omega)).put (by omega)).more (by simp only;omega))⟩;rw[Qx];exact(hR.other (by first|(simp;done)|(simp;omega))).other (by first|(simp;done)|(simp;omega))
     |false=>
      rw[hxd]at hrow;obtain⟨a0,a1,a2⟩:=rd3s hrow;rw[hxd]at hFx;have hh:hitR ns s.rs.length A.length x=true:=by simp[hitR,hcb,hxd]
      rw[if_pos hh]at e1 e2;simp only[↓go1,gB3,go5,simprocAttr,h27,h28,h29,h9,h1,h2,h10,hlt,hj0,Qe,a0,a1,a2,h14,h15,Aa s341,h341,intsD_len',Aa sF,hFx];refine Ao.intro ⟨by omega,rfl,(by first|exact(((hG.put (by omega)).put (by omega)).row (by omega) ht).grow|exact((((hG.put (by omega)).put (by omega)).row (by omega) ht).put (by omega)).grow)⟩ ?_;rw[BG hBn,←hBa];simp only[↓go1,go2,simprocAttr,h29,hw];refine ih _ _ ⟨h27,h28,rfl,h9,h1,h2,h3,h6,A++[chR k x],B++[x.1],false,_,by simp,by rw[←hA,e1];simp,by rw[←hB,e2];simp,rfl,by simp,?_,by simp only;omega,by first|(simp;done)|(simp;omega),(by first|exact(((hG.put (by omega)).put (by omega)).row (by omega) ht).app (by omega) (by simp only;omega)|exact((((hG.put (by omega)).put (by omega)).row (by omega) ht).put (by omega)).app (by omega) (by simp only;omega))⟩;rw[Qx]
      first|exact(Fr.set ((hR.other (by first|(simp;done)|(simp;omega))).other (by first|(simp;done)|(simp;omega)))).grow (by first|(simp;done)|(simp;omega)) (λh e=>ht h e.symm)|exact((Fr.set ((hR.other (by first|(simp;done)|(simp;omega))).other (by first|(simp;done)|(simp;omega)))).other (by first|(simp;done)|(simp;omega))).grow (by first|(simp;done)|(simp;omega)) (λh e=>ht h e.symm)
    |false=>
     cases hle:ns.isEmpty with
     |false=>
      rw[hle]at h0;obtain⟨a0,a1,a2⟩:=rd3s hrow;have hh:hitR ns s.rs.length A.length x=false:=by simp[hitR,hcb,hle]
      rw[hh,if_neg Qz]at e1 e2;simp only[↓go1,gB3,go5,simprocAttr,h27,h28,h29,h1,hlt,hj0,Qe,a0,a1,a2,Aa s341,h341,intsD_len',h0,hw];refine ih _ _ ⟨h27,h28,rfl,h9,h1,h2,h3,h6,A++[x],B,nl,t,by simp,by rw[←hA,e1];simp,by rw[←hB,e2],h10,hnl,?_,by simp only;omega,ht,(by first|exact hG.more (by simp only;omega)|exact(hG.put (by omega)).more (by simp only;omega)|exact((hG.put (by omega)).put (by omega)).more (by simp only;omega)|exact(((hG.put (by omega)).put (by omega)).put (by omega)).more (by simp only;omega)|exact((((hG.put (by omega)).put (by omega)).put (by omega)).put (by omega)).more (by simp only;omega)|exact(((((hG.put (by omega)).put (by omega)).put (by omega)).put (by omega)).put (by omega)).more (by simp only;omega))⟩;rw[Qx];exact(hR.other (by first|(simp;done)|(simp;omega))).other (by first|(simp;done)|(simp;omega))
     |true=>
      rw[hle]at h0;by_cases hjl:A.length+1=s.rs.length
      ·rw[eq_true hjl]at hjq;cases hxd:x.2.2 with
       |true=>
        rw[hxd]at hrow;obtain⟨a0,a1,a2⟩:=rd3s hrow;have hh:hitR ns s.rs.length A.length x=false:=by simp[hitR,hcb,hle,hjl,hxd]
        rw[hh,if_neg Qz]at e1 e2;simp only[↓go1,gB3,go5,simprocAttr,h27,h28,h29,h9,h1,hlt,hj0,Qe,a0,a1,a2,Aa s341,h341,intsD_len',h0,hwl,hjq,hw];refine ih _ _ ⟨h27,h28,rfl,h9,h1,h2,h3,h6,A++[x],B,nl,t,by simp,by rw[←hA,e1];simp,by rw[←hB,e2],h10,hnl,?_,by simp only;omega,ht,(by first|exact hG.more (by simp only;omega)|exact(hG.put (by omega)).more (by simp only;omega)|exact((hG.put (by omega)).put (by omega)).more (by simp only;omega)|exact(((hG.put (by omega)).put (by omega)).put (by omega)).more (by simp only;omega)|exact((((hG.put (by omega)).put (by omega)).put (by omega)).put (by omega)).more (by simp only;omega)|exact(((((hG.put (by omega)).put (by omega)).put (by omega)).put (by omega)).put (by omega)).more (by simp only;omega))⟩;rw[Qx];exact(hR.other (by first|(simp;done)|(simp;omega))).other (by first|(simp;done)|(simp;omega))
       |false=>
        rw[hxd]at hrow;obtain⟨a0,a1,a2⟩:=rd3s hrow;rw[hxd]at hFx;have hh:hitR ns s.rs.length A.length x=true:=by simp[hitR,hcb,hle,hjl,hxd]
        rw[if_pos hh]at e1 e2;simp only[↓go1,gB3,go5,simprocAttr,h27,h28,h29,h9,h1,h2,h10,hlt,hj0,Qe,a0,a1,a2,h14,h15,Aa s341,h341,intsD_len',Aa sF,hFx,h0,hwl,hjq];refine Ao.intro ⟨by omega,rfl,(by first|exact(((hG.put (by omega)).put (by omega)).row (by omega) ht).grow|exact((((hG.put (by omega)).put (by omega)).row (by omega) ht).put (by omega)).grow)⟩ ?_;rw[BG hBn,←hBa];simp only[↓go1,go2,simprocAttr,h29,hw];refine ih _ _ ⟨h27,h28,rfl,h9,h1,h2,h3,h6,A++[chR k x],B++[x.1],false,_,by simp,by rw[←hA,e1];simp,by rw[←hB,e2];simp,rfl,by simp,?_,by simp only;omega,by first|(simp;done)|(simp;omega),(by first|exact(((hG.put (by omega)).put (by omega)).row (by omega) ht).app (by omega) (by simp only;omega)|exact((((hG.put (by omega)).put (by omega)).row (by omega) ht).put (by omega)).app (by omega) (by simp only;omega))⟩;rw[Qx]
        first|exact(Fr.set ((hR.other (by first|(simp;done)|(simp;omega))).other (by first|(simp;done)|(simp;omega)))).grow (by first|(simp;done)|(simp;omega)) (λh e=>ht h e.symm)|exact((Fr.set ((hR.other (by first|(simp;done)|(simp;omega))).other (by first|(simp;done)|(simp;omega)))).other (by first|(simp;done)|(simp;omega))).grow (by first|(simp;done)|(simp;omega)) (λh e=>ht h e.symm)
      ·rw[eq_false hjl]at hjq;obtain⟨a0,a1,a2⟩:=rd3s hrow;have hh:hitR ns s.rs.length A.length x=false:=by simp[hitR,hcb,hle,hjl]
       rw[hh,if_neg Qz]at e1 e2;simp only[↓go1,gB3,go5,simprocAttr,h27,h28,h29,h9,h1,hlt,hj0,Qe,a0,a1,a2,Aa s341,h341,intsD_len',h0,hwl,hjq,hw];refine ih _ _ ⟨h27,h28,rfl,h9,h1,h2,h3,h6,A++[x],B,nl,t,by simp,by rw[←hA,e1];simp,by rw[←hB,e2],h10,hnl,?_,by simp only;omega,ht,(by first|exact hG.more (by simp only;omega)|exact(hG.put (by omega)).more (by simp only;omega)|exact((hG.put (by omega)).put (by omega)).more (by simp only;omega)|exact(((hG.put (by omega)).put (by omega)).put (by omega)).more (by simp only;omega)|exact((((hG.put (by omega)).put (by omega)).put (by omega)).put (by omega)).more (by simp only;omega)|exact(((((hG.put (by omega)).put (by omega)).put (by omega)).put (by omega)).put (by omega)).more (by simp only;omega))⟩;rw[Qx];exact(hR.other (by first|(simp;done)|(simp;omega))).other (by first|(simp;done)|(simp;omega))
   ·obtain⟨st_s,st_m,st_c⟩:=st;obtain⟨h27,h28,h29,h9,h1,h2,h3,h6,A,B,nl,t,hAl,hA,hB,h10,hnl,hR,hc,ht,hG⟩:=hI;simp only at h27 h28 h29 h9 h1 h2 h3 h6 h10 hR hc hG;refine Ae dc249l0.eq_1 ?_;have m0:∀k,st_m [0] k=_:=λk=>hG.low 0 k (by omega)
    have m1:∀k,st_m [1] k=_:=λk=>hG.low 1 k (by omega)
    rw[QU,turnR,Qy]at hA;rw[QU,ET,Qy]at hB;rw[QU,Qy,hA]at hR;subst hnl hB;simp only[↓go1,gB3,go5,simprocAttr,h28,h29,h9,h10,h3,h6,Qo,m0,m1,row_da,row_ce];refine .inr ⟨_,_,rfl,rfl,.inr ⟨_,_,rfl,rfl,.inl rfl,.inl rfl,.inl rfl,.inr ⟨[14],A6 (turnR ns k s.rs.length 0 s.rs),3,?_,rfl,?_,?_⟩,trivial⟩,.inl (.inl rfl),.inl (.inl rfl),trivial⟩
    ·rw[AU,turnR_len]
    ·intro x hx;obtain⟨y,_,rfl⟩:=QE.1 hx;exact⟨rfl,rfl⟩
    ·intro j x hx;have:=Fr.toFlat (m:=st_m) (i:=[14]) (p:=0) (l:=turnR ns k s.rs.length 0 s.rs) (λk x hk=>by rw[QI];exact hR k x hk) j x hx;rw[QI]at this;rw[←this];simp[Mem.put]
def F249_eq(s:Sc)(bn:Bool)(ns:List Int)(k:Nat)(h:TnOk (s,bn,ns,k)):F249 [.agg (scC s),.slice bn [] (AS ns),.fn k []]=some (resTn (s,bn,ns,k)):=BB (mk:=mkTn) (a:=(s,bn,ns,k)) mkTn_inj h
def S143:Summs:=AC [(249,Ac F249)]
def R143:List D->Option D:=RF S143 dc143 [.cell (some 4) 4,.t 5] 18
def ko143:(Ac R143).ok Qc 143:=AH fn143 (Ab ok249 Ad)
def R143_eq(s:Sc)(bn:Bool)(ns:List Int)(hl:s.rs.length<=1000)(hn:s.nl=true->s.rs=[])(hs:ns.length<=1000):R143 [.agg (scC s),.slice bn [] (AS ns)]=some (.tup [.agg (scC (BC s ns 250).1),.int .i64 (BC s ns 250).2.2]):=by
 refine AE (Qb rfl) ?_;unfold dc143;have h249:=F249_eq s bn ns 250 ⟨hl,hn,hs,by simp⟩;unfold resTn at h249;simp only at h249;generalize BC s ns 250=r at *;unfold scC at *;simp only[↓go1,gB3,go5,simprocAttr,Al S143 249,h249]
 all_goals first|rfl|exact⟨rfl,rfl⟩|simp[*]
def S144:Summs:=AC [(249,Ac F249)]
def R144:List D->Option D:=RF S144 dc144 [.cell (some 4) 4,.t 5] 18
def ko144:(Ac R144).ok Qc 144:=AH fn144 (Ab ok249 Ad)
def R144_eq(s:Sc)(bn:Bool)(ns:List Int)(hl:s.rs.length<=1000)(hn:s.nl=true->s.rs=[])(hs:ns.length<=1000):R144 [.agg (scC s),.slice bn [] (AS ns)]=some (.tup [.agg (scC (BC s ns 251).1),.int .i64 (BC s ns 251).2.2]):=by
 refine AE (Qb rfl) ?_;unfold dc144;have h249:=F249_eq s bn ns 251 ⟨hl,hn,hs,by simp⟩;unfold resTn at h249;simp only at h249;generalize BC s ns 251=r at *;unfold scC at *;simp only[↓go1,gB3,go5,simprocAttr,Al S144 249,h249]
 all_goals first|rfl|exact⟨rfl,rfl⟩|simp[*]
def S145:Summs:=AC [(249,Ac F249)]
def R145:List D->Option D:=RF S145 dc145 [.cell (some 4) 4,.t 5,.t 6] 13
def ko145:(Ac R145).ok Qc 145:=AH fn145 (Ab ok249 Ad)
def R145_eq(s:Sc)(bn:Bool)(ns:List Int)(hl:s.rs.length<=1000)(hn:s.nl=true->s.rs=[])(hs:ns.length<=1000):R145 [.agg (scC s),.slice bn [] (AS ns)]=some (.tup [.agg (scC (BC s ns 252).1),.slice (decide ((BC s ns 252).2.1=[])) [] (AS (BC s ns 252).2.1),.int .i64 (BC s ns 252).2.2]):=by
 refine AE (Qb rfl) ?_;unfold dc145;have h249:=F249_eq s bn ns 252 ⟨hl,hn,hs,by simp⟩;unfold resTn at h249;simp only at h249;generalize BC s ns 252=r at *;unfold scC at *;simp only[↓go1,gB3,go5,simprocAttr,Al S145 249,h249]
 all_goals first|rfl|exact⟨rfl,rfl⟩|simp[*]
def bitI(b:Bool):Int:=if b=true then 1 else 0
def bysD(l:List Int):List D:=l.map (.int .u8)
def bysB(l:List Int):Bs:=l.map λn=>UInt8.ofNat n.toNat
def bysD_len(l:List Int):(bysD l).length=l.length:=Qg ..
def bysD_un:∀l:List Int,Bw (bysD l)=some (bysB l)
 |[]=>rfl
 |n::r=>by
  show(Bw (bysD r)).map _=_;rw[bysD_un r];rfl
def rowI(x:Rw):List Int:=[IntKind.u8.wrap x.1,bits .or .u8 (bitI x.2.1) (IntKind.u8.wrap (bitI x.2.2*2))]
def rowsI:List Rw->List Int
 |[]=>[]
 |x::r=>rowI x++rowsI r
def packB(s:Sc):Bs:=if Dx s 6=true then []else bysB ([IntKind.u8.wrap s.mx,bitI s.cas,IntKind.u8.wrap s.la,IntKind.u8.wrap s.rs.length]++rowsI s.rs)
def packE(s:Sc):Int:=if Dx s 6=true then 2 else 0
def S386:Summs:=AC []
def R386:List D->Option D:=RF S386 dc386 [.t 2] 4
def ko386:(Ac R386).ok Qc 386:=AH fn386 Ad
def R386_eq(b:Bool):R386 [.bool b]=some (.int .u8 (bitI b)):=by
 refine AE (Qb rfl) ?_;unfold dc386;cases b with
 |true=>
  simp only[↓go1,go2,go3,go5,simprocAttr]
  all_goals first|rfl|exact⟨rfl,rfl⟩|simp[*]
 |false=>
  simp only[↓go1,go2,go3,go5,simprocAttr]
  all_goals first|rfl|exact⟨rfl,rfl⟩|simp[*]
def S340:Summs:=AC [(191,Ac Gk),(335,Ac R335),(386,Ac R386)]
def R340:List D->Option D:=RF S340 dc340 [.t 2,.t 3] 49
def ko340:(Ac R340).ok Qc 340:=AH fn340 (Ab ko191 (Ab ko335 (Ab ko386 Ad)))
def R340_eq(s:Sc)(hl:s.rs.length<=1000):R340 [.agg (scC s)]=some (.tup [.str (packB s),.int .i64 (packE s)]):=by
 refine AE (Qb rfl) ?_;have s335:S340 335=some (Ac R335):=rfl;have s386:S340 386=some (Ac R386):=rfl;unfold dc340;have h191:=Gj s 6 false hl;have h335:=R335_eq;have h386:=R386_eq;unfold packB packE;unfold secE at h191;unfold scC at *;cases hb:Dx s 6 with
 |true=>
  rw[hb]at h191;simp only[if_true]at h191;simp only[↓go1,gB3,go5,simprocAttr,Al S340 191,h191,Aa s335,h335]
  (refine Ao.intro (Aj ?_) ?_;first|rfl|simp[A5,AM,rds,Ai,Ac])
  simp only[↓go1,gB3,go5,simprocAttr]
  all_goals first|rfl|exact⟨rfl,rfl⟩|simp[*]
 |false=>
  rw[hb]at h191;simp only[if_false,Ql]at h191;simp only[↓go1,gB3,go5,simprocAttr,Al S340 191,h191,Aa s335,h335]
  (refine Ao.intro (Aj ?_) ?_;first|rfl|simp[A5,AM,rds,Ai,Ac])
  simp only[↓go1,gB3,go5,simprocAttr,Aa s386,h386,AU]
  (refine Ao.intro (Aj ?_) ?_;first|rfl|simp[A5,AM,rds,Ai,Ac])
  simp only[↓go1,gB3,go5,simprocAttr,AU];refine Bk (n:=s.rs.length) (I:=λj st=>st.s 26= .slice s.nl [] (A6 s.rs)∧st.s 27= .int .i64 s.rs.length∧st.s 28= .int .i64 (j:Int)∧∃B t,B.length=4+2*j∧B++rowsI (s.rs.drop j)=[IntKind.u8.wrap s.mx,bitI s.cas,IntKind.u8.wrap s.la,IntKind.u8.wrap s.rs.length]++rowsI s.rs∧st.s 4= .slice false t (bysD B)∧LG 1 _ 5 st.m st.c false t) (λj hj ih st g hI=>?_) (λst g hI=>?_) 0 (Qq _) _ _ ⟨rfl,rfl,rfl,_,_,rfl,rfl,rfl,⟨λ_ _ _=>rfl,.inr ⟨_,rfl,by omega,by simp only;omega,by simp[Mem.put,Upd.app]⟩,by simp only;omega⟩⟩
  ·obtain⟨st_s,st_m,st_c⟩:=st;obtain⟨h26,h27,h28,B,t,hBl,hB,h4,hG⟩:=hI;simp only at h26 h27 h28 h4 hG;refine Ae dc340l0.eq_1 ?_;have hlt:((j:Int)<s.rs.length):=by omega
   have hj0:=nJ (j:=j);have hw:=wJ (j:=j) (by omega);have hat:=EW hj;have hd:s.rs.drop j=s.rs[j]::s.rs.drop (j+1):=QA hj;rw[hd]at hB;generalize s.rs[j]=x at hat hB;have hBa:bysD B++[.int .u8 (IntKind.u8.wrap x.1),.int .u8 (bits .or .u8 (bitI x.2.1) (IntKind.u8.wrap (bitI x.2.2*2)))]=bysD (B++rowI x):=by simp[bysD,rowI]
   have hsh:∀a:Int,AY .shl (.int .u8 a) (.int .u64 1)=some (.int .u8 (IntKind.u8.wrap (a*2))):=λa=>rfl
   have hbl:(bysD B).length=4+2*j:=by rw[bysD_len];exact hBl
   simp only[↓go1,gB3,go5,simprocAttr,h26,h27,h28,h4,hlt,hj0,Qe,hat,Aa s386,h386,hsh];refine Ao.intro ⟨by simp only[hbl];omega,rfl,(by first|exact hG.grow|exact(hG.put (by omega)).grow|exact((hG.put (by omega)).put (by omega)).grow|exact(((hG.put (by omega)).put (by omega)).put (by omega)).grow|exact((((hG.put (by omega)).put (by omega)).put (by omega)).put (by omega)).grow|exact(((((hG.put (by omega)).put (by omega)).put (by omega)).put (by omega)).put (by omega)).grow)⟩ ?_;rw[hBa];simp only[↓go1,gB3,go5,simprocAttr]
   (refine Ao.intro (Aj ?_) ?_;first|rfl|simp[A5,AM,rds,Ai,Ac])
   simp only[↓go1,go2,simprocAttr,h28,hw];exact ih _ _ ⟨h26,h27,rfl,_,_,by rw[Qk,hBl];simp[rowI];omega,by rw[←hB,rowsI,Qx],rfl,(by first|exact LG.nil (hG.appf (by omega) (by simp only;omega))|exact LG.nil ((hG.put (by omega)).appf (by omega) (by simp only;omega))|exact LG.nil (((hG.put (by omega)).put (by omega)).appf (by omega) (by simp only;omega))|exact LG.nil ((((hG.put (by omega)).put (by omega)).put (by omega)).appf (by omega) (by simp only;omega))|exact LG.nil (((((hG.put (by omega)).put (by omega)).put (by omega)).put (by omega)).appf (by omega) (by simp only;omega))|exact LG.nil ((((((hG.put (by omega)).put (by omega)).put (by omega)).put (by omega)).put (by omega)).appf (by omega) (by simp only;omega)))⟩
  ·obtain⟨h26,h27,h28,B,t,hBl,hB,h4,hG⟩:=hI;refine Ae dc340l0.eq_1 ?_;rw[QU,rowsI,Qy]at hB;subst hB;simp only[↓go1,gB3,go5,simprocAttr,h27,h28,h4,Qo,bysD_un]
   all_goals first|rfl|exact⟨rfl,rfl⟩|simp[*]
end Go.Vd
namespace Go.Vd
open Go.Proofs
def dc384:DC:=(sr [ob 1 0,cb 2 false] (sr [ff 3 1 1,ll 4 3,bi 5 .geq 4 0,mm 6 5,gf 7 1 1 3 true,gl 8 7 3 true,gf 9 0 1 3 true,gl 10 9 3 true,gn 11 true 10 3 true,gt 12 .leq 8 11 3 true,pa 13 6 12,mm 2 13] .ret))
def fn384:Fn Qc 384 14 dc384 [.t 2]:=Am func384
def dc385:DC:=(sr [ob 1 0,ci 2 0] (sr [ff 3 0 1,ll 4 3,nn 5 true 4,ff 6 1 1,ll 7 6,bt 8 .sub 5 7,mm 2 8] .ret))
def fn385:Fn Qc 385 9 dc385 [.t 2]:=Am func385
def dc404:DC:=(sr [cb 2 false] (sr [mm 3 0,bi 4 .geq 3 1,mm 5 4,gm 6 0 2 true,gi 7 .leq 6 8 2 true,pa 8 5 7,mm 2 8] .ret))
def fn404:Fn Qc 404 9 dc404 [.t 2]:=Am func404
def dc405:DC:=(sr [ob 2 0,al 4 [zs,zi,zi]] (sr [mm 5 1,ff 6 2 2,st 1 6 5] (sr [lk 7 3 2,st 3 4 7] .ret)))
def fn405:Fn Qc 405 8 dc405 [.cell (some 3) 4]:=Am func405
def dc383l0:DC:=(sr [bt 44 .lss 43 42] (.seq (cd 44 .skip (.exit 1)) (.seq (.block 2 (sr [ii 45 1 41 43,ll 46 45,mm 8 46] (.row [mm 47 6,oo 48 (.bin .shl (.t 47) (.c (.int .u64 8))),mm 49 8,oo 50 (.conv .u64 (.t 49)),bt 51 .or 48 50,mm 6 51]))) (.row [bi 52 .add 43 1,mm 43 52]))))
def dc383:DC:=(sr [ob 2 0,oo 4 (.mv (.c (.int .u64 0))),al 5 [zs,zi,zi]] (.seq (.block 0 (sr [ff 10 2 2,ll 11 10,bi 12 .neq 11 0,mm 9 12] (cd 9 (.seq (.drawn [lk 13 3 2,oo 4 (.mv (.c (.int .u64 0))),st 3 5 13] []) .ret) (sr [lk 15 3 2,c1 16 384 15,nt 17 16,mm 18 17,gm 19 1 3 false,gc 20 404 [(.t 19)] 3 false,og 21 (.un .not (.t 20)) 3 false,po 22 18 21,mm 14 22] (cd 14 (sr [lk 23 3 2,cc 24 405 [(.t 23),(.c (.int .i64 2))],oo 4 (.mv (.c (.int .u64 0))),st 3 5 24] .ret) (sr [lk 26 3 2,c1 27 385 26,mm 28 1,bt 29 .lss 27 28,mm 25 29] (cd 25 (sr [lk 30 3 2,cc 31 405 [(.t 30),(.c (.int .i64 3))],oo 4 (.mv (.c (.int .u64 0))),st 3 5 31] .ret) .skip))))))) (sr [oo 6 (.mv (.c (.int .u64 0)))] (.seq (sr [ff 32 0 2,ll 33 32,ff 34 1 2,ll 35 34,ff 36 1 2,ll 37 36,mm 38 1,bt 39 .add 37 38,oo 40 (.cuts (.t 33) (some (.t 35)) (some (.t 39))),oo 41 (.s2b (.t 40)),nn 42 false 41,ci 43 0] (.block 1 (.loop dc383l0))) (sr [ff 53 1 2,ll 54 53,mm 55 1,bt 56 .add 54 55,ff 57 1 2,st 1 57 56] (.seq (.drawn [mm 58 6,lk 59 3 2,mm 4 58,st 3 5 59] []) .ret))))))
def fn383:Fn Qc 383 60 dc383 [.t 4,.cell (some 3) 5]:=Am func383
def dc333:DC:=(sr [ci 2 0] (sr [mm 6 0,nk 7 6,lk 8 3 7,cc 9 383 [(.t 8),(.c (.int .i64 1))],mm 5 9,xx 10 0 5,xx 11 1 5,al 4 [zs,zi,zi],mm 3 10,st 3 4 11] (sr [mm 12 0,lk 13 3 4,nk 14 12,st 3 14 13] (sr [mm 15 3,oo 16 (.conv .i64 (.t 15)),mm 2 16] .ret))))
def fn333:Fn Qc 333 17 dc333 [.t 2]:=Am func333
def dc334:DC:=(sr [ob 1 0,ci 2 0] (.seq (.block 0 (sr [ff 4 2 1,ll 5 4,bi 6 .neq 5 0,mm 3 6] (cd 3 (sr [ff 7 2 1,ll 8 7,mm 2 8] .ret) (sr [lk 10 3 1,c1 11 384 10,nt 12 11,mm 9 12] (cd 9 (sr [ci 2 2] .ret) (sr [lk 14 3 1,c1 15 385 14,bi 16 .gtr 15 0,mm 13 16] (cd 13 (sr [ci 2 4] .ret) .skip))))))) (sr [ci 2 0] .ret)))
def fn334:Fn Qc 334 17 dc334 [.t 2]:=Am func334
def dc240l0:DC:=(sr [bt 30 .lss 29 28] (.seq (cd 30 .skip (.exit 0)) (.seq (.block 1 (sr [mm 31 4,c1 32 333 31,mm 33 4,c1 34 333 33,mm 8 32,mm 9 34] (sr [mm 35 7,mm 36 35,gm 37 9 1 false,gi 38 .gtr 37 3 1 false,po 39 36 38,mm 7 39] (.row [ff 40 3 5,ll 41 40,mm 42 8,mm 43 9,bi 44 .and 43 1,bi 45 .neq 44 0,mm 46 9,bi 47 .and 46 2,bi 48 .neq 47 0,oo 49 (.build [zi,zb,zb] [(0,1,(.t 42)),(1,1,(.t 45)),(2,1,(.t 48))]),bl 50 228 3 49,ap 51 228 3 16 41 50,ff 52 3 5,st 1 52 51])))) (.row [bi 53 .add 29 1,mm 29 53]))))
def dc240:DC:=(sr [al 2 [zi,zb,zi,zn],ci 3 0] (sr [mm 11 0,oo 12 (.build [zs,zi,zi] [(0,1,(.t 11))]),ob 13 12,mm 4 13] (sr [mm 14 4,c1 15 333 14,oo 16 (.build [zi,zb,zi,zn] [(0,1,(.t 15))]),al 5 [zi,zb,zi,zn],st 4 5 16] (sr [mm 17 4,c1 18 333 17,mm 6 18] (sr [mm 19 6,bi 20 .eql 19 1,mm 21 4,c1 22 333 21,ff 23 1 5,st 1 23 20,ff 24 2 5,st 1 24 22] (sr [mm 25 6,bi 26 .gtr 25 1,mm 7 26] (.seq (sr [mm 27 4,c1 28 333 27,ci 29 0] (.block 0 (.loop dc240l0))) (.seq (sr [mm 54 4,nk 55 54,lk 56 3 55,c1 57 334 56,mm 10 57] (.block 2 (sr [mm 59 10,bi 60 .eql 59 3,mm 58 60] (cd 58 (sr [oo 61 (.build [zi,zb,zi,zn] []),mm 62 10,st 4 2 61,mm 3 62] .ret) (.seq (.drawn [mm 64 10,bi 65 .neq 64 0,mm 66 65,gm 67 7 2 false,po 68 66 67,mm 69 68,og 70 (.load (some 4) (.t 5)) 5 false,gc 71 335 [] 5 false,gc 72 191 [(.t 70),(.t 71)] 5 false,gi 73 .neq 72 0 5 false,po 74 69 73,mm 63 74] [(7,6)]) (cd 63 (sr [oo 75 (.build [zi,zb,zi,zn] []),st 4 2 75,ci 3 4] .ret) .skip)))))) (sr [lk 76 4 5,st 4 2 76,ci 3 0] .ret)))))))))
def fn240:Fn Qc 240 77 dc240 [.cell (some 4) 2,.t 3]:=Am func240
def dc292l0:DC:=(sr [bt 14 .lss 13 12] (.seq (cd 14 .skip (.exit 0)) (.seq (.block 1 (sr [mm 15 13,mm 5 15] (.seq (.drawn [mm 16 0,mm 17 5,ii 18 1 16 17,ll 19 18,mm 20 1,mm 21 5,ii 22 1 20 21,ll 23 22,bt 24 .neq 19 23] []) (cd 24 (sr [cb 4 false] .ret) .skip)))) (.row [bi 25 .add 13 1,mm 13 25]))))
def dc292:DC:=(sr [cb 4 false] (.seq (sr [mm 6 0,nn 7 false 6,mm 8 1,nn 9 false 8,bt 10 .neq 7 9] (cd 10 (sr [cb 4 false] .ret) .skip)) (.seq (sr [mm 11 0,nn 12 false 11,ci 13 0] (.block 0 (.loop dc292l0))) (sr [cb 4 true] .ret))))
def fn292:Fn Qc 292 26 dc292 [.t 4]:=Am func292
def dc359l0:DC:=(sr [bt 14 .lss 13 12] (.seq (cd 14 .skip (.exit 0)) (.seq (.block 1 (sr [mm 15 13,mm 5 15] (.seq (.drawn [mm 16 0,mm 17 5,ii 18 3 16 17,lk 19 3 18,mm 20 1,mm 21 5,ii 22 3 20 21,lk 23 3 22,oo 24 (.seq true [(0,0),(1,1),(1,2)] (.t 19) (.t 23))] []) (cd 24 (sr [cb 4 false] .ret) .skip)))) (.row [bi 25 .add 13 1,mm 13 25]))))
def dc359:DC:=(sr [cb 4 false] (.seq (sr [mm 6 0,nn 7 false 6,mm 8 1,nn 9 false 8,bt 10 .neq 7 9] (cd 10 (sr [cb 4 false] .ret) .skip)) (.seq (sr [mm 11 0,nn 12 false 11,ci 13 0] (.block 0 (.loop dc359l0))) (sr [cb 4 true] .ret))))
def fn359:Fn Qc 359 26 dc359 [.t 4]:=Am func359
def dc293:DC:=(sr [ob 2 0,ob 3 1,cb 4 false] (sr [ff 5 0 2,ll 6 5,ff 7 0 3,ll 8 7,bt 9 .eql 6 8,mm 10 9,gf 11 1 2 5 true,gl 12 11 5 true,gf 13 1 3 5 true,gl 14 13 5 true,og 15 (.beq false (.t 12) (.t 14)) 5 true,pa 16 10 15,mm 17 16,gf 18 2 2 12 true,gl 19 18 12 true,gf 20 2 3 12 true,gl 21 20 12 true,gt 22 .eql 19 21 12 true,pa 23 17 22,mm 24 23,gf 25 3 2 19 true,gl 26 25 19 true,gf 27 3 3 19 true,gl 28 27 19 true,gc 29 359 [(.t 26),(.t 28)] 19 true,pa 30 24 29,mm 4 30] .ret))
def fn293:Fn Qc 293 31 dc293 [.t 4]:=Am func293
def dc189:DC:=(sr [ob 2 0,ob 3 1,cb 4 false] (.seq (sr [ff 5 4 2,ll 6 5,ff 7 4 3,ll 8 7,c2 9 292 6 8,nt 10 9,mm 11 10,gf 12 5 2 6 false,og 13 (.load (some 4) (.t 12)) 6 false,gf 14 5 3 6 false,og 15 (.load (some 4) (.t 14)) 6 false,gc 16 293 [(.t 13),(.t 15)] 6 false,og 17 (.un .not (.t 16)) 6 false,po 18 11 17] (cd 18 (sr [cb 4 false] .ret) .skip)) (sr [ff 19 0 2,ll 20 19,ff 21 0 3,ll 22 21,bt 23 .eql 20 22,mm 24 23,gf 25 1 2 5 true,gl 26 25 5 true,gf 27 1 3 5 true,gl 28 27 5 true,gt 29 .eql 26 28 5 true,pa 30 24 29,mm 31 30,gf 32 2 2 12 true,gl 33 32 12 true,gf 34 2 3 12 true,gl 35 34 12 true,gt 36 .eql 33 35 12 true,pa 37 31 36,mm 38 37,gf 39 3 2 19 true,gl 40 39 19 true,gf 41 3 3 19 true,gl 42 41 19 true,gt 43 .eql 40 42 19 true,pa 44 38 43,mm 45 44,gf 46 9 2 26 true,gl 47 46 26 true,gf 48 9 3 26 true,gl 49 48 26 true,og 50 (.beq false (.t 47) (.t 49)) 26 true,pa 51 45 50,mm 4 51] .ret)))
def fn189:Fn Qc 189 52 dc189 [.t 4]:=Am func189
def dc190:DC:=(sr [ob 1 0,al 2 [zu,zi,zi,zs,zn,zi,zb,zi,zn,zb]] (.seq (sr [ff 3 0 1,ll 4 3] (.block 0 (sr [bu 6 .eql 4 0,mm 5 6] (cd 5 (sr [ff 7 0 1,ll 8 7,ff 9 1 1,ll 10 9,oo 11 (.build [zu,zi,zi,zs,zn,zi,zb,zi,zn,zb] [(0,1,(.t 8)),(1,1,(.t 10))]),st 10 2 11] .ret) (sr [bu 13 .eql 4 2,mm 12 13] (cd 12 (sr [ff 14 0 1,ll 15 14,ff 16 2 1,ll 17 16,oo 18 (.build [zu,zi,zi,zs,zn,zi,zb,zi,zn,zb] [(0,1,(.t 15)),(2,1,(.t 17))]),st 10 2 18] .ret) (sr [bu 20 .eql 4 3,mm 19 20] (cd 19 (sr [ff 21 0 1,ll 22 21,ff 23 2 1,ll 24 23,ff 25 3 1,ll 26 25,oo 27 (.build [zu,zi,zi,zs,zn,zi,zb,zi,zn,zb] [(0,1,(.t 22)),(2,1,(.t 24)),(3,1,(.t 26))]),st 10 2 27] .ret) (sr [bu 29 .eql 4 4,mm 28 29] (cd 28 (sr [ff 30 0 1,ll 31 30,ff 32 5 1,lk 33 4 32,oo 34 (.build [zu,zi,zi,zs,zn,zi,zb,zi,zn,zb] [(0,1,(.t 31)),(5,4,(.t 33))]),st 10 2 34] .ret) (sr [bu 36 .eql 4 5,mm 35 36] (cd 35 (sr [ff 37 0 1,ll 38 37,ff 39 4 1,ll 40 39,oo 41 (.build [zu,zi,zi,zs,zn,zi,zb,zi,zn,zb] [(0,1,(.t 38)),(4,1,(.t 40))]),st 10 2 41] .ret) (sr [bu 43 .eql 4 6,mm 42 43] (cd 42 (sr [ff 44 0 1,ll 45 44,ff 46 9 1,ll 47 46,oo 48 (.build [zu,zi,zi,zs,zn,zi,zb,zi,zn,zb] [(0,1,(.t 45)),(9,1,(.t 47))]),st 10 2 48] .ret) .skip)))))))))))))) (sr [ff 49 0 1,ll 50 49,oo 51 (.build [zu,zi,zi,zs,zn,zi,zb,zi,zn,zb] [(0,1,(.t 50))]),st 10 2 51] .ret)))
def fn190:Fn Qc 190 52 dc190 [.cell (some 10) 2]:=Am func190
end Go.Vd
namespace Go.Vd
open Go.Proofs Go.RowKit
def scD(s:Bs)(p:Nat)(e:Int):List D:=[.str s,.int .i64 (p:Int),.int .i64 e]
def or0:∀n:Fin 256,bits .or .u64 0 ((n.val:Nat):Int)=n.val:=by decide
def or0'(x:UInt8):bits .or .u64 0 (x.toNat:Int)=x.toNat:=or0 ⟨x.toNat,x.toNat_lt⟩
def Br(s:Bs)(p:Nat)(e:Int):Int×Nat×Int:=if e≠0 then(0,p,e)else if h:p<s.length then(s[p].toNat,p+1,0)else(0,p,3)
def S384:Summs:=AC []
def R384:List D->Option D:=RF S384 dc384 [.t 2] 14
def ko384:(Ac R384).ok Qc 384:=AH fn384 Ad
def R384_eq(s:Bs)(p:Nat)(e:Int)(hp:p<=s.length):R384 [.agg (scD s p e)]=some (.bool true):=by
 refine AE (Qb rfl) ?_;unfold dc384;have h1:(0:Int)<=(p:Int):=by omega
 have h2:(p:Int)<=(s.length:Int):=by omega
 unfold scD;simp only[↓go1,gB3,go5,reduceIte,Qa,Qd,Qh,h1,h2]
 all_goals first|rfl|exact⟨rfl,rfl⟩|simp[*]
def S385:Summs:=AC []
def R385:List D->Option D:=RF S385 dc385 [.t 2] 9
def ko385:(Ac R385).ok Qc 385:=AH fn385 Ad
def R385_eq(s:Bs)(p:Nat)(e:Int)(hl:s.length<=1000000)(hp:p<=s.length):R385 [.agg (scD s p e)]=some (.int .i64 ((s.length-p:Nat):Int)):=by
 refine AE (Qb rfl) ?_;unfold dc385;have hw:IntKind.i64.wrap ((s.length:Int)-(p:Int))=((s.length-p:Nat):Int):=by rw[w64 (by omega) (by omega)];omega
 unfold scD;simp only[↓go1,gB3,go5,reduceIte,Qa,Qd,Qh,hw]
 all_goals first|rfl|exact⟨rfl,rfl⟩|simp[*]
def S404:Summs:=AC []
def R404:List D->Option D:=RF S404 dc404 [.t 2] 9
def ko404:(Ac R404).ok Qc 404:=AH fn404 Ad
def R404_eq:R404 [.int .i64 1]=some (.bool true):=by
 refine AE (Qb rfl) ?_;unfold dc404;simp only[↓go1,gB3,go5,reduceIte,Qa,Qd,reduceCtorEq,Zl]
 all_goals first|rfl|exact⟨rfl,rfl⟩|simp[*]
def S405:Summs:=AC []
def R405:List D->Option D:=RF S405 dc405 [.cell (some 3) 4] 8
def ko405:(Ac R405).ok Qc 405:=AH fn405 Ad
def R405_eq(s:Bs)(p:Nat)(e x:Int):R405 [.agg (scD s p e),.int .i64 x]=some (.agg (scD s p x)):=by
 refine AE (Qb rfl) ?_;unfold dc405;unfold scD;simp only[↓go1,gB3,go5,reduceIte,Qa,Qd,Qh,Qi,Qu]
 all_goals first|rfl|exact⟨rfl,rfl⟩|simp[*]
def S383:Summs:=AC [(384,Ac R384),(404,Ac R404),(405,Ac R405),(385,Ac R385)]
def R383:List D->Option D:=RF S383 dc383 [.t 4,.cell (some 3) 5] 60
def ko383:(Ac R383).ok Qc 383:=AH fn383 (Ab ko384 (Ab ko404 (Ab ko405 (Ab ko385 Ad))))
def R383_eq(s:Bs)(p:Nat)(e:Int)(hl:s.length<=1000000)(hp:p<=s.length):R383 [.agg (scD s p e),.int .i64 1]=some (.tup [.int .u64 (Br s p e).1,.agg (scD s (Br s p e).2.1 (Br s p e).2.2)]):=by
 refine AE (Qb rfl) ?_;have s404:S383 404=some (Ac R404):=rfl;have s405:S383 405=some (Ac R405):=rfl;have s385:S383 385=some (Ac R385):=rfl;unfold dc383;have h384:=R384_eq s p e hp;have h385:=R385_eq s p e hl hp;have h404:=R404_eq;have h405:=λx=>R405_eq s p e x
 unfold Br scD at *;by_cases c1:e=0
 ·subst c1;by_cases c2:p<s.length
  ·have c3:(((s.length-p:Nat):Int)<1)=False:=eq_false (by omega);have hw:IntKind.i64.wrap ((p:Int)+1)=((p+1:Nat):Int):=w64 (by omega) (by omega);have b1:((0:Int)<=((p+1:Nat):Int)∧((p+1:Nat):Int)<=((s.length:Nat):Int))=True:=eq_true (by omega);have b2:((0:Int)<=(p:Int)∧(p:Int)<=((p+1:Nat):Int))=True:=eq_true (by omega);have hcut:(s.drop p).take (p+1-p)=[s[p]]:=by rw[QA c2,show p+1-p=1 by omega];rfl
   have hby:AD [s[p]]=[.int .u8 (s[p].toNat:Int)]:=rfl;have hsh:AY .shl (.int .u64 0) (.int .u64 8)=some (.int .u64 0):=rfl;have hor:=or0' s[p];have hu:IntKind.u64.wrap (s[p].toNat:Int)=(s[p].toNat:Int):=u64_small (by omega) (by have:=s[p].toNat_lt;omega);have hw1:IntKind.i64.wrap ((0:Int)+1)=1:=rfl;simp only[ne_eq,not_true_eq_false,if_false,dif_pos c2];generalize s[p]=x at *;simp only[↓go1,gB3,go5,reduceIte,Qa,Qd,Qh,reduceCtorEq,Al S383 384,h384,Aa s385,h385,Aa s404,h404,c3,hw,b1,b2,Qe,hcut,hby];refine Ae dc383l0.eq_1 ?_;simp only[↓go1,gB3,go5,reduceIte,Qa,Qd,hsh,hor,hu,hw1,Int.toNat_zero,hcut,Int.zero_lt_one,Int.cast_ofNat_Int,Zq];refine Ae dc383l0.eq_1 ?_;simp only[↓go1,gB3,go5,reduceIte,Qa,Qd,Qh,Qi,Qu,reduceCtorEq,Qo,hw]
   repeat (refine Ao.intro (Aj ?_) ?_;first|rfl|simp[A5,AM,rds,Ai,Ac])
   simp only[↓go1,gB3,go5,reduceIte,Qa,Qd,Qh,Qi,Qu]
   all_goals first|rfl|exact⟨rfl,rfl⟩|simp[*]
  ·have c3:(((s.length-p:Nat):Int)<1)=True:=eq_true (by omega);simp only[ne_eq,not_true_eq_false,if_false,dif_neg c2];simp only[↓go1,gB3,go5,reduceIte,Qa,Qd,Qh,reduceCtorEq,Al S383 384,h384,Aa s385,h385,Aa s404,h404,Aa s405,h405,c3]
   all_goals first|rfl|exact⟨rfl,rfl⟩|simp[*]
 ·have c1':(e=0)=False:=eq_false c1;simp only[ne_eq,c1',not_false_eq_true,if_true];simp only[↓go1,gB3,go5,reduceIte,Qa,Qd,Qh,reduceCtorEq,c1']
  repeat (refine Ao.intro (Aj ?_) ?_;first|rfl|simp[A5,AM,rds,Ai,Ac])
  simp only[↓go1,gB3,go5,reduceIte,Qa,Qd,Qh]
  all_goals first|rfl|exact⟨rfl,rfl⟩|simp[*]
def S334:Summs:=AC [(384,Ac R384),(385,Ac R385)]
def R334:List D->Option D:=RF S334 dc334 [.t 2] 17
def ko334:(Ac R334).ok Qc 334:=AH fn334 (Ab ko384 (Ab ko385 Ad))
def R334_eq(s:Bs)(p:Nat)(e:Int)(hl:s.length<=1000000)(hp:p<=s.length):R334 [.agg (scD s p e)]=some (.int .i64 (if e≠0 then e else if p<s.length then 4 else 0)):=by
 refine AE (Qb rfl) ?_;have s385:S334 385=some (Ac R385):=rfl;unfold dc334;have h384:=R384_eq s p e hp;have h385:=R385_eq s p e hl hp;unfold scD at *;by_cases c1:e=0
 ·subst c1;have c3:((0:Int)<((s.length-p:Nat):Int))=(p<s.length):=propext (by omega);by_cases c2:p<s.length
  ·simp only[↓go1,gB3,go5,reduceIte,Qa,Qd,Qh,Zm,Al S334 384,h384,Aa s385,h385,c3,c2]
   all_goals first|rfl|exact⟨rfl,rfl⟩|simp[*]
  ·simp only[↓go1,gB3,go5,reduceIte,Qa,Qd,Qh,Zm,Al S334 384,h384,Aa s385,h385,c3,c2]
   all_goals first|rfl|exact⟨rfl,rfl⟩|simp[*]
 ·have c1':(e=0)=False:=eq_false c1;simp only[↓go1,gB3,go5,reduceIte,Qa,Qd,Qh,c1'];simp[c1]
def Ej{s:Bs}{p:Nat}{e:Int}(hp:p<=s.length):(Br s p e).2.1<=s.length∧0<=(Br s p e).1∧(Br s p e).1<256:=by
 unfold Br;split
 ·exact⟨hp,by simp,by simp⟩
 ·split
  ·rename_i h;have:=s[p].toNat_lt;exact⟨h,by first|(simp;done)|(simp;omega),by first|(simp;done)|(simp;omega)⟩
  ·exact⟨hp,by simp,by simp⟩
def S333:Summs:=AC [(383,Ac R383)]
def M333:List D->List D->Option (D×List D):=RM S333 dc333 [.t 2] 17 3
def ko333:(mQ 3 M333).ok Qc 333:=rm_ok fn333 (by decide) (Ab ko383 Ad)
def rdC_oth{m:Mem}{i j:Id}{o:Nat}{ds:List D}(h:j≠i):∀{n p:Nat},Ah (m.put i o ds) j p n=Ah m j p n
 |0,p=>rfl
 |n+1,p=>by simp only[Ah,Mem.put_other h,rdC_oth h]
def othW1{i fr:Id}(h:∀k,(i=k::fr)=False)(m:Mem)(k o:Nat)(ys:List D)(p n:Nat):Ah (m.put (k::fr) o ys) i p n=Ah m i p n:=rdC_oth (λe=>(h k).mp e)
def M333_eq(s:Bs)(p:Nat)(e:Int)(hl:s.length<=1000000)(hp:p<=s.length):M333 (scD s p e) []=some (.int .i64 (Br s p e).1,scD s (Br s p e).2.1 (Br s p e).2.2):=by
 refine rm_eq (by decide) rfl (Qb rfl) (λi m fr hcs hfr hni hni0=>?_);have h383:=R383_eq s p e hl hp;obtain⟨_,b1,b2⟩:=Ej (e:=e) hp;have hw:IntKind.i64.wrap (Br s p e).1=(Br s p e).1:=w64 (by omega) (by omega);generalize Br s p e=r at *;unfold scD at *;obtain⟨a0,a1,a2⟩:=rd3s hcs;unfold dc333;simp only[↓go1,gB3,go5,reduceIte,Qa,Qd,Qh,reduceCtorEq,a0,a1,a2,othW1 hni0,hni0,Al S333 383,h383,hw]
 first|exact ER.own (ER.new0 hfr (ER.new0 hfr ER.refl)) (by simp)|exact ER.own (ER.new0 hfr ER.refl) (by simp)
structure LX (ex:List Nat) (c0:Nat) (m0:Mem) (e:Nat) (m:Mem) (c:Nat) (nl:Bool) (t:Id):Prop where
 low:∀q o,q<c0->q∉ex->m [q] o=m0 [q] o
 tok:nl=true∨∃j,t=[j]∧c0<=j∧j<c∧m t 0=some (.tok (e+1))
 le:c0<=c
section
variable{ex:List Nat}{c0 e c c' c2 o q:Nat}{m0 m:Mem}{nl:Bool}{t:Id}{ds xs:List D}
def LX.start(h:c0<=c):LX ex c0 m0 e m0 c true t:=⟨λ_ _ _ _=>rfl,.inl rfl,h⟩
def LX.put(h:LX ex c0 m0 e m c nl t)(hc:c<=c'):LX ex c0 m0 e (m.put [c'] o ds) c nl t:=by
 obtain⟨h1,h2,h3⟩:=h;refine⟨λq o' hq hx=>?_,?_,h3⟩
 ·rw[Mem.put_other (by simp;omega)];exact h1 q o' hq hx
 ·rcases h2 with h2|⟨j,rfl,a,b,d⟩
  ·exact .inl h2
  ·exact .inr ⟨j,rfl,a,b,by rw[Mem.put_other (by simp;omega)];exact d⟩
def LX.putx(h:LX ex c0 m0 e m c nl t)(hq:q∈ex)(hl:q<c0):LX ex c0 m0 e (m.put [q] o ds) c nl t:=by
 obtain⟨h1,h2,h3⟩:=h;refine⟨λq' o' hq' hx=>?_,?_,h3⟩
 ·rw[Mem.put_other (by rintro e;simp only[Qp,and_true]at e;exact hx (e▸hq))];exact h1 q' o' hq' hx
 ·rcases h2 with h2|⟨j,rfl,a,b,d⟩
  ·exact .inl h2
  ·exact .inr ⟨j,rfl,a,b,by rw[Mem.put_other (by simp;omega)];exact d⟩
def LX.more(h:LX ex c0 m0 e m c nl t)(hc:c<=c'):LX ex c0 m0 e m c' nl t:=by
 obtain⟨h1,h2,h3⟩:=h;refine⟨h1,?_,by omega⟩;rcases h2 with h2|⟨j,a,b,b',d⟩
 ·exact .inl h2
 ·exact .inr ⟨j,a,b,by omega,d⟩
def LX.grow(h:LX ex c0 m0 e m c nl t):Grow m e (.slice nl t xs):=by
 rcases h.tok with h|⟨j,rfl,_,_,d⟩
 ·exact .inl h
 ·exact .inr ⟨d,by simp⟩
def LX.app(h:LX ex c0 m0 e m c nl t)(hc:c<=c')(h2:c'<c2):LX ex c0 m0 e (Upd.app m (Bg e [c'] (.slice nl t xs))) c2 false [c']:=by
 obtain⟨h1,ht,h3⟩:=h;refine⟨λq o hq hx=>?_,.inr ⟨c',rfl,by omega,h2,?_⟩,by omega⟩
 ·rw[CQ,if_neg (by simp;omega)];rcases ht with rfl|⟨j,rfl,a,b,d⟩
  ·rw[if_neg (by simp)];exact h1 q o hq hx
  ·rw[if_neg (by simp;omega)];exact h1 q o hq hx
 ·rw[CQ,if_pos ⟨rfl,rfl⟩]
def LX.low_app(h:LX ex c0 m0 e m c nl t)(hc:c<=c')(hq:q<c0):Upd.app m (Bg e [c'] (.slice nl t xs)) [q] o=m [q] o:=by
 obtain⟨h1,ht,h3⟩:=h;rw[CQ,if_neg (by simp;omega)];rcases ht with rfl|⟨j,rfl,a,b,d⟩
 ·rw[if_neg (by simp)]
 ·rw[if_neg (by simp;omega)]
end
def put_here{m:Mem}{i:Id}{o:Nat}{d:D}:m.put i o [d] i o=some d:=by simp[Mem.put]
def unpR(s:Bs):Nat->Nat->Int->List Rw×Bool×Nat×Int
 |0,p,e=>([],false,p,e)
 |k+1,p,e=>(((Br s p e).1,decide (bits .and .i64 (Br s (Br s p e).2.1 (Br s p e).2.2).1 1≠0),decide (bits .and .i64 (Br s (Br s p e).2.1 (Br s p e).2.2).1 2≠0))::(unpR s k (Br s (Br s p e).2.1 (Br s p e).2.2).2.1 (Br s (Br s p e).2.1 (Br s p e).2.2).2.2).1,
   decide (3<(Br s (Br s p e).2.1 (Br s p e).2.2).1)||(unpR s k (Br s (Br s p e).2.1 (Br s p e).2.2).2.1 (Br s (Br s p e).2.1 (Br s p e).2.2).2.2).2.1,(unpR s k (Br s (Br s p e).2.1 (Br s p e).2.2).2.1 (Br s (Br s p e).2.1 (Br s p e).2.2).2.2).2.2)
def sc0:Sc:=⟨0,false,0,true,[]⟩
def num1(s:Bs):=Br s 0 0
def num2(s:Bs):=Br s (num1 s).2.1 (num1 s).2.2
def num3(s:Bs):=Br s (num2 s).2.1 (num2 s).2.2
def num4(s:Bs):=Br s (num3 s).2.1 (num3 s).2.2
def Fu(s:Bs):=unpR s (num4 s).1.toNat (num4 s).2.1 (num4 s).2.2
def unpS(s:Bs):Sc:=⟨(num1 s).1,decide ((num2 s).1=1),(num3 s).1,decide ((num4 s).1.toNat=0),(Fu s).1⟩
def endE(n p:Nat)(e:Int):Int:=if e≠0 then e else if p<n then 4 else 0
def B6(s:Bs):Sc×Int:=if endE s.length (Fu s).2.2.1 (Fu s).2.2.2=3 then(sc0,3)else if endE s.length (Fu s).2.2.1 (Fu s).2.2.2≠0∨(decide (1<(num2 s).1)||(Fu s).2.1)=true∨Dx (unpS s) 6=true then(sc0,4)else(unpS s,0)
def unpR_bd{s:Bs}:∀{k p:Nat} {e:Int},p<=s.length->(unpR s k p e).2.2.1<=s.length
 |0,p,e,h=>h
 |k+1,p,e,h=>by
  show(unpR s k (Br s (Br s p e).2.1 (Br s p e).2.2).2.1 (Br s (Br s p e).2.1 (Br s p e).2.2).2.2).2.2.1<=_;exact unpR_bd (Ej (Ej h).1).1
def unpR_len{s:Bs}:∀{k p:Nat} {e:Int},(unpR s k p e).1.length=k
 |0,p,e=>rfl
 |k+1,p,e=>by simp[unpR,unpR_len]
def S240:Summs:=AC [(333,mQ 3 M333),(334,Ac R334),(335,Ac R335),(191,Ac Gk)]
def R240:List D->Option D:=RF S240 dc240 [.cell (some 4) 2,.t 3] 77
def ko240:(Ac R240).ok Qc 240:=AH fn240 (Ab ko333 (Ab ko334 (Ab ko335 (Ab ko191 Ad))))
def R240_eq(s:Bs)(hl:s.length<=1000000):R240 [.str s]=some (.tup [.agg (scC (B6 s).1),.int .i64 (B6 s).2]):=by
 refine AE (Qb rfl) ?_;have s333:S240 333=some (mQ 3 M333):=rfl;have s335:S240 335=some (Ac R335):=rfl;have s191:S240 191=some (Ac Gk):=rfl;unfold dc240;have b1:(num1 s).2.1<=s.length∧0<=(num1 s).1∧(num1 s).1<256:=Ej (Qq _);have b2:(num2 s).2.1<=s.length∧0<=(num2 s).1∧(num2 s).1<256:=Ej b1.1;have b3:(num3 s).2.1<=s.length∧0<=(num3 s).1∧(num3 s).1<256:=Ej b2.1;have b4:(num4 s).2.1<=s.length∧0<=(num4 s).1∧(num4 s).1<256:=Ej b3.1;have g1:M333 [.str s,.int .i64 0,.int .i64 0] []=some (.int .i64 (num1 s).1,scD s (num1 s).2.1 (num1 s).2.2):=M333_eq s 0 0 hl (Qq _);have g2:M333 (scD s (num1 s).2.1 (num1 s).2.2) []=some (.int .i64 (num2 s).1,scD s (num2 s).2.1 (num2 s).2.2):=M333_eq s _ _ hl b1.1;have g3:M333 (scD s (num2 s).2.1 (num2 s).2.2) []=some (.int .i64 (num3 s).1,scD s (num3 s).2.1 (num3 s).2.2):=M333_eq s _ _ hl b2.1;have g4:M333 (scD s (num3 s).2.1 (num3 s).2.2) []=some (.int .i64 (num4 s).1,scD s (num4 s).2.1 (num4 s).2.2):=M333_eq s _ _ hl b3.1;have hn:((num4 s).1.toNat:Int)=(num4 s).1:=Qr b4.2.1;have hb5:(Fu s).2.2.1<=s.length:=unpR_bd b4.1;have hlA:(Fu s).1.length=(num4 s).1.toNat:=unpR_len;have h334:R334 [.agg [.str s,.int .i64 ((Fu s).2.2.1:Int),.int .i64 (Fu s).2.2.2]]=some (.int .i64 (endE s.length (Fu s).2.2.1 (Fu s).2.2.2)):=R334_eq s _ _ hl hb5;have h335:=R335_eq;have h191:=Gj (unpS s) 6 false (by show(Fu s).1.length<=1000;omega);have hA:Fu s=unpR s (num4 s).1.toNat (num4 s).2.1 (num4 s).2.2:=rfl;unfold B6;unfold secE at h191;unfold scD at g1 g2 g3 g4;have hS:unpS s=⟨(num1 s).1,decide ((num2 s).1=1),(num3 s).1,decide ((num4 s).1.toNat=0),(Fu s).1⟩:=rfl;unfold scC at h191 ⊢;generalize Dx (unpS s) 6=bad at *;generalize endE s.length (Fu s).2.2.1 (Fu s).2.2.2=en at *;rw[hS]at h191 ⊢;clear hS;generalize Fu s=tot at *;generalize num1 s=n1 at *;generalize num2 s=n2 at *;generalize num3 s=n3 at *;generalize num4 s=n4 at *;obtain⟨v4,p4,e4⟩:=n4;simp only at *;generalize hn4:v4.toNat=n at *;rw[←hn]at g4;simp only[gB1,↓go1,go5,simprocAttr,Ag s333,mQ_run,g1,g2,g3,g4];refine Bk (n:=n) (I:=λj st=>st.s 28= .int .i64 (n:Int)∧st.s 29= .int .i64 (j:Int)∧st.s 4= .ptr [4] 0∧st.s 5= .ptr [9] 0∧st.s 2= .ptr [0] 0∧∃A od p e nl t,A.length=j∧p<=s.length∧A++(unpR s (n-j) p e).1=tot.1∧(od||(unpR s (n-j) p e).2.1)=(decide (1<n2.1)||tot.2.1)∧(unpR s (n-j) p e).2.2=tot.2.2∧st.s 7= .bool od∧(st.m [4] 0=some (.str s)∧st.m [4] 1=some (.int .i64 (p:Int))∧st.m [4] 2=some (.int .i64 e))∧(st.m [9] 0=some (.int .i64 n1.1)∧st.m [9] 1=some (.bool (decide (n2.1=1)))∧st.m [9] 2=some (.int .i64 n3.1)∧st.m [9] 3=some (.slice nl t (A6 A)))∧nl=decide (j=0)∧LX [4,9] 10 _ 228 st.m st.c nl t) (λj hj ih st g hI=>?_) (λst g hI=>?_) 0 (Qq _) _ _ ⟨rfl,rfl,rfl,rfl,rfl,[],decide (1<n2.1),p4,e4,true,[],rfl,b4.1,by rw[hA];rfl,by rw[hA];rfl,by rw[hA];rfl,rfl,?_,?_,rfl,LX.start (by simp only;omega)⟩
 rotate_left 2
 ·exact⟨by simp[Mem.put],by simp[Mem.put],by simp[Mem.put]⟩
 ·exact⟨by simp[Mem.put],by simp[Mem.put],by simp[Mem.put],by simp[Mem.put,A6]⟩
 ·obtain⟨st_s,st_m,st_c⟩:=st;obtain⟨h28,h29,h4,h5,h2,A,od,p,e,nl,t,hAl,hp,hAA,hod,hpp,h7,⟨x0,x1,x2⟩,⟨y0,y1,y2,y3⟩,hnl,hG⟩:=hI;simp only at h28 h29 h4 h5 h2 h7 x0 x1 x2 y0 y1 y2 y3 hG;refine Ae dc240l0.eq_1 ?_;have hlt:((j:Int)<n):=by omega
  have hj0:=nJ (j:=j);have hw:=wJ (j:=j) (by omega);have q1:=Ej (e:=e) hp;have k1:=M333_eq s p e hl hp;have k2:=M333_eq s _ (Br s p e).2.2 hl q1.1;have q2:=Ej (e:=(Br s p e).2.2) q1.1;have hnj:n-j=(n-(j+1))+1:=by omega
  rw[hnj]at hAA hod hpp;unfold unpR at hAA hod hpp;simp only at hAA hod hpp;generalize Br s p e=a at *;generalize Br s a.2.1 a.2.2=b at *;unfold scD at k1 k2;have hG1:=(hG.putx (q:=4) (o:=0) (ds:=[.str s,.int .i64 (a.2.1:Int),.int .i64 a.2.2]) (by simp) (by omega)).putx (q:=4) (o:=0) (ds:=[.str s,.int .i64 (b.2.1:Int),.int .i64 b.2.2]) (by simp) (by omega);have hBn:nl=true->A6 A=[]:=by
   rw[hnl];intro h;have:A=[]:=Qv.1 (by rw[hAl];simpa using h);rw[this];rfl
  have hBa:A6 A++[.agg [.int .i64 a.1,.bool (decide (bits .and .i64 b.1 1≠0)),.bool (decide (bits .and .i64 b.1 2≠0))]]=A6 (A++[(a.1,decide (bits .and .i64 b.1 1≠0),decide (bits .and .i64 b.1 2≠0))]):=by simp[A6,rwD]
  have hBl:(A6 A).length<256:=by rw[AU];omega
  have h49:(9=4)=False:=by simp
  have h94:(4=9)=False:=by simp
  cases od with
  |true=>
   simp only[gB1,↓go1,go5,simprocAttr,h28,h29,hlt,h4,h5,h7,Ag s333,mQ_run,x0,x1,x2,y3,k1,k2];refine Ao.intro ⟨by omega,rfl,(LX.put hG1 (by omega)).grow⟩ ?_;rw[BG hBn,hBa];have z:∀(c1 c2 k:Nat)(ds:List D)(xs:List D),st_c<=c1->st_c<=c2->∀q,q<10->Upd.app ((((st_m.put [4] 0 [.str s,.int .i64 (a.2.1:Int),.int .i64 a.2.2]).put [4] 0 [.str s,.int .i64 (b.2.1:Int),.int .i64 b.2.2]).put [c1] 0 ds)) (Bg 228 [c2] (.slice nl t xs)) [q] k=((st_m.put [4] 0 [.str s,.int .i64 (a.2.1:Int),.int .i64 a.2.2]).put [4] 0 [.str s,.int .i64 (b.2.1:Int),.int .i64 b.2.2]) [q] k:=λc1 c2 k ds xs e1 e2 q hq=>by
    have:=hG.le;rw[LX.low_app (LX.put hG1 e1) e2 hq,Mem.put_other (by simp;omega)]
   have zz:=λ(c1 c2 k:Nat)(ds:List D)(xs:List D) e1 e2=>z c1 c2 k ds xs e1 e2 9 (by omega)
   have z4:=λ(c1 c2 k:Nat)(ds:List D)(xs:List D) e1 e2=>z c1 c2 k ds xs e1 e2 4 (by omega)
   have isS:∀(c1 c2:Nat)(ds xs:List D),st_c<=c1->st_c<=c2->(Ah (Upd.app ((((st_m.put [4] 0 [.str s,.int .i64 (a.2.1:Int),.int .i64 a.2.2]).put [4] 0 [.str s,.int .i64 (b.2.1:Int),.int .i64 b.2.2]).put [c1] 0 ds)) (Bg 228 [c2] (.slice nl t xs))) [9] 3 1).isSome=true:=λc1 c2 ds xs e1 e2=>by
    simp only[Ah,zz c1 c2 3 ds xs e1 e2];simp[Mem.put,y3]
   simp only[↓go1,gB3,h5,simprocAttr,QI];refine Ao.intro (isS _ _ _ _ (by omega) (by omega)) ?_;simp only[↓go1,go2,simprocAttr,h29,hw];refine ih _ _ ⟨h28,rfl,h4,h5,h2,A++[(a.1,decide (bits .and .i64 b.1 1≠0),decide (bits .and .i64 b.1 2≠0))],true,b.2.1,b.2.2,false,_,by simp[hAl],q2.1,by rw[←hAA];simp,by rw[←hod];simp[],hpp,rfl,⟨?_,?_,?_⟩,⟨?_,?_,?_,?_⟩,by simp,LX.putx (LX.app (LX.put hG1 (by omega)) (by omega) (by simp only;omega)) (by simp) (by omega)⟩
   ·simp only;rw[Mem.put_other (by simp),z4 _ _ _ _ _ (by omega) (by omega)];simp[Mem.put]
   ·simp only;rw[Mem.put_other (by simp),z4 _ _ _ _ _ (by omega) (by omega)];simp[Mem.put]
   ·simp only;rw[Mem.put_other (by simp),z4 _ _ _ _ _ (by omega) (by omega)];simp[Mem.put]
   ·simp only;rw[Mem.put_out (by simp),zz _ _ _ _ _ (by omega) (by omega)];simp[Mem.put,y0]
   ·simp only;rw[Mem.put_out (by simp),zz _ _ _ _ _ (by omega) (by omega)];simp[Mem.put,y1]
   ·simp only;rw[Mem.put_out (by simp),zz _ _ _ _ _ (by omega) (by omega)];simp[Mem.put,y2]
   ·simp only;rw[Fb];exact put_here
  |false=>
   by_cases c3:3<b.1
   ·simp only[gB1,↓go1,go5,simprocAttr,h28,h29,hlt,h4,h5,h7,Ag s333,mQ_run,x0,x1,x2,y3,k1,k2,c3];refine Ao.intro ⟨by omega,rfl,(LX.put hG1 (by omega)).grow⟩ ?_;rw[BG hBn,hBa];have z:∀(c1 c2 k:Nat)(ds:List D)(xs:List D),st_c<=c1->st_c<=c2->∀q,q<10->Upd.app ((((st_m.put [4] 0 [.str s,.int .i64 (a.2.1:Int),.int .i64 a.2.2]).put [4] 0 [.str s,.int .i64 (b.2.1:Int),.int .i64 b.2.2]).put [c1] 0 ds)) (Bg 228 [c2] (.slice nl t xs)) [q] k=((st_m.put [4] 0 [.str s,.int .i64 (a.2.1:Int),.int .i64 a.2.2]).put [4] 0 [.str s,.int .i64 (b.2.1:Int),.int .i64 b.2.2]) [q] k:=λc1 c2 k ds xs e1 e2 q hq=>by
     have:=hG.le;rw[LX.low_app (LX.put hG1 e1) e2 hq,Mem.put_other (by simp;omega)]
    have zz:=λ(c1 c2 k:Nat)(ds:List D)(xs:List D) e1 e2=>z c1 c2 k ds xs e1 e2 9 (by omega)
    have z4:=λ(c1 c2 k:Nat)(ds:List D)(xs:List D) e1 e2=>z c1 c2 k ds xs e1 e2 4 (by omega)
    have isS:∀(c1 c2:Nat)(ds xs:List D),st_c<=c1->st_c<=c2->(Ah (Upd.app ((((st_m.put [4] 0 [.str s,.int .i64 (a.2.1:Int),.int .i64 a.2.2]).put [4] 0 [.str s,.int .i64 (b.2.1:Int),.int .i64 b.2.2]).put [c1] 0 ds)) (Bg 228 [c2] (.slice nl t xs))) [9] 3 1).isSome=true:=λc1 c2 ds xs e1 e2=>by
     simp only[Ah,zz c1 c2 3 ds xs e1 e2];simp[Mem.put,y3]
    simp only[↓go1,gB3,h5,simprocAttr,QI];refine Ao.intro (isS _ _ _ _ (by omega) (by omega)) ?_;simp only[↓go1,go2,simprocAttr,h29,hw];refine ih _ _ ⟨h28,rfl,h4,h5,h2,A++[(a.1,decide (bits .and .i64 b.1 1≠0),decide (bits .and .i64 b.1 2≠0))],true,b.2.1,b.2.2,false,_,by simp[hAl],q2.1,by rw[←hAA];simp,by rw[←hod];simp[c3],hpp,rfl,⟨?_,?_,?_⟩,⟨?_,?_,?_,?_⟩,by simp,LX.putx (LX.app (LX.put hG1 (by omega)) (by omega) (by simp only;omega)) (by simp) (by omega)⟩
    ·simp only;rw[Mem.put_other (by simp),z4 _ _ _ _ _ (by omega) (by omega)];simp[Mem.put]
    ·simp only;rw[Mem.put_other (by simp),z4 _ _ _ _ _ (by omega) (by omega)];simp[Mem.put]
    ·simp only;rw[Mem.put_other (by simp),z4 _ _ _ _ _ (by omega) (by omega)];simp[Mem.put]
    ·simp only;rw[Mem.put_out (by simp),zz _ _ _ _ _ (by omega) (by omega)];simp[Mem.put,y0]
    ·simp only;rw[Mem.put_out (by simp),zz _ _ _ _ _ (by omega) (by omega)];simp[Mem.put,y1]
    ·simp only;rw[Mem.put_out (by simp),zz _ _ _ _ _ (by omega) (by omega)];simp[Mem.put,y2]
    ·simp only;rw[Fb];exact put_here
   ·simp only[gB1,↓go1,go5,simprocAttr,h28,h29,hlt,h4,h5,h7,Ag s333,mQ_run,x0,x1,x2,y3,k1,k2,c3];refine Ao.intro ⟨by omega,rfl,(LX.put hG1 (by omega)).grow⟩ ?_;rw[BG hBn,hBa];have z:∀(c1 c2 k:Nat)(ds:List D)(xs:List D),st_c<=c1->st_c<=c2->∀q,q<10->Upd.app ((((st_m.put [4] 0 [.str s,.int .i64 (a.2.1:Int),.int .i64 a.2.2]).put [4] 0 [.str s,.int .i64 (b.2.1:Int),.int .i64 b.2.2]).put [c1] 0 ds)) (Bg 228 [c2] (.slice nl t xs)) [q] k=((st_m.put [4] 0 [.str s,.int .i64 (a.2.1:Int),.int .i64 a.2.2]).put [4] 0 [.str s,.int .i64 (b.2.1:Int),.int .i64 b.2.2]) [q] k:=λc1 c2 k ds xs e1 e2 q hq=>by
     have:=hG.le;rw[LX.low_app (LX.put hG1 e1) e2 hq,Mem.put_other (by simp;omega)]
    have zz:=λ(c1 c2 k:Nat)(ds:List D)(xs:List D) e1 e2=>z c1 c2 k ds xs e1 e2 9 (by omega)
    have z4:=λ(c1 c2 k:Nat)(ds:List D)(xs:List D) e1 e2=>z c1 c2 k ds xs e1 e2 4 (by omega)
    have isS:∀(c1 c2:Nat)(ds xs:List D),st_c<=c1->st_c<=c2->(Ah (Upd.app ((((st_m.put [4] 0 [.str s,.int .i64 (a.2.1:Int),.int .i64 a.2.2]).put [4] 0 [.str s,.int .i64 (b.2.1:Int),.int .i64 b.2.2]).put [c1] 0 ds)) (Bg 228 [c2] (.slice nl t xs))) [9] 3 1).isSome=true:=λc1 c2 ds xs e1 e2=>by
     simp only[Ah,zz c1 c2 3 ds xs e1 e2];simp[Mem.put,y3]
    simp only[↓go1,gB3,h5,simprocAttr,QI];refine Ao.intro (isS _ _ _ _ (by omega) (by omega)) ?_;simp only[↓go1,go2,simprocAttr,h29,hw];refine ih _ _ ⟨h28,rfl,h4,h5,h2,A++[(a.1,decide (bits .and .i64 b.1 1≠0),decide (bits .and .i64 b.1 2≠0))],false,b.2.1,b.2.2,false,_,by simp[hAl],q2.1,by rw[←hAA];simp,by rw[←hod];simp[c3],hpp,rfl,⟨?_,?_,?_⟩,⟨?_,?_,?_,?_⟩,by simp,LX.putx (LX.app (LX.put hG1 (by omega)) (by omega) (by simp only;omega)) (by simp) (by omega)⟩
    ·simp only;rw[Mem.put_other (by simp),z4 _ _ _ _ _ (by omega) (by omega)];simp[Mem.put]
    ·simp only;rw[Mem.put_other (by simp),z4 _ _ _ _ _ (by omega) (by omega)];simp[Mem.put]
    ·simp only;rw[Mem.put_other (by simp),z4 _ _ _ _ _ (by omega) (by omega)];simp[Mem.put]
    ·simp only;rw[Mem.put_out (by simp),zz _ _ _ _ _ (by omega) (by omega)];simp[Mem.put,y0]
    ·simp only;rw[Mem.put_out (by simp),zz _ _ _ _ _ (by omega) (by omega)];simp[Mem.put,y1]
    ·simp only;rw[Mem.put_out (by simp),zz _ _ _ _ _ (by omega) (by omega)];simp[Mem.put,y2]
    ·simp only;rw[Fb];exact put_here
 ·obtain⟨st_s,st_m,st_c⟩:=st;obtain⟨h28,h29,h4,h5,h2,A,od,p,e,nl,t,hAl,hp,hAA,hod,hpp,h7,⟨x0,x1,x2⟩,⟨y0,y1,y2,y3⟩,hnl,hG⟩:=hI;simp only at h28 h29 h4 h5 h2 h7 x0 x1 x2 y0 y1 y2 y3 hG;refine Ae dc240l0.eq_1 ?_;have m0:∀k,st_m [0] k=_:=λk=>hG.low 0 k (by omega) (by simp)
  rw[Zk]at hAA hod hpp;unfold unpR at hAA hod hpp;simp only[Qy,Bool.or_false]at hAA hod hpp;rw[←hod];rw[←hAA]at h191 ⊢;rw[←hpp]at h334;simp only at h334;rw[←hnl]at h191 ⊢;by_cases c1:en=3
  ·simp only[gB1,↓go1,go5,simprocAttr,h28,h29,h4,h2,Qo,x0,x1,x2,m0,Al S240 334,h334,c1]
   all_goals (first|rfl|exact⟨rfl,rfl⟩|(simp[*,sc0];done)|(simp[*,sc0];rfl))
  ·have c1':(en=3)=False:=eq_false c1;by_cases c2:en=0
   ·subst c2;cases od with
    |true=>
     simp only[gB1,↓go1,go5,simprocAttr,h28,h29,h4,h7,Qo,x0,x1,x2,Al S240 334,h334]
     (refine Ao.intro (Aj ?_) ?_;first|rfl|simp[A5,AM,rds,Ai,Ac])
     simp only[gB1,↓go1,go5,simprocAttr,h2,m0]
     all_goals (first|rfl|exact⟨rfl,rfl⟩|(simp[*,sc0];done)|(simp[*,sc0];rfl))
    |false=>
     cases bad with
     |true=>
      simp only[if_true]at h191;simp only[gB1,↓go1,go5,simprocAttr,h28,h29,h4,h5,h7,Qo,x0,x1,x2,y0,y1,y2,y3,Al S240 334,h334,Aa s335,h335,Aa s191,h191]
      (refine Ao.intro (Aj ?_) ?_;first|rfl|simp[A5,AM,rds,Ai,Ac])
      simp only[gB1,↓go1,go5,simprocAttr,h2,m0]
      all_goals (first|rfl|exact⟨rfl,rfl⟩|(simp[*,sc0];done)|(simp[*,sc0];rfl))
     |false=>
      simp only[if_false,Ql]at h191;simp only[gB1,↓go1,go5,simprocAttr,h28,h29,h4,h5,h7,Qo,x0,x1,x2,y0,y1,y2,y3,Al S240 334,h334,Aa s335,h335,Aa s191,h191]
      (refine Ao.intro (Aj ?_) ?_;first|rfl|simp[A5,AM,rds,Ai,Ac])
      simp only[gB1,↓go1,go5,simprocAttr,h2,h5,m0,y0,y1,y2,y3]
      all_goals (first|rfl|exact⟨rfl,rfl⟩|(simp[*,sc0];done)|(simp[*,sc0];rfl))
   ·have c2':(en=0)=False:=eq_false c2;simp only[gB1,↓go1,go5,simprocAttr,h28,h29,h4,Qo,x0,x1,x2,Al S240 334,h334,c1',c2']
    (refine Ao.intro (Aj ?_) ?_;first|rfl|simp[A5,AM,rds,Ai,Ac])
    simp only[gB1,↓go1,go5,simprocAttr,h2,m0]
    all_goals (first|rfl|exact⟨rfl,rfl⟩|(simp[*,sc0];done)|(simp[*,sc0];rfl))
end Go.Vd
namespace Go.Vd
open Go.Proofs
def dc128:DC:=(sr [oo 2 (.mv (.c (.slice true [] [])))] (sr [mm 3 0,oo 4 (.bin .add (.c (.str [109,47])) (.t 3)),bs 5 .add 4 [47],mm 6 0,oo 7 (.bin .add (.c (.str [100,47])) (.t 6)),bs 8 .add 7 [47],oo 9 (.bslice 9 1 [(.t 5),(.t 8)]),mm 2 9] .ret))
def fn128:Fn Qc 128 10 dc128 [.t 2]:=Am func128
def dc97:DC:=(sr [al 2 [zu,zs,zi]] (.seq (sr [mm 10 0,bs 11 .eql 10 [115,47,109,111,117,110,116,115]] (cd 11 (sr [oo 12 (.build [zu,zs,zi] [(0,1,(.c (.int .u8 4)))]),st 3 2 12] .ret) .skip)) (.seq (sr [mm 13 0,bs 14 .eql 13 [115,47,114,105,110,103]] (cd 14 (sr [oo 15 (.build [zu,zs,zi] [(0,1,(.c (.int .u8 5)))]),st 3 2 15] .ret) .skip)) (.seq (sr [mm 17 0,cc 18 200 [(.t 17),(.c (.str [109,47]))],mm 16 18,xx 19 0 16,xx 20 1 16,mm 3 19,mm 4 20] (sr [mm 21 4] (cd 21 (sr [mm 22 3,oo 23 (.build [zu,zs,zi] [(0,1,(.c (.int .u8 1))),(1,1,(.t 22))]),st 3 2 23] .ret) .skip))) (.seq (sr [mm 25 0,cc 26 200 [(.t 25),(.c (.str [116,47]))],mm 24 26,xx 27 0 24,xx 28 1 24,mm 5 27,mm 6 28] (sr [mm 29 6] (cd 29 (sr [mm 30 5,oo 31 (.build [zu,zs,zi] [(0,1,(.c (.int .u8 3))),(1,1,(.t 30))]),st 3 2 31] .ret) .skip))) (.seq (sr [mm 33 0,cc 34 200 [(.t 33),(.c (.str [100,47]))],mm 32 34,xx 35 0 32,xx 36 1 32,mm 7 35,mm 8 36] (sr [mm 37 8,mm 38 37,gm 39 7 1 true,gn 40 true 39 1 true,gi 41 .gtr 40 2 1 true,pa 42 38 41,mm 43 42,gm 44 7 6 true,gm 45 7 6 true,gn 46 true 45 6 true,gi 47 .sub 46 2 6 true,og 48 (.idxs (.t 44) (.t 47)) 6 true,gu 49 .eql 48 0 6 true,pa 50 43 49] (cd 50 (sr [mm 51 7,nn 52 true 51,bi 53 .sub 52 2,mm 9 53] (.seq (.drawn [mm 54 7,mm 55 9,oo 56 (.cuts (.t 54) none (some (.t 55))),mm 57 7,mm 58 9,bi 59 .add 58 1,oo 60 (.idxs (.t 57) (.t 59)),oo 61 (.conv .i64 (.t 60)),oo 62 (.build [zu,zs,zi] [(0,1,(.c (.int .u8 2))),(1,1,(.t 56)),(2,1,(.t 61))]),st 3 2 62] []) .ret)) .skip))) (sr [oo 63 (.build [zu,zs,zi] []),st 3 2 63] .ret)))))))
def fn97:Fn Qc 97 64 dc97 [.cell (some 3) 2]:=Am func97
def dc38:DC:=(sr [al 2 [zu,zs,zi],ci 3 0] (sr [mm 5 0,c1 6 97 5,al 4 [zu,zs,zi],st 3 4 6] (.seq (sr [lk 7 3 4,c1 8 98 7,bi 9 .neq 8 0] (cd 9 (sr [oo 10 (.build [zu,zs,zi] []),st 3 2 10,ci 3 4] .ret) .skip)) (sr [lk 11 3 4,st 3 2 11,ci 3 0] .ret))))
def fn38:Fn Qc 38 12 dc38 [.cell (some 3) 2,.t 3]:=Am func38
def dc132:DC:=(sr [ob 2 0,oo 4 (.mv (.c (.slice true [] []))),cb 5 false] (sr [ff 7 3 2,ll 8 7,mm 9 1,c2 10 237 8 9,mm 6 10] (.seq (sr [mm 11 6,bi 12 .lss 11 0,mm 13 12,gm 14 6 2 false,gf 15 4 2 2 false,gl 16 15 2 false,gn 17 false 16 2 false,gt 18 .geq 14 17 2 false,po 19 13 18] (cd 19 (sr [mm 20 6,bi 21 .geq 20 0,oo 4 (.mv (.c (.slice true [] []))),mm 5 21] .ret) .skip)) (sr [ff 22 4 2,ll 23 22,mm 24 6,ii 25 1 23 24,ll 26 25,mm 4 26,cb 5 true] .ret))))
def fn132:Fn Qc 132 27 dc132 [.t 4,.t 5]:=Am func132
def dc92:DC:=(sr [ob 1 0,ci 2 0] (.seq (sr [ff 4 0 1,ll 5 4,bu 6 .gtr 5 6] (cd 6 (sr [ci 2 22] .ret) .skip)) (.seq (.drawn [lk 7 10 1,lk 8 10 1,c1 9 190 8,c2 10 189 7 9,mm 3 10] [(2,0)]) (.seq (sr [ff 11 0 1,ll 12 11] (.block 0 (sr [bu 14 .eql 12 0,mm 13 14] (cd 13 (.row [mm 15 3,mm 16 15,gf 17 1 1 1 true,gl 18 17 1 true,gi 19 .geq 18 1 1 true,pa 20 16 19,mm 21 20,gf 22 1 1 6 true,gl 23 22 6 true,gi 24 .leq 23 99 6 true,pa 25 21 24,mm 3 25]) (.seq (sr [bu 27 .eql 12 2,mm 26 27] (cd 26 .skip (.row [bu 28 .eql 12 3,mm 26 28]))) (cd 26 (.row [mm 29 3,mm 30 29,gf 31 2 1 1 true,gl 32 31 1 true,gi 33 .geq 32 0 1 true,pa 34 30 33,mm 35 34,gf 36 2 1 6 true,gl 37 36 6 true,gi 38 .leq 37 999 6 true,pa 39 35 38,mm 40 39,gf 41 3 1 11 true,gl 42 41 11 true,gn 43 true 42 11 true,gi 44 .leq 43 400 11 true,pa 45 40 44,mm 3 45]) (sr [bu 47 .eql 12 4,mm 46 47] (cd 46 (.row [mm 48 3,mm 49 48,gf 50 5 1 1 true,og 51 (.load (some 4) (.t 50)) 1 true,og 52 (.build [zi,zb] [(0,1,(.c (.int .i64 6)))]) 1 true,gc 53 191 [(.t 51),(.t 52)] 1 true,gi 54 .eql 53 0 1 true,pa 55 49 54,mm 3 55]) (sr [bu 57 .eql 12 5,mm 56 57] (cd 56 (.row [mm 58 3,mm 59 58,gf 60 4 1 1 true,gl 61 60 1 true,gn 62 false 61 1 true,gi 63 .leq 62 64 1 true,pa 64 59 63,mm 65 64,gf 66 4 1 7 true,gl 67 66 7 true,gc 68 192 [(.t 67),(.c (.fn 193 []))] 7 true,og 69 (.un .not (.t 68)) 7 true,pa 70 65 69,mm 3 70]) .skip)))))))))) (.seq (sr [mm 71 3,nt 72 71] (cd 72 (sr [ci 2 2] .ret) .skip)) (sr [ci 2 0] .ret))))))
def fn92:Fn Qc 92 73 dc92 [.t 2]:=Am func92
def dc316l0:DC:=(.block 1 (sr [mm 4 0,bi 5 .rem 4 10,oo 6 (.bin .add (.c (.int .i64 48)) (.t 5)),oo 7 (.conv .u8 (.t 6)),bl 8 5 1 7,oo 9 (.b2s (.t 8)),mm 10 3,bt 11 .add 9 10,mm 3 11] (sr [mm 12 0,bi 13 .quo 12 10,mm 0 13] (sr [mm 14 0,bi 15 .eql 14 0] (cd 15 (sr [mm 16 3,mm 2 16] .ret) .skip)))))
def dc316:DC:=(sr [cs 2 []] (sr [cs 3 []] (.block 0 (.loop dc316l0))))
def fn316:Fn Qc 316 17 dc316 [.t 2]:=Am func316
def dc222l0:DC:=(sr [bt 41 .lss 40 39] (.seq (cd 41 .skip (.exit 1)) (.seq (.block 2 (sr [ii 42 3 38 40,lk 43 3 42,al 6 [zi,zb,zb],st 3 6 43] (.row [mm 44 4,lk 45 3 6,c1 46 318 45,bl 47 9 1 46,ap 48 9 1 16 44 47,mm 4 48]))) (.row [bi 49 .add 40 1,mm 40 49]))))
def dc222:DC:=(sr [ob 1 0,oo 2 (.mv (.c (.slice true [] [])))] (.seq (sr [ff 7 0 1,ll 8 7] (.block 0 (sr [bu 10 .eql 8 0,mm 9 10] (cd 9 (sr [ff 11 1 1,ll 12 11,c1 13 316 12,oo 14 (.bslice 9 1 [(.c (.str [101,114,114,111,114])),(.t 13)]),mm 2 14] .ret) (sr [bu 16 .eql 8 2,mm 15 16] (cd 15 (sr [ff 17 2 1,ll 18 17,c1 19 316 18,oo 20 (.bslice 9 1 [(.c (.str [111,107])),(.c (.str [110,117,109,98,101,114])),(.t 19)]),mm 2 20] .ret) (sr [bu 22 .eql 8 3,mm 21 22] (cd 21 (sr [cs 3 [45]] (.seq (sr [ff 23 3 1,ll 24 23,bs 25 .neq 24 []] (cd 25 (.row [ff 26 3 1,ll 27 26,c1 28 317 27,mm 3 28]) .skip)) (sr [ff 29 2 1,ll 30 29,c1 31 316 30,mm 32 3,oo 33 (.bslice 9 1 [(.c (.str [111,107])),(.c (.str [102,111,117,110,100])),(.t 31),(.t 32)]),mm 2 33] .ret))) (sr [bu 35 .eql 8 4,mm 34 35] (cd 34 (sr [oo 4 (.mv (.c (.slice true [] [])))] (.seq (sr [ff 36 5 1,ff 37 3 36,ll 38 37,nn 39 false 38,ci 40 0] (.block 1 (.loop dc222l0))) (.seq (.drawn [ff 50 5 1,ff 51 0 50,ll 52 51,c1 53 316 52,ff 54 5 1,ff 55 1 54,ll 56 55,c1 57 319 56,ff 58 5 1,ff 59 2 58,ll 60 59,c1 61 316 60,mm 62 4,c1 63 320 62,oo 64 (.bslice 9 1 [(.c (.str [111,107])),(.c (.str [97,98,111,117,116])),(.t 53),(.t 57),(.t 61),(.t 63)]),mm 2 64] [(3,6),(3,10),(7,10)]) .ret))) (sr [bu 66 .eql 8 5,mm 65 66] (cd 65 (sr [ff 67 4 1,ll 68 67,c1 69 320 68,oo 70 (.bslice 9 1 [(.c (.str [111,107])),(.c (.str [110,97,109,101,115])),(.t 69)]),mm 2 70] .ret) (sr [bu 72 .eql 8 6,mm 71 72] (cd 71 (.seq (sr [ff 73 9 1,ll 74 73] (cd 74 (sr [oo 75 (.bslice 9 1 [(.c (.str [111,107])),(.c (.str [115,101,97,108,101,100]))]),mm 2 75] .ret) .skip)) (sr [oo 76 (.bslice 9 1 [(.c (.str [111,107])),(.c (.str [111,112,101,110]))]),mm 2 76] .ret)) .skip)))))))))))))) (sr [oo 77 (.bslice 9 1 [(.c (.str [111,107]))]),mm 2 77] .ret)))
def fn222:Fn Qc 222 78 dc222 [.t 2]:=Am func222
def dc121:DC:=(sr [ob 1 0,cs 2 [],ci 3 0] (.seq (sr [lk 5 10 1,c1 6 92 5,mm 4 6] (sr [mm 7 4,bi 8 .neq 7 0] (cd 8 (sr [mm 9 4,cs 2 [],mm 3 9] .ret) .skip))) (sr [lk 10 10 1,c1 11 222 10,cc 12 221 [(.t 11),(.c (.str [32]))],mm 2 12,ci 3 0] .ret)))
def fn121:Fn Qc 121 13 dc121 [.t 2,.t 3]:=Am func121
def dc120:DC:=(sr [cs 2 []] (sr [mm 6 0,oo 7 (.build [zu,zi,zi,zs,zn,zi,zb,zi,zn,zb] [(1,1,(.t 6))]),al 3 [zu,zi,zi,zs,zn,zi,zb,zi,zn,zb],st 10 3 7] (.seq (sr [mm 8 0,bi 9 .eql 8 0] (cd 9 (.row [ff 10 0 3,oz (.store 1 (.t 10) (.c (.int .u8 1)))]) .skip)) (sr [lk 12 10 3,c1 13 121 12,mm 11 13,xx 14 0 11,xx 15 1 11,mm 4 14,mm 5 15] (sr [mm 16 4,mm 2 16] .ret)))))
def fn120:Fn Qc 120 17 dc120 [.t 2]:=Am func120
def dc223:DC:=(sr [ob 1 0,cs 2 [],ci 3 0] (.seq (sr [lk 5 3 1,c1 6 98 5,mm 4 6] (sr [mm 7 4,bi 8 .neq 7 0] (cd 8 (sr [mm 9 4,cs 2 [],mm 3 9] .ret) .skip))) (.seq (sr [ff 10 0 1,ll 11 10] (.block 0 (sr [bu 13 .eql 11 1,mm 12 13] (cd 12 (sr [ff 14 1 1,ll 15 14,oo 16 (.bin .add (.c (.str [109,47])) (.t 15)),mm 2 16,ci 3 0] .ret) (sr [bu 18 .eql 11 2,mm 17 18] (cd 17 (sr [ff 19 1 1,ll 20 19,oo 21 (.bin .add (.c (.str [100,47])) (.t 20)),ff 22 2 1,ll 23 22,oo 24 (.conv .u8 (.t 23)),oo 25 (.bslice 5 1 [(.c (.int .u8 0)),(.t 24)]),oo 26 (.b2s (.t 25)),bt 27 .add 21 26,mm 2 27,ci 3 0] .ret) (sr [bu 29 .eql 11 3,mm 28 29] (cd 28 (sr [ff 30 1 1,ll 31 30,oo 32 (.bin .add (.c (.str [116,47])) (.t 31)),mm 2 32,ci 3 0] .ret) (sr [bu 34 .eql 11 4,mm 33 34] (cd 33 (sr [cs 2 [115,47,109,111,117,110,116,115],ci 3 0] .ret) .skip)))))))))) (sr [cs 2 [115,47,114,105,110,103],ci 3 0] .ret))))
def fn223:Fn Qc 223 35 dc223 [.t 2,.t 3]:=Am func223
def dc123:DC:=(sr [cs 6 []] (sr [mm 10 0,mm 11 1,mm 12 2,oo 13 (.build [zu,zs,zi] [(0,1,(.t 10)),(1,1,(.t 11)),(2,1,(.t 12))]),c1 14 223 13,mm 9 14,xx 15 0 9,xx 16 1 9,mm 7 15,mm 8 16] (sr [mm 17 7,mm 6 17] .ret)))
def fn123:Fn Qc 123 18 dc123 [.t 6]:=Am func123
def dc122:DC:=(.row [mm 8 0,mm 9 0,nk 10 9,ff 11 21 10,ff 12 3 11,ll 13 12,mm 14 1,mm 15 2,mm 16 3,oo 17 (.build [zu,zs,zs] [(0,1,(.t 14)),(1,1,(.t 15)),(2,1,(.t 16))]),bl 18 107 3 17,ap 19 107 3 40 13 18,nk 20 8,ff 21 21 20,ff 22 3 21,st 1 22 19])
def fn122:Fn Qc 122 23 dc122 []:=Am func122
def dc237l0:DC:=(.seq (sr [mm 9 5,bi 10 .geq 9 0] (cd 10 .skip (.exit 0))) (.seq (.block 1 (sr [mm 13 0,mm 14 5,ii 15 1 13 14,ll 16 15,mm 17 1,bt 18 .eql 16 17] (cd 18 (sr [mm 19 5,mm 4 19] .ret) .skip))) (.row [mm 11 5,bi 12 .sub 11 1,mm 5 12])))
def dc237:DC:=(sr [ci 4 0] (.seq (sr [mm 6 0,nn 7 false 6,bi 8 .sub 7 1,mm 5 8] (.block 0 (.loop dc237l0))) (sr [oo 4 (.mv (.c (.int .i64 (-1))))] .ret)))
def fn237:Fn Qc 237 20 dc237 [.t 4]:=Am func237
def dc137:DC:=(sr [ob 2 0,cs 4 [],cb 5 false,cb 6 false] (sr [ff 8 0 2,ll 9 8,mm 10 1,c2 11 237 9 10,mm 7 11] (.seq (sr [mm 12 7,bi 13 .lss 12 0] (cd 13 (sr [cs 4 [],cb 5 false,cb 6 false] .ret) .skip)) (.seq (sr [mm 14 7,ff 15 1 2,ll 16 15,nn 17 false 16,bt 18 .lss 14 17] (cd 18 (.row [ff 19 1 2,ll 20 19,mm 21 7,ii 22 1 20 21,ll 23 22,mm 4 23]) .skip)) (.seq (.drawn [mm 24 4,mm 25 7,ff 26 2 2,ll 27 26,nn 28 false 27,bt 29 .lss 25 28,mm 30 29,gf 31 2 2 6 true,gl 32 31 6 true,gm 33 7 6 true,og 34 (.iaddr 1 (.t 32) (.t 33)) 6 true,gl 35 34 6 true,pa 36 30 35,mm 4 24,mm 5 36,cb 6 true] []) .ret)))))
def fn137:Fn Qc 137 37 dc137 [.t 4,.t 5,.t 6]:=Am func137
def dc12:DC:=(sr [ob 4 0,al 8 [zn,zn,zn,zn,zn]] (sr [ff 9 0 4,ll 10 9,mm 11 1,bl 12 9 1 11,oo 13 (.bslice 28 1 [(.t 10),(.t 12)]),c1 14 39 13,ff 15 0 4,st 1 15 14] (sr [ff 16 1 4,ll 17 16,mm 18 2,bl 19 9 1 18,oo 20 (.bslice 28 1 [(.t 17),(.t 19)]),c1 21 39 20,ff 22 1 4,st 1 22 21] (sr [ff 23 2 4,ll 24 23,mm 25 3,bl 26 4 1 25,oo 27 (.bslice 29 1 [(.t 24),(.t 26)]),c1 28 40 27,ff 29 2 4,st 1 29 28] (sr [lk 30 5 4,st 5 8 30] .ret)))))
def fn12:Fn Qc 12 31 dc12 [.cell (some 5) 8]:=Am func12
end Go.Vd
namespace Go.Vd
open Go.Proofs Go.RowKit
def AZ(k:Int)(name:Bs)(n:Int):Bs:=if DT k name n≠0 then []else if k=1 then [109,47]++name else if k=2 then [100,47]++name++[0,UInt8.ofNat (IntKind.u8.wrap n).toNat]else if k=3 then [116,47]++name else if k=4 then [115,47,109,111,117,110,116,115]else [115,47,114,105,110,103]
def F98_eq{k n:Int}{name:Bs}(h:name.length<=1000000):F98 [.agg [.int .u8 k,.str name,.int .i64 n]]=some (.int .i64 (DT k name n)):=if_pos h
def add_s{a b:Bs}(h:a.length+b.length<=9223372036854775807):AY .add (.str a) (.str b)=some (.str (a++b)):=by simp[AY,h]
def S223:Summs:=AC [(98,Ac F98)]
def R223:List D->Option D:=RF S223 dc223 [.t 2,.t 3] 35
def ko223:(Ac R223).ok Qc 223:=AH fn223 (Ab ok98 Ad)
def R223_eq(k n:Int)(name:Bs)(hl:name.length<=1000000):R223 [.agg [.int .u8 k,.str name,.int .i64 n]]=some (.tup [.str (AZ k name n),.int .i64 (DT k name n)]):=by
 refine AE (Qb rfl) ?_;unfold dc223;have h98:=F98_eq (k:=k) (n:=n) hl;have a1:∀x y,AY .add (.str [x,y]) (.str name)=some (.str ([x,y]++name)):=λx y=>add_s (by simp only[Qj,Qm];omega)
 have hb:∀a,Bw [.int .u8 0,.int .u8 a]=some [0,UInt8.ofNat a.toNat]:=λ_=>rfl
 unfold AZ;generalize DT k name n=e at *;by_cases c0:e=0
 ·subst c0;by_cases c1:k=1
  ·have c1':=eq_true c1;simp only[gB1,↓go1,go5,simprocAttr,Al S223 98,h98,c1',a1]
   all_goals first|rfl|exact⟨rfl,rfl⟩|simp[*]
  have c1':=eq_false c1;by_cases c2:k=2
  ·have c2':=eq_true c2;have a3:=λz (hz:z.length<=100)=>add_s (a:=[100,47]++name) (b:=z) (by simp only[Qk,Qj,Qm];omega)
   have a4:=λc d=>a3 [c,d] (by simp)
   simp only[gB1,↓go1,go5,simprocAttr,Al S223 98,h98,c1',c2',a1,a4,hb]
   all_goals first|rfl|exact⟨rfl,rfl⟩|simp[*]
  have c2':=eq_false c2;by_cases c3:k=3
  ·have c3':=eq_true c3;simp only[gB1,↓go1,go5,simprocAttr,Al S223 98,h98,c1',c2',c3',a1]
   all_goals first|rfl|exact⟨rfl,rfl⟩|simp[*]
  have c3':=eq_false c3;by_cases c4:k=4
  ·have c4':=eq_true c4;simp only[gB1,↓go1,go5,simprocAttr,Al S223 98,h98,c1',c2',c3',c4']
   all_goals first|rfl|exact⟨rfl,rfl⟩|simp[*]
  ·have c4':=eq_false c4;simp only[gB1,↓go1,go5,simprocAttr,Al S223 98,h98,c1',c2',c3',c4']
   all_goals first|rfl|exact⟨rfl,rfl⟩|simp[*]
 ·have c0':=eq_false c0;simp only[gB1,↓go1,go5,simprocAttr,Al S223 98,h98,c0']
  all_goals first|rfl|exact⟨rfl,rfl⟩|simp[*]
def S123:Summs:=AC [(223,Ac R223)]
def Cx:List D->Option D:=RF S123 dc123 [.t 6] 18
def ko123:(Ac Cx).ok Qc 123:=AH fn123 (Ab ko223 Ad)
def CB(k n:Int)(name:Bs)(hl:name.length<=1000000):Cx [.int .u8 k,.str name,.int .i64 n]=some (.str (AZ k name n)):=by
 refine AE (Qb rfl) ?_;unfold dc123;have h223:=R223_eq k n name hl;simp only[↓go1,gB3,go5,simprocAttr,Al S123 223,h223]
 all_goals first|rfl|exact⟨rfl,rfl⟩|simp[*]
def S128:Summs:=AC []
def R128:List D->Option D:=RF S128 dc128 [.t 2] 10
def ko128:(Ac R128).ok Qc 128:=AH fn128 Ad
def R128_eq(p:Bs)(hl:p.length<=1000000):R128 [.str p]=some (.slice false [] [.str ([109,47]++p++[47]),.str ([100,47]++p++[47])]):=by
 refine AE (Qb rfl) ?_;unfold dc128;have a1:∀x y,AY .add (.str [x,y]) (.str p)=some (.str ([x,y]++p)):=λx y=>add_s (by simp only[Qj,Qm];omega)
 have a2:∀x y,AY .add (.str ([x,y]++p)) (.str [47])=some (.str ([x,y]++p++[47])):=λx y=>add_s (by simp only[Qk,Qj,Qm];omega)
 simp only[↓go1,gB3,go5,simprocAttr,a1,a2]
 all_goals first|rfl|exact⟨rfl,rfl⟩|simp[*]
def CY(s:Bs):Int×Bs×Int:=if s=[115,47,109,111,117,110,116,115]then(4,[],0)else if s=[115,47,114,105,110,103]then(5,[],0)else if BU s [109,47]=true then(1,s.drop 2,0)else if BU s [116,47]=true then(3,s.drop 2,0)else
 if BU s [100,47]=true∧2<(s.drop 2).length∧(s.drop 2).getD ((s.drop 2).length-2) 0=0 then(2,(s.drop 2).take ((s.drop 2).length-2),((s.drop 2).getD ((s.drop 2).length-1) 0).toNat)else(0,[],0)
def Dn(s:Bs):(Int×Bs×Int)×Int:=if DT (CY s).1 (CY s).2.1 (CY s).2.2≠0 then((0,[],0),4)else(CY s,0)
def kyD(k:Int×Bs×Int):D:= .agg [.int .u8 k.1,.str k.2.1,.int .i64 k.2.2]
def guess_len(s:Bs):(CY s).2.1.length<=s.length:=by
 unfold CY
 repeat' split
 all_goals (simp;try omega)
def S97:Summs:=AC [(200,Ac F200)]
def R97:List D->Option D:=RF S97 dc97 [.cell (some 3) 2] 64
def ko97:(Ac R97).ok Qc 97:=AH fn97 (Ab ok200 Ad)
theorem R97_eq (s : Bs) (hl : s.length ≤ 1000000) : R97 [.str s] = some (kyD (CY s)) := by
  refine AE (Qb rfl) ?_
  unfold dc97
  have h200 : ∀ a b : UInt8, F200 [.str s, .str [a, b]] = some (.tup [.str (if BU s [a, b] = true then s.drop 2 else s), .bool (BU s [a, b])]) := fun _ _ => rfl
  unfold CY kyD
  by_cases c1 : s = [115, 47, 109, 111, 117, 110, 116, 115]
  · have c1' := eq_true c1
    simp only [gB1, ↓go1, go5, simprocAttr, c1']
    all_goals first | rfl | exact ⟨rfl, rfl⟩ | simp [*]
  have c1' := eq_false c1
  by_cases c2 : s = [115, 47, 114, 105, 110, 103]
  · have c2' := eq_true c2
    simp only [gB1, ↓go1, go5, simprocAttr, c1', c2']
    all_goals first | rfl | exact ⟨rfl, rfl⟩ | simp [*]
  have c2' := eq_false c2
  cases c3 : BU s [109, 47] with
  | true =>
    simp only [gB1, ↓go1, go5, simprocAttr, Al S97 200, h200, c1', c2', c3]
    all_goals first | rfl | exact ⟨rfl, rfl⟩ | simp [*]
  | false =>
    cases c4 : BU s [116, 47] with
    | true =>
      simp only [gB1, ↓go1, go5, simprocAttr, Al S97 200, h200, c1', c2', c3, c4]
      all_goals first | rfl | exact ⟨rfl, rfl⟩ | simp [*]
    | false =>
      cases c5 : BU s [100, 47] with
      | false =>
        simp only [gB1, ↓go1, go5, simprocAttr, Al S97 200, h200, c1', c2', c3, c4, c5]
        all_goals first | rfl | exact ⟨rfl, rfl⟩ | simp [*]
      | true =>
        have hdl : (s.drop 2).length ≤ 1000000 := by rw [QT]; omega
        generalize hr : s.drop 2 = r at *
        by_cases c6 : 2 < r.length
        · have c6' : ((2 : Int) < (r.length : Int)) = True := eq_true (by omega)
          have w1 : IntKind.i64.wrap ((r.length : Int) - 2) = ((r.length - 2 : Nat) : Int) := by rw [w64 (by omega) (by omega)]; omega
          have w2 : IntKind.i64.wrap (((r.length - 2 : Nat) : Int) + 1) = ((r.length - 1 : Nat) : Int) := by rw [w64 (by omega) (by omega)]; omega
          have w3 : (0 : Int) ≤ ((r.length - 2 : Nat) : Int) := by omega
          have w3' : (0 : Int) ≤ ((r.length - 1 : Nat) : Int) := by omega
          have w4 : (((r.length - 2 : Nat) : Int) ≤ ((r.length : Nat) : Int)) = True := eq_true (by omega)
          have g1 : r[r.length - 2]? = some (r.getD (r.length - 2) 0) := by simp [Zo, Qf (show r.length - 2 < r.length by omega)]
          have g2 : r[r.length - 1]? = some (r.getD (r.length - 1) 0) := by simp [Zo, Qf (show r.length - 1 < r.length by omega)]
          have hz : ((r.getD (r.length - 2) 0).toNat : Int) = 0 ↔ r.getD (r.length - 2) 0 = 0 := by
            constructor
            · intro h; exact UInt8.toNat_inj.1 (by have : (r.getD (r.length - 2) 0).toNat = 0 := by omega
                                                   rw [this]; rfl)
            · intro h; rw [h]; rfl
          have hwi : IntKind.i64.wrap ((r.getD (r.length - 1) 0).toNat : Int) = ((r.getD (r.length - 1) 0).toNat : Int) := w64 (by omega) (by have := (r.getD (r.length - 1) 0).toNat_lt; omega)
          generalize r.getD (r.length - 1) 0 = y at *
          generalize r.getD (r.length - 2) 0 = x at *
          by_cases c7 : x = 0
          · have c7' : ((x.toNat : Int) = 0) = True := eq_true (hz.2 c7)
            simp only [gB1, ↓go1, go5, simprocAttr, Al S97 200, h200, c1', c2', c3, c4, c5, c6', w1, w2, w3, w3', w4, g1, g2, c7', hwi, Qe]
            (refine Ao.intro (Aj ?_) ?_; first | rfl | simp [A5, AM, rds, Ai, Ac])
            simp only [gB1, ↓go1, go5, simprocAttr]
            all_goals first | rfl | exact ⟨rfl, rfl⟩ | simp [*]
          · have c7' : ((x.toNat : Int) = 0) = False := eq_false (fun h => c7 (hz.1 h))
            simp only [gB1, ↓go1, go5, simprocAttr, Al S97 200, h200, c1', c2', c3, c4, c5, c6', w1, w3, g1, c7', Qe]
            all_goals first | rfl | exact ⟨rfl, rfl⟩ | simp [*]
        · have c6' : ((2 : Int) < (r.length : Int)) = False := eq_false (by omega)
          simp only [gB1, ↓go1, go5, simprocAttr, Al S97 200, h200, c1', c2', c3, c4, c5, c6']
          all_goals first | rfl | exact ⟨rfl, rfl⟩ | simp [*]
def S38:Summs:=AC [(97,Ac R97),(98,Ac F98)]
def R38:List D->Option D:=RF S38 dc38 [.cell (some 3) 2,.t 3] 12
def ko38:(Ac R38).ok Qc 38:=AH fn38 (Ab ko97 (Ab ok98 Ad))
def R38_eq(s:Bs)(hl:s.length<=1000000):R38 [.str s]=some (.tup [kyD (Dn s).1,.int .i64 (Dn s).2]):=by
 refine AE (Qb rfl) ?_;have s98:S38 98=some (Ac F98):=rfl;unfold dc38;have h97:=R97_eq s hl;have h98:=F98_eq (k:=(CY s).1) (n:=(CY s).2.2) (name:=(CY s).2.1) (by have:=guess_len s;omega);unfold Dn;unfold kyD at *;generalize DT (CY s).1 (CY s).2.1 (CY s).2.2=e at *;generalize CY s=g at *;by_cases c0:e=0
 ·subst c0;simp only[gB1,↓go1,go5,simprocAttr,Al S38 97,h97,Aa s98,h98]
  all_goals first|rfl|exact⟨rfl,rfl⟩|simp[*]
 ·have c0':=eq_false c0;simp only[gB1,↓go1,go5,simprocAttr,Al S38 97,h97,Aa s98,h98,c0']
  all_goals first|rfl|exact⟨rfl,rfl⟩|simp[*]
end Go.Vd
namespace Go.Vd
open Go.Proofs
def dc13:DC:=(sr [ob 3 0,al 6 [zn,zn,zn,zn,zn]] (sr [ff 7 3 3,ll 8 7,mm 9 1,bl 10 9 1 9,oo 11 (.bslice 28 1 [(.t 8),(.t 10)]),c1 12 39 11,ff 13 3 3,st 1 13 12] (.seq (.drawn [ff 14 4 3,ll 15 14,mm 16 2,c1 17 42 16,bl 18 28 1 17,oo 19 (.bslice 30 1 [(.t 15),(.t 18)]),c1 20 41 19,ff 21 4 3,st 1 21 20] [(3,1),(4,1)]) (sr [lk 22 5 3,st 5 6 22] .ret))))
def fn13:Fn Qc 13 23 dc13 [.cell (some 5) 6]:=Am func13
def dc42:DC:=(sr [oo 2 (.mv (.c (.slice true [] [])))] (.seq (sr [mm 3 0,oo 4 (.nileq false 0 (.t 3) (.c (.slice true [] [])))] (cd 4 (sr [oo 2 (.mv (.c (.slice true [] [])))] .ret) .skip)) (sr [oo 5 (.bslice 9 1 []),mm 6 0,ap 7 9 1 16 5 6,mm 2 7] .ret)))
def fn42:Fn Qc 42 8 dc42 [.t 2]:=Am func42
def dc9l0:DC:=(.seq (sr [mm 16 3,ff 17 0 1,ll 18 17,nn 19 false 18,bt 20 .lss 16 19] (cd 20 .skip (.exit 0))) (.seq (.block 1 (sr [ff 23 0 1,ll 24 23,mm 25 3,ii 26 3 24 25,ff 27 0 26,ll 28 27,nn 29 true 28,bi 30 .gtr 29 200,mm 31 30,gf 32 0 1 8 false,gl 33 32 8 false,gm 34 3 8 false,og 35 (.iaddr 3 (.t 33) (.t 34)) 8 false,gf 36 1 35 8 false,gl 37 36 8 false,gn 38 true 37 8 false,gi 39 .gtr 38 200 8 false,po 40 31 39] (cd 40 (sr [cb 2 true] .ret) .skip))) (.row [mm 21 3,bi 22 .add 21 1,mm 3 22])))
def dc9l1:DC:=(.seq (sr [mm 66 5,ff 67 1 1,ll 68 67,mm 69 4,ii 70 2 68 69,ff 71 1 70,ll 72 71,nn 73 false 72,bt 74 .lss 66 73] (cd 74 .skip (.exit 4))) (.seq (.block 5 (sr [ff 77 1 1,ll 78 77,mm 79 4,ii 80 2 78 79,ff 81 1 80,ll 82 81,mm 83 5,ii 84 1 82 83,ll 85 84,nn 86 true 85,bi 87 .gtr 86 200] (cd 87 (sr [cb 2 true] .ret) .skip))) (.row [mm 75 5,bi 76 .add 75 1,mm 5 76])))
def dc9l2:DC:=(.seq (sr [mm 41 4,ff 42 1 1,ll 43 42,nn 44 false 43,bt 45 .lss 41 44] (cd 45 .skip (.exit 2))) (.seq (.block 3 (.seq (sr [ff 48 1 1,ll 49 48,mm 50 4,ii 51 2 49 50,ff 52 1 51,ll 53 52,nn 54 false 53,bi 55 .gtr 54 100,mm 56 55,gf 57 1 1 8 false,gl 58 57 8 false,gm 59 4 8 false,og 60 (.iaddr 2 (.t 58) (.t 59)) 8 false,gf 61 0 60 8 false,gl 62 61 8 false,gn 63 true 62 8 false,gi 64 .gtr 63 200 8 false,po 65 56 64] (cd 65 (sr [cb 2 true] .ret) .skip)) (sr [ci 5 0] (.block 4 (.loop dc9l1))))) (.row [mm 46 4,bi 47 .add 46 1,mm 4 47])))
def dc9:DC:=(sr [ob 1 0,cb 2 false] (.seq (sr [ff 6 0 1,ll 7 6,nn 8 false 7,bi 9 .gtr 8 12,mm 10 9,gf 11 1 1 4 false,gl 12 11 4 false,gn 13 false 12 4 false,gi 14 .gtr 13 4 4 false,po 15 10 14] (cd 15 (sr [cb 2 true] .ret) .skip)) (.seq (sr [ci 3 0] (.block 0 (.loop dc9l0))) (.seq (sr [ci 4 0] (.block 2 (.loop dc9l2))) (sr [cb 2 false] .ret)))))
def fn9:Fn Qc 9 88 dc9 [.t 2]:=Am func9
end Go.Vd
namespace Go.Vd
open Go.Proofs Go.RowKit
def wGrow99(w:World)(k:Nat)(h0:0<k)(hk:k<=1000000):
  Calls Qc 99 #[.slice none 0 0,.int .i64 (k:Int)] w λe w'=>e= .returned (.slice (some ⟨w.heap.size,0,none⟩) 0 (grownCap w k 0 9))∧w'=w.drew.alloc (.cells (Builtin.zeroCells #[.string .empty] k++Builtin.zeroCells #[.string .empty] (grownCap w k 0 9-k)) 9):=by
 have happ:=Lib.run_append_nil_zeros (P:=Qc) w 28 3 28 9 Tryz.t9 (.string .empty) .i64 .i64 underlying28 underlying3 (by kernel_rfl) (by kernel_rfl) k h0 (by decide) (by omega) (by show k*16<=_;omega)
 go_enter func99,ntmps99
 go_wp2_with (first|(at_builtin;refine Lib.wpList_append_run _ rfl _ _ _ _ rfl _ _ rfl rfl _ _ happ ?_))
 all_goals go_ret
 all_goals exact⟨rfl,rfl⟩
def ko99:(Dr 9).ok Qc 99:=by
 refine grow_ok (sz:=1) ⟨_,func99,by kernel_rfl,by kernel_rfl⟩ (by decide) ⟨Tryz.t9,(.string .empty),by kernel_rfl,by kernel_rfl,by kernel_rfl,by kernel_rfl⟩ (λw k h0 hk=>?_);refine(wGrow99 w k h0 hk).mono ?_;rintro e w' ⟨rfl,rfl⟩;refine⟨_,_,grownCap_le_maxLen w k 0 9 (by unfold maxLen;omega),?_,rfl,rfl⟩;have hge:=grownCap_ge w k 0 9;simp only[Q4,size_zeroCells];simp;omega
def wGrow100(w:World)(k:Nat)(h0:0<k)(hk:k<=1000000):
  Calls Qc 100 #[.slice none 0 0,.int .i64 (k:Int)] w λe w'=>e= .returned (.slice (some ⟨w.heap.size,0,none⟩) 0 (grownCap w k 0 4))∧w'=w.drew.alloc (.cells (Builtin.zeroCells #[.bool false] k++Builtin.zeroCells #[.bool false] (grownCap w k 0 4-k)) 4):=by
 have happ:=Lib.run_append_nil_zeros (P:=Qc) w 29 3 29 4 Tryz.t4 (.bool false) .i64 .i64 underlying29 underlying3 (by kernel_rfl) (by kernel_rfl) k h0 (by decide) (by omega) (by show k*1<=_;omega)
 go_enter func100,ntmps100
 go_wp2_with (first|(at_builtin;refine Lib.wpList_append_run _ rfl _ _ _ _ rfl _ _ rfl rfl _ _ happ ?_))
 all_goals go_ret
 all_goals exact⟨rfl,rfl⟩
def ko100:(Dr 4).ok Qc 100:=by
 refine grow_ok (sz:=1) ⟨_,func100,by kernel_rfl,by kernel_rfl⟩ (by decide) ⟨Tryz.t4,(.bool false),by kernel_rfl,by kernel_rfl,by kernel_rfl,by kernel_rfl⟩ (λw k h0 hk=>?_);refine(wGrow100 w k h0 hk).mono ?_;rintro e w' ⟨rfl,rfl⟩;refine⟨_,_,grownCap_le_maxLen w k 0 4 (by unfold maxLen;omega),?_,rfl,rfl⟩;have hge:=grownCap_ge w k 0 4;simp only[Q4,size_zeroCells];simp;omega
def wGrow101(w:World)(k:Nat)(h0:0<k)(hk:k<=1000000):
  Calls Qc 101 #[.slice none 0 0,.int .i64 (k:Int)] w λe w'=>e= .returned (.slice (some ⟨w.heap.size,0,none⟩) 0 (grownCap w k 0 28))∧w'=w.drew.alloc (.cells (Builtin.zeroCells #[.slice none 0 0] k++Builtin.zeroCells #[.slice none 0 0] (grownCap w k 0 28-k)) 28):=by
 have happ:=Lib.run_append_nil_zeros (P:=Qc) w 30 3 30 28 t28 (.slice none 0 0) .i64 .i64 underlying30 underlying3 (by kernel_rfl) (by kernel_rfl) k h0 (by decide) (by omega) (by show k*24<=_;omega)
 go_enter func101,ntmps101
 go_wp2_with (first|(at_builtin;refine Lib.wpList_append_run _ rfl _ _ _ _ rfl _ _ rfl rfl _ _ happ ?_))
 all_goals go_ret
 all_goals exact⟨rfl,rfl⟩
def ko101:(Dr 28).ok Qc 101:=by
 refine grow_ok (sz:=1) ⟨_,func101,by kernel_rfl,by kernel_rfl⟩ (by decide) ⟨t28,(.slice none 0 0),by kernel_rfl,by kernel_rfl,by kernel_rfl,by kernel_rfl⟩ (λw k h0 hk=>?_);refine(wGrow101 w k h0 hk).mono ?_;rintro e w' ⟨rfl,rfl⟩;refine⟨_,_,grownCap_le_maxLen w k 0 28 (by unfold maxLen;omega),?_,rfl,rfl⟩;have hge:=grownCap_ge w k 0 28;simp only[Q4,size_zeroCells];simp;omega
def fn39':Fn Qc 39 36 (FM 9 9 1 16 99) [.t 2]:=⟨f39,_,func39,rfl,by kernel_rfl,rfl,by kernel_rfl,by kernel_rfl⟩
def S39:Summs:=AC [(99,Dr 9)]
def R39:List D->Option D:=RF S39 (FM 9 9 1 16 99) [.t 2] 36
def ko39:(Ac R39).ok Qc 39:=AH fn39' (Ab ko99 Ad)
def R39_eq{nl:Bool}{xs:List D}{x:D}(hl:xs.length<=1000)(hs:(xs++[x]).all (szB 1)=true):R39 [.slice false [] [.slice nl [] xs,.slice false [] [x]]]=some (.slice false [] (xs++[x])):=
 AE (Qb rfl) (cat_wp (P:=Qc) (f:=39) (by omega) rfl (by simp[En]) (Qb rfl) (by simp) (by simp;omega) hs λt m hgr=>⟨rfl,rfl⟩)
def fn40':Fn Qc 40 36 (FM 9 4 1 1 100) [.t 2]:=⟨f40,_,func40,rfl,by kernel_rfl,rfl,by kernel_rfl,by kernel_rfl⟩
def S40:Summs:=AC [(100,Dr 4)]
def R40:List D->Option D:=RF S40 (FM 9 4 1 1 100) [.t 2] 36
def ko40:(Ac R40).ok Qc 40:=AH fn40' (Ab ko100 Ad)
def R40_eq{nl:Bool}{xs:List D}{x:D}(hl:xs.length<=1000)(hs:(xs++[x]).all (szB 1)=true):R40 [.slice false [] [.slice nl [] xs,.slice false [] [x]]]=some (.slice false [] (xs++[x])):=
 AE (Qb rfl) (cat_wp (P:=Qc) (f:=40) (by omega) rfl (by simp[En]) (Qb rfl) (by simp) (by simp;omega) hs λt m hgr=>⟨rfl,rfl⟩)
def fn41':Fn Qc 41 36 (FM 9 28 1 24 101) [.t 2]:=⟨f41,_,func41,rfl,by kernel_rfl,rfl,by kernel_rfl,by kernel_rfl⟩
def S41:Summs:=AC [(101,Dr 28)]
def R41:List D->Option D:=RF S41 (FM 9 28 1 24 101) [.t 2] 36
def ko41:(Ac R41).ok Qc 41:=AH fn41' (Ab ko101 Ad)
def R41_eq{nl:Bool}{xs:List D}{x:D}(hl:xs.length<=1000)(hs:(xs++[x]).all (szB 1)=true):R41 [.slice false [] [.slice nl [] xs,.slice false [] [x]]]=some (.slice false [] (xs++[x])):=
 AE (Qb rfl) (cat_wp (P:=Qc) (f:=41) (by omega) rfl (by simp[En]) (Qb rfl) (by simp) (by simp;omega) hs λt m hgr=>⟨rfl,rfl⟩)
def Au(l:List Bs):List D:=l.map .str
def strsD_hd(l:List Bs):D.headSz (Au l) 1=1:=by cases l<;>rfl
def A0(l:List Bs):(Au l).length=l.length:=Qg ..
def DR{l:List Bs}{j:Nat}(h:j<l.length):(Au l)[j]?=some (.str l[j]):=by simp[Au,Qf h]
structure Kn where
 es:List (Bs×Bs×Bool)
 ls:List (Bs×Bool×List Bs)
def lsD(x:Bs×Bool×List Bs):D:= .slice x.2.1 [] (Au x.2.2)
def kwC(k:Kn):List D:=[.slice k.es.isEmpty [] (k.es.map λx=> .str x.1),.slice k.es.isEmpty [] (k.es.map λx=> .str x.2.1),.slice k.es.isEmpty [] (k.es.map λx=> .bool x.2.2),.slice k.ls.isEmpty [] (k.ls.map λx=> .str x.1),.slice k.ls.isEmpty [] (k.ls.map lsD)]
def all1{α:Type}{f:α->D}(h:∀x,szB 1 (f x)=true)(l:List α)(y:α):(l.map f++[f y]).all (szB 1)=true:=by
 rw[QB];intro x hx;rcases List.mem_append.1 hx with hx|hx
 ·obtain⟨z,_,rfl⟩:=QE.1 hx;exact h z
 ·rw[List.mem_singleton.1 hx];exact h y
def appE{α:Type}(l:List α)(x:α):(l++[x]).isEmpty=false:=by cases l<;>rfl
def S42:Summs:=AC []
def R42:List D->Option D:=RF S42 dc42 [.t 2] 8
def ko42:(Ac R42).ok Qc 42:=AH fn42 Ad
def R42_eq{nl:Bool}{l:List Bs}(hl:l.length<=100000)(hn:nl=true->l=[]):R42 [.slice nl [] (Au l)]=some (.slice nl [] (Au l)):=by
 refine AE (Qb rfl) ?_;unfold dc42;cases nl with
 |true=>
  rw[hn rfl];simp only[↓go1,go2,go3,go5,simprocAttr]
  all_goals first|rfl|exact⟨rfl,rfl⟩|simp[*]
 |false=>
  simp only[↓go1,go2,go4,go5,simprocAttr];refine Ao.intro ⟨by rw[A0];omega,strsD_hd l,.inr ⟨rfl,by simp⟩⟩ ?_;simp only[↓go1,gB3,go5,simprocAttr]
def S12:Summs:=AC [(39,Ac R39),(40,Ac R40)]
def R12:List D->Option D:=RF S12 dc12 [.cell (some 5) 8] 31
def ko12:(Ac R12).ok Qc 12:=AH fn12 (Ab ko39 (Ab ko40 Ad))
def R12_eq(k:Kn)(key text:Bs)(there:Bool)(hl:k.es.length<=1000):R12 [.agg (kwC k),.str key,.str text,.bool there]=some (.agg (kwC {k with es:=k.es++[(key,text,there)]})):=by
 refine AE (Qb rfl) ?_;have s40:S12 40=some (Ac R40):=rfl;unfold dc12;have h1:=R39_eq (nl:=k.es.isEmpty) (xs:=k.es.map λx=> .str x.1) (x:= .str key) (by simpa using hl) (all1 (f:=λx:Bs×Bs×Bool=> .str x.1) (λ_=>rfl) k.es (key,text,there));have h2:=R39_eq (nl:=k.es.isEmpty) (xs:=k.es.map λx=> .str x.2.1) (x:= .str text) (by simpa using hl) (all1 (f:=λx:Bs×Bs×Bool=> .str x.2.1) (λ_=>rfl) k.es (key,text,there));have h3:=R40_eq (nl:=k.es.isEmpty) (xs:=k.es.map λx=> .bool x.2.2) (x:= .bool there) (by simpa using hl) (all1 (f:=λx:Bs×Bs×Bool=> .bool x.2.2) (λ_=>rfl) k.es (key,text,there));unfold kwC;simp only[QW,QV,Zn,appE];simp only[gB1,↓go1,go5,simprocAttr,Al S12 39,h1,h2,Aa s40,h3]
 all_goals first|rfl|exact⟨rfl,rfl⟩|simp[*]
def S13:Summs:=AC [(39,Ac R39),(41,Ac R41),(42,Ac R42)]
def R13:List D->Option D:=RF S13 dc13 [.cell (some 5) 6] 23
def ko13:(Ac R13).ok Qc 13:=AH fn13 (Ab ko39 (Ab ko41 (Ab ko42 Ad)))
def R13_eq(k:Kn)(p:Bs)(nl:Bool)(l:List Bs)(hl:k.ls.length<=1000)(hl2:l.length<=100000)(hn:nl=true->l=[]):R13 [.agg (kwC k),.str p,.slice nl [] (Au l)]=some (.agg (kwC {k with ls:=k.ls++[(p,nl,l)]})):=by
 refine AE (Qb rfl) ?_;have s41:S13 41=some (Ac R41):=rfl;have s42:S13 42=some (Ac R42):=rfl;unfold dc13;have h1:=R39_eq (nl:=k.ls.isEmpty) (xs:=k.ls.map λx=> .str x.1) (x:= .str p) (by simpa using hl) (all1 (f:=λx:Bs×Bool×List Bs=> .str x.1) (λ_=>rfl) k.ls (p,nl,l));have h2:=R42_eq (nl:=nl) (l:=l) hl2 hn;have h3:=R41_eq (nl:=k.ls.isEmpty) (xs:=k.ls.map lsD) (x:=lsD (p,nl,l)) (by simpa using hl) (all1 (f:=lsD) (λ_=>rfl) k.ls (p,nl,l));have e1:lsD (p,nl,l)= .slice nl [] (Au l):=rfl;rw[e1]at h3;unfold kwC;simp only[QW,QV,Zn,appE,e1];simp only[gB1,↓go1,go5,simprocAttr,Al S13 39,h1,Aa s42,h2,Aa s41,h3]
 (refine Ao.intro (Aj ?_) ?_;first|rfl|simp[A5,AM,rds,Ai,Ac])
 simp only[gB1,↓go1,go5,simprocAttr]
 all_goals first|rfl|exact⟨rfl,rfl⟩|simp[*]
def BE:List Bs->Bs->Int
 |[],_=>-1
 |x::r,s=>if 0<=BE r s then BE r s+1 else if x=s then 0 else-1
def EG:∀(l:List Bs)(s:Bs),-1<=BE l s∧BE l s<l.length
 |[],s=>by simp[BE]
 |x::r,s=>by
  have:=EG r s;unfold BE;simp only[Qj];split
  ·omega
  ·split<;>omega
def lastI_no:∀{l:List Bs} {s:Bs},(∀i (h:i<l.length),l[i]≠s)->BE l s=-1
 |[],s,_=>rfl
 |x::r,s,h=>by
  have ih:=lastI_no (l:=r) (s:=s) (λi hi=>h (i+1) (by simpa using hi));have h0:x≠s:=h 0 (by simp);simp[BE,ih,h0]
def lastI_at:∀{l:List Bs} {s:Bs} {j:Nat} (hj:j<l.length),l[j]=s->(∀i (h:i<l.length),j<i->l[i]≠s)->BE l s=j
 |x::r,s,0,hj,hx,h=>by
  have ih:=lastI_no (l:=r) (s:=s) (λi hi=>h (i+1) (by simpa using hi) (by omega));have h0:x=s:=hx;simp[BE,ih,h0]
 |x::r,s,j+1,hj,hx,h=>by
  have ih:=lastI_at (l:=r) (s:=s) (j:=j) (by simpa using hj) (by simpa using hx) (λi hi hji=>h (i+1) (by simpa using hi) (by omega));unfold BE;rw[if_pos (by omega),ih];omega
def S237:Summs:=AC []
def R237:List D->Option D:=RF S237 dc237 [.t 4] 20
def ko237:(Ac R237).ok Qc 237:=AH fn237 Ad
def R237_eq{nl:Bool}{l:List Bs}(q:Bs)(hl:l.length<=1000):R237 [.slice nl [] (Au l),.str q]=some (.int .i64 (BE l q)):=by
 refine AE (Qb rfl) ?_;unfold dc237;have hw0:IntKind.i64.wrap ((l.length:Int)-1)=(l.length:Int)-1:=w64 (by omega) (by omega);simp only[↓go1,go2,simprocAttr,A0,hw0];refine Bk (n:=l.length) (I:=λj st=>st.s 0= .slice nl [] (Au l)∧st.s 1= .str q∧st.s 5= .int .i64 ((l.length:Int)-1-j)∧∀i (h:i<l.length),l.length<=i+j->l[i]≠q) (λj hj ih st g hI=>?_) (λst g hI=>?_) 0 (Qq _) _ _ ⟨rfl,rfl,by rw[show((0:Nat):Int)=0 from rfl,Int.sub_zero];rfl,λi h h2=>by omega⟩
 ·obtain⟨st_s,st_m,st_c⟩:=st;obtain⟨h0,h1,h5,hall⟩:=hI;simp only at h0 h1 h5;refine Ae dc237l0.eq_1 ?_;have hge:(0:Int)<=(l.length:Int)-1-j:=by omega
  have hw:IntKind.i64.wrap ((l.length:Int)-1-j-1)=(l.length:Int)-1-((j+1:Nat):Int):=by rw[w64 (by omega) (by omega)];omega
  have hi:((l.length:Int)-1-j).toNat=l.length-1-j:=by omega
  have hat:=DR (l:=l) (j:=l.length-1-j) (by omega);by_cases hx:l[l.length-1-j]'(by omega)=q
  ·have e:=lastI_at (by omega) hx (λi h h2=>hall i h (by omega));have hx':=eq_true hx;have e2:((l.length-1-j:Nat):Int)=(l.length:Int)-1-j:=by omega
   simp only[↓go1,gB3,go5,simprocAttr,h0,h1,h5,hge,hi,hat,hx'];rw[e,e2]
   all_goals first|rfl|exact⟨rfl,rfl⟩|simp[*]
  ·have hx':=eq_false hx;simp only[↓go1,gB3,go5,simprocAttr,h0,h1,h5,hge,hi,hat,hx',hw];refine ih _ _ ⟨h0,h1,rfl,λi h h2=>?_⟩;by_cases hj2:l.length<=i+j
   ·exact hall i h hj2
   ·have:i=l.length-1-j:=by omega
    subst this;exact hx
 ·obtain⟨h0,h1,h5,hall⟩:=hI;refine Ae dc237l0.eq_1 ?_;have hge:¬(0:Int)<=(l.length:Int)-1-(l.length:Int):=by omega
  have e:=lastI_no (l:=l) (s:=q) (λi h=>hall i h (by omega));simp only[↓go1,gB3,go5,simprocAttr,h5,hge];rw[e]
  all_goals first|rfl|exact⟨rfl,rfl⟩|simp[*]
def E4(k:Kn):List Bs:=k.es.map (·.1)
def CI(k:Kn)(q:Bs):Bs×Bool×Bool:=if BE (E4 k) q<0 then([],false,false)else((k.es.getD (BE (E4 k) q).toNat ([],[],false)).2.1,(k.es.getD (BE (E4 k) q).toNat ([],[],false)).2.2,true)
def EB(k:Kn)(q:Bs):Bool×List Bs×Bool:=if BE (k.ls.map (·.1)) q<0 then(true,[],false)else((k.ls.getD (BE (k.ls.map (·.1)) q).toNat ([],true,[])).2.1,(k.ls.getD (BE (k.ls.map (·.1)) q).toNat ([],true,[])).2.2,true)
def S137:Summs:=AC [(237,Ac R237)]
def EN:List D->Option D:=RF S137 dc137 [.t 4,.t 5,.t 6] 37
def ko137:(Ac EN).ok Qc 137:=AH fn137 (Ab ko237 Ad)
def R137_eq(k:Kn)(q:Bs)(hl:k.es.length<=1000):EN [.agg (kwC k),.str q]=some (.tup [.str (CI k q).1,.bool (CI k q).2.1,.bool (CI k q).2.2]):=by
 refine AE (Qb rfl) ?_;unfold dc137;have h237:R237 [.slice k.es.isEmpty [] (k.es.map λx=> .str x.1),.str q]=some (.int .i64 (BE (E4 k) q)):=by
  have e:=R237_eq (nl:=k.es.isEmpty) (l:=E4 k) q (by simpa[E4]using hl);simpa[Au,E4,Function.comp_def]using e
 have hb:=EG (E4 k) q;have hkl:(E4 k).length=k.es.length:=Qg ..;rw[hkl]at hb;unfold CI kwC;generalize BE (E4 k) q=i at *;by_cases c:i<0
 ·simp only[↓go1,gB3,go5,simprocAttr,Al S137 237,h237,c]
  all_goals first|rfl|exact⟨rfl,rfl⟩|simp[*]
 ·have hi:i.toNat<k.es.length:=by omega
  have c0:(0:Int)<=i:=by omega
  have c1:(i<(k.es.length:Int))=True:=eq_true (by omega);have g1:(k.es.map λx=>D.str x.2.1)[i.toNat]?=some (.str (k.es.getD i.toNat ([],[],false)).2.1):=by simp[Qf hi]
  have g2:(k.es.map λx=>D.bool x.2.2)[i.toNat]?=some (.bool (k.es.getD i.toNat ([],[],false)).2.2):=by simp[Qf hi]
  generalize k.es.getD i.toNat ([],[],false)=x at *;simp only[↓go1,gB3,go5,simprocAttr,Al S137 237,h237,c,c0,c1,g1,g2,Qg]
  (refine Ao.intro (Aj ?_) ?_;first|rfl|simp[A5,AM,rds,Ai,Ac])
  simp only[↓go1,gB3,go5,simprocAttr]
  all_goals first|rfl|exact⟨rfl,rfl⟩|simp[*]
def S132:Summs:=AC [(237,Ac R237)]
def R132:List D->Option D:=RF S132 dc132 [.t 4,.t 5] 27
def ko132:(Ac R132).ok Qc 132:=AH fn132 (Ab ko237 Ad)
def R132_eq(k:Kn)(q:Bs)(hl:k.ls.length<=1000):R132 [.agg (kwC k),.str q]=some (.tup [.slice (EB k q).1 [] (Au (EB k q).2.1),.bool (EB k q).2.2]):=by
 refine AE (Qb rfl) ?_;unfold dc132;have h237:R237 [.slice k.ls.isEmpty [] (k.ls.map λx=> .str x.1),.str q]=some (.int .i64 (BE (k.ls.map (·.1)) q)):=by
  have e:=R237_eq (nl:=k.ls.isEmpty) (l:=k.ls.map (·.1)) q (by simpa using hl);simpa[Au,Function.comp_def]using e
 have hb:=EG (k.ls.map (·.1)) q;have hkl:(k.ls.map (·.1)).length=k.ls.length:=Qg ..;rw[hkl]at hb;unfold EB kwC;generalize BE (k.ls.map (·.1)) q=i at *;by_cases c:i<0
 ·have c0:¬(0:Int)<=i:=by omega
  simp only[↓go1,gB3,go5,simprocAttr,Al S132 237,h237,c,c0]
  all_goals first|rfl|exact⟨rfl,rfl⟩|simp[*]
 ·have hi:i.toNat<k.ls.length:=by omega
  have c0:(0:Int)<=i:=by omega
  have c1:((k.ls.length:Int)<=i)=False:=eq_false (by omega);have g1:(k.ls.map lsD)[i.toNat]?=some (.slice (k.ls.getD i.toNat ([],true,[])).2.1 [] (Au (k.ls.getD i.toNat ([],true,[])).2.2)):=by simp[Qf hi,lsD]
  generalize k.ls.getD i.toNat ([],true,[])=x at *;simp only[↓go1,gB3,go5,simprocAttr,Al S132 237,h237,c,c0,c1,g1,Qg]
  all_goals first|rfl|exact⟨rfl,rfl⟩|simp[*]
structure Dk where
 n1:Bool
 its:List (Bs×Bs×Bool)
 n2:Bool
 lss:List (Bs×Bool×List Bs)
def itD(x:Bs×Bs×Bool):D:= .agg [.str x.1,.str x.2.1,.bool x.2.2]
def ltD(x:Bs×Bool×List Bs):D:= .agg [.str x.1,.slice x.2.1 [] (Au x.2.2)]
def dkC(k:Dk):List D:=[.slice k.n1 [] (k.its.map itD),.slice k.n2 [] (k.lss.map ltD)]
def bigI(x:Bs×Bs×Bool):Bool:=decide (200<x.1.length)||decide (200<x.2.1.length)
def bigL(x:Bs×Bool×List Bs):Bool:=decide (100<x.2.2.length)||decide (200<x.1.length)||x.2.2.any λs=>decide (200<s.length)
def muchB(k:Dk):Bool:=decide (12<k.its.length)||decide (4<k.lss.length)||k.its.any bigI||k.lss.any bigL
def any_at{α:Type}{l:List α}{p:α->Bool}{j:Nat}(hj:j<l.length)(h:p l[j]=true):l.any p=true:=List.any_eq_true.2 ⟨_,QD hj,h⟩
def any_no{α:Type}{l:List α}{p:α->Bool}(h:∀i (hi:i<l.length),p l[i]=false):l.any p=false:=by
 rw[List.any_eq_false];intro x hx;obtain⟨i,hi,rfl⟩:=Q_ hx;simp[h i hi]
def S9:Summs:=AC []
def R9:List D->Option D:=RF S9 dc9 [.t 2] 88
def ko9:(Ac R9).ok Qc 9:=AH fn9 Ad
def R9_eq(k:Dk):R9 [.agg (dkC k)]=some (.bool (muchB k)):=by
 refine AE (Qb rfl) ?_;unfold dc9;unfold muchB dkC;by_cases c1:12<k.its.length
 ·have c1':((12:Int)<(k.its.length:Int))=True:=eq_true (by omega);simp only[↓go1,gB3,go5,simprocAttr,c1',Qg];simp[c1]
 have c1':((12:Int)<(k.its.length:Int))=False:=eq_false (by omega);by_cases c2:4<k.lss.length
 ·have c2':((4:Int)<(k.lss.length:Int))=True:=eq_true (by omega);simp only[↓go1,gB3,go5,simprocAttr,c1',c2',Qg];simp[c1,c2]
 have c2':((4:Int)<(k.lss.length:Int))=False:=eq_false (by omega);simp only[decide_eq_false c1,decide_eq_false c2,Zh];simp only[↓go1,gB3,go5,simprocAttr,c1',c2',Qg];refine Bk (n:=k.its.length) (I:=λj st=>st.s 1= .ptr [0] 0∧st.s 3= .int .i64 (j:Int)∧(∀i (hi:i<k.its.length),i<j->bigI k.its[i]=false)∧st.m=_) (λj hj ih st g hI=>?_) (λst g hI=>?_) 0 (Qq _) _ _ ⟨rfl,rfl,λi hi h=>absurd h (QX _),rfl⟩
 ·obtain⟨st_s,st_m,st_c⟩:=st;obtain⟨h1,h3,hall,hm⟩:=hI;simp only at h1 h3 hm;subst hm;refine Ae dc9l0.eq_1 ?_;have hlt:((j:Int)<k.its.length):=by omega
  have hj0:=nJ (j:=j);have hw:=wJ (j:=j) (by omega);have hat:(k.its.map itD)[j]?=some (.agg [.str k.its[j].1,.str k.its[j].2.1,.bool k.its[j].2.2]):=by simp[Qf hj,itD]
  by_cases d1:200<k.its[j].1.length
  ·have d1':((200:Int)<(k.its[j].1.length:Int))=True:=eq_true (by omega);have e:k.its.any bigI=true:=any_at hj (by simp[bigI,d1]);rw[e];simp only[↓go1,gB3,go5,simprocAttr,h1,h3,hlt,hj0,Qe,hat,d1',Qg]
   all_goals first|rfl|exact⟨rfl,rfl⟩|simp[*]
  ·have d1':((200:Int)<(k.its[j].1.length:Int))=False:=eq_false (by omega);by_cases d2:200<k.its[j].2.1.length
   ·have d2':((200:Int)<(k.its[j].2.1.length:Int))=True:=eq_true (by omega);have e:k.its.any bigI=true:=any_at hj (by simp[bigI,d2]);rw[e];simp only[↓go1,gB3,go5,simprocAttr,h1,h3,hlt,hj0,Qe,hat,d1',d2',Qg]
    all_goals first|rfl|exact⟨rfl,rfl⟩|simp[*]
   ·have d2':((200:Int)<(k.its[j].2.1.length:Int))=False:=eq_false (by omega);simp only[↓go1,gB3,go5,simprocAttr,h1,h3,hlt,hj0,Qe,hat,d1',d2',hw,Qg];refine ih _ _ ⟨h1,rfl,λi hi h=>?_,rfl⟩;rcases QK (QR h)with h|rfl
    ·exact hall i hi h
    ·simp[bigI,d1,d2]
 ·obtain⟨st_s,st_m,st_c⟩:=st;obtain⟨h1,h3,hall,hm⟩:=hI;simp only at h1 h3 hm;subst hm;refine Ae dc9l0.eq_1 ?_;rw[any_no (λi hi=>hall i hi hi),Zh];simp only[↓go1,gB3,go5,simprocAttr,h1,h3,Qo,Qg];refine Bk (n:=k.lss.length) (I:=λj st=>st.s 1= .ptr [0] 0∧st.s 4= .int .i64 (j:Int)∧(∀i (hi:i<k.lss.length),i<j->bigL k.lss[i]=false)∧st.m=_) (λj hj ih st g hI=>?_) (λst g hI=>?_) 0 (Qq _) _ _ ⟨h1,rfl,λi hi h=>absurd h (QX _),rfl⟩
  ·obtain⟨st_s,st_m,st_c⟩:=st;obtain⟨h1,h3,hall,hm⟩:=hI;simp only at h1 h3 hm;subst hm;refine Ae dc9l2.eq_1 ?_;have hlt:((j:Int)<k.lss.length):=by omega
   have hj0:=nJ (j:=j);have hw:=wJ (j:=j) (by omega);have hat:(k.lss.map ltD)[j]?=some (.agg [.str k.lss[j].1,.slice k.lss[j].2.1 [] (Au k.lss[j].2.2)]):=by simp[Qf hj,ltD]
   by_cases d1:100<k.lss[j].2.2.length
   ·have d1':((100:Int)<(k.lss[j].2.2.length:Int))=True:=eq_true (by omega);have e:k.lss.any bigL=true:=any_at hj (by simp[bigL,d1]);rw[e];simp only[↓go1,gB3,go5,simprocAttr,h1,h3,hlt,hj0,Qe,hat,d1',Qg,A0]
    all_goals first|rfl|exact⟨rfl,rfl⟩|simp[*]
   ·have d1':((100:Int)<(k.lss[j].2.2.length:Int))=False:=eq_false (by omega);by_cases d2:200<k.lss[j].1.length
    ·have d2':((200:Int)<(k.lss[j].1.length:Int))=True:=eq_true (by omega);have e:k.lss.any bigL=true:=any_at hj (by simp[bigL,d2]);rw[e];simp only[↓go1,gB3,go5,simprocAttr,h1,h3,hlt,hj0,Qe,hat,d1',d2',Qg,A0]
     all_goals first|rfl|exact⟨rfl,rfl⟩|simp[*]
    ·have d2':((200:Int)<(k.lss[j].1.length:Int))=False:=eq_false (by omega);simp only[↓go1,gB3,go5,simprocAttr,h1,h3,hlt,hj0,Qe,hat,d1',d2',Qg,A0];refine Bk (n:=k.lss[j].2.2.length) (I:=λq st=>st.s 1= .ptr [0] 0∧st.s 4= .int .i64 (j:Int)∧st.s 5= .int .i64 (q:Int)∧(∀i (hi:i<k.lss[j].2.2.length),i<q->k.lss[j].2.2[i].length<=200)∧st.m=_) (λq hq ih2 st g hI=>?_) (λst g hI=>?_) 0 (Qq _) _ _ ⟨h1,h3,rfl,λi hi h=>absurd h (QX _),rfl⟩
     ·obtain⟨st_s,st_m,st_c⟩:=st;obtain⟨h1,h3,h5,hall2,hm⟩:=hI;simp only at h1 h3 h5 hm;subst hm;refine Ae dc9l1.eq_1 ?_;have hlq:((q:Int)<k.lss[j].2.2.length):=by omega
      have hq0:(0:Int)<=(q:Int):=by omega
      have hwq:IntKind.i64.wrap ((q:Int)+1)=((q+1:Nat):Int):=w64 (by omega) (by omega);have haq:=DR hq;by_cases d3:200<k.lss[j].2.2[q].length
      ·have d3':((200:Int)<(k.lss[j].2.2[q].length:Int))=True:=eq_true (by omega);have e:k.lss.any bigL=true:=any_at hj (by
        have:k.lss[j].2.2.any (λs=>decide (200<s.length))=true:=any_at hq (by simp[d3]);simp only[bigL,this,Bool.or_true])
       rw[e];simp only[↓go1,gB3,go5,simprocAttr,h1,h3,h5,hj0,hlq,hq0,Qe,hat,haq,d3',A0]
       all_goals first|rfl|exact⟨rfl,rfl⟩|simp[*]
      ·have d3':((200:Int)<(k.lss[j].2.2[q].length:Int))=False:=eq_false (by omega);simp only[↓go1,gB3,go5,simprocAttr,h1,h3,h5,hj0,hlq,hq0,Qe,hat,haq,d3',hwq,A0];refine ih2 _ _ ⟨h1,h3,rfl,λi hi h=>?_,rfl⟩;rcases QK (QR h)with h|rfl
       ·exact hall2 i hi h
       ·omega
     ·obtain⟨st_s,st_m,st_c⟩:=st;obtain⟨h1,h3,h5,hall2,hm⟩:=hI;simp only at h1 h3 h5 hm;subst hm;refine Ae dc9l1.eq_1 ?_;simp only[↓go1,gB3,go5,simprocAttr,h1,h3,h5,hj0,Qo,Qe,hat,hw,A0];refine ih _ _ ⟨h1,rfl,λi hi h=>?_,rfl⟩;rcases QK (QR h)with h|rfl
      ·exact hall i hi h
      ·have:k.lss[i].2.2.any (λs=>decide (200<s.length))=false:=any_no (λp hp=>by have:=hall2 p hp hp;simp;omega);simp only[bigL,this,decide_eq_false d1,decide_eq_false d2,Bool.or_false]
  ·obtain⟨st_s,st_m,st_c⟩:=st;obtain⟨h1,h3,hall,hm⟩:=hI;simp only at h1 h3 hm;subst hm;refine Ae dc9l2.eq_1 ?_;rw[any_no (λi hi=>hall i hi hi)];simp only[↓go1,gB3,go5,simprocAttr,h1,h3,Qo,Qg]
   all_goals first|rfl|exact⟨rfl,rfl⟩|simp[*]
def BL(k:Kn)(q:Bs)(li:Bool)(d:Dk):Kn:=
 if li=true then {k with ls:=k.ls++[(q,((d.lss.find? λx=>decide (x.1=q)).getD ([],true,[])).2)]}else {k with es:=k.es++[(q,((d.its.find? λx=>decide (x.1=q)).getD ([],[],false)).2)]}
structure DkOk (d:Dk):Prop where
 l1:d.its.length<=1000
 l2:d.lss.length<=1000
 ls:∀x∈d.lss,x.2.2.length<=1000∧(x.2.1=true->x.2.2=[])
end Go.Vd
namespace Go.Vd
open Go.Proofs
def dc298:DC:=(sr [cb 4 false] (sr [mm 5 0,mm 6 1,c2 7 288 5 6,bi 8 .geq 7 0,mm 4 8] .ret))
def fn298:Fn Qc 298 9 dc298 [.t 4]:=Am func298
def dc194:DC:=(sr [cb 2 false] (sr [mm 3 0,bs 4 .neq 3 [],mm 5 4,gm 6 0 2 true,gs 7 .neq 6 [45] 2 true,pa 8 5 7,mm 9 8,gm 10 0 6 true,gn 11 true 10 6 true,gi 12 .leq 11 64 6 true,pa 13 9 12,mm 14 13,gm 15 0 11 true,gc 16 298 [(.t 15),(.c (.str [32]))] 11 true,og 17 (.un .not (.t 16)) 11 true,pa 18 14 17,mm 19 18,gm 20 0 16 true,gc 21 298 [(.t 20),(.c (.str [44]))] 16 true,og 22 (.un .not (.t 21)) 16 true,pa 23 19 22,mm 2 23] .ret))
def fn194:Fn Qc 194 24 dc194 [.t 2]:=Am func194
def dc193:DC:=(sr [cb 2 false] (sr [mm 3 0,c1 4 194 3,nt 5 4,mm 2 5] .ret))
def fn193:Fn Qc 193 6 dc193 [.t 2]:=Am func193
def dc318:DC:=(sr [ob 1 0,cs 2 []] (sr [ff 4 0 1,ll 5 4,c1 6 316 5,mm 3 6] (.seq (sr [ff 7 1 1,ll 8 7] (cd 8 (.row [mm 9 3,bs 10 .add 9 [33],mm 3 10]) .skip)) (.seq (sr [ff 11 2 1,ll 12 11] (cd 12 (.row [mm 13 3,bs 14 .add 13 [35],mm 3 14]) .skip)) (sr [mm 15 3,mm 2 15] .ret)))))
def fn318:Fn Qc 318 16 dc318 [.t 2]:=Am func318
def dc319:DC:=(sr [cs 2 []] (.seq (sr [mm 3 0] (cd 3 (sr [cs 2 [49]] .ret) .skip)) (sr [cs 2 [48]] .ret)))
def fn319:Fn Qc 319 4 dc319 [.t 2]:=Am func319
def dc320:DC:=(sr [cs 2 []] (.seq (sr [mm 3 0,nn 4 false 3,bi 5 .eql 4 0] (cd 5 (sr [cs 2 [45]] .ret) .skip)) (sr [mm 6 0,cc 7 221 [(.t 6),(.c (.str [44]))],mm 2 7] .ret)))
def fn320:Fn Qc 320 8 dc320 [.t 2]:=Am func320
end Go.Vd
namespace Go.Vd
open Go.Proofs Go.RowKit
def plV:D->Value
 | .str s=> .string ⟨s.toArray⟩
 | .int k n=> .int k n
 | .bool b=> .bool b
 |_=>undef
def rep_pl{w:World}{g:Gh}{d:D}{v:Value}(h:Rep w g d v)(hp:d.plain=true):v=plV d:=by
 cases h with
 |bool b=>rfl
 |int k n=>rfl
 |str s=>rfl
 |_=>cases hp
def pure_ok {P:Program} {f:FuncId} {F:List D→Option D} (ent:∃fn,P.funcs[f]?=some fn∧fn.body.isSome=true∧(fn.name== "runtime.NumGoroutine")=false)
  (h:∀ds r,F ds=some r->(∀d∈ds,d.plain=true)∧∃v,(∀w g,Rep w g r v)∧∀w:World,Calls P f (ds.map plV).toArray w λe w'=>e= .returned v∧Below w.heap.size w w'):(Ac F).ok P f:=by
 refine⟨ent,λds m m' fr _=>rfl,?_⟩;intro B w0 w m g fr ds vs r u hi hfresh hl hrep hex;simp only[Ac]at hex;split at hex
 ·rename_i hcalm;rw[Za]at hex;obtain⟨r',hr,hex⟩:=hex;simp only[Q5]at hex;obtain⟨rfl,rfl⟩:=hex;obtain⟨hp,v,hv,hc⟩:=h _ _ hr;have hvs:vs=(ds.map D.un).map plV:=by
   apply List.ext_getElem?;intro j;by_cases hj:j<vs.length
   ·have hj2:j<ds.length:=by omega
    have e:=(hrep j _ _ (Qf hj2) (Qf hj)).un;have hd:(ds.map D.un)[j]?=some ds[j].un:=by rw[List.getElem?_map,Qf hj2];rfl
    rw[Qf hj,List.getElem?_map,hd,rep_pl e (hp _ (List.mem_of_getElem? hd))];rfl
   ·rw[Zd (by omega),Zd (by simp;omega)]
  subst hvs;refine(hc w).mono ?_;rintro ev w' ⟨rfl,hb⟩;exact⟨_,g.over w w',rfl,hi.over hb,Ext.over hi.gz hb,hv _ _,λi hf _=>hf⟩
 ·cases hex
def IX:List D->Option D
 |[.str s,.str [c]]=>some (.int .i64 (Lib.indexByte s c))
 |_=>none
def ko288:(Ac IX).ok Qc 288:=pure_ok ⟨_,func288,by kernel_rfl,by kernel_rfl⟩ λds r h=>by
 unfold IX at h;split at h
 ·rename_i s c;simp only[Qn]at h;subst h;refine⟨λd hd=>?_,_,λw g=> .int _ _,λw=>?_⟩
  ·simp only[Q6,Q7,or_false]at hd;rcases hd with rfl|rfl<;>rfl
  ·refine(Go.Proofs.Any.strings_Index_one (P:=Qc) (ρ:=lays146_ren) {lays146 with} ⟨s.toArray⟩ c w).mono ?_;rintro e w' ⟨rfl,rfl⟩;exact⟨rfl,Below.refl _ _⟩
 ·cases h
def ko356:(Ac IX).ok Qc 356:=pure_ok ⟨_,func356,by kernel_rfl,by kernel_rfl⟩ λds r h=>by
 unfold IX at h;split at h
 ·rename_i s c;simp only[Qn]at h;subst h;refine⟨λd hd=>?_,_,λw g=> .int _ _,λw=>?_⟩
  ·simp only[Q6,Q7,or_false]at hd;rcases hd with rfl|rfl<;>rfl
  ·refine(Go.Proofs.Any.stringslite_Index_one (P:=Qc) (ρ:=lays146_ren) {lays146 with} ⟨s.toArray⟩ c w).mono ?_;rintro e w' ⟨rfl,rfl⟩;exact⟨rfl,Below.refl _ _⟩
 ·cases h
def ix_has:∀(s:Bs)(c:UInt8),decide (0<=Lib.indexByte s c)=s.any (·==c)
 |[],c=>rfl
 |b::l,c=>by
  have ih:=ix_has l c;unfold Lib.indexByte;cases hb:b==c with
  |true=>simp[hb]
  |false=>
   simp only[List.any_cons,hb,Zh,←ih];rw[if_neg Qz];cases h1:Lib.indexByte l c==-1 with
   |true=>rw[if_pos rfl];have:=beq_iff_eq.1 h1;rw[this]
   |false=>
    rw[if_neg Qz];have hne:Lib.indexByte l c≠-1:=by intro e;rw[e]at h1;simp at h1
    have hge:-1<=Lib.indexByte l c:=by
     clear ih hb h1 hne;induction l with
     |nil=>simp[Lib.indexByte]
     |cons x r ih=>unfold Lib.indexByte;split<;>first|omega|(split<;>omega)
    congr 1;exact propext (by omega)
def hasB1(s:Bs)(c:UInt8):Bool:=s.any (·==c)
def nmB(s:Bs):Bool:=decide (s≠[])&&(decide (s≠[45])&&(decide (s.length<=64)&&(!hasB1 s 32&&!hasB1 s 44)))
def S298:Summs:=AC [(288,Ac IX)]
def R298:List D->Option D:=RF S298 dc298 [.t 4] 9
def ko298:(Ac R298).ok Qc 298:=AH fn298 (Ab ko288 Ad)
def R298_eq(s:Bs)(c:UInt8):R298 [.str s,.str [c]]=some (.bool (hasB1 s c)):=by
 refine AE (Qb rfl) ?_;unfold dc298;have h288:IX [.str s,.str [c]]=some (.int .i64 (Lib.indexByte s c)):=rfl;have e:=ix_has s c;simp only[↓go1,gB3,go5,simprocAttr,Al S298 288,h288];rw[e]
 all_goals first|rfl|exact⟨rfl,rfl⟩|simp[*]
def S194:Summs:=AC [(298,Ac R298)]
def R194:List D->Option D:=RF S194 dc194 [.t 2] 24
def ko194:(Ac R194).ok Qc 194:=AH fn194 (Ab ko298 Ad)
def R194_eq(s:Bs):R194 [.str s]=some (.bool (nmB s)):=by
 refine AE (Qb rfl) ?_;unfold dc194;have h298:=R298_eq s;unfold nmB;by_cases c1:s=[]
 ·have c1':=eq_true c1;simp only[↓go1,gB3,go5,simprocAttr,c1']
  all_goals first|rfl|exact⟨rfl,rfl⟩|simp[*]
 have c1':=eq_false c1;by_cases c2:s=[45]
 ·have c2':=eq_true c2;simp only[↓go1,gB3,go5,simprocAttr,c1',c2']
  all_goals first|rfl|exact⟨rfl,rfl⟩|simp[*]
 have c2':=eq_false c2;by_cases c3:s.length<=64
 ·have c3':((s.length:Int)<=64)=True:=eq_true (by omega);cases c4:hasB1 s 32 with
  |true=>
   simp only[↓go1,gB3,go5,simprocAttr,c1',c2',c3',c4,Al S194 298,h298]
   all_goals first|rfl|exact⟨rfl,rfl⟩|simp[*]
  |false=>
   simp only[↓go1,gB3,go5,simprocAttr,c1',c2',c3',c4,Al S194 298,h298]
   all_goals first|rfl|exact⟨rfl,rfl⟩|simp[*]
 ·have c3':((s.length:Int)<=64)=False:=eq_false (by omega);simp only[↓go1,gB3,go5,simprocAttr,c1',c2',c3']
  all_goals first|rfl|exact⟨rfl,rfl⟩|simp[*]
def clo193:(cloS λc x=>match x with| .str s=>some (.bool (!nmB s))|_=>none).ok Qc 193:=by
 obtain⟨S,hS,hl⟩:=A7 (Ab ko194 Ad);have s194:=hl 194 _ rfl;clear hl;refine clo_ok (S:=S) hS fn193 (λx caps m fr c d hcap hF hfr hl=>⟨by omega,?_⟩);split at hF
 ·rename_i s;simp only[Qn]at hF;subst hF;have h194:=R194_eq s;unfold dc193;simp only[↓go1,gB3,go5,simprocAttr,Aa s194,h194]
  try exact λi o y h=>h
 ·cases hF
def KN:D->D->Option D:=λc x=>match x with| .str s=>some (.bool (!nmB s))|_=>none
def idx297n:(EO 193 none KN).ok Qc 297:=idx_ok (by omega) fn297 rfl clo193
def cn192n:(cnS 193 none KN).ok Qc 192:=cn_ok (by omega) fn192 idx297n
def cn192n_ex{l:List Bs}{nl:Bool}{t:Id}(hl:l.length<=1000000)(m:Mem)(fr:Id):
  (cnS 193 none KN).ex [.slice nl t (Au l),.fn 193 []] m fr=some (.bool (l.any λs=>!nmB s),[]):=by
 have e:(Au l).map (KN .junk)=(l.map λs=>!nmB s).map λb=>some (.bool b):=by
  simp only[Au,Q9];exact QJ λr _=>rfl
 have hel:(Au l).all (elB none)=true:=by
  rw[QB];intro x hx;obtain⟨r,_,rfl⟩:=QE.1 hx;rfl
 simp only[cnS,A0,hl,hel,and_self,if_true,Fl,QC,e,Dc,Qs];simp only[Zj];rfl
def S292:Summs:=AC []
def R292:List D->Option D:=RF S292 dc292 [.t 4] 26
def ko292:(Ac R292).ok Qc 292:=AH fn292 Ad
def R292_eq{n1 n2:Bool}{l:List Bs}(hl:l.length<=100000):R292 [.slice n1 [] (Au l),.slice n2 [] (Au l)]=some (.bool true):=by
 refine AE (Qb rfl) ?_;unfold dc292;simp only[↓go1,go2,go4,go5,simprocAttr,A0];refine Bk (n:=l.length) (I:=λj st=>st.s 0= .slice n1 [] (Au l)∧st.s 1= .slice n2 [] (Au l)∧st.s 12= .int .i64 l.length∧st.s 13= .int .i64 (j:Int)) (λj hj ih st g hI=>?_) (λst g hI=>?_) 0 (Qq _) _ _ ⟨rfl,rfl,rfl,rfl⟩
 ·obtain⟨st_s,st_m,st_c⟩:=st;obtain⟨h0,h1,h12,h13⟩:=hI;simp only at h0 h1 h12 h13;refine Ae dc292l0.eq_1 ?_;have hlt:((j:Int)<l.length):=by omega
  have hj0:=nJ (j:=j);have hw:=wJ (j:=j) (by omega);have hat:=DR hj;simp only[↓go1,gB3,go5,simprocAttr,h0,h1,h12,h13,hlt,hj0,Qe,hat]
  (refine Ao.intro (Aj ?_) ?_;first|rfl|simp[A5,AM,rds,Ai,Ac])
  simp only[↓go1,go2,go5,simprocAttr,h13,hw];exact ih _ _ ⟨h0,h1,h12,rfl⟩
 ·obtain⟨h0,h1,h12,h13⟩:=hI;refine Ae dc292l0.eq_1 ?_;simp only[↓go1,gB3,go5,simprocAttr,h12,h13,Qo]
  all_goals first|rfl|exact⟨rfl,rfl⟩|simp[*]
def S359:Summs:=AC []
def R359:List D->Option D:=RF S359 dc359 [.t 4] 26
def ko359:(Ac R359).ok Qc 359:=AH fn359 Ad
def R359_eq{n1 n2:Bool}{l:List Rw}(hl:l.length<=100000):R359 [.slice n1 [] (A6 l),.slice n2 [] (A6 l)]=some (.bool true):=by
 refine AE (Qb rfl) ?_;unfold dc359;simp only[↓go1,go2,go4,go5,simprocAttr,AU];refine Bk (n:=l.length) (I:=λj st=>st.s 0= .slice n1 [] (A6 l)∧st.s 1= .slice n2 [] (A6 l)∧st.s 12= .int .i64 l.length∧st.s 13= .int .i64 (j:Int)) (λj hj ih st g hI=>?_) (λst g hI=>?_) 0 (Qq _) _ _ ⟨rfl,rfl,rfl,rfl⟩
 ·obtain⟨st_s,st_m,st_c⟩:=st;obtain⟨h0,h1,h12,h13⟩:=hI;simp only at h0 h1 h12 h13;refine Ae dc359l0.eq_1 ?_;have hlt:((j:Int)<l.length):=by omega
  have hj0:=nJ (j:=j);have hw:=wJ (j:=j) (by omega);have hat:=EW hj;have hle:Bn [.int .i64 l[j].1,.bool l[j].2.1,.bool l[j].2.2] [.int .i64 l[j].1,.bool l[j].2.1,.bool l[j].2.2] [(0,0),(1,1),(1,2)]=some true:=by simp[Bn,leafEq]
  simp only[Qs,↓go1,gB3,go5,simprocAttr,h0,h1,h12,h13,hlt,hj0,Qe,hat,hle]
  (refine Ao.intro (Aj ?_) ?_;first|rfl|simp[A5,AM,rds,Ai,Ac])
  simp only[↓go1,go2,go5,simprocAttr,h13,hw];exact ih _ _ ⟨h0,h1,h12,rfl⟩
 ·obtain⟨h0,h1,h12,h13⟩:=hI;refine Ae dc359l0.eq_1 ?_;simp only[↓go1,gB3,go5,simprocAttr,h12,h13,Qo]
  all_goals first|rfl|exact⟨rfl,rfl⟩|simp[*]
def S293:Summs:=AC [(359,Ac R359)]
def R293:List D->Option D:=RF S293 dc293 [.t 4] 31
def ko293:(Ac R293).ok Qc 293:=AH fn293 (Ab ko359 Ad)
def R293_eq(s:Sc)(hl:s.rs.length<=100000):R293 [.agg (scC s),.agg (scC s)]=some (.bool true):=by
 refine AE (Qb rfl) ?_;unfold dc293;have h359:=R359_eq (n1:=s.nl) (n2:=s.nl) hl;unfold scC;simp only[↓go1,gB3,go5,simprocAttr,Al S293 359,h359]
 all_goals first|rfl|exact⟨rfl,rfl⟩|simp[*]
def F347:List D->Option D:=FX (λs:Bs=>[.str s]) (λ_=>True) (λs=> .str (if s=[]then [45]else s))
def F347_eq(s:Bs):F347 [.str s]=some (.str (if s=[]then [45]else s)):=BB (mk:=λs:Bs=>[.str s]) (λa b h=>by simpa using h) trivial
theorem ok347 : (Ac F347).ok Qc 347 := by
  refine BM (S := fun _ => none) AL fn347 (fun _ => by simp) (fun s _ => ?_)
  unfold dc347
  cases s with
  | nil => simp only [↓go1, gB3, reduceIte, Qa, Qd, and_self]
           all_goals first | rfl | exact ⟨rfl, rfl⟩
  | cons x r =>
    have he : ((x :: r) == ([] : Bs)) = false := rfl
    simp only [↓go1, gB3, reduceIte, Qa, Qd, reduceCtorEq]
    all_goals first | rfl | exact ⟨rfl, rfl⟩
def BT(n:Nat):Bs:=if n<10 then [EP n]else if n<100 then [EP (n / 10),EP (n % 10)]else [EP (n / 100),EP (n / 10 % 10),EP (n % 10)]
def F346:List D->Option D:=FX (λn:Nat=>[.int .i64 (n:Int)]) (λn=>n<1000) (λn=> .str (BT n))
def F346_eq{n:Nat}(h:n<1000):F346 [.int .i64 (n:Int)]=some (.str (BT n)):=BB (mk:=λn:Nat=>[.int .i64 (n:Int)]) (λa b h=>by simp only[Qp,D.int.injEq,true_and,and_true]at h;omega) h
def tmod10(n:Nat):(n:Int).tmod 10=((n % 10:Nat):Int):=by rw[Q1 (by omega)];omega
def tdiv10(n:Nat)(h:n<1000):IntKind.i64.wrap ((n:Int).tdiv 10)=((n / 10:Nat):Int):=by
 have e:(n:Int).tdiv 10=((n / 10:Nat):Int):=by rw[Q2 (by omega)];omega
 rw[e];exact w64 (by omega) (by omega)
def ok346:(Ac F346).ok Qc 346:=by
 refine BM (S:=λ_=>none) AL fn346 (λ_=>by simp) (λn hn=>?_);have t0:=hexTab (n % 10) (by omega);have t1:=hexTab (n / 10 % 10) (by omega);have t2:=hexTab (n / 10 / 10 % 10) (by omega);have m0:=tmod10 n;have m1:=tmod10 (n / 10);have m2:=tmod10 (n / 10 / 10);have d0:=tdiv10 n hn;have d1:=tdiv10 (n / 10) (by omega);have d2:=tdiv10 (n / 10 / 10) (by omega);have z0:(0:Int)<=((n % 10:Nat):Int):=by omega
 have z1:(0:Int)<=((n / 10 % 10:Nat):Int):=by omega
 have z2:(0:Int)<=((n / 10 / 10 % 10:Nat):Int):=by omega
 have ten:((10:Int)=0)=False:=by simp
 unfold dc346 BT;by_cases h1:n<10
 ·have g:¬((0:Int)<((n / 10:Nat):Int)):=by omega
  have e:n % 10=n:=by omega
  simp only[↓go1,gB2,go4,reduceIte,Qa,Qd,m0,z0,t0,d0,ten,ne_eq,Qe];refine Ae dc346l0.eq_1 ?_;simp only[↓go1,gB3,reduceIte,Qa,Qd,g,h1];rw[e,UInt8.ofNat_toNat]
  all_goals first|rfl|exact⟨rfl,rfl⟩
 ·have g:((0:Int)<((n / 10:Nat):Int)):=by omega
  by_cases h2:n<100
  ·have g2:¬((0:Int)<((n / 10 / 10:Nat):Int)):=by omega
   have e:n / 10 % 10=n / 10:=by omega
   rw[e]at t1 m1 z1;simp only[↓go1,gB2,go4,reduceIte,Qa,Qd,m0,z0,t0,d0,ten,ne_eq,Qe];refine Ae dc346l0.eq_1 ?_;simp only[↓go1,gB2,go4,reduceIte,Qa,Qd,g,m1,z1,t1,d1,ten,ne_eq,Qe,Qi,Q8];refine Ae dc346l0.eq_1 ?_;simp only[↓go1,gB3,reduceIte,Qa,Qd,g2,h1,h2,UInt8.ofNat_toNat,QH,Zb]
   all_goals first|rfl|exact⟨rfl,rfl⟩
  ·have g2:((0:Int)<((n / 10 / 10:Nat):Int)):=by omega
   have g3:¬((0:Int)<((n / 10 / 10 / 10:Nat):Int)):=by omega
   have e:n / 10 / 10 % 10=n / 100:=by omega
   rw[e]at t2 m2 z2;simp only[↓go1,gB2,go4,reduceIte,Qa,Qd,m0,z0,t0,d0,ten,ne_eq,Qe];refine Ae dc346l0.eq_1 ?_;simp only[↓go1,gB2,go4,reduceIte,Qa,Qd,g,m1,z1,t1,d1,ten,ne_eq,Qe,Qi,Q8];refine Ae dc346l0.eq_1 ?_;simp only[↓go1,gB2,go4,reduceIte,Qa,Qd,g2,m2,z2,t2,d2,ten,ne_eq,Qe,Qk,Qi,Q8];refine Ae dc346l0.eq_1 ?_;simp only[↓go1,gB3,reduceIte,Qa,Qd,g3,h1,h2,UInt8.ofNat_toNat,QH,Zb]
   all_goals first|rfl|exact⟨rfl,rfl⟩
def F317:List D->Option D:=FX (λs:Bs=>[.str s]) (λs=>s.length<=1000000) (λs=> .str (EQ s))
def F317_eq{s:Bs}(h:s.length<=1000000):F317 [.str s]=some (.str (EQ s)):=BB (mk:=λs:Bs=>[.str s]) (λa b h=>by simpa using h) h
def loop317{S:Summs}{l:Bs}{Q:Ex->St->Prop}(hb:l.length<=1000000)
  (hexit:∀st t,st.s 3= .slice false t (AD (EQ l))->Q (.exit 0) st):
  ∀(n k:Nat)(t:Id) st g,n=l.length-k->k<=l.length->st.s 13= .int .i64 (k:Int)->st.s 12= .int .i64 (l.length:Int)->st.s 11= .slice false [] (AD l)->st.s 3= .slice false t (AD (EQ (l.take k)))->Gw st.m st.c 5 false t->
   A8 S [] dc317l0 Q st g:=by
 intro n;induction n with
 |zero=>
  intro k t st g hn hk h13 h12 h11 h3 hg;refine Ae dc317l0.eq_1 ?_;have:¬((k:Int)<l.length):=by omega
  simp only[↓go1,go2,go4,reduceIte,Qd,h13,h12,this];refine hexit _ t ?_;rw[Qt (by omega)]at h3;simp only[↓go1,reduceIte,Qa,h3]
 |succ n ih=>
  intro k t st g hn hk h13 h12 h11 h3 hg;refine Ae dc317l0.eq_1 ?_;have hlt:((k:Int)<l.length):=by omega
  have hk0:(0:Int)<=(k:Int):=by omega
  have hkl:k<l.length:=by omega
  have hx:(AD l)[(k:Int).toNat]?=some (.int .u8 (l[k].toNat:Int)):=by simp[AD,hkl]
  have hw:IntKind.i64.wrap ((k:Int)+1)=(k:Int)+1:=IntWalk.i64_in _ ⟨by omega,by omega⟩;have hc:=l[k].toNat_lt;have htk:l.take (k+1)=l.take k++[l[k]]:=by rw[QS,Qf hkl];rfl
  have hlen:(l.take k).length=k:=by simp;omega
  have h04:(0:Int)<=4:=by decide
  have a1:=shr4 l[k].toNat (by omega);have a2:=and15 l[k].toNat (by omega);have p1:(0:Int)<=((l[k].toNat / 16:Nat):Int):=by omega
  have p2:(0:Int)<=((l[k].toNat % 16:Nat):Int):=by omega
  have q1:(((l[k].toNat / 16:Nat):Int)).toNat=l[k].toNat / 16:=Qe _;have q2:(((l[k].toNat % 16:Nat):Int)).toNat=l[k].toNat % 16:=Qe _;have t1:=hexTab (l[k].toNat / 16) (by omega);have t2:=hexTab (l[k].toNat % 16) (by omega);simp only[↓go1,gB3,reduceIte,Qa,Qd,Qj,Qm,h13,h12,h11,h3,hlt,hk0,hx,h04,a1,a2,p1,p2,q1,q2,t1,t2,false_and,reduceCtorEq];refine Ao.intro ⟨by rw[BZ,DX,hlen];omega,rfl,hg.grow (by omega)⟩ ?_;simp only[↓go1,gB3,reduceIte,Qa,Qd];refine Ao.intro (Aj rfl) ?_;simp only[↓go1,gB3,reduceIte,Qa,Qd,h13,hw];refine ih (k+1) [st.c+1+3+8] _ _ (by omega) (by omega) rfl h12 h11 ?_ ?_
  ·rw[htk,hexB_snoc,EJ];rfl
  ·exact Gw.new (by simp only;omega)
def ok317:(Ac F317).ok Qc 317:=by
 refine BM (S:=λ_=>none) AL fn317 (λ_=>by simp) (λs hb=>?_);have hw:IntKind.i64.wrap (2*(s.length:Int))=2*(s.length:Int):=IntWalk.i64_in _ ⟨by omega,by omega⟩;have b1:(0:Int)<=0:=by decide
 have b2:(0:Int)<=2*(s.length:Int):=by omega
 have b3:2*(s.length:Int)*2<=140737488355328:=by omega
 have e0:(0:Int).toNat=0:=rfl;unfold dc317;simp only[↓go1,gB3,reduceIte,Qa,Qd,hw,b1,b2];refine Ao.intro (by omega) ?_;simp only[↓go1,go2,reduceIte,Qa,Qd,e0,List.replicate_zero,BZ];refine loop317 (l:=s) hb (λst t' h1=>?_) s.length 0 [4] _ _ rfl (by omega) rfl rfl rfl rfl (.inr ⟨4,rfl,by simp only;omega,by simp[Bm]⟩);simp only[↓go1,gB3,reduceIte,Qa,Qd,h1,CL]
 all_goals first|rfl|exact⟨rfl,rfl⟩
end Go.Vd
namespace Go.Proofs
open Go.Shelf
def lays156_ren:Go.Shelf.Ren:=⟨λ|156=>221|165=>226|166=>227|169=>229|240=>324|241=>325|276=>370|277=>371|n=>n,λ|31=>28|9=>9|3=>3|4=>4|0=>0|20=>20|72=>322|76=>326|70=>320|37=>264|75=>325|127=>402|164=>439|5=>5|80=>216|n=>n,λ|n=>n⟩
def lays156:Go.Proofs.Lays.n156 Qc lays156_ren:={
 mixed:=by kernel_rfl
 f156:=func221.trans (congrArg some (by kernel_rfl))
 f165:=func226.trans (congrArg some (by kernel_rfl))
 f166:=func227.trans (congrArg some (by kernel_rfl))
 f169:=func229.trans (congrArg some (by kernel_rfl))
 f240:=func324.trans (congrArg some (by kernel_rfl))
 f241:=func325.trans (congrArg some (by kernel_rfl))
 f276:=func370.trans (congrArg some (by kernel_rfl))
 f277:=func371.trans (congrArg some (by kernel_rfl))
 t0:=underlying0
 a0:=isAgg0
 z0:=sizeOf0
 v0:=zeroValue0
 t3:=underlying3
 a3:=isAgg3
 z3:=sizeOf3
 v3:=zeroValue3
 t4:=underlying4
 a4:=isAgg4
 z4:=sizeOf4
 v4:=zeroValue4
 t9:=underlying9
 a9:=isAgg9
 z9:=sizeOf9
 v9:=zeroValue9
 t20:=underlying20
 a20:=isAgg20
 z20:=sizeOf20
 v20:=zeroValue20
 t31:=underlying28
 a31:=isAgg28
 z31:=sizeOf28
 v31:=zeroValue28
 t37:=underlying264
 a37:=isAgg264
 z37:=sizeOf264
 v37:=zeroValue264
 t70:=underlying320
 a70:=isAgg320
 z70:=sizeOf320
 v70:=zeroValue320
 t72:=underlying322
 a72:=isAgg322
 z72:=sizeOf322
 v72:=zeroValue322
 t75:=underlying325
 a75:=isAgg325
 z75:=sizeOf325
 v75:=zeroValue325
 t76:=underlying326
 a76:=isAgg326
 z76:=sizeOf326
 v76:=zeroValue326
 t127:=underlying402
 a127:=isAgg402
 z127:=sizeOf402
 v127:=zeroValue402
 t164:=underlying439
 a164:=isAgg439
 z164:=sizeOf439
 v164:=zeroValue439}
def Builder_Extra_156:Builder.Extra Qc lays156_ren:={
 sizeBuilder:=by kernel_rfl
 liesBuilder:=by kernel_rfl
 t5:=underlying5
 a5:=isAgg5
 z5:=sizeOf5
 v5:=zeroValue5
 infoByte:=by kernel_rfl
 cellsByte:=by kernel_rfl
 sizeByte:=by kernel_rfl
 neB5:=by decide}
end Go.Proofs
namespace Go.Vd
open Go.Proofs Go.RowKit
inductive Ry where
 |fail (e:Int)
 |done
 |number (n:Int)
 |found (n:Int) (d:Bs)
 |about (s:Sc)
 |names (nl:Bool) (l:List Bs)
 |state (b:Bool)
def z0:List D:=[.int .i64 0,.bool false,.int .i64 0,.slice true [] []]
def ryC:Ry->List D
 | .fail e=>[.int .u8 0,.int .i64 e,.int .i64 0,.str [],.slice true [] [],.int .i64 0,.bool false,.int .i64 0,.slice true [] [],.bool false]
 | .done=>[.int .u8 1,.int .i64 0,.int .i64 0,.str [],.slice true [] [],.int .i64 0,.bool false,.int .i64 0,.slice true [] [],.bool false]
 | .number n=>[.int .u8 2,.int .i64 0,.int .i64 n,.str [],.slice true [] [],.int .i64 0,.bool false,.int .i64 0,.slice true [] [],.bool false]
 | .found n d=>[.int .u8 3,.int .i64 0,.int .i64 n,.str d,.slice true [] [],.int .i64 0,.bool false,.int .i64 0,.slice true [] [],.bool false]
 | .about s=>[.int .u8 4,.int .i64 0,.int .i64 0,.str [],.slice true [] [],.int .i64 s.mx,.bool s.cas,.int .i64 s.la,.slice s.nl [] (A6 s.rs),.bool false]
 | .names nl l=>[.int .u8 5,.int .i64 0,.int .i64 0,.str [],.slice nl [] (Au l),.int .i64 0,.bool false,.int .i64 0,.slice true [] [],.bool false]
 | .state b=>[.int .u8 6,.int .i64 0,.int .i64 0,.str [],.slice true [] [],.int .i64 0,.bool false,.int .i64 0,.slice true [] [],.bool b]
def ryOk:Ry->Prop
 | .about s=>s.rs.length<=1000
 | .names _ l=>l.length<=1000
 |_=>True
def ryE:Ry->Int
 | .fail e=>if 1<=e∧e<=99 then 0 else 2
 | .number n=>if 0<=n∧n<=999 then 0 else 2
 | .found n d=>if 0<=n∧n<=999∧d.length<=400 then 0 else 2
 | .about s=>if Dx s 6=true then 2 else 0
 | .names _ l=>if l.length<=64∧(l.any λs=>!nmB s)=false then 0 else 2
 |_=>0
def S189:Summs:=AC [(292,Ac R292),(293,Ac R293)]
def R189:List D->Option D:=RF S189 dc189 [.t 4] 52
def ko189:(Ac R189).ok Qc 189:=AH fn189 (Ab ko292 (Ab ko293 Ad))
def Gl(k e n:Int)(da:Bs)(nl:Bool)(l:List Bs)(s:Sc)(fl:Bool)(hl:l.length<=1000)(hs:s.rs.length<=1000):R189 [.agg [.int .u8 k,.int .i64 e,.int .i64 n,.str da,.slice nl [] (Au l),.int .i64 s.mx,.bool s.cas,.int .i64 s.la,.slice s.nl [] (A6 s.rs),.bool fl],.agg [.int .u8 k,.int .i64 e,.int .i64 n,.str da,.slice nl [] (Au l),.int .i64 s.mx,.bool s.cas,.int .i64 s.la,.slice s.nl [] (A6 s.rs),.bool fl]]=some (.bool true):=by
 refine AE (Qb rfl) ?_;have s293:S189 293=some (Ac R293):=rfl;unfold dc189;have h292:=R292_eq (n1:=nl) (n2:=nl) (l:=l) (by omega);have h293:=R293_eq s (by omega);unfold scC at h293;simp only[gB1,↓go1,go5,simprocAttr,Al S189 292,h292,Aa s293,h293]
 all_goals first|rfl|exact⟨rfl,rfl⟩|simp[*]
def same_ry(y:Ry)(h:ryOk y):R189 [.agg (ryC y),.agg (ryC y)]=some (.bool true):=by
 have e0:Au []=[]:=rfl;have e1:A6 []=[]:=rfl;cases y with
 |fail e=>exact Gl 0 e 0 [] true [] sc0 false (by simp) (by simp[sc0])
 |done=>exact Gl 1 0 0 [] true [] sc0 false (by simp) (by simp[sc0])
 |number n=>exact Gl 2 0 n [] true [] sc0 false (by simp) (by simp[sc0])
 |found n d=>exact Gl 3 0 n d true [] sc0 false (by simp) (by simp[sc0])
 |about s=>exact Gl 4 0 0 [] true [] s false (by simp) h
 |names nl l=>exact Gl 5 0 0 [] nl l sc0 false h (by simp[sc0])
 |state b=>exact Gl 6 0 0 [] true [] sc0 b (by simp) (by simp[sc0])
def S190:Summs:=AC []
def R190:List D->Option D:=RF S190 dc190 [.cell (some 10) 2] 52
def ko190:(Ac R190).ok Qc 190:=AH fn190 Ad
def R190_eq(y:Ry):R190 [.agg (ryC y)]=some (.agg (ryC y)):=by
 refine AE (Qb rfl) ?_;unfold dc190;cases y<;>unfold ryC
 all_goals
  simp only[gB1,↓go1,go5,simprocAttr]
  all_goals first|rfl|exact⟨rfl,rfl⟩|simp[*]
def S92:Summs:=AC [(190,Ac R190),(189,Ac R189),(191,Ac Gk),(192,cnS 193 none KN)]
def R92:List D->Option D:=RF S92 dc92 [.t 2] 73
def ko92:(Ac R92).ok Qc 92:=AH fn92 (Ab ko190 (Ab ko189 (Ab ko191 (Ab cn192n Ad))))
def R92_eq(y:Ry)(h:ryOk y):R92 [.agg (ryC y)]=some (.int .i64 (ryE y)):=by
 refine AE (Qb rfl) ?_;have s189:S92 189=some (Ac R189):=rfl;have s191:S92 191=some (Ac Gk):=rfl;have s192:S92 192=some (cnS 193 none KN):=rfl;unfold dc92;have h190:=R190_eq y;have h189:=same_ry y h;cases y with
 |fail e=>
  unfold ryC ryE at *;simp only[gB1,↓go1,go5,simprocAttr,Al S92 190,h190,Aa s189,h189]
  (refine Ao.intro (Aj ?_) ?_;first|rfl|simp[A5,AM,rds,Ai,Ac])
  by_cases c1:1<=e
  ·by_cases c2:e<=99
   ·simp only[↓go1,gB3,go5,simprocAttr,c1,c2]
    all_goals first|rfl|exact⟨rfl,rfl⟩|simp[*]
   ·simp only[↓go1,gB3,go5,simprocAttr,c1,c2]
    all_goals first|rfl|exact⟨rfl,rfl⟩|simp[*]
  ·simp only[↓go1,gB3,go5,simprocAttr,c1]
   all_goals first|rfl|exact⟨rfl,rfl⟩|simp[*]
 |done=>
  unfold ryC ryE at *;simp only[gB1,↓go1,go5,simprocAttr,Al S92 190,h190,Aa s189,h189]
  (refine Ao.intro (Aj ?_) ?_;first|rfl|simp[A5,AM,rds,Ai,Ac])
  simp only[↓go1,gB3,go5,simprocAttr]
  all_goals first|rfl|exact⟨rfl,rfl⟩|simp[*]
 |number n=>
  unfold ryC ryE at *;simp only[gB1,↓go1,go5,simprocAttr,Al S92 190,h190,Aa s189,h189]
  (refine Ao.intro (Aj ?_) ?_;first|rfl|simp[A5,AM,rds,Ai,Ac])
  by_cases c1:0<=n
  ·by_cases c2:n<=999
   ·simp only[↓go1,gB3,go5,simprocAttr,c1,c2,Qm,Int.cast_ofNat_Int]
    all_goals first|rfl|exact⟨rfl,rfl⟩|simp[*]
   ·simp only[↓go1,gB3,go5,simprocAttr,c1,c2]
    all_goals first|rfl|exact⟨rfl,rfl⟩|simp[*]
  ·simp only[↓go1,gB3,go5,simprocAttr,c1]
   all_goals first|rfl|exact⟨rfl,rfl⟩|simp[*]
 |found n d=>
  unfold ryC ryE at *;simp only[gB1,↓go1,go5,simprocAttr,Al S92 190,h190,Aa s189,h189]
  (refine Ao.intro (Aj ?_) ?_;first|rfl|simp[A5,AM,rds,Ai,Ac])
  by_cases c1:0<=n
  ·by_cases c2:n<=999
   ·by_cases c3:d.length<=400
    ·have c3':((d.length:Int)<=400)=True:=eq_true (by omega);simp only[↓go1,gB3,go5,simprocAttr,c1,c2,c3']
     all_goals first|rfl|exact⟨rfl,rfl⟩|simp[*]
    ·have c3':((d.length:Int)<=400)=False:=eq_false (by omega);simp only[↓go1,gB3,go5,simprocAttr,c1,c2,c3']
     all_goals first|rfl|exact⟨rfl,rfl⟩|simp[*]
   ·simp only[↓go1,gB3,go5,simprocAttr,c1,c2]
    all_goals first|rfl|exact⟨rfl,rfl⟩|simp[*]
  ·simp only[↓go1,gB3,go5,simprocAttr,c1]
   all_goals first|rfl|exact⟨rfl,rfl⟩|simp[*]
 |about s=>
  have h191:=Gj s 6 false h;unfold secE scC at h191;unfold ryC ryE at *;simp only[gB1,↓go1,go5,simprocAttr,Al S92 190,h190,Aa s189,h189]
  (refine Ao.intro (Aj ?_) ?_;first|rfl|simp[A5,AM,rds,Ai,Ac])
  cases hb:Dx s 6 with
  |true=>
   rw[hb]at h191;simp only[if_true]at h191;simp only[gB1,↓go1,go5,simprocAttr,Aa s191,h191]
   all_goals first|rfl|exact⟨rfl,rfl⟩|simp[*]
  |false=>
   rw[hb]at h191;simp only[if_false,Ql]at h191;simp only[gB1,↓go1,go5,simprocAttr,Aa s191,h191]
   all_goals first|rfl|exact⟨rfl,rfl⟩|simp[*]
 |names nl l=>
  have h192:=λ(m:Mem)(fr:Id)=>cn192n_ex (l:=l) (nl:=nl) (t:=[]) (by have:l.length<=1000:=h;omega) m fr
  unfold ryC ryE at *;simp only[gB1,↓go1,go5,simprocAttr,Al S92 190,h190,Aa s189,h189]
  (refine Ao.intro (Aj ?_) ?_;first|rfl|simp[A5,AM,rds,Ai,Ac])
  by_cases c1:l.length<=64
  ·have c1':((l.length:Int)<=64)=True:=eq_true (by omega);cases c2:l.any λs=>!nmB s with
   |true=>
    rw[c2]at h192;simp only[↓go1,gB3,go5,simprocAttr,c1',A0,Ag s192,h192]
    all_goals first|rfl|exact⟨rfl,rfl⟩|simp[*]
   |false=>
    rw[c2]at h192;simp only[↓go1,gB3,go5,simprocAttr,c1',A0,Ag s192,h192]
    all_goals first|rfl|exact⟨rfl,rfl⟩|simp[*]
  ·have c1':((l.length:Int)<=64)=False:=eq_false (by omega);simp only[↓go1,gB3,go5,simprocAttr,c1',A0]
   all_goals first|rfl|exact⟨rfl,rfl⟩|simp[*]
 |state b=>
  unfold ryC ryE at *;simp only[gB1,↓go1,go5,simprocAttr,Al S92 190,h190,Aa s189,h189]
  (refine Ao.intro (Aj ?_) ?_;first|rfl|simp[A5,AM,rds,Ai,Ac])
  simp only[↓go1,gB3,go5,simprocAttr]
  all_goals first|rfl|exact⟨rfl,rfl⟩|simp[*]
def dgB:∀d:Fin 10,UInt8.ofNat (IntKind.u8.wrap (48+((d.val:Nat):Int))).toNat=EP d.val:=by decide
def dgO(n:Nat):UInt8.ofNat (IntKind.u8.wrap (IntKind.i64.wrap (48+((n % 10:Nat):Int)))).toNat=EP (n % 10):=by
 rw[w64 (by omega) (by omega)];exact dgB ⟨n % 10,by omega⟩
def un1(a:Int):Bw [.int .u8 a]=some [UInt8.ofNat a.toNat]:=rfl
def Dp(n:Nat):(BT n).length<=3:=by
 unfold BT;split
 ·simp
 ·split<;>simp
def S316:Summs:=AC []
def R316:List D->Option D:=RF S316 dc316 [.t 2] 17
def ko316:(Ac R316).ok Qc 316:=AH fn316 Ad
def R316_eq(n:Nat)(h:n<1000):R316 [.int .i64 (n:Int)]=some (.str (BT n)):=by
 refine AE (Qb rfl) ?_;unfold dc316;have td:∀k:Nat,k<1000->IntKind.i64.wrap ((k:Int).tdiv 10)=((k / 10:Nat):Int):=tdiv10;have t1:=td n h;have t2:=td (n / 10) (by omega);have t3:=td (n / 10 / 10) (by omega);have a0:∀c:UInt8,AY .add (.str [c]) (.str [])=some (.str [c]):=λc=>add_s (by simp)
 have a1:∀c d:UInt8,AY .add (.str [c]) (.str [d])=some (.str [c,d]):=λc d=>add_s (by simp)
 have a2:∀c d e:UInt8,AY .add (.str [c]) (.str [d,e])=some (.str [c,d,e]):=λc d e=>add_s (by simp)
 have hr:∀k:Nat,AY .rem (.int .i64 (k:Int)) (.int .i64 10)=some (.int .i64 ((k % 10:Nat):Int)):=λk=>by rw[←tmod10];rfl
 have hq:∀k:Nat,AY .quo (.int .i64 (k:Int)) (.int .i64 10)=some (.int .i64 (IntKind.i64.wrap ((k:Int).tdiv 10))):=λk=>rfl
 unfold BT;simp only[↓go1,go2,simprocAttr];refine Ae dc316l0.eq_1 ?_;by_cases c1:n<10
 ·have z1:(((n / 10:Nat):Int)=0)=True:=eq_true (by omega);have z2:n % 10=n:=by omega
  simp only[Qs,↓go1,gB3,go5,simprocAttr,hr,hq,t1,dgO,a0,z1];rw[z2,if_pos c1]
 ·have z1:(((n / 10:Nat):Int)=0)=False:=eq_false (by omega);simp only[Qs,↓go1,gB3,go5,simprocAttr,hr,hq,t1,dgO,a0,z1];refine Ae dc316l0.eq_1 ?_;by_cases c2:n<100
  ·have z2:(((n / 10 / 10:Nat):Int)=0)=True:=eq_true (by omega);have z3:n / 10 % 10=n / 10:=by omega
   simp only[Qs,↓go1,gB3,go5,simprocAttr,hr,hq,t2,dgO,a1,z2];rw[z3,if_neg c1,if_pos c2]
  ·have z2:(((n / 10 / 10:Nat):Int)=0)=False:=eq_false (by omega);simp only[Qs,↓go1,gB3,go5,simprocAttr,hr,hq,t2,dgO,a1,z2];refine Ae dc316l0.eq_1 ?_;have z4:(((n / 10 / 10 / 10:Nat):Int)=0)=True:=eq_true (by omega);have z5:n / 10 / 10 % 10=n / 100:=by omega
   simp only[Qs,↓go1,gB3,go5,simprocAttr,hr,hq,t3,dgO,a2,z4];rw[z5,if_neg c1,if_neg c2]
def rowW1(x:Rw):Bs:=BT x.1.toNat++(if x.2.1=true then [33]else [])++(if x.2.2=true then [35]else [])
def S318:Summs:=AC [(316,Ac R316)]
def R318:List D->Option D:=RF S318 dc318 [.t 2] 16
def ko318:(Ac R318).ok Qc 318:=AH fn318 (Ab ko316 Ad)
def R318_eq(x:Rw)(h:0<=x.1∧x.1<1000):R318 [.agg [.int .i64 x.1,.bool x.2.1,.bool x.2.2]]=some (.str (rowW1 x)):=by
 refine AE (Qb rfl) ?_;unfold dc318;have h316:=R316_eq x.1.toNat (by omega);rw[Qr h.1]at h316;have hl:=Dp x.1.toNat;unfold rowW1;generalize BT x.1.toNat=s at *;have a1:∀c:UInt8,AY .add (.str s) (.str [c])=some (.str (s++[c])):=λc=>add_s (by simp;omega)
 have a2:∀c d:UInt8,AY .add (.str (s++[c])) (.str [d])=some (.str (s++[c]++[d])):=λc d=>add_s (by simp;omega)
 obtain⟨n,g,d⟩:=x;simp only at *;cases g<;>cases d
 all_goals
  simp only[↓go1,gB3,go5,simprocAttr,Al S318 316,h316,a1,a2]
  all_goals first|rfl|exact⟨rfl,rfl⟩|simp[*]
def S319:Summs:=AC []
def R319:List D->Option D:=RF S319 dc319 [.t 2] 4
def ko319:(Ac R319).ok Qc 319:=AH fn319 Ad
def R319_eq(b:Bool):R319 [.bool b]=some (.str [if b=true then 49 else 48]):=by
 refine AE (Qb rfl) ?_;unfold dc319;cases b
 all_goals
  simp only[↓go1,go2,go3,go5,simprocAttr]
  all_goals first|rfl|exact⟨rfl,rfl⟩|simp[*]
def C8(l:List Bs):Bs:=if l=[]then [45]else Lib.join l [44]
def ko221:(Ac joinF).ok Qc 221:=joinF_ok lays156 Builder_Extra_156 ⟨_,func221,by kernel_rfl,by kernel_rfl⟩
def joinW_eq{l:List Bs}{s:Bs}(h:l≠[]∧l.length<=1000∧Cp l<=1000000∧s.length<=1000∧(Lib.join l s).length<=10000000):joinF [.slice false [] (Au l),.str s]=some (.str (Lib.join l s)):=BB (mk:=mkJ) (a:=(l,s)) mkJ_inj h
def S320:Summs:=AC [(221,Ac joinF)]
def R320:List D->Option D:=RF S320 dc320 [.t 2] 8
def ko320:(Ac R320).ok Qc 320:=AH fn320 (Ab ko221 Ad)
def R320_eq(nl:Bool)(l:List Bs)(hn:nl=true->l=[])(h:l.length<=1000∧Cp l<=1000000∧(Lib.join l [44]).length<=10000000):R320 [.slice nl [] (Au l)]=some (.str (C8 l)):=by
 refine AE (Qb rfl) ?_;unfold dc320;unfold C8;by_cases c:l=[]
 ·have c':((l.length:Int)=0)=True:=eq_true (by rw[c];rfl);simp only[↓go1,gB3,go5,simprocAttr,c',A0];simp[c]
 ·have c':((l.length:Int)=0)=False:=eq_false (by
   intro e;exact c (Qv.1 (by omega)))
  have hnl:nl=false:=by
   cases nl with
   |true=>exact absurd (hn rfl) c
   |false=>rfl
  subst hnl;have h221:=joinW_eq (l:=l) (s:=[44]) ⟨c,h.1,h.2.1,by simp,h.2.2⟩;simp only[↓go1,gB3,go5,simprocAttr,c',A0,Al S320 221,h221];simp[c]
def ryW:Ry->List Bs
 | .fail e=>[[101,114,114,111,114],BT e.toNat]
 | .done=>[[111,107]]
 | .number n=>[[111,107],[110,117,109,98,101,114],BT n.toNat]
 | .found n d=>[[111,107],[102,111,117,110,100],BT n.toNat,if d=[]then [45]else EQ d]
 | .about s=>[[111,107],[97,98,111,117,116],BT s.mx.toNat,[if s.cas=true then 49 else 48],BT s.la.toNat,C8 (s.rs.map rowW1)]
 | .names _ l=>[[111,107],[110,97,109,101,115],C8 l]
 | .state b=>if b=true then [[111,107],[115,101,97,108,101,100]]else [[111,107],[111,112,101,110]]
def ryG:Ry->Prop
 | .fail e=>0<=e∧e<1000
 | .number n=>0<=n∧n<1000
 | .found n d=>0<=n∧n<1000∧d.length<=1000
 | .about s=>s.rs.length<=100∧(0<=s.mx∧s.mx<1000)∧(0<=s.la∧s.la<1000)∧∀x∈s.rs,0<=x.1∧x.1<1000
 | .names nl l=>l.length<=1000∧(nl=true->l=[])∧Cp l<=1000000
 |_=>True
def DV:∀(l:List Bs)(s:Bs),(Lib.join l s).length<=Cp l+l.length*s.length
 |[],s=>by simp[Lib.join]
 |[x],s=>by simp[Lib.join,Cp]
 |x::y::r,s=>by
  have ih:=DV (y::r) s;have e:Lib.join (x::y::r) s=x++s++Lib.join (y::r) s:=by simp[Lib.join]
  rw[e,Qk,Qk];simp only[Cp,Qj]at ih ⊢;rw[Nat.succ_mul];omega
def rowW1_len(x:Rw):(rowW1 x).length<=5:=by
 have:=Dp x.1.toNat;unfold rowW1;rw[Qk,Qk];split<;>split<;>simp<;>omega
def sum_rows:∀l:List Rw,Cp (l.map rowW1)<=5*l.length
 |[]=>by simp[Cp]
 |x::r=>by
  have:=sum_rows r;have:=rowW1_len x;simp only[QV,Cp,Qj];omega
def S222:Summs:=AC [(316,Ac R316),(319,Ac R319),(320,Ac R320),(318,Ac R318),(317,Ac F317)]
def R222:List D->Option D:=RF S222 dc222 [.t 2] 78
def ko222:(Ac R222).ok Qc 222:=AH fn222 (Ab ko316 (Ab ko319 (Ab ko320 (Ab ko318 (Ab ok317 Ad)))))
theorem R222_eq (y : Ry) (h : ryG y) : R222 [.agg (ryC y)] = some (.slice false [] (Au (ryW y))) := by
  refine AE (Qb rfl) ?_
  have s319 : S222 319 = some (Ac R319) := rfl
  have s320 : S222 320 = some (Ac R320) := rfl
  have s318 : S222 318 = some (Ac R318) := rfl
  have s317 : S222 317 = some (Ac F317) := rfl
  unfold dc222
  cases y with
  | fail e =>
    have h316 := R316_eq e.toNat (by have := h.1; have := h.2; omega)
    rw [Qr h.1] at h316
    unfold ryC ryW Au
    simp only [↓go1, gB3, go5, simprocAttr, Al S222 316, h316]
    all_goals first | rfl | exact ⟨rfl, rfl⟩ | simp [*]
  | done =>
    unfold ryC ryW Au
    simp only [↓go1, gB3, go5, simprocAttr]
    all_goals first | rfl | exact ⟨rfl, rfl⟩ | simp [*]
  | number n =>
    have h316 := R316_eq n.toNat (by have := h.1; have := h.2; omega)
    rw [Qr h.1] at h316
    unfold ryC ryW Au
    simp only [↓go1, gB3, go5, simprocAttr, Al S222 316, h316]
    all_goals first | rfl | exact ⟨rfl, rfl⟩ | simp [*]
  | found n d =>
    have h316 := R316_eq n.toNat (by have := h.1; have := h.2; omega)
    rw [Qr h.1] at h316
    have h317 := F317_eq (s := d) (by have := h.2.2; omega)
    unfold ryC ryW Au
    by_cases c : d = []
    · have c' := eq_true c
      simp only [↓go1, gB3, go5, simprocAttr, Al S222 316, h316, c']
      simp []
    · have c' := eq_false c
      simp only [↓go1, gB3, go5, simprocAttr, Al S222 316, h316, Aa s317, h317, c']
      simp []
  | names nl l =>
    obtain ⟨h1, h2, h3⟩ := h
    have h320 := R320_eq nl l h2 ⟨h1, h3, by have := DV l [44]; simp at this; omega⟩
    unfold ryC ryW
    simp only [↓go1, gB3, go5, simprocAttr, Aa s320, h320]
    all_goals first | rfl | exact ⟨rfl, rfl⟩ | simp [*]
  | state b =>
    unfold ryC ryW Au
    cases b with
    | true =>
      simp only [↓go1, gB3, go5, simprocAttr]
      all_goals first | rfl | exact ⟨rfl, rfl⟩ | simp [*]
    | false =>
      simp only [↓go1, gB3, go5, simprocAttr]
      all_goals first | rfl | exact ⟨rfl, rfl⟩ | simp [*]
  | about s =>
    obtain ⟨g1, g2, g3, g4⟩ := h
    have h1 := R316_eq s.mx.toNat (by omega)
    rw [Qr g2.1] at h1
    have h2 := R316_eq s.la.toNat (by omega)
    rw [Qr g3.1] at h2
    have h319 := R319_eq s.cas
    have hsr := sum_rows s.rs
    have h320 := fun nl hn => R320_eq nl (s.rs.map rowW1) hn ⟨by simp; omega, by omega, by have := DV (s.rs.map rowW1) [44]; simp at this; omega⟩
    unfold ryC ryW
    simp only [↓go1, gB3, go5, simprocAttr, AU]
    refine Bk (n := s.rs.length) (I := fun j st => st.s 38 = .slice s.nl [] (A6 s.rs) ∧ st.s 39 = .int .i64 s.rs.length ∧ st.s 40 = .int .i64 (j : Int) ∧ st.s 1 = .ptr [0] 0 ∧ ∃ nl t, st.s 4 = .slice nl t (Au ((s.rs.take j).map rowW1)) ∧ nl = decide (j = 0) ∧ LG 1 _ 9 st.m st.c nl t) (fun j hj ih st g hI => ?_) (fun st g hI => ?_) 0 (Qq _) _ _ ⟨rfl, rfl, rfl, rfl, true, [], rfl, rfl, LG.start (by simp only; omega)⟩
    · obtain ⟨st_s, st_m, st_c⟩ := st
      obtain ⟨h38, h39, h40, hp, nl, t, h4, hnl, hG⟩ := hI
      simp only at h38 h39 h40 hp h4 hG
      refine Ae dc222l0.eq_1 ?_
      have hlt : ((j : Int) < s.rs.length) := by omega
      have hj0 := nJ (j := j)
      have hw := wJ (j := j) (by omega)
      have hat := EW hj
      have h318 := R318_eq s.rs[j] (g4 _ (QD hj))
      have htk : Au ((s.rs.take (j + 1)).map rowW1) = Au ((s.rs.take j).map rowW1) ++ [.str (rowW1 s.rs[j])] := by
        rw [QQ hj, QW]; simp [Au]
      have hal : (Au ((s.rs.take j).map rowW1)).length = j := by simp [Au]; omega
      have hnil : nl = true → Au ((s.rs.take j).map rowW1) = [] := by
        rw [hnl]; intro h; have : j = 0 := by simpa using h
        subst this; rfl
      generalize Au ((s.rs.take j).map rowW1) = acc at h4 htk hal hnil
      generalize s.rs[j] = x at hat htk h318
      simp only [gB1, ↓go1, go5, simprocAttr, h38, h39, h40, h4, hlt, hj0, Qe, hat, Aa s318, h318]
      refine Ao.intro ⟨by omega, rfl, (by first | exact hG.grow | exact (hG.put (by omega)).grow | exact ((hG.put (by omega)).put (by omega)).grow | exact (((hG.put (by omega)).put (by omega)).put (by omega)).grow | exact ((((hG.put (by omega)).put (by omega)).put (by omega)).put (by omega)).grow | exact (((((hG.put (by omega)).put (by omega)).put (by omega)).put (by omega)).put (by omega)).grow)⟩ ?_
      rw [BG hnil, ← htk]
      simp only [↓go1, go2, simprocAttr, h40, hw]
      exact ih _ _ ⟨h38, h39, rfl, hp, false, _, rfl, by simp, (by first | exact hG.app (by omega) (by simp only; omega) | exact (hG.put (by omega)).app (by omega) (by simp only; omega) | exact ((hG.put (by omega)).put (by omega)).app (by omega) (by simp only; omega) | exact (((hG.put (by omega)).put (by omega)).put (by omega)).app (by omega) (by simp only; omega) | exact ((((hG.put (by omega)).put (by omega)).put (by omega)).put (by omega)).app (by omega) (by simp only; omega) | exact (((((hG.put (by omega)).put (by omega)).put (by omega)).put (by omega)).put (by omega)).app (by omega) (by simp only; omega))⟩
    · obtain ⟨st_s, st_m, st_c⟩ := st
      obtain ⟨h38, h39, h40, hp, nl, t, h4, hnl, hG⟩ := hI
      simp only at h38 h39 h40 hp h4 hG
      refine Ae dc222l0.eq_1 ?_
      have m0 : ∀ k, st_m [0] k = _ := fun k => hG.low 0 k (by omega)
      rw [List.take_length] at h4
      have hh := h320 nl (by rw [hnl]; intro h; have : s.rs.length = 0 := by simpa using h
                             simp [Qv.1 this])
      unfold Au at h4 hh ⊢
      simp only [↓go1, gB3, go5, simprocAttr, h39, h40, hp, h4, Qo, m0, Al S222 316, h1, h2, Aa s319, h319, Aa s320, hh]
      (refine Ao.intro (Aj ?_) ?_; first | rfl | simp [A5, AM, rds, Ai, Ac])
      simp only [↓go1, go2, go3, go5, simprocAttr]
      all_goals first | rfl | exact ⟨rfl, rfl⟩ | simp [*]
def spJ(l:List Bs):Bs:=Lib.join l [32]
def ryT(y:Ry):Bs:=if ryE y=0 then spJ (ryW y)else []
def ryW_ne(y:Ry):ryW y≠[]:=by
 cases y<;>simp[ryW];split<;>simp
def S89:Summs:=AC []
def R89:List D->Option D:=RF S89 dc89 [] 6
def ko89:(Ac R89).ok Qc 89:=AH fn89 Ad
def R89_eq:R89 [.bool true]=some (.tup []):=by
 refine AE (Qb rfl) ?_;unfold dc89;simp only[↓go1,gB3,go5,reduceIte,Qa,Qd]
 all_goals first|rfl|exact⟨rfl,rfl⟩|simp[*]
def S90:Summs:=AC [(89,Ac R89)]
def R90:List D->Option D:=RF S90 dc90 [.t 2] 46
def ko90:(Ac R90).ok Qc 90:=AH fn90 (Ab ko89 Ad)
def numP(s:Bs):Int:=s.foldl (λa c=>10*a+((c.toNat:Int)-48)) 0
def numP_app(s:Bs)(c:UInt8):numP (s++[c])=10*numP s+((c.toNat:Int)-48):=by simp[numP]
def numP_le{s:Bs}(hd:∀c∈s,48<=c.toNat∧c.toNat<=57):∀j,j<=s.length->0<=numP (s.take j)∧numP (s.take j)<10 ^ j:=by
 intro j;induction j with
 |zero=>intro _;rw[QO];exact⟨by decide,by decide⟩
 |succ j ih=>
  intro hj;have hc:=hd s[j] (QD _);have hi:=ih (by omega);rw[QS,Qf (by omega:j<s.length)];show 0<=numP (s.take j++[s[j]])∧numP (s.take j++[s[j]])<10 ^ (j+1);rw[numP_app,Int.pow_succ];omega
def loop90{ns:Id}{s:Bs}{Q:Ex->St->Prop}(h3:s.length<=3)(hd:∀c∈s,48<=c.toNat∧c.toNat<=57)(hexit:∀st,st.s 3= .int .i64 (numP s)->Q (.exit 0) st)(st:St)(g)(h25:st.s 25= .slice false [] (AD s))(h26:st.s 26= .int .i64 (AD s).length)(h27:st.s 27= .int .i64 0)(h03:st.s 3= .int .i64 0):A8 S90 ns dc90l0 Q st g:=by
 have h89:=R89_eq;refine Bk (n:=s.length) (I:=λj st=>st.s 25= .slice false [] (AD s)∧st.s 26= .int .i64 s.length∧st.s 27= .int .i64 (j:Int)∧st.s 3= .int .i64 (numP (s.take j))) (λj hj ih st g hI=>?_) (λst g hI=>?_) 0 (Qq _) st g ⟨h25,by rw[h26,BZ],h27,by rw[QO];exact h03⟩
 ·obtain⟨st_s,st_m,st_c⟩:=st;obtain⟨h25,h26,h27,h3'⟩:=hI;simp only at h25 h26 h27 h3';refine Ae dc90l0.eq_1 ?_;have hlt:((j:Int)<s.length):=by omega
  have hj0:=nJ (j:=j);have hw:=wJ (j:=j) (by omega);have hat:(AD s)[j]?=some (.int .u8 (s[j].toNat:Int)):=by simp[AD,hj]
  obtain⟨c1,c2⟩:=hd s[j] (QD _);have p:=numP_le hd j (by omega);have p3:(10:Int) ^ j<=1000:=by
   have:j=0∨j=1∨j=2:=by omega
   rcases this with rfl|rfl|rfl<;>decide
  have d1:(48:Int)<=(s[j].toNat:Int):=by omega
  have d2:(s[j].toNat:Int)<=57:=by omega
  have w1:IntKind.i64.wrap (10*numP (s.take j))=10*numP (s.take j):=IntWalk.i64_in _ ⟨by omega,by omega⟩;have w2:IntKind.u8.wrap ((s[j].toNat:Int)-48)=(s[j].toNat:Int)-48:=by show((s[j].toNat:Int)-48) % 256=_;omega
  have w3:IntKind.i64.wrap ((s[j].toNat:Int)-48)=(s[j].toNat:Int)-48:=IntWalk.i64_in _ ⟨by omega,by omega⟩;have w4:IntKind.i64.wrap (10*numP (s.take j)+((s[j].toNat:Int)-48))=numP (s.take (j+1)):=by
   rw[IntWalk.i64_in _ ⟨by omega,by omega⟩,QS,Qf hj];exact(numP_app _ _).symm
  simp only[↓go1,gB3,go5,reduceIte,Qa,Qd,h25,h26,h27,h3',hlt,hj0,Qe,hat,Al S90 89,h89,d1,d2,w1,w2,w3,w4,hw];exact ih _ _ ⟨h25,h26,rfl,rfl⟩
 ·obtain⟨h25,h26,h27,h3'⟩:=hI;refine Ae dc90l0.eq_1 ?_;simp only[↓go1,go2,go4,go5,reduceIte,Qd,h26,h27,Qo];refine hexit _ ?_;rw[Qt (QM _)]at h3';simp only[↓go1,reduceIte,Qa,h3']
def R90_eq(s:Bs)(h1:1<=s.length)(h3:s.length<=3)(hz:s=[48]∨s.head?≠some 48)(hd:∀c∈s,48<=c.toNat∧c.toNat<=57):R90 [.str s]=some (.int .i64 (numP s)):=by
 refine AE (Qb rfl) ?_;unfold dc90;have h89:=R89_eq;have e1:((1:Int)<=s.length):=by omega
 have e3:((s.length:Int)<=3):=by omega
 have hg0:∃c,s[0]?=some c∧(s=[48]∨c≠48):=by
  cases s with
  |nil=>simp at h1
  |cons c s=>exact⟨c,rfl,by rcases hz with h|h;exact .inl h;exact .inr (λe=>h (by rw[e];rfl))⟩
 obtain⟨c0,hc0,hz'⟩:=hg0;simp only[↓go1,go2,go4,reduceIte,Qa,Qd,reduceCtorEq,e1,e3];refine ifQ.intro (λhs=>?_) (λhs=>?_)
 ·subst hs;simp only[↓go1,gB3,go5,reduceIte,Qa,Qd,reduceCtorEq,Al S90 89,h89];refine loop90 h3 hd (λst h=>?_) _ _ rfl rfl rfl rfl;simp only[↓go1,go2,go3,go5,reduceIte,Qa,Qd,h]
  all_goals first|rfl|exact⟨rfl,rfl⟩|simp[*]
 ·have hc48:((c0.toNat:Int)=48)=False:=eq_false (λe=>(hz'.resolve_left hs) (UInt8.toNat_inj.1 (by show c0.toNat=48;omega)));simp only[↓go1,gB3,go5,reduceIte,Qa,Qd,reduceCtorEq,Zl,hs,hc0,hc48,Al S90 89,h89,Int.toNat_zero];refine loop90 h3 hd (λst h=>?_) _ _ rfl rfl rfl rfl;simp only[↓go1,go2,go3,go5,reduceIte,Qa,Qd,h]
  all_goals first|rfl|exact⟨rfl,rfl⟩|simp[*]
def CP:∀d,d<10->(EP d).toNat=48+d:=by decide
def numB_dig(n:Nat)(h:n<1000):∀c∈BT n,48<=c.toNat∧c.toNat<=57:=by
 unfold BT;have key:∀d,d<10->48<=(EP d).toNat∧(EP d).toNat<=57:=λd hd=>by rw[CP d hd];omega
 split
 ·intro c hc;rw[List.mem_singleton.1 hc];exact key _ (by omega)
 ·split<;>intro c hc<;>simp only[Q6,List.not_mem_nil,or_false]at hc
  ·rcases hc with rfl|rfl<;>exact key _ (by omega)
  ·rcases hc with rfl|rfl|rfl<;>exact key _ (by omega)
def numB_num(n:Nat)(h:n<1000):numP (BT n)=n:=by
 unfold BT;split
 ·simp only[numP,Zc,Ze,CP n (by omega)];omega
 ·split
  ·simp only[numP,Zc,Ze,CP (n / 10) (by omega),CP (n % 10) (by omega)];omega
  ·simp only[numP,Zc,Ze,CP (n / 100) (by omega),CP (n / 10 % 10) (by omega),CP (n % 10) (by omega)];omega
def numB_one(n:Nat):1<=(BT n).length:=by unfold BT;split;simp;split<;>simp
def numB_hd(n:Nat)(h:n<1000):BT n=[48]∨(BT n).head?≠some 48:=by
 have key:∀d,d<10->d≠0->EP d≠48:=λd hd h0 e=>by have:=CP d hd;rw[e]at this;simp at this;omega
 unfold BT;split
 ·by_cases h0:n=0
  ·subst h0;exact .inl (by decide)
  ·exact .inr (λe=>key n (by omega) h0 (by simpa using e))
 ·split
  ·exact .inr (λe=>key (n / 10) (by omega) (by omega) (by simpa using e))
  ·exact .inr (λe=>key (n / 100) (by omega) (by omega) (by simpa using e))
def Fg(n:Nat)(h:n<1000):R90 [.str (BT n)]=some (.int .i64 (n:Int)):=by
 rw[R90_eq (BT n) (numB_one n) (Dp n) (numB_hd n h) (numB_dig n h),numB_num n h]
def S290:Summs:=AC [(89,Ac R89)]
def R290:List D->Option D:=RF S290 dc290 [.t 2] 12
def ko290:(Ac R290).ok Qc 290:=AH fn290 (Ab ko89 Ad)
def R290_eq(b:Bool):R290 [.str (if b then [49]else [48])]=some (.bool b):=by
 refine AE (Qb rfl) ?_;unfold dc290;have h89:=R89_eq;have h:True:=trivial;have d1:decide (([49]:Bs)=[48])=false:=rfl;have d2:decide (([48]:Bs)=[49])=false:=rfl;have d3:decide (([49]:Bs)=[49])=true:=rfl;have d4:decide (([48]:Bs)=[48])=true:=rfl;cases b
 all_goals
  repeat' (first|(refine ifQ.intro (λh=>?_) (λh=>?_)<;>try (exfalso;omega))|(refine Ao.intro (Aj ?_) ?_;first|rfl|simp[A5,AM,rds,Ai,Ac])|(simp only[↓go1,gB3,go5,reduceIte,Qa,Qd,reduceCtorEq,Al S290 89,h89,d1,d2]))
  all_goals first|rfl|exact⟨rfl,rfl⟩|simp[*]
def S357:Summs:=AC []
def R357:List D->Option D:=RF S357 dc357 [.t 2] 24
def ko357:(Ac R357).ok Qc 357:=AH fn357 Ad
def hexD_let:∀d,d<16->10<=d->(EP d).toNat=87+d:=by decide
def w8{x:Int}(h0:0<=x)(h1:x<256):IntKind.u8.wrap x=x:=by show x % 256=x;omega
def R357_eq(d:Nat)(h:d<16):R357 [.int .u8 ((EP d).toNat:Int)]=some (.int .i64 (d:Int)):=by
 refine AE (Qb rfl) ?_;unfold dc357;have hh:=h;by_cases hd:d<10
 ·rw[CP d hd];have a1:(48:Int)<=((48+d:Nat):Int):=by omega
  have a2:((48+d:Nat):Int)<=57:=by omega
  have a3:IntKind.u8.wrap (((48+d:Nat):Int)-48)=(d:Int):=by rw[w8 (by omega) (by omega)];omega
  have a4:IntKind.i64.wrap (d:Int)=(d:Int):=IntWalk.i64_in _ ⟨by omega,by omega⟩;simp only[↓go1,gB3,go5,reduceIte,Qa,Qd,reduceCtorEq,a1,a2,a3,a4]
  all_goals first|rfl|exact⟨rfl,rfl⟩|simp[*]
 ·rw[hexD_let d h (by omega)];have a1:(48:Int)<=((87+d:Nat):Int):=by omega
  have a2:(((87+d:Nat):Int)<=57)=False:=eq_false (by omega);have a5:(97:Int)<=((87+d:Nat):Int):=by omega
  have a6:((87+d:Nat):Int)<=102:=by omega
  have a3:IntKind.u8.wrap (((87+d:Nat):Int)-97)=(d:Int)-10:=by rw[w8 (by omega) (by omega)];omega
  have a4:IntKind.i64.wrap ((d:Int)-10)=(d:Int)-10:=IntWalk.i64_in _ ⟨by omega,by omega⟩;have a7:IntKind.i64.wrap ((d:Int)-10+10)=(d:Int):=by rw[IntWalk.i64_in _ ⟨by omega,by omega⟩];omega
  simp only[↓go1,gB3,go5,reduceIte,Qa,Qd,reduceCtorEq,a1,a2,a5,a6,a3,a4,a7]
  all_goals first|rfl|exact⟨rfl,rfl⟩|simp[*]
def hexB_at:∀(s:Bs)(j:Nat)(h:j<s.length),(EQ s)[2*j]?=some (EP (s[j].toNat / 16))∧(EQ s)[2*j+1]?=some (EP (s[j].toNat % 16))
 |[],j,h=>absurd h (by simp)
 |c::s,0,h=>⟨rfl,rfl⟩
 |c::s,j+1,h=>hexB_at s j (by simpa using h)
def orE:∀x:Nat,x<16->∀y:Nat,y<16->IntKind.u8.wrap (bits .or .i64 (IntKind.i64.wrap ((x:Int)*2 ^ min (4:Int).toNat IntKind.i64.bits)) (y:Int))=((16*x+y:Nat):Int):=by decide
def S289:Summs:=AC [(357,Ac R357)]
def R289:List D->Option D:=RF S289 dc289 [.t 2,.t 3] 47
def ko289:(Ac R289).ok Qc 289:=AH fn289 (Ab ko357 Ad)
def R289_eq(s:Bs)(hl:s.length<=1000000):R289 [.str (EQ s)]=some (.tup [.str s,.bool true]):=by
 refine AE (Qb rfl) ?_;unfold dc289;have hlen:(((EQ s).length:Nat):Int)=2*s.length:=by rw[DX];omega
 have hm:((2*(s.length:Int)).tmod 2)=0:=by rw[Q1 (by omega)];omega
 have hq:IntKind.i64.wrap ((2*(s.length:Int)).tdiv 2)=(s.length:Int):=by rw[Q2 (by omega),show(2*(s.length:Int)) / 2=s.length by omega];exact IntWalk.i64_in _ ⟨by omega,by omega⟩
 simp only[↓go1,gB3,go5,reduceIte,Qa,Qd,reduceCtorEq,Zm,Zl,hlen,hm,hq];refine Ao.intro ⟨by omega,by omega⟩ ?_;simp only[↓go1,go2,go5,reduceIte,Qa,Qd];refine Bk (n:=s.length) (I:=λj st=>st.s 0= .str (EQ s)∧st.s 5= .int .i64 ((2*j:Nat):Int)∧∃t,st.s 4= .slice false t (AD (s.take j))∧LG 9 _ 5 st.m st.c false t) (λj hj ih st g hI=>?_) (λst g hI=>?_) 0 (Qq _) _ _ ⟨rfl,rfl,_,rfl,⟨λ_ _ _=>rfl,.inr ⟨_,rfl,by omega,by simp only;omega,by simp[Mem.put]⟩,by simp only;omega⟩⟩
 ·obtain⟨st_s,st_m,st_c⟩:=st;obtain⟨h0,h5,t,h4,hG⟩:=hI;simp only at h0 h5 h4 hG;refine Ae dc289l0.eq_1 ?_;have hlt:(((2*j:Nat):Int)<2*s.length):=by omega
  have hj0:(0:Int)<=((2*j:Nat):Int):=by omega
  have hj1:(0:Int)<=((2*j+1:Nat):Int):=by omega
  have hw1:IntKind.i64.wrap (((2*j:Nat):Int)+1)=((2*j+1:Nat):Int):=w64 (by omega) (by omega);have hw2:IntKind.i64.wrap (((2*j:Nat):Int)+2)=((2*(j+1):Nat):Int):=by rw[IntWalk.i64_in _ ⟨by omega,by omega⟩];omega
  obtain⟨b1,b2⟩:=hexB_at s j hj;have hc:=s[j].toNat_lt;have h1:=R357_eq (s[j].toNat / 16) (by omega);have h2:=R357_eq (s[j].toNat % 16) (by omega);have or:=orE (s[j].toNat / 16) (by omega) (s[j].toNat % 16) (by omega);rw[show 16*(s[j].toNat / 16)+s[j].toNat % 16=s[j].toNat by omega]at or;have n1:(((s[j].toNat / 16:Nat):Int)<0)=False:=eq_false (by omega);have n2:(((s[j].toNat % 16:Nat):Int)<0)=False:=eq_false (by omega);have hBa:AD (s.take j)++[.int .u8 (s[j].toNat:Int)]=AD (s.take (j+1)):=by rw[QS,Qf hj,EJ];rfl
  have hbl:(AD (s.take j)).length=j:=by rw[BZ,QG];omega
  simp only[↓go1,gB3,reduceIte,Qa,Qd,reduceCtorEq,h0,h5,hlen,hlt,hj0,hj1,hw1,Qe,b1,b2,Al S289 357,h1,h2]
  (refine Ao.intro (Aj ?_) ?_;first|rfl|simp[A5,AM,rds,Ai,Ac])
  have ha:IntKind.i64.wrap (((s[j].toNat / 16:Nat):Int)*2 ^ min (4:Int).toNat IntKind.i64.bits)=IntKind.i64.wrap (((s[j].toNat / 16:Nat):Int)*2 ^ min (4:Int).toNat IntKind.i64.bits):=rfl;have hsh:∀a:Int,AY .shl (.int .i64 a) (.int .u64 4)=some (.int .i64 (IntKind.i64.wrap (a*2 ^ min (4:Int).toNat IntKind.i64.bits))):=λa=>rfl
  simp only[↓go1,gB3,go5,reduceIte,Qa,Qd,reduceCtorEq,h4,n1,n2,hsh,or];refine Ao.intro ⟨by simp only[hbl];omega,rfl,(by first|exact hG.grow|exact(hG.put (by omega)).grow|exact((hG.put (by omega)).put (by omega)).grow|exact(((hG.put (by omega)).put (by omega)).put (by omega)).grow|exact((((hG.put (by omega)).put (by omega)).put (by omega)).put (by omega)).grow|exact(((((hG.put (by omega)).put (by omega)).put (by omega)).put (by omega)).put (by omega)).grow)⟩ ?_;rw[hBa];simp only[↓go1,gB3,go5,reduceIte,Qa,Qd,h5,hw2];exact ih _ _ ⟨h0,rfl,_,rfl,(by first|exact LG.nil (hG.appf (by omega) (by simp only;omega))|exact LG.nil ((hG.put (by omega)).appf (by omega) (by simp only;omega))|exact LG.nil (((hG.put (by omega)).put (by omega)).appf (by omega) (by simp only;omega))|exact LG.nil ((((hG.put (by omega)).put (by omega)).put (by omega)).appf (by omega) (by simp only;omega))|exact LG.nil (((((hG.put (by omega)).put (by omega)).put (by omega)).put (by omega)).appf (by omega) (by simp only;omega))|exact LG.nil ((((((hG.put (by omega)).put (by omega)).put (by omega)).put (by omega)).put (by omega)).appf (by omega) (by simp only;omega)))⟩
 ·obtain⟨h0,h5,t,h4,hG⟩:=hI;refine Ae dc289l0.eq_1 ?_;have hnl:(((2*s.length:Nat):Int)<2*s.length)=False:=eq_false (by omega);rw[Qt (QM _)]at h4;simp only[Qs,↓go1,gB3,go5,reduceIte,Qa,Qd,reduceCtorEq,h0,h5,h4,hlen,hnl,CL]
  all_goals first|rfl|exact⟨rfl,rfl⟩|simp[*]
def hexB_ne(d:Bs)(h:d≠[]):EQ d≠[45]∧EQ d≠[]:=by
 have:0<d.length:=Zg.2 h;exact⟨λe=>by have:=congrArg Zp e;rw[DX]at this;simp at this;omega,λe=>by have:=congrArg Zp e;rw[DX]at this;simp at this;omega⟩
def S187:Summs:=AC [(289,Ac R289),(89,Ac R89)]
def R187:List D->Option D:=RF S187 dc187 [.t 2] 19
def ko187:(Ac R187).ok Qc 187:=AH fn187 (Ab ko289 (Ab ko89 Ad))
def R187_eq(d:Bs)(hl:d.length<=1000000):R187 [.str (if d=[]then [45]else EQ d)]=some (.str d):=by
 refine AE (Qb rfl) ?_;have s89:S187 89=some (Ac R89):=rfl;unfold dc187;have h289:=R289_eq d hl;have h89:=R89_eq;by_cases h:d=[]
 ·subst h;simp only[↓go1,gB3,go5,reduceIte,Qa,Qd,reduceCtorEq]
  all_goals first|rfl|exact⟨rfl,rfl⟩|simp[*]
 ·rw[if_neg h];obtain⟨h1,h2⟩:=hexB_ne d h;simp only[↓go1,gB3,go5,reduceIte,Qa,Qd,reduceCtorEq,h1,h2,Al S187 289,h289,Aa s89,h89]
  all_goals first|rfl|exact⟨rfl,rfl⟩|simp[*]
def cutP(s:Bs)(c:UInt8):Bs×Bool:=if s.getLast?=some c then(s.dropLast,true)else(s,false)
def last_drop(s:Bs)(c:UInt8)(h:1<=s.length):(s.drop (s.length-1)=[c])=(s.getLast?=some c):=by
 rw[List.getLast?_eq_getElem?,QA (by omega),Qf (by omega),List.drop_eq_nil_of_le (by omega)];simp
def S408:Summs:=AC []
def R408:List D->Option D:=RF S408 dc408 [.t 4] 21
def ko408:(Ac R408).ok Qc 408:=AH fn408 Ad
def R408_eq(s:Bs)(c:UInt8)(hl:s.length<=1000000):R408 [.str s,.str [c]]=some (.bool (decide (s.getLast?=some c))):=by
 refine AE (Qb rfl) ?_;unfold dc408;by_cases h0:s=[]
 ·have y1:((1:Nat):Int)=1:=rfl;have e1:((1:Int)<=s.length)=False:=eq_false (by rw[h0];decide);simp only[↓go1,gB3,go5,reduceIte,Qa,Qd,reduceCtorEq,Qj,Qm,y1,e1];rw[h0]
  all_goals first|rfl|exact⟨rfl,rfl⟩|simp[*]
 ·have h1:1<=s.length:=Zg.2 h0;have e1:((1:Int)<=s.length)=True:=eq_true (by omega);have hw:IntKind.i64.wrap ((s.length:Int)-1)=(s.length:Int)-1:=w64 (by omega) (by omega);have e2:(0:Int)<=(s.length:Int)-1:=by omega
  have e3:((s.length:Int)-1<=(s.length:Int))=True:=eq_true (by omega);have e4:((s.length:Int)-1).toNat=s.length-1:=by omega
  have y1:((1:Nat):Int)=1:=rfl;have hd:=last_drop s c h1;have m3:List.take (s.length-(s.length-1)) (s.drop (s.length-1))=s.drop (s.length-1):=Qt (by rw[QT];omega);simp only[↓go1,gB3,go5,reduceIte,Qa,Qd,reduceCtorEq,Qj,Qm,y1,e1,hw,e2,e3,e4,m3,hd]
  all_goals first|rfl|exact⟨rfl,rfl⟩|simp[*]
def S394:Summs:=AC [(408,Ac R408)]
def R394:List D->Option D:=RF S394 dc394 [.t 4,.t 5] 18
def ko394:(Ac R394).ok Qc 394:=AH fn394 (Ab ko408 Ad)
def R394_eq(s:Bs)(c:UInt8)(hl:s.length<=1000000):R394 [.str s,.str [c]]=some (.tup [.str (cutP s c).1,.bool (cutP s c).2]):=by
 refine AE (Qb rfl) ?_;unfold dc394;have h408:=R408_eq s c hl;unfold cutP;by_cases h:s.getLast?=some c
 ·have h1:1<=s.length:=by cases s;cases h;simp
  have hw:IntKind.i64.wrap ((s.length:Int)-1)=(s.length:Int)-1:=w64 (by omega) (by omega);have e2:(0:Int)<=(s.length:Int)-1:=by omega
  have e3:((s.length:Int)-1<=(s.length:Int))=True:=eq_true (by omega);have e4:((s.length:Int)-1).toNat=s.length-1:=by omega
  have y1:((1:Nat):Int)=1:=rfl;rw[if_pos h];simp only[↓go1,gB3,go5,reduceIte,Qa,Qd,reduceCtorEq,Qj,Qm,y1,Al S394 408,h408,h,hw,e2,e3,e4,Q0,List.dropLast_eq_take]
  all_goals first|rfl|exact⟨rfl,rfl⟩|simp[*]
 ·rw[if_neg h];simp only[↓go1,gB3,go5,reduceIte,Qa,Qd,reduceCtorEq,Al S394 408,h408,h]
  all_goals first|rfl|exact⟨rfl,rfl⟩|simp[*]
def S358:Summs:=AC [(394,Ac R394)]
def R358:List D->Option D:=RF S358 dc358 [.t 4,.t 5] 11
def ko358:(Ac R358).ok Qc 358:=AH fn358 (Ab ko394 Ad)
def R358_eq(s:Bs)(c:UInt8)(hl:s.length<=1000000):R358 [.str s,.str [c]]=some (.tup [.str (cutP s c).1,.bool (cutP s c).2]):=by
 refine AE (Qb rfl) ?_;unfold dc358;have h394:=R394_eq s c hl;simp only[↓go1,gB3,go5,reduceIte,Qa,Qd,reduceCtorEq,Al S358 394,h394]
 all_goals first|rfl|exact⟨rfl,rfl⟩|simp[*]
def cut_yes(s:Bs)(c:UInt8):cutP (s++[c]) c=(s,true):=by
 unfold cutP;rw[if_pos (by simp)];simp
def cut_no{s:Bs}{c:UInt8}(h:s.getLast?≠some c):cutP s c=(s,false):=if_neg h
def num_last(n:Nat)(h:n<1000)(c:UInt8)(hc:c.toNat<48):(BT n).getLast?≠some c:=by
 intro e;have:=(numB_dig n h c (List.mem_of_getLast? e)).1;omega
def row_cuts(x:Rw)(h:0<=x.1∧x.1<1000):cutP (rowW1 x) 35=(BT x.1.toNat++(if x.2.1=true then [33]else []),x.2.2)∧cutP (BT x.1.toNat++(if x.2.1=true then [33]else [])) 33=(BT x.1.toNat,x.2.1):=by
 obtain⟨n,g,d⟩:=x;have hn:n.toNat<1000:=by simp only at h;omega
 unfold rowW1;have a:∀c:UInt8,c.toNat<48->(BT n.toNat).getLast?≠some c:=num_last _ hn;cases g<;>cases d<;>simp only[Ql,if_false,if_true,Qy,cut_yes,true_and,and_true]
 ·exact⟨cut_no (a 35 (by decide)),cut_no (a 33 (by decide))⟩
 ·exact cut_no (a 33 (by decide))
 ·exact cut_no (by simp)
def S291:Summs:=AC [(358,Ac R358),(90,Ac R90)]
def R291:List D->Option D:=RF S291 dc291 [.cell (some 3) 2] 20
def ko291:(Ac R291).ok Qc 291:=AH fn291 (Ab ko358 (Ab ko90 Ad))
def R291_eq(x:Rw)(h:0<=x.1∧x.1<1000):R291 [.str (rowW1 x)]=some (.agg [.int .i64 x.1,.bool x.2.1,.bool x.2.2]):=by
 refine AE (Qb rfl) ?_;have s90:S291 90=some (Ac R90):=rfl;unfold dc291;obtain⟨c1,c2⟩:=row_cuts x h;have hl:=rowW1_len x;have a1:=R358_eq (rowW1 x) 35 (by omega);have a2:=R358_eq (BT x.1.toNat++(if x.2.1=true then [33]else [])) 33 (by have:=Dp x.1.toNat;rw[Qk];split<;>simp<;>omega);rw[c1]at a1;rw[c2]at a2;have a3:=Fg x.1.toNat (by omega);rw[Qr h.1]at a3;generalize BT x.1.toNat++(if x.2.1=true then [33]else [])=y at *;simp only[gB1,↓go1,go5,reduceIte,Qa,Qd,Qh,Qi,reduceCtorEq,Al S291 358,a1,a2,Aa s90,a3]
 all_goals first|rfl|exact⟨rfl,rfl⟩|simp[*]
end Go.Vd
namespace Go.Vd
open Go.Proofs
end Go.Vd
namespace Go.Proofs
open Go.Shelf
def Tryz.runes_ren:Go.Shelf.Ren:=⟨λ|168=>372|169=>229|240=>324|242=>400|276=>370|278=>410|277=>371|n=>n,λ|31=>28|9=>9|3=>3|4=>4|0=>0|20=>20|21=>21|72=>322|76=>326|70=>320|37=>264|75=>325|127=>402|164=>439|5=>5|80=>216|46=>137|51=>392|n=>n,λ|n=>n⟩
def runes168:Go.Proofs.Lays.n168 Qc Tryz.runes_ren:={
 mixed:=by kernel_rfl
 f168:=func372.trans (congrArg some (by kernel_rfl))
 f240:=func324.trans (congrArg some (by kernel_rfl))
 f242:=func400.trans (congrArg some (by kernel_rfl))
 f276:=func370.trans (congrArg some (by kernel_rfl))
 f278:=func410.trans (congrArg some (by kernel_rfl))
 t0:=underlying0
 a0:=isAgg0
 z0:=sizeOf0
 v0:=zeroValue0
 t3:=underlying3
 a3:=isAgg3
 z3:=sizeOf3
 v3:=zeroValue3
 t4:=underlying4
 a4:=isAgg4
 z4:=sizeOf4
 v4:=zeroValue4
 t5:=underlying5
 a5:=isAgg5
 z5:=sizeOf5
 v5:=zeroValue5
 t9:=underlying9
 a9:=isAgg9
 z9:=sizeOf9
 v9:=zeroValue9
 t20:=underlying20
 a20:=isAgg20
 z20:=sizeOf20
 v20:=zeroValue20
 t21:=underlying21
 a21:=isAgg21
 z21:=sizeOf21
 v21:=zeroValue21
 t37:=underlying264
 a37:=isAgg264
 z37:=sizeOf264
 v37:=zeroValue264
 t46:=underlying137
 a46:=isAgg137
 z46:=sizeOf137
 v46:=zeroValue137
 t51:=underlying392
 a51:=isAgg392
 z51:=sizeOf392
 v51:=zeroValue392
 t70:=underlying320
 a70:=isAgg320
 z70:=sizeOf320
 v70:=zeroValue320
 t72:=underlying322
 a72:=isAgg322
 z72:=sizeOf322
 v72:=zeroValue322
 t75:=underlying325
 a75:=isAgg325
 z75:=sizeOf325
 v75:=zeroValue325
 t164:=underlying439
 a164:=isAgg439
 z164:=sizeOf439
 v164:=zeroValue439}
def runes169:Go.Proofs.Lays.n169 Qc Tryz.runes_ren:={
 mixed:=by kernel_rfl
 f169:=func229.trans (congrArg some (by kernel_rfl))
 t0:=underlying0
 a0:=isAgg0
 z0:=sizeOf0
 v0:=zeroValue0
 t3:=underlying3
 a3:=isAgg3
 z3:=sizeOf3
 v3:=zeroValue3
 t9:=underlying9
 a9:=isAgg9
 z9:=sizeOf9
 v9:=zeroValue9
 t37:=underlying264
 a37:=isAgg264
 z37:=sizeOf264
 v37:=zeroValue264
 t70:=underlying320
 a70:=isAgg320
 z70:=sizeOf320
 v70:=zeroValue320
 t72:=underlying322
 a72:=isAgg322
 z72:=sizeOf322
 v72:=zeroValue322
 t127:=underlying402
 a127:=isAgg402
 z127:=sizeOf402
 v127:=zeroValue402}
def Tryz.runesX:Builder.Extra Qc Tryz.runes_ren:={
 sizeBuilder:=by kernel_rfl
 liesBuilder:=by kernel_rfl
 t5:=underlying5
 a5:=isAgg5
 z5:=sizeOf5
 v5:=zeroValue5
 infoByte:=by kernel_rfl
 cellsByte:=by kernel_rfl
 sizeByte:=by kernel_rfl
 neB5:=by decide}
end Go.Proofs
namespace Go.Ve
open Go.Vd
open Go.Proofs Go.RowKit
def six:List UInt8:=[114,119,100,120,108,115]
def Ec(c:Nat):Nat->List UInt8
 |0=>[]
 |k+1=>Ec c k++(if c / 2 ^ k % 2=1 then [six.getD k 0]else [])
structure J328 (w0:World) (c k:Nat) (a:Act) (w:World):Prop where
 slots:∃x4 x5 x7 x8 x9 x10 x11 x12 x13 x14 x15 x16 x17:Value,a={tmps:=#[.int .u8 (c:Int),undef,.string ⟨#[]⟩,.pointer (some ⟨w0.heap.size,0,none⟩),x4,x5,.pointer (some ⟨w0.heap.size+1,0,none⟩),x7,x8,x9,x10,x11,x12,x13,x14,x15,x16,x17,undef],defers:=[]}
 iter:w.heap[w0.heap.size+1]?=some (.stringIter ⟨#[114,119,100,120,108,115]⟩ k)
 bld:Lib.IsBuilderF 322 5 w0.heap.size w0.heap.size (Lib.byteCells (Ec c k)) w
 bel:Below w0.heap.size w0 w
def run_next_at{P:Program}{w:World}{b:Nat}{s:ByteArray}{pos:Nat}{ty:TypeId}(h:w.heap[b]?=some (.stringIter s pos))(hp:pos<s.size):
  (Instr.next (.pointer (some ⟨b,0,none⟩)) true ty).run P w= .ok (.tuple #[.bool true,.int .i64 (pos:Nat),.int .i32 (Utf8.decode s pos).1]) {w with heap:=w.heap.setIfInBounds b (.stringIter s (pos+(Utf8.decode s pos).2))}:=by
 have hget:(getObj b).run P w= .ok (.stringIter s pos) w:=by simp[getObj,Sem.run,h]
 have hset:∀o',(setObj b o').run P w= .ok () {w with heap:=w.heap.setIfInBounds b o'}:=by intro o';simp[setObj,Sem.run,h]
 simp only[Instr.next,Sem.run_bind,hget,Result.andThen_ok,hp,if_true];cases hd:Utf8.decode s pos with
 |mk c wd=>
  simp only[hset,Result.andThen_ok,Sem.run_pure];rfl
def run_next_out{P:Program}{w:World}{b:Nat}{s:ByteArray}{pos:Nat}{ty:TypeId}(h:w.heap[b]?=some (.stringIter s pos))(hp:¬pos<s.size):
  (Instr.next (.pointer (some ⟨b,0,none⟩)) true ty).run P w= .ok (.tuple #[.bool false]) w:=by
 have hget:(getObj b).run P w= .ok (.stringIter s pos) w:=by simp[getObj,Sem.run,h]
 simp only[Instr.next,Sem.run_bind,hget,Result.andThen_ok,hp,if_false,Sem.run_pure]
def dec_six:∀k,k<6->Utf8.decode ⟨#[114,119,100,120,108,115]⟩ k=((six.getD k 0).toNat,1):=by decide+kernel
def bit_six:∀c:Nat,c<64->∀k,k<6->(bits BinOp.and IntKind.u8 ((c:Int) / 2 ^ k) 1==1)=decide (c / 2 ^ k % 2=1):=by decide+kernel
def rune_six:∀k,k<6->Lib.runeCells (((six[k]?.getD 0).toNat:Nat):Int)=Lib.byteCells [six.getD k 0]
 |0,_=>rfl
 |1,_=>rfl
 |2,_=>rfl
 |3,_=>rfl
 |4,_=>rfl
 |5,_=>rfl
 |k+6,h=>absurd h (by omega)
def pickL_len(c:Nat):∀k,(Ec c k).length<=k
 |0=>QM _
 |k+1=>by
  have:=pickL_len c k;unfold Ec;rw[Qk];split<;>simp<;>omega
def set_other{w:World}{bi j:Nat}{o:Obj}(h:j≠bi):(w.heap.setIfInBounds bi o)[j]?=w.heap[j]?:=by
 rw[QY,if_neg (λe=>h e.symm)]
def bldF_set{w:World}{B b bi:Nat}{bs:List Value}{o:Obj}{s:ByteArray}{p:Nat}(h:Lib.IsBuilderF 322 5 B b bs w)(hi:w.heap[bi]?=some (.stringIter s p)):Lib.IsBuilderF 322 5 B b bs {w with heap:=w.heap.setIfInBounds bi o}:=by
 have key:∀q,Lib.BuilderAtF 322 5 B b q bs w->Lib.BuilderAtF 322 5 B b q bs {w with heap:=w.heap.setIfInBounds bi o}:=by
  rintro q ⟨h1,v,h2,h3,h4⟩;have hb:b≠bi:=λe=>by rw[e,hi]at h2;cases h2
  refine⟨h1,v,by show(w.heap.setIfInBounds bi o)[b]?=_;rw[set_other hb];exact h2,⟨h3.1,?_⟩,h4⟩;rcases h3.2 with h|⟨g,cap,cur,fz,e1,e2,e3,e4⟩
  ·exact .inl h
  ·have hg:g≠bi:=λe=>by rw[e,hi]at e3;cases e3
   exact .inr ⟨g,cap,cur,fz,e1,e2,by show(w.heap.setIfInBounds bi o)[g]?=_;rw[set_other hg];exact e3,e4⟩
 exact h.elim (λx=> .inl (key _ x)) (λx=> .inr (key _ x))
theorem below_set {B bi : Nat} {w w1 : World} {o : Obj} (h : Below B w w1) (hb : B ≤ bi) : Below B w { w1 with heap := w1.heap.setIfInBounds bi o } :=
 ⟨h.os, h.tape, h.output, by show _ ≤ (w1.heap.setIfInBounds bi o).size; rw [Array.size_setIfInBounds]; exact h.size, fun k hk => by
  show (w1.heap.setIfInBounds bi o)[k]? = _
  rw [set_other (by omega)]
  exact h.block k hk⟩
def w328(w:World)(c:Nat)(hc:c<64):
  Calls Qc 328 #[.int .u8 (c:Int)] w λe w'=>e= .returned (.string ⟨(Ec c 6).toArray⟩)∧Below w.heap.size w w':=by
 have hz:(w.alloc (Obj.cells #[Value.pointer none,Value.slice none 0 0] 322)).heap.size=w.heap.size+1:=Array.size_push _
 go_enter func328,ntmps328
 go_wp2
 refine wp_loop_n (λn a w'=>∃k,k<=6∧n=6-k∧J328 w c k a w') ?_ (n:=6) ⟨0,by omega,rfl,⟨⟨_,_,_,_,_,_,_,_,_,_,_,_,_,rfl⟩,?_,?_,?_⟩⟩
 ·rintro n a w1 ⟨k,hk,rfl,⟨x4,x5,x7,x8,x9,x10,x11,x12,x13,x14,x15,x16,x17,rfl⟩,hi,hb,hB⟩
  go_wp2
  by_cases h6:k<6
  ·rw[run_next_at hi (by show k<6;exact h6),dec_six k h6];simp only[Result.andThen];rw[Oper.upon_value];have hbit:=bit_six c hc k h6;have hpl:=pickL_len c k;have hi2:(w1.heap.setIfInBounds (w.heap.size+1) (.stringIter ⟨#[114,119,100,120,108,115]⟩ (k+1)))[w.heap.size+1]?=some (.stringIter ⟨#[114,119,100,120,108,115]⟩ (k+1)):=by
    have hlt:w.heap.size+1<w1.heap.size:=(Array.getElem?_eq_some_iff.1 hi).1;rw[QY,if_pos rfl,if_pos hlt]
   have hb2:=bldF_set (o:= .stringIter ⟨#[114,119,100,120,108,115]⟩ (k+1)) hb hi;have hB2:=below_set (o:= .stringIter ⟨#[114,119,100,120,108,115]⟩ (k+1)) hB (Nat.le_succ w.heap.size);by_cases hcn:c / 2 ^ k % 2=1
   ·rw[decide_eq_true hcn]at hbit
    go_wp2_with fail
    refine(Go.Proofs.Any.Builder_WriteRune_k runes168 Tryz.runesX w.heap.size w.heap.size (Lib.byteCells (Ec c k)) _ (by have:=(six[k]?.getD 0).toNat_lt;omega) (by have:=(six[k]?.getD 0).toNat_lt;omega) _ hb2 (by simp[Lib.byteCells];omega) hB2.size).mono ?_;rintro e w3 ⟨rfl,h3,hb3,hk3⟩;rw[rune_six k h6]at h3
    go_wp2
    refine⟨6-(k+1),by omega,k+1,by omega,rfl,⟨⟨_,_,_,_,_,_,_,_,_,_,_,_,_,rfl⟩,?_,?_,hB2.trans hb3⟩⟩
    ·exact hk3 _ _ hi2 (by simp) (λ_ _=>by simp)
    ·refine .inr ?_;have e:Ec c (k+1)=Ec c k++[six.getD k 0]:=by simp only[Ec,hcn,if_true]
     rw[e];have e2:Lib.byteCells (Ec c k++[six.getD k 0])=Lib.byteCells (Ec c k)++Lib.byteCells [six.getD k 0]:=by simp[Lib.byteCells]
     rw[e2];exact h3
   ·rw[decide_eq_false hcn]at hbit
    go_wp2_with fail
    refine⟨6-(k+1),by omega,k+1,by omega,rfl,⟨⟨_,_,_,_,_,_,_,_,_,_,_,_,_,rfl⟩,hi2,?_,hB2⟩⟩;have e:Ec c (k+1)=Ec c k:=by simp only[Ec,hcn,if_false,Qy]
    rw[e];exact hb2
  ·rw[run_next_out hi (by show ¬k<6;exact h6)];simp only[Result.andThen];rw[Oper.upon_value];obtain rfl:k=6:=by omega
   go_wp2_with fail
   refine(Go.Proofs.Any.Builder_String_any_f runes169 Tryz.runesX w.heap.size w.heap.size (Ec c 6) w1 hb hB.size).mono ?_;rintro e w3 ⟨rfl,_,hb3⟩
   go_wp2
   go_ret
   exact⟨rfl,hB.trans hb3⟩
 ·have e:=heap_alloc_new (w.alloc (Obj.cells #[Value.pointer none,Value.slice none 0 0] 322)) (.stringIter ⟨#[114,119,100,120,108,115]⟩ 0);rw[hz]at e;exact e
 ·refine .inl ⟨QM _,.slice none 0 0,?_,World.ownsRowF_nil _ _ _ _,by simp[Value.ownBlock]⟩;have:=heap_alloc_new w (Obj.cells #[Value.pointer none,Value.slice none 0 0] 322);exact(Below.heap_alloc _ _ _ (by rw[hz];omega)).trans this
 ·exact((Below.refl _ w).alloc (QM _) _).alloc (by rw[hz];omega) _
def eqBs:List UInt8->List UInt8->Bool
 |[],[]=>true
 |a::r,b::s=>a==b&&eqBs r s
 |_,_=>false
def eqBs_eq:∀{a b:List UInt8},eqBs a b=true->a=b
 |[],[],_=>rfl
 |a::r,b::s,h=>by
  simp only[eqBs,Bool.and_eq_true,beq_iff_eq]at h;rw[h.1,eqBs_eq h.2]
 |[],_::_,h=>by cases h
 |_::_,[],h=>by cases h
def lettersN(c:Nat):List UInt8:=
 (if c % 2=1 then [114]else [])++((if c / 2 % 2=1 then [119]else [])++((if c / 4 % 2=1 then [100]else [])++((if c / 8 % 2=1 then [120]else [])++((if c / 16 % 2=1 then [108]else [])++(if c / 32 % 2=1 then [115]else [])))))
def pick_letters:∀c:Nat,c<64->Ec c 6=lettersN c:=by decide+kernel
def lay_calls{c:Nat}(h:c<64)(w:World):Calls Qc 328 #[.int .u8 (c:Nat)] w λe w'=>e= .returned (.string ⟨(lettersN c).toArray⟩)∧Below w.heap.size w w':=by
 have:=w328 w c h;rw[pick_letters c h]at this;exact this
end Go.Ve
namespace Go.Vd
open Go.Proofs Go.RowKit
def join221:joinQ.ok Qc 221:=joinQ_ok lays156 Builder_Extra_156 ⟨_,func221,by kernel_rfl,by kernel_rfl⟩
def joinQ_ex{m:Mem}{i fr:Id}{n:Nat}{l:List Bs}(hn:n=l.length)(h:∀k x,l[k]?=some x->m i k=some (.str x))(h1:l.length<=1000)(h2:Cp l<=1000000):
  joinQ.ex ([.row i n,.str [44]]++[]) m fr=some (.str (Dq l),[]):=by
 subst hn;simp only[joinQ,Qy];rw[strR_of (j:=0) (λk x hx=>by rw[QI];exact h k x hx),QC,if_pos ⟨h1,h2⟩]
def RI.strs{r:Id}{m0 m:Mem}{l:List Bs}(h:RI [] r m0 m l l.length):∀k x,l[k]?=some x->m r k=some (.str x):=by
 intro k x hx;have hk:=(Q3.1 hx).1;rw[h.row k hk,if_pos hk];simp[Zo,hx]
def sumL_le{l:List Bs}{b:Nat}(h:∀x∈l,x.length<=b):Cp l<=b*l.length:=by
 induction l with
 |nil=>simp[Cp]
 |cons x r ih=>
  have h1:=h x (List.mem_cons_self ..);have h2:=ih λy hy=>h y (List.mem_cons_of_mem _ hy)
  simp only[Cp,Qj,Nat.mul_add];omega
def numB_len(n:Nat):(BT n).length<=3:=by
 unfold BT;split
 ·simp
 ·split<;>simp
def FF(l:List Int):List Bs:=l.map λx=>BT x.toNat
def DK(l:List Int):(FF l).length=l.length:=Qg ..
def F348:List D->Option D:=FX (λp:Bool×List Int=>[.slice p.1 [] (AS p.2)]) (λp=>p.2.length<=1000∧∀x∈p.2,0<=x∧x<1000) (λp=> .str (Dq (FF p.2)))
def F348_eq{nl:Bool}{l:List Int}(h:l.length<=1000)(h2:∀x∈l,0<=x∧x<1000):F348 [.slice nl [] (AS l)]=some (.str (Dq (FF l))):=
 BB (mk:=λp:Bool×List Int=>[.slice p.1 [] (AS p.2)]) (a:=(nl,l)) (λa b h=>by
  simp only[Qp,D.slice.injEq,true_and,and_true]at h;exact QP h.1 (intsD_inj h.2)) ⟨h,h2⟩
def loop348{S:Summs}{l:List Int}{nl:Bool}{m0:Mem}{Q:Ex->St->Prop}(hb:l.length<=1000)(hx:∀x∈l,0<=x∧x<1000)(s346:S 346=some (Ac F346))
  (hexit:∀st,st.s 3= .row [3] l.length->RI [] [3] m0 st.m (FF l) l.length->Q (.exit 0) st):
  ∀(f j:Nat) st g,l.length=j+f->st.s 3= .row [3] l.length->st.s 9= .slice nl [] (AS l)->st.s 10= .int .i64 (l.length:Int)->st.s 11= .int .i64 (j:Int)->RI [] [3] m0 st.m (FF l) j->A8 S [] dc348l0 Q st g:=by
 intro f;induction f with
 |zero=>
  intro j st g hf h3 h9 h10 h11 I;refine Ae dc348l0.eq_1 ?_;have:¬((j:Int)<l.length):=by omega
  simp only[↓go1,go2,go4,reduceIte,Qd,h10,h11,this];exact hexit _ h3 (by rw[show l.length=j by omega];exact I)
 |succ f ih=>
  intro j st g hf h3 h9 h10 h11 I;refine Ae dc348l0.eq_1 ?_;have hj:j<l.length:=by omega
  have hlt:((j:Int)<l.length):=by omega
  have hj0:=nJ (j:=j);have hw:=wJ (j:=j) (by omega);have hmem:=hx l[j] (QD hj);obtain⟨n,hn⟩:∃n:Nat,l[j]=(n:Int):=⟨l[j].toNat,by omega⟩;have hat:(AS l)[j]?=some (.int .i64 (n:Int)):=by simp[AS,Qf hj,hn]
  have hg:(FF l).getD j []=BT n:=by simp[FF,Qf hj,hn]
  have h346:=F346_eq (n:=n) (by omega);have hrow:=I.row j (by rw[DK];exact hj);rw[if_neg (by omega)]at hrow;obtain⟨st_s,st_m,st_c⟩:=st;simp only at h3 h9 h10 h11 hrow I;simp only[↓go1,gB2,go4,reduceIte,Qa,Qd,h3,h9,h10,h11,hlt,hj0,hw,Qe,hat,hrow,Aa s346,h346,Ap,Aq,and_self,QC,Zi,List.head?_cons];refine ih (j+1) _ _ (by omega) h3 h9 h10 rfl ?_;rw[←hg];exact I.fill (List.nil_suffix)
def ok348:(Ac F348).ok Qc 348:=by
 obtain⟨S,hS,hl⟩:=A7 (Ab ok346 (Ab join221 Ad));have s346:=hl 346 _ rfl;have s221:=hl 221 _ rfl;clear hl;refine BM hS fn348 (λ_=>by simp) (λp hp=>?_);obtain⟨nl,l⟩:=p;obtain⟨hl,hx⟩:=hp;simp only at hl hx;have hn0:((0:Int)<=(l.length:Int)):=by omega
 have hnb:((l.length:Int)*(((16:Nat):Int)+1)<=140737488355328)=True:=eq_true (by omega);unfold dc348;simp only[↓go1,gB2,reduceIte,Qa,Qd,hn0,hnb,B2,Qe,Zq,and_self];refine loop348 (l:=l) (nl:=nl) (m0:=λ_ _=>none) hl hx s346 (λst h3 I=>?_) l.length 0 _ _ (by omega) rfl rfl rfl rfl ?_
 ·simp only[↓go1,go2,go4,reduceIte,Qd,h3];rw[Ag s221];rw[←DK]at I;have hs:Cp (FF l)<=1000000:=by
   have:=sumL_le (l:=FF l) (b:=3) λx hx=>by
    obtain⟨y,_,rfl⟩:=QE.1 hx;exact numB_len _
   rw[DK]at this;omega
  refine Got.intro (joinQ_ex (DK l).symm I.strs (by rw[DK];exact hl) hs) ?_;simp only[↓go1,gB3,reduceIte,Qa,Qd]
  all_goals first|rfl|exact⟨rfl,rfl⟩
 ·exact RI.start (DK l).symm
open Classical in
def F328:List D->Option D
 |[.int .u8 c]=>if 0<=c∧c<64 then some (.str (Go.Ve.lettersN c.toNat))else none
 |_=>none
def ok328:(Ac F328).ok Qc 328:=by
 refine⟨⟨_,func328,by kernel_rfl,by kernel_rfl⟩,λds m m' fr _=>rfl,?_⟩;intro B w0 w m g fr ds vs r u hi hfresh hl hrep hex;simp only[Ac]at hex;split at hex
 ·rw[Za]at hex;obtain⟨r',hr,hex⟩:=hex;simp only[Q5]at hex;obtain⟨rfl,rfl⟩:=hex;unfold F328 at hr;split at hr
  ·rename_i c e;split at hr
   ·rename_i hc;simp only[Qn]at hr;subst hr
    match ds,vs,hl with
    |[d],[v],_=>
     have hd:d= .int .u8 c:=by
      simp only[QV,Zn,Qp,and_true]at e;cases d<;>simp[D.un]at e;rw[e.1,e.2]
     subst hd;have hv:=(hrep 0 _ v rfl rfl).int_inv;subst hv;have hcc:((c.toNat:Nat):Int)=c:=Qr hc.1;have:=Go.Ve.lay_calls (c:=c.toNat) (by omega) w;rw[hcc]at this;refine this.mono ?_;rintro e w' ⟨rfl,hb⟩;exact⟨_,g.over w w',rfl,hi.over hb,Ext.over hi.gz hb,.str _,λi hf _=>hf⟩
    |[],_,_=>simp at e
    |_::_::_,_,_=>simp at e
   ·cases hr
  ·cases hr
 ·cases hex
def rulesE_zero{l:List Rl}:∀f j,Dl l f j=0->∀i,j<=i->i<j+f->i<l.length->(Bl l i).2<=63
 |0,j,_,i,h1,h2,_=>by omega
 |f+1,j,h,i,h1,h2,hi=>by
  unfold Dl at h;rw[if_pos (by omega)]at h;split at h
  ·rename_i hc;exact absurd h hc
  ·rename_i hc;rcases Nat.eq_or_lt_of_le h1 with rfl|h1
   ·have hc:Fy (Bl l j) (l.take j)=0:=by
     rcases Classical.em (Fy (Bl l j) (l.take j)=0)with h|h
     ·exact h
     ·exact absurd h hc
    unfold Fy at hc;split at hc
    ·rename_i h9;exact absurd hc h9.2
    ·split at hc
     ·omega
     ·omega
   ·exact rulesE_zero f (j+1) h i (by omega) (by omega) hi
def polE_zero{l:List Rl}(h:Cr l=0):l.length<=4∧∀r∈l,r.2<=63:=by
 unfold Cr at h;split at h
 ·cases h
 ·refine⟨by omega,λr hr=>?_⟩;obtain⟨i,hi,rfl⟩:=Q_ hr;have:=rulesE_zero l.length 0 h i (Qq _) (by omega) hi;simpa[Bl,Qf hi]using this
def ruleB(r:Rl):Bs:=r.1++[58]++Go.Ve.lettersN r.2.toNat
def B8(l:List Rl):List Bs:=l.map ruleB
def Cq(l:List Rl):(B8 l).length=l.length:=Qg ..
def E0(n:Nat):(Go.Ve.lettersN n).length<=6:=by
 unfold Go.Ve.lettersN;have h:∀(c:Prop)[Decidable c](x:UInt8),(if c then [x]else []).length<=1:=by
  intro c _ x;split<;>simp
 simp only[Qk];have h1:=h (n % 2=1) 114;have h2:=h (n / 2 % 2=1) 119;have h3:=h (n / 4 % 2=1) 100;have h4:=h (n / 8 % 2=1) 120;have h5:=h (n / 16 % 2=1) 108;have h6:=h (n / 32 % 2=1) 115;omega
def loop232{S:Summs}{l:List Rl}{nl:Bool}{m0:Mem}{Q:Ex->St->Prop}(hb:l.length<=4)(hx:∀r∈l,r.1.length<=1000∧0<=r.2∧r.2<64)(s328:S 328=some (Ac F328))
  (hexit:∀st,st.s 5= .row [9] l.length->RI [] [9] m0 st.m (B8 l) l.length->Q (.exit 0) st):
  ∀(f j:Nat) st g,l.length=j+f->10<=st.c->st.s 5= .row [9] l.length->st.s 16= .slice nl [] (An l)->st.s 17= .int .i64 (l.length:Int)->st.s 18= .int .i64 (j:Int)->RI [] [9] m0 st.m (B8 l) j->A8 S [] dc232l0 Q st g:=by
 intro f;induction f with
 |zero=>
  intro j st g hf hc h5 h16 h17 h18 I;refine Ae dc232l0.eq_1 ?_;have:¬((j:Int)<l.length):=by omega
  simp only[↓go1,go2,go4,reduceIte,Qd,h17,h18,this];exact hexit _ h5 (by rw[show l.length=j by omega];exact I)
 |succ f ih=>
  intro j st g hf hc h5 h16 h17 h18 I;refine Ae dc232l0.eq_1 ?_;have hj:j<l.length:=by omega
  have hlt:((j:Int)<l.length):=by omega
  have hj0:=nJ (j:=j);have hw:=wJ (j:=j) (by omega);obtain⟨hm1,hm2,hm3⟩:=hx l[j] (QD hj);have hat:(An l)[j]?=some (.agg [.str l[j].1,.int .u8 l[j].2]):=by simp[An,rlD,Qf hj]
  have hg:(B8 l).getD j []=ruleB l[j]:=by simp[B8,Qf hj]
  generalize l[j]=r at hm1 hm2 hm3 hat hg;have h328:F328 [.int .u8 r.2]=some (.str (Go.Ve.lettersN r.2.toNat)):=if_pos ⟨hm2,hm3⟩;have hrow:=I.row j (by rw[Cq];exact hj);rw[if_neg (by omega)]at hrow;have hll:=E0 r.2.toNat;have l1:(r.1.length+1<=9223372036854775807)=True:=eq_true (by omega);have l2:(r.1.length+1+(Go.Ve.lettersN r.2.toNat).length<=9223372036854775807)=True:=eq_true (by omega);have hne1:([st.c+1+3]=([9]:Id))=False:=eq_false (by simp;omega);have hne2:(([9]:Id)=[st.c+1+3])=False:=eq_false (by simp;omega);obtain⟨st_s,st_m,st_c⟩:=st;simp only at h5 h16 h17 h18 hrow I hc hne1 hne2;simp only[↓go1,gB0,reduceIte,Qa,Qd,h5,h16,h17,h18,hlt,hj0,Qe,hat,hrow,Aa s328,h328,hne2,l1,l2,QM,Qk,Af,Ap,Aq,Qh,QC,QZ,QO,Zi,false_and];refine Ao.intro (Aj rfl) ?_;simp only[↓go1,go2,go3,reduceIte,Qa,Qd,h18,hw];refine ih (j+1) _ _ (by omega) (by simp only;omega) h5 h16 h17 rfl ?_;have hb':r.1++[58]++Go.Ve.lettersN r.2.toNat=(B8 l).getD j []:=hg.symm;rw[hb'];exact((I.put (by simp;omega)).put (by simp;omega)).fill (List.nil_suffix)
def F232:List D->Option D:=FX (λp:Bool×List Rl=>[.slice p.1 [] (An p.2)]) (λp=>p.2.length<=1000000∧∀r∈p.2,r.1.length<=1000∧0<=r.2)
 (λp=> .tup [.str (if Cr p.2=0 then Dq (B8 p.2)else []),.int .i64 (Cr p.2)])
def F232_eq{nl:Bool}{l:List Rl}(h:l.length<=1000000)(h2:∀r∈l,r.1.length<=1000∧0<=r.2):F232 [.slice nl [] (An l)]=some (.tup [.str (if Cr l=0 then Dq (B8 l)else []),.int .i64 (Cr l)]):=
 BB (mk:=λp:Bool×List Rl=>[.slice p.1 [] (An p.2)]) (a:=(nl,l)) (λa b h=>by
  simp only[Qp,D.slice.injEq,true_and,and_true]at h;exact QP h.1 (rlsD_inj h.2)) ⟨h,h2⟩
open Classical in
def Fpol_eq'{nl:Bool}{l:List Rl}(h:l.length<=1000000)(h2:∀r∈l,r.1.length<=1000∧0<=r.2):Fpol [.slice nl [] (An l)]=some (.int .i64 (Cr l)):=by
 have hc:An l=An (A9 (An l))∧(An l).length<=1000000∧By (A9 (An l)):=by
  rw[AN,Av];exact⟨rfl,h,λr hr=>Nat.le_trans (h2 r hr).1 (by omega)⟩
 show(if _ then _ else _)=_;rw[if_pos hc,AN]
def ok232:(Ac F232).ok Qc 232:=by
 obtain⟨S,hS,hl⟩:=A7 (Ab ok214 (Ab ok328 (Ab join221 Ad)));have s214:=hl 214 _ rfl;have s328:=hl 328 _ rfl;have s221:=hl 221 _ rfl;clear hl;refine BM hS fn232 (λ_=>by simp) (λp hp=>?_);obtain⟨nl,l⟩:=p;obtain⟨hl,hx⟩:=hp;simp only at hl hx;have h214:=Fpol_eq' (nl:=nl) hl hx;have hz:=polE_zero (l:=l);simp only;unfold dc232;generalize Cr l=e at h214 hz;by_cases he:e=0
 ·subst he;obtain⟨h4,h63⟩:=hz rfl;have hn0:((0:Int)<=(l.length:Int)):=by omega
  have hnb:((l.length:Int)*(((16:Nat):Int)+1)<=140737488355328)=True:=eq_true (by omega);simp only[↓go1,gB2,go4,reduceIte,Qa,Qd,Aa s214,h214,hn0,hnb,Av,Qe,Zq,and_self];refine loop232 (l:=l) (nl:=nl) (m0:=λ_ _=>none) h4 (λr hr=>⟨(hx r hr).1,(hx r hr).2,by have:=h63 r hr;omega⟩) s328 (λst h5 I=>?_) l.length 0 _ _ (by omega) (by simp only;omega) rfl rfl rfl rfl ?_
  ·simp only[↓go1,go2,go4,reduceIte,Qd,h5];rw[Ag s221];rw[←Cq]at I;have hs:Cp (B8 l)<=1000000:=by
    have:=sumL_le (l:=B8 l) (b:=1007) λx hx'=>by
     obtain⟨y,hy,rfl⟩:=QE.1 hx';have h1:=(hx y hy).1;have h2:=E0 y.2.toNat;simp only[ruleB,Qk,Qj,Qm];omega
    rw[Cq]at this;omega
   refine Got.intro (joinQ_ex (Cq l).symm I.strs (by rw[Cq];omega) hs) ?_;simp only[↓go1,gB3,reduceIte,Qa,Qd]
   all_goals first|rfl|exact⟨rfl,rfl⟩
  ·exact RI.start (Cq l).symm
 ·simp only[↓go1,gB3,reduceIte,Qa,Qd,Aa s214,h214,he,and_self]
  all_goals first|rfl|exact⟨rfl,rfl⟩
end Go.Vd
namespace Go.Vd
open Go.Proofs
def dc151:DC:=(sr [al 2 [zs,zs]] (sr [oo 4 (.build [zs,zs] [(0,1,(.c (.str [115,116,97,116,117,115]))),(1,1,(.c (.str [])))]),oo 5 (.build [zs,zs] [(0,1,(.c (.str [117,110,115,101,97,108]))),(1,1,(.c (.str [107])))]),oo 6 (.build [zs,zs] [(0,1,(.c (.str [115,101,97,108]))),(1,1,(.c (.str [116])))]),oo 7 (.build [zs,zs] [(0,1,(.c (.str [114,111,116,97,116,101]))),(1,1,(.c (.str [116])))]),oo 8 (.build [zs,zs] [(0,1,(.c (.str [109,111,117,110,116]))),(1,1,(.c (.str [116,112,110,102])))]),oo 9 (.build [zs,zs] [(0,1,(.c (.str [117,110,109,111,117,110,116]))),(1,1,(.c (.str [116,112])))]),oo 10 (.build [zs,zs] [(0,1,(.c (.str [109,97,107,101]))),(1,1,(.c (.str [116,109,114])))]),oo 11 (.build [zs,zs] [(0,1,(.c (.str [114,101,118,111,107,101]))),(1,1,(.c (.str [116,109])))]),oo 12 (.build [zs,zs] [(0,1,(.c (.str [114,101,97,100]))),(1,1,(.c (.str [116,112,110])))]),oo 13 (.build [zs,zs] [(0,1,(.c (.str [119,114,105,116,101]))),(1,1,(.c (.str [116,112,99,100])))]),oo 14 (.build [zs,zs] [(0,1,(.c (.str [100,101,108,101,116,101]))),(1,1,(.c (.str [116,112,108])))]),oo 15 (.build [zs,zs] [(0,1,(.c (.str [117,110,100,101,108,101,116,101]))),(1,1,(.c (.str [116,112,108])))]),oo 16 (.build [zs,zs] [(0,1,(.c (.str [100,101,115,116,114,111,121]))),(1,1,(.c (.str [116,112,108])))]),oo 17 (.build [zs,zs] [(0,1,(.c (.str [109,101,116,97]))),(1,1,(.c (.str [116,112])))]),oo 18 (.build [zs,zs] [(0,1,(.c (.str [99,111,110,102,105,103]))),(1,1,(.c (.str [116,112,110,102])))]),oo 19 (.build [zs,zs] [(0,1,(.c (.str [112,117,114,103,101]))),(1,1,(.c (.str [116,112])))]),oo 20 (.build [zs,zs] [(0,1,(.c (.str [108,105,115,116]))),(1,1,(.c (.str [116,112])))]),oo 21 (.build [zs,zs] [(0,1,(.c (.str [99,111,112,121]))),(1,1,(.c (.str [116,112,113])))]),oo 22 (.build [zs,zs,zs,zs,zs,zs,zs,zs,zs,zs,zs,zs,zs,zs,zs,zs,zs,zs,zs,zs,zs,zs,zs,zs,zs,zs,zs,zs,zs,zs,zs,zs,zs,zs,zs,zs,zs,zs] [(2,2,(.t 4)),(4,2,(.t 5)),(6,2,(.t 6)),(8,2,(.t 7)),(10,2,(.t 8)),(12,2,(.t 9)),(14,2,(.t 10)),(16,2,(.t 11)),(18,2,(.t 12)),(20,2,(.t 13)),(22,2,(.t 14)),(24,2,(.t 15)),(26,2,(.t 16)),(28,2,(.t 17)),(30,2,(.t 18)),(32,2,(.t 19)),(34,2,(.t 20)),(36,2,(.t 21))]),al 3 [zs,zs,zs,zs,zs,zs,zs,zs,zs,zs,zs,zs,zs,zs,zs,zs,zs,zs,zs,zs,zs,zs,zs,zs,zs,zs,zs,zs,zs,zs,zs,zs,zs,zs,zs,zs,zs,zs],st 38 3 22] (.seq (sr [mm 23 0,oo 24 (.conv .i64 (.t 23)),bi 25 .geq 24 19] (cd 25 (sr [oo 26 (.build [zs,zs] []),st 2 2 26] .ret) .skip)) (sr [mm 27 0,oo 28 (.iadda 19 2 (.t 3) (.t 27)),lk 29 2 28,st 2 2 29] .ret))))
def fn151:Fn Qc 151 30 dc151 [.cell (some 2) 2]:=Am func151
def dc152:DC:=(sr [ob 2 0,ci 4 0] (.seq (sr [mm 5 1] (.block 0 (sr [oo 7 (.bin .eql (.t 5) (.c (.int .i32 116))),mm 6 7] (cd 6 (sr [ff 8 1 2,ll 9 8,c1 10 258 9,c1 11 257 10,mm 4 11] .ret) (sr [oo 13 (.bin .eql (.t 5) (.c (.int .i32 109))),mm 12 13] (cd 12 (sr [ff 14 3 2,ll 15 14,c1 16 258 15,c1 17 257 16,mm 4 17] .ret) (sr [oo 19 (.bin .eql (.t 5) (.c (.int .i32 112))),mm 18 19] (cd 18 (sr [ff 20 2 2,ll 21 20,c1 22 201 21,mm 4 22] .ret) (sr [oo 24 (.bin .eql (.t 5) (.c (.int .i32 113))),mm 23 24] (cd 23 (sr [ff 25 3 2,ll 26 25,c1 27 201 26,mm 4 27] .ret) (sr [oo 29 (.bin .eql (.t 5) (.c (.int .i32 110))),mm 28 29] (cd 28 (sr [ff 30 4 2,ll 31 30,cc 32 259 [(.t 31),(.c (.int .i64 0)),(.c (.int .i64 999))],c1 33 257 32,mm 4 33] .ret) (sr [oo 35 (.bin .eql (.t 5) (.c (.int .i32 99))),mm 34 35] (cd 34 (sr [ff 36 5 2,ll 37 36,cc 38 259 [(.t 37),(.c (.int .i64 (-1))),(.c (.int .i64 999))],c1 39 257 38,mm 4 39] .ret) (sr [oo 41 (.bin .eql (.t 5) (.c (.int .i32 108))),mm 40 41] (cd 40 (sr [ff 42 7 2,ll 43 42,c1 44 260 43,c1 45 257 44,mm 4 45] .ret) (sr [oo 47 (.bin .eql (.t 5) (.c (.int .i32 114))),mm 46 47] (cd 46 (sr [ff 48 9 2,ll 49 48,c1 50 214 49,mm 4 50] .ret) (sr [oo 52 (.bin .eql (.t 5) (.c (.int .i32 107))),mm 51 52] (cd 51 (sr [ff 53 10 2,ll 54 53,nn 55 true 54,bi 56 .eql 55 16,c1 57 257 56,mm 4 57] .ret) .skip)))))))))))))))))))) (sr [ci 4 0] .ret)))
def fn152:Fn Qc 152 58 dc152 [.t 4]:=Am func152
def dc153:DC:=(sr [ob 2 0,al 4 [zu,zs,zs,zs,zi,zi,zb,zn,zs,zn,zs]] (.seq (sr [mm 5 1] (.block 0 (sr [oo 7 (.bin .eql (.t 5) (.c (.int .i32 116))),mm 6 7] (cd 6 (.row [ff 8 1 2,oz (.store 1 (.t 8) (.c (.str [])))]) (sr [oo 10 (.bin .eql (.t 5) (.c (.int .i32 112))),mm 9 10] (cd 9 (.row [ff 11 2 2,oz (.store 1 (.t 11) (.c (.str [])))]) (.seq (sr [oo 13 (.bin .eql (.t 5) (.c (.int .i32 109))),mm 12 13] (cd 12 .skip (.row [oo 14 (.bin .eql (.t 5) (.c (.int .i32 113))),mm 12 14]))) (cd 12 (.row [ff 15 3 2,oz (.store 1 (.t 15) (.c (.str [])))]) (sr [oo 17 (.bin .eql (.t 5) (.c (.int .i32 110))),mm 16 17] (cd 16 (.row [ff 18 4 2,oz (.store 1 (.t 18) (.c (.int .i64 0)))]) (sr [oo 20 (.bin .eql (.t 5) (.c (.int .i32 99))),mm 19 20] (cd 19 (.row [ff 21 5 2,oz (.store 1 (.t 21) (.c (.int .i64 0)))]) (sr [oo 23 (.bin .eql (.t 5) (.c (.int .i32 102))),mm 22 23] (cd 22 (.row [ff 24 6 2,oz (.store 1 (.t 24) (.c (.bool false)))]) (sr [oo 26 (.bin .eql (.t 5) (.c (.int .i32 108))),mm 25 26] (cd 25 (.row [ff 27 7 2,oz (.store 1 (.t 27) (.c (.slice true [] [])))]) (sr [oo 29 (.bin .eql (.t 5) (.c (.int .i32 100))),mm 28 29] (cd 28 (.row [ff 30 8 2,oz (.store 1 (.t 30) (.c (.str [])))]) (sr [oo 32 (.bin .eql (.t 5) (.c (.int .i32 114))),mm 31 32] (cd 31 (.row [ff 33 9 2,oz (.store 1 (.t 33) (.c (.slice true [] [])))]) (sr [oo 35 (.bin .eql (.t 5) (.c (.int .i32 107))),mm 34 35] (cd 34 (.row [ff 36 10 2,oz (.store 1 (.t 36) (.c (.str [])))]) .skip)))))))))))))))))))))) (sr [lk 37 11 2,st 11 4 37] .ret)))
def fn153:Fn Qc 153 38 dc153 [.cell (some 11) 4]:=Am func153
def dc154:DC:=(sr [ob 2 0,ob 3 1,cb 4 false] (.seq (sr [ff 6 7 2,ll 7 6,ff 8 7 3,ll 9 8,c2 10 261 7 9,nt 11 10,mm 12 11,gf 13 9 2 6 false,gl 14 13 6 false,gf 15 9 3 6 false,gl 16 15 6 false,gc 17 262 [(.t 14),(.t 16)] 6 false,og 18 (.un .not (.t 17)) 6 false,po 19 12 18] (cd 19 (sr [cb 4 false] .ret) .skip)) (sr [ff 20 0 2,ll 21 20,ff 22 0 3,ll 23 22,bt 24 .eql 21 23,mm 25 24,gf 26 1 2 5 true,gl 27 26 5 true,gf 28 1 3 5 true,gl 29 28 5 true,gt 30 .eql 27 29 5 true,pa 31 25 30,mm 32 31,gf 33 2 2 12 true,gl 34 33 12 true,gf 35 2 3 12 true,gl 36 35 12 true,gt 37 .eql 34 36 12 true,pa 38 32 37,mm 39 38,gf 40 3 2 19 true,gl 41 40 19 true,gf 42 3 3 19 true,gl 43 42 19 true,gt 44 .eql 41 43 19 true,pa 45 39 44,mm 5 45] (sr [mm 46 5,mm 47 46,gf 48 4 2 1 true,gl 49 48 1 true,gf 50 4 3 1 true,gl 51 50 1 true,gt 52 .eql 49 51 1 true,pa 53 47 52,mm 54 53,gf 55 5 2 8 true,gl 56 55 8 true,gf 57 5 3 8 true,gl 58 57 8 true,gt 59 .eql 56 58 8 true,pa 60 54 59,mm 61 60,gf 62 6 2 15 true,gl 63 62 15 true,gf 64 6 3 15 true,gl 65 64 15 true,og 66 (.beq false (.t 63) (.t 65)) 15 true,pa 67 61 66,mm 68 67,gf 69 8 2 22 true,gl 70 69 22 true,gf 71 8 3 22 true,gl 72 71 22 true,gt 73 .eql 70 72 22 true,pa 74 68 73,mm 75 74,gf 76 10 2 29 true,gl 77 76 29 true,gf 78 10 3 29 true,gl 79 78 29 true,gt 80 .eql 77 79 29 true,pa 81 75 80,mm 4 81] .ret))))
def fn154:Fn Qc 154 82 dc154 [.t 4]:=Am func154
def dc155l0:DC:=(sr [oo 15 (.next (.t 14)),xx 16 0 15] (.seq (cd 16 .skip (.exit 0)) (.block 1 (sr [xx 17 2 15,mm 6 17] (.row [mm 18 4,lk 19 11 1,mm 20 6,c2 21 263 19 20,oo 22 (.bin .add (.c (.str [32])) (.t 21)),bt 23 .add 18 22,mm 4 23])))))
def dc155:DC:=(sr [ob 1 0,cs 2 []] (sr [ff 7 0 1,ll 8 7,c1 9 151 8,al 3 [zs,zs],st 2 3 9] (sr [ff 10 0 3,ll 11 10,mm 4 11] (.seq (sr [ff 12 1 3,ll 13 12,oo 14 (.range (.t 13))] (.block 0 (.loop dc155l0))) (sr [mm 24 4,mm 2 24] .ret)))))
def fn155:Fn Qc 155 25 dc155 [.t 2]:=Am func155
def dc263:DC:=(sr [ob 2 0,cs 4 []] (.seq (sr [mm 7 1] (.block 0 (sr [oo 9 (.bin .eql (.t 7) (.c (.int .i32 116))),mm 8 9] (cd 8 (sr [ff 10 1 2,ll 11 10,mm 4 11] .ret) (sr [oo 13 (.bin .eql (.t 7) (.c (.int .i32 112))),mm 12 13] (cd 12 (sr [ff 14 2 2,ll 15 14,mm 4 15] .ret) (.seq (sr [oo 17 (.bin .eql (.t 7) (.c (.int .i32 109))),mm 16 17] (cd 16 .skip (.row [oo 18 (.bin .eql (.t 7) (.c (.int .i32 113))),mm 16 18]))) (cd 16 (sr [ff 19 3 2,ll 20 19,mm 4 20] .ret) (sr [oo 22 (.bin .eql (.t 7) (.c (.int .i32 110))),mm 21 22] (cd 21 (sr [ff 23 4 2,ll 24 23,c1 25 346 24,mm 4 25] .ret) (sr [oo 27 (.bin .eql (.t 7) (.c (.int .i32 99))),mm 26 27] (cd 26 (.seq (sr [ff 28 5 2,ll 29 28,oo 30 (.bin .eql (.t 29) (.c (.int .i64 (-1))))] (cd 30 (sr [cs 4 [45]] .ret) .skip)) (sr [ff 31 5 2,ll 32 31,c1 33 346 32,mm 4 33] .ret)) (sr [oo 35 (.bin .eql (.t 7) (.c (.int .i32 102))),mm 34 35] (cd 34 (.seq (sr [ff 36 6 2,ll 37 36] (cd 37 (sr [cs 4 [49]] .ret) .skip)) (sr [cs 4 [48]] .ret)) (sr [oo 39 (.bin .eql (.t 7) (.c (.int .i32 108))),mm 38 39] (cd 38 (sr [ff 40 7 2,ll 41 40,c1 42 348 41,c1 43 347 42,mm 4 43] .ret) (sr [oo 45 (.bin .eql (.t 7) (.c (.int .i32 100))),mm 44 45] (cd 44 (sr [ff 46 8 2,ll 47 46,c1 48 317 47,c1 49 347 48,mm 4 49] .ret) (sr [oo 51 (.bin .eql (.t 7) (.c (.int .i32 114))),mm 50 51] (cd 50 (sr [ff 53 9 2,ll 54 53,c1 55 232 54,mm 52 55,xx 56 0 52,xx 57 1 52,mm 5 56,mm 6 57] (sr [mm 58 5,c1 59 347 58,mm 4 59] .ret)) .skip)))))))))))))))))))) (sr [ff 60 10 2,ll 61 60,c1 62 317 61,mm 4 62] .ret)))
def fn263:Fn Qc 263 63 dc263 [.t 4]:=Am func263
def dc68l0:DC:=(sr [oo 19 (.next (.t 18)),xx 20 0 19] (.seq (cd 20 .skip (.exit 0)) (.block 1 (sr [xx 21 2 19,mm 6 21] (.seq (sr [lk 22 11 1,mm 23 6,c2 24 152 22 23,mm 7 24] (sr [mm 25 7,bi 26 .neq 25 0] (cd 26 (sr [mm 27 7,mm 2 27] .ret) .skip))) (.row [lk 28 11 4,mm 29 6,c2 30 153 28 29,st 11 4 30]))))))
def dc68:DC:=(sr [ob 1 0,ci 2 0] (sr [ff 8 0 1,ll 9 8,c1 10 151 9,al 3 [zs,zs],st 2 3 10] (.seq (sr [ff 11 0 3,ll 12 11,bs 13 .eql 12 []] (cd 13 (sr [ci 2 22] .ret) .skip)) (sr [lk 14 11 1,al 4 [zu,zs,zs,zs,zi,zi,zb,zn,zs,zn,zs],st 11 4 14] (sr [ff 15 0 4,oz (.store 1 (.t 15) (.c (.int .u8 0)))] (.seq (sr [ff 16 1 3,ll 17 16,oo 18 (.range (.t 17))] (.block 0 (.loop dc68l0))) (.seq (sr [lk 31 11 4,oo 32 (.build [zu,zs,zs,zs,zi,zi,zb,zn,zs,zn,zs] []),c2 33 154 31 32,nt 34 33] (cd 34 (sr [ci 2 2] .ret) .skip)) (.seq (sr [lk 35 11 1,c1 36 155 35,nn 37 true 36,bi 38 .gtr 37 400] (cd 38 (sr [ci 2 5] .ret) .skip)) (sr [ci 2 0] .ret)))))))))
def fn68:Fn Qc 68 39 dc68 [.t 2]:=Am func68
end Go.Vd
end
