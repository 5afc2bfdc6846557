/-
  A part of the proof: the layers over the model. Nothing in it is assumed.
-/
import Derived.Test.YtfocnoaoekkloaaGreatDoorErrorsP2
import Derived.Test.YtfocnoaoekkloaaGreatDoorProg
import Init
import Derived.Shelf.Strings.OnBuilder
import Derived.Lib.AppendZeros
import Derived.WalkKit

set_option linter.unusedSimpArgs false
set_option linter.unusedVariables false
set_option linter.defProp false
set_option maxHeartbeats 4000000
set_option maxRecDepth 100000
open List renaming getElem?_cons_succ→Qa,getElem?_eq_getElem→Qd,getElem?_cons_zero→Ql,drop_zero→Qp,take_succ_cons→Qr,getElem?_eq_some_iff→Qs,head?_cons→Qt,take_zero→Qw,all_eq_true→Qx,length_append→Qy,length_map→QA,drop_succ_cons→QB,length_take→QC,mem_of_getElem?→QD,mem_map→QE,getElem?_append_right→QG,nil_append→QH,map_nil→QI,getElem?_append_left→QJ,getD→QL,all_nil→QM,getElem?_map→QN,map_congr_left→QP,length_drop→QT,length_cons→QY,map_map→Q_,append_assoc→Q0,drop→Q1,getElem?_take_of_lt→Q2,map_cons→Q3,append_nil→Q4,findIdx?_eq_some_iff_getElem→Q8,drop_of_length_le→Q9,take_succ_eq_append_getElem→Za,take_of_length_le→Zc,suffix_cons→Ze,take→Zf,range_eq_range'→Zg,all_append→Zh,getElem_of_mem→Zj,length_pos_iff→Zk,drop_eq_getElem_cons→Zp,flatMap_cons→Zq,all_cons→Zr,map_append→Zu,length_set→Zw,set_append_right→Zx,length_take_le→Zz,range→ZA
open Option.some renaming injEq→Qb,inj→Q5
open Go.Proofs.Tryz renaming prog→Qc
open Option renaming bind_some→Qe,map_eq_some_iff→Qh,isSome_some→Qk,map_some→QW,bind_eq_some_iff→QX,getD_some→Zt
open Nat renaming reduceEqDiff→Qf,reduceAdd→Qg,zero_add→Qm,zero_ne_one→Qn,succ_ne_zero→Qo,zero_le→Qu,le_refl→Qv,le_of_ble_eq_true→QK,one_ne_zero→QO,reduceLT→QQ,sub_zero→QR,reduceLeDiff→QZ,lt_or_eq_of_le→Q7,le_trans→Zb,le_of_lt_succ→Zd,lt_or_ge→Zl,add_zero→Zm,sub_self→ZB
open Int renaming toNat_natCast→Qi,fdiv_eq_ediv_of_nonneg→QV,cast_ofNat_Int→Zn,lt_irrefl→Zs,ediv_nonneg→Zv,le_of_lt→ZC,pow_pos→ZD
open List.cons renaming injEq→Qj
open And renaming intro→Qq
open Prod.mk renaming injEq→Qz
open Array renaming getD_eq_getD_getElem?→QF,getElem?_eq_some_iff→QU,getElem?_setIfInBounds→Zi
open Bool renaming and_eq_true→QS,false_ne_true→Q6,false_eq_true→Zo,false_and→Zy
open Go.Proofs.Tryz
noncomputable section
namespace Go.Vd
open Go.Proofs Go.RowKit
def EV{m:Mem}{e:Nat}{nl:Bool}{t:Id}{xs:List D}:Grow m e (.slice nl t xs)=(nl=true∨(m t 0=some (.tok (e+1))∧t≠[])):=rfl
def Ed{e:Nat}{fr t:Id}{xs:List D}:Bi e fr (.slice false t xs)=[(t,0,[.tok 0]),(fr,0,[.tok (e+1)])]:=rfl
def rlsD_append(a b:List Rl):Al a++Al b=Al (a++b):=(Zu ..).symm
def Dg(l:List Rl):(Al l).all D.calm=true:=by rw[Qx];intro x hx;obtain⟨y,_,rfl⟩:=QE.1 hx;rfl
def Fg(l:List Rl):(Al l).map D.un=Al l:=by rw[Al,Q_];exact QP λ_ _=>rfl
def oneC(a b:List Rl)(r:Rl):Bool:=hasB (Ch b r.1).toNat (Ch a r.1).toNat
def DH(a b l:List Rl):Nat->Nat->Bool
 |0,_=>true
 |f+1,j=>if oneC a b (Bp l j)=true then DH a b l f (j+1)else false
def Fs(a b l:List Rl):∀(f j:Nat),l.length=j+f->DH a b l f j=(l.drop j).all (oneC a b)
 |0,j,h=>by rw[Q9 (by omega)];rfl
 |f+1,j,h=>by
  have hj:j<l.length:=by omega
  have e:Bp l j=l[j]:=by simp[Bp,Qd hj]
  unfold DH;rw[Fs a b l f (j+1) (by omega),Zp hj,Zr,e];cases oneC a b l[j]<;>simp
def DI(a b:List Rl):Bool:=decide (Cm a=0)&&decide (Cm b=0)&&(a++b).all (oneC a b)
def loop118{S:Summs}{ns:Id}{a b l:List Rl}{nl na nb:Bool}{t ta tb:Id}{Q:Ex->St->Prop}{e:Bool}(s220:S 220=some (Ac F220))(s219:S 219=some (Ac F219))
  (la:a.length<=1000000) (lb:b.length<=1000000) (pa:BJ a) (pb:BJ b) (ca:DW a) (cb:DW b) (hb:l.length<=1000000) (hpl:BJ l)
  (hret:∀st,e=false->st.s 4= .bool false->Q .ret st) (hexit:∀st,e=true->Q (.exit 0) st):
  ∀(f j:Nat) st g,l.length=j+f->DH a b l f j=e->st.s 0= .slice na ta (Al a)->st.s 1= .slice nb tb (Al b)->st.s 5= .slice nl t (Al l)->st.s 6= .int .i64 (j:Int)->A4 S ns dc118l0 Q st g:=by
 intro f;induction f with
 |zero=>
  intro j st g hf he h0 h1 h5 h6;refine Ae dc118l0.eq_1 ?_;have:¬((j:Int)<l.length):=by omega
  simp only[↓go1,go2,go4,simprocAttr,h5,h6,this,As];exact hexit _ he.symm
 |succ f ih=>
  intro j st g hf he h0 h1 h5 h6;refine Ae dc118l0.eq_1 ?_;unfold DH at he;have hj:j<l.length:=by omega
  have hlt:((j:Int)<l.length):=by omega
  have hj0:=nJ (j:=j);have hw:=wJ (j:=j) (by omega);have hat:(Al l)[j]?=some (.agg [.str (Bp l j).1,.int .u8 (Bp l j).2]):=Dx hj;have hq:=prefB_at hpl hj;unfold oneC at he;generalize (Bp l j).1=q at hat hq he;have ea:=F220_eq (nl:=na) (t:=[]) (s:=q) la pa hq;have eb:=F220_eq (nl:=nb) (t:=[]) (s:=q) lb pb hq;have ba:=capsP_b (s:=q) ca;have bb:=capsP_b (s:=q) cb;have e219:=F219_eq bb.1 bb.2 ba.1 ba.2;have halla:=Dg a;have hallb:=Dg b;have huna:=Fg a;have hunb:=Fg b;generalize hasB (Ch b q).toNat (Ch a q).toNat=hh at he e219;obtain⟨st_s,st_m,st_c⟩:=st;simp only at h0 h1 h5 h6;cases hh with
  |true=>
   rw[if_pos rfl]at he;simp only[↓go1,gB2,simprocAttr,h0,h1,h5,h6,hlt,hj0,hw,Qi,hat,As,Aa s220,ea,eb,Aa s219,e219,Qu,gB3,Qm,Qp,Qt];exact ih (j+1) _ _ (by omega) he h0 h1 h5 rfl
  |false=>
   rw[if_neg (by simp)]at he;simp only[↓go1,gB2,simprocAttr,h0,h1,h5,h6,hlt,hj0,Qi,hat,As,Aa s220,ea,eb,Aa s219,e219,Qu,gB3,Qm,Qp,Qt];exact hret _ he.symm rfl
open Classical in
def F118:List D->Option D
 |[.slice _ _ xs,.slice _ _ ys]=>if(xs=Al (Bb xs)∧xs.length<=1000000∧BJ (Bb xs)∧DW (Bb xs))∧ys=Al (Bb ys)∧ys.length<=1000000∧BJ (Bb ys)∧DW (Bb ys)then some (.bool (DI (Bb xs) (Bb ys)))else none
 |_=>none
open Classical in
def F118_eq{na nb:Bool}{ta tb:Id}{a b:List Rl}(la:a.length<=1000000)(lb:b.length<=1000000)(pa:BJ a)(pb:BJ b)(ca:DW a)(cb:DW b):F118 [.slice na ta (Al a),.slice nb tb (Al b)]=some (.bool (DI a b)):=by
 have h:(Al a=Al (Bb (Al a))∧(Al a).length<=1000000∧BJ (Bb (Al a))∧DW (Bb (Al a)))∧Al b=Al (Bb (Al b))∧(Al b).length<=1000000∧BJ (Bb (Al b))∧DW (Bb (Al b)):=by
  rw[AR,AR,As,As];exact⟨⟨rfl,la,pa,ca⟩,rfl,lb,pb,cb⟩
 show(if _ then _ else _)=_;rw[if_pos h,AR,AR]
open Classical in
def F118_inv{ds:List D}{r:D}(h:F118 ds=some r):∃na ta a nb tb b,ds=[.slice na ta (Al a),.slice nb tb (Al b)]∧a.length<=1000000∧b.length<=1000000∧BJ a∧BJ b∧DW a∧DW b∧r= .bool (DI a b):=by
 unfold F118 at h;split at h
 ·rename_i na ta xs nb tb ys;split at h
  ·rename_i hc;obtain⟨⟨h1,h2,h3,h4⟩,h5,h6,h7,h8⟩:=hc;simp only[Qb]at h;subst h;refine⟨na,ta,Bb xs,nb,tb,Bb ys,by rw[←h1,←h5],?_,?_,h3,h7,h4,h8,rfl⟩
   ·rw[h1,As]at h2;exact h2
   ·rw[h5,As]at h6;exact h6
  ·cases h
 ·cases h
def ok118:(Ac F118).ok Qc 118:=by
 obtain⟨S,hS,hl⟩:=A6 (Ab ok218 (Ab ok220 (Ab ok219 Ad)));have s218:=hl 218 _ rfl;have s220:=hl 220 _ rfl;have s219:=hl 219 _ rfl;clear hl;refine Az (S:=S) hS fn118 (λds r h=>?_) (λds r h=>?_)
 ·obtain⟨na,ta,a,nb,tb,b,rfl,_⟩:=F118_inv h;simp
 ·obtain⟨na,ta,a,nb,tb,b,rfl,la,lb,pa,pb,ca,cb,rfl⟩:=F118_inv h;have ea:=Fpol_eq (nl:=na) (t:=[]) la pa;have eb:=Fpol_eq (nl:=nb) (t:=[]) lb pb;have halla:=Dg a;have hallb:=Dg b;have huna:=Fg a;have hunb:=Fg b;have h4a:Cm a=0->a.length<=4:=by unfold Cm;split<;>omega
  have h4b:Cm b=0->b.length<=4:=by unfold Cm;split<;>omega
  unfold dc118 DI;generalize Cm a=xa at *;generalize Cm b=xb at *;by_cases hxa:xa=0
  ·by_cases hxb:xb=0
   ·have l4a:=h4a hxa;have l4b:=h4b hxb;subst hxa hxb;have n1:(Al a).length*25<=140737488355328:=by rw[As];omega
    have n2:((Al a).length+(Al b).length)*25<=140737488355328:=by rw[As,As];omega
    simp only[↓go1,gB0,simprocAttr,Aa s218,ea,eb,EV,Ed,n1,n2,rlsD_head,false_or,false_and,QH,ne_eq,QI,QM,rlsD_append,if_false,Af];refine loop118 (a:=a) (b:=b) (l:=a++b) (e:=(a++b).all (oneC a b)) s220 s219 la lb pa pb ca cb (by simp;omega) ?_ (λst h1 h2=>?_) (λst h1=>?_) (a++b).length 0 _ _ (by omega) ?_ rfl rfl rfl rfl
    ·intro r hr;rcases List.mem_append.1 hr with h|h
     ·exact pa r h
     ·exact pb r h
    ·simp only[↓go1,gB2,h1,h2]
    ·simp only[↓go1,gB2,reduceIte,Qg,h1]
    ·rw[Fs _ _ _ _ _ (by omega)];rfl
   ·simp only[↓go1,gB2,simprocAttr,Aa s218,ea,eb,hxb,hxa];simp
  ·simp only[↓go1,gB2,simprocAttr,Aa s218,ea,hxa];simp
end Go.Vd
namespace Go.Vd
open Go.Proofs
def dc246:=y0 f246 [] []
def fn246:Fn Qc 246 15 dc246 [.t 6]:=Am func246
def dc294:=y0 f294 [] []
def fn294:Fn Qc 294 12 dc294 [.t 4]:=Am func294
def dc295l0:=y1 f295 3 [] []
def dc295:=y0 f295 [] [(3,dc295l0)]
def fn295:Fn Qc 295 23 dc295 [.t 4]:=Am func295
def dc191:=y0 f191 [(3,[(5,1)])] []
def fn191:Fn Qc 191 52 dc191 [.t 4]:=Am func191
def dc102:=y0 f102 [] []
def fn102:Fn Qc 102 14 dc102 [.t 2]:=Am func102
def dc105l0:=y1 f105 3 [] []
def dc105:=y0 f105 [] [(3,dc105l0)]
def fn105:Fn Qc 105 25 dc105 [.t 2]:=Am func105
end Go.Vd
namespace Go.Vd
open Go.Proofs Go.RowKit
def F246:List D->Option D
 |[.int .i64 n,.int .i64 lo,.int .i64 hi]=>some (.bool (decide (lo<=n∧n<=hi)))
 |_=>none
def ok246:(Ac F246).ok Qc 246:=by
 refine Az (S:=λ_=>none) AK fn246 (λds r h=>?_) (λds r h=>?_)
 ·unfold F246 at h;split at h
  ·simp
  ·cases h
 ·unfold F246 at h;split at h
  ·rename_i n lo hi;simp only[Qb]at h;subst h;unfold dc246;simp only[↓go1,go2,simprocAttr]
   repeat' (first|(refine ifQ.intro (λh=>?_) (λh=>?_)<;>try (exfalso;omega))|(simp only[↓go1,gB2,simprocAttr,h,and_self,false_and]))
   all_goals (simp_all<;>omega)
  ·cases h
def F294:List D->Option D
 |[.agg [.int .i64 a,.bool b,.int .i64 c,.slice nl t xs],.agg [.int .i64 q,.bool b2]]=>some (.int .i64 (if a=0 then q else a))
 |_=>none
def ok294:(Ac F294).ok Qc 294:=by
 refine Az (S:=λ_=>none) AK fn294 (λds r h=>?_) (λds r h=>?_)
 ·unfold F294 at h;split at h
  ·simp
  ·cases h
 ·unfold F294 at h;split at h
  ·rename_i a b c nl t xs q b2;simp only[Qb]at h;subst h;unfold dc294;simp only[↓go1,gB0,simprocAttr,Af,Qj,Qn]
   repeat' (first|(refine ifQ.intro (λh=>?_) (λh=>?_)<;>try (exfalso;omega))|(simp only[↓go1,gB0,simprocAttr,h,Af,Qj,Qn,QO]))
   all_goals simp_all
  ·cases h
def F295:List D->Option D
 |[.slice nl t [],.fn g caps]=>some (.bool true)
 |_=>none
def ok295:(Ac F295).ok Qc 295:=by
 refine Az (S:=λ_=>none) AK fn295 (λds r h=>?_) (λds r h=>?_)
 ·unfold F295 at h;split at h
  ·simp
  ·cases h
 ·unfold F295 at h;split at h
  ·rename_i nl t g caps;simp only[Qb]at h;subst h;unfold dc295;simp only[↓go1,go2,simprocAttr,List.length_nil];refine Ae dc295l0.eq_1 ?_;simp only[↓go1,gB2,simprocAttr,and_self,Zs,Zn]
  ·cases h
def F191:List D->Option D
 |[.agg [.int .i64 0,.bool b,.int .i64 0,.slice nl t []],.agg [.int .i64 q,.bool b2]]=>some (.int .i64 (if 1<=q∧q<=6 then 0 else 2))
 |_=>none
def ok191:(Ac F191).ok Qc 191:=by
 obtain⟨S,hS,hl⟩:=A6 (Ab ok246 (Ab ok294 (Ab ok295 Ad)));have s246:=hl 246 _ rfl;have s294:=hl 294 _ rfl;have s295:=hl 295 _ rfl;clear hl;refine Az (S:=S) hS fn191 (λds r h=>?_) (λds r h=>?_)
 ·unfold F191 at h;split at h
  ·simp
  ·cases h
 ·unfold F191 at h;split at h
  ·rename_i b nl t q b2;simp only[Qb]at h;subst h;unfold dc191;have h246:∀n lo hi,F246 [.int .i64 n,.int .i64 lo,.int .i64 hi]=some (.bool (decide (lo<=n∧n<=hi))):=λ_ _ _=>rfl
   have h294:F294 [.agg [.int .i64 0,.bool b,.int .i64 0,.slice nl [] []],.agg [.int .i64 q,.bool b2]]=some (.int .i64 q):=rfl;have h295:∀nl t g caps,F295 [.slice nl t [],.fn g caps]=some (.bool true):=λ_ _ _ _=>rfl
   by_cases hq:1<=q∧q<=6
   ·have hq0:¬(q<0):=by omega
    simp only[↓go1,gB0,simprocAttr,Af,Ap,Aq,Qa,Qe,Qj,Qn,QO,and_false,Aa s246,h246,Aa s294,h294,Aa s295,h295,hq,hq0,Zn];refine Ao.intro (Aj rfl) ?_;simp only[↓go1,gB0,simprocAttr,Af,Qa,Qj,Qn,and_false,hq,Zs,Zn]
   ·simp only[↓go1,gB0,simprocAttr,Af,Qj,QO,Aa s246,h246,hq]
  ·cases h
end Go.Vd
namespace Go.Vd
open Go.Proofs
def dc210:=y0 f210 [] []
def fn210:Fn Qc 210 6 dc210 [.t 2]:=Am func210
def dc109:=y0 f109 [] []
def fn109:Fn Qc 109 20 dc109 [.t 4]:=Am func109
def dc108:=y0 f108 [] []
def fn108:Fn Qc 108 10 dc108 [.t 4]:=Am func108
end Go.Vd
namespace Go.Vd
open Go.Proofs Go.RowKit
abbrev Mt:=Bs×Int×Bool
def mtD(m:Mt):D:= .agg [.str m.1,.int .i64 m.2.1,.bool m.2.2]
def Ar(l:List Mt):List D:=l.map mtD
def mtT:D->Mt
 | .agg [.str p,.int .i64 q,.bool b]=>(p,q,b)
 |_=>([],0,false)
def BU(xs:List D):List Mt:=xs.map mtT
def Bc(l:List Mt):BU (Ar l)=l:=by
 simp only[BU,Ar,Q_]
 conv=>rhs;rw[←List.map_id l]
 exact QP λr _=>rfl
def Av(l:List Mt):(Ar l).length=l.length:=QA ..
def mtsD_elB(l:List Mt):(Ar l).all (elB (some 3))=true:=by
 rw[Qx];intro x hx;obtain⟨r,_,rfl⟩:=QE.1 hx;rfl
def A0(l:List Mt)(j:Nat):Mt:=l.getD j ([],0,false)
def DA{l:List Mt}{j:Nat}(h:j<l.length):(Ar l)[j]?=some (mtD (A0 l j)):=by
 simp[Ar,A0,Qd h]
def CX(p:Bs)(q:Int):Int:=if AP p≠0 then AP p else if 1<=q∧q<=6 then 0 else 2
def B0(l:List Mt)(p:Bs):Int:=Be (l.map λm=>decide (m.1=p))
def idx203_ex{l:List Mt}{nl:Bool}{t:Id}(hl:l.length<=1000000){q:Bs}(m:Mem)(fr i:Id)(hm:m i 0=some (.str q)):
  (E8 204 (some 3) K204).ex [.slice nl t (Ar l),.fn 204 [.ptr i 0]] m fr=some (.int .i64 (B0 l q),[]):=by
 have e:(Ar l).map (K204 (.str q))=(l.map λr=>decide (r.1=q)).map λb=>some (.bool b):=by
  simp only[Ar,Q_];exact QP λr _=>rfl
 simp only[E8,Av,hl,mtsD_elB,and_self,if_true,FE,hm,Qe,e,Dp,QW];rfl
def EQ(s:Bs)(l:List Bs):Bool:=l.any λq=>A7 s q||A7 q s
def cn192_ex{l:List Bs}{nl:Bool}{t:Id}(hl:l.length<=1000000){s:Bs}(m:Mem)(fr i:Id)(hm:m i 0=some (.str s)):
  (cnS 205 none K205).ex [.slice nl t (l.map .str),.fn 205 [.ptr i 0]] m fr=some (.bool (EQ s l),[]):=by
 have e:(l.map D.str).map (K205 (.str s))=(l.map λq=>A7 s q||A7 q s).map λb=>some (.bool b):=by
  simp only[Q_];exact QP λr _=>rfl
 have hel:(l.map D.str).all (elB none)=true:=by
  rw[Qx];intro x hx;obtain⟨r,_,rfl⟩:=QE.1 hx;rfl
 simp only[cnS,QA,hl,hel,and_self,if_true,FE,hm,Qe,e,Dp,QW];simp only[EQ,List.any_map];rfl
def F102:List D->Option D
 |[.agg [.str p,.int .i64 q,.bool b]]=>if p.length<=1000000 then some (.int .i64 (CX p q))else none
 |_=>none
def ok102:(Ac F102).ok Qc 102:=by
 obtain⟨S,hS,hl⟩:=A6 (Ab ok201 (Ab ok191 Ad));have s201:=hl 201 _ rfl;have s191:=hl 191 _ rfl;clear hl;refine Az (S:=S) hS fn102 (λds r h=>?_) (λds r h=>?_)
 ·unfold F102 at h;split at h
  ·simp
  ·cases h
 ·unfold F102 at h;split at h
  ·rename_i p q b;split at h
   ·rename_i hc;simp only[Qb]at h;subst h;unfold dc102;have h201:F201 [.str p]=some (.int .i64 (AP p)):=if_pos hc;have h191:F191 [.agg [.int .i64 0,.bool false,.int .i64 0,.slice true [] []],.agg [.int .i64 q,.bool b]]=some (.int .i64 (if 1<=q∧q<=6 then 0 else 2)):=rfl;unfold CX;generalize AP p=e at *;generalize (if 1<=q∧q<=6 then(0:Int)else 2)=e2 at *;by_cases he:e=0
    ·subst he;simp only[↓go1,gB0,reduceIte,Qf,Qg,Af,Ap,Aq,QQ,Qa,Qe,BK,Aa s201,h201,Aa s191,h191,ne_eq]
    ·simp only[↓go1,gB0,reduceIte,Qf,Qg,Af,QQ,Aa s201,h201,he,ne_eq]
   ·cases h
  ·cases h
open Classical in
def F103:List D->Option D
 |[.agg [.slice _ _ xs],.str p]=>if xs=Ar (BU xs)∧xs.length<=1000000 then some (.int .i64 (B0 (BU xs) p))else none
 |_=>none
open Classical in
def F103_eq{nl:Bool}{t:Id}{l:List Mt}{p:Bs}(hl:l.length<=1000000):F103 [.agg [.slice nl t (Ar l)],.str p]=some (.int .i64 (B0 l p)):=by
 have h:Ar l=Ar (BU (Ar l))∧(Ar l).length<=1000000:=by rw[Bc,Av];exact⟨rfl,hl⟩
 show(if _ then _ else _)=_;rw[if_pos h,Bc]
def ok103:(Ac F103).ok Qc 103:=by
 obtain⟨S,hS,hl⟩:=A6 (Ab idx203 Ad);have s203:=hl 203 _ rfl;clear hl;refine Az (S:=S) hS fn103 (λds r h=>?_) (λds r h=>?_)
 ·unfold F103 at h;split at h
  ·simp
  ·cases h
 ·unfold F103 at h;split at h
  ·rename_i nl t xs p;split at h
   ·rename_i hc;obtain⟨hx,hlen⟩:=hc;simp only[Qb]at h;subst h;generalize BU xs=l at hx;subst hx;rw[Av]at hlen;unfold dc103;simp only[↓go1,gB0,reduceIte,Qf,Qg,Af,QQ,Qj,Qn,QO,Ah s203,idx203_ex (q:=p) hlen]
   ·cases h
  ·cases h
def F104:List D->Option D
 |[.str s,.slice _ _ xs]=>(Gj xs).bind λl=>if l.length<=1000000 then some (.bool (EQ s l))else none
 |_=>none
def F104_eq{s:Bs}{nl:Bool}{t:Id}{l:List Bs}(hl:l.length<=1000000):F104 [.str s,.slice nl t (l.map .str)]=some (.bool (EQ s l)):=by
 simp only[F104,Gi,Qe];exact if_pos hl
def ok104:(Ac F104).ok Qc 104:=by
 obtain⟨S,hS,hl⟩:=A6 (Ab cn192 Ad);have s192:=hl 192 _ rfl;clear hl;refine Az (S:=S) hS fn104 (λds r h=>?_) (λds r h=>?_)
 ·unfold F104 at h;split at h
  ·simp
  ·cases h
 ·unfold F104 at h;split at h
  ·rename_i s nl t xs;rw[QX]at h;obtain⟨l,hs,h⟩:=h;obtain rfl:=Fd hs;split at h
   ·rename_i hl;simp only[Qb]at h;subst h;unfold dc104;simp only[↓go1,gB0,reduceIte,Qf,Qg,Af,QQ,Ah s192,cn192_ex (s:=s) hl]
   ·cases h
  ·cases h
def RI.base{fr r:Id}{m0 m0' m:Mem}{l:List Bs}{j:Nat}(h:RI fr r m0' m l j)(e:∀i o,¬fr<:+i->m0' i o=m0 i o):RI fr r m0 m l j:=
 ⟨h.row,λi o hn=>(h.out i o hn).trans (e i o hn)⟩
open Classical in
def F105:List D->Option (List Bs)
 |[.agg [.slice _ _ xs]]=>if xs=Ar (BU xs)∧xs.length<=1000000 then some ((BU xs).map (·.1))else none
 |_=>none
open Classical in
def F105_eq{nl:Bool}{t:Id}{l:List Mt}(hl:l.length<=1000000):F105 [.agg [.slice nl t (Ar l)]]=some (l.map (·.1)):=by
 have h:Ar l=Ar (BU (Ar l))∧(Ar l).length<=1000000:=by rw[Bc,Av];exact⟨rfl,hl⟩
 show(if _ then _ else _)=_;rw[if_pos h,Bc]
open Classical in
def F105_inv{ds:List D}{r:List Bs}(h:F105 ds=some r):∃nl t l,ds=[.agg [.slice nl t (Ar l)]]∧l.length<=1000000∧r=l.map (·.1):=by
 unfold F105 at h;split at h
 ·rename_i nl t xs;split at h
  ·rename_i hc;obtain⟨h1,h2⟩:=hc;simp only[Qb]at h;subst h;refine⟨nl,t,BU xs,by rw[←h1],?_,rfl⟩;rw[h1,Av]at h2;exact h2
  ·cases h
 ·cases h
def loop105{S:Summs}{fr:Id}{l:List Mt}{nl:Bool}{t:Id}{m0:Mem}{k:Nat}{Q:Ex->St->Prop}(hb:l.length<=1000000)
  (hexit:∀st,st.s 3= .row (k::fr) l.length->RI fr (k::fr) m0 st.m (l.map (·.1)) l.length->Q (.exit 0) st):
  ∀(f j:Nat) st g,l.length=j+f->k<st.c->st.s 3= .row (k::fr) l.length->st.s 11= .slice nl t (Ar l)->st.s 12= .int .i64 (l.length:Int)->st.s 13= .int .i64 (j:Int)->RI fr (k::fr) m0 st.m (l.map (·.1)) j->A4 S fr dc105l0 Q st g:=by
 intro f;induction f with
 |zero=>
  intro j st g hf hc h3 h11 h12 h13 I;refine Ae dc105l0.eq_1 ?_;have:¬((j:Int)<l.length):=by omega
  simp only[↓go1,go2,go4,reduceIte,Qg,h12,h13,this];exact hexit _ h3 (by rw[show l.length=j by omega];exact I)
 |succ f ih=>
  intro j st g hf hc h3 h11 h12 h13 I;refine Ae dc105l0.eq_1 ?_;have hj:j<l.length:=by omega
  have hlt:((j:Int)<l.length):=by omega
  have hj0:=nJ (j:=j);have hw:=wJ (j:=j) (by omega);have hat:(Ar l)[j]?=some (.agg [.str (A0 l j).1,.int .i64 (A0 l j).2.1,.bool (A0 l j).2.2]):=DA hj;have hg:(l.map (·.1)).getD j []=(A0 l j).1:=by simp[A0,Qd hj]
  generalize A0 l j=r at hat hg;have hne1:((st.c+1+3)::fr=k::fr)=False:=eq_false (by simp;omega);have hne2:(k::fr=(st.c+1+3)::fr)=False:=eq_false (by simp;omega);have hrow:=I.row j (by simpa using hj);rw[if_neg (by omega)]at hrow;obtain⟨st_s,st_m,st_c⟩:=st;simp only at h3 h11 h12 h13 hc hne1 hne2 hrow I;simp only[↓go1,gB0,reduceIte,Qf,Qg,h3,h11,h12,h13,hlt,hj0,hw,Qi,hat,hne2,hrow,Qv,false_and,Af,Ap,Aq,QQ,Qa,Qe,Qr,Qw,Qk,false_and];refine ih (j+1) _ _ (by omega) (by simp only;omega) h3 h11 h12 rfl ?_;rw[←hg];exact((I.put (by simp;omega)).put (by simp;omega)).fill (Ze _ _)
def ok105:(rowS F105).ok Qc 105:=by
 refine rowS_ok (S:=λ_=>none) AK fn105 (λds r m fr h hfr=>?_);obtain⟨nl,t,l,rfl,hl,rfl⟩:=F105_inv h;refine⟨by simp,?_⟩;have hn0:((0:Int)<=(l.length:Int)):=by omega
 have hnb:((l.length:Int)*(((16:Nat):Int)+1)<=140737488355328)=True:=eq_true (by omega);unfold dc105;simp only[↓go1,gB0,reduceIte,Qf,Qg,hn0,hnb,Av,Qi,Int.le_refl,Af,QQ,Qj,false_and];refine loop105 (l:=l) (nl:=nl) (t:=t) (m0:=m) (k:=5) hl (λst h1 h2=>?_) l.length 0 _ _ (by omega) (by simp only;omega) rfl rfl rfl rfl ?_
 ·simp only[↓go1,go2,reduceIte,Qf,Qg,h1,QA];exact⟨_,rfl,Ze _ _,h2⟩
 ·exact RI.base (RI.start (by simp[])) (λi o hn=>Mem.put_other (λe=>hn (by rw[e];exact Ze _ _)))
end Go.Vd
namespace Go.Vd
open Go.Proofs
def dc296:=y0 f296 [] []
def fn296:Fn Qc 296 5 dc296 [.t 2]:=Am func296
def dc335:=y0 f335 [] []
def fn335:Fn Qc 335 2 dc335 [.cell (some 2) 0]:=Am func335
def dc241:=y0 f241 [] []
def fn241:Fn Qc 241 2 dc241 [.cell (some 2) 0]:=Am func241
def dc136:=y0 f136 [(1,[(1,0)])] []
def fn136:Fn Qc 136 32 dc136 [.cell (some 3) 4,.t 5]:=Am func136
def dc242:=y0 f242 [] []
def fn242:Fn Qc 242 15 dc242 [.t 4]:=Am func242
def dc337:=y0 f337 [] []
def fn337:Fn Qc 337 8 dc337 [.t 3]:=Am func337
def dc243:=y0 f243 [(5,[(2,4),(2,6),(6,1),(6,2)]),(7,[(4,2)])] []
def fn243:Fn Qc 243 47 dc243 [.cell (some 4) 8,.t 9,.t 10,.t 11]:=Am func243
def dc338:=y0 f338 [] []
def fn338:Fn Qc 338 49 dc338 [.t 8]:=Am func338
def dc247l0:=y1 f247 4 [] []
def dc247:=y0 f247 [(1,[(5,1)])] [(4,dc247l0)]
def fn247:Fn Qc 247 41 dc247 [.cell (some 4) 4,.t 5]:=Am func247
def dc339:=y0 f339 [] []
def fn339:Fn Qc 339 8 dc339 [.t 2]:=Am func339
def dc139:=y0 f139 [] []
def fn139:Fn Qc 139 35 dc139 [.cell (some 4) 8,.t 9,.t 10]:=Am func139
def dc249l0:=y1 f249 8 [] []
def dc249:=y0 f249 [(1,[(1,0)])] [(8,dc249l0)]
def fn249:Fn Qc 249 72 dc249 [.cell (some 4) 6,.t 7,.t 8]:=Am func249
def dc250:=y0 f250 [] []
def fn250:Fn Qc 250 6 dc250 [.cell (some 3) 2]:=Am func250
def dc251:=y0 f251 [] []
def fn251:Fn Qc 251 6 dc251 [.cell (some 3) 2]:=Am func251
def dc252:=y0 f252 [] []
def fn252:Fn Qc 252 6 dc252 [.cell (some 3) 2]:=Am func252
def dc143:=y0 f143 [] []
def fn143:Fn Qc 143 18 dc143 [.cell (some 4) 4,.t 5]:=Am func143
def dc144:=y0 f144 [] []
def fn144:Fn Qc 144 18 dc144 [.cell (some 4) 4,.t 5]:=Am func144
def dc145:=y0 f145 [] []
def fn145:Fn Qc 145 13 dc145 [.cell (some 4) 4,.t 5,.t 6]:=Am func145
def dc341:=y0 f341 [] []
def fn341:Fn Qc 341 9 dc341 [.t 4]:=Am func341
def dc387l0:=y1 f387 2 [] []
def dc387:=y0 f387 [] [(2,dc387l0)]
def fn387:Fn Qc 387 19 dc387 [.t 4]:=Am func387
def dc340l0:=y1 f340 5 [(7,[(6,2),(6,8),(9,2)])] []
def dc340:=y0 f340 [(1,[(1,0)]),(3,[(5,1),(5,7),(5,10)])] [(5,dc340l0)]
def fn340:Fn Qc 340 49 dc340 [.t 2,.t 3]:=Am func340
def dc386:=y0 f386 [] []
def fn386:Fn Qc 386 4 dc386 [.t 2]:=Am func386
end Go.Vd
namespace Go.Vd
section
variable{α:Type}(lt:α->α->Bool)(d:α)
def swp(xs:List α)(j:Nat):List α:=(xs.set (j+1) (xs.getD j d)).set j (xs.getD (j+1) d)
def insE(xs:List α):Nat->List α
 |0=>xs
 |j+1=>if lt (xs.getD (j+1) d) (xs.getD j d)=true then insE (swp d xs j) j else xs
def Dd:Nat->Nat->List α->List α
 |0,_,xs=>xs
 |f+1,i,xs=>Dd f (i+1) (insE lt d xs i)
def kR(l:List α)(m:α):Nat->Nat
 |0=>0
 |j+1=>if lt m (l.getD j d)=true then kR l m j else j+1
def kR_le(l:List α)(m:α):∀j,kR lt d l m j<=j
 |0=>Qv _
 |j+1=>by
  unfold kR;split
  ·exact Nat.le_succ_of_le (kR_le l m j)
  ·exact Qv _
def swp_len(xs:List α)(j:Nat):(swp d xs j).length=xs.length:=by simp[swp]
def insE_len:∀(j:Nat)(xs:List α),(insE lt d xs j).length=xs.length
 |0,xs=>rfl
 |j+1,xs=>by
  unfold insE;split
  ·rw[insE_len j,swp_len]
  ·rfl
def Gp:∀(f i:Nat)(xs:List α),(Dd lt d f i xs).length=xs.length
 |0,_,xs=>rfl
 |f+1,i,xs=>by rw[Dd,Gp f,insE_len]
def swp_app(a b:List α)(x y:α):swp d (a++x::y::b) a.length=a++y::x::b:=by
 unfold swp;have h1:(a++x::y::b).getD a.length d=x:=by simp[QL]
 have h2:(a++x::y::b).getD (a.length+1) d=y:=by
  simp[QL]
 rw[h1,h2,Zx _ _ (by omega),show a.length+1-a.length=1 by omega,Zx _ _ (Qv _)];simp
def insE_app(l:List α)(m:α):∀(j:Nat)(b:List α),j<=l.length->insE lt d (l.take j++m::b) j=l.take (kR lt d l m j)++m::((l.take j).drop (kR lt d l m j)++b)
 |0,b,_=>by simp[insE,kR]
 |j+1,b,h=>by
  have hlen:(l.take j).length=j:=by rw[QC];omega
  have hx:l.take (j+1)=l.take j++[l.getD j d]:=by
   rw[Za (by omega)];simp[QL,Qd (show j<l.length by omega)]
  have e:l.take (j+1)++m::b=l.take j++l.getD j d::m::b:=by rw[hx];simp
  have g1:(l.take j++l.getD j d::m::b).getD (j+1) d=m:=by
   rw[QL,QG (by omega),hlen,show j+1-j=1 by omega];rfl
  have g2:(l.take j++l.getD j d::m::b).getD j d=l.getD j d:=by
   rw[QL,QG (by omega),hlen,ZB];rfl
  rw[e];unfold insE kR;rw[g1,g2];split
  ·have hs:=swp_app d (l.take j) b (l.getD j d) m;rw[hlen]at hs;rw[hs,insE_app l m j (l.getD j d::b) (by omega),hx];have hk:=kR_le lt d l m j;rw[List.drop_append_of_le_length (by omega)];simp
  ·have:(l.take (j+1)).drop (j+1)=[]:=List.drop_eq_nil_of_le (by rw[QC];omega);rw[this,hx];simp
def insE_still{xs:List α}{i:Nat}(h:lt (xs.getD i d) (xs.getD (i-1) d)=false):insE lt d xs i=xs:=by
 cases i with
 |zero=>rfl
 |succ j=>
  unfold insE;rw[Nat.add_sub_cancel]at h;rw[if_neg (by rw[h];exact Q6)]
def isort_app(l:List α)(m:α)(hs:∀i,i+1<l.length->lt (l.getD (i+1) d) (l.getD i d)=false):
  ∀(f i:Nat),1<=i->i+f=l.length+1->Dd lt d f i (l++[m])=if f=0 then l++[m]else l.take (kR lt d l m l.length)++m::l.drop (kR lt d l m l.length)
 |0,i,_,_=>by simp[Dd]
 |f+1,i,hi,h=>by
  rw[if_neg (Qo f)];unfold Dd;by_cases hf:f=0
  ·subst hf;have:i=l.length:=by omega
   subst this;have:=insE_app lt d l m l.length [] (Qv _);simp only[List.take_length,Q4]at this;unfold Dd;exact this
  ·have hil:i<l.length:=by omega
   have g1:(l++[m]).getD i d=l.getD i d:=by simp[QL,QJ hil]
   have g2:(l++[m]).getD (i-1) d=l.getD (i-1) d:=by simp[QL,QJ (show i-1<l.length by omega)]
   rw[insE_still lt d (by rw[g1,g2];have:=hs (i-1) (by omega);rwa [show i-1+1=i by omega]at this),isort_app l m hs f (i+1) (by omega) (by omega),if_neg hf]
end
end Go.Vd
namespace Go.Vd
open Go.RowKit
def D.plain:D->Bool
 | .bool _| .int _ _| .str _=>true
 |_=>false
def Rep.plain{w w':World}{g g':Gh}{d:D}{v:Value}(h:Rep w g d v)(hp:d.plain=true):Rep w' g' d v:=by
 cases h with
 |bool b=>exact .bool b
 |int k n=>exact .int k n
 |str s=>exact .str s
 |_=>cases hp
def ownS(F:List D->Option (List D)):Summ where
 rd:=λ_ _=>[]
 ex:=λds _ fr=>if(ds.map D.un).all D.calm=true then(F (ds.map D.un)).map λxs=>(.row fr xs.length,[(fr,0,flat xs)])else none
section
variable{P:Program}{B:Nat}{w0 w w':World}{m:Mem}{g:Gh}
def InvM.adopt(h:InvM P B w0 m w g)(hb:Below w.heap.size w w'){fr:Id}(hf:BR m g fr){b:Nat}(hbw:w.heap.size<=b){cur:Array Value}{T:TypeId}(hh:w'.heap[b]?=some (.cells cur T (0,0))){ds:List D}
  (hc:∀(j:Nat) d,ds[j]?=some d->d.plain=true∧∃v,cur[j]?=some v∧v.oneCell'=true∧Rep w' (g.obj fr b) d v):
  InvM P B w0 (m.put fr 0 ds) w' (g.obj fr b)∧Ext w g w' (g.obj fr b):=by
 have x:Ext w g w' (g.obj fr b):=by
  refine⟨λp hp=>?_,λb=>Qv _,λi' b h=>?_,rfl,λi x h=>h⟩
  ·by_cases hlt:p.block<w.heap.size
   ·exact hb.cell hlt
   ·rw[h.gz _ (by omega)]at hp;omega
  ·simp only[Gh.obj];split
   ·rename_i e;subst e;rw[hf.2.1]at h;cases h
   ·exact h
 refine⟨?_,x⟩;have ne:∀i' b',g.dl i'=some b'->i'≠fr:=λi' b' hb e=>by subst e;rw[hf.2.1]at hb;cases hb
 have hput:∀o d,m.put fr 0 ds fr o=some d->ds[o]?=some d:=by
  intro o d hm;by_cases ho:o<ds.length
  ·have hm':m.put fr 0 ds fr (0+o)=ds[o]?:=Mem.put_same ho;rw[Qm]at hm';rw[←hm'];exact hm
  ·rw[Mem.put_out (by omega),hf.1 o]at hm;cases hm
 have hpl:∀{o d},m.put fr 0 ds fr o=some d->d.plain=true:=λhm=>(hc _ _ (hput _ _ hm)).1
 have oth:∀{i o d},m.put fr 0 ds i o=some d->d.plain=false->i≠fr∧m i o=some d:=by
  intro i o d hm hd;by_cases e:i=fr
  ·subst e;rw[hpl hm]at hd;cases hd
  ·rw[Mem.put_other e]at hm;exact⟨e,hm⟩
 refine⟨h.below.trans (hb.mono h.size),Zb h.size hb.size,λb' hb'=>h.gz b' (Zb hb.size hb'),h.old,λi' b' hi=>?_,λi1 i2 b' h1 h2=>?_,λi' o d hm hd=>?_,λi' e hi=>?_,λi1 i2 e e' b' y y' h1 h2 h3 h4=>?_,h.itr.to (λi' s p e=>(oth e rfl).2) λi' b' s p _ _ _ e1 e2 e3=>?_⟩
 rotate_right
 ·have hlt:b'<w.heap.size:=(QU.1 e1).1;refine⟨rfl,hb.block b' hlt,e2,λi1 h1=>?_⟩;simp only[Gh.obj]at h1;split at h1
  ·simp only[Qb]at h1;omega
  ·exact e3 i1 h1
 ·simp only[Gh.obj]at hi;split at hi
  ·rename_i e;subst e;simp only[Qb]at hi;subst hi;refine⟨Zb h.size hbw,h.gz _ hbw,cur,T,hh,λo d hm=>?_⟩;exact(hc o d (hput o d hm)).2
  ·rename_i hne;obtain⟨p,q,vs',T',hh',r⟩:=h.obj i' b' hi;refine⟨p,q,vs',T',(hb.block b' (h.lt hi)).trans hh',λo d hm=>?_⟩;rw[Mem.put_other hne]at hm;obtain⟨v,r1,r2,r3⟩:=r o d hm;exact⟨v,r1,r2,r3.ext x⟩
 ·simp only[Gh.obj]at h1 h2;split at h1<;>split at h2
  ·simp_all
  ·simp only[Qb]at h1;subst h1;have:=h.lt h2;omega
  ·simp only[Qb]at h2;subst h2;have:=h.lt h1;omega
  ·exact h.inj _ _ _ h1 h2
 ·simp only[Gh.obj]at hd;split at hd
  ·cases hd
  ·rename_i hne;rw[Mem.put_other hne]at hm;exact h.kind _ _ _ hm hd
 ·obtain⟨hne,hi⟩:=oth hi rfl;obtain⟨b1,n,c,sz,cur',t1,t2,t3,t4,t5,t6,t7,t8,t9,t10⟩:=h.tok i' e hi;have hlt:b1<w.heap.size:=(QU.1 t5).1;refine⟨b1,n,c,sz,cur',t1,t2,t3,t4,(hb.block b1 hlt).trans t5,t6,t7,t8,t9,λi1 h1=>?_⟩;simp only[Gh.obj]at h1;split at h1
  ·simp only[Qb]at h1;omega
  ·exact t10 i1 h1
 ·exact h.tinj _ _ _ _ _ _ _ (oth h1 rfl).2 (oth h2 rfl).2 h3 h4
end
section
variable{P:Program}{S:Summs}{f:FuncId}{N:Nat}{dc:DC}{rs:List RV}
def own_ok(hS:Summs.ok P S)(hf:Fn P f N dc rs){F:List D->Option (List D)}(hN:∀ds r,F ds=some r->ds.length<=N)
  (hF:∀ds xs,F ds=some xs->(∀x∈flat xs,x.plain=true)∧dc.wp S [] (DY rs λd m'=>∃t e,d= .slice false t xs∧t≠[]∧m' t 0=some (.tok (e+1))) ⟨Br ds,λ_ _=>none,0⟩):(ownS F).ok P f:=by
 obtain⟨fn,code,h1,h2,h3,h4,h5,h6⟩:=hf.is;refine⟨⟨fn,h1,by rw[h2];rfl,h3⟩,λds m m' fr _=>rfl,?_⟩;intro B w0 w m g fr ds vs r u hi hfresh hl hrep hex;simp only[ownS]at hex;split at hex
 ·rename_i hcalm;rw[Qh]at hex;obtain⟨xs,hr,hex⟩:=hex;simp only[Qz]at hex;obtain⟨rfl,rfl⟩:=hex;obtain⟨hpl,hwp⟩:=hF _ _ hr;have hi0:=start_inv P w hi.gz;have hrep0:∀(j:Nat) d v,(ds.map D.un)[j]?=some d->vs[j]?=some v->Rep w (CV g.G) d v:=by
   intro j d v hd hv;have hc:=Qx.1 hcalm d (QD hd);rw[QN,Qh]at hd;obtain⟨d',hd',rfl⟩:=hd;exact(hrep j d' v hd' hv).un.calm_to hc (λ_ _=>rfl) (λ_=>Qv _)
  have hcalls:=F8 (B:=w.heap.size) (w0:=w) (w:=w) (g:=CV g.G) (ns:=[]) (m:=λ_ _=>none) (ds:=ds.map D.un) (vs:=vs) hS hf (hN _ _ hr) hi0 (λk i _=>⟨λ_=>rfl,rfl,rfl⟩) (by simpa using hl) hrep0 hwp;refine hcalls.mono ?_;rintro e w' ⟨v,d,m',g',rfl,hinv,hext,_,hrd,t,e',rfl,ht,htok⟩;obtain⟨b,n,c,sz,cur,t1,t2,t3,t4,t5,t6,t7,t8,t9,t10⟩:=hinv.tok t e' htok;rcases hrd.slice_inv with ⟨h,_⟩|⟨_,ad,n',c',sz',vv,rfl,q1,q2,q3,q4,q5,q6,q7,q8,q9⟩
  ·cases h
  ·obtain⟨q8a,q8b,q8c⟩:=q8 ht;rw[t1]at q8c;simp only[Qb,Qz]at q8c;obtain⟨hb,hn,hc,hsz⟩:=q8c;have had:ad=⟨b,0,none⟩:=by
    cases ad;simp only at hb q8a q8b;subst hb q8a q8b;rfl
   subst had;subst hn hc hsz;have hfl:=B_ q3;obtain⟨i1,i2⟩:=hi.adopt hinv.below (hfresh fr (List.suffix_refl _)) t2 t5 (ds:=flat xs) (λj d hd=>by
    have hj:j<n*sz:=by rw[q1,←hfl];exact(Qs.1 hd).1
    have hp:=hpl d (QD hd);have hcell:=q4 j hj;rw[DU,Qm]at hcell;refine⟨hp,vv j,?_,q5 j hj,(q6 j d hd).plain hp⟩;simpa[World.cell?,t5]using hcell)
   refine⟨_,g.obj fr b,rfl,i1,i2,?_,λi hf hne=>EC hf hne _ _⟩;rw[←q1];exact .row fr n c b q2 (by simp[Gh.obj])
 ·cases hex
def SetC(m:Mem)(d r:D):Prop:=r=d.un∨∃i xs sz,d= .row i xs.length∧r= .slice false [] xs∧(∀x∈xs,x.calm=true∧x.cells.length=sz)∧∀(j:Nat) x,(flat xs)[j]?=some x->m i j=some x
def SetL(p:D->D->Prop):List D->List D->Prop
 |[],[]=>True
 |c::cs,x::xs=>p c x∧SetL p cs xs
 |_,_=>False
def SetD(m:Mem)(d r:D):Prop:=SetC m d r∨∃cs xs,d= .agg cs∧r= .agg xs∧SetL (SetC m) cs xs
def SetR(m:Mem)(d r:D):Prop:=(r.calm=true∧SetD m d r)∨∃cs xs,d= .tup cs∧r= .tup xs∧SetL (SetD m) cs xs
def SetL.get{p:D->D->Prop}:∀{cs xs:List D},SetL p cs xs->cs.length=xs.length∧∀(j:Nat) c x,cs[j]?=some c->xs[j]?=some x->p c x
 |[],[],_=>⟨rfl,by simp⟩
 |c::cs,x::xs,h=>by
  obtain⟨h1,h2⟩:=h;obtain⟨a,b⟩:=SetL.get h2;refine⟨by simp[a],λj c' x' hc hx=>?_⟩;cases j with
  |zero=>simp only[Ql,Qb]at hc hx;subst hc hx;exact h1
  |succ j=>simp only[Qa]at hc hx;exact b j c' x' hc hx
 |[],_::_,h=>h.elim
 |_::_,[],h=>h.elim
def fun_set(hS:Summs.ok P S)(hf:Fn P f N dc rs){F:List D->Option D}(hN:∀ds r,F ds=some r->ds.length<=N)
  (hF:∀ds r,F ds=some r->r.calmR=true∧dc.wp S [] (DY rs λd m'=>SetR m' d r) ⟨Br ds,λ_ _=>none,0⟩):(Ac F).ok P f:=by
 obtain⟨fn,code,h1,h2,h3,h4,h5,h6⟩:=hf.is;refine⟨⟨fn,h1,by rw[h2];rfl,h3⟩,λds m m' fr _=>rfl,?_⟩;intro B w0 w m g fr ds vs r u hi hfresh hl hrep hex;simp only[Ac]at hex;split at hex
 ·rename_i hcalm;rw[Qh]at hex;obtain⟨r',hr,hex⟩:=hex;simp only[Qz]at hex;obtain⟨rfl,rfl⟩:=hex;obtain⟨hcr,hwp⟩:=hF _ _ hr;have hi0:=start_inv P w hi.gz;have hrep0:∀(j:Nat) d v,(ds.map D.un)[j]?=some d->vs[j]?=some v->Rep w (CV g.G) d v:=by
   intro j d v hd hv;have hc:=Qx.1 hcalm d (QD hd);rw[QN,Qh]at hd;obtain⟨d',hd',rfl⟩:=hd;exact(hrep j d' v hd' hv).un.calm_to hc (λ_ _=>rfl) (λ_=>Qv _)
  have hcalls:=F8 (B:=w.heap.size) (w0:=w) (w:=w) (g:=CV g.G) (ns:=[]) (m:=λ_ _=>none) (ds:=ds.map D.un) (vs:=vs) hS hf (hN _ _ hr) hi0 (λk i _=>⟨λ_=>rfl,rfl,rfl⟩) (by simpa using hl) hrep0 hwp;refine hcalls.mono ?_;rintro e w' ⟨v,d,m',g',rfl,hinv,hext,_,hrd,hset⟩
  let G':Nat->Nat:=λb=>max (g'.G b) (match w'.heap[b]? with|some (.cells c _ _)=>c.size|_=>0)
  have hGle:∀b,g'.G b<=(g.glue w G').G b:=by
   intro b;simp only[Gh.glue];split
   ·rename_i hlt;rw[hinv.old b hlt,hext.G0];exact Qv _
   ·exact Nat.le_max_left ..
  have hGz:∀b,w'.heap.size<=b->G' b=0:=by
   intro b hb;simp only[G'];rw[Array.getElem?_eq_none hb,hinv.gz b hb];rfl
  have hC:∀{d r:D} {v:Value},Rep w' g' d v->SetC m' d r->r.calm=true->Rep w' (g.glue w G') r v:=by
   intro d r v h hs hc;rcases hs with rfl|⟨i,xs,sz,rfl,rfl,hx,hm⟩
   ·exact h.un.calm_to hc (λ_ _=>rfl) hGle
   ·obtain⟨b,cap,rfl,hcap,hb⟩:=h.row_inv;obtain⟨hBb,hGb,cur,T,hheap,hobj⟩:=hinv.obj i b hb;have hfl:=B_ λx h=>(hx x h).2
    have hvl:∀(j:Nat),j<(flat xs).length->∃v,cur[j]?=some v∧v.oneCell'=true∧∃x,(flat xs)[j]?=some x∧Rep w' g' x v:=by
     intro j hj;obtain⟨v',r1,r2,r3⟩:=hobj j _ (hm j _ (Qd hj));exact⟨v',r1,r2,_,Qd hj,r3⟩
    have hsz:(flat xs).length<=cur.size:=by
     rcases Nat.eq_zero_or_pos (flat xs).length with h|h
     ·omega
     ·obtain⟨v',r1,_⟩:=hvl ((flat xs).length-1) (by omega);have:=(QU.1 r1).1;omega
    have hcalm:∀x∈xs,x.calm=true:=λx h=>(hx x h).1
    refine Rep.ofRow (sz:=sz) (cur:=cur) (vs:=cur.toList.take (flat xs).length) hheap rfl hcap (λx h=>(hx x h).2) ⟨by simp;omega,λv hv=>?_,λj x v hx' hv=>?_⟩ (λj v hv=>?_) ?_ (λh=>absurd rfl h) hcalm
    ·obtain⟨j,hj,rfl⟩:=Zj hv;have hj':j<(flat xs).length:=Nat.lt_of_lt_of_le hj (Zz _ _);obtain⟨v',r1,r2,_⟩:=hvl j hj';have:(cur.toList.take (flat xs).length)[j]?=some v':=by rw[Q2 hj'];simpa using r1
     rw[Qd hj]at this;rw[Q5 this];exact r2
    ·have hj':j<(flat xs).length:=(Qs.1 hx').1;obtain⟨v',r1,r2,x',hx2,r3⟩:=hvl j hj';rw[hx']at hx2;obtain rfl:=Q5 hx2;have:(cur.toList.take (flat xs).length)[j]?=some v':=by rw[Q2 hj'];simpa using r1
     rw[hv]at this;obtain rfl:=Q5 this;exact r3.calm_to (calm_flat hcalm x (QD hx')) (λ_ _=>rfl) hGle
    ·have hj:j<(flat xs).length:=Nat.lt_of_lt_of_le (Qs.1 hv).1 (Zz _ _);rw[Q2 hj]at hv;simpa using hv
    ·rw[←hfl];simp only[Gh.glue,G'];rw[if_neg (by omega),hheap];exact Zb hsz (Nat.le_max_right ..)
  have hD:∀{d r:D} {v:Value},Rep w' g' d v->SetD m' d r->r.calm=true->Rep w' (g.glue w G') r v:=by
   intro d r v h hs hc;rcases hs with hs|⟨cs,xs,rfl,rfl,hL⟩
   ·exact hC h hs hc
   ·obtain⟨us,rfl,k1,k2,k3⟩:=A3.ofAgg h;obtain⟨l1,l2⟩:=hL.get;refine .agg _ us (by rw[k1,l1]) k2 (λj x v hx hv=>?_);have hj:j<cs.length:=by rw[l1];exact(Qs.1 hx).1
    exact hC (k3 j _ v (Qd hj) hv) (l2 j _ x (Qd hj) hx) (calm_agg hc x (QD hx))
  refine⟨v,g.glue w G',rfl,hi.glue hinv.below hGz,Ext.glue hi.gz hinv.below,?_,λi hf _=>hf⟩;rcases hset with ⟨hc,hs⟩|⟨cs,xs,rfl,rfl,hL⟩
  ·exact hD hrd hs hc
  ·obtain⟨us,rfl,k1,k2⟩:=hrd.tup_inv;obtain⟨l1,l2⟩:=hL.get;refine .tup _ us (by rw[k1,l1]) (λj x v hx hv=>?_);have hj:j<cs.length:=by rw[l1];exact(Qs.1 hx).1
   simp only[D.calmR,Qx]at hcr;exact hD (k2 j _ v (Qd hj) hv) (l2 j _ x (Qd hj) hx) (hcr x (QD hx))
 ·cases hex
end
def isSl:D->Bool
 | .slice _ _ _=>true
 |_=>false
def EU:List D->Nat
 |[]=>0
 | .slice _ _ xs::r=>xs.length+EU r
 |_::r=>EU r
def catD_len:∀{L ys:List D},EE L=some ys->ys.length=EU L∧L.all isSl=true
 |[],ys,h=>by simp only[EE,Qb]at h;subst h;exact⟨rfl,rfl⟩
 |x::r,ys,h=>by
  unfold EE at h;split at h
  ·rename_i heq;cases heq
  ·rename_i nl t xs r' heq;cases heq;rw[Qh]at h;obtain⟨zs,hz,rfl⟩:=h;obtain⟨h1,h2⟩:=catD_len hz;exact⟨by simp[EU,h1],by simp[isSl,h2]⟩
  ·cases h
def szB(sz:Nat)(d:D):Bool:=d.cells.length==sz
def headSz_szB{sz:Nat}{ys:List D}(h:ys.all (szB sz)=true):D.headSz ys sz=sz:=by
 cases ys with
 |nil=>rfl
 |cons y r=>
  have:=Qx.1 h y (List.mem_cons_self ..);simpa[D.headSz,szB]using this
def catB{n bytes:Nat}(hby:bytes<=1000000)(hn:n<=100000):n*(bytes+1)<=140737488355328:=Zb (Nat.mul_le_mul hn (Nat.succ_le_succ hby)) (by omega)
def growU_at{m:Mem}{e:Nat}{fr t:Id}{nl:Bool}{xs:List D}:Upd.app m (Bi e fr (.slice nl t xs)) fr 0=some (.tok (e+1)):=by
 cases nl<;>simp[Bi,Upd.app,Bf]
def dcCat0(pt:Nat):DC:=(.seq (.row [⟨some 12,.bin .lss (.t 11) (.t 10),[],none⟩]) (.seq (.cond (.t 12) .skip (.exit 0)) (.seq (.block 1 (.seq (.row [⟨some 13,.iaddr 1 (.t 9) (.t 11),[],none⟩,⟨some 14,.load none (.t 13),[],none⟩,⟨some 5,.mv (.t 14),[],none⟩]) (.seq (.row [⟨some 15,.mv (.t 3),[],none⟩,⟨some 16,.mv (.t 5),[],none⟩,⟨some 17,.len false (.t 16),[],none⟩,⟨some 18,.bin .add (.t 15) (.t 17),[],none⟩,⟨some 3,.mv (.t 18),[],none⟩]) (.seq (.row [⟨some 19,.mv (.t 3),[],none⟩,⟨some 20,.bin .lss (.t 19) (.c (.int .i64 0)),[],none⟩]) (.cond (.t 20) (.row [⟨some 21,.mkif pt (.c (.str [108,101,110,32,111,117,116,32,111,102,32,114,97,110,103,101])),[],none⟩,⟨none,.stop,[],none⟩]) .skip))))) (.row [⟨some 22,.bin .add (.t 11) (.c (.int .i64 1)),[],none⟩,⟨some 11,.mv (.t 22),[],none⟩]))))
def dcCat1(e sz bytes:Nat):DC:=(.seq (.row [⟨some 28,.bin .lss (.t 27) (.t 26),[],none⟩]) (.seq (.cond (.t 28) .skip (.exit 2)) (.seq (.block 3 (.seq (.row [⟨some 29,.iaddr 1 (.t 25) (.t 27),[],none⟩,⟨some 30,.load none (.t 29),[],none⟩,⟨some 8,.mv (.t 30),[],none⟩]) (.row [⟨some 31,.mv (.t 6),[],none⟩,⟨some 32,.mv (.t 8),[],none⟩,⟨some 33,.app e sz bytes (.t 31) (.t 32),[],none⟩,⟨some 6,.mv (.t 33),[],none⟩]))) (.row [⟨some 34,.bin .add (.t 27) (.c (.int .i64 1)),[],none⟩,⟨some 27,.mv (.t 34),[],none⟩]))))
def F6(pt e sz bytes gf:Nat):DC:=(.seq (.row [⟨some 2,.mv (.c (.slice true [] [])),[],none⟩]) (.seq (.row [⟨some 3,.mv (.c (.int .i64 0)),[],none⟩]) (.seq (.seq (.row [⟨some 9,.mv (.t 0),[],none⟩,⟨some 10,.len false (.t 9),[],none⟩,⟨some 11,.mv (.c (.int .i64 0)),[],none⟩]) (.block 0 (.loop (dcCat0 pt)))) (.seq (.row [⟨some 23,.mv (.t 3),[],none⟩,⟨some 24,.call (.c (.fn gf [])) [(.c (.slice true [] [])),(.t 23)],[],none⟩,⟨some 6,.mv (.t 24),[],none⟩]) (.seq (.seq (.row [⟨some 25,.mv (.t 0),[],none⟩,⟨some 26,.len false (.t 25),[],none⟩,⟨some 27,.mv (.c (.int .i64 0)),[],none⟩]) (.block 2 (.loop (dcCat1 e sz bytes)))) (.seq (.row [⟨some 35,.mv (.t 6),[],none⟩,⟨some 2,.mv (.t 35),[],none⟩]) .ret))))))
def loopCat0{pt:Nat}{S:Summs}{ns:Id}{L:List D}{nl:Bool}{t:Id}{Q:Ex->St->Prop}(hb:L.length<=1000)(hall:L.all isSl=true)
  (hexit:∀(st:St),st.s 0= .slice nl t L->st.s 3= .int .i64 (EU L:Nat)->Q (.exit 0) st):
  ∀(R:List D)(k a:Nat) st g,L.drop k=R->k<=L.length->a+EU R=EU L->EU L<=1000000->st.s 0= .slice nl t L->st.s 9= .slice nl t L->st.s 10= .int .i64 (L.length:Nat)->st.s 11= .int .i64 (k:Nat)->st.s 3= .int .i64 (a:Nat)->
   A4 S ns (dcCat0 pt) Q st g:=by
 intro R;induction R with
 |nil=>
  intro k a st g hd hk ha hm h0 h9 h10 h11 h3;refine Ae (dcCat0.eq_1 pt) ?_;have hlen:L.length<=k:=by simpa using hd
  have:¬((k:Int)<L.length):=by omega
  simp only[↓go1,go2,go4,reduceIte,Qg,h10,h11,this];refine hexit _ ?_ ?_
  ·simp only[↓go1,reduceIte,Qf,h0]
  ·simp only[↓go1,reduceIte,Qf,h3];simp only[EU]at ha;rw[←ha];rfl
 |cons x R ih=>
  intro k a st g hd hk ha hm h0 h9 h10 h11 h3;refine Ae (dcCat0.eq_1 pt) ?_;have hkl:k<L.length:=by
   rcases Zl k L.length with h|h
   ·exact h
   ·rw[Q9 h]at hd;cases hd
  have hxk:L[k]?=some x:=by
   have:=congrArg (·[0]?) hd;simpa using this
  have hx:isSl x=true:=Qx.1 hall x (QD hxk);have hdr:L.drop (k+1)=R:=by
   rw[←List.drop_drop,hd];rfl
  match x,hx with
  | .slice nl' t' xs,_=>
   have hlt:((k:Int)<L.length):=by omega
   have hk0:(0:Int)<=(k:Int):=by omega
   have hxk':L[(k:Int).toNat]?=some (.slice nl' t' xs):=by simpa using hxk
   simp only[EU]at ha;have w1:IntKind.i64.wrap ((a:Int)+(xs.length:Int))=((a+xs.length:Nat):Int):=by rw[IntWalk.i64_in _ ⟨by omega,by omega⟩];simp
   have w2:IntKind.i64.wrap ((k:Int)+1)=((k+1:Nat):Int):=by rw[IntWalk.i64_in _ ⟨by omega,by omega⟩];simp
   have hneg:¬(((a+xs.length:Nat):Int)<0):=by omega
   simp only[↓go1,gB2,reduceIte,Qf,Qg,h9,h10,h11,h3,hlt,hk0,hxk',w1,w2,hneg];exact ih (k+1) (a+xs.length) _ _ hdr (by omega) (by omega) hm h0 h9 h10 rfl rfl
def loopCat1{e sz bytes:Nat}(hby:bytes<=1000000){S:Summs}{ns:Id}{L:List D}{nl0:Bool}{t0:Id}{Q:Ex->St->Prop}(hb:L.length<=1000)
  (hexit:∀(st:St)(nl:Bool)(t:Id)(ys:List D),EE L=some ys->st.s 6= .slice nl t ys->(nl=true->ys=[])->Grow st.m e (.slice nl t ys)->Q (.exit 2) st):
  ∀(R:List D)(k:Nat)(acc zs:List D)(nl:Bool)(t:Id) st g,L.drop k=R->k<=L.length->EE R=some zs->EE L=some (acc++zs)->(acc++zs).all (szB sz)=true->(acc++zs).length<=100000->
   (nl=true->acc=[])->Grow st.m e (.slice nl t acc)->
   st.s 6= .slice nl t acc->st.s 25= .slice nl0 t0 L->st.s 26= .int .i64 (L.length:Nat)->st.s 27= .int .i64 (k:Nat)->
   A4 S ns (dcCat1 e sz bytes) Q st g:=by
 intro R;induction R with
 |nil=>
  intro k acc zs nl t st g hd hk hz hL hone hlen hnil hgrow h6 h25 h26 h27;refine Ae (dcCat1.eq_1 e sz bytes) ?_;have hlen':L.length<=k:=by simpa using hd
  have:¬((k:Int)<L.length):=by omega
  simp only[EE,Qb]at hz;subst hz;simp only[↓go1,go2,go4,reduceIte,Qg,h26,h27,this];refine hexit _ nl t acc (by simpa using hL) ?_ hnil hgrow;simp only[↓go1,reduceIte,Qf,h6]
 |cons x R ih=>
  intro k acc zs nl t st g hd hk hz hL hone hlen hnil hgrow h6 h25 h26 h27;refine Ae (dcCat1.eq_1 e sz bytes) ?_;have hkl:k<L.length:=by
   rcases Zl k L.length with h|h
   ·exact h
   ·rw[Q9 h]at hd;cases hd
  have hxk:L[k]?=some x:=by
   have:=congrArg (·[0]?) hd;simpa using this
  have hdr:L.drop (k+1)=R:=by
   rw[←List.drop_drop,hd];rfl
  unfold EE at hz;split at hz
  ·rename_i heq;cases heq
  ·rename_i nl' t' xs R' heq;cases heq;rw[Qh]at hz;obtain⟨zs',hz',rfl⟩:=hz;have hlt:((k:Int)<L.length):=by omega
   have hk0:(0:Int)<=(k:Int):=by omega
   have hxk':L[(k:Int).toNat]?=some (.slice nl' t' xs):=by simpa using hxk
   have w2:IntKind.i64.wrap ((k:Int)+1)=((k+1:Nat):Int):=by rw[IntWalk.i64_in _ ⟨by omega,by omega⟩];simp
   simp only[↓go1,gB2,reduceIte,Qf,Qg,h6,h25,h26,h27,hlt,hk0,hxk'];have hacc:(if nl=true then xs else acc++xs)=acc++xs:=BH hnil;refine ifQ.intro (λhc=>?_) (λhc=>?_)
   ·obtain⟨rfl,rfl⟩:=hc;obtain rfl:=hnil rfl;simp only[↓go1,go2,go3,reduceIte,Qf,Qg,h27,w2];exact ih (k+1) [] zs' true [] _ _ hdr (by omega) hz' (by simpa using hL) (by simpa using hone) (by simpa using hlen) (λ_=>rfl) (.inl rfl) rfl h25 h26 rfl
   ·have hxs:xs.all (szB sz)=true:=by
     rw[Zh,Zh]at hone;simp only[QS]at hone;exact hone.2.1
    refine Ao.intro ⟨catB hby (by simp only[Qy]at hlen;omega),headSz_szB hxs,hgrow⟩ ?_;rw[hacc];simp only[↓go1,go2,go3,reduceIte,Qf,Qg,h27,w2];refine ih (k+1) (acc++xs) zs' false _ _ _ hdr (by omega) hz' (by simpa using hL) (by simpa using hone) (by simpa using hlen) (λh=>by cases h) (.inr ⟨growU_at,by simp⟩) rfl h25 h26 rfl
  ·cases hz
def FcatG(sz:Nat):List D->Option (List D)
 |[.slice _ _ L]=>match EE L with
  |some ys=>if L.length<=1000∧0<ys.length∧ys.length<=100000∧ys.all (szB sz)=true then some ys else none
  |none=>none
 |_=>none
def cat_wp{P:Program}{f gf pt e sz bytes:Nat}(hby:bytes<=1000000){S:Summs}(hS:S gf=some (DD e)){L ys:List D}{nl:Bool}{t:Id}(hys:EE L=some ys)(c1:L.length<=1000)(c2:0<ys.length)(c3:ys.length<=100000)(c4:ys.all (szB sz)=true)
  {R:D->Mem->Prop} (hR:∀t m,Grow m e (.slice false t ys)->R (.slice false t ys) m):(F6 pt e sz bytes gf).wp S [] (DY [.t 2] R) ⟨Br [.slice nl t L],λ_ _=>none,0⟩:=by
 obtain⟨hl,hall⟩:=catD_len hys;unfold F6;simp only[↓go1,go2,reduceIte,Qf,Qg];refine loopCat0 c1 hall (λst h0 h3=>?_) L 0 0 _ _ rfl (by omega) (by simp) (by omega) rfl rfl rfl rfl rfl;simp only[↓go1,go2,go4,reduceIte,Qg,h3];rw[Ah hS];have hg:(DD e).ex ([D.slice true [] [],D.int IntKind.i64 (EU L:Nat)]++[]) st.m [st.c+1]=some (.slice false [0,st.c+1] [],[([0,st.c+1],0,[.tok (e+1)])]):=by
  simp only[DD,Q4];rw[if_pos ⟨by omega,by omega⟩]
 refine Got.intro hg ?_;simp only[↓go1,go2,reduceIte,Qf,Qg,h0];refine loopCat1 hby c1 (λst' nl' t' zs hz h6 hn hgr=>?_) L 0 [] ys false _ _ _ rfl (by omega) hys (by simpa using hys) (by simpa using c4) (by simpa using c3) (λh=>by cases h) (.inr ⟨?_,by simp⟩) rfl h0 rfl rfl
 ·rw[hys]at hz;simp only[Qb]at hz;subst hz;have hnl:nl'=false:=by
   cases nl' with
   |false=>rfl
   |true=>have:=hn rfl;subst this;simp at c2
  subst hnl;simp only[↓go1,go2,reduceIte,Qf,Qg,h6];exact hR _ _ hgr
 ·simp[Bf]
section
variable{P:Program}{f gf pt e sz bytes:Nat}
def FcatG_some{ds ys:List D}(h:FcatG sz ds=some ys):∃nl t L,ds=[.slice nl t L]∧EE L=some ys∧L.length<=1000∧0<ys.length∧ys.length<=100000∧ys.all (szB sz)=true:=by
 unfold FcatG at h;split at h
 ·rename_i nl t L;split at h
  ·rename_i ys' hys;split at h
   ·rename_i hc;simp only[Qb]at h;subst h;exact⟨nl,t,L,rfl,hys,hc⟩
   ·cases h
  ·cases h
 ·cases h
def gS(gf e:Nat):Summs:=λf=>if f=gf then some (DD e)else none
def gS_ok(hg:(DD e).ok P gf):Summs.ok P (gS gf e):=by
 intro f q h;unfold gS at h;split at h
 ·simp only[Qb]at h;subst h;rename_i e;subst e;exact hg
 ·cases h
def cat_own(hf:Fn P f 36 (F6 pt e sz bytes gf) [.t 2])(hby:bytes<=1000000)(hg:(DD e).ok P gf):(ownS λds=>(FcatG sz ds).bind λys=>if(flat ys).all D.plain=true then some ys else none).ok P f:=by
 refine own_ok (gS_ok hg) hf (λds r h=>?_) (λds r h=>?_)
 ·rw[QX]at h;obtain⟨ys,h,_⟩:=h;obtain⟨nl,t,L,rfl,_⟩:=FcatG_some h;simp
 ·rw[QX]at h;obtain⟨ys,h,h2⟩:=h;split at h2
  ·rename_i hp;simp only[Qb]at h2;subst h2;obtain⟨nl,t,L,rfl,c0,c1,c2,c3,c4⟩:=FcatG_some h;refine⟨λx hx=>Qx.1 hp x hx,cat_wp (P:=P) (f:=f) hby (by simp[gS]) c0 c1 c2 c3 c4 λt m hgr=>?_⟩;rcases hgr with h|⟨h1,h2⟩
   ·cases h
   ·exact⟨t,e,rfl,h2,h1⟩
  ·cases h2
def cat_fun(hf:Fn P f 36 (F6 pt e sz bytes gf) [.t 2])(hby:bytes<=1000000)(hg:(DD e).ok P gf){F:List D->Option D}
  (hF:∀ds r,F ds=some r->∃nl t L ys,ds=[.slice nl t L]∧EE L=some ys∧L.length<=1000∧0<ys.length∧ys.length<=100000∧ys.all (szB sz)=true∧r= .slice false [] ys):(Ac F).ok P f:=by
 refine Az (gS_ok hg) hf (λds r h=>?_) (λds r h=>?_)
 ·obtain⟨nl,t,L,ys,rfl,_⟩:=hF ds r h;simp
 ·obtain⟨nl,t,L,ys,rfl,c0,c1,c2,c3,c4,rfl⟩:=hF ds r h;exact cat_wp (P:=P) (f:=f) hby (by simp[gS]) c0 c1 c2 c3 c4 λt m hgr=>⟨rfl,rfl⟩
end
def E9(n:Nat):UInt8:=if n<10 then UInt8.ofNat (48+n)else UInt8.ofNat (87+n)
def Fa(s:List UInt8):List UInt8:=s.flatMap λb=>[E9 (b.toNat / 16),E9 (b.toNat % 16)]
def Ec:∀s:List UInt8,(Fa s).length=2*s.length
 |[]=>rfl
 |b::r=>by
  have:=Ec r;simp only[Fa,Zq,Qy,gB3]at this ⊢;omega
def CK(a b:List UInt8):Au (a++b)=Au a++Au b:=by simp[Au]
def Bu(a:List UInt8):(Au a).length=a.length:=by simp[Au]
def Cr:∀a:List UInt8,BE (Au a)=some a
 |[]=>rfl
 |c::r=>by
  have h:=c.toNat_lt;show(BE (Au r)).map _=_;rw[Cr r];simp
def hexTab:∀n,n<16->([48,49,50,51,52,53,54,55,56,57,97,98,99,100,101,102]:List UInt8)[n]?=some (E9 n):=by decide+kernel
def and15:∀n:Nat,n<256->bits .and .u8 (n:Int) 15=((n % 16:Nat):Int):=by decide+kernel
def shr4:∀n:Nat,n<256->(n:Int).fdiv (2 ^ min (4:Int).toNat IntKind.u8.bits)=((n / 16:Nat):Int):=by decide+kernel
def hexB_snoc(s:List UInt8)(c:UInt8):Fa (s++[c])=Fa s++[E9 (c.toNat / 16),E9 (c.toNat % 16)]:=by simp[Fa]
def CG:List (List UInt8)->Nat
 |[]=>0
 |w::r=>w.length+CG r
def strR(m:Mem)(i:Id):Nat->Nat->Option (List (List UInt8))
 |0,_=>some []
 |f+1,j=>match m i j,strR m i f (j+1)with
  |some (.str p),some l=>some (p::l)
  |_,_=>none
def strR_some{m:Mem}{i:Id}:∀{f j:Nat} {xs:List (List UInt8)},strR m i f j=some xs->xs.length=f∧∀k x,xs[k]?=some x->m i (j+k)=some (.str x)
 |0,j,xs,h=>by
  simp only[strR,Qb]at h;subst h;exact⟨rfl,by simp⟩
 |f+1,j,xs,h=>by
  unfold strR at h;split at h
  ·rename_i p l e1 e2;simp only[Qb]at h;subst h;obtain⟨r1,r2⟩:=strR_some e2;refine⟨by simp[r1],λk x hx=>?_⟩;cases k with
   |zero=>simp only[Ql,Qb]at hx;subst hx;exact e1
   |succ k=>
    have:=r2 k x (by simpa using hx);rw[show j+1+k=j+(k+1)by omega]at this;exact this
  ·cases h
def strR_loc{m m':Mem}{i:Id}:∀{f j n:Nat},j+f<=n->(∀o,o<n->m i o=m' i o)->strR m i f j=strR m' i f j
 |0,j,n,_,_=>rfl
 |f+1,j,n,hn,h=>by
  unfold strR;rw[h j (by omega),strR_loc (f:=f) (j:=j+1) (by omega) h]
def strR_of{m:Mem}{i:Id}:∀{xs:List (List UInt8)} {j:Nat},(∀k x,xs[k]?=some x->m i (j+k)=some (.str x))->strR m i xs.length j=some xs
 |[],j,_=>rfl
 |x::r,j,h=>by
  have h0:=h 0 x rfl;have hr:=strR_of (xs:=r) (j:=j+1) (λk y hy=>by have:=h (k+1) y (by simpa using hy);rw[show j+1+k=j+(k+1)by omega];exact this);simp only[QY,strR,Zm]at h0 ⊢;rw[h0,hr]
def C5:List (List UInt8)->List UInt8
 |[]=>[]
 |[w]=>w
 |w::v::r=>w++44::C5 (v::r)
def FY:∀l:List (List UInt8),(C5 l).length<=CG l+l.length
 |[]=>by simp[C5]
 |[w]=>by simp[C5,CG]
 |w::v::r=>by
  have:=FY (v::r);simp only[C5,Qy,QY,CG]at this ⊢;omega
def joinC_eq:∀l:List (List UInt8),Lib.join l [44]=C5 l
 |[]=>rfl
 |[w]=>Lib.join_one w [44]
 |w::v::r=>by
  have ih:=joinC_eq (v::r);rw[Lib.join_cons]at ih;rw[Lib.join_cons,C5,←ih];simp[Lib.joinTail]
def joinQ:Summ where
 rd:=λds _=>match ds with
  |[.row i n,_]=>(ZA n).map λo=>(i,o)
  |_=>[]
 ex:=λds m _=>match ds with
  |[.row i n,.str [44]]=>(strR m i n 0).bind λl=>if l.length<=1000∧CG l<=1000000 then some (.str (C5 l),[])else none
  |_=>none
def joinQ_ok {P:Program} {ρ:Go.Shelf.Ren} (L:Go.Proofs.Lays.n156 P ρ) (X:Go.Proofs.Builder.Extra P ρ) (ent:∃fn,P.funcs[ρ.f 156]?=some fn∧fn.body.isSome=true∧(fn.name== "runtime.NumGoroutine")=false):joinQ.ok P (ρ.f 156):=by
 refine⟨ent,λds m m' fr h=>?_,?_⟩
 ·simp only[joinQ]at h ⊢;split
  ·rename_i i n;simp only at h;rw[strR_loc (m:=m) (m':=m') (n:=n) (by omega) λo ho=>h (i,o) (QE.2 ⟨o,by simpa using ho,rfl⟩)]
  ·rfl
 intro B w0 w m g fr ds vs r u hi hfresh hl hrep hex;simp only[joinQ]at hex;split at hex
 ·rename_i i n;rw[QX]at hex;obtain⟨l,hls,hex⟩:=hex;split at hex
  ·rename_i hc;obtain⟨c1,c2⟩:=hc;simp only[Qb,Qz]at hex;obtain⟨rfl,rfl⟩:=hex
   match vs,hl with
   |[v,v1],_=>
    have h0:=hrep 0 _ v rfl rfl;have h1:=hrep 1 _ v1 rfl rfl;rw[h1.str_inv];obtain⟨b,c,rfl,hnc,hb⟩:=h0.row_inv;obtain⟨hl1,hl2⟩:=strR_some hls;obtain⟨hBb,hGb,cur,T,hheap,hobj⟩:=hi.obj i b hb;have hcell:∀(j:Nat) z,l[j]?=some z->w.cell? ⟨b,0+j,none⟩=some (.string ⟨z.toArray⟩):=by
     intro j z hz;have hm:=hl2 j z hz;rw[Qm]at hm;obtain⟨v',r1,r2,r3⟩:=hobj j _ hm;rw[r3.str_inv]at r1;simp[World.cell?,hheap,r1]
    have hmap:(l.map λx=>(⟨x.toArray⟩:ByteArray)).map (·.data.toList)=l:=by simp[Q_,Function.comp_def]
    have hj:(⟨#[44]⟩:ByteArray).data.toList=[44]:=rfl;have hjl:=FY l;have:=Go.Proofs.Any.strings_Join L X b 0 c (l.map λx=>(⟨x.toArray⟩:ByteArray)) ⟨#[44]⟩ w (λj x hx=>by
     rw[QN,Qh]at hx;obtain⟨z,hz,rfl⟩:=hx;exact hcell j z hz) (hi.lt hb) (by simp;omega) (by simp;omega) (by rw[hmap,hj,joinC_eq];omega)
    rw[hmap,hj,joinC_eq,QA,hl1]at this;refine this.mono ?_;rintro ev w' ⟨rfl,hb⟩;exact⟨_,g.over w w',rfl,hi.over hb,Ext.over hi.gz hb,.str _,λi hf _=>hf⟩
  ·cases hex
 ·cases hex
def EO{a:Act}{t:Nat}{d:Option Tmp}{v:Value}(h:d≠some t):(a.put d v).tmps[t]?=a.tmps[t]?:=by
 cases d with
 |none=>rfl
 |some k=>
  have hk:k≠t:=λe=>h (by rw[e])
  simp only[Act.put];rw[Zi];rw[if_neg hk]
def ops_keep{P:Program}{ops:Array Oper}{t:Nat}{x:Option Value}{Q:Exit->Act->World->Prop}(hn:∀(i:Nat) o,ops[i]?=some o->o.dst≠some t):∀(l:List Nat)(a:Act)(w:World),
  a.tmps[t]?=x->wpOps P ops Q l a w->wpOps P ops (λe a' w'=>Q e a' w'∧(e= .normal->a'.tmps[t]?=x)) l a w
 |[],a,w,hx,h=>⟨h,λ_=>hx⟩
 |i::l,a,w,hx,h=>by
  have ih:=ops_keep (P:=P) (Q:=Q) (x:=x) hn l;simp only[wpOps]at h ⊢;cases ho:ops[i]? with
  |none=>rw[ho]at h;exact ih a w hx h
  |some o=>
   rw[ho]at h;simp only at h ⊢;have hd:=hn i o ho;split at h
   ·rename_i hw;rw[if_pos hw];rcases h with h|⟨h1,h2⟩
    ·left;unfold Oper.wp at h ⊢;revert h;generalize (execOp a.eval o).run P w=r;intro h;unfold Oper.upon at h ⊢;split at h
     ·exact ih _ _ (by rw[EO hd];exact hx) h
     ·exact ih _ _ (by rw[EO hd];exact hx) h
     ·exact ih _ _ (by rw[EO hd];exact hx) h
     ·refine h.mono (λe w' he=>?_);cases e with
      |returned v=>exact ih _ _ (by rw[EO hd];exact hx) he
      |panicked c=>exact⟨he,λe=>nomatch e⟩
      |outgrown=>obtain⟨a0,w0,h0⟩:=he;exact⟨a0,w0,h0,λe=>nomatch e⟩
     ·exact h.mono (λv w' he=>ih _ _ (by rw[EO hd];exact hx) he)
     ·exact⟨h,λe=>nomatch e⟩
     ·exact h.elim
    ·right;obtain⟨a0,w0,h0⟩:=h2;exact⟨h1,a0,w0,h0,λe=>nomatch e⟩
   ·rename_i hw;rw[if_neg hw];exact ih _ _ (by rw[EO hd];exact hx) h
def Dc(t:Nat):Code->Bool
 | .region _ ops _=>ops.toList.all λo=>o.dst !=some t
 | .seq a b=>Dc t a&&Dc t b
 | .cond _ a b=>Dc t a&&Dc t b
 | .block _ c=>Dc t c
 | .loop c=>Dc t c
 |_=>true
section
variable{P:Program}{B:Nat}{w0:World}{N:Nat}{ns:Id}{S:Summs}{t:Nat}
def keeps_ops{ops:Array Oper}(h:(ops.toList.all λo=>o.dst !=some t)=true)(i:Nat)(o:Oper)(ho:ops[i]?=some o):o.dst≠some t:=by
 have:=Qx.1 h o (by rw[←Array.getElem?_toList]at ho;exact QD ho);simpa using this
def ev_keeps(hS:Summs.ok P S):∀(code:Code)(dc:DC),AD P N code=some dc->Dc t code=true->∀(st:St)(e:Ex)(st':St),Ev S ns dc st e st'->∀(a:Act)(w:World)(g:Gh),Holds P B w0 N ns st a w g->
  code.wp P (λe' a' w'=>Post P B w0 N ns st w g e st' e' a' w'∧a'.tmps[t]?=a.tmps[t]?) a w:=by
 intro code;induction code with
 |skip=>
  intro dc htr hk st e st' hev a w g hx;simp only[AD,Qb]at htr;subst htr;obtain⟨rfl,rfl⟩:=hev;exact wp_skip ⟨⟨rfl,g,hx,Ext.refl w g,EG.refl _ _ _⟩,rfl⟩
 |ret=>
  intro dc htr hk st e st' hev a w g hx;simp only[AD,Qb]at htr;subst htr;obtain⟨rfl,rfl⟩:=hev;exact wp_ret ⟨⟨rfl,g,hx,Ext.refl w g,EG.refl _ _ _⟩,rfl⟩
 |exit i=>
  intro dc htr hk st e st' hev a w g hx;simp only[AD,Qb]at htr;subst htr;obtain⟨rfl,rfl⟩:=hev;exact wp_exit ⟨⟨rfl,g,hx,Ext.refl w g,EG.refl _ _ _⟩,rfl⟩
 |region id ops draw=>
  intro dc htr hk st e st' hev a w g hx;cases draw with
  |false=>
   simp only[AD,Qh]at htr;obtain⟨dops,hops,rfl⟩:=htr;obtain⟨rfl,he,hc⟩:=hev;rw[evRow_strip,evRow_sched S ns st.c dops dops 0 _ _ rfl,←Zg]at he;have hl:dops.length=ops.size:=by simpa using (Ck hops).1
   have h0:below 0=λ_=>false:=by funext j;simp[below]
   refine wp_mono (wp_region (ops_keep (x:=a.tmps[t]?) (Q:=Post P B w0 N ns st w g .normal st') (keeps_ops hk) _ a w rfl ?_)) (λe' a' w' h=>⟨h.1,h.2 h.1.1⟩);rw[←hl];refine D9 hS hops (ZA dops.length) (below 0) st.s st.m a w g st'.s st'.m ?_ he (hx.start _) (λa' w' g' h1 h2 h3=>⟨rfl,g',?_,h2,h3⟩)
   ·rw[Zg];exact fits_range _ 0
   ·rw[Zg,foldl_range]at h1;rw[Qm]at h1;unfold Holds;rw[hc,QA];exact h1.done
  |true=>
   simp only[AD]at htr;obtain⟨dops,befs,hops,hb,hs,hord,rfl⟩:=Cn htr;obtain⟨rfl,⟨f,he,hf⟩,hc⟩:=hev;rw[Gz]at he;refine wp_mono (wp_region_draw (λu=>ops_keep (x:=a.tmps[t]?) (Q:=Post P B w0 N ns st w g .normal st') (keeps_ops hk) _ a _ rfl ?_)) (λe' a' w' h=>⟨h.1,h.2 h.1.1⟩);obtain⟨g1,g2⟩:=schedule_goes hops hb hord (P.follows .mixedOrders) u;have hsch:=text_sched (c:=st.c) (ns:=ns) hS hb hs he hf g1 g2;have hx':InS P B w0 N ns st.c st.s st.m a w.drew g:=⟨hx.inv.drew,λt=>(hx.slots t).ext (Ext.drew w g),hx.size,hx.defers,hx.fresh⟩;refine D9 hS hops _ (λ_=>false) st.s st.m a w.drew g st'.s st'.m (fits_goes g1) hsch (hx'.start _) (λa' w' g' h1 h2 h3=>⟨rfl,g',?_,(Ext.drew w g).trans h2,h3⟩);unfold Holds;rw[hc,QA];rw[g2]at h1;exact h1.done
 |seq x y ihx ihy=>
  intro dc htr hk st e st' hev a w g hx;simp only[Dc,QS]at hk;simp only[AD]at htr;split at htr
  ·rename_i dx dy h1 h2;simp only[Qb]at htr;subst htr;obtain⟨e1,st1,hev1,hor⟩:=hev;have hwp:=ihx dx h1 hk.1 st e1 st1 hev1 a w g hx;refine wp_seq (wp_mono hwp ?_);rintro e' a' w' ⟨⟨rfl,g',hh,hxt,hkp⟩,hfr⟩;rcases hor with ⟨rfl,hev2⟩|⟨hne,rfl,rfl⟩
   ·exact wp_mono (ihy dy h2 hk.2 st1 e st' hev2 a' w' g' hh) (λe'' a'' w'' h=>⟨h.1.trans hxt hkp,h.2.trans hfr⟩)
   ·cases e with
    |normal=>exact absurd rfl hne
    |ret=>exact⟨⟨rfl,g',hh,hxt,hkp⟩,hfr⟩
    |exit i=>exact⟨⟨rfl,g',hh,hxt,hkp⟩,hfr⟩
  ·cases htr
 |cond c x y ihx ihy=>
  intro dc htr hk st e st' hev a w g hx;simp only[Dc,QS]at hk;simp only[AD]at htr;split at htr
  ·rename_i dcc dx dy h0 h1 h2;simp only[Qb]at htr;subst htr;have hc:=hx.slots.arg h0;rcases hev with ⟨ht,hev⟩|⟨ht,hev⟩
   ·rw[ht]at hc;exact wp_cond_true hc.bool_inv (ihx dx h1 hk.1 st e st' hev a w g hx)
   ·rw[ht]at hc;exact wp_cond_false hc.bool_inv (ihy dy h2 hk.2 st e st' hev a w g hx)
  ·cases htr
 |block i c ih=>
  intro dc htr hk st e st' hev a w g hx;simp only[Dc]at hk;simp only[AD,Qh]at htr;obtain⟨dcc,h1,rfl⟩:=htr;obtain⟨e1,hev1,hor⟩:=hev;refine wp_block (wp_mono (ih dcc h1 hk st e1 st' hev1 a w g hx) ?_);rintro e' a' w' ⟨⟨rfl,g',hh,hxt,hkp⟩,hfr⟩;rcases hor with ⟨rfl,rfl⟩|⟨hne,rfl⟩
  ·simp only[Ex.toExit,Exit.inBlock,if_true];exact⟨⟨rfl,g',hh,hxt,hkp⟩,hfr⟩
  ·cases e with
   |normal=>exact⟨⟨rfl,g',hh,hxt,hkp⟩,hfr⟩
   |ret=>exact⟨⟨rfl,g',hh,hxt,hkp⟩,hfr⟩
   |exit j=>
    simp only[Ex.toExit,Exit.inBlock];rw[if_neg (λe=>hne (by rw[e]))];exact⟨⟨rfl,g',hh,hxt,hkp⟩,hfr⟩
 |loop c ih=>
  intro dc htr hk st e st' hev a w g hx;simp only[Dc]at hk;simp only[AD,Qh]at htr;obtain⟨dcc,h1,rfl⟩:=htr;obtain⟨n,hlp⟩:=hev;refine wp_loop_n (λn a' w'=>∃st1 g1,Holds P B w0 N ns st1 a' w' g1∧Ext w g w' g1∧EG ns st.m g st1.m g1∧Lp (Ev S ns dcc) n st1 e st'∧a'.tmps[t]?=a.tmps[t]?) ?_ ⟨st,g,hx,Ext.refl w g,EG.refl _ _ _,hlp,rfl⟩;rintro n a1 w1 ⟨st1,g1,hh,hxt,hkp,hlp1,hfr⟩;cases hlp1 with
  |stop _ _ _ hr hne=>
   refine wp_mono (ih dcc h1 hk st1 e st' hr a1 w1 g1 hh) ?_;rintro e' a' w' ⟨hp,hf2⟩;have hp':=hp.trans hxt hkp;obtain⟨rfl,_⟩:=hp;cases e with
   |normal=>exact absurd rfl hne
   |ret=>exact⟨hp',hf2.trans hfr⟩
   |exit i=>exact⟨hp',hf2.trans hfr⟩
  |more n' _ st2 _ _ hr hlp2=>
   refine wp_mono (ih dcc h1 hk st1 .normal st2 hr a1 w1 g1 hh) ?_;rintro e' a' w' ⟨⟨rfl,g',hh',hxt',hkp'⟩,hf2⟩;exact⟨n',Nat.lt_succ_self _,st2,g',hh',hxt.trans hxt',hkp.trans hkp',hlp2,hf2.trans hfr⟩
 |_=>
  intro dc htr;simp[AD]at htr
end
section
variable{P:Program}{S:Summs}{f:FuncId}{N:Nat}{dc a b:DC}{rs:List RV}{code:Code}
def Ge(h:AD P N code=some (.seq a b)):∃x y,code= .seq x y∧AD P N x=some a∧AD P N y=some b:=by
 cases code with
 |seq x y=>
  simp only[AD]at h;split at h
  ·rename_i h1 h2;simp only[Qb,DC.seq.injEq]at h;obtain⟨rfl,rfl⟩:=h;exact⟨x,y,rfl,h1,h2⟩
  ·cases h
 |region i ops d=>
  cases d with
  |false=>simp[AD]at h
  |true=>
   simp only[AD]at h;obtain⟨_,_,_,_,_,_,h⟩:=Cn h;cases h
 |cond c x y=>
  simp only[AD]at h;split at h
  ·simp at h
  ·cases h
 |_=>simp[AD]at h
def tr_block{i:Nat}(h:AD P N code=some (.block i a)):∃x,code= .block i x∧AD P N x=some a:=by
 cases code with
 |block j x=>
  simp only[AD,Qh,DC.block.injEq]at h;obtain⟨c,h1,rfl,rfl⟩:=h;exact⟨x,rfl,h1⟩
 |region i ops d=>
  cases d with
  |false=>simp[AD]at h
  |true=>
   simp only[AD]at h;obtain⟨_,_,_,_,_,_,h⟩:=Cn h;cases h
 |cond c x y=>
  simp only[AD]at h;split at h
  ·simp at h
  ·cases h
 |seq x y=>
  simp only[AD]at h;split at h
  ·simp at h
  ·cases h
 |_=>simp[AD]at h
def tr_loop(h:AD P N code=some (.loop a)):∃x,code= .loop x∧AD P N x=some a:=by
 cases code with
 |loop x=>
  simp only[AD,Qh,DC.loop.injEq]at h;obtain⟨c,h1,rfl⟩:=h;exact⟨x,rfl,h1⟩
 |region i ops d=>
  cases d with
  |false=>simp[AD]at h
  |true=>
   simp only[AD]at h;obtain⟨_,_,_,_,_,_,h⟩:=Cn h;cases h
 |cond c x y=>
  simp only[AD]at h;split at h
  ·simp at h
  ·cases h
 |seq x y=>
  simp only[AD]at h;split at h
  ·simp at h
  ·cases h
 |_=>simp[AD]at h
def tr_cond{c:Arg}(h:AD P N code=some (.cond c a b)):∃o x y,code= .cond o x y∧AC o=some c∧AD P N x=some a∧AD P N y=some b:=by
 cases code with
 |cond o x y=>
  simp only[AD]at h;split at h
  ·rename_i h0 h1 h2;simp only[Qb,DC.cond.injEq]at h;obtain⟨rfl,rfl,rfl⟩:=h;exact⟨o,x,y,rfl,h0,h1,h2⟩
  ·cases h
 |region i ops d=>
  cases d with
  |false=>simp[AD]at h
  |true=>
   simp only[AD]at h;obtain⟨_,_,_,_,_,_,h⟩:=Cn h;cases h
 |seq x y=>
  simp only[AD]at h;split at h
  ·simp at h
  ·cases h
 |_=>simp[AD]at h
def tr_row{ops:List DOper}(h:AD P N code=some (.row ops)):∃i os dops,code= .region i os false∧CN P N os.toList=some dops∧ops=dops.map DOper.strip:=by
 cases code with
 |region i os d=>
  cases d with
  |false=>
   simp only[AD,Qh,DC.row.injEq]at h;obtain⟨dops,h1,rfl⟩:=h;exact⟨i,os,dops,rfl,h1,rfl⟩
  |true=>
   simp only[AD]at h;obtain⟨_,_,_,_,_,_,h⟩:=Cn h;cases h
 |cond c x y=>
  simp only[AD]at h;split at h
  ·simp at h
  ·cases h
 |seq x y=>
  simp only[AD]at h;split at h
  ·simp at h
  ·cases h
 |_=>simp[AD]at h
def ops_app{ops:Array Oper}{Q:Exit->Act->World->Prop}{l2:List Nat}:∀(l:List Nat)(a:Act)(w:World),
  wpOps P ops (λe a' w'=>(e= .normal->wpOps P ops Q l2 a' w')∧(e≠ .normal->Q e a' w')) l a w->wpOps P ops Q (l++l2) a w
 |[],a,w,h=>h.1 rfl
 |i::l,a,w,h=>by
  have ih:=ops_app (ops:=ops) (Q:=Q) (l2:=l2) l;simp only[wpOps,List.cons_append]at h ⊢;cases ho:ops[i]? with
  |none=>rw[ho]at h;exact ih a w h
  |some o=>
   rw[ho]at h;simp only at h ⊢;split at h
   ·rename_i hw;rw[if_pos hw];rcases h with h|⟨h1,h2⟩
    ·left;unfold Oper.wp at h ⊢;revert h;generalize (execOp a.eval o).run P w=r;intro h;unfold Oper.upon at h ⊢;split at h
     ·exact ih _ _ h
     ·exact ih _ _ h
     ·exact ih _ _ h
     ·refine h.mono (λe w' he=>?_);cases e with
      |returned v=>exact ih _ _ he
      |panicked c=>exact he.2 (λe=>nomatch e)
      |outgrown=>obtain⟨a0,w0,h0⟩:=he;exact⟨a0,w0,h0.2 (λe=>nomatch e)⟩
     ·exact h.mono (λv w' he=>ih _ _ he)
     ·exact h.2 (λe=>nomatch e)
     ·exact h.elim
    ·right;obtain⟨a0,w0,h0⟩:=h2;exact⟨h1,a0,w0,h0.2 (λe=>nomatch e)⟩
   ·rename_i hw;rw[if_neg hw];exact ih _ _ h
theorem fun_ok_wp (hf : Fn P f N dc rs) {F : List D → Option D} (hN : ∀ ds r, F ds = some r → ds.length ≤ N)
  (hF : ∀ ds r, F ds = some r → ∀ (fn : Func) (code : Code) (a : Act) (w : World) (g : Gh), P.funcs[f]? = some fn → fn.body = some code → AD P N code = some dc → (∀ i, g.dl i = none) → (∀ i, g.tb i = none) → g.G0 = g.G →
   Holds P w.heap.size w N [] ⟨Br ds, fun _ _ => none, 0⟩ a w g →
   code.wp P (fun e a' w' => (e = .normal ∨ e = .ret) ∧ ∃ st' g' d, Holds P w.heap.size w N [] st' a' w' g' ∧ g'.G0 = g.G0 ∧ BY rs st'.s st'.m = some d ∧ d.unR = r ∧ r.calmR = true) a w) : (Ac F).ok P f := by
 obtain ⟨fn, code, h1, h2, h3, h4, h5, h6⟩ := hf.is
 refine ⟨⟨fn, h1, by rw [h2]; rfl, h3⟩, fun ds m m' fr _ => rfl, ?_⟩
 intro B w0 w m g fr ds vs r u hi hfresh hl hrep hex
 simp only [Ac] at hex
 split at hex
 ·rename_i hcalm
  rw [Qh] at hex
  obtain ⟨r', hr, hex⟩ := hex
  simp only [Qz] at hex
  obtain ⟨rfl, rfl⟩ := hex
  let g0 : Gh := { G := g.G, G0 := g.G, dl := fun _ => none, tb := fun _ => none }
  have hi0 : InvM P w.heap.size w (fun _ _ => none) w g0 :=
   ⟨Below.refl _ _, Qv _, hi.gz, fun _ _ => rfl, fun i b h => by simp [g0] at h, fun i i' b h => by simp [g0] at h, fun i o d h => by simp at h, fun i e h => by simp at h, fun i i' e e' b x x' h => by simp at h, fun i s p h => by simp at h, fun i i' s p s' p' b x x' h => by simp at h⟩
  have hrep0 : ∀ (j : Nat) d v, (ds.map D.un)[j]? = some d → vs[j]? = some v → Rep w g0 d v := by
   intro j d v hd hv
   have hc := Qx.1 hcalm d (QD hd)
   rw [QN, Qh] at hd
   obtain ⟨d', hd', rfl⟩ := hd
   exact (hrep j d' v hd' hv).un.calm_to hc (fun _ _ => rfl) (fun _ => Qv _)
  have hNl := hN _ _ hr
  rw [QA] at hNl
  have hst : Holds P w.heap.size w N [] ⟨Br (ds.map D.un), fun _ _ => none, 0⟩ { tmps := vs.toArray ++ Array.replicate (N - vs.toArray.size) undef, defers := [] } w g0 := by
   refine ⟨hi0, fun t => ?_, by simp; omega, rfl, fun k i _ hs => ⟨fun _ => rfl, rfl, rfl⟩⟩
   simp only [Br]
   by_cases ht : t < (ds.map D.un).length
   ·have ht' : t < ds.length := by simpa using ht
    have e1 : (ds.map D.un).getD t .junk = (ds.map D.un)[t] := by simp [QL, ht']
    have e2 : (vs.toArray ++ Array.replicate (N - vs.toArray.size) undef).getD t undef = vs[t]'(by omega) := by
     rw [QF, Array.getElem?_append_left (by simp; omega)]
     simp [hl, ht']
    rw [e1, e2]
    exact hrep0 t _ _ (Qd ht) (Qd _)
   ·have e1 : (ds.map D.un).getD t .junk = .junk := by simp [QL, List.getElem?_eq_none (Nat.le_of_not_lt ht)]
    rw [e1]
    exact .junk _
  have hcalls : Calls P f vs.toArray w fun e w' => ∃ v d m' g', e = .returned v ∧ InvM P w.heap.size w m' w' g' ∧ g'.G0 = g0.G0 ∧ Rep w' g' d v ∧ d.unR = r' ∧ r'.calmR = true := by
   refine calls_of_wp h1 h2 ?_
   rw [h4]
   refine wp_mono (hF _ _ hr fn code _ w g0 h1 h2 h5 (fun _ => rfl) (fun _ => rfl) rfl hst) ?_
   rintro e' a' w' ⟨hend, st', g', d, hh, hG0, hd, hR⟩
   obtain ⟨v, hv1, hv2⟩ := resOf_sound hh.inv hh.slots h6 hd
   have hb : a'.defers = [] ∧ ∃ v, (results fn a'.tmps).run P w' = .ok v w' ∧ ∃ v' d m' g', Ending.returned v = .returned v' ∧ InvM P w.heap.size w m' w' g' ∧ g'.G0 = g0.G0 ∧ Rep w' g' d v' ∧ d.unR = r' ∧ r'.calmR = true :=
    ⟨hh.defers, v, hv1, v, d, st'.m, g', rfl, hh.inv, hG0, hv2, hR⟩
   rcases hend with rfl | rfl
   ·exact hb
   ·exact hb
  refine hcalls.mono ?_
  rintro e w' ⟨v, d, m', g', rfl, hinv, hG0, hrd, rfl, hcr⟩
  have hGeq : ∀ b, (g.glue w g'.G).G b = g'.G b := by
   intro b
   simp only [Gh.glue]
   split
   ·rename_i hlt
    rw [hinv.old b hlt, hG0]
   ·rfl
  refine ⟨v, g.glue w g'.G, rfl, hi.glue hinv.below hinv.gz, Ext.glue hi.gz hinv.below, ?_, fun i hf _ => hf⟩
  exact hrd.unR.calmR_to hcr (fun _ _ => rfl) (fun b => by rw [hGeq]; exact Qv _)
 ·cases hex
end
section
variable{P:Program}{B:Nat}{w0 w:World}{m:Mem}{g g0:Gh}{N:Nat}
def Gh.bare(g:Gh)(B b n:Nat):Gh:={G:=λk=>if k<B then g.G k else if k=b then n else 0,G0:=g.G0,dl:=λ_=>none,tb:=λ_=>none}
def bytesD_get{bs:List UInt8}{j:Nat}:(Au bs)[j]?=(bs[j]?).map λx=> .int .u8 x.toNat:=by
 simp[Au]
def set_last(hi:InvM P B w0 m w g)(hg1:∀i,g0.dl i=none)(hg2:∀i,g0.tb i=none)(hg3:g0.G0=g0.G)(hg4:∀b,B<=b->g0.G b=0)(hG0:g.G0=g0.G0)
  {t:Id} {e n c b:Nat} {bs:List UInt8} {y:UInt8} (hne:bs≠[]) (htok:m t 0=some (.tok (e+1))) (hrep:Rep w g (.slice false t (Au bs)) (.slice (some ⟨b,0,none⟩) n c)) (ht:t≠[]) (htb:g.tb t=some (b,n,c,1)) (hn:n=bs.length):
  ∃cur,w.heap[b]?=some (.cells cur e (0,0))∧n<=cur.size∧∀cs:Array Value,cs=(cur.toList.take (n-1)++[Value.int .u8 y.toNat]++cur.toList.drop (n-1+1)).toArray->
   InvM P B w0 (λ_ _=>none) (w.setRow b cs) (g.bare B b n)∧Ext w0 g0 (w.setRow b cs) (g.bare B b n)∧Rep (w.setRow b cs) (g.bare B b n) (.slice false [] (Au (bs.set (bs.length-1) y))) (.slice (some ⟨b,0,none⟩) n c):=by
 obtain⟨b1,n1,c1,sz,cur,t1,t2,t3,t4,t5,t6,t7,t8,t9,t10⟩:=hi.tok t e htok;rw[htb]at t1;simp only[Qb,Qz]at t1;obtain⟨rfl,rfl,rfl,rfl⟩:=t1;have hlen:0<bs.length:=Zk.2 hne;rcases hrep.slice_inv with ⟨h,_⟩|⟨_,ad,n2,c2,sz2,vv,ev,r1,r2,r3,r4,r5,r6,r7,r8,r9⟩
 ·cases h
 simp only[Value.slice.injEq,Qb]at ev;obtain⟨rfl,rfl,rfl⟩:=ev;obtain⟨_,_,q3⟩:=r8 ht;rw[htb]at q3;simp only[Qb,Qz,true_and]at q3;subst q3;refine⟨cur,t5,by omega,λcs hcs=>?_⟩;have hsz:(w.setRow b cs).heap.size=w.heap.size:=by simp[World.setRow]
 have hoth:∀k,k≠b->(w.setRow b cs).heap[k]?=w.heap[k]?:=λk hk=>setRow_other w b k _ hk
 have hbel:Below B w0 (w.setRow b cs):=⟨hi.below.os,hi.below.tape,hi.below.output,by rw[hsz];exact hi.below.size,λk hk=>(hoth k (by omega)).trans (hi.below.block k hk)⟩;have hblt:b<w.heap.size:=(QU.1 t5).1;have hdl:∀i k,(g.bare B b n).dl i=some k->False:=λi k h=>by simp[Gh.bare]at h
 have hmm:∀{d:D},(none:Option D)=some d->False:=λh=>by cases h
 have hd1:∀i k,g0.dl i=some k->(g.bare B b n).dl i=some k:=λi k h=>by rw[hg1]at h;cases h
 have hd2:∀i x,g0.tb i=some x->(g.bare B b n).tb i=some x:=λi x h=>by rw[hg2]at h;cases h
 refine⟨⟨hbel,(by rw[hsz];exact hi.size),λk hk=>?_,λk hk=>?_,λi k h=>(hdl i k h).elim,λi i' k h=>(hdl i k h).elim,λi o d h=>(hmm h).elim,λi e h=>(hmm h).elim,λi i' e e' k x x' h=>(hmm h).elim,?_⟩,⟨λp hp=>?_,λk=>?_,hd1,hG0,hd2⟩,?_⟩
 ·rw[hsz]at hk;have hB:¬k<B:=by have:=hi.size;omega
  have hb:¬k=b:=by omega
  simp only[Gh.bare,if_neg hB,if_neg hb]
 ·simp only[Gh.bare,if_pos hk];exact hi.old k hk
 ·exact⟨λi s p h=>(hmm h).elim,λi i' s p s' p' b x x' h=>(hmm h).elim⟩
 ·have hlt:p.block<B:=by
   rcases Zl p.block B with h|h
   ·exact h
   ·rw[hg4 _ h]at hp;omega
  exact hbel.cell hlt
 ·rcases Zl k B with h|h
  ·simp only[Gh.bare,if_pos h];rw[hi.old k h,hG0,hg3];exact Qv _
  ·rw[hg4 _ h];exact Qu _
 ·have hcell:∀j,(w.setRow b cs).cell? ((Addr.mk b 0 none).add j)=cs[j]?:=λj=>by
   rw[DU,Qm];exact cell_setRow_same w b j cur cs e (0,0) t5
  have hcur:∀j,w.cell? ((Addr.mk b 0 none).add j)=cur[j]?:=λj=>by
   rw[DU,Qm];simp[World.cell?,t5]
  have hcs2:∀j,j<bs.length->cs[j]?=if j=bs.length-1 then some (Value.int .u8 y.toNat)else cur[j]?:=λj hj=>by
   subst hcs;rw[hn];have hl:(cur.toList.take (bs.length-1)).length=bs.length-1:=by rw[QC];simp;omega
   simp only[List.getElem?_toArray,Q0];split
   ·rename_i e;subst e;rw[QG (by omega),hl,ZB];rfl
   ·rename_i e;rw[QJ (by omega),List.getElem?_take,if_pos (by omega)];simp
  have hset:∀j,j<bs.length->cs[j]?=some (Value.int .u8 ((bs.set (bs.length-1) y).getD j 0).toNat):=λj hj=>by
   rw[hcs2 j hj];split
   ·rename_i e;have hl1:bs.length-1<bs.length:=by omega
    rw[e,List.getD_eq_getElem?_getD,List.getElem?_set];simp[hl1]
   ·rename_i e;have h4:=r4 j (by omega);rw[hcur]at h4;have h6:=r6 j (.int .u8 bs[j].toNat) (by rw[Fo,bytesD_get,Qd hj];rfl);rw[h4,h6.int_inv];simp[QL,Ne.symm e,hj]
  refine .slice [] _ ⟨b,0,none⟩ n c 1 (λj=>Value.int .u8 ((bs.set (bs.length-1) y).getD j 0).toNat) (by simp[Au,hn]) r2 (λd hd=>?_) (λj hj=>?_) (λj hj=>rfl) (λj d hd=>?_) (λ_=>?_) (λh=>absurd rfl h) (λd hd=>?_)
  ·obtain⟨z,_,rfl⟩:=QE.1 (show d∈List.map _ _ from hd);rfl
  ·rw[hcell];exact hset j (by omega)
  ·rw[Fo,bytesD_get]at hd;rw[Qh]at hd;obtain⟨z,hz,rfl⟩:=hd;have:(bs.set (bs.length-1) y).getD j 0=z:=by simp[QL,hz]
   rw[this];exact .int _ _
  ·have hB:¬b<B:=by omega
   simp only[Gh.bare,if_neg hB,if_true];omega
  ·obtain⟨z,_,rfl⟩:=QE.1 (show d∈List.map _ _ from hd);rfl
end
def ops_mono{P:Program}{ops:Array Oper}{Q Q':Exit->Act->World->Prop}(hq:∀e a w,Q e a w->Q' e a w):∀(l:List Nat)(a:Act)(w:World),wpOps P ops Q l a w->wpOps P ops Q' l a w
 |[],a,w,h=>hq _ _ _ h
 |i::l,a,w,h=>by
  have ih:=ops_mono (P:=P) (ops:=ops) hq l;simp only[wpOps]at h ⊢;cases ho:ops[i]? with
  |none=>rw[ho]at h;exact ih a w h
  |some o=>
   rw[ho]at h;simp only at h ⊢;split at h
   ·rename_i hw;rw[if_pos hw];rcases h with h|⟨h1,h2⟩
    ·left;unfold Oper.wp at h ⊢;revert h;generalize (execOp a.eval o).run P w=r;intro h;unfold Oper.upon at h ⊢;split at h
     ·exact ih _ _ h
     ·exact ih _ _ h
     ·exact ih _ _ h
     ·refine h.mono (λe w' he=>?_);cases e with
      |returned v=>exact ih _ _ he
      |panicked c=>exact hq _ _ _ he
      |outgrown=>obtain⟨a0,w0,h0⟩:=he;exact⟨a0,w0,hq _ _ _ h0⟩
     ·exact h.mono (λv w' he=>ih _ _ he)
     ·exact hq _ _ _ h
     ·exact h.elim
    ·right;obtain⟨a0,w0,h0⟩:=h2;exact⟨h1,a0,w0,hq _ _ _ h0⟩
   ·rename_i hw;rw[if_neg hw];exact ih _ _ h
def getD_stop{o:Option DOp}{d:DOp}(hd:d≠ .stop)(h:o.getD .stop=d):o=some d:=by
 cases o with
 |none=>exact absurd h.symm hd
 |some x=>exact congrArg some h
def trEq_ni{P:Program}{ne:Bool}{t:TypeId}{x y:Operand}{a b:Arg}{n:Nat}{u v:Arg}:trEq P ne t x y a b≠some (.iaddr n u v):=by
 unfold trEq
 (repeat' split)<;>simp
def trEq_ns{P:Program}{ne:Bool}{t:TypeId}{x y:Operand}{a b:Arg}{n:Nat}{u v:Arg}:trEq P ne t x y a b≠some (.store n u v):=by
 unfold trEq
 (repeat' split)<;>simp
def trCall_ni{P:Program}{c:Call}{n:Nat}{u v:Arg}:Gf P c≠some (.iaddr n u v):=by
 unfold Gf
 (repeat' split)<;>simp
def trCall_ns{P:Program}{c:Call}{n:Nat}{u v:Arg}:Gf P c≠some (.store n u v):=by
 unfold Gf
 (repeat' split)<;>simp
def tr_iaddr{P:Program}{op:Op}{x i:Arg}(h:(tr P op).getD .stop= .iaddr 1 x i):∃t X I e,op= .indexAddr t X I∧P.underlying t=some (.slice e)∧CF P e=some 1∧AC X=some x∧AC I=some i:=by
 replace h:=getD_stop (by simp) h;unfold tr at h;split at h
 all_goals try (simp only[Qh,reduceCtorEq,and_false,exists_false]at h;done)
 all_goals try ((repeat' split at h)<;>simp only[Qh,reduceCtorEq,and_false,exists_false,Qb]at h<;>done)
 ·split at h
  ·exact absurd h trEq_ni
  ·cases h
 ·split at h
  ·exact absurd h trEq_ni
  ·cases h
 ·rename_i t X I;split at h
  ·rename_i e x' i' h1 h2 h3;rw[Qh]at h;obtain⟨n,hn,h4⟩:=h;simp only[DOp.iaddr.injEq]at h4;obtain⟨rfl,rfl,rfl⟩:=h4;exact⟨t,X,I,e,rfl,h1,hn,h2,h3⟩
  ·rw[Qh]at h;obtain⟨n,hn,h4⟩:=h;cases h4
  ·cases h
 ·exact absurd h trCall_ni
def tr_store{P:Program}{op:Op}{x v:Arg}(h:(tr P op).getD .stop= .store 1 x v):∃t X V,op= .store t X V∧CF P t=some 1∧AC X=some x∧AC V=some v:=by
 replace h:=getD_stop (by simp) h;unfold tr at h;split at h
 all_goals try (simp only[Qh,reduceCtorEq,and_false,exists_false]at h;done)
 all_goals try ((repeat' split at h)<;>simp only[Qh,reduceCtorEq,and_false,exists_false,Qb]at h<;>done)
 ·rename_i t X V;split at h
  ·rename_i n x' v' h1 h2 h3;simp only[Qb,DOp.store.injEq]at h;obtain⟨h4,rfl,rfl⟩:=h;exact⟨t,X,V,rfl,by rw[h1];exact congrArg some h4,h2,h3⟩
  ·cases h
 ·split at h
  ·exact absurd h trEq_ns
  ·cases h
 ·split at h
  ·exact absurd h trEq_ns
  ·cases h
 ·exact absurd h trCall_ns
def lastR:List DOper:=[⟨some 37,.mv (.t 3),[],none⟩,⟨some 38,.mv (.t 3),[],none⟩,⟨some 39,.len false (.t 38),[],none⟩,⟨some 40,.bin .sub (.t 39) (.c (.int .i64 1)),[],none⟩,⟨some 41,.iaddr 1 (.t 37) (.t 40),[],none⟩,⟨none,.store 1 (.t 41) (.c (.int .u8 1)),[],none⟩]
def FO{d:DOper}{dst:Option Nat}{op:DOp}{gd:Option (Nat×Bool)}(h:d.strip=⟨dst,op,[],gd⟩):d.dst=dst∧d.op=op∧d.guard=gd:=by
 unfold DOper.strip at h;simp only[DOper.mk.injEq]at h;exact⟨h.1,h.2.1,h.2.2.2⟩
section
variable{P:Program}{B:Nat}{w0:World}{N:Nat}{S:Summs}
def last_wp(hS:Summs.ok P S){id:Nat}{ops:Array Oper}{dops:List DOper}(hops:CN P N ops.toList=some dops)(hd:dops.map DOper.strip=lastR){st:St}{a:Act}{w:World}{g g0:Gh}(hx:Holds P B w0 N [] st a w g)
  (hg1:∀i,g0.dl i=none) (hg2:∀i,g0.tb i=none) (hg3:g0.G0=g0.G) (hg4:∀b,B<=b->g0.G b=0) (hG0:g.G0=g0.G0) (harg:Rep w0 g0 (st.s 0) (a.tmps.getD 0 undef))
  {t:Id} {bs:List UInt8} (hne:bs≠[]) (hlen:bs.length<=1000000000) (ht:t≠[]) (h3:st.s 3= .slice false t (Au bs)) {n4:Int} (h4:st.s 4= .int .i64 n4) {e:Nat} (htok:st.m t 0=some (.tok (e+1))):
  (Code.region id ops false).wp P (λe a' w'=>e= .normal∧a'.tmps[0]?=a.tmps[0]?∧∃st' g',Holds P B w0 N [] st' a' w' g'∧g'.G0=g0.G0∧st'.s 0=st.s 0∧st'.s 4=st.s 4∧st'.s 3= .slice false [] (Au (bs.set (bs.length-1) 1))) a w:=by
 have h6:dops.length=6:=by have:=congrArg List.length hd;simpa[lastR]using this
 match dops,h6,hd,hops with
 |[d0,d1,d2,d3,d4,d5],_,hd,hops=>
  simp only[lastR,Q3,QI,Qj,and_true]at hd;obtain⟨q0,q1,q2,q3,q4,q5⟩:=hd;obtain⟨x0,y0,z0⟩:=FO q0;obtain⟨x1,y1,z1⟩:=FO q1;obtain⟨x2,y2,z2⟩:=FO q2;obtain⟨x3,y3,z3⟩:=FO q3;obtain⟨x4,y4,z4⟩:=FO q4;obtain⟨x5,y5,z5⟩:=FO q5;clear q0 q1 q2 q3 q4 q5;obtain⟨hl,hall⟩:=Ck hops;have hsz:ops.size=6:=by simpa using hl.symm
  have hop:∀k,k<6->∃o,ops[k]?=some o:=λk hk=>⟨ops[k],Array.getElem?_eq_getElem (by omega)⟩
  have hdst:∀(k:Nat) o,ops[k]?=some o->o.dst≠some 0:=by
   intro k o ho;obtain⟨d,e1,e2⟩:=hall k o (by simpa using ho);have e3:=(Cg e2).2.1;rw[←e3]
   match k,e1 with
   |0,e1=>simp only[Ql,Qb]at e1;subst e1;rw[x0];decide
   |1,e1=>simp only[Qa,Ql,Qb]at e1;subst e1;rw[x1];decide
   |2,e1=>simp only[Qa,Ql,Qb]at e1;subst e1;rw[x2];decide
   |3,e1=>simp only[Qa,Ql,Qb]at e1;subst e1;rw[x3];decide
   |4,e1=>simp only[Qa,Ql,Qb]at e1;subst e1;rw[x4];decide
   |5,e1=>simp only[Qa,Ql,Qb]at e1;subst e1;rw[x5];decide
   |k+6,e1=>simp at e1
  have hsub:A_ .sub (.int .i64 (bs.length:Int)) (.int .i64 1)=some (.int .i64 ((bs.length:Int)-1)):=by
   rw[v_sub,IntWalk.i64_in _ ⟨by omega,by omega⟩]
  have he:CD S [] st.c [d0,d1,d2,d3,d4,d5] [0,1,2,3] st.s st.m=some (BS (BS (BS (BS st.s (some 37) (.slice false t (Au bs))) (some 38) (.slice false t (Au bs))) (some 39) (.int .i64 (bs.length:Int))) (some 40) (.int .i64 ((bs.length:Int)-1)),st.m):=by
   have hbl:(Au bs).length=bs.length:=by simp[Au]
   simp[CD,BG,Bo,x0,x1,x2,x3,y0,y1,y2,y3,z0,z1,z2,z3,AB,Arg.ev,BS,h3,Upd.app,hbl,hsub,lenD]
  refine wp_region ?_;rw[hsz];show wpOps P ops _ ([0,1,2,3]++[4,5]) a w;refine ops_app _ a w ?_;have hpre:wpOps P ops (λe' a' w'=>e'= .normal∧∃g',InX P B w0 N [] st.c ([0,1,2,3].foldl ins (λ_=>false)) (BS (BS (BS (BS st.s (some 37) (.slice false t (Au bs))) (some 38) (.slice false t (Au bs))) (some 39) (.int .i64 (bs.length:Int))) (some 40) (.int .i64 ((bs.length:Int)-1))) st.m a' w' g'∧Ext w g w' g') [0,1,2,3] a w:=
   D9 hS hops [0,1,2,3] (λ_=>false) st.s st.m a w g _ _ (by simp[Fits,ins]) he (hx.start _) (λa' w' g' h1 h2 h3=>⟨rfl,g',h1,h2⟩)
  refine ops_mono ?_ _ a w (ops_keep (x:=a.tmps[0]?) hdst _ a w rfl hpre);rintro e1 a1 w1 ⟨⟨rfl,g1,hx1,hxt⟩,hfr⟩;refine⟨λ_=>?_,λh=>absurd rfl h⟩;replace hfr:=hfr rfl;obtain⟨o4,ho4⟩:=hop 4 (by omega);obtain⟨o5,ho5⟩:=hop 5 (by omega);obtain⟨e4,f4,g4⟩:=hall 4 o4 (by simpa using ho4);obtain⟨e5,f5,g5⟩:=hall 5 o5 (by simpa using ho5);simp only[Qa,Ql,Qb]at f4 f5;subst f4 f5;obtain⟨p4,r4,_,u4,_⟩:=Cg g4;obtain⟨p5,r5,_,u5,_⟩:=Cg g5;rw[y4]at p4;rw[y5]at p5;rw[x4]at r4;rw[x5]at r5;rw[z4]at u4;rw[z5]at u5;obtain⟨T4,X4,I4,E4,hop4,hu4,hs4,hX4,hI4⟩:=tr_iaddr p4;obtain⟨T5,X5,V5,hop5,hs5,hX5,hV5⟩:=tr_store p5;have v37:=hx1.slots.arg hX4;have v40:=hx1.slots.arg hI4;replace v37:Rep w1 g1 (.slice false t (Au bs)) (a1.eval X4):=by simpa[Arg.ev,BS]using v37
  replace v40:Rep w1 g1 (.int .i64 ((bs.length:Int)-1)) (a1.eval I4):=by simpa[Arg.ev,BS]using v40
  have v3:Rep w1 g1 (.slice false t (Au bs)) (a1.tmps.getD 3 undef):=by have:=hx1.slots 3;simpa[BS,h3]using this
  have v4:Rep w1 g1 (.int .i64 n4) (a1.tmps.getD 4 undef):=by have:=hx1.slots 4;simpa[BS,h4]using this
  have hpos:0<bs.length:=Zk.2 hne;have hone:∀{sz:Nat},(∀d∈Au bs,d.cells.length=sz)->sz=1:=λh=>by
   cases bs with
   |nil=>exact absurd rfl hne
   |cons z r=>exact(h _ (List.mem_cons_self ..)).symm
  rcases v37.slice_inv with ⟨h,_⟩|⟨_,ad,n,c,sz,vv,ev,i1,i2,i3,i4,i5,i6,i7,i8,i9⟩
  ·cases h
  obtain⟨j1,j2,j3⟩:=i8 ht;obtain rfl:=hone i3;obtain⟨b,off,spot⟩:=ad;simp only at j1 j2 j3;subst j1 j2;rcases v3.slice_inv with ⟨h,_⟩|⟨_,ad',n',c',sz',vv',ev',k1,k2,k3,k4,k5,k6,k7,k8,k9⟩
  ·cases h
  obtain⟨l1,l2,l3⟩:=k8 ht;obtain⟨b',off',spot'⟩:=ad';simp only at l1 l2 l3;subst l1 l2;rw[j3]at l3;simp only[Qb,Qz]at l3;obtain⟨rfl,rfl,rfl,_⟩:=l3;have hbn:n=bs.length:=by rw[i1];simp[Au]
  rw[ev]at v37;have hG1:g1.G0=g0.G0:=by rw[hxt.G0,hG0]
  obtain⟨cur,hh,hcs,hset⟩:=set_last (y:=1) hx1.inv hg1 hg2 hg3 hg4 hG1 hne htok v37 ht j3 hbn;have hw4:Region.wanted o4 (yielded ops a1.tmps)=true:=Eu hops hx1.slots (by rw[z4,←u4]) (by unfold Bo;rw[z4]);have run4:(execOp a1.eval o4).run P w1= .ok (.value (.pointer (some ⟨b,bs.length-1,none⟩))) w1:=by
   have hin:(0:Int)<=(bs.length:Int)-1∧(bs.length:Int)-1<(n:Int):=by omega
   have hadd:(Addr.mk b 0 none).add (((bs.length:Int)-1).toNat*1)=⟨b,bs.length-1,none⟩:=by
    rw[DU];congr 1;omega
   rw[←hadd];simp[execOp,hop4,Instr.indexAt,asIntOf,v40.int_inv,ev,run_underlying hu4,hin,run_sizeOf' hs4];intro h;omega
  simp only[wpOps];rw[ho4];simp only;rw[if_pos hw4];left;unfold Oper.wp;rw[run4,Oper.upon_value,←r4];have hN41:41<a1.tmps.size:=by
   have:=(Cg g4).2.2.2.2 41 r4.symm;rw[hx1.size];exact this
  have hs2:Dq w1 g1 _ (a1.put (some 41) (.pointer (some ⟨b,bs.length-1,none⟩))):=hx1.slots.put (dst:=some 41) (d:= .junk) (.junk _) (λt ht=>by cases ht;exact hN41);generalize ha2:a1.put (some 41) (.pointer (some ⟨b,bs.length-1,none⟩))=a2 at hs2 ⊢;have hat:∀k,k≠41->a2.tmps[k]?=a1.tmps[k]?:=λk hk=>by
   rw[←ha2];exact EO (λe=>hk (Q5 e).symm)
  have hX5':a2.eval X5= .pointer (some ⟨b,bs.length-1,none⟩):=by
   cases X5 with
   |tmp k=>
    simp only[AC,Qb,Arg.t.injEq]at hX5;subst hX5;rw[←ha2];simp only[Act.eval,Act.put];rw[QF,Zi,if_pos rfl,if_pos hN41];rfl
   |const v=>simp[AC]at hX5
   |func f=>simp[AC]at hX5
   |global k=>simp[AC]at hX5
  have hV5':a2.eval V5= .int .u8 1:=(hs2.arg hV5).int_inv;have hw5:Region.wanted o5 (yielded ops a2.tmps)=true:=Eu hops hs2 (by rw[z5,←u5]) (by unfold Bo;rw[z5]);have hfin:=hset _ rfl;have run5:(execOp a2.eval o5).run P w1= .ok .skip (w1.setRow b (cur.toList.take (n-1)++[Value.int .u8 ((1:UInt8).toNat:Int)]++cur.toList.drop (n-1+1)).toArray):=by
   have:=run_storeVar' (P:=P) (w:=w1) (o:=n-1) hs5 hh (v:= .int .u8 1) rfl (by simp[Value.cells,Value.oneCell']) (by omega);rw[hbn]at this ⊢;simp only[execOp,hop5,Instr.storeAt,hX5',hV5',Instr.sureAddr,Sem.run_bind,Result.andThen_ok,Sem.run_pure,this];rfl
  rw[ho5];simp only;rw[if_pos hw5];left;rw[run5,Oper.upon_skip,←r5];generalize hW:w1.setRow b (cur.toList.take (n-1)++[Value.int .u8 ((1:UInt8).toNat:Int)]++cur.toList.drop (n-1+1)).toArray=w2 at hfin ⊢;obtain⟨F1,F2,F3⟩:=hfin;show _∧_;have h0':a2.tmps[0]?=a.tmps[0]?:=by rw[hat 0 (by decide),hfr]
  have hgd:∀k,k≠41->a2.tmps.getD k undef=a1.tmps.getD k undef:=λk hk=>by rw[QF,QF,hat k hk]
  refine⟨by first|trivial|rfl,h0',⟨λk=>if k=0 then st.s 0 else if k=4 then .int .i64 n4 else if k=3 then .slice false [] (Au (bs.set (bs.length-1) 1))else .junk,λ_ _=>none,0⟩,g1.bare B b n,⟨F1,λk=>?_,?_,?_,λk i _ _=>⟨λ_=>rfl,rfl,rfl⟩⟩,hG1,rfl,h4.symm,rfl⟩
  ·show Rep w2 _ (if k=0 then _ else if k=4 then _ else if k=3 then _ else _) (a2.tmps.getD k undef);split
   ·rename_i e;subst e;rw[QF,h0',←QF];exact harg.ext F2
   ·split
    ·rename_i e;subst e;rw[hgd 4 (by decide),v4.int_inv];exact .int _ _
    ·split
     ·rename_i e;subst e;rw[hgd 3 (by decide),ev'];exact F3
     ·exact .junk _
  ·have:a2.tmps.size=a1.tmps.size:=by rw[←ha2];simp[Act.put]
   rw[show(a2.put none undef).tmps.size=a2.tmps.size from rfl,this];exact hx1.size
  ·have:a2.defers=a1.defers:=by rw[←ha2];rfl
   rw[show(a2.put none undef).defers=a2.defers from rfl,this];exact hx1.defers
end
def BO(m:Mem)(e:Nat)(nl:Bool)(t:Id)(emp:Bool):Bool:=
 if nl=true then emp else match m t 0 with
  |some (.tok k)=>k==e+1&&!t.isEmpty
  |_=>false
def growT_grow{m:Mem}{e:Nat}{nl:Bool}{t:Id}{emp:Bool}{xs:List D}(h:BO m e nl t emp=true):Grow m e (.slice nl t xs):=by
 unfold BO at h;split at h
 ·rename_i h0;exact .inl h0
 ·split at h
  ·rename_i k hm;simp only[QS,beq_iff_eq]at h;rw[h.1]at hm;exact .inr ⟨hm,by intro e;rw[e]at h;simp at h⟩
  ·cases h
def Ee{m m':Mem}{e:Nat}{nl:Bool}{t:Id}{emp:Bool}(h:m t 0=m' t 0):BO m e nl t emp=BO m' e nl t emp:=by
 unfold BO;rw[h]
def growT_grow'{m m':Mem}{e:Nat}{nl:Bool}{t:Id}{emp:Bool}{xs:List D}(h:BO m e nl t emp=true)(hm:nl=false->m t 0=some (.tok (e+1))->m' t 0=m t 0):Grow m' e (.slice nl t xs):=by
 rcases growT_grow (xs:=xs) h with h0|⟨h1,h2⟩
 ·exact .inl h0
 ·cases nl with
  |true=>exact .inl rfl
  |false=>exact .inr ⟨by rw[hm rfl h1];exact h1,h2⟩
def EI{m:Mem}{e:Nat}{nl:Bool}{t:Id}{emp:Bool}(h:BO m e nl t emp=true):nl=false->m t 0=some (.tok (e+1)):=by
 rintro rfl;rcases growT_grow (xs:=[]) h with h0|⟨h1,h2⟩
 ·cases h0
 ·exact h1
def C7{m:Mem}{e:Nat}{f t i:Id}{nl:Bool}{xs:List D}{o:Nat}:Upd.app m (Bi e f (.slice nl t xs)) i o=if i=f∧o=0 then some (.tok (e+1))else if nl=false∧i=t∧o=0 then some (.tok 0)else m i o:=by
 cases nl<;>simp[Bi,Upd.app,Bf]
def D6{n:Nat}(h:n<256):(UInt8.ofNat n).toNat=n:=by simp[UInt8.toNat_ofNat'];omega
def u8_wrap(n:Int):IntKind.u8.wrap n=(((n % 256).toNat:Nat):Int):=by
 have h1:IntKind.u8.wrap n=n % 256:=by simp[IntKind.wrap,IntKind.bits,IntKind.signed]
 rw[h1];omega
structure Gd (e:Nat) (fr:Id) (m0:Mem) (nl0:Bool) (t0:Id) (m:Mem) (c:Nat) (t:Id):Prop where
 name:∃l j,t=l++j::fr∧j<c
 tok:m t 0=some (.tok (e+1))
 out:∀i o,¬fr<:+i->m i o=(if nl0=true then m0 else m0.put t0 0 [.tok 0]) i o
def Gs(e:Nat)(fr:Id)(m0:Mem)(nl0:Bool)(t0:Id)(m:Mem)(c:Nat)(nl:Bool)(t:Id):Prop:=
 (nl=nl0∧t=t0∧∀i o,¬fr<:+i->m i o=m0 i o)∨(nl=false∧Gd e fr m0 nl0 t0 m c t)
def suf_mk(l:List Nat)(j:Nat)(fr:Id):fr<:+l++j::fr:=⟨l++[j],by simp⟩
def mk_ne{l l':List Nat}{j k:Nat}{fr:Id}(h:j≠k):l++j::fr≠l'++k::fr:=by
 intro e;have e':=congrArg List.reverse e;simp only[List.reverse_append,List.reverse_cons,Q0,List.append_cancel_left_eq]at e';simp only[List.cons_append,QH,Qj]at e';exact h e'.1
section
variable{e:Nat}{fr:Id}{m0 m:Mem}{nl0 nl:Bool}{t0 t:Id}{c c' k o:Nat}{l:List Nat}{xs ds:List D}{emp:Bool}
def Gs.start:Gs e fr m0 nl0 t0 m0 c nl0 t0:= .inl ⟨rfl,rfl,λ_ _ _=>rfl⟩
def Gd.gs(h:Gd e fr m0 nl0 t0 m c t):Gs e fr m0 nl0 t0 m c false t:= .inr ⟨rfl,h⟩
def Gd.more(h:Gd e fr m0 nl0 t0 m c t)(hc:c<=c'):Gd e fr m0 nl0 t0 m c' t:=⟨by obtain⟨l,j,b,b'⟩:=h.name;exact⟨l,j,b,by omega⟩,h.tok,h.out⟩
def Gs.more(h:Gs e fr m0 nl0 t0 m c nl t)(hc:c<=c'):Gs e fr m0 nl0 t0 m c' nl t:=h.imp id (λ⟨a,b⟩=>⟨a,b.more hc⟩)
def old_out(hfr:∀i o,fr<:+i->m0 i o=none)(h:m0 t0 0=some (.tok (e+1))):¬fr<:+t0:=λhs=>by rw[hfr _ _ hs]at h;cases h
def out_put(i:Id)(o':Nat)(hi:¬fr<:+i):m.put (l++k::fr) o ds i o'=m i o':=Mem.put_other (λe=>hi (e▸suf_mk l k fr))
def Gd.put(h:Gd e fr m0 nl0 t0 m c t)(hk:c<=k):Gd e fr m0 nl0 t0 (m.put (l++k::fr) o ds) c t:=by
 refine⟨h.name,?_,λi o' hi=>(out_put i o' hi).trans (h.out i o' hi)⟩;obtain⟨l',j,b,b'⟩:=h.name;rw[Mem.put_other]
 ·exact h.tok
 ·rw[b];exact mk_ne (by omega)
def Gs.put(h:Gs e fr m0 nl0 t0 m c nl t)(hk:c<=k):Gs e fr m0 nl0 t0 (m.put (l++k::fr) o ds) c nl t:=by
 rcases h with ⟨a,b,d⟩|⟨a,h⟩
 ·exact .inl ⟨a,b,λi o' hi=>(out_put i o' hi).trans (d i o' hi)⟩
 ·exact .inr ⟨a,h.put hk⟩
def Gs.grow(h:Gs e fr m0 nl0 t0 m c nl t)(hfr:∀i o,fr<:+i->m0 i o=none)(h0:BO m0 e nl0 t0 emp=true):Grow m e (.slice nl t xs):=by
 rcases h with ⟨rfl,rfl,d⟩|⟨a,h⟩
 ·exact growT_grow' h0 (λe1 e2=>d _ _ (old_out hfr e2))
 ·obtain⟨l',j,b,b'⟩:=h.name;exact .inr ⟨h.tok,by rw[b];simp⟩
def Gs.nil(h:Gs e fr m0 nl0 t0 m c nl t)(h0:BO m0 e nl0 t0 emp=true):nl=true->emp=true:=by
 rcases h with ⟨rfl,rfl,d⟩|⟨a,_⟩
 ·rintro rfl;unfold BO at h0;rw[if_pos rfl]at h0;exact h0
 ·rw[a];intro h;cases h
def Gs.app(h:Gs e fr m0 nl0 t0 m c nl t)(hk:c<=k)(hk':k<c'):Gd e fr m0 nl0 t0 (Upd.app m (Bi e (l++k::fr) (.slice nl t xs))) c' (l++k::fr):=by
 refine⟨⟨l,k,rfl,hk'⟩,by rw[C7,if_pos ⟨rfl,rfl⟩],λi o hi=>?_⟩;have hne:i≠l++k::fr:=λe=>hi (e▸suf_mk l k fr)
 rw[C7,if_neg (λx=>hne x.1)];rcases h with ⟨rfl,rfl,d⟩|⟨rfl,h⟩
 ·cases nl with
  |true=>rw[if_neg (λx=>by simp at x),d i o hi];rfl
  |false=>rw[d i o hi];simp[Bf]
 ·obtain⟨l',j,b,b'⟩:=h.name;have hni:i≠t:=λe=>hi (by rw[e,b];exact suf_mk l' j fr)
  rw[if_neg (λx=>hni x.2.1)];exact h.out i o hi
def Gd.fin(h:Gd e fr m0 nl0 t0 m c t)(hfr:∀i o,fr<:+i->m0 i o=none)(h0:BO m0 e nl0 t0 emp=true):∀i o x,Upd.app m0 (Bi e t (.slice nl0 t0 xs)) i o=some x->m i o=some x:=by
 intro i o x hx;rw[C7]at hx;by_cases h1:i=t∧o=0
 ·rw[if_pos h1]at hx;rw[h1.1,h1.2,h.tok];exact hx
 ·rw[if_neg h1]at hx;by_cases h2:nl0=false∧i=t0∧o=0
  ·obtain⟨rfl,rfl,rfl⟩:=h2;rw[if_pos ⟨rfl,rfl,rfl⟩]at hx;rw[h.out _ _ (old_out hfr (EI h0 rfl)),if_neg (by simp),Bf,if_pos ⟨rfl,rfl⟩];exact hx
  ·rw[if_neg h2]at hx;by_cases hi:fr<:+i
   ·rw[hfr i o hi]at hx;cases hx
   ·rw[h.out i o hi];cases nl0 with
    |true=>exact hx
    |false=>simp only[Zo,if_false,Bf];rw[if_neg (λx=>h2 ⟨rfl,x⟩)];exact hx
end
def Fi{P:Program}{S:Summs}{f:FuncId}{N:Nat}{dc:DC}{rs:List RV}(hS:Summs.ok P S)(hf:Fn P f N dc rs){q:Summ}(hloc:∀ds m m' fr,(∀l∈q.rd ds m,m l.1 l.2=m' l.1 l.2)->q.ex ds m fr=q.ex ds m' fr)
  (hq:∀ds m fr r u,q.ex ds m fr=some (r,u)->(∀i o,fr<:+i->m i o=none)->ds.length<=N∧dc.wp S fr (DY rs λd m'=>d=r∧∀i o x,Upd.app m u i o=some x->m' i o=some x) ⟨Br ds,m,0⟩):q.ok P f:=by
 obtain⟨fn,code,h1,h2,h3,h4,h5,h6⟩:=hf.is;refine⟨⟨fn,h1,by rw[h2];rfl,h3⟩,hloc,?_⟩;intro B w0 w m g fr ds vs r u hi hfresh hl hrep hex;have hfr:∀k i,(k::fr)<:+i->BR m g i:=λk i h=>hfresh i ((Ze k fr).trans h)
 obtain⟨hN,hwp⟩:=hq ds m fr r u hex (λi o h=>(hfresh i h).1 o);have hcalls:=F8 (ns:=fr) hS hf hN hi hfr hl hrep hwp;refine hcalls.mono ?_;rintro e w' ⟨v,d,m',g',rfl,hinv,hext,hkeep,hrd,rfl,hle⟩;refine⟨v,g',rfl,hinv.less hle,hext,hrd,λi hf hn=>?_⟩;obtain⟨k1,k2,k3⟩:=hkeep i hf hn;refine⟨λo=>?_,k2,k3⟩;cases hx:Upd.app m u i o with
 |none=>rfl
 |some x=>exact absurd (k1 o) (by rw[hle i o x hx];simp)
def gQ(e:Nat)(F:List D->Option (List D×List Nat)):Summ where
 rd:=λds _=>match ds with
  | .slice _ t _::_=>[(t,0)]
  |_=>[]
 ex:=λds m fr=>match ds with
  | .slice nl t xs::rest=>if BO m e nl t xs.isEmpty=true∧xs.length<=100000000 then(F rest).map λy=>(.slice false (y.2++fr) (xs++y.1),Bi e (y.2++fr) (.slice nl t xs))else none
  |_=>none
def gQ_loc{e:Nat}{F:List D->Option (List D×List Nat)}(ds:List D)(m m':Mem)(fr:Id)(h:∀l∈(gQ e F).rd ds m,m l.1 l.2=m' l.1 l.2):(gQ e F).ex ds m fr=(gQ e F).ex ds m' fr:=by
 simp only[gQ]at h ⊢;split
 ·rename_i nl t xs rest;rw[Ee (h (t,0) (by simp))]
 ·rfl
def gQ_inv{e:Nat}{F:List D->Option (List D×List Nat)}{ds:List D}{m:Mem}{fr:Id}{d:D}{u:Upd}(h:(gQ e F).ex ds m fr=some (d,u)):
  ∃nl t xs rest ys l,ds= .slice nl t xs::rest∧BO m e nl t xs.isEmpty=true∧xs.length<=100000000∧F rest=some (ys,l)∧d= .slice false (l++fr) (xs++ys)∧u=Bi e (l++fr) (.slice nl t xs):=by
 simp only[gQ]at h;split at h
 ·rename_i nl t xs rest;split at h
  ·rename_i hk;rw[Qh]at h;obtain⟨⟨ys,l⟩,hF,h⟩:=h;simp only[Qz]at h;exact⟨nl,t,xs,rest,ys,l,rfl,hk.1,hk.2,hF,h.1.symm,h.2.symm⟩
  ·cases h
 ·cases h
def got_g{e:Nat}{F:List D->Option (List D×List Nat)}{m:Mem}{fr:Id}{nl:Bool}{t:Id}{xs rest ys:List D}{l:List Nat}{K:D×Upd->Prop}{g}(h0:Grow m e (.slice nl t xs))(hn:nl=true->xs=[])(hl:xs.length<=100000000)(hF:F rest=some (ys,l))
  (h:K (.slice false (l++fr) (xs++ys),Bi e (l++fr) (.slice nl t xs))):Got ((gQ e F).ex (.slice nl t xs::rest) m fr) K g:=by
 refine Got.intro ?_ h;have hg:BO m e nl t xs.isEmpty=true:=by
  unfold BO;cases nl with
  |true=>rw[if_pos rfl,hn rfl];rfl
  |false=>
   rcases h0 with h0|⟨h1,h2⟩
   ·cases h0
   ·rw[if_neg (by simp),h1];cases t with
    |nil=>exact absurd rfl h2
    |cons a b=>simp
 simp only[gQ];rw[if_pos ⟨hg,hl⟩,hF];rfl
def beB:Nat->Int->List UInt8
 |0,_=>[]
 |k+1,n=>UInt8.ofNat ((n.fdiv (2 ^ (8*k))) % 256).toNat::beB k n
def GC:∀k n,(beB k n).length=k
 |0,_=>rfl
 |k+1,n=>by simp[beB,GC k n]
def Fl:D->Bool
 | .int .u8 _=>true
 |_=>false
def grownQ:Summ where
 rd:=λ_ _=>[]
 ex:=λds _ fr=>match ds with
  |[.slice _ _ xs,.int .i64 k]=>if 0<=k∧xs.all Fl=true∧(xs.length:Int)+k<=140737488355328 then some (.slice false (0::fr) xs,[(0::fr,0,[.tok 6])])else none
  |_=>none
def cQ(e:Nat)(wr:D->D)(F:List D->Option (List D×List Nat)):Summ where
 rd:=λ_ _=>[]
 ex:=λds _ fr=>match ds with
  | .slice _ _ xs::rest=>if xs.all Fl=true∧xs.length<=100000000 then(F rest).map λy=>(wr (.slice false (y.2++fr) (xs++y.1)),[(y.2++fr,0,[.tok (e+1)])])else none
  |_=>none
def cQ_inv{e:Nat}{wr:D->D}{F:List D->Option (List D×List Nat)}{ds:List D}{m:Mem}{fr:Id}{d:D}{u:Upd}(h:(cQ e wr F).ex ds m fr=some (d,u)):
  ∃nl t xs rest ys l,ds= .slice nl t xs::rest∧xs.all Fl=true∧xs.length<=100000000∧F rest=some (ys,l)∧d=wr (.slice false (l++fr) (xs++ys))∧u=[(l++fr,0,[.tok (e+1)])]:=by
 simp only[cQ]at h;split at h
 ·rename_i nl t xs rest;split at h
  ·rename_i hk;rw[Qh]at h;obtain⟨⟨ys,l⟩,hF,h⟩:=h;simp only[Qz]at h;exact⟨nl,t,xs,rest,ys,l,rfl,hk.1,hk.2,hF,h.1.symm,h.2.symm⟩
  ·cases h
 ·cases h
def got_c{e:Nat}{wr:D->D}{F:List D->Option (List D×List Nat)}{m:Mem}{fr:Id}{nl:Bool}{t:Id}{xs rest ys:List D}{l:List Nat}{K:D×Upd->Prop}{g}(ha:xs.all Fl=true)(hl:xs.length<=100000000)(hF:F rest=some (ys,l))
  (h:K (wr (.slice false (l++fr) (xs++ys)),[(l++fr,0,[.tok (e+1)])])):Got ((cQ e wr F).ex (.slice nl t xs::rest) m fr) K g:=by
 refine Got.intro ?_ h;simp only[cQ];rw[if_pos ⟨ha,hl⟩,hF];rfl
def bytes_all(a:List UInt8):(Au a).all Fl=true:=by
 rw[Qx];intro x hx;obtain⟨c,_,rfl⟩:=QE.1 hx;rfl
def Gd.finc{e:Nat}{fr:Id}{m0 m:Mem}{t0 t:Id}{c:Nat}(h:Gd e fr m0 true t0 m c t)(hfr:∀i o,fr<:+i->m0 i o=none):∀i o x,Upd.app m0 [(t,0,[.tok (e+1)])] i o=some x->m i o=some x:=
 h.fin (emp:=true) (xs:=[]) hfr (by unfold BO;rfl)
def grown_ex{m:Mem}{fr:Id}{nl:Bool}{t:Id}{xs:List D}{k:Int}(hk:0<=k)(ha:xs.all Fl=true)(hl:(xs.length:Int)+k<=140737488355328):grownQ.ex [.slice nl t xs,.int .i64 k] m fr=some (.slice false (0::fr) xs,[(0::fr,0,[.tok 6])]):=by
 simp only[grownQ];exact if_pos ⟨hk,ha,hl⟩
def u64_small{n:Int}(h:0<=n)(h':n<18446744073709551616):IntKind.u64.wrap n=n:=by
 have:IntKind.u64.wrap n=n % 18446744073709551616:=by simp[IntKind.wrap,IntKind.bits,IntKind.signed]
 rw[this];omega
def rowW(d:D):D:= .tup [d,.int .i64 0]
def byte_step{n:Int}(h:0<=n)(h':n<18446744073709551616)(j:Nat):IntKind.u64.wrap ((n.fdiv (2 ^ (8*j))).tdiv 256)=n.fdiv (2 ^ (8*(j+1))):=by
 have p:(0:Int)<=2 ^ (8*j):=ZC (ZD (by decide));have p':(0:Int)<=2 ^ (8*(j+1)):=ZC (ZD (by decide));rw[QV _ p,QV _ p'];have e:(2:Int) ^ (8*(j+1))=2 ^ (8*j)*256:=by rw[show 8*(j+1)=8*j+8 by omega,Int.pow_add];rfl
 have q:0<=n / 2 ^ (8*j):=Zv h p;have q':n / 2 ^ (8*j)<=n:=Int.ediv_le_self _ h;rw[Int.tdiv_eq_ediv_of_nonneg q,e,←Int.ediv_ediv_of_nonneg p];exact u64_small (Zv q (by decide)) (by omega)
def byte_last{n:Int}(h:0<=n)(j:Nat):((n.fdiv (2 ^ (8*j))).tmod 256) % 256=n.fdiv (2 ^ (8*j)) % 256:=by
 have p:(0:Int)<=2 ^ (8*j):=ZC (ZD (by decide));rw[QV _ p];have q:0<=n / 2 ^ (8*j):=Zv h p;rw[Int.tmod_eq_emod_of_nonneg q];omega
def roundW:Nat->Nat
 |0=>0
 |k+1=>18+9*k+roundW k
def mQ(n:Nat)(F:List D->List D->Option (D×List D)):Summ where
 rd:=λds _=>match ds with
  | .ptr i 0::_=>Ai i 0 n
  |_=>[]
 ex:=λds m _=>match ds with
  | .ptr i 0::rest=>match Ag m i 0 n with
   |some cs=>(F cs rest).map λy=>(y.1,[(i,0,y.2)])
   |none=>none
  |_=>none
def mQ_loc{n:Nat}{F:List D->List D->Option (D×List D)}(ds:List D)(m m':Mem)(fr:Id)(h:∀l∈(mQ n F).rd ds m,m l.1 l.2=m' l.1 l.2):(mQ n F).ex ds m fr=(mQ n F).ex ds m' fr:=by
 simp only[mQ]at h ⊢;split
 ·rename_i i rest;rw[BC (m:=m) (m':=m') h]
 ·rfl
def mQ_run{n:Nat}{F:List D->List D->Option (D×List D)}{i:Id}{m:Mem}{rest:List D}{fr:Id}:(mQ n F).ex (.ptr i 0::rest) m fr=(Ag m i 0 n).bind λcs=>(F cs rest).map λy=>(y.1,[(i,0,y.2)]):=by
 simp only[mQ];cases Ag m i 0 n<;>rfl
def mQ_inv{n:Nat}{F:List D->List D->Option (D×List D)}{ds:List D}{m:Mem}{fr:Id}{r:D}{u:Upd}(h:(mQ n F).ex ds m fr=some (r,u)):
  ∃i rest cs cs',ds= .ptr i 0::rest∧Ag m i 0 n=some cs∧F cs rest=some (r,cs')∧u=[(i,0,cs')]:=by
 simp only[mQ]at h;split at h
 ·rename_i i rest;split at h
  ·rename_i cs hcs;rw[Qh]at h;obtain⟨y,hF,h⟩:=h;simp only[Qz]at h;obtain⟨rfl,rfl⟩:=h;exact⟨i,rest,cs,y.2,rfl,hcs,hF,rfl⟩
  ·cases h
 ·cases h
section
variable{m m':Mem}{i j:Id}{n o k:Nat}{cs ys:List D}{d:D}{fr:Id}
def Bw(h:Ag m i 0 n=some cs)(hd:cs[k]?=some d):m i k=some d:=by
 obtain⟨h1,h2⟩:=BM h;have hk:k<n:=by rw[←h1];exact(Qs.1 hd).1
 have:=h2 k hk;rw[Qm]at this;rw[this,hd]
def rd_aux:∀{ds:List D} {m:Mem} {p:Nat},(∀k d,ds[k]?=some d->m i (p+k)=some d)->Ag m i p ds.length=some ds
 |[],m,p,_=>rfl
 |x::r,m,p,h=>by
  have h0:=h 0 x rfl;rw[Zm]at h0;have h1:=rd_aux (ds:=r) (m:=m) (p:=p+1) (λk d hd=>by
   have:=h (k+1) d (by simpa using hd);rw[show p+(k+1)=p+1+k by omega]at this;exact this)
  simp only[Ag,QY,h0,h1,QW]
def rd_put(h:Ag m i 0 n=some cs)(hk:o+ys.length<=n):Ag (m.put i o ys) i 0 n=some (cs.take o++ys++cs.drop (o+ys.length)):=by
 obtain⟨h1,h2⟩:=BM h;have hl:(cs.take o++ys++cs.drop (o+ys.length)).length=n:=by simp only[Qy,QC,QT];omega
 have:=rd_aux (i:=i) (m:=m.put i o ys) (p:=0) (ds:=cs.take o++ys++cs.drop (o+ys.length)) (λq d hd=>by
  rw[Qm];simp only[Mem.put];have hto:(cs.take o).length=o:=by rw[QC];omega
  by_cases hq:q<o
  ·have hc:¬(True∧o<=q∧q<o+ys.length):=by omega
   first
    |rw[if_neg (by simp;omega)]
    |skip
   rw[Q0,QJ (by omega),List.getElem?_take,if_pos hq]at hd;exact Bw h hd
  ·by_cases hq2:q<o+ys.length
   ·rw[if_pos (by simp;omega)];rw[Q0,QG (by omega),hto,QJ (by omega)]at hd;exact hd
   ·rw[if_neg (by simp;omega)];rw[Q0,QG (by omega),hto,QG (by omega),List.getElem?_drop]at hd;rw[show o+ys.length+(q-o-ys.length)=q by omega]at hd;exact Bw h hd)
 rw[hl]at this;exact this
def Fb(n:Nat)(i:Id)(m m':Mem):Prop:=∀(j:Id)(o:Nat)(x:D),(j≠i∨n<=o)->m j o=some x->m' j o=some x
def Fb.refl:Fb n i m m:=λ_ _ _ _ h=>h
def Fb.own(h:Fb n i m m')(ho:o+ys.length<=n):Fb n i m (m'.put i o ys):=λj p x hj hx=>by
 have h1:=h j p x hj hx;simp only[Mem.put];split
 ·rename_i hc;exfalso;rcases hj with hj|hj
  ·exact hj (by first|exact hc.1|(simp at hc;exact hc.1))
  ·omega
 ·exact h1
def Fb.new(hfr:∀i o,fr<:+i->m i o=none)(l:List Nat)(h:Fb n i m m'):Fb n i m (m'.put (l++k::fr) o ys):=λj p x hj hx=>by
 have h1:=h j p x hj hx;have hne:j≠l++k::fr:=λe=>by
  rw[e,hfr _ _ ⟨l++[k],by simp⟩]at hx;cases hx
 rw[Mem.put_other hne];exact h1
def Fb.new0(hfr:∀i o,fr<:+i->m i o=none)(h:Fb n i m m'):Fb n i m (m'.put (k::fr) o ys):=Fb.new hfr [] h
end
theorem m_ok {P : Program} {S : Summs} {f : FuncId} {N : Nat} {dc : DC} {rs : List RV} (hS : Summs.ok P S) (hf : Fn P f N dc rs) {n : Nat} {F : List D → List D → Option (D × List D)} (hn : 0 < n) (hN : ∀ cs rest y, F cs rest = some y → rest.length + 1 ≤ N)
  (h : ∀ (i : Id) (m : Mem) (fr : Id) (cs rest : List D) (r : D) (cs' : List D), Ag m i 0 n = some cs → F cs rest = some (r, cs') → (∀ j o, fr <:+ j → m j o = none) → (∀ k l, (i = l ++ k :: fr) = False) → (∀ k, (i = k :: fr) = False) →
   dc.wp S fr (DY rs fun d m' => d = r ∧ Ag m' i 0 n = some cs' ∧ Fb n i m m') ⟨Br (.ptr i 0 :: rest), m, 0⟩) : (mQ n F).ok P f := by
 refine Fi hS hf mQ_loc (fun ds m fr r u hex hfr => ?_)
 obtain ⟨i, rest, cs, cs', rfl, hcs, hF, rfl⟩ := mQ_inv hex
 have hi0 : ∃ x, m i 0 = some x := by
  obtain ⟨h1, h2⟩ := BM hcs
  have := h2 0 hn
  rw [Qd (by omega)] at this
  exact ⟨_, this⟩
 obtain ⟨x0, hx0⟩ := hi0
 have hni : ∀ k l, (i = l ++ k :: fr) = False := fun k l => eq_false (fun e => by
  rw [e, hfr _ _ ⟨l ++ [k], by simp⟩] at hx0
  cases hx0)
 refine ⟨hN _ _ _ hF, ?_⟩
 have hw := h i m fr cs rest r cs' hcs hF hfr hni (fun k => hni k [])
 refine wp_mono' hw (fun e st' he => ?_)
 obtain ⟨he1, d, he2, rfl, hc', ho⟩ := he
 refine ⟨he1, d, he2, rfl, fun j o x hx => ?_⟩
 obtain ⟨h1, h2⟩ := BM hc'
 have hx' : (m.put i 0 cs') j o = some x := hx
 by_cases hj : j = i
 ·subst hj
  by_cases ho' : o < n
  ·have := h2 o ho'
   rw [Qm] at this
   rw [this]
   simp only [Mem.put] at hx'
   rw [if_pos (by simp; omega)] at hx'
   simpa using hx'
  ·have hx2 : m j o = some x := by
    simp only [Mem.put] at hx'
    rw [if_neg (by simp; omega)] at hx'
    exact hx'
   exact ho j o x (.inr (by omega)) hx2
 ·rw [Mem.put_other hj] at hx'
  exact ho j o x (.inl hj) hx'
section
variable{α:Type}{mk:α->List D}{ok:α->Prop}{res:α->D}
open Classical in
def FX(mk:α->List D)(ok:α->Prop)(res:α->D):List D->Option D:=λds=>if h:∃a,ok a∧mk a=ds then some (res (Classical.choose h))else none
def Bq(inj:∀a b,mk a=mk b->a=b){a:α}(ha:ok a):FX mk ok res (mk a)=some (res a):=by
 have h:∃b,ok b∧mk b=mk a:=⟨a,ha,rfl⟩;unfold FX;rw[dif_pos h,inj _ _ (Classical.choose_spec h).2]
def E5{ds:List D}{r:D}(h:FX mk ok res ds=some r):∃a,ok a∧mk a=ds∧res a=r:=by
 unfold FX at h;split at h
 ·rename_i hx;simp only[Qb]at h;exact⟨_,(Classical.choose_spec hx).1,(Classical.choose_spec hx).2,h⟩
 ·cases h
def Bx{P:Program}{S:Summs}{f:FuncId}{N:Nat}{dc:DC}{rs:List RV}(hS:Summs.ok P S)(hf:Fn P f N dc rs)(hN:∀a,(mk a).length<=N)
  (hF:∀a,ok a->dc.wp S [] (DY rs λd _=>d.unR=res a∧(res a).calmR=true) ⟨Br (mk a),λ_ _=>none,0⟩):(Ac (FX mk ok res)).ok P f:=by
 refine Az hS hf (λds r h=>?_) (λds r h=>?_)
 ·obtain⟨a,_,rfl,_⟩:=E5 h;exact hN a
 ·obtain⟨a,ha,rfl,rfl⟩:=E5 h;exact hF a ha
end
def mkJ(p:List (List UInt8)×List UInt8):List D:=[.slice false [] (p.1.map .str),.str p.2]
def mkJ_inj(x y:List (List UInt8)×List UInt8)(e:mkJ x=mkJ y):x=y:=by
 simp only[mkJ,Qj,D.slice.injEq,D.str.injEq,true_and,and_true]at e;exact Prod.ext ((List.map_inj_right (λa b h=>by simpa using h)).1 e.1) e.2
def flatS:∀l:List (List UInt8),flat (l.map D.str)=l.map D.str
 |[]=>rfl
 |x::r=>by
  have ih:=flatS r;simp only[Q3,flat,ih];rfl
def joinF:List D->Option D:=FX mkJ (λp=>p.1≠[]∧p.1.length<=1000∧CG p.1<=1000000∧p.2.length<=1000∧(Lib.join p.1 p.2).length<=10000000) (λp=> .str (Lib.join p.1 p.2))
def joinF_ok {P:Program} {ρ:Go.Shelf.Ren} (L:Go.Proofs.Lays.n156 P ρ) (X:Go.Proofs.Builder.Extra P ρ) (ent:∃fn,P.funcs[ρ.f 156]?=some fn∧fn.body.isSome=true∧(fn.name== "runtime.NumGoroutine")=false):(Ac joinF).ok P (ρ.f 156):=by
 refine⟨ent,λds m m' fr _=>rfl,?_⟩;intro B w0 w m g fr ds vs r u hi hfresh hl hrep hex;simp only[Ac]at hex;split at hex
 ·rename_i hcalm;rw[Qh]at hex;obtain⟨r',hr,hex⟩:=hex;simp only[Qz]at hex;obtain⟨rfl,rfl⟩:=hex;obtain⟨⟨l,s⟩,⟨h1,h2,h3,h4,h5⟩,hmk,rfl⟩:=E5 hr;simp only at h1 h2 h3 h4 h5;have hrep0:∀(j:Nat) d v,(mkJ (l,s))[j]?=some d->vs[j]?=some v->Rep w g d v:=by
   intro j d v hd hv;rw[hmk,QN,Qh]at hd;obtain⟨d',hd',rfl⟩:=hd;exact(hrep j d' v hd' hv).un
  have hlen:ds.length=2:=by
   have:=congrArg List.length hmk;simpa[mkJ]using this.symm
  match vs,hl.trans hlen with
  |[v,v1],_=>
   have r0:=hrep0 0 _ v rfl rfl;have r1:=hrep0 1 _ v1 rfl rfl;rw[r1.str_inv];obtain⟨ad,n,c,sz,ws,rfl,hn,hnc,hsz,hwl,hrp,hcl,_⟩:=r0.slice_list;have hn':n=l.length:=by simpa using hn
   subst hn';have hsz1:sz=1:=by
    cases l with
    |nil=>exact absurd rfl h1
    |cons x r=>exact(hsz (.str x) (by simp)).symm
   subst hsz1;have hflat:=flatS l;rw[hflat]at hrp;have hcell:∀(j:Nat) z,l[j]?=some z->w.cell? (ad.add j)=some (.string ⟨z.toArray⟩):=by
    intro j z hz;have hj:j<l.length:=(Qs.1 hz).1;have hjw:j<ws.length:=by rw[hwl];omega
    have hd:(l.map D.str)[j]?=some (.str z):=by rw[QN,hz];rfl
    have:=hrp.2.2 j (.str z) ws[j] hd (Qd hjw);rw[hcl j ws[j] (Qd hjw),this.str_inv]
   obtain⟨b,off,spot⟩:=ad;have hpos:0<l.length:=Zk.2 h1;have hc0:=hcell 0 _ (Qd hpos);have hspot:spot=none:=by simpa[Addr.add]using World.cell?_spot hc0
   subst hspot;have hblt:b<w.heap.size:=by simpa[Addr.add]using World.block_lt_of_cell? _ _ hc0
   have hmap:(l.map λx=>(⟨x.toArray⟩:ByteArray)).map (·.data.toList)=l:=by simp[Q_,Function.comp_def]
   have hj:(⟨s.toArray⟩:ByteArray).data.toList=s:=rfl;have:=Go.Proofs.Any.strings_Join L X b off c (l.map λx=>(⟨x.toArray⟩:ByteArray)) ⟨s.toArray⟩ w (λj x hx=>by
    rw[QN,Qh]at hx;obtain⟨z,hz,rfl⟩:=hx;have:=hcell j z hz;rw[DU]at this;exact this) hblt (by simp;omega) (by simp;omega) (by rw[hmap,hj];omega)
   rw[hmap,hj,QA]at this;refine this.mono ?_;rintro ev w' ⟨rfl,hb⟩;exact⟨_,g.over w w',rfl,hi.over hb,Ext.over hi.gz hb,.str _,λi hf _=>hf⟩
 ·cases hex
section
variable{α:Type}{mk:α->List D×List D}{ok:α->Prop}{res:α->D×List D}
end
section
variable{α:Type}{mk:α->List D×List D}{ok:α->Prop}{res:α->D×Id×(Id->List D)}
end
def lp_det{R:St->Ex->St->Prop}(hR:∀st e1 s1 e2 s2,R st e1 s1->R st e2 s2->e1=e2∧s1=s2):∀{n1 st e1 s1},Lp R n1 st e1 s1->∀{n2 e2 s2},Lp R n2 st e2 s2->e1=e2∧s1=s2:=by
 intro n1 st e1 s1 h1;induction h1 with
 |stop st e st' h hne=>
  intro n2 e2 s2 h2;cases h2 with
  |stop _ _ _ h' _=>exact hR _ _ _ _ _ h h'
  |more n _ st1 _ _ h' _=>exact absurd (hR _ _ _ _ _ h h').1 hne
 |more n st st1 e st' h hl ih=>
  intro n2 e2 s2 h2;cases h2 with
  |stop _ _ _ h' hne=>exact absurd (hR _ _ _ _ _ h h').1.symm hne
  |more n' _ st2 _ _ h' hl'=>
   have:=(hR _ _ _ _ _ h h').2;subst this;exact ih hl'
def ev_det{S:Summs}{ns:Id}:∀{dc:DC} {st:St} {e1:Ex} {s1:St} {e2:Ex} {s2:St},Ev S ns dc st e1 s1->Ev S ns dc st e2 s2->e1=e2∧s1=s2:=by
 intro dc;induction dc with
 |skip=>rintro st e1 s1 e2 s2 ⟨rfl,rfl⟩ ⟨rfl,rfl⟩;exact⟨rfl,rfl⟩
 |ret=>rintro st e1 s1 e2 s2 ⟨rfl,rfl⟩ ⟨rfl,rfl⟩;exact⟨rfl,rfl⟩
 |exit i=>rintro st e1 s1 e2 s2 ⟨rfl,rfl⟩ ⟨rfl,rfl⟩;exact⟨rfl,rfl⟩
 |row ops=>
  rintro st e1 ⟨a1,b1,c1⟩ e2 ⟨a2,b2,c2⟩ ⟨rfl,h1,h1'⟩ ⟨rfl,h2,h2'⟩;rw[h1]at h2;simp only[Qb,Qz]at h2;simp only at h1' h2';exact⟨rfl,by rw[h2.1,h2.2,h1',h2']⟩
 |drawn ops ps=>
  rintro st e1 ⟨a1,b1,c1⟩ e2 ⟨a2,b2,c2⟩ ⟨rfl,⟨f1,h1,_⟩,h1'⟩ ⟨rfl,⟨f2,h2,_⟩,h2'⟩;rw[h1]at h2;simp only[Qb,Qz]at h2;simp only at h1' h2';exact⟨rfl,by rw[h2.1,h2.2.1,h1',h2']⟩
 |seq a b iha ihb=>
  rintro st e1 s1 e2 s2 ⟨x1,y1,h1,k1⟩ ⟨x2,y2,h2,k2⟩;obtain⟨rfl,rfl⟩:=iha h1 h2;rcases k1 with ⟨n1,k1⟩|⟨n1,rfl,rfl⟩<;>rcases k2 with ⟨n2,k2⟩|⟨n2,rfl,rfl⟩
  ·exact ihb k1 k2
  ·exact absurd n1 n2
  ·exact absurd n2 n1
  ·exact⟨rfl,rfl⟩
 |cond c a b iha ihb=>
  rintro st e1 s1 e2 s2 h1 h2;rcases h1 with ⟨t1,h1⟩|⟨t1,h1⟩<;>rcases h2 with ⟨t2,h2⟩|⟨t2,h2⟩
  ·exact iha h1 h2
  ·rw[t1]at t2;simp at t2
  ·rw[t1]at t2;simp at t2
  ·exact ihb h1 h2
 |block i c ih=>
  rintro st e1 s1 e2 s2 ⟨x1,h1,k1⟩ ⟨x2,h2,k2⟩;obtain⟨rfl,rfl⟩:=ih h1 h2;rcases k1 with ⟨n1,rfl⟩|⟨n1,rfl⟩<;>rcases k2 with ⟨n2,rfl⟩|⟨n2,rfl⟩
  ·exact⟨rfl,rfl⟩
  ·exact absurd n1 n2
  ·exact absurd n2 n1
  ·exact⟨rfl,rfl⟩
 |loop c ih=>
  rintro st e1 s1 e2 s2 ⟨n1,h1⟩ ⟨n2,h2⟩;exact lp_det (R:=Ev S ns c) (λst e1 s1 e2 s2 h h'=>@ih st e1 s1 e2 s2 h h') h1 h2
def ends_det{S:Summs}{ns:Id}{dc:DC}{rs:List RV}{R1 R2:D->Mem->Prop}{st:St}(h1:dc.wp S ns (DY rs R1) st)(h2:dc.wp S ns (DY rs R2) st):∃d m,R1 d m∧R2 d m:=by
 obtain⟨e1,s1,v1,_,d1,q1,r1⟩:=h1;obtain⟨e2,s2,v2,_,d2,q2,r2⟩:=h2;obtain⟨rfl,rfl⟩:=ev_det v1 v2;rw[q1]at q2;simp only[Qb]at q2;subst q2;exact⟨_,_,r1,r2⟩
def runs1(S:Summs)(dc:DC)(rs:List RV)(N:Nat)(ds:List D)(r:D):Prop:=ds.length<=N∧dc.wp S [] (DY rs λd _=>d.unR=r∧r.calmR=true) ⟨Br ds,λ_ _=>none,0⟩
open Classical in
def RF(S:Summs)(dc:DC)(rs:List RV)(N:Nat):List D->Option D:=λds=>if h:∃r,runs1 S dc rs N ds r then some (Classical.choose h)else none
def rf_get{S:Summs}{dc:DC}{rs:List RV}{N:Nat}{ds:List D}{r:D}(h:RF S dc rs N ds=some r):runs1 S dc rs N ds r:=by
 unfold RF at h;split at h
 ·rename_i hx;simp only[Qb]at h;subst h;exact Classical.choose_spec hx
 ·cases h
def AG{S:Summs}{dc:DC}{rs:List RV}{N:Nat}{ds:List D}{r:D}(hN:ds.length<=N)(h:dc.wp S [] (DY rs λd _=>d.unR=r∧r.calmR=true) ⟨Br ds,λ_ _=>none,0⟩):RF S dc rs N ds=some r:=by
 have hx:∃r,runs1 S dc rs N ds r:=⟨r,hN,h⟩;unfold RF;rw[dif_pos hx];obtain⟨d,_,h1,h2⟩:=ends_det (Classical.choose_spec hx).2 h;rw[←h1.1,h2.1]
def AH{P:Program}{S:Summs}{f:FuncId}{N:Nat}{dc:DC}{rs:List RV}(hf:Fn P f N dc rs)(hS:Summs.ok P S):(Ac (RF S dc rs N)).ok P f:=
 Az hS hf (λds r h=>(rf_get h).1) (λds r h=>(rf_get h).2)
def rdC_same'{m:Mem}{i:Id}{ds:List D}{n:Nat}(h:ds.length=n):Ag (m.put i 0 ds) i 0 n=some ds:=by
 subst h;exact rd_aux (λk d hd=>by rw[Mem.put_same (Qs.1 hd).1,hd])
theorem Bm {S : Summs} {ns : Id} {b : DC} {Q : Ex → St → Prop} {n : Nat} {I : Nat → St → Prop} (hs : ∀ j, j < n → (∀ st g, I (j + 1) st → A4 S ns b Q st g) → ∀ st g, I j st → A4 S ns b Q st g) (he : ∀ st g, I n st → A4 S ns b Q st g) : ∀ j, j ≤ n → ∀ st g, I j st → A4 S ns b Q st g := by
  have key : ∀ f j, n = j + f → ∀ st g, I j st → A4 S ns b Q st g := by
    intro f
    induction f with
    | zero => intro j hj st g hI; have : j = n := by omega
              subst this; exact he st g hI
    | succ f ih => intro j hj st g hI; exact hs j (by omega) (fun st g h => ih (j + 1) (by omega) st g h) st g hI
  exact fun j hj => key (n - j) j (by omega)
def runsM(S:Summs)(dc:DC)(rs:List RV)(N n:Nat)(cs rest:List D)(y:D×List D):Prop:=cs.length=n∧rest.length+1<=N∧∀(i:Id)(m:Mem)(fr:Id),Ag m i 0 n=some cs->(∀j o,fr<:+j->m j o=none)->(∀k l,(i=l++k::fr)=False)->(∀k,(i=k::fr)=False)->
 dc.wp S fr (DY rs λd m'=>d=y.1∧Ag m' i 0 n=some y.2∧Fb n i m m') ⟨Br (.ptr i 0::rest),m,0⟩
def one_mem(cs:List D)(n:Nat)(hl:cs.length=n)(hn:0<n):∃m:Mem,Ag m [0] 0 n=some cs∧(∀j o,[1]<:+j->m j o=none)∧(∀k l,(([0]:Id)=l++k::[1])=False)∧(∀k,(([0]:Id)=k::[1])=False):=by
 refine⟨Mem.put (λ_ _=>none) [0] 0 cs,rdC_same' hl,λj o hj=>?_,λk l=>eq_false (λe=>?_),λk=>eq_false (λe=>by simp at e)⟩
 ·rw[Mem.put_other];rintro rfl;obtain⟨t,ht⟩:=hj;have:=congrArg List.getLast? ht;simp at this
 ·have:=congrArg List.getLast? e;simp at this
open Classical in
def RM(S:Summs)(dc:DC)(rs:List RV)(N n:Nat):List D->List D->Option (D×List D):=λcs rest=>if h:∃y,runsM S dc rs N n cs rest y then some (Classical.choose h)else none
def rm_get{S:Summs}{dc:DC}{rs:List RV}{N n:Nat}{cs rest:List D}{y:D×List D}(h:RM S dc rs N n cs rest=some y):runsM S dc rs N n cs rest y:=by
 unfold RM at h;split at h
 ·rename_i hx;simp only[Qb]at h;subst h;exact Classical.choose_spec hx
 ·cases h
def rm_eq{S:Summs}{dc:DC}{rs:List RV}{N n:Nat}{cs rest:List D}{y:D×List D}(hn:0<n)(hl:cs.length=n)(hN:rest.length+1<=N) (h:∀(i:Id)(m:Mem)(fr:Id),Ag m i 0 n=some cs->(∀j o,fr<:+j->m j o=none)->(∀k l,(i=l++k::fr)=False)->(∀k,(i=k::fr)=False)->
  dc.wp S fr (DY rs λd m'=>d=y.1∧Ag m' i 0 n=some y.2∧Fb n i m m') ⟨Br (.ptr i 0::rest),m,0⟩):RM S dc rs N n cs rest=some y:=by
 have hx:∃y,runsM S dc rs N n cs rest y:=⟨y,hl,hN,h⟩;unfold RM;rw[dif_pos hx];obtain⟨m,m1,m2,m3,m4⟩:=one_mem cs n hl hn;obtain⟨d,m',h1,h2⟩:=ends_det ((Classical.choose_spec hx).2.2 [0] m [1] m1 m2 m3 m4) (h [0] m [1] m1 m2 m3 m4);have e1:=h1.1.symm.trans h2.1;have e2:=h1.2.1.symm.trans h2.2.1;simp only[Qb]at e2;rw[show Classical.choose hx=y from Prod.ext e1 e2]
def rm_ok{P:Program}{S:Summs}{f:FuncId}{N n:Nat}{dc:DC}{rs:List RV}(hf:Fn P f N dc rs)(hn:0<n)(hS:Summs.ok P S):(mQ n (RM S dc rs N n)).ok P f:=by
 refine m_ok hS hf hn (λcs rest y hy=>(rm_get hy).2.1) (λi m fr cs rest r cs' hcs hF hfr h1 h2=>?_);exact(rm_get hF).2.2 i m fr hcs hfr h1 h2
end Go.Vd
namespace Go.Vd
open Go.Proofs Go.RowKit
def n_tk1{x:D}{l:List D}{n:Nat}:(x::l).take (n+1)=x::l.take n:=rfl
def n_tk0{l:List D}:l.take 0=[]:=rfl
def n_dr0{l:List D}:l.drop 0=l:=rfl
def n_dr1{x:D}{l:List D}{n:Nat}:(x::l).drop (n+1)=l.drop n:=rfl
def n_ob{x:D}{f:D->Option (List D)}:(some x).bind f=f x:=rfl
def n_obn{f:D->Option (List D)}:(none:Option D).bind f=none:=rfl
def n_om{x:List D}{f:List D->List D}:(some x).map f=some (f x):=rfl
def n_om2{x:List D}{f:List D->D}:(some x).map f=some (f x):=rfl
def n_om3{x:D}{f:D->D}:(some x).map f=some (f x):=rfl
def n_om4{x:D}{f:D->List D}:(some x).map f=some (f x):=rfl
def n_is{x:List D}:(some x).isSome=true:=rfl
def n_isd{x:D}:(some x).isSome=true:=rfl
def n_ci{a b:Nat}{l l':List Nat}:(a::l=b::l')=(a=b∧l=l'):=by simp
def n_cin{a:Nat}{l:List Nat}:(a::l=[])=False:=by simp
def n_bt:(true=false)=False:=by simp
def n_bf:(false=true)=False:=by simp
def n_lda{m:Mem}{n:Nat}{i:Id}{o:Nat}:ldD m (some n) (.ptr i o)=(Ag m i o n).map .agg:=rfl
def n_ldl{m:Mem}{i:Id}{o:Nat}:ldD m none (.ptr i o)=m i o:=rfl
def resW_tc{s:Nat->D}{m:Mem}{k:Option Nat}{a b:Nat}:BY [.t b,.cell k a] s m=(ldD m k (s a)).map λd=> .tup [s b,d]:=by
 simp only[BY,Ff,RV.of];cases ldD m k (s a)<;>rfl
def resW_ctt{s:Nat->D}{m:Mem}{k:Option Nat}{a b c:Nat}:BY [.cell k a,.t b,.t c] s m=(ldD m k (s a)).map λd=> .tup [d,s b,s c]:=by
 simp only[BY,Ff,RV.of];cases ldD m k (s a)<;>rfl
def res_cell_ttt{s:Nat->D}{m:Mem}{k:Option Nat}{a b c e:Nat}:BY [.cell k a,.t b,.t c,.t e] s m=(ldD m k (s a)).map λd=> .tup [d,s b,s c,s e]:=by
 simp only[BY,Ff,RV.of];cases ldD m k (s a)<;>rfl
def res_cell_t'{s:Nat->D}{m:Mem}{k:Option Nat}{a b:Nat}:BY [.cell k a,.t b] s m=(ldD m k (s a)).map λd=> .tup [d,s b]:=by
 simp only[BY,Ff,RV.of];cases ldD m k (s a)<;>rfl
def n_fin{cs:List D}:BK cs []=some cs:=rfl
def n_fi{cs:List D}{o n:Nat}{d:D}{r:List (Nat×Nat×D)}:BK cs ((o,n,d)::r)=if d.data=true∧d.cells.length=n∧o+n<=cs.length then BK (C0 cs o d.cells) r else none:=rfl
def n_pa{cs ds:List D}{o:Nat}:C0 cs o ds=cs.take o++ds++cs.drop (o+ds.length):=rfl
def n_neq{nl:Bool}{t u:Id}{xs:List D}:nilEq 0 (.slice nl t xs) (.slice true u [])=some nl:=by cases nl<;>rfl
def n_bn1:(true !=false)=true:=rfl
def n_bn2:(false !=false)=false:=rfl
def n_bn3:(true !=true)=false:=rfl
def n_bn4:(false !=true)=true:=rfl
def n_grt{m:Mem}{e:Nat}{f t:Id}{xs:List D}:Upd.app m (Bi e f (.slice true t xs))=m.put f 0 [.tok (e+1)]:=rfl
def n_grf{m:Mem}{e:Nat}{f t:Id}{xs:List D}:Upd.app m (Bi e f (.slice false t xs))=(m.put t 0 [.tok 0]).put f 0 [.tok (e+1)]:=rfl
def n_se0{x y:D}{l:List D}:(x::l).set 0 y=y::l:=rfl
def n_se1{x y:D}{l:List D}{n:Nat}:(x::l).set (n+1) y=x::l.set n y:=rfl
set_option linter.defProp false
def go5:=Qq @Af <| Qq @Ap <| Qq @Aq <| Qq @Bk <| Qq @res_cell_t' <| Qq @resW_tc <| Qq @resW_ctt <| Qq @res_cell_ttt <| Qq @n_lda <| Qq @n_ldl <| Qq @n_tk1 <| Qq @n_tk0 <| Qq @n_dr0 <| Qq @n_dr1 <| Qq @n_ob <| Qq @n_obn <| Qq @n_om <| Qq @n_om2 <| Qq @n_om3 <| Qq @n_om4 <| Qq @n_is <| Qq @n_isd <| Qq @n_ci <| Qq @n_cin <| Qq @n_bt <| Qq @n_bf <| Qq @Qu <| Qq @QR <| Qq @Qm <| Qq @true_and <| Qq @and_true <| Qq @false_and <| Qq @and_false <| Qq @and_self <| Qq @Qn <| Qq @QO <| Qq @Qo <| Qq @Nat.add_eq_right <| Qq @Bool.true_or <| Qq @Bool.or_true <| Qq @Bool.false_or <| Qq @Bool.or_false <| Qq @Bool.not_true <| Qq @Bool.not_false <| Qq @not_true_eq_false <| Qq @not_false_eq_true <| Qq @n_fin <| Qq @n_fi <| Qq @n_pa <| Qq @n_se0 <| Qq @n_se1 <| Qq @n_neq <| Qq @n_grt <| Qq @n_grf <| Qq n_bn1 <| Qq n_bn2 <| Qq n_bn3 n_bn4
abbrev Rw:=Int×Bool×Bool
def rwD(r:Rw):D:= .agg [.int .i64 r.1,.bool r.2.1,.bool r.2.2]
def A8(l:List Rw):List D:=l.map rwD
def AV(l:List Rw):(A8 l).length=l.length:=QA ..
def Fe{l:List Rw}{j:Nat}(h:j<l.length):(A8 l)[j]?=some (.agg [.int .i64 l[j].1,.bool l[j].2.1,.bool l[j].2.2]):=by simp[A8,rwD,Qd h]
structure Sc where
 mx:Int
 cas:Bool
 la:Int
 nl:Bool
 rs:List Rw
def scC(s:Sc):List D:=[.int .i64 s.mx,.bool s.cas,.int .i64 s.la,.slice s.nl [] (A8 s.rs)]
def risB:List Rw->Int->Bool
 |[],_=>true
 |x::r,a=>decide (a<x.1)&&risB r x.1
def Ca(s:Sc)(q:Int):Int:=if s.mx=0 then q else s.mx
def newE(l:List Rw):Int:=match l.getLast? with
 |some x=>x.1
 |none=>0
def DJ(s:Sc)(q:Int):Bool:=!decide (1<=q∧q<=6)||(!decide (0<=s.mx∧s.mx<=6)||(!decide (0<=s.la∧s.la<=30)||(decide (Ca s q<s.rs.length)||(!risB s.rs 0||!decide (newE s.rs=s.la)))))
def secE(s:Sc)(q:Int):Int:=if DJ s q=true then 2 else 0
def S296:Summs:=AF []
def R296:List D->Option D:=RF S296 dc296 [.t 2] 5
def ko296:(Ac R296).ok Qc 296:=AH fn296 Ad
def R296_eq(r:Rw):R296 [.agg [.int .i64 r.1,.bool r.2.1,.bool r.2.2]]=some (.int .i64 r.1):=by
 refine AG (QK rfl) ?_;unfold dc296;simp only[↓go1,gB2,go5,simprocAttr]
 all_goals first|rfl|exact⟨rfl,rfl⟩|simp[*]
def S335:Summs:=AF []
def R335:List D->Option D:=RF S335 dc335 [.cell (some 2) 0] 2
def ko335:(Ac R335).ok Qc 335:=AH fn335 Ad
def R335_eq:R335 []=some (.agg [.int .i64 6,.bool false]):=by
 refine AG (QK rfl) ?_;unfold dc335;simp only[↓go1,gB2,go5,simprocAttr]
 all_goals first|rfl|exact⟨rfl,rfl⟩|simp[*]
def S241:Summs:=AF []
def R241:List D->Option D:=RF S241 dc241 [.cell (some 2) 0] 2
def ko241:(Ac R241).ok Qc 241:=AH fn241 Ad
def R241_eq:R241 []=some (.agg [.int .i64 6,.bool false]):=by
 refine AG (QK rfl) ?_;unfold dc241;simp only[↓go1,gB2,go5,simprocAttr]
 all_goals first|rfl|exact⟨rfl,rfl⟩|simp[*]
def S294:Summs:=AF []
def R294:List D->Option D:=RF S294 dc294 [.t 4] 12
def ko294:(Ac R294).ok Qc 294:=AH fn294 Ad
def R294_eq(s:Sc)(q:Int)(b:Bool):R294 [.agg (scC s),.agg [.int .i64 q,.bool b]]=some (.int .i64 (Ca s q)):=by
 refine AG (QK rfl) ?_;unfold dc294;unfold Ca scC;by_cases h:s.mx=0
 ·simp only[↓go1,gB2,go5,simprocAttr,h]
  all_goals first|rfl|exact⟨rfl,rfl⟩|simp[*]
 ·simp only[↓go1,gB2,go5,simprocAttr,h]
  all_goals first|rfl|exact⟨rfl,rfl⟩|simp[*]
def S295:Summs:=AF [(296,Ac R296)]
def R295:List D->Option D:=RF S295 dc295 [.t 4] 23
def ko295:(Ac R295).ok Qc 295:=AH fn295 (Ab ko296 Ad)
def R295_eq{nl:Bool}{l:List Rw}(hl:l.length<=1000):R295 [.slice nl [] (A8 l),.fn 296 []]=some (.bool (risB l 0)):=by
 refine AG (QK rfl) ?_;unfold dc295;simp only[↓go1,go2,simprocAttr,AV];refine Bm (n:=l.length) (I:=λj st=>st.s 8= .slice nl [] (A8 l)∧st.s 9= .int .i64 l.length∧st.s 10= .int .i64 (j:Int)∧st.s 1= .fn 296 []∧∃a,st.s 5= .int .i64 a∧risB (l.drop j) a=risB l 0) (λj hj ih st g hI=>?_) (λst g hI=>?_) 0 (Qu _) _ _ ⟨rfl,rfl,rfl,rfl,0,rfl,rfl⟩
 ·obtain⟨st_s,st_m,st_c⟩:=st;obtain⟨h8,h9,h10,h1,a,h5,ha⟩:=hI;simp only at h8 h9 h10 h1 h5;refine Ae dc295l0.eq_1 ?_;have hlt:((j:Int)<l.length):=by omega
  have hj0:=nJ (j:=j);have hw:=wJ (j:=j) (by omega);have hat:=Fe hj;have hd:l.drop j=l[j]::l.drop (j+1):=Zp hj;have h296:=R296_eq l[j];rw[hd]at ha;generalize l[j]=x at hat ha h296 hd;by_cases hx:x.1<=a
  ·have e:risB l 0=false:=by rw[←ha];simp[risB];omega
   simp only[↓go1,gB2,go5,simprocAttr,h8,h9,h10,h1,h5,hlt,hj0,Qi,hat,An S295 296,h296,hx];rw[e]
   all_goals first|rfl|exact⟨rfl,rfl⟩|simp[*]
  ·have e:risB (l.drop (j+1)) x.1=risB l 0:=by rw[←ha];simp only[risB];rw[decide_eq_true (by omega)];rfl
   simp only[↓go1,gB2,go5,simprocAttr,h8,h9,h10,h1,h5,hlt,hj0,Qi,hat,An S295 296,h296,hx,hw];exact ih _ _ ⟨h8,h9,rfl,h1,_,rfl,e⟩
 ·obtain⟨h8,h9,h10,h1,a,h5,ha⟩:=hI;refine Ae dc295l0.eq_1 ?_;have e:risB l 0=true:=by rw[←ha];simp[risB]
  simp only[↓go1,gB2,go5,simprocAttr,h9,h10,Zs];rw[e]
  all_goals first|rfl|exact⟨rfl,rfl⟩|simp[*]
def S191:Summs:=AF [(246,Ac F246),(294,Ac R294),(295,Ac R295)]
def GH:List D->Option D:=RF S191 dc191 [.t 4] 52
def ko191:(Ac GH).ok Qc 191:=AH fn191 (Ab ok246 (Ab ko294 (Ab ko295 Ad)))
def GG(s:Sc)(q:Int)(b:Bool)(hl:s.rs.length<=1000):GH [.agg (scC s),.agg [.int .i64 q,.bool b]]=some (.int .i64 (secE s q)):=by
 refine AG (QK rfl) ?_;have s294:S191 294=some (Ac R294):=rfl;have s295:S191 295=some (Ac R295):=rfl;unfold dc191;have h294:=R294_eq s q b;have h295:=R295_eq (nl:=s.nl) (l:=s.rs) hl;have h246:∀x a b:Int,F246 [.int .i64 x,.int .i64 a,.int .i64 b]=some (.bool (decide (a<=x∧x<=b))):=λ_ _ _=>rfl
 have hn:IntKind.i64.wrap ((s.rs.length:Int)-1)=(s.rs.length:Int)-1:=w64 (by omega) (by omega);have hlast:0<s.rs.length->∃x:Rw,newE s.rs=x.1∧(A8 s.rs)[((s.rs.length:Int)-1).toNat]?=some (.agg [.int .i64 x.1,.bool x.2.1,.bool x.2.2]):=λh=>by
  have hk:((s.rs.length:Int)-1).toNat=s.rs.length-1:=by omega
  refine⟨s.rs[s.rs.length-1],?_,by rw[hk];exact Fe (by omega)⟩;unfold newE;rw[List.getLast?_eq_getElem?,Qd (by omega)]
 have hnone:¬0<s.rs.length->newE s.rs=0:=λh=>by
  have:s.rs=[]:=List.length_eq_zero_iff.1 (by omega);rw[this];rfl
 unfold secE DJ;unfold scC at h294 ⊢;generalize Ca s q=kp at h294;generalize risB s.rs 0=rb at h295;generalize newE s.rs=nw at hlast hnone;by_cases c1:1<=q∧q<=6
 case neg=>
  simp only[↓go1,gB2,go5,simprocAttr,An S191 246,h246,c1]
  all_goals first|rfl|exact⟨rfl,rfl⟩|simp[*]
 by_cases c2:0<=s.mx∧s.mx<=6
 case neg=>
  simp only[↓go1,gB2,go5,simprocAttr,An S191 246,h246,c1,c2]
  all_goals first|rfl|exact⟨rfl,rfl⟩|simp[*]
 by_cases c3:0<=s.la∧s.la<=30
 case neg=>
  simp only[↓go1,gB2,go5,simprocAttr,An S191 246,h246,c1,c2,c3]
  all_goals first|rfl|exact⟨rfl,rfl⟩|simp[*]
 by_cases c4:kp<s.rs.length
 case pos=>
  simp only[↓go1,gB2,go5,simprocAttr,An S191 246,h246,Aa s294,h294,c1,c2,c3,c4,AV]
  (refine Ao.intro (Aj ?_) ?_;first|rfl|simp[A2,AL,rds,Ai,Ac])
  simp only[↓go1,gB2,go5,simprocAttr,c4]
  all_goals first|rfl|exact⟨rfl,rfl⟩|simp[*]
 cases rb with
 |false=>
  simp only[↓go1,gB2,go5,simprocAttr,An S191 246,h246,Aa s294,h294,Aa s295,h295,c1,c2,c3,c4,AV]
  (refine Ao.intro (Aj ?_) ?_;first|rfl|simp[A2,AL,rds,Ai,Ac])
  simp only[↓go1,gB2,go5,simprocAttr,c4]
  all_goals first|rfl|exact⟨rfl,rfl⟩|simp[*]
 |true=>
  by_cases c5:0<s.rs.length
  ·obtain⟨x,e1,e2⟩:=hlast c5;have c5':(0:Int)<(s.rs.length:Int):=by omega
   have c5'':(0:Int)<=(s.rs.length:Int)-1:=by omega
   subst e1;by_cases c6:x.1=s.la
   ·simp only[↓go1,gB2,go5,simprocAttr,An S191 246,h246,Aa s294,h294,Aa s295,h295,c1,c2,c3,c4,c6,AV]
    (refine Ao.intro (Aj ?_) ?_;first|rfl|simp[A2,AL,rds,Ai,Ac])
    simp only[↓go1,gB2,go5,simprocAttr,c1,c2,c3,c4,c5',c5'',hn,e2,c6,AV]
    all_goals first|rfl|exact⟨rfl,rfl⟩|simp[*]
   ·simp only[↓go1,gB2,go5,simprocAttr,An S191 246,h246,Aa s294,h294,Aa s295,h295,c1,c2,c3,c4,c6,AV]
    (refine Ao.intro (Aj ?_) ?_;first|rfl|simp[A2,AL,rds,Ai,Ac])
    simp only[↓go1,gB2,go5,simprocAttr,c1,c2,c3,c4,c5',c5'',hn,e2,c6,AV]
    all_goals first|rfl|exact⟨rfl,rfl⟩|simp[*]
  ·have e1:=hnone c5;have c5':¬(0:Int)<(s.rs.length:Int):=by omega
   subst e1;by_cases c6:(0:Int)=s.la
   ·have c6':((0:Int)=s.la)=True:=eq_true c6;simp only[↓go1,gB2,go5,simprocAttr,An S191 246,h246,Aa s294,h294,Aa s295,h295,c1,c2,c3,c4,c6',AV]
    (refine Ao.intro (Aj ?_) ?_;first|rfl|simp[A2,AL,rds,Ai,Ac])
    simp only[↓go1,gB2,go5,simprocAttr,c1,c2,c3,c4,c5',c6',AV]
    all_goals first|rfl|exact⟨rfl,rfl⟩|simp[*]
   ·have c6':((0:Int)=s.la)=False:=eq_false c6;simp only[↓go1,gB2,go5,simprocAttr,An S191 246,h246,Aa s294,h294,Aa s295,h295,c1,c2,c3,c4,c6',AV]
    (refine Ao.intro (Aj ?_) ?_;first|rfl|simp[A2,AL,rds,Ai,Ac])
    simp only[↓go1,gB2,go5,simprocAttr,c1,c2,c3,c4,c5',c6',AV]
    all_goals first|rfl|exact⟨rfl,rfl⟩|simp[*]
end Go.Vd
namespace Go.Vd
open Go.Proofs
def dc48:=y0 f48 [] []
def fn48:Fn Qc 48 4 dc48 [.cell (some 1) 0]:=Am func48
def dc112:=y0 f112 [] []
def fn112:Fn Qc 112 4 dc112 [.cell (some 3) 0]:=Am func112
def dc113:=y0 f113 [] []
def fn113:Fn Qc 113 34 dc113 [.t 2]:=Am func113
def dc93:=y0 f93 [] []
def fn93:Fn Qc 93 12 dc93 [.t 4,.t 5]:=Am func93
def dc195l0:=y1 f195 3 [] []
def dc195:=y0 f195 [] [(3,dc195l0)]
def fn195:Fn Qc 195 49 dc195 [.t 6,.t 7]:=Am func195
def dc196:=y0 f196 [] []
def fn196:Fn Qc 196 9 dc196 [.t 4]:=Am func196
def dc115:=y0 f115 [(2,[(5,1),(5,8),(6,1),(6,8)])] []
def fn115:Fn Qc 115 28 dc115 [.cell (some 1) 4]:=Am func115
def dc94:=y0 f94 [] []
def fn94:Fn Qc 94 8 dc94 [.cell (some 3) 2]:=Am func94
def dc197:=y0 f197 [] []
def fn197:Fn Qc 197 8 dc197 [.t 2]:=Am func197
def dc216l0:=y1 f216 3 [] []
def dc216l1:=y1 f216 11 [] []
def dc216:=y0 f216 [] [(3,dc216l0),(11,dc216l1)]
def fn216:Fn Qc 216 36 dc216 [.t 2]:=Am func216
def dc50:=y0 f50 [] []
def fn50:Fn Qc 50 54 dc50 [.cell (some 1) 4,.t 5]:=Am func50
def dc35:=y0 f35 [] []
def fn35:Fn Qc 35 23 dc35 [.cell (some 3) 4,.t 5]:=Am func35
def dc36:=y0 f36 [] []
def fn36:Fn Qc 36 25 dc36 [.t 6]:=Am func36
def dc129l0:=y1 f129 3 [] []
def dc129:=y0 f129 [] [(3,dc129l0)]
def fn129:Fn Qc 129 20 dc129 [.t 2]:=Am func129
end Go.Vd
namespace Go.Vd
open Go.Proofs Go.RowKit
def v_slss{a b:Bs}:A_ .lss (.str a) (.str b)=some (.bool (Op.bytesLess a b)):=by simp[A_]
def v_sgtr{a b:Bs}:A_ .gtr (.str a) (.str b)=some (.bool (!(Op.bytesLess a b||a==b))):=by simp[A_]
def F7(a b:Bs):Int:=if Op.bytesLess a b=true then-1 else if a=b then 0 else 1
def F210:List D->Option D
 |[.str s]=>some (.bool false)
 |_=>none
def ok210:(Ac F210).ok Qc 210:=by
 refine Az (S:=λ_=>none) AK fn210 (λds r h=>?_) (λds r h=>?_)
 ·unfold F210 at h;split at h
  ·simp
  ·cases h
 ·unfold F210 at h;split at h
  ·rename_i s;simp only[Qb]at h;subst h;unfold dc210;simp only[↓go1,gB2,reduceIte,Qf,Qg,and_self]
  ·cases h
def F109:List D->Option D
 |[.str a,.str b]=>some (.int .i64 (F7 a b))
 |_=>none
def ok109:(Ac F109).ok Qc 109:=by
 obtain⟨S,hS,hl⟩:=A6 (Ab ok210 Ad);have s210:=hl 210 _ rfl;clear hl;refine Az (S:=S) hS fn109 (λds r h=>?_) (λds r h=>?_)
 ·unfold F109 at h;split at h
  ·simp
  ·cases h
 ·unfold F109 at h;split at h
  ·rename_i a b;simp only[Qb]at h;subst h;unfold dc109;have h210:∀s,F210 [.str s]=some (.bool false):=λ_=>rfl
   unfold F7;cases hl:Op.bytesLess a b with
   |true=>simp only[↓go1,gB2,reduceIte,Qf,Qg,and_self,Aa s210,h210,v_slss,hl]
   |false=>
    by_cases he:a=b
    ·subst he;have he':(a==a)=true:=by simp
     simp only[↓go1,gB2,reduceIte,Qf,Qg,and_self,Aa s210,h210,v_slss,v_sgtr,hl,he',Bool.false_or]
    ·have he':(a==b)=false:=by simpa using he
     simp only[↓go1,gB2,reduceIte,Qf,Qg,and_self,Aa s210,h210,v_slss,v_sgtr,hl,he',he,Bool.or_false]
  ·cases h
def F108:List D->Option D
 |[.agg [.str p,.int .i64 q,.bool b],.agg [.str p2,.int .i64 q2,.bool b2]]=>some (.int .i64 (F7 p p2))
 |_=>none
def ok108:(Ac F108).ok Qc 108:=by
 obtain⟨S,hS,hl⟩:=A6 (Ab ok109 Ad);have s109:=hl 109 _ rfl;clear hl;refine Az (S:=S) hS fn108 (λds r h=>?_) (λds r h=>?_)
 ·unfold F108 at h;split at h
  ·simp
  ·cases h
 ·unfold F108 at h;split at h
  ·rename_i p q b p2 q2 b2;simp only[Qb]at h;subst h;unfold dc108;have h109:∀a b,F109 [.str a,.str b]=some (.int .i64 (F7 a b)):=λ_ _=>rfl
   simp only[↓go1,gB0,reduceIte,Qf,Qg,Af,QQ,Qj,Qn,QO,Aa s109,h109]
  ·cases h
def F196:List D->Option D
 |[.agg [.str n,.str p,.slice nl t xs],.str s]=>some (.int .i64 (F7 n s))
 |_=>none
def ok196:(Ac F196).ok Qc 196:=by
 obtain⟨S,hS,hl⟩:=A6 (Ab ok109 Ad);have s109:=hl 109 _ rfl;clear hl;refine Az (S:=S) hS fn196 (λds r h=>?_) (λds r h=>?_)
 ·unfold F196 at h;split at h
  ·simp
  ·cases h
 ·unfold F196 at h;split at h
  ·rename_i n p nl t xs s;simp only[Qb]at h;subst h;unfold dc196;have h109:∀a b,F109 [.str a,.str b]=some (.int .i64 (F7 a b)):=λ_ _=>rfl
   simp only[↓go1,gB0,reduceIte,Qf,Qg,Af,QQ,Aa s109,h109]
  ·cases h
abbrev Tk:=Bs×Bs×Bool×List Rl
def tkD(k:Tk):D:= .agg [.str k.1,.str k.2.1,.slice k.2.2.1 [] (Al k.2.2.2)]
def Ax(l:List Tk):List D:=l.map tkD
def tkT:D->Tk
 | .agg [.str n,.str p,.slice nl _ xs]=>(n,p,nl,Bb xs)
 |_=>([],[],true,[])
def B1(xs:List D):List Tk:=xs.map tkT
def Bh(l:List Tk):B1 (Ax l)=l:=by
 simp only[B1,Ax,Q_]
 conv=>rhs;rw[←List.map_id l]
 exact QP λr _=>by simp only[Function.comp,tkD,tkT,AR,id]
def AM(l:List Tk):(Ax l).length=l.length:=QA ..
def AQ(l:List Tk)(j:Nat):Tk:=l.getD j ([],[],true,[])
def DZ{l:List Tk}{j:Nat}(h:j<l.length):(Ax l)[j]?=some (tkD (AQ l j)):=by
 simp[Ax,AQ,Qd h]
def bsR(l:List Tk)(s:Bs):Nat->Nat->Nat->Nat
 |0,lo,_=>lo
 |f+1,lo,hi=>if lo<hi then(if F7 (AQ l ((lo+hi) / 2)).1 s<0 then bsR l s f ((lo+hi) / 2+1) hi else bsR l s f lo ((lo+hi) / 2))else lo
def bsE(l:List Tk)(s:Bs):Nat:=bsR l s l.length 0 l.length
def AY(l:List Tk)(s:Bs):Bool:=decide (bsE l s<l.length)&&decide (F7 (AQ l (bsE l s)).1 s=0)
def bs_mid{lo hi:Nat}(h:lo+hi<1000000000):IntKind.i64.wrap ((IntKind.u64.wrap (IntKind.i64.wrap ((lo:Int)+(hi:Int)))).fdiv (2 ^ min (1:Int).toNat IntKind.u64.bits))=(((lo+hi) / 2:Nat):Int):=by
 have h1:IntKind.i64.wrap ((lo:Int)+(hi:Int))=((lo+hi:Nat):Int):=by rw[w64 (by omega) (by omega)];omega
 have h2:IntKind.u64.wrap ((lo+hi:Nat):Int)=((lo+hi:Nat):Int):=by
  simp only[IntKind.wrap,IntKind.signed,IntKind.bits,Zy,Zo,if_false];omega
 have h3:(((lo+hi:Nat):Int)).fdiv (2 ^ min (1:Int).toNat IntKind.u64.bits)=(((lo+hi) / 2:Nat):Int):=by
  rw[show(2:Int) ^ min (1:Int).toNat IntKind.u64.bits=2 from rfl,QV _ (by omega)];omega
 rw[h1,h2,h3,w64 (by omega) (by omega)]
def loop195{S:Summs}{ns:Id}{l:List Tk}{nl:Bool}{t:Id}{s:Bs}{Q:Ex->St->Prop}{e:Nat}(s196:S 196=some (Ac F196))(hb:l.length<=1000000)
  (hexit:∀st,st.s 0= .slice nl t (Ax l)->st.s 1= .str s->st.s 2= .fn 196 []->st.s 8= .int .i64 (l.length:Int)->st.s 9= .int .i64 (e:Int)->Q (.exit 0) st):
  ∀(f lo hi:Nat) st g,hi<=lo+f->hi<=l.length->bsR l s f lo hi=e->st.s 0= .slice nl t (Ax l)->st.s 1= .str s->st.s 2= .fn 196 []->st.s 8= .int .i64 (l.length:Int)->st.s 9= .int .i64 (lo:Int)->st.s 10= .int .i64 (hi:Int)->A4 S ns dc195l0 Q st g:=by
 intro f;induction f with
 |zero=>
  intro lo hi st g hf hh he h0 h1 h2 h8 h9 h10;refine Ae dc195l0.eq_1 ?_;have:¬((lo:Int)<hi):=by omega
  simp only[↓go1,go2,go4,reduceIte,Qf,Qg,h9,h10,this];exact hexit _ h0 h1 h2 h8 (by rw[←he];exact h9)
 |succ f ih=>
  intro lo hi st g hf hh he h0 h1 h2 h8 h9 h10;refine Ae dc195l0.eq_1 ?_;unfold bsR at he;by_cases hlt:lo<hi
  ·rw[if_pos hlt]at he;have hlt':((lo:Int)<hi):=by omega
   have hmid:=bs_mid (lo:=lo) (hi:=hi) (by omega);have hml:(lo+hi) / 2<hi:=by omega
   have hlm:lo<=(lo+hi) / 2:=by omega
   generalize (lo+hi) / 2=mid at he hmid hml hlm;have hm0:(0:Int)<=(mid:Int):=by omega
   have one0:(0:Int)<=1:=by omega
   have hw:IntKind.i64.wrap ((mid:Int)+1)=((mid+1:Nat):Int):=w64 (by omega) (by omega);have hat:=DZ (l:=l) (j:=mid) (by omega);generalize AQ l mid=k at hat he;obtain⟨n,p,knl,rs⟩:=k;replace hat:(Ax l)[mid]?=some (.agg [.str n,.str p,.slice knl [] (Al rs)]):=hat;have h196:F196 [.agg [.str n,.str p,.slice knl [] (Al rs)],.str s]=some (.int .i64 (F7 n s)):=rfl;simp only at he;generalize F7 n s=c at he h196;obtain⟨st_s,st_m,st_c⟩:=st;simp only at h0 h1 h2 h8 h9 h10;by_cases hc:c<0
   ·rw[if_pos hc]at he;simp only[↓go1,gB2,reduceIte,Qf,Qg,h0,h1,h2,h9,h10,hlt',hmid,hm0,one0,hw,hat,hc,Qi,Aa s196,h196,QZ,gB3,Qm,Qr,Qw];exact ih (mid+1) hi _ _ (by omega) hh he h0 h1 h2 h8 rfl h10
   ·rw[if_neg hc]at he;simp only[↓go1,gB2,reduceIte,Qf,Qg,h0,h1,h2,h9,h10,hlt',hmid,hm0,one0,hat,hc,Qi,Aa s196,h196,QZ,gB3,Qm,Qr,Qw];exact ih lo mid _ _ (by omega) (by omega) he h0 h1 h2 h8 h9 rfl
  ·rw[if_neg hlt]at he;have hlt':¬((lo:Int)<hi):=by omega
   simp only[↓go1,go2,go4,reduceIte,Qf,Qg,h9,h10,hlt'];exact hexit _ h0 h1 h2 h8 (by rw[←he];exact h9)
def bsR_le(l:List Tk)(s:Bs):∀(f lo hi:Nat),lo<=hi->bsR l s f lo hi<=hi
 |0,lo,hi,h=>by simpa[bsR]using h
 |f+1,lo,hi,h=>by
  unfold bsR;split
  ·split
   ·exact bsR_le l s f _ _ (by omega)
   ·exact Zb (bsR_le l s f _ _ (by omega)) (by omega)
  ·exact h
open Classical in
def F195:List D->Option D
 |[.slice _ _ xs,.str s,.fn 196 []]=>if xs=Ax (B1 xs)∧xs.length<=1000000 then some (.tup [.int .i64 (bsE (B1 xs) s:Int),.bool (AY (B1 xs) s)])else none
 |_=>none
open Classical in
def F195_eq{nl:Bool}{t:Id}{l:List Tk}{s:Bs}(hl:l.length<=1000000):F195 [.slice nl t (Ax l),.str s,.fn 196 []]=some (.tup [.int .i64 (bsE l s:Int),.bool (AY l s)]):=by
 have h:Ax l=Ax (B1 (Ax l))∧(Ax l).length<=1000000:=by rw[Bh,AM];exact⟨rfl,hl⟩
 show(if _ then _ else _)=_;rw[if_pos h,Bh]
def ok195:(Ac F195).ok Qc 195:=by
 obtain⟨S,hS,hl⟩:=A6 (Ab ok196 Ad);have s196:=hl 196 _ rfl;clear hl;refine Az (S:=S) hS fn195 (λds r h=>?_) (λds r h=>?_)
 ·unfold F195 at h;split at h
  ·simp
  ·cases h
 ·unfold F195 at h;split at h
  ·rename_i nl t xs s;split at h
   ·rename_i hc;obtain⟨hx,hl⟩:=hc;simp only[Qb]at h;subst h;generalize B1 xs=l at hx;subst hx;rw[AM]at hl;have hle:bsE l s<=l.length:=bsR_le l s _ _ _ (by omega);unfold dc195;simp only[↓go1,go2,reduceIte,Qf,Qg,AM];refine loop195 (l:=l) (nl:=nl) (t:=t) (s:=s) (e:=bsE l s) s196 hl (λst h0 h1 h2 h8 h9=>?_) l.length 0 l.length _ _ (by omega) (by omega) rfl rfl rfl rfl rfl rfl rfl;unfold AY;generalize bsE l s=i at h9 hle;by_cases hi:i<l.length
    ·have hi':((i:Int)<l.length):=by omega
     have hi0:(0:Int)<=(i:Int):=by omega
     have hat:=DZ (l:=l) (j:=i) hi;generalize AQ l i=k at hat;obtain⟨n,p,knl,rs⟩:=k;replace hat:(Ax l)[i]?=some (.agg [.str n,.str p,.slice knl [] (Al rs)]):=hat;have h196:F196 [.agg [.str n,.str p,.slice knl [] (Al rs)],.str s]=some (.int .i64 (F7 n s)):=rfl;simp only[↓go1,gB2,reduceIte,Qf,Qg,h0,h1,h2,h8,h9,hi',hi0,hat,Qi,Aa s196,h196,QZ,gB3,Qm,Qr,Qw];simp[hi]
    ·have hi':¬((i:Int)<l.length):=by omega
     simp only[↓go1,gB2,reduceIte,Qf,Qg,h8,h9,hi'];simp[hi]
   ·cases h
  ·cases h
def tksD_un(l:List Tk):(Ax l).map D.un=Ax l:=by rw[Ax,Q_];exact QP λ_ _=>rfl
def tksD_head(l:List Tk):D.headSz (Ax l) 3=3:=by cases l<;>rfl
def Er(xs:List D):Prop:=xs=Ax (B1 xs)∧xs.length<=1000000
def D8{l:List Tk}(hl:l.length<=1000000):Er (Ax l):=⟨by rw[Bh],by rw[AM];exact hl⟩
def DQ{xs:List D}(h:Er xs):∃l:List Tk,xs=Ax l∧l.length<=1000000∧B1 xs=l:=by
 refine⟨B1 xs,h.1,?_,rfl⟩;have:=h.2;rw[h.1,AM]at this;exact this
open Classical in
def F93:List D->Option D
 |[.agg [.slice _ _ xs],.str s]=>if Er xs then some (.tup [.int .i64 (bsE (B1 xs) s:Int),.bool (AY (B1 xs) s)])else none
 |_=>none
open Classical in
def F93_eq{nl:Bool}{t:Id}{l:List Tk}{s:Bs}(hl:l.length<=1000000):F93 [.agg [.slice nl t (Ax l)],.str s]=some (.tup [.int .i64 (bsE l s:Int),.bool (AY l s)]):=by
 show(if _ then _ else _)=_;rw[if_pos (D8 hl),Bh]
def ok93:(Ac F93).ok Qc 93:=by
 obtain⟨S,hS,hl⟩:=A6 (Ab ok195 Ad);have s195:=hl 195 _ rfl;clear hl;refine Az (S:=S) hS fn93 (λds r h=>?_) (λds r h=>?_)
 ·unfold F93 at h;split at h
  ·simp
  ·cases h
 ·unfold F93 at h;split at h
  ·rename_i nl t xs s;split at h
   ·rename_i hc;obtain⟨l,rfl,hl,e⟩:=DQ hc;simp only[Qb]at h;subst h;rw[e];have h195:=F195_eq (nl:=nl) (t:=[]) (s:=s) hl;unfold dc93;simp only[↓go1,gB0,simprocAttr,Af,Qa,Aa s195,h195]
   ·cases h
  ·cases h
open Classical in
def F36:List D->Option D
 |[.agg [.slice _ _ xs],.str s,.str p]=>if Er xs∧∀k∈B1 xs,k.2.2.2.length<=1000000 then some (.int .u8 (if AY (B1 xs) s=true then Ch (AQ (B1 xs) (bsE (B1 xs) s)).2.2.2 p else 0))else none
 |_=>none
def ok36:(Ac F36).ok Qc 36:=by
 obtain⟨S,hS,hl⟩:=A6 (Ab ok93 (Ab ok95 Ad));have s93:=hl 93 _ rfl;have s95:=hl 95 _ rfl;clear hl;refine Az (S:=S) hS fn36 (λds r h=>?_) (λds r h=>?_)
 ·unfold F36 at h;split at h
  ·simp
  ·cases h
 ·unfold F36 at h;split at h
  ·rename_i nl t xs s p;split at h
   ·rename_i hc;obtain⟨hc,hk⟩:=hc;obtain⟨l,rfl,hl,e⟩:=DQ hc;rw[e]at hk h;simp only[Qb]at h;subst h;have h93:=F93_eq (nl:=nl) (t:=[]) (s:=s) hl;have hu:=tksD_un l;unfold dc36;cases hf:AY l s with
    |false=>simp only[↓go1,gB0,simprocAttr,Af,Ap,Aq,Qa,Qe,Aa s93,h93,hf]
    |true=>
     have hi:bsE l s<l.length:=by
      unfold AY at hf;rw[QS,decide_eq_true_iff]at hf;exact hf.1
     rw[hf]at h93;generalize bsE l s=i at h93 hi;have hi0:(0:Int)<=(i:Int):=by omega
     have hat:=DZ (l:=l) (j:=i) hi;have hm:AQ l i∈l:=by simp[AQ,Qd hi]
     have hlk:=hk _ hm;generalize AQ l i=k at hat hlk;obtain⟨n,q,knl,rs⟩:=k;replace hat:(Ax l)[i]?=some (.agg [.str n,.str q,.slice knl [] (Al rs)]):=hat;have h95:=F95_eq (nl:=knl) (t:=[]) (s:=p) hlk;simp only[↓go1,gB0,simprocAttr,Af,Ap,Aq,Qa,Qe,Qp,QB,Qt,Aa s93,h93,Aa s95,h95,hi0,hat,Qi]
   ·cases h
  ·cases h
def Gg(n p:Bs)(l:List Rl):Int:=if Bz n=false then 2 else if Cm l≠0 then Cm l else if p=[]∧n=[114,111,111,116]then 0 else if Bz p=true∧p≠n then 0 else 2
open Classical in
def F113:List D->Option D
 |[.agg [.str n,.str p,.slice _ _ xs]]=>if(xs=Al (Bb xs)∧xs.length<=1000000∧BJ (Bb xs))∧n.length<=1000000∧p.length<=1000000 then some (.int .i64 (Gg n p (Bb xs)))else none
 |_=>none
open Classical in
def F113_eq{n p:Bs}{nl:Bool}{t:Id}{l:List Rl}(hl:l.length<=1000000)(hp:BJ l)(h1:n.length<=1000000)(h2:p.length<=1000000):F113 [.agg [.str n,.str p,.slice nl t (Al l)]]=some (.int .i64 (Gg n p l)):=by
 have h:(Al l=Al (Bb (Al l))∧(Al l).length<=1000000∧BJ (Bb (Al l)))∧n.length<=1000000∧p.length<=1000000:=by rw[AR,As];exact⟨⟨rfl,hl,hp⟩,h1,h2⟩
 show(if _ then _ else _)=_;rw[if_pos h,AR]
def ok113:(Ac F113).ok Qc 113:=by
 obtain⟨S,hS,hl⟩:=A6 (Ab ok213 (Ab ok214 Ad));have s213:=hl 213 _ rfl;have s214:=hl 214 _ rfl;clear hl;refine Az (S:=S) hS fn113 (λds r h=>?_) (λds r h=>?_)
 ·unfold F113 at h;split at h
  ·simp
  ·cases h
 ·unfold F113 at h;split at h
  ·rename_i n p nl t xs;split at h
   ·rename_i hc;obtain⟨⟨hx,hl,hp⟩,hn,hpp⟩:=hc;simp only[Qb]at h;subst h;generalize Bb xs=l at hx hp;subst hx;rw[As]at hl;have h213n:F213 [.str n]=some (.bool (Bz n)):=if_pos hn;have h213p:F213 [.str p]=some (.bool (Bz p)):=if_pos hpp;have h214:=Fpol_eq (nl:=nl) (t:=[]) hl hp;have hu:=Fg l;have hcl:=Dg l;unfold dc113 Gg;generalize Cm l=e at *;generalize Bz p=bp at *;generalize Bz n=bn at *;cases bn with
    |false=>simp only[↓go1,gB0,simprocAttr,Af,Aa s213,h213n]
    |true=>
     simp only[↓go1,gB0,simprocAttr,Af,Qa,Aa s213,h213n,Aa s214,h214]
     repeat' (first|(refine ifQ.intro (λh=>?_) (λh=>?_)<;>try (exfalso;omega))|(simp only[↓go1,gB0,simprocAttr,h,Af,Qa,false_and,Aa s213,h213p]))
     all_goals (try simp_all)
   ·cases h
  ·cases h
def Bj{s:Nat->D}{m:Mem}{k:Option Nat}{a b:Nat}:BY [.cell k a,.t b] s m=(ldD m k (s a)).map λd=> .tup [d,s b]:=by
 simp only[BY,Ff,RV.of];cases ldD m k (s a)<;>rfl
def bne_tf:(true !=false)=true:=rfl
def bne_ff:(false !=false)=false:=rfl
def rlsOk(nl:Bool)(xs:List D):Prop:=xs=Al (Bb xs)∧xs.length<=1000000∧(nl=true->xs=[])
def rlsOk_mk{nl:Bool}{l:List Rl}(hl:l.length<=1000000)(hn:nl=true->l=[]):rlsOk nl (Al l):=⟨by rw[AR],by rw[As];exact hl,λh=>by rw[hn h];rfl⟩
def FQ{nl:Bool}{xs:List D}(h:rlsOk nl xs):∃l:List Rl,xs=Al l∧l.length<=1000000∧(nl=true->l=[])∧Bb xs=l:=by
 refine⟨Bb xs,h.1,?_,λhn=>?_,rfl⟩
 ·have:=h.2.1;rw[h.1,As]at this;exact this
 ·rw[h.2.2 hn];rfl
open Classical in
def F197:List D->Option D
 |[.slice nl _ xs]=>if rlsOk nl xs then some (.slice nl [] xs)else none
 |_=>none
open Classical in
def F197_eq{nl:Bool}{t:Id}{l:List Rl}(hl:l.length<=1000000)(hn:nl=true->l=[]):F197 [.slice nl t (Al l)]=some (.slice nl [] (Al l)):=by
 show(if _ then _ else _)=_;rw[if_pos (rlsOk_mk hl hn)]
def ok197:(Ac F197).ok Qc 197:=by
 refine Az (S:=λ_=>none) AK fn197 (λds r h=>?_) (λds r h=>?_)
 ·unfold F197 at h;split at h
  ·simp
  ·cases h
 ·unfold F197 at h;split at h
  ·rename_i nl t xs;split at h
   ·rename_i hc;obtain⟨l,rfl,hl,hn,e⟩:=FQ hc;simp only[Qb]at h;subst h;have n1:(Al l).length*25<=140737488355328:=by rw[As];omega
    unfold dc197;cases nl with
    |true=>
     have:=hn rfl;subst this;simp only[↓go1,gB2,simprocAttr,bne_tf,nilEq];rfl
    |false=>simp only[↓go1,gB0,simprocAttr,Af,false_and,bne_ff,n1,EV,Ed,rlsD_head,false_or,QH,ne_eq,QI,QM,nilEq]
   ·cases h
  ·cases h
open Classical in
def F94:List D->Option D
 |[.agg [.str n,.str p,.slice nl _ xs]]=>if rlsOk nl xs then some (.agg [.str n,.str p,.slice nl [] xs])else none
 |_=>none
open Classical in
def F94_eq{n p:Bs}{nl:Bool}{t:Id}{l:List Rl}(hl:l.length<=1000000)(hn:nl=true->l=[]):F94 [.agg [.str n,.str p,.slice nl t (Al l)]]=some (.agg [.str n,.str p,.slice nl [] (Al l)]):=by
 show(if _ then _ else _)=_;rw[if_pos (rlsOk_mk hl hn)]
def ok94:(Ac F94).ok Qc 94:=by
 obtain⟨S,hS,hl⟩:=A6 (Ab ok197 Ad);have s197:=hl 197 _ rfl;clear hl;refine Az (S:=S) hS fn94 (λds r h=>?_) (λds r h=>?_)
 ·unfold F94 at h;split at h
  ·simp
  ·cases h
 ·unfold F94 at h;split at h
  ·rename_i n p nl t xs;split at h
   ·rename_i hc;obtain⟨l,rfl,hl,hn,e⟩:=FQ hc;simp only[Qb]at h;subst h;have h197:=F197_eq (t:=[]) hl hn;unfold dc94;simp only[↓go1,gB0,simprocAttr,Af,Ap,Aq,Qa,Qe,Qk,Qj,Qn,and_false,Qo,Bk,AX,Aa s197,h197]
   ·cases h
  ·cases h
def tkOk(k:Tk):Prop:=k.2.2.2.length<=1000000∧(k.2.2.1=true->k.2.2.2=[])
open Classical in
def F35:List D->Option D
 |[.agg [.slice _ _ xs],.str s]=>if Er xs∧∀k∈B1 xs,tkOk k then some (.tup (if AY (B1 xs) s=true then [tkD (AQ (B1 xs) (bsE (B1 xs) s)),.bool true]else [.agg [.str [],.str [],.slice true [] []],.bool false]))else none
 |_=>none
def ok35:(Ac F35).ok Qc 35:=by
 obtain⟨S,hS,hl⟩:=A6 (Ab ok93 (Ab ok94 Ad));have s93:=hl 93 _ rfl;have s94:=hl 94 _ rfl;clear hl;refine Az (S:=S) hS fn35 (λds r h=>?_) (λds r h=>?_)
 ·unfold F35 at h;split at h
  ·simp
  ·cases h
 ·unfold F35 at h;split at h
  ·rename_i nl t xs s;split at h
   ·rename_i hc;obtain⟨hc,hk⟩:=hc;obtain⟨l,rfl,hl,e⟩:=DQ hc;rw[e]at hk h;simp only[Qb]at h;subst h;have h93:=F93_eq (nl:=nl) (t:=[]) (s:=s) hl;have hu:=tksD_un l;unfold dc35;cases hf:AY l s with
    |false=>simp only[↓go1,gB0,simprocAttr,Af,Ap,Aq,Qa,Qe,Qk,Qj,Qn,and_false,Qo,AX,Bj,BK,Aa s93,h93,hf]
    |true=>
     have hi:bsE l s<l.length:=by
      unfold AY at hf;rw[QS,decide_eq_true_iff]at hf;exact hf.1
     rw[hf]at h93;generalize bsE l s=i at h93 hi;have hi0:(0:Int)<=(i:Int):=by omega
     have hat:=DZ (l:=l) (j:=i) hi;have hm:AQ l i∈l:=by simp[AQ,Qd hi]
     have hlk:=hk _ hm;generalize AQ l i=k at hat hlk;obtain⟨n,q,knl,rs⟩:=k;replace hat:(Ax l)[i]?=some (.agg [.str n,.str q,.slice knl [] (Al rs)]):=hat;have h94:=F94_eq (n:=n) (p:=q) (t:=[]) hlk.1 hlk.2;simp only[↓go1,gB0,simprocAttr,Af,Ap,Aq,Qa,Qe,Qr,Qw,Qk,Qj,Qn,and_false,Qo,AX,Bj,Aa s93,h93,Aa s94,h94,hi0,hat,Qi,tkD]
   ·cases h
  ·cases h
end Go.Vd
namespace Go.Vd
open Go.Proofs
def dc106l0:=y1 f106 3 [] []
def dc106l1:=y1 f106 11 [] []
def dc106:=y0 f106 [] [(3,dc106l0),(11,dc106l1)]
def fn106:Fn Qc 106 36 dc106 [.t 2]:=Am func106
end Go.Vd
namespace Go.Vd
open Go.Proofs Go.RowKit
abbrev sz3:D->Bool:=szB 3
def Fcat3:List D->Option D
 |[.slice _ _ L]=>match EE L with
  |some ys=>if L.length<=1000∧0<ys.length∧ys.length<=100000∧ys.all sz3=true then some (.slice false [] ys)else none
  |none=>none
 |_=>none
set_option maxRecDepth 20000 in
def walkGrow315(w:World)(k:Nat)(h0:0<k)(hk:k<=1000000):
  Calls Qc 315 #[.slice none 0 0,.int .i64 (k:Int)] w λe w'=>e= .returned (.slice (some ⟨w.heap.size,0,none⟩) 0 (grownCap w k 0 97))∧w'=w.drew.alloc (.cells (Builtin.zeroCells #[.string .empty,.string .empty,.slice none 0 0] k++Builtin.zeroCells #[.string .empty,.string .empty,.slice none 0 0] (grownCap w k 0 97-k)) 97):=by
 have happ:=Lib.run_append_nil_zeros (P:=Qc) w 53 3 53 97 t97 (.agg #[.string .empty,.string .empty,.slice none 0 0]) .i64 .i64 underlying53 underlying3 (by kernel_rfl) (by kernel_rfl) k h0 (by decide) (by omega) (by show k*56<=_;omega)
 go_enter func315,ntmps315
 go_wp2_with (first|(at_builtin;refine Lib.wpList_append_run _ rfl _ _ _ _ rfl _ _ rfl rfl _ _ happ ?_))
 all_goals go_ret
 all_goals exact⟨rfl,rfl⟩
def ok315:(DD 97).ok Qc 315:=by
 refine grow_ok (sz:=3) ⟨_,func315,by kernel_rfl,by kernel_rfl⟩ (by decide) ⟨t97,(.agg #[.string .empty,.string .empty,.slice none 0 0]),by kernel_rfl,by kernel_rfl,by kernel_rfl,by kernel_rfl⟩ (λw k h0 hk=>?_);refine(walkGrow315 w k h0 hk).mono ?_;rintro e w' ⟨rfl,rfl⟩;refine⟨_,_,grownCap_le_maxLen w k 0 97 (by unfold maxLen;omega),?_,rfl,rfl⟩;have hge:=grownCap_ge w k 0 97;simp only[Array.size_append,size_zeroCells];simp;omega
def fcat3_get{ds:List D}{r:D}(h:Fcat3 ds=some r):∃nl t L ys,ds=[.slice nl t L]∧EE L=some ys∧L.length<=1000∧0<ys.length∧ys.length<=100000∧ys.all (szB 3)=true∧r= .slice false [] ys:=by
 unfold Fcat3 at h;split at h
 ·rename_i nl t L;split at h
  ·rename_i ys hys;split at h
   ·rename_i hc;simp only[Qb]at h;subst h;exact⟨nl,t,L,ys,rfl,hys,hc.1,hc.2.1,hc.2.2.1,hc.2.2.2,rfl⟩
   ·cases h
  ·cases h
 ·cases h
def ok216(h315:(DD 97).ok Qc 315):(Ac Fcat3).ok Qc 216:=cat_fun (pt:=9) (bytes:=56) fn216 (by omega) h315 λ_ _ h=>fcat3_get h
set_option maxRecDepth 20000 in
def walkGrow207(w:World)(k:Nat)(h0:0<k)(hk:k<=1000000):
  Calls Qc 207 #[.slice none 0 0,.int .i64 (k:Int)] w λe w'=>e= .returned (.slice (some ⟨w.heap.size,0,none⟩) 0 (grownCap w k 0 124))∧w'=w.drew.alloc (.cells (Builtin.zeroCells #[.string .empty,.int .i64 0,.bool false] k++Builtin.zeroCells #[.string .empty,.int .i64 0,.bool false] (grownCap w k 0 124-k)) 124):=by
 have happ:=Lib.run_append_nil_zeros (P:=Qc) w 50 3 50 124 t124 (.agg #[.string .empty,.int .i64 0,.bool false]) .i64 .i64 underlying50 underlying3 (by kernel_rfl) (by kernel_rfl) k h0 (by decide) (by omega) (by show k*32<=_;omega)
 go_enter func207,ntmps207
 go_wp2_with (first|(at_builtin;refine Lib.wpList_append_run _ rfl _ _ _ _ rfl _ _ rfl rfl _ _ happ ?_))
 all_goals go_ret
 all_goals exact⟨rfl,rfl⟩
def ok207:(DD 124).ok Qc 207:=by
 refine grow_ok (sz:=3) ⟨_,func207,by kernel_rfl,by kernel_rfl⟩ (by decide) ⟨t124,(.agg #[.string .empty,.int .i64 0,.bool false]),by kernel_rfl,by kernel_rfl,by kernel_rfl,by kernel_rfl⟩ (λw k h0 hk=>?_);refine(walkGrow207 w k h0 hk).mono ?_;rintro e w' ⟨rfl,rfl⟩;refine⟨_,_,grownCap_le_maxLen w k 0 124 (by unfold maxLen;omega),?_,rfl,rfl⟩;have hge:=grownCap_ge w k 0 124;simp only[Array.size_append,size_zeroCells];simp;omega
def ok106(h207:(DD 124).ok Qc 207):(Ac Fcat3).ok Qc 106:=cat_fun (pt:=9) (bytes:=32) fn106 (by omega) h207 λ_ _ h=>fcat3_get h
def firstTk:Tk:=([114,111,111,116],[],false,[([],63)])
def F112:List D->Option D
 |[]=>some (tkD firstTk)
 |_=>none
def ok112:(Ac F112).ok Qc 112:=by
 refine Az (S:=λ_=>none) AK fn112 (λds r h=>?_) (λds r h=>?_)
 ·unfold F112 at h;split at h
  ·simp
  ·cases h
 ·unfold F112 at h;split at h
  ·simp only[Qb]at h;subst h;unfold dc112;simp only[↓go1,gB0,simprocAttr,Af,Ap,Aq,Qa,Qe,Qr,Qw,Qk,Qp,QB,Qj,Qn,and_false,Qo,Bk,AX,BK,C0,QH,QI,QM,tkD,firstTk,Al,rlD,Q3,QI]
  ·cases h
def F48:List D->Option D
 |[]=>some (.agg [.slice false [] (Ax [firstTk])])
 |_=>none
def ok48:(Ac F48).ok Qc 48:=by
 obtain⟨S,hS,hl⟩:=A6 (Ab ok112 Ad);have s112:=hl 112 _ rfl;clear hl;refine Az (S:=S) hS fn48 (λds r h=>?_) (λds r h=>?_)
 ·unfold F48 at h;split at h
  ·simp
  ·cases h
 ·unfold F48 at h;split at h
  ·simp only[Qb]at h;subst h;have h112:F112 []=some (.agg [.str [114,111,111,116],.str [],.slice false [] [.agg [.str [],.int .u8 63]]]):=rfl;unfold dc48;simp only[↓go1,gB0,simprocAttr,Af,Ap,Aq,Qe,Qw,Qk,Qp,QB,Qj,Qn,Qo,Bk,AX,BK,C0,QH,QI,QM,Aa s112,h112,Ax,tkD,firstTk,Al,rlD,Q3,QI]
  ·cases h
def Eo(l:List Tk)(k:Tk):List Tk:=l.take (bsE l k.1)++k::l.drop (bsE l k.1)
open Classical in
def F115:List D->Option D
 |[.agg [.slice _ _ xs],.agg [.str n,.str p,.slice nl _ ys]]=>if Er xs∧xs.length<=90000∧rlsOk nl ys then some (.agg [.slice false [] (Ax (Eo (B1 xs) (n,p,nl,Bb ys)))])else none
 |_=>none
open Classical in
def F115_eq{nl0 nl:Bool}{t0 t:Id}{l:List Tk}{n p:Bs}{rs:List Rl}(hl:l.length<=90000)(hr:rs.length<=1000000)(hn:nl=true->rs=[]):
  F115 [.agg [.slice nl0 t0 (Ax l)],.agg [.str n,.str p,.slice nl t (Al rs)]]=some (.agg [.slice false [] (Ax (Eo l (n,p,nl,rs)))]):=by
 have h:Er (Ax l)∧(Ax l).length<=90000∧rlsOk nl (Al rs):=⟨D8 (by omega),by rw[AM];exact hl,rlsOk_mk hr hn⟩;show(if _ then _ else _)=_;rw[if_pos h,Bh,AR]
def ok115:(Ac F115).ok Qc 115:=by
 obtain⟨S,hS,hl⟩:=A6 (Ab ok93 (Ab ok94 (Ab (ok216 ok315) Ad)));have s93:=hl 93 _ rfl;have s94:=hl 94 _ rfl;have s216:=hl 216 _ rfl;clear hl;refine Az (S:=S) hS fn115 (λds r h=>?_) (λds r h=>?_)
 ·unfold F115 at h;split at h
  ·simp
  ·cases h
 ·unfold F115 at h;split at h
  ·rename_i nl0 t0 xs n p nl t ys;split at h
   ·rename_i hc;obtain⟨hc,h9,hr⟩:=hc;obtain⟨l,rfl,hl,e⟩:=DQ hc;obtain⟨rs,rfl,hrl,hrn,e2⟩:=FQ hr;rw[e,e2]at h;rw[AM]at h9;simp only[Qb]at h;subst h;have h93:=F93_eq (nl:=nl0) (t:=[]) (s:=n) hl;have h94:=F94_eq (n:=n) (p:=p) (t:=[]) hrl hrn;have hle:bsE l n<=l.length:=bsR_le l n _ _ _ (by omega);unfold Eo;generalize bsE l n=i at h93 hle;generalize AY l n=fd at h93;have hi0:(0:Int)<=(i:Int):=by omega
    have hil:(i:Int)<=(l.length:Int):=by omega
    have hll:l.length<=l.length:=Qv _;have htk:(Ax l).take i=Ax (l.take i):=(List.map_take ..).symm;have hdr:((Ax l).drop i).take (l.length-i)=Ax (l.drop i):=by
     rw[Zc (by rw[QT,AM];omega)];exact(List.map_drop ..).symm
    have hcat:Fcat3 [.slice false [] [.slice nl0 [] (Ax (l.take i)),.slice false [] [.agg [.str n,.str p,.slice nl [] (Al rs)]],.slice nl0 [] (Ax (l.drop i))]]=some (.slice false [] (Ax (l.take i++(n,p,nl,rs)::l.drop i))):=by
     have e1:EE [.slice nl0 [] (Ax (l.take i)),.slice false [] [.agg [.str n,.str p,.slice nl [] (Al rs)]],.slice nl0 [] (Ax (l.drop i))]=some (Ax (l.take i++(n,p,nl,rs)::l.drop i)):=by
      simp[EE,Ax,tkD]
     simp only[Fcat3,e1];rw[if_pos];refine⟨by simp,?_,?_,?_⟩
     ·rw[AM];simp only[Qy,QY];omega
     ·rw[AM];simp only[Qy,QY,QC,QT];omega
     ·rw[Qx];intro x hx;obtain⟨y,_,rfl⟩:=QE.1 hx;rfl
    unfold dc115;simp only[↓go1,gB0,simprocAttr,Af,Ap,Aq,Qa,Qe,Qw,Qk,Qp,QB,Qj,Qn,and_false,Qo,BK,C0,tksD_head,QH,QI,QM,Aa s93,h93,Aa s94,h94,Aa s216,hcat,AM,hi0,hil,htk,hdr,Qi,Qv];refine Ao.intro (Aj rfl) ?_;simp only[↓go1,gB2,simprocAttr,Af,Ap,Aq,QR,gB3,Qm,Ql,and_self,Qe,Qp,Qj,Qo,Bk,AX,QI,QM,htk,hdr,Qv]
   ·cases h
  ·cases h
def loop114i{S:Summs}{ns:Id}{a b l:List Rl}{nl na nb:Bool}{t ta tb:Id}{Q:Ex->St->Prop}{e:Bool}{d19:D}{i:Int}(s95:S 95=some (Ac F95))(s215:S 215=some (Ac F215))
  (la:a.length<=1000000) (lb:b.length<=1000000) (pb:BJ b) (ca:DW a) (cb:DW b) (hb:l.length<=1000000) (hpl:BJ l)
  (hret:∀st,e=false->st.s 4= .bool false->Q .ret st) (hexit:∀st,e=true->st.s 0= .slice na ta (Al a)->st.s 1= .slice nb tb (Al b)->st.s 19=d19->st.s 20= .int .i64 i->Q (.exit 2) st):
  ∀(f j:Nat) st g,l.length=j+f->DH a b l f j=e->st.s 0= .slice na ta (Al a)->st.s 1= .slice nb tb (Al b)->st.s 19=d19->st.s 20= .int .i64 i->st.s 23= .slice nl t (Al l)->st.s 24= .int .i64 (l.length:Int)->st.s 25= .int .i64 (j:Int)->A4 S ns dc114l0 Q st g:=by
 intro f;induction f with
 |zero=>
  intro j st g hf he h0 h1 h19 h20 h23 h24 h25;refine Ae dc114l0.eq_1 ?_;have:¬((j:Int)<l.length):=by omega
  simp only[↓go1,go2,go4,reduceIte,Qg,h24,h25,this];exact hexit _ he.symm h0 h1 h19 h20
 |succ f ih=>
  intro j st g hf he h0 h1 h19 h20 h23 h24 h25;refine Ae dc114l0.eq_1 ?_;unfold DH at he;have hj:j<l.length:=by omega
  have hlt:((j:Int)<l.length):=by omega
  have hj0:=nJ (j:=j);have hw:=wJ (j:=j) (by omega);have hat:(Al l)[j]?=some (.agg [.str (Bp l j).1,.int .u8 (Bp l j).2]):=Dx hj;have hq:=prefB_at hpl hj;unfold oneC at he;generalize Bp l j=r at hat hq he;obtain⟨q,k⟩:=r;simp only at hat hq he;have e95:=F95_eq (nl:=na) (t:=[]) (s:=q) la;have ba:=capsP_b (s:=q) ca;have e215:=F215_eq (nl:=nb) (t:=[]) (s:=q) lb cb pb hq ba.1 ba.2;unfold allowsP at e215;generalize hasB (Ch b q).toNat (Ch a q).toNat=hh at he e215;obtain⟨st_s,st_m,st_c⟩:=st;simp only at h0 h1 h19 h20 h23 h24 h25;cases hh with
  |true=>
   rw[if_pos rfl]at he;simp only[↓go1,gB0,reduceIte,Qf,Qg,h0,h1,h23,h24,h25,hlt,hj0,Qi,hat,Aa s95,e95,Aa s215,e215,Af,Ap,Aq,QQ,QZ,Qa,Qe,Qr,Qw,Qk];refine Ao.intro (Aj rfl) ?_;simp only[↓go1,go2,go3,reduceIte,Qf,Qg,h25,hw];exact ih (j+1) _ _ (by omega) he h0 h1 h19 h20 h23 h24 rfl
  |false=>
   rw[if_neg (by simp)]at he;simp only[↓go1,gB0,reduceIte,Qf,Qg,h0,h1,h23,h24,h25,hlt,hj0,Qi,hat,Aa s95,e95,Aa s215,e215,Af,Ap,Aq,QQ,QZ,Qa,Qe,Qr,Qw,Qk];refine Ao.intro (Aj rfl) ?_;simp only[↓go1,go2,go3,reduceIte,Qf,Qg];exact hret _ he.symm rfl
def ok114:(Ac F118).ok Qc 114:=by
 obtain⟨S,hS,hl⟩:=A6 (Ab ok214 (Ab ok95 (Ab ok215 Ad)));have s214:=hl 214 _ rfl;have s95:=hl 95 _ rfl;have s215:=hl 215 _ rfl;clear hl;refine Az (S:=S) hS fn114 (λds r h=>?_) (λds r h=>?_)
 ·obtain⟨na,ta,a,nb,tb,b,rfl,_⟩:=F118_inv h;simp
 ·obtain⟨na,ta,a,nb,tb,b,rfl,la,lb,pa,pb,ca,cb,rfl⟩:=F118_inv h;have ea:=Fpol_eq (nl:=na) (t:=[]) la pa;have eb:=Fpol_eq (nl:=nb) (t:=[]) lb pb;have halla:=Dg a;have hallb:=Dg b;have huna:=Fg a;have hunb:=Fg b;unfold dc114 DI;generalize Cm a=xa at *;generalize Cm b=xb at *;by_cases hxa:xa=0
  ·by_cases hxb:xb=0
   ·subst hxa hxb;have z2:((2:Nat):Int)=2:=rfl;have w1:IntKind.i64.wrap ((0:Int)+1)=1:=w64 (by omega) (by omega);have w2:IntKind.i64.wrap ((1:Int)+1)=2:=w64 (by omega) (by omega);rw[Zh];have ha:a.all (oneC a b)=DH a b a a.length 0:=by rw[Fs _ _ _ _ _ (by omega)];rfl
    have hb:b.all (oneC a b)=DH a b b b.length 0:=by rw[Fs _ _ _ _ _ (by omega)];rfl
    rw[ha,hb];simp only[↓go1,gB2,reduceIte,Qf,Qg,Aa s214,ea,eb,BK,C0,QZ,gB3,Qm,and_self,Qr,Qw,Qp,QB];refine Ae dc114l1.eq_1 ?_;simp only[↓go1,go2,go4,reduceIte,Qf,Qg,As,z2,Int.reduceLT,Int.toNat_zero,Int.le_refl,Ql,and_self];refine loop114i (a:=a) (b:=b) (l:=a) (e:=DH a b a a.length 0) s95 s215 la lb pb ca cb la pa (λst h1 h2=>?_) (λst he h0 h1 h19 h20=>?_) a.length 0 _ _ (by omega) rfl rfl rfl rfl rfl rfl rfl rfl
    ·simp only[↓go1,gB2,h1,h2,Zy,Bool.and_false]
    ·simp only[↓go1,gB2,reduceIte,Qf,Qg,h20,he,w1];refine Ae dc114l1.eq_1 ?_;simp only[↓go1,go2,go4,reduceIte,Qf,Qg,h19,h20,As,z2,Int.reduceLT,Int.toNat_one,Int.reduceLE,Ql,Qa,and_self];refine loop114i (a:=a) (b:=b) (l:=b) (e:=DH a b b b.length 0) s95 s215 la lb pb ca cb lb pb (λst h1 h2=>?_) (λst he2 h0 h1 h19 h20=>?_) b.length 0 _ _ (by omega) rfl h0 h1 h19 rfl rfl rfl rfl
     ·simp only[↓go1,gB2,h1,h2,he,Bool.and_false]
     ·simp only[↓go1,gB2,reduceIte,Qf,Qg,h20,he,he2,w2];refine Ae dc114l1.eq_1 ?_;simp only[↓go1,gB2,reduceIte,Qf,Qg,h20,he,he2,Zs]
   ·simp only[↓go1,gB2,reduceIte,Qf,Qg,Aa s214,ea,eb,hxb,hxa]
    try simp
  ·simp only[↓go1,gB2,reduceIte,Qf,Qg,Aa s214,ea,hxa]
   try simp
def DB(l:List Tk)(k:Tk):Option (List Tk)×Int:=
 if Gg k.1 k.2.1 k.2.2.2≠0 then(none,Gg k.1 k.2.1 k.2.2.2)else if k.2.1=[]then(none,2)else if AY l k.1=true then(none,20)else if AY l k.2.1=false then(none,6)
 else if DI k.2.2.2 (AQ l (bsE l k.2.1)).2.2.2=false then(none,13)else(some (Eo l k),0)
def setD(nl:Bool)(l:List Tk)(o:Option (List Tk)):D:=match o with
 |none=> .agg [.slice nl [] (Ax l)]
 |some l'=> .agg [.slice false [] (Ax l')]
def EP(l:List Rl):Prop:=l.length<=1000000∧BJ l∧DW l
open Classical in
def F50:List D->Option D
 |[.agg [.slice nl0 _ xs],.agg [.str n,.str p,.slice nl _ ys]]=>if(Er xs∧xs.length<=90000∧∀k∈B1 xs,EP k.2.2.2)∧rlsOk nl ys∧EP (Bb ys)∧n.length<=1000000∧p.length<=1000000
   then some (.tup [setD nl0 (B1 xs) (DB (B1 xs) (n,p,nl,Bb ys)).1,.int .i64 (DB (B1 xs) (n,p,nl,Bb ys)).2])else none
 |_=>none
def ok50:(Ac F50).ok Qc 50:=by
 obtain⟨S,hS,hl⟩:=A6 (Ab ok113 (Ab ok93 (Ab ok114 (Ab ok115 Ad))));have s113:=hl 113 _ rfl;have s93:=hl 93 _ rfl;have s114:=hl 114 _ rfl;have s115:=hl 115 _ rfl;clear hl;refine Az (S:=S) hS fn50 (λds r h=>?_) (λds r h=>?_)
 ·unfold F50 at h;split at h
  ·simp
  ·cases h
 ·unfold F50 at h;split at h
  ·rename_i nl0 t0 xs n p nl t ys;split at h
   ·rename_i hc;obtain⟨⟨hc,h9,hk⟩,hr,hpo,hn,hp⟩:=hc;obtain⟨l,rfl,hl,e⟩:=DQ hc;obtain⟨rs,rfl,hrl,hrn,e2⟩:=FQ hr;rw[e,e2]at h;rw[e]at hk;rw[e2]at hpo;rw[AM]at h9;simp only[Qb]at h;subst h;have h113:=F113_eq (n:=n) (p:=p) (nl:=nl) (t:=[]) hrl hpo.2.1 hn hp;have h93n:=F93_eq (nl:=nl0) (t:=[]) (s:=n) hl;have h93p:=F93_eq (nl:=nl0) (t:=[]) (s:=p) hl;have h115:=F115_eq (nl0:=nl0) (t0:=[]) (n:=n) (p:=p) (t:=[]) h9 hrl hrn;unfold dc50 DB;simp only;generalize Gg n p rs=e at *;by_cases he:e=0
    ·subst he;by_cases hp0:p=[]
     ·subst hp0;simp only[↓go1,gB0,simprocAttr,Af,Ap,Aq,Qa,Qe,Qk,Qj,Qn,and_false,Qo,AX,Bj,Aa s113,h113,ne_eq];simp[setD];rfl
     ·cases h1:AY l n with
      |true=>
       rw[h1]at h93n;simp only[↓go1,gB0,simprocAttr,Af,Ap,Aq,Qa,Qe,Qk,Qj,Qn,and_false,Qo,AX,Bj,Aa s113,h113,Aa s93,h93n,ne_eq,hp0];simp[setD];rfl
      |false=>
       rw[h1]at h93n;cases h2:AY l p with
       |false=>
        rw[h2]at h93p;simp only[↓go1,gB0,simprocAttr,Af,Ap,Aq,Qa,Qe,Qk,Qj,Qn,and_false,Qo,AX,Bj,Aa s113,h113,Aa s93,h93n,h93p,ne_eq,hp0];simp[setD];rfl
       |true=>
        have hi:bsE l p<l.length:=by
         unfold AY at h2;rw[QS,decide_eq_true_iff]at h2;exact h2.1
        rw[h2]at h93p;generalize bsE l p=i at h93p hi;have hi0:(0:Int)<=(i:Int):=by omega
        have hat:=DZ (l:=l) (j:=i) hi;have hm:AQ l i∈l:=by simp[AQ,Qd hi]
        have hlk:=hk _ hm;generalize AQ l i=k at hat hlk;obtain⟨n2,p2,nl2,rs2⟩:=k;replace hat:(Ax l)[i]?=some (.agg [.str n2,.str p2,.slice nl2 [] (Al rs2)]):=hat;have h114:=F118_eq (na:=nl) (nb:=nl2) (ta:=[]) (tb:=[]) hrl hlk.1 hpo.2.1 hlk.2.1 hpo.2.2 hlk.2.2;simp only at h114;cases h3:DI rs rs2 with
        |false=>
         rw[h3]at h114;simp only[↓go1,gB0,simprocAttr,Af,Ap,Aq,Qa,Qe,Qp,QB,Qt,Qj,Qn,and_false,Qo,Aa s113,h113,Aa s93,h93n,h93p,ne_eq,hp0,hi0,hat,Qi,Aa s114,h114];refine Ao.intro (Aj rfl) ?_;simp only[↓go1,gB0,simprocAttr,Af,Ap,Aq,Qe,Qk,Qj,Qn,Qo,AX,Bj,hp0];simp[setD];rfl
        |true=>
         rw[h3]at h114;simp only[↓go1,gB0,simprocAttr,Af,Ap,Aq,Qa,Qe,Qp,QB,Qt,Qj,Qn,and_false,Qo,Aa s113,h113,Aa s93,h93n,h93p,ne_eq,hp0,hi0,hat,Qi,Aa s114,h114];refine Ao.intro (Aj rfl) ?_;simp only[↓go1,gB0,simprocAttr,Af,Ap,Aq,Qa,Qe,Qk,Qj,Qn,and_false,Qo,AX,Bj,Aa s115,h115,hp0];simp[setD];rfl
    ·simp only[↓go1,gB0,simprocAttr,Af,Ap,Aq,Qa,Qe,Qk,Qj,Qn,and_false,Qo,AX,Bj,Aa s113,h113,ne_eq,he];simp[setD];rfl
   ·cases h
  ·cases h
def loop129{S:Summs}{l:List Tk}{nl0:Bool}{t0:Id}{Q:Ex->St->Prop}(hb:l.length<=1000000)
  (hexit:∀st nl t,nl=decide (l.length=0)->st.s 3= .slice nl t (l.map λk=> .str k.1)->Q (.exit 0) st):
  ∀(f j:Nat) nl t st g,l.length=j+f->nl=decide (j=0)->Gw st.m st.c 9 nl t->st.s 3= .slice nl t ((l.take j).map λk=> .str k.1)->st.s 7= .slice nl0 t0 (Ax l)->st.s 8= .int .i64 (l.length:Int)->st.s 9= .int .i64 (j:Int)->A4 S [] dc129l0 Q st g:=by
 intro f;induction f with
 |zero=>
  intro j nl t st g hf hn hG h3 h7 h8 h9;refine Ae dc129l0.eq_1 ?_;have:¬((j:Int)<l.length):=by omega
  simp only[↓go1,go2,go4,reduceIte,Qg,h8,h9,this];refine hexit _ nl t (by rw[hn,show j=l.length by omega]) ?_;rw[show j=l.length by omega,List.take_length]at h3;exact h3
 |succ f ih=>
  intro j nl t st g hf hn hG h3 h7 h8 h9;refine Ae dc129l0.eq_1 ?_;have hj:j<l.length:=by omega
  have hlt:((j:Int)<l.length):=by omega
  have hj0:=nJ (j:=j);have hw:=wJ (j:=j) (by omega);have hat:=DZ (l:=l) (j:=j) hj;have htk:(l.take (j+1)).map (λk:Tk=>D.str k.1)=(l.take j).map (λk:Tk=>D.str k.1)++[.str (AQ l j).1]:=by
   rw[Za hj,Zu];simp[AQ,Qd hj]
  have hal:((l.take j).map (λk:Tk=>D.str k.1)).length=j:=by simp;omega
  have hnil:nl=true->(l.take j).map (λk:Tk=>D.str k.1)=[]:=by
   rw[hn];intro h;have:j=0:=by simpa using h
   subst this;rfl
  generalize (l.take j).map (λk:Tk=>D.str k.1)=acc at h3 htk hal hnil;generalize AQ l j=k at hat htk;obtain⟨n,p,knl,rs⟩:=k;replace hat:(Ax l)[j]?=some (.agg [.str n,.str p,.slice knl [] (Al rs)]):=hat;obtain⟨st_s,st_m,st_c⟩:=st;simp only at h3 h7 h8 h9 hG htk;simp only[↓go1,gB0,simprocAttr,h3,h7,h8,h9,hlt,hj0,Qi,hat,Af,Ap,Aq,Qa,Qe,Qr,Qw,Qk,and_false];refine Ao.intro ⟨by omega,rfl,?_⟩ ?_
  ·first
    |exact(((hG.put (by omega)).put (by omega)).more (by omega)).grow (by omega)
    |exact(Gw.put (Gw.put hG (by omega)) (by omega)).grow (by omega)
  rw[BH hnil,←htk];simp only[↓go1,gB2,simprocAttr,h9,hw];refine ih (j+1) false _ _ _ (by omega) (by simp) ?_ rfl h7 h8 rfl;exact Gw.new (by simp only;omega)
open Classical in
def F129:List D->Option D
 |[.agg [.slice _ _ xs]]=>if Er xs then some (.slice (decide ((B1 xs).length=0)) [] ((B1 xs).map λk=> .str k.1))else none
 |_=>none
def ok129:(Ac F129).ok Qc 129:=by
 refine Az (S:=λ_=>none) AK fn129 (λds r h=>?_) (λds r h=>?_)
 ·unfold F129 at h;split at h
  ·simp
  ·cases h
 ·unfold F129 at h;split at h
  ·rename_i nl t xs;split at h
   ·rename_i hc;obtain⟨l,rfl,hl,e⟩:=DQ hc;rw[e]at h;simp only[Qb]at h;subst h;unfold dc129;simp only[↓go1,go2,go3,simprocAttr,AM,Af,Qu,QR,gB3,Qm,Ql,and_self];refine loop129 (l:=l) (nl0:=nl) (t0:=t) hl (λst nl' t' h1 h2=>?_) l.length 0 true [] _ _ (by omega) (by simp) (.inl rfl) rfl rfl rfl rfl;simp only[↓go1,gB2,simprocAttr,h2];rw[h1]
    first|done|rfl|exact⟨rfl,rfl⟩
   ·cases h
  ·cases h
end Go.Vd
namespace Go.Vd
open Go.Proofs
def dc146:=y0 f146 [] []
def fn146:Fn Qc 146 6 dc146 [.t 2]:=Am func146
def dc253:=y0 f253 [] []
def fn253:Fn Qc 253 8 dc253 [.t 2]:=Am func253
def dc148l0:=y1 f148 3 [] []
def dc148:=y0 f148 [] [(3,dc148l0)]
def fn148:Fn Qc 148 21 dc148 [.t 2]:=Am func148
def dc158:=y0 f158 [] []
def fn158:Fn Qc 158 18 dc158 [.cell (some 3) 4,.t 5]:=Am func158
def dc344:=y0 f344 [] []
def fn344:Fn Qc 344 6 dc344 [.t 2]:=Am func344
def dc259:=y0 f259 [] []
def fn259:Fn Qc 259 15 dc259 [.t 6]:=Am func259
end Go.Vd
namespace Go.Vd
open Go.Proofs Go.RowKit
def F259:List D->Option D
 |[.int .i64 n,.int .i64 lo,.int .i64 hi]=>some (.bool (decide (lo<=n∧n<=hi)))
 |_=>none
def ok259:(Ac F259).ok Qc 259:=by
 refine Az (S:=λ_=>none) AK fn259 (λds r h=>?_) (λds r h=>?_)
 ·unfold F259 at h;split at h
  ·simp
  ·cases h
 ·unfold F259 at h;split at h
  ·rename_i n lo hi;simp only[Qb]at h;subst h;unfold dc259;simp only[↓go1,go2,simprocAttr]
   repeat' (first|(refine ifQ.intro (λh=>?_) (λh=>?_)<;>try (exfalso;omega))|(simp only[↓go1,gB2,simprocAttr,h,and_self,false_and]))
   all_goals (simp_all<;>omega)
  ·cases h
def K344:D->D->Option D
 | .junk,.int .i64 x=>some (.bool (!decide (1<=x∧x<=999)))
 |_,_=>none
def clo344:(cloS K344).ok Qc 344:=by
 obtain⟨S,hS,hl⟩:=A6 (Ab ok259 Ad);have s259:=hl 259 _ rfl;clear hl;refine clo_ok (S:=S) hS fn344 (λx caps m fr c d hcap hF hfr hl=>⟨by omega,?_⟩);unfold K344 at hF;split at hF
 ·rename_i n;simp only[Qb]at hF;subst hF;have h259:∀n lo hi,F259 [.int .i64 n,.int .i64 lo,.int .i64 hi]=some (.bool (decide (lo<=n∧n<=hi))):=λ_ _ _=>rfl
  unfold dc344;simp only[↓go1,gB2,simprocAttr,Aa s259,h259]
  try exact λi o y h=>h
 ·cases hF
def idx388:(E8 344 none K344).ok Qc 388:=idx_ok (by omega) fn388 rfl clo344
def cn343:(cnS 344 none K344).ok Qc 343:=cn_ok (by omega) fn343 idx388
def mtsD_head(l:List Mt):D.headSz (Ar l) 3=3:=by cases l<;>rfl
def mtsOk(nl:Bool)(xs:List D):Prop:=xs=Ar (BU xs)∧xs.length<=1000000∧(nl=true->xs=[])
def mtsOk_mk{nl:Bool}{l:List Mt}(hl:l.length<=1000000)(hn:nl=true->l=[]):mtsOk nl (Ar l):=⟨by rw[Bc],by rw[Av];exact hl,λh=>by rw[hn h];rfl⟩
def mtsOk_get{nl:Bool}{xs:List D}(h:mtsOk nl xs):∃l:List Mt,xs=Ar l∧l.length<=1000000∧(nl=true->l=[])∧BU xs=l:=by
 refine⟨BU xs,h.1,?_,λhn=>?_,rfl⟩
 ·have:=h.2.1;rw[h.1,Av]at this;exact this
 ·rw[h.2.2 hn];rfl
open Classical in
def F253:List D->Option D
 |[.slice nl _ xs]=>if mtsOk nl xs then some (.slice nl [] xs)else none
 |_=>none
open Classical in
def F253_eq{nl:Bool}{t:Id}{l:List Mt}(hl:l.length<=1000000)(hn:nl=true->l=[]):F253 [.slice nl t (Ar l)]=some (.slice nl [] (Ar l)):=by
 show(if _ then _ else _)=_;rw[if_pos (mtsOk_mk hl hn)]
def ok253:(Ac F253).ok Qc 253:=by
 refine Az (S:=λ_=>none) AK fn253 (λds r h=>?_) (λds r h=>?_)
 ·unfold F253 at h;split at h
  ·simp
  ·cases h
 ·unfold F253 at h;split at h
  ·rename_i nl t xs;split at h
   ·rename_i hc;obtain⟨l,rfl,hl,hn,e⟩:=mtsOk_get hc;simp only[Qb]at h;subst h;have n1:(Ar l).length*33<=140737488355328:=by rw[Av];omega
    unfold dc253;cases nl with
    |true=>
     have:=hn rfl;subst this;simp only[↓go1,gB2,simprocAttr,bne_tf,nilEq];rfl
    |false=>simp only[↓go1,gB0,simprocAttr,Af,false_and,bne_ff,n1,mtsD_head,EV,Ed,false_or,QH,ne_eq,QI,QM,nilEq]
   ·cases h
  ·cases h
open Classical in
def F146:List D->Option D
 |[.agg [.slice nl _ xs]]=>if mtsOk nl xs then some (.slice nl [] xs)else none
 |_=>none
def ok146:(Ac F146).ok Qc 146:=by
 obtain⟨S,hS,hl⟩:=A6 (Ab ok253 Ad);have s253:=hl 253 _ rfl;clear hl;refine Az (S:=S) hS fn146 (λds r h=>?_) (λds r h=>?_)
 ·unfold F146 at h;split at h
  ·simp
  ·cases h
 ·unfold F146 at h;split at h
  ·rename_i nl t xs;split at h
   ·rename_i hc;obtain⟨l,rfl,hl,hn,e⟩:=mtsOk_get hc;simp only[Qb]at h;subst h;have h253:=F253_eq (t:=[]) hl hn;unfold dc146;simp only[↓go1,gB0,simprocAttr,Af,Aa s253,h253]
   ·cases h
  ·cases h
def firstT_lt(bs:List Bool):Be bs<bs.length:=by
 unfold Be;cases h:bs.findIdx? id with
 |none=>simp only;omega
 |some k=>
  rw[Q8]at h;obtain⟨hk,_⟩:=h;simp only;omega
def findE_lt(l:List Mt)(p:Bs):B0 l p<l.length:=by
 have:=firstT_lt (l.map λm=>decide (m.1=p));rw[QA]at this;exact this
open Classical in
def F158:List D->Option D
 |[.agg [.slice _ _ xs],.str p]=>if xs=Ar (BU xs)∧xs.length<=1000000 then some (.tup (if B0 (BU xs) p<0 then [mtD ([],0,false),.int .i64 14]else [mtD (A0 (BU xs) (B0 (BU xs) p).toNat),.int .i64 0]))else none
 |_=>none
def ok158:(Ac F158).ok Qc 158:=by
 obtain⟨S,hS,hl⟩:=A6 (Ab ok103 Ad);have s103:=hl 103 _ rfl;clear hl;refine Az (S:=S) hS fn158 (λds r h=>?_) (λds r h=>?_)
 ·unfold F158 at h;split at h
  ·simp
  ·cases h
 ·unfold F158 at h;split at h
  ·rename_i nl t xs p;split at h
   ·rename_i hc;obtain⟨hx,hl⟩:=hc;simp only[Qb]at h;subst h;generalize BU xs=l at hx;subst hx;rw[Av]at hl;have h103:=F103_eq (nl:=nl) (t:=[]) (p:=p) hl;have hlt:=findE_lt l p;unfold dc158;generalize B0 l p=i at h103 hlt;by_cases hi:i<0
    ·simp only[↓go1,gB0,simprocAttr,Af,Ap,Aq,Qa,Qe,Qk,Qj,Qn,QO,and_false,AX,Bj,BK,Aa s103,h103,hi];simp[mtD];rfl
    ·obtain⟨j,rfl⟩:=Int.eq_ofNat_of_zero_le (show 0<=i by omega);have hj:j<l.length:=by omega
     have hj0:=nJ (j:=j);have hat:(Ar l)[j]?=some (.agg [.str (A0 l j).1,.int .i64 (A0 l j).2.1,.bool (A0 l j).2.2]):=DA hj;simp only[↓go1,gB0,simprocAttr,Af,Ap,Aq,Qa,Qe,Qr,Qw,Qk,Qj,Qn,QO,and_false,AX,Bj,Aa s103,h103,hi,hj0,hat,Qi];simp[mtD];rfl
   ·cases h
  ·cases h
def lenR(l:List Mt):Nat->Nat->Nat->Nat
 |0,_,a=>a
 |f+1,j,a=>lenR l f (j+1) (a+(4+(A0 l j).1.length))
def lenM(l:List Mt):Nat:=lenR l l.length 0 0
def loop148{S:Summs}{ns:Id}{l:List Mt}{nl:Bool}{t:Id}{Q:Ex->St->Prop}{e:Nat}(hb:l.length<=1000)(hp:∀m∈l,m.1.length<=1000000)
  (hexit:∀st,st.s 3= .int .i64 (e:Int)->Q (.exit 0) st):
  ∀(f j a:Nat) st g,l.length=j+f->a<=j*1000004->lenR l f j a=e->st.s 3= .int .i64 (a:Int)->st.s 7= .slice nl t (Ar l)->st.s 8= .int .i64 (l.length:Int)->st.s 9= .int .i64 (j:Int)->A4 S ns dc148l0 Q st g:=by
 intro f;induction f with
 |zero=>
  intro j a st g hf ha he h3 h7 h8 h9;refine Ae dc148l0.eq_1 ?_;have:¬((j:Int)<l.length):=by omega
  simp only[↓go1,go2,go4,reduceIte,Qg,h8,h9,this];exact hexit _ (by rw[←he];exact h3)
 |succ f ih=>
  intro j a st g hf ha he h3 h7 h8 h9;refine Ae dc148l0.eq_1 ?_;unfold lenR at he;have hj:j<l.length:=by omega
  have hlt:((j:Int)<l.length):=by omega
  have hj0:=nJ (j:=j);have hw:=wJ (j:=j) (by omega);have hat:(Ar l)[j]?=some (.agg [.str (A0 l j).1,.int .i64 (A0 l j).2.1,.bool (A0 l j).2.2]):=DA hj;have hm:A0 l j∈l:=by simp[A0,Qd hj]
  have hpl:=hp _ hm;generalize A0 l j=m at hat he hpl;have hw2:IntKind.i64.wrap ((4:Int)+(m.1.length:Int))=((4+m.1.length:Nat):Int):=by rw[w64 (by omega) (by omega)];omega
  have hw3:IntKind.i64.wrap ((a:Int)+((4+m.1.length:Nat):Int))=((a+(4+m.1.length):Nat):Int):=by rw[w64 (by omega) (by omega)];omega
  obtain⟨st_s,st_m,st_c⟩:=st;simp only at h3 h7 h8 h9;simp only[↓go1,gB0,simprocAttr,h3,h7,h8,h9,hlt,hj0,hw,hw2,hw3,Qi,hat,Af,Ap,Aq,Qa,Qe,Qr,Qw,Qk];exact ih (j+1) _ _ _ (by omega) (by omega) he rfl h7 h8 rfl
open Classical in
def F148:List D->Option D
 |[.agg [.slice _ _ xs]]=>if xs=Ar (BU xs)∧xs.length<=1000∧∀m∈BU xs,m.1.length<=1000000 then some (.int .i64 (lenM (BU xs):Int))else none
 |_=>none
def ok148:(Ac F148).ok Qc 148:=by
 refine Az (S:=λ_=>none) AK fn148 (λds r h=>?_) (λds r h=>?_)
 ·unfold F148 at h;split at h
  ·simp
  ·cases h
 ·unfold F148 at h;split at h
  ·rename_i nl t xs;split at h
   ·rename_i hc;obtain⟨hx,hl,hp⟩:=hc;simp only[Qb]at h;subst h;generalize BU xs=l at hx hp;subst hx;rw[Av]at hl;unfold dc148;simp only[↓go1,go2,go3,simprocAttr,Av,Af,Qu,QR,gB3,Qm,Ql,and_self];refine loop148 (l:=l) (nl:=nl) (t:=t) (e:=lenM l) hl hp (λst h1=>?_) l.length 0 0 _ _ (by omega) (by omega) rfl rfl rfl rfl rfl;simp only[↓go1,gB2,simprocAttr,h1]
   ·cases h
  ·cases h
end Go.Vd
namespace Go.Vd
open Go.Proofs
def dc110:=y0 f110 [] []
def fn110:Fn Qc 110 20 dc110 [.t 2]:=Am func110
def dc74l0:=y1 f74 2 [] []
def dc74:=y0 f74 [] [(2,dc74l0)]
def fn74:Fn Qc 74 20 dc74 [.t 4]:=Am func74
def dc116:=y0 f116 [] []
def fn116:Fn Qc 116 34 dc116 [.t 2]:=Am func116
def dc117l0:=y1 f117 2 [] []
def dc117:=y0 f117 [] [(2,dc117l0)]
def fn117:Fn Qc 117 20 dc117 [.t 4]:=Am func117
end Go.Vd
namespace Go.Vd
open Go.Proofs Go.RowKit
def F110:List D->Option D
 |[.agg [.str p,.int .i64 q,.bool b]]=>if p.length<=1000000 then some (.int .i64 (CX p q))else none
 |_=>none
def ok110:(Ac F110).ok Qc 110:=by
 obtain⟨S,hS,hl⟩:=A6 (Ab ok211 Ad);have s211:=hl 211 _ rfl;clear hl;refine Az (S:=S) hS fn110 (λds r h=>?_) (λds r h=>?_)
 ·unfold F110 at h;split at h
  ·simp
  ·cases h
 ·unfold F110 at h;split at h
  ·rename_i p q b;split at h
   ·rename_i hc;simp only[Qb]at h;subst h;unfold dc110;have h211:F211 [.str p]=some (.int .i64 (AP p)):=if_pos hc;unfold CX;generalize AP p=e at *;simp only[↓go1,gB0,simprocAttr,Af,Aa s211,h211]
    repeat' (first|(refine ifQ.intro (λh=>?_) (λh=>?_)<;>try (exfalso;omega))|(simp only[↓go1,gB0,simprocAttr,h,Af,Qa]))
    all_goals (first|rfl|(rw[D.int.injEq];refine⟨rfl,?_⟩;(repeat' split)<;>first|rfl|(exfalso;simp_all;done)|(exfalso;simp_all;omega)))
   ·cases h
  ·cases h
def Fp{bs:List Bool}{j:Nat}(h:bs[j]?=some true)(hall:∀i,i<j->bs[i]?=some false):Be bs=j:=by
 have hj:j<bs.length:=(Qs.1 h).1;have:bs.findIdx? id=some j:=by
  rw[Q8];refine⟨hj,by rw[Qd hj]at h;simpa using h,λi hi=>?_⟩;have:=hall i hi;rw[Qd (by omega)]at this;simp[Qb]at this;simp[this]
 simp only[Be,this]
def firstT_none{bs:List Bool}(hall:∀i,i<bs.length->bs[i]?=some false):Be bs=-1:=by
 have:bs.findIdx? id=none:=List.findIdx?_eq_none_iff.2 λb hb'=>by
  obtain⟨i,hi,rfl⟩:=Zj hb';have:=hall i hi;rw[Qd hi]at this;simpa using Q5 this
 simp only[Be,this]
def loop74{S:Summs}{ns:Id}{l:List Mt}{p:Bs}{nl:Bool}{t:Id}{Q:Ex->St->Prop}(hb:l.length<=1000000)
  (hret:∀st,st.s 4= .int .i64 (Be (l.map λm=>decide (m.1=p)))->Q .ret st) (hexit:∀st,Be (l.map λm=>decide (m.1=p))=-1->Q (.exit 0) st):
  ∀(f j:Nat) st g,l.length=j+f->(∀i,i<j->(l.map λm=>decide (m.1=p))[i]?=some false)->st.s 0= .slice nl t (Ar l)->st.s 1= .str p->st.s 5= .int .i64 (j:Int)->A4 S ns dc74l0 Q st g:=by
 intro f;induction f with
 |zero=>
  intro j st g hf hall h0 h1 h5;refine Ae dc74l0.eq_1 ?_;have:¬((j:Int)<l.length):=by omega
  simp only[↓go1,go2,go4,simprocAttr,h0,h5,this,Av];exact hexit _ (firstT_none (by rw[QA];intro i hi;exact hall i (by omega)))
 |succ f ih=>
  intro j st g hf hall h0 h1 h5;refine Ae dc74l0.eq_1 ?_;have hj:j<l.length:=by omega
  have hlt:((j:Int)<l.length):=by omega
  have hj0:=nJ (j:=j);have hw:=wJ (j:=j) (by omega);have hat:(Ar l)[j]?=some (.agg [.str (A0 l j).1,.int .i64 (A0 l j).2.1,.bool (A0 l j).2.2]):=DA hj;have hbj:(l.map λm=>decide (m.1=p))[j]?=some (decide ((A0 l j).1=p)):=by simp[A0,Qd hj]
  have hm:A0 l j∈l:=by simp[A0,Qd hj]
  generalize A0 l j=m at hat hbj;obtain⟨st_s,st_m,st_c⟩:=st;simp only at h0 h1 h5;by_cases hq:m.1=p
  ·have hbt:=hbj;simp only[hq,decide_true]at hbt;simp only[↓go1,gB2,simprocAttr,h0,h1,h5,hlt,hj0,Qi,hat,Av,Qu,gB3,Qm,Qp,Qt,hq];exact hret _ (by rw[Fp hbt hall];rfl)
  ·have hbt:=hbj;simp only[hq,decide_false]at hbt;simp only[↓go1,gB2,simprocAttr,h0,h1,h5,hlt,hj0,hw,Qi,hat,Av,Qu,gB3,Qm,Qp,Qt,hq];refine ih (j+1) _ _ (by omega) (λi hi=>?_) h0 h1 rfl;rcases Q7 (Zd hi)with hi|rfl
   ·exact hall i hi
   ·exact hbt
open Classical in
def F74:List D->Option D
 |[.slice _ _ xs,.str p]=>if xs=Ar (BU xs)∧xs.length<=1000000 then some (.int .i64 (B0 (BU xs) p))else none
 |_=>none
def ok74:(Ac F74).ok Qc 74:=by
 refine Az (S:=λ_=>none) AK fn74 (λds r h=>?_) (λds r h=>?_)
 ·unfold F74 at h;split at h
  ·simp
  ·cases h
 ·unfold F74 at h;split at h
  ·rename_i nl t xs p;split at h
   ·rename_i hc;obtain⟨hx,hl⟩:=hc;simp only[Qb]at h;subst h;generalize BU xs=l at hx;subst hx;rw[Av]at hl;unfold dc74 B0;simp only[↓go1,go2,Qg];refine loop74 (l:=l) (p:=p) (nl:=nl) (t:=t) hl (λst h1=>?_) (λst h1=>?_) l.length 0 _ _ (by omega) (by simp) rfl rfl rfl
    ·simp only[↓go1,gB2,h1]
    ·simp only[↓go1,gB2,reduceIte,Qg,h1]
   ·cases h
  ·cases h
def Cw(l:List Mt)(p:Bs):Int:=Be (l.map λm=>Co p m.1)
def loop117{S:Summs}{ns:Id}{l:List Tk}{p:Bs}{nl:Bool}{t:Id}{Q:Ex->St->Prop}(hb:l.length<=1000000)
  (hret:∀st,st.s 4= .int .i64 (Be (l.map λm=>decide (m.1=p)))->Q .ret st) (hexit:∀st,Be (l.map λm=>decide (m.1=p))=-1->Q (.exit 0) st):
  ∀(f j:Nat) st g,l.length=j+f->(∀i,i<j->(l.map λm=>decide (m.1=p))[i]?=some false)->st.s 0= .slice nl t (Ax l)->st.s 1= .str p->st.s 5= .int .i64 (j:Int)->A4 S ns dc117l0 Q st g:=by
 intro f;induction f with
 |zero=>
  intro j st g hf hall h0 h1 h5;refine Ae dc117l0.eq_1 ?_;have:¬((j:Int)<l.length):=by omega
  simp only[↓go1,go2,go4,simprocAttr,h0,h5,this,AM];exact hexit _ (firstT_none (by rw[QA];intro i hi;exact hall i (by omega)))
 |succ f ih=>
  intro j st g hf hall h0 h1 h5;refine Ae dc117l0.eq_1 ?_;have hj:j<l.length:=by omega
  have hlt:((j:Int)<l.length):=by omega
  have hj0:=nJ (j:=j);have hw:=wJ (j:=j) (by omega);have hat:(Ax l)[j]?=some (.agg [.str (AQ l j).1,.str (AQ l j).2.1,.slice (AQ l j).2.2.1 [] (Al (AQ l j).2.2.2)]):=DZ hj;have hbj:(l.map λm=>decide (m.1=p))[j]?=some (decide ((AQ l j).1=p)):=by simp[AQ,Qd hj]
  have hm:AQ l j∈l:=by simp[AQ,Qd hj]
  generalize AQ l j=m at hat hbj;obtain⟨st_s,st_m,st_c⟩:=st;simp only at h0 h1 h5;by_cases hq:m.1=p
  ·have hbt:=hbj;simp only[hq,decide_true]at hbt;simp only[↓go1,gB2,simprocAttr,h0,h1,h5,hlt,hj0,Qi,hat,AM,Qu,gB3,Qm,Qp,Qt,hq];exact hret _ (by rw[Fp hbt hall];rfl)
  ·have hbt:=hbj;simp only[hq,decide_false]at hbt;simp only[↓go1,gB2,simprocAttr,h0,h1,h5,hlt,hj0,hw,Qi,hat,AM,Qu,gB3,Qm,Qp,Qt,hq];refine ih (j+1) _ _ (by omega) (λi hi=>?_) h0 h1 rfl;rcases Q7 (Zd hi)with hi|rfl
   ·exact hall i hi
   ·exact hbt
def Dn(l:List Tk)(p:Bs):Int:=Be (l.map λm=>decide (m.1=p))
open Classical in
def F117:List D->Option D
 |[.slice _ _ xs,.str p]=>if xs=Ax (B1 xs)∧xs.length<=1000000 then some (.int .i64 (Dn (B1 xs) p))else none
 |_=>none
def ok117:(Ac F117).ok Qc 117:=by
 refine Az (S:=λ_=>none) AK fn117 (λds r h=>?_) (λds r h=>?_)
 ·unfold F117 at h;split at h
  ·simp
  ·cases h
 ·unfold F117 at h;split at h
  ·rename_i nl t xs p;split at h
   ·rename_i hc;obtain⟨hx,hl⟩:=hc;simp only[Qb]at h;subst h;generalize B1 xs=l at hx;subst hx;rw[AM]at hl;unfold dc117 Dn;simp only[↓go1,go2,Qg];refine loop117 (l:=l) (p:=p) (nl:=nl) (t:=t) hl (λst h1=>?_) (λst h1=>?_) l.length 0 _ _ (by omega) (by simp) rfl rfl rfl
    ·simp only[↓go1,gB2,h1]
    ·simp only[↓go1,gB2,reduceIte,Qg,h1]
   ·cases h
  ·cases h
def ok116:(Ac F113).ok Qc 116:=by
 obtain⟨S,hS,hl⟩:=A6 (Ab ok217 (Ab ok218 Ad));have s217:=hl 217 _ rfl;have s218:=hl 218 _ rfl;clear hl;refine Az (S:=S) hS fn116 (λds r h=>?_) (λds r h=>?_)
 ·unfold F113 at h;split at h
  ·simp
  ·cases h
 ·unfold F113 at h;split at h
  ·rename_i n p nl t xs;split at h
   ·rename_i hc;obtain⟨⟨hx,hl,hp⟩,hn,hpp⟩:=hc;simp only[Qb]at h;subst h;generalize Bb xs=l at hx hp;subst hx;rw[As]at hl;have h217n:F217 [.str n]=some (.bool (Bz n)):=rfl;have h217p:F217 [.str p]=some (.bool (Bz p)):=rfl;have h218:=Fpol_eq (nl:=nl) (t:=[]) hl hp;have hu:=Fg l;have hcl:=Dg l;unfold dc116 Gg;generalize Cm l=e at *;generalize Bz p=bp at *;generalize Bz n=bn at *;cases bn with
    |false=>simp only[↓go1,gB0,simprocAttr,Af,Aa s217,h217n]
    |true=>
     simp only[↓go1,gB0,simprocAttr,Af,Qa,Aa s217,h217n,Aa s218,h218]
     repeat' (first|(refine ifQ.intro (λh=>?_) (λh=>?_)<;>try (exfalso;omega))|(simp only[↓go1,gB0,simprocAttr,h,Af,Qa,false_and,and_false,Aa s217,h217p]))
     all_goals (try simp_all)
   ·cases h
  ·cases h
end Go.Vd
namespace Go.Vd
open Go.Proofs
def dc119l0:=y1 f119 2 [] []
def dc119:=y0 f119 [(4,[(0,5),(4,5),(4,6),(6,4)])] [(2,dc119l0)]
def fn119:Fn Qc 119 34 dc119 [.t 4]:=Am func119
def dc52:=y0 f52 [] []
def fn52:Fn Qc 52 44 dc52 [.t 4,.t 5]:=Am func52
def dc49:=y0 f49 [] []
def fn49:Fn Qc 49 5 dc49 [.t 0]:=Am func49
end Go.Vd
namespace Go.Vd
open Go.Proofs Go.RowKit
def F49:List D->Option D
 |[]=>some (.slice false [] (Ax [firstTk]))
 |_=>none
def ok49:(Ac F49).ok Qc 49:=by
 refine Az (S:=λ_=>none) AK fn49 (λds r h=>?_) (λds r h=>?_)
 ·unfold F49 at h;split at h
  ·simp
  ·cases h
 ·unfold F49 at h;split at h
  ·simp only[Qb]at h;subst h;unfold dc49;simp only[↓go1,gB2,simprocAttr,gB3,Qm,and_self,Qr,Qw,Qp,QB,Qn,Qo,BK,C0,QH,QI,QM,Ax,tkD,firstTk,Al,rlD,Q3,QI]
  ·cases h
end Go.Vd
namespace Go.Vd
open Go.Proofs
def dc107:=y0 f107 [] []
def fn107:Fn Qc 107 14 dc107 []:=Am func107
def dc208l0:=y1 f208 2 [] []
def dc208:=y0 f208 [] [(2,dc208l0)]
def fn208:Fn Qc 208 148 dc208 []:=Am func208
def dc302l0:=y1 f302 4 [] []
def dc302l1:=y1 f302 1 [] [(4,dc302l0)]
def dc302:=y0 f302 [] [(1,dc302l1)]
def fn302:Fn Qc 302 53 dc302 []:=Am func302
def dc209:=y0 f209 [] []
def fn209:Fn Qc 209 8 dc209 [.t 2]:=Am func209
def dc311:=y0 f311 [] []
def fn311:Fn Qc 311 25 dc311 [.t 2]:=Am func311
def dc45:=y0 f45 [(6,[(3,1)])] []
def fn45:Fn Qc 45 44 dc45 [.cell (some 1) 4,.t 5]:=Am func45
end Go.Vd
namespace Go.Vd
open Go.Proofs Go.RowKit
def m0t:Mt:=([],0,false)
def ltM(a b:Mt):Bool:=decide (F7 a.1 b.1<0)
def RowM(i:Id)(m:Mem)(xs:List Mt):Prop:=∀j,j<xs.length->m i (j*3)=some (.str (xs.getD j m0t).1)∧m i (j*3+1)=some (.int .i64 (xs.getD j m0t).2.1)∧m i (j*3+2)=some (.bool (xs.getD j m0t).2.2)
structure RowI (i:Id) (m0 m:Mem) (xs:List Mt):Prop where
 row:RowM i m xs
 out:∀i' o,(i'≠i∨xs.length*3<=o)->m i' o=m0 i' o
def RowI.put{i:Id}{m0 m:Mem}{xs:List Mt}(h:RowI i m0 m xs){j:Nat}(hj:j<xs.length){p:Bs}{q:Int}{b:Bool}:RowI i m0 (m.put i (j*3) [.str p,.int .i64 q,.bool b]) (xs.set j (p,q,b)):=by
 refine⟨λk hk=>?_,λi' o ho=>?_⟩
 ·rw[Zw]at hk;by_cases e:k=j
  ·subst e;have hg:(xs.set k (p,q,b)).getD k m0t=(p,q,b):=by simp[QL,hk]
   rw[hg];refine⟨?_,?_,?_⟩
   ·rw[Af,if_pos ⟨rfl,by omega,by simp⟩,ZB];rfl
   ·rw[Af,if_pos ⟨rfl,by omega,by simp⟩,show k*3+1-k*3=1 by omega];rfl
   ·rw[Af,if_pos ⟨rfl,by omega,by simp⟩,show k*3+2-k*3=2 by omega];rfl
  ·have hg:(xs.set j (p,q,b)).getD k m0t=xs.getD k m0t:=by simp[QL,List.getElem?_set_ne (Ne.symm e)]
   rw[hg];have hn:∀d,d<3->¬(i=i∧j*3<=k*3+d∧k*3+d<j*3+[D.str p,.int .i64 q,.bool b].length):=by
    intro d hd;simp;omega
   obtain⟨a1,a2,a3⟩:=h.row k hk;exact⟨by rw[Af,if_neg (by have:=hn 0 (by omega);rwa [Zm]at this)];exact a1,by rw[Af,if_neg (hn 1 (by omega))];exact a2,by rw[Af,if_neg (hn 2 (by omega))];exact a3⟩
 ·rw[Zw]at ho;rw[Af,if_neg (by rintro⟨e,h1,h2⟩;simp at h2;rcases ho with ho|ho;exact ho e;omega)];exact h.out i' o ho
def RowI.swp{i:Id}{m0 m:Mem}{xs:List Mt}(h:RowI i m0 m xs){j:Nat}(hj:j+1<xs.length){x y:Mt}(hx:xs.getD j m0t=x)(hy:xs.getD (j+1) m0t=y):
  RowI i m0 ((m.put i ((j+1)*3) [.str x.1,.int .i64 x.2.1,.bool x.2.2]).put i (j*3) [.str y.1,.int .i64 y.2.1,.bool y.2.2]) (Go.Vd.swp m0t xs j):=by
 unfold Go.Vd.swp;rw[hx,hy];exact(h.put (j:=j+1) hj).put (by rw[Zw];omega)
def h108(a b:Mt):F108 [mtD a,mtD b]=some (.int .i64 (F7 a.1 b.1)):=rfl
def loop302i{S:Summs}{fr i:Id}{n:Nat}{m0:Mem}{i8:Nat}{Q:Ex->St->Prop}(s108:S 108=some (Ac F108))(hn:n<=1000):
  ∀(j:Nat)(xs:List Mt) st g,xs.length=n->j<n->st.s 0= .row i n->st.s 1= .int .i64 0->st.s 2= .int .i64 (n:Int)->st.s 3= .fn 108 []->st.s 8= .int .i64 (i8:Int)->st.s 9= .int .i64 (j:Int)->RowI i m0 st.m xs->
   (∀st',st'.s 0= .row i n->st'.s 1= .int .i64 0->st'.s 2= .int .i64 (n:Int)->st'.s 3= .fn 108 []->st'.s 8= .int .i64 (i8:Int)->RowI i m0 st'.m (insE ltM m0t xs j)->Q (.exit 2) st')->A4 S fr dc302l0 Q st g:=by
 intro j;induction j with
 |zero=>
  intro xs st g hl hj h0 h1 h2 h3 h8 h9 I hex;refine Ae dc302l0.eq_1 ?_;have hgt:¬((0:Int)<((0:Nat):Int)):=by omega
  simp only[↓go1,go2,go4,simprocAttr,h1,h9,hgt];refine Ao.intro (Aj rfl) ?_;simp only[↓go1,go2,reduceIte,Qf];exact hex _ h0 h1 h2 h3 h8 I
 |succ j ih=>
  intro xs st g hl hj h0 h1 h2 h3 h8 h9 I hex;refine Ae dc302l0.eq_1 ?_;have hgt:((0:Int)<((j+1:Nat):Int)):=by omega
  have w1:IntKind.i64.wrap (((j+1:Nat):Int)-1)=(j:Int):=by rw[w64 (by omega) (by omega)];omega
  have hj0:=nJ (j:=j);have hj1:(0:Int)<=((j+1:Nat):Int):=by omega
  have hjn:((j:Int)<(n:Int)):=by omega
  have hj1n:(((j+1:Nat):Int)<(n:Int)):=by omega
  have bn:(3=1)=False:=by simp
  obtain⟨a0,a1,a2⟩:=I.row j (by omega);obtain⟨b0,b1,b2⟩:=I.row (j+1) (by omega);obtain⟨x,hx⟩:∃x,xs.getD j m0t=x:=⟨_,rfl⟩;obtain⟨y,hy⟩:∃y,xs.getD (j+1) m0t=y:=⟨_,rfl⟩;have hst:=hex;unfold insE at hst;have hlt:ltM (xs.getD (j+1) m0t) (xs.getD j m0t)=decide (F7 (xs.getD (j+1) m0t).1 (xs.getD j m0t).1<0):=rfl;rw[hlt]at hst;rw[hx]at a0 a1 a2 hst;rw[hy]at b0 b1 b2 hst;clear hlt;have hc:=h108 y x;simp only[mtD]at hc;obtain⟨st_s,st_m,st_c⟩:=st;simp only at h0 h1 h2 h3 h8 h9 a0 a1 a2 b0 b1 b2 I;by_cases hlt:F7 y.1 x.1<0
  ·rw[if_pos (by simpa using hlt)]at hst;have q1:((j+1)*3<=j*3)=False:=eq_false (by omega);have q2:((j+1)*3<=j*3+1)=False:=eq_false (by omega);have q3:((j+1)*3<=j*3+1+1)=False:=eq_false (by omega);have hlt':decide (F7 y.1 x.1<0)=true:=by simpa using hlt
   simp only[↓go1,gB2,simprocAttr,h0,h1,h3,h9,hgt,hj0,hj1,hjn,hj1n,w1,bn,Qi,a0,a1,a2,b0,b1,b2,hlt,Aa s108,hc,Ap,Aq,and_self,Qe];refine Ao.intro (Aj rfl) ?_;simp only[↓go1,go2,go3,simprocAttr,h0,h9,hj0,hj1,hjn,hj1n,w1,bn,Qi,a0,a1,a2,b0,b1,b2,q1,q2,q3,false_and,and_false,Af,Ap,Aq,gB3,Qm,and_self,Qe,Qk];refine Ao.intro (Aj rfl) ?_;simp only[↓go1,go2,simprocAttr,h9,w1,bn];refine ih _ _ _ (by rw[swp_len];exact hl) (by omega) h0 h1 h2 h3 h8 rfl ?_ hst;exact I.swp (by omega) hx hy
  ·rw[if_neg (by simpa using hlt)]at hst;simp only[↓go1,gB2,simprocAttr,h0,h1,h3,h9,hgt,hj0,hj1,hjn,hj1n,w1,bn,Qi,a0,a1,a2,b0,b1,b2,hlt,Aa s108,hc,Ap,Aq,and_self,Qe];refine Ao.intro (Aj rfl) ?_;simp only[↓go1,go2,reduceIte,Qf,bn];exact hst _ h0 h1 h2 h3 h8 I
def loop302o{S:Summs}{fr i:Id}{n:Nat}{m0:Mem}{Q:Ex->St->Prop}(s108:S 108=some (Ac F108))(hn:n<=1000){zs:List Mt}
  (hexit:∀st,RowI i m0 st.m zs->Q (.exit 0) st):
  ∀(f k:Nat)(xs:List Mt) st g,xs.length=n->k+f=n->Dd ltM m0t f k xs=zs->st.s 0= .row i n->st.s 1= .int .i64 0->st.s 2= .int .i64 (n:Int)->st.s 3= .fn 108 []->st.s 8= .int .i64 (k:Int)->RowI i m0 st.m xs->
   A4 S fr dc302l1 Q st g:=by
 intro f;induction f with
 |zero=>
  intro k xs st g hl hk hz h0 h1 h2 h3 h8 I;refine Ae dc302l1.eq_1 ?_;have:¬((k:Int)<n):=by omega
  simp only[↓go1,go2,go4,simprocAttr,h2,h8,this];exact hexit _ (by rw[←hz];exact I)
 |succ f ih=>
  intro k xs st g hl hk hz h0 h1 h2 h3 h8 I;refine Ae dc302l1.eq_1 ?_;have hlt:((k:Int)<n):=by omega
  have hw:IntKind.i64.wrap ((k:Int)+1)=((k+1:Nat):Int):=w64 (by omega) (by omega);simp only[↓go1,go2,go4,simprocAttr,h2,h8,hlt];refine loop302i (i8:=k) (m0:=m0) s108 hn k xs _ _ hl (by omega) h0 h1 h2 h3 h8 rfl I (λst' g0 g1 g2 g3 g8 I'=>?_);simp only[↓go1,go2,simprocAttr,g8,hw];exact ih (k+1) _ _ _ (by rw[insE_len];exact hl) (by omega) hz g0 g1 g2 g3 rfl I'
def rowR(m:Mem)(i:Id):Nat->Nat->Option (List Mt)
 |0,_=>some []
 |f+1,j=>match m i (j*3),m i (j*3+1),m i (j*3+2),rowR m i f (j+1)with
  |some (.str p),some (.int .i64 q),some (.bool b),some l=>some ((p,q,b)::l)
  |_,_,_,_=>none
def rowR_some{m:Mem}{i:Id}:∀{f j:Nat} {xs:List Mt},rowR m i f j=some xs->xs.length=f∧∀k,k<f->m i ((j+k)*3)=some (.str (xs.getD k m0t).1)∧m i ((j+k)*3+1)=some (.int .i64 (xs.getD k m0t).2.1)∧m i ((j+k)*3+2)=some (.bool (xs.getD k m0t).2.2)
 |0,j,xs,h=>by
  simp only[rowR,Qb]at h;subst h;exact⟨rfl,λk hk=>absurd hk (Nat.not_lt_zero _)⟩
 |f+1,j,xs,h=>by
  unfold rowR at h;split at h
  ·rename_i p q b l e1 e2 e3 e4;simp only[Qb]at h;subst h;obtain⟨r1,r2⟩:=rowR_some e4;refine⟨by simp[r1],λk hk=>?_⟩;cases k with
   |zero=>exact⟨e1,e2,e3⟩
   |succ k=>
    have:=r2 k (by omega);rw[show j+1+k=j+(k+1)by omega]at this;exact this
  ·cases h
def rowR_loc{m m':Mem}{i:Id}:∀{f j n:Nat},j+f<=n->(∀o,o<n*3->m i o=m' i o)->rowR m i f j=rowR m' i f j
 |0,j,n,_,_=>rfl
 |f+1,j,n,hn,h=>by
  unfold rowR;rw[h (j*3) (by omega),h (j*3+1) (by omega),h (j*3+2) (by omega),rowR_loc (f:=f) (j:=j+1) (by omega) h]
def rowR_of{m:Mem}{i:Id}{xs:List Mt}(h:∀j d,(flat (Ar xs))[j]?=some d->m i j=some d):rowR m i xs.length 0=some xs:=by
 have key:∀(ys pre:List Mt),pre++ys=xs->rowR m i ys.length pre.length=some ys:=by
  intro ys;induction ys with
  |nil=>intro pre _;rfl
  |cons y r ih=>
   intro pre hp;have hsz:∀x∈Ar xs,x.cells.length=3:=λx hx=>by obtain⟨z,_,rfl⟩:=QE.1 hx;rfl
   have hlt:pre.length<(Ar xs).length:=by rw[Av,←hp];simp
   have hg:(Ar xs)[pre.length]=mtD y:=by simp[Ar,←hp]
   have e0:=h _ _ ((Eg hsz hlt (j:=0) (by omega)).trans (by rw[hg];rfl));have e1:=h _ _ ((Eg hsz hlt (j:=1) (by omega)).trans (by rw[hg];rfl));have e2:=h _ _ ((Eg hsz hlt (j:=2) (by omega)).trans (by rw[hg];rfl));have:=ih (pre++[y]) (by rw[←hp];simp);rw[Qy]at this;rw[Zm]at e0;have this:rowR m i r.length (pre.length+1)=some r:=this;simp only[QY,rowR,e0,e1,e2,this]
 exact key xs [] rfl
def sortU(m:Mem)(i:Id)(n:Nat):Option (D×Upd):=if n<=12∧1<=n then(rowR m i n 0).map λxs=>(.tup [],[(i,0,flat (Ar (Dd ltM m0t (n-1) 1 xs)))])else none
def EK(sh:List D->Option (Id×Nat)):Summ where
 rd:=λds _=>match sh ds with
  |some (i,n)=>(ZA (n*3)).map λo=>(i,o)
  |none=>[]
 ex:=λds m _=>match sh ds with
  |some (i,n)=>sortU m i n
  |none=>none
def sortQ_loc(sh:List D->Option (Id×Nat)):∀ds m m' fr,(∀l∈(EK sh).rd ds m,m l.1 l.2=m' l.1 l.2)->(EK sh).ex ds m fr=(EK sh).ex ds m' fr:=by
 intro ds m m' fr h;simp only[EK]at h ⊢;cases hs:sh ds with
 |none=>rfl
 |some p=>
  obtain⟨i,n⟩:=p;simp only[hs]at h ⊢;unfold sortU;split
  ·rw[rowR_loc (m:=m) (m':=m') (n:=n) (by omega) λo ho=>h (i,o) (QE.2 ⟨o,by simpa using ho,rfl⟩)]
  ·rfl
def sortQ_some{sh:List D->Option (Id×Nat)}{ds:List D}{m:Mem}{fr:Id}{r:D}{u:Upd}(h:(EK sh).ex ds m fr=some (r,u)):
  ∃i n xs,sh ds=some (i,n)∧n<=12∧1<=n∧rowR m i n 0=some xs∧xs.length=n∧RowI i m m xs∧r= .tup []∧u=[(i,0,flat (Ar (Dd ltM m0t (n-1) 1 xs)))]:=by
 simp only[EK]at h;cases hs:sh ds with
 |none=>rw[hs]at h;cases h
 |some p=>
  obtain⟨i,n⟩:=p;simp only[hs]at h;unfold sortU at h;split at h
  ·rename_i hc;rw[Qh]at h;obtain⟨xs,hx,h⟩:=h;simp only[Qz]at h;obtain⟨rfl,rfl⟩:=h;obtain⟨r1,r2⟩:=rowR_some hx;exact⟨i,n,xs,rfl,hc.1,hc.2,hx,r1,⟨λj hj=>by have:=r2 j (by omega);rwa [Qm]at this,λ_ _ _=>rfl⟩,rfl,rfl⟩
  ·cases h
def RowI.fin{i:Id}{m0 m:Mem}{xs:List Mt}(h:RowI i m0 m xs):∀i' o x,(m0.put i 0 (flat (Ar xs))) i' o=some x->m i' o=some x:=by
 intro i' o x hx;have hsz:∀x∈Ar xs,x.cells.length=3:=λx hx=>by obtain⟨z,_,rfl⟩:=QE.1 hx;rfl
 have hfl:=B_ hsz;rw[Av]at hfl;rw[Af]at hx;split at hx
 ·rename_i hc;obtain⟨rfl,_,ho⟩:=hc;rw[QR]at hx;have hk:o / 3<xs.length:=by omega
  have hlt:o / 3<(Ar xs).length:=by rw[Av];exact hk
  have hg:(Ar xs)[o / 3]=mtD (xs.getD (o / 3) m0t):=by simp[Ar,Qd hk]
  obtain⟨a0,a1,a2⟩:=h.row (o / 3) hk;have hj:o % 3<3:=Nat.mod_lt _ (by omega);have e:o / 3*3+o % 3=o:=by omega
  have:=Eg hsz hlt hj;rw[e,hx,hg]at this;have h3:o % 3=0∨o % 3=1∨o % 3=2:=by omega
  rcases h3 with h3|h3|h3
  ·rw[h3]at this e;rw[Zm]at e;rw[←e,a0,this];rfl
  ·rw[h3]at this e;rw[←e,a1,this];rfl
  ·rw[h3]at this e;rw[←e,a2,this];rfl
 ·rename_i hc;rw[←hx];refine h.out i' o ?_;by_cases e:i'=i
  ·right;rcases Zl o (xs.length*3)with hl|hl
   ·exact absurd ⟨e,Qu _,by omega⟩ hc
   ·exact hl
  ·exact .inl e
def sh302:List D->Option (Id×Nat)
 |[.row i n,.int .i64 0,.int .i64 k,.fn 108 []]=>if k=(n:Int)then some (i,n)else none
 |_=>none
def ok302:(EK sh302).ok Qc 302:=by
 obtain⟨S,hS,hl⟩:=A6 (Ab ok108 Ad);have s108:=hl 108 _ rfl;clear hl;refine opn_ok hS fn302 (sortQ_loc _) (λds m fr r u hex hfr=>?_);obtain⟨i,n,xs,hsh,hn,hn1,hr,hl,I,rfl,rfl⟩:=sortQ_some hex;unfold sh302 at hsh;split at hsh
 ·split at hsh
  ·rename_i hk;simp only[Qb,Qz]at hsh;obtain⟨rfl,rfl⟩:=hsh;subst hk;refine⟨by simp,?_⟩;rename_i i n;have hw:IntKind.i64.wrap ((0:Int)+1)=((1:Nat):Int):=rfl;unfold dc302;simp only[↓go1,go2,simprocAttr,hw];refine loop302o (m0:=m) (zs:=Dd ltM m0t (n-1) 1 xs) s108 (by omega) (λst' I'=>?_) (n-1) 1 xs _ _ hl (by omega) rfl rfl rfl rfl rfl rfl I;simp only[↓go1,go2,go4,reduceIte];exact I'.fin
  ·cases hsh
 ·cases hsh
def sh208:List D->Option (Id×Nat)
 |[.row i n,.int .i64 0,.int .i64 k,.int .i64 _,.fn 108 []]=>if k=(n:Int)then some (i,n)else none
 |_=>none
def ok208:(EK sh208).ok Qc 208:=by
 obtain⟨S,hS,hl⟩:=A6 (Ab ok302 Ad);have s302:=hl 302 _ rfl;clear hl;refine opn_ok hS fn208 (sortQ_loc _) (λds m fr r u hex hfr=>?_);obtain⟨i,n,xs,hsh,hn,hn1,hr,hl,I,rfl,rfl⟩:=sortQ_some hex;unfold sh208 at hsh;split at hsh
 ·split at hsh
  ·rename_i hk;simp only[Qb,Qz]at hsh;obtain⟨rfl,rfl⟩:=hsh;subst hk;refine⟨by simp,?_⟩;rename_i i n _;have hw:IntKind.i64.wrap ((n:Int)-0)=(n:Int):=by rw[w64 (by omega) (by omega)];omega
   have hle:((n:Int)<=12):=by omega
   have hg:∀fr,(EK sh302).ex ([.row i n,.int .i64 0,.int .i64 (n:Int),.fn 108 []]++[]) m fr=some (.tup [],[(i,0,flat (Ar (Dd ltM m0t (n-1) 1 xs)))]):=by
    intro fr;simp only[EK,sh302,Q4,if_true,sortU,hn,hn1,and_self,hr,QW]
   unfold dc208;simp only[↓go1,go2,Qg];refine Ae dc208l0.eq_1 ?_;simp only[↓go1,go2,go4,simprocAttr,hw,hle];rw[Ah s302];refine Got.intro (hg _) ?_;simp only[↓go1,go2,go4];exact λ_ _ _ h=>h
  ·cases hsh
 ·cases hsh
def R311:List D->Option D:=funRun (λ_=>none) 25 dc311 [.t 2] 60
def ok311:(Ac R311).ok Qc 311:=funRun_ok AK fn311 60
def R209:List D->Option D:=funRun (AF [(311,Ac R311)]) 8 dc209 [.t 2] 60
def ok209:(Ac R209).ok Qc 209:=funRun_ok (Ab ok311 Ad) fn209 60
def isI:Option D->Bool
 |some (.int .i64 _)=>true
 |_=>false
def R209_all:(ZA 13).all (λn=>isI (R209 [.int .u64 (n:Nat)]))=true:=by kernel_rfl
def R209_get{n:Nat}(h:n<=12):∃k,R209 [.int .u64 (n:Nat)]=some (.int .i64 k):=by
 have:=Qx.1 R209_all n (by simp;omega);generalize R209 [.int .u64 (n:Nat)]=r at this;unfold isI at this;split at this
 ·exact⟨_,rfl⟩
 ·cases this
def sh107:List D->Option (Id×Nat)
 |[.row i n,.fn 108 []]=>some (i,n)
 |_=>none
def ok107:(EK sh107).ok Qc 107:=by
 obtain⟨S,hS,hl⟩:=A6 (Ab ok209 (Ab ok208 Ad));have s209:=hl 209 _ rfl;have s208:=hl 208 _ rfl;clear hl;refine opn_ok hS fn107 (sortQ_loc _) (λds m fr r u hex hfr=>?_);obtain⟨i,n,xs,hsh,hn,hn1,hr,hl,I,rfl,rfl⟩:=sortQ_some hex;unfold sh107 at hsh;split at hsh
 ·simp only[Qb,Qz]at hsh;obtain⟨rfl,rfl⟩:=hsh;refine⟨by simp,?_⟩;rename_i i n;have hw:IntKind.u64.wrap ((n:Nat):Int)=((n:Nat):Int):=by simp only[IntKind.wrap,IntKind.signed,IntKind.bits,Zy,Zo,if_false];omega
  obtain⟨k,hk⟩:=R209_get hn;have hg:∀fr,(EK sh208).ex ([.row i n,.int .i64 0,.int .i64 (n:Int),.int .i64 k,.fn 108 []]++[]) m fr=some (.tup [],[(i,0,flat (Ar (Dd ltM m0t (n-1) 1 xs)))]):=by
   intro fr;simp only[EK,sh208,Q4,if_true,sortU,hn,hn1,and_self,hr,QW]
  unfold dc107;simp only[↓go1,gB2,simprocAttr,hw,Aa s209,hk];rw[Ah s208];refine Got.intro (hg _) ?_;simp only[↓go1,go2,go4];exact λ_ _ _ h=>h
 ·cases hsh
def fn106':Fn Qc 106 36 (F6 9 124 3 32 207) [.t 2]:=fn106
def own106:(ownS λds=>(FcatG 3 ds).bind λys=>if(flat ys).all D.plain=true then some ys else none).ok Qc 106:=cat_own fn106' (by omega) ok207
def FC:List D->Option (List D):=λds=>(FcatG 3 ds).bind λys=>if(flat ys).all D.plain=true then some ys else none
def mtsD_plain(l:List Mt):(flat (Ar l)).all D.plain=true:=by
 induction l with
 |nil=>rfl
 |cons m r ih=>simp only[Ar,Q3,flat,mtD,D.cells,Zh,Zr,QM,D.plain,Bool.and_self,Bool.true_and];exact ih
def mtsD_append(a b:List Mt):Ar (a++b)=Ar a++Ar b:=Zu
def mtsD_sz(l:List Mt):(Ar l).all (szB 3)=true:=by rw[Qx];intro x hx;obtain⟨y,_,rfl⟩:=QE.1 hx;rfl
def FC_eq{l:List Mt}{m:Mt}{nl:Bool}(hl:l.length<=1000):FC [.slice false [] [.slice nl [] (Ar l),.slice false [] [mtD m]]]=some (Ar (l++[m])):=by
 have hc:EE [.slice nl [] (Ar l),.slice false [] [mtD m]]=some (Ar (l++[m])):=by
  simp only[EE,QW,Q4,mtsD_append];rfl
 have hlen:(Ar (l++[m])).length=l.length+1:=by rw[Av,Qy];rfl
 simp only[FC,FcatG,hc];rw[if_pos ⟨by simp,by omega,by omega,mtsD_sz _⟩,Qe,if_pos (mtsD_plain _)]
def E_(l:List Mt)(m:Mt):Option (List Mt)×Int:=
 if CX m.1 m.2.1≠0 then(none,CX m.1 m.2.1)else if 0<=B0 l m.1 then(none,20)else if EQ m.1 (l.map (·.1))=true then(none,15)else if 4<=l.length then(none,24)
 else(some (Dd ltM m0t l.length 1 (l++[m])),0)
def tabD(nl:Bool)(l:List Mt)(o:Option (List Mt)):D:=match o with
 |none=> .agg [.slice nl [] (Ar l)]
 |some l'=> .agg [.slice false [] (Ar l')]
open Classical in
def F45:List D->Option D
 |[.agg [.slice nl _ xs],.agg [.str p,.int .i64 q,.bool b]]=>if mtsOk nl xs∧xs.length<=1000∧p.length<=1000000 then some (.tup [tabD nl (BU xs) (E_ (BU xs) (p,q,b)).1,.int .i64 (E_ (BU xs) (p,q,b)).2])else none
 |_=>none
open Classical in
def F45_eq{nl:Bool}{t:Id}{l:List Mt}{m:Mt}(hl:l.length<=1000)(hn:nl=true->l=[])(hp:m.1.length<=1000000):F45 [.agg [.slice nl t (Ar l)],mtD m]=some (.tup [tabD nl l (E_ l m).1,.int .i64 (E_ l m).2]):=by
 have h:mtsOk nl (Ar l)∧(Ar l).length<=1000∧m.1.length<=1000000:=⟨mtsOk_mk (by omega) hn,by rw[Av];exact hl,hp⟩;show(if _ then _ else _)=_;rw[if_pos h,Bc]
def row_data{i:Id}{n:Nat}:(D.row i n).data=true:=rfl
def row_cells{i:Id}{n:Nat}:(D.row i n).cells=[.row i n]:=rfl
def mtsD_calmR(nl:Bool)(l:List Mt)(o:Option (List Mt))(e:Int):(D.tup [tabD nl l o,.int .i64 e]).calmR=true:=by
 cases o<;>rfl
def ok45:(Ac F45).ok Qc 45:=by
 obtain⟨S,hS,hl⟩:=A6 (Ab ok102 (Ab ok103 (Ab ok104 (Ab ok105 (Ab own106 (Ab ok107 Ad))))));have s102:=hl 102 _ rfl;have s103:=hl 103 _ rfl;have s104:=hl 104 _ rfl;have s105:=hl 105 _ rfl;have s106:=hl 106 _ rfl;have s107:=hl 107 _ rfl;clear hl;refine fun_set hS fn45 (λds r h=>?_) (λds r h=>?_)
 ·unfold F45 at h;split at h
  ·simp
  ·cases h
 ·unfold F45 at h;split at h
  ·rename_i nl t xs p q b;split at h
   ·rename_i hc;obtain⟨hc,hlen,hp⟩:=hc;obtain⟨l,rfl,hl,hn,e⟩:=mtsOk_get hc;rw[e]at h;rw[Av]at hlen;simp only[Qb]at h;subst h;refine⟨mtsD_calmR ..,?_⟩;have h102:F102 [.agg [.str p,.int .i64 q,.bool b]]=some (.int .i64 (CX p q)):=if_pos hp;have h103:=F103_eq (nl:=nl) (t:=[]) (p:=p) hl;have h105:=F105_eq (nl:=nl) (t:=t) hl;have h104:=F104_eq (s:=p) (nl:=false) (t:=[]) (l:=l.map (·.1)) (by simpa using hl);have hown:∀mm fr,(ownS FC).ex [D.slice false [30] [D.slice nl [] (Ar l),D.slice false [] [D.agg [D.str p,D.int IntKind.i64 q,D.bool b]]]] mm fr=some (.row fr (l.length+1),[(fr,0,flat (Ar (l++[(p,q,b)])))]):=by
     intro mm fr;have h1:FC ([D.slice false [30] [D.slice nl [] (Ar l),D.slice false [] [D.agg [D.str p,D.int IntKind.i64 q,D.bool b]]]].map D.un)=some (Ar (l++[(p,q,b)])):=FC_eq (m:=(p,q,b)) hlen;simp only[ownS,h1];refine(if_pos rfl).trans ?_;rw[QW,Av,Qy];rfl
    have hsort:l.length<4->∀mm fr,(∀(j:Nat) d,(flat (Ar (l++[(p,q,b)])))[j]?=some d->mm [31] j=some d)->(EK sh107).ex [.row [31] (l.length+1),.fn 108 []] mm fr=some (.tup [],[([31],0,flat (Ar (Dd ltM m0t l.length 1 (l++[(p,q,b)]))))]):=by
     intro hl4 mm fr hm;have hr:=rowR_of hm;rw[Qy]at hr;simp only[EK,sh107,sortU];rw[if_pos ⟨by omega,by omega⟩,show l.length+1=l.length+[(p,q,b)].length from rfl,hr];rfl
    unfold dc45 E_;simp only;generalize CX p q=e1 at *;generalize B0 l p=e2 at *;generalize EQ p (l.map (·.1))=e3 at *;by_cases he:e1=0
    ·subst he;by_cases he2:0<=e2
     ·simp only[↓go1,gB0,simprocAttr,Aa s102,h102,Aa s103,h103,ne_eq,Af,Ap,Aq,Qa,Qe,Qk,Qj,Qn,and_false,Qo,AX,Bj,he2];exact .inr ⟨_,_,rfl,rfl,.inl (.inl rfl),.inl (.inl rfl),trivial⟩
     ·cases e3 with
      |true=>
       simp only[↓go1,gB0,simprocAttr,Aa s102,h102,Aa s103,h103,Aa s104,h104,Ah s105,rowS,h105,ne_eq,Af,Ap,Aq,Qa,Qe,Qj,Qn,and_false,Qo,he2];refine Ao.intro (Aj rfl) ?_;simp only[↓go1,gB0,simprocAttr,Af,Ap,Aq,Qe,Qk,Qj,Qn,Qo,AX,Bj,he2];exact .inr ⟨_,_,rfl,rfl,.inl (.inl rfl),.inl (.inl rfl),trivial⟩
      |false=>
       by_cases h4:4<=l.length
       ·have h4':(4:Int)<=(l.length:Int):=by omega
        simp only[↓go1,gB0,simprocAttr,Aa s102,h102,Aa s103,h103,Aa s104,h104,Ah s105,rowS,h105,ne_eq,Af,Ap,Aq,Qa,Qe,Qj,Qn,and_false,Qo,he2];refine Ao.intro (Aj rfl) ?_;simp only[↓go1,gB0,simprocAttr,Av,Af,Ap,Aq,Qe,Qk,Qj,Qn,Qo,AX,Bj,he2,h4',h4];exact .inr ⟨_,_,rfl,rfl,.inl (.inl rfl),.inl (.inl rfl),trivial⟩
       ·have h4':¬(4:Int)<=(l.length:Int):=by omega
        simp only[↓go1,gB0,simprocAttr,Aa s102,h102,Aa s103,h103,Aa s104,h104,Ah s105,rowS,h105,ne_eq,Af,Ap,Aq,Qa,Qe,Qj,Qn,and_false,Qo,he2];refine Ao.intro (Aj rfl) ?_;simp only[↓go1,gB0,simprocAttr,Ah s106,Av,Af,Ap,Aq,Qa,Qe,Qj,Qn,and_false,Qo,h4'];refine Got.intro (hown _ _) ?_;simp only[↓go1,gB2,simprocAttr,Ah s107];refine Got.intro (hsort (by omega) _ _ (λj d hd=>?_)) ?_
        ·rw[Af,if_pos ⟨rfl,Qu _,by rw[Qm];exact(Qs.1 hd).1⟩];exact hd
        simp only[↓go1,gB0,simprocAttr,row_data,row_cells,BK,C0,Af,Ap,Aq,Qe,Qw,Qk,Qp,QB,Qj,false_and,Qo,AX,Bj,he2,h4];refine .inr ⟨_,_,rfl,rfl,.inr ⟨_,_,rfl,rfl,.inr ⟨[31],_,3,?_,rfl,?_,?_⟩,trivial⟩,.inl (.inl rfl),trivial⟩
        ·rw[Av,Gp,Qy];rfl
        ·intro x hx;obtain⟨y,_,rfl⟩:=QE.1 hx;exact⟨rfl,rfl⟩
        ·intro j x hx;rw[Mem.put_other (by decide),Af,if_pos ⟨rfl,Qu _,by rw[Qm];exact(Qs.1 hx).1⟩];exact hx
    ·simp only[↓go1,gB0,simprocAttr,Aa s102,h102,ne_eq,Af,Ap,Aq,Qa,Qe,Qk,Qj,Qn,and_false,Qo,AX,Bj,he];exact .inr ⟨_,_,rfl,rfl,.inl (.inl rfl),.inl (.inl rfl),trivial⟩
   ·cases h
  ·cases h
end Go.Vd
namespace Go.Vd
open Go.Proofs
def dc248l0:=y1 f248 2 [] []
def dc248:=y0 f248 [] [(2,dc248l0)]
def fn248:Fn Qc 248 22 dc248 [.cell (some 3) 4,.t 5]:=Am func248
def dc159:=y0 f159 [] []
def fn159:Fn Qc 159 16 dc159 [.t 4]:=Am func159
def dc47l0:=y1 f47 8 [] []
def dc47:=y0 f47 [(16,[(0,5),(4,5),(4,6),(6,4)])] [(8,dc47l0)]
def fn47:Fn Qc 47 72 dc47 [.t 4,.t 5]:=Am func47
end Go.Vd
namespace Go.Vd
open Go.Proofs Go.RowKit
def loop248{S:Summs}{l:List Mt}{p:Bs}{nl:Bool}{t:Id}{Q:Ex->St->Prop}(hb:l.length<=1000000)(s301:S 301=some (Ac F301))
  (hret:∀st (m:Mt),Cw l p≠-1->m=A0 l (Cw l p).toNat->st.s 4= .ptr [1] 0->st.s 5= .int .i64 0->st.m [1] 0=some (.str m.1)->st.m [1] 1=some (.int .i64 m.2.1)->st.m [1] 2=some (.bool m.2.2)->Q .ret st)
  (hexit:∀st a b c,Cw l p=-1->st.s 4= .ptr [1] 0->st.m [1] 0=some a->st.m [1] 1=some b->st.m [1] 2=some c->Q (.exit 0) st):
  ∀(f j:Nat) st g a b c,l.length=j+f->(∀i,i<j->(l.map λm=>Co p m.1)[i]?=some false)->2<=st.c->st.s 1= .str p->st.s 4= .ptr [1] 0->st.s 9= .slice nl t (Ar l)->st.s 10= .int .i64 (l.length:Int)->st.s 11= .int .i64 (j:Int)->
   st.m [1] 0=some a->st.m [1] 1=some b->st.m [1] 2=some c->A4 S [] dc248l0 Q st g:=by
 intro f;induction f with
 |zero=>
  intro j st g a b c hf hall hc h1 h4 h9 h10 h11 hm0 hm1 hm2;refine Ae dc248l0.eq_1 ?_;have hlt:¬((j:Int)<l.length):=by omega
  simp only[↓go1,go2,go4,reduceIte,Qg,h10,h11,hlt];exact hexit _ a b c (firstT_none (by rw[QA];intro i hi;exact hall i (by omega))) h4 hm0 hm1 hm2
 |succ f ih=>
  intro j st g a b c hf hall hc h1 h4 h9 h10 h11 hm0 hm1 hm2;refine Ae dc248l0.eq_1 ?_;have hj:j<l.length:=by omega
  have hlt:((j:Int)<l.length):=by omega
  have hj0:=nJ (j:=j);have hw:=wJ (j:=j) (by omega);have hat:(Ar l)[j]?=some (.agg [.str (A0 l j).1,.int .i64 (A0 l j).2.1,.bool (A0 l j).2.2]):=DA hj;have hbj:(l.map λm=>Co p m.1)[j]?=some (Co p (A0 l j).1):=by simp[A0,Qd hj]
  have hne1:([st.c+1+2]=([1]:Id))=False:=eq_false (by simp);have hne2:(([1]:Id)=[st.c+1+2])=False:=eq_false (by simp);obtain⟨m,hmm⟩:∃m,A0 l j=m:=⟨_,rfl⟩;rw[hmm]at hat hbj;have h301:F301 [.str p,.str m.1]=some (.bool (Co p m.1)):=rfl;obtain⟨st_s,st_m,st_c⟩:=st;simp only at h1 h4 h9 h10 h11 hm0 hm1 hm2 hne1 hne2 hc;cases hq:Co p m.1 with
  |true=>
   rw[hq]at hbj h301;have hr:Cw l p=(j:Int):=Fp hbj hall;simp only[↓go1,gB0,simprocAttr,h1,h4,h9,h10,h11,hlt,hj0,Qi,hat,hne2,hm0,hm1,hm2,Aa s301,h301,Qv,Af,Ap,Aq,Qa,Qe,Qr,Qw,Qk];refine hret _ m (by rw[hr];omega) (by rw[hr];exact hmm.symm) h4 rfl ?_ ?_ ?_<;>simp only[go4,simprocAttr,hne2,hm0,hm1,hm2,Qv,Af,Qu,QR,gB3,Qm,Ql,Qa,and_self]
  |false=>
   rw[hq]at hbj h301;simp only[↓go1,gB0,simprocAttr,h1,h9,h10,h11,hlt,hj0,hw,Qi,hat,Aa s301,h301,Qv,Af,Ap,Aq,Qa,Qe,Qr,Qw,Qk];refine ih (j+1) _ _ a b c (by omega) (λi hi=>?_) (by simp only;omega) h1 h4 h9 h10 rfl ?_ ?_ ?_
   ·rcases Q7 (Zd hi)with hi|rfl
    ·exact hall i hi
    ·exact hbj
   all_goals simp only[go3,go4,simprocAttr,hne2,hm0,hm1,hm2,Qv,Af,Qu,QR,gB3,Qm,Ql,Qa,and_self]
def routeD(l:List Mt)(p:Bs):D:=if Cw l p=-1 then .tup [mtD m0t,.int .i64 14]else .tup [mtD (A0 l (Cw l p).toNat),.int .i64 0]
open Classical in
def F248:List D->Option D
 |[.agg [.slice _ _ xs],.str p]=>if xs=Ar (BU xs)∧xs.length<=1000000 then some (routeD (BU xs) p)else none
 |_=>none
open Classical in
def F248_eq{nl:Bool}{t:Id}{l:List Mt}{p:Bs}(hl:l.length<=1000000):F248 [.agg [.slice nl t (Ar l)],.str p]=some (routeD l p):=by
 have h:Ar l=Ar (BU (Ar l))∧(Ar l).length<=1000000:=by rw[Bc,Av];exact⟨rfl,hl⟩
 show(if _ then _ else _)=_;rw[if_pos h,Bc]
def ok248:(Ac F248).ok Qc 248:=by
 obtain⟨S,hS,hl⟩:=A6 (Ab ok301 Ad);have s301:=hl 301 _ rfl;clear hl;refine Az (S:=S) hS fn248 (λds r h=>?_) (λds r h=>?_)
 ·unfold F248 at h;split at h
  ·simp
  ·cases h
 ·unfold F248 at h;split at h
  ·rename_i nl t xs p;split at h
   ·rename_i hc;obtain⟨hx,hl⟩:=hc;simp only[Qb]at h;subst h;generalize BU xs=l at hx;subst hx;rw[Av]at hl;unfold dc248;simp only[↓go1,gB0,simprocAttr,Av,Af,Qj,Qn];refine loop248 (l:=l) (p:=p) (nl:=nl) (t:=t) hl s301 (λst m h0 h1 h4 h5 m0 m1 m2=>?_) (λst a b c h0 h4 m0 m1 m2=>?_) l.length 0 _ _ (.str []) (.int .i64 0) (.bool false) (by omega) (by simp) (by simp only;omega) rfl rfl rfl rfl rfl ?_ ?_ ?_
    ·unfold routeD;rw[if_neg h0,←h1];simp only[↓go1,gB2,Qg,h4,h5,m0,m1,m2,Ap,Aq,Qm,Qe,AX,Bj];exact⟨rfl,rfl⟩
    ·unfold routeD;rw[if_pos h0];simp only[↓go1,gB0,simprocAttr,h4,m0,m1,m2,BK,Af,Ap,Aq,Qa,Qe,Qk,AX,Bj];exact⟨rfl,rfl⟩
    all_goals simp only[go3,go4,simprocAttr,Af,Qu,QR,gB3,Qm,Ql,Qa,and_self,Qj,and_false,Qo]
   ·cases h
  ·cases h
open Classical in
def F159:List D->Option D
 |[.agg [.bool se,.int .i64 te,.str key,.slice nlm tm xs,.slice nlt tt ys],.str p]=>if xs=Ar (BU xs)∧xs.length<=1000000 then some (.bool (decide (Cw (BU xs) p≠-1)))else none
 |_=>none
def ok159:(Ac F159).ok Qc 159:=by
 obtain⟨S,hS,hl⟩:=A6 (Ab ok248 Ad);have s248:=hl 248 _ rfl;clear hl;refine Az (S:=S) hS fn159 (λds r h=>?_) (λds r h=>?_)
 ·unfold F159 at h;split at h
  ·simp
  ·cases h
 ·unfold F159 at h;split at h
  ·rename_i se te key nlm tm xs nlt tt ys p;split at h
   ·rename_i hc;obtain⟨hx,hl⟩:=hc;simp only[Qb]at h;subst h;generalize BU xs=l at hx;subst hx;rw[Av]at hl;have h248:=F248_eq (nl:=nlm) (t:=[]) (p:=p) hl;unfold routeD at h248;by_cases hr:Cw l p=-1
    ·rw[if_pos hr]at h248;simp only[hr,ne_eq,not_true_eq_false,decide_false];unfold dc159;simp only[↓go1,gB0,simprocAttr,Aa s248,h248,mtD,Af,Ap,Aq,Qa,Qe,Qk,Qj,Qo]
     all_goals rfl
    ·rw[if_neg hr]at h248;simp only[hr,ne_eq,not_false_eq_true,decide_true];unfold dc159;simp only[↓go1,gB0,simprocAttr,Aa s248,h248,mtD,Af,Ap,Aq,Qa,Qe,Qk,Qj,Qo]
     all_goals rfl
   ·cases h
  ·cases h
def kFr(l:List Mt)(p:Bs):Nat->Nat
 |0=>0
 |j+1=>if Op.bytesLess (A0 l j).1 p=true then j+1 else kFr l p j
def kFr_le(l:List Mt)(p:Bs):∀j,kFr l p j<=j
 |0=>Qv _
 |j+1=>by
  unfold kFr;split
  ·exact Qv _
  ·exact Nat.le_succ_of_le (kFr_le l p j)
def nestB_at{l:List Mt}{s:Bs}{j:Nat}(hj:j<l.length)(h:(A7 (A0 l j).1 s||A7 s (A0 l j).1)=true):EQ s (l.map (·.1))=true:=by
 unfold EQ;rw[List.any_eq_true];refine⟨(A0 l j).1,QE.2 ⟨A0 l j,by simp[A0,Qd hj],rfl⟩,?_⟩;rw[Bool.or_comm];exact h
def nestB_none{l:List Mt}{s:Bs}(h:∀i,i<l.length->(A7 (A0 l i).1 s||A7 s (A0 l i).1)=false):EQ s (l.map (·.1))=false:=by
 unfold EQ;rw[List.any_eq_false];intro q hq;obtain⟨m,hm,rfl⟩:=QE.1 hq;obtain⟨i,hi,rfl⟩:=Zj hm;have:=h i hi;simp only[A0,QL,Qd hi,Zt]at this;rw[Bool.or_comm,this];exact Q6
def loop47{S:Summs}{l:List Mt}{p:Bs}{nl:Bool}{t:Id}{d1 d2:D}{Q:Ex->St->Prop}(hb:l.length<=1000)(s111:S 111=some (Ac F111))(hp:∀m∈l,m.1.length<=1000000)(hs:p.length<=1000000)
  (hret:∀st,EQ p (l.map (·.1))=true->st.s 4= .slice nl t (Ar l)->st.s 5= .int .i64 15->Q .ret st)
  (hexit:∀st,EQ p (l.map (·.1))=false->st.s 0= .slice nl t (Ar l)->st.s 3= .ptr [0] 0->st.s 7= .int .i64 (kFr l p l.length:Int)->st.m [0] 0=some (.str p)->st.m [0] 1=some d1->st.m [0] 2=some d2->Q (.exit 0) st):
  ∀(f j:Nat) st g,l.length=j+f->(∀i,i<j->(A7 (A0 l i).1 p||A7 p (A0 l i).1)=false)->st.s 0= .slice nl t (Ar l)->st.s 3= .ptr [0] 0->st.s 7= .int .i64 (kFr l p j:Int)->st.s 8= .int .i64 (j:Int)->
   st.m [0] 0=some (.str p)->st.m [0] 1=some d1->st.m [0] 2=some d2->A4 S [] dc47l0 Q st g:=by
 intro f;induction f with
 |zero=>
  intro j st g hf hall h0 h3 h7 h8 hm0 hm1 hm2;refine Ae dc47l0.eq_1 ?_;have hlt:¬((j:Int)<l.length):=by omega
  simp only[↓go1,go2,go4,simprocAttr,h0,h8,hlt,Av];obtain rfl:j=l.length:=by omega
  exact hexit _ (nestB_none hall) h0 h3 h7 hm0 hm1 hm2
 |succ f ih=>
  intro j st g hf hall h0 h3 h7 h8 hm0 hm1 hm2;refine Ae dc47l0.eq_1 ?_;have hj:j<l.length:=by omega
  have hlt:((j:Int)<l.length):=by omega
  have hj0:=nJ (j:=j);have hw:=wJ (j:=j) (by omega);have hat:(Ar l)[j]?=some (.agg [.str (A0 l j).1,.int .i64 (A0 l j).2.1,.bool (A0 l j).2.2]):=DA hj;have hmem:A0 l j∈l:=by simp[A0,Qd hj]
  have hml:=hp _ hmem;have hn:=nestB_at (s:=p) hj;have hk:kFr l p (j+1)=if Op.bytesLess (A0 l j).1 p=true then j+1 else kFr l p j:=rfl
  have hall':(A7 (A0 l j).1 p||A7 p (A0 l j).1)=false->∀i,i<j+1->(A7 (A0 l i).1 p||A7 p (A0 l i).1)=false:=by
   intro hz i hi;rcases Q7 (Zd hi)with hi|rfl
   ·exact hall i hi
   ·exact hz
  generalize A0 l j=m at hat hml hn hk hall';have h111a:F111 [.str m.1,.str p]=some (.bool (A7 m.1 p)):=if_pos ⟨hml,hs⟩;have h111b:F111 [.str p,.str m.1]=some (.bool (A7 p m.1)):=if_pos ⟨hs,hml⟩;obtain⟨st_s,st_m,st_c⟩:=st;simp only at h0 h3 h7 h8 hm0 hm1 hm2;cases hwa:A7 m.1 p with
  |true=>
   rw[hwa]at hn h111a;simp only[↓go1,gB2,simprocAttr,h0,h3,h8,hlt,hj0,Qi,hat,Av,hm0,Aa s111,h111a,Qu,gB3,Qm,Qp,Qt];refine Ao.intro (Aj rfl) ?_;simp only[↓go1,go2,go3,simprocAttr,h0];exact hret _ (hn rfl) rfl rfl
  |false=>
   cases hwb:A7 p m.1 with
   |true=>
    rw[hwa,hwb]at hn;rw[hwa]at h111a;rw[hwb]at h111b;simp only[↓go1,gB2,simprocAttr,h0,h3,h8,hlt,hj0,Qi,hat,Av,hm0,Aa s111,h111a,h111b,Qu,gB3,Qm,Qp,Qt];refine Ao.intro (Aj rfl) ?_;simp only[↓go1,go2,go3,simprocAttr,h0];exact hret _ (hn rfl) rfl rfl
   |false=>
    rw[hwa,hwb]at hall';rw[hwa]at h111a;rw[hwb]at h111b;cases hbl:Op.bytesLess m.1 p with
    |true=>
     rw[hbl,if_pos rfl]at hk;simp only[↓go1,gB2,simprocAttr,h0,h3,h8,hlt,hj0,Qi,hat,Av,hm0,Aa s111,h111a,h111b,Qu,gB3,Qm,Qp,Qt];refine Ao.intro (Aj rfl) ?_;simp only[↓go1,go2,go3,simprocAttr,h0,h3,h8,hj0,Qi,hat,hm0,Qu,gB3,Qm,Qp,Qt,v_slss,hbl];refine Ao.intro (Aj rfl) ?_;simp only[↓go1,go2,go3,simprocAttr,h8,hw];exact ih (j+1) _ _ (by omega) (hall' rfl) h0 h3 (by rw[hk];rfl) rfl hm0 hm1 hm2
    |false=>
     rw[hbl,if_neg Q6]at hk;simp only[↓go1,gB2,simprocAttr,h0,h3,h8,hlt,hj0,Qi,hat,Av,hm0,Aa s111,h111a,h111b,Qu,gB3,Qm,Qp,Qt];refine Ao.intro (Aj rfl) ?_;simp only[↓go1,go2,go3,simprocAttr,h0,h3,h8,hj0,Qi,hat,hm0,Qu,gB3,Qm,Qp,Qt,v_slss,hbl];refine Ao.intro (Aj rfl) ?_;simp only[↓go1,go2,go3,simprocAttr,h8,hw];exact ih (j+1) _ _ (by omega) (hall' rfl) h0 h3 (by rw[hk];exact h7) rfl hm0 hm1 hm2
def mtsD_take(l:List Mt)(k:Nat):Zf k (Ar l)=Ar (l.take k):=by simp[Ar]
def mtsD_drop(l:List Mt)(k:Nat):Q1 k (Ar l)=Ar (l.drop k):=by simp[Ar]
def addR(l:List Mt)(m:Mt):Option (List Mt)×Int:=
 if CX m.1 m.2.1≠0 then(none,CX m.1 m.2.1)else if 0<=B0 l m.1 then(none,20)else if EQ m.1 (l.map (·.1))=true then(none,15)else if 4<=l.length then(none,24)
 else(some (l.take (kFr l m.1 l.length)++m::l.drop (kFr l m.1 l.length)),0)
def tabR(nl:Bool)(l:List Mt)(o:Option (List Mt)):D:=match o with
 |none=> .slice nl [] (Ar l)
 |some l'=> .slice false [] (Ar l')
open Classical in
def F47:List D->Option D
 |[.slice nl _ xs,.agg [.str p,.int .i64 q,.bool b]]=>if mtsOk nl xs∧xs.length<=1000∧p.length<=1000000∧(∀m∈BU xs,m.1.length<=1000000)then some (.tup [tabR nl (BU xs) (addR (BU xs) (p,q,b)).1,.int .i64 (addR (BU xs) (p,q,b)).2])else none
 |_=>none
open Classical in
def F47_eq{nl:Bool}{t:Id}{l:List Mt}{m:Mt}(hl:l.length<=1000)(hn:nl=true->l=[])(hp:m.1.length<=1000000)(hall:∀m∈l,m.1.length<=1000000):F47 [.slice nl t (Ar l),mtD m]=some (.tup [tabR nl l (addR l m).1,.int .i64 (addR l m).2]):=by
 have h:mtsOk nl (Ar l)∧(Ar l).length<=1000∧m.1.length<=1000000∧(∀m∈BU (Ar l),m.1.length<=1000000):=⟨mtsOk_mk (by omega) hn,by rw[Av];exact hl,hp,by rw[Bc];exact hall⟩;show(if _ then _ else _)=_;rw[if_pos h,Bc]
open Classical in
def F74_eq{nl:Bool}{t:Id}{l:List Mt}{p:Bs}(hl:l.length<=1000000):F74 [.slice nl t (Ar l),.str p]=some (.int .i64 (B0 l p)):=by
 have h:Ar l=Ar (BU (Ar l))∧(Ar l).length<=1000000:=by rw[Bc,Av];exact⟨rfl,hl⟩
 show(if _ then _ else _)=_;rw[if_pos h,Bc]
def ok47:(Ac F47).ok Qc 47:=by
 obtain⟨S,hS,hl⟩:=A6 (Ab ok110 (Ab ok74 (Ab ok111 Ad)));have s110:=hl 110 _ rfl;have s74:=hl 74 _ rfl;have s111:=hl 111 _ rfl;clear hl;refine Az (S:=S) hS fn47 (λds r h=>?_) (λds r h=>?_)
 ·unfold F47 at h;split at h
  ·simp
  ·cases h
 ·unfold F47 at h;split at h
  ·rename_i nl t xs p q b;split at h
   ·rename_i hc;obtain⟨hc,hlen,hp,hall⟩:=hc;obtain⟨l,rfl,hl,hn,e⟩:=mtsOk_get hc;rw[e]at h hall;rw[Av]at hlen;simp only[Qb]at h;subst h;have h110:F110 [.agg [.str p,.int .i64 q,.bool b]]=some (.int .i64 (CX p q)):=if_pos hp;have h74:=F74_eq (nl:=nl) (t:=[]) (p:=p) hl;unfold dc47 addR;simp only;generalize CX p q=e1 at *;generalize B0 l p=e2 at *;by_cases he:e1=0
    ·subst he;by_cases he2:0<=e2
     ·simp only[↓go1,gB0,simprocAttr,Aa s110,h110,Aa s74,h74,ne_eq,Af,Ap,Aq,Qa,Qe,he2];cases nl<;>exact⟨rfl,rfl⟩
     ·simp only[↓go1,gB0,simprocAttr,Aa s110,h110,Aa s74,h74,ne_eq,Af,Ap,Aq,Qa,Qe,he2];refine loop47 (l:=l) (p:=p) (nl:=nl) (t:=t) (d1:= .int .i64 q) (d2:= .bool b) hlen s111 hall hp (λst h1 h4 h5=>?_) (λst h1 h0 h3 h7 m0 m1 m2=>?_) l.length 0 _ _ (by omega) (λi hi=>absurd hi (Nat.not_lt_zero _)) rfl rfl rfl rfl ?_ ?_ ?_
      ·rw[h1];simp only[↓go1,gB2,reduceIte,he2,h4,h5];cases nl<;>exact⟨rfl,rfl⟩
      ·rw[h1];by_cases h4:4<=l.length
       ·have h4':(4:Int)<=(l.length:Int):=by omega
        simp only[↓go1,gB2,simprocAttr,Av,he2,h0,h4,h4'];cases nl<;>exact⟨rfl,rfl⟩
       ·have h4':¬(4:Int)<=(l.length:Int):=by omega
        have hk:=kFr_le l p l.length;generalize kFr l p l.length=k at h7 hk;have hk0:(0:Int)<=(k:Int):=by omega
        have hkl:(k:Int)<=(l.length:Int):=by omega
        have hb1:((l.take k).length*33<=140737488355328)=True:=eq_true (by rw[QC];omega);have hb2:(((l.take k).length+1)*33<=140737488355328)=True:=eq_true (by rw[QC];omega);have hb3:(((l.take k).length+1+(l.drop k).length)*33<=140737488355328)=True:=eq_true (by rw[QC,QT];omega);have hdr:Zf (l.length-k) (Q1 k l)=Q1 k l:=Zc (by rw[QT];exact Qv _);have hd1:D.headSz [D.agg [.str p,.int .i64 q,.bool b]] 3=3:=rfl;have hkk:(k<=l.length)=True:=eq_true hk;simp only[↓go1,gB0,simprocAttr,ne_eq,Av,Af,Ap,Aq,Qa,Qe,Qp,Qj,false_and,and_false,h0,h3,h7,m0,m1,m2,h4',hk0,hkl,Qi,EV,Ed,QH,mtsD_head,mtsD_take,mtsD_drop,Qp,Qy,hb1,hb2,hb3,or_true,hd1,ite_self,hdr];refine Ao.intro (Aj ?_) ?_
        ·simp only[A2,Zr,QM,QL,Ql,Qa,Zt,AL,gB3,Zq,List.flatMap_nil,rds,↓go1,reduceIte,Qf,h3];simp[Ai]
        simp only[↓go1,gB2,reduceIte,Qf,Qp,he2,h4,mtsD_take,mtsD_drop,Qp,ite_self,hdr];have e9:Ar (Zf k l)++[D.agg [.str p,.int .i64 q,.bool b]]++Ar (Q1 k l)=Ar (Zf k l++(p,q,b)::Q1 k l):=by simp[Ar,mtD]
        rw[e9];exact⟨rfl,rfl⟩
      all_goals simp only[go3,simprocAttr,Af,Qu,QR,gB3,Qm,Ql,Qa,and_self]
    ·simp only[↓go1,gB0,simprocAttr,Aa s110,h110,ne_eq,Af,Ap,Aq,Qa,Qe,he];cases nl<;>exact⟨rfl,rfl⟩
   ·cases h
  ·cases h
def tksD_take(l:List Tk)(k:Nat):Zf k (Ax l)=Ax (l.take k):=by simp[Ax]
def tksD_drop(l:List Tk)(k:Nat):Q1 k (Ax l)=Ax (l.drop k):=by simp[Ax]
def Eb(l:List Tk)(n:Bs):Nat->Nat->Nat
 |0,j=>j
 |f+1,j=>if Op.bytesLess (AQ l j).1 n=true then Eb l n f (j+1)else j
def intoR_le(l:List Tk)(n:Bs):∀f j,Eb l n f j<=j+f
 |0,j=>Qv _
 |f+1,j=>by
  unfold Eb;split
  ·have:=intoR_le l n f (j+1);omega
  ·omega
def loop119{S:Summs}{l:List Tk}{n:Bs}{nl:Bool}{t:Id}{d1 d2:D}{e:Nat}{Q:Ex->St->Prop}(hb:l.length<=1000000)
  (hexit:∀st,1<=st.c->st.s 0= .slice nl t (Ax l)->st.s 3= .ptr [0] 0->st.s 5= .int .i64 (e:Int)->st.m [0] 0=some (.str n)->st.m [0] 1=some d1->st.m [0] 2=some d2->Q (.exit 0) st):
  ∀(f j:Nat) st g,l.length=j+f->Eb l n f j=e->1<=st.c->st.s 0= .slice nl t (Ax l)->st.s 3= .ptr [0] 0->st.s 5= .int .i64 (j:Int)->
   st.m [0] 0=some (.str n)->st.m [0] 1=some d1->st.m [0] 2=some d2->A4 S [] dc119l0 Q st g:=by
 intro f;induction f with
 |zero=>
  intro j st g hf he hc h0 h3 h5 hm0 hm1 hm2;refine Ae dc119l0.eq_1 ?_;have hlt:¬((j:Int)<l.length):=by omega
  simp only[↓go1,go2,go4,simprocAttr,h0,h5,hlt,AM];refine Ao.intro (Aj rfl) ?_;simp only[↓go1,go2,reduceIte,Qf];exact hexit _ (by simp only;omega) h0 h3 (by rw[←he];exact h5) hm0 hm1 hm2
 |succ f ih=>
  intro j st g hf he hc h0 h3 h5 hm0 hm1 hm2;refine Ae dc119l0.eq_1 ?_;have hj:j<l.length:=by omega
  have hlt:((j:Int)<l.length):=by omega
  have hj0:=nJ (j:=j);have hw:=wJ (j:=j) (by omega);have hat:(Ax l)[j]?=some (.agg [.str (AQ l j).1,.str (AQ l j).2.1,.slice (AQ l j).2.2.1 [] (Al (AQ l j).2.2.2)]):=DZ hj;unfold Eb at he;generalize AQ l j=m at hat he;obtain⟨st_s,st_m,st_c⟩:=st;simp only at h0 h3 h5 hm0 hm1 hm2 hc;cases hbl:Op.bytesLess m.1 n with
  |true=>
   rw[hbl,if_pos rfl]at he;simp only[↓go1,gB2,simprocAttr,h0,h3,h5,hlt,hj0,Qi,hat,AM,hm0,v_slss,Qu,gB3,Qm,Qp,Qt,hbl];refine Ao.intro (Aj rfl) ?_;simp only[↓go1,go2,go3,simprocAttr,h5,hw];exact ih (j+1) _ _ (by omega) he (by simp only;omega) h0 h3 rfl hm0 hm1 hm2
  |false=>
   rw[hbl,if_neg Q6]at he;simp only[↓go1,gB2,simprocAttr,h0,h3,h5,hlt,hj0,Qi,hat,AM,hm0,v_slss,Qu,gB3,Qm,Qp,Qt,hbl];refine Ao.intro (Aj rfl) ?_;simp only[↓go1,go2,go3,reduceIte,Qf];exact hexit _ (by simp only;omega) h0 h3 (by rw[←he];exact h5) hm0 hm1 hm2
def withR(l:List Tk)(k:Tk):List Tk:=l.take (Eb l k.1 l.length 0)++k::l.drop (Eb l k.1 l.length 0)
open Classical in
def F119:List D->Option D
 |[.slice _ _ xs,.agg [.str n,.str p,.slice nl _ ys]]=>if(xs=Ax (B1 xs)∧xs.length<=90000)∧ys=Al (Bb ys)then some (.slice false [] (Ax (withR (B1 xs) (n,p,nl,Bb ys))))else none
 |_=>none
open Classical in
def F119_eq{nl0 nl:Bool}{t0 t:Id}{l:List Tk}{n p:Bs}{rs:List Rl}(hl:l.length<=90000):F119 [.slice nl0 t0 (Ax l),.agg [.str n,.str p,.slice nl t (Al rs)]]=some (.slice false [] (Ax (withR l (n,p,nl,rs)))):=by
 have h:(Ax l=Ax (B1 (Ax l))∧(Ax l).length<=90000)∧Al rs=Al (Bb (Al rs)):=by rw[Bh,AM,AR];exact⟨⟨rfl,hl⟩,rfl⟩
 show(if _ then _ else _)=_;rw[if_pos h,Bh,AR]
def ok119:(Ac F119).ok Qc 119:=by
 refine Az (S:=λ_=>none) AK fn119 (λds r h=>?_) (λds r h=>?_)
 ·unfold F119 at h;split at h
  ·simp
  ·cases h
 ·unfold F119 at h;split at h
  ·rename_i nl0 t0 xs n p nl t ys;split at h
   ·rename_i hc;obtain⟨⟨hx,hlen⟩,hy⟩:=hc;simp only[Qb]at h;subst h;generalize B1 xs=l at *;generalize Bb ys=rs at *;subst hx hy;rw[AM]at hlen;unfold dc119;simp only[↓go1,go2,go3,Qg,Qm];refine loop119 (l:=l) (n:=n) (nl:=nl0) (t:=t0) (d1:= .str p) (d2:= .slice nl t (Al rs)) (e:=Eb l n l.length 0) (by omega) (λst hc h0 h3 h5 m0 m1 m2=>?_) l.length 0 _ _ (by omega) rfl (by simp only;omega) rfl rfl rfl ?_ ?_ ?_
    ·unfold withR;simp only;have hk:=intoR_le l n l.length 0;generalize Eb l n l.length 0=k at h5 hk;rw[Qm]at hk;have hk0:(0:Int)<=(k:Int):=by omega
     have hkl:(k:Int)<=(l.length:Int):=by omega
     have hb1:((l.take k).length*57<=140737488355328)=True:=eq_true (by rw[QC];omega);have hb2:(((l.take k).length+1)*57<=140737488355328)=True:=eq_true (by rw[QC];omega);have hb3:(((l.take k).length+1+(l.drop k).length)*57<=140737488355328)=True:=eq_true (by rw[QC,QT];omega);have hdr:Zf (l.length-k) (Q1 k l)=Q1 k l:=Zc (by rw[QT];exact Qv _);have hd1:D.headSz [D.agg [.str n,.str p,.slice nl [] (Al rs)]] 3=3:=rfl;have hc0:(0=st.c+0)=False:=eq_false (by omega);have hkk:(k<=l.length)=True:=eq_true hk;simp only[↓go1,gB0,simprocAttr,hc0,h0,h3,h5,m0,m1,m2,hk0,hkl,Qi,EV,Ed,QH,tksD_head,tksD_take,tksD_drop,Qp,Qy,hb1,hb2,hb3,or_true,hd1,ite_self,hdr,AM,ne_eq,Af,Ap,Aq,Qa,Qe,Qp,Qj,false_and,and_false];refine Ao.intro (Aj ?_) ?_
     ·simp only[A2,Zr,QM,QL,Ql,Qa,Zt,AL,gB3,Zq,List.flatMap_nil,rds,↓go1,reduceIte,Qf,h3];simp[Ai];omega
     simp only[↓go1,gB2,reduceIte,Qf,tksD_take,tksD_drop,Qp,ite_self,hdr,Qp];have e9:Ax (Zf k l)++[D.agg [.str n,.str p,.slice nl [] (Al rs)]]++Ax (Q1 k l)=Ax (Zf k l++(n,p,nl,rs)::Q1 k l):=by simp[Ax,tkD]
     rw[e9]
    all_goals simp only[go3,simprocAttr,Af,Qu,QR,gB3,Qm,Ql,Qa,and_self]
   ·cases h
  ·cases h
def makeR(l:List Tk)(k:Tk):Option (List Tk)×Int:=
 if Gg k.1 k.2.1 k.2.2.2≠0 then(none,Gg k.1 k.2.1 k.2.2.2)else if k.2.1=[]then(none,2)else if 0<=Dn l k.1 then(none,20)else if Dn l k.2.1<0 then(none,6)
 else if DI k.2.2.2 (AQ l (Dn l k.2.1).toNat).2.2.2=false then(none,13)else(some (withR l k),0)
def setR(nl:Bool)(l:List Tk)(o:Option (List Tk)):D:=match o with
 |none=> .slice nl [] (Ax l)
 |some l'=> .slice false [] (Ax l')
open Classical in
def F52:List D->Option D
 |[.slice nl0 _ xs,.agg [.str n,.str p,.slice nl _ ys]]=>if(Er xs∧xs.length<=90000∧∀k∈B1 xs,EP k.2.2.2)∧rlsOk nl ys∧EP (Bb ys)∧n.length<=1000000∧p.length<=1000000
   then some (.tup [setR nl0 (B1 xs) (makeR (B1 xs) (n,p,nl,Bb ys)).1,.int .i64 (makeR (B1 xs) (n,p,nl,Bb ys)).2])else none
 |_=>none
open Classical in
def F117_eq{nl:Bool}{t:Id}{l:List Tk}{p:Bs}(hl:l.length<=1000000):F117 [.slice nl t (Ax l),.str p]=some (.int .i64 (Dn l p)):=by
 have h:Ax l=Ax (B1 (Ax l))∧(Ax l).length<=1000000:=by rw[Bh,AM];exact⟨rfl,hl⟩
 show(if _ then _ else _)=_;rw[if_pos h,Bh]
def findT_lt(l:List Tk)(p:Bs):Dn l p<l.length:=by
 have:=firstT_lt (l.map λm=>decide (m.1=p));rw[QA]at this;exact this
def ok52:(Ac F52).ok Qc 52:=by
 obtain⟨S,hS,hl⟩:=A6 (Ab ok116 (Ab ok117 (Ab ok118 (Ab ok119 Ad))));have s116:=hl 116 _ rfl;have s117:=hl 117 _ rfl;have s118:=hl 118 _ rfl;have s119:=hl 119 _ rfl;clear hl;refine Az (S:=S) hS fn52 (λds r h=>?_) (λds r h=>?_)
 ·unfold F52 at h;split at h
  ·simp
  ·cases h
 ·unfold F52 at h;split at h
  ·rename_i nl0 t0 xs n p nl t ys;split at h
   ·rename_i hc;obtain⟨⟨hc,h9,hk⟩,hr,hpo,hn,hp⟩:=hc;obtain⟨l,rfl,hl,e⟩:=DQ hc;obtain⟨rs,rfl,hrl,hrn,e2⟩:=FQ hr;rw[e,e2]at h;rw[e]at hk;rw[e2]at hpo;rw[AM]at h9;simp only[Qb]at h;subst h;have h116:=F113_eq (n:=n) (p:=p) (nl:=nl) (t:=[]) hrl hpo.2.1 hn hp;have h117n:=F117_eq (nl:=nl0) (t:=[]) (p:=n) hl;have h117p:=F117_eq (nl:=nl0) (t:=[]) (p:=p) hl;have h119:=F119_eq (nl0:=nl0) (t0:=[]) (n:=n) (p:=p) (nl:=nl) (t:=[]) (rs:=rs) h9;have hlt:=findT_lt l p;unfold dc52 makeR;simp only;generalize Gg n p rs=e at *;generalize Dn l n=fn at *;generalize Dn l p=fp at *;by_cases he:e=0
    ·subst he;by_cases hp0:p=[]
     ·subst hp0;simp only[↓go1,gB0,simprocAttr,Aa s116,h116,ne_eq,Af,Ap,Aq,Qa,Qe];simp[setR];rfl
     ·by_cases h1:0<=fn
      ·simp only[↓go1,gB0,simprocAttr,Aa s116,h116,Aa s117,h117n,ne_eq,Af,Ap,Aq,Qa,Qe,hp0,h1];simp[setR];rfl
      ·by_cases h2:fp<0
       ·simp only[↓go1,gB0,simprocAttr,Aa s116,h116,Aa s117,h117n,h117p,ne_eq,Af,Ap,Aq,Qa,Qe,hp0,h1,h2];simp[setR];rfl
       ·have hi0:(0:Int)<=fp:=by omega
        have hi:fp.toNat<l.length:=by omega
        have hat:=DZ (l:=l) (j:=fp.toNat) hi;have hm:AQ l fp.toNat∈l:=by simp[AQ,Qd hi]
        have hlk:=hk _ hm;generalize AQ l fp.toNat=k at hat hlk;obtain⟨n2,p2,nl2,rs2⟩:=k;replace hat:(Ax l)[fp.toNat]?=some (.agg [.str n2,.str p2,.slice nl2 [] (Al rs2)]):=hat;have h118:=F118_eq (na:=nl) (nb:=nl2) (ta:=[]) (tb:=[]) hrl hlk.1 hpo.2.1 hlk.2.1 hpo.2.2 hlk.2.2;simp only at h118;cases h3:DI rs rs2 with
        |false=>
         rw[h3]at h118;simp only[↓go1,gB0,simprocAttr,Aa s116,h116,Aa s117,h117n,h117p,ne_eq,Af,Ap,Aq,Qa,Qe,Qp,QB,Qt,hp0,h1,h2,hi0,hat,Aa s118,h118];refine Ao.intro (Aj rfl) ?_;simp only[↓go1,gB2,simprocAttr,hp0,h1,h2];simp[setR];rfl
        |true=>
         rw[h3]at h118;simp only[↓go1,gB0,simprocAttr,Aa s116,h116,Aa s117,h117n,h117p,ne_eq,Af,Ap,Aq,Qa,Qe,Qp,QB,Qt,hp0,h1,h2,hi0,hat,Aa s118,h118];refine Ao.intro (Aj rfl) ?_;simp only[↓go1,gB0,simprocAttr,Aa s119,h119,Af,Ap,Aq,Qa,Qe,hp0,h1,h2];simp[setR];rfl
    ·simp only[↓go1,gB0,simprocAttr,Aa s116,h116,ne_eq,Af,Ap,Aq,Qa,Qe,he];simp[setR];rfl
   ·cases h
  ·cases h
end Go.Vd
namespace Go.Vd
open Go.Proofs
def dc257:=y0 f257 [] []
def fn257:Fn Qc 257 4 dc257 [.t 2]:=Am func257
def dc258:=y0 f258 [] []
def fn258:Fn Qc 258 7 dc258 [.t 2]:=Am func258
def dc260:=y0 f260 [] []
def fn260:Fn Qc 260 11 dc260 [.t 2]:=Am func260
def dc261l0:=y1 f261 4 [] []
def dc261:=y0 f261 [] [(4,dc261l0)]
def fn261:Fn Qc 261 26 dc261 [.t 4]:=Am func261
def dc347:=y0 f347 [] []
def fn347:Fn Qc 347 6 dc347 [.t 2]:=Am func347
def dc346l0:=y1 f346 3 [] []
def dc346:=y0 f346 [] [(3,dc346l0)]
def fn346:Fn Qc 346 23 dc346 [.t 2]:=Am func346
def dc262:=y0 f262 [] []
def fn262:Fn Qc 262 8 dc262 [.t 4]:=Am func262
def dc345l0:=y1 f345 4 [] []
def dc345:=y0 f345 [] [(4,dc345l0)]
def fn345:Fn Qc 345 26 dc345 [.t 4]:=Am func345
def dc317l0:=y1 f317 3 [] []
def dc317:=y0 f317 [] [(3,dc317l0)]
def fn317:Fn Qc 317 29 dc317 [.t 2]:=Am func317
def dc348l0:=y1 f348 3 [] []
def dc348:=y0 f348 [] [(3,dc348l0)]
def fn348:Fn Qc 348 24 dc348 [.t 2]:=Am func348
def dc232l0:=y1 f232 6 [(8,[(7,3)])] []
def dc232:=y0 f232 [] [(6,dc232l0)]
def fn232:Fn Qc 232 36 dc232 [.t 2,.t 3]:=Am func232
end Go.Vd
end
