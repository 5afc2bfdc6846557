/- A part of the proof; nothing in it is assumed. -/
import Derived.Test.YtpiplnfjodahpaaGreatDoorMErrorsP4
import Derived.WalkLawsBesides
import Derived.RangeFuncNested
import Derived.RangeFuncBound
import Derived.Deep.Fields

set_option linter.unusedSimpArgs false
set_option linter.unusedVariables false
set_option linter.defProp false
set_option maxHeartbeats 4000000
set_option maxRecDepth 100000
open Nat renaming le_of_ble_eq_true→Qa,le_refl→Qf,le_trans→Qg,zero_le→Qp,reduceAdd→Qr,reduceEqDiff→Qs,reduceSub→Q1,reduceLT→Ze,lt_of_lt_of_le→Zp,le_succ_of_le→Zs,le_of_eq→Zt,lt_or_ge→ZG,add_zero→ZH,mul_comm→ZI
open List renaming getElem?_cons_zero→Qb,getElem?_eq_getElem→Qd,length_cons→Qh,getElem?_cons_succ→Qi,mem_singleton→Qk,cons_append→Ql,nil_append→Qm,length_nil→Qo,mem_cons_of_mem→Qt,length_map→Qu,mem_cons_self→Qv,forall_mem_cons→Qw,getElem_mem→Qx,map_cons→Qy,take_succ_eq_append_getElem→Qz,mem_map→QB,drop_eq_getElem_cons→QC,getElem?_map→QE,map_nil→QF,length_append→QH,tail_cons→QI,mem_append→QJ,append_toArray→QN,map_append→QQ,mem_cons→QR,size_toArray→QS,push_toArray→QT,getElem?_append_right→QU,take_length→QV,getElem?_append_left→QX,mem_singleton_self→QZ,drop_eq_nil_of_le→Q0,exists_cons_of_ne_nil→Q6,getD→Zb,length_eq_zero_iff→Zc,toArray→Zf,take_of_length_le→Zg,take_succ_cons→Zi,filter_sublist→Zj,map_eq_nil_iff→Zk,getElem_of_mem→Zl,sum_cons→Zm,getElem?_drop→Zo,any_eq_false→Zr,all_eq_false→Zu,not_mem_nil→Zw,take_prefix→Zx,all_eq_true→Zy,mem_filter→Zz,map→ZB,drop_zero→ZC,take_zero→ZD,all_cons→ZE,map_map→ZF
open Int renaming toNat_natCast→Qc,cast_ofNat_Int→QA,toNat_of_nonneg→QD,reduceEq→QG,tmod_eq_emod_of_nonneg→Q9,lt_irrefl→Za,le_refl→Zh,reduceLE→Zq,toNat→Zv
open Option renaming isSome_some→Qe,getD_some→QO,map_eq_some_iff→QP,map_some→Q5,isSome_none→Q8,getD_none→Zd
open Go.Proofs.Tryz renaming prog→Qj
open Option.some renaming injEq→Qn,inj→ZJ
open Array renaming getElem?_eq_some_iff→Qq,replicate_succ→QL,replicate_zero→QM,size_push→QY,all_eq_true_iff_forall_mem→Q_,replicate→ZA
open Bool renaming and_eq_true→QW,false_eq_true→Q7,true_eq_false→Zn
open List.cons renaming injEq→Q2,inj→ZL
open Prod renaming ext→ZK
open Go.Proofs.Tryz
noncomputable section
namespace Go.Vd
open Go.Proofs Go.RowKit
theorem mR{k:Kn}(h:HD k)(q:Bs):(Db k q).1.length<=400:=by
 unfold Db;split
 ·decide
 ·rename_i z;have:=(EJ (E6 k) q).2;unfold E6 at this z;rw[Qu]at this;simp only[Zb,E6];rw[Qd O];exact h.et _ (Qx O)
def aNU{k:Kn}(h:HD k)(q:Bs):(EQ k q).2.1.length<=2000∧∀s∈(EQ k q).2.1,s.length<=1000000:=by
 unfold EQ;split
 ·simp_all
 ·rename_i z;have:=(EJ (k.ls.map (·.1)) q).2;rw[Qu]at this;simp only[Zb];rw[Qd O];exact h.lt _ (Qx O)
structure vT (s:Sc):Prop where
 bad:DA s 6=false
 nl:s.nl=true->s.rs=[]
theorem ON{s:Sc}{q:Int}(h:DA s q=false):(1<=q∧q<=6)∧(0<=s.mx∧s.mx<=6)∧(0<=s.la∧s.la<=30)∧(s.rs.length:Int)<=6∧HP s.rs 0=true∧Pc s.rs=s.la:=by
 grind [DA,B_]
def vT.len{s:Sc}(h:vT s):s.rs.length<=6:=by have:=(ON h.bad).2.2.2.1;omega
def aNn:vT sc0:=⟨V,λ_=>rfl⟩
theorem pN{t:Bs}(h:(B8 t).2=0):vT (B8 t).1:=by
 unfold B8 at h ⊢;split at h
 ·cases h
 ·rename_i u;rw[if_neg u];split at h
  ·cases h
  ·rename_i z;rw[if_neg z];refine⟨by
    cases hb:DA (eM t) 6 with
    |false=>rfl
    |true=>exact absurd (.inr (.inr hb)) z,λc=>?_⟩
   simp only[eM,decide_eq_true_eq]at c;show(Fu t).1=[];unfold Fu;rw[c];rfl
def Dz(q:Bs×Bool×Bool):Option Sc:=if q.2.1=false∨(B8 q.1).2≠0 then none else some (B8 q.1).1
def Lf(o:Option Sc):Sc:=o.getD sc0
def Oe{q:Bs×Bool×Bool}{s:Sc}(h:Dz q=some s):vT s:=by
 grind [Dz,pN]
def F7(q:Bs×Bool×Bool):vT (Lf (Dz q)):=by
 cases h:Dz q with
 |none=>exact aNn
 |some s=>exact Oe h
def AJ(k:Kn)(p:Bs):Bs×Bool×Bool:=Db k (AX 1 p 0)
section
variable{v:Vw}{a:Ak}{k:Kn}
def MJ(g:HD k){p:Bs}(y:p.length<=1000000)(h:(AJ k p).2.2=false):CL ⟨v,a,k⟩ (GE v) [.str p]=some (.tup [.agg (GB sc0),.bool false,.bool false],Dp v (AX 1 p 0) false,none):=
 uP ⟨v,a,k⟩ (GE v) p (Hx v) y (by have:=g.es;simp only;omega) (AJ k p) rfl h
def Ld(g:HD k){p:Bs}(t:p.length<=1000000)(h:(AJ k p).2.2=true):CL ⟨v,a,k⟩ (GE v) [.str p]=some (.tup [.agg (GB (Lf (Dz (AJ k p)))),.bool (Dz (AJ k p)).isSome,.bool true],GE v,none):=by
 have hl:(AJ k p).1.length<=1000000:=by have:=mR g (AX 1 p 0);unfold AJ;omega
 have w:(Wb.mk v a k).k.es.length<=1000:=by have:=g.es;simp only;omega
 by_cases y:(AJ k p).2.1=false∨(B8 (AJ k p).1).2≠0
 ·have e:Dz (AJ k p)=none:=if_pos y;rw[e];exact aG9 ⟨v,a,k⟩ (GE v) p (Hx v) t w (AJ k p) rfl h hl y
 ·have e:Dz (AJ k p)=some (B8 (AJ k p).1).1:=if_neg y;rw[e];rw[not_or]at y;exact aC9 ⟨v,a,k⟩ (GE v) p (Hx v) t w (AJ k p) rfl h hl (by simpa using y.1) (Decidable.not_not.1 y.2)
def HF(v:Vw)(p:Bs)(s:Sc)(cas:Int)(data:Bs):Oc:=
 if(Cj s (BE v p).1 (BE v p).2 cas data.length).2.2.2≠0 then L9 v (Cj s (BE v p).1 (BE v p).2 cas data.length).2.2.2 else pI (GE v) p (Cj s (BE v p).1 (BE v p).2 cas data.length) data
theorem aFD(s:Sc)(q:Int)(b:Bool)(cas v:Int):0<=IU s q b cas v∧IU s q b cas v<=99:=by
 grind [IU]
def kI{s:Sc}(g:s.rs.length<=6)(q:Int)(b:Bool)(cas v:Int):(0<=(Cj s q b cas v).2.2.2∧(Cj s q b cas v).2.2.2<=99)∧(Cj s q b cas v).1.rs.length<=7∧(Cj s q b cas v).2.2.1.length<=7∧((Cj s q b cas v).2.2.2=0->0<=(Cj s q b cas v).2.1∧(Cj s q b cas v).2.1<=31):=by
 grind [aFD,Cj,IU,PK,DW,Nh,DA,ON]
def aM3(m:GV v){p:Bs}(y:p.length<=1000000){s:Sc}(g:vT s){cas:Int}{data:Bs}(r:data.length<=1000000):∃ol,UX ⟨v,a,k⟩ (GE v) [.str p,.agg (GB s),.int .i64 cas,.str data]=some (.tup [],HF v p s cas data,ol):=by
 have hl:=g.len;obtain⟨u,z,i,o⟩:=kI hl (BE v p).1 (BE v p).2 cas data.length;have w:(Wb.mk v a k).v.ms.length<=1000:=by have:=m.ml;simp only;omega
 unfold HF;by_cases h:(Cj s (BE v p).1 (BE v p).2 cas data.length).2.2.2≠0
 ·rw[if_pos h];exact⟨_,uO ⟨v,a,k⟩ (GE v) p s cas data (Hx v) O g.nl y r w _ rfl O⟩
 ·rw[if_neg h];exact⟨_,aG8 ⟨v,a,k⟩ (GE v) p s cas data (Hx v) O g.nl y r w _ rfl (Decidable.not_not.1 h) O O⟩
def Of{s:Sc}(g:vT s):∀x∈s.rs,1<=x.1∧x.1<=30:=(SY g.bad V).2
def V2(s:Sc):(FF s).length<=4+2*s.rs.length:=by
 grind [FF,rowsI_len,aPf]
def mP{s:Sc}{q n:Int}(h:n∈Nh s q):∃x∈s.rs,x.1=n:=by
 obtain⟨x,d,e⟩:=QB.1 h;exact⟨x,List.mem_of_mem_take d,e⟩
theorem Un{p:Bs}(y:AQ p=0){ns:List Int}(h:∀n∈ns,1<=n∧n<=30):∀x∈ns.map (λn=>((2:Int),AX 2 p n,([]:Bs))),opK x:=λx q=>by
 obtain⟨n,c,rfl⟩:=QB.1 q;exact Dl (.inr ⟨rfl,rfl⟩) (aNz y (h n c)) (Cf y) (Qp _)
theorem RZ(m:GV v){p:Bs}{s:Sc}(g:vT s){cas:Int}{data:Bs}(y:AQ p=0)(hw:DN a.op=true):(HF v p s cas data).need=[]∧Ix v a (HF v p s cas data):=by
 have hl:=g.len;obtain⟨u,z,i,r⟩:=kI hl (BE v p).1 (BE v p).2 cas data.length;unfold HF;by_cases h:(Cj s (BE v p).1 (BE v p).2 cas data.length).2.2.2≠0
 ·rw[if_pos h];exact⟨rfl,BF O⟩
 ·rw[if_neg h];have d:IU s (BE v p).1 (BE v p).2 cas data.length=0:=by
   grind [IU,BE,Cj]
  have o:s.la+1<=30∧1<=s.la+1∧data.length<=96:=by
   have hq:=(ON g.bad).2.2.1;unfold IU at d
   repeat' split at d
   all_goals first|omega|cases d
  have j:=z;have e:Cj s (BE v p).1 (BE v p).2 cas data.length=(PK (DW s) (BE v p).1,s.la+1,Nh (DW s) (BE v p).1,0):=by unfold Cj;rw[if_neg (λc=>c d)]
  rw[e]at i j ⊢;simp only at i j;have qa:=V2 (PK (DW s) (BE v p).1);have b:∀n∈Nh (DW s) (BE v p).1,1<=n∧n<=30:=λn hn=>by
   obtain⟨x,hx,rfl⟩:=mP hn;rcases QJ.1 hx with hx|hx
   ·exact Of g x hx
   ·simp_all
  refine⟨rfl,Dr (.number (s.la+1)) (if_pos ⟨O,O⟩) trivial rfl Xq hw (by simp[pI,Bh,Oc.op,GE]) ⟨?_,?_⟩ ?_⟩
  ·simp only[pI,Bh,Oc.op,GE,QH,Qh,Qo,Qu];omega
  ·simp only[pI,Bh,Oc.op,GE,Qm,Ql,Qw];exact⟨Dl (.inl rfl) (qK y) (Cf y) O,Dl (.inl rfl) (aNz y ⟨o.2.1,o.1⟩) (Cf y) O,Un y b⟩
  ·exact m
def LJ(v:Vw)(p:Bs)(s:Sc)(gone:List Int)(e:Int):Oc:=if e≠0 then L9 v e else OY (GE v) p s gone
def aEY{s:Sc}(g:s.rs.length<=1000){gnl:Bool}{gone:List Int}(p:gone.length<=900){e:Int}(r:0<=e∧e<=99)(y:a.pa.length<=1000000):∃ol,UV ⟨v,a,k⟩ (GE v) [.agg (GB s),.slice gnl [] (AF gone),.int .i64 e]=some (.tup [],LJ v a.pa s gone e,ol):=by
 unfold LJ;by_cases h:e≠0
 ·rw[if_pos h];exact⟨_,uM ⟨v,a,k⟩ (GE v) s gnl gone e (Hx v) O⟩
 ·rw[if_neg h];obtain rfl:=Decidable.not_not.1 h;exact⟨_,aG7 ⟨v,a,k⟩ (GE v) s gnl gone (Hx v) p g y⟩
def LI(m:GV v){p:Bs}{s:Sc}{gone:List Int}(q:gone.length<=30){e:Int}(r:0<=e∧e<=99)(y:AQ p=0)(z:DN a.op=true)(g:s.rs.length<=6)(c:∀n∈gone,1<=n∧n<=30):(LJ v p s gone e).need=[]∧Ix v a (LJ v p s gone e):=by
 unfold LJ;by_cases h:e≠0
 ·rw[if_pos h];exact⟨rfl,BF O⟩
 ·rw[if_neg h];have qa:=V2 s;refine⟨rfl,Dr .done rfl trivial rfl Xq z (by simp[OY,Bh,Oc.op,GE]) ⟨?_,?_⟩ m⟩
  ·grind [OY,Bh,Oc.op,GE]
  ·grind [OY,Bh,Oc.op,GE,Dl,qK,Cf,Un]
def MM(ns:List Int)(n:Nat):∀(l:List Rw)(j:Nat),∀q∈Ef ns n j l,∃x∈l,x.1=q
 |[],j,q,h=>Xc
 |x::r,j,q,h=>by
  unfold Ef at h;split at h
  ·rcases QR.1 h with rfl|h
   ·simp_all
   ·obtain⟨y,s,e⟩:=MM ns n r (j+1) q h;exact⟨y,Qt _ s,e⟩
  ·obtain⟨y,s,e⟩:=MM ns n r (j+1) q h;exact⟨y,Qt _ s,e⟩
def pR{s:Sc}(g:vT s)(ns:List Int)(c:Nat):∀q∈(Br s ns c).2.1,1<=q∧q<=30:=λq j=>by
 unfold Br at j
 repeat' split at j
 ·cases j
 ·cases j
 ·obtain⟨x,d,rfl⟩:=MM _ _ _ _ q j;exact Of g x d
def sT{s:Sc}(g:vT s)(q v:Int)(b:Bool):∀n∈(DB s q v b).2.1,1<=n∧n<=30:=λn c=>by
 unfold DB at c;split at c
 ·cases c
 ·obtain⟨x,d,rfl⟩:=mP c;exact Of g x d
theorem R3(ns:List Int)(n:Nat):∀(l:List Rw)(j:Nat),(Ef ns n j l).length<=l.length
 |[],j=>Qf _
 |x::r,j=>by
  unfold Ef;have:=R3 ns n r (j+1);split<;>simp only[Qh]<;>omega
def LH{s:Sc}(g:s.rs.length<=6)(ns:List Int)(c:Nat):(0<=(Br s ns c).2.2∧(Br s ns c).2.2<=99)∧(Br s ns c).1.rs.length<=6∧(Br s ns c).2.1.length<=6:=by
 grind [Br,ML,R3]
def bY{s:Sc}(g:s.rs.length<=6)(q v:Int)(b:Bool):(0<=(DB s q v b).2.2∧(DB s q v b).2.2<=99)∧(DB s q v b).1.rs.length<=6∧(DB s q v b).2.1.length<=6:=by
 grind [DB,PK,Nh]
end
def lJ(s:Sc)(n:Int):0<=(Hp s n).2∧(Hp s n).2<=99:=by
 grind [Hp]
def yH{s:Sc}(g:vT s){n:Int}(h:(Hp s n).2=0):1<=(Hp s n).1.1∧(Hp s n).1.1<=30:=by
 have o:=ON g.bad;unfold Hp at h ⊢;split at h
 ·cases h
 ·rename_i u;rw[if_neg u];split at h
  ·cases h
  ·rename_i z;rw[if_neg z];split at h
   ·cases h
   ·rename_i i;rw[if_neg i];have r:FR s n<s.rs.length:=by
     unfold FR;split
     ·omega
     ·exact Sn _ _
    simp only[Zb];rw[Qd O];have w:=fB o.2.2.2.2.1 _ (Qx (l:=s.rs) (n:=(FR s n).toNat) O);have d:(s.rs.getLast?.map (·.1)).getD 0=Pc s.rs:=by unfold Pc;cases s.rs.getLast?<;>rfl
    rw[d,o.2.2.2.2.2]at w;simp only[QO];omega
def Dv(v:Vw)(a:Ak)(k:Kn):Oc:=
 if(AJ k a.pa).2.2=false then Dp v (AX 1 a.pa 0) false
 else if a.op=10 then HF v a.pa (Lf (Dz (AJ k a.pa))) a.cas a.da
 else if a.op=15 then LJ v a.pa (DB (Lf (Dz (AJ k a.pa))) (BE v a.pa).1 a.n a.fl).1 (DB (Lf (Dz (AJ k a.pa))) (BE v a.pa).1 a.n a.fl).2.1 (DB (Lf (Dz (AJ k a.pa))) (BE v a.pa).1 a.n a.fl).2.2
 else match Dz (AJ k a.pa)with
  |none=>L9 v 6
  |some s=>if a.op=14 then {GE v with rep:=Hg (.about s)}else if a.op=16 then {EP (GE v) a.pa s.rs with rep:=Hg .done}
   else if a.op=11 then LJ v a.pa (Br s a.ns 280).1 [] (Br s a.ns 280).2.2 else if a.op=12 then LJ v a.pa (Br s a.ns 281).1 [] (Br s a.ns 281).2.2
   else LJ v a.pa (Br s a.ns 282).1 (Br s a.ns 282).2.1 (Br s a.ns 282).2.2
def aVr{v:Vw}{a:Ak}{k:Kn}(m:GV v)(x:I_ a)(o:HD k)(w:10<=a.op∧a.op<=16):∃ol,S1 ⟨v,a,k⟩ (GE v) []=some (.tup [],Dv v a k,ol):=by
 have y:a.pa.length<=1000000:=Ym
 have p:a.da.length<=1000000:=by have:=x.ok.da;omega
 have c:=x.ok.ns;unfold Dv;cases hm:(AJ k a.pa).2.2 with
 |false=>
  rw[if_pos rfl];exact⟨_,aCY ⟨v,a,k⟩ (GE v) _ _ _ (λ_=>rfl) (MJ o y hm)⟩
 |true=>
  rw[if_neg V];have z:=Ld (v:=v) (a:=a) o y hm;have d:=F7 (AJ k a.pa);by_cases e:a.op=10
  ·rw[if_pos e];obtain⟨ol,ka⟩:=aM3 (a:=a) (k:=k) m y d (cas:=a.cas) (data:=a.da) p;exact⟨_,uG ⟨v,a,k⟩ (GE v) _ _ _ _ (λ_=>rfl) z e ka⟩
  rw[if_neg e];by_cases qa:a.op=15
  ·rw[if_pos qa];have hl:=d.len;obtain⟨i,q,t⟩:=bY hl (BE v a.pa).1 a.n a.fl;obtain⟨ol,j⟩:=aEY (v:=v) (a:=a) (k:=k) (s:=(DB (Lf (Dz (AJ k a.pa))) (BE v a.pa).1 a.n a.fl).1) O (gnl:=decide ((DB (Lf (Dz (AJ k a.pa))) (BE v a.pa).1 a.n a.fl).2.1=[])) (gone:=(DB (Lf (Dz (AJ k a.pa))) (BE v a.pa).1 a.n a.fl).2.1) O i y;exact⟨_,jO ⟨v,a,k⟩ (GE v) _ _ _ _ (λ_=>rfl) z qa (BE v a.pa).1 (BE v a.pa).2 _ _ _ _ j (UW ⟨v,a,k⟩ (GE v) a.pa (λ_=>rfl) (by have:=m.ml;simp only;omega)) (aIc _ _ _ _ _ O d.nl)⟩
  rw[if_neg qa];cases hs:Dz (AJ k a.pa)with
  |none=>
   rw[hs]at z;exact⟨_,aCX ⟨v,a,k⟩ (GE v) _ _ _ (λ_=>rfl) z e qa (wF v a k V)⟩
  |some s=>
   rw[hs]at z;have b:=Oe hs;have hl:=b.len;simp only;by_cases f:a.op=14
   ·rw[if_pos f];exact⟨_,uI ⟨v,a,k⟩ (GE v) s _ _ (λ_=>rfl) z f (It ⟨v,a,k⟩ (GE v) (.about s) (λ_=>rfl) (show s.rs.length<=1000 by omega) trivial)⟩
   rw[if_neg f];by_cases r:a.op=16
   ·rw[if_pos r];exact⟨_,uH ⟨v,a,k⟩ (GE v) s _ _ (λ_=>rfl) z r (aG5 ⟨v,a,k⟩ (GE v) s (Hx v) O y)⟩
   rw[if_neg r];by_cases u:a.op=11
   ·rw[if_pos u];obtain⟨i,q,t⟩:=LH hl a.ns 280;obtain⟨ol,j⟩:=aEY (v:=v) (a:=a) (k:=k) (s:=(Br s a.ns 280).1) O (gnl:=true) (gone:=[]) (Qp _) i y;exact⟨_,jN ⟨v,a,k⟩ (GE v) s _ _ (λ_=>rfl) z u _ _ j (aIa s _ _ O b.nl c)⟩
   rw[if_neg u];by_cases g:a.op=12
   ·rw[if_pos g];obtain⟨i,q,t⟩:=LH hl a.ns 281;obtain⟨ol,j⟩:=aEY (v:=v) (a:=a) (k:=k) (s:=(Br s a.ns 281).1) O (gnl:=true) (gone:=[]) (Qp _) i y;exact⟨_,UR ⟨v,a,k⟩ (GE v) s _ _ (λ_=>rfl) z g _ _ j (aH8 s _ _ O b.nl c)⟩
   rw[if_neg g];have ra:a.op=13:=O
   obtain⟨i,q,t⟩:=LH hl a.ns 282;obtain⟨ol,j⟩:=aEY (v:=v) (a:=a) (k:=k) (s:=(Br s a.ns 282).1) O (gnl:=decide ((Br s a.ns 282).2.1=[])) (gone:=(Br s a.ns 282).2.1) O i y;exact⟨_,cV ⟨v,a,k⟩ (GE v) s _ _ (λ_=>rfl) z ra _ _ _ _ j (aH6 s _ _ O b.nl c)⟩
def DK{v:Vw}{a:Ak}{k:Kn}(m:GV v)(i:AQ a.pa=0)(j:10<=a.op∧a.op<=16):((AJ k a.pa).2.2=true->(Dv v a k).need=[]∧Ix v a (Dv v a k))∧((AJ k a.pa).2.2=false->Dv v a k=Dp v (AX 1 a.pa 0) false):=by
 have d:=F7 (AJ k a.pa);have hl:=d.len;unfold Dv;cases hm:(AJ k a.pa).2.2 with
 |false=>
  rw[if_pos rfl];exact⟨λe=>Xw,λ_=>rfl⟩
 |true=>
  rw[if_neg V];refine⟨λ_=>?_,λe=>Xw⟩;by_cases f:a.op=14
  ·rw[if_neg O,if_neg O];cases hs:Dz (AJ k a.pa)with
   |none=>exact⟨rfl,BF V⟩
   |some s=>
    simp only;rw[if_pos f];exact⟨rfl,FP (.about s) (if_neg (by rw[(Oe hs).bad];decide)) trivial rfl Xq (OU O) rfl v.se (λ_ _=>rfl) rfl⟩
  have hw:DN a.op=true:=Nz O;by_cases z:a.op=10
  ·grind [RZ]
  rw[if_neg z];by_cases qa:a.op=15
  ·rw[if_pos qa];obtain⟨t,b2,p⟩:=bY hl (BE v a.pa).1 a.n a.fl;exact LI m O t i hw b2 (sT d _ _ _)
  rw[if_neg qa];cases hs:Dz (AJ k a.pa)with
  |none=>exact⟨rfl,BF V⟩
  |some s=>
   have b:=Oe hs;have hl:=b.len;simp only;rw[if_neg f];by_cases r:a.op=16
   ·rw[if_pos r];have o:(EO s.rs).length<=s.rs.length:=by unfold EO;rw[Qu];exact List.length_filter_le _ _
    have ra:∀n∈EO s.rs,1<=n∧n<=30:=λn o=>by
     obtain⟨x,q,rfl⟩:=QB.1 o;exact Of b x (Zz.1 q).1
    refine⟨rfl,Dr .done rfl trivial rfl Xq hw (by simp[EP,Bh,Oc.op,GE]) ⟨?_,?_⟩ m⟩
    ·grind [EP,Bh,Oc.op,GE]
    ·grind [EP,Bh,Oc.op,GE,Dl,qK,Cf,Un]
   rw[if_neg r];have tb:=λc=>LH hl a.ns c
   have w:=λc=>pR b a.ns c
   by_cases u:a.op=11
   ·rw[if_pos u];exact LI m (Qp _) (tb 280).1 i hw (tb 280).2.1 (λn h=>nomatch h)
   rw[if_neg u];by_cases g:a.op=12
   ·rw[if_pos g];exact LI m (Qp _) (tb 281).1 i hw (tb 281).2.1 (λn h=>nomatch h)
   rw[if_neg g];exact LI m (by have:=(tb 282).2.2;omega) (tb 282).1 i hw (tb 282).2.1 (w 282)
def PN{v:Vw}{a:Ak}(m:GV v)(x:I_ a)(g:vV [Hv v,GT a]=some (.int .i64 0))(i:AQ a.pa=0)(j:10<=a.op∧a.op<=16):Hb v a (Dv v a):=by
 refine⟨λk o=>?_,λk o c=>?_,λk o c=>?_,λk=>if(AJ k a.pa).2.2=true then 0 else 1,λk=>by dsimp only;split<;>decide,λk d o c=>?_⟩
 ·obtain⟨ol,h⟩:=aVr m x o j;rcases(by omega:a.op=10∨a.op=11∨a.op=12∨a.op=13∨a.op=14∨a.op=15∨a.op=16)with e|e|e|e|e|e|e
  ·exact Bw .o10 a k e g _ _ h
  ·exact Bw .o11 a k e g _ _ h
  ·exact Bw .o12 a k e g _ _ h
  ·exact Bw .o13 a k e g _ _ h
  ·exact Bw .o14 a k e g _ _ h
  ·exact Bw .o15 a k e g _ _ h
  ·exact Bw .o16 a k e g _ _ h
 ·cases hm:(AJ k a.pa).2.2 with
  |true=>exact((DK (v:=v) m i j).1 hm).2
  |false=>
   rw[(DK (v:=v) m i j).2 hm]at c;exact absurd c (Pw (qK i))
 ·cases hm:(AJ k a.pa).2.2 with
  |true=>exact absurd ((DK (v:=v) m i j).1 hm).1 c
  |false=>exact⟨_,_,(DK (v:=v) m i j).2 hm⟩
 ·cases hm:(AJ k a.pa).2.2 with
  |true=>exact absurd ((DK (v:=v) m i j).1 hm).1 c
  |false=>
   rw[(DK (v:=v) m i j).2 hm];show(if(Db (A_ k (AX 1 a.pa 0) false d) (AX 1 a.pa 0)).2.2=true then 0 else 1)<(if(AJ k a.pa).2.2=true then 0 else 1);rw[(Ga k _ d _).1 rfl,hm];decide
def WA(v:Vw)(a:Ak)(k:Kn):Oc:=
 if(EQ k ([109,47]++a.pa++[47])).2.2=false then Dp v ([109,47]++a.pa++[47]) true
 else {GE v with rep:=Hg (.names (decide (FL a.pa (BP (EQ k ([109,47]++a.pa++[47])).2.1)=[])) ((nL a.pa (BP (EQ k ([109,47]++a.pa++[47])).2.1)).take 64))}
def Uf{z:Bs}{l:List Bs}(h:FL z l=[]):nL z l=[]:=by unfold nL eW;rw[h,List.mergeSort_nil];rfl
def yR{l:List Bs}(h:∀s∈l,s.length<=1000000):∀s∈BP l,s.length<=1000000:=λs g=>Qg (Cf (NG g)) V
def aBu{v:Vw}{a:Ak}(m:GV v)(x:I_ a)(g:vV [Hv v,GT a]=some (.int .i64 0))(j:a.op=17):Hb v a (WA v a):=by
 have y:a.pa.length<=1000000:=Ym
 refine⟨λk o=>?_,λk o c=>?_,λk o c=>?_,λk=>if(EQ k ([109,47]++a.pa++[47])).2.2=true then 0 else 1,λk=>by dsimp only;split<;>decide,λk d o c=>?_⟩
 ·have w:k.ls.length<=1000:=by have:=o.ls;omega
  have r:=aIf k ([109,47]++a.pa++[47]) w;unfold WA;cases hm:(EQ k ([109,47]++a.pa++[47])).2.2 with
  |false=>
   rw[if_pos rfl];rw[hm]at r;exact Bw .o17 a k j g _ _ (aC1 RU ⟨v,a,k⟩ (GE v) _ _ (λ_=>rfl) _ _ y r (OO ⟨v,a,k⟩ (GE v) _ _ (Hx v)))
  |true=>
   rw[if_neg V];rw[hm]at r;obtain⟨i,u⟩:=aNU o ([109,47]++a.pa++[47]);generalize (EQ k ([109,47]++a.pa++[47])).2.1=f at *;have ra:=qO f;have na:=aPc a.pa (BP f);exact Bw .o17 a k j g _ _ (aPl RU ⟨v,a,k⟩ (GE v) _ (λ_=>rfl) _ _ y r i u (decide (FL a.pa (BP f)=[])) (nL a.pa (BP f)) (λb _=>aIn O (yR u)) O (λe=>Uf (of_decide_eq_true e)) (It ⟨v,a,k⟩ (GE v) (.names _ _) (λ_=>rfl) (by show((nL a.pa (BP f)).take 64).length<=1000;rw[List.length_take];omega) (λe=>by rw[Uf (of_decide_eq_true e)];rfl)))
 ·unfold WA at c ⊢;cases hm:(EQ k ([109,47]++a.pa++[47])).2.2 with
  |false=>rw[hm,if_pos rfl]at c;simp[Dp]at c
  |true=>
   rw[if_neg V];exact FP (.names _ _) (if_pos ⟨XE,aCw _ _⟩) (λe=>by rw[Uf (of_decide_eq_true e)];rfl) rfl Xq (OU O) rfl v.se (λ_ _=>rfl) rfl
 ·unfold WA at c ⊢;cases hm:(EQ k ([109,47]++a.pa++[47])).2.2 with
  |true=>rw[hm,if_neg V]at c;exact absurd rfl c
  |false=>exact⟨_,_,if_pos rfl⟩
 ·unfold WA at c ⊢;cases hm:(EQ k ([109,47]++a.pa++[47])).2.2 with
  |true=>rw[hm,if_neg V]at c;exact absurd rfl c
  |false=>
   rw[if_pos rfl];show(if(EQ (A_ k ([109,47]++a.pa++[47]) true d) ([109,47]++a.pa++[47])).2.2=true then 0 else 1)<(if(EQ k ([109,47]++a.pa++[47])).2.2=true then 0 else 1);rw[aGj,hm];decide
def MZ(a:Ak):Int:=if a.op=18 then 0 else a.n
def Fi(k:Kn)(a:Ak):Rw×Int:=Hp (Lf (Dz (AJ k a.pa))) (MZ a)
def B3(k:Kn)(a:Ak):Bs:=AX 2 a.pa (Fi k a).1.1
def R5(k:Kn)(a:Ak):Bs:=if(Db k (B3 k a)).2.1=true then(Db k (B3 k a)).1 else []
def C_(v:Vw)(a:Ak)(k:Kn):Oc:=
 if(AJ k a.pa).2.2=false then Dp v (AX 1 a.pa 0) false
 else if(Dz (AJ k a.pa)).isSome=false then L9 v 6
 else if(Fi k a).2≠0 then L9 v (Fi k a).2
 else if(Db k (B3 k a)).2.2=false then Dp v (B3 k a) false
 else if a.op=9 then {GE v with rep:=Hg (.found (Fi k a).1.1 (R5 k a))}
 else if(AJ k a.ot).2.2=false then Dp v (AX 1 a.ot 0) false
 else HF v a.ot (Lf (Dz (AJ k a.ot))) (-1) (R5 k a)
section
variable{v:Vw}{a:Ak}{k:Kn}
def VA(g:HD k):(R5 k a).length<=400:=by
 grind [R5,mR]
def aFr(r:Rw):rwD r= .agg [.int .i64 r.1,.bool r.2.1,.bool r.2.2]:=rfl
def aVs(m:GV v)(x:I_ a)(g:HD k)(w:a.op=9∨a.op=18):∃ol,Vi ⟨v,a,k⟩ (GE v) []=some (.tup [],C_ v a k,ol):=by
 have y:a.pa.length<=1000000:=Ym
 have s:a.ot.length<=1000000:=by have:=x.ok.ot;omega
 have i:k.es.length<=1000:=by have:=g.es;omega
 have qa:=VA (a:=a) g;unfold C_;cases hm:(AJ k a.pa).2.2 with
 |false=>
  rw[if_pos rfl];exact⟨_,aC0 ⟨v,a,k⟩ (GE v) _ _ _ (λ_=>rfl) (MJ g y hm)⟩
 |true=>
  rw[if_neg V];have z:=Ld (v:=v) (a:=a) g y hm;have d:=F7 (AJ k a.pa);have hl:=d.len;cases hs:(Dz (AJ k a.pa)).isSome with
  |false=>
   rw[if_pos rfl];rw[hs]at z;exact⟨_,aCZ ⟨v,a,k⟩ (GE v) _ _ _ (λ_=>rfl) z (wF v a k V)⟩
  |true=>
   rw[if_neg V];rw[hs]at z;have p:=aIe (Lf (Dz (AJ k a.pa))) (MZ a) O;rw[aFr]at p;have c:=lJ (Lf (Dz (AJ k a.pa))) (MZ a);have j:=CF 2 (Fi k a).1.1 a.pa y;have u:=OQ k (B3 k a) i;unfold R5 at qa ⊢;unfold Fi B3 Fi at *;generalize Hp (Lf (Dz (AJ k a.pa))) (MZ a)=row at *;obtain⟨⟨n,t,r2⟩,e⟩:=row;simp only at *;by_cases r:e≠0
   ·rw[if_pos r];rcases w with h9|h18
    ·have b:MZ a=a.n:=by unfold MZ;rw[h9];rfl
     rw[b]at p;exact⟨_,uK ⟨v,a,k⟩ (GE v) _ _ _ (λ_=>rfl) z h9 n e t r2 p r (wF v a k O)⟩
    ·have b:MZ a=0:=by unfold MZ;rw[if_pos h18]
     rw[b]at p;exact⟨_,jQ ⟨v,a,k⟩ (GE v) _ _ _ (λ_=>rfl) z h18 n e t r2 p r (wF v a k O)⟩
   ·rw[if_neg r];obtain rfl:=Decidable.not_not.1 r;generalize AX 2 a.pa n=q at *;generalize Db k q=en at *;obtain⟨o,t2,t3⟩:=en;simp only at *;rcases w with h9|h18
    ·have b:MZ a=a.n:=by unfold MZ;rw[h9];rfl
     rw[b]at p;cases t3 with
     |false=>
      rw[if_pos rfl];exact⟨_,uJ ⟨v,a,k⟩ (GE v) _ _ _ (λ_=>rfl) z h9 n t r2 p q _ _ j u (OO ⟨v,a,k⟩ (GE v) q false (Hx v))⟩
     |true=>
      rw[if_neg V,if_pos h9];cases t2 with
      |true=>exact⟨_,cW ⟨v,a,k⟩ (GE v) _ _ _ (λ_=>rfl) z h9 n t r2 p q _ j u (It ⟨v,a,k⟩ (GE v) (.found n o) (λ_=>rfl) trivial trivial)⟩
      |false=>exact⟨_,US ⟨v,a,k⟩ (GE v) _ _ _ (λ_=>rfl) z h9 n t r2 p q _ j u (It ⟨v,a,k⟩ (GE v) (.found n []) (λ_=>rfl) trivial trivial)⟩
    ·have b:MZ a=0:=by unfold MZ;rw[if_pos h18]
     have h9:¬a.op=9:=O
     rw[b]at p;cases t3 with
     |false=>
      rw[if_pos rfl];exact⟨_,jP ⟨v,a,k⟩ (GE v) _ _ _ (λ_=>rfl) z h18 n t r2 p q _ _ j u (OO ⟨v,a,k⟩ (GE v) q false (Hx v))⟩
     |true=>
      rw[if_neg V,if_neg h9];cases hm2:(AJ k a.ot).2.2 with
      |false=>
       rw[if_pos rfl];have f:=MJ (v:=v) (a:=a) g s hm2;cases t2 with
       |true=>exact⟨_,Nt ⟨v,a,k⟩ (GE v) _ _ (λ_=>rfl) z h18 n t r2 p q _ j u _ _ f⟩
       |false=>exact⟨_,MA ⟨v,a,k⟩ (GE v) _ _ (λ_=>rfl) z h18 n t r2 p q _ j u _ _ f⟩
      |true=>
       rw[if_neg V];have f:=Ld (v:=v) (a:=a) g s hm2;cases t2 with
       |true=>
        obtain⟨ol,ka⟩:=aM3 (a:=a) (k:=k) m s (F7 (AJ k a.ot)) (cas:=-1) (data:=o) (by simp only[if_true]at qa;omega);exact⟨_,cX ⟨v,a,k⟩ (GE v) _ _ _ (λ_=>rfl) z h18 n t r2 p q _ j u _ _ f ka⟩
       |false=>
        obtain⟨ol,ka⟩:=aM3 (a:=a) (k:=k) m s (F7 (AJ k a.ot)) (cas:=-1) (data:=[]) (Qp _);exact⟨_,UT ⟨v,a,k⟩ (GE v) _ _ _ (λ_=>rfl) z h18 n t r2 p q _ j u _ _ f ka⟩
def nE(m:GV v)(g:HD k)(i:AQ a.pa=0)(na:a.op=18->AQ a.ot=0)(j:a.op=9∨a.op=18):((C_ v a k).need=[]->Ix v a (C_ v a k))∧((C_ v a k).need≠[]->∃q li,C_ v a k=Dp v q li):=by
 have qa:=VA (a:=a) g;have fin:∀{o:Oc},o.need=[]->Ix v a o->(o.need=[]->Ix v a o)∧(o.need≠[]->∃q li,o=Dp v q li):=λu t=>⟨λ_=>t,λh=>absurd u h⟩
 have b:∀{q:Bs} {li:Bool},q≠[]->((Dp v q li).need=[]->Ix v a (Dp v q li))∧((Dp v q li).need≠[]->∃s d,Dp v q li=Dp v s d):=λh=>⟨λe=>absurd e h,λ_=>⟨_,_,rfl⟩⟩
 unfold C_;cases hm:(AJ k a.pa).2.2 with
 |false=>rw[if_pos rfl];exact b (Pw (qK i))
 |true=>
  rw[if_neg V];cases hs:(Dz (AJ k a.pa)).isSome with
  |false=>rw[if_pos rfl];exact fin rfl (BF V)
  |true=>
   rw[if_neg V];have c:=lJ (Lf (Dz (AJ k a.pa))) (MZ a);by_cases r:(Fi k a).2≠0
   ·rw[if_pos r];exact fin rfl (BF ⟨by unfold Fi at *;omega,c.2⟩)
   rw[if_neg r];have n:1<=(Fi k a).1.1∧(Fi k a).1.1<=30:=yH (F7 _) (Decidable.not_not.1 r);cases ht:(Db k (B3 k a)).2.2 with
   |false=>rw[if_pos rfl];exact b (Pw (aNz i n))
   |true=>
    rw[if_neg V];by_cases x:a.op=9
    ·rw[if_pos x];exact fin rfl (FP (.found _ _) (if_pos ⟨O,O,qa⟩) trivial rfl Xq (OU O) rfl v.se (λ_ _=>rfl) rfl)
    rw[if_neg x];have z:a.op=18:=O
    cases hm2:(AJ k a.ot).2.2 with
    |false=>rw[if_pos rfl];exact b (Pw (qK (na z)))
    |true=>
     rw[if_neg V];obtain⟨f,w⟩:=RZ (v:=v) (a:=a) m (p:=a.ot) (F7 (AJ k a.ot)) (cas:=-1) (data:=R5 k a) (na z) (Nz O);exact fin f w
def E0(k:Kn)(a:Ak):Nat:=if(AJ k a.pa).2.2=false then 3 else if(Db k (B3 k a)).2.2=false then 2 else if(AJ k a.ot).2.2=false then 1 else 0
def aFG(k:Kn)(a:Ak):E0 k a<=3:=by
 unfold E0
 repeat' split
 all_goals decide
def sO(c:(C_ v a k).need≠[]):((AJ k a.pa).2.2=false∧C_ v a k=Dp v (AX 1 a.pa 0) false)∨((AJ k a.pa).2.2=true∧(Db k (B3 k a)).2.2=false∧C_ v a k=Dp v (B3 k a) false)∨((AJ k a.pa).2.2=true∧(Db k (B3 k a)).2.2=true∧(AJ k a.ot).2.2=false∧C_ v a k=Dp v (AX 1 a.ot 0) false):=by
 unfold C_ at c ⊢;cases hm:(AJ k a.pa).2.2 with
 |false=>rw[if_pos rfl];exact .inl ⟨rfl,rfl⟩
 |true=>
  rw[hm,if_neg V]at c;rw[if_neg V];split at c
  ·exact absurd rfl c
  rename_i c1;rw[if_neg c1];split at c
  ·exact absurd rfl c
  rename_i u;rw[if_neg u];cases ht:(Db k (B3 k a)).2.2 with
  |false=>rw[if_pos rfl];exact .inr (.inl ⟨rfl,rfl,rfl⟩)
  |true=>
   rw[ht,if_neg V]at c;rw[if_neg V];split at c
   ·exact absurd rfl c
   rename_i t;rw[if_neg t];cases hm2:(AJ k a.ot).2.2 with
   |false=>rw[if_pos rfl];exact .inr (.inr ⟨rfl,rfl,rfl,rfl⟩)
   |true=>
    rw[hm2,if_neg V]at c;unfold HF at c;split at c
    ·exact absurd rfl c
    ·exact absurd rfl c
def sP(d:Dk)(c:(C_ v a k).need≠[]):E0 (A_ k (C_ v a k).need (C_ v a k).li d) a<E0 k a:=by
 rcases sO c with ⟨u,z⟩|⟨u,z,i⟩|⟨u,z,i,o⟩
 ·rw[z];show E0 (A_ k (AX 1 a.pa 0) false d) a<E0 k a;have e:(AJ (A_ k (AX 1 a.pa 0) false d) a.pa).2.2=true:=(Ga k _ d _).1 rfl;unfold E0;rw[e,u];simp only[Zn,if_false,if_true]
  repeat' split
  all_goals decide
 ·rw[i];show E0 (A_ k (B3 k a) false d) a<E0 k a;have w:AX 1 a.pa 0≠B3 k a:=λe=>by
   unfold AJ at u;rw[e,z]at u;cases u
  have e:AJ (A_ k (B3 k a) false d) a.pa=AJ k a.pa:=(Ga k _ d _).2 w.symm;have n:Fi (A_ k (B3 k a) false d) a=Fi k a:=by unfold Fi;rw[e]
  have m:B3 (A_ k (B3 k a) false d) a=B3 k a:=by
   show AX 2 a.pa (Fi (A_ k (B3 k a) false d) a).1.1=AX 2 a.pa (Fi k a).1.1;rw[n]
  have g:(Db (A_ k (B3 k a) false d) (B3 k a)).2.2=true:=(Ga k _ d _).1 rfl;unfold E0;rw[e,u,z,m,g];simp only[Zn,if_false,if_true];split<;>decide
 ·rw[o];show E0 (A_ k (AX 1 a.ot 0) false d) a<E0 k a;have w:AX 1 a.pa 0≠AX 1 a.ot 0:=λe=>by
   unfold AJ at u i;rw[e,i]at u;cases u
  have j:B3 k a≠AX 1 a.ot 0:=λe=>by
   unfold AJ at i;rw[e,i]at z;cases z
  have e:AJ (A_ k (AX 1 a.ot 0) false d) a.pa=AJ k a.pa:=(Ga k _ d _).2 w.symm;have n:Fi (A_ k (AX 1 a.ot 0) false d) a=Fi k a:=by unfold Fi;rw[e]
  have m:B3 (A_ k (AX 1 a.ot 0) false d) a=B3 k a:=by
   show AX 2 a.pa (Fi (A_ k (AX 1 a.ot 0) false d) a).1.1=AX 2 a.pa (Fi k a).1.1;rw[n]
  have g:Db (A_ k (AX 1 a.ot 0) false d) (B3 k a)=Db k (B3 k a):=(Ga k _ d _).2 j.symm;have b:(AJ (A_ k (AX 1 a.ot 0) false d) a.ot).2.2=true:=(Ga k _ d _).1 rfl;unfold E0;rw[e,u,m,g,z,b,i];decide
end
def bS{v:Vw}{a:Ak}(m:GV v)(x:I_ a)(g:vV [Hv v,GT a]=some (.int .i64 0))(i:AQ a.pa=0)(na:a.op=18->AQ a.ot=0)(j:a.op=9∨a.op=18):Hb v a (C_ v a):=by
 refine⟨λk o=>?_,λk o c=>(nE m o i na j).1 c,λk o c=>(nE m o i na j).2 c,λk=>E0 k a,λk=>aFG k a,λk d _ c=>sP d c⟩;obtain⟨ol,h⟩:=aVs m x o j;rcases j with e|e
 ·exact Bw .o9 a k e g _ _ h
 ·exact Bw .o18 a k e g _ _ h
def aGG{v:Vw}{a:Ak}(m:GV v)(x:I_ a):∃z,Hb v a z∧(LS v a≠0->∀k,z k=L9 v (LS v a)):=by
 have g:=U7 m.ok x.ok;have o:=aFE v a;by_cases h:LS v a=0
 ·rw[h]at g;have y:=iV h;obtain⟨u,t⟩:=aRq y x.ok.op0;by_cases w:a.op<=8
  ·simp_all [aGE]
  have i:=aFL y O t;by_cases b:a.op=17
  ·exact⟨_,aBu m x g b,λe=>absurd h e⟩
  by_cases n:a.op=9∨a.op=18
  ·exact⟨_,bS m x g i (λe=>yT y e) n,λe=>absurd h e⟩
  ·exact⟨_,PN m x g i O,λe=>absurd h e⟩
 ·exact⟨_,aBv g O,λ_ _=>rfl⟩
def F6{q:UInt8}:∀{l:List Bs},l≠[]->(∀w∈l,q∉w)->splitC q (Lib.join l [q])=l
 |[],h,_=>absurd rfl h
 |[x],_,h=>by
  have e:Lib.join [x] [q]=x:=XO
  rw[e];exact split_one (h x (QZ _))
 |x::y::r,_,h=>by
  have e:Lib.join (x::y::r) [q]=x++q::Lib.join (y::r) [q]:=XO
  rw[e,split_word (h x (Qv ..)),F6 U (λw v=>h w (Qt _ v))]
def O5(x:Rw)(h:0<=x.1∧x.1<1000):∀c∈rowW1 x,c=33∨c=35∨48<=c.toNat∧c.toNat<=57:=by
 intro c hc;unfold rowW1 at hc;rcases QJ.1 hc with hc|hc
 ·rcases QJ.1 hc with hc|hc
  ·exact .inr (.inr (LZ _ O c hc))
  ·split at hc
   ·exact .inl (Qk.1 hc)
   ·cases hc
 ·split at hc
  ·exact .inr (.inl (Qk.1 hc))
  ·cases hc
def aNy(x:Rw)(h:0<=x.1∧x.1<1000):(44:UInt8)∉rowW1 x:=λy=>by
 rcases O5 x h 44 y with h|h|h
 ·cases h
 ·cases h
 ·exact absurd h.1 V
def aFu(x:Rw)(h:0<=x.1∧x.1<1000)(l:List Rw):Lib.join ((x::l).map rowW1) [44]≠[45]:=λe=>by
 have u:=O5 x h;have z:rowW1 x≠[]:=by
  have:=V9 x.1.toNat;unfold rowW1;intro e;simp only[List.append_eq_nil_iff]at e;rw[e.1.1]at this;simp at this
 obtain⟨c,r,i⟩:=Q6 z;have:∃f,Lib.join ((x::l).map rowW1) [44]=c::f:=by
  cases l with
  |nil=>exact⟨r,by simp[Lib.join,i]⟩
  |cons y l=>exact⟨r++[44]++Lib.join ((y::l).map rowW1) [44],by simp[Lib.join,i]⟩
 obtain⟨f,v⟩:=this;rw[v]at e;have p:c=45:=(ZL e).1;rcases u c (by rw[i];exact Qv ..)with h|h|h
 ·rw[p]at h;cases h
 ·rw[p]at h;cases h
 ·rw[p]at h;exact absurd h.1 V
def FZ{s:Bs}{q:UInt8}(h:s.length<=1000000):CM [.str s,.str [q]]=some (.slice false [] (strsD (splitC q s))):=if_pos h
def jU:=Ap [(65,Ac R90),(177,Ac aHL),(178,Ac aP9),(42,Ac CM)]
def aQh:=RF jU aLK [.cell (some 4) 2] 42
def aTB:Kq aQh 115:=An (Aj func115) (Aa aGo (Aa aTk (Aa aTj (Aa qQ Ad))))
def aH4(s:Sc)(g1:s.rs.length<=100)(g2:0<=s.mx∧s.mx<1000)(g3:0<=s.la∧s.la<1000)(g4:∀x∈s.rs,0<=x.1∧x.1<1000):aQh [.slice false [] [.str (BT s.mx.toNat),.str [if s.cas=true then 49 else 48],.str (BT s.la.toNat),.str (CZ (s.rs.map rowW1))]]=some (.agg (GB {s with nl:=decide (s.rs=[])})):=by
 refine Am (Qa rfl) ?_;unfold aLK;obtain⟨mx,cas,la,nl,rs⟩:=s;simp only at g1 g2 g3 g4;have a1:=Fg mx.toNat O;rw[QD g2.1]at a1;have a2:=Fg la.toNat O;rw[QD g3.1]at a2;have a3:aHL [.str [if cas=true then 49 else 48]]=some (.bool cas):=by
  rw[←aHK cas];cases cas<;>rfl
 have i0:∀a b c d:D,[a,b,c,d][Zv 0]?=some a:=λ_ _ _ _=>rfl
 have i1:∀a b c d:D,[a,b,c,d][Zv 1]?=some b:=λ_ _ _ _=>rfl
 have i2:∀a b c d:D,[a,b,c,d][Zv 2]?=some c:=λ_ _ _ _=>rfl
 have i3:∀a b c d:D,[a,b,c,d][Zv 3]?=some d:=λ_ _ _ _=>rfl
 by_cases r:rs=[]
 ·subst r;have e:(CZ (ZB rowW1 [])=[45])=True:=eq_true rfl;simp only[Gv,↓C2,Gp,simprocAttr,i0,i1,i2,Ae jU 65,a1,a2,Ae jU 177,a3];refine AS ?_;simp only[Gv,↓C2,Gp,reduceIte,Qs,Qr,Ze,reduceCtorEq,Zq,i3,e]
  all_goals exact YT
 ·have e:(CZ (rs.map rowW1)=[45])=False:=eq_false (λh=>by
   obtain⟨x,l,rfl⟩:=Q6 r;exact aFu x (g4 x (Qv ..)) l h)
  have hw:CZ (rs.map rowW1)=Lib.join (rs.map rowW1) [44]:=if_neg Xz;have va:=LL rs;have wa:=DX (rs.map rowW1) [44];have sa:=FZ (s:=CZ (rs.map rowW1)) (q:=44) (by rw[hw];simp at wa;omega);have ua:splitC 44 (CZ (rs.map rowW1))=rs.map rowW1:=by
   rw[hw];exact F6 Xz λw hx=>by obtain⟨x,pa,rfl⟩:=QB.1 hx;exact aNy x (g4 x pa)
  rw[ua]at sa;have za:(strsD (rs.map rowW1)).length=rs.length:=by simp[strsD]
  have ya:decide (rs=[])=false:=decide_eq_false r;have a4:=λx hx=>aHJ x (g4 x hx)
  simp only[Gv,↓C2,Gp,simprocAttr,i0,i1,i2,Ae jU 65,a1,a2,Ae jU 177,a3];refine AS ?_;simp only[↓C2,Gt,Gp,reduceIte,Qs,Qr,reduceCtorEq,Zq,i3,e,Ae jU 42,sa,za];refine Bf (n:=rs.length) (I:=λj st=>st.s 27= .slice false [] (strsD (rs.map rowW1))∧st.s 28= .int .i64 rs.length∧st.s 29= .int .i64 (j:Int)∧st.s 2= .ptr [0] 0∧st.s 3= .ptr [14] 0∧(st.m [0] 0=some (.int .i64 0)∧st.m [0] 1=some (.bool false)∧st.m [0] 2=some (.int .i64 0)∧st.m [0] 3=some (.slice true [] []))∧st.m [14] 0=some (.int .i64 mx)∧st.m [14] 1=some (.bool cas)∧st.m [14] 2=some (.int .i64 la)∧26<=st.c∧∃t,st.m [14] 3=some (.slice (decide (j=0)) t (A1 (rs.take j)))∧(decide (j=0)=true∨∃i,t=[i]∧26<=i∧i<st.c∧st.m t 0=some (.tok 81))) (λj hj ih st g hI=>?_) (λst g hI=>?_) 0 (Qp _) _ _ ⟨rfl,rfl,rfl,rfl,rfl,⟨rfl,rfl,rfl,rfl⟩,rfl,rfl,rfl,Qf 26,_,rfl,.inl rfl⟩
  ·obtain⟨ka,fa,da⟩:=st;obtain⟨ha,ba,f,h2,h3,⟨z0,z1,z2,z3⟩,m1,m2,m3,hc,t,m4,hT⟩:=hI;simp only at ha ba f h2 h3 z0 z1 z2 z3 m1 m2 m3 hc m4 hT;refine Af UG.eq_1 ?_;have ea:((j:Int)<rs.length):=by omega
   have oa:=nJ (j:=j);have hw:=wJ (j:=j) O;have ja:(strsD (rs.map rowW1))[j]?=some (.str (rowW1 rs[j])):=by simp[strsD,hj]
   have z:=a4 rs[j] (Qx hj);have na:A1 (rs.take (j+1))=A1 (rs.take j)++[.agg [.int .i64 rs[j].1,.bool rs[j].2.1,.bool rs[j].2.2]]:=by
    unfold A1;rw[Qz hj,QQ];rfl
   have ma:decide (j=0)=true->A1 (rs.take j)=[]:=λh=>by
    have:j=0:=Xn
    subst this;rfl
   have ra:(A1 (rs.take j)).length=j:=by simp[A1];omega
   generalize v:A1 (rs.take j)=ca at m4 na ra ma;generalize decide (j=0)=nb at m4 ma hT;generalize rs[j]=x at ja na z;have u:∀{o y p},(fa.put [da+p] 0 y) [14] o=fa [14] o:=aA Xb;simp only[↓C2,Gt,Gp,reduceIte,Qs,Qr,reduceCtorEq,ha,ba,f,h3,m4,ea,oa,Qc,ja,Ae jU 178,z];have xa:Iw (fa.put [da+1+3+4] 0 [.tok 81]) 80 (.slice nb t ca):=by
    rcases hT with h|⟨i,rfl,h1,h2,h3⟩
    ·exact .inl h
    ·exact .inr ⟨by rw[aA Xb];exact h3,U⟩
   refine aB ⟨O,rfl,xa⟩ ?_;rw[BM ma,←na];obtain⟨M,ia,M14,M0,Mt⟩:∃M,GA.app (fa.put [da+1+3+4] 0 [D.tok 81]) (A6 80 [da+1+3+5] (D.slice nb t ca))=M∧(∀o,M [14] o=fa [14] o)∧(∀o,M [0] o=fa [0] o)∧M [da+1+3+5] 0=some (.tok 81):=by
    have p:∀(m:Gu)(k o:Nat)(y:List D),26<=k->(∀q,m.put [k] o y [14] q=m [14] q)∧(∀q,m.put [k] o y [0] q=m [0] q):=λm k o y hk=>⟨λq=>aA Xb,λq=>aA Xb⟩
    refine⟨_,rfl,?_⟩;cases nb with
    |true=>
     show(∀o,((fa.put [da+1+3+4] 0 [D.tok 81]).put [da+1+3+5] 0 [.tok 81]) [14] o=_)∧(∀o,((fa.put [da+1+3+4] 0 [D.tok 81]).put [da+1+3+5] 0 [.tok 81]) [0] o=_)∧((fa.put [da+1+3+4] 0 [D.tok 81]).put [da+1+3+5] 0 [.tok 81]) [da+1+3+5] 0=_;exact⟨λo=>((p _ _ _ _ O).1 o).trans ((p _ _ _ _ O).1 o),λo=>((p _ _ _ _ O).2 o).trans ((p _ _ _ _ O).2 o),Yl⟩
    |false=>
     rcases hT with h|⟨i,rfl,h1,h2,h3⟩
     ·cases h
     show(∀o,(((fa.put [da+1+3+4] 0 [D.tok 81]).put [i] 0 [.tok 0]).put [da+1+3+5] 0 [.tok 81]) [14] o=_)∧(∀o,(((fa.put [da+1+3+4] 0 [D.tok 81]).put [i] 0 [.tok 0]).put [da+1+3+5] 0 [.tok 81]) [0] o=_)∧(((fa.put [da+1+3+4] 0 [D.tok 81]).put [i] 0 [.tok 0]).put [da+1+3+5] 0 [.tok 81]) [da+1+3+5] 0=_;exact⟨λo=>((p _ _ _ _ O).1 o).trans (((p _ _ _ _ h1).1 o).trans ((p _ _ _ _ O).1 o)),λo=>((p _ _ _ _ O).2 o).trans (((p _ _ _ _ h1).2 o).trans ((p _ _ _ _ O).2 o)),Yl⟩
   simp only[Gv,↓C2,Gp,reduceIte,Qs,Qr,h3,ia,M14,m4,Qe];refine aB ?_ ?_
   ·intro pp ga l hl;simp only[QR,Zw,or_false]at ga;rcases ga with rfl|rfl
    ·exact Dn hl
    ·have qa:l.1=[da+1+3+4]:=Dc hl;refine⟨λh=>?_,λh=>Dn h⟩;change l∈Ai [14] 3 1 at h;have:=qa.symm.trans (Ed h);simp at this;omega
   have ta:decide (j+1=0)=false:=decide_eq_false O;rw[ta]at ih;simp only[↓C2,Gt,reduceIte,Qs,Qr,f,hw];subst ia;refine ih _ _ ?_;exact⟨ha,ba,rfl,h2,h3,⟨(M0 0).trans z0,(M0 1).trans z1,(M0 2).trans z2,(M0 3).trans z3⟩,(M14 0).trans m1,(M14 1).trans m2,(M14 2).trans m3,Qg hc (by show da<=da+1+3+8+2;omega),[da+1+3+5],rfl,.inr ⟨_,rfl,O,by show _<da+1+3+8+2;omega,(aA Xb).trans Mt⟩⟩
  ·obtain⟨ka,fa,da⟩:=st;obtain⟨ha,ba,f,h2,h3,⟨z0,z1,z2,z3⟩,m1,m2,m3,hc,t,m4,hT⟩:=hI;simp only at ha ba f h2 h3 z0 z1 z2 z3 m1 m2 m3 hc m4 hT;refine Af UG.eq_1 ?_;rw[QV]at m4;have aa:decide (rs.length=0)=false:=decide_eq_false (λh=>r (Zc.1 h));rw[aa]at m4;unfold GB;rw[ya];simp only[Gv,↓C2,Gp,reduceIte,Qs,Qr,Ze,ba,f,Za,h2,h3,z0,z1,z2,z3,m1,m2,m3,m4,Qe]
   all_goals exact YT
def Rs:Ry->Ry
 | .about s=> .about {s with nl:=decide (s.rs=[])}
 | .names _ l=> .names (decide (l=[])) l
 |y=>y
def ryS:Ry->Prop
 | .fail _=>False
 | .names _ l=>(∀w∈l,(44:UInt8)∉w)∧l≠[[45]]∧Cr l<=900000
 |_=>True
def S91:=Ap [(64,Ac R89),(65,Ac R90),(114,Ac aQi),(115,Ac aQh),(42,Ac CM)]
def R91:=RF S91 aT4 [.cell (some 10) 2] 96
def aV8:Kq R91 66:=An (Aj func66) (Aa aGp (Aa aGo (Aa aTC (Aa aTB (Aa qQ Ad)))))
def jY(y:Ry)(h:ryG y)(g:ryS y):R91 [.slice false [] (strsD (GZ y).tail)]=some (.agg (GW (Rs y))):=by
 refine Am (Qa rfl) ?_;unfold aT4;have z:=P9;have y0:((0:Nat):Int)=0:=rfl;have y1:((1:Nat):Int)=1:=rfl;have c1:(decide (([115,101,97,108,101,100]:Bs)=[115,101,97,108,101,100]))=true:=rfl;have u:(decide (([111,112,101,110]:Bs)=[115,101,97,108,101,100]))=false:=rfl;have t:(decide (([111,112,101,110]:Bs)=[111,112,101,110]))=true:=rfl;have c4:(decide (([110,117,109,98,101,114]:Bs)=[110,117,109,98,101,114]))=true:=rfl;have c5:(decide (([110,97,109,101,115]:Bs)=[110,117,109,98,101,114]))=false:=rfl;have c6:(decide (([110,97,109,101,115]:Bs)=[110,97,109,101,115]))=true:=rfl;have c7:(decide (([102,111,117,110,100]:Bs)=[102,111,117,110,100]))=true:=rfl;have c8:(decide (([97,98,111,117,116]:Bs)=[97,98,111,117,116]))=true:=rfl;cases y with
 |fail e=>exact g.elim
 |done=>
  unfold GZ Rs GW strsD;simp only[Gv,↓C2,Gp,reduceIte,Qs,Qr,Ze,Nat.reduceLeDiff,reduceCtorEq,QI,QF,Qy,Qo,Qh,Qb,Qi,QA,y0]
  all_goals exact YT
 |state b=>
  unfold GZ Rs GW strsD;cases b with
  |true=>
   simp only[Gv,↓C2,Gp,simprocAttr,QI,QF,Qy,Qo,Qh,Qb,Qi,QA,y1,Ae S91 64,z]
   all_goals exact YT
  |false=>
   simp only[Gv,↓C2,Gp,simprocAttr,QI,QF,Qy,Qo,Qh,Qb,Qi,QA,y1,u,Ae S91 64,z]
   all_goals exact YT
 |number n=>
  have a:=Fg n.toNat XT;rw[QD h.1]at a;unfold GZ Rs GW strsD;simp only[Gv,↓C2,Gp,simprocAttr,QI,QF,Qy,Qo,Qh,Qb,Qi,QA,Ae S91 65,a]
  all_goals exact YT
 |found n d=>
  have a:=Fg n.toNat XT;rw[QD h.1]at a;have f:=aH5 d (by have:=h.2.2;omega);unfold GZ Rs GW strsD;simp only[Gv,↓C2,Gp,simprocAttr,QI,QF,Qy,Qo,Qh,Qb,Qi,QA,Ae S91 65,a,Ae S91 114,f];refine AS ?_;simp only[Gv,↓C2,Gp,reduceIte,Qs,Qr,Ze]
  all_goals exact YT
 |about s=>
  obtain⟨p,k,x,o⟩:=h;have c:=aH4 s p k x o;unfold GZ Rs GW strsD;unfold GB at c;simp only[↓C2,Gt,Gp,simprocAttr,QI,QF,Qy,Qo,Qh,Qb,QA];refine aB rfl ?_;simp only[Gv,↓C2,Gp,simprocAttr,QF,Qy,Qo,Qh,Qb,Qi,QA,List.drop_succ_cons,ZC,Zi,ZD,Ae S91 115,c]
  all_goals exact YT
 |names nl l=>
  have i:∀w∈l,(44:UInt8)∉w:=g.1;have j:=DX l [44];have m:=FZ (s:=CZ l) (q:=44) (by have:=g.2.2;have:=h.1;unfold CZ;split<;>simp at j ⊢;omega);unfold GZ Rs GW;by_cases hl:l=[]
  ·subst hl;have e:(CZ []=[45])=True:=eq_true rfl;unfold strsD;simp only[Gv,↓C2,Gp,simprocAttr,QI,QF,Qy,Qo,Qh,Qb,Qi,QA,c5,Ae S91 64,z,e]
   all_goals exact YT
  ·have hw:CZ l=Lib.join l [44]:=if_neg hl;have r:splitC 44 (CZ l)=l:=by rw[hw];exact F6 hl i
   have e:(CZ l=[45])=False:=eq_false (λh=>by
    rw[h]at r;exact g.2.1 (r.symm.trans rfl))
   rw[r]at m;have v:decide (l=[])=false:=decide_eq_false hl;unfold strsD at *;simp only[Gv,↓C2,Gp,simprocAttr,QI,QF,Qy,Qo,Qh,Qb,Qi,QA,c5,Ae S91 64,z,e,v,Ae S91 42,m]
   all_goals exact YT
def pM(w:World):Calls Qj 64 #[.bool true] w λe s=>e= .returned (.tuple #[])∧s=w:=by
 go_enter func64,ntmps64
 go_wp2
 all_goals go_end0
 all_goals exact YY
def aVt(w:World):Calls Qj 64 #[.bool false] w λe s=>e= .panicked [{v:= .iface 189 (.agg #[]),recovered:=false}]∧s=w:=by
 go_enter func64,ntmps64
 go_wp2
 exact⟨rfl,rfl,rfl⟩
def PS(p f:Value)(w:World):CallsD Qj 63 #[p,f] .returning w λe c s=>e= .returned (.tuple #[])∧c= .returning∧s=w:=by
 refine callsD_of_wpS func63 rfl λr cs m=>?_
 apply wpS_seq;apply wpS_region;simp[wpOpsS,go_sem,recoverD,m,ntmps63,Exit.thenS];refine wpS_cond (t:=false) (by simp[Act.eval,ZA]) ?_;simp only[Q7,if_false];refine wpS_of_wp (wp_skip ?_);cases r;simp_all [bodyPostS,results,results63]
def Oj{P:Program}{f:FuncId}{F:List D->Option D}(k:(Ac F).ok P f){ds:List D}{r:D}(q:F ds=some r)(z:ds.all D.calm=true)(y:ds.map D.un=ds)(t:r.calmR=true){vs:List Value}{w:World}{G:Nat->Nat}
  (hl:vs.length=ds.length) (c:∀(j:Nat) d v,ds[j]?=some d->vs[j]?=some v->Rep w (Gh.base G) d v) (n:∀b,w.heap.size<=b->G b=0):
  Calls P f vs.toArray w λe w'=>∃v G',e= .returned v∧Below w.heap.size w w'∧(∀b,w'.heap.size<=b->G' b=0)∧(∀b,b<w.heap.size->G' b=G b)∧Rep w' (Gh.base G') r v:=by
 have a:GD P w.heap.size w (λ_ _=>none) w (Gh.base G):=
  ⟨Below.refl _ _,Qf _,n,λ_ _=>rfl,λi b h=>XB,λi i' b h=>XB,λi o d h=>Xd,λi e h=>Xd,λi i' e e' b x x' h=>Xd,λi s p h=>Xd,λi i' s p s' p' b x x' h=>Xd⟩
 refine(k.run (fr:=[0]) (ds:=ds) (r:=r) (u:=[]) a (λi _=>⟨λ_=>rfl,rfl,rfl⟩) hl c ?_).mono ?_
 ·simp only[Ac];rw[y,if_pos z,q];rfl
 ·rintro e w' ⟨v,g',rfl,g⟩;refine⟨v,g'.G,rfl,g.inv.below,g.inv.gz,λb m=>?_,g.rep.calmR_to t (λ_ _=>rfl) (λ_=>Qf _)⟩;rw[g.inv.old b m,g.ext.G0];rfl
def rI(w:World)(a b:Obj):((w.alloc a).alloc b).heap[w.heap.size]?=some a∧((w.alloc a).alloc b).heap[w.heap.size+1]?=some b:=by
 have u:=heap_alloc_new w a;have z:=heap_alloc_new (w.alloc a) b;have g:(w.alloc a).heap.size=w.heap.size+1:=QY ..;rw[g]at z;refine⟨?_,z⟩;have:w.heap.size<(w.alloc a).heap.size:=O
 show((w.alloc a).heap.push b)[w.heap.size]?=_;rw[Array.getElem?_push_lt this,←Array.getElem?_eq_getElem this];exact u
def Vf:Array Value:=#[.int .u8 0,.int .i64 0,.int .i64 0,.string ⟨#[]⟩,.slice none 0 0,.int .i64 0,.bool false,.int .i64 0,.slice none 0 0,.bool false]
def wP(w:World):World:=(w.alloc (.cells Vf 85)).alloc (.cells #[.int .i64 0] 50)
def BR{w:World}{g:Nat}{vs:Array Value}{T:TypeId}(h:w.heap[g]?=some (.cells vs T (0,0)))(j:Nat)(v:Value)(q:vs[j]?=some v):
  w.cell? ⟨g,j,none⟩=some v∧w.frozen? ⟨g,j,none⟩=false∧w.setCell ⟨g,j,none⟩ v=w:=by
 refine⟨by simp[World.cell?,h,q],by simp[World.frozen?,h],?_⟩;rw[setCell_eq_setRow _ _ _ _ _ _ _ h];have y:vs.setIfInBounds j v=vs:=by
  apply Array.ext_getElem?;intro i;rw[Array.getElem?_setIfInBounds];split
  ·rename_i e;subst e;rw[q];split<;>simp_all
  ·rfl
 rw[y,setRow_self _ _ _ _ _ h]
def aUD{vs:Array Value}(h:vs.size=10):∃k a x b i u t s e q,vs=#[k,a,x,b,i,u,t,s,e,q]:=by
 obtain⟨l⟩:=vs
 match l,h with
 |[k,a,x,b,i,u,t,s,e,q],_=>exact⟨k,a,x,b,i,u,t,s,e,q,rfl⟩
def ten{p:Nat->Value->Prop}{vs:Array Value}{k a x b i u t s e q:Value}(m:vs=#[k,a,x,b,i,u,t,s,e,q])(h:∀j v,vs[j]?=some v->p j v):p 0 k∧p 1 a∧p 2 x∧p 3 b∧p 4 i∧p 5 u∧p 6 t∧p 7 s∧p 8 e∧p 9 q:=by
 subst m;exact⟨h 0 _ rfl,h 1 _ rfl,h 2 _ rfl,h 3 _ rfl,h 4 _ rfl,h 5 _ rfl,h 6 _ rfl,h 7 _ rfl,h 8 _ rfl,h 9 _ rfl⟩
def aVv(w w2:World)(s:Bs)(b n:Nat)(Q3 Q4:Array Value->World->Prop)
  (sa:Calls Qj 42 #[encStr s,.string ⟨#[32]⟩] (wP w) λe t=>e= .returned (.slice (some ⟨b,0,none⟩) (n+1) (n+1))∧t=w2) (hc:w2.cell? ⟨b,0,none⟩=some (.string ⟨#[111,107]⟩))
  (k:Calls Qj 66 #[if n=0 then .slice (some ⟨b,0,none⟩) 0 0 else .slice (some ⟨b,1,none⟩) n n] w2 λe t=>∃vs,e= .returned (.agg vs)∧Q3 vs t)
  (i:∀vs t,Q3 vs t->vs.size=10∧vs.all (·.oneCell')=true∧t.heap[w.heap.size]?=some (.cells Vf 85 (0,0)))
  (y:∀vs w3,Q3 vs w3->Calls Qj 67 #[.agg vs] (w3.setRow w.heap.size vs) λe t=>e= .returned (.int .i64 0)∧Q4 vs t)
  (c:∀vs t,Q4 vs t->t.heap[w.heap.size]?=some (.cells vs 85 (0,0))∧t.heap[w.heap.size+1]?=some (.cells #[.int .i64 0] 50 (0,0))):
  Calls Qj 28 #[encStr s] w λe t=>∃vs,e= .returned (.tuple #[.agg vs,.int .i64 0])∧Q4 vs t:=by
 have q:∀(fn:Go.Fn)(first cap:Array Value)(w:World),(Instr.makeFunc fn first cap).run Qj w= .ok (.func fn first cap) w:=λ_ _ _ _=>rfl
 have HQ:Aside (∀vs t,Q3 vs t->vs.size=10∧vs.all (·.oneCell')=true∧t.heap[w.heap.size]?=some (.cells Vf 85 (0,0))):=i;have l:Aside (∀vs w3,Q3 vs w3->Calls Qj 67 #[.agg vs] (w3.setRow w.heap.size vs) λe t=>e= .returned (.int .i64 0)∧Q4 vs t):=y;have m:Aside (∀vs t,Q4 vs t->t.heap[w.heap.size]?=some (.cells vs 85 (0,0))∧t.heap[w.heap.size+1]?=some (.cells #[.int .i64 0] 50 (0,0))):=c;clear i y c;unfold encStr wP Vf at sa;rcases n with _|n
 case' zero=>rw[if_pos rfl]at k
 case' succ=>rw[if_neg (Nat.succ_ne_zero n)]at k
 all_goals
  unfold encStr
  go_enter_defers func28,ntmps28
  go_wp2_with (first|(go_at_call 42;refine sa.mono ?_;rintro e w7 ⟨rfl,rfl⟩)|(go_at_call 64;refine(pM _).mono ?_;rintro e w7 ⟨rfl,rfl⟩))
  refine k.mono ?_;rintro e w3 ⟨vs,rfl,g⟩;have h3:=HQ.out vs w3 g;obtain⟨r,ca,u⟩:=h3;have o:(storeCells ⟨w.heap.size,0,none⟩ vs.toList).run Qj w3= .ok () (w3.setRow w.heap.size vs):=by
   have:=run_storeCells_from (P:=Qj) w.heap.size 85 vs.toList 0 Vf w3 u (by simp[r,Vf]) (λv x=>(Q_.1 ca) v (by simpa using x));simpa[r]using this
  have z:(w3.setRow w.heap.size vs).heap[w.heap.size]?=some (.cells vs 85 (0,0)):=setRow_heap _ _ _ _ _ _ u;have y:=l.out vs w3 g;clear u;obtain⟨v0,v1,v2,v3,v4,v5,v6,v7,v8,v9,a⟩:=aUD r;have HV:Aside (vs=#[v0,v1,v2,v3,v4,v5,v6,v7,v8,v9]):=a;obtain⟨a0,a1,a2,a3,a4,a5,a6,a7,a8,a9⟩:=ten (p:=λj v=>(w3.setRow w.heap.size vs).cell? ⟨w.heap.size,j,none⟩=some v) a λj v h=>(BR z j v h).1
  clear z a
  go_wp2_with (first|(go_at_call 64;refine(pM _).mono ?_;rintro e w7 ⟨rfl,rfl⟩))
  rw[←HV.out];refine y.mono ?_;rintro e w4 ⟨rfl,d⟩;have h4:=m.out vs w4 d;have a:=HV.out;obtain⟨b0,b1,b2,b3,b4,b5,b6,b7,b8,b9⟩:=ten (p:=λj v=>(w4.cell? ⟨w.heap.size,j,none⟩=some v)∧(store ⟨w.heap.size,j,none⟩ v).run Qj w4= .ok () w4) a λj v h=>by
   obtain⟨b1,b2,b3⟩:=BR h4.1 j v h;exact⟨b1,(run_store Qj w4 _ v .plain ((Q_.1 ca) v (Array.mem_of_getElem? h))).trans (by rw[b1,b2,b3];rfl)⟩
  have fa:=BR h4.2 0 (.int .i64 0) rfl;clear h4 a
  go_wp2_with (first|(go_at_call 64;refine(pM _).mono ?_;rintro e w7 ⟨rfl,rfl⟩))
  refine leaves_cons (f:=63) (args:=#[.pointer (some ⟨w.heap.size,0,none⟩),.pointer (some ⟨w.heap.size+1,0,none⟩)]) U (by simp[go_sem]) ?_;refine(PS _ _ _).mono ?_;rintro e u' ja ⟨rfl,rfl,rfl⟩;refine⟨.tuple #[.agg #[v0,v1,v2,v3,v4,v5,v6,v7,v8,v9],.int .i64 0],?_,vs,by rw[HV.out],d⟩;simp[results,results28,go_sem,b0,b1,b2,b3,b4,b5,b6,b7,b8,b9,fa]
def tJ(g:Nat)(pv:Value)(w:World)(o:w.heap[g]?=some (.cells Vf 85 (0,0)))(z:w.heap[g+1]?=some (.cells #[.int .i64 0] 50 (0,0))):
  CallsD Qj 63 #[.pointer (some ⟨g,0,none⟩),.pointer (some ⟨g+1,0,none⟩)] (.panicking [{v:= .iface 189 pv,recovered:=false}]) w λe c s=>
   e= .returned (.tuple #[])∧c= .panicking [{v:= .iface 189 pv,recovered:=true}]∧s=w.setCell ⟨g+1,0,none⟩ (.int .i64 4):=by
 obtain⟨b,c1,u,a,n,d,k,x,f,i⟩:=ten rfl λj v q=>BR o j v q
 have y:=(BR z 0 (.int .i64 0) rfl).1;have p:=(BR z 0 (.int .i64 0) rfl).2.1;refine callsD_of_wpS func63 rfl λr cs m=>?_
 apply wpS_seq;apply wpS_region;simp[wpOpsS,go_sem,recoverD,m,ntmps63,Exit.thenS];refine wpS_cond (t:=true) (by simp[Act.eval,ZA]) ?_;simp only[if_true];apply wpS_region;simp[wpOpsS,go_sem,b,c1,u,a,n,d,k,x,f,i,y,p,bodyPostS,results,results63]
def aVu(w i:World)(b:Nat)
  (m:Calls Qj 42 #[.string ⟨#[]⟩,.string ⟨#[32]⟩] (wP w) λe s=>e= .returned (.slice (some ⟨b,0,none⟩) 1 1)∧s=i) (p:i.cell? ⟨b,0,none⟩=some (.string ⟨#[]⟩)) (o:i.heap[w.heap.size]?=some (.cells Vf 85 (0,0))) (z:i.heap[w.heap.size+1]?=some (.cells #[.int .i64 0] 50 (0,0))):
  Calls Qj 28 #[.string ⟨#[]⟩] w λe s=>e= .returned (.tuple #[.agg Vf,.int .i64 4])∧s=i.setCell ⟨w.heap.size+1,0,none⟩ (.int .i64 4):=by
 have q:∀(n:Go.Fn)(first cap:Array Value)(w:World),(Instr.makeFunc n first cap).run Qj w= .ok (.func n first cap) w:=λ_ _ _ _=>rfl
 have HB:Aside (i.heap[w.heap.size]?=some (.cells Vf 85 (0,0))∧i.heap[w.heap.size+1]?=some (.cells #[.int .i64 0] 50 (0,0))):=⟨o,z⟩;clear o z;unfold wP Vf at m
 go_enter_defers func28,ntmps28
 go_wp2_with (first|(go_at_call 42;refine m.mono ?_;rintro e x ⟨rfl,rfl⟩)|(go_at_call 64;refine(aVt _).mono ?_;rintro e x ⟨rfl,rfl⟩))
 refine leaves_cons (f:=63) (args:=#[.pointer (some ⟨w.heap.size,0,none⟩),.pointer (some ⟨w.heap.size+1,0,none⟩)]) U (by simp[go_sem]) ?_;refine(tJ _ _ _ HB.out.1 HB.out.2).mono ?_;rintro e u' d ⟨rfl,rfl,rfl⟩;obtain⟨c,c1,u,a,k,r,g,c7,c8,c9⟩:=ten rfl λj v t=>(BR HB.out.1 j v t).1
 have y:=BR HB.out.2 0 (.int .i64 0) rfl;simp[Leaves,settle,results,results28,go_sem,c,c1,u,a,k,r,g,c7,c8,c9,y.1,Vf]
def f93(e:Int):Array Value:=#[.int .u8 0,.int .i64 e,.int .i64 0,.string ⟨#[]⟩,.slice none 0 0,.int .i64 0,.bool false,.int .i64 0,.slice none 0 0,.bool false]
def aVw(w w2:World)(s:Bs)(b:Nat)(e:Int)(nb:ByteArray)(Q3 Q4:World->Prop)
  (x:Calls Qj 42 #[encStr s,.string ⟨#[32]⟩] (wP w) λe n=>e= .returned (.slice (some ⟨b,0,none⟩) 2 2)∧n=w2) (p:w2.cell? ⟨b,0,none⟩=some (.string ⟨#[101,114,114,111,114]⟩)) (o:w2.cell? ⟨b,1,none⟩=some (.string nb))
  (a:Calls Qj 65 #[.string nb] w2 λe' n=>e'= .returned (.int .i64 e)∧Q3 n) (i:∀n,Q3 n->n.heap[w.heap.size]?=some (.cells Vf 85 (0,0)))
  (y:∀w3,Q3 w3->Calls Qj 67 #[.agg (f93 e)] (w3.setRow w.heap.size (f93 e)) λe n=>e= .returned (.int .i64 0)∧Q4 n)
  (c:∀n,Q4 n->n.heap[w.heap.size]?=some (.cells (f93 e) 85 (0,0))∧n.heap[w.heap.size+1]?=some (.cells #[.int .i64 0] 50 (0,0))):
  Calls Qj 28 #[encStr s] w λe' n=>e'= .returned (.tuple #[.agg (f93 e),.int .i64 0])∧Q4 n:=by
 have q:∀(fn:Go.Fn)(first cap:Array Value)(w:World),(Instr.makeFunc fn first cap).run Qj w= .ok (.func fn first cap) w:=λ_ _ _ _=>rfl
 have l:Aside (∀w3,Q3 w3->Calls Qj 67 #[.agg (f93 e)] (w3.setRow w.heap.size (f93 e)) λe n=>e= .returned (.int .i64 0)∧Q4 n):=y;have h:Aside (∀n,Q3 n->n.heap[w.heap.size]?=some (.cells Vf 85 (0,0))):=i;have m:Aside (∀n,Q4 n->n.heap[w.heap.size]?=some (.cells (f93 e) 85 (0,0))∧n.heap[w.heap.size+1]?=some (.cells #[.int .i64 0] 50 (0,0))):=c;clear i y c;unfold encStr wP Vf at x;unfold encStr
 go_enter_defers func28,ntmps28
 go_wp2_with (first|(go_at_call 42;refine x.mono ?_;rintro e w7 ⟨rfl,rfl⟩)|(go_at_call 64;refine(pM _).mono ?_;rintro e w7 ⟨rfl,rfl⟩))
 refine a.mono ?_;rintro e' w3 ⟨rfl,g⟩;have u:=h.out w3 g;have z:(w3.setRow w.heap.size (f93 e)).heap[w.heap.size]?=some (.cells (f93 e) 85 (0,0)):=setRow_heap _ _ _ _ _ _ u;obtain⟨a0,a1,a2,a3,a4,a5,a6,a7,a8,a9⟩:=ten rfl λj v t=>BR u j v t
 obtain⟨b0,b1,b2,b3,b4,b5,b6,b7,b8,b9⟩:=ten rfl λj v t=>BR z j v t
 have k:w3.setCell ⟨w.heap.size,1,none⟩ (.int .i64 e)=w3.setRow w.heap.size (f93 e):=setCell_eq_setRow _ _ _ _ _ _ _ u;have y:=l.out w3 g;clear z u;generalize w3.setRow w.heap.size (f93 e)=X at *;unfold f93 at y
 go_wp2_with (first|(go_at_call 64;refine(pM _).mono ?_;rintro e w7 ⟨rfl,rfl⟩))
 refine y.mono ?_;rintro e' w4 ⟨rfl,d⟩;have r:=m.out w4 d;obtain⟨c0,c1,c2,c3,c4,c5,c6,c7,c8,c9⟩:=ten rfl λj v t=>BR r.1 j v t
 have fa:=BR r.2 0 (.int .i64 0) rfl;clear r
 go_wp2_with (first|(go_at_call 64;refine(pM _).mono ?_;rintro e w7 ⟨rfl,rfl⟩))
 refine leaves_cons (f:=63) (args:=#[.pointer (some ⟨w.heap.size,0,none⟩),.pointer (some ⟨w.heap.size+1,0,none⟩)]) U (by simp[go_sem]) ?_;refine(PS _ _ _).mono ?_;rintro e' u' ja ⟨rfl,rfl,rfl⟩;refine⟨.tuple #[.agg (f93 e),.int .i64 0],?_,rfl,d⟩;simp[results,results28,go_sem,f93,c0,c1,c2,c3,c4,c5,c6,c7,c8,c9,fa]
def c88(s:Bs)(q:UInt8)(hl:s.length<=1000000)(w:World):
  Calls Qj 42 #[encStr s,.string ⟨#[q]⟩] w λe t=>e= .returned (.slice (some ⟨w.heap.size,0,none⟩) (splitC q s).length (splitC q s).length)∧t=w.alloc (.cells ((splitC q s).map encStr).toArray 9):=by
 have a:Lib.countB ⟨s.toArray⟩ ⟨#[q]⟩=s.count q:=Lib.count_one q s;have b:(Lib.splitB ⟨#[q]⟩ 0 (s.count q) ⟨s.toArray⟩).map (·.data.toList)=splitC q s:=by
  rw[Lib.splitB_data];exact Go.Proofs.splitK_eq q s.length s (Qf _)
 have v:(splitC q s).length=s.count q+1:=by
  rw[←b,Qu,←a];exact Lib.splitB_all ⟨#[q]⟩ (Qf 1) 0 _ _ rfl
 have r:(splitC q s).map encStr=(Lib.splitB ⟨#[q]⟩ 0 (s.count q) ⟨s.toArray⟩).map Value.string:=by
  rw[←b,ZF];exact List.map_congr_left λx _=>rfl
 refine(Go.Proofs.split_space q aO Z ⟨s.toArray⟩ w (by show s.length<_;omega)).mono ?_;rintro ev t ⟨rfl,rfl⟩;rw[a,v,r];exact⟨rfl,rfl⟩
def wS(w:World)(r:List Bs):World:=(wP w).alloc (.cells (r.map encStr).toArray 9)
def N9(w:World):(wP w).heap.size=w.heap.size+2:=by
 show((w.heap.push _).push _).size=_;rw[QY,QY]
def Td(w:World)(r:List Bs):(wS w r).heap.size=w.heap.size+3:=by
 show((wP w).heap.push _).size=_;rw[QY,N9]
def Ei(w:World)(r:List Bs):(wS w r).heap[w.heap.size]?=some (.cells Vf 85 (0,0))∧(wS w r).heap[w.heap.size+1]?=some (.cells #[.int .i64 0] 50 (0,0))∧(wS w r).heap[w.heap.size+2]?=some (.cells (r.map encStr).toArray 9 (0,0)):=by
 have h:=rI w (.cells Vf 85) (.cells #[.int .i64 0] 50);have g:=N9 w;refine⟨(Below.heap_alloc (wP w) _ _ O).trans h.1,(Below.heap_alloc (wP w) _ _ O).trans h.2,?_⟩;have:=heap_alloc_new (wP w) (.cells (r.map encStr).toArray 9);rw[g]at this;exact this
def OV(w:World)(r:List Bs):Below w.heap.size w (wS w r):=((((Below.refl _ _).alloc (Qf _) _).alloc (by show _<=(w.heap.push _).size;rw[QY];omega) _).alloc (by show _<=(wP w).heap.size;rw[N9];omega) _)
def LE(w:World)(r:List Bs)(j:Nat)(s:Bs)(h:r[j]?=some s):(wS w r).cell? ⟨w.heap.size+2,j,none⟩=some (encStr s):=by
 simp[World.cell?,(Ei w r).2.2,h]
def gSp(G:Nat->Nat)(w:World)(n:Nat):Nat->Nat:=λb=>if b=w.heap.size+2 then n else G b
def yD(w:World)(G:Nat->Nat)(w0:Bs)(a:List Bs):
  Rep (wS w (w0::a)) (Gh.base (gSp G w (a.length+1))) (.slice false [] (strsD a)) (if a.length=0 then .slice (some ⟨w.heap.size+2,0,none⟩) 0 0 else .slice (some ⟨w.heap.size+2,1,none⟩) a.length a.length):=by
 by_cases c:a.length=0
 ·rw[if_pos c];have:a=[]:=List.eq_nil_of_length_eq_zero c;subst this;exact .slice [] _ _ 0 0 1 (λ_=> .nilFunc) rfl (Qf _) (λd p=>by cases p) (λj q=>O) (λj q=>O) (λj d p=>by simp[flat,strsD]at p) (λh=>O) (λh=>absurd rfl h) (λd p=>by cases p)
 ·rw[if_neg c];refine .slice [] _ _ a.length a.length 1 (λj=>encStr (a.getD j [])) (by simp[strsD]) (Qf _) (λd p=>?_) (λj q=>?_) (λj q=>rfl) (λj d p=>?_) (λ_=>?_) (λh=>absurd rfl h) (λd p=>?_)
  ·obtain⟨s,_,rfl⟩:=QB.1 p;rfl
  ·rw[EE];exact LE w _ (1+j) _ (by rw[Nat.add_comm,Qi,Qd O];simp[Zb,Qd (show j<a.length by omega)])
  ·rw[Gf]at p;simp only[strsD,QE,QP]at p;obtain⟨s,g,rfl⟩:=p;have:a.getD j []=s:=by simp[Zb,g]
   rw[this];exact .str s
  ·show 1+a.length*1<=gSp G w (a.length+1) (w.heap.size+2);unfold gSp;rw[if_pos rfl];omega
  ·obtain⟨s,_,rfl⟩:=QB.1 p;rfl
def aEh(w:World)(G:Nat->Nat)(r:D)(e:Ending)(s:World):Prop:=
 ∃v G',e= .returned v∧Below w.heap.size w s∧(∀b,s.heap.size<=b->G' b=0)∧(∀b,b<w.heap.size->G' b=G b)∧Rep s (Gh.base G') r v
def VI(y:Ry):(D.agg (GW y)).calm=true:=X6
def aNs(y:Ry):(D.agg (GW y)).un= .agg (GW y):=X6
def aFq(y:Ry):(GW y).length=10:=X6
def yE{w:World}{g:Gh}(l:List (D×Value))(h:∀p∈l,p.2.oneCell'=true∧Rep w g p.1 p.2):Rep w g (.agg (l.map (·.1))) (.agg (l.map (·.2)).toArray):=by
 refine .agg _ _ U (λv m=>?_) (λj d v r m=>?_)
 ·obtain⟨p,y,rfl⟩:=QB.1 m;exact(h p y).1
 ·rw[QE,QP]at r m;obtain⟨p,y,rfl⟩:=r;obtain⟨q,s,rfl⟩:=m;rw[y,Qn]at s;subst s;exact(h p (List.mem_of_getElem? y)).2
def TE(w:World)(g:Gh)(e:Int):Rep w g (.agg (GW (.fail e))) (.agg (f93 e)):=by
 refine yE [(.int .u8 0,.int .u8 0),(.int .i64 e,.int .i64 e),(.int .i64 0,.int .i64 0),(.str [],.string ⟨#[]⟩),(.slice true [] [],.slice none 0 0),(.int .i64 0,.int .i64 0),(.bool false,.bool false),(.int .i64 0,.int .i64 0),(.slice true [] [],.slice none 0 0),(.bool false,.bool false)] ?_;simp only[Qw];exact⟨⟨rfl,.int _ _⟩,⟨rfl,.int _ _⟩,⟨rfl,.int _ _⟩,⟨rfl,.str _⟩,⟨rfl,.nils _⟩,⟨rfl,.int _ _⟩,⟨rfl,.bool _⟩,⟨rfl,.int _ _⟩,⟨rfl,.nils _⟩,⟨rfl,.bool _⟩,λ_ h=>nomatch h⟩
def aRf(y:Ry):Hh (Rs y)=Hh y:=X6
def aNr{y:Ry}(h:ryG y):xJ (Rs y):=by
 cases y with
 |about s=>exact Qg h.1 V
 |names nl l=>exact h.1
 |_=>trivial
def O4{y:Ry}(h:ryS y):GZ y=[111,107]::(GZ y).tail:=by
 cases y with
 |fail e=>exact h.elim
 |state b=>cases b<;>rfl
 |_=>rfl
def aNl{w:World}{s:Bs}{r:List Bs}(hl:s.length<=1000000)(g:splitC 32 s=r):Calls Qj 42 #[encStr s,.string ⟨#[32]⟩] (wP w) λe t=>e= .returned (.slice (some ⟨w.heap.size+2,0,none⟩) r.length r.length)∧t=wS w r:=by
 refine(c88 s 32 hl (wP w)).mono ?_;rintro e t ⟨rfl,rfl⟩;rw[g,N9];exact⟨rfl,rfl⟩
def aA1{G:Nat->Nat}{w:World}{n:Nat}(d:∀b,w.heap.size<=b->G b=0):(∀b,w.heap.size+3<=b->gSp G w n b=0)∧(∀b,b<w.heap.size+2->gSp G w n b=G b):=
 ⟨λb o=>by unfold gSp;rw[if_neg O];exact d b O,λb o=>by unfold gSp;rw[if_neg O]⟩
def O1{w x:World}{G:Nat->Nat}{d:D}{v:Value}(vs:Array Value)(i:Rep x (Gh.base G) d v)(y:d.calm=true)(f:G w.heap.size=0):Rep (x.setRow w.heap.size vs) (Gh.base G) d v:=
 i.calm_to y (λp t=>Dh _ _ _ _ (λe=>by
  have ta:p.off<G p.block:=t;rw[e,f]at ta;omega)) (λ_=>Qf _)
def uE{w s:World}{G:Nat->Nat}{d:D}{v:Value}(i:Rep w (Gh.base G) d v)(y:d.calm=true)(f:∀b,w.heap.size<=b->G b=0)(o:Below w.heap.size w s):Rep s (Gh.base G) d v:=
 i.calm_to y (λp t=>by
  have ta:p.off<G p.block:=t;refine o.cell ?_;rcases ZG p.block w.heap.size with h|h
  ·exact h
  ·rw[f _ h]at ta;omega) (λ_=>Qf _)
def aVJ(w:World)(G:Nat->Nat)(hz:∀b,w.heap.size<=b->G b=0)(y:Ry)(hG:ryG y)(hS:ryS y)(hE:Hh y=0)(s:Bs)(hl:s.length<=1000000)(hs:splitC 32 s=GZ y):
  Calls Qj 28 #[encStr s] w (aEh w G (.tup [.agg (GW (Rs y)),.int .i64 0])):=by
 have hw:=O4 hS;generalize qa:(GZ y).tail=a at hw;have i:=jY y hG hS;rw[qa]at i;have x:=VI (Rs y);have hg:=aA1 (n:=a.length+1) hz;have ja:=Td w (GZ y);rw[hw]at ja;refine(aVv w (wS w ([111,107]::a)) s (w.heap.size+2) a.length
  (λvs w3=>∃G3,Below (w.heap.size+3) (wS w ([111,107]::a)) w3∧(∀b,w3.heap.size<=b->G3 b=0)∧(∀b,b<w.heap.size+3->G3 b=gSp G w (a.length+1) b)∧Rep w3 (Gh.base G3) (.agg (GW (Rs y))) (.agg vs))
  (λvs w4=>∃w3 G3,(Below (w.heap.size+3) (wS w ([111,107]::a)) w3∧(∀b,w3.heap.size<=b->G3 b=0)∧(∀b,b<w.heap.size+3->G3 b=gSp G w (a.length+1) b)∧Rep w3 (Gh.base G3) (.agg (GW (Rs y))) (.agg vs))∧Below w3.heap.size (w3.setRow w.heap.size vs) w4) ?_ ?_ ?_ ?_ ?_ ?_).mono ?_
 ·have:=aNl (w:=w) hl (hs.trans hw);simpa using this
 ·exact LE w _ 0 _ rfl
 ·refine(Oj aV8 (ds:=[.slice false [] (strsD a)]) (vs:=[_]) i rfl rfl (r:= .agg (GW (Rs y))) x rfl (λj d v p m=>?_) (G:=gSp G w (a.length+1)) (w:=wS w ([111,107]::a)) (by rw[ja];exact hg.1)).mono ?_
  ·match j with
   |0=>
    simp only[Qb,Qn]at p m;subst p m;exact yD w G _ a
   |j+1=>simp at p
  ·rintro e w3 ⟨v,G3,rfl,o,f,c,hr⟩;rw[ja]at o c;cases hr with
   |agg _ vs u t h3=>exact⟨vs.toArray,rfl,G3,o,f,c,.agg _ vs u t h3⟩
 ·rintro vs w3 ⟨G3,o,f,c,hr⟩;refine⟨?_,?_,(o.block _ O).trans (Ei w _).1⟩
  ·cases hr with
   |agg _ vs u t h3=>simp[u,aFq]
  ·cases hr with
   |agg _ vs u t h3=>simpa using t
 ·rintro vs w3 ⟨G3,o,f,c,hr⟩;have q:G3 w.heap.size=0:=by rw[c _ O,hg.2 _ O];exact hz _ (Qf _)
  have z:=jX (Rs y) (aNr hG);rw[aRf,hE]at z;refine(Oj aOa (ds:=[.agg (GW (Rs y))]) (vs:=[.agg vs]) z (by simp[x]) (by simp[aNs]) (r:= .int .i64 0) rfl rfl (λj d v p m=>?_) (G:=G3) (w:=w3.setRow w.heap.size vs) (by rw[size_setRow];exact f)).mono ?_
  ·match j with
   |0=>
    simp only[Qb,Qn]at p m;subst p m;exact O1 vs hr x q
   |j+1=>simp at p
  ·rintro e w4 ⟨v,G4,rfl,fa,_,_,k⟩;have:=k.int_inv;subst this;rw[size_setRow]at fa;exact⟨rfl,w3,G3,⟨o,f,c,hr⟩,fa⟩
 ·rintro vs w4 ⟨w3,G3,⟨o,f,c,hr⟩,fa⟩;have g:=o.size;rw[ja]at g;have e1:=(o.block _ O).trans (Ei w ([111,107]::a)).1;have e2:=(o.block _ O).trans (Ei w ([111,107]::a)).2.1;exact⟨(fa.block _ O).trans (setRow_heap _ _ _ _ _ _ e1),(fa.block _ O).trans ((setRow_other _ _ _ _ O).trans e2)⟩
 ·rintro e w4 ⟨vs,rfl,w3,G3,⟨o,f,c,hr⟩,fa⟩;have g:=o.size;rw[ja]at g;have q:G3 w.heap.size=0:=by rw[c _ O,hg.2 _ O];exact hz _ (Qf _)
  have la:Below w.heap.size w (w3.setRow w.heap.size vs):=below_setRow ((OV w _).trans (o.mono O)) (Qf _) vs;have l:Below (w3.setRow w.heap.size vs).heap.size (w3.setRow w.heap.size vs) w4:=by rw[size_setRow];exact fa
  refine⟨_,G3,rfl,la.trans (fa.mono O),λb h=>f b (by have:=fa.size;rw[size_setRow]at this;omega),λb h=>?_,?_⟩
  ·rw[c _ O,hg.2 _ O]
  ·have r1:=uE (O1 vs hr x q) x (by rw[size_setRow];exact f) l;refine .tup _ [.agg vs,.int .i64 0] rfl (λj d v p m=>?_)
   match j with
   |0=>
    simp only[Qb,Qn]at p m;subst p m;exact r1
   |1=>
    simp only[Qb,Qi,Qn]at p m;subst p m;exact .int _ _
   |j+2=>simp at p
def aVK(w:World)(G:Nat->Nat)(hz:∀b,w.heap.size<=b->G b=0)(e:Int)(he:1<=e∧e<=99)(s:Bs)(hl:s.length<=1000000)(hs:splitC 32 s=GZ (.fail e)):
  Calls Qj 28 #[encStr s] w (aEh w G (.tup [.agg (GW (.fail e)),.int .i64 0])):=by
 have a:=aA1 (n:=0) hz;have f:=Td w (GZ (.fail e));have c:=Fg e.toNat O;rw[QD O]at c;refine(aVw w (wS w (GZ (.fail e))) s (w.heap.size+2) e ⟨(BT e.toNat).toArray⟩
  (λx=>Below (w.heap.size+3) (wS w (GZ (.fail e))) x)
  (λw4=>∃x,Below (w.heap.size+3) (wS w (GZ (.fail e))) x∧Below x.heap.size (x.setRow w.heap.size (f93 e)) w4) ?_ ?_ ?_ ?_ ?_ ?_ ?_).mono ?_
 ·exact aNl (w:=w) hl hs
 ·exact LE w _ 0 _ rfl
 ·exact LE w _ 1 _ rfl
 ·refine(Oj aGo (ds:=[.str (BT e.toNat)]) (vs:=[encStr (BT e.toNat)]) c rfl rfl (r:= .int .i64 e) rfl rfl (λj d v p m=>?_) (G:=gSp G w 0) (w:=wS w (GZ (.fail e))) (by rw[f];exact a.1)).mono ?_
  ·match j with
   |0=>
    simp only[Qb,Qn]at p m;subst p m;exact .str _
   |j+1=>simp at p
  ·rintro t x ⟨v,G3,rfl,o,_,_,i⟩;have:=i.int_inv;subst this;rw[f]at o;exact⟨rfl,o⟩
 ·intro x o;exact(o.block _ O).trans (Ei w _).1
 ·intro x o;have z:=jX (.fail e) trivial;rw[show Hh (.fail e)=0 from if_pos he]at z;have g:=o.size;rw[f]at g;refine(Oj aOa (ds:=[.agg (GW (.fail e))]) (vs:=[.agg (f93 e)]) z rfl rfl (r:= .int .i64 0) rfl rfl (λj d v p m=>?_) (G:=G) (w:=x.setRow w.heap.size (f93 e)) (by rw[size_setRow];exact λb o=>hz b O)).mono ?_
  ·match j with
   |0=>
    simp only[Qb,Qn]at p m;subst p m;exact TE _ _ e
   |j+1=>simp at p
  ·rintro t w4 ⟨v,G4,rfl,q,_,_,k⟩;have:=k.int_inv;subst this;rw[size_setRow]at q;exact⟨rfl,x,o,q⟩
 ·rintro w4 ⟨x,o,q⟩;have g:=o.size;rw[f]at g;have u:=(o.block _ O).trans (Ei w (GZ (.fail e))).1;have y:=(o.block _ O).trans (Ei w (GZ (.fail e))).2.1;exact⟨(q.block _ O).trans (setRow_heap _ _ _ _ _ _ u),(q.block _ O).trans ((setRow_other _ _ _ _ O).trans y)⟩
 ·rintro t w4 ⟨rfl,x,o,q⟩;have g:=o.size;rw[f]at g;have la:Below w.heap.size w (x.setRow w.heap.size (f93 e)):=below_setRow ((OV w _).trans (o.mono O)) (Qf _) _;refine⟨_,G,rfl,la.trans (q.mono O),λb h=>hz b (by have:=q.size;rw[size_setRow]at this;omega),λb h=>rfl,?_⟩;refine .tup _ [.agg (f93 e),.int .i64 0] rfl (λj d v p m=>?_)
  match j with
  |0=>
   simp only[Qb,Qn]at p m;subst p m;exact TE _ _ e
  |1=>
   simp only[Qb,Qi,Qn]at p m;subst p m;exact .int _ _
  |j+2=>simp at p
def aVI(w:World)(G:Nat->Nat)(hz:∀b,w.heap.size<=b->G b=0):
  Calls Qj 28 #[.string ⟨#[]⟩] w (aEh w G (.tup [.agg (GW (.fail 0)),.int .i64 4])):=by
 have f:=Td w [[]];refine(aVu w (wS w [[]]) (w.heap.size+2) (aNl (w:=w) (s:=[]) (Qp _) rfl) (LE w _ 0 _ rfl) (Ei w _).1 (Ei w _).2.1).mono ?_;rintro e t ⟨rfl,rfl⟩;refine⟨_,G,rfl,(OV w _).setCell (by show w.heap.size<=w.heap.size+1;omega) _,λb o=>hz b ?_,λb h=>rfl,?_⟩
 ·have:(((wS w [[]]).setCell ⟨w.heap.size+1,0,none⟩ (.int .i64 4)).heap).size=(wS w [[]]).heap.size:=by simp[World.setCell]
  omega
 ·refine .tup _ [.agg Vf,.int .i64 4] rfl (λj d v p m=>?_)
  match j with
  |0=>
   simp only[Qb,Qn]at p m;subst p m;exact TE _ _ 0
  |1=>
   simp only[Qb,Qi,Qn]at p m;subst p m;exact .int _ _
  |j+2=>simp at p
inductive Psd:Bs->D->Prop
 |none:Psd [] (.tup [.agg (GW (.fail 0)),.int .i64 4])
 |fail (e:Int) (s:Bs):1<=e∧e<=99->splitC 32 s=GZ (.fail e)->Psd s (.tup [.agg (GW (.fail e)),.int .i64 0])
 |ok (y:Ry) (s:Bs):ryG y->ryS y->Hh y=0->splitC 32 s=GZ y->Psd s (.tup [.agg (GW (Rs y)),.int .i64 0])
def aFH{s:Bs}{r f:D}(h:Psd s r)(o:Psd s f):r=f:=by
 cases h with
 |none=>
  cases o with
  |none=>rfl
  |fail e _ d g=>simp[splitC,GZ]at g
  |ok y _ p j m g=>
   rw[O4 j]at g;simp[splitC]at g
 |fail e _ d g=>
  cases o with
  |none=>simp[splitC,GZ]at g
  |fail n _ v x=>
   rw[g]at x;simp only[GZ,Q2,and_true,true_and]at x;have u:=Fg e.toNat O;have z:=Fg n.toNat O;rw[x,z]at u;simp only[Qn,D.int.injEq,true_and]at u;rw[show e=n by omega]
  |ok y _ p j m x=>
   rw[g,O4 j]at x;simp[GZ]at x
 |ok y _ p j m g=>
  cases o with
  |none=>
   rw[O4 j]at g;simp[splitC]at g
  |fail n _ v x=>
   rw[x,O4 j]at g;simp[GZ]at g
  |ok k _ b a c x=>
   rw[g]at x;have u:=jY y p j;rw[x,jY k b a]at u;simp only[Qn,D.agg.injEq]at u;rw[u]
open Classical in
def F34:List D->Option D
 |[.str s]=>if h:s.length<=1000000∧∃r,Psd s r then some (Classical.choose h.2)else none
 |_=>none
open Classical in
def aQs{s:Bs}{r:D}(hl:s.length<=1000000)(h:Psd s r):F34 [.str s]=some r:=by
 have q:s.length<=1000000∧∃r,Psd s r:=⟨hl,r,h⟩;show(if h:_ then _ else _)=_;rw[dif_pos q,aFH (Classical.choose_spec q.2) h]
def aVS:Kq F34 28:=by
 refine FJ ⟨_,func28,Z,Z⟩ ?_;intro ds r z vs w G hl u f;unfold F34 at z;split at z
 ·rename_i s;split at z
  ·rename_i q;simp only[Qn]at z;have t:=Classical.choose_spec q.2;rw[z]at t
   match vs,hl with
   |[v],_=>
    have m:=(u 0 _ v rfl rfl).str_inv;subst m;cases t with
    |none=>exact⟨rfl,aVI w G f⟩
    |fail e _ d g=>exact⟨rfl,aVK w G f e d s q.1 g⟩
    |ok y _ p j x g=>
     refine⟨?_,aVJ w G f y p j x s q.1 g⟩;show((D.agg (GW (Rs y))).calm&&_)=true;rw[VI];rfl
  ·cases z
 ·cases z
def aGx(d:Nat)(h:d<16):48<=(Fm d).toNat:=by
 by_cases u:d<10
 ·rw[hexD_dig d u];omega
 ·rw[WM d h O];omega
def aGz(s:Bs):∀c∈ER s,48<=c.toNat:=λc y=>by
 unfold ER at y;rw[List.mem_flatMap]at y;obtain⟨b,_,o⟩:=y;have:=b.toNat_lt;simp only[QR,Zw,or_false]at o;rcases o with rfl|rfl<;>exact aGx _ O
def WH{q:UInt8}:∀{l:List Bs} {c:UInt8},c∈Lib.join l [q]->c=q∨∃w∈l,c∈w
 |[],c,h=>by simp[Lib.join]at h
 |[x],c,h=> .inr ⟨x,QZ _,by simpa[Lib.join]using h⟩
 |x::y::r,c,h=>by
  have e:Lib.join (x::y::r) [q]=x++q::Lib.join (y::r) [q]:=XO
  rw[e]at h;rcases QJ.1 h with h|h
  ·exact .inr ⟨x,Qv ..,h⟩
  ·rcases QR.1 h with h|h
   ·exact .inl h
   ·rcases WH h with h|⟨w,v,h⟩
    ·exact .inl h
    ·exact .inr ⟨w,Qt _ v,h⟩
def Wz{l:List Bs}(h:∀w∈l,(32:UInt8)∉w):(32:UInt8)∉CZ l:=λy=>by
 unfold CZ at y;split at y
 ·cases y with|tail _ h=>cases h
 ·rcases WH y with e|⟨w,v,e⟩
  ·cases e
  ·exact h w v e
def fN{s:Bs}(h:T_ s=true):(32:UInt8)∉s∧(44:UInt8)∉s∧s≠[45]∧s.length<=64:=by
 simp only[T_,NN,QW,decide_eq_true_eq,Bool.not_eq_true',Zr,beq_iff_eq]at h;exact⟨λe=>h.2.2.2.1 _ e rfl,λe=>h.2.2.2.2 _ e rfl,h.2.1,h.2.2.1⟩
def Pb(n:Nat)(h:n<1000):(32:UInt8)∉BT n:=λy=>absurd (LZ n h 32 y).1 V
def M6{l:List Bs}(h:(l.any λs=>!T_ s)=false):∀s∈l,T_ s=true:=λs g=>by
 have:=Zr.1 h s g;simpa using this
def aNq{y:Ry}(h:Hh y=0)(o:vQ y):∀w∈GZ y,(32:UInt8)∉w:=by
 have i:=LO h o;cases y with
 |fail e=>
  have r:=i.2;simp only[GZ,Qw];exact⟨V,Pb _ O,λ_ h=>nomatch h⟩
 |done=>simp only[GZ,Qw];exact⟨V,λ_ h=>nomatch h⟩
 |number n=>
  have r:=i.2;simp only[GZ,Qw];exact⟨V,V,Pb _ O,λ_ h=>nomatch h⟩
 |found n d=>
  have r:=i.2.1;simp only[GZ,Qw];refine⟨V,V,Pb _ O,?_,λ_ h=>nomatch h⟩;split
  ·decide
  ·exact λp=>absurd (aGz d 32 p) V
 |about s=>
  obtain⟨g,k,t,g4⟩:=i;simp only[GZ,Qw];refine⟨V,V,Pb _ O,by split<;>decide,Pb _ O,Wz λw v=>?_,λ_ h=>nomatch h⟩;obtain⟨x,q,rfl⟩:=QB.1 v;intro p;rcases O5 x (g4 x q) 32 p with h|h|h
  ·cases h
  ·cases h
  ·exact absurd h.1 V
 |names nl l=>
  simp only[Hh]at h;split at h
  ·rename_i c;simp only[GZ,Qw];exact⟨V,V,Wz λw v=>(fN (M6 c.2 w v)).1,λ_ h=>nomatch h⟩
  ·omega
 |state b=>cases b<;>(simp only[GZ,if_true,if_false,Q7,Qw];exact⟨V,V,λ_ h=>nomatch h⟩)
def aI9{y:Ry}(h:Hh y=0)(o:vQ y):Psd (Hg y) (.tup [.agg (GW (Rs y)),.int .i64 0])∧(Hg y).length<=1000000:=by
 have q:Hg y=Lib.join (GZ y) [32]:=if_pos h;have g:splitC 32 (Hg y)=GZ y:=by rw[q];exact F6 (eY y) (aNq h o)
 obtain⟨f,i⟩:=lE h o;have hl:(Hg y).length<=1000000:=by
  rw[q];have:=DX (GZ y) [32];simp only[Qh,Qo]at this;omega
 refine⟨?_,hl⟩;cases y with
 |fail e=>
  simp only[Hh]at h;split at h
  ·rename_i c;exact .fail e _ c g
  ·omega
 |names nl l=>
  refine .ok _ _ (LO h o) ?_ h g;simp only[Hh]at h;split at h
  ·rename_i c;refine⟨λw v=>(fN (M6 c.2 w v)).2.1,λe=>?_,by have:=sum_64 l c.2;omega⟩;rw[e]at c;exact absurd (fN (M6 c.2 [45] (QZ _))).2.2.1 V
  ·omega
 |_=>exact .ok _ _ (LO h o) trivial h g
structure Md where
 vw:Vw
 tr:Tr
 room:Int
def GY(m:Md):List D:=Hc m.vw++[GF m.tr,.int .i64 m.room]
def V6(x:Op1)(t:Tr):Tr:=if x.1=1 then t.put x.2.1 x.2.2 else if x.1=2 then Tr.delT x.2.1 t else if x.1=3 then Tr.dropT x.2.1 t else t
def FG:List Op1->Tr->Tr
 |[],t=>t
 |x::r,t=>FG r (V6 x t)
def Bl(t:Tr)(q:Bs):List (Bs×Bs):=(t.lst.drop (t.rank q)).takeWhile λx=>BQ x.1 q
def Fj(t:Tr)(q:Bs):Dk:=⟨false,[(q,(t.get q).getD [],(t.get q).isSome)],false,[(q,(Bl t q).isEmpty,(Bl t q).map (·.1))]⟩
def eZ(z:Kn->Oc)(t:Tr):Nat->Kn->Oc
 |0,k=>z k
 |f+1,k=>if(z k).need=[]then z k else eZ z t f (A_ k (z k).need (z k).li (Fj t (z k).need))
def kn0:Kn:=⟨[],[]⟩
structure uQ (t:Tr) (room:Int):Prop where
 ord:Tr.Ord t.lst
 key:∀x∈t.lst,x.1.length<=100
 val:∀x∈t.lst,x.2.length<=400
 wgt:(Tr.weighL t.lst:Int)<=room
 top:room<=70000
structure kC (m:Md):Prop where
 vw:GV m.vw
 tr:uQ m.tr m.room
def uQ.len{t:Tr}{room:Int}(h:uQ t room):t.lst.length<=1945:=by
 have u:=Tr.weigh_len t.lst;have:=h.wgt;have:=h.top;omega
structure KnJ (k:Kn) (j:Nat):Prop where
 es:k.es.length<=j
 ls:k.ls.length<=j
 et:∀x∈k.es,x.2.1.length<=400
 lt:∀x∈k.ls,x.2.2.length<=2000∧∀s∈x.2.2,s.length<=1000000
def KnJ.ok{k:Kn}{j:Nat}(h:KnJ k j)(q:j<=20):HD k:=⟨Qg h.es q,Qg h.ls q,h.et,h.lt⟩
def aJQ:KnJ kn0 0:=⟨Qf _,Qf _,λx q=>XG,λx q=>XG⟩
def aNW(t:Tr)(q:Bs):((Fj t q).lss.find? λx=>decide (x.1=q))=some (q,(Bl t q).isEmpty,(Bl t q).map (·.1)):=by simp[Fj]
def aNX(t:Tr)(q:Bs):((Fj t q).its.find? λx=>decide (x.1=q))=some (q,(t.get q).getD [],(t.get q).isSome):=by simp[Fj]
def aAm(k:Kn)(t:Tr)(q:Bs):A_ k q false (Fj t q)={k with es:=k.es++[(q,(t.get q).getD [],(t.get q).isSome)]}:=by
 unfold A_;rw[if_neg V,aNX];rfl
def aAl(k:Kn)(t:Tr)(q:Bs):A_ k q true (Fj t q)={k with ls:=k.ls++[(q,(Bl t q).isEmpty,(Bl t q).map (·.1))]}:=by
 unfold A_;rw[if_pos rfl,aNW];rfl
def kQ(t:Tr)(q:Bs):(Bl t q).Sublist t.lst:=(List.takeWhile_sublist _).trans (List.drop_sublist _ _)
def KnJ.learn{k:Kn}{j:Nat}(h:KnJ k j){t:Tr}{room:Int}(u:uQ t room)(q:Bs)(li:Bool):KnJ (A_ k q li (Fj t q)) (j+1):=by
 cases li with
 |false=>
  rw[aAm];refine⟨by simp only[QH,Qh,Qo];have:=h.es;omega,Zs h.ls,λx hx=>?_,h.lt⟩;rcases QJ.1 hx with hx|hx
  ·exact h.et x hx
  ·rw[Qk.1 hx];show((t.get q).getD []).length<=400;cases hg:t.get q with
   |none=>exact Qp _
   |some v=>
    rw[Tr.get_lst q t u.ord]at hg;exact u.val _ (Tr.getL_some hg)
 |true=>
  rw[aAl];refine⟨Zs h.es,by simp only[QH,Qh,Qo];have:=h.ls;omega,h.et,λx hx=>?_⟩;rcases QJ.1 hx with hx|hx
  ·exact h.lt x hx
  ·rw[Qk.1 hx];have g:=kQ t q;refine⟨?_,λs c=>?_⟩
   ·show((Bl t q).map (·.1)).length<=2000;rw[Qu];have:=g.length_le;have:=u.len;omega
   ·obtain⟨y,r,rfl⟩:=QB.1 c;exact Qg (u.key y (g.subset r)) V
def lG{v:Vw}{a:Ak}{z:Kn->Oc}(X:Hb v a z){R:Kn->Nat}(x:∀k d,HD k->(z k).need≠[]->R (A_ k (z k).need (z k).li d)<R k){t:Tr}{room:Int}(u:uQ t room):
  ∀(f j:Nat)(k:Kn),KnJ k j->j+f<=20->R k<=f->∃r,HD r∧eZ z t f k=z r∧(z r).need=[]
 |0,j,k,hk,hj,hr=>by
  have l:=hk.ok O;refine⟨k,l,rfl,?_⟩;by_cases c:(z k).need=[]
  ·exact c
  ·have:=x k (Fj t []) l c;omega
 |f+1,j,k,hk,hj,hr=>by
  have l:=hk.ok O;unfold eZ;by_cases c:(z k).need=[]
  ·rw[if_pos c];exact⟨k,l,rfl,c⟩
  ·rw[if_neg c];have:=x k (Fj t (z k).need) l c;exact lG X x u f (j+1) _ (hk.learn u _ _) O O
def aE0{v:Vw}(m:GV v)(b:Bool):GV {v with se:=b}:=⟨⟨m.ok.ml,m.ok.mp,m.ok.kl,m.ok.kp⟩,m.inv,m.srt,m.nlm,m.te,m.kl,m.ml,m.mr⟩
def Hw(z:Kn->Oc)(m:Md):Oc:=eZ z m.tr 4 kn0
def TP{m:Md}(w:kC m){a:Ak}{z:Kn->Oc}(X:Hb m.vw a z):(Hw z m).need=[]∧∃k,HD k∧Hw z m=z k:=by
 obtain⟨R,i,x⟩:=X.term;obtain⟨k,u,t,o⟩:=lG X x w.tr 4 0 kn0 aJQ V (Qg (i _) V);exact⟨(congrArg Oc.need t).trans o,k,u,t⟩
def Ik(m:Md)(o:Oc):Md×Bs:=
 if o.ops≠[]∧m.room<Tr.weighL (FG o.ops m.tr).lst then(m,Hg (.fail 7))else(⟨o.vw,FG o.ops m.tr,m.room⟩,o.rep)
def IL(x:Op1){t:Tr}(h:Tr.Ord t.lst):Tr.Ord (V6 x t).lst∧∀y∈(V6 x t).lst,y∈t.lst∨(x.1=1∧y=(x.2.1,x.2.2)):=by
 unfold V6;split
 ·rename_i c;rw[Tr.lst_put _ _ t h];exact⟨Tr.ins_ord h _ _,λy s=>(Tr.ins_mem s).elim (λe=> .inr ⟨c,e⟩) .inl⟩
 split
 ·rw[Tr.lst_del _ t h];exact⟨Tr.ord_sub Zj h,λy s=> .inl (Zz.1 s).1⟩
 split
 ·rw[Tr.lst_drop _ t h];exact⟨Tr.ord_sub (Tr.drop_sub _ h) h,λy s=> .inl ((Tr.drop_sub _ h).subset s)⟩
 ·exact⟨h,λy s=> .inl s⟩
def TU:∀(l:List Op1){t:Tr},Tr.Ord t.lst->Tr.Ord (FG l t).lst∧∀y∈(FG l t).lst,y∈t.lst∨∃x∈l,x.1=1∧y=(x.2.1,x.2.2)
 |[],t,h=>⟨h,λy s=> .inl s⟩
 |x::r,t,h=>by
  obtain⟨u,v⟩:=IL x h;obtain⟨i,o⟩:=TU r u;refine⟨i,λy s=>?_⟩;rcases o y s with h5|⟨z,d,h5⟩
  ·rcases v y h5 with h6|h6
   ·exact .inl h6
   ·exact .inr ⟨x,Qv,h6⟩
  ·exact .inr ⟨z,Qt _ d,h5⟩
def aFg{t:Tr}{room:Int}(h:uQ t room){l:List Op1}(hl:uZ l)(b:(Tr.weighL (FG l t).lst:Int)<=room):uQ (FG l t) room:=by
 obtain⟨u,v⟩:=TU l h.ord;refine⟨u,λx q=>?_,λx q=>?_,b,h.top⟩
 ·rcases v x q with h3|⟨z,d,_,rfl⟩
  ·exact h.key x h3
  ·exact(hl.ok z d).1.1
 ·rcases v x q with h3|⟨z,d,_,rfl⟩
  ·exact h.val x h3
  ·exact(hl.ok z d).1.2.1
structure aWZ (m:Md) (a:Ak) (z:Md×Bs):Prop where
 md:kC z.1
 room:z.1.room=m.room
 rep:∃y,Hh y=0∧vQ y∧z.2=Hg y∧((∃e,y= .fail e)->z.1=m)
 ro:(a.op=1∨a.op=9∨a.op=14∨a.op=17)->z.1=m
def Om{m:Md}(w:kC m){a:Ak}{o:Oc}(q:Ix m.vw a o):aWZ m a (Ik m o):=by
 obtain⟨y,u,z,i,h4⟩:=q;have c:DN a.op=true->¬(a.op=1∨a.op=9∨a.op=14∨a.op=17):=λv h=>by
  rw[OU O]at v;cases v
 unfold Ik;by_cases p:o.ops≠[]∧m.room<Tr.weighL (FG o.ops m.tr).lst
 ·rw[if_pos p];exact⟨w,rfl,⟨.fail 7,rfl,trivial,rfl,λ_=>rfl⟩,λ_=>rfl⟩
 rw[if_neg p];rcases h4 with ⟨_,s,t⟩|⟨s,⟨v,t,b,f,j⟩|⟨v,t,j,k⟩⟩
 ·rw[s,t];exact⟨w,rfl,⟨y,u,z,i,λ_=>rfl⟩,λ_=>rfl⟩
 ·rw[t,j];refine⟨⟨aE0 w.vw b,w.tr⟩,rfl,⟨y,u,z,i,λ⟨e,r⟩=>absurd r (s e)⟩,λx=>?_⟩;rw[f O O];rfl
 ·refine⟨⟨k,aFg w.tr j ?_⟩,rfl,⟨y,u,z,i,λ⟨e,r⟩=>absurd r (s e)⟩,λx=>absurd x (c v)⟩;have:¬m.room<Tr.weighL (FG o.ops m.tr).lst:=λh=>p ⟨t,h⟩
  omega
def wR{α:Type}{p:α->Bool}:∀{l:List α} {k:Nat} (h:k<(l.takeWhile p).length),l[k]?=some (l.takeWhile p)[k]∧p (l.takeWhile p)[k]=true
 |[],k,h=>Xd
 |x::l,k,h=>by
  by_cases c:p x=true
  ·have e:(x::l).takeWhile p=x::l.takeWhile p:=by simp[c]
   simp only[e]at h ⊢;cases k with
   |zero=>exact⟨rfl,c⟩
   |succ k=>
    have:=wR (l:=l) (p:=p) (k:=k) Xn;simpa using this
  ·have e:(x::l).takeWhile p=[]:=by simp[c]
   simp[e]at h
def wU{α:Type}{p:α->Bool}:∀{l:List α},(∀x∈l,p x=true)->l.takeWhile p=l
 |[],_=>rfl
 |x::l,h=>by
  have c:=h x Qv;have e:(x::l).takeWhile p=x::l.takeWhile p:=by simp[c]
  rw[e,wU λy s=>h y (Qt _ s)]
def wT{α:Type}{p:α->Bool}:∀{l:List α} {x:α},l[(l.takeWhile p).length]?=some x->p x=false
 |[],x,h=>Xd
 |y::l,x,h=>by
  by_cases c:p y=true
  ·have e:(y::l).takeWhile p=y::l.takeWhile p:=by simp[c]
   rw[e]at h;exact wT (l:=l) Xn
  ·have e:(y::l).takeWhile p=[]:=by simp[c]
   rw[e]at h;simp only[Qo,Qb,Qn]at h;subst h;simpa using c
def aNb{t:Tr}{q:Bs}{k:Nat}(h:k<(Bl t q).length):t.at_ (t.rank q+k)=some (Bl t q)[k]∧BQ (Bl t q)[k].1 q=true:=by
 rw[Tr.at_lst];have:=wR (l:=t.lst.drop (t.rank q)) (p:=λx=>BQ x.1 q) h;rw[Zo]at this;exact this
def aE2{t:Tr}{q:Bs}{x:Bs×Bs}(h:t.at_ (t.rank q+(Bl t q).length)=some x):BQ x.1 q=false:=by
 rw[Tr.at_lst]at h;refine wT (l:=t.lst.drop (t.rank q)) (p:=λx=>BQ x.1 q) ?_;rw[Zo];exact h
def VX:∀t:Tr,t.rank []=0
 | .nil=>rfl
 | .node l k v r=>by
  unfold Tr.rank;rw[if_neg (by cases k<;>simp[GN,Op.bytesLess])];exact VX l
def IA(t:Tr):Bl t []=t.lst:=by
 unfold Bl;rw[VX,ZC];exact wU λx _=>by simp[BQ]
def eK(x:Bs×Bs)(l:List (Bs×Bs)):Tr.weighL (x::l)=Tr.costL x+Tr.weighL l:=by
 simp only[Tr.weighL,Qy,Zm];omega
def eJ(x:Bs×Bs)(l:List (Bs×Bs)):Tr.weighL (l++[x])=Tr.weighL l+Tr.costL x:=by
 simp only[Tr.weighL,QQ,Qy,QF,List.sum_append,Zm,List.sum_nil];omega
end Go.Vd
namespace Go.Vd
open Go.Proofs Go.RowKit Go.Shelf
attribute [local go_sem] Oper.semAt_some
def D7(n:Nat)(w:World)(t:Tr)(v:Value):Prop:=∃G:Nat->Nat,Rep w (Gh.base G) (GF t) v∧∀b,n<=b->G b=0
def D7.below{n:Nat}{w r:World}{t:Tr}{v:Value}(h:D7 n w t v)(o:Below n w r):D7 n r t v:=by
 obtain⟨G,u,z⟩:=h;refine⟨G,u.calm_to (Vv t) (λp y=>?_) (λ_=>Qf _),z⟩;have:p.block<n:=by
  rcases ZG p.block n with h|h
  ·exact h
  ·have i:p.off<G p.block:=y;rw[z _ h]at i;omega
 exact o.cell this
def D7.one{n:Nat}{w:World}{t:Tr}{v:Value}(h:D7 n w t v):v.oneCell'=true:=by
 obtain⟨G,u,_⟩:=h;exact u.leaf_one Xi
def P2{w:World}{g:Gh}{d:D}{v:Value}(h:Rep w g d v)(q:v.oneCell'=true):Rep w g (.agg [d]) (.agg #[v]):=
 .agg [d] [v] rfl (λu k=>by rw[Qk.1 k];exact q) (λj a b p m=>by
  match j,p,m with
  |0,p,m=>cases p;cases m;exact h)
def aUy{n:Nat}{r:World}{t:Tr}{v:Value}(h:D7 n r t v)(c:n<=r.heap.size)(q:Bs)(y:t.cnt<=900000):Calls Qj 49 #[.agg #[v],encStr q] r λe s=>e= .returned (.int .i64 (t.rank q:Nat))∧Below r.heap.size r s:=by
 have f:=h.one;obtain⟨G,z,i⟩:=h;refine(DV (vs:=[.agg #[v],encStr q]) (G:=G) aOv (aDT t q y) Xi Xi rfl (λj d u p m=>?_) (λb o=>i b O)).mono ?_
 ·match j,p,m with
  |0,p,m=>cases p;cases m;exact P2 z f
  |1,p,m=>cases p;cases m;exact .str _
 ·rintro e s ⟨u,a,rfl,o,x⟩;exact⟨X1,o⟩
def aUx{n:Nat}{r:World}{t:Tr}{v:Value}(h:D7 n r t v)(c:n<=r.heap.size)(i:Nat)(y:t.cnt<=900000)(hi:i<=900000):Calls Qj 50 #[.agg #[v],.int .i64 (i:Nat)] r λe s=>e= .returned (.tuple #[encStr ((t.at_ i).getD ([],[])).1,encStr ((t.at_ i).getD ([],[])).2,.bool (t.at_ i).isSome])∧Below r.heap.size r s:=by
 have q:=h.one;obtain⟨G,z,h3⟩:=h;refine(DV (vs:=[.agg #[v],.int .i64 (i:Nat)]) (G:=G) aOu (aDS t i y hi) Xi Xi rfl (λj d u p m=>?_) (λb o=>h3 b O)).mono ?_
 ·match j,p,m with
  |0,p,m=>cases p;cases m;exact P2 z q
  |1,p,m=>cases p;cases m;exact .int _ _
 ·rintro e s ⟨u,a,rfl,o,x⟩;unfold atD at x;obtain⟨us,rfl,w,m⟩:=x.tup_inv
  match us,w with
  |[u0,u1,u2],_=>exact⟨by rw[(m 0 _ u0 rfl rfl).str_inv,(m 1 _ u1 rfl rfl).str_inv,(m 2 _ u2 rfl rfl).bool_inv],o⟩
def aMn(r:World)(s p:Bs):Calls Qj 51 #[encStr s,encStr p] r λe t=>e= .returned (.bool (BQ s p))∧Below r.heap.size r t:=by
 refine(HZ aOt (aDR s p) rfl r).mono ?_;rintro e t ⟨u,a,rfl,o,x⟩;exact⟨by rw[x.bool_inv],o⟩
structure eG (n Bt Bq:Nat) (W W':World):Prop where
 low:Below n W W'
 t:W'.heap[Bt]?=W.heap[Bt]?
 q:W'.heap[Bq]?=W.heap[Bq]?
def eG.trans{n Bt Bq:Nat}{A B C:World}(h:eG n Bt Bq A B)(k:eG n Bt Bq B C):eG n Bt Bq A C:=⟨h.low.trans k.low,k.t.trans h.t,k.q.trans h.q⟩
def eG.refl{n Bt Bq:Nat}(A:World):eG n Bt Bq A A:=⟨Below.refl _ _,rfl,rfl⟩
def eG.of{n Bt Bq:Nat}{A B:World}(h:Below A.heap.size A B)(c:n<=A.heap.size)(u:Bt<A.heap.size)(j:Bq<A.heap.size):eG n Bt Bq A B:=⟨h.mono c,h.block _ u,h.block _ j⟩
def aAp{n Bt Bq:Nat}{w:World}(c:n<=w.heap.size)(k:Bt<w.heap.size)(j:Bq<w.heap.size)(W:World)(l:Nat)(o o':Obj)(hl:w.heap.size<=l)(h:W.heap[l]?=some o)(u:o.isCells=false)(z:o.isWalk=false):eG n Bt Bq W (W.putObj l o'):=
 ⟨belowK_b c W l o o' hl h u z,World.putObj_heap_other O,World.putObj_heap_other O⟩
def S0{α:Type}{B:Nat}{J:List α->World->Prop}(p:AbidesFrom B J){s:List α}{A q:World}(h:J s A)(o:Below A.heap.size A q):J s q:=
 p s A q none h (BV o (Qf _) none o.size) (λr e=>Xw)
theorem aE3 (n : Nat) (hn : 1 ≤ n) (l Bt Bq n₀ : Nat) (t : Tr) (q : Bs) (v : Value) (hc : t.cnt ≤ 400000) (J Jx : List (Bs × Bs) → World → Prop) {B : Nat} (hJ : AbidesFrom B J) (y : AbidesFrom B Jx)
  (hY : ∀ ba x W, J ba W → (ba ++ [x]) <+: Bl t q → YieldAt Fence.wide (n - 1) Qj l #[encStr x.1, encStr x.2] W fun e W' =>
   (e = .returned (.bool true) ∧ J (ba ++ [x]) W' ∧ eG n₀ Bt Bq W W') ∨ (e = .returned (.bool false) ∧ Jx (ba ++ [x]) W'))
  (W : World) (c : W.heap[Bt]? = some (.cells #[v] 36 (0, 0))) (d : W.heap[Bq]? = some (.cells #[encStr q] 9 (0, 0))) (hT : D7 n₀ W t v) (ja : n₀ ≤ W.heap.size) (h0 : J [] W) :
  CallsIn Fence.wide n Qj 48 #[.func (.yield l) #[] #[], .pointer (some ⟨Bt, 0, none⟩), .pointer (some ⟨Bq, 0, none⟩)] W fun e W' => (∃ u, e = .returned u) ∧
   ((∃ ys, ys = Bl t q ∧ J ys W') ∨ (∃ ba, ba <+: Bl t q ∧ Jx ba W')) := by
 have oa : t.rank q + (Bl t q).length ≤ 800001 := by
  have h1 := (kQ t q).length_le
  have h2 : t.rank q ≤ t.cnt := by
   have : ∀ t : Tr, t.rank q ≤ t.cnt := by
    intro t
    induction t with
    | nil => exact Qf _
    | node l k v r ih1 ih2 => unfold Tr.rank; simp only [Tr.cnt]; split <;> omega
   exact this t
  rw [Tr.cnt_lst] at h1
  omega
 refine callsIn_of_wp func48 rfl trivial ?_ rfl
 simp only [ntmps48, QS, Qh, Qo, Qr, Q1, QL, QM, QT, QN, Qm, Ql]
 have ct := DQ c
 have cq := DQ d
 gi_wp2_with (refine ⟨trivial, ?_⟩; gi_at_call 49; refine (callsIn_wide.2 (aUy hT ja q O)).mono ?_; rintro e w1 ⟨rfl, ia⟩)
 have ca := S0 hJ h0 ia
 have fa := hT.below (ia.mono ja)
 have ga : Bt < W.heap.size := (Qq.1 c).1
 have ka : Bq < W.heap.size := (Qq.1 d).1
 have k1 := (ia.block _ ga).trans c
 have k2 := (ia.block _ ka).trans d
 have pa := Qg ja ia.size
 gi_loopw [4] (fun i wr => ∃ k : Nat, k ≤ (Bl t q).length ∧ i = .int .i64 ((t.rank q : Int) + (k : Int)) ∧ J ((Bl t q).take k) wr ∧ n₀ ≤ wr.heap.size ∧ wr.heap[Bt]? = some (.cells #[v] 36 (0, 0)) ∧ wr.heap[Bq]? = some (.cells #[encStr q] 9 (0, 0)) ∧ D7 n₀ wr t v)
  (fun i _ => t.rank q + (Bl t q).length - (RowKit.intOf i).toNat)
 case atStart => exact ⟨0, Qp _, U, ca, pa, k1, k2, fa⟩
 case round =>
  obtain ⟨k, hk, rfl, g, f, r1, r2, w⟩ := hrel
  have qa := DQ r1
  have s := DQ r2
  have a := aUx w f (t.rank q + k) O O
  rw [Int.natCast_add] at a
  by_cases ea : k < (Bl t q).length
  ·obtain ⟨u1, u2⟩ := aNb ea
   rw [u1] at a
   obtain ⟨x, hx⟩ : ∃ x, (Bl t q)[k] = x := ⟨_, rfl⟩
   rw [hx] at a u2
   simp only [QO, Qe] at a
   have na : (Bl t q).take k ++ [x] = (Bl t q).take (k + 1) := by rw [← hx]; exact (Qz ea).symm
   have aa : ((Bl t q).take k ++ [x]) <+: Bl t q := by rw [na]; exact Zx _ _
   gi_wp2_with (first
    | (refine ⟨trivial, ?_⟩; gi_at_call 50; refine (callsIn_wide.2 a).mono ?_; rintro e w2 ⟨rfl, la⟩; have ma := Eu la s)
    | (refine ⟨trivial, ?_⟩; gi_at_call 51; refine (callsIn_wide.2 (aMn _ x.1 q)).mono ?_; rintro e w3 ⟨rfl, da⟩; rw [u2]; obtain ⟨fn, tmps, o, b, hy, hR⟩ := hY _ x w3 (S0 hJ (S0 hJ g la) da) aa))
   refine hR.mono ?_
   have z3 : n₀ ≤ w3.heap.size := by have := la.size; have := da.size; omega
   have l1 : Bt < wr.heap.size := (Qq.1 r1).1
   have l2 : Bq < wr.heap.size := (Qq.1 r2).1
   have p : Below wr.heap.size wr w3 := la.trans (da.mono la.size)
   rintro e W4 (⟨rfl, z, j⟩ | ⟨rfl, m⟩)
   ·gi_wp2
    go_roundw
    case rel =>
     refine ⟨k + 1, O, ?_, by rw [← na]; exact z, Qg z3 j.low.size, j.t.trans ((p.block _ l1).trans r1), j.q.trans ((p.block _ l2).trans r2), (w.below (p.mono f)).below j.low⟩
     simp
     omega
    case measure => simp [RowKit.intOf]; omega
   ·gi_wp2
    refine bodyPost_ret (results_none rfl _ _ _) rfl ?_
    exact ⟨⟨_, rfl⟩, .inr ⟨_, Zx (k + 1) _, by rw [← na]; exact m⟩⟩
  ·obtain rfl : k = (Bl t q).length := by omega
   cases ha : t.at_ (t.rank q + (Bl t q).length) with
   | none =>
    rw [ha] at a
    simp only [Zd, Q8] at a
    gi_wp2_with (refine ⟨trivial, ?_⟩; gi_at_call 50; refine (callsIn_wide.2 a).mono ?_; rintro e w2 ⟨rfl, la⟩)
    refine ⟨trivial, ?_⟩
    gi_wp2
    refine ⟨fun _ h => Xc, ?_⟩
    gi_wp2
    refine bodyPost_ret (results_none rfl _ _ _) rfl ?_
    rw [QV] at g
    exact ⟨⟨_, rfl⟩, .inl ⟨_, rfl, S0 hJ g la⟩⟩
   | some x =>
    have u2 := aE2 ha
    rw [ha] at a
    simp only [QO, Qe] at a
    gi_wp2_with (first
     | (refine ⟨trivial, ?_⟩; gi_at_call 50; refine (callsIn_wide.2 a).mono ?_; rintro e w2 ⟨rfl, la⟩; have ma := Eu la s)
     | (refine ⟨trivial, ?_⟩; gi_at_call 51; refine (callsIn_wide.2 (aMn _ x.1 q)).mono ?_; rintro e w3 ⟨rfl, da⟩; rw [u2]))
    refine ⟨fun _ h => Xc, ?_⟩
    gi_wp2
    refine bodyPost_ret (results_none rfl _ _ _) rfl ?_
    rw [QV] at g
    exact ⟨⟨_, rfl⟩, .inl ⟨_, rfl, S0 hJ (S0 hJ g la) da⟩⟩
end Go.Vd
namespace Go.Vd
open Go.Proofs Go.RowKit
def aBX:=y2 f79 [] []
def Mo:=y3 f38 2 [] []
def aB9:=y2 f38 [] [(2,Mo)]
def PQ:=y2 f11 [(5,[(2,0)]),(8,[(6,8)]),(9,[(1,0)]),(10,[(4,2)]),(11,[(3,2)])] []
def aCf:=y2 f17 [] []
def aCe:=y2 f18 [] []
def aB5:=y2 f46 [] []
def iS:=y2 f16 [] []
def aCc:=y2 f32 [] []
def Mj:=y3 f75 4 [] []
def aB0:=y2 f75 [] [(4,Mj)]
def aCb:=y2 f33 [] []
def Mi:=y3 f76 4 [] []
def aBZ:=y2 f76 [] [(4,Mi)]
def aBY:=y2 f77 [] []
def aB1:=y2 f71 [] []
def aCa:=y2 f36 [(4,[(1,0),(2,0),(3,0)]),(5,[(1,0),(3,0)]),(6,[(1,0)])] []
def UI:=y2 f34 [(6,[(1,2)])] []
def bV:=y3 f10 3 [] []
def aCh:=y2 f10 [] [(3,bV)]
def Mr:=y3 f8 4 [] []
def aCj:=y2 f8 [] [(4,Mr)]
def aCi:=y2 f9 [] []
def Ms:=y3 f5 7 [(9,[(5,9),(9,0),(9,4),(9,5)])] []
def aCk:=y2 f5 [] [(7,Ms)]
attribute [local go_sem] Oper.semAt_some
def aU9:=Ap []
def aMI:=RF aU9 aBX [.t 4] 12
def aOm:Kq aMI 79:=An (Aj func79) Ad
def aDJ(k:Bs)(n:Nat)(g:k.length<=1000000)(c:n<=1000000):aMI [.str k,.int .i64 (n:Nat)]=some (.int .i64 ((36+k.length+min n 1048576:Nat):Int)):=by
 refine Am (Qa rfl) ?_;unfold aBX;have w:IntKind.i64.wrap (36+(k.length:Int))=((36+k.length:Nat):Int):=Xh
 have f:max (0:Int) (min (n:Int) 1048576)=((min n 1048576:Nat):Int):=O
 have t:IntKind.i64.wrap (((36+k.length:Nat):Int)+((min n 1048576:Nat):Int))=((36+k.length+min n 1048576:Nat):Int):=Xh
 simp only[Gv,↓C2,Gp,simprocAttr,w,f,t]
 all_goals exact YT
open Go.Shelf
def aUw(r:World)(k:Bs)(n:Nat)(g:k.length<=1000000)(c:n<=1000000):Calls Qj 79 #[encStr k,.int .i64 (n:Nat)] r λe s=>e= .returned (.int .i64 ((36+k.length+min n 1048576:Nat):Int))∧Below r.heap.size r s:=by
 refine(HZ aOm (aDJ k n g c) rfl r).mono ?_;rintro e s ⟨u,a,rfl,o,x⟩;exact⟨X1,o⟩
abbrev P4(t:Tr)(q:Bs):={x:Bs×Bs // x∈Bl t q}
def MK(n:Nat)(o:1<=n)(Bt Bq n₀:Nat)(t:Tr)(q:Bs)(v:Value)(k:t.cnt<=400000)(w:World)(c:w.heap[Bt]?=some (.cells #[v] 36 (0,0)))(d:w.heap[Bq]?=some (.cells #[encStr q] 9 (0,0)))(hT:D7 n₀ w t v)(m:n₀<=w.heap.size):
  SeqStopsK Fence.wide n Qj 48 #[.pointer (some ⟨Bt,0,none⟩),.pointer (some ⟨Bq,0,none⟩)] (λx:P4 t q=>#[encStr x.1.1,encStr x.1.2]) (eG n₀ Bt Bq) (λys=>ys.map (·.1)=Bl t q) (λj=>j.map (·.1)<+:Bl t q) (Bl t q).length w:=λl J Jx W b hJ y hY f=>by
 refine(aE3 n o l Bt Bq n₀ t q v k (λj W=>∃p:List (P4 t q),p.map (·.1)=j∧J p W) (λj W=>∃p:List (P4 t q),p.map (·.1)=j∧Jx p W) (B:=W.heap.size) (λs A B row g a i=>?_) (λs A B row g a i=>?_) (λj x W1 hj hp=>?_) W ((b.block _ (Qq.1 c).1).trans c) ((b.block _ (Qq.1 d).1).trans d) (hT.below (b.mono m)) (Qg m b.size) ⟨[],rfl,f⟩).mono ?_
 ·obtain⟨p,e,h⟩:=g;exact⟨p,e,hJ p A B row h a i⟩
 ·obtain⟨p,e,h⟩:=g;exact⟨p,e,y p A B row h a i⟩
 ·obtain⟨p,rfl,h⟩:=hj;have hx:x∈Bl t q:=hp.subset (List.mem_append_right _ (Qk.2 rfl));have hl:p.length<(Bl t q).length:=by
   have:=hp.length_le;simp only[QH,Qu,Qh,Qo]at this;omega
  refine(hY p ⟨x,hx⟩ W1 h hl).mono ?_;rintro e W' (⟨rfl,u,z⟩|⟨rfl,u⟩)
  ·exact .inl ⟨rfl,⟨_,U,u⟩,z⟩
  ·exact .inr ⟨rfl,_,U,u⟩
 ·rintro e W' ⟨r,⟨ys,rfl,p,u,z⟩|⟨j,f,p,rfl,z⟩⟩
  ·exact⟨r,.inl ⟨p,u,z⟩⟩
  ·exact⟨r,.inr ⟨p,f,z⟩⟩
def aCC(w:World)(v:Value)(q:Bs):Calls Qj 21 #[.agg #[v],encStr q] w λe s=>e= .returned (.func (.func 48) #[] #[.pointer (some ⟨w.heap.size,0,none⟩),.pointer (some ⟨w.heap.size+1,0,none⟩)])∧s=(w.alloc (.cells #[v] 36 (0,0))).alloc (.cells #[encStr q] 9 (0,0)):=by
 go_enter func21,ntmps21
 go_wp2
 go_ret
 exact YX
def jD{α:Type}(B:Nat)(T:TypeId)(f:List α->Value):Own (λ(s:List α) W=>Boxed W B T (f s)):=λs A q row g p i=>g.kept p (λe=>by
 obtain⟨o,b,y⟩:=i _ e.symm;rw[show A.heap[B]?=_ from g]at b;cases b;cases y)
def Pa{α:Type}(m:Nat):Own (λ(_:List α) W=>m<=W.heap.size):=λs A q row g p i=>Qg g p.size
def aEV{n B Bt Bq:Nat}{w W x:World}{T:TypeId}{u:Value}(b:Value)(d:Below n w W)(o:Boxed W B T u)(c:Below W.heap.size W x)(a:n<=B)(q:Bt≠B)(t:Bq≠B)(i:Bt<W.heap.size)(r:Bq<W.heap.size)(z:n<=W.heap.size):
  KeepsOthers W (x.setCell ⟨B,0,none⟩ b)∧eG n Bt Bq W (x.setCell ⟨B,0,none⟩ b)∧Boxed (x.setCell ⟨B,0,none⟩ b) B T b∧Below n w (x.setCell ⟨B,0,none⟩ b)∧W.heap.size<=(x.setCell ⟨B,0,none⟩ b).heap.size:=by
 have p:Boxed x B T u:=(c.block _ o.lt).trans o;refine⟨(KeepsOthers.of_grownBy (BV c (Qf _) none c.size) (λ_ _ e=>Xw)).trans (KeepsOthers.setCell _ _ _),⟨(c.mono z).setCell a _,?_,?_⟩,p.set _,(d.trans (c.mono z)).setCell a _,?_⟩
 ·rw[Below.heap_setCell _ _ _ _ q];exact c.block _ i
 ·rw[Below.heap_setCell _ _ _ _ t];exact c.block _ r
 ·have:=c.size;simpa[World.setCell]using this
def Vm:∀l:List (Bs×Bs),(∀x∈l,x.1.length<=100000∧x.2.length<=100000)->Tr.weighL l<=4+200036*l.length
 |[],_=>by simp[Tr.weighL]
 |x::l,h=>by
  have u:=h x Qv;have:=Vm l λy s=>h y (Qt _ s)
  rw[eK];simp only[Tr.costL,Qh];omega
def aQN(w:World)(v:Value)(t:Tr)(hT:D7 w.heap.size w t v)(hc:t.cnt<=400000)(hk:∀x∈t.lst,x.1.length<=100000∧x.2.length<=100000):
  Calls Qj 35 #[.agg #[v]] w λe s=>e= .returned (.int .i64 ((Tr.weighL t.lst:Nat):Int))∧Below w.heap.size w s:=by
 refine(callsIn_wide (n:=3)).1 ?_;refine callsIn_of_wp_marks func35 rfl trivial ?_ rfl;simp only[ntmps35,QS,Qh,Qo,Qr,Q1,QL,QM,QT,QN,Qm,Ql]
 gi_wp2_with (refine⟨trivial,?_⟩;gi_at_call 21;refine(callsIn_wide.2 (aCC _ v [])).mono ?_;rintro e s ⟨rfl,rfl⟩)
 have d:Below w.heap.size w ((((w.alloc (Obj.cells #[v] 36)).alloc (Obj.cells #[Value.int IntKind.i64 4] 3)).alloc (Obj.cells #[v] 36)).alloc (Obj.cells #[encStr []] 9)):=((((Below.refl _ w).alloc (Qf _) _).alloc U _).alloc Xb _).alloc Xb _;have m:((((w.alloc (Obj.cells #[v] 36)).alloc (Obj.cells #[Value.int IntKind.i64 4] 3)).alloc (Obj.cells #[v] 36)).alloc (Obj.cells #[encStr []] 9)).heap.size=w.heap.size+4:=U
 have b1:Boxed ((((w.alloc (Obj.cells #[v] 36)).alloc (Obj.cells #[Value.int IntKind.i64 4] 3)).alloc (Obj.cells #[v] 36)).alloc (Obj.cells #[encStr []] 9)) (w.heap.size+1) 3 (.int .i64 4):=by
  have:=((Boxed.new (w.alloc (Obj.cells #[v] 36)) 3 (.int .i64 4)).alloc (Obj.cells #[v] 36)).alloc (Obj.cells #[encStr []] 9)
  rwa [World.size_alloc]at this
 have b2:Boxed ((((w.alloc (Obj.cells #[v] 36)).alloc (Obj.cells #[Value.int IntKind.i64 4] 3)).alloc (Obj.cells #[v] 36)).alloc (Obj.cells #[encStr []] 9)) (w.heap.size+1+1) 36 v:=by
  have:=(Boxed.new ((w.alloc (Obj.cells #[v] 36)).alloc (Obj.cells #[Value.int IntKind.i64 4] 3)) 36 v).alloc (Obj.cells #[encStr []] 9)
  rwa [World.size_alloc,World.size_alloc]at this
 have b3:Boxed ((((w.alloc (Obj.cells #[v] 36)).alloc (Obj.cells #[Value.int IntKind.i64 4] 3)).alloc (Obj.cells #[v] 36)).alloc (Obj.cells #[encStr []] 9)) (w.heap.size+1+1+1) 9 (encStr []):=by
  have:=Boxed.new (((w.alloc (Obj.cells #[v] 36)).alloc (Obj.cells #[Value.int IntKind.i64 4] 3)).alloc (Obj.cells #[v] 36)) 9 (encStr [])
  rwa [World.size_alloc,World.size_alloc,World.size_alloc]at this
 generalize ((((w.alloc (Obj.cells #[v] 36)).alloc (Obj.cells #[Value.int IntKind.i64 4] 3)).alloc (Obj.cells #[v] 36)).alloc (Obj.cells #[encStr []] 9))=W0 at d m b1 b2 b3 ⊢;have oa:(Bl t []).length<=400000:=by rw[IA,Tr.cnt_lst];exact hc
 refine wpIn_rangeFunc_ownF rfl V (gf:=48) (lb:=#[.pointer (some ⟨w.heap.size+1+1,0,none⟩),.pointer (some ⟨w.heap.size+1+1+1,0,none⟩)]) rfl trivial (enters_of func48 Z rfl)
  (MK 2 V (w.heap.size+1+1) (w.heap.size+1+1+1) w.heap.size t [] v hc W0 b2 b3 (hT.below d) O) eG.trans (aAp O O O) (Below.refl _ _) (λ_=>rfl)
  (λ(j:List (P4 t [])) W=>Boxed W (w.heap.size+1) 3 (.int .i64 ((Tr.weighL (j.map (·.1)):Nat):Int))∧Below w.heap.size w W∧w.heap.size+4<=W.heap.size)
  (λ_ _ _=>False)
  (OwnFrom.and (Own.from (jD _ _ _) _) (OwnFrom.and (ownFrom_below (Qf _) O) (Own.from (Pa _) _)))
  (λ_ _ _ _ _ hs _ _=>hs)
  ⟨b1,d,O⟩
  (λx=>{tmps:=#[Value.agg #[v],Value.pointer (some {block:=w.heap.size,off:=0}),Value.int IntKind.i64 0,Value.pointer (some {block:=w.heap.size+1,off:=0}),encStr x.1.1,encStr x.1.2,Value.agg #[v],Value.func (Fn.func 48) #[] #[Value.pointer (some {block:=w.heap.size+1+1,off:=0}),Value.pointer (some {block:=w.heap.size+1+1+1,off:=0})],encStr x.1.1,encStr x.1.2,undef,undef,undef,undef,undef,undef,undef],defers:=[]}) ?assign ?body ?done ?stop
 case assign=>
  intro l x W K hK
  gi_wp2
  exact hK
 case body=>
  rintro l j ⟨x,q⟩ W ⟨o,hB,ab⟩ k;have ra:=Vm (j.map (·.1)) (λy hy=>by
   obtain⟨z,_,rfl⟩:=QB.1 hy;exact hk _ (IA t▸z.2))
  have g:Tr.weighL ((j++[(⟨x,q⟩:P4 t [])]).map (·.1))=Tr.weighL (j.map (·.1))+(36+x.1.length+min x.2.length 1048576):=by rw[QQ];exact eJ x _
  have p:=o.cell;have ca:=o.frozen;rw[IA]at q;have qa:=hk x q;have i:=λwx=>aUw wx x.1 x.2.length O O
  have r:1<=3-1-1:=V
  have f:Tryz.prog.follows .mixedOrders=true:=Z
  gi_wp2
  gi_region_with_o (refine⟨trivial,?_⟩;gi_at_call 79;refine(CallsIn.inRound l (callsIn_wide.2 (i _))).mono ?_;rintro e w3 ⟨rfl,u⟩;have fa:Boxed w3 (w.heap.size+1) 3 _:=(u.block _ o.lt).trans o;have a:=fa.cell;have b:=fa.frozen)
  all_goals
   obtain⟨g1,g2,g3,g4,g5⟩:=aEV (Bt:=w.heap.size+1+1) (Bq:=w.heap.size+1+1+1) (Value.int IntKind.i64 (IntKind.i64.wrap (((Tr.weighL (ZB (λx=>x.val) j):Nat):Int)+(36+(x.fst.length:Int)+((min x.snd.length 1048576:Nat):Int))))) hB o ⟨u.os,u.tape,u.output,u.size,u.block⟩ O O O O O O;refine⟨g1,g2,?_,g4,O⟩;have e:IntKind.i64.wrap (((Tr.weighL (ZB (λx=>x.val) j):Nat):Int)+(36+(x.fst.length:Int)+((min x.snd.length 1048576:Nat):Int)))=((Tr.weighL ((j++[(⟨x,by rw[IA];exact q⟩:P4 t [])]).map (·.1)):Nat):Int):=by
    rw[Qu]at ra;rw[g,GS O O];omega
   rw[e]at g3 ⊢;exact g3
 case done=>
  rintro D ys W hD eb ⟨o,hB,ab⟩ hK;have p:=o.cell
  gi_wp2
  refine⟨U,.inl ⟨_,_,rfl,run_takeDeferred hK,?_⟩⟩;exact⟨_,results_tmp rfl _ _ _,by rw[IA];rfl,hB.trans (belowK_b (w:=w) (Qf _) W D _ _ O hK rfl rfl)⟩
 case stop=>
  rintro D c j W _ _ h _;exact h.elim
attribute [local go_sem] Oper.semAt_some
open Go.Shelf Go.Sort
def aMo{n:Nat}{r:World}{t:Tr}{v:Value}(h:D7 n r t v)(c:n<=r.heap.size)(q:Bs):Calls Qj 27 #[.agg #[v],encStr q] r λe s=>e= .returned (.tuple #[encStr ((t.get q).getD []),.bool (t.get q).isSome])∧Below r.heap.size r s:=by
 have f:=h.one;obtain⟨G,z,i⟩:=h;refine(DV (vs:=[.agg #[v],encStr q]) (G:=G) aAB (dQ t q) Xi Xi rfl (λj d u p m=>?_) (λb o=>i b O)).mono ?_
 ·match j,p,m with
  |0,p,m=>cases p;cases m;exact P2 z f
  |1,p,m=>cases p;cases m;exact .str _
 ·rintro e s ⟨u,a,rfl,o,x⟩;obtain⟨us,rfl,w,m⟩:=x.tup_inv
  match us,w with
  |[u0,u1],_=>exact⟨by rw[(m 0 _ u0 rfl rfl).str_inv,(m 1 _ u1 rfl rfl).bool_inv],o⟩
def aCM(w:World)(p v q b:Obj):((((w.alloc p).alloc v).alloc q).alloc b).heap.size=w.heap.size+4∧((((w.alloc p).alloc v).alloc q).alloc b).heap[w.heap.size]?=some p∧((((w.alloc p).alloc v).alloc q).alloc b).heap[w.heap.size+1]?=some v∧((((w.alloc p).alloc v).alloc q).alloc b).heap[w.heap.size+1+1]?=some q∧((((w.alloc p).alloc v).alloc q).alloc b).heap[w.heap.size+1+1+1]?=some b:=by
 have u:∀(x:World)(o:Obj)(k:Nat),k<x.heap.size->(x.alloc o).heap[k]?=x.heap[k]?:=λx o k h=>Below.heap_alloc _ _ _ h
 have g:∀(x:World)(o:Obj),(x.alloc o).heap.size=x.heap.size+1:=λx o=>World.size_alloc x o
 have c:∀(x:World)(o:Obj),(x.alloc o).heap[x.heap.size]?=some o:=λx o=>World.alloc_heap_new x o
 refine⟨by simp only[g],?_,?_,?_,?_⟩
 ·rw[u _ _ _ Xv,u _ _ _ Xv,u _ _ _ Xv,c]
 ·rw[u _ _ _ Xv,u _ _ _ Xv,←g w p,c]
 ·rw[u _ _ _ Xv,←g w p,←g _ v,c]
 ·rw[←g w p,←g _ v,←g _ q,c]
def lM{w:World}{B a e j n:Nat}{v:Value}{xs:List Value}(h:w.ownsRow B e j v n xs)(o:a<=B):w.ownsRow a e j v n xs:=by
 refine⟨h.1,?_⟩;rcases h.2 with h|⟨g,cap,cur,f,u,z⟩
 ·exact .inl h
 ·exact .inr ⟨g,cap,cur,f,Qg o u,z⟩
abbrev GU(s:Option Addr×Nat×Nat):Value:= .slice s.1 s.2.1 s.2.2
def jH(w:World)(p v q b:Obj):Below w.heap.size w ((((w.alloc p).alloc v).alloc q).alloc b):=((((Below.refl _ w).alloc (Qf _) _).alloc U _).alloc Xb _).alloc Xb _
def uB{W:World}{B:Nat}{T:TypeId}{a b c d e:Value}(h:W.heap[B]?=some (.cells #[a,b,c,d,e] T (0,0))):
  W.cell? ⟨B,0,none⟩=some a∧W.cell? ⟨B,1,none⟩=some b∧W.cell? ⟨B,2,none⟩=some c∧W.cell? ⟨B,3,none⟩=some d∧W.cell? ⟨B,4,none⟩=some e:=by
 simp[World.cell?,h]
def RD{W:World}{B:Nat}{T:TypeId}{cs:Array Value}(h:W.heap[B]?=some (.cells cs T (0,0)))(j:Nat):W.frozen? ⟨B,j,none⟩=false:=by
 simp[World.frozen?,h]
def Sd{w:World}{b:Nat}{z0 v r q t:Value}(j c a e p:Value){T:TypeId}(h:w.heap[b]?=some (.cells #[z0,v,r,q,t] T (0,0))):
  (((((w.setCell ⟨b,0,none⟩ j).setCell ⟨b,1,none⟩ c).setCell ⟨b,2,none⟩ a).setCell ⟨b,3,none⟩ e).setCell ⟨b,4,none⟩ p).heap[b]?=some (.cells #[j,c,a,e,p] T (0,0))∧
  (((((w.setCell ⟨b,0,none⟩ j).setCell ⟨b,1,none⟩ c).setCell ⟨b,2,none⟩ a).setCell ⟨b,3,none⟩ e).setCell ⟨b,4,none⟩ p).heap.size=w.heap.size∧
  ∀k,k≠b->(((((w.setCell ⟨b,0,none⟩ j).setCell ⟨b,1,none⟩ c).setCell ⟨b,2,none⟩ a).setCell ⟨b,3,none⟩ e).setCell ⟨b,4,none⟩ p).heap[k]?=w.heap[k]?:=by
 refine⟨?_,by simp[World.setCell],λk g=>?_⟩
 ·have u:=heap_setCell_same w b 0 _ _ j h;have z:=heap_setCell_same _ b 1 _ _ c u;have i:=heap_setCell_same _ b 2 _ _ a z;have o:=heap_setCell_same _ b 3 _ _ e i;have m:=heap_setCell_same _ b 4 _ _ p o;simpa using m
 ·rw[Below.heap_setCell _ _ _ _ g,Below.heap_setCell _ _ _ _ g,Below.heap_setCell _ _ _ _ g,Below.heap_setCell _ _ _ _ g,Below.heap_setCell _ _ _ _ g]
def aM5(w:World)(k0 k1 k k3 k4:Value)(q:Bs)(x2 x3 x4 x5 x6 x7 x8:Value)(v:Value)(tx:Bs)(th:Bool)(QK:World->World->Value->Prop)
  (x:∀r,Below w.heap.size w r->Calls Qj 27 #[.agg #[v],encStr q] r λe s=>e= .returned (.tuple #[encStr tx,.bool th])∧Below r.heap.size r s)
  (f:∀r,Below w.heap.size w r->w.heap.size+4<=r.heap.size->Calls Qj 155 #[.agg #[k0,k1,k,k3,k4],encStr q,encStr tx,.bool th] r λe s=>∃u0 u1 u2 u3 u4,e= .returned (.agg #[GU u0,GU u1,GU u2,GU u3,GU u4])∧Below r.heap.size r s∧QK r s (.agg #[GU u0,GU u1,GU u2,GU u3,GU u4])):
  Calls Qj 88 #[.agg #[k0,k1,k,k3,k4],.agg #[encStr q,.bool false,x2,x3,x4,x5,x6,x7,x8],.agg #[v]] w λe s=>∃u r c B,e= .returned u∧Below w.heap.size w r∧Below r.heap.size r c∧QK r c u∧B=w.heap.size+3∧Below w.heap.size w s∧c.heap.size<=s.heap.size∧∀p:Addr,p.block≠B->s.cell? p=c.cell? p:=by
 go_enter func88,ntmps88
 go_wp2_with (first|(go_at_call 27;refine(x _ (jH _ _ _ _ _)).mono ?_;rintro e r ⟨rfl,n⟩;obtain⟨zz,y0,y1,y2,y3⟩:=aCM w (Obj.cells #[k0,k1,k,k3,k4] 163) (Obj.cells #[encStr q,Value.bool false,x2,x3,x4,x5,x6,x7,x8] 100) (Obj.cells #[v] 36) (Obj.cells #[Value.slice none 0 0,Value.slice none 0 0,Value.slice none 0 0,Value.slice none 0 0,Value.slice none 0 0] 163);have a:=(jH w (Obj.cells #[k0,k1,k,k3,k4] 163) (Obj.cells #[encStr q,Value.bool false,x2,x3,x4,x5,x6,x7,x8] 100) (Obj.cells #[v] 36) (Obj.cells #[Value.slice none 0 0,Value.slice none 0 0,Value.slice none 0 0,Value.slice none 0 0,Value.slice none 0 0] 163)).trans (n.mono O);have q0:=(n.block _ O).trans y0;have q1:=(n.block _ O).trans y1;have q3:=(n.block _ O).trans y3;obtain⟨d0,d,o,d3,d4⟩:=uB q0;have d5:r.cell? ⟨w.heap.size+1,0,none⟩=some (encStr q):=by simp[World.cell?,q1])|(go_at_call 155;refine(f _ a (by have:=n.size;omega)).mono ?_;rintro e c ⟨u0,u1,u2,u3,u4,rfl,g,j⟩;have q4:=(g.block _ (by have:=n.size;omega)).trans q3;obtain⟨c0,c1,m,t,c4⟩:=uB q4;have f0:=RD q4 0;have f1:=RD q4 1;have f2:=RD q4 2;have f3:=RD q4 3;have f4:=RD q4 4))
 obtain⟨p5,ps,pk⟩:=Sd (GU u0) (GU u1) (GU u2) (GU u3) (GU u4) q4;obtain⟨s0,s1,i,s3,s4⟩:=uB p5;have b:=n.size;have z:Below w.heap.size w c:=a.trans (g.mono a.size);refine bodyPost_ret (v:= .agg #[GU u0,GU u1,GU u2,GU u3,GU u4]) (by simp[results,results88,go_sem,s0,s1,i,s3,s4]) rfl ⟨_,r,c,w.heap.size+1+1+1,rfl,a,g,j,rfl,?_,Zt ps.symm,λp y=>by simp only[World.cell?,pk _ y]⟩;exact((((z.setCell Xb _).setCell Xb _).setCell Xb _).setCell Xb _).setCell Xb _
def zY{n N Bt Bq B:Nat}{w W w1:World}{v v':Value}{k m:Nat}{xs ys:List Value}{c:Obj}(hB:Below n w W)(o:Boxed W B 23 v)(f:W.ownsRow N 9 1 v k xs)(z:N<=W.heap.size)(d:n<=N)(sa:n<=B)(q:Bt≠B)(t:Bq≠B)(y:Bt<N)(r:Bq<N)
  (s:w1.ownsRow N 9 1 v' m ys) (p:(W.alloc c).grownBy w1 v.ownBlock):
  KeepsOthers W (w1.setCell ⟨B,0,none⟩ v')∧eG n Bt Bq W (w1.setCell ⟨B,0,none⟩ v')∧Boxed (w1.setCell ⟨B,0,none⟩ v') B 23 v'∧(w1.setCell ⟨B,0,none⟩ v').ownsRow N 9 1 v' m ys∧Below n w (w1.setCell ⟨B,0,none⟩ v')∧N<=(w1.setCell ⟨B,0,none⟩ v').heap.size∧Boxed w1 B 23 v:=by
 have i:∀g,v.ownBlock=some g->N<=g:=λg hg=>by
  rcases f.2 with ⟨rfl,_⟩|⟨g',cap,cur,rfl,h,_⟩
  ·cases hg
  ·cases hg;exact h
 have le:∀{u:Value} {W:World} {j:Nat} {zs:List Value},W.ownsRow N 9 1 u j zs->W.ownsRow n 9 1 u j zs:=λh=>lM h O
 obtain⟨g1,g2,g3,g4,g5⟩:=o.appended V (le f) O sa (le s) p;have a:∀b,b<N->b≠B->(w1.setCell ⟨B,0,none⟩ v').heap[b]?=W.heap[b]?:=λb ta x=>by
  rw[Below.heap_setCell _ _ _ _ x];exact(p.block b (by rw[World.size_alloc];omega) (λe=>by have:=i b e.symm;omega)).trans (Below.heap_alloc _ _ _ O)
 have ja:N<=(w1.setCell ⟨B,0,none⟩ v').heap.size:=by
  have:=p.size;rw[World.size_alloc]at this;simp only[World.setCell,Array.size_modify];omega
 exact⟨g4,⟨g5,a Bt y q,a Bq r t⟩,g2,s.kept (grownBy_setCell' w1 B v') (.inr (g1.not_row V s).symm),hB.trans g5,ja,g1⟩
def D7.more{n m:Nat}{w:World}{t:Tr}{v:Value}(h:D7 n w t v)(k:n<=m):D7 m w t v:=by
 obtain⟨G,u,z⟩:=h;exact⟨G,u,λb o=>z b O⟩
def kS(t:Tr)(q:Bs):(Bl t q).length<=t.lst.length:=Qg ((List.takeWhile_prefix _).length_le) XQ
def aM4(w:World)(k0 k1 k2 k3 k4:Value)(q:Bs)(x2 x3 x4 x5 x6 x7 x8:Value)(v:Value)(t:Tr)(QK:World->World->Value->Prop)(hT:D7 w.heap.size w t v)(hc:t.cnt<=400000)
  (f:∀(wx:World)(vs:Value),Below w.heap.size w wx->w.heap.size+4<=wx.heap.size->wx.ownsRow (w.heap.size+7) 9 1 vs ((Bl t q).map (·.1)).length (((Bl t q).map (·.1)).map encStr)->(vs= .slice none 0 0↔(Bl t q).map (·.1)=[])->Calls Qj 156 #[.agg #[k0,k1,k2,k3,k4],encStr q,vs] wx λe w'=>∃u0 u1 u2 u3 u4,e= .returned (.agg #[GU u0,GU u1,GU u2,GU u3,GU u4])∧Below wx.heap.size wx w'∧QK wx w' (.agg #[GU u0,GU u1,GU u2,GU u3,GU u4])):
  Calls Qj 88 #[.agg #[k0,k1,k2,k3,k4],.agg #[encStr q,.bool true,x2,x3,x4,x5,x6,x7,x8],.agg #[v]] w λe w'=>∃u wx w1 B,e= .returned u∧Below w.heap.size w wx∧Below wx.heap.size wx w1∧QK wx w1 u∧B=w.heap.size+3∧Below w.heap.size w w'∧w1.heap.size<=w'.heap.size∧∀p:Addr,p.block≠B->w'.cell? p=w1.cell? p:=by
 obtain⟨i0,hi,hx⟩:=QP.1 gT;simp only[Prod.mk.injEq]at hx;obtain⟨sa,pa,xa⟩:=hx;refine(callsIn_wide (n:=3)).1 ?_;refine callsIn_of_wp_marks func88 rfl trivial ?_ rfl;simp only[ntmps88,QS,Qh,Qo,Qr,Q1,QL,QM,QT,QN,Qm,Ql]
 gi_wp2_with (refine⟨trivial,?_⟩;gi_at_call 21;refine(callsIn_wide.2 (aCC _ v q)).mono ?_;rintro e w' ⟨rfl,rfl⟩)
 have j:=aCM w (Obj.cells #[k0,k1,k2,k3,k4] 163) (Obj.cells #[encStr q,Value.bool true,x2,x3,x4,x5,x6,x7,x8] 100) (Obj.cells #[v] 36) (Obj.cells #[Value.slice none 0 0,Value.slice none 0 0,Value.slice none 0 0,Value.slice none 0 0,Value.slice none 0 0] 163);have fa:=jH w (Obj.cells #[k0,k1,k2,k3,k4] 163) (Obj.cells #[encStr q,Value.bool true,x2,x3,x4,x5,x6,x7,x8] 100) (Obj.cells #[v] 36) (Obj.cells #[Value.slice none 0 0,Value.slice none 0 0,Value.slice none 0 0,Value.slice none 0 0,Value.slice none 0 0] 163);generalize ((((w.alloc (Obj.cells #[k0,k1,k2,k3,k4] 163)).alloc (Obj.cells #[encStr q,Value.bool true,x2,x3,x4,x5,x6,x7,x8] 100)).alloc (Obj.cells #[v] 36)).alloc (Obj.cells #[Value.slice none 0 0,Value.slice none 0 0,Value.slice none 0 0,Value.slice none 0 0,Value.slice none 0 0] 163))=w4 at j fa ⊢;obtain⟨zz,y0,y1,y2,y3⟩:=j;have ja:D7 w4.heap.size w4 t v:=(hT.below fa).more O;have d:Below w4.heap.size w4 (((w4.alloc (Obj.cells #[Value.slice none 0 0] 23)).alloc (Obj.cells #[v] 36)).alloc (Obj.cells #[encStr q] 9)):=(((Below.refl _ w4).alloc (Qf _) _).alloc U _).alloc Xb _;have hz:(((w4.alloc (Obj.cells #[Value.slice none 0 0] 23)).alloc (Obj.cells #[v] 36)).alloc (Obj.cells #[encStr q] 9)).heap.size=w4.heap.size+3:=U
 have b1:Boxed (((w4.alloc (Obj.cells #[Value.slice none 0 0] 23)).alloc (Obj.cells #[v] 36)).alloc (Obj.cells #[encStr q] 9)) w4.heap.size 23 (.slice none 0 0):=((Boxed.new w4 23 (.slice none 0 0)).alloc (Obj.cells #[v] 36)).alloc (Obj.cells #[encStr q] 9);have b2:Boxed (((w4.alloc (Obj.cells #[Value.slice none 0 0] 23)).alloc (Obj.cells #[v] 36)).alloc (Obj.cells #[encStr q] 9)) (w4.heap.size+1) 36 v:=by
  have:=(Boxed.new (w4.alloc (Obj.cells #[Value.slice none 0 0] 23)) 36 v).alloc (Obj.cells #[encStr q] 9)
  rwa [World.size_alloc]at this
 have b3:Boxed (((w4.alloc (Obj.cells #[Value.slice none 0 0] 23)).alloc (Obj.cells #[v] 36)).alloc (Obj.cells #[encStr q] 9)) (w4.heap.size+1+1) 9 (encStr q):=by
  have:=Boxed.new ((w4.alloc (Obj.cells #[Value.slice none 0 0] 23)).alloc (Obj.cells #[v] 36)) 9 (encStr q)
  rwa [World.size_alloc,World.size_alloc]at this
 generalize (((w4.alloc (Obj.cells #[Value.slice none 0 0] 23)).alloc (Obj.cells #[v] 36)).alloc (Obj.cells #[encStr q] 9))=W0 at d hz b1 b2 b3 ⊢;have en:w.heap.size+1+1+1+1=w4.heap.size:=O
 rw[en];have oa:(Bl t q).length<=400000:=Qg (kS t q) (by rw[Tr.cnt_lst];exact hc);refine wpIn_rangeFunc_ownF rfl V (gf:=48) (lb:=#[.pointer (some ⟨w4.heap.size+1,0,none⟩),.pointer (some ⟨w4.heap.size+1+1,0,none⟩)]) rfl trivial (enters_of func48 Z rfl)
  (MK 2 V (w4.heap.size+1) (w4.heap.size+1+1) w4.heap.size t q v hc W0 b2 b3 (ja.below d) O) eG.trans (aAp O O O) (Below.refl _ _) (λ_=>rfl)
  (λ(ba:List (P4 t q)) W=>(∃u,Boxed W w4.heap.size 23 u∧W.ownsRow (w4.heap.size+3) 9 1 u ba.length ((ba.map (·.1.1)).map encStr)∧(u= .slice none 0 0↔ba=[]))∧Below w4.heap.size w4 W∧w4.heap.size+3<=W.heap.size)
  (λ_ _ _=>False)
  (OwnFrom.and (Own.from (holdsRow_own (w4.heap.size+3) w4.heap.size 23 9 1 (λ(ba:List (P4 t q))=>ba.length) (λ(ba:List (P4 t q))=>(ba.map (·.1.1)).map encStr) (λ(ba:List (P4 t q)) u=>u= .slice none 0 0↔ba=[])) _) (OwnFrom.and (ownFrom_below (Qf _) O) (Own.from (Pa _) _)))
  (λ_ _ _ _ _ hs _ _=>hs)
  ⟨⟨_,b1,World.ownsRow_nil _ _ _ _,U⟩,d,O⟩
  (λx=>{tmps:=Zf (Value.agg #[k0,k1,k2,k3,k4]::Value.agg #[encStr q,Value.bool true,x2,x3,x4,x5,x6,x7,x8]::Value.agg #[v]::Value.pointer (some {block:=w.heap.size,off:=0})::Value.pointer (some {block:=w.heap.size+1,off:=0})::Value.pointer (some {block:=w.heap.size+1+1,off:=0})::Value.pointer (some {block:=w.heap.size+1+1+1,off:=0})::undef::undef::Value.pointer (some {block:=w4.heap.size,off:=0})::encStr x.1.1::Value.pointer (some {block:=w.heap.size+1,off:=1})::Value.bool true::Value.bool false::undef::undef::undef::undef::undef::undef::undef::undef::undef::undef::undef::undef::undef::Value.agg #[v]::Value.pointer (some {block:=w.heap.size+1,off:=0})::encStr q::Value.func (Fn.func 48) #[] #[Value.pointer (some {block:=w4.heap.size+1,off:=0}),Value.pointer (some {block:=w4.heap.size+1+1,off:=0})]::encStr x.1.1::encStr x.1.2::undef::undef::undef::undef::undef::undef::undef::undef::undef::[]),defers:=[]}) ?assign ?body ?done ?stop
 case assign=>
  intro l x W K hK;clear zz en hz
  gi_wp2
  exact hK
 case body=>
  rintro l ba x W ⟨⟨u,hv,ca,ma⟩,hB,ab⟩ ea;have ha:=hv.cell;clear zz en hz
  gi_wp2_with (gi_at_builtin;refine wpListIn_append_own _ rfl _ _ 23 rfl (w4.heap.size+3) 9 i0 (.string ByteArray.empty) 1 16 underlying23 hi sa pa xa rfl V _ _ _ rfl (ca.alloc _) ⟨W.heap.size,0,none⟩ 1 1 [encStr x.1.1] rfl rfl (cell_one_new _ _ _) (λx hx=>Yb) Xs O Xb ?_;intro v' w1 da ka i;obtain⟨g',m,rfl⟩:=ownsRow_succ da;obtain⟨h1,h2,h3,h4,h5,h6,h7⟩:=zY (n:=w4.heap.size) (N:=w4.heap.size+3) (Bt:=w4.heap.size+1) (Bq:=w4.heap.size+1+1) (B:=w4.heap.size) hB hv ca ab O (Qf _) O O O O da ka;have y:=h7.cell;have qa:=h7.frozen)
  exact⟨h1,h2,⟨_,h3,by simpa using h4,U⟩,h5,h6⟩
 case done=>
  rintro D ys W hD eb ⟨⟨u,hv,ca,ma⟩,hB,ab⟩ hK;have ha:=hv.cell;have q0:=(hB.block _ O).trans y0;have q1:=(hB.block _ O).trans y1;have q3:=(hB.block _ O).trans y3;obtain⟨d0,d1,d2,d3,d4⟩:=uB q0;have d5:W.cell? ⟨w.heap.size+1,0,none⟩=some (encStr q):=by simp[World.cell?,q1]
  have ZZ:Aside (w4.heap.size=w.heap.size+4∧W0.heap.size=w4.heap.size+3):=⟨zz,hz⟩;clear zz en hz;have r:ys.map (·.1.1)=(Bl t q).map (·.1):=by have:=congrArg (ZB (·.1)) eb;rwa [ZF]at this
  have b:ys=[]↔(Bl t q).map (·.1)=[]:=by rw[←r,Zk]
  have ga:ys.length=((Bl t q).map (·.1)).length:=by rw[←r,Qu]
  rw[r,ga]at ca;rw[b]at ma;have a:Below w.heap.size w W:=fa.trans (hB.mono fa.size);have s:=lM ca (show w.heap.size+7<=w4.heap.size+3 by have:=ZZ.out;omega);clear r b ga
  gi_wp2_with (refine⟨trivial,?_⟩;gi_at_call 156;refine(callsIn_wide.2 (f W u a (by have:=ZZ.out;omega) s ma)).mono ?_;rintro e w1 ⟨u0,u1,u2,u3,u4,rfl,ia,hq⟩;have q4:=(ia.block _ (by have:=ZZ.out;omega)).trans q3;obtain⟨c0,c1,c2,c3,c4⟩:=uB q4;have f0:=RD q4 0;have f1:=RD q4 1;have f2:=RD q4 2;have f3:=RD q4 3;have f4:=RD q4 4)
  obtain⟨p5,ps,pk⟩:=Sd (GU u0) (GU u1) (GU u2) (GU u3) (GU u4) q4;have z:=(Qq.1 hK).1;obtain⟨zz,hz⟩:=ZZ.out;have k:D≠w.heap.size+1+1+1:=O
  have g:=(pk D k).trans ((ia.block _ z).trans hK);have la:=ia.size;have aa:Below w.heap.size w w1:=a.trans (ia.mono a.size);have na:=((((aa.setCell (p:=⟨w.heap.size+1+1+1,0,none⟩) Xb (GU u0)).setCell (p:=⟨w.heap.size+1+1+1,1,none⟩) Xb (GU u1)).setCell (p:=⟨w.heap.size+1+1+1,2,none⟩) Xb (GU u2)).setCell (p:=⟨w.heap.size+1+1+1,3,none⟩) Xb (GU u3)).setCell (p:=⟨w.heap.size+1+1+1,4,none⟩) Xb (GU u4);have ra:∀o,((((((w1.setCell ⟨w.heap.size+1+1+1,0,none⟩ (GU u0)).setCell ⟨w.heap.size+1+1+1,1,none⟩ (GU u1)).setCell ⟨w.heap.size+1+1+1,2,none⟩ (GU u2)).setCell ⟨w.heap.size+1+1+1,3,none⟩ (GU u3)).setCell ⟨w.heap.size+1+1+1,4,none⟩ (GU u4)).putObj D o).heap[w.heap.size+1+1+1]?=_:=λo=>(World.putObj_heap_other k.symm).trans p5
  refine⟨U,.inl ⟨_,_,rfl,run_takeDeferred g,?_⟩⟩;obtain⟨s0,s1,s2,s3,s4⟩:=uB (ra (.deferred none));refine⟨.agg #[GU u0,GU u1,GU u2,GU u3,GU u4],by simp[results,results88,go_sem,s0,s1,s2,s3,s4],_,W,w1,w.heap.size+1+1+1,rfl,a,ia,hq,rfl,na.trans (belowK_b (w:=w) (Qf _) _ D _ _ O g rfl rfl),?_,λp hp=>?_⟩
  ·rw[World.putObj_size];exact Zt ps.symm
  ·rcases Nat.decEq p.block D with h|h
   ·simp only[World.cell?,World.putObj_heap_other h];rw[pk _ hp]
   ·simp only[World.cell?,h,World.putObj_heap_same (Qq.1 g).1,(ia.block _ z).trans hK]
 case stop=>
  rintro D c ba W _ _ h _;exact h.elim
def Ss{P:Program}{f:FuncId}{F:List D->Option D}(k:(Ac F).ok P f){ds:List D}{r:D}(q:F ds=some r)(z:ds.all D.calm=true)(y:ds.map D.un=ds)(ga:r.calm=true){vs:List Value}{w:World}{G:Nat->Nat}
  (hl:vs.length=ds.length) (c:∀(j:Nat) d v,ds[j]?=some d->vs[j]?=some v->Rep w (Gh.base G) d v) (n:∀b,w.heap.size<=b->G b=0):
  Calls P f vs.toArray w λe t=>∃v G',e= .returned v∧Below w.heap.size w t∧(∀b,t.heap.size<=b->G' b=0)∧(∀b,b<w.heap.size->G' b=G b)∧Rep t (Gh.base G') r v:=by
 have a:GD P w.heap.size w (λ_ _=>none) w (Gh.base G):=
  ⟨Below.refl _ _,Qf _,n,λ_ _=>rfl,λi b h=>XB,λi i' b h=>XB,λi o d h=>Xd,λi e h=>Xd,λi i' e e' b x x' h=>Xd,λi s p h=>Xd,λi i' s p s' p' b x x' h=>Xd⟩
 refine(k.run (fr:=[0]) (ds:=ds) (r:=r) (u:=[]) a (λi _=>⟨λ_=>rfl,rfl,rfl⟩) hl c ?_).mono ?_
 ·grind [Ac]
 ·rintro e t ⟨v,g',rfl,g⟩;refine⟨v,g'.G,rfl,g.inv.below,g.inv.gz,λb m=>?_,g.rep.calm_to ga (λ_ _=>rfl) (λ_=>Qf _)⟩;rw[g.inv.old b m,g.ext.G0];rfl
def Tj{w:World}{g:Gh}{t:Tr}{u:Value}(h:Rep w g (.agg [GF t]) u):∃v,u= .agg #[v]∧Rep w g (GF t) v:=by
 cases h with
 |agg ds vs hl q z=>
  match vs,hl with
  |[v],_=>exact⟨v,rfl,z 0 _ v rfl rfl⟩
def Pk(t:Tr):List D:=[.agg [GF t]]
def fW(x y)(h:Pk x=Pk y):x=y:=by
 simp only[Pk,Q2,D.agg.injEq,and_true]at h;exact EW h
structure TrS (t:Tr):Prop where
 cnt:t.cnt<=400000
 key:∀x∈t.lst,x.1.length<=100000∧x.2.length<=100000
def Tb:List D->Option D:=FX Pk TrS λt=> .int .i64 ((Tr.weighL t.lst:Nat):Int)
def Iy{t:Tr}(h:TrS t):Tb [.agg [GF t]]=some (.int .i64 ((Tr.weighL t.lst:Nat):Int)):=BO (mk:=Pk) fW h
def TW:Kq Tb 35:=by
 refine FJ ⟨_,func35,Z,Z⟩ λds r z vs w G hl u n=>⟨?_,?_⟩
 ·obtain⟨p,_,_,rfl⟩:=CV z;rfl
 ·obtain⟨t,k,rfl,rfl⟩:=CV z
  match vs,hl with
  |[v0],_=>
   obtain⟨v,rfl,i⟩:=Tj (u 0 _ v0 rfl rfl);refine(aQN w v t ⟨G,i,n⟩ k.cnt k.key).mono ?_;rintro e s ⟨rfl,o⟩;exact⟨_,G,rfl,o,λb h=>n b (Qg o.size h),λ_ _=>rfl,.int _ _⟩
def Pi(p:Kn×Bs×Bool×List D×Tr):List D:=[.agg (G6 p.1),.agg (.str p.2.1:: .bool p.2.2.1::p.2.2.2.1),.agg [GF p.2.2.2.2]]
def fV(x y)(h:Pi x=Pi y):x=y:=by
 obtain⟨k,q,li,r,t⟩:=x;obtain⟨p,v,d,f,s⟩:=y;simp only[Pi,Q2,D.agg.injEq,D.str.injEq,D.bool.injEq,and_true]at h;obtain⟨u,⟨z,i,o⟩,m⟩:=h;rw[mA u,z,i,o,EW m]
structure aVi (p:Kn×Bs×Bool×List D×Tr):Prop where
 es:p.1.es.length<=1000
 ls:p.1.ls.length<=1000
 r:p.2.2.2.1.length=7
 t:TrS p.2.2.2.2
 und:((Bl p.2.2.2.2 p.2.1)).length<=100000
def Ta:List D->Option D:=FX Pi aVi λp=> .agg (G6 (A_ p.1 p.2.1 p.2.2.1 (Fj p.2.2.2.2 p.2.1)))
def aEl{k:Kn}{q:Bs}{li:Bool}{r:List D}{t:Tr}(h:aVi (k,q,li,r,t)):Ta [.agg (G6 k),.agg (.str q:: .bool li::r),.agg [GF t]]=some (.agg (G6 (A_ k q li (Fj t q)))):=BO (mk:=Pi) (a:=(k,q,li,r,t)) fV h
def aAo(k:Kn):(D.agg (G6 k)).calm=true:=rfl
def gD{w:World}{g:Gh}{k:Kn}{u:Value}(h:Rep w g (.agg (G6 k)) u):∃j c a e p,u= .agg #[GU j,GU c,GU a,GU e,GU p]:=by
 cases h with
 |agg ds vs hl q z=>
  match vs,hl with
  |[v0,v1,v2,v3,v4],_=>
   obtain⟨v,b,rfl,_⟩:=(z 0 _ v0 rfl rfl).len_slice;obtain⟨a1,c1,rfl,_⟩:=(z 1 _ v1 rfl rfl).len_slice;obtain⟨s,m,rfl,_⟩:=(z 2 _ v2 rfl rfl).len_slice;obtain⟨r,t,rfl,_⟩:=(z 3 _ v3 rfl rfl).len_slice;obtain⟨i,n,rfl,_⟩:=(z 4 _ v4 rfl rfl).len_slice;exact⟨(v,_,b),(a1,_,c1),(s,_,m),(r,_,t),(i,_,n),rfl⟩
def aNO{w:World}{g:Gh}{q:Bs}{li:Bool}{r:List D}{u:Value}(h:Rep w g (.agg (.str q:: .bool li::r)) u)(i:r.length=7):∃t a y v e m p,u= .agg #[encStr q,.bool li,t,a,y,v,e,m,p]:=by
 cases h with
 |agg ds vs hl f z=>
  match r,i,vs,hl,z with
  |[r2,r3,r4,r5,r6,r7,r8],_,[v0,v1,v2,v3,v4,v5,v6,v7,v8],_,z=>
   have b:=(z 0 _ v0 rfl rfl).str_inv;have j:=(z 1 _ v1 rfl rfl).bool_inv;subst b j;exact⟨_,_,_,_,_,_,_,rfl⟩
def aQl(w:World)(G:Nat->Nat)(k:Kn)(c:World)(u:Value):Prop:=∃s:Nat->Nat,(∀b,c.heap.size<=b->s b=0)∧(∀b,b<w.heap.size->s b=G b)∧s (w.heap.size+3)=0∧Rep c (Gh.base s) (.agg (G6 k)) u
def lY{w:World}{G:Nat->Nat}{k:Kn}{e:Ending}{s:World}(h:∃u r c B,e= .returned u∧Below w.heap.size w r∧Below r.heap.size r c∧aQl w G k c u∧B=w.heap.size+3∧Below w.heap.size w s∧c.heap.size<=s.heap.size∧∀p:Addr,p.block≠B->s.cell? p=c.cell? p):
  ∃v G',e= .returned v∧Below w.heap.size w s∧(∀b,s.heap.size<=b->G' b=0)∧(∀b,b<w.heap.size->G' b=G b)∧Rep s (Gh.base G') (.agg (G6 k)) v:=by
 obtain⟨u,r,c,B,rfl,q,ia,⟨d,z,o,i,x⟩,rfl,f,g,y⟩:=h;refine⟨u,d,rfl,f,λb h=>z b O,o,x.calm_to (aAo k) (λp t=>y p λe=>?_) (λ_=>Qf _)⟩;rw[e]at t;simp only[Gh.base,i]at t;omega
def aGk(k:Kn)(q:Bs)(t:Tr):A_ k q false (Fj t q)={k with es:=k.es++[(q,(t.get q).getD [],(t.get q).isSome)]}:=by
 simp[A_,Fj]
def aGi(k:Kn)(q:Bs)(t:Tr):A_ k q true (Fj t q)={k with ls:=k.ls++[(q,(Bl t q).isEmpty,(Bl t q).map (·.1))]}:=by
 simp[A_,Fj]
def aNM:Kq Ta 88:=by
 refine FJ ⟨_,func88,Z,Z⟩ λds r hF vs w G hl da n=>⟨?_,?_⟩
 ·obtain⟨p,_,_,rfl⟩:=CV hF;rfl
 ·obtain⟨⟨k,q,li,rr,t⟩,⟨c,oa,i,ht,ba⟩,rfl,rfl⟩:=CV hF;simp only at c oa i ht ba
  match vs,hl with
  |[v0,v1,v2],_=>
   have pa:=da 0 _ v0 rfl rfl;obtain⟨u0,u1,u2,u3,u4,rfl⟩:=gD pa;obtain⟨x2,x3,x4,x5,x6,x7,x8,rfl⟩:=aNO (da 1 _ v1 rfl rfl) i;obtain⟨v,rfl,hr⟩:=Tj (da 2 _ v2 rfl rfl);have hT:D7 w.heap.size w t v:=⟨G,hr,n⟩;cases li with
   |false=>
    refine(aM5 w (GU u0) (GU u1) (GU u2) (GU u3) (GU u4) q x2 x3 x4 x5 x6 x7 x8 v ((t.get q).getD []) (t.get q).isSome (λ_=>aQl w G (A_ k q false (Fj t q))) (λwx m=>aMo (hT.below m) m.size q) (λwx m y=>?_)).mono λe w' h=>lY h
    refine(Ss (vs:=[.agg #[GU u0,GU u1,GU u2,GU u3,GU u4],encStr q,encStr ((t.get q).getD []),.bool (t.get q).isSome]) (G:=G) aWn (aQk k q ((t.get q).getD []) (t.get q).isSome c) rfl rfl rfl rfl (λj d u s hu=>?_) (λb h=>n b (Qg m.size h))).mono ?_
    ·match j,s,hu with
     |0,s,hu=>cases s;cases hu;exact FA pa rfl n m (λ_ _=>Qf _)
     |1,s,hu=>cases s;cases hu;exact .str _
     |2,s,hu=>cases s;cases hu;exact .str _
     |3,s,hu=>cases s;cases hu;exact .bool _
    ·rintro e w1 ⟨u,G1,rfl,ia,hz,ho,hR⟩;obtain⟨y0,y1,y2,y3,y4,rfl⟩:=gD hR;refine⟨y0,y1,y2,y3,y4,rfl,ia,G1,hz,λb h=>ho b (Zp h m.size),?_,by rw[aGk];exact hR⟩;rw[ho _ O,n _ O]
   |true=>
    refine(aM4 w (GU u0) (GU u1) (GU u2) (GU u3) (GU u4) q x2 x3 x4 x5 x6 x7 x8 v t (λ_=>aQl w G (A_ k q true (Fj t q))) hT ht.cnt (λwx vs m y ja ma=>?_)).mono λe w' h=>lY h
    have aa:∃Gx:Nat->Nat,(∀b,wx.heap.size<=b->Gx b=0)∧(∀b,b<w.heap.size->Gx b=G b)∧Gx (w.heap.size+3)=0∧Rep wx (Gh.base Gx) (.slice (Bl t q).isEmpty [] (strsD ((Bl t q).map (·.1)))) vs:=by
     rcases ja.2 with ⟨rfl,_⟩|⟨g,cap,cur,rfl,o,a,f⟩
     ·have e:=ma.1 rfl;have e2:Bl t q=[]:=Zk.1 e;rw[e2];exact⟨G,λb h=>n b (Qg m.size h),λ_ _=>rfl,n _ O,.nils _⟩
     ·have x:Bl t q≠[]:=λe=>by
       have:=ma.2 (by rw[e];rfl);cases this
      have z:=(Qq.1 a).1;have e3:(Bl t q).isEmpty=false:=by cases h:Bl t q with|nil=>exact absurd h x|cons=>rfl
      refine⟨λb=>if b=g then((Bl t q).map (·.1)).length else G b,λb h=>?_,λb h=>if_neg O,?_,?_⟩
      ·show(if b=g then _ else _)=0;rw[if_neg O];exact n b (Qg m.size h)
      ·show(if w.heap.size+3=g then _ else _)=0;rw[if_neg O];exact n _ O
      ·rw[e3];exact LW ja (by simp[Gh.base])
    obtain⟨Gx,gz,go,g3,l⟩:=aa;refine(Ss (vs:=[.agg #[GU u0,GU u1,GU u2,GU u3,GU u4],encStr q,vs]) (G:=Gx) aWm (aQj k q (Bl t q).isEmpty ((Bl t q).map (·.1)) oa (by rw[Qu];exact ba) (λh=>by rw[List.isEmpty_iff.1 h];rfl)) rfl rfl rfl rfl (λj d u s hu=>?_) gz).mono ?_
    ·match j,s,hu with
     |0,s,hu=>cases s;cases hu;exact FA pa rfl n m (λb h=>Zt (go b h).symm)
     |1,s,hu=>cases s;cases hu;exact .str _
     |2,s,hu=>cases s;cases hu;exact l
    ·rintro e w1 ⟨u,G1,rfl,ia,hz,ho,hR⟩;obtain⟨y0,y1,y2,y3,y4,rfl⟩:=gD hR;exact⟨y0,y1,y2,y3,y4,rfl,ia,G1,hz,λb h=>(ho b (Zp h m.size)).trans (go b h),(ho _ O).trans g3,by rw[aGi];exact hR⟩
attribute [local go_sem] Oper.semAt_some
open Go.Shelf Go.Sort
def nP{n:Nat}{r:World}{t:Tr}{v:Value}(h:D7 n r t v)(c:n<=r.heap.size):Calls Qj 102 #[.agg #[v]] r λe s=>e= .returned (.int .i64 (t.cnt:Nat))∧Below r.heap.size r s:=by
 have q:=h.one;obtain⟨G,z,i⟩:=h;refine(DV (vs:=[.agg #[v]]) (G:=G) aOh (aDA t) Xi Xi rfl (λj d u p m=>?_) (λb o=>i b O)).mono ?_
 ·match j,p,m with
  |0,p,m=>cases p;cases m;exact P2 z q
 ·rintro e s ⟨u,a,rfl,o,x⟩;exact⟨X1,o⟩
def aMm{n:Nat}{r:World}{t:Tr}{v:Value}(h:D7 n r t v)(c:n<=r.heap.size):Calls Qj 103 #[.agg #[v]] r λe s=>e= .returned (.int .i64 (t.wgt:Nat))∧Below r.heap.size r s:=by
 have q:=h.one;obtain⟨G,z,i⟩:=h;refine(DV (vs:=[.agg #[v]]) (G:=G) aOg (aDz t) Xi Xi rfl (λj d u p m=>?_) (λb o=>i b O)).mono ?_
 ·match j,p,m with
  |0,p,m=>cases p;cases m;exact P2 z q
 ·rintro e s ⟨u,a,rfl,o,x⟩;exact⟨X1,o⟩
def aCN(w:World)(p v q:Obj):(((w.alloc p).alloc v).alloc q).heap.size=w.heap.size+3∧(((w.alloc p).alloc v).alloc q).heap[w.heap.size]?=some p∧(((w.alloc p).alloc v).alloc q).heap[w.heap.size+1]?=some v∧(((w.alloc p).alloc v).alloc q).heap[w.heap.size+1+1]?=some q:=by
 have u:∀(x:World)(o:Obj)(k:Nat),k<x.heap.size->(x.alloc o).heap[k]?=x.heap[k]?:=λx o k h=>Below.heap_alloc _ _ _ h
 have g:∀(x:World)(o:Obj),(x.alloc o).heap.size=x.heap.size+1:=λx o=>World.size_alloc x o
 have c:∀(x:World)(o:Obj),(x.alloc o).heap[x.heap.size]?=some o:=λx o=>World.alloc_heap_new x o
 refine⟨by simp only[g],?_,?_,?_⟩
 ·rw[u _ _ _ Xv,u _ _ _ Xv,c]
 ·rw[u _ _ _ Xv,←g w p,c]
 ·rw[←g w p,←g _ v,c]
def aCG(w:World)(p v q:Obj):Below w.heap.size w (((w.alloc p).alloc v).alloc q):=(((Below.refl _ w).alloc (Qf _) _).alloc U _).alloc Xb _
structure HS (w:World) (a b:Tr) (va vb:Value) (wx:World):Prop where
 bl:Below w.heap.size w wx
 sz:w.heap.size+3<=wx.heap.size
 y0:wx.heap[w.heap.size]?=some (.cells #[va] 36 (0,0))
 y1:wx.heap[w.heap.size+1]?=some (.cells #[vb] 36 (0,0))
 y2:wx.heap[w.heap.size+1+1]?=some (.cells #[.bool false] 4 (0,0))
 ta:D7 w.heap.size wx a va
 tb:D7 w.heap.size wx b vb
def HS.le{w r:World}{a b:Tr}{z i:Value}(h:HS w a b z i r):w.heap.size<=r.heap.size:=by have:=h.sz;omega
def HS.later3{w r p:World}{a b:Tr}{z i:Value}(h:HS w a b z i r)(o:Below (w.heap.size+3) r p):HS w a b z i p:=by
 have:=h.sz;have k:=o.mono (show w.heap.size<=w.heap.size+3 by omega);exact⟨h.bl.trans k,Qg h.sz o.size,(o.block _ O).trans h.y0,(o.block _ O).trans h.y1,(o.block _ O).trans h.y2,h.ta.below k,h.tb.below k⟩
def aOP{α:Type}{w:World}{a b:Tr}{z v:Value}{B:Nat}(d:w.heap.size+3<=B):OwnFrom B (λ(_:List α) W=>HS w a b z v W):=λs A q row g p i=>
 g.later3 ((Below.refl _ A).grown p g.sz (λr e=>by have:=(i r e).1;omega))
def HS.later{w r p:World}{a b:Tr}{z i:Value}(h:HS w a b z i r)(o:Below r.heap.size r p):HS w a b z i p:=by
 have:=h.sz;have k:=o.mono h.le;exact⟨h.bl.trans k,Qg h.sz o.size,(o.block _ O).trans h.y0,(o.block _ O).trans h.y1,(o.block _ O).trans h.y2,h.ta.below k,h.tb.below k⟩
def HS.drew{w r:World}{a b:Tr}{z i:Value}(h:HS w a b z i r):HS w a b z i r.drew:=h.later ⟨rfl,rfl,rfl,Qf _,λ_ _=>rfl⟩
def HS.cells{w r:World}{a b:Tr}{z i:Value}(h:HS w a b z i r):r.cell? ⟨w.heap.size,0,none⟩=some z∧r.cell? ⟨w.heap.size+1,0,none⟩=some i∧r.cell? ⟨w.heap.size+1+1,0,none⟩=some (.bool false)∧r.frozen? ⟨w.heap.size+1+1,0,none⟩=false:=by
 simp[World.cell?,World.frozen?,h.y0,h.y1,h.y2]
def aM7(w:World)(z i:Value)(a b:Tr)(m:D7 w.heap.size w a z)(d:D7 w.heap.size w b i)(j:a.cnt≠b.cnt):
  Calls Qj 47 #[.agg #[z],.agg #[i]] w λe s=>e= .returned (.bool false)∧Below w.heap.size w s:=by
 refine(callsIn_wide (n:=3)).1 ?_;refine callsIn_of_wp_marks func47 rfl trivial ?_ rfl;simp only[ntmps47,QS,Qh,Qo,Qr,Q1,QL,QM,QT,QN,Qm,Ql]
 gi_wp2
 obtain⟨g,y0,y1,y2⟩:=aCN w (Obj.cells #[z] 36) (Obj.cells #[i] 36) (Obj.cells #[.bool false] 4);have u:=aCG w (Obj.cells #[z] 36) (Obj.cells #[i] 36) (Obj.cells #[.bool false] 4);generalize (((w.alloc (Obj.cells #[z] 36)).alloc (Obj.cells #[i] 36)).alloc (Obj.cells #[.bool false] 4))=x at g y0 y1 y2 u ⊢;have H0:HS w a b z i x:=⟨u,O,y0,y1,y2,m.below u,d.below u⟩;clear g y0 y1 y2 u;obtain⟨k0,o,k,q⟩:=H0.cells;have H:=H0.drew;have p:1<=3-1:=V
 have f:Tryz.prog.follows .mixedOrders=true:=Z
 have c:((a.cnt:Int)!=(b.cnt:Int))=true:=by simp only[bne_iff_ne,ne_eq];omega
 refine wpIn_mono (Q:=λy A W=>match y with| .normal=>A={tmps:=Zf (Value.agg #[z]::Value.agg #[i]::Value.pointer (some ⟨w.heap.size,0,none⟩)::Value.pointer (some ⟨w.heap.size+1,0,none⟩)::Value.pointer (some ⟨w.heap.size+1+1,0,none⟩)::undef::undef::undef::undef::Value.agg #[z]::Value.int .i64 (a.cnt:Nat)::Value.agg #[i]::Value.int .i64 (b.cnt:Nat)::Value.bool true::Value.bool true::undef::undef::undef::undef::undef::Value.bool true::undef::undef::undef::undef::undef::undef::undef::undef::undef::undef::undef::undef::undef::undef::undef::undef::undef::[]),defers:=[]}∧HS w a b z i W|_=>False) ?_ ?_
 ·gi_region_with_o (refine⟨trivial,?_⟩;try (gi_at_call 102;(first|refine(callsIn_wide.2 (nP (v:=z) (t:=a) H.ta H.le)).mono ?_ |refine(callsIn_wide.2 (nP (v:=i) (t:=b) H.tb H.le)).mono ?_);rintro e wy ⟨rfl,r⟩;replace H:=H.later r;obtain⟨j0,j1,j2,j3⟩:=H.cells))
  all_goals exact⟨rfl,H⟩
 ·rintro y A W hQ;cases y with
  |normal=>
   obtain⟨rfl,HW⟩:=hQ;have H2:=HW.cells;clear k0 o k q c;obtain⟨k0,o,k,q⟩:=H2
   gi_wp2
   exact⟨.bool false,by simp[results,results47,go_sem,heap_setCell_same _ _ 0 _ _ (Value.bool false) HW.y2,World.cell?],rfl,HW.bl.setCell Xb _⟩
  |_=>exact hQ.elim
def aM6(w:World)(z vb:Value)(t:Tr)(hA:D7 w.heap.size w t z)(hB:D7 w.heap.size w t vb)(ho:Tr.Ord t.lst)(y:t.cnt<=400000):
  Calls Qj 47 #[.agg #[z],.agg #[vb]] w λe s=>e= .returned (.bool true)∧Below w.heap.size w s:=by
 refine(callsIn_wide (n:=3)).1 ?_;refine callsIn_of_wp_marks func47 rfl trivial ?_ rfl;simp only[ntmps47,QS,Qh,Qo,Qr,Q1,QL,QM,QT,QN,Qm,Ql]
 gi_wp2
 obtain⟨zz,y0,y1,y2⟩:=aCN w (Obj.cells #[z] 36) (Obj.cells #[vb] 36) (Obj.cells #[.bool false] 4);have u:=aCG w (Obj.cells #[z] 36) (Obj.cells #[vb] 36) (Obj.cells #[.bool false] 4);generalize (((w.alloc (Obj.cells #[z] 36)).alloc (Obj.cells #[vb] 36)).alloc (Obj.cells #[.bool false] 4))=w3 at zz y0 y1 y2 u ⊢;have H0:HS w t t z vb w3:=⟨u,O,y0,y1,y2,hA.below u,hB.below u⟩;clear zz y0 y1 y2 u;obtain⟨k0,k1,k2,k3⟩:=H0.cells;have H:=H0.drew;have r:1<=3-1:=V
 have f:Tryz.prog.follows .mixedOrders=true:=Z
 refine wpIn_mono (Q:=λex A W=>match ex with| .normal=>A={tmps:=Zf (Value.agg #[z]::Value.agg #[vb]::Value.pointer (some ⟨w.heap.size,0,none⟩)::Value.pointer (some ⟨w.heap.size+1,0,none⟩)::Value.pointer (some ⟨w.heap.size+1+1,0,none⟩)::undef::undef::undef::undef::Value.agg #[z]::Value.int .i64 (t.cnt:Nat)::Value.agg #[vb]::Value.int .i64 (t.cnt:Nat)::Value.bool false::Value.bool false::Value.agg #[z]::Value.int .i64 (t.wgt:Nat)::Value.agg #[vb]::Value.int .i64 (t.wgt:Nat)::Value.bool false::Value.bool false::undef::undef::undef::undef::undef::undef::undef::undef::undef::undef::undef::undef::undef::undef::undef::undef::undef::[]),defers:=[]}∧HS w t t z vb W|_=>False) ?_ ?_
 ·gi_region_with_o (refine⟨trivial,?_⟩;(first
   |(gi_at_call 102;(first|refine(callsIn_wide.2 (nP (v:=z) (t:=t) H.ta H.le)).mono ?_ |refine(callsIn_wide.2 (nP (v:=vb) (t:=t) H.tb H.le)).mono ?_);rintro e wy ⟨rfl,ua⟩;replace H:=H.later ua;obtain⟨j0,j1,j2,j3⟩:=H.cells)
   |(gi_at_call 103;(first|refine(callsIn_wide.2 (aMm (v:=z) (t:=t) H.ta H.le)).mono ?_ |refine(callsIn_wide.2 (aMm (v:=vb) (t:=t) H.tb H.le)).mono ?_);rintro e wy ⟨rfl,ua⟩;replace H:=H.later ua;obtain⟨j0,j1,j2,j3⟩:=H.cells)))
  all_goals exact⟨rfl,H⟩
 ·rintro ex A W hQ;cases ex with
  |normal=>
   obtain⟨rfl,HW⟩:=hQ;have H2:=HW.cells;clear k0 k1 k2 k3 H0 H;obtain⟨k0,k1,k2,k3⟩:=H2
   gi_wp2_with (refine⟨trivial,?_⟩;gi_at_call 21;refine(callsIn_wide.2 (aCC _ z [])).mono ?_;rintro e s ⟨rfl,rfl⟩)
   have i:Below W.heap.size W ((W.alloc (Obj.cells #[z] 36)).alloc (Obj.cells #[encStr []] 9)):=((Below.refl _ W).alloc (Qf _) _).alloc U _;have H0:=HW.later i;have m:((W.alloc (Obj.cells #[z] 36)).alloc (Obj.cells #[encStr []] 9)).heap.size=W.heap.size+2:=U
   have b2:Boxed ((W.alloc (Obj.cells #[z] 36)).alloc (Obj.cells #[encStr []] 9)) W.heap.size 36 z:=(Boxed.new W 36 z).alloc (Obj.cells #[encStr []] 9);have b3:Boxed ((W.alloc (Obj.cells #[z] 36)).alloc (Obj.cells #[encStr []] 9)) (W.heap.size+1) 9 (encStr []):=by
    have:=Boxed.new (W.alloc (Obj.cells #[z] 36)) 9 (encStr [])
    rwa [World.size_alloc]at this
   have ab:=HW.sz;generalize ((W.alloc (Obj.cells #[z] 36)).alloc (Obj.cells #[encStr []] 9))=W0 at i H0 m b2 b3 ⊢;clear k0 k1 k2 k3;refine wpIn_rangeFunc_ownF rfl V (gf:=48) (lb:=#[.pointer (some ⟨W.heap.size,0,none⟩),.pointer (some ⟨W.heap.size+1,0,none⟩)]) rfl trivial (enters_of func48 Z rfl)
    (MK 2 V W.heap.size (W.heap.size+1) w.heap.size t [] z y W0 b2 b3 H0.ta H0.le) eG.trans (aAp O O O) (Below.refl _ _) (λ_=>rfl)
    (λ(j:List (P4 t [])) Wx=>HS w t t z vb Wx∧W.heap.size+2<=Wx.heap.size)
    (λ_ _ _=>False)
    (OwnFrom.and (aOP O) (Own.from (Pa _) _))
    (λ_ _ _ _ _ hs _ _=>hs)
    ⟨H0,O⟩
    (λx=>{tmps:=Zf (Value.agg #[z]::Value.agg #[vb]::Value.pointer (some ⟨w.heap.size,0,none⟩)::Value.pointer (some ⟨w.heap.size+1,0,none⟩)::Value.pointer (some ⟨w.heap.size+1+1,0,none⟩)::encStr x.1.1::encStr x.1.2::undef::undef::Value.agg #[z]::Value.int .i64 (t.cnt:Nat)::Value.agg #[vb]::Value.int .i64 (t.cnt:Nat)::Value.bool false::Value.bool false::Value.agg #[z]::Value.int .i64 (t.wgt:Nat)::Value.agg #[vb]::Value.int .i64 (t.wgt:Nat)::Value.bool false::Value.bool false::Value.agg #[z]::Value.func (Fn.func 48) #[] #[Value.pointer (some ⟨W.heap.size,0,none⟩),Value.pointer (some ⟨W.heap.size+1,0,none⟩)]::encStr x.1.1::encStr x.1.2::undef::undef::undef::undef::undef::undef::undef::undef::undef::undef::undef::undef::undef::[]),defers:=[]}) ?assign ?body ?done ?stop
   case assign=>
    intro l x Wx K hK;clear m
    gi_wp2
    exact hK
   case body=>
    rintro l j ⟨x,q⟩ Wx ⟨HX,b⟩ ea;clear m;obtain⟨k0,k1,k2,k3⟩:=HX.cells;rw[IA]at q;have hg:t.get x.1=some x.2:=by rw[Tr.get_lst _ t ho];exact Tr.getL_mem ho q
    have a:=aMo HX.tb HX.le x.1;rw[hg]at a
    gi_wp2_with (refine⟨trivial,?_⟩;gi_at_call 27;refine(CallsIn.inRound l (callsIn_wide.2 a)).mono ?_;rintro e wy ⟨rfl,ua⟩)
    exact⟨KeepsOthers.of_grownBy (BV ua (Qf _) none ua.size) (λ_ _ e=>Xw),⟨ua.mono HX.le,ua.block _ O,ua.block _ O⟩,HX.later ua,by have:=ua.size;omega⟩
   case done=>
    rintro D ys Wx hD eb ⟨HX,b⟩ hK;have Hz:Aside (W0.heap.size=W.heap.size+2):=m;clear m;obtain⟨k0,k1,k2,k3⟩:=HX.cells
    gi_wp2
    have m:=Hz.out;have k:D≠w.heap.size+1+1:=O
    have hp:=heap_setCell_same _ _ 0 _ _ (Value.bool true) HX.y2;have g:(Wx.setCell ⟨w.heap.size+1+1,0,none⟩ (Value.bool true)).heap[D]?=some (.deferred (some [])):=by rw[Below.heap_setCell _ _ _ _ k];exact hK
    refine⟨U,.inl ⟨_,_,rfl,run_takeDeferred g,?_⟩⟩;have d:=(World.putObj_heap_other (o:= .deferred none) (w:=Wx.setCell ⟨w.heap.size+1+1,0,none⟩ (Value.bool true)) k.symm).trans hp;exact⟨.bool true,by simp[results,results47,go_sem,d,World.cell?],rfl,(HX.bl.setCell (p:=⟨w.heap.size+1+1,0,none⟩) Xb _).trans (belowK_b (w:=w) (Qf _) _ D _ _ O g rfl rfl)⟩
   case stop=>
    rintro D c j W _ _ h _;exact h.elim
  |_=>exact hQ.elim
def M8(p:Tr×Tr):List D:=[.agg [GF p.1],.agg [GF p.2]]
def Pj(x y)(h:M8 x=M8 y):x=y:=by
 obtain⟨a,b⟩:=x;obtain⟨c,d⟩:=y;simp only[M8,Q2,D.agg.injEq,and_true]at h;rw[EW h.1,EW h.2]
def pD:List D->Option D:=FX M8 (λp=>(p.1=p.2∧Tr.Ord p.1.lst∧p.1.cnt<=400000)∨p.1.cnt≠p.2.cnt) λp=> .bool (decide (p.1.cnt=p.2.cnt))
def aIp{t:Tr}(b:Tr.Ord t.lst)(y:t.cnt<=400000):pD [.agg [GF t],.agg [GF t]]=some (.bool true):=by
 have:=BO (mk:=M8) (ok:=λp=>(p.1=p.2∧Tr.Ord p.1.lst∧p.1.cnt<=400000)∨p.1.cnt≠p.2.cnt) (res:=λp=> .bool (decide (p.1.cnt=p.2.cnt))) (a:=(t,t)) Pj (.inl ⟨rfl,b,y⟩);rw[decide_eq_true rfl]at this;exact this
def aIq{a b:Tr}(h:a.cnt≠b.cnt):pD [.agg [GF a],.agg [GF b]]=some (.bool false):=by
 have:=BO (mk:=M8) (ok:=λp=>(p.1=p.2∧Tr.Ord p.1.lst∧p.1.cnt<=400000)∨p.1.cnt≠p.2.cnt) (res:=λp=> .bool (decide (p.1.cnt=p.2.cnt))) (a:=(a,b)) Pj (.inr h);rw[decide_eq_false h]at this;exact this
def aNN:Kq pD 47:=by
 refine FJ ⟨_,func47,Z,Z⟩ λds r q vs w G hl u n=>⟨?_,?_⟩
 ·obtain⟨p,_,_,rfl⟩:=CV q;rfl
 ·obtain⟨⟨a,b⟩,t,rfl,rfl⟩:=CV q
  match vs,hl with
  |[v0,v1],_=>
   obtain⟨z,rfl,d⟩:=Tj (u 0 _ v0 rfl rfl);obtain⟨i,rfl,c⟩:=Tj (u 1 _ v1 rfl rfl);rcases t with ⟨e,ho,y⟩|hne
   ·simp only at e ho y;subst e;refine(aM6 w z i a ⟨G,d,n⟩ ⟨G,c,n⟩ ho y).mono ?_;rintro e s ⟨rfl,o⟩;exact⟨_,G,rfl,o,λb h=>n b (Qg o.size h),λ_ _=>rfl,by simp only[decide_true];exact .bool _⟩
   ·refine(aM7 w z i a b ⟨G,d,n⟩ ⟨G,c,n⟩ hne).mono ?_;rintro e s ⟨rfl,o⟩;exact⟨_,G,rfl,o,λb h=>n b (Qg o.size h),λ_ _=>rfl,by simp only[decide_eq_false hne];exact .bool _⟩
def aU6:=Ap []
def aDw:=RF aU6 aBM [.t 2,.t 3] 26
def aOe:Kq aDw 160:=An (Aj func160) Ad
def aDv(p:Bs)(y:p.length<=1000000):aDw [.str p]=some (.tup [.str ((Tr.beyB p).getD []),.bool (Tr.beyB p).isSome]):=by
 refine Am (Qa rfl) ?_;unfold aBM;have b:IntKind.i64.wrap ((p.length:Int)-1)=(p.length:Int)-1:=GS O O;simp only[Gv,↓C2,Gp,simprocAttr,b];refine Wo y p.length _ _ (Qf _) rfl rfl (λe x q z i=>?_) (λq x=>?_)
 ·rw[QV]at q;rw[q];simp only[Gv,↓C2,Gp,simprocAttr,z,i]
  all_goals exact YT
 ·rw[QV]at q;rw[q];simp only[Gv,↓C2,Gp,simprocAttr]
  all_goals exact YT
def S2:=Ap [(157,Ac oT),(160,Ac aDw),(159,Ac oQ)]
def aDG:=RF S2 aBU [.cell (some 1) 4] 37
def aOk:Kq aDG 90:=An (Aj func90) (Aa aAw (Aa aOe (Aa aAu Ad)))
def aDF(t:Tr)(p:Bs)(h:Vg t)(y:p.length<=1000000):aDG [.agg [GF t],.str p]=some (.agg [GF (Tr.dropT p t)]):=by
 refine Am (Qa rfl) ?_;unfold aBU;have m:=Rf t p h;have i:=aDv p y;have g:=Tr.cnt_split p t;have k:=Tr.wgt_split p t;obtain⟨u,z⟩:=h;unfold Tr.dropT;cases hb:Tr.beyB p with
 |none=>
  rw[hb]at i;simp only[Zd,Q8]at i;simp only[Gv,↓C2,Gp,simprocAttr,GH,Ae S2 157,m,Ae S2 160,i]
  all_goals exact YT
 |some e=>
  rw[hb]at i;simp only[QO,Qe]at i;have w:=Rf (Tr.split p t).2 e ⟨O,O⟩;have o:=Tr.cnt_split e (Tr.split p t).2;have c:=Tr.wgt_split e (Tr.split p t).2;have f:=dH (Tr.split p t).1 (Tr.split e (Tr.split p t).2).2 O O;simp only[Gv,↓C2,Gp,simprocAttr,GH,Ae S2 157,m,Ae S2 160,i,w,Ae S2 159,f]
  all_goals exact YT
def S3:=Ap [(27,Ac aD6),(157,Ac oT),(158,Ac oS),(159,Ac oQ)]
def aDI:=RF S3 aBV [.cell (some 1) 4] 38
def aOl:Kq aDI 89:=An (Aj func89) (Aa aAB (Aa aAw (Aa aAv (Aa aAu Ad))))
def aDH(t:Tr)(q:Bs)(h:Vg t)(s:Tr.Ord t.lst):aDI [.agg [GF t],.str q]=some (.agg [GF (Tr.delT q t)]):=by
 refine Am (Qa rfl) ?_;unfold aBV;have p:=dQ t q;have m:=Rf t q h;have g:=Tr.cnt_split q t;have k:=Tr.wgt_split q t;obtain⟨u,z⟩:=h;unfold Tr.delT;cases hg:t.get q with
 |none=>
  rw[hg]at p;simp only[Zd,Q8]at p;simp only[Gv,↓C2,Gp,simprocAttr,GH,Ae S3 27,p]
  all_goals exact YT
 |some v=>
  rw[hg]at p;simp only[QO,Qe]at p;have j:(Tr.split q t).2≠ .nil:=λe=>by
   have i:=(Tr.lst_split q t s).2;rw[e,Tr.get_lst q t s]at *;rw[Tr.fil_ge s (Tr.getL_some hg)]at i;cases i
  simp only;cases hz:(Tr.split q t).2 with
  |nil=>exact absurd hz j
  |node a x y b=>
   rw[hz]at m g k;simp only[Tr.cnt,Tr.wgt]at g k;have w:=dI a x y b ⟨Xg,Xf⟩;have o:=Tr.cnt_first a x y b;have c:=Tr.wgt_first a x y b;have f:=dH (Tr.split q t).1 (Tr.first a x y b).2.2 O O;simp only[Gv,↓C2,Gp,simprocAttr,GH,Ae S3 27,p,Ae S3 157,m,Ae S3 158,w,Ae S3 159,f]
   all_goals exact YT
def wY{a b:List (Bs×Bs)}(h:a.Sublist b):Tr.sizeL a<=Tr.sizeL b:=by
 induction h with
 |slnil=>exact Qf _
 |cons x _ ih=>obtain⟨k,v⟩:=x;rw[Tr.size_cons];omega
 |cons_cons x _ ih=>obtain⟨k,v⟩:=x;rw[Tr.size_cons,Tr.size_cons];omega
def V5(x:Op1){t:Tr}(h:Tr.Ord t.lst):(V6 x t).cnt<=1+t.cnt∧(V6 x t).wgt<=4+x.2.1.length+x.2.2.length+t.wgt:=by
 have m:∀u:Tr,u.lst.Sublist t.lst->u.cnt<=t.cnt∧u.wgt<=t.wgt:=λu g=>by
  rw[←Tr.cnt_lst,←Tr.cnt_lst,Tr.wgt_lst,Tr.wgt_lst t];exact⟨g.length_le,wY g⟩
 unfold V6;split
 ·have:=Mu x.2.1 x.2.2 t;omega
 split
 ·have:=m (Tr.delT x.2.1 t) (by rw[Tr.lst_del _ t h];exact Zj);omega
 split
 ·have:=m (Tr.dropT x.2.1 t) (by rw[Tr.lst_drop _ t h];exact Tr.drop_sub _ h);omega
 ·omega
def dC:=Ap [(83,Ac oV),(89,Ac aDI),(90,Ac aDG)]
def aDZ:=RF dC aB8 [.cell (some 1) 4] 37
def aOz:Kq aDZ 39:=An (Aj func39) (Aa aAy (Aa aOl (Aa aOk Ad)))
def Wv{l:List Op1}{nl:Bool}{Q:Ex->St->Prop}(hk:∀x∈l,x.2.1.length<=100∧x.2.2.length<=400){R:Tr}(hQ:∀p,p.m [0] 0=some (GF R)->p.m [1] 0=some .nilptr->p.s 2= .ptr [0] 0->p.s 4= .ptr [1] 0->Q (.exit 0) p):
  ∀(f j:Nat)(t:Tr)(y:St) g,l.length=j+f->l.length<=100000->Tr.Ord t.lst->t.cnt+f<=700000->t.wgt+600*f<=700000000000->FG (l.drop j) t=R->2<=y.c->y.s 2= .ptr [0] 0->y.s 4= .ptr [1] 0->y.s 7= .slice nl [] (DU l)->y.s 8= .int .i64 (l.length:Int)->y.s 9= .int .i64 (j:Int)->
   y.m [0] 0=some (GF t)->y.m [1] 0=some .nilptr->A5 dC [] Mn Q y g
 |0,j,t,y,g,hf,hl,ho,hc,hw,hR,h2c,h2,h4,h7,h8,h9,m0,m1=>by
  refine Af Mn.eq_1 ?_;have d1:((j:Int)<l.length)=False:=eq_false O;rw[Q0 O]at hR;simp only[FG]at hR;subst hR;simp only[Gv,↓C2,Gp,simprocAttr,h8,h9,d1];exact hQ _ m0 m1 h2 h4
 |f+1,j,t,y,g,hf,hl,ho,hc,hw,hR,h2c,h2,h4,h7,h8,h9,m0,m1=>by
  have ih:=Wv (nl:=nl) hk hQ f (j+1);have hj:j<l.length:=O
  have n:(DU l)[j]?=some (opD l[j]):=by unfold DU;rw[QE,Qd hj];rfl
  have qa:=hk l[j] (Qx hj);rw[QC hj]at hR;simp only[FG]at hR;have w:=V5 l[j] ho;have a:=(IL l[j] ho).1;generalize l[j]=x at *;refine Af Mn.eq_1 ?_;obtain⟨ka,fa,da⟩:=y;simp only at h2 h4 h7 h8 h9 m0 m1 h2c;have d1:((j:Int)<l.length)=True:=eq_true O;have oa:=nJ (j:=j);have z:IntKind.i64.wrap ((j:Int)+1)=((j+1:Nat):Int):=GS O O;have z3:∀{m:Gu} {i:Id} {x0 x1 x2:D},Ag (m.put i 0 [x0,x1,x2]) i 0 3=some [x0,x1,x2]:=As rfl;obtain⟨k,q,v⟩:=x;unfold opD at n;simp only at qa w a hR n;unfold V6 at w a hR;simp only at w a hR;have u:∀{m:Gu} {q o i:Nat} {x:List D},q<2->2<=i->m.put [i] 0 x [q] o=m [q] o:=λhq hi=>aA Xb
  have b:∀{i:Nat},2<=i->(([0]:Id)=[i])=False:=λhi=>Xb
  have d:∀{i:Nat},2<=i->(([1]:Id)=[i])=False:=λhi=>Xb
  have s1:∀{m:Gu} {x:D},Ag (m.put [0] 0 [x]) [0] 0 1=some [x]:=As rfl;have s2:∀{m:Gu} {x:D},Ag (m.put [0] 0 [x]) [1] 0 1=Ag m [1] 0 1:=AE V;have e:∀{m:Gu} {x:List D},m.put [0] 0 x [1] 0=m [1] 0:=aA V;have r:Vg t:=⟨O,O⟩;by_cases c1:k=1
  ·subst c1;simp only[reduceIte]at w a hR;have i1:=MG t q v O O;simp (disch:=first|assumption|omega)only[Gv,↓C2,Gp,simprocAttr,GH,h2,h4,h7,h8,h9,d1,oa,Qc,n,z3,u,m0,m1,Ae dC 83,i1,z,b,d];refine ih _ _ _ O hl a O O hR Xa h2 h4 h7 h8 rfl rfl ?_;simp (disch:=omega)only[e,u,m1]
  rw[if_neg c1]at w a hR;have n1:(k=1)=False:=eq_false c1;by_cases c2:k=2
  ·subst c2;simp only[reduceIte]at w a hR;have i1:=aDH t q r ho;simp (disch:=first|assumption|omega)only[Gv,↓C2,Gp,simprocAttr,GH,h2,h4,h7,h8,h9,d1,oa,Qc,n,z3,u,m0,m1,Ae dC 89,i1,z,b,d];refine ih _ _ _ O hl a O O hR Xa h2 h4 h7 h8 rfl rfl ?_;simp (disch:=omega)only[e,u,m1]
  rw[if_neg c2]at w a hR;have n2:(k=2)=False:=eq_false c2;by_cases c3:k=3
  ·subst c3;simp only[reduceIte]at w a hR;have i1:=aDF t q r O;simp (disch:=first|assumption|omega)only[Gv,↓C2,Gp,simprocAttr,GH,h2,h4,h7,h8,h9,d1,oa,Qc,n,z3,u,m0,m1,Ae dC 90,i1,z,b,d];refine ih _ _ _ O hl a O O hR Xa h2 h4 h7 h8 rfl rfl ?_;simp (disch:=omega)only[e,u,m1]
  rw[if_neg c3]at w a hR;have n3:(k=3)=False:=eq_false c3;simp (disch:=first|assumption|omega)only[Gv,↓C2,Gp,simprocAttr,GH,h2,h4,h7,h8,h9,d1,oa,Qc,n,z3,u,m0,m1,n1,n2,n3,z,b,d];refine ih _ _ _ O hl a O O hR Xa h2 h4 h7 h8 rfl ?_ ?_
  ·simp (disch:=omega)only[u,m0]
  ·simp (disch:=omega)only[u,m1]
def aDY(t:Tr)(nl:Bool)(l:List Op1)(hl:l.length<=100000)(g:∀x∈l,x.2.1.length<=100∧x.2.2.length<=400)(b:Tr.Ord t.lst)(y:t.cnt+l.length<=700000)(z:t.wgt+600*l.length<=700000000000):aDZ [.agg [GF t],.slice nl [] (DU l)]=some (.agg [GF (FG l t)]):=by
 refine Am (Qa rfl) ?_;unfold aB8;have v:(DU l).length=l.length:=Qu ..;simp only[Gv,↓C2,Gp,simprocAttr,GH,v];refine Wv (nl:=nl) g (R:=FG l t) (λp a1 s r i=>?_) l.length 0 t _ _ O hl b y z rfl (by show 2<=5;decide) rfl rfl rfl rfl rfl rfl rfl;simp only[Gv,↓C2,Gp,simprocAttr,GH,a1,s,r,i]
 all_goals exact YT
def Mh:=y3 f96 5 [] []
def aBT:=y2 f96 [] [(5,Mh)]
def PP:=y3 f98 3 [] []
def aBS:=y2 f98 [] [(3,PP)]
def Mf:=y3 f167 6 [] []
def Me:=y3 f167 4 [] [(6,Mf)]
def aBL:=y2 f167 [] [(4,Me)]
def Mm:=y3 f43 2 [] []
def aB7:=y2 f43 [] [(2,Mm)]
def PO:=y3 f100 5 [] []
def aBR:=y2 f100 [] [(5,PO)]
def aB6:=y2 f45 [(17,[(7,0)]),(20,[(7,0)]),(27,[(6,0)]),(38,[(8,0)]),(39,[(3,0)])] []
def Mq:=y3 f15 11 [] []
def aCg:=y2 f15 [] [(11,Mq)]
def Cq(c:UInt8):Int:=if 48<=c.toNat∧c.toNat<=57 then(c.toNat:Int)-48 else if 97<=c.toNat∧c.toNat<=102 then(c.toNat:Int)-87 else-1
def dE(c:UInt8):aHp [.int .u8 (c.toNat:Int)]=some (.int .i64 (Cq c)):=by
 refine Am (Qa rfl) ?_;have y:=c.toNat_lt;unfold aBw Cq;by_cases u:48<=c.toNat∧c.toNat<=57
 ·have a1:((48:Int)<=(c.toNat:Int))=True:=eq_true O;have s:((c.toNat:Int)<=57)=True:=eq_true O;have w:IntKind.u8.wrap ((c.toNat:Int)-48)=(c.toNat:Int)-48:=w8 O O;have f:IntKind.i64.wrap ((c.toNat:Int)-48)=(c.toNat:Int)-48:=GS O O;rw[if_pos u];simp only[Gv,↓C2,Gp,simprocAttr,a1,s,w,f]
  all_goals exact YT
 rw[if_neg u];by_cases z:97<=c.toNat∧c.toNat<=102
 ·have a1:((48:Int)<=(c.toNat:Int))=True:=eq_true O;have s:((c.toNat:Int)<=57)=False:=eq_false O;have r:((97:Int)<=(c.toNat:Int))=True:=eq_true O;have p:((c.toNat:Int)<=102)=True:=eq_true O;have w:IntKind.u8.wrap ((c.toNat:Int)-97)=(c.toNat:Int)-97:=w8 O O;have f:IntKind.i64.wrap ((c.toNat:Int)-97)=(c.toNat:Int)-97:=GS O O;have n:IntKind.i64.wrap ((c.toNat:Int)-97+10)=(c.toNat:Int)-87:=by rw[GS O O];omega
  rw[if_pos z];simp only[Gv,↓C2,Gp,simprocAttr,a1,s,r,p,w,f,n]
  all_goals exact YT
 rw[if_neg z];by_cases i:48<=c.toNat
 ·have a1:((48:Int)<=(c.toNat:Int))=True:=eq_true O;have s:((c.toNat:Int)<=57)=False:=eq_false O;by_cases q:97<=c.toNat
  ·have r:((97:Int)<=(c.toNat:Int))=True:=eq_true O;have p:((c.toNat:Int)<=102)=False:=eq_false O;simp only[Gv,↓C2,Gp,simprocAttr,a1,s,r,p]
   all_goals exact YT
  ·have r:((97:Int)<=(c.toNat:Int))=False:=eq_false O;simp only[Gv,↓C2,Gp,simprocAttr,a1,s,r]
   all_goals exact YT
 ·have a1:((48:Int)<=(c.toNat:Int))=False:=eq_false O;have r:((97:Int)<=(c.toNat:Int))=False:=eq_false O;simp only[Gv,↓C2,Gp,simprocAttr,a1,r]
  all_goals exact YT
def aBp(c:UInt8):-1<=Cq c∧Cq c<=15:=by
 unfold Cq
 repeat' split
 all_goals omega
def Ey:Bs->Option Bs
 |[]=>some []
 |[_]=>none
 |a::b::r=>if Cq a<0∨Cq b<0 then none else(Ey r).map λx=>UInt8.ofNat (16*Cq a+Cq b).toNat::x
def Vs(a b:UInt8)(r:Bs):Ey (a::b::r)=if Cq a<0∨Cq b<0 then none else(Ey r).map λx=>UInt8.ofNat (16*Cq a+Cq b).toNat::x:=by rw[Ey]
def kO:∀(n:Nat)(s:Bs),s.length=2*n+1->Ey s=none
 |0,s,h=>by
  match s,h with
  |[_],_=>rfl
 |n+1,s,h=>by
  match s,h with
  |a::b::r,h=>
   have:=kO n r Yz;unfold Ey;rw[this];split<;>rfl
def aDi(s:Bs)(hl:s.length<=1000000):aDj [.str s]=some (.tup [.str ((Ey s).getD []),.bool (Ey s).isSome]):=by
 refine Am (Qa rfl) ?_;unfold aBy;rcases(by omega:s.length=2*(s.length / 2)∨s.length=2*(s.length / 2)+1)with he|he
 ·have k:((s.length:Int).tmod 2)=0:=by rw[Q9 O];omega
  have hq:IntKind.i64.wrap ((s.length:Int).tdiv 2)=((s.length / 2:Nat):Int):=by rw[Int.tdiv_eq_ediv_of_nonneg O,GS O O];omega
  generalize o:s.length / 2=n at *;simp only[↓C2,Gt,Gp,reduceIte,Qs,Qr,reduceCtorEq,Int.reduceNe,Zq,k,hq];refine aB ⟨O,O⟩ ?_;simp only[↓C2,Gy,Gp,reduceIte,Qs,Qr];refine Bf (n:=n) (I:=λj y=>y.s 0= .str s∧y.s 5= .int .i64 ((2*j:Nat):Int)∧∃t w,y.s 4= .slice false t (Ax w)∧w.length=j∧Ey s=(Ey (s.drop (2*j))).map (w++·)∧LG 9 _ 5 y.m y.c false t) (λj hj ih y g hI=>?_) (λy g hI=>?_) 0 (Qp _) _ _ ⟨rfl,rfl,_,[],rfl,rfl,by cases h:Ey s<;>simp[h],⟨λ_ _ _=>rfl,.inr ⟨_,rfl,O,Xa,XP⟩,Xa⟩⟩
  ·obtain⟨ka,fa,da⟩:=y;obtain⟨i,h5,t,w,h4,ra,hu,hG⟩:=hI;simp only at i h5 h4 hG;refine Af Mc.eq_1 ?_;have r:(((2*j:Nat):Int)<(s.length:Int)):=by omega
   have oa:(0:Int)<=((2*j:Nat):Int):=O
   have ta:(0:Int)<=((2*j+1:Nat):Int):=O
   have z:IntKind.i64.wrap (((2*j:Nat):Int)+1)=((2*j+1:Nat):Int):=GS O O;have d:IntKind.i64.wrap (((2*j:Nat):Int)+2)=((2*(j+1):Nat):Int):=X4
   have b1:s[2*j]?=some (s[2*j]' O):=Qd _;have b2:s[2*j+1]?=some (s[2*j+1]' O):=Qd _;have p:s.drop (2*j)=s[2*j]' O::s[2*j+1]' O::s.drop (2*(j+1)):=by
    rw[QC O,QC O];rfl
   rw[p]at hu;generalize (s[2*j]' O)=a at *;generalize (s[2*j+1]' O)=b at *;have u:=dE a;have v:=dE b;have k1:=aBp a;have k2:=aBp b;have x:∀a:Int,AM .shl (.int .i64 a) (.int .u64 4)=some (.int .i64 (IntKind.i64.wrap (a*2 ^ min (4:Int).toNat IntKind.i64.bits))):=λa=>rfl
   rw[Vs]at hu;simp only[↓C2,Gt,reduceIte,Qs,Qr,reduceCtorEq,i,h5,r,oa,ta,z,Qc,b1,b2,Ae aPx 165,u,v];refine AS ?_;by_cases n1:Cq a<0
   ·rw[if_pos (.inl n1)]at hu;rw[hu];have l:(Cq a<0)=True:=eq_true n1;simp only[↓C2,Gt,Gp,reduceIte,Qs,Qr,reduceCtorEq,h4,l]
    all_goals exact YT
   by_cases n2:Cq b<0
   ·rw[if_pos (.inr n2)]at hu;rw[hu];have l:(Cq a<0)=False:=eq_false n1;have e:(Cq b<0)=True:=eq_true n2;simp only[↓C2,Gt,Gp,reduceIte,Qs,Qr,reduceCtorEq,h4,l,e]
    all_goals exact YT
   rw[if_neg (λh=>h.elim n1 n2)]at hu;have l:(Cq a<0)=False:=eq_false n1;have e:(Cq b<0)=False:=eq_false n2;have or:=orE (Cq a).toNat O (Cq b).toNat O;rw[QD O,QD O]at or;have f:((16*(Cq a).toNat+(Cq b).toNat:Nat):Int)=16*Cq a+Cq b:=O
   rw[f]at or;have q:((UInt8.ofNat (16*Cq a+Cq b).toNat).toNat:Int)=16*Cq a+Cq b:=by
    rw[UInt8.toNat_ofNat'];omega
   have ia:Ax w++[.int .u8 (16*Cq a+Cq b)]=Ax (w++[UInt8.ofNat (16*Cq a+Cq b).toNat]):=by
    rw[DL];show _=Ax w++[.int .u8 ((UInt8.ofNat (16*Cq a+Cq b).toNat).toNat:Int)];rw[q]
   have ma:(Ax w).length=j:=by rw[BL,ra]
   simp only[↓C2,Gt,Gp,reduceIte,Qs,Qr,reduceCtorEq,h4,l,e,x,or];refine aB ⟨by simp only[ma];omega,rfl,YQ⟩ ?_;rw[ia];simp only[↓C2,Gt,Gp,reduceIte,Qs,Qr,h5,d];refine ih _ _ ⟨i,rfl,_,_,rfl,by simp[ra],?_,(by first|exact LG.nil (hG.appf O Xa)|exact LG.nil ((hG.put O).appf O Xa)|exact LG.nil (((hG.put O).put O).appf O Xa)|exact LG.nil ((((hG.put O).put O).put O).appf O Xa)|exact LG.nil (((((hG.put O).put O).put O).put O).appf O Xa)|exact LG.nil ((((((hG.put O).put O).put O).put O).put O).appf O Xa))⟩;rw[hu];cases Ey (s.drop (2*(j+1)))<;>simp
  ·obtain⟨i,h5,t,w,h4,ra,hu,hG⟩:=hI;refine Af Mc.eq_1 ?_;have pa:(((2*n:Nat):Int)<(s.length:Int))=False:=eq_false O;rw[Q0 O]at hu;rw[hu];simp only[Q5,↓C2,Gt,Gp,reduceIte,Qs,Qr,reduceCtorEq,i,h5,h4,pa,Cd]
   all_goals (first|rfl|exact⟨rfl,rfl⟩|(simp[Ey];done))
 ·have k:((s.length:Int).tmod 2)=1:=by rw[Q9 O];omega
  rw[kO _ s he];simp only[Gv,↓C2,Gp,simprocAttr,k]
  all_goals exact YT
def Uo(s:Bs)(p:Nat):(GP s p<128∧Utf8.decode ⟨s.toArray⟩ p=(GP s p,1))∨(128<=GP s p∧128<=(Utf8.decode ⟨s.toArray⟩ p).1):=by
 by_cases h:GP s p<128
 ·refine .inl ⟨h,?_⟩;unfold Utf8.decode;simp only[Nc,ZH,h,if_true]
 ·refine .inr ⟨O,?_⟩;have r:=P_ s p;unfold Utf8.decode;simp only[Nc,ZH,h,if_false]
  (repeat' split)<;>simp_all [Utf8.runeError]<;>omega
def nuS(s:Bs):Nat->Nat->Int->Int
 |0,_,n=>n
 |f+1,p,n=>if p<s.length then(if 48<=GP s p∧GP s p<=57 then nuS s f (p+1) (10*n+((GP s p:Int)-48))else-1)else n
def eB(s:Bs):Int:=if s=[]∨3<s.length∨(1<s.length∧s.head?=some 48)then-1 else nuS s s.length 0 0
def bN(p:Nat):Int:=if p=0 then 0 else if p=1 then 9 else if p=2 then 99 else 999
def aUz(p:Nat):bN p<=999:=by unfold bN;repeat' split<;>omega
def aG0{p:Nat}{n c:Int}(h:n<=bN p)(t:p<3)(y:c<=9):10*n+c<=bN (p+1):=by
 rcases(by omega:p=0∨p=1∨p=2)with rfl|rfl|rfl<;>simp[bN]at *<;>omega
def aQJ{x:Int}(u:-2147483648<=x)(z:x<2147483648):IntKind.i32.wrap x=x:=IntWalk.i32_in _ ⟨u,O⟩
def Wq{S:Gq}{ns i:Id}{s:Bs}{Q:Ex->St->Prop}{e:Int}(w:s.length<=3)(x:∀y,e=-1->y.s 2= .int .i64 (-1)->Q .ret y)(j:∀y,y.s 3= .int .i64 e->Q (.exit 0) y):
  ∀(f p:Nat)(n:Int) y g,s.length<=p+f->0<=n->n<=bN p->nuS s f p n=e->y.s 24= .itp i->y.s 3= .int .i64 n->y.m i 1=some (.it s p)->A5 S ns Mh Q y g:=by
 intro f;induction f with
 |zero=>
  intro p n y g b z ta d q v k;refine Af Mh.eq_1 ?_;have:¬(p<s.length):=O
  simp only[↓C2,Gy,GI,simprocAttr,k,q,this];exact j _ (by rw[←d];exact v)
 |succ f ih=>
  intro p n y g b z ta d q v k;refine Af Mh.eq_1 ?_;unfold nuS at d;have o:=aUz p;by_cases r:p<s.length
  ·rw[if_pos r]at d;rcases Uo s p with ⟨d1,d2⟩|⟨d1,d2⟩
   ·have t:y.m.put i 1 [.it s (p+(Utf8.decode ⟨s.toArray⟩ p).2)] i 1=some (.it s (p+1)):=by rw[DO,if_pos ⟨rfl,rfl⟩,d2]
    by_cases c:48<=GP s p∧GP s p<=57
    ·rw[if_pos c]at d;have a1:((GP s p:Int)<48)=False:=eq_false O;have a2:((57:Int)<(GP s p:Int))=False:=eq_false O;have u:IntKind.i64.wrap (10*n)=10*n:=GS O O;have a:IntKind.i32.wrap ((GP s p:Int)-48)=(GP s p:Int)-48:=aQJ O O;have e3:IntKind.i64.wrap ((GP s p:Int)-48)=(GP s p:Int)-48:=GS O O;have e4:IntKind.i64.wrap (10*n+((GP s p:Int)-48))=10*n+((GP s p:Int)-48):=GS O O;simp only[↓C2,Gy,GI,simprocAttr,k,q,v,r,d2,a1,a2,u,a,e3,e4];exact ih (p+1) _ _ _ O O (aG0 ta O O) d q rfl t
    ·rw[if_neg c]at d;by_cases c1:GP s p<48
     ·have a1:((GP s p:Int)<48)=True:=eq_true O;simp only[↓C2,Gy,GI,simprocAttr,k,q,v,r,d2,a1];exact x _ d.symm rfl
     ·have a1:((GP s p:Int)<48)=False:=eq_false O;have a2:((57:Int)<(GP s p:Int))=True:=eq_true O;simp only[↓C2,Gy,GI,simprocAttr,k,q,v,r,d2,a1,a2];exact x _ d.symm rfl
   ·rw[if_neg O]at d;have a1:(((Utf8.decode ⟨s.toArray⟩ p).1:Int)<48)=False:=eq_false O;have a2:((57:Int)<((Utf8.decode ⟨s.toArray⟩ p).1:Int))=True:=eq_true O;simp only[↓C2,Gy,GI,simprocAttr,k,q,v,r,a1,a2];exact x _ d.symm rfl
  ·rw[if_neg r]at d;simp only[↓C2,Gy,GI,simprocAttr,k,q,r];exact j _ (by rw[←d];exact v)
def aU8:=Ap []
def oU:=RF aU8 aBT [.t 2] 41
def aAx:Kq oU 96:=An (Aj func96) Ad
def dJ(s:Bs):oU [.str s]=some (.int .i64 (eB s)):=by
 refine Am (Qa rfl) ?_;unfold aBT;unfold eB;by_cases f:s=[]
 ·subst f;rw[if_pos (.inl rfl)];simp only[Gv,↓C2,Gp,simprocAttr]
  all_goals exact YT
 have x:(s=[])=False:=eq_false f;by_cases i:3<s.length
 ·rw[if_pos (.inr (.inl i))];have c1:((3:Int)<(s.length:Int))=True:=eq_true O;simp only[Gv,↓C2,Gp,simprocAttr,x,c1]
  all_goals exact YT
 have c1:((3:Int)<(s.length:Int))=False:=eq_false O;have q:s[0]?=s.head?:=by cases s<;>rfl
 by_cases u:1<s.length
 ·have m:((1:Int)<(s.length:Int))=True:=eq_true O;obtain⟨c,r,rfl⟩:∃c r,s=c::r:=by cases s with|nil=>exact absurd rfl f|cons c r=>exact⟨c,r,rfl⟩
  by_cases z:c=48
  ·rw[if_pos (.inr (.inr ⟨u,by rw[z];rfl⟩))];have t:((c.toNat:Int)=48)=True:=eq_true (by rw[z];rfl);simp only[Gv,↓C2,Gp,simprocAttr,x,c1,m,Qb,t]
   all_goals exact YT
  ·rw[if_neg (by rintro(h|h|⟨_,h⟩);exact f h;exact i h;exact z (ZJ h))];have t:((c.toNat:Int)=48)=False:=eq_false (λe=>z (UInt8.toNat_inj.1 (by show c.toNat=48;omega)));simp only[Gv,↓C2,Gp,simprocAttr,x,c1,m,Qb,t];refine Wq (s:=c::r) O (λy d h=>?_) (λy h=>?_) (c::r).length 0 0 _ _ O (Zh _) V rfl rfl rfl rfl
   ·rw[d];simp only[Gv,↓C2,Gp,simprocAttr,h]
    all_goals exact YT
   ·simp only[Gv,↓C2,Gp,simprocAttr,h]
    all_goals exact YT
 ·have m:((1:Int)<(s.length:Int))=False:=eq_false O;rw[if_neg (by rintro(h|h|⟨h,_⟩);exact f h;exact i h;exact u h)];simp only[Gv,↓C2,Gp,simprocAttr,x,c1,m];refine Wq (s:=s) O (λy d h=>?_) (λy h=>?_) s.length 0 0 _ _ O (Zh _) V rfl rfl rfl rfl
  ·rw[d];simp only[Gv,↓C2,Gp,simprocAttr,h]
   all_goals exact YT
  ·simp only[Gv,↓C2,Gp,simprocAttr,h]
   all_goals exact YT
def opS(w:Bs):Nat->Nat->Int
 |0,_=>0
 |f+1,k=>if Eh (k:Int)=w then(k:Int)else opS w f (k+1)
def opF(w:Bs):Int:=opS w 18 1
def yW(w:Bs):∀(f k:Nat),1<=k->0<=opS w f k∧opS w f k<=max 0 ((k:Int)+f-1)
 |0,k,h=>by unfold opS;omega
 |f+1,k,h=>by
  have:=yW w f (k+1) O;unfold opS;split<;>omega
def aJc(w:Bs):0<=opF w∧opF w<=18:=by
 have:=yW w 18 1 (Qf _);unfold opF;omega
def nW:=Ap [(44,Ac uU)]
def aDX:=RF nW aB7 [.t 2] 14
def aOy:Kq aDX 43:=An (Aj func43) (Aa lR Ad)
def Wu{w:Bs}{Q:Ex->St->Prop}{e:Int}(o:∀y,y.s 2= .int .u8 e->Q .ret y)(j:∀y,e=0->Q (.exit 0) y):∀(f k:Nat)(y:St) g,k+f=19->opS w f k=e->y.s 0= .str w->y.s 3= .int .u8 (k:Int)->A5 nW [] Mm Q y g
 |0,k,y,g,hf,he,h0,h3=>by
  refine Af Mm.eq_1 ?_;have d:((k:Int)<=18)=False:=eq_false O;simp only[Gv,↓C2,Gp,simprocAttr,h0,h3,d];exact j _ he.symm
 |f+1,k,y,g,hf,he,h0,h3=>by
  have ih:=Wu (w:=w) o j f (k+1);refine Af Mm.eq_1 ?_;obtain⟨a,p,u⟩:=y;simp only at h0 h3;have d:((k:Int)<=18)=True:=eq_true O;have n:=OP (op:=(k:Int)) O O;have e1:IntKind.u8.wrap ((k:Int)+1)=((k+1:Nat):Int):=Ye
  unfold opS at he;by_cases c:Eh (k:Int)=w
  ·rw[if_pos c]at he;have c':(Eh (k:Int)=w)=True:=eq_true c;simp only[Gv,↓C2,Gp,simprocAttr,h0,h3,d,Ae nW 44,n,c'];exact o _ (by rw[←he];rfl)
  ·rw[if_neg c]at he;have c':(Eh (k:Int)=w)=False:=eq_false c;simp only[Gv,↓C2,Gp,simprocAttr,h0,h3,d,Ae nW 44,n,c',e1];exact ih _ _ O he h0 rfl
def aDW(w:Bs):aDX [.str w]=some (.int .u8 (opF w)):=by
 refine Am (Qa rfl) ?_;unfold aB7;simp only[Gv,↓C2,Gp,simprocAttr];refine Wu (w:=w) (e:=opF w) (λy h=>?_) (λy h=>?_) 18 1 _ _ rfl rfl rfl rfl
 ·simp only[Gv,↓C2,Gp,simprocAttr,h]
  all_goals exact YT
 ·rw[h];simp only[Gv,↓C2,Gp,simprocAttr]
  all_goals exact YT
def aDf:=Ap [(42,Ac CM),(96,Ac oU)]
def aDE:=RF aDf aBS [.t 2] 20
def aOj:Kq aDE 98:=An (Aj func98) (Aa qQ (Aa aAx Ad))
def aDD(s:Bs)(hl:s.length<=1000):aDE [.str s]=some (.slice false [] (AF ((splitC 44 s).map eB))):=by
 refine Am (Qa rfl) ?_;unfold aBS;have sa:=FZ (s:=s) (q:=44) O;have xa:=Cs (q:=44) s;have x:=IE (q:=44) s;generalize splitC 44 s=l at *;have v:((strsD l).length:Int)=(l.length:Int):=by rw[AP]
 simp only[Gv,↓C2,Gp,simprocAttr,Ae aDf 42,sa,v];refine Bf (n:=l.length) (I:=λj y=>y.s 7= .slice false [] (strsD l)∧y.s 8= .int .i64 ((strsD l).length:Int)∧y.s 9= .int .i64 (j:Int)∧∃nl t,y.s 3= .slice nl t (AF ((l.take j).map eB))∧nl=decide (j=0)∧LG 0 _ 3 y.m y.c nl t) (λj hj ih y g hI=>?_) (λy g hI=>?_) 0 (Qp _) _ _ ⟨rfl,rfl,rfl,true,[],rfl,rfl,LG.start Xa⟩
 ·obtain⟨ka,p,u⟩:=y;obtain⟨h7,h8,h9,nl,t,i,pa,o⟩:=hI;simp only at h7 h8 h9 i o;rw[v]at h8;refine Af PP.eq_1 ?_;have r:((j:Int)<l.length):=by omega
  have oa:=nJ (j:=j);have z:=wJ (j:=j) O;have d:(strsD l)[j]?=some (.str (l[j]' O)):=by unfold strsD;rw[QE,Qd O];rfl
  have f:=dJ (l[j]' O);have na:AF ((l.take (j+1)).map eB)=AF ((l.take j).map eB)++[.int .i64 (eB (l[j]' O))]:=by
   rw[Qz O,QQ];simp[AF]
  have ra:(AF ((l.take j).map eB)).length=j:=by simp[AF];omega
  have k:nl=true->AF ((l.take j).map eB)=[]:=by
   grind
  generalize AF ((l.take j).map eB)=w at i na ra k;simp only[Gv,↓C2,Gp,simprocAttr,h7,h8,h9,i,r,oa,Qc,d,Ae aDf 96,f];refine aB ⟨O,rfl,(by first|exact o.grow|exact(o.put O).grow|exact((o.put O).put O).grow|exact(((o.put O).put O).put O).grow|exact((((o.put O).put O).put O).put O).grow|exact(((((o.put O).put O).put O).put O).put O).grow)⟩ ?_;rw[BM k,←na];simp only[Gv,↓C2,Gp,simprocAttr,h9,z];exact ih _ _ ⟨h7,by rw[v];exact h8,rfl,false,_,rfl,U,(by first|exact o.app O Xa|exact(o.put O).app O Xa|exact((o.put O).put O).app O Xa|exact(((o.put O).put O).put O).app O Xa|exact((((o.put O).put O).put O).put O).app O Xa|exact(((((o.put O).put O).put O).put O).put O).app O Xa)⟩
 ·obtain⟨ka,p,u⟩:=y;obtain⟨h7,h8,h9,nl,t,i,pa,o⟩:=hI;simp only at h7 h8 h9 i o;rw[v]at h8;refine Af PP.eq_1 ?_;have e:decide (l.length=0)=false:=decide_eq_false (by cases l with|nil=>exact absurd rfl x|cons a b=>simp);rw[Zg (Qf _)]at i;rw[e]at pa;subst pa;simp only[Gv,↓C2,Gp,simprocAttr,h8,h9,i,Za]
  all_goals exact YT
def xE:List Nat:=[114,119,100,120,108,115]
def Di(c:Nat):Nat->Nat->Nat
 |0,k=>k
 |f+1,k=>if k<6∧xE.getD k 0≠c then Di c f (k+1)else k
def iX(s:Bs):Nat->Nat->Nat->Nat->Nat×Bool
 |0,_,_,o=>(o,true)
 |f+1,p,k,o=>if p<s.length then(if Di (GP s p) (6-k) k=6 then(0,false)else iX s f (p+1) (Di (GP s p) (6-k) k+1) (o|||2 ^ Di (GP s p) (6-k) k))else(o,true)
def N4(s:Bs):Nat×Bool:=iX s s.length 0 0 0
def Tq(c:Nat):∀f k,k<=6->k<=Di c f k∧Di c f k<=6
 |0,k,h=>by unfold Di;omega
 |f+1,k,h=>by
  unfold Di;split
  ·rename_i u;have:=Tq c f (k+1) O;omega
  ·omega
def VH{c d:Nat}(y:128<=c)(p:128<=d):∀f k,Di c f k=Di d f k
 |0,k=>rfl
 |f+1,k=>by
  have t:∀k,xE.getD k 0<128:=λk=>by
   rcases(by omega:k=0∨k=1∨k=2∨k=3∨k=4∨k=5∨6<=k)with rfl|rfl|rfl|rfl|rfl|rfl|h
   all_goals first|decide|(simp[xE,Zb,List.getElem?_eq_none (show [114,119,100,120,108,115].length<=k from h)])
  have:=t k;unfold Di;rw[VH y p f (k+1)];by_cases h:k<6
  ·rw[if_pos ⟨h,O⟩,if_pos ⟨h,O⟩]
  ·rw[if_neg (λe=>h e.1),if_neg (λe=>h e.1)]
def aJb:∀o,o<64->∀k,k<6->(o|||2 ^ k)<64:=V
def nO(s:Bs):∀f p k o,k<=6->o<64->(iX s f p k o).1<64
 |0,p,k,o,hk,h=>h
 |f+1,p,k,o,hk,h=>by
  have m:=Tq (GP s p) (6-k) k hk;unfold iX;split
  ·split
   ·decide
   ·exact nO s f _ _ _ O (aJb o h _ O)
  ·exact h
def aPd(s:Bs):(N4 s).1<64:=nO s _ 0 0 0 V V
def aRn:∀o,o<64->∀k,k<6->bits .or .u8 ((o:Nat):Int) ((2 ^ k:Nat):Int)=((o|||2 ^ k:Nat):Int):=V
def aTW{o k:Nat}(b:o<64)(g:k<6):AM .or (.int .u8 (o:Int)) (.int .u8 ((2 ^ k:Nat):Int))=some (.int .u8 ((o|||2 ^ k:Nat):Int)):=by
 rw[←aRn o b k g];rfl
def aOV{k:Nat}(g:k<6):AM .shl (.int .u8 1) (.int .i64 (k:Int))=some (.int .u8 ((2 ^ k:Nat):Int)):=by
 rcases(by omega:k=0∨k=1∨k=2∨k=3∨k=4∨k=5)with rfl|rfl|rfl|rfl|rfl|rfl<;>rfl
def Sy{S:Gq}{ns:Id}{r:Nat}{Q:Ex->St->Prop}:∀(f k:Nat)(y:St) g,k+f=6->(∀x,x.m=y.m->x.c≥y.c->x.s 5= .int .i64 (Di r f k:Nat)->(∀j,j=4∨j=7∨j=9->x.s j=y.s j)->Q (.exit 2) x)->y.s 5= .int .i64 (k:Int)->y.s 7= .int .i32 (r:Int)->A5 S ns Mf Q y g
 |0,k,y,g,hf,hexit,h5,h7=>by
  refine Af Mf.eq_1 ?_;have d:((k:Int)<6)=False:=eq_false O;simp only[Gv,↓C2,Gp,simprocAttr,h5,h7,d];exact hexit _ rfl Xa h5 (by rintro j (rfl|rfl|rfl)<;>rfl)
 |f+1,k,y,g,hf,hexit,h5,h7=>by
  refine Af Mf.eq_1 ?_;have ih:=Sy (S:=S) (ns:=ns) (r:=r) (Q:=Q) f (k+1);obtain⟨ka,n,u⟩:=y;simp only at h5 h7 hexit;have d:((k:Int)<6)=True:=eq_true O;have sa:(0:Int)<=(k:Int):=O
  obtain⟨c,o,b⟩:∃c:UInt8,([114,119,100,120,108,115]:List UInt8)[k]?=some c∧c.toNat=xE.getD k 0:=by
   rcases(by omega:k=0∨k=1∨k=2∨k=3∨k=4∨k=5)with rfl|rfl|rfl|rfl|rfl|rfl<;>exact⟨_,rfl,rfl⟩
  have na:=c.toNat_lt;have e1:IntKind.i32.wrap (c.toNat:Int)=(c.toNat:Int):=aQJ O O;have e2:IntKind.i64.wrap ((k:Int)+1)=((k+1:Nat):Int):=Xh
  unfold Di at hexit;rw[←b]at hexit;by_cases h:c.toNat=r
  ·rw[if_neg (λe=>e.2 h)]at hexit;have a1:((c.toNat:Int)=(r:Int))=True:=eq_true O;simp only[Gv,↓C2,Gp,simprocAttr,h5,h7,d,sa,o,e1,a1,Qc];exact hexit _ rfl Xa h5 (by rintro j (rfl|rfl|rfl)<;>rfl)
  ·rw[if_pos ⟨O,h⟩]at hexit;have a1:((c.toNat:Int)=(r:Int))=False:=eq_false O;simp only[Gv,↓C2,Gp,simprocAttr,h5,h7,d,sa,o,e1,e2,a1,Qc];exact ih _ _ O (λx w p a q=>hexit x w (by simp only at p;omega) a (λj z=>(q j z).trans (by rcases z with rfl|rfl|rfl<;>rfl))) rfl h7
def aAe{S:Gq}{ns i:Id}{s:Bs}{Q:Ex->St->Prop}{e:Nat×Bool}(pa:∀y,e=(0,false)->y.s 2= .int .u8 0->y.s 3= .bool false->Q .ret y)(j:∀y,e.2=true->y.s 4= .int .u8 (e.1:Int)->Q (.exit 0) y):
  ∀(f p k o:Nat)(y:St) g,s.length<=p+f->k<=6->o<64->iX s f p k o=e->y.s 9= .itp i->y.s 4= .int .u8 (o:Int)->y.s 5= .int .i64 (k:Int)->y.m i 1=some (.it s p)->A5 S ns Me Q y g:=by
 intro f;induction f with
 |zero=>
  intro p k o y g hf hk ho d h9 h4 h5 w;refine Af Me.eq_1 ?_;have:¬(p<s.length):=O
  simp only[↓C2,Gy,GI,simprocAttr,w,h9,this];unfold iX at d;subst d;exact j _ rfl h4
 |succ f ih=>
  intro p k o y g hf hk ho d h9 h4 h5 w;refine Af Me.eq_1 ?_;obtain⟨ka,n,c⟩:=y;simp only at h9 h4 h5 w;unfold iX at d;by_cases ea:p<s.length
  ·rw[if_pos ea]at d;have hb:=Tq (GP s p) (6-k) k hk;simp only[↓C2,Gy,GI,simprocAttr,w,h9,ea];have b:Di (Utf8.decode ⟨s.toArray⟩ p).1 (6-k) k=Di (GP s p) (6-k) k:=by
    rcases Uo s p with ⟨d1,d2⟩|⟨d1,d2⟩
    ·rw[d2]
    ·exact VH d2 d1 _ _
   refine Sy (r:=(Utf8.decode ⟨s.toArray⟩ p).1) (6-k) k _ _ O (λx z la a hj=>?_) h5 rfl;rw[b]at a;generalize hq:Di (GP s p) (6-k) k=q at *;have j4:=(hj 4 (.inl rfl)).trans h4;have j9:=(hj 9 (.inr (.inr rfl))).trans h9;by_cases h6:q=6
   ·subst h6;rw[if_pos rfl]at d;have a:x.s 5= .int .i64 6:=a;simp only[Gv,↓C2,Gp,simprocAttr,a];exact pa _ d.symm rfl rfl
   ·rw[if_neg h6]at d;have hp:p<s.length:=ea;have v:(Utf8.decode ⟨s.toArray⟩ p).2=1:=by
     rcases Uo s p with ⟨d1,d2⟩|⟨d1,d2⟩
     ·rw[d2]
     ·exfalso;have:∀f k,k<=6->k+f=6->Di (GP s p) f k=6:=by
       intro f;induction f with
       |zero=>intro k _ h;unfold Di;omega
       |succ f ih=>
        intro k u t;unfold Di;have:xE.getD k 0<128:=by
         rcases(by omega:k=0∨k=1∨k=2∨k=3∨k=4∨k=5)with rfl|rfl|rfl|rfl|rfl|rfl<;>decide
        rw[if_pos ⟨O,O⟩];exact ih (k+1) O O
      exact h6 (hq.symm.trans (this (6-k) k hk O))
    have a1:((q:Int)=6)=False:=eq_false O;have e1:=aOV (k:=q) O;have e2:=aTW (o:=o) (k:=q) ho O;have e3:IntKind.i64.wrap ((q:Int)+1)=((q+1:Nat):Int):=Xh
    simp only[Gv,↓C2,Gp,simprocAttr,a,j4,a1,e1,e2,e3];refine ih (p+1) (q+1) (o|||2 ^ q) _ _ O O (aJb o ho q O) d j9 rfl rfl ?_;show x.m i 1=_;rw[z];show n.put i 1 [.it s (p+(Utf8.decode ⟨s.toArray⟩ p).2)] i 1=_;rw[DO,if_pos ⟨rfl,rfl⟩,v]
  ·rw[if_neg ea]at d;simp only[↓C2,Gy,GI,simprocAttr,w,h9,ea];subst d;exact j _ rfl h4
def aU5:=Ap []
def aDu:=RF aU5 aBL [.t 2,.t 3] 33
def aOd:Kq aDu 167:=An (Aj func167) Ad
def aDt(s:Bs):aDu [.str s]=some (.tup [.int .u8 ((N4 s).1:Nat),.bool (N4 s).2]):=by
 refine Am (Qa rfl) ?_;unfold aBL;simp only[Gv,↓C2,Gp,simprocAttr];refine aAe (s:=s) (e:=N4 s) (λy r z i=>?_) (λy r o=>?_) s.length 0 0 0 _ _ O V V rfl rfl rfl rfl rfl
 ·rw[r];simp only[Gv,↓C2,Gp,simprocAttr,z,i]
  all_goals exact YT
 ·rw[r];simp only[Gv,↓C2,Gp,simprocAttr,o]
  all_goals exact YT
def Fy{q:UInt8}:∀(s:Bs),∀x∈splitC q s,x.length<=s.length
 |[],x,h=>by simp only[splitC,Qk]at h;subst h;exact Qf _
 |c::r,x,h=>by
  have ih:=Fy (q:=q) r;unfold splitC at h;split at h
  ·rcases QR.1 h with rfl|h
   ·exact Qp _
   ·have:=ih x h;simp only[Qh];omega
  ·cases hs:splitC q r with
   |nil=>
    rw[hs]at h;simp only[Qk]at h;subst h;simp
   |cons y t=>
    rw[hs]at h ih;simp only[QR]at h;rcases h with rfl|h
    ·have:=ih y Qv;simp only[Qh];omega
    ·have:=ih x (Qt _ h);simp only[Qh];omega
def nF(x:Bs)(c:UInt8):(BD x c).1.length<=x.length:=by
 unfold BD;split
 ·exact Qf _
 ·exact List.length_take_le' _ _
def MV(x:Bs):Bool:=(BD x 58).2.2&&(N4 (BD x 58).2.1).2
def VN(x:Bs):Rl:=((BD x 58).1,((N4 (BD x 58).2.1).1:Int))
def IV(s:Bs):Bool×List Rl×Int:=
 if s=[]then(true,[],0)else if(splitC 44 s).all MV=false then(true,[],4)else if Cp ((splitC 44 s).map VN)≠0 then(true,[],Cp ((splitC 44 s).map VN))else(false,(splitC 44 s).map VN,0)
def I7:=Ap [(42,Ac CM),(166,Ac aHy),(167,Ac aDu),(168,Ac vE)]
def aDC:=RF I7 aBR [.t 2,.t 3] 52
def aOi:Kq aDC 100:=An (Aj func100) (Aa qQ (Aa aJx (Aa aOd (Aa V7 Ad))))
def aDB(s:Bs)(hl:s.length<=1000):aDC [.str s]=some (.tup [.slice (IV s).1 [] (Ar (IV s).2.1),.int .i64 (IV s).2.2]):=by
 refine Am (Qa rfl) ?_;unfold aBR;unfold IV;by_cases h0:s=[]
 ·subst h0;rw[if_pos rfl];simp only[Gv,↓C2,Gp,simprocAttr]
  all_goals exact YT
 rw[if_neg h0];have ha:(s=[])=False:=eq_false h0;have sa:=FZ (s:=s) (q:=44) O;have xa:=Cs (q:=44) s;have ga:=IE (q:=44) s;have va:=Fy (q:=44) s;generalize splitC 44 s=l at *;have v:((strsD l).length:Int)=(l.length:Int):=by rw[AP]
 simp only[Gv,↓C2,Gp,simprocAttr,ha,Ae I7 42,sa,v];refine Bf (n:=l.length) (I:=λj y=>y.s 16= .slice false [] (strsD l)∧y.s 17= .int .i64 ((strsD l).length:Int)∧y.s 18= .int .i64 (j:Int)∧(l.take j).all MV=true∧∃nl t,y.s 4= .slice nl t (Ar ((l.take j).map VN))∧nl=decide (j=0)∧LG 0 _ 174 y.m y.c nl t) (λj hj ih y g hI=>?_) (λy g hI=>?_) 0 (Qp _) _ _ ⟨rfl,rfl,rfl,rfl,true,[],rfl,rfl,LG.start Xa⟩
 ·obtain⟨ka,fa,u⟩:=y;obtain⟨ua,la,z,ia,nl,t,h4,pa,hG⟩:=hI;simp only at ua la z h4 hG;rw[v]at la;refine Af PO.eq_1 ?_;have ea:((j:Int)<l.length):=by omega
  have oa:=nJ (j:=j);have hw:=wJ (j:=j) O;have ja:(strsD l)[j]?=some (.str (l[j]' O)):=by unfold strsD;rw[QE,Qd O];rfl
  have ya:=va _ (Qx (l:=l) (n:=j) O);have qa:(l[j]' O)∈l:=Qx _;have na:Ar ((l.take (j+1)).map VN)=Ar ((l.take j).map VN)++[.agg [.str (VN (l[j]' O)).1,.int .u8 (VN (l[j]' O)).2]]:=by
   rw[Qz O,QQ];simp[Ar,rlD]
  have p:(l.take (j+1)).all MV=MV (l[j]' O):=by
   rw[Qz O,List.all_append,ia];simp
  have ra:(Ar ((l.take j).map VN)).length=j:=by simp[Ar];omega
  have ma:nl=true->Ar ((l.take j).map VN)=[]:=by
   grind
  generalize Ar ((l.take j).map VN)=w at h4 na ra ma;generalize (l[j]' O)=x at *;have d:=oC x 58 O;have h:=aDt (BD x 58).2.1;by_cases c1:(BD x 58).2.2=true
  ·by_cases c2:(N4 (BD x 58).2.1).2=true
   ·rw[c1]at d;rw[c2]at h;have i:MV x=true:=by unfold MV;rw[c1,c2];rfl
    have k:(VN x).1=(BD x 58).1:=rfl;have o:(VN x).2=((N4 (BD x 58).2.1).1:Int):=rfl;rw[k,o]at na;simp only[Gv,↓C2,Gp,simprocAttr,ua,la,z,h4,ea,oa,Qc,ja,Ae I7 166,d,Ae I7 167,h];refine aB ⟨O,rfl,YQ⟩ ?_;rw[BM ma,←na];simp only[Gv,↓C2,Gp,simprocAttr,z,hw];exact ih _ _ ⟨ua,by rw[v];exact la,rfl,by rw[p];exact i,false,_,rfl,U,(by first|exact hG.app O Xa|exact(hG.put O).app O Xa|exact((hG.put O).put O).app O Xa|exact(((hG.put O).put O).put O).app O Xa|exact((((hG.put O).put O).put O).put O).app O Xa|exact(((((hG.put O).put O).put O).put O).put O).app O Xa)⟩
   ·have i:MV x=false:=by unfold MV;rw[c1];simpa using c2
    have c2:(N4 (BD x 58).2.1).2=false:=by simpa using c2
    rw[c1]at d;rw[c2]at h;have hA:l.all MV=false:=by
     rw[Zu];exact⟨x,qa,by rw[i];decide⟩
    rw[if_pos hA];simp only[Gv,↓C2,Gp,simprocAttr,ua,la,z,h4,ea,oa,Qc,ja,Ae I7 166,d,Ae I7 167,h]
    all_goals exact YT
  ·have c1:(BD x 58).2.2=false:=by simpa using c1
   have i:MV x=false:=by unfold MV;rw[c1];rfl
   rw[c1]at d;have hA:l.all MV=false:=by
    rw[Zu];exact⟨x,qa,by rw[i];decide⟩
   rw[if_pos hA];simp only[Gv,↓C2,Gp,simprocAttr,ua,la,z,h4,ea,oa,Qc,ja,Ae I7 166,d,Ae I7 167,h]
   all_goals exact YT
 ·obtain⟨ka,fa,u⟩:=y;obtain⟨ua,la,z,ia,nl,t,h4,pa,hG⟩:=hI;simp only at ua la z h4 hG;rw[v]at la;refine Af PO.eq_1 ?_;have e:decide (l.length=0)=false:=decide_eq_false (by cases l with|nil=>exact absurd rfl ga|cons a b=>simp);rw[Zg (Qf _)]at h4 ia;rw[e]at pa;subst pa;have hA:¬l.all MV=false:=by rw[ia];decide
  rw[if_neg hA];have f:=Rm (nl:=false) (l:=l.map VN) (by rw[Qu];omega) (λr hr=>by
   obtain⟨x,hx,rfl⟩:=QB.1 hr;have:=va x hx;have:=nF x 58;exact⟨by show(BD x 58).1.length<=1000;omega,YD⟩)
  by_cases hp:Cp (l.map VN)≠0
  ·rw[if_pos hp];have ta:(Cp (l.map VN)=0)=False:=eq_false hp;simp only[Gv,↓C2,Gp,simprocAttr,la,z,h4,Za,Ae I7 168,f,ta]
   all_goals exact YT
  ·rw[if_neg hp];have hp:=Decidable.not_not.1 hp;rw[hp]at f;simp only[Gv,↓C2,Gp,simprocAttr,la,z,h4,Za,Ae I7 168,f]
   all_goals exact YT
def DT(a:Ak)(c:Int)(s:Bs):Ak×Int:=
 if c=116 then({a with tk:=s},Bb {a with tk:=s} 116)
 else if c=112 then({a with pa:=s},Bb {a with pa:=s} 112)
 else if c=109 then({a with ot:=s},Bb {a with ot:=s} 109)
 else if c=113 then({a with ot:=s},Bb {a with ot:=s} 113)
 else if c=110 then({a with n:=eB s},Bb {a with n:=eB s} 110)
 else if c=99 then({a with cas:=if s=[45]then-1 else eB s},CQ (decide (s=[45])||decide (0<=eB s)))
 else if c=102 then({a with fl:=decide (s=[49])},CQ (decide (s=[49])||decide (s=[48])))
 else if c=108 then(if s=[45]then(a,Bb a 108)else({a with nln:=false,ns:=(splitC 44 s).map eB},Bb {a with nln:=false,ns:=(splitC 44 s).map eB} 108))
 else if c=100 then(if s=[45]then(a,0)else({a with da:=(Ey s).getD []},CQ ((Ey s).isSome&&decide (s≠[]))))
 else if c=114 then(if s=[45]then(a,0)else if s=[]then(a,4)else({a with nlr:=(IV s).1,rs:=(IV s).2.1},(IV s).2.2))
 else if c=107 then({a with key:=(Ey s).getD []},CQ ((Ey s).isSome&&decide ((((Ey s).getD []).length:Int)=16)))
 else(a,Bb a c)
def yO(s:Bs)(g:s.length<=400):(IV s).2.1.length<=401∧∀r∈(IV s).2.1,r.1.length<=400∧0<=r.2∧r.2<256:=by
 unfold IV;split
 ·exact⟨Qp _,λr h=>Xc⟩
 split
 ·exact⟨Qp _,λr h=>Xc⟩
 split
 ·exact⟨Qp _,λr h=>Xc⟩
 ·refine⟨by simp only[Qu];have:=Cs (q:=44) s;omega,λr h=>?_⟩;obtain⟨x,d,rfl⟩:=QB.1 h;have:=Fy s x d;have:=nF x 58;have:=aPd (BD x 58).2.1;exact⟨by show(BD x 58).1.length<=400;omega,YD,by show((N4 (BD x 58).2.1).1:Int)<256;omega⟩
def kP:∀(n:Nat)(s x:Bs),s.length<=n->Ey s=some x->x.length<=s.length
 |0,s,x,h,e=>by
  match s,h with
  |[],_=>cases e;exact Qf _
 |n+1,s,x,h,e=>by
  match s,h,e with
  |[],_,e=>cases e;exact Qf _
  |[_],_,e=>cases e
  |a::b::r,h,e=>
   rw[Vs]at e;split at e
   ·cases e
   ·obtain⟨y,v,rfl⟩:=QP.1 e;have:=kP n r y Yz v;simp only[Qh];omega
def wK(s:Bs):((Ey s).getD []).length<=s.length:=by
 cases h:Ey s with
 |none=>exact Qp _
 |some x=>exact kP _ s x (Qf _) h
def TF{a:Ak}(x:G7 a){c:Int}{s:Bs}(g:s.length<=400):G7 (DT a c s).1:=by
 have u:=wK s;have z:=yO s g;have y:=Cs (q:=44) s;unfold DT;by_cases b:c=116
 ·rw[if_pos b];exact⟨x.op0,x.op,Xa,x.pa,x.ot,x.ns,x.da,x.rl,x.rs,x.key⟩
 rw[if_neg b];by_cases c1:c=112
 ·rw[if_pos c1];exact⟨x.op0,x.op,x.tk,Xa,x.ot,x.ns,x.da,x.rl,x.rs,x.key⟩
 rw[if_neg c1];by_cases m:c=109
 ·rw[if_pos m];exact⟨x.op0,x.op,x.tk,x.pa,Xa,x.ns,x.da,x.rl,x.rs,x.key⟩
 rw[if_neg m];by_cases t:c=113
 ·rw[if_pos t];exact⟨x.op0,x.op,x.tk,x.pa,Xa,x.ns,x.da,x.rl,x.rs,x.key⟩
 rw[if_neg t];by_cases n:c=110
 ·rw[if_pos n];exact⟨x.op0,x.op,x.tk,x.pa,x.ot,x.ns,x.da,x.rl,x.rs,x.key⟩
 rw[if_neg n];by_cases d:c=99
 ·rw[if_pos d];exact⟨x.op0,x.op,x.tk,x.pa,x.ot,x.ns,x.da,x.rl,x.rs,x.key⟩
 rw[if_neg d];by_cases k:c=102
 ·rw[if_pos k];exact⟨x.op0,x.op,x.tk,x.pa,x.ot,x.ns,x.da,x.rl,x.rs,x.key⟩
 rw[if_neg k];by_cases p:c=108
 ·rw[if_pos p];by_cases e:s=[45]
  ·rw[if_pos e];exact x
  ·rw[if_neg e];exact⟨x.op0,x.op,x.tk,x.pa,x.ot,by simp only[Qu];omega,x.da,x.rl,x.rs,x.key⟩
 rw[if_neg p];by_cases o:c=100
 ·rw[if_pos o];by_cases e:s=[45]
  ·rw[if_pos e];exact x
  ·rw[if_neg e];exact⟨x.op0,x.op,x.tk,x.pa,x.ot,x.ns,Xa,x.rl,x.rs,x.key⟩
 rw[if_neg o];by_cases w:c=114
 ·rw[if_pos w];by_cases e:s=[45]
  ·rw[if_pos e];exact x
  rw[if_neg e];by_cases f:s=[]
  ·rw[if_pos f];exact x
  ·rw[if_neg f];exact⟨x.op0,x.op,x.tk,x.pa,x.ot,x.ns,x.da,Xa,λr i=>⟨by have:=z.2 r i;omega,(z.2 r i).2.1⟩,x.key⟩
 rw[if_neg w];by_cases v:c=107
 ·rw[if_pos v];exact⟨x.op0,x.op,x.tk,x.pa,x.ot,x.ns,x.da,x.rl,x.rs,Xa⟩
 rw[if_neg v];exact x
def BW:Gq:=Ap [(96,Ac oU),(97,Ac aQv),(98,Ac aDE),(99,Ac aDj),(100,Ac aDC),(101,Ac aEE)]
def dO:List D->Option D:=RF BW aB6 [.cell (some 11) 6,.t 7] 122
def aOx:Kq dO 45:=An (Aj func45) (Aa aAx (Aa aJk (Aa aOj (Aa aJA (Aa aOi (Aa aJq Ad))))))
def aDV(a:Ak)(x:G7 a)(c:Int)(s:Bs)(o:s.length<=400):dO [GT a,.int .i32 c,.str s]=some (.tup [GT (DT a c s).1,.int .i64 (DT a c s).2]):=by
 refine Am (Qa rfl) ?_;unfold aB6;have f:=dJ s;have z:=aDD s O;have w:=aDi s O;have g:=aDB s O;have r:=TF x (c:=c) o;unfold DT at r ⊢;by_cases c1:c=116
 ·subst c1;simp only[reduceIte,QG]at r ⊢;have d:=Ha (c:=116) r;unfold GT GO at d ⊢;simp only[Gv,↓C2,Gp,simprocAttr,Ae BW 101,d]
  (refine aB (Al ?_) ?_;first|rfl|simp[AH,Ay,GK,Ai,Ac])
  simp only[Gv,↓C2,Gp,simprocAttr]
  all_goals exact YT
 have n1:(c=116)=False:=eq_false c1;by_cases u:c=112
 ·subst u;simp only[reduceIte,QG]at r ⊢;have d:=Ha (c:=112) r;unfold GT GO at d ⊢;simp only[Gv,↓C2,Gp,simprocAttr,Ae BW 101,d]
  (refine aB (Al ?_) ?_;first|rfl|simp[AH,Ay,GK,Ai,Ac])
  simp only[Gv,↓C2,Gp,simprocAttr]
  all_goals exact YT
 have n2:(c=112)=False:=eq_false u;by_cases t:c=109
 ·subst t;simp only[reduceIte,QG]at r ⊢;have d:=Ha (c:=109) r;unfold GT GO at d ⊢;simp only[Gv,↓C2,Gp,simprocAttr,Ae BW 101,d]
  (refine aB (Al ?_) ?_;first|rfl|simp[AH,Ay,GK,Ai,Ac])
  simp only[Gv,↓C2,Gp,simprocAttr]
  all_goals exact YT
 have n3:(c=109)=False:=eq_false t;by_cases q:c=113
 ·subst q;simp only[reduceIte,QG]at r ⊢;have d:=Ha (c:=113) r;unfold GT GO at d ⊢;simp only[Gv,↓C2,Gp,simprocAttr,Ae BW 101,d]
  (refine aB (Al ?_) ?_;first|rfl|simp[AH,Ay,GK,Ai,Ac])
  simp only[Gv,↓C2,Gp,simprocAttr]
  all_goals exact YT
 have n4:(c=113)=False:=eq_false q;by_cases c5:c=110
 ·subst c5;simp only[reduceIte,QG]at r ⊢;have d:=Ha (c:=110) r;unfold GT GO at d ⊢;simp only[Gv,↓C2,Gp,simprocAttr,Ae BW 96,f,Ae BW 101,d]
  (refine aB (Al ?_) ?_;first|rfl|simp[AH,Ay,GK,Ai,Ac])
  simp only[Gv,↓C2,Gp,simprocAttr]
  all_goals exact YT
 have n5:(c=110)=False:=eq_false c5;by_cases c6:c=99
 ·subst c6;simp only[reduceIte,QG]at r ⊢;have b:=G8;unfold GT GO;have k:((0:Int)<=-1)=False:=eq_false V;by_cases e:s=[45]
  ·have n:(s=[45])=True:=eq_true e;rw[if_pos e,decide_eq_true e];simp only[Gv,↓C2,Gp,simprocAttr,Ae BW 96,f,n,Ae BW 97,b]
   (refine aB (Al ?_) ?_;first|rfl|simp[AH,Ay,GK,Ai,Ac])
   simp only[Gv,↓C2,Gp,simprocAttr]
   all_goals exact YT
  ·have n:(s=[45])=False:=eq_false e;rw[if_neg e,decide_eq_false e];simp only[Gv,↓C2,Gp,simprocAttr,Ae BW 96,f,n,Ae BW 97,b]
   (refine aB (Al ?_) ?_;first|rfl|simp[AH,Ay,GK,Ai,Ac])
   simp only[Gv,↓C2,Gp,simprocAttr]
   all_goals exact YT
 have n6:(c=99)=False:=eq_false c6;by_cases c7:c=102
 ·subst c7;simp only[reduceIte,QG]at r ⊢;have b:=G8;unfold GT GO;by_cases e:s=[49]
  ·have n:(s=[49])=True:=eq_true e;rw[decide_eq_true e];simp only[Gv,↓C2,Gp,simprocAttr,n,Ae BW 97,b]
   (refine aB (Al ?_) ?_;first|rfl|simp[AH,Ay,GK,Ai,Ac])
   simp only[Gv,↓C2,Gp,simprocAttr]
   all_goals exact YT
  ·have n:(s=[49])=False:=eq_false e;rw[decide_eq_false e];simp only[Gv,↓C2,Gp,simprocAttr,n,Ae BW 97,b]
   (refine aB (Al ?_) ?_;first|rfl|simp[AH,Ay,GK,Ai,Ac])
   simp only[Gv,↓C2,Gp,simprocAttr]
   all_goals exact YT
 have n7:(c=102)=False:=eq_false c7;by_cases c8:c=108
 ·subst c8;simp only[reduceIte,QG]at r ⊢;by_cases e:s=[45]
  ·have n:(s=[45])=True:=eq_true e;rw[if_pos e]at r ⊢;have d:=Ha (c:=108) x;unfold GT GO at d ⊢;simp only[Gv,↓C2,Gp,simprocAttr,n,Ae BW 101,d]
   (refine aB (Al ?_) ?_;first|rfl|simp[AH,Ay,GK,Ai,Ac])
   simp only[Gv,↓C2,Gp,simprocAttr]
   all_goals exact YT
  ·have n:(s=[45])=False:=eq_false e;rw[if_neg e]at r ⊢;have d:=Ha (c:=108) r;unfold GT GO at d ⊢;simp only[Gv,↓C2,Gp,simprocAttr,n,Ae BW 98,z,Ae BW 101,d]
   (refine aB (Al ?_) ?_;first|rfl|simp[AH,Ay,GK,Ai,Ac])
   simp only[Gv,↓C2,Gp,simprocAttr]
   all_goals exact YT
 have n8:(c=108)=False:=eq_false c8;by_cases c9:c=100
 ·subst c9;simp only[reduceIte,QG]at r ⊢;have b:=G8;by_cases e:s=[45]
  ·have n:(s=[45])=True:=eq_true e;have m:(s=[])=False:=eq_false (by rw[e];decide);have hf:CQ true=0:=rfl;rw[if_pos e]at r ⊢;unfold GT GO;simp only[Gv,↓C2,Gp,simprocAttr,n,m,Ae BW 97,b,hf]
   (refine aB (Al ?_) ?_;first|rfl|simp[AH,Ay,GK,Ai,Ac])
   simp only[Gv,↓C2,Gp,simprocAttr]
   all_goals exact YT
  ·have n:(s=[45])=False:=eq_false e;rw[if_neg e]at r ⊢;unfold GT GO;cases hu:(Ey s).isSome with
   |true=>
    rw[hu]at w;simp only[Gv,↓C2,Gp,simprocAttr,n,Ae BW 99,w,Ae BW 97,b]
    (refine aB (Al ?_) ?_;first|rfl|simp[AH,Ay,GK,Ai,Ac])
    simp only[Gv,↓C2,Gp,simprocAttr]
    all_goals exact YT
   |false=>
    rw[hu]at w;simp only[Gv,↓C2,Gp,simprocAttr,n,Ae BW 99,w,Ae BW 97,b]
    (refine aB (Al ?_) ?_;first|rfl|simp[AH,Ay,GK,Ai,Ac])
    simp only[Gv,↓C2,Gp,simprocAttr]
    all_goals exact YT
 have n9:(c=100)=False:=eq_false c9;by_cases v:c=114
 ·subst v;simp only[reduceIte,QG]at r ⊢;by_cases e:s=[45]
  ·have n:(s=[45])=True:=eq_true e;rw[if_pos e];unfold GT GO;simp only[Gv,↓C2,Gp,simprocAttr,n]
   all_goals exact YT
  have n:(s=[45])=False:=eq_false e;rw[if_neg e];by_cases y:s=[]
  ·have h:(s=[])=True:=eq_true y;rw[if_pos y];unfold GT GO;simp only[Gv,↓C2,Gp,simprocAttr,n,h,Ae BW 100,g]
   all_goals exact YT
  ·have h:(s=[])=False:=eq_false y;rw[if_neg y];unfold GT GO;simp only[Gv,↓C2,Gp,simprocAttr,n,h,Ae BW 100,g]
   all_goals exact YT
 have j:(c=114)=False:=eq_false v;by_cases p:c=107
 ·subst p;simp only[reduceIte,QG]at r ⊢;have b:=G8;unfold GT GO;cases hu:(Ey s).isSome with
  |true=>
   rw[hu]at w;simp only[Gv,↓C2,Gp,simprocAttr,Ae BW 99,w,Ae BW 97,b]
   (refine aB (Al ?_) ?_;first|rfl|simp[AH,Ay,GK,Ai,Ac])
   simp only[Gv,↓C2,Gp,simprocAttr]
   all_goals exact YT
  |false=>
   rw[hu]at w;simp only[Gv,↓C2,Gp,simprocAttr,Ae BW 99,w,Ae BW 97,b]
   (refine aB (Al ?_) ?_;first|rfl|simp[AH,Ay,GK,Ai,Ac])
   simp only[Gv,↓C2,Gp,simprocAttr]
   all_goals exact YT
 have i:(c=107)=False:=eq_false p;simp only[c1,u,t,q,c5,c6,c7,c8,c9,v,p,if_false]at r ⊢;have d:=Ha (c:=c) x;unfold GT GO at d ⊢;simp only[Gv,↓C2,Gp,simprocAttr,n1,n2,n3,n4,n5,n6,n7,n8,n9,j,i,Ae BW 101,d]
 (refine aB (Al ?_) ?_;first|rfl|simp[AH,Ay,GK,Ai,Ac])
 simp only[Gv,↓C2,Gp,simprocAttr]
 all_goals exact YT
def akZ:Ak:=⟨0,[],[],[],0,0,false,true,[],[],true,[],[]⟩
def E_:Ak->Bs->List Bs->Ak×Int
 |a,[],_=>(a,0)
 |a,_::_,[]=>(akZ,4)
 |a,c::r,w::ws=>if(DT a (c.toNat:Int) w).2≠0 then(akZ,(DT a (c.toNat:Int) w).2)else E_ (DT a (c.toNat:Int) w).1 r ws
def D6(s:Bs):Ak×Int:=
 if 400<s.length then(akZ,5)
 else if opF ((splitC 32 s).getD 0 [])=0 then(akZ,22)
 else if(splitC 32 s).length≠1+(Bu (opF ((splitC 32 s).getD 0 []))).length then(akZ,4)
 else E_ {akZ with op:=opF ((splitC 32 s).getD 0 [])} (Bu (opF ((splitC 32 s).getD 0 []))) ((splitC 32 s).drop 1)
def aAg{S:Gq}(l:S 45=some (Ac dO)){ls:Bs}(n:∀c∈ls,c.toNat<128)(xa:ls.length<=100){ws:List Bs}(ab:∀w∈ws,w.length<=400)(hl:ws.length=1+ls.length){r:Ak×Int}{Q:Ex->St->Prop}
  (pa:∀y,r.2≠0->r.1=akZ->y.s 3= .int .i64 r.2->y.s 2= .ptr [0] 0->Ag y.m [0] 0 11=some (GO akZ)->Q .ret y)
  (ga:∀y,r.2=0->y.s 2= .ptr [0] 0->y.s 5= .ptr [13] 0->Ag y.m [0] 0 11=some (GO akZ)->Ag y.m [13] 0 11=some (GO r.1)->Q (.exit 0) y):
  ∀(f p:Nat)(b:Ak) y g,ls.length=p+f->E_ b (ls.drop p) (ws.drop (p+1))=r->G7 b->y.s 2= .ptr [0] 0->y.s 5= .ptr [13] 0->y.s 37= .itp [30]->y.s 4= .slice false [] (strsD ws)->Ag y.m [0] 0 11=some (GO akZ)->Ag y.m [13] 0 11=some (GO b)->y.m [30] 1=some (.it ls p)->
   A5 S [] Mq Q y g:=by
 have ma:([0]:Id)≠[30]:=V
 have k:([13]:Id)≠[30]:=V
 have o:([0]:Id)≠[13]:=V
 intro f;induction f with
 |zero=>
  intro p b y g hf hr hb v h5 a h4 hm ra ba;refine Af Mq.eq_1 ?_;have hp:¬(p<ls.length):=O
  simp only[↓C2,Gy,simprocAttr,a,hp,ba,Qb];rw[List.drop_of_length_le O]at hr;simp only[E_]at hr;subst hr;exact ga _ rfl v h5 hm ra
 |succ f ih=>
  intro p b y g hf hr hb v h5 a h4 hm ra ba;refine Af Mq.eq_1 ?_;have hp:p<ls.length:=O
  have ja:ls[p]?=some ls[p]:=Qd hp;have qa:ls[p]∈ls:=Qx hp;have i:=Ns ja (n _ qa);have j:p+1<ws.length:=O
  have q:ws[p+1]∈ws:=Qx j;have ya:=ab _ q;have d:(strsD ws)[p+1]?=some (.str ws[p+1]):=by unfold strsD;rw[QE,Qd j];rfl
  have hR:=aDV b hb (ls[p].toNat:Int) ws[p+1] ya;have x:=TF hb (c:=(ls[p].toNat:Int)) ya;have wa:ls.drop p=ls[p]::ls.drop (p+1):=QC hp;have t:ws.drop (p+1)=ws[p+1]::ws.drop (p+1+1):=QC j;have e1:IntKind.i64.wrap (1+(p:Int))=((p+1:Nat):Int):=Xh
  have e2:(0:Int)<=((p+1:Nat):Int):=O
  rw[wa,t]at hr;unfold E_ at hr;generalize ls[p]=c at *;generalize ws[p+1]=w at *;unfold GT at hR;generalize DT b (c.toNat:Int) w=z at *;obtain⟨b',e⟩:=z;simp only at hr hR x;obtain⟨ka,fa,u⟩:=y;simp only at v h5 a h4 hm ra ba;by_cases he:e=0
  ·subst he;rw[if_neg (λh=>h rfl)]at hr;simp only[↓C2,Gt,simprocAttr,v,h5,a,h4,hm,ra,i,AE ma,AE k,Ab l,hR,BA,BB,AL,AR,hp,ba,d,e1,e2,Qc,and_self,Qb,Qi,Qe]
   (refine aB (Al ?_) ?_;first|rfl|simp[AH,Ay,GK,Ai,Ac])
   simp only[↓C2,Gt,simprocAttr,v,h5,a,h4,hm,ra,BA,BB,AL,AR];refine ih (p+1) _ _ _ O hr x v h5 a h4 ?_ ?_ ?_
   ·show Ag ((fa.put [30] 1 [.it ls (p+(Utf8.decode ⟨ls.toArray⟩ p).2)]).put [13] 0 (GO b')) [0] 0 11=_;rw[AE o,AE ma];exact hm
   ·exact As (AR _)
   ·show Gu.put (Gu.put fa [30] 1 [.it ls (p+(Utf8.decode ⟨ls.toArray⟩ p).2)]) [13] 0 (GO b') [30] 1=_;rw[aA V,i];exact LU
  ·rw[if_pos he]at hr;have ia:(e=0)=False:=eq_false he;have hf:∀zs:List D,B7 zs []=some zs:=λ_=>rfl
   have zc:(D.agg [.int .u8 0,.str [],.str [],.str [],.int .i64 0,.int .i64 0,.bool false,.slice true [] [],.str [],.slice true [] [],.str []]).cells=GO akZ:=rfl;simp only[↓C2,Gt,simprocAttr,v,h5,a,h4,hm,ra,i,AE ma,AE k,AE o,Ab l,hR,BA,BB,AL,AR,hp,ba,d,e1,e2,Qc,and_self,Qb,Qi,Qe,ia,hf,zc]
   (refine aB (Al ?_) ?_;first|rfl|simp[AH,Ay,GK,Ai,Ac])
   simp only[↓C2,Gt,simprocAttr,v,h5,a,h4,hm,ra,AE ma,AE k,AE o,BA,BB,AL,AR,ia,hf,zc,Qe,and_self];subst hr;refine pa _ he rfl ?_ ?_ ?_
   ·rfl
   ·exact v
   ·exact As (ds:=GO akZ) rfl
def aA6:∀op:Fin 19,∀c∈Bu ((op.val:Nat):Int),c.toNat<128:=Xl
def aA4:∀op:Fin 19,(Bu ((op.val:Nat):Int)).length<=10:=Xl
def aA5{op:Int}(f:0<=op)(h:op<=18):(∀c∈Bu op,c.toNat<128)∧(Bu op).length<=10:=by
 have e:((⟨op.toNat,O⟩:Fin 19).val:Int)=op:=QD f;have u:=aA6 ⟨op.toNat,O⟩;have z:=aA4 ⟨op.toNat,O⟩;rw[e]at u z;exact⟨u,z⟩
def aCR{op:Int}(f:0<=op)(h:op<=18):G7 {akZ with op:=op}:=⟨f,Xa,Qp _,Qp _,Qp _,Qp _,Qp _,Qp _,(λr i=>by cases i),Qp _⟩
def I8:=Ap [(42,Ac CM),(43,Ac aDX),(44,Ac uU),(45,Ac dO)]
def S7:=RF I8 aCg [.cell (some 11) 2,.t 3] 58
def aAD:Kq S7 15:=An (Aj func15) (Aa qQ (Aa aOy (Aa lR (Aa aOx Ad))))
def Ri(s:Bs)(hl:s.length<=1000000):S7 [.str s]=some (.tup [GT (D6 s).1,.int .i64 (D6 s).2]):=by
 refine Am (Qa rfl) ?_;have c:I8 45=some (Ac dO):=rfl;unfold aCg;have hz:D.cells (.agg (GO akZ))=GO akZ:=rfl;unfold D6 GT;by_cases h4:400<s.length
 ·rw[if_pos h4];have g:((400:Int)<(s.length:Int))=True:=eq_true O;simp only[Gv,↓C2,Gp,simprocAttr,g]
  all_goals exact YT
 rw[if_neg h4];have g:((400:Int)<(s.length:Int))=False:=eq_false O;have sa:=FZ (s:=s) (q:=32) O;have j:=IE (q:=32) s;have va:=Fy (q:=32) s;have xa:=Cs (q:=32) s;generalize splitC 32 s=ws at *;obtain⟨w0,wr,rfl⟩:∃a b,ws=a::b:=by cases ws with|nil=>exact absurd rfl j|cons a b=>exact⟨a,b,rfl⟩
 have hg:(w0::wr).getD 0 []=w0:=rfl;rw[hg];have d:=aDW w0;obtain⟨b1,b2⟩:=aJc w0;have n:=OP b1 O;obtain⟨f1,f2⟩:=aA5 b1 b2;have ja:(strsD (w0::wr))[0]?=some (.str w0):=rfl;have v:((strsD (w0::wr)).length:Int)=((w0::wr).length:Int):=by rw[AP]
 have ya:∀w∈w0::wr,w.length<=400:=λw hw=>by have:=va w hw;omega
 generalize opF w0=op at *;by_cases f:op=0
 ·subst f;rw[if_pos rfl];simp only[Gv,↓C2,Gp,simprocAttr,g,Ae I8 42,sa,ja,Ae I8 43,d]
  all_goals exact YT
 rw[if_neg f];have p:(op=0)=False:=eq_false f;have y:IntKind.i64.wrap (1+((Bu op).length:Int))=((1+(Bu op).length:Nat):Int):=Xh
 by_cases o:(w0::wr).length≠1+(Bu op).length
 ·rw[if_pos o];have la:(((w0::wr).length:Int)=((1+(Bu op).length:Nat):Int))=False:=eq_false (λe=>o O);simp only[Gv,↓C2,Gp,simprocAttr,g,Ae I8 42,sa,ja,Ae I8 43,d,p,Ae I8 44,n,v,y,la]
  all_goals exact YT
 rw[if_neg o];have o:=Decidable.not_not.1 o;have la:(((w0::wr).length:Int)=((1+(Bu op).length:Nat):Int))=True:=eq_true (by rw[o]);simp only[Gv,↓C2,Gp,simprocAttr,g,Ae I8 42,sa,ja,Ae I8 43,d,p,Ae I8 44,n,v,y,la];generalize i:E_ {akZ with op:=op} (Bu op) ((w0::wr).drop 1)=r;refine aAg (r:=r) c f1 O ya o (λx u k h3 t hm=>?_) (λx u t h5 hm ra=>?_) (Bu op).length 0 {akZ with op:=op} _ _ O i (aCR b1 b2) rfl rfl rfl rfl ?_ ?_ ?_
 ·rw[k];simp only[↓C2,Gt,simprocAttr,HU,AT,t,h3,hm,Q5,BA,BB]
  all_goals exact YT
 ·rw[u];have z:∀(m:Gu)(a:Ak),Ag (m.put [0] 0 (GO a)) [0] 0 11=some (GO a):=λm a=>As (AR a)
  simp only[↓C2,Gt,simprocAttr,t,h5,hm,ra,BA,BB,AL,AR,Qe,and_self,HU,AT,z,Q5]
  all_goals exact YT
 ·simp (disch:=decide)only[AE];exact As (ds:=GO akZ) rfl
 ·simp (disch:=decide)only[AE];exact As (ds:=GO {akZ with op:=op}) rfl
 ·rfl
def S4:=Ap [(87,Ac (R19 Rk RU)),(88,Ac Ta)]
def aD1:=RF S4 aB9 [.cell (some 9) 4] 21
def aOA:Kq aD1 38:=An (Aj func38) (Aa (aWl aSb aSa) (Aa aNM Ad))
def uQ.trS{t:Tr}{room:Int}(h:uQ t room):TrS t:=⟨by have:=h.len;rw[Tr.cnt_lst]at *;omega,λx q=>⟨Qg (h.key x q) V,Qg (h.val x q) V⟩⟩
def uQ.cnt{t:Tr}{room:Int}(h:uQ t room):t.cnt<=1945:=by have:=h.len;rw[Tr.cnt_lst]at *;exact this
def Ek(o:Oc):(Lh o).length=9:=rfl
def Rp{m:Gu}{i j o:Nat}{x:List D}{n:Nat}(h:j≠i):Ag (m.put [i] 0 x) [j] o n=Ag m [j] o n:=AE (by simp[h])
def aAf{m:Md}(hm:kC m){a:Ak}{y:Kn->Oc}(X:Hb m.vw a y){R:Kn->Nat}(hR:∀k d,HD k->(y k).need≠[]->R (A_ k (y k).need (y k).li d)<R k){o:Oc}{Q:Ex->St->Prop}
  (pa:∀ha,Ag ha.m [2] 0 9=some (Lh o)->ha.s 4= .ptr [2] 0->Q .ret ha):
  ∀(f j:Nat)(k:Kn)(x:St) g,KnJ k j->j+f<=20->R k<=f->eZ y m.tr f k=o->4<=x.c->x.s 2= .ptr [0] 0->x.s 3= .ptr [1] 0->x.s 4= .ptr [2] 0->x.s 5= .ptr [3] 0->
   Ag x.m [0] 0 5=some (Hc m.vw)->Ag x.m [0] 5 1=some [GF m.tr]->Ag x.m [1] 0 11=some (GO a)->(∃z,Ag x.m [2] 0 9=some z)->Ag x.m [3] 0 5=some (G6 k)->A5 S4 [] Mo Q x g:=by
 intro f;induction f with
 |zero=>
  intro j k x g hk hj hr ho hc h2 h3 h4 h5 m0 p m1 ⟨z,m2⟩ m3;have l:=hk.ok O;have hn:(y k).need=[]:=by
   by_cases hn:(y k).need=[]
   ·exact hn
   ·have:=hR k (Fj m.tr []) l hn;omega
  have ma:=X.run k l;have v:S4 87=some (Ac (R19 Rk RU)):=rfl;have u:S4 88=some (Ac Ta):=rfl;unfold Hv GT at ma;refine Af Mo.eq_1 ?_;obtain⟨ka,fa,da⟩:=x;simp only at hc h2 h3 h4 h5 m0 p m1 m2 m3;have zc:(D.agg (Lh (y k))).cells=Lh (y k):=rfl;have zu:(D.agg (Lh (y k))).un1=D.agg (Lh (y k)):=rfl;have zn:(D.agg (Lh (y k))).un=D.agg (Lh (y k)):=rfl;have zd:(D.agg (Lh (y k))).data=true:=rfl;have zm:(D.agg (Lh (y k))).calm=true:=rfl;have z9:∀{m:Gu} {i:Id} {a b c d e f g h j:D},Ag (m.put i 0 [a,b,c,d,e,f,g,h,j]) i 0 9=some [a,b,c,d,e,f,g,h,j]:=As rfl;have zo:∀{m:Gu} {i:Id},Ag (m.put i 0 (Lh (y k))) i 0 9=some (Lh (y k)):=As (Ek _);have z0:∀{m:Gu} {i:Id},m.put i 0 (Lh (y k)) i 0=some (.str (y k).need):=A7 (k:=0) (As (Ek _)) rfl;simp only[Hc,G6]at ma m0 m3;unfold eZ at ho;have la:((y k).need=[])=True:=eq_true hn;simp (disch:=first|assumption|omega)only[↓C2,Gt,simprocAttr,h2,h3,h4,h5,m0,p,m1,m2,m3,Ab v,ma,zc,la,BA,BB,AL,AR,Ek,z9,zo,z0,Rp,Qe,and_self,zu,zd,zm,zn];subst ho;exact pa _ (As (Ek _)) h4
 |succ f ih=>
  intro j k x g hk hj hr ho hc h2 h3 h4 h5 m0 p m1 ⟨z,m2⟩ m3;have l:=hk.ok O;have ma:=X.run k l;have v:S4 87=some (Ac (R19 Rk RU)):=rfl;have u:S4 88=some (Ac Ta):=rfl;unfold Hv GT at ma;refine Af Mo.eq_1 ?_;obtain⟨ka,fa,da⟩:=x;simp only at hc h2 h3 h4 h5 m0 p m1 m2 m3;have zc:(D.agg (Lh (y k))).cells=Lh (y k):=rfl;have zu:(D.agg (Lh (y k))).un1=D.agg (Lh (y k)):=rfl;have zn:(D.agg (Lh (y k))).un=D.agg (Lh (y k)):=rfl;have zd:(D.agg (Lh (y k))).data=true:=rfl;have zm:(D.agg (Lh (y k))).calm=true:=rfl;have z9:∀{m:Gu} {i:Id} {a b c d e f g h j:D},Ag (m.put i 0 [a,b,c,d,e,f,g,h,j]) i 0 9=some [a,b,c,d,e,f,g,h,j]:=As rfl;have zo:∀{m:Gu} {i:Id},Ag (m.put i 0 (Lh (y k))) i 0 9=some (Lh (y k)):=As (Ek _);have z0:∀{m:Gu} {i:Id},m.put i 0 (Lh (y k)) i 0=some (.str (y k).need):=A7 (k:=0) (As (Ek _)) rfl;simp only[Hc,G6]at ma m0 m3;unfold eZ at ho;by_cases hn:(y k).need=[]
  ·rw[if_pos hn]at ho;have la:((y k).need=[])=True:=eq_true hn;simp (disch:=first|assumption|omega)only[↓C2,Gt,simprocAttr,h2,h3,h4,h5,m0,p,m1,m2,m3,Ab v,ma,zc,la,BA,BB,AL,AR,Ek,z9,zo,z0,Rp,Qe,and_self,zu,zd,zm,zn];subst ho;exact pa _ (As (Ek _)) h4
  ·rw[if_neg hn]at ho;have la:((y k).need=[])=False:=eq_false hn;have w:=hR k (Fj m.tr (y k).need) l hn;have ea:=hk.learn hm.tr (y k).need (y k).li;have n:=aEl (k:=k) (q:=(y k).need) (li:=(y k).li) (r:=[.str (y k).rep,.slice (y k).nl [] (DU (y k).ops)]++Hc (y k).vw) (t:=m.tr) ⟨Qg l.es V,Qg l.ls V,rfl,hm.tr.trS,Qg (kS _ _) (Qg hm.tr.len V)⟩;generalize A_ k (y k).need (y k).li (Fj m.tr (y k).need)=k' at ho w ea n;have n:Ta [.agg (G6 k),.agg (Lh (y k)),.agg [GF m.tr]]=some (.agg (G6 k')):=n;simp only[G6]at n;have z5:∀{m:Gu} {i:Id} {a b c d e:D},Ag (m.put i 0 [a,b,c,d,e]) i 0 5=some [a,b,c,d,e]:=As rfl;simp (disch:=first|assumption|omega)only[↓C2,Gt,simprocAttr,h2,h3,h4,h5,m0,p,m1,m2,m3,Ab v,ma,zc,la,BA,BB,AL,AR,Ek,z9,zo,z0,Rp,Qe,and_self,zu,zd,zm,zn,Ab u,n,GH,z5];refine ih (j+1) k' _ _ ea O O ho Xa h2 h3 h4 h5 ?_ ?_ ?_ ⟨z,?_⟩ ?_
   ·simp (disch:=omega)only[Rp];exact m0
   ·simp (disch:=omega)only[Rp];exact p
   ·simp (disch:=omega)only[Rp];exact m1
   ·simp (disch:=omega)only[Rp];exact m2
   ·exact As rfl
def aD0{m:Md}(w:kC m){a:Ak}{z:Kn->Oc}(X:Hb m.vw a z):aD1 [.agg (GY m),GT a]=some (.agg (Lh (Hw z m))):=by
 refine Am (Qa rfl) ?_;unfold aB9;unfold GY GT;have d:D.cells (.agg (GY m))=GY m:=rfl;obtain⟨R,i,c⟩:=X.term;simp only[Gv,↓C2,Gp,simprocAttr,d];refine aAf w X c (o:=Hw z m) (λx e p=>?_) 4 0 kn0 _ _ aJQ V (Qg (i _) V) rfl (Qf _) rfl rfl rfl rfl ?_ ?_ ?_ ⟨[.str [],.bool false,.str [],.slice true [] [],.bool false,.int .i64 0,.str [],.slice true [] [],.slice true [] []],?_⟩ ?_
 ·simp only[↓C2,Gt,simprocAttr,Be,AT,p,e,Q5]
  all_goals exact YT
 ·simp (disch:=decide)only[AE];exact yJ (cs:=GY m) (n:=7) (As rfl) V
 ·simp (disch:=decide)only[AE];exact yJ (cs:=GY m) (n:=7) (As rfl) V
 ·simp (disch:=decide)only[AE];exact As (AR a)
 ·simp (disch:=decide)only[AE];exact As rfl
 ·exact As rfl
def C7:Gq:=Ap [(15,Ac S7),(37,Ac aIi),(38,Ac aD1),(39,Ac aDZ),(35,Ac Tb)]
def Dy:List D->Option D:=RF C7 PQ [.cell (some 7) 4,.t 5] 53
def gI:Kq Dy 11:=An (Aj func11:Fn Qj 11 53 PQ [.cell (some 7) 4,.t 5]) (Aa aAD (Aa aJP (Aa aOA (Aa aOz (Aa TW Ad)))))
def aIk{m:Md}(h:m.room=0)(s:Bs):Dy [.agg (GY m),.str s]=some (.tup [.agg (GY m),.str []]):=by
 refine Am (Qa rfl) ?_;unfold PQ;have f:(m.room=0)=True:=eq_true h;simp only[GY,Hc,Ql,Qm];simp (disch:=first|assumption|omega)only[Gv,↓C2,Gp,simprocAttr,GH,f]
 all_goals exact YT
def pA{m:Md}(h:m.room≠0){s:Bs}{e:Int}(hl:s.length<=1000000)(r:(D6 s).2=e)(d:1<=e∧e<=99):Dy [.agg (GY m),.str s]=some (.tup [.agg (GY m),.str (Hg (.fail e))]):=by
 refine Am (Qa rfl) ?_;unfold PQ;have f:(m.room=0)=False:=eq_false h;have y:=Ri s hl;rw[r]at y;have b:=U1 e d;have g:(e=0)=False:=eq_false O;unfold GT at y;generalize (D6 s).1=a at y;have k:D.cells (.agg (GO a))=GO a:=rfl;have u:∀{m:Gu} {i:Id},Ag (m.put i 0 (GO a)) i 0 11=some (GO a):=As (AR a);have c:∀{m:Gu} {i:Id} {xs:List D},xs.length=11->(Ag (m.put i 0 xs) i 0 11).isSome=true:=λh=>by rw[GQ h];rfl
 simp only[GY,Hc,Ql,Qm];simp (disch:=first|assumption|omega)only[Gv,↓C2,Gp,simprocAttr,GH,f,Ae C7 15,y,k,BA,BB,AL,AR,g,Ae C7 37,b]
 (refine aB (Al ?_) ?_;first|rfl|simp[AH,Ay,GK,Ai,Ac])
 simp (disch:=first|assumption|omega)only[Gv,↓C2,Gp,simprocAttr,GH,f,Ae C7 15,y,k,BA,BB,AL,AR,g,Ae C7 37,b]
 all_goals exact YT
def lO:∀(l:List Op1){t:Tr},Tr.Ord t.lst->(FG l t).cnt<=l.length+t.cnt
 |[],t,_=>by simp[FG]
 |x::r,t,h=>by
  have u:=(V5 x h).1;have z:=lO r (IL x h).1;simp only[FG,Qh];omega
def VE:∀l:List (Bs×Bs),(∀x∈l,x.1.length<=100∧x.2.length<=400)->Tr.sizeL l<=504*l.length
 |[],_=>by simp[Tr.sizeL]
 |x::l,h=>by
  have u:=h x Qv;have:=VE l λy s=>h y (Qt _ s)
  simp only[Tr.sizeL,Qy,Zm,Qh]at this ⊢;omega
def rM{v:Vw}{a:Ak}{o:Oc}(h:Ix v a o):uZ o.ops:=by
 obtain⟨y,_,_,_,⟨_,e,_⟩|⟨_,⟨_,e,_⟩|⟨_,_,e,_⟩⟩⟩:=h
 ·rw[e];exact⟨U,λx q=>XG⟩
 ·rw[e];exact⟨U,λx q=>XG⟩
 ·exact e
def aFf{t:Tr}{room:Int}(h:uQ t room){l:List Op1}(hl:uZ l):TrS (FG l t):=by
 obtain⟨u,v⟩:=TU l h.ord;have i:=lO l h.ord;have o:=h.cnt;have m:=hl.n;refine⟨O,λx q=>?_⟩;rcases v x q with h6|⟨z,d,_,rfl⟩
 ·exact⟨Qg (h.key x h6) V,Qg (h.val x h6) V⟩
 ·exact⟨Qg (hl.ok z d).1.1 V,Qg (hl.ok z d).1.2.1 V⟩
def OR{m:Md}(h:m.room≠0){s:Bs}(hl:s.length<=1000000){a:Ak}(r:D6 s=(a,0)){z:Kn->Oc}(w:kC m)(X:Hb m.vw a z):Dy [.agg (GY m),.str s]=some (.tup [.agg (GY (Ik m (Hw z m)).1),.str (Ik m (Hw z m)).2]):=by
 refine Am (Qa rfl) ?_;unfold PQ;have i:(m.room=0)=False:=eq_false h;have t:=Ri s hl;rw[r]at t;have u:=aD0 w X;obtain⟨hn,k,g,ho⟩:=TP w X;have c:uZ (Hw z m).ops:=rM (by rw[ho];exact X.rep k g (by rw[←ho];exact hn));have p:=aFf w.tr c;have la:=Iy p;have f:=aDY m.tr (Hw z m).nl (Hw z m).ops (Qg c.n V) (λx d=>⟨(c.ok x d).1.1,(c.ok x d).1.2.1⟩) w.tr.ord (by have:=w.tr.cnt;have:=c.n;omega) (by
  have h1:=VE m.tr.lst λx d=>⟨w.tr.key x d,w.tr.val x d⟩
  rw[←Tr.wgt_lst]at h1;have:=w.tr.len;have:=c.n;omega)
 have b:=U1 7 V;generalize Hw z m=o at *;have q:(DU o.ops).length=o.ops.length:=Qu ..;unfold Ik;generalize FG o.ops m.tr=T at *;unfold GT at t u;simp only[GY,Hc,Lh,GO,Ql,Qm]at t u ⊢;by_cases y:o.ops=[]
 ·rw[if_neg (λh=>h.1 y)];have c1:((0:Int)<(o.ops.length:Int))=False:=by rw[y];simp
  repeat' (first|(refine aB (Al ?_) ?_;first|rfl|simp[AH,Ay,GK,Ai,Ac])|simp (disch:=first|assumption|omega)only[Gv,↓C2,Gp,simprocAttr,GH,i,Ae C7 15,t,Ae C7 38,u,Ae C7 39,f,Ae C7 35,la,Ae C7 37,b,q,c1])
 ·have c1:((0:Int)<(o.ops.length:Int))=True:=eq_true (by have:o.ops.length≠0:=λe=>y (Zc.1 e);omega);by_cases v:m.room<(Tr.weighL T.lst:Int)
  ·rw[if_pos ⟨y,v⟩];have c2:(m.room<(Tr.weighL T.lst:Int))=True:=eq_true v
   repeat' (first|(refine aB (Al ?_) ?_;first|rfl|simp[AH,Ay,GK,Ai,Ac])|simp (disch:=first|assumption|omega)only[Gv,↓C2,Gp,simprocAttr,GH,i,Ae C7 15,t,Ae C7 38,u,Ae C7 39,f,Ae C7 35,la,Ae C7 37,b,q,c1,c2])
  ·rw[if_neg (λh=>v h.2)];have c2:(m.room<(Tr.weighL T.lst:Int))=False:=eq_false v
   repeat' (first|(refine aB (Al ?_) ?_;first|rfl|simp[AH,Ay,GK,Ai,Ac])|simp (disch:=first|assumption|omega)only[Gv,↓C2,Gp,simprocAttr,GH,i,Ae C7 15,t,Ae C7 38,u,Ae C7 39,f,Ae C7 35,la,Ae C7 37,b,q,c1,c2])
def aWE:=Ap []
def aPW:=RF aWE mX [.t 4] 26
def aS3:Kq aPW 197:=An aJ0 Ad
def lZ{S:Gq}{l:List Rl}{nl nl':Bool}{Q:Ex->St->Prop}(hl:l.length<=1000000)(v:∀p,Q (.exit 0) p):
  ∀(f j:Nat)(y:St) g,l.length=j+f->y.s 0= .slice nl [] (Ar l)->y.s 1= .slice nl' [] (Ar l)->y.s 12= .int .i64 (l.length:Int)->y.s 13= .int .i64 (j:Int)->A5 S [] Mb Q y g
 |0,j,y,g,hf,h0,h1,h12,h13=>by
  refine Af Mb.eq_1 ?_;have d:((j:Int)<l.length)=False:=eq_false O;simp only[Gv,↓C2,Gp,simprocAttr,h12,h13,d];exact v _
 |f+1,j,y,g,hf,h0,h1,h12,h13=>by
  have ih:=lZ (S:=S) (nl:=nl) (nl':=nl') hl v f (j+1);refine Af Mb.eq_1 ?_;have d:((j:Int)<l.length)=True:=eq_true O;have t:j<l.length:=O
  have q:(Ar l)[j]?=some (rlD l[j]):=by unfold Ar;rw[QE,Qd t];rfl
  unfold rlD at q;generalize l[j]=x at q;obtain⟨e,n,u⟩:=y;simp only at h0 h1 h12 h13;have w:=nJ (j:=j);have z:IntKind.i64.wrap ((j:Int)+1)=((j+1:Nat):Int):=GS O O
  repeat' (first|(refine aB (Al ?_) ?_;first|rfl|simp[AH,Ay,GK,Ai,Ac])|simp only[Gv,↓C2,Gp,simprocAttr,h0,h1,h12,h13,d,w,Qc,q,z,O2,A8,Ll,Qb,Qi,beq_self_eq_true,bne_self_eq_false])
  exact ih _ _ O h0 h1 h12 rfl
def aHq(nl nl':Bool)(l:List Rl)(hl:l.length<=1000000):aPW [.slice nl [] (Ar l),.slice nl' [] (Ar l)]=some (.bool true):=by
 refine Am (Qa rfl) ?_;unfold mX;have v:=AW l;simp only[Gv,↓C2,Gp,simprocAttr,v,bne_self_eq_false];refine lZ (nl:=nl) (nl':=nl') hl (λx=>?_) l.length 0 _ _ O rfl rfl rfl rfl;simp only[Gv,↓C2,Gp,simprocAttr]
 all_goals exact YT
def aVa:=Ap []
def aDO:=RF aVa aB0 [.t 4] 26
def aOp:Kq aDO 75:=An (Aj func75) Ad
def Ws{S:Gq}{l:List Mt}{nl nl':Bool}{Q:Ex->St->Prop}(hl:l.length<=1000000)(v:∀p,Q (.exit 0) p):
  ∀(f j:Nat)(y:St) g,l.length=j+f->y.s 0= .slice nl [] (AA l)->y.s 1= .slice nl' [] (AA l)->y.s 12= .int .i64 (l.length:Int)->y.s 13= .int .i64 (j:Int)->A5 S [] Mj Q y g
 |0,j,y,g,hf,h0,h1,h12,h13=>by
  refine Af Mj.eq_1 ?_;have d:((j:Int)<l.length)=False:=eq_false O;simp only[Gv,↓C2,Gp,simprocAttr,h12,h13,d];exact v _
 |f+1,j,y,g,hf,h0,h1,h12,h13=>by
  have ih:=Ws (S:=S) (nl:=nl) (nl':=nl') hl v f (j+1);refine Af Mj.eq_1 ?_;have d:((j:Int)<l.length)=True:=eq_true O;have t:j<l.length:=O
  have q:(AA l)[j]?=some (MI l[j]):=by unfold AA;rw[QE,Qd t];rfl
  unfold MI at q;generalize l[j]=x at q;obtain⟨e,n,u⟩:=y;simp only at h0 h1 h12 h13;have w:=nJ (j:=j);have z:IntKind.i64.wrap ((j:Int)+1)=((j+1:Nat):Int):=GS O O
  repeat' (first|(refine aB (Al ?_) ?_;first|rfl|simp[AH,Ay,GK,Ai,Ac])|simp only[Gv,↓C2,Gp,simprocAttr,h0,h1,h12,h13,d,w,Qc,q,z,O2,A8,Ll,Qb,Qi,beq_self_eq_true,bne_self_eq_false])
  exact ih _ _ O h0 h1 h12 rfl
def aDN(nl nl':Bool)(l:List Mt)(hl:l.length<=1000000):aDO [.slice nl [] (AA l),.slice nl' [] (AA l)]=some (.bool true):=by
 refine Am (Qa rfl) ?_;unfold aB0;have v:=AV l;simp only[Gv,↓C2,Gp,simprocAttr,v,bne_self_eq_false];refine Ws (nl:=nl) (nl':=nl') hl (λx=>?_) l.length 0 _ _ O rfl rfl rfl rfl;simp only[Gv,↓C2,Gp,simprocAttr]
 all_goals exact YT
def aUT:=Ap [(197,Ac aPW)]
def aQa:=RF aUT nA [.t 4] 8
def aTm:Kq aQa 132:=An aJ4 (Aa aS3 Ad)
def aHN(nl nl':Bool)(l:List Rl)(hl:l.length<=1000000):aQa [.slice nl [] (Ar l),.slice nl' [] (Ar l)]=some (.bool true):=by
 refine Am (Qa rfl) ?_;unfold nA;have a:=aHq nl nl' l hl;simp only[Gv,↓C2,Gp,simprocAttr,Ae aUT 197,a]
 all_goals exact YT
def aMv:=Ap [(132,Ac aQa)]
def dK:=RF aMv aBY [.t 4] 24
def aOn:Kq dK 77:=An (Aj func77) (Aa aTm Ad)
def aDK(k:Tk)(hl:k.2.2.2.length<=1000000):dK [O0 k,O0 k]=some (.bool true):=by
 refine Am (Qa rfl) ?_;unfold aBY;have b:=aHN k.2.2.1 k.2.2.1 k.2.2.2 hl;unfold O0;simp only[Gv,↓C2,Gp,simprocAttr,Ae aMv 132,b,beq_self_eq_true]
 all_goals exact YT
def aMD:=Ap [(75,Ac aDO)]
def aD5:=RF aMD aCc [.t 4] 10
def aOC:Kq aD5 32:=An (Aj func32) (Aa aOp Ad)
def aD4(nl nl':Bool)(l:List Mt)(hl:l.length<=1000000):aD5 [.agg [.slice nl [] (AA l)],.agg [.slice nl' [] (AA l)]]=some (.bool true):=by
 refine Am (Qa rfl) ?_;unfold aCc;have a:=aDN nl nl' l hl;simp only[Gv,↓C2,Gp,simprocAttr,Ae aMD 75,a]
 all_goals exact YT
def aMw:=Ap [(77,Ac dK)]
def aDM:=RF aMw aBZ [.t 6] 32
def aOo:Kq aDM 76:=An (Aj func76) (Aa aOn Ad)
def Wr{S:Gq}(e:S 77=some (Ac dK)){l:List Tk}{nl nl':Bool}{Q:Ex->St->Prop}(hl:l.length<=1000000)(o:∀k∈l,k.2.2.2.length<=1000000)(hQ:∀p,Q (.exit 0) p):
  ∀(f j:Nat)(y:St) g,l.length=j+f->y.s 1= .slice nl' [] (AG l)->y.s 15= .slice nl [] (AG l)->y.s 2= .fn 77 []->y.s 16= .int .i64 (l.length:Int)->y.s 17= .int .i64 (j:Int)->A5 S [] Mi Q y g
 |0,j,y,g,hf,h1,h15,h2,h16,h17=>by
  refine Af Mi.eq_1 ?_;have v:((j:Int)<l.length)=False:=eq_false O;simp only[Gv,↓C2,Gp,simprocAttr,h16,h17,v];exact hQ _
 |f+1,j,y,g,hf,h1,h15,h2,h16,h17=>by
  have ih:=Wr e (nl:=nl) (nl':=nl') hl o hQ f (j+1);refine Af Mi.eq_1 ?_;have v:((j:Int)<l.length)=True:=eq_true O;have t:j<l.length:=O
  have q:(AG l)[j]?=some (O0 l[j]):=by unfold AG;rw[QE,Qd t];rfl
  have d:=aDK l[j] (o _ (Qx t));unfold O0 at q d;generalize l[j]=x at q d;obtain⟨ka,fa,u⟩:=y;simp only at h1 h15 h2 h16 h17;have w:=nJ (j:=j);have z:IntKind.i64.wrap ((j:Int)+1)=((j+1:Nat):Int):=GS O O;have z3:∀{m:Gu} {i:Id} {a b c:D},Ag (m.put i 0 [a,b,c]) i 0 3=some [a,b,c]:=As rfl;have r:∀{m:Gu} {i j:Nat} {x:List D} {n:Nat},j≠i->Ag (m.put [i] 0 x) [j] 0 n=Ag m [j] 0 n:=λh=>AE (by simp[h])
  simp (disch:=first|assumption|omega)only[↓C2,Gt,simprocAttr,h1,h15,h2,h16,h17,v,w,Qc,q,z,z3,r,Ab e,d,Qe,and_self,Zi,ZD];exact ih _ _ O h1 h15 h2 h16 rfl
def aDL(nl nl':Bool)(l:List Tk)(hl:l.length<=1000000)(g:∀k∈l,k.2.2.2.length<=1000000):aDM [.slice nl [] (AG l),.slice nl' [] (AG l),.fn 77 []]=some (.bool true):=by
 refine Am (Qa rfl) ?_;have a:aMw 77=some (Ac dK):=rfl;unfold aBZ;have v:(AG l).length=l.length:=Qu ..;simp only[Gv,↓C2,Gp,simprocAttr,v,bne_self_eq_false];refine Wr a (nl:=nl) (nl':=nl') hl g (λx=>?_) l.length 0 _ _ O rfl rfl rfl rfl rfl;simp only[Gv,↓C2,Gp,simprocAttr]
 all_goals exact YT
def aMC:=Ap [(76,Ac aDM)]
def aD3:=RF aMC aCb [.t 4] 10
def aOB:Kq aD3 33:=An (Aj func33) (Aa aOo Ad)
def aD2(nl nl':Bool)(l:List Tk)(hl:l.length<=1000000)(g:∀k∈l,k.2.2.2.length<=1000000):aD3 [.agg [.slice nl [] (AG l)],.agg [.slice nl' [] (AG l)]]=some (.bool true):=by
 refine Am (Qa rfl) ?_;unfold aCb;have a:=aDL nl nl' l hl g;simp only[Gv,↓C2,Gp,simprocAttr,Ae aMC 76,a]
 all_goals exact YT
def aDg:=Ap [(32,Ac aD5),(33,Ac aD3)]
def aDU:=RF aDg aB5 [.t 4] 38
def aOw:Kq aDU 46:=An (Aj func46) (Aa aOC (Aa aOB Ad))
def dL(v:Vw)(w:v.ms.length<=1000000)(hl:v.ks.length<=1000000)(g:∀k∈v.ks,k.2.2.2.length<=1000000):aDU [Hv v,Hv v]=some (.bool true):=by
 refine Am (Qa rfl) ?_;unfold aB5;have b:=aD4 v.nlm v.nlm v.ms w;have z:=aD2 v.nlt v.nlt v.ks hl g;simp only[Hv,Hc];simp only[Gv,↓C2,Gp,simprocAttr,Ae aDg 32,b,Ae aDg 33,z,beq_self_eq_true]
 all_goals exact YT
def dD:=Ap [(46,Ac aDU),(47,Ac pD)]
def I9:=RF dD iS [.t 4] 24
def aAC:Kq I9 16:=An (Aj func16) (Aa aOw (Aa aNN Ad))
def oZ(m:Md)(w:m.vw.ms.length<=1000000)(hl:m.vw.ks.length<=1000000)(g:∀k∈m.vw.ks,k.2.2.2.length<=1000000)(s:Tr.Ord m.tr.lst)(y:m.tr.cnt<=400000):I9 [.agg (GY m),.agg (GY m)]=some (.bool true):=by
 refine Am (Qa rfl) ?_;unfold iS;have a:=dL m.vw w hl g;have b:=aIp s y;simp only[GY,Hv,Hc,Ql,Qm]at a ⊢;simp (disch:=first|assumption|omega)only[Gv,↓C2,Gp,simprocAttr,GH,Ae dD 46,a,Ae dD 47,b,beq_self_eq_true]
 all_goals exact YT
def aIj(m o:Md)(x:m.vw=o.vw)(i:m.room=o.room)(w:m.vw.ms.length<=1000000)(hl:m.vw.ks.length<=1000000)(g:∀k∈m.vw.ks,k.2.2.2.length<=1000000)(y:m.tr.cnt≠o.tr.cnt):I9 [.agg (GY m),.agg (GY o)]=some (.bool false):=by
 refine Am (Qa rfl) ?_;unfold iS;have a:=dL m.vw w hl g;have b:=aIq y;obtain⟨v,q,p⟩:=m;obtain⟨u,j,c⟩:=o;simp only at x i a b;subst x i;simp only[GY,Hv,Hc,Ql,Qm]at a ⊢;simp (disch:=first|assumption|omega)only[Gv,↓C2,Gp,simprocAttr,GH,Ae dD 46,a,Ae dD 47,b,beq_self_eq_true]
 all_goals exact YT
def aMF:=Ap [(35,Ac Tb)]
def aD9:=RF aMF aCf [.t 2] 9
def aOE:Kq aD9 17:=An (Aj func17) (Aa TW Ad)
def aD8(m:Md)(i:m.room≠0)(u:TrS m.tr):aD9 [.agg (GY m)]=some (.int .i64 ((Tr.weighL m.tr.lst:Nat):Int)):=by
 refine Am (Qa rfl) ?_;unfold aCf;have z:=Iy u;have f:(m.room=0)=False:=eq_false i;simp only[GY,Hc,Ql,Qm];simp (disch:=first|assumption|omega)only[Gv,↓C2,Gp,simprocAttr,GH,Ae aMF 35,z,f]
 all_goals exact YT
def aVb:=Ap []
def oY:=RF aVb aCe [.t 2] 5
def aOD:Kq oY 18:=An (Aj func18) Ad
def aD7(m:Md):oY [.agg (GY m)]=some (.int .i64 m.room):=by
 refine Am (Qa rfl) ?_;unfold aCe;simp only[GY,Hc,Ql,Qm];simp (disch:=first|assumption|omega)only[Gv,↓C2,Gp,simprocAttr,GH]
 all_goals exact YT
def aMx:=Ap [(26,Ac aHY)]
def S6:=RF aMx aB1 [.t 4] 15
def aOq:Kq S6 71:=An (Aj func71) (Aa aJF Ad)
def Rg(k:Int)(name:Bs)(hl:name.length<=1000000):S6 [.int .u8 k,.str name]=some (.str (AX k name 0)):=by
 refine Am (Qa rfl) ?_;unfold aB1;have a:=oK k 0 name hl;simp only[Gv,↓C2,Gp,simprocAttr,Ae aMx 26,a]
 all_goals exact YT
def xW:Bs:=[114,111,111,116]
def LR:Bs:=[115,47,114,105,110,103]
def Pf:Bs:=[115,47,109,111,117,110,116,115]
def VS:Bs:=[116,47,114,111,111,116]
def VR:Bs:=BY [[],Cw (BH [([],63)])]
def LQ:Bs:=List.replicate 17 0
def firstE:Tr:=((Tr.nil.put LR LQ).put Pf []).put VS VR
def ME:=Ap [(80,Ac F48),(81,Ac F35),(82,Ac uV),(84,Ac RP),(85,Ac aDr),(86,Ac vN),(71,Ac S6),(83,Ac oV)]
def oX:=RF ME aCa [.cell (some 1) 0] 30
def aAz:Kq oX 36:=An (Aj func36) (Aa aRt (Aa aRx (Aa aJK (Aa aJN (Aa aJM (Aa zB (Aa aOq (Aa aAy Ad))))))))
def Rh:oX []=some (.agg [GF firstE]):=by
 refine Am (Qa rfl) ?_;unfold aCa;have f:F48 []=some (.agg [.slice false [] (AG [Cn])]):=rfl;have z:F35 [.agg [.slice false [] (AG [Cn])],.str [114,111,111,116]]=some (.tup [O0 Cn,.bool true]):=aEs V (λk o=>by rw[Qk.1 o];exact⟨V,λh=>Xc⟩);have z:=(z:F35 _=_);unfold O0 Cn at z;have g:uV [O0 Cn]=some (.tup [.str VR,.int .i64 0]):=oL [114,111,111,116] [] false [([],63)] (Cw (BH [([],63)])) (Cp [([],63)]) (by rw[Vb V (λr i=>by rw[Qk.1 i];decide) V V];rfl) (by rw[U9 V (λr i=>by rw[Qk.1 i];decide)];rfl) V Xl;unfold O0 Cn at g;have a:aDr [.int .i64 1]=some (.int .i64 17):=oO 1;have d:RP [.str [0],.int .i64 17]=some (.str LQ):=rfl;have b:vN [.agg [.slice true [] (AA [])]]=some (.str []):=Va ⟨V,λm w=>by cases w⟩;have x:S6 [.int .u8 5,.str []]=some (.str LR):=Rg 5 [] V;have u:S6 [.int .u8 4,.str []]=some (.str Pf):=Rg 4 [] V;have q:S6 [.int .u8 3,.str [114,111,111,116]]=some (.str VS):=Rg 3 [114,111,111,116] V;have t:=MG Tr.nil LR LQ V V;have c:=MG (Tr.nil.put LR LQ) Pf [] V V;have v:=MG ((Tr.nil.put LR LQ).put Pf []) VS VR V Xl;rw[IB]at t;unfold firstE;generalize (((Tr.nil.put LR LQ).put Pf []).put VS VR)=y at *;generalize ((Tr.nil.put LR LQ).put Pf [])=p at *;generalize (Tr.nil.put LR LQ)=j at *;simp only[AG,O0,Cn,AA,Qy,QF]at f z b
 repeat' (first|(refine aB (Al ?_) ?_;first|rfl|simp[AH,Ay,GK,Ai,Ac])|simp (disch:=first|assumption|omega)only[Gv,↓C2,Gp,simprocAttr,GH,Ae ME 80,f,Ae ME 81,z,Ae ME 82,g,Ae ME 85,a,Ae ME 84,d,Ae ME 86,b,Ae ME 71,x,u,q,Ae ME 83,t,c,v])
def Ul:Tr.weighL firstE.lst<=300:=Xl
def aA9:21<=Tr.weighL firstE.lst:=Xl
def rQ:Tr.Ord firstE.lst:=by
 have f:Tr.Ord Tr.nil.lst:=List.Pairwise.nil;have u:=(IL (1,LR,LQ) f).1;have z:=(IL (1,Pf,[]) u).1;exact(IL (1,VS,VR) z).1
def WV:∀x∈firstE.lst,x.1.length<=100∧x.2.length<=400:=Xl
def mN{room:Int}(h:300<=room)(z:room<=70000):uQ firstE room:=⟨rQ,λx q=>(WV x q).1,λx q=>(WV x q).2,by have:=Ul;omega,z⟩
def Ol:TrS firstE:=(mN (room:=300) (Zh _) V).trS
def vR:Md:=⟨⟨false,0,[],true,[],true,[]⟩,.nil,0⟩
def NJ(z:Bs)(room:Int):Md:=⟨aGr z false,firstE,room⟩
def S5:=Ap [(36,Ac oX),(35,Ac Tb),(78,Ac F23)]
def MH:=RF S5 UI [.cell (some 7) 4,.t 5] 26
def aAA:Kq MH 34:=An (Aj func34) (Aa aAz (Aa TW (Aa aVV Ad)))
def dP(z:Bs)(room:Int)(g:z.length=16)(i:room<=1048576)(v:(Tr.weighL firstE.lst:Int)<=room):MH [.str z,.int .i64 room]=some (.tup [.agg (GY (NJ z room)),.int .i64 0]):=by
 refine Am (Qa rfl) ?_;unfold UI;have e:=Iy Ol;have d:=Rh;have o:F23 [.str z]=some (Hv (aGr z false)):=rfl;have c1:((z.length:Int)=16)=True:=eq_true O;have u:((1048576:Int)<room)=False:=eq_false O;have a:(room<(Tr.weighL firstE.lst:Int))=False:=eq_false O;simp only[NJ,GY,Hv,Hc,Ql,Qm]at o ⊢;generalize firstE=t at *
 repeat' (first|(refine aB (Al ?_) ?_;first|rfl|simp[AH,Ay,GK,Ai,Ac])|simp (disch:=first|assumption|omega)only[Gv,↓C2,Gp,simprocAttr,GH,Ae S5 36,d,Ae S5 35,e,Ae S5 78,o,c1,u,a,bne_self_eq_false])
def uY(z:Bs)(room:Int)(g:z.length≠16):MH [.str z,.int .i64 room]=some (.tup [.agg (GY vR),.int .i64 2]):=by
 refine Am (Qa rfl) ?_;unfold UI;have c1:((z.length:Int)=16)=False:=eq_false O;simp only[vR,GY,Hc,Ql,Qm,IB]
 repeat' (first|(refine aB (Al ?_) ?_;first|rfl|simp[AH,Ay,GK,Ai,Ac])|simp (disch:=first|assumption|omega)only[Gv,↓C2,Gp,simprocAttr,GH,c1])
 all_goals exact YT
def kB(z:Bs)(room:Int)(g:z.length=16)(i:room<=1048576)(v:room<(Tr.weighL firstE.lst:Int)):MH [.str z,.int .i64 room]=some (.tup [.agg (GY vR),.int .i64 7]):=by
 refine Am (Qa rfl) ?_;unfold UI;have e:=Iy Ol;have d:=Rh;have c1:((z.length:Int)=16)=True:=eq_true O;have u:((1048576:Int)<room)=False:=eq_false O;have a:(room<(Tr.weighL firstE.lst:Int))=True:=eq_true O;simp only[vR,GY,Hc,Ql,Qm,IB];generalize firstE=t at *
 repeat' (first|(refine aB (Al ?_) ?_;first|rfl|simp[AH,Ay,GK,Ai,Ac])|simp (disch:=first|assumption|omega)only[Gv,↓C2,Gp,simprocAttr,GH,Ae S5 36,d,Ae S5 35,e,c1,u,a])
 all_goals exact YT
def RA:Bs:=[48,49,50,51,52,53,54,55,56,57,97,98,99,100,101,102]
def aDh:=Ap [(34,Ac MH),(11,Ac Dy)]
def aEb:=RF aDh aCh [.cell (some 7) 4,.t 5] 38
def aOF:Kq aEb 10:=An (Aj func10) (Aa aAA (Aa gI Ad))
def aEa(r:Int)(f:0<=r)(u:r<65536):aEb [.int .u16 r,.slice true [] []]=some (.tup [.agg (GY (NJ RA (300+r))),.bool true]):=by
 refine Am (Qa rfl) ?_;unfold aCh;have x:=dP RA (300+r) rfl O (by have:=Ul;omega);have c:IntKind.i64.wrap r=r:=GS O O;have i:IntKind.i64.wrap (300+r)=300+r:=GS O O;generalize NJ RA (300+r)=m at *;unfold RA at x;simp only[GY,Hc,Ql,Qm]at x ⊢
 repeat' (first|(refine aB (Al ?_) ?_;first|rfl|simp[AH,Ay,GK,Ai,Ac])|simp (disch:=first|assumption|omega)only[Gv,↓C2,Gp,simprocAttr,GH,Ae aDh 34,x,c,i])
 refine Af bV.eq_1 ?_;have b:((0:Int)<((0:Nat):Int))=False:=eq_false V
 repeat' (first|(refine aB (Al ?_) ?_;first|rfl|simp[AH,Ay,GK,Ai,Ac])|simp (disch:=first|assumption|omega)only[Gv,↓C2,Gp,simprocAttr,GH,Ae aDh 34,x,c,i,b])
def V3(l:List Bs):Int:=if 40<l.length then 1 else if l.all (λs=>decide (s.length<=500))=true then 0 else 1
def aVc:=Ap []
def aEf:=RF aVc aCj [.t 2] 19
def aOH:Kq aEf 8:=An (Aj func8) Ad
def Ww{S:Gq}{l:List Bs}{nl:Bool}{Q:Ex->St->Prop}(hl:l.length<=40){R:Int}(o:∀p,p.s 2= .int .i64 R->Q .ret p)(w:∀p,R=0->Q (.exit 0) p):
  ∀(f j:Nat)(y:St) g,l.length=j+f->(if(l.drop j).all (λs=>decide (s.length<=500))=true then(0:Int)else 1)=R->y.s 0= .slice nl [] (strsD l)->y.s 3= .int .i64 (j:Int)->A5 S [] Mr Q y g
 |0,j,y,g,hf,hR,h0,h3=>by
  refine Af Mr.eq_1 ?_;have d:((j:Int)<l.length)=False:=eq_false O;rw[Q0 O]at hR;have v:=AP l;simp only[Gv,↓C2,Gp,simprocAttr,h0,h3,d,v];exact w _ hR.symm
 |f+1,j,y,g,hf,hR,h0,h3=>by
  have ih:=Ww (S:=S) (nl:=nl) hl o w f (j+1);refine Af Mr.eq_1 ?_;have d:((j:Int)<l.length)=True:=eq_true O;have t:j<l.length:=O
  have q:=Df t;have v:=AP l;rw[QC t,ZE]at hR;generalize l[j]=x at q hR;obtain⟨e,n,u⟩:=y;simp only at h0 h3;have i:=nJ (j:=j);have z:IntKind.i64.wrap ((j:Int)+1)=((j+1:Nat):Int):=GS O O;by_cases k:x.length<=500
  ·have c1:((500:Int)<(x.length:Int))=False:=eq_false O;rw[decide_eq_true k,Bool.true_and]at hR;simp only[Gv,↓C2,Gp,simprocAttr,h0,h3,d,v,i,Qc,q,z,c1];exact ih _ _ O hR h0 rfl
  ·have c1:((500:Int)<(x.length:Int))=True:=eq_true O;rw[decide_eq_false k,Bool.false_and]at hR;simp only[Q7,if_false]at hR;subst hR;simp only[Gv,↓C2,Gp,simprocAttr,h0,h3,d,v,i,Qc,q,z,c1];exact o _ rfl
def aEe(nl:Bool)(l:List Bs):aEf [.slice nl [] (strsD l)]=some (.int .i64 (V3 l)):=by
 refine Am (Qa rfl) ?_;unfold aCj;have v:=AP l;unfold V3;by_cases o:40<l.length
 ·rw[if_pos o];have c1:((40:Int)<(l.length:Int))=True:=eq_true O;simp only[Gv,↓C2,Gp,simprocAttr,v,c1]
  all_goals exact YT
 ·rw[if_neg o];have c1:((40:Int)<(l.length:Int))=False:=eq_false O;simp only[Gv,↓C2,Gp,simprocAttr,v,c1];refine Ww (nl:=nl) O (R:=if l.all (λs=>decide (s.length<=500))=true then(0:Int)else 1) (λx z=>?_) (λx h=>?_) l.length 0 _ _ O rfl rfl rfl
  ·simp only[Gv,↓C2,Gp,simprocAttr,z]
   all_goals exact YT
  ·rw[h];simp only[Gv,↓C2,Gp,simprocAttr]
   all_goals exact YT
def aGC(b:Bool):0<=CQ b∧CQ b<=99:=by cases b<;>decide
def aFJ(s:Bs):0<=(IV s).2.2∧(IV s).2.2<=99:=by
 have:=TM ((splitC 44 s).map VN);unfold IV
 repeat' split
 all_goals simp only
 all_goals omega
def aFI(s:Bs)(h:(IV s).1=true):(IV s).2.1=[]:=by
 unfold IV at h ⊢
 repeat' split
 all_goals first|rfl|(simp_all;done)
def aJW{α:Type}(P:α->Prop){c:Prop}[Decidable c]{x y:α}(u:P x)(z:P y):P (if c then x else y):=by
 split
 ·exact u
 ·exact z
def yI(a:Ak)(c:Int)(s:Bs):0<=(DT a c s).2∧(DT a c s).2<=99:=by
 unfold DT
 repeat' refine aJW (λz:Ak×Int=>0<=z.2∧z.2<=99) ?_ ?_
 all_goals dsimp only
 all_goals with_reducible first|exact SQ _ _|exact aGC _|exact aFJ _|exact⟨V,V⟩
def aNC{a:Ak}(x:I_ a){c:Int}{s:Bs}(g:s.length<=400):I_ (DT a c s).1:=by
 have t:=yO s g;have y:=aFI s;have h:FT (DT a c s).1.rs∧((DT a c s).1.nlr=true->(DT a c s).1.rs=[]):=by
  unfold DT
  repeat' refine aJW (λz:Ak×Int=>FT z.1.rs∧(z.1.nlr=true->z.1.rs=[])) ?_ ?_
  all_goals first|exact⟨x.cap,x.nlr⟩|exact⟨λr i=>(t.2 r i).2,y⟩
 exact⟨TF x.ok g,h.1,h.2⟩
def aCJ{op:Int}(f:0<=op)(h:op<=18):I_ {akZ with op:=op}:={ok:=aCR f h,cap:=λr i=>(by cases i),nlr:=λ_=>rfl}
def cT:I_ akZ:=aCJ (op:=0) V V
def lK:∀(ls:Bs)(r:List Bs){a:Ak},I_ a->(∀w∈r,w.length<=400)->I_ (E_ a ls r).1∧0<=(E_ a ls r).2∧(E_ a ls r).2<=99
 |[],_,a,ha,_=>⟨ha,XX,XX⟩
 |_::_,[],a,_,_=>⟨cT,XX,XX⟩
 |c::ls,w::r,a,ha,hw=>by
  have u:=yI a (c.toNat:Int) w;simp only[E_];split
  ·exact⟨cT,u.1,u.2⟩
  ·exact lK ls r (aNC ha (hw w Qv)) λx q=>hw x (Qt _ q)
def nR(s:Bs):I_ (D6 s).1∧0<=(D6 s).2∧(D6 s).2<=99:=by
 unfold D6;split
 ·exact⟨cT,V,V⟩
 split
 ·exact⟨cT,V,V⟩
 split
 ·exact⟨cT,V,V⟩
 ·have h:=aJc ((splitC 32 s).getD 0 []);refine lK _ _ (aCJ h.1 h.2) λw v=>?_
  have:=Fy s w (List.mem_of_mem_drop v);omega
structure aMp (m:Md) (s:Bs) (m':Md) (y:Ry):Prop where
 run:Dy [.agg (GY m),.str s]=some (.tup [.agg (GY m'),.str (Hg y)])
 e:Hh y=0
 n:vQ y
 md:kC m'
 room:m'.room=m.room
 fl:(∃e,y= .fail e)->m'=m
 bad:(D6 s).2≠0->y= .fail (D6 s).2∧m'=m
 ro:((D6 s).1.op=1∨(D6 s).1.op=9∨(D6 s).1.op=14∨(D6 s).1.op=17)->m'=m
def xB{m:Md}(w:kC m)(i:m.room≠0)(s:Bs)(hl:s.length<=1000000):∃m' y,aMp m s m' y:=by
 obtain⟨x,b1,q⟩:=nR s;by_cases r:(D6 s).2=0
 ·obtain⟨z,X,_⟩:=aGG w.vw x;have d:D6 s=((D6 s).1,0):=ZK rfl r;have e:=OR i hl d w X;obtain⟨c,k,g,b⟩:=TP w X;have p:Ix m.vw (D6 s).1 (Hw z m):=by rw[b];exact X.rep k g (by rw[←b];exact c)
  obtain⟨u,t,⟨y,j,f,n,a⟩,o⟩:=Om w p;rw[n]at e;exact⟨_,y,e,j,f,u,t,a,λh=>absurd r h,o⟩
 ·exact⟨m,.fail (D6 s).2,pA i hl rfl ⟨O,q⟩,if_pos ⟨O,q⟩,trivial,w,rfl,λ_=>rfl,λ_=>⟨rfl,rfl⟩,λ_=>rfl⟩
def kC.same{m:Md}(h:kC m):I9 [.agg (GY m),.agg (GY m)]=some (.bool true):=
 oZ m (Qg h.vw.ml V) (Qg h.vw.kl V) (λk g=>(h.vw.ok.kp k g).1.1) h.tr.ord (Qg h.tr.cnt V)
def xA{m:Md}{s:Bs}{m':Md}{y:Ry}(h:aMp m s m' y):F34 [.str (Hg y)]=some (.tup [.agg (GW (Rs y)),.int .i64 0]):=aQs (aI9 h.e h.n).2 (aI9 h.e h.n).1
def rA:kE [Cn]:=by
 refine⟨λi j u z=>by simp at z;omega,⟨λs=>if s=[]then 0 else 1,⟨λt k=>?_,λt k=>?_,List.pairwise_singleton _ _⟩,rfl⟩,λt k=>?_,λt k=>?_⟩
 ·rw[Qk.1 k];decide
 ·rw[Qk.1 k];decide
 ·rw[Qk.1 k];decide
 ·rw[Qk.1 k];exact .inl rfl
def aOJ(z:Bs):GV (aGr z false):=
 ⟨⟨Qp _,λm w=>(by cases w),Qa rfl,λk g=>(by rw[Qk.1 g];exact⟨⟨V,λh=>Xc⟩,V,λr n=>(by rw[Qk.1 n];decide),λr n=>(by rw[Qk.1 n];decide)⟩)⟩,rA,λi j u t=>absurd t (by show ¬j<0;omega),λ_=>rfl,⟨Zh 1,(by show(1:Int)<=6;decide)⟩,Qa rfl,Qp _,λm w=>(by cases w)⟩
def aJt{r:Int}(f:0<=r)(u:r<65536):kC (NJ RA (300+r)):=⟨aOJ _,mN (by show(300:Int)<=300+r;omega) (by show(300:Int)+r<=70000;omega)⟩
def xI(y:Ry):∃v f n d i k p c z u x t,GW (Rs y)=[.int .u8 v,.int .i64 f,.int .i64 n,.str d,.slice i [] k,.int .i64 p,.bool c,.int .i64 z,.slice u [] x,.bool t]∧((v=0∧∃e,y= .fail e∧f=e)∨(v≠0∧∀e,y≠ .fail e)):=by
 cases y with
 |fail e=>exact⟨_,_,_,_,_,_,_,_,_,_,_,_,rfl,.inl ⟨rfl,e,rfl,rfl⟩⟩
 |done=>exact⟨_,_,_,_,_,_,_,_,_,_,_,_,rfl,.inr ⟨V,λe h=>Xc⟩⟩
 |number n=>exact⟨_,_,_,_,_,_,_,_,_,_,_,_,rfl,.inr ⟨V,λe h=>Xc⟩⟩
 |found n d=>exact⟨_,_,_,_,_,_,_,_,_,_,_,_,rfl,.inr ⟨V,λe h=>Xc⟩⟩
 |about s=>exact⟨_,_,_,_,_,_,_,_,_,_,_,_,rfl,.inr ⟨V,λe h=>Xc⟩⟩
 |names nl l=>exact⟨_,_,_,_,_,_,_,_,_,_,_,_,rfl,.inr ⟨V,λe h=>Xc⟩⟩
 |state b=>exact⟨_,_,_,_,_,_,_,_,_,_,_,_,rfl,.inr ⟨V,λe h=>Xc⟩⟩
def Lj{m:Gu}{i:Id}{a b c d e f g:D}:Ag (m.put i 0 [a,b,c,d,e,f,g]) i 0 7=some [a,b,c,d,e,f,g]:=As rfl
def HE{m:Gu}{i:Id}{a b c d e f g h j k:D}:Ag (m.put i 0 [a,b,c,d,e,f,g,h,j,k]) i 0 10=some [a,b,c,d,e,f,g,h,j,k]:=As rfl
def IT{m:Gu}{i:Id}{a b c d e f g h j k l:D}:Ag (m.put i 0 [a,b,c,d,e,f,g,h,j,k,l]) i 0 11=some [a,b,c,d,e,f,g,h,j,k,l]:=As rfl
def Lc{m:Gu}{i:Id}{a b c d e f g h j k:D}:m.put i 0 [a,b,c,d,e,f,g,h,j,k] i 0=some a:=A7 (k:=0) HE rfl
def Lb{m:Gu}{i:Id}{a b c d e f g h j k:D}:m.put i 0 [a,b,c,d,e,f,g,h,j,k] i 1=some b:=A7 (k:=1) HE rfl
def La{m:Gu}{i:Id}{a b c d e f g h j k l:D}:m.put i 0 [a,b,c,d,e,f,g,h,j,k,l] i 0=some a:=A7 (k:=0) IT rfl
def pO{m:Gu}{i j o:Nat}{x:List D}(h:j≠i):m.put [i] 0 x [j] o=m [j] o:=aA (by simp[h])
def aAh{S:Gq}(ea:S 11=some (Ac Dy))(ga:S 28=some (Ac F34))(u:S 16=some (Ac I9))(v:S 15=some (Ac S7)){l:List Bs}{nl:Bool}{Q:Ex->St->Prop}(hl:∀s∈l,s.length<=500)(hn:l.length<=40)(hQ:∀ha,Q (.exit 0) ha):
  ∀(f j:Nat)(m:Md)(st:St) g,l.length=j+f->kC m->m.room≠0->10<=st.c->st.s 1= .slice nl [] (strsD l)->st.s 5= .ptr [9] 0->st.s 7= .int .i64 (j:Int)->Ag st.m [9] 0 7=some (GY m)->A5 S [] Ms Q st g:=by
 intro f;induction f with
 |zero=>
  intro j m st g hf hm hr hc h1 h5 h7 m0;refine Af Ms.eq_1 ?_;have d1:((j:Int)<l.length)=False:=eq_false O;have ba:=AP l;simp only[Gv,↓C2,Gp,simprocAttr,h1,h7,ba,d1];exact hQ _
 |succ f ih=>
  intro j m st g hf hm hr hc h1 h5 h7 m0;refine Af Ms.eq_1 ?_;have d1:((j:Int)<l.length)=True:=eq_true O;have ba:=AP l;have hj:j<l.length:=O
  have hx:=Df hj;have ya:=hl _ (Qx hj);generalize l[j]=x at hx ya;obtain⟨m',y,T⟩:=xB hm hr x O;have ih:=ih (j+1) m';have ma:=T.run;have ra:=xA T;have qa:=Ri x O;have ca:=hm.same;obtain⟨kd,er,n,d,b1,l1,mx,c,la,b2,l2,b3,bb,xa⟩:=xI y;obtain⟨ka,fa,da⟩:=st;simp only at hc h1 h5 h7 m0;have w:∀k,(9=da+k)=False:=λk=>eq_false O
  have q:∀k,(da+k=9)=False:=λk=>eq_false O
  have oa:=nJ (j:=j);have aa:IntKind.i64.wrap ((j:Int)+1)=((j+1:Nat):Int):=GS O O;have ta:=T.ro;have na:=T.bad;have wa:=T.fl;have hI:=T.md;have ja:=T.room;generalize D6 x=z at qa ta na;obtain⟨a,e⟩:=z;simp only at qa ta na;generalize Hg y=rt at ma ra;simp only[GY,Hc,GT,GO,Ql,Qm]at ma qa ca m0;rw[bb]at ra;rcases xa with ⟨sa,e0,rfl,ab⟩|⟨sa,za⟩
  ·obtain rfl:m'=m:=wa ⟨e0,rfl⟩;have p:(kd=0)=True:=eq_true sa;by_cases he:e=0
   ·have ia:(e=0)=True:=eq_true he;by_cases ua:a.op=1
    ·have h:(a.op=1)=True:=eq_true ua
     repeat' (first|(refine aB (Al Xo) ?_)|simp (disch:=first|assumption|omega)only[↓C2,Gt,simprocAttr,GH,h1,h5,h7,ba,d1,hx,oa,Qc,aa,m0,Ab ea,ma,Ab ga,ra,Ab u,ca,Ab v,qa,Lj,HE,IT,Lc,Lb,La,Rp,pO,p,h,ia,Qe,and_self])
     exact ih _ _ O hI Xp Xa h1 h5 rfl (As rfl)
    have h:(a.op=1)=False:=eq_false ua;by_cases pa:a.op=9
    ·have i:(a.op=9)=True:=eq_true pa
     repeat' (first|(refine aB (Al Xo) ?_)|simp (disch:=first|assumption|omega)only[↓C2,Gt,simprocAttr,GH,h1,h5,h7,ba,d1,hx,oa,Qc,aa,m0,Ab ea,ma,Ab ga,ra,Ab u,ca,Ab v,qa,Lj,HE,IT,Lc,Lb,La,Rp,pO,p,h,i,ia,Qe,and_self])
     exact ih _ _ O hI Xp Xa h1 h5 rfl (As rfl)
    have i:(a.op=9)=False:=eq_false pa;by_cases r:a.op=14
    ·have b:(a.op=14)=True:=eq_true r
     repeat' (first|(refine aB (Al Xo) ?_)|simp (disch:=first|assumption|omega)only[↓C2,Gt,simprocAttr,GH,h1,h5,h7,ba,d1,hx,oa,Qc,aa,m0,Ab ea,ma,Ab ga,ra,Ab u,ca,Ab v,qa,Lj,HE,IT,Lc,Lb,La,Rp,pO,p,h,i,b,ia,Qe,and_self])
     exact ih _ _ O hI Xp Xa h1 h5 rfl (As rfl)
    have b:(a.op=14)=False:=eq_false r;by_cases t:a.op=17
    ·have o:(a.op=17)=True:=eq_true t
     repeat' (first|(refine aB (Al Xo) ?_)|simp (disch:=first|assumption|omega)only[↓C2,Gt,simprocAttr,GH,h1,h5,h7,ba,d1,hx,oa,Qc,aa,m0,Ab ea,ma,Ab ga,ra,Ab u,ca,Ab v,qa,Lj,HE,IT,Lc,Lb,La,Rp,pO,p,h,i,b,o,ia,Qe,and_self])
     exact ih _ _ O hI Xp Xa h1 h5 rfl (As rfl)
    have o:(a.op=17)=False:=eq_false t
    repeat' (first|(refine aB (Al Xo) ?_)|simp (disch:=first|assumption|omega)only[↓C2,Gt,simprocAttr,GH,h1,h5,h7,ba,d1,hx,oa,Qc,aa,m0,Ab ea,ma,Ab ga,ra,Ab u,ca,Ab v,qa,Lj,HE,IT,Lc,Lb,La,Rp,pO,p,h,i,b,o,ia,Qe,and_self])
    exact ih _ _ O hI Xp Xa h1 h5 rfl (As rfl)
   ·have ia:(e=0)=False:=eq_false he;have hb:=(na he).1;have va:er=e:=by cases hb;exact ab
    subst va;by_cases ua:a.op=1
    ·have h:(a.op=1)=True:=eq_true ua
     repeat' (first|(refine aB (Al Xo) ?_)|simp (disch:=first|assumption|omega)only[↓C2,Gt,simprocAttr,GH,h1,h5,h7,ba,d1,hx,oa,Qc,aa,m0,Ab ea,ma,Ab ga,ra,Ab u,ca,Ab v,qa,Lj,HE,IT,Lc,Lb,La,Rp,pO,p,h,ia,Qe,and_self])
     exact ih _ _ O hI Xp Xa h1 h5 rfl (As rfl)
    have h:(a.op=1)=False:=eq_false ua;by_cases pa:a.op=9
    ·have i:(a.op=9)=True:=eq_true pa
     repeat' (first|(refine aB (Al Xo) ?_)|simp (disch:=first|assumption|omega)only[↓C2,Gt,simprocAttr,GH,h1,h5,h7,ba,d1,hx,oa,Qc,aa,m0,Ab ea,ma,Ab ga,ra,Ab u,ca,Ab v,qa,Lj,HE,IT,Lc,Lb,La,Rp,pO,p,h,i,ia,Qe,and_self])
     exact ih _ _ O hI Xp Xa h1 h5 rfl (As rfl)
    have i:(a.op=9)=False:=eq_false pa;by_cases r:a.op=14
    ·have b:(a.op=14)=True:=eq_true r
     repeat' (first|(refine aB (Al Xo) ?_)|simp (disch:=first|assumption|omega)only[↓C2,Gt,simprocAttr,GH,h1,h5,h7,ba,d1,hx,oa,Qc,aa,m0,Ab ea,ma,Ab ga,ra,Ab u,ca,Ab v,qa,Lj,HE,IT,Lc,Lb,La,Rp,pO,p,h,i,b,ia,Qe,and_self])
     exact ih _ _ O hI Xp Xa h1 h5 rfl (As rfl)
    have b:(a.op=14)=False:=eq_false r;by_cases t:a.op=17
    ·have o:(a.op=17)=True:=eq_true t
     repeat' (first|(refine aB (Al Xo) ?_)|simp (disch:=first|assumption|omega)only[↓C2,Gt,simprocAttr,GH,h1,h5,h7,ba,d1,hx,oa,Qc,aa,m0,Ab ea,ma,Ab ga,ra,Ab u,ca,Ab v,qa,Lj,HE,IT,Lc,Lb,La,Rp,pO,p,h,i,b,o,ia,Qe,and_self])
     exact ih _ _ O hI Xp Xa h1 h5 rfl (As rfl)
    have o:(a.op=17)=False:=eq_false t
    repeat' (first|(refine aB (Al Xo) ?_)|simp (disch:=first|assumption|omega)only[↓C2,Gt,simprocAttr,GH,h1,h5,h7,ba,d1,hx,oa,Qc,aa,m0,Ab ea,ma,Ab ga,ra,Ab u,ca,Ab v,qa,Lj,HE,IT,Lc,Lb,La,Rp,pO,p,h,i,b,o,ia,Qe,and_self])
    exact ih _ _ O hI Xp Xa h1 h5 rfl (As rfl)
  ·have p:(kd=0)=False:=eq_false sa;have he:e=0:=Decidable.byContradiction λhe=>za _ (na he).1
   have ia:(e=0)=True:=eq_true he;by_cases ua:a.op=1
   ·have h:(a.op=1)=True:=eq_true ua;obtain rfl:m'=m:=ta O
    repeat' (first|(refine aB (Al Xo) ?_)|simp (disch:=first|assumption|omega)only[↓C2,Gt,simprocAttr,GH,h1,h5,h7,ba,d1,hx,oa,Qc,aa,m0,Ab ea,ma,Ab ga,ra,Ab u,ca,Ab v,qa,Lj,HE,IT,Lc,Lb,La,Rp,pO,p,h,ia,Qe,and_self])
    exact ih _ _ O hI Xp Xa h1 h5 rfl (As rfl)
   have h:(a.op=1)=False:=eq_false ua;by_cases pa:a.op=9
   ·have i:(a.op=9)=True:=eq_true pa;obtain rfl:m'=m:=ta O
    repeat' (first|(refine aB (Al Xo) ?_)|simp (disch:=first|assumption|omega)only[↓C2,Gt,simprocAttr,GH,h1,h5,h7,ba,d1,hx,oa,Qc,aa,m0,Ab ea,ma,Ab ga,ra,Ab u,ca,Ab v,qa,Lj,HE,IT,Lc,Lb,La,Rp,pO,p,h,i,ia,Qe,and_self])
    exact ih _ _ O hI Xp Xa h1 h5 rfl (As rfl)
   have i:(a.op=9)=False:=eq_false pa;by_cases r:a.op=14
   ·have b:(a.op=14)=True:=eq_true r;obtain rfl:m'=m:=ta O
    repeat' (first|(refine aB (Al Xo) ?_)|simp (disch:=first|assumption|omega)only[↓C2,Gt,simprocAttr,GH,h1,h5,h7,ba,d1,hx,oa,Qc,aa,m0,Ab ea,ma,Ab ga,ra,Ab u,ca,Ab v,qa,Lj,HE,IT,Lc,Lb,La,Rp,pO,p,h,i,b,ia,Qe,and_self])
    exact ih _ _ O hI Xp Xa h1 h5 rfl (As rfl)
   have b:(a.op=14)=False:=eq_false r;by_cases t:a.op=17
   ·have o:(a.op=17)=True:=eq_true t;obtain rfl:m'=m:=ta O
    repeat' (first|(refine aB (Al Xo) ?_)|simp (disch:=first|assumption|omega)only[↓C2,Gt,simprocAttr,GH,h1,h5,h7,ba,d1,hx,oa,Qc,aa,m0,Ab ea,ma,Ab ga,ra,Ab u,ca,Ab v,qa,Lj,HE,IT,Lc,Lb,La,Rp,pO,p,h,i,b,o,ia,Qe,and_self])
    exact ih _ _ O hI Xp Xa h1 h5 rfl (As rfl)
   have o:(a.op=17)=False:=eq_false t
   repeat' (first|(refine aB (Al Xo) ?_)|simp (disch:=first|assumption|omega)only[↓C2,Gt,simprocAttr,GH,h1,h5,h7,ba,d1,hx,oa,Qc,aa,m0,Ab ea,ma,Ab ga,ra,Ab u,ca,Ab v,qa,Lj,HE,IT,Lc,Lb,La,Rp,pO,p,h,i,b,o,ia,Qe,and_self])
   exact ih _ _ O hI Xp Xa h1 h5 rfl (As rfl)
def lnM:Bs:=[109,111,117,110,116,32,114,111,111,116,32,97,32,50,32,48]
def lnW:Bs:=[119,114,105,116,101,32,114,111,111,116,32,97,47,120,32,45,32,54,49,54,50]
def lnR:Bs:=[114,101,97,100,32,114,111,111,116,32,97,47,120,32,48]
def lnN:Bs:=[110,111,110,115,101,110,115,101]
def aM:Ak:={akZ with op:=5,tk:=xW,pa:=[97],n:=2}
def aW:Ak:={akZ with op:=10,tk:=xW,pa:=[97,47,120],cas:=-1,da:=[97,98]}
def aR:Ak:={akZ with op:=9,tk:=xW,pa:=[97,47,120]}
def aUC:D6 lnM=(aM,0):=Z
def aUA:D6 lnW=(aW,0):=Z
def aUB:D6 lnR=(aR,0):=Z
def aWu:(D6 lnN).2=22:=Z
def m0A:Md:=NJ RA 2000
def zU:kC m0A:=aJt (r:=1700) V V
def v1A:Vw:={m0A.vw with nlm:=false,ms:=[([97],2,false)]}
def aVF:LS m0A.vw aM=0:=Z
def nTA:List Mt:=[([97],2,false)]
def oM:Oc:=Wg (GE m0A.vw) false nTA
def XM:Hb m0A.vw aM (λ_=>oM):=by
 have x:=zU.vw;have g:=U7 x.ok (by have:=(nR lnM).1.ok;rw[aUC]at this;exact this);rw[aVF]at g;have c:=aEo (nl:=true) (t:=[]) (l:=[]) (m:=([97],2,false)) V (λ_=>rfl) V;rw[show HA [] ([97],2,false)=(some nTA,0)by kernel_rfl]at c;have r:Rj nTA:=⟨V,λm w=>by rw[Qk.1 w];decide⟩;have b:∀m∈nTA,m.1.length<=64:=λm w=>by rw[Qk.1 w];decide
 exact Bj _ (λk _=>Bw (v:=m0A.vw) .o5 aM k rfl g _ _ (aC6 ⟨m0A.vw,aM,k⟩ (GE m0A.vw) false nTA c (Hx m0A.vw) r)) rfl (Dr .done rfl trivial rfl Xq (Nz V) (by simp[oM,Wg,Rv,Oc.op,GE]) ⟨by simp[oM,Wg,Rv,Oc.op,GE],by
    simp only[oM,Wg,Rv,Oc.op,GE,Qm,Qw];have:=Ob b;exact⟨Dl (.inl rfl) rfl (Qp _) (by have:nTA.length=1:=rfl;omega),λ_ h=>nomatch h⟩⟩ (Te x r (λi j u z=>absurd z (by show ¬j<1;omega)) (λe=>Xw) V b))
def m1A:Md:=⟨v1A,FG oM.ops firstE,2000⟩
def dnM:Ik m0A oM=(m1A,[111,107]):=Z
def Wi:kC m1A:=by
 have h:=(Om zU (XM.rep kn0 ⟨V,V,λx q=>XG,λx q=>XG⟩ rfl)).md;rw[dnM]at h;exact h
def aVD:LS m1A.vw aW=0:=Z
def oW:Oc:=Hw (Dv m1A.vw aW) m1A
def aUG:I_ aW:=by have:=(nR lnW).1;rw[aUA]at this;exact this
def aUH:I_ aR:=by have:=(nR lnR).1;rw[aUB]at this;exact this
def XW:Hb m1A.vw aW (Dv m1A.vw aW):=by
 have g:=U7 Wi.vw.ok aUG.ok;rw[aVD]at g;exact PN Wi.vw aUG g Xl V
def m2A:Md:=(Ik m1A oW).1
def dnW:(Ik m1A oW).2=[111,107,32,110,117,109,98,101,114,32,49]:=Z
def m2v:m2A.vw=m1A.vw:=Z
def m2r:m2A.room=m1A.room:=Z
def m2c:m2A.tr.cnt=5:=Z
def m1c:m1A.tr.cnt=3:=Z
def aVE:LS m2A.vw aR=0:=Z
def UQ:kC m2A:=by
 obtain⟨c,k,g,b⟩:=TP Wi XW;have p:Ix m1A.vw aW (Hw (Dv m1A.vw aW) m1A):=by rw[b];exact XW.rep k g (by rw[←b];exact c)
 exact(Om Wi p).md
def XR:Hb m2A.vw aR (C_ m2A.vw aR):=by
 have g:=U7 UQ.vw.ok aUH.ok;rw[aVE]at g;exact bS UQ.vw aUH g Xl (λh=>Xc) (.inl rfl)
def oR:Oc:=Hw (C_ m2A.vw aR) m2A
def dnR:Ik m2A oR=(m2A,[111,107,32,102,111,117,110,100,32,49,32,54,49,54,50]):=by
 obtain⟨c,k,g,b⟩:=TP UQ XR;have p:Ix m2A.vw aR (Hw (C_ m2A.vw aR) m2A):=by rw[b];exact XR.rep k g (by rw[←b];exact c)
 refine ZK ((Om UQ p).ro (.inr (.inl rfl))) ?_
 kernel_rfl
def aI8:m0A.room≠0:=V
def dM:Dy [.agg (GY m0A),.str lnM]=some (.tup [.agg (GY m1A),.str [111,107]]):=by
 have h:=OR aI8 (s:=lnM) V aUC zU XM;rw[show Hw (λ_=>oM) m0A=oM from rfl,dnM]at h;exact h
def dW:Dy [.agg (GY m1A),.str lnW]=some (.tup [.agg (GY m2A),.str [111,107,32,110,117,109,98,101,114,32,49]]):=by
 have h:=OR (m:=m1A) V (s:=lnW) V aUA Wi XW;rw[show(Ik m1A (Hw (Dv m1A.vw aW) m1A)).2=_ from dnW]at h;exact h
def dR:Dy [.agg (GY m2A),.str lnR]=some (.tup [.agg (GY m2A),.str [111,107,32,102,111,117,110,100,32,49,32,54,49,54,50]]):=by
 have h:=OR (m:=m2A) (by rw[m2r];decide) (s:=lnR) V aUB UQ XR;rw[show Ik m2A (Hw (C_ m2A.vw aR) m2A)=_ from dnR]at h;exact h
def dN:Dy [.agg (GY m2A),.str lnN]=some (.tup [.agg (GY m2A),.str [101,114,114,111,114,32,50,50]]):=by
 have h:=pA (m:=m2A) (by rw[m2r];decide) (s:=lnN) V aWu V;rw[show Hg (.fail 22)=_ by kernel_rfl]at h;exact h
def sF:I9 [.agg (GY m2A),.agg (GY m1A)]=some (.bool false):=
 aIj m2A m1A m2v m2r (Qg UQ.vw.ml V) (Qg UQ.vw.kl V) (λk g=>(UQ.vw.ok.kp k g).1.1) (by rw[m2c,m1c];decide)
def sZ:I9 [.agg (GY vR),.agg (GY vR)]=some (.bool true):=
 oZ vR V V (λk g=>by cases g) List.Pairwise.nil V
def NZ:=Ap [(34,Ac MH),(11,Ac Dy),(16,Ac I9),(17,Ac aD9),(36,Ac oX),(35,Ac Tb),(18,Ac oY)]
def aEd:=RF NZ aCi [.t 0] 113
def aOG:Kq aEd 9:=An (Aj func9) (Aa aAA (Aa gI (Aa aAC (Aa aOE (Aa aAz (Aa TW (Aa aOD Ad)))))))
def aEc:aEd []=some (.bool true):=by
 refine Am (Qa rfl) ?_;unfold aCi;have n1:MH [.str [48,49,50,51,52,53,54,55,56,57,97,98,99,100,101,102],.int .i64 2000]=some (.tup [.agg (GY m0A),.int .i64 0]):=dP RA 2000 rfl V (by have:=Ul;omega);have n2:MH [.str [115,104,111,114,116],.int .i64 2000]=some (.tup [.agg (GY vR),.int .i64 2]):=uY [115,104,111,114,116] 2000 V;have m:MH [.str [48,49,50,51,52,53,54,55,56,57,97,98,99,100,101,102],.int .i64 20]=some (.tup [.agg (GY vR),.int .i64 7]):=kB RA 20 rfl V (by have:=aA9;omega);have d:Dy [.agg (GY m0A),.str [109,111,117,110,116,32,114,111,111,116,32,97,32,50,32,48]]=_:=dM;have o:Dy [.agg (GY m1A),.str [119,114,105,116,101,32,114,111,111,116,32,97,47,120,32,45,32,54,49,54,50]]=_:=dW;have a:Dy [.agg (GY m2A),.str [114,101,97,100,32,114,111,111,116,32,97,47,120,32,48]]=_:=dR;have e:Dy [.agg (GY m2A),.str [110,111,110,115,101,110,115,101]]=_:=dN;have j:Dy [.agg (GY vR),.str [115,116,97,116,117,115]]=some (.tup [.agg (GY vR),.str []]):=aIk rfl [115,116,97,116,117,115];have i:=UQ.same;have p:=sF;have k:=sZ;have b:=aD8 m0A aI8 Ol;have r:=Rh;have q:=Iy Ol;have t:oY [.agg (GY m0A)]=some (.int .i64 2000):=aD7 m0A;have z5:m0A.tr=firstE:=rfl;rw[z5]at b;generalize v:((Tr.weighL firstE.lst:Nat):Int)=W at b q;generalize firstE=F at r q;generalize m0A=A at *;generalize m1A=B at *;generalize m2A=C at *;simp only[GY,vR,Hc,AA,AG,QF,Ql,Qm,IB]at n1 n2 m d o a e j i p k b r q t;simp (config:={maxSteps:=20000000}) (disch:=first|assumption|omega)only[Gv,↓C2,Gp,simprocAttr,GH,Ae NZ 34,n1,n2,m,Ae NZ 11,d,o,a,e,j,Ae NZ 16,i,p,k,Ae NZ 17,b,Ae NZ 36,r,Ae NZ 35,q,Ae NZ 18,t,beq_self_eq_true]
def Hu:=Ap [(8,Ac aEf),(9,Ac aEd),(10,Ac aEb),(11,Ac Dy),(28,Ac F34),(16,Ac I9),(15,Ac S7)]
def aMM:=RF Hu aCk [.t 4] 105
def aOI:Kq aMM 5:=An (Aj func5) (Aa aOH (Aa aOG (Aa aOF (Aa gI (Aa aVS (Aa aAC (Aa aAD Ad)))))))
def aEg(r:Int)(q:0<=r)(u:r<65536)(nl:Bool)(l:List Bs):aMM [.int .u16 r,.slice nl [] (strsD l)]=some (.bool true):=by
 refine Am (Qa rfl) ?_;have d:Hu 11=some (Ac Dy):=rfl;have g:Hu 28=some (Ac F34):=rfl;have b:Hu 16=some (Ac I9):=rfl;have a:Hu 15=some (Ac S7):=rfl;unfold aCk;have k:=aEe nl l;have n:=aEc;have z:=aEa r q u;have e:=aJt q u;have f:(NJ RA (300+r)).room≠0:=by show(300:Int)+r≠0;omega
 generalize NJ RA (300+r)=m at *;simp only[GY,Hc,Ql,Qm]at z;have c:V3 l=1∨(V3 l=0∧l.length<=40∧∀s∈l,s.length<=500):=by
  unfold V3;by_cases c1:40<l.length
  ·exact .inl (if_pos c1)
  rw[if_neg c1];by_cases c2:l.all (λs=>decide (s.length<=500))=true
  ·exact .inr ⟨if_pos c2,O,λs o=>of_decide_eq_true (Zy.1 c2 s o)⟩
  ·exact .inl (if_neg c2)
 rcases c with ho|⟨ho,hn,hl⟩
 ·rw[ho]at k;simp (disch:=first|assumption|omega)only[Gv,↓C2,Gp,simprocAttr,GH,Ae Hu 8,k,Ae Hu 9,n,Ae Hu 10,z]
  all_goals exact YT
 ·rw[ho]at k;simp (disch:=first|assumption|omega)only[Gv,↓C2,Gp,simprocAttr,GH,Ae Hu 8,k,Ae Hu 9,n,Ae Hu 10,z];refine aAh d g b a hl hn (λx=>?_) l.length 0 m _ _ O e f (Qa rfl) rfl rfl rfl (As rfl);simp (disch:=first|assumption|omega)only[Gv,↓C2,Gp,simprocAttr,Ae Hu 9,n]
  all_goals exact YT
end Go.Vd
namespace Go.Vd
open Go.RowKit Go.ChangeShapes Go.WideShapes Go.Deep
def allG(w:World)(b:Nat):Nat:=match w.heap[b]? with
 |some (.cells c _ _)=>c.size
 |_=>0
def aCO(w:World)(b:Nat)(h:w.heap.size<=b):allG w b=0:=by
 grind [allG]
def aGT{w:World}{p:Addr}{v:Value}(h:w.cell? p=some v):p.off<allG w p.block:=by
 unfold World.cell? at h;unfold allG;split at h
 ·grind
 ·cases h
def NQ{α:Type}{p:Nat->α->Prop}:∀n,(∀i,i<n->∃x,p i x)->∃l:List α,l.length=n∧∀i x,l[i]?=some x->p i x
 |0,_=>⟨[],rfl,U⟩
 |n+1,h=>by
  obtain⟨l,u,z⟩:=NQ n (λi hi=>h i O);obtain⟨x,q⟩:=h n O;refine⟨l++[x],by simp[u],λi y s=>?_⟩;by_cases hi:i<l.length
  ·grind
  ·grind
def Ui(P:Program)(t:TypeId):Bool:=match P.underlying t with
 |some (.struct _)=>true
 |_=>false
def I0:Bool->List D->D
 |true,cs=> .agg cs
 |false,[d]=>d
 |false,_=> .junk
def aQm(F:TypeId->List D->Prop):List TypeId->List D->Prop
 |[],ds=>ds=[]
 |t::r,ds=>∃a b,ds=a++b∧F t a∧aQm F r b
def Fit(P:Program):Nat->TypeId->List D->Prop
 |0,_,_=>False
 |n+1,t,ds=>match P.underlying t with
  |some .string=>∃s,ds=[.str s]
  |some .bool=>∃b,ds=[.bool b]
  |some (.int k)=>∃x,ds=[.int k x]∧(Lit.int k x).wf=true
  |some (.struct fs)=>aQm (Fit P n) (fs.toList.map (·.type)) ds
  |some (.slice e)=>∃nl xs,ds=[.slice nl [] xs]∧(nl=true->xs=[])∧∀x∈xs,∃cs,x=I0 (Ui P e) cs∧Fit P n e cs
  |_=>False
def wX(P:Program)(c:Nat):List Field->Nat->Bool
 |[],o=>o==c
 |f::r,o=>f.offset==o&&wX P c r (o+P.cellsOf f.type)
def H_(P:Program):Nat->TypeId->Bool
 |0,_=>false
 |n+1,t=>match P.underlying t with
  |some .string=>P.cellsOf t==1
  |some .bool=>P.cellsOf t==1
  |some (.int _)=>P.cellsOf t==1
  |some (.struct fs)=>wX P (P.cellsOf t) fs.toList 0&&fs.toList.all λf=>H_ P n f.type
  |some (.slice e)=>P.cellsOf t==1&&H_ P n e
  |_=>false
structure RN (w:World) (ds:List D) (cs:List Value):Prop where
 len:ds.length=cs.length
 calm:∀d∈ds,d.calm1=true
 un:ds.map D.un1=ds
 rep:∀(j:Nat) d v,ds[j]?=some d->cs[j]?=some v->Rep w (startG (allG w)) d v∧v.oneCell'=true
theorem RN.one {w : World} {d : D} {v : Value} (u : d.calm1 = true) (z : d.un1 = d) (i : Rep w (startG (allG w)) d v) (o : v.oneCell' = true) : RN w [d] [v] :=
 ⟨rfl, fun x q => by simp only [QR, List.mem_nil_iff, or_false] at q; subst q; exact u, by simp [z], fun j x y q s => by
  match j with
  | 0 => simp only [Qb, Qn] at q s; subst q s; exact ⟨i, o⟩
  | j + 1 => simp at q⟩
def SM{c:Nat}{b:Bool}:∀(l:List (List D))(j:Nat)(d:D),(∀ds∈l,ds.length=c∧(I0 b ds).cells=ds)->(flat (l.map (I0 b)))[j]?=some d->∃i k ds,l[i]?=some ds∧ds[k]?=some d∧j=i*c+k
 |[],j,d,_,h=>by simp[flat]at h
 |x::r,j,d,hl,h=>by
  obtain⟨u,z⟩:=hl x (Qv ..);simp only[Qy,flat,z]at h;by_cases q:j<x.length
  ·rw[QX q]at h;exact⟨0,j,x,rfl,h,O⟩
  ·rw[QU O]at h;obtain⟨i,k,ds,w,f,n⟩:=SM r _ d (λds p=>hl ds (Qt _ p)) h;refine⟨i+1,k,ds,by simpa using w,f,?_⟩;rw[Nat.succ_mul];omega
section
variable{H:Type}{enc:TypeId×Value->H}{P:Program}{w:World}{base:Nat}{spare:Nat->Bool}{held:Bool}
def NF{n:Nat}{cs:List Value}{fuel:Nat}(ih:∀t,H_ P n t=true->∀(fuel:Nat)(cs:List Value) x,DataW.trod enc P w base spare held fuel t cs=some x->cs.length=P.cellsOf t∧∃ds,Fit P n t ds∧RN w ds cs):
  ∀(i:List Field)(o:Nat),wX P cs.length i o=true->(i.all λf=>H_ P n f.type)=true->(∀(j:Nat) f,i[j]?=some f->∃y,DataW.trod enc P w base spare held fuel f.type ((cs.drop f.offset).take (P.cellsOf f.type))=some y)->
   o<=cs.length∧∃ds,aQm (Fit P n) (i.map (·.type)) ds∧RN w ds (cs.drop o)
 |[],o,k,_,_=>by
  simp only[wX,beq_iff_eq]at k;subst k;refine⟨Qf _,[],rfl,U,U,rfl,U⟩
 |f::r,o,k,hp,hf=>by
  simp only[wX,QW,beq_iff_eq]at k;obtain⟨rfl,k⟩:=k;simp only[ZE,QW]at hp;obtain⟨y,s⟩:=hf 0 f rfl;obtain⟨u,a,fa,e⟩:=ih _ hp.1 _ _ _ s;obtain⟨z,b,fb,sb⟩:=NF ih r _ k hp.2 (λj g hg=>hf (j+1) g (by simpa using hg));have c:cs.drop f.offset=(cs.drop f.offset).take (P.cellsOf f.type)++cs.drop (f.offset+P.cellsOf f.type):=by
   rw[←List.drop_drop,List.take_append_drop]
  refine⟨O,a++b,⟨a,b,rfl,fa,fb⟩,?_⟩;rw[c];refine⟨by rw[QH,QH,e.len,sb.len],λd p=>?_,by rw[QQ,e.un,sb.un],λj d v p m=>?_⟩
  ·rcases QJ.1 p with h|h
   ·exact e.calm d h
   ·exact sb.calm d h
  ·have hl:=e.len;by_cases q:j<a.length
   ·rw[QX q]at p;rw[QX O]at m;exact e.rep j d v p m
   ·rw[QU O]at p;rw[QU O,←hl]at m;exact sb.rep _ d v p m
def OT{n:Nat}{e:TypeId}{ds:List D}(h:Fit P n e ds):(I0 (Ui P e) ds).cells=ds∧(ds.all D.calm1=true->(I0 (Ui P e) ds).calm=true):=by
 cases n with
 |zero=>exact h.elim
 |succ n=>
  unfold Fit at h;unfold Ui;split at h
  ·rename_i r;rw[r];obtain⟨s,rfl⟩:=h;exact⟨rfl,λ_=>rfl⟩
  ·rename_i r;rw[r];obtain⟨s,rfl⟩:=h;exact⟨rfl,λ_=>rfl⟩
  ·rename_i r;rw[r];obtain⟨s,rfl,_⟩:=h;exact⟨rfl,λ_=>rfl⟩
  ·rename_i v r;rw[r];exact⟨rfl,λy=>by simpa[I0,D.calm]using y⟩
  ·rename_i r;rw[r];obtain⟨nl,xs,rfl,_⟩:=h;exact⟨rfl,λ_=>rfl⟩
  ·exact h.elim
def O8:∀(n:Nat)(t:TypeId),H_ P n t=true->∀(fuel:Nat)(cs:List Value) x,DataW.trod enc P w base spare held fuel t cs=some x->cs.length=P.cellsOf t∧∃ds,Fit P n t ds∧RN w ds cs
 |0,t,hp=>by simp[H_]at hp
 |n+1,t,hp=>by
  intro fuel cs x h;unfold H_ at hp;unfold Fit;split at hp
  ·rename_i ht;simp only[beq_iff_eq]at hp;obtain⟨s,rfl,_⟩:=DataW.trod_string ht h;exact⟨hp.symm,_,⟨s.data.toList,rfl⟩,RN.one rfl rfl (.str _) rfl⟩
  ·rename_i ht;simp only[beq_iff_eq]at hp;obtain⟨b,rfl,_⟩:=DataW.trod_bool ht h;exact⟨hp.symm,_,⟨b,rfl⟩,RN.one rfl rfl (.bool _) rfl⟩
  ·rename_i k ht;simp only[beq_iff_eq]at hp;obtain⟨b,rfl,_,hw⟩:=DataW.trod_int ht h;exact⟨hp.symm,_,⟨b,rfl,hw⟩,RN.one rfl rfl (.int _ _) rfl⟩
  ·rename_i fs ht;simp only[QW]at hp;obtain⟨ys,n',_,_,hl,r,hf⟩:=DataW.trod_struct ht h;rw[←hl]at hp;have:=NF (fuel:=n') (O8 n) fs.toList 0 hp.1 hp.2 (λj f hj=>by
    have ra:fs[j]?=some f:=by simpa using hj
    have wa:j<fs.size:=(Qq.1 ra).1;have eb:ys[j]?=some (ys[j]' O):=Qd O;exact⟨_,(hf j f ra).trans eb⟩)
   obtain⟨_,ds,h1,h2⟩:=this;exact⟨hl,ds,h1,by simpa using h2⟩
  ·rename_i e ht;simp only[QW,beq_iff_eq]at hp;rcases open_slice ht h with ⟨rfl,_⟩|⟨a,len,cap,m,n',D',Pl,rfl,_,hl,_,hm,_,hi⟩
   ·exact⟨hp.1.symm,_,⟨true,[],rfl,(λ_=>rfl),(λx hx=>by cases hx)⟩,RN.one rfl rfl (.nils []) rfl⟩
   ·have u:len<=m:=by rw[hm];split<;>omega
    have hc:=NQ (p:=λi (ds:List D)=>Fit P n e ds∧ds.length=P.cellsOf e∧ds.all D.calm1=true∧∀(j:Nat) d,ds[j]?=some d->∃v,w.cell? (a.add (i*P.cellsOf e+j))=some v∧Rep w (startG (allG w)) d v∧v.oneCell'=true) len (λi g=>by
     obtain⟨da,h1,h2⟩:=hi i O;obtain⟨h3,ds,h4,h5⟩:=O8 n e hp.2 _ _ _ h2;refine⟨ds,h4,h5.len.trans h3,Zy.2 h5.calm,λj d hd=>?_⟩;have hj:j<ds.length:=(List.getElem?_eq_some_iff.1 hd).1;have y:j<da.length:=by rw[←h5.len];exact hj
     obtain⟨_,_,ja⟩:=World.cells?_some h1;obtain⟨r1,r2⟩:=h5.rep j d _ hd (Qd y);refine⟨_,?_,r1,r2⟩;rw[←Go.Deep.add_add,ja j O,Qd y])
    obtain⟨l,xa,o⟩:=hc;have z:∀j,j<len*P.cellsOf e->∃v,w.cell? (a.add j)=some v∧v.oneCell'=true:=by
     intro j hj;have ga:0<P.cellsOf e:=by
      grind
     have hi:j / P.cellsOf e<l.length:=by rw[xa];exact Nat.div_lt_of_lt_mul (by rw[ZI];exact hj)
     obtain⟨_,q2,_,q4⟩:=o _ _ (Qd hi);have hk:j % P.cellsOf e<(l[j / P.cellsOf e]).length:=by rw[q2];exact Nat.mod_lt _ ga
     obtain⟨v,h1,_,h3⟩:=q4 _ _ (Qd hk);rw[ZI,Nat.div_add_mod]at h1;exact⟨v,h1,h3⟩
    have ia:∀ds∈l,ds.length=P.cellsOf e∧(I0 (Ui P e) ds).cells=ds∧(I0 (Ui P e) ds).calm=true:=λds hd=>by
     obtain⟨i,hi,rfl⟩:=Zl hd;obtain⟨q1,q2,q3,_⟩:=o i _ (Qd hi);exact⟨q2,(OT q1).1,(OT q1).2 q3⟩
    refine⟨hp.1.symm,[.slice false [] (l.map (I0 (Ui P e)))],⟨false,_,rfl,(λh0=>by cases h0),λx hx=>?_⟩,RN.one rfl rfl ?_ rfl⟩
    ·obtain⟨ds,hd,rfl⟩:=QB.1 hx;obtain⟨i,hi,rfl⟩:=Zl hd;exact⟨_,rfl,(o i _ (Qd hi)).1⟩
    ·refine .slice [] _ a len cap (P.cellsOf e) (λj=>(w.cell? (a.add j)).getD undef) (by simp[xa]) hl (λd hd=>?_) (λj hj=>?_) (λj hj=>?_) (λj d hd=>?_) (λh0=>?_) (λh=>absurd rfl h) (λd hd=>?_)
     ·grind
     ·grind
     ·grind
     ·obtain⟨i,k,ds,e1,e2,rfl⟩:=SM (c:=P.cellsOf e) l j d (λds q=>⟨(ia ds q).1,(ia ds q).2.1⟩) hd;obtain⟨_,_,_,q4⟩:=o i ds e1;obtain⟨v,h1,h2,_⟩:=q4 k d e2;simp only[h1,QO];exact h2
     ·obtain⟨v,hv,_⟩:=z (len*P.cellsOf e-1) O;have:=aGT hv;rw[Ff,C6]at this;show a.off+len*P.cellsOf e<=allG w a.block;omega
     ·obtain⟨ds,q,rfl⟩:=QB.1 hd;exact(ia ds q).2.2
  ·cases hp
end
end Go.Vd
namespace Go.Vd
open Go.Proofs Go.RowKit
section
variable{n:Nat}{ds:List D}
def Fit.slice{P:Program}{t e:TypeId}(u:P.underlying t=some (.slice e))(h:Fit P (n+1) t ds):∃nl xs,ds=[.slice nl [] xs]∧(nl=true->xs=[])∧∀x∈xs,∃cs,x=I0 (Ui P e) cs∧Fit P n e cs:=by
 unfold Fit at h;rw[u]at h;exact h
def Fit.str{P:Program}{t:TypeId}(u:P.underlying t=some .string)(h:Fit P (n+1) t ds):∃s,ds=[.str s]:=by
 unfold Fit at h;rw[u]at h;exact h
def Fit.int{P:Program}{t:TypeId}{k:IntKind}(u:P.underlying t=some (.int k))(h:Fit P (n+1) t ds):∃x,ds=[.int k x]∧(Lit.int k x).wf=true:=by
 unfold Fit at h;rw[u]at h;exact h
def all_map{α β:Type}{f:α->β}:∀{xs:List β},(∀x∈xs,∃a,x=f a)->∃l:List α,xs=l.map f
 |[],_=>⟨[],rfl⟩
 |x::r,h=>by
  obtain⟨a,rfl⟩:=h x Qv;obtain⟨l,rfl⟩:=all_map λy s=>h y (Qt _ s)
  exact⟨a::l,rfl⟩
def fit_strs{P:Program}{t e:TypeId}(u:P.underlying t=some (.slice e))(r:P.underlying e=some .string)(hi:Ui P e=false)(h:Fit P (n+2) t ds):∃nl l,ds=[.slice nl [] (strsD l)]:=by
 obtain⟨nl,xs,rfl,c,q⟩:=Fit.slice u h;obtain⟨l,rfl⟩:=all_map (f:=D.str) (xs:=xs) (λx a=>by
  obtain⟨cs,rfl,k⟩:=q x a;rw[hi];obtain⟨s,rfl⟩:=Fit.str r k;exact⟨s,rfl⟩)
 exact⟨nl,l,rfl⟩
end
def cell_fit{H:Type}{c:TypeId×Value->H}{P:Program}{w:World}{base:Nat}{a:Nat->Bool}{b:Bool}{n:Nat}{t:TypeId}{v:Value}{d:DataW H}{p:List MemPlace}(y:H_ P n t=true)(m:v.cells=#[v])(h:DataW.Trod c P w base a b t v d p):
  ∃ds,Fit P n t ds∧∀i,ds=[i]->Rep w (startG (allG w)) i v:=by
 obtain⟨fuel,k⟩:=h;rw[m]at k;obtain⟨_,ds,u,z⟩:=O8 n t y _ _ _ k;exact⟨ds,u,λi e=>by subst e;exact(z.rep 0 i v rfl rfl).1⟩
def models_law{w:World}{k a:Value}(f:∃r:Int,k= .int .u16 r∧0<=r∧r<65536)(u:∃(nl:Bool)(l:List Bs),Rep w (startG (allG w)) (.slice nl [] (strsD l)) a):
  Calls Qj 5 #[k,a] w λe s=>e= .returned (.bool true)∧Below w.heap.size w s:=by
 obtain⟨r,rfl,v,t⟩:=f;obtain⟨nl,l,i⟩:=u;refine xP aOI (G:=allG w) (λb o=>aCO w b o) (ds:=[.int .u16 r,.slice nl [] (strsD l)]) (vs:=[.int .u16 r,a]) rfl (λj d x p q=>?_) rfl rfl (aEg r v t nl l)
 match j with
 |0=>simp only[Qb,Qn]at p q;subst p q;exact .int _ _
 |1=>simp only[Qi,Qb,Qn]at p q;subst p q;exact i
 |j+2=>simp at p
def u16_wf{x:Int}(h:(Lit.int .u16 x).wf=true):0<=x∧x<65536:=by
 simp[Lit.wf,IntKind.min,IntKind.max,IntKind.signed,IntKind.bits]at h;omega
end Go.Vd
end
