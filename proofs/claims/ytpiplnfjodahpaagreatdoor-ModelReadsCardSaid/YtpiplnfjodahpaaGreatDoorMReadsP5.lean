/- A part of the proof; nothing in it is assumed. -/
import Derived.Test.YtpiplnfjodahpaaGreatDoorMReadsP4
import Derived.WalkLawsBesides
import Derived.RangeFuncNested
import Derived.RangeFuncBound

set_option linter.unusedSimpArgs false
set_option linter.unusedVariables false
set_option linter.defProp false
set_option maxHeartbeats 4000000
set_option maxRecDepth 100000
open Nat renaming le_of_ble_eq_true→Qa,le_refl→Qe,le_trans→Qh,reduceEqDiff→Qq,reduceAdd→Qr,zero_le→Qt,reduceSub→QO,reduceLT→QW,reduceLeDiff→Q1,le_of_eq→Zs,lt_of_lt_of_le→ZA,le_succ_of_le→ZC,lt_or_ge→ZO,add_zero→ZP
open List renaming length_cons→Qb,getElem?_cons_zero→Qc,length_nil→Qd,length_append→Qf,map_cons→Qg,getElem?_eq_getElem→Qi,getElem?_cons_succ→Qj,mem_singleton→Qm,map_nil→Qn,length_map→Qo,sum_cons→Qp,mem_cons→Qs,mem_nil_iff→Qv,mem_cons_of_mem→Qw,cons_append→Qx,nil_append→QA,mem_cons_self→QB,sum_nil→QC,getElem_mem→QD,getElem?_map→QE,forall_mem_cons→QF,take_succ_eq_append_getElem→QG,drop_eq_getElem_cons→QJ,mem_map→QM,tail_cons→QP,getD_eq_getElem?_getD→QQ,mem_append→QR,append_toArray→QU,map_append→QX,size_toArray→QY,push_toArray→QZ,take_length→Q0,filter_sublist→Q5,mem_filter→Q6,mem_singleton_self→Za,length_eq_zero_iff→Zb,drop_eq_nil_of_le→Zd,exists_cons_of_ne_nil→Zg,getElem?_append_right→Zk,getElem?_eq_some_iff→Zl,any_eq_false→Zm,getD→Zp,map_map→Zr,toArray→Zt,take_of_length_le→Zu,take_succ_cons→Zw,map_eq_nil_iff→Zx,getElem?_drop→Zz,all_eq_false→ZD,length_take→ZE,not_mem_nil→ZG,take_prefix→ZH,sum_append→ZJ,map→ZK,drop_zero→ZL,take_zero→ZM
open Go.Proofs.Tryz renaming prog→Qk
open Int renaming toNat_natCast→Ql,reduceEq→QH,cast_ofNat_Int→QI,toNat_of_nonneg→QL,reduceLE→Q_,le_refl→Ze,reduceNe→Zf,tmod_eq_emod_of_nonneg→Zj,lt_irrefl→Zn,reduceLT→Zv,toNat→ZF
open Option.some renaming injEq→Qu,inj→ZR
open Option renaming isSome_some→Qy,map_eq_some_iff→QN,getD_some→QV,map_some→Q9,isSome_none→Zi,isSome_iff_exists→Zo,getD_none→Zq
open Array renaming getElem?_eq_some_iff→Qz,replicate_succ→QS,replicate_zero→QT,size_push→Q7,all_eq_true_iff_forall_mem→Zc,replicate→ZI
open Bool renaming and_eq_true→Q2,false_eq_true→Zh,true_eq_false→Zy,not_eq_true'→ZB,or_false→ZN
open List.cons renaming injEq→Q8,inj→ZS
open Prod renaming ext_iff→ZQ
open Go.Proofs.Tryz
noncomputable section
namespace Go.Vd
open Go.Proofs Go.RowKit
theorem qI{k:Kn}(h:Ip k)(q:Bs):(C5 k q).1.length<=400:=by
 unfold C5;split
 ·decide
 ·rename_i f;have:=(Fd (FB k) q).2;unfold FB at this f;rw[Qo]at this;simp only[Zp,FB];rw[Qi O];exact h.et _ (QD O)
def aPG{k:Kn}(h:Ip k)(q:Bs):(Fm k q).2.1.length<=2000∧∀s∈(Fm k q).2.1,s.length<=1000000:=by
 unfold Fm;split
 ·simp_all
 ·rename_i f;have:=(Fd (k.ls.map (·.1)) q).2;rw[Qo]at this;simp only[Zp];rw[Qi O];exact h.lt _ (QD O)
structure Ww (s:Sc):Prop where
 bad:CV s 6=false
 nl:s.nl=true->s.rs=[]
theorem Ni{s:Sc}{q:Int}(h:CV s q=false):(1<=q∧q<=6)∧(0<=s.mx∧s.mx<=6)∧(0<=s.la∧s.la<=30)∧(s.rs.length:Int)<=6∧CQ s.rs 0=true∧Ly s.rs=s.la:=by
 grind [CV,Bc]
def Ww.len{s:Sc}(h:Ww s):s.rs.length<=6:=by have:=(Ni h.bad).2.2.2.1;omega
def aO6:Ww sc0:=⟨V,λ_=>rfl⟩
theorem tK{t:Bs}(h:(BV t).2=0):Ww (BV t).1:=by
 unfold BV at h ⊢;split at h
 ·cases h
 ·rename_i u;rw[if_neg u];split at h
  ·cases h
  ·rename_i f;rw[if_neg f];refine⟨by
    cases hb:CV (Ut t) 6 with
    |false=>rfl
    |true=>exact absurd (.inr (.inr hb)) f,λg=>?_⟩
   simp only[Ut,decide_eq_true_eq]at g;show(Fk t).1=[];unfold Fk;rw[g];rfl
def CM(f:Bs×Bool×Bool):Option Sc:=if f.2.1=false∨(BV f.1).2≠0 then none else some (BV f.1).1
def Ik(o:Option Sc):Sc:=o.getD sc0
def O0{f:Bs×Bool×Bool}{s:Sc}(h:CM f=some s):Ww s:=by
 grind [CM,tK]
def Fv(f:Bs×Bool×Bool):Ww (Ik (CM f)):=by
 cases h:CM f with
 |none=>exact aO6
 |some s=>exact O0 h
def AK(k:Kn)(p:Bs):Bs×Bool×Bool:=C5 k (Aw 1 p 0)
section
variable{v:Vw}{a:Ak}{k:Kn}
def Nu(o:Ip k){p:Bs}(c:p.length<=1000000)(h:(AK k p).2.2=false):Df ⟨v,a,k⟩ (Hd v) [.str p]=some (.tup [.agg (Hb sc0),.bool false,.bool false],CI v (Aw 1 p 0) false,none):=
 yQ ⟨v,a,k⟩ (Hd v) p (Im v) c (by have:=o.es;simp only;omega) (AK k p) rfl h
def LM(o:Ip k){p:Bs}(c:p.length<=1000000)(h:(AK k p).2.2=true):Df ⟨v,a,k⟩ (Hd v) [.str p]=some (.tup [.agg (Hb (Ik (CM (AK k p)))),.bool (CM (AK k p)).isSome,.bool true],Hd v,none):=by
 have hl:(AK k p).1.length<=1000000:=by have:=qI o (Aw 1 p 0);unfold AK;omega
 have na:(Wb.mk v a k).k.es.length<=1000:=by have:=o.es;simp only;omega
 by_cases w:(AK k p).2.1=false∨(BV (AK k p).1).2≠0
 ·have e:CM (AK k p)=none:=if_pos w;rw[e];exact aIP ⟨v,a,k⟩ (Hd v) p (Im v) c na (AK k p) rfl h hl w
 ·have e:CM (AK k p)=some (BV (AK k p).1).1:=if_neg w;rw[e];rw[not_or]at w;exact aEJ ⟨v,a,k⟩ (Hd v) p (Im v) c na (AK k p) rfl h hl (by simpa using w.1) (Decidable.not_not.1 w.2)
def DE(v:Vw)(p:Bs)(s:Sc)(cas:Int)(data:Bs):Oc:=
 if(B3 s (Bj v p).1 (Bj v p).2 cas data.length).2.2.2≠0 then EM v (B3 s (Bj v p).1 (Bj v p).2 cas data.length).2.2.2 else Uq (Hd v) p (B3 s (Bj v p).1 (Bj v p).2 cas data.length) data
theorem aHi(s:Sc)(q:Int)(b:Bool)(cas r:Int):0<=Il s q b cas r∧Il s q b cas r<=99:=by
 grind [Il]
def Up{s:Sc}(j:s.rs.length<=6)(q:Int)(b:Bool)(cas r:Int):(0<=(B3 s q b cas r).2.2.2∧(B3 s q b cas r).2.2.2<=99)∧(B3 s q b cas r).1.rs.length<=7∧(B3 s q b cas r).2.2.1.length<=7∧((B3 s q b cas r).2.2.2=0->0<=(B3 s q b cas r).2.1∧(B3 s q b cas r).2.1<=31):=by
 grind [aHi,B3,Il,EG,Bd,Lz,CV,Ni]
def aOL(y:Hx v){p:Bs}(c:p.length<=1000000){s:Sc}(j:Ww s){cas:Int}{data:Bs}(t:data.length<=1000000):∃ol,V8 ⟨v,a,k⟩ (Hd v) [.str p,.agg (Hb s),.int .i64 cas,.str data]=some (.tup [],DE v p s cas data,ol):=by
 have hl:=j.len;obtain⟨u,f,i,e⟩:=Up hl (Bj v p).1 (Bj v p).2 cas data.length;have g:(Wb.mk v a k).v.ms.length<=1000:=by have:=y.ml;simp only;omega
 unfold DE;by_cases h:(B3 s (Bj v p).1 (Bj v p).2 cas data.length).2.2.2≠0
 ·rw[if_pos h];exact⟨_,yP ⟨v,a,k⟩ (Hd v) p s cas data (Im v) O j.nl c t g _ rfl O⟩
 ·rw[if_neg h];exact⟨_,aIO ⟨v,a,k⟩ (Hd v) p s cas data (Im v) O j.nl c t g _ rfl (Decidable.not_not.1 h) O O⟩
def Lf{s:Sc}(j:Ww s):∀x∈s.rs,1<=x.1∧x.1<=30:=(Ua j.bad V).2
def bZ(s:Sc):(A9 s).length<=4+2*s.rs.length:=by
 grind [A9,F5,N2]
def qH{s:Sc}{q n:Int}(h:n∈Lz s q):∃x∈s.rs,x.1=n:=by
 obtain⟨x,d,e⟩:=QM.1 h;exact⟨x,List.mem_of_mem_take d,e⟩
theorem Vy{p:Bs}(c:AF p=0){ns:List Int}(h:∀n∈ns,1<=n∧n<=30):∀x∈ns.map (λn=>((2:Int),Aw 2 p n,([]:Bs))),opK x:=λx q=>by
 obtain⟨n,g,rfl⟩:=QM.1 q;exact DO (.inr ⟨rfl,rfl⟩) (UM c (h n g)) (CB c) (Qt _)
theorem SS(y:Hx v){p:Bs}{s:Sc}(j:Ww s){cas:Int}{data:Bs}(k:AF p=0)(hw:Ef a.op=true):(DE v p s cas data).need=[]∧Iq v a (DE v p s cas data):=by
 have hl:=j.len;obtain⟨u,f,i,t⟩:=Up hl (Bj v p).1 (Bj v p).2 cas data.length;unfold DE;by_cases h:(B3 s (Bj v p).1 (Bj v p).2 cas data.length).2.2.2≠0
 ·rw[if_pos h];exact⟨rfl,BW O⟩
 ·rw[if_neg h];have o:Il s (Bj v p).1 (Bj v p).2 cas data.length=0:=by
   grind [Il,Bj,B3]
  have m:s.la+1<=30∧1<=s.la+1∧data.length<=96:=by
   have d:=(Ni j.bad).2.2.1;unfold Il at o
   repeat' split at o
   all_goals first|omega|cases o
  have q:=f;have e:B3 s (Bj v p).1 (Bj v p).2 cas data.length=(EG (Bd s) (Bj v p).1,s.la+1,Lz (Bd s) (Bj v p).1,0):=by unfold B3;rw[if_neg (λc=>c o)]
  rw[e]at i q ⊢;simp only at i q;have ta:=bZ (EG (Bd s) (Bj v p).1);have r:∀n∈Lz (Bd s) (Bj v p).1,1<=n∧n<=30:=λn g=>by
   obtain⟨x,hx,rfl⟩:=qH g;rcases QR.1 hx with hx|hx
   ·exact Lf j x hx
   ·simp_all
  refine⟨rfl,DT (.number (s.la+1)) (if_pos ⟨O,O⟩) trivial rfl Xo hw (by simp[Uq,Bn,Oc.op,Hd]) ⟨?_,?_⟩ ?_⟩
  ·simp only[Uq,Bn,Oc.op,Hd,Qf,Qb,Qd,Qo];omega
  ·simp only[Uq,Bn,Oc.op,Hd,QA,Qx,QF];exact⟨DO (.inl rfl) (OK k) (CB k) O,DO (.inl rfl) (UM k ⟨m.2.1,m.1⟩) (CB k) O,Vy k r⟩
  ·exact y
def E_(v:Vw)(p:Bs)(s:Sc)(gone:List Int)(e:Int):Oc:=if e≠0 then EM v e else Ny (Hd v) p s gone
def aGC{s:Sc}(j:s.rs.length<=1000){gnl:Bool}{gone:List Int}(x:gone.length<=900){e:Int}(f:0<=e∧e<=99)(c:a.pa.length<=1000000):∃ol,V6 ⟨v,a,k⟩ (Hd v) [.agg (Hb s),.slice gnl [] (AJ gone),.int .i64 e]=some (.tup [],E_ v a.pa s gone e,ol):=by
 unfold E_;by_cases h:e≠0
 ·rw[if_pos h];exact⟨_,yN ⟨v,a,k⟩ (Hd v) s gnl gone e (Im v) O⟩
 ·rw[if_neg h];obtain rfl:=Decidable.not_not.1 h;exact⟨_,aIN ⟨v,a,k⟩ (Hd v) s gnl gone (Im v) x j c⟩
def Mj(y:Hx v){p:Bs}{s:Sc}{gone:List Int}(x:gone.length<=30){e:Int}(f:0<=e∧e<=99)(c:AF p=0)(t:Ef a.op=true)(j:s.rs.length<=6)(g:∀n∈gone,1<=n∧n<=30):(E_ v p s gone e).need=[]∧Iq v a (E_ v p s gone e):=by
 unfold E_;by_cases h:e≠0
 ·rw[if_pos h];exact⟨rfl,BW O⟩
 ·rw[if_neg h];have ta:=bZ s;refine⟨rfl,DT .done rfl trivial rfl Xo t (by simp[Ny,Bn,Oc.op,Hd]) ⟨?_,?_⟩ y⟩
  ·grind [Ny,Bn,Oc.op,Hd]
  ·grind [Ny,Bn,Oc.op,Hd,DO,OK,CB,Vy]
def Nx(ns:List Int)(n:Nat):∀(l:List Rw)(j:Nat),∀q∈DH ns n j l,∃x∈l,x.1=q
 |[],j,q,h=>Xc
 |x::r,j,q,h=>by
  unfold DH at h;split at h
  ·rcases Qs.1 h with rfl|h
   ·simp_all
   ·obtain⟨y,a,e⟩:=Nx ns n r (j+1) q h;exact⟨y,Qw _ a,e⟩
  ·obtain⟨y,a,e⟩:=Nx ns n r (j+1) q h;exact⟨y,Qw _ a,e⟩
def tV{s:Sc}(j:Ww s)(ns:List Int)(c:Nat):∀q∈(Bg s ns c).2.1,1<=q∧q<=30:=λq y=>by
 unfold Bg at y
 repeat' split at y
 ·cases y
 ·cases y
 ·obtain⟨x,d,rfl⟩:=Nx _ _ _ _ q y;exact Lf j x d
def xH{s:Sc}(j:Ww s)(q r:Int)(b:Bool):∀n∈(D4 s q r b).2.1,1<=n∧n<=30:=λn g=>by
 unfold D4 at g;split at g
 ·cases g
 ·obtain⟨x,d,rfl⟩:=qH g;exact Lf j x d
theorem SZ(ns:List Int)(n:Nat):∀(l:List Rw)(j:Nat),(DH ns n j l).length<=l.length
 |[],j=>Qe _
 |x::r,j=>by
  unfold DH;have:=SZ ns n r (j+1);split<;>simp only[Qb]<;>omega
def Mi{s:Sc}(j:s.rs.length<=6)(ns:List Int)(c:Nat):(0<=(Bg s ns c).2.2∧(Bg s ns c).2.2<=99)∧(Bg s ns c).1.rs.length<=6∧(Bg s ns c).2.1.length<=6:=by
 grind [Bg,Nw,SZ]
def fD{s:Sc}(j:s.rs.length<=6)(q r:Int)(b:Bool):(0<=(D4 s q r b).2.2∧(D4 s q r b).2.2<=99)∧(D4 s q r b).1.rs.length<=6∧(D4 s q r b).2.1.length<=6:=by
 grind [D4,EG,Lz]
end
def oU(s:Sc)(n:Int):0<=(EK s n).2∧(EK s n).2<=99:=by
 grind [EK]
def aAZ{s:Sc}(j:Ww s){n:Int}(h:(EK s n).2=0):1<=(EK s n).1.1∧(EK s n).1.1<=30:=by
 have m:=Ni j.bad;unfold EK at h ⊢;split at h
 ·cases h
 ·rename_i u;rw[if_neg u];split at h
  ·cases h
  ·rename_i f;rw[if_neg f];split at h
   ·cases h
   ·rename_i i;rw[if_neg i];have k:Ff s n<s.rs.length:=by
     unfold Ff;split
     ·omega
     ·exact Tl _ _
    simp only[Zp];rw[Qi O];have a:=PU m.2.2.2.2.1 _ (QD (l:=s.rs) (n:=(Ff s n).toNat) O);have v:(s.rs.getLast?.map (·.1)).getD 0=Ly s.rs:=by unfold Ly;cases s.rs.getLast?<;>rfl
    rw[v,m.2.2.2.2.2]at a;simp only[QV];omega
def B2(v:Vw)(a:Ak)(k:Kn):Oc:=
 if(AK k a.pa).2.2=false then CI v (Aw 1 a.pa 0) false
 else if a.op=10 then DE v a.pa (Ik (CM (AK k a.pa))) a.cas a.da
 else if a.op=15 then E_ v a.pa (D4 (Ik (CM (AK k a.pa))) (Bj v a.pa).1 a.n a.fl).1 (D4 (Ik (CM (AK k a.pa))) (Bj v a.pa).1 a.n a.fl).2.1 (D4 (Ik (CM (AK k a.pa))) (Bj v a.pa).1 a.n a.fl).2.2
 else match CM (AK k a.pa)with
  |none=>EM v 6
  |some s=>if a.op=14 then {Hd v with rep:=HD (.about s)}else if a.op=16 then {Fl (Hd v) a.pa s.rs with rep:=HD .done}
   else if a.op=11 then E_ v a.pa (Bg s a.ns 280).1 [] (Bg s a.ns 280).2.2 else if a.op=12 then E_ v a.pa (Bg s a.ns 281).1 [] (Bg s a.ns 281).2.2
   else E_ v a.pa (Bg s a.ns 282).1 (Bg s a.ns 282).2.1 (Bg s a.ns 282).2.2
def aXy{v:Vw}{a:Ak}{k:Kn}(y:Hx v)(x:H7 a)(o:Ip k)(q:10<=a.op∧a.op<=16):∃ol,Ue ⟨v,a,k⟩ (Hd v) []=some (.tup [],B2 v a k,ol):=by
 have c:a.pa.length<=1000000:=Ys
 have p:a.da.length<=1000000:=by have:=x.ok.da;omega
 have g:=x.ok.ns;unfold B2;cases hm:(AK k a.pa).2.2 with
 |false=>
  rw[if_pos rfl];exact⟨_,aEy ⟨v,a,k⟩ (Hd v) _ _ _ (λ_=>rfl) (Nu o c hm)⟩
 |true=>
  rw[if_neg V];have z:=LM (v:=v) (a:=a) o c hm;have t:=Fv (AK k a.pa);by_cases f:a.op=10
  ·rw[if_pos f];obtain⟨ol,e⟩:=aOL (a:=a) (k:=k) y c t (cas:=a.cas) (data:=a.da) p;exact⟨_,yH ⟨v,a,k⟩ (Hd v) _ _ _ _ (λ_=>rfl) z f e⟩
  rw[if_neg f];by_cases d:a.op=15
  ·rw[if_pos d];have hl:=t.len;obtain⟨w,m,b3⟩:=fD hl (Bj v a.pa).1 a.n a.fl;obtain⟨ol,r⟩:=aGC (v:=v) (a:=a) (k:=k) (s:=(D4 (Ik (CM (AK k a.pa))) (Bj v a.pa).1 a.n a.fl).1) O (gnl:=decide ((D4 (Ik (CM (AK k a.pa))) (Bj v a.pa).1 a.n a.fl).2.1=[])) (gone:=(D4 (Ik (CM (AK k a.pa))) (Bj v a.pa).1 a.n a.fl).2.1) O w c;exact⟨_,mW ⟨v,a,k⟩ (Hd v) _ _ _ _ (λ_=>rfl) z d (Bj v a.pa).1 (Bj v a.pa).2 _ _ _ _ r (V7 ⟨v,a,k⟩ (Hd v) a.pa (λ_=>rfl) (by have:=y.ml;simp only;omega)) (aJS _ _ _ _ _ O t.nl)⟩
  rw[if_neg d];cases hs:CM (AK k a.pa)with
  |none=>
   rw[hs]at z;exact⟨_,aEx ⟨v,a,k⟩ (Hd v) _ _ _ (λ_=>rfl) z f d (w54 v a k V)⟩
  |some s=>
   rw[hs]at z;have b:=O0 hs;have hl:=b.len;simp only;by_cases j:a.op=14
   ·rw[if_pos j];exact⟨_,yJ ⟨v,a,k⟩ (Hd v) s _ _ (λ_=>rfl) z j (I3 ⟨v,a,k⟩ (Hd v) (.about s) (λ_=>rfl) (show s.rs.length<=1000 by omega) trivial)⟩
   rw[if_neg j];by_cases ta:a.op=16
   ·rw[if_pos ta];exact⟨_,yI ⟨v,a,k⟩ (Hd v) s _ _ (λ_=>rfl) z ta (aIL ⟨v,a,k⟩ (Hd v) s (Im v) O c)⟩
   rw[if_neg ta];by_cases i:a.op=11
   ·rw[if_pos i];obtain⟨w,m,b3⟩:=Mi hl a.ns 280;obtain⟨ol,r⟩:=aGC (v:=v) (a:=a) (k:=k) (s:=(Bg s a.ns 280).1) O (gnl:=true) (gone:=[]) (Qt _) w c;exact⟨_,mV ⟨v,a,k⟩ (Hd v) s _ _ (λ_=>rfl) z i _ _ r (aJQ s _ _ O b.nl g)⟩
   rw[if_neg i];by_cases ia:a.op=12
   ·rw[if_pos ia];obtain⟨w,m,b3⟩:=Mi hl a.ns 281;obtain⟨ol,r⟩:=aGC (v:=v) (a:=a) (k:=k) (s:=(Bg s a.ns 281).1) O (gnl:=true) (gone:=[]) (Qt _) w c;exact⟨_,V2 ⟨v,a,k⟩ (Hd v) s _ _ (λ_=>rfl) z ia _ _ r (aJO s _ _ O b.nl g)⟩
   rw[if_neg ia];have u:a.op=13:=O
   obtain⟨w,m,b3⟩:=Mi hl a.ns 282;obtain⟨ol,r⟩:=aGC (v:=v) (a:=a) (k:=k) (s:=(Bg s a.ns 282).1) O (gnl:=decide ((Bg s a.ns 282).2.1=[])) (gone:=(Bg s a.ns 282).2.1) O w c;exact⟨_,gD ⟨v,a,k⟩ (Hd v) s _ _ (λ_=>rfl) z u _ _ _ _ r (aJM s _ _ O b.nl g)⟩
def Ec{v:Vw}{a:Ak}{k:Kn}(y:Hx v)(i:AF a.pa=0)(p:10<=a.op∧a.op<=16):((AK k a.pa).2.2=true->(B2 v a k).need=[]∧Iq v a (B2 v a k))∧((AK k a.pa).2.2=false->B2 v a k=CI v (Aw 1 a.pa 0) false):=by
 have f:=Fv (AK k a.pa);have hl:=f.len;unfold B2;cases hm:(AK k a.pa).2.2 with
 |false=>
  rw[if_pos rfl];exact⟨λe=>Xt,λ_=>rfl⟩
 |true=>
  rw[if_neg V];refine⟨λ_=>?_,λe=>Xt⟩;by_cases j:a.op=14
  ·rw[if_neg O,if_neg O];cases hs:CM (AK k a.pa)with
   |none=>exact⟨rfl,BW V⟩
   |some s=>
    simp only;rw[if_pos j];exact⟨rfl,Gq (.about s) (if_neg (by rw[(O0 hs).bad];decide)) trivial rfl Xo (PB O) rfl v.se (λ_ _=>rfl) rfl⟩
  have t:Ef a.op=true:=Ob O;by_cases r:a.op=10
  ·grind [SS]
  rw[if_neg r];by_cases d:a.op=15
  ·rw[if_pos d];obtain⟨w,m,z⟩:=fD hl (Bj v a.pa).1 a.n a.fl;exact Mj y O w i t m (xH f _ _ _)
  rw[if_neg d];cases hs:CM (AK k a.pa)with
  |none=>exact⟨rfl,BW V⟩
  |some s=>
   have b:=O0 hs;have hl:=b.len;simp only;rw[if_neg j];by_cases ta:a.op=16
   ·rw[if_pos ta];have g:(Fj s.rs).length<=s.rs.length:=by unfold Fj;rw[Qo];exact List.length_filter_le _ _
    have u:∀n∈Fj s.rs,1<=n∧n<=30:=λn g=>by
     obtain⟨x,q,rfl⟩:=QM.1 g;exact Lf b x (Q6.1 q).1
    refine⟨rfl,DT .done rfl trivial rfl Xo t (by simp[Fl,Bn,Oc.op,Hd]) ⟨?_,?_⟩ y⟩
    ·grind [Fl,Bn,Oc.op,Hd]
    ·grind [Fl,Bn,Oc.op,Hd,DO,OK,CB,Vy]
   rw[if_neg ta];have tb:=λc=>Mi hl a.ns c
   have o:=λc=>tV b a.ns c
   by_cases ma:a.op=11
   ·rw[if_pos ma];exact Mj y (Qt _) (tb 280).1 i t (tb 280).2.1 (λn h=>nomatch h)
   rw[if_neg ma];by_cases ia:a.op=12
   ·rw[if_pos ia];exact Mj y (Qt _) (tb 281).1 i t (tb 281).2.1 (λn h=>nomatch h)
   rw[if_neg ia];exact Mj y (by have:=(tb 282).2.2;omega) (tb 282).1 i t (tb 282).2.1 (o 282)
def GS{v:Vw}{a:Ak}(y:Hx v)(x:H7 a)(ia:zW [H4 v,Hv a]=some (.int .i64 0))(i:AF a.pa=0)(q:10<=a.op∧a.op<=16):HO v a (B2 v a):=by
 refine⟨λk o=>?_,λk o g=>?_,λk o g=>?_,λk=>if(AK k a.pa).2.2=true then 0 else 1,λk=>by dsimp only;split<;>decide,λk d o g=>?_⟩
 ·obtain⟨ol,h⟩:=aXy y x o q;rcases(by omega:a.op=10∨a.op=11∨a.op=12∨a.op=13∨a.op=14∨a.op=15∨a.op=16)with e|e|e|e|e|e|e
  ·exact BM .o10 a k e ia _ _ h
  ·exact BM .o11 a k e ia _ _ h
  ·exact BM .o12 a k e ia _ _ h
  ·exact BM .o13 a k e ia _ _ h
  ·exact BM .o14 a k e ia _ _ h
  ·exact BM .o15 a k e ia _ _ h
  ·exact BM .o16 a k e ia _ _ h
 ·cases hm:(AK k a.pa).2.2 with
  |true=>exact((Ec (v:=v) y i q).1 hm).2
  |false=>
   rw[(Ec (v:=v) y i q).2 hm]at g;exact absurd g (IN (OK i))
 ·cases hm:(AK k a.pa).2.2 with
  |true=>exact absurd ((Ec (v:=v) y i q).1 hm).1 g
  |false=>exact⟨_,_,(Ec (v:=v) y i q).2 hm⟩
 ·cases hm:(AK k a.pa).2.2 with
  |true=>exact absurd ((Ec (v:=v) y i q).1 hm).1 g
  |false=>
   rw[(Ec (v:=v) y i q).2 hm];show(if(C5 (AY k (Aw 1 a.pa 0) false d) (Aw 1 a.pa 0)).2.2=true then 0 else 1)<(if(AK k a.pa).2.2=true then 0 else 1);rw[(GL k _ d _).1 rfl,hm];decide
def dH(v:Vw)(a:Ak)(k:Kn):Oc:=
 if(Fm k ([109,47]++a.pa++[47])).2.2=false then CI v ([109,47]++a.pa++[47]) true
 else {Hd v with rep:=HD (.names (decide (Gk a.pa (B6 (Fm k ([109,47]++a.pa++[47])).2.1)=[])) ((rD a.pa (B6 (Fm k ([109,47]++a.pa++[47])).2.1)).take 64))}
def Vn{z:Bs}{l:List Bs}(h:Gk z l=[]):rD z l=[]:=by unfold rD jD;rw[h,List.mergeSort_nil];rfl
def aBb{l:List Bs}(h:∀s∈l,s.length<=1000000):∀s∈B6 l,s.length<=1000000:=λs j=>Qh (CB (Oj j)) V
def aC2{v:Vw}{a:Ak}(y:Hx v)(x:H7 a)(ia:zW [H4 v,Hv a]=some (.int .i64 0))(q:a.op=17):HO v a (dH v a):=by
 have c:a.pa.length<=1000000:=Ys
 refine⟨λk o=>?_,λk o g=>?_,λk o g=>?_,λk=>if(Fm k ([109,47]++a.pa++[47])).2.2=true then 0 else 1,λk=>by dsimp only;split<;>decide,λk d o g=>?_⟩
 ·have na:k.ls.length<=1000:=by have:=o.ls;omega
  have r:=aJV k ([109,47]++a.pa++[47]) na;unfold dH;cases hm:(Fm k ([109,47]++a.pa++[47])).2.2 with
  |false=>
   rw[if_pos rfl];rw[hm]at r;exact BM .o17 a k q ia _ _ (aEB SQ ⟨v,a,k⟩ (Hd v) _ _ (λ_=>rfl) _ _ c r (Pu ⟨v,a,k⟩ (Hd v) _ _ (Im v)))
  |true=>
   rw[if_neg V];rw[hm]at r;obtain⟨w,z⟩:=aPG o ([109,47]++a.pa++[47]);generalize (Fm k ([109,47]++a.pa++[47])).2.1=f at *;have u:=uT f;have m:=aQ3 a.pa (B6 f);exact BM .o17 a k q ia _ _ (aRa SQ ⟨v,a,k⟩ (Hd v) _ (λ_=>rfl) _ _ c r w z (decide (Gk a.pa (B6 f)=[])) (rD a.pa (B6 f)) (λb _=>aJ3 O (aBb z)) O (λe=>Vn (of_decide_eq_true e)) (I3 ⟨v,a,k⟩ (Hd v) (.names _ _) (λ_=>rfl) (by show((rD a.pa (B6 f)).take 64).length<=1000;rw[ZE];omega) (λe=>by rw[Vn (of_decide_eq_true e)];rfl)))
 ·unfold dH at g ⊢;cases hm:(Fm k ([109,47]++a.pa++[47])).2.2 with
  |false=>rw[hm,if_pos rfl]at g;simp[CI]at g
  |true=>
   rw[if_neg V];exact Gq (.names _ _) (if_pos ⟨XE,aD3 _ _⟩) (λe=>by rw[Vn (of_decide_eq_true e)];rfl) rfl Xo (PB O) rfl v.se (λ_ _=>rfl) rfl
 ·unfold dH at g ⊢;cases hm:(Fm k ([109,47]++a.pa++[47])).2.2 with
  |true=>rw[hm,if_neg V]at g;exact absurd rfl g
  |false=>exact⟨_,_,if_pos rfl⟩
 ·unfold dH at g ⊢;cases hm:(Fm k ([109,47]++a.pa++[47])).2.2 with
  |true=>rw[hm,if_neg V]at g;exact absurd rfl g
  |false=>
   rw[if_pos rfl];show(if(Fm (AY k ([109,47]++a.pa++[47]) true d) ([109,47]++a.pa++[47])).2.2=true then 0 else 1)<(if(Fm k ([109,47]++a.pa++[47])).2.2=true then 0 else 1);rw[aHY,hm];decide
def LS(a:Ak):Int:=if a.op=18 then 0 else a.n
def EC(k:Kn)(a:Ak):Rw×Int:=EK (Ik (CM (AK k a.pa))) (LS a)
def BZ(k:Kn)(a:Ak):Bs:=Aw 2 a.pa (EC k a).1.1
def PM(k:Kn)(a:Ak):Bs:=if(C5 k (BZ k a)).2.1=true then(C5 k (BZ k a)).1 else []
def B4(v:Vw)(a:Ak)(k:Kn):Oc:=
 if(AK k a.pa).2.2=false then CI v (Aw 1 a.pa 0) false
 else if(CM (AK k a.pa)).isSome=false then EM v 6
 else if(EC k a).2≠0 then EM v (EC k a).2
 else if(C5 k (BZ k a)).2.2=false then CI v (BZ k a) false
 else if a.op=9 then {Hd v with rep:=HD (.found (EC k a).1.1 (PM k a))}
 else if(AK k a.ot).2.2=false then CI v (Aw 1 a.ot 0) false
 else DE v a.ot (Ik (CM (AK k a.ot))) (-1) (PM k a)
section
variable{v:Vw}{a:Ak}{k:Kn}
def WN(o:Ip k):(PM k a).length<=400:=by
 grind [PM,qI]
def aG5(r:Rw):rwD r= .agg [.int .i64 r.1,.bool r.2.1,.bool r.2.2]:=rfl
def aXz(i:Hx v)(x:H7 a)(o:Ip k)(p:a.op=9∨a.op=18):∃ol,Wv ⟨v,a,k⟩ (Hd v) []=some (.tup [],B4 v a k,ol):=by
 have w:a.pa.length<=1000000:=Ys
 have s:a.ot.length<=1000000:=by have:=x.ok.ot;omega
 have na:k.es.length<=1000:=by have:=o.es;omega
 have m:=WN (a:=a) o;unfold B4;cases hm:(AK k a.pa).2.2 with
 |false=>
  rw[if_pos rfl];exact⟨_,aEA ⟨v,a,k⟩ (Hd v) _ _ _ (λ_=>rfl) (Nu o w hm)⟩
 |true=>
  rw[if_neg V];have z:=LM (v:=v) (a:=a) o w hm;have ya:=Fv (AK k a.pa);have hl:=ya.len;cases hs:(CM (AK k a.pa)).isSome with
  |false=>
   rw[if_pos rfl];rw[hs]at z;exact⟨_,aEz ⟨v,a,k⟩ (Hd v) _ _ _ (λ_=>rfl) z (w54 v a k V)⟩
  |true=>
   rw[if_neg V];rw[hs]at z;have b:=aJU (Ik (CM (AK k a.pa))) (LS a) O;rw[aG5]at b;have d:=oU (Ik (CM (AK k a.pa))) (LS a);have r:=C7 2 (EC k a).1.1 a.pa w;have y:=Pw k (BZ k a) na;unfold PM at m ⊢;unfold EC BZ EC at *;generalize EK (Ik (CM (AK k a.pa))) (LS a)=row at *;obtain⟨⟨n,t,r2⟩,e⟩:=row;simp only at *;by_cases f:e≠0
   ·rw[if_pos f];rcases p with h9|h18
    ·have c:LS a=a.n:=by unfold LS;rw[h9];rfl
     rw[c]at b;exact⟨_,yL ⟨v,a,k⟩ (Hd v) _ _ _ (λ_=>rfl) z h9 n e t r2 b f (w54 v a k O)⟩
    ·have c:LS a=0:=by unfold LS;rw[if_pos h18]
     rw[c]at b;exact⟨_,mY ⟨v,a,k⟩ (Hd v) _ _ _ (λ_=>rfl) z h18 n e t r2 b f (w54 v a k O)⟩
   ·rw[if_neg f];obtain rfl:=Decidable.not_not.1 f;generalize Aw 2 a.pa n=q at *;generalize C5 k q=en at *;obtain⟨g,t2,t3⟩:=en;simp only at *;rcases p with h9|h18
    ·have c:LS a=a.n:=by unfold LS;rw[h9];rfl
     rw[c]at b;cases t3 with
     |false=>
      rw[if_pos rfl];exact⟨_,yK ⟨v,a,k⟩ (Hd v) _ _ _ (λ_=>rfl) z h9 n t r2 b q _ _ r y (Pu ⟨v,a,k⟩ (Hd v) q false (Im v))⟩
     |true=>
      rw[if_neg V,if_pos h9];cases t2 with
      |true=>exact⟨_,gE ⟨v,a,k⟩ (Hd v) _ _ _ (λ_=>rfl) z h9 n t r2 b q _ r y (I3 ⟨v,a,k⟩ (Hd v) (.found n g) (λ_=>rfl) trivial trivial)⟩
      |false=>exact⟨_,V3 ⟨v,a,k⟩ (Hd v) _ _ _ (λ_=>rfl) z h9 n t r2 b q _ r y (I3 ⟨v,a,k⟩ (Hd v) (.found n []) (λ_=>rfl) trivial trivial)⟩
    ·have c:LS a=0:=by unfold LS;rw[if_pos h18]
     have h9:¬a.op=9:=O
     rw[c]at b;cases t3 with
     |false=>
      rw[if_pos rfl];exact⟨_,mX ⟨v,a,k⟩ (Hd v) _ _ _ (λ_=>rfl) z h18 n t r2 b q _ _ r y (Pu ⟨v,a,k⟩ (Hd v) q false (Im v))⟩
     |true=>
      rw[if_neg V,if_neg h9];cases hm2:(AK k a.ot).2.2 with
      |false=>
       rw[if_pos rfl];have j:=Nu (v:=v) (a:=a) o s hm2;cases t2 with
       |true=>exact⟨_,N5 ⟨v,a,k⟩ (Hd v) _ _ (λ_=>rfl) z h18 n t r2 b q _ r y _ _ j⟩
       |false=>exact⟨_,Nk ⟨v,a,k⟩ (Hd v) _ _ (λ_=>rfl) z h18 n t r2 b q _ r y _ _ j⟩
      |true=>
       rw[if_neg V];have j:=LM (v:=v) (a:=a) o s hm2;cases t2 with
       |true=>
        obtain⟨ol,u⟩:=aOL (a:=a) (k:=k) i s (Fv (AK k a.ot)) (cas:=-1) (data:=g) (by simp only[if_true]at m;omega);exact⟨_,gF ⟨v,a,k⟩ (Hd v) _ _ _ (λ_=>rfl) z h18 n t r2 b q _ r y _ _ j u⟩
       |false=>
        obtain⟨ol,u⟩:=aOL (a:=a) (k:=k) i s (Fv (AK k a.ot)) (cas:=-1) (data:=[]) (Qt _);exact⟨_,V4 ⟨v,a,k⟩ (Hd v) _ _ _ (λ_=>rfl) z h18 n t r2 b q _ r y _ _ j u⟩
def qV(y:Hx v)(n:Ip k)(i:AF a.pa=0)(na:a.op=18->AF a.ot=0)(ga:a.op=9∨a.op=18):((B4 v a k).need=[]->Iq v a (B4 v a k))∧((B4 v a k).need≠[]->∃q li,B4 v a k=CI v q li):=by
 have m:=WN (a:=a) n;have fin:∀{o:Oc},o.need=[]->Iq v a o->(o.need=[]->Iq v a o)∧(o.need≠[]->∃q li,o=CI v q li):=λu f=>⟨λ_=>f,λh=>absurd u h⟩
 have b:∀{q:Bs} {li:Bool},q≠[]->((CI v q li).need=[]->Iq v a (CI v q li))∧((CI v q li).need≠[]->∃w c,CI v q li=CI v w c):=λh=>⟨λe=>absurd e h,λ_=>⟨_,_,rfl⟩⟩
 unfold B4;cases hm:(AK k a.pa).2.2 with
 |false=>rw[if_pos rfl];exact b (IN (OK i))
 |true=>
  rw[if_neg V];cases hs:(CM (AK k a.pa)).isSome with
  |false=>rw[if_pos rfl];exact fin rfl (BW V)
  |true=>
   rw[if_neg V];have d:=oU (Ik (CM (AK k a.pa))) (LS a);by_cases s:(EC k a).2≠0
   ·rw[if_pos s];exact fin rfl (BW ⟨by unfold EC at *;omega,d.2⟩)
   rw[if_neg s];have j:1<=(EC k a).1.1∧(EC k a).1.1<=30:=aAZ (Fv _) (Decidable.not_not.1 s);cases ht:(C5 k (BZ k a)).2.2 with
   |false=>rw[if_pos rfl];exact b (IN (UM i j))
   |true=>
    rw[if_neg V];by_cases h9:a.op=9
    ·rw[if_pos h9];exact fin rfl (Gq (.found _ _) (if_pos ⟨O,O,m⟩) trivial rfl Xo (PB O) rfl v.se (λ_ _=>rfl) rfl)
    rw[if_neg h9];have r:a.op=18:=O
    cases hm2:(AK k a.ot).2.2 with
    |false=>rw[if_pos rfl];exact b (IN (OK (na r)))
    |true=>
     rw[if_neg V];obtain⟨w1,x⟩:=SS (v:=v) (a:=a) y (p:=a.ot) (Fv (AK k a.ot)) (cas:=-1) (data:=PM k a) (na r) (Ob O);exact fin w1 x
def Fy(k:Kn)(a:Ak):Nat:=if(AK k a.pa).2.2=false then 3 else if(C5 k (BZ k a)).2.2=false then 2 else if(AK k a.ot).2.2=false then 1 else 0
def aHl(k:Kn)(a:Ak):Fy k a<=3:=by
 unfold Fy
 repeat' split
 all_goals decide
def xC(g:(B4 v a k).need≠[]):((AK k a.pa).2.2=false∧B4 v a k=CI v (Aw 1 a.pa 0) false)∨((AK k a.pa).2.2=true∧(C5 k (BZ k a)).2.2=false∧B4 v a k=CI v (BZ k a) false)∨((AK k a.pa).2.2=true∧(C5 k (BZ k a)).2.2=true∧(AK k a.ot).2.2=false∧B4 v a k=CI v (Aw 1 a.ot 0) false):=by
 unfold B4 at g ⊢;cases hm:(AK k a.pa).2.2 with
 |false=>rw[if_pos rfl];exact .inl ⟨rfl,rfl⟩
 |true=>
  rw[hm,if_neg V]at g;rw[if_neg V];split at g
  ·exact absurd rfl g
  rename_i c1;rw[if_neg c1];split at g
  ·exact absurd rfl g
  rename_i p;rw[if_neg p];cases ht:(C5 k (BZ k a)).2.2 with
  |false=>rw[if_pos rfl];exact .inr (.inl ⟨rfl,rfl,rfl⟩)
  |true=>
   rw[ht,if_neg V]at g;rw[if_neg V];split at g
   ·exact absurd rfl g
   rename_i y;rw[if_neg y];cases hm2:(AK k a.ot).2.2 with
   |false=>rw[if_pos rfl];exact .inr (.inr ⟨rfl,rfl,rfl,rfl⟩)
   |true=>
    rw[hm2,if_neg V]at g;unfold DE at g;split at g
    ·exact absurd rfl g
    ·exact absurd rfl g
def xD(d:Dk)(g:(B4 v a k).need≠[]):Fy (AY k (B4 v a k).need (B4 v a k).li d) a<Fy k a:=by
 rcases xC g with ⟨u,f⟩|⟨u,f,i⟩|⟨u,f,i,p⟩
 ·rw[f];show Fy (AY k (Aw 1 a.pa 0) false d) a<Fy k a;have e:(AK (AY k (Aw 1 a.pa 0) false d) a.pa).2.2=true:=(GL k _ d _).1 rfl;unfold Fy;rw[e,u];simp only[Zy,if_false,if_true]
  repeat' split
  all_goals decide
 ·rw[i];show Fy (AY k (BZ k a) false d) a<Fy k a;have q:Aw 1 a.pa 0≠BZ k a:=λe=>by
   unfold AK at u;rw[e,f]at u;cases u
  have e:AK (AY k (BZ k a) false d) a.pa=AK k a.pa:=(GL k _ d _).2 q.symm;have c:EC (AY k (BZ k a) false d) a=EC k a:=by unfold EC;rw[e]
  have o:BZ (AY k (BZ k a) false d) a=BZ k a:=by
   show Aw 2 a.pa (EC (AY k (BZ k a) false d) a).1.1=Aw 2 a.pa (EC k a).1.1;rw[c]
  have j:(C5 (AY k (BZ k a) false d) (BZ k a)).2.2=true:=(GL k _ d _).1 rfl;unfold Fy;rw[e,u,f,o,j];simp only[Zy,if_false,if_true];split<;>decide
 ·rw[p];show Fy (AY k (Aw 1 a.ot 0) false d) a<Fy k a;have q:Aw 1 a.pa 0≠Aw 1 a.ot 0:=λe=>by
   unfold AK at u i;rw[e,i]at u;cases u
  have z:BZ k a≠Aw 1 a.ot 0:=λe=>by
   unfold AK at i;rw[e,i]at f;cases f
  have e:AK (AY k (Aw 1 a.ot 0) false d) a.pa=AK k a.pa:=(GL k _ d _).2 q.symm;have c:EC (AY k (Aw 1 a.ot 0) false d) a=EC k a:=by unfold EC;rw[e]
  have o:BZ (AY k (Aw 1 a.ot 0) false d) a=BZ k a:=by
   show Aw 2 a.pa (EC (AY k (Aw 1 a.ot 0) false d) a).1.1=Aw 2 a.pa (EC k a).1.1;rw[c]
  have j:C5 (AY k (Aw 1 a.ot 0) false d) (BZ k a)=C5 k (BZ k a):=(GL k _ d _).2 z.symm;have b:(AK (AY k (Aw 1 a.ot 0) false d) a.ot).2.2=true:=(GL k _ d _).1 rfl;unfold Fy;rw[e,u,o,j,f,b,i];decide
end
def RH{v:Vw}{a:Ak}(y:Hx v)(x:H7 a)(ia:zW [H4 v,Hv a]=some (.int .i64 0))(i:AF a.pa=0)(na:a.op=18->AF a.ot=0)(q:a.op=9∨a.op=18):HO v a (B4 v a):=by
 refine⟨λk o=>?_,λk o g=>(qV y o i na q).1 g,λk o g=>(qV y o i na q).2 g,λk=>Fy k a,λk=>aHl k a,λk d _ g=>xD d g⟩;obtain⟨ol,h⟩:=aXz y x o q;rcases q with e|e
 ·exact BM .o9 a k e ia _ _ h
 ·exact BM .o18 a k e ia _ _ h
def aIm{v:Vw}{a:Ak}(y:Hx v)(x:H7 a):∃z,HO v a z∧(F8 v a≠0->∀k,z k=EM v (F8 v a)):=by
 have ia:=I8 y.ok x.ok;have m:=UQ v a;by_cases h:F8 v a=0
 ·rw[h]at ia;have w:=mE h;obtain⟨u,f⟩:=aTo w x.ok.op0;by_cases r:a.op<=8
  ·simp_all [aIk]
  have i:=aHq w O f;by_cases sa:a.op=17
  ·exact⟨_,aC2 y x ia sa,λe=>absurd h e⟩
  by_cases q:a.op=9∨a.op=18
  ·exact⟨_,RH y x ia i (λe=>aBd w e) q,λe=>absurd h e⟩
  ·exact⟨_,GS y x ia i O,λe=>absurd h e⟩
 ·exact⟨_,eY ia O,λ_ _=>rfl⟩
def GI{q:UInt8}:∀{l:List Bs},l≠[]->(∀w∈l,q∉w)->splitC q (Lib.join l [q])=l
 |[],h,_=>absurd rfl h
 |[x],_,h=>by
  have e:Lib.join [x] [q]=x:=XJ
  rw[e];exact split_one (h x (Za _))
 |x::y::r,_,h=>by
  have e:Lib.join (x::y::r) [q]=x++q::Lib.join (y::r) [q]:=XJ
  rw[e,split_word (h x (QB ..)),GI U (λw t=>h w (Qw _ t))]
def PS(x:Rw)(h:0<=x.1∧x.1<1000):∀c∈rowW1 x,c=33∨c=35∨48<=c.toNat∧c.toNat<=57:=by
 intro c hc;unfold rowW1 at hc;rcases QR.1 hc with hc|hc
 ·rcases QR.1 hc with hc|hc
  ·exact .inr (.inr (MA _ O c hc))
  ·split at hc
   ·exact .inl (Qm.1 hc)
   ·cases hc
 ·split at hc
  ·exact .inr (.inl (Qm.1 hc))
  ·cases hc
def aPh(x:Rw)(h:0<=x.1∧x.1<1000):(44:UInt8)∉rowW1 x:=λw=>by
 rcases PS x h 44 w with h|h|h
 ·cases h
 ·cases h
 ·exact absurd h.1 V
def aG8(x:Rw)(h:0<=x.1∧x.1<1000)(l:List Rw):Lib.join ((x::l).map rowW1) [44]≠[45]:=λe=>by
 have u:=PS x h;have f:rowW1 x≠[]:=by
  have:=cF x.1.toNat;unfold rowW1;intro e;simp only[List.append_eq_nil_iff]at e;rw[e.1.1]at this;simp at this
 obtain⟨c,r,i⟩:=Zg f;have:∃q,Lib.join ((x::l).map rowW1) [44]=c::q:=by
  cases l with
  |nil=>exact⟨r,by simp[Lib.join,i]⟩
  |cons y l=>exact⟨r++[44]++Lib.join ((y::l).map rowW1) [44],by simp[Lib.join,i]⟩
 obtain⟨q,k⟩:=this;rw[k]at e;have w:c=45:=(ZS e).1;rcases u c (by rw[i];exact QB ..)with h|h|h
 ·rw[w]at h;cases h
 ·rw[w]at h;cases h
 ·rw[w]at h;exact absurd h.1 V
def GD{s:Bs}{q:UInt8}(h:s.length<=1000000):Dg [.str s,.str [q]]=some (.slice false [] (strsD (splitC q s))):=if_pos h
def nC:=Ao [(65,Ac R90),(177,Ac aJr),(178,Ac aRY),(42,Ac Dg)]
def aR6:=RF nC aNs [.cell (some 4) 2] 42
def aVC:Kq aR6 115:=Am (Ai func115) (Aa aH3 (Aa aVl (Aa aVk (Aa uW Ad))))
def aJK(s:Sc)(g1:s.rs.length<=100)(g2:0<=s.mx∧s.mx<1000)(g3:0<=s.la∧s.la<1000)(g4:∀x∈s.rs,0<=x.1∧x.1<1000):aR6 [.slice false [] [.str (BJ s.mx.toNat),.str [if s.cas=true then 49 else 48],.str (BJ s.la.toNat),.str (Dv (s.rs.map rowW1))]]=some (.agg (Hb {s with nl:=decide (s.rs=[])})):=by
 refine Al (Qa rfl) ?_;unfold aNs;obtain⟨mx,cas,la,nl,rs⟩:=s;simp only at g1 g2 g3 g4;have a1:=FM mx.toNat O;rw[QL g2.1]at a1;have a2:=FM la.toNat O;rw[QL g3.1]at a2;have a3:aJr [.str [if cas=true then 49 else 48]]=some (.bool cas):=by
  rw[←aJq cas];cases cas<;>rfl
 have i0:∀a b c d:D,[a,b,c,d][ZF 0]?=some a:=λ_ _ _ _=>rfl
 have i1:∀a b c d:D,[a,b,c,d][ZF 1]?=some b:=λ_ _ _ _=>rfl
 have i2:∀a b c d:D,[a,b,c,d][ZF 2]?=some c:=λ_ _ _ _=>rfl
 have i3:∀a b c d:D,[a,b,c,d][ZF 3]?=some d:=λ_ _ _ _=>rfl
 by_cases sa:rs=[]
 ·subst sa;have e:(Dv (ZK rowW1 [])=[45])=True:=eq_true rfl;simp only[G7,↓C2,GY,simprocAttr,i0,i1,i2,Ae nC 65,a1,a2,Ae nC 177,a3];refine AV ?_;simp only[G7,↓C2,GY,reduceIte,Qq,Qr,QW,reduceCtorEq,Q_,i3,e]
  all_goals exact Y0
 ·have e:(Dv (rs.map rowW1)=[45])=False:=eq_false (λh=>by
   obtain⟨x,l,rfl⟩:=Zg sa;exact aG8 x (g4 x (QB ..)) l h)
  have hw:Dv (rs.map rowW1)=Lib.join (rs.map rowW1) [44]:=if_neg (by simpa using sa);have wa:=Ml rs;have ra:=Eo (rs.map rowW1) [44];have ua:=GD (s:=Dv (rs.map rowW1)) (q:=44) (by rw[hw];simp at ra;omega);have z:splitC 44 (Dv (rs.map rowW1))=rs.map rowW1:=by
   rw[hw];exact GI (by simpa using sa) λw hx=>by obtain⟨x,pa,rfl⟩:=QM.1 hx;exact aPh x (g4 x pa)
  rw[z]at ua;have xa:(strsD (rs.map rowW1)).length=rs.length:=by simp[strsD]
  have za:decide (rs=[])=false:=decide_eq_false sa;have a4:=λx hx=>aJp x (g4 x hx)
  simp only[G7,↓C2,GY,simprocAttr,i0,i1,i2,Ae nC 65,a1,a2,Ae nC 177,a3];refine AV ?_;simp only[↓C2,G_,GY,reduceIte,Qq,Qr,reduceCtorEq,Q_,i3,e,Ae nC 42,ua,xa];refine Bv (n:=rs.length) (I:=λj st=>st.s 27= .slice false [] (strsD (rs.map rowW1))∧st.s 28= .int .i64 rs.length∧st.s 29= .int .i64 (j:Int)∧st.s 2= .ptr [0] 0∧st.s 3= .ptr [14] 0∧(st.m [0] 0=some (.int .i64 0)∧st.m [0] 1=some (.bool false)∧st.m [0] 2=some (.int .i64 0)∧st.m [0] 3=some (.slice true [] []))∧st.m [14] 0=some (.int .i64 mx)∧st.m [14] 1=some (.bool cas)∧st.m [14] 2=some (.int .i64 la)∧26<=st.c∧∃t,st.m [14] 3=some (.slice (decide (j=0)) t (A5 (rs.take j)))∧(decide (j=0)=true∨∃i,t=[i]∧26<=i∧i<st.c∧st.m t 0=some (.tok 81))) (λj hj ih st g hI=>?_) (λst g hI=>?_) 0 (Qt _) _ _ ⟨rfl,rfl,rfl,rfl,rfl,⟨rfl,rfl,rfl,rfl⟩,rfl,rfl,rfl,Qe 26,_,rfl,.inl rfl⟩
  ·obtain⟨ka,fa,da⟩:=st;obtain⟨ha,ba,f,h2,h3,⟨z0,z1,z2,z3⟩,m1,m2,m3,hc,t,m4,hT⟩:=hI;simp only at ha ba f h2 h3 z0 z1 z2 z3 m1 m2 m3 hc m4 hT;refine Af VR.eq_1 ?_;have ea:((j:Int)<rs.length):=by omega
   have oa:=nJ (j:=j);have hw:=wJ (j:=j) O;have ja:(strsD (rs.map rowW1))[j]?=some (.str (rowW1 rs[j])):=by simp[strsD,hj]
   have r:=a4 rs[j] (QD hj);have aa:A5 (rs.take (j+1))=A5 (rs.take j)++[.agg [.int .i64 rs[j].1,.bool rs[j].2.1,.bool rs[j].2.2]]:=by
    unfold A5;rw[QG hj,QX];rfl
   have ma:decide (j=0)=true->A5 (rs.take j)=[]:=λh=>by
    have:j=0:=Xl
    subst this;rfl
   have va:(A5 (rs.take j)).length=j:=by simp[A5];omega
   generalize v:A5 (rs.take j)=ca at m4 aa va ma;generalize decide (j=0)=nb at m4 ma hT;generalize rs[j]=x at ja aa r;have u:∀{o y p},(fa.put [da+p] 0 y) [14] o=fa [14] o:=aA Xb;simp only[↓C2,G_,GY,reduceIte,Qq,Qr,reduceCtorEq,ha,ba,f,h3,m4,ea,oa,Ql,ja,Ae nC 178,r];have ya:I6 (fa.put [da+1+3+4] 0 [.tok 81]) 80 (.slice nb t ca):=by
    rcases hT with h|⟨i,rfl,h1,h2,h3⟩
    ·exact .inl h
    ·exact .inr ⟨by rw[aA Xb];exact h3,U⟩
   refine As.intro ⟨O,rfl,ya⟩ ?_;rw[B0 ma,←aa];obtain⟨M,na,M14,M0,Mt⟩:∃M,Ha.app (fa.put [da+1+3+4] 0 [D.tok 81]) (Be 80 [da+1+3+5] (D.slice nb t ca))=M∧(∀o,M [14] o=fa [14] o)∧(∀o,M [0] o=fa [0] o)∧M [da+1+3+5] 0=some (.tok 81):=by
    have p:∀(m:G6)(k o:Nat)(y:List D),26<=k->(∀q,m.put [k] o y [14] q=m [14] q)∧(∀q,m.put [k] o y [0] q=m [0] q):=λm k o y hk=>⟨λq=>aA Xb,λq=>aA Xb⟩
    refine⟨_,rfl,?_⟩;cases nb with
    |true=>
     show(∀o,((fa.put [da+1+3+4] 0 [D.tok 81]).put [da+1+3+5] 0 [.tok 81]) [14] o=_)∧(∀o,((fa.put [da+1+3+4] 0 [D.tok 81]).put [da+1+3+5] 0 [.tok 81]) [0] o=_)∧((fa.put [da+1+3+4] 0 [D.tok 81]).put [da+1+3+5] 0 [.tok 81]) [da+1+3+5] 0=_;exact⟨λo=>((p _ _ _ _ O).1 o).trans ((p _ _ _ _ O).1 o),λo=>((p _ _ _ _ O).2 o).trans ((p _ _ _ _ O).2 o),Yr⟩
    |false=>
     rcases hT with h|⟨i,rfl,h1,h2,h3⟩
     ·cases h
     show(∀o,(((fa.put [da+1+3+4] 0 [D.tok 81]).put [i] 0 [.tok 0]).put [da+1+3+5] 0 [.tok 81]) [14] o=_)∧(∀o,(((fa.put [da+1+3+4] 0 [D.tok 81]).put [i] 0 [.tok 0]).put [da+1+3+5] 0 [.tok 81]) [0] o=_)∧(((fa.put [da+1+3+4] 0 [D.tok 81]).put [i] 0 [.tok 0]).put [da+1+3+5] 0 [.tok 81]) [da+1+3+5] 0=_;exact⟨λo=>((p _ _ _ _ O).1 o).trans (((p _ _ _ _ h1).1 o).trans ((p _ _ _ _ O).1 o)),λo=>((p _ _ _ _ O).2 o).trans (((p _ _ _ _ h1).2 o).trans ((p _ _ _ _ O).2 o)),Yr⟩
   simp only[G7,↓C2,GY,reduceIte,Qq,Qr,h3,na,M14,m4,Qy];refine As.intro ?_ ?_
   ·intro pp ga l hl;simp only[Qs,ZG,or_false]at ga;rcases ga with rfl|rfl
    ·exact DR hl
    ·have ia:l.1=[da+1+3+4]:=DF hl;refine⟨λh=>?_,λh=>DR h⟩;change l∈Aj [14] 3 1 at h;have:=ia.symm.trans (EH h);simp at this;omega
   have ta:decide (j+1=0)=false:=decide_eq_false O;rw[ta]at ih;simp only[↓C2,G_,reduceIte,Qq,Qr,f,hw];subst na;refine ih _ _ ?_;exact⟨ha,ba,rfl,h2,h3,⟨(M0 0).trans z0,(M0 1).trans z1,(M0 2).trans z2,(M0 3).trans z3⟩,(M14 0).trans m1,(M14 1).trans m2,(M14 2).trans m3,Qh hc (by show da<=da+1+3+8+2;omega),[da+1+3+5],rfl,.inr ⟨_,rfl,O,by show _<da+1+3+8+2;omega,(aA Xb).trans Mt⟩⟩
  ·obtain⟨ka,fa,da⟩:=st;obtain⟨ha,ba,f,h2,h3,⟨z0,z1,z2,z3⟩,m1,m2,m3,hc,t,m4,hT⟩:=hI;simp only at ha ba f h2 h3 z0 z1 z2 z3 m1 m2 m3 hc m4 hT;refine Af VR.eq_1 ?_;rw[Q0]at m4;have qa:decide (rs.length=0)=false:=decide_eq_false (λh=>sa (Zb.1 h));rw[qa]at m4;unfold Hb;rw[za];simp only[G7,↓C2,GY,reduceIte,Qq,Qr,QW,ba,f,Zn,h2,h3,z0,z1,z2,z3,m1,m2,m3,m4,Qy]
   all_goals exact Y0
def Sq:Ry->Ry
 | .about s=> .about {s with nl:=decide (s.rs=[])}
 | .names _ l=> .names (decide (l=[])) l
 |y=>y
def ryS:Ry->Prop
 | .fail _=>False
 | .names _ l=>(∀w∈l,(44:UInt8)∉w)∧l≠[[45]]∧CN l<=900000
 |_=>True
def S91:=Ao [(64,Ac R89),(65,Ac R90),(114,Ac aR7),(115,Ac aR6),(42,Ac Dg)]
def R91:=RF S91 aV5 [.cell (some 10) 2] 96
def aYk:Kq R91 66:=Am (Ai func66) (Aa aH4 (Aa aH3 (Aa aVD (Aa aVC (Aa uW Ad)))))
def nG(y:Ry)(h:ryG y)(j:ryS y):R91 [.slice false [] (strsD (HE y).tail)]=some (.agg (Hy (Sq y))):=by
 refine Al (Qa rfl) ?_;unfold aV5;have r:=Sa;have y0:((0:Nat):Int)=0:=rfl;have y1:((1:Nat):Int)=1:=rfl;have c1:(decide (([115,101,97,108,101,100]:Bs)=[115,101,97,108,101,100]))=true:=rfl;have p:(decide (([111,112,101,110]:Bs)=[115,101,97,108,101,100]))=false:=rfl;have o:(decide (([111,112,101,110]:Bs)=[111,112,101,110]))=true:=rfl;have i:(decide (([110,117,109,98,101,114]:Bs)=[110,117,109,98,101,114]))=true:=rfl;have c5:(decide (([110,97,109,101,115]:Bs)=[110,117,109,98,101,114]))=false:=rfl;have c6:(decide (([110,97,109,101,115]:Bs)=[110,97,109,101,115]))=true:=rfl;have c7:(decide (([102,111,117,110,100]:Bs)=[102,111,117,110,100]))=true:=rfl;have c8:(decide (([97,98,111,117,116]:Bs)=[97,98,111,117,116]))=true:=rfl;cases y with
 |fail e=>exact j.elim
 |done=>
  unfold HE Sq Hy strsD;simp only[G7,↓C2,GY,reduceIte,Qq,Qr,QW,Q1,reduceCtorEq,QP,Qn,Qg,Qd,Qb,Qc,Qj,QI,y0]
  all_goals exact Y0
 |state b=>
  unfold HE Sq Hy strsD;cases b with
  |true=>
   simp only[G7,↓C2,GY,simprocAttr,QP,Qn,Qg,Qd,Qb,Qc,Qj,QI,y1,Ae S91 64,r]
   all_goals exact Y0
  |false=>
   simp only[G7,↓C2,GY,simprocAttr,QP,Qn,Qg,Qd,Qb,Qc,Qj,QI,y1,p,Ae S91 64,r]
   all_goals exact Y0
 |number n=>
  have a:=FM n.toNat XQ;rw[QL h.1]at a;unfold HE Sq Hy strsD;simp only[G7,↓C2,GY,simprocAttr,QP,Qn,Qg,Qd,Qb,Qc,Qj,QI,Ae S91 65,a]
  all_goals exact Y0
 |found n d=>
  have a:=FM n.toNat XQ;rw[QL h.1]at a;have f:=aJL d (by have:=h.2.2;omega);unfold HE Sq Hy strsD;simp only[G7,↓C2,GY,simprocAttr,QP,Qn,Qg,Qd,Qb,Qc,Qj,QI,Ae S91 65,a,Ae S91 114,f];refine AV ?_;simp only[G7,↓C2,GY,reduceIte,Qq,Qr,QW]
  all_goals exact Y0
 |about s=>
  obtain⟨k,x,v,m⟩:=h;have c:=aJK s k x v m;unfold HE Sq Hy strsD;unfold Hb at c;simp only[↓C2,G_,GY,simprocAttr,QP,Qn,Qg,Qd,Qb,Qc,QI];refine As.intro rfl ?_;simp only[G7,↓C2,GY,simprocAttr,Qn,Qg,Qd,Qb,Qc,Qj,QI,List.drop_succ_cons,ZL,Zw,ZM,Ae S91 115,c]
  all_goals exact Y0
 |names nl l=>
  have la:∀w∈l,(44:UInt8)∉w:=j.1;have u:=Eo l [44];have g:=GD (s:=Dv l) (q:=44) (by have:=j.2.2;have:=h.1;unfold Dv;split<;>simp at u ⊢;omega);unfold HE Sq Hy;by_cases hl:l=[]
  ·subst hl;have e:(Dv []=[45])=True:=eq_true rfl;unfold strsD;simp only[G7,↓C2,GY,simprocAttr,QP,Qn,Qg,Qd,Qb,Qc,Qj,QI,c5,Ae S91 64,r,e]
   all_goals exact Y0
  ·have t:Dv l=Lib.join l [44]:=if_neg hl;have z:splitC 44 (Dv l)=l:=by rw[t];exact GI hl la
   have e:(Dv l=[45])=False:=eq_false (λh=>by
    rw[h]at z;exact j.2.1 (z.symm.trans rfl))
   rw[z]at g;have ia:decide (l=[])=false:=decide_eq_false hl;unfold strsD at *;simp only[G7,↓C2,GY,simprocAttr,QP,Qn,Qg,Qd,Qb,Qc,Qj,QI,c5,Ae S91 64,r,e,ia,Ae S91 42,g]
   all_goals exact Y0
def tJ(w:World):Calls Qk 64 #[.bool true] w λe t=>e= .returned (.tuple #[])∧t=w:=by
 go_enter func64,ntmps64
 go_wp2
 all_goals go_end0
 all_goals exact Y5
def aXA(w:World):Calls Qk 64 #[.bool false] w λe t=>e= .panicked [{v:= .iface 189 (.agg #[]),recovered:=false}]∧t=w:=by
 go_enter func64,ntmps64
 go_wp2
 exact⟨rfl,rfl,rfl⟩
def RO(k b:Value)(w:World):CallsD Qk 63 #[k,b] .returning w λe u s=>e= .returned (.tuple #[])∧u= .returning∧s=w:=by
 refine callsD_of_wpS func63 rfl λf cs z=>?_
 apply wpS_seq;apply wpS_region;simp[wpOpsS,go_sem,recoverD,z,ntmps63,Exit.thenS];refine wpS_cond (t:=false) (by simp[Act.eval,ZI]) ?_;simp only[Zh,if_false];refine wpS_of_wp (wp_skip ?_);cases f;simp_all [bodyPostS,results,results63]
def O4{P:Program}{f:FuncId}{F:List D->Option D}(k:(Ac F).ok P f){ds:List D}{r:D}(a:F ds=some r)(ia:ds.all D.calm=true)(y:ds.map D.un=ds)(hr:r.calmR=true){vs:List Value}{w:World}{G:Nat->Nat}
  (hl:vs.length=ds.length) (c:∀(j:Nat) d v,ds[j]?=some d->vs[j]?=some v->Rep w (Gh.base G) d v) (n:∀b,w.heap.size<=b->G b=0):
  Calls P f vs.toArray w λe t=>∃v G',e= .returned v∧Below w.heap.size w t∧(∀b,t.heap.size<=b->G' b=0)∧(∀b,b<w.heap.size->G' b=G b)∧Rep t (Gh.base G') r v:=by
 have g:He P w.heap.size w (λ_ _=>none) w (Gh.base G):=
  ⟨Below.refl _ _,Qe _,n,λ_ _=>rfl,λi b h=>XB,λi i' b h=>XB,λi o d h=>Xd,λi e h=>Xd,λi i' e e' b x x' h=>Xd,λi s p h=>Xd,λi i' s p s' p' b x x' h=>Xd⟩
 refine(k.run (fr:=[0]) (ds:=ds) (r:=r) (u:=[]) g (λi _=>⟨λ_=>rfl,rfl,rfl⟩) hl c ?_).mono ?_
 ·simp only[Ac];rw[y,if_pos ia,a];rfl
 ·rintro e t ⟨v,q,rfl,z⟩;refine⟨v,q.G,rfl,z.inv.below,z.inv.gz,λb m=>?_,z.rep.calmR_to hr (λ_ _=>rfl) (λ_=>Qe _)⟩;rw[z.inv.old b m,z.ext.G0];rfl
def vQ(w:World)(a b:Obj):((w.alloc a).alloc b).heap[w.heap.size]?=some a∧((w.alloc a).alloc b).heap[w.heap.size+1]?=some b:=by
 have u:=heap_alloc_new w a;have f:=heap_alloc_new (w.alloc a) b;have j:(w.alloc a).heap.size=w.heap.size+1:=Q7 ..;rw[j]at f;refine⟨?_,f⟩;have:w.heap.size<(w.alloc a).heap.size:=O
 show((w.alloc a).heap.push b)[w.heap.size]?=_;rw[Array.getElem?_push_lt this,←Array.getElem?_eq_getElem this];exact u
def Wp:Array Value:=#[.int .u8 0,.int .i64 0,.int .i64 0,.string ⟨#[]⟩,.slice none 0 0,.int .i64 0,.bool false,.int .i64 0,.slice none 0 0,.bool false]
def wP(w:World):World:=(w.alloc (.cells Wp 85)).alloc (.cells #[.int .i64 0] 50)
def B8{w:World}{g:Nat}{vs:Array Value}{T:TypeId}(h:w.heap[g]?=some (.cells vs T (0,0)))(j:Nat)(v:Value)(d:vs[j]?=some v):
  w.cell? ⟨g,j,none⟩=some v∧w.frozen? ⟨g,j,none⟩=false∧w.setCell ⟨g,j,none⟩ v=w:=by
 refine⟨by simp[World.cell?,h,d],by simp[World.frozen?,h],?_⟩;rw[setCell_eq_setRow _ _ _ _ _ _ _ h];have x:vs.setIfInBounds j v=vs:=by
  apply Array.ext_getElem?;intro i;rw[Array.getElem?_setIfInBounds];split
  ·rename_i e;subst e;rw[d];split<;>simp_all
  ·rfl
 rw[x,setRow_self _ _ _ _ _ h]
def aWI{vs:Array Value}(h:vs.size=10):∃o c g k u r z s a n,vs=#[o,c,g,k,u,r,z,s,a,n]:=by
 obtain⟨l⟩:=vs
 match l,h with
 |[o,c,g,k,u,r,z,s,a,n],_=>exact⟨o,c,g,k,u,r,z,s,a,n,rfl⟩
def ten{p:Nat->Value->Prop}{vs:Array Value}{o c g k u r z s a n:Value}(y:vs=#[o,c,g,k,u,r,z,s,a,n])(h:∀j v,vs[j]?=some v->p j v):p 0 o∧p 1 c∧p 2 g∧p 3 k∧p 4 u∧p 5 r∧p 6 z∧p 7 s∧p 8 a∧p 9 n:=by
 subst y;exact⟨h 0 _ rfl,h 1 _ rfl,h 2 _ rfl,h 3 _ rfl,h 4 _ rfl,h 5 _ rfl,h 6 _ rfl,h 7 _ rfl,h 8 _ rfl,h 9 _ rfl⟩
def aXC(w w2:World)(s:Bs)(b n:Nat)(Q3 Q4:Array Value->World->Prop)
  (ua:Calls Qk 42 #[encStr s,.string ⟨#[32]⟩] (wP w) λe t=>e= .returned (.slice (some ⟨b,0,none⟩) (n+1) (n+1))∧t=w2) (hc:w2.cell? ⟨b,0,none⟩=some (.string ⟨#[111,107]⟩))
  (l:Calls Qk 66 #[if n=0 then .slice (some ⟨b,0,none⟩) 0 0 else .slice (some ⟨b,1,none⟩) n n] w2 λe t=>∃vs,e= .returned (.agg vs)∧Q3 vs t)
  (c:∀vs t,Q3 vs t->vs.size=10∧vs.all (·.oneCell')=true∧t.heap[w.heap.size]?=some (.cells Wp 85 (0,0)))
  (z:∀vs w3,Q3 vs w3->Calls Qk 67 #[.agg vs] (w3.setRow w.heap.size vs) λe t=>e= .returned (.int .i64 0)∧Q4 vs t)
  (g:∀vs t,Q4 vs t->t.heap[w.heap.size]?=some (.cells vs 85 (0,0))∧t.heap[w.heap.size+1]?=some (.cells #[.int .i64 0] 50 (0,0))):
  Calls Qk 28 #[encStr s] w λe t=>∃vs,e= .returned (.tuple #[.agg vs,.int .i64 0])∧Q4 vs t:=by
 have q:∀(fn:Go.Fn)(first cap:Array Value)(w:World),(Instr.makeFunc fn first cap).run Qk w= .ok (.func fn first cap) w:=λ_ _ _ _=>rfl
 have HQ:Aside (∀vs t,Q3 vs t->vs.size=10∧vs.all (·.oneCell')=true∧t.heap[w.heap.size]?=some (.cells Wp 85 (0,0))):=c;have m:Aside (∀vs w3,Q3 vs w3->Calls Qk 67 #[.agg vs] (w3.setRow w.heap.size vs) λe t=>e= .returned (.int .i64 0)∧Q4 vs t):=z;have k:Aside (∀vs t,Q4 vs t->t.heap[w.heap.size]?=some (.cells vs 85 (0,0))∧t.heap[w.heap.size+1]?=some (.cells #[.int .i64 0] 50 (0,0))):=g;clear c z g;unfold encStr wP Wp at ua;rcases n with _|n
 case' zero=>rw[if_pos rfl]at l
 case' succ=>rw[if_neg (Nat.succ_ne_zero n)]at l
 all_goals
  unfold encStr
  go_enter_defers func28,ntmps28
  go_wp2_with (first|(go_at_call 42;refine ua.mono ?_;rintro e w7 ⟨rfl,rfl⟩)|(go_at_call 64;refine(tJ _).mono ?_;rintro e w7 ⟨rfl,rfl⟩))
  refine l.mono ?_;rintro e w3 ⟨vs,rfl,d⟩;have x:=HQ.out vs w3 d;obtain⟨ga,ca,y⟩:=x;have o:(storeCells ⟨w.heap.size,0,none⟩ vs.toList).run Qk w3= .ok () (w3.setRow w.heap.size vs):=by
   have:=run_storeCells_from (P:=Qk) w.heap.size 85 vs.toList 0 Wp w3 y (by simp[ga,Wp]) (λv r=>(Zc.1 ca) v (by simpa using r));simpa[ga]using this
  have u:(w3.setRow w.heap.size vs).heap[w.heap.size]?=some (.cells vs 85 (0,0)):=setRow_heap _ _ _ _ _ _ y;have z:=m.out vs w3 d;clear y;obtain⟨v0,v1,v2,v3,v4,v5,v6,v7,v8,v9,a⟩:=aWI ga;have HV:Aside (vs=#[v0,v1,v2,v3,v4,v5,v6,v7,v8,v9]):=a;obtain⟨a0,a1,a2,a3,a4,a5,a6,a7,a8,a9⟩:=ten (p:=λj v=>(w3.setRow w.heap.size vs).cell? ⟨w.heap.size,j,none⟩=some v) a λj v h=>(B8 u j v h).1
  clear u a
  go_wp2_with (first|(go_at_call 64;refine(tJ _).mono ?_;rintro e w7 ⟨rfl,rfl⟩))
  rw[←HV.out];refine z.mono ?_;rintro e w4 ⟨rfl,i⟩;have h4:=k.out vs w4 i;have a:=HV.out;obtain⟨b0,b1,b2,b3,b4,b5,b6,b7,b8,b9⟩:=ten (p:=λj v=>(w4.cell? ⟨w.heap.size,j,none⟩=some v)∧(store ⟨w.heap.size,j,none⟩ v).run Qk w4= .ok () w4) a λj v h=>by
   obtain⟨b1,b2,b3⟩:=B8 h4.1 j v h;exact⟨b1,(run_store Qk w4 _ v .plain ((Zc.1 ca) v (Array.mem_of_getElem? h))).trans (by rw[b1,b2,b3];rfl)⟩
  have fa:=B8 h4.2 0 (.int .i64 0) rfl;clear h4 a
  go_wp2_with (first|(go_at_call 64;refine(tJ _).mono ?_;rintro e w7 ⟨rfl,rfl⟩))
  refine leaves_cons (f:=63) (args:=#[.pointer (some ⟨w.heap.size,0,none⟩),.pointer (some ⟨w.heap.size+1,0,none⟩)]) U (by simp[go_sem]) ?_;refine(RO _ _ _).mono ?_;rintro e u' ka ⟨rfl,rfl,rfl⟩;refine⟨.tuple #[.agg #[v0,v1,v2,v3,v4,v5,v6,v7,v8,v9],.int .i64 0],?_,vs,by rw[HV.out],i⟩;simp[results,results28,go_sem,b0,b1,b2,b3,b4,b5,b6,b7,b8,b9,fa]
def xQ(g:Nat)(pv:Value)(w:World)(m:w.heap[g]?=some (.cells Wp 85 (0,0)))(n:w.heap[g+1]?=some (.cells #[.int .i64 0] 50 (0,0))):
  CallsD Qk 63 #[.pointer (some ⟨g,0,none⟩),.pointer (some ⟨g+1,0,none⟩)] (.panicking [{v:= .iface 189 pv,recovered:=false}]) w λe u s=>
   e= .returned (.tuple #[])∧u= .panicking [{v:= .iface 189 pv,recovered:=true}]∧s=w.setCell ⟨g+1,0,none⟩ (.int .i64 4):=by
 obtain⟨q,c1,p,y,i,c,k,x,a,o⟩:=ten rfl λj v d=>B8 m j v d
 have r:=(B8 n 0 (.int .i64 0) rfl).1;have b:=(B8 n 0 (.int .i64 0) rfl).2.1;refine callsD_of_wpS func63 rfl λf cs z=>?_
 apply wpS_seq;apply wpS_region;simp[wpOpsS,go_sem,recoverD,z,ntmps63,Exit.thenS];refine wpS_cond (t:=true) (by simp[Act.eval,ZI]) ?_;simp only[if_true];apply wpS_region;simp[wpOpsS,go_sem,q,c1,p,y,i,c,k,x,a,o,r,b,bodyPostS,results,results63]
def aXB(w y:World)(b:Nat)
  (g:Calls Qk 42 #[.string ⟨#[]⟩,.string ⟨#[32]⟩] (wP w) λe t=>e= .returned (.slice (some ⟨b,0,none⟩) 1 1)∧t=y) (s:y.cell? ⟨b,0,none⟩=some (.string ⟨#[]⟩)) (m:y.heap[w.heap.size]?=some (.cells Wp 85 (0,0))) (n:y.heap[w.heap.size+1]?=some (.cells #[.int .i64 0] 50 (0,0))):
  Calls Qk 28 #[.string ⟨#[]⟩] w λe t=>e= .returned (.tuple #[.agg Wp,.int .i64 4])∧t=y.setCell ⟨w.heap.size+1,0,none⟩ (.int .i64 4):=by
 have q:∀(k:Go.Fn)(first cap:Array Value)(w:World),(Instr.makeFunc k first cap).run Qk w= .ok (.func k first cap) w:=λ_ _ _ _=>rfl
 have HB:Aside (y.heap[w.heap.size]?=some (.cells Wp 85 (0,0))∧y.heap[w.heap.size+1]?=some (.cells #[.int .i64 0] 50 (0,0))):=⟨m,n⟩;clear m n;unfold wP Wp at g
 go_enter_defers func28,ntmps28
 go_wp2_with (first|(go_at_call 42;refine g.mono ?_;rintro e w3 ⟨rfl,rfl⟩)|(go_at_call 64;refine(aXA _).mono ?_;rintro e w3 ⟨rfl,rfl⟩))
 refine leaves_cons (f:=63) (args:=#[.pointer (some ⟨w.heap.size,0,none⟩),.pointer (some ⟨w.heap.size+1,0,none⟩)]) U (by simp[go_sem]) ?_;refine(xQ _ _ _ HB.out.1 HB.out.2).mono ?_;rintro e u' u ⟨rfl,rfl,rfl⟩;obtain⟨z,c1,p,o,i,c,a,x,c8,c9⟩:=ten rfl λj v d=>(B8 HB.out.1 j v d).1
 have r:=B8 HB.out.2 0 (.int .i64 0) rfl;simp[Leaves,settle,results,results28,go_sem,z,c1,p,o,i,c,a,x,c8,c9,r.1,Wp]
def f93(e:Int):Array Value:=#[.int .u8 0,.int .i64 e,.int .i64 0,.string ⟨#[]⟩,.slice none 0 0,.int .i64 0,.bool false,.int .i64 0,.slice none 0 0,.bool false]
def aXD(w x:World)(s:Bs)(b:Nat)(e:Int)(nb:ByteArray)(Q3 Q4:World->Prop)
  (ua:Calls Qk 42 #[encStr s,.string ⟨#[32]⟩] (wP w) λe t=>e= .returned (.slice (some ⟨b,0,none⟩) 2 2)∧t=x) (hc:x.cell? ⟨b,0,none⟩=some (.string ⟨#[101,114,114,111,114]⟩)) (o:x.cell? ⟨b,1,none⟩=some (.string nb))
  (a:Calls Qk 65 #[.string nb] x λe' t=>e'= .returned (.int .i64 e)∧Q3 t) (c:∀t,Q3 t->t.heap[w.heap.size]?=some (.cells Wp 85 (0,0)))
  (z:∀n,Q3 n->Calls Qk 67 #[.agg (f93 e)] (n.setRow w.heap.size (f93 e)) λe t=>e= .returned (.int .i64 0)∧Q4 t)
  (g:∀t,Q4 t->t.heap[w.heap.size]?=some (.cells (f93 e) 85 (0,0))∧t.heap[w.heap.size+1]?=some (.cells #[.int .i64 0] 50 (0,0))):
  Calls Qk 28 #[encStr s] w λe' t=>e'= .returned (.tuple #[.agg (f93 e),.int .i64 0])∧Q4 t:=by
 have q:∀(fn:Go.Fn)(first cap:Array Value)(w:World),(Instr.makeFunc fn first cap).run Qk w= .ok (.func fn first cap) w:=λ_ _ _ _=>rfl
 have m:Aside (∀n,Q3 n->Calls Qk 67 #[.agg (f93 e)] (n.setRow w.heap.size (f93 e)) λe t=>e= .returned (.int .i64 0)∧Q4 t):=z;have h:Aside (∀t,Q3 t->t.heap[w.heap.size]?=some (.cells Wp 85 (0,0))):=c;have k:Aside (∀t,Q4 t->t.heap[w.heap.size]?=some (.cells (f93 e) 85 (0,0))∧t.heap[w.heap.size+1]?=some (.cells #[.int .i64 0] 50 (0,0))):=g;clear c z g;unfold encStr wP Wp at ua;unfold encStr
 go_enter_defers func28,ntmps28
 go_wp2_with (first|(go_at_call 42;refine ua.mono ?_;rintro e w7 ⟨rfl,rfl⟩)|(go_at_call 64;refine(tJ _).mono ?_;rintro e w7 ⟨rfl,rfl⟩))
 refine a.mono ?_;rintro e' n ⟨rfl,d⟩;have y:=h.out n d;have u:(n.setRow w.heap.size (f93 e)).heap[w.heap.size]?=some (.cells (f93 e) 85 (0,0)):=setRow_heap _ _ _ _ _ _ y;obtain⟨a0,a1,a2,a3,a4,a5,a6,a7,a8,a9⟩:=ten rfl λj v hj=>B8 y j v hj
 obtain⟨b0,b1,b2,b3,b4,b5,b6,b7,b8,b9⟩:=ten rfl λj v hj=>B8 u j v hj
 have r:n.setCell ⟨w.heap.size,1,none⟩ (.int .i64 e)=n.setRow w.heap.size (f93 e):=setCell_eq_setRow _ _ _ _ _ _ _ y;have z:=m.out n d;clear u y;generalize n.setRow w.heap.size (f93 e)=X at *;unfold f93 at z
 go_wp2_with (first|(go_at_call 64;refine(tJ _).mono ?_;rintro e w7 ⟨rfl,rfl⟩))
 refine z.mono ?_;rintro e' w4 ⟨rfl,i⟩;have p:=k.out w4 i;obtain⟨c0,c1,c2,c3,c4,c5,c6,c7,c8,c9⟩:=ten rfl λj v hj=>B8 p.1 j v hj
 have fa:=B8 p.2 0 (.int .i64 0) rfl;clear p
 go_wp2_with (first|(go_at_call 64;refine(tJ _).mono ?_;rintro e w7 ⟨rfl,rfl⟩))
 refine leaves_cons (f:=63) (args:=#[.pointer (some ⟨w.heap.size,0,none⟩),.pointer (some ⟨w.heap.size+1,0,none⟩)]) U (by simp[go_sem]) ?_;refine(RO _ _ _).mono ?_;rintro e' u' ka ⟨rfl,rfl,rfl⟩;refine⟨.tuple #[.agg (f93 e),.int .i64 0],?_,rfl,i⟩;simp[results,results28,go_sem,f93,c0,c1,c2,c3,c4,c5,c6,c7,c8,c9,fa]
def c88(s:Bs)(q:UInt8)(hl:s.length<=1000000)(w:World):
  Calls Qk 42 #[encStr s,.string ⟨#[q]⟩] w λe t=>e= .returned (.slice (some ⟨w.heap.size,0,none⟩) (splitC q s).length (splitC q s).length)∧t=w.alloc (.cells ((splitC q s).map encStr).toArray 9):=by
 have a:Lib.countB ⟨s.toArray⟩ ⟨#[q]⟩=s.count q:=Lib.count_one q s;have b:(Lib.splitB ⟨#[q]⟩ 0 (s.count q) ⟨s.toArray⟩).map (·.data.toList)=splitC q s:=by
  rw[Lib.splitB_data];exact Go.Proofs.splitK_eq q s.length s (Qe _)
 have r:(splitC q s).length=s.count q+1:=by
  rw[←b,Qo,←a];exact Lib.splitB_all ⟨#[q]⟩ (Qe 1) 0 _ _ rfl
 have u:(splitC q s).map encStr=(Lib.splitB ⟨#[q]⟩ 0 (s.count q) ⟨s.toArray⟩).map Value.string:=by
  rw[←b,Zr];exact List.map_congr_left λx _=>rfl
 refine(Go.Proofs.split_space q aN Z ⟨s.toArray⟩ w (by show s.length<_;omega)).mono ?_;rintro ev t ⟨rfl,rfl⟩;rw[a,r,u];exact⟨rfl,rfl⟩
def wS(w:World)(k:List Bs):World:=(wP w).alloc (.cells (k.map encStr).toArray 9)
def OV(w:World):(wP w).heap.size=w.heap.size+2:=by
 show((w.heap.push _).push _).size=_;rw[Q7,Q7]
def Ur(w:World)(k:List Bs):(wS w k).heap.size=w.heap.size+3:=by
 show((wP w).heap.push _).size=_;rw[Q7,OV]
def EN(w:World)(k:List Bs):(wS w k).heap[w.heap.size]?=some (.cells Wp 85 (0,0))∧(wS w k).heap[w.heap.size+1]?=some (.cells #[.int .i64 0] 50 (0,0))∧(wS w k).heap[w.heap.size+2]?=some (.cells (k.map encStr).toArray 9 (0,0)):=by
 have h:=vQ w (.cells Wp 85) (.cells #[.int .i64 0] 50);have j:=OV w;refine⟨(Below.heap_alloc (wP w) _ _ O).trans h.1,(Below.heap_alloc (wP w) _ _ O).trans h.2,?_⟩;have:=heap_alloc_new (wP w) (.cells (k.map encStr).toArray 9);rw[j]at this;exact this
def PD(w:World)(k:List Bs):Below w.heap.size w (wS w k):=((((Below.refl _ _).alloc (Qe _) _).alloc (by show _<=(w.heap.push _).size;rw[Q7];omega) _).alloc (by show _<=(wP w).heap.size;rw[OV];omega) _)
def Mg(w:World)(k:List Bs)(j:Nat)(s:Bs)(h:k[j]?=some s):(wS w k).cell? ⟨w.heap.size+2,j,none⟩=some (encStr s):=by
 simp[World.cell?,(EN w k).2.2,h]
def gSp(G:Nat->Nat)(w:World)(n:Nat):Nat->Nat:=λb=>if b=w.heap.size+2 then n else G b
def aAW(w:World)(G:Nat->Nat)(w0:Bs)(a:List Bs):
  Rep (wS w (w0::a)) (Gh.base (gSp G w (a.length+1))) (.slice false [] (strsD a)) (if a.length=0 then .slice (some ⟨w.heap.size+2,0,none⟩) 0 0 else .slice (some ⟨w.heap.size+2,1,none⟩) a.length a.length):=by
 by_cases g:a.length=0
 ·rw[if_pos g];have:a=[]:=List.eq_nil_of_length_eq_zero g;subst this;exact .slice [] _ _ 0 0 1 (λ_=> .nilFunc) rfl (Qe _) (λd p=>by cases p) (λj e=>O) (λj e=>O) (λj d p=>by simp[flat,strsD]at p) (λh=>O) (λh=>absurd rfl h) (λd p=>by cases p)
 ·rw[if_neg g];refine .slice [] _ _ a.length a.length 1 (λj=>encStr (a.getD j [])) (by simp[strsD]) (Qe _) (λd p=>?_) (λj e=>?_) (λj e=>rfl) (λj d p=>?_) (λ_=>?_) (λh=>absurd rfl h) (λd p=>?_)
  ·obtain⟨s,_,rfl⟩:=QM.1 p;rfl
  ·rw[E8];exact Mg w _ (1+j) _ (by rw[Nat.add_comm,Qj,Qi O];simp[Zp,Qi (show j<a.length by omega)])
  ·rw[GP]at p;simp only[strsD,QE,QN]at p;obtain⟨s,z,rfl⟩:=p;have:a.getD j []=s:=by simp[Zp,z]
   rw[this];exact .str s
  ·show 1+a.length*1<=gSp G w (a.length+1) (w.heap.size+2);unfold gSp;rw[if_pos rfl];omega
  ·obtain⟨s,_,rfl⟩:=QM.1 p;rfl
def aFT(w:World)(G:Nat->Nat)(r:D)(e:Ending)(t:World):Prop:=
 ∃v G',e= .returned v∧Below w.heap.size w t∧(∀b,t.heap.size<=b->G' b=0)∧(∀b,b<w.heap.size->G' b=G b)∧Rep t (Gh.base G') r v
def WW(y:Ry):(D.agg (Hy y)).calm=true:=Yb
def aPb(y:Ry):(D.agg (Hy y)).un= .agg (Hy y):=Yb
def aG4(y:Ry):(Hy y).length=10:=Yb
def aAX{w:World}{g:Gh}(l:List (D×Value))(h:∀p∈l,p.2.oneCell'=true∧Rep w g p.1 p.2):Rep w g (.agg (l.map (·.1))) (.agg (l.map (·.2)).toArray):=by
 refine .agg _ _ U (λv y=>?_) (λj d v t y=>?_)
 ·obtain⟨p,c,rfl⟩:=QM.1 y;exact(h p c).1
 ·rw[QE,QN]at t y;obtain⟨p,c,rfl⟩:=t;obtain⟨q,s,rfl⟩:=y;rw[c,Qu]at s;subst s;exact(h p (List.mem_of_getElem? c)).2
def UP(w:World)(g:Gh)(e:Int):Rep w g (.agg (Hy (.fail e))) (.agg (f93 e)):=by
 refine aAX [(.int .u8 0,.int .u8 0),(.int .i64 e,.int .i64 e),(.int .i64 0,.int .i64 0),(.str [],.string ⟨#[]⟩),(.slice true [] [],.slice none 0 0),(.int .i64 0,.int .i64 0),(.bool false,.bool false),(.int .i64 0,.int .i64 0),(.slice true [] [],.slice none 0 0),(.bool false,.bool false)] ?_;simp only[QF];exact⟨⟨rfl,.int _ _⟩,⟨rfl,.int _ _⟩,⟨rfl,.int _ _⟩,⟨rfl,.str _⟩,⟨rfl,.nils _⟩,⟨rfl,.int _ _⟩,⟨rfl,.bool _⟩,⟨rfl,.int _ _⟩,⟨rfl,.nils _⟩,⟨rfl,.bool _⟩,λ_ h=>nomatch h⟩
def aS6(y:Ry):H3 (Sq y)=H3 y:=Yb
def aPa{y:Ry}(h:ryG y):aAD (Sq y):=by
 cases y with
 |about s=>exact Qh h.1 V
 |names nl l=>exact h.1
 |_=>trivial
def PQ{y:Ry}(h:ryS y):HE y=[111,107]::(HE y).tail:=by
 cases y with
 |fail e=>exact h.elim
 |state b=>cases b<;>rfl
 |_=>rfl
def aO4{w:World}{s:Bs}{k:List Bs}(hl:s.length<=1000000)(j:splitC 32 s=k):Calls Qk 42 #[encStr s,.string ⟨#[32]⟩] (wP w) λe t=>e= .returned (.slice (some ⟨w.heap.size+2,0,none⟩) k.length k.length)∧t=wS w k:=by
 refine(c88 s 32 hl (wP w)).mono ?_;rintro e t ⟨rfl,rfl⟩;rw[j,OV];exact⟨rfl,rfl⟩
def aCA{G:Nat->Nat}{w:World}{n:Nat}(o:∀b,w.heap.size<=b->G b=0):(∀b,w.heap.size+3<=b->gSp G w n b=0)∧(∀b,b<w.heap.size+2->gSp G w n b=G b):=
 ⟨λb m=>by unfold gSp;rw[if_neg O];exact o b O,λb m=>by unfold gSp;rw[if_neg O]⟩
def PN{w t:World}{G:Nat->Nat}{d:D}{v:Value}(vs:Array Value)(i:Rep t (Gh.base G) d v)(s:d.calm=true)(z:G w.heap.size=0):Rep (t.setRow w.heap.size vs) (Gh.base G) d v:=
 i.calm_to s (λp c=>DM _ _ _ _ (λe=>by
  have j:p.off<G p.block:=c;rw[e,z]at j;omega)) (λ_=>Qe _)
def yE{w t:World}{G:Nat->Nat}{d:D}{v:Value}(i:Rep w (Gh.base G) d v)(s:d.calm=true)(o:∀b,w.heap.size<=b->G b=0)(m:Below w.heap.size w t):Rep t (Gh.base G) d v:=
 i.calm_to s (λp c=>by
  have j:p.off<G p.block:=c;refine m.cell ?_;rcases ZO p.block w.heap.size with h|h
  ·exact h
  ·rw[o _ h]at j;omega) (λ_=>Qe _)
def aXV(w:World)(G:Nat->Nat)(hz:∀b,w.heap.size<=b->G b=0)(y:Ry)(hG:ryG y)(hS:ryS y)(hE:H3 y=0)(s:Bs)(hl:s.length<=1000000)(hs:splitC 32 s=HE y):
  Calls Qk 28 #[encStr s] w (aFT w G (.tup [.agg (Hy (Sq y)),.int .i64 0])):=by
 have hw:=PQ hS;generalize oa:(HE y).tail=a at hw;have i:=nG y hG hS;rw[oa]at i;have q:=WW (Sq y);have hg:=aCA (n:=a.length+1) hz;have ja:=Ur w (HE y);rw[hw]at ja;refine(aXC w (wS w ([111,107]::a)) s (w.heap.size+2) a.length
  (λvs w3=>∃G3,Below (w.heap.size+3) (wS w ([111,107]::a)) w3∧(∀b,w3.heap.size<=b->G3 b=0)∧(∀b,b<w.heap.size+3->G3 b=gSp G w (a.length+1) b)∧Rep w3 (Gh.base G3) (.agg (Hy (Sq y))) (.agg vs))
  (λvs w4=>∃w3 G3,(Below (w.heap.size+3) (wS w ([111,107]::a)) w3∧(∀b,w3.heap.size<=b->G3 b=0)∧(∀b,b<w.heap.size+3->G3 b=gSp G w (a.length+1) b)∧Rep w3 (Gh.base G3) (.agg (Hy (Sq y))) (.agg vs))∧Below w3.heap.size (w3.setRow w.heap.size vs) w4) ?_ ?_ ?_ ?_ ?_ ?_).mono ?_
 ·have:=aO4 (w:=w) hl (hs.trans hw);simpa using this
 ·exact Mg w _ 0 _ rfl
 ·refine(O4 aYk (ds:=[.slice false [] (strsD a)]) (vs:=[_]) i rfl rfl (r:= .agg (Hy (Sq y))) q rfl (λj d v p hv=>?_) (G:=gSp G w (a.length+1)) (w:=wS w ([111,107]::a)) (by rw[ja];exact hg.1)).mono ?_
  ·match j with
   |0=>
    simp only[Qc,Qu]at p hv;subst p hv;exact aAW w G _ a
   |j+1=>simp at p
  ·rintro e w3 ⟨v,G3,rfl,m,f,c,x⟩;rw[ja]at m c;cases x with
   |agg _ vs u h2 h3=>exact⟨vs.toArray,rfl,G3,m,f,c,.agg _ vs u h2 h3⟩
 ·rintro vs w3 ⟨G3,m,f,c,x⟩;refine⟨?_,?_,(m.block _ O).trans (EN w _).1⟩
  ·cases x with
   |agg _ vs u h2 h3=>simp[u,aG4]
  ·cases x with
   |agg _ vs u h2 h3=>simpa using h2
 ·rintro vs w3 ⟨G3,m,f,c,x⟩;have t:G3 w.heap.size=0:=by rw[c _ O,hg.2 _ O];exact hz _ (Qe _)
  have z:=nF (Sq y) (aPa hG);rw[aS6,hE]at z;refine(O4 aPX (ds:=[.agg (Hy (Sq y))]) (vs:=[.agg vs]) z (by simp[q]) (by simp[aPb]) (r:= .int .i64 0) rfl rfl (λj d v p hv=>?_) (G:=G3) (w:=w3.setRow w.heap.size vs) (by rw[size_setRow];exact f)).mono ?_
  ·match j with
   |0=>
    simp only[Qc,Qu]at p hv;subst p hv;exact PN vs x q t
   |j+1=>simp at p
  ·rintro e w4 ⟨v,G4,rfl,o,_,_,k⟩;have:=k.int_inv;subst this;rw[size_setRow]at o;exact⟨rfl,w3,G3,⟨m,f,c,x⟩,o⟩
 ·rintro vs w4 ⟨w3,G3,⟨m,f,c,x⟩,o⟩;have g:=m.size;rw[ja]at g;have e1:=(m.block _ O).trans (EN w ([111,107]::a)).1;have e2:=(m.block _ O).trans (EN w ([111,107]::a)).2.1;exact⟨(o.block _ O).trans (setRow_heap _ _ _ _ _ _ e1),(o.block _ O).trans ((setRow_other _ _ _ _ O).trans e2)⟩
 ·rintro e w4 ⟨vs,rfl,w3,G3,⟨m,f,c,x⟩,o⟩;have g:=m.size;rw[ja]at g;have t:G3 w.heap.size=0:=by rw[c _ O,hg.2 _ O];exact hz _ (Qe _)
  have la:Below w.heap.size w (w3.setRow w.heap.size vs):=below_setRow ((PD w _).trans (m.mono O)) (Qe _) vs;have l:Below (w3.setRow w.heap.size vs).heap.size (w3.setRow w.heap.size vs) w4:=by rw[size_setRow];exact o
  refine⟨_,G3,rfl,la.trans (o.mono O),λb h=>f b YQ,λb h=>?_,?_⟩
  ·rw[c _ O,hg.2 _ O]
  ·have r1:=yE (PN vs x q t) q (by rw[size_setRow];exact f) l;refine .tup _ [.agg vs,.int .i64 0] rfl (λj d v p hv=>?_)
   match j with
   |0=>
    simp only[Qc,Qu]at p hv;subst p hv;exact r1
   |1=>
    simp only[Qc,Qj,Qu]at p hv;subst p hv;exact .int _ _
   |j+2=>simp at p
def aXW(w:World)(G:Nat->Nat)(hz:∀b,w.heap.size<=b->G b=0)(e:Int)(f:1<=e∧e<=99)(s:Bs)(hl:s.length<=1000000)(hs:splitC 32 s=HE (.fail e)):
  Calls Qk 28 #[encStr s] w (aFT w G (.tup [.agg (Hy (.fail e)),.int .i64 0])):=by
 have hg:=aCA (n:=0) hz;have x:=Ur w (HE (.fail e));have a:=FM e.toNat O;rw[QL O]at a;refine(aXD w (wS w (HE (.fail e))) s (w.heap.size+2) e ⟨(BJ e.toNat).toArray⟩
  (λt=>Below (w.heap.size+3) (wS w (HE (.fail e))) t)
  (λq=>∃t,Below (w.heap.size+3) (wS w (HE (.fail e))) t∧Below t.heap.size (t.setRow w.heap.size (f93 e)) q) ?_ ?_ ?_ ?_ ?_ ?_ ?_).mono ?_
 ·exact aO4 (w:=w) hl hs
 ·exact Mg w _ 0 _ rfl
 ·exact Mg w _ 1 _ rfl
 ·refine(O4 aH3 (ds:=[.str (BJ e.toNat)]) (vs:=[encStr (BJ e.toNat)]) a rfl rfl (r:= .int .i64 e) rfl rfl (λj d v p y=>?_) (G:=gSp G w 0) (w:=wS w (HE (.fail e))) (by rw[x];exact hg.1)).mono ?_
  ·match j with
   |0=>
    simp only[Qc,Qu]at p y;subst p y;exact .str _
   |j+1=>simp at p
  ·rintro u t ⟨v,G3,rfl,m,_,_,i⟩;have:=i.int_inv;subst this;rw[x]at m;exact⟨rfl,m⟩
 ·intro t m;exact(m.block _ O).trans (EN w _).1
 ·intro t m;have z:=nF (.fail e) trivial;rw[show H3 (.fail e)=0 from if_pos f]at z;have g:=m.size;rw[x]at g;refine(O4 aPX (ds:=[.agg (Hy (.fail e))]) (vs:=[.agg (f93 e)]) z rfl rfl (r:= .int .i64 0) rfl rfl (λj d v p y=>?_) (G:=G) (w:=t.setRow w.heap.size (f93 e)) (by rw[size_setRow];exact λb m=>hz b O)).mono ?_
  ·match j with
   |0=>
    simp only[Qc,Qu]at p y;subst p y;exact UP _ _ e
   |j+1=>simp at p
  ·rintro u q ⟨v,G4,rfl,o,_,_,k⟩;have:=k.int_inv;subst this;rw[size_setRow]at o;exact⟨rfl,t,m,o⟩
 ·rintro q ⟨t,m,o⟩;have g:=m.size;rw[x]at g;have c:=(m.block _ O).trans (EN w (HE (.fail e))).1;have e2:=(m.block _ O).trans (EN w (HE (.fail e))).2.1;exact⟨(o.block _ O).trans (setRow_heap _ _ _ _ _ _ c),(o.block _ O).trans ((setRow_other _ _ _ _ O).trans e2)⟩
 ·rintro u q ⟨rfl,t,m,o⟩;have g:=m.size;rw[x]at g;have la:Below w.heap.size w (t.setRow w.heap.size (f93 e)):=below_setRow ((PD w _).trans (m.mono O)) (Qe _) _;refine⟨_,G,rfl,la.trans (o.mono O),λb h=>hz b YQ,λb h=>rfl,?_⟩;refine .tup _ [.agg (f93 e),.int .i64 0] rfl (λj d v p y=>?_)
  match j with
  |0=>
   simp only[Qc,Qu]at p y;subst p y;exact UP _ _ e
  |1=>
   simp only[Qc,Qj,Qu]at p y;subst p y;exact .int _ _
  |j+2=>simp at p
def aXU(w:World)(G:Nat->Nat)(o:∀b,w.heap.size<=b->G b=0):
  Calls Qk 28 #[.string ⟨#[]⟩] w (aFT w G (.tup [.agg (Hy (.fail 0)),.int .i64 4])):=by
 have x:=Ur w [[]];refine(aXB w (wS w [[]]) (w.heap.size+2) (aO4 (w:=w) (s:=[]) (Qt _) rfl) (Mg w _ 0 _ rfl) (EN w _).1 (EN w _).2.1).mono ?_;rintro e t ⟨rfl,rfl⟩;refine⟨_,G,rfl,(PD w _).setCell (by show w.heap.size<=w.heap.size+1;omega) _,λb m=>o b ?_,λb h=>rfl,?_⟩
 ·have:(((wS w [[]]).setCell ⟨w.heap.size+1,0,none⟩ (.int .i64 4)).heap).size=(wS w [[]]).heap.size:=by simp[World.setCell]
  omega
 ·refine .tup _ [.agg Wp,.int .i64 4] rfl (λj d v p y=>?_)
  match j with
  |0=>
   simp only[Qc,Qu]at p y;subst p y;exact UP _ _ 0
  |1=>
   simp only[Qc,Qj,Qu]at p y;subst p y;exact .int _ _
  |j+2=>simp at p
inductive Psd:Bs->D->Prop
 |none:Psd [] (.tup [.agg (Hy (.fail 0)),.int .i64 4])
 |fail (e:Int) (s:Bs):1<=e∧e<=99->splitC 32 s=HE (.fail e)->Psd s (.tup [.agg (Hy (.fail e)),.int .i64 0])
 |ok (y:Ry) (s:Bs):ryG y->ryS y->H3 y=0->splitC 32 s=HE y->Psd s (.tup [.agg (Hy (Sq y)),.int .i64 0])
def aHm{s:Bs}{r q:D}(h:Psd s r)(p:Psd s q):r=q:=by
 cases h with
 |none=>
  cases p with
  |none=>rfl
  |fail e _ v j=>simp[splitC,HE]at j
  |ok y _ x g t j=>
   rw[PQ g]at j;simp[splitC]at j
 |fail e _ v j=>
  cases p with
  |none=>simp[splitC,HE]at j
  |fail n _ z i=>
   rw[j]at i;simp only[HE,Q8,and_true,true_and]at i;have u:=FM e.toNat O;have f:=FM n.toNat O;rw[i,f]at u;simp only[Qu,D.int.injEq,true_and]at u;rw[show e=n by omega]
  |ok y _ x g t i=>
   rw[j,PQ g]at i;simp[HE]at i
 |ok y _ x g t j=>
  cases p with
  |none=>
   rw[PQ g]at j;simp[splitC]at j
  |fail n _ z i=>
   rw[i,PQ g]at j;simp[HE]at j
  |ok w _ a b c i=>
   rw[j]at i;have u:=nG y x g;rw[i,nG w a b]at u;simp only[Qu,D.agg.injEq]at u;rw[u]
open Classical in
def F34:List D->Option D
 |[.str s]=>if h:s.length<=1000000∧∃r,Psd s r then some (Classical.choose h.2)else none
 |_=>none
open Classical in
def aSh{s:Bs}{r:D}(hl:s.length<=1000000)(h:Psd s r):F34 [.str s]=some r:=by
 have q:s.length<=1000000∧∃r,Psd s r:=⟨hl,r,h⟩;show(if h:_ then _ else _)=_;rw[dif_pos q,aHm (Classical.choose_spec q.2) h]
def aX4:Kq F34 28:=by
 refine Gg ⟨_,func28,Z,Z⟩ ?_;intro ds r z vs w G hl c o;unfold F34 at z;split at z
 ·rename_i s;split at z
  ·rename_i q;simp only[Qu]at z;have k:=Classical.choose_spec q.2;rw[z]at k
   match vs,hl with
   |[v],_=>
    have i:=(c 0 _ v rfl rfl).str_inv;subst i;cases k with
    |none=>exact⟨rfl,aXU w G o⟩
    |fail e _ f j=>exact⟨rfl,aXW w G o e f s q.1 j⟩
    |ok y _ a g t j=>
     refine⟨?_,aXV w G o y a g t s q.1 j⟩;show((D.agg (Hy (Sq y))).calm&&_)=true;rw[WW];rfl
  ·cases z
 ·cases z
def aId(d:Nat)(h:d<16):48<=(Ep d).toNat:=by
 by_cases u:d<10
 ·rw[hexD_dig d u];omega
 ·rw[dX d h O];omega
def pY(s:Bs):∀c∈Cl s,48<=c.toNat:=λc w=>by
 unfold Cl at w;rw[List.mem_flatMap]at w;obtain⟨b,_,m⟩:=w;have:=b.toNat_lt;simp only[Qs,ZG,or_false]at m;rcases m with rfl|rfl<;>exact aId _ O
def dQ{q:UInt8}:∀{l:List Bs} {c:UInt8},c∈Lib.join l [q]->c=q∨∃w∈l,c∈w
 |[],c,h=>by simp[Lib.join]at h
 |[x],c,h=> .inr ⟨x,Za _,by simpa[Lib.join]using h⟩
 |x::y::r,c,h=>by
  have e:Lib.join (x::y::r) [q]=x++q::Lib.join (y::r) [q]:=XJ
  rw[e]at h;rcases QR.1 h with h|h
  ·exact .inr ⟨x,QB ..,h⟩
  ·rcases Qs.1 h with h|h
   ·exact .inl h
   ·rcases dQ h with h|⟨w,t,h⟩
    ·exact .inl h
    ·exact .inr ⟨w,Qw _ t,h⟩
def dG{l:List Bs}(h:∀w∈l,(32:UInt8)∉w):(32:UInt8)∉Dv l:=λs=>by
 unfold Dv at s;split at s
 ·cases s with|tail _ h=>cases h
 ·rcases dQ s with e|⟨w,t,e⟩
  ·cases e
  ·exact h w t e
def jV{s:Bs}(h:Vb s=true):(32:UInt8)∉s∧(44:UInt8)∉s∧s≠[45]∧s.length<=64:=by
 simp only[Vb,Oo,Q2,decide_eq_true_eq,ZB,Zm,beq_iff_eq]at h;exact⟨λe=>h.2.2.2.1 _ e rfl,λe=>h.2.2.2.2 _ e rfl,h.2.1,h.2.2.1⟩
def P2(n:Nat)(h:n<1000):(32:UInt8)∉BJ n:=λw=>absurd (MA n h 32 w).1 V
def NJ{l:List Bs}(h:(l.any λs=>!Vb s)=false):∀s∈l,Vb s=true:=λs j=>by
 have:=Zm.1 h s j;simpa using this
def aO9{y:Ry}(h:H3 y=0)(g:oO y):∀w∈HE y,(32:UInt8)∉w:=by
 have k:=Mp h g;cases y with
 |fail e=>
  have v:=k.2;simp only[HE,QF];exact⟨V,P2 _ O,λ_ h=>nomatch h⟩
 |done=>simp only[HE,QF];exact⟨V,λ_ h=>nomatch h⟩
 |number n=>
  have v:=k.2;simp only[HE,QF];exact⟨V,V,P2 _ O,λ_ h=>nomatch h⟩
 |found n d=>
  have v:=k.2.1;simp only[HE,QF];refine⟨V,V,P2 _ O,?_,λ_ h=>nomatch h⟩;split
  ·decide
  ·exact λm=>absurd (pY d 32 m) V
 |about s=>
  obtain⟨r,j,p,z⟩:=k;simp only[HE,QF];refine⟨V,V,P2 _ O,by split<;>decide,P2 _ O,dG λw t=>?_,λ_ h=>nomatch h⟩;obtain⟨x,q,rfl⟩:=QM.1 t;intro m;rcases PS x (z x q) 32 m with h|h|h
  ·cases h
  ·cases h
  ·exact absurd h.1 V
 |names nl l=>
  simp only[H3]at h;split at h
  ·rename_i c;simp only[HE,QF];exact⟨V,V,dG λw t=>(jV (NJ c.2 w t)).1,λ_ h=>nomatch h⟩
  ·omega
 |state b=>cases b<;>(simp only[HE,if_true,if_false,Zh,QF];exact⟨V,V,λ_ h=>nomatch h⟩)
def aKT{y:Ry}(h:H3 y=0)(g:oO y):Psd (HD y) (.tup [.agg (Hy (Sq y)),.int .i64 0])∧(HD y).length<=1000000:=by
 have z:HD y=Lib.join (HE y) [32]:=if_pos h;have j:splitC 32 (HD y)=HE y:=by rw[z];exact GI (jG y) (aO9 h g)
 obtain⟨s,x⟩:=oL h g;have hl:(HD y).length<=1000000:=by
  rw[z];have:=Eo (HE y) [32];simp only[Qb,Qd]at this;omega
 refine⟨?_,hl⟩;cases y with
 |fail e=>
  simp only[H3]at h;split at h
  ·rename_i c;exact .fail e _ c j
  ·omega
 |names nl l=>
  refine .ok _ _ (Mp h g) ?_ h j;simp only[H3]at h;split at h
  ·rename_i c;refine⟨λw t=>(jV (NJ c.2 w t)).2.1,λe=>?_,by have:=sum_64 l c.2;omega⟩;rw[e]at c;exact absurd (jV (NJ c.2 [45] (Za _))).2.2.1 V
  ·omega
 |_=>exact .ok _ _ (Mp h g) trivial h j
structure Md where
 vw:Vw
 tr:Tr
 room:Int
def Hl(m:Md):List D:=HN m.vw++[Hh m.tr,.int .i64 m.room]
def ON(x:Op1)(t:Tr):Tr:=if x.1=1 then t.put x.2.1 x.2.2 else if x.1=2 then Tr.delT x.2.1 t else if x.1=3 then Tr.dropT x.2.1 t else t
def CD:List Op1->Tr->Tr
 |[],t=>t
 |x::r,t=>CD r (ON x t)
def BD(t:Tr)(q:Bs):List (Bs×Bs):=(t.lst.drop (t.rank q)).takeWhile λx=>B7 x.1 q
def En(t:Tr)(q:Bs):Dk:=⟨false,[(q,(t.get q).getD [],(t.get q).isSome)],false,[(q,(BD t q).isEmpty,(BD t q).map (·.1))]⟩
def Mq(z:Kn->Oc)(t:Tr):Nat->Kn->Oc
 |0,k=>z k
 |f+1,k=>if(z k).need=[]then z k else Mq z t f (AY k (z k).need (z k).li (En t (z k).need))
def kn0:Kn:=⟨[],[]⟩
structure yR (t:Tr) (room:Int):Prop where
 ord:Tr.Ord t.lst
 key:∀x∈t.lst,x.1.length<=100
 val:∀x∈t.lst,x.2.length<=400
 wgt:(Tr.weighL t.lst:Int)<=room
 top:room<=70000
structure Sr (m:Md):Prop where
 vw:Hx m.vw
 tr:yR m.tr m.room
def yR.len{t:Tr}{room:Int}(h:yR t room):t.lst.length<=1945:=by
 have u:=Tr.weigh_len t.lst;have:=h.wgt;have:=h.top;omega
structure KnJ (k:Kn) (j:Nat):Prop where
 es:k.es.length<=j
 ls:k.ls.length<=j
 et:∀x∈k.es,x.2.1.length<=400
 lt:∀x∈k.ls,x.2.2.length<=2000∧∀s∈x.2.2,s.length<=1000000
def KnJ.ok{k:Kn}{j:Nat}(h:KnJ k j)(d:j<=20):Ip k:=⟨Qh h.es d,Qh h.ls d,h.et,h.lt⟩
def aLx:KnJ kn0 0:=⟨Qe _,Qe _,λx q=>XG,λx q=>XG⟩
def aPI(t:Tr)(q:Bs):((En t q).lss.find? λx=>decide (x.1=q))=some (q,(BD t q).isEmpty,(BD t q).map (·.1)):=by simp[En]
def aPJ(t:Tr)(q:Bs):((En t q).its.find? λx=>decide (x.1=q))=some (q,(t.get q).getD [],(t.get q).isSome):=by simp[En]
def dJ(k:Kn)(t:Tr)(q:Bs):AY k q false (En t q)={k with es:=k.es++[(q,(t.get q).getD [],(t.get q).isSome)]}:=by
 unfold AY;rw[if_neg V,aPJ];rfl
def aBV(k:Kn)(t:Tr)(q:Bs):AY k q true (En t q)={k with ls:=k.ls++[(q,(BD t q).isEmpty,(BD t q).map (·.1))]}:=by
 unfold AY;rw[if_pos rfl,aPI];rfl
def nY(t:Tr)(q:Bs):(BD t q).Sublist t.lst:=(List.takeWhile_sublist _).trans (List.drop_sublist _ _)
def KnJ.learn{k:Kn}{j:Nat}(h:KnJ k j){t:Tr}{room:Int}(u:yR t room)(q:Bs)(li:Bool):KnJ (AY k q li (En t q)) (j+1):=by
 cases li with
 |false=>
  rw[dJ];refine⟨by simp only[Qf,Qb,Qd];have:=h.es;omega,ZC h.ls,λx hx=>?_,h.lt⟩;rcases QR.1 hx with hx|hx
  ·exact h.et x hx
  ·rw[Qm.1 hx];show((t.get q).getD []).length<=400;cases hg:t.get q with
   |none=>exact Qt _
   |some v=>
    rw[Tr.get_lst q t u.ord]at hg;exact u.val _ (Tr.getL_some hg)
 |true=>
  rw[aBV];refine⟨ZC h.es,by simp only[Qf,Qb,Qd];have:=h.ls;omega,h.et,λx hx=>?_⟩;rcases QR.1 hx with hx|hx
  ·exact h.lt x hx
  ·rw[Qm.1 hx];have z:=nY t q;refine⟨?_,λs d=>?_⟩
   ·show((BD t q).map (·.1)).length<=2000;rw[Qo];have:=z.length_le;have:=u.len;omega
   ·obtain⟨y,a,rfl⟩:=QM.1 d;exact Qh (u.key y (z.subset a)) V
def oQ{v:Vw}{a:Ak}{z:Kn->Oc}(X:HO v a z){R:Kn->Nat}(c:∀k d,Ip k->(z k).need≠[]->R (AY k (z k).need (z k).li d)<R k){t:Tr}{room:Int}(u:yR t room):
  ∀(f j:Nat)(k:Kn),KnJ k j->j+f<=20->R k<=f->∃p,Ip p∧Mq z t f k=z p∧(z p).need=[]
 |0,j,k,hk,hj,hr=>by
  have l:=hk.ok O;refine⟨k,l,rfl,?_⟩;by_cases g:(z k).need=[]
  ·exact g
  ·have:=c k (En t []) l g;omega
 |f+1,j,k,hk,hj,hr=>by
  have l:=hk.ok O;unfold Mq;by_cases g:(z k).need=[]
  ·rw[if_pos g];exact⟨k,l,rfl,g⟩
  ·rw[if_neg g];have:=c k (En t (z k).need) l g;exact oQ X c u f (j+1) _ (hk.learn u _ _) O O
def aGE{v:Vw}(y:Hx v)(b:Bool):Hx {v with se:=b}:=⟨⟨y.ok.ml,y.ok.mp,y.ok.kl,y.ok.kp⟩,y.inv,y.srt,y.nlm,y.te,y.kl,y.ml,y.mr⟩
def ED(z:Kn->Oc)(m:Md):Oc:=Mq z m.tr 4 kn0
def P_{m:Md}(j:Sr m){a:Ak}{z:Kn->Oc}(X:HO m.vw a z):(ED z m).need=[]∧∃k,Ip k∧ED z m=z k:=by
 obtain⟨R,i,c⟩:=X.term;obtain⟨k,u,f,p⟩:=oQ X c j.tr 4 0 kn0 aLx V (Qh (i _) V);exact⟨(congrArg Oc.need f).trans p,k,u,f⟩
def Dw(m:Md)(o:Oc):Md×Bs:=
 if o.ops≠[]∧m.room<Tr.weighL (CD o.ops m.tr).lst then(m,HD (.fail 7))else(⟨o.vw,CD o.ops m.tr,m.room⟩,o.rep)
def DP(x:Op1){t:Tr}(h:Tr.Ord t.lst):Tr.Ord (ON x t).lst∧∀y∈(ON x t).lst,y∈t.lst∨(x.1=1∧y=(x.2.1,x.2.2)):=by
 unfold ON;split
 ·rename_i c;rw[Tr.lst_put _ _ t h];exact⟨Tr.ins_ord h _ _,λy j=>(Tr.ins_mem j).elim (λe=> .inr ⟨c,e⟩) .inl⟩
 split
 ·rw[Tr.lst_del _ t h];exact⟨Tr.ord_sub Q5 h,λy j=> .inl (Q6.1 j).1⟩
 split
 ·rw[Tr.lst_drop _ t h];exact⟨Tr.ord_sub (Tr.drop_sub _ h) h,λy j=> .inl ((Tr.drop_sub _ h).subset j)⟩
 ·exact⟨h,λy j=> .inl j⟩
def U4:∀(l:List Op1){t:Tr},Tr.Ord t.lst->Tr.Ord (CD l t).lst∧∀y∈(CD l t).lst,y∈t.lst∨∃x∈l,x.1=1∧y=(x.2.1,x.2.2)
 |[],t,h=>⟨h,λy j=> .inl j⟩
 |x::r,t,h=>by
  obtain⟨u,f⟩:=DP x h;obtain⟨i,p⟩:=U4 r u;refine⟨i,λy j=>?_⟩;rcases p y j with h5|⟨z,o,h5⟩
  ·rcases f y h5 with h6|h6
   ·exact .inl h6
   ·exact .inr ⟨x,QB,h6⟩
  ·exact .inr ⟨z,Qw _ o,h5⟩
def aGU{t:Tr}{room:Int}(h:yR t room){l:List Op1}(hl:zA l)(n:(Tr.weighL (CD l t).lst:Int)<=room):yR (CD l t) room:=by
 obtain⟨u,f⟩:=U4 l h.ord;refine⟨u,λx q=>?_,λx q=>?_,n,h.top⟩
 ·rcases f x q with h3|⟨z,o,_,rfl⟩
  ·exact h.key x h3
  ·exact(hl.ok z o).1.1
 ·rcases f x q with h3|⟨z,o,_,rfl⟩
  ·exact h.val x h3
  ·exact(hl.ok z o).1.2.1
structure aXv (m:Md) (a:Ak) (z:Md×Bs):Prop where
 md:Sr z.1
 room:z.1.room=m.room
 key:z.1.vw.key=m.vw.key
 rep:∃y,H3 y=0∧oO y∧z.2=HD y∧((∃e,y= .fail e)->z.1=m)
 ro:(a.op=1∨a.op=9∨a.op=14∨a.op=17)->z.1=m
def MR{m:Md}(j:Sr m){a:Ak}{o:Oc}(hg:Iq m.vw a o):aXv m a (Dw m o):=by
 obtain⟨y,u,f,i,p⟩:=hg;have c:Ef a.op=true->¬(a.op=1∨a.op=9∨a.op=14∨a.op=17):=λt h=>by
  rw[PB O]at t;cases t
 unfold Dw;by_cases w:o.ops≠[]∧m.room<Tr.weighL (CD o.ops m.tr).lst
 ·rw[if_pos w];exact⟨j,rfl,rfl,⟨.fail 7,rfl,trivial,rfl,λ_=>rfl⟩,λ_=>rfl⟩
 rw[if_neg w];rcases p with ⟨_,n,s⟩|⟨n,⟨t,s,b,z,k⟩|⟨t,s,k,r,q⟩⟩
 ·rw[n,s];exact⟨j,rfl,rfl,⟨y,u,f,i,λ_=>rfl⟩,λ_=>rfl⟩
 ·rw[s,k];refine⟨⟨aGE j.vw b,j.tr⟩,rfl,rfl,⟨y,u,f,i,λ⟨e,v⟩=>absurd v (n e)⟩,λx=>?_⟩;rw[z O O];rfl
 ·refine⟨⟨r,aGU j.tr k ?_⟩,rfl,q,⟨y,u,f,i,λ⟨e,v⟩=>absurd v (n e)⟩,λx=>absurd x (c t)⟩;have:¬m.room<Tr.weighL (CD o.ops m.tr).lst:=λh=>w ⟨s,h⟩
  omega
def aAp{α:Type}{p:α->Bool}:∀{l:List α} {k:Nat} (h:k<(l.takeWhile p).length),l[k]?=some (l.takeWhile p)[k]∧p (l.takeWhile p)[k]=true
 |[],k,h=>Xd
 |x::l,k,h=>by
  by_cases c:p x=true
  ·have e:(x::l).takeWhile p=x::l.takeWhile p:=by simp[c]
   simp only[e]at h ⊢;cases k with
   |zero=>exact⟨rfl,c⟩
   |succ k=>
    have:=aAp (l:=l) (p:=p) (k:=k) Xl;simpa using this
  ·have e:(x::l).takeWhile p=[]:=by simp[c]
   simp[e]at h
def aAr{α:Type}{p:α->Bool}:∀{l:List α},(∀x∈l,p x=true)->l.takeWhile p=l
 |[],_=>rfl
 |x::l,h=>by
  have c:=h x QB;have e:(x::l).takeWhile p=x::l.takeWhile p:=by simp[c]
  rw[e,aAr λy j=>h y (Qw _ j)]
def aAq{α:Type}{p:α->Bool}:∀{l:List α} {x:α},l[(l.takeWhile p).length]?=some x->p x=false
 |[],x,h=>Xd
 |y::l,x,h=>by
  by_cases c:p y=true
  ·have e:(y::l).takeWhile p=y::l.takeWhile p:=by simp[c]
   rw[e]at h;exact aAq (l:=l) Xl
  ·have e:(y::l).takeWhile p=[]:=by simp[c]
   rw[e]at h;simp only[Qd,Qc,Qu]at h;subst h;simpa using c
def aOU{t:Tr}{q:Bs}{k:Nat}(h:k<(BD t q).length):t.at_ (t.rank q+k)=some (BD t q)[k]∧B7 (BD t q)[k].1 q=true:=by
 rw[Tr.at_lst];have:=aAp (l:=t.lst.drop (t.rank q)) (p:=λx=>B7 x.1 q) h;rw[Zz]at this;exact this
def aGG{t:Tr}{q:Bs}{x:Bs×Bs}(h:t.at_ (t.rank q+(BD t q).length)=some x):B7 x.1 q=false:=by
 rw[Tr.at_lst]at h;refine aAq (l:=t.lst.drop (t.rank q)) (p:=λx=>B7 x.1 q) ?_;rw[Zz];exact h
def bT:∀t:Tr,t.rank []=0
 | .nil=>rfl
 | .node l k v r=>by
  unfold Tr.rank;rw[if_neg (by cases k<;>simp[Hp,Op.bytesLess])];exact bT l
def La(t:Tr):BD t []=t.lst:=by
 unfold BD;rw[bT,ZL];exact aAr λx _=>by simp[B7]
def GE(x:Bs×Bs)(l:List (Bs×Bs)):Tr.weighL (x::l)=Tr.costL x+Tr.weighL l:=by
 simp only[Tr.weighL,Qg,Qp];omega
def iQ(x:Bs×Bs)(l:List (Bs×Bs)):Tr.weighL (l++[x])=Tr.weighL l+Tr.costL x:=by
 simp only[Tr.weighL,QX,Qg,Qn,ZJ,Qp,QC];omega
end Go.Vd
namespace Go.Vd
open Go.Proofs Go.RowKit Go.Shelf
attribute [local go_sem] Oper.semAt_some
def Ey(n:Nat)(w:World)(t:Tr)(v:Value):Prop:=∃G:Nat->Nat,Rep w (Gh.base G) (Hh t) v∧∀b,n<=b->G b=0
def Ey.below{n:Nat}{w r:World}{t:Tr}{v:Value}(h:Ey n w t v)(m:Below n w r):Ey n r t v:=by
 obtain⟨G,u,f⟩:=h;refine⟨G,u.calm_to (WK t) (λp c=>?_) (λ_=>Qe _),f⟩;have:p.block<n:=by
  rcases ZO p.block n with h|h
  ·exact h
  ·have i:p.off<G p.block:=c;rw[f _ h]at i;omega
 exact m.cell this
def Ey.one{n:Nat}{w:World}{t:Tr}{v:Value}(h:Ey n w t v):v.oneCell'=true:=by
 obtain⟨G,u,_⟩:=h;exact u.leaf_one Xj
def R3{w:World}{g:Gh}{d:D}{v:Value}(h:Rep w g d v)(q:v.oneCell'=true):Rep w g (.agg [d]) (.agg #[v]):=
 .agg [d] [v] rfl (λu z=>by rw[Qm.1 z];exact q) (λj b s p y=>by
  match j,p,y with
  |0,p,y=>cases p;cases y;exact h)
def aWz{n:Nat}{r:World}{t:Tr}{v:Value}(h:Ey n r t v)(g:n<=r.heap.size)(q:Bs)(w:t.cnt<=900000):Calls Qk 49 #[.agg #[v],encStr q] r λe s=>e= .returned (.int .i64 (t.rank q:Nat))∧Below r.heap.size r s:=by
 have k:=h.one;obtain⟨G,f,i⟩:=h;refine(El (vs:=[.agg #[v],encStr q]) (G:=G) aQi (aFu t q w) Xj Xj rfl (λj d u p z=>?_) (λb m=>i b O)).mono ?_
 ·match j,p,z with
  |0,p,z=>cases p;cases z;exact R3 f k
  |1,p,z=>cases p;cases z;exact .str _
 ·rintro e s ⟨u,o,rfl,m,c⟩;exact⟨X6,m⟩
def aWy{n:Nat}{r:World}{t:Tr}{v:Value}(h:Ey n r t v)(g:n<=r.heap.size)(i:Nat)(w:t.cnt<=900000)(hi:i<=900000):Calls Qk 50 #[.agg #[v],.int .i64 (i:Nat)] r λe s=>e= .returned (.tuple #[encStr ((t.at_ i).getD ([],[])).1,encStr ((t.at_ i).getD ([],[])).2,.bool (t.at_ i).isSome])∧Below r.heap.size r s:=by
 have q:=h.one;obtain⟨G,f,x⟩:=h;refine(El (vs:=[.agg #[v],.int .i64 (i:Nat)]) (G:=G) aQh (aFt t i w hi) Xj Xj rfl (λj d u p z=>?_) (λb m=>x b O)).mono ?_
 ·match j,p,z with
  |0,p,z=>cases p;cases z;exact R3 f q
  |1,p,z=>cases p;cases z;exact .int _ _
 ·rintro e s ⟨u,o,rfl,m,c⟩;unfold atD at c;obtain⟨us,rfl,k,z⟩:=c.tup_inv
  match us,k with
  |[u0,u1,u2],_=>exact⟨by rw[(z 0 _ u0 rfl rfl).str_inv,(z 1 _ u1 rfl rfl).str_inv,(z 2 _ u2 rfl rfl).bool_inv],m⟩
def aN6(r:World)(s p:Bs):Calls Qk 51 #[encStr s,encStr p] r λe t=>e= .returned (.bool (B7 s p))∧Below r.heap.size r t:=by
 refine(Iz aQg (aFs s p) rfl r).mono ?_;rintro e t ⟨u,q,rfl,m,c⟩;exact⟨by rw[c.bool_inv],m⟩
structure iM (n Bt Bq:Nat) (W W':World):Prop where
 low:Below n W W'
 t:W'.heap[Bt]?=W.heap[Bt]?
 q:W'.heap[Bq]?=W.heap[Bq]?
def iM.trans{n Bt Bq:Nat}{A B C:World}(h:iM n Bt Bq A B)(k:iM n Bt Bq B C):iM n Bt Bq A C:=⟨h.low.trans k.low,k.t.trans h.t,k.q.trans h.q⟩
def iM.refl{n Bt Bq:Nat}(A:World):iM n Bt Bq A A:=⟨Below.refl _ _,rfl,rfl⟩
def iM.of{n Bt Bq:Nat}{A B:World}(h:Below A.heap.size A B)(g:n<=A.heap.size)(u:Bt<A.heap.size)(y:Bq<A.heap.size):iM n Bt Bq A B:=⟨h.mono g,h.block _ u,h.block _ y⟩
def aBZ{n Bt Bq:Nat}{w:World}(g:n<=w.heap.size)(q:Bt<w.heap.size)(y:Bq<w.heap.size)(W:World)(l:Nat)(o o':Obj)(hl:w.heap.size<=l)(h:W.heap[l]?=some o)(u:o.isCells=false)(f:o.isWalk=false):iM n Bt Bq W (W.putObj l o'):=
 ⟨belowK_b g W l o o' hl h u f,World.putObj_heap_other O,World.putObj_heap_other O⟩
def Ud{α:Type}{B:Nat}{J:List α->World->Prop}(k:AbidesFrom B J){s:List α}{A n:World}(h:J s A)(m:Below A.heap.size A n):J s n:=
 k s A n none h (Cc m (Qe _) none m.size) (λr e=>Xt)
theorem aGH (n : Nat) (hn : 1 ≤ n) (l Bt Bq n₀ : Nat) (t : Tr) (q : Bs) (v : Value) (hc : t.cnt ≤ 400000) (J Jx : List (Bs × Bs) → World → Prop) {B : Nat} (hJ : AbidesFrom B J) (y : AbidesFrom B Jx)
  (hY : ∀ pre x W, J pre W → (pre ++ [x]) <+: BD t q → YieldAt Fence.wide (n - 1) Qk l #[encStr x.1, encStr x.2] W fun e W' =>
   (e = .returned (.bool true) ∧ J (pre ++ [x]) W' ∧ iM n₀ Bt Bq W W') ∨ (e = .returned (.bool false) ∧ Jx (pre ++ [x]) W'))
  (W : World) (d : W.heap[Bt]? = some (.cells #[v] 36 (0, 0))) (f : W.heap[Bq]? = some (.cells #[encStr q] 9 (0, 0))) (hT : Ey n₀ W t v) (ja : n₀ ≤ W.heap.size) (h0 : J [] W) :
  CallsIn Fence.wide n Qk 48 #[.func (.yield l) #[] #[], .pointer (some ⟨Bt, 0, none⟩), .pointer (some ⟨Bq, 0, none⟩)] W fun e W' => (∃ u, e = .returned u) ∧
   ((∃ ys, ys = BD t q ∧ J ys W') ∨ (∃ pre, pre <+: BD t q ∧ Jx pre W')) := by
 have oa : t.rank q + (BD t q).length ≤ 800001 := by
  have h1 := (nY t q).length_le
  have h2 : t.rank q ≤ t.cnt := by
   have : ∀ t : Tr, t.rank q ≤ t.cnt := by
    intro t
    induction t with
    | nil => exact Qe _
    | node l k v r ih1 ih2 => unfold Tr.rank; simp only [Tr.cnt]; split <;> omega
   exact this t
  rw [Tr.cnt_lst] at h1
  omega
 refine callsIn_of_wp func48 rfl trivial ?_ rfl
 simp only [ntmps48, QY, Qb, Qd, Qr, QO, QS, QT, QZ, QU, QA, Qx]
 have ct := Ei d
 have cq := Ei f
 gi_wp2_with (refine ⟨trivial, ?_⟩; gi_at_call 49; refine (callsIn_wide.2 (aWz hT ja q O)).mono ?_; rintro e w1 ⟨rfl, ia⟩)
 have z := Ud hJ h0 ia
 have ga := hT.below (ia.mono ja)
 have ba : Bt < W.heap.size := (Qz.1 d).1
 have aa : Bq < W.heap.size := (Qz.1 f).1
 have k1 := (ia.block _ ba).trans d
 have k2 := (ia.block _ aa).trans f
 have ra := Qh ja ia.size
 gi_loopw [4] (fun i wr => ∃ k : Nat, k ≤ (BD t q).length ∧ i = .int .i64 ((t.rank q : Int) + (k : Int)) ∧ J ((BD t q).take k) wr ∧ n₀ ≤ wr.heap.size ∧ wr.heap[Bt]? = some (.cells #[v] 36 (0, 0)) ∧ wr.heap[Bq]? = some (.cells #[encStr q] 9 (0, 0)) ∧ Ey n₀ wr t v)
  (fun i _ => t.rank q + (BD t q).length - (RowKit.intOf i).toNat)
 case atStart => exact ⟨0, Qt _, U, z, ra, k1, k2, ga⟩
 case round =>
  obtain ⟨k, hk, rfl, g, c, r1, r2, s⟩ := hrel
  have ma := Ei r1
  have w := Ei r2
  have a := aWy s c (t.rank q + k) O O
  rw [Int.natCast_add] at a
  by_cases ea : k < (BD t q).length
  ·obtain ⟨u1, u2⟩ := aOU ea
   rw [u1] at a
   obtain ⟨x, hx⟩ : ∃ x, (BD t q)[k] = x := ⟨_, rfl⟩
   rw [hx] at a u2
   simp only [QV, Qy] at a
   have qa : (BD t q).take k ++ [x] = (BD t q).take (k + 1) := by rw [← hx]; exact (QG ea).symm
   have fa : ((BD t q).take k ++ [x]) <+: BD t q := by rw [qa]; exact ZH _ _
   gi_wp2_with (first
    | (refine ⟨trivial, ?_⟩; gi_at_call 50; refine (callsIn_wide.2 a).mono ?_; rintro e w2 ⟨rfl, la⟩; have ka := EZ la w)
    | (refine ⟨trivial, ?_⟩; gi_at_call 51; refine (callsIn_wide.2 (aN6 _ x.1 q)).mono ?_; rintro e w3 ⟨rfl, da⟩; rw [u2]; obtain ⟨fn, tmps, o, b, hy, hR⟩ := hY _ x w3 (Ud hJ (Ud hJ g la) da) fa))
   refine hR.mono ?_
   have z3 : n₀ ≤ w3.heap.size := by have := la.size; have := da.size; omega
   have l1 : Bt < wr.heap.size := (Qz.1 r1).1
   have l2 : Bq < wr.heap.size := (Qz.1 r2).1
   have p : Below wr.heap.size wr w3 := la.trans (da.mono la.size)
   rintro e W4 (⟨rfl, ca, j⟩ | ⟨rfl, m⟩)
   ·gi_wp2
    go_roundw
    case rel =>
     refine ⟨k + 1, O, ?_, by rw [← qa]; exact ca, Qh z3 j.low.size, j.t.trans ((p.block _ l1).trans r1), j.q.trans ((p.block _ l2).trans r2), (s.below (p.mono c)).below j.low⟩
     simp
     omega
    case measure => simp [RowKit.intOf]; omega
   ·gi_wp2
    refine bodyPost_ret (results_none rfl _ _ _) rfl ?_
    exact ⟨⟨_, rfl⟩, .inr ⟨_, ZH (k + 1) _, by rw [← qa]; exact m⟩⟩
  ·obtain rfl : k = (BD t q).length := by omega
   cases ha : t.at_ (t.rank q + (BD t q).length) with
   | none =>
    rw [ha] at a
    simp only [Zq, Zi] at a
    gi_wp2_with (refine ⟨trivial, ?_⟩; gi_at_call 50; refine (callsIn_wide.2 a).mono ?_; rintro e w2 ⟨rfl, la⟩)
    refine ⟨trivial, ?_⟩
    gi_wp2
    refine ⟨fun _ h => Xc, ?_⟩
    gi_wp2
    refine bodyPost_ret (results_none rfl _ _ _) rfl ?_
    rw [Q0] at g
    exact ⟨⟨_, rfl⟩, .inl ⟨_, rfl, Ud hJ g la⟩⟩
   | some x =>
    have u2 := aGG ha
    rw [ha] at a
    simp only [QV, Qy] at a
    gi_wp2_with (first
     | (refine ⟨trivial, ?_⟩; gi_at_call 50; refine (callsIn_wide.2 a).mono ?_; rintro e w2 ⟨rfl, la⟩; have ka := EZ la w)
     | (refine ⟨trivial, ?_⟩; gi_at_call 51; refine (callsIn_wide.2 (aN6 _ x.1 q)).mono ?_; rintro e w3 ⟨rfl, da⟩; rw [u2]))
    refine ⟨fun _ h => Xc, ?_⟩
    gi_wp2
    refine bodyPost_ret (results_none rfl _ _ _) rfl ?_
    rw [Q0] at g
    exact ⟨⟨_, rfl⟩, .inl ⟨_, rfl, Ud hJ (Ud hJ g la) da⟩⟩
end Go.Vd
namespace Go.Vd
open Go.Proofs Go.RowKit
def aDu:=y2 f79 [] []
def M8:=y3 f38 2 [] []
def aDG:=y2 f38 [] [(2,M8)]
def RL:=y2 f11 [(5,[(2,0)]),(8,[(6,8)]),(9,[(1,0)]),(10,[(4,2)]),(11,[(3,2)])] []
def aDM:=y2 f17 [] []
def aDL:=y2 f18 [] []
def aDC:=y2 f46 [] []
def mA:=y2 f16 [] []
def aDJ:=y2 f32 [] []
def MZ:=y3 f75 4 [] []
def aDx:=y2 f75 [] [(4,MZ)]
def aDI:=y2 f33 [] []
def MY:=y3 f76 4 [] []
def aDw:=y2 f76 [] [(4,MY)]
def aDv:=y2 f77 [] []
def aDy:=y2 f71 [] []
def aDH:=y2 f36 [(4,[(1,0),(2,0),(3,0)]),(5,[(1,0),(3,0)]),(6,[(1,0)])] []
def VT:=y2 f34 [(6,[(1,2)])] []
def Nb:=y3 f10 3 [] []
def aDP:=y2 f10 [] [(3,Nb)]
def Nc:=y3 f8 4 [] []
def aDR:=y2 f8 [] [(4,Nc)]
def aDQ:=y2 f9 [] []
attribute [local go_sem] Oper.semAt_some
def aXe:=Ao []
def aOr:=RF aXe aDu [.t 4] 12
def aP9:Kq aOr 79:=Am (Ai func79) Ad
def aFk(k:Bs)(n:Nat)(o:k.length<=1000000)(g:n<=1000000):aOr [.str k,.int .i64 (n:Nat)]=some (.int .i64 ((36+k.length+min n 1048576:Nat):Int)):=by
 refine Al (Qa rfl) ?_;unfold aDu;have c:IntKind.i64.wrap (36+(k.length:Int))=((36+k.length:Nat):Int):=Xh
 have v:max (0:Int) (min (n:Int) 1048576)=((min n 1048576:Nat):Int):=O
 have d:IntKind.i64.wrap (((36+k.length:Nat):Int)+((min n 1048576:Nat):Int))=((36+k.length+min n 1048576:Nat):Int):=Xh
 simp only[G7,↓C2,GY,simprocAttr,c,v,d]
 all_goals exact Y0
open Go.Shelf
def aWx(r:World)(k:Bs)(n:Nat)(o:k.length<=1000000)(g:n<=1000000):Calls Qk 79 #[encStr k,.int .i64 (n:Nat)] r λe t=>e= .returned (.int .i64 ((36+k.length+min n 1048576:Nat):Int))∧Below r.heap.size r t:=by
 refine(Iz aP9 (aFk k n o g) rfl r).mono ?_;rintro e t ⟨u,q,rfl,m,c⟩;exact⟨X6,m⟩
abbrev R5(t:Tr)(q:Bs):={x:Bs×Bs // x∈BD t q}
def Nv(n:Nat)(g:1<=n)(Bt Bq o:Nat)(t:Tr)(q:Bs)(v:Value)(m:t.cnt<=400000)(w:World)(d:w.heap[Bt]?=some (.cells #[v] 36 (0,0)))(f:w.heap[Bq]?=some (.cells #[encStr q] 9 (0,0)))(b:Ey o w t v)(ja:o<=w.heap.size):
  SeqStopsK Fence.wide n Qk 48 #[.pointer (some ⟨Bt,0,none⟩),.pointer (some ⟨Bq,0,none⟩)] (λx:R5 t q=>#[encStr x.1.1,encStr x.1.2]) (iM o Bt Bq) (λys=>ys.map (·.1)=BD t q) (λpre=>pre.map (·.1)<+:BD t q) (BD t q).length w:=λl J Jx W k hJ y hY z=>by
 refine(aGH n g l Bt Bq o t q v m (λpre W=>∃p:List (R5 t q),p.map (·.1)=pre∧J p W) (λpre W=>∃p:List (R5 t q),p.map (·.1)=pre∧Jx p W) (B:=W.heap.size) (λs A B row j a i=>?_) (λs A B row j a i=>?_) (λpre x W1 r c=>?_) W ((k.block _ (Qz.1 d).1).trans d) ((k.block _ (Qz.1 f).1).trans f) (b.below (k.mono ja)) (Qh ja k.size) ⟨[],rfl,z⟩).mono ?_
 ·obtain⟨p,e,h⟩:=j;exact⟨p,e,hJ p A B row h a i⟩
 ·obtain⟨p,e,h⟩:=j;exact⟨p,e,y p A B row h a i⟩
 ·obtain⟨p,rfl,h⟩:=r;have hx:x∈BD t q:=c.subset (List.mem_append_right _ (Qm.2 rfl));have hl:p.length<(BD t q).length:=by
   have:=c.length_le;simp only[Qf,Qo,Qb,Qd]at this;omega
  refine(hY p ⟨x,hx⟩ W1 h hl).mono ?_;rintro e W' (⟨rfl,u,h2⟩|⟨rfl,u⟩)
  ·exact .inl ⟨rfl,⟨_,U,u⟩,h2⟩
  ·exact .inr ⟨rfl,_,U,u⟩
 ·rintro e W' ⟨he,⟨ys,rfl,p,u,h2⟩|⟨pre,z,p,rfl,h2⟩⟩
  ·exact⟨he,.inl ⟨p,u,h2⟩⟩
  ·exact⟨he,.inr ⟨p,z,h2⟩⟩
def aD9(w:World)(v:Value)(q:Bs):Calls Qk 21 #[.agg #[v],encStr q] w λe t=>e= .returned (.func (.func 48) #[] #[.pointer (some ⟨w.heap.size,0,none⟩),.pointer (some ⟨w.heap.size+1,0,none⟩)])∧t=(w.alloc (.cells #[v] 36 (0,0))).alloc (.cells #[encStr q] 9 (0,0)):=by
 go_enter func21,ntmps21
 go_wp2
 go_ret
 exact Y4
def mL{α:Type}(B:Nat)(T:TypeId)(f:List α->Value):Own (λ(s:List α) W=>Boxed W B T (f s)):=λs A n row j a i=>j.kept a (λe=>by
 obtain⟨o,y,w⟩:=i _ e.symm;rw[show A.heap[B]?=_ from j]at y;cases y;cases w)
def PZ{α:Type}(m:Nat):Own (λ(_:List α) W=>m<=W.heap.size):=λs A n row j a i=>Qh j a.size
def aGz{n B Bt Bq:Nat}{w W t:World}{T:TypeId}{u:Value}(s:Value)(d:Below n w W)(m:Boxed W B T u)(y:Below W.heap.size W t)(g:n<=B)(q:Bt≠B)(f:Bq≠B)(i:Bt<W.heap.size)(p:Bq<W.heap.size)(ia:n<=W.heap.size):
  KeepsOthers W (t.setCell ⟨B,0,none⟩ s)∧iM n Bt Bq W (t.setCell ⟨B,0,none⟩ s)∧Boxed (t.setCell ⟨B,0,none⟩ s) B T s∧Below n w (t.setCell ⟨B,0,none⟩ s)∧W.heap.size<=(t.setCell ⟨B,0,none⟩ s).heap.size:=by
 have b:Boxed t B T u:=(y.block _ m.lt).trans m;refine⟨(KeepsOthers.of_grownBy (Cc y (Qe _) none y.size) (λ_ _ e=>Xt)).trans (KeepsOthers.setCell _ _ _),⟨(y.mono ia).setCell g _,?_,?_⟩,b.set _,(d.trans (y.mono ia)).setCell g _,?_⟩
 ·rw[Below.heap_setCell _ _ _ _ q];exact y.block _ i
 ·rw[Below.heap_setCell _ _ _ _ f];exact y.block _ p
 ·have:=y.size;simpa[World.setCell]using this
def WB:∀l:List (Bs×Bs),(∀x∈l,x.1.length<=100000∧x.2.length<=100000)->Tr.weighL l<=4+200036*l.length
 |[],_=>by simp[Tr.weighL]
 |x::l,h=>by
  have u:=h x QB;have:=WB l λy j=>h y (Qw _ j)
  rw[GE];simp only[Tr.costL,Qb];omega
def aSE(w:World)(v:Value)(t:Tr)(hT:Ey w.heap.size w t v)(s:t.cnt<=400000)(hk:∀x∈t.lst,x.1.length<=100000∧x.2.length<=100000):
  Calls Qk 35 #[.agg #[v]] w λe w'=>e= .returned (.int .i64 ((Tr.weighL t.lst:Nat):Int))∧Below w.heap.size w w':=by
 refine(callsIn_wide (n:=3)).1 ?_;refine callsIn_of_wp_marks func35 rfl trivial ?_ rfl;simp only[ntmps35,QY,Qb,Qd,Qr,QO,QS,QT,QZ,QU,QA,Qx]
 gi_wp2_with (refine⟨trivial,?_⟩;gi_at_call 21;refine(callsIn_wide.2 (aD9 _ v [])).mono ?_;rintro e w' ⟨rfl,rfl⟩)
 have d:Below w.heap.size w ((((w.alloc (Obj.cells #[v] 36)).alloc (Obj.cells #[Value.int IntKind.i64 4] 3)).alloc (Obj.cells #[v] 36)).alloc (Obj.cells #[encStr []] 9)):=((((Below.refl _ w).alloc (Qe _) _).alloc U _).alloc Xb _).alloc Xb _;have hz:((((w.alloc (Obj.cells #[v] 36)).alloc (Obj.cells #[Value.int IntKind.i64 4] 3)).alloc (Obj.cells #[v] 36)).alloc (Obj.cells #[encStr []] 9)).heap.size=w.heap.size+4:=U
 have b1:Boxed ((((w.alloc (Obj.cells #[v] 36)).alloc (Obj.cells #[Value.int IntKind.i64 4] 3)).alloc (Obj.cells #[v] 36)).alloc (Obj.cells #[encStr []] 9)) (w.heap.size+1) 3 (.int .i64 4):=by
  have:=((Boxed.new (w.alloc (Obj.cells #[v] 36)) 3 (.int .i64 4)).alloc (Obj.cells #[v] 36)).alloc (Obj.cells #[encStr []] 9)
  rwa [World.size_alloc]at this
 have b2:Boxed ((((w.alloc (Obj.cells #[v] 36)).alloc (Obj.cells #[Value.int IntKind.i64 4] 3)).alloc (Obj.cells #[v] 36)).alloc (Obj.cells #[encStr []] 9)) (w.heap.size+1+1) 36 v:=by
  have:=(Boxed.new ((w.alloc (Obj.cells #[v] 36)).alloc (Obj.cells #[Value.int IntKind.i64 4] 3)) 36 v).alloc (Obj.cells #[encStr []] 9)
  rwa [World.size_alloc,World.size_alloc]at this
 have b3:Boxed ((((w.alloc (Obj.cells #[v] 36)).alloc (Obj.cells #[Value.int IntKind.i64 4] 3)).alloc (Obj.cells #[v] 36)).alloc (Obj.cells #[encStr []] 9)) (w.heap.size+1+1+1) 9 (encStr []):=by
  have:=Boxed.new (((w.alloc (Obj.cells #[v] 36)).alloc (Obj.cells #[Value.int IntKind.i64 4] 3)).alloc (Obj.cells #[v] 36)) 9 (encStr [])
  rwa [World.size_alloc,World.size_alloc,World.size_alloc]at this
 generalize ((((w.alloc (Obj.cells #[v] 36)).alloc (Obj.cells #[Value.int IntKind.i64 4] 3)).alloc (Obj.cells #[v] 36)).alloc (Obj.cells #[encStr []] 9))=W0 at d hz b1 b2 b3 ⊢;have oa:(BD t []).length<=400000:=by rw[La,Tr.cnt_lst];exact s
 refine wpIn_rangeFunc_ownF rfl V (gf:=48) (lb:=#[.pointer (some ⟨w.heap.size+1+1,0,none⟩),.pointer (some ⟨w.heap.size+1+1+1,0,none⟩)]) rfl trivial (enters_of func48 Z rfl)
  (Nv 2 V (w.heap.size+1+1) (w.heap.size+1+1+1) w.heap.size t [] v s W0 b2 b3 (hT.below d) O) iM.trans (aBZ O O O) (Below.refl _ _) (λ_=>rfl)
  (λ(pre:List (R5 t [])) W=>Boxed W (w.heap.size+1) 3 (.int .i64 ((Tr.weighL (pre.map (·.1)):Nat):Int))∧Below w.heap.size w W∧w.heap.size+4<=W.heap.size)
  (λ_ _ _=>False)
  (OwnFrom.and (Own.from (mL _ _ _) _) (OwnFrom.and (ownFrom_below (Qe _) O) (Own.from (PZ _) _)))
  (λ_ _ _ _ _ k _ _=>k)
  ⟨b1,d,O⟩
  (λx=>{tmps:=#[Value.agg #[v],Value.pointer (some {block:=w.heap.size,off:=0}),Value.int IntKind.i64 0,Value.pointer (some {block:=w.heap.size+1,off:=0}),encStr x.1.1,encStr x.1.2,Value.agg #[v],Value.func (Fn.func 48) #[] #[Value.pointer (some {block:=w.heap.size+1+1,off:=0}),Value.pointer (some {block:=w.heap.size+1+1+1,off:=0})],encStr x.1.1,encStr x.1.2,undef,undef,undef,undef,undef,undef,undef],defers:=[]}) ?assign ?body ?done ?stop
 case assign=>
  intro l x W K hK
  gi_wp2
  exact hK
 case body=>
  rintro l pre ⟨x,q⟩ W ⟨m,hB,ua⟩ u;have ab:=WB (pre.map (·.1)) (λy hy=>by
   obtain⟨z,_,rfl⟩:=QM.1 hy;exact hk _ (La t▸z.2))
  have g:Tr.weighL ((pre++[(⟨x,q⟩:R5 t [])]).map (·.1))=Tr.weighL (pre.map (·.1))+(36+x.1.length+min x.2.length 1048576):=by rw[QX];exact iQ x _
  have p:=m.cell;have j:=m.frozen;rw[La]at q;have ra:=hk x q;have i:=λwx=>aWx wx x.1 x.2.length O O
  have hd:1<=3-1-1:=V
  have f:Tryz.prog.follows .mixedOrders=true:=Z
  gi_wp2
  gi_region_with_o (refine⟨trivial,?_⟩;gi_at_call 79;refine(CallsIn.inRound l (callsIn_wide.2 (i _))).mono ?_;rintro e r ⟨rfl,da⟩;have o:Boxed r (w.heap.size+1) 3 _:=(da.block _ m.lt).trans m;have a:=o.cell;have b:=o.frozen)
  all_goals
   obtain⟨g1,g2,g3,g4,g5⟩:=aGz (Bt:=w.heap.size+1+1) (Bq:=w.heap.size+1+1+1) (Value.int IntKind.i64 (IntKind.i64.wrap (((Tr.weighL (ZK (λx=>x.val) pre):Nat):Int)+(36+(x.fst.length:Int)+((min x.snd.length 1048576:Nat):Int))))) hB m ⟨da.os,da.tape,da.output,da.size,da.block⟩ O O O O O O;refine⟨g1,g2,?_,g4,O⟩;have e:IntKind.i64.wrap (((Tr.weighL (ZK (λx=>x.val) pre):Nat):Int)+(36+(x.fst.length:Int)+((min x.snd.length 1048576:Nat):Int)))=((Tr.weighL ((pre++[(⟨x,by rw[La];exact q⟩:R5 t [])]).map (·.1)):Nat):Int):=by
    rw[Qo]at ab;rw[g,Hu O O];omega
   rw[e]at g3 ⊢;exact g3
 case done=>
  rintro D ys W hD eb ⟨m,hB,ua⟩ hK;have p:=m.cell
  gi_wp2
  refine⟨U,.inl ⟨_,_,rfl,run_takeDeferred hK,?_⟩⟩;exact⟨_,results_tmp rfl _ _ _,by rw[La];rfl,hB.trans (belowK_b (w:=w) (Qe _) W D _ _ O hK rfl rfl)⟩
 case stop=>
  rintro D c pre W _ _ h _;exact h.elim
attribute [local go_sem] Oper.semAt_some
open Go.Shelf Go.Sort
def aN7{n:Nat}{r:World}{t:Tr}{v:Value}(h:Ey n r t v)(g:n<=r.heap.size)(q:Bs):Calls Qk 27 #[.agg #[v],encStr q] r λe s=>e= .returned (.tuple #[encStr ((t.get q).getD []),.bool (t.get q).isSome])∧Below r.heap.size r s:=by
 have k:=h.one;obtain⟨G,f,i⟩:=h;refine(El (vs:=[.agg #[v],encStr q]) (G:=G) aCc (gY t q) Xj Xj rfl (λj d u p z=>?_) (λb m=>i b O)).mono ?_
 ·match j,p,z with
  |0,p,z=>cases p;cases z;exact R3 f k
  |1,p,z=>cases p;cases z;exact .str _
 ·rintro e s ⟨u,o,rfl,m,c⟩;obtain⟨us,rfl,oa,z⟩:=c.tup_inv
  match us,oa with
  |[u0,u1],_=>exact⟨by rw[(z 0 _ u0 rfl rfl).str_inv,(z 1 _ u1 rfl rfl).bool_inv],m⟩
def aEm(w:World)(n z c r:Obj):((((w.alloc n).alloc z).alloc c).alloc r).heap.size=w.heap.size+4∧((((w.alloc n).alloc z).alloc c).alloc r).heap[w.heap.size]?=some n∧((((w.alloc n).alloc z).alloc c).alloc r).heap[w.heap.size+1]?=some z∧((((w.alloc n).alloc z).alloc c).alloc r).heap[w.heap.size+1+1]?=some c∧((((w.alloc n).alloc z).alloc c).alloc r).heap[w.heap.size+1+1+1]?=some r:=by
 have u:∀(x:World)(o:Obj)(k:Nat),k<x.heap.size->(x.alloc o).heap[k]?=x.heap[k]?:=λx o k h=>Below.heap_alloc _ _ _ h
 have j:∀(x:World)(o:Obj),(x.alloc o).heap.size=x.heap.size+1:=λx o=>World.size_alloc x o
 have g:∀(x:World)(o:Obj),(x.alloc o).heap[x.heap.size]?=some o:=λx o=>World.alloc_heap_new x o
 refine⟨by simp only[j],?_,?_,?_,?_⟩
 ·rw[u _ _ _ Xs,u _ _ _ Xs,u _ _ _ Xs,g]
 ·rw[u _ _ _ Xs,u _ _ _ Xs,←j w n,g]
 ·rw[u _ _ _ Xs,←j w n,←j _ z,g]
 ·rw[←j w n,←j _ z,←j _ c,g]
def oY{w:World}{B a e r n:Nat}{v:Value}{xs:List Value}(h:w.ownsRow B e r v n xs)(m:a<=B):w.ownsRow a e r v n xs:=by
 refine⟨h.1,?_⟩;rcases h.2 with h|⟨g,cap,cur,z,u,f⟩
 ·exact .inl h
 ·exact .inr ⟨g,cap,cur,z,Qh m u,f⟩
abbrev Hw(s:Option Addr×Nat×Nat):Value:= .slice s.1 s.2.1 s.2.2
def mO(w:World)(n z c r:Obj):Below w.heap.size w ((((w.alloc n).alloc z).alloc c).alloc r):=((((Below.refl _ w).alloc (Qe _) _).alloc U _).alloc Xb _).alloc Xb _
def yB{W:World}{B:Nat}{T:TypeId}{a b c d e:Value}(h:W.heap[B]?=some (.cells #[a,b,c,d,e] T (0,0))):
  W.cell? ⟨B,0,none⟩=some a∧W.cell? ⟨B,1,none⟩=some b∧W.cell? ⟨B,2,none⟩=some c∧W.cell? ⟨B,3,none⟩=some d∧W.cell? ⟨B,4,none⟩=some e:=by
 simp[World.cell?,h]
def SD{W:World}{B:Nat}{T:TypeId}{cs:Array Value}(h:W.heap[B]?=some (.cells cs T (0,0)))(j:Nat):W.frozen? ⟨B,j,none⟩=false:=by
 simp[World.frozen?,h]
def Ta{w:World}{b:Nat}{z0 c s a g:Value}(v r n x z:Value){T:TypeId}(h:w.heap[b]?=some (.cells #[z0,c,s,a,g] T (0,0))):
  (((((w.setCell ⟨b,0,none⟩ v).setCell ⟨b,1,none⟩ r).setCell ⟨b,2,none⟩ n).setCell ⟨b,3,none⟩ x).setCell ⟨b,4,none⟩ z).heap[b]?=some (.cells #[v,r,n,x,z] T (0,0))∧
  (((((w.setCell ⟨b,0,none⟩ v).setCell ⟨b,1,none⟩ r).setCell ⟨b,2,none⟩ n).setCell ⟨b,3,none⟩ x).setCell ⟨b,4,none⟩ z).heap.size=w.heap.size∧
  ∀k,k≠b->(((((w.setCell ⟨b,0,none⟩ v).setCell ⟨b,1,none⟩ r).setCell ⟨b,2,none⟩ n).setCell ⟨b,3,none⟩ x).setCell ⟨b,4,none⟩ z).heap[k]?=w.heap[k]?:=by
 refine⟨?_,by simp[World.setCell],λk o=>?_⟩
 ·have u:=heap_setCell_same w b 0 _ _ v h;have f:=heap_setCell_same _ b 1 _ _ r u;have i:=heap_setCell_same _ b 2 _ _ n f;have p:=heap_setCell_same _ b 3 _ _ x i;have m:=heap_setCell_same _ b 4 _ _ z p;simpa using m
 ·rw[Below.heap_setCell _ _ _ _ o,Below.heap_setCell _ _ _ _ o,Below.heap_setCell _ _ _ _ o,Below.heap_setCell _ _ _ _ o,Below.heap_setCell _ _ _ _ o]
def aON(w:World)(k0 k1 g k3 k4:Value)(q:Bs)(x2 x3 x4 x5 x6 x7 x8:Value)(v:Value)(tx:Bs)(th:Bool)(QK:World->World->Value->Prop)
  (x:∀r,Below w.heap.size w r->Calls Qk 27 #[.agg #[v],encStr q] r λe t=>e= .returned (.tuple #[encStr tx,.bool th])∧Below r.heap.size r t)
  (f:∀r,Below w.heap.size w r->w.heap.size+4<=r.heap.size->Calls Qk 155 #[.agg #[k0,k1,g,k3,k4],encStr q,encStr tx,.bool th] r λe t=>∃u0 u1 u2 u3 u4,e= .returned (.agg #[Hw u0,Hw u1,Hw u2,Hw u3,Hw u4])∧Below r.heap.size r t∧QK r t (.agg #[Hw u0,Hw u1,Hw u2,Hw u3,Hw u4])):
  Calls Qk 88 #[.agg #[k0,k1,g,k3,k4],.agg #[encStr q,.bool false,x2,x3,x4,x5,x6,x7,x8],.agg #[v]] w λe t=>∃u r s B,e= .returned u∧Below w.heap.size w r∧Below r.heap.size r s∧QK r s u∧B=w.heap.size+3∧Below w.heap.size w t∧s.heap.size<=t.heap.size∧∀p:Addr,p.block≠B->t.cell? p=s.cell? p:=by
 go_enter func88,ntmps88
 go_wp2_with (first|(go_at_call 27;refine(x _ (mO _ _ _ _ _)).mono ?_;rintro e r ⟨rfl,m⟩;obtain⟨zz,y0,y1,y2,y3⟩:=aEm w (Obj.cells #[k0,k1,g,k3,k4] 163) (Obj.cells #[encStr q,Value.bool false,x2,x3,x4,x5,x6,x7,x8] 100) (Obj.cells #[v] 36) (Obj.cells #[Value.slice none 0 0,Value.slice none 0 0,Value.slice none 0 0,Value.slice none 0 0,Value.slice none 0 0] 163);have a:=(mO w (Obj.cells #[k0,k1,g,k3,k4] 163) (Obj.cells #[encStr q,Value.bool false,x2,x3,x4,x5,x6,x7,x8] 100) (Obj.cells #[v] 36) (Obj.cells #[Value.slice none 0 0,Value.slice none 0 0,Value.slice none 0 0,Value.slice none 0 0,Value.slice none 0 0] 163)).trans (m.mono O);have q0:=(m.block _ O).trans y0;have k:=(m.block _ O).trans y1;have q3:=(m.block _ O).trans y3;obtain⟨d0,j,z,d3,d4⟩:=yB q0;have d5:r.cell? ⟨w.heap.size+1,0,none⟩=some (encStr q):=by simp[World.cell?,k])|(go_at_call 155;refine(f _ a (by have:=m.size;omega)).mono ?_;rintro e s ⟨u0,u1,u2,u3,u4,rfl,ia,y⟩;have q4:=(ia.block _ (by have:=m.size;omega)).trans q3;obtain⟨c0,c1,d,o,c4⟩:=yB q4;have f0:=SD q4 0;have i:=SD q4 1;have f2:=SD q4 2;have f3:=SD q4 3;have f4:=SD q4 4))
 obtain⟨p5,ps,pk⟩:=Ta (Hw u0) (Hw u1) (Hw u2) (Hw u3) (Hw u4) q4;obtain⟨s0,s1,n,s3,s4⟩:=yB p5;have b:=m.size;have na:Below w.heap.size w s:=a.trans (ia.mono a.size);refine bodyPost_ret (v:= .agg #[Hw u0,Hw u1,Hw u2,Hw u3,Hw u4]) (by simp[results,results88,go_sem,s0,s1,n,s3,s4]) rfl ⟨_,r,s,w.heap.size+1+1+1,rfl,a,ia,y,rfl,?_,Zs ps.symm,λp c=>by simp only[World.cell?,pk _ c]⟩;exact((((na.setCell Xb _).setCell Xb _).setCell Xb _).setCell Xb _).setCell Xb _
def aBI{n N Bt Bq B:Nat}{w W s:World}{v v':Value}{k m:Nat}{xs ys:List Value}{c:Obj}(hB:Below n w W)(t:Boxed W B 23 v)(ca:W.ownsRow N 9 1 v k xs)(ia:N<=W.heap.size)(d:n<=N)(na:n<=B)(q:Bt≠B)(f:Bq≠B)(x:Bt<N)(h4:Bq<N)
  (y:s.ownsRow N 9 1 v' m ys) (z:(W.alloc c).grownBy s v.ownBlock):
  KeepsOthers W (s.setCell ⟨B,0,none⟩ v')∧iM n Bt Bq W (s.setCell ⟨B,0,none⟩ v')∧Boxed (s.setCell ⟨B,0,none⟩ v') B 23 v'∧(s.setCell ⟨B,0,none⟩ v').ownsRow N 9 1 v' m ys∧Below n w (s.setCell ⟨B,0,none⟩ v')∧N<=(s.setCell ⟨B,0,none⟩ v').heap.size∧Boxed s B 23 v:=by
 have i:∀g,v.ownBlock=some g->N<=g:=λg hg=>by
  rcases ca.2 with ⟨rfl,_⟩|⟨o,cap,cur,rfl,h,_⟩
  ·cases hg
  ·cases hg;exact h
 have le:∀{u:Value} {W:World} {j:Nat} {zs:List Value},W.ownsRow N 9 1 u j zs->W.ownsRow n 9 1 u j zs:=λh=>oY h O
 obtain⟨g1,g2,g3,g4,g5⟩:=t.appended V (le ca) O na (le y) z;have a:∀b,b<N->b≠B->(s.setCell ⟨B,0,none⟩ v').heap[b]?=W.heap[b]?:=λb r p=>by
  rw[Below.heap_setCell _ _ _ _ p];exact(z.block b (by rw[World.size_alloc];omega) (λe=>by have:=i b e.symm;omega)).trans (Below.heap_alloc _ _ _ O)
 have ja:N<=(s.setCell ⟨B,0,none⟩ v').heap.size:=by
  have:=z.size;rw[World.size_alloc]at this;simp only[World.setCell,Array.size_modify];omega
 exact⟨g4,⟨g5,a Bt x q,a Bq h4 f⟩,g2,y.kept (grownBy_setCell' s B v') (.inr (g1.not_row V y).symm),hB.trans g5,ja,g1⟩
def Ey.more{n m:Nat}{w:World}{t:Tr}{v:Value}(h:Ey n w t v)(j:n<=m):Ey m w t v:=by
 obtain⟨G,u,f⟩:=h;exact⟨G,u,λb z=>f b O⟩
def nZ(t:Tr)(q:Bs):(BD t q).length<=t.lst.length:=Qh ((List.takeWhile_prefix _).length_le) XO
def aOM(w:World)(k0 k1 k2 k3 k4:Value)(q:Bs)(x2 x3 x4 x5 x6 x7 x8:Value)(v:Value)(t:Tr)(QK:World->World->Value->Prop)(hT:Ey w.heap.size w t v)(hc:t.cnt<=400000)
  (f:∀(wx:World)(vs:Value),Below w.heap.size w wx->w.heap.size+4<=wx.heap.size->wx.ownsRow (w.heap.size+7) 9 1 vs ((BD t q).map (·.1)).length (((BD t q).map (·.1)).map encStr)->(vs= .slice none 0 0↔(BD t q).map (·.1)=[])->Calls Qk 156 #[.agg #[k0,k1,k2,k3,k4],encStr q,vs] wx λe w'=>∃u0 u1 u2 u3 u4,e= .returned (.agg #[Hw u0,Hw u1,Hw u2,Hw u3,Hw u4])∧Below wx.heap.size wx w'∧QK wx w' (.agg #[Hw u0,Hw u1,Hw u2,Hw u3,Hw u4])):
  Calls Qk 88 #[.agg #[k0,k1,k2,k3,k4],.agg #[encStr q,.bool true,x2,x3,x4,x5,x6,x7,x8],.agg #[v]] w λe w'=>∃u wx w1 B,e= .returned u∧Below w.heap.size w wx∧Below wx.heap.size wx w1∧QK wx w1 u∧B=w.heap.size+3∧Below w.heap.size w w'∧w1.heap.size<=w'.heap.size∧∀p:Addr,p.block≠B->w'.cell? p=w1.cell? p:=by
 obtain⟨i0,hi,hx⟩:=QN.1 kZ;simp only[Prod.mk.injEq]at hx;obtain⟨ka,ra,xa⟩:=hx;refine(callsIn_wide (n:=3)).1 ?_;refine callsIn_of_wp_marks func88 rfl trivial ?_ rfl;simp only[ntmps88,QY,Qb,Qd,Qr,QO,QS,QT,QZ,QU,QA,Qx]
 gi_wp2_with (refine⟨trivial,?_⟩;gi_at_call 21;refine(callsIn_wide.2 (aD9 _ v q)).mono ?_;rintro e w' ⟨rfl,rfl⟩)
 have k:=aEm w (Obj.cells #[k0,k1,k2,k3,k4] 163) (Obj.cells #[encStr q,Value.bool true,x2,x3,x4,x5,x6,x7,x8] 100) (Obj.cells #[v] 36) (Obj.cells #[Value.slice none 0 0,Value.slice none 0 0,Value.slice none 0 0,Value.slice none 0 0,Value.slice none 0 0] 163);have ba:=mO w (Obj.cells #[k0,k1,k2,k3,k4] 163) (Obj.cells #[encStr q,Value.bool true,x2,x3,x4,x5,x6,x7,x8] 100) (Obj.cells #[v] 36) (Obj.cells #[Value.slice none 0 0,Value.slice none 0 0,Value.slice none 0 0,Value.slice none 0 0,Value.slice none 0 0] 163);generalize ((((w.alloc (Obj.cells #[k0,k1,k2,k3,k4] 163)).alloc (Obj.cells #[encStr q,Value.bool true,x2,x3,x4,x5,x6,x7,x8] 100)).alloc (Obj.cells #[v] 36)).alloc (Obj.cells #[Value.slice none 0 0,Value.slice none 0 0,Value.slice none 0 0,Value.slice none 0 0,Value.slice none 0 0] 163))=w4 at k ba ⊢;obtain⟨zz,y0,y1,y2,y3⟩:=k;have ga:Ey w4.heap.size w4 t v:=(hT.below ba).more O;have d:Below w4.heap.size w4 (((w4.alloc (Obj.cells #[Value.slice none 0 0] 23)).alloc (Obj.cells #[v] 36)).alloc (Obj.cells #[encStr q] 9)):=(((Below.refl _ w4).alloc (Qe _) _).alloc U _).alloc Xb _;have hz:(((w4.alloc (Obj.cells #[Value.slice none 0 0] 23)).alloc (Obj.cells #[v] 36)).alloc (Obj.cells #[encStr q] 9)).heap.size=w4.heap.size+3:=U
 have b1:Boxed (((w4.alloc (Obj.cells #[Value.slice none 0 0] 23)).alloc (Obj.cells #[v] 36)).alloc (Obj.cells #[encStr q] 9)) w4.heap.size 23 (.slice none 0 0):=((Boxed.new w4 23 (.slice none 0 0)).alloc (Obj.cells #[v] 36)).alloc (Obj.cells #[encStr q] 9);have b2:Boxed (((w4.alloc (Obj.cells #[Value.slice none 0 0] 23)).alloc (Obj.cells #[v] 36)).alloc (Obj.cells #[encStr q] 9)) (w4.heap.size+1) 36 v:=by
  have:=(Boxed.new (w4.alloc (Obj.cells #[Value.slice none 0 0] 23)) 36 v).alloc (Obj.cells #[encStr q] 9)
  rwa [World.size_alloc]at this
 have b3:Boxed (((w4.alloc (Obj.cells #[Value.slice none 0 0] 23)).alloc (Obj.cells #[v] 36)).alloc (Obj.cells #[encStr q] 9)) (w4.heap.size+1+1) 9 (encStr q):=by
  have:=Boxed.new ((w4.alloc (Obj.cells #[Value.slice none 0 0] 23)).alloc (Obj.cells #[v] 36)) 9 (encStr q)
  rwa [World.size_alloc,World.size_alloc]at this
 generalize (((w4.alloc (Obj.cells #[Value.slice none 0 0] 23)).alloc (Obj.cells #[v] 36)).alloc (Obj.cells #[encStr q] 9))=W0 at d hz b1 b2 b3 ⊢;have en:w.heap.size+1+1+1+1=w4.heap.size:=O
 rw[en];have oa:(BD t q).length<=400000:=Qh (nZ t q) (by rw[Tr.cnt_lst];exact hc);refine wpIn_rangeFunc_ownF rfl V (gf:=48) (lb:=#[.pointer (some ⟨w4.heap.size+1,0,none⟩),.pointer (some ⟨w4.heap.size+1+1,0,none⟩)]) rfl trivial (enters_of func48 Z rfl)
  (Nv 2 V (w4.heap.size+1) (w4.heap.size+1+1) w4.heap.size t q v hc W0 b2 b3 (ga.below d) O) iM.trans (aBZ O O O) (Below.refl _ _) (λ_=>rfl)
  (λ(pre:List (R5 t q)) W=>(∃u,Boxed W w4.heap.size 23 u∧W.ownsRow (w4.heap.size+3) 9 1 u pre.length ((pre.map (·.1.1)).map encStr)∧(u= .slice none 0 0↔pre=[]))∧Below w4.heap.size w4 W∧w4.heap.size+3<=W.heap.size)
  (λ_ _ _=>False)
  (OwnFrom.and (Own.from (holdsRow_own (w4.heap.size+3) w4.heap.size 23 9 1 (λ(pre:List (R5 t q))=>pre.length) (λ(pre:List (R5 t q))=>(pre.map (·.1.1)).map encStr) (λ(pre:List (R5 t q)) u=>u= .slice none 0 0↔pre=[])) _) (OwnFrom.and (ownFrom_below (Qe _) O) (Own.from (PZ _) _)))
  (λ_ _ _ _ _ hs _ _=>hs)
  ⟨⟨_,b1,World.ownsRow_nil _ _ _ _,U⟩,d,O⟩
  (λx=>{tmps:=Zt (Value.agg #[k0,k1,k2,k3,k4]::Value.agg #[encStr q,Value.bool true,x2,x3,x4,x5,x6,x7,x8]::Value.agg #[v]::Value.pointer (some {block:=w.heap.size,off:=0})::Value.pointer (some {block:=w.heap.size+1,off:=0})::Value.pointer (some {block:=w.heap.size+1+1,off:=0})::Value.pointer (some {block:=w.heap.size+1+1+1,off:=0})::undef::undef::Value.pointer (some {block:=w4.heap.size,off:=0})::encStr x.1.1::Value.pointer (some {block:=w.heap.size+1,off:=1})::Value.bool true::Value.bool false::undef::undef::undef::undef::undef::undef::undef::undef::undef::undef::undef::undef::undef::Value.agg #[v]::Value.pointer (some {block:=w.heap.size+1,off:=0})::encStr q::Value.func (Fn.func 48) #[] #[Value.pointer (some {block:=w4.heap.size+1,off:=0}),Value.pointer (some {block:=w4.heap.size+1+1,off:=0})]::encStr x.1.1::encStr x.1.2::undef::undef::undef::undef::undef::undef::undef::undef::undef::[]),defers:=[]}) ?assign ?body ?done ?stop
 case assign=>
  intro l x W K hK;clear zz en hz
  gi_wp2
  exact hK
 case body=>
  rintro l pre x W ⟨⟨u,hv,ca,ma⟩,hB,ua⟩ ea;have ha:=hv.cell;clear zz en hz
  gi_wp2_with (gi_at_builtin;refine wpListIn_append_own _ rfl _ _ 23 rfl (w4.heap.size+3) 9 i0 (.string ByteArray.empty) 1 16 underlying23 hi ka ra xa rfl V _ _ _ rfl (ca.alloc _) ⟨W.heap.size,0,none⟩ 1 1 [encStr x.1.1] rfl rfl (cell_one_new _ _ _) (λx hx=>by simp at hx;subst hx;rfl) Xp O Xb ?_;intro v' w1 da aa i;obtain⟨g',m,rfl⟩:=ownsRow_succ da;obtain⟨h1,h2,h3,h4,h5,h6,h7⟩:=aBI (n:=w4.heap.size) (N:=w4.heap.size+3) (Bt:=w4.heap.size+1) (Bq:=w4.heap.size+1+1) (B:=w4.heap.size) hB hv ca ua O (Qe _) O O O O da aa;have s:=h7.cell;have ja:=h7.frozen)
  exact⟨h1,h2,⟨_,h3,by simpa using h4,U⟩,h5,h6⟩
 case done=>
  rintro D ys W hD eb ⟨⟨u,hv,ca,ma⟩,hB,ua⟩ hK;have ha:=hv.cell;have q0:=(hB.block _ O).trans y0;have q1:=(hB.block _ O).trans y1;have q3:=(hB.block _ O).trans y3;obtain⟨d0,d1,d2,d3,d4⟩:=yB q0;have d5:W.cell? ⟨w.heap.size+1,0,none⟩=some (encStr q):=by simp[World.cell?,q1]
  have ZZ:Aside (w4.heap.size=w.heap.size+4∧W0.heap.size=w4.heap.size+3):=⟨zz,hz⟩;clear zz en hz;have y:ys.map (·.1.1)=(BD t q).map (·.1):=by have:=congrArg (ZK (·.1)) eb;rwa [Zr]at this
  have b:ys=[]↔(BD t q).map (·.1)=[]:=by rw[←y,Zx]
  have z:ys.length=((BD t q).map (·.1)).length:=by rw[←y,Qo]
  rw[y,z]at ca;rw[b]at ma;have a:Below w.heap.size w W:=ba.trans (hB.mono ba.size);have j:=oY ca (show w.heap.size+7<=w4.heap.size+3 by have:=ZZ.out;omega);clear y b z
  gi_wp2_with (refine⟨trivial,?_⟩;gi_at_call 156;refine(callsIn_wide.2 (f W u a (by have:=ZZ.out;omega) j ma)).mono ?_;rintro e w1 ⟨u0,u1,u2,u3,u4,rfl,ia,hq⟩;have q4:=(ia.block _ (by have:=ZZ.out;omega)).trans q3;obtain⟨c0,c1,c2,c3,c4⟩:=yB q4;have f0:=SD q4 0;have f1:=SD q4 1;have f2:=SD q4 2;have f3:=SD q4 3;have f4:=SD q4 4)
  obtain⟨p5,ps,pk⟩:=Ta (Hw u0) (Hw u1) (Hw u2) (Hw u3) (Hw u4) q4;have fa:=(Qz.1 hK).1;obtain⟨zz,hz⟩:=ZZ.out;have r:D≠w.heap.size+1+1+1:=O
  have g:=(pk D r).trans ((ia.block _ fa).trans hK);have la:=ia.size;have na:Below w.heap.size w w1:=a.trans (ia.mono a.size);have qa:=((((na.setCell (p:=⟨w.heap.size+1+1+1,0,none⟩) Xb (Hw u0)).setCell (p:=⟨w.heap.size+1+1+1,1,none⟩) Xb (Hw u1)).setCell (p:=⟨w.heap.size+1+1+1,2,none⟩) Xb (Hw u2)).setCell (p:=⟨w.heap.size+1+1+1,3,none⟩) Xb (Hw u3)).setCell (p:=⟨w.heap.size+1+1+1,4,none⟩) Xb (Hw u4);have pa:∀o,((((((w1.setCell ⟨w.heap.size+1+1+1,0,none⟩ (Hw u0)).setCell ⟨w.heap.size+1+1+1,1,none⟩ (Hw u1)).setCell ⟨w.heap.size+1+1+1,2,none⟩ (Hw u2)).setCell ⟨w.heap.size+1+1+1,3,none⟩ (Hw u3)).setCell ⟨w.heap.size+1+1+1,4,none⟩ (Hw u4)).putObj D o).heap[w.heap.size+1+1+1]?=_:=λo=>(World.putObj_heap_other r.symm).trans p5
  refine⟨U,.inl ⟨_,_,rfl,run_takeDeferred g,?_⟩⟩;obtain⟨s0,s1,s2,s3,s4⟩:=yB (pa (.deferred none));refine⟨.agg #[Hw u0,Hw u1,Hw u2,Hw u3,Hw u4],by simp[results,results88,go_sem,s0,s1,s2,s3,s4],_,W,w1,w.heap.size+1+1+1,rfl,a,ia,hq,rfl,qa.trans (belowK_b (w:=w) (Qe _) _ D _ _ O g rfl rfl),?_,λp hp=>?_⟩
  ·rw[World.putObj_size];exact Zs ps.symm
  ·rcases Nat.decEq p.block D with h|h
   ·simp only[World.cell?,World.putObj_heap_other h];rw[pk _ hp]
   ·simp only[World.cell?,h,World.putObj_heap_same (Qz.1 g).1,(ia.block _ fa).trans hK]
 case stop=>
  rintro D c pre W _ _ h _;exact h.elim
def Ts{P:Program}{f:FuncId}{F:List D->Option D}(k:(Ac F).ok P f){ds:List D}{r:D}(a:F ds=some r)(ia:ds.all D.calm=true)(y:ds.map D.un=ds)(q:r.calm=true){vs:List Value}{w:World}{G:Nat->Nat}
  (hl:vs.length=ds.length) (c:∀(j:Nat) d v,ds[j]?=some d->vs[j]?=some v->Rep w (Gh.base G) d v) (n:∀b,w.heap.size<=b->G b=0):
  Calls P f vs.toArray w λe t=>∃v G',e= .returned v∧Below w.heap.size w t∧(∀b,t.heap.size<=b->G' b=0)∧(∀b,b<w.heap.size->G' b=G b)∧Rep t (Gh.base G') r v:=by
 have g:He P w.heap.size w (λ_ _=>none) w (Gh.base G):=
  ⟨Below.refl _ _,Qe _,n,λ_ _=>rfl,λi b h=>XB,λi i' b h=>XB,λi o d h=>Xd,λi e h=>Xd,λi i' e e' b x x' h=>Xd,λi s p h=>Xd,λi i' s p s' p' b x x' h=>Xd⟩
 refine(k.run (fr:=[0]) (ds:=ds) (r:=r) (u:=[]) g (λi _=>⟨λ_=>rfl,rfl,rfl⟩) hl c ?_).mono ?_
 ·grind [Ac]
 ·rintro e t ⟨v,g',rfl,z⟩;refine⟨v,g'.G,rfl,z.inv.below,z.inv.gz,λb m=>?_,z.rep.calm_to q (λ_ _=>rfl) (λ_=>Qe _)⟩;rw[z.inv.old b m,z.ext.G0];rfl
def Uy{w:World}{g:Gh}{t:Tr}{u:Value}(h:Rep w g (.agg [Hh t]) u):∃v,u= .agg #[v]∧Rep w g (Hh t) v:=by
 cases h with
 |agg ds vs hl q f=>
  match vs,hl with
  |[v],_=>exact⟨v,rfl,f 0 _ v rfl rfl⟩
def Rc(t:Tr):List D:=[.agg [Hh t]]
def kE(x y)(h:Rc x=Rc y):x=y:=by
 simp only[Rc,Q8,D.agg.injEq,and_true]at h;exact Fs h
structure TrS (t:Tr):Prop where
 cnt:t.cnt<=400000
 key:∀x∈t.lst,x.1.length<=100000∧x.2.length<=100000
def Un:List D->Option D:=FX Rc TrS λt=> .int .i64 ((Tr.weighL t.lst:Nat):Int)
def I7{t:Tr}(h:TrS t):Un [.agg [Hh t]]=some (.int .i64 ((Tr.weighL t.lst:Nat):Int)):=B5 (mk:=Rc) kE h
def U8:Kq Un 35:=by
 refine Gg ⟨_,func35,Z,Z⟩ λds r z vs w G hl y j=>⟨?_,?_⟩
 ·obtain⟨p,_,_,rfl⟩:=Ds z;rfl
 ·obtain⟨t,u,rfl,rfl⟩:=Ds z
  match vs,hl with
  |[v0],_=>
   obtain⟨v,rfl,i⟩:=Uy (y 0 _ v0 rfl rfl);refine(aSE w v t ⟨G,i,j⟩ u.cnt u.key).mono ?_;rintro e s ⟨rfl,m⟩;exact⟨_,G,rfl,m,λb h=>j b (Qh m.size h),λ_ _=>rfl,.int _ _⟩
def Ra(p:Kn×Bs×Bool×List D×Tr):List D:=[.agg (HG p.1),.agg (.str p.2.1:: .bool p.2.2.1::p.2.2.2.1),.agg [Hh p.2.2.2.2]]
def kD(x y)(h:Ra x=Ra y):x=y:=by
 obtain⟨k,q,li,r,t⟩:=x;obtain⟨v,w,c,n,z⟩:=y;simp only[Ra,Q8,D.agg.injEq,D.str.injEq,D.bool.injEq,and_true]at h;obtain⟨u,⟨f,i,p⟩,m⟩:=h;rw[pR u,f,i,p,Fs m]
structure aXo (p:Kn×Bs×Bool×List D×Tr):Prop where
 es:p.1.es.length<=1000
 ls:p.1.ls.length<=1000
 r:p.2.2.2.1.length=7
 t:TrS p.2.2.2.2
 und:((BD p.2.2.2.2 p.2.1)).length<=100000
def Um:List D->Option D:=FX Ra aXo λp=> .agg (HG (AY p.1 p.2.1 p.2.2.1 (En p.2.2.2.2 p.2.1)))
def aFX{k:Kn}{q:Bs}{li:Bool}{r:List D}{t:Tr}(h:aXo (k,q,li,r,t)):Um [.agg (HG k),.agg (.str q:: .bool li::r),.agg [Hh t]]=some (.agg (HG (AY k q li (En t q)))):=B5 (mk:=Ra) (a:=(k,q,li,r,t)) kD h
def aBY(k:Kn):(D.agg (HG k)).calm=true:=rfl
def kL{w:World}{g:Gh}{k:Kn}{u:Value}(h:Rep w g (.agg (HG k)) u):∃v r n x z,u= .agg #[Hw v,Hw r,Hw n,Hw x,Hw z]:=by
 cases h with
 |agg ds vs hl q f=>
  match vs,hl with
  |[v0,v1,v2,v3,v4],_=>
   obtain⟨a,b,rfl,_⟩:=(f 0 _ v0 rfl rfl).len_slice;obtain⟨a1,c1,rfl,_⟩:=(f 1 _ v1 rfl rfl).len_slice;obtain⟨s,p,rfl,_⟩:=(f 2 _ v2 rfl rfl).len_slice;obtain⟨j,y,rfl,_⟩:=(f 3 _ v3 rfl rfl).len_slice;obtain⟨i,t,rfl,_⟩:=(f 4 _ v4 rfl rfl).len_slice;exact⟨(a,_,b),(a1,_,c1),(s,_,p),(j,_,y),(i,_,t),rfl⟩
def aPz{w:World}{g:Gh}{q:Bs}{li:Bool}{r:List D}{u:Value}(h:Rep w g (.agg (.str q:: .bool li::r)) u)(i:r.length=7):∃z m a s y b x,u= .agg #[encStr q,.bool li,z,m,a,s,y,b,x]:=by
 cases h with
 |agg ds vs hl k f=>
  match r,i,vs,hl,f with
  |[r2,r3,r4,r5,r6,r7,r8],_,[v0,v1,v2,v3,v4,v5,v6,v7,v8],_,f=>
   have p:=(f 0 _ v0 rfl rfl).str_inv;have n:=(f 1 _ v1 rfl rfl).bool_inv;subst p n;exact⟨_,_,_,_,_,_,_,rfl⟩
def aSa(w:World)(G:Nat->Nat)(k:Kn)(s:World)(u:Value):Prop:=∃a:Nat->Nat,(∀b,s.heap.size<=b->a b=0)∧(∀b,b<w.heap.size->a b=G b)∧a (w.heap.size+3)=0∧Rep s (Gh.base a) (.agg (HG k)) u
def pM{w:World}{G:Nat->Nat}{k:Kn}{e:Ending}{t:World}(h:∃u r n B,e= .returned u∧Below w.heap.size w r∧Below r.heap.size r n∧aSa w G k n u∧B=w.heap.size+3∧Below w.heap.size w t∧n.heap.size<=t.heap.size∧∀p:Addr,p.block≠B->t.cell? p=n.cell? p):
  ∃v G',e= .returned v∧Below w.heap.size w t∧(∀b,t.heap.size<=b->G' b=0)∧(∀b,b<w.heap.size->G' b=G b)∧Rep t (Gh.base G') (.agg (HG k)) v:=by
 obtain⟨u,r,n,B,rfl,fa,ia,⟨a,z,o,i,g⟩,rfl,m,j,s⟩:=h;refine⟨u,a,rfl,m,λb h=>z b O,o,g.calm_to (aBY k) (λp c=>s p λe=>?_) (λ_=>Qe _)⟩;rw[e]at c;simp only[Gh.base,i]at c;omega
def aHZ(k:Kn)(q:Bs)(t:Tr):AY k q false (En t q)={k with es:=k.es++[(q,(t.get q).getD [],(t.get q).isSome)]}:=by
 simp[AY,En]
def aHX(k:Kn)(q:Bs)(t:Tr):AY k q true (En t q)={k with ls:=k.ls++[(q,(BD t q).isEmpty,(BD t q).map (·.1))]}:=by
 simp[AY,En]
def aPx:Kq Um 88:=by
 refine Gg ⟨_,func88,Z,Z⟩ λds r hF vs w G hl da n=>⟨?_,?_⟩
 ·obtain⟨p,_,_,rfl⟩:=Ds hF;rfl
 ·obtain⟨⟨k,q,li,rr,t⟩,⟨c,x,i,ht,o⟩,rfl,rfl⟩:=Ds hF;simp only at c x i ht o
  match vs,hl with
  |[v0,v1,v2],_=>
   have sa:=da 0 _ v0 rfl rfl;obtain⟨u0,u1,u2,u3,u4,rfl⟩:=kL sa;obtain⟨x2,x3,x4,x5,x6,x7,x8,rfl⟩:=aPz (da 1 _ v1 rfl rfl) i;obtain⟨v,rfl,hr⟩:=Uy (da 2 _ v2 rfl rfl);have hT:Ey w.heap.size w t v:=⟨G,hr,n⟩;cases li with
   |false=>
    refine(aON w (Hw u0) (Hw u1) (Hw u2) (Hw u3) (Hw u4) q x2 x3 x4 x5 x6 x7 x8 v ((t.get q).getD []) (t.get q).isSome (λ_=>aSa w G (AY k q false (En t q))) (λwx m=>aN7 (hT.below m) m.size q) (λwx m y=>?_)).mono λe s h=>pM h
    refine(Ts (vs:=[.agg #[Hw u0,Hw u1,Hw u2,Hw u3,Hw u4],encStr q,encStr ((t.get q).getD []),.bool (t.get q).isSome]) (G:=G) aYz (aR9 k q ((t.get q).getD []) (t.get q).isSome c) rfl rfl rfl rfl (λj d u hd hu=>?_) (λb h=>n b (Qh m.size h))).mono ?_
    ·match j,hd,hu with
     |0,hd,hu=>cases hd;cases hu;exact F7 sa rfl n m (λ_ _=>Qe _)
     |1,hd,hu=>cases hd;cases hu;exact .str _
     |2,hd,hu=>cases hd;cases hu;exact .str _
     |3,hd,hu=>cases hd;cases hu;exact .bool _
    ·rintro e w1 ⟨u,G1,rfl,ia,hz,ho,hR⟩;obtain⟨y0,y1,y2,y3,y4,rfl⟩:=kL hR;refine⟨y0,y1,y2,y3,y4,rfl,ia,G1,hz,λb h=>ho b (ZA h m.size),?_,by rw[aHZ];exact hR⟩;rw[ho _ O,n _ O]
   |true=>
    refine(aOM w (Hw u0) (Hw u1) (Hw u2) (Hw u3) (Hw u4) q x2 x3 x4 x5 x6 x7 x8 v t (λ_=>aSa w G (AY k q true (En t q))) hT ht.cnt (λwx vs m y ja ma=>?_)).mono λe s h=>pM h
    have z:∃Gx:Nat->Nat,(∀b,wx.heap.size<=b->Gx b=0)∧(∀b,b<w.heap.size->Gx b=G b)∧Gx (w.heap.size+3)=0∧Rep wx (Gh.base Gx) (.slice (BD t q).isEmpty [] (strsD ((BD t q).map (·.1)))) vs:=by
     rcases ja.2 with ⟨rfl,_⟩|⟨g,cap,cur,rfl,ua,a,f⟩
     ·have e:=ma.1 rfl;have e2:BD t q=[]:=Zx.1 e;rw[e2];exact⟨G,λb h=>n b (Qh m.size h),λ_ _=>rfl,n _ O,.nils _⟩
     ·have ga:BD t q≠[]:=λe=>by
       have:=ma.2 (by rw[e];rfl);cases this
      have ta:=(Qz.1 a).1;have e3:(BD t q).isEmpty=false:=by cases h:BD t q with|nil=>exact absurd h ga|cons=>rfl
      refine⟨λb=>if b=g then((BD t q).map (·.1)).length else G b,λb h=>?_,λb h=>if_neg O,?_,?_⟩
      ·show(if b=g then _ else _)=0;rw[if_neg O];exact n b (Qh m.size h)
      ·show(if w.heap.size+3=g then _ else _)=0;rw[if_neg O];exact n _ O
      ·rw[e3];exact My ja (by simp[Gh.base])
    obtain⟨Gx,gz,go,g3,l⟩:=z;refine(Ts (vs:=[.agg #[Hw u0,Hw u1,Hw u2,Hw u3,Hw u4],encStr q,vs]) (G:=Gx) aYy (aR8 k q (BD t q).isEmpty ((BD t q).map (·.1)) x (by rw[Qo];exact o) (λh=>by rw[List.isEmpty_iff.1 h];rfl)) rfl rfl rfl rfl (λj d u hd hu=>?_) gz).mono ?_
    ·match j,hd,hu with
     |0,hd,hu=>cases hd;cases hu;exact F7 sa rfl n m (λb h=>Zs (go b h).symm)
     |1,hd,hu=>cases hd;cases hu;exact .str _
     |2,hd,hu=>cases hd;cases hu;exact l
    ·rintro e w1 ⟨u,G1,rfl,ia,hz,ho,hR⟩;obtain⟨y0,y1,y2,y3,y4,rfl⟩:=kL hR;exact⟨y0,y1,y2,y3,y4,rfl,ia,G1,hz,λb h=>(ho b (ZA h m.size)).trans (go b h),(ho _ O).trans g3,by rw[aHX];exact hR⟩
attribute [local go_sem] Oper.semAt_some
open Go.Shelf Go.Sort
def rH{n:Nat}{r:World}{t:Tr}{v:Value}(h:Ey n r t v)(g:n<=r.heap.size):Calls Qk 102 #[.agg #[v]] r λe s=>e= .returned (.int .i64 (t.cnt:Nat))∧Below r.heap.size r s:=by
 have q:=h.one;obtain⟨G,f,i⟩:=h;refine(El (vs:=[.agg #[v]]) (G:=G) aP4 (aFb t) Xj Xj rfl (λj d u p z=>?_) (λb m=>i b O)).mono ?_
 ·match j,p,z with
  |0,p,z=>cases p;cases z;exact R3 f q
 ·rintro e s ⟨u,o,rfl,m,c⟩;exact⟨X6,m⟩
def aN5{n:Nat}{r:World}{t:Tr}{v:Value}(h:Ey n r t v)(g:n<=r.heap.size):Calls Qk 103 #[.agg #[v]] r λe s=>e= .returned (.int .i64 (t.wgt:Nat))∧Below r.heap.size r s:=by
 have q:=h.one;obtain⟨G,f,i⟩:=h;refine(El (vs:=[.agg #[v]]) (G:=G) aP3 (aFa t) Xj Xj rfl (λj d u p z=>?_) (λb m=>i b O)).mono ?_
 ·match j,p,z with
  |0,p,z=>cases p;cases z;exact R3 f q
 ·rintro e s ⟨u,o,rfl,m,c⟩;exact⟨X6,m⟩
def aEn(w:World)(n z c:Obj):(((w.alloc n).alloc z).alloc c).heap.size=w.heap.size+3∧(((w.alloc n).alloc z).alloc c).heap[w.heap.size]?=some n∧(((w.alloc n).alloc z).alloc c).heap[w.heap.size+1]?=some z∧(((w.alloc n).alloc z).alloc c).heap[w.heap.size+1+1]?=some c:=by
 have u:∀(x:World)(o:Obj)(k:Nat),k<x.heap.size->(x.alloc o).heap[k]?=x.heap[k]?:=λx o k h=>Below.heap_alloc _ _ _ h
 have j:∀(x:World)(o:Obj),(x.alloc o).heap.size=x.heap.size+1:=λx o=>World.size_alloc x o
 have g:∀(x:World)(o:Obj),(x.alloc o).heap[x.heap.size]?=some o:=λx o=>World.alloc_heap_new x o
 refine⟨by simp only[j],?_,?_,?_⟩
 ·rw[u _ _ _ Xs,u _ _ _ Xs,g]
 ·rw[u _ _ _ Xs,←j w n,g]
 ·rw[←j w n,←j _ z,g]
def aEe(w:World)(n z c:Obj):Below w.heap.size w (((w.alloc n).alloc z).alloc c):=(((Below.refl _ w).alloc (Qe _) _).alloc U _).alloc Xb _
structure HS (w:World) (a b:Tr) (va vb:Value) (wx:World):Prop where
 bl:Below w.heap.size w wx
 sz:w.heap.size+3<=wx.heap.size
 y0:wx.heap[w.heap.size]?=some (.cells #[va] 36 (0,0))
 y1:wx.heap[w.heap.size+1]?=some (.cells #[vb] 36 (0,0))
 y2:wx.heap[w.heap.size+1+1]?=some (.cells #[.bool false] 4 (0,0))
 ta:Ey w.heap.size wx a va
 tb:Ey w.heap.size wx b vb
def HS.le{w r:World}{a b:Tr}{i o:Value}(h:HS w a b i o r):w.heap.size<=r.heap.size:=by have:=h.sz;omega
def HS.later3{w r k:World}{a b:Tr}{i o:Value}(h:HS w a b i o r)(m:Below (w.heap.size+3) r k):HS w a b i o k:=by
 have:=h.sz;have j:=m.mono (show w.heap.size<=w.heap.size+3 by omega);exact⟨h.bl.trans j,Qh h.sz m.size,(m.block _ O).trans h.y0,(m.block _ O).trans h.y1,(m.block _ O).trans h.y2,h.ta.below j,h.tb.below j⟩
def aQF{α:Type}{w:World}{a b:Tr}{u o:Value}{B:Nat}(d:w.heap.size+3<=B):OwnFrom B (λ(_:List α) W=>HS w a b u o W):=λs A n row j x i=>
 j.later3 ((Below.refl _ A).grown x j.sz (λr e=>by have:=(i r e).1;omega))
def HS.later{w r k:World}{a b:Tr}{i o:Value}(h:HS w a b i o r)(m:Below r.heap.size r k):HS w a b i o k:=by
 have:=h.sz;have j:=m.mono h.le;exact⟨h.bl.trans j,Qh h.sz m.size,(m.block _ O).trans h.y0,(m.block _ O).trans h.y1,(m.block _ O).trans h.y2,h.ta.below j,h.tb.below j⟩
def HS.drew{w r:World}{a b:Tr}{i o:Value}(h:HS w a b i o r):HS w a b i o r.drew:=h.later ⟨rfl,rfl,rfl,Qe _,λ_ _=>rfl⟩
def HS.cells{w r:World}{a b:Tr}{i o:Value}(h:HS w a b i o r):r.cell? ⟨w.heap.size,0,none⟩=some i∧r.cell? ⟨w.heap.size+1,0,none⟩=some o∧r.cell? ⟨w.heap.size+1+1,0,none⟩=some (.bool false)∧r.frozen? ⟨w.heap.size+1+1,0,none⟩=false:=by
 simp[World.cell?,World.frozen?,h.y0,h.y1,h.y2]
def aOP(w:World)(i o:Value)(a b:Tr)(z:Ey w.heap.size w a i)(d:Ey w.heap.size w b o)(q:a.cnt≠b.cnt):
  Calls Qk 47 #[.agg #[i],.agg #[o]] w λe s=>e= .returned (.bool false)∧Below w.heap.size w s:=by
 refine(callsIn_wide (n:=3)).1 ?_;refine callsIn_of_wp_marks func47 rfl trivial ?_ rfl;simp only[ntmps47,QY,Qb,Qd,Qr,QO,QS,QT,QZ,QU,QA,Qx]
 gi_wp2
 obtain⟨k,y0,y1,y2⟩:=aEn w (Obj.cells #[i] 36) (Obj.cells #[o] 36) (Obj.cells #[.bool false] 4);have y:=aEe w (Obj.cells #[i] 36) (Obj.cells #[o] 36) (Obj.cells #[.bool false] 4);generalize (((w.alloc (Obj.cells #[i] 36)).alloc (Obj.cells #[o] 36)).alloc (Obj.cells #[.bool false] 4))=r at k y0 y1 y2 y ⊢;have H0:HS w a b i o r:=⟨y,O,y0,y1,y2,z.below y,d.below y⟩;clear k y0 y1 y2 y;obtain⟨k0,m,g,j⟩:=H0.cells;have H:=H0.drew;have p:1<=3-1:=V
 have f:Tryz.prog.follows .mixedOrders=true:=Z
 have c:((a.cnt:Int)!=(b.cnt:Int))=true:=by simp only[bne_iff_ne,ne_eq];omega
 refine wpIn_mono (Q:=λu A W=>match u with| .normal=>A={tmps:=Zt (Value.agg #[i]::Value.agg #[o]::Value.pointer (some ⟨w.heap.size,0,none⟩)::Value.pointer (some ⟨w.heap.size+1,0,none⟩)::Value.pointer (some ⟨w.heap.size+1+1,0,none⟩)::undef::undef::undef::undef::Value.agg #[i]::Value.int .i64 (a.cnt:Nat)::Value.agg #[o]::Value.int .i64 (b.cnt:Nat)::Value.bool true::Value.bool true::undef::undef::undef::undef::undef::Value.bool true::undef::undef::undef::undef::undef::undef::undef::undef::undef::undef::undef::undef::undef::undef::undef::undef::undef::[]),defers:=[]}∧HS w a b i o W|_=>False) ?_ ?_
 ·gi_region_with_o (refine⟨trivial,?_⟩;try (gi_at_call 102;(first|refine(callsIn_wide.2 (rH (v:=i) (t:=a) H.ta H.le)).mono ?_ |refine(callsIn_wide.2 (rH (v:=o) (t:=b) H.tb H.le)).mono ?_);rintro e wy ⟨rfl,x⟩;replace H:=H.later x;obtain⟨j0,j1,j2,j3⟩:=H.cells))
  all_goals exact⟨rfl,H⟩
 ·rintro u A W hQ;cases u with
  |normal=>
   obtain⟨rfl,HW⟩:=hQ;have H2:=HW.cells;clear k0 m g j c;obtain⟨k0,m,g,j⟩:=H2
   gi_wp2
   exact⟨.bool false,by simp[results,results47,go_sem,heap_setCell_same _ _ 0 _ _ (Value.bool false) HW.y2,World.cell?],rfl,HW.bl.setCell Xb _⟩
  |_=>exact hQ.elim
def aOO(w:World)(va vb:Value)(t:Tr)(hA:Ey w.heap.size w t va)(hB:Ey w.heap.size w t vb)(ho:Tr.Ord t.lst)(s:t.cnt<=400000):
  Calls Qk 47 #[.agg #[va],.agg #[vb]] w λe w'=>e= .returned (.bool true)∧Below w.heap.size w w':=by
 refine(callsIn_wide (n:=3)).1 ?_;refine callsIn_of_wp_marks func47 rfl trivial ?_ rfl;simp only[ntmps47,QY,Qb,Qd,Qr,QO,QS,QT,QZ,QU,QA,Qx]
 gi_wp2
 obtain⟨zz,y0,y1,y2⟩:=aEn w (Obj.cells #[va] 36) (Obj.cells #[vb] 36) (Obj.cells #[.bool false] 4);have y:=aEe w (Obj.cells #[va] 36) (Obj.cells #[vb] 36) (Obj.cells #[.bool false] 4);generalize (((w.alloc (Obj.cells #[va] 36)).alloc (Obj.cells #[vb] 36)).alloc (Obj.cells #[.bool false] 4))=w3 at zz y0 y1 y2 y ⊢;have H0:HS w t t va vb w3:=⟨y,O,y0,y1,y2,hA.below y,hB.below y⟩;clear zz y0 y1 y2 y;obtain⟨k0,k1,k2,k3⟩:=H0.cells;have H:=H0.drew;have z:1<=3-1:=V
 have f:Tryz.prog.follows .mixedOrders=true:=Z
 refine wpIn_mono (Q:=λex A W=>match ex with| .normal=>A={tmps:=Zt (Value.agg #[va]::Value.agg #[vb]::Value.pointer (some ⟨w.heap.size,0,none⟩)::Value.pointer (some ⟨w.heap.size+1,0,none⟩)::Value.pointer (some ⟨w.heap.size+1+1,0,none⟩)::undef::undef::undef::undef::Value.agg #[va]::Value.int .i64 (t.cnt:Nat)::Value.agg #[vb]::Value.int .i64 (t.cnt:Nat)::Value.bool false::Value.bool false::Value.agg #[va]::Value.int .i64 (t.wgt:Nat)::Value.agg #[vb]::Value.int .i64 (t.wgt:Nat)::Value.bool false::Value.bool false::undef::undef::undef::undef::undef::undef::undef::undef::undef::undef::undef::undef::undef::undef::undef::undef::undef::[]),defers:=[]}∧HS w t t va vb W|_=>False) ?_ ?_
 ·gi_region_with_o (refine⟨trivial,?_⟩;(first
   |(gi_at_call 102;(first|refine(callsIn_wide.2 (rH (v:=va) (t:=t) H.ta H.le)).mono ?_ |refine(callsIn_wide.2 (rH (v:=vb) (t:=t) H.tb H.le)).mono ?_);rintro e wy ⟨rfl,ja⟩;replace H:=H.later ja;obtain⟨j0,j1,j2,j3⟩:=H.cells)
   |(gi_at_call 103;(first|refine(callsIn_wide.2 (aN5 (v:=va) (t:=t) H.ta H.le)).mono ?_ |refine(callsIn_wide.2 (aN5 (v:=vb) (t:=t) H.tb H.le)).mono ?_);rintro e wy ⟨rfl,ja⟩;replace H:=H.later ja;obtain⟨j0,j1,j2,j3⟩:=H.cells)))
  all_goals exact⟨rfl,H⟩
 ·rintro ex A W hQ;cases ex with
  |normal=>
   obtain⟨rfl,HW⟩:=hQ;have H2:=HW.cells;clear k0 k1 k2 k3 H0 H;obtain⟨k0,k1,k2,k3⟩:=H2
   gi_wp2_with (refine⟨trivial,?_⟩;gi_at_call 21;refine(callsIn_wide.2 (aD9 _ va [])).mono ?_;rintro e w' ⟨rfl,rfl⟩)
   have i:Below W.heap.size W ((W.alloc (Obj.cells #[va] 36)).alloc (Obj.cells #[encStr []] 9)):=((Below.refl _ W).alloc (Qe _) _).alloc U _;have H0:=HW.later i;have m:((W.alloc (Obj.cells #[va] 36)).alloc (Obj.cells #[encStr []] 9)).heap.size=W.heap.size+2:=U
   have b2:Boxed ((W.alloc (Obj.cells #[va] 36)).alloc (Obj.cells #[encStr []] 9)) W.heap.size 36 va:=(Boxed.new W 36 va).alloc (Obj.cells #[encStr []] 9);have b3:Boxed ((W.alloc (Obj.cells #[va] 36)).alloc (Obj.cells #[encStr []] 9)) (W.heap.size+1) 9 (encStr []):=by
    have:=Boxed.new (W.alloc (Obj.cells #[va] 36)) 9 (encStr [])
    rwa [World.size_alloc]at this
   have ua:=HW.sz;generalize ((W.alloc (Obj.cells #[va] 36)).alloc (Obj.cells #[encStr []] 9))=W0 at i H0 m b2 b3 ⊢;clear k0 k1 k2 k3;refine wpIn_rangeFunc_ownF rfl V (gf:=48) (lb:=#[.pointer (some ⟨W.heap.size,0,none⟩),.pointer (some ⟨W.heap.size+1,0,none⟩)]) rfl trivial (enters_of func48 Z rfl)
    (Nv 2 V W.heap.size (W.heap.size+1) w.heap.size t [] va s W0 b2 b3 H0.ta H0.le) iM.trans (aBZ O O O) (Below.refl _ _) (λ_=>rfl)
    (λ(pre:List (R5 t [])) Wx=>HS w t t va vb Wx∧W.heap.size+2<=Wx.heap.size)
    (λ_ _ _=>False)
    (OwnFrom.and (aQF O) (Own.from (PZ _) _))
    (λ_ _ _ _ _ j _ _=>j)
    ⟨H0,O⟩
    (λx=>{tmps:=Zt (Value.agg #[va]::Value.agg #[vb]::Value.pointer (some ⟨w.heap.size,0,none⟩)::Value.pointer (some ⟨w.heap.size+1,0,none⟩)::Value.pointer (some ⟨w.heap.size+1+1,0,none⟩)::encStr x.1.1::encStr x.1.2::undef::undef::Value.agg #[va]::Value.int .i64 (t.cnt:Nat)::Value.agg #[vb]::Value.int .i64 (t.cnt:Nat)::Value.bool false::Value.bool false::Value.agg #[va]::Value.int .i64 (t.wgt:Nat)::Value.agg #[vb]::Value.int .i64 (t.wgt:Nat)::Value.bool false::Value.bool false::Value.agg #[va]::Value.func (Fn.func 48) #[] #[Value.pointer (some ⟨W.heap.size,0,none⟩),Value.pointer (some ⟨W.heap.size+1,0,none⟩)]::encStr x.1.1::encStr x.1.2::undef::undef::undef::undef::undef::undef::undef::undef::undef::undef::undef::undef::undef::[]),defers:=[]}) ?assign ?body ?done ?stop
   case assign=>
    intro l x Wx K hK;clear m
    gi_wp2
    exact hK
   case body=>
    rintro l pre ⟨x,q⟩ Wx ⟨HX,d⟩ u;clear m;obtain⟨k0,k1,k2,k3⟩:=HX.cells;rw[La]at q;have hg:t.get x.1=some x.2:=by rw[Tr.get_lst _ t ho];exact Tr.getL_mem ho q
    have b:=aN7 HX.tb HX.le x.1;rw[hg]at b
    gi_wp2_with (refine⟨trivial,?_⟩;gi_at_call 27;refine(CallsIn.inRound l (callsIn_wide.2 b)).mono ?_;rintro e wy ⟨rfl,ja⟩)
    exact⟨KeepsOthers.of_grownBy (Cc ja (Qe _) none ja.size) (λ_ _ e=>Xt),⟨ja.mono HX.le,ja.block _ O,ja.block _ O⟩,HX.later ja,by have:=ja.size;omega⟩
   case done=>
    rintro D ys Wx hD eb ⟨HX,d⟩ hK;have Hz:Aside (W0.heap.size=W.heap.size+2):=m;clear m;obtain⟨k0,k1,k2,k3⟩:=HX.cells
    gi_wp2
    have m:=Hz.out;have r:D≠w.heap.size+1+1:=O
    have k:=heap_setCell_same _ _ 0 _ _ (Value.bool true) HX.y2;have g:(Wx.setCell ⟨w.heap.size+1+1,0,none⟩ (Value.bool true)).heap[D]?=some (.deferred (some [])):=by rw[Below.heap_setCell _ _ _ _ r];exact hK
    refine⟨U,.inl ⟨_,_,rfl,run_takeDeferred g,?_⟩⟩;have a:=(World.putObj_heap_other (o:= .deferred none) (w:=Wx.setCell ⟨w.heap.size+1+1,0,none⟩ (Value.bool true)) r.symm).trans k;exact⟨.bool true,by simp[results,results47,go_sem,a,World.cell?],rfl,(HX.bl.setCell (p:=⟨w.heap.size+1+1,0,none⟩) Xb _).trans (belowK_b (w:=w) (Qe _) _ D _ _ O g rfl rfl)⟩
   case stop=>
    rintro D c pre W _ _ h _;exact h.elim
  |_=>exact hQ.elim
def NL(p:Tr×Tr):List D:=[.agg [Hh p.1],.agg [Hh p.2]]
def Rb(x y)(h:NL x=NL y):x=y:=by
 obtain⟨a,b⟩:=x;obtain⟨c,d⟩:=y;simp only[NL,Q8,D.agg.injEq,and_true]at h;rw[Fs h.1,Fs h.2]
def sS:List D->Option D:=FX NL (λp=>(p.1=p.2∧Tr.Ord p.1.lst∧p.1.cnt<=400000)∨p.1.cnt≠p.2.cnt) λp=> .bool (decide (p.1.cnt=p.2.cnt))
def aJ5{t:Tr}(y:Tr.Ord t.lst)(w:t.cnt<=400000):sS [.agg [Hh t],.agg [Hh t]]=some (.bool true):=by
 have:=B5 (mk:=NL) (ok:=λp=>(p.1=p.2∧Tr.Ord p.1.lst∧p.1.cnt<=400000)∨p.1.cnt≠p.2.cnt) (res:=λp=> .bool (decide (p.1.cnt=p.2.cnt))) (a:=(t,t)) Rb (.inl ⟨rfl,y,w⟩);rw[decide_eq_true rfl]at this;exact this
def aJ6{a b:Tr}(h:a.cnt≠b.cnt):sS [.agg [Hh a],.agg [Hh b]]=some (.bool false):=by
 have:=B5 (mk:=NL) (ok:=λp=>(p.1=p.2∧Tr.Ord p.1.lst∧p.1.cnt<=400000)∨p.1.cnt≠p.2.cnt) (res:=λp=> .bool (decide (p.1.cnt=p.2.cnt))) (a:=(a,b)) Rb (.inr h);rw[decide_eq_false h]at this;exact this
def aPy:Kq sS 47:=by
 refine Gg ⟨_,func47,Z,Z⟩ λds r z vs w G hl y v=>⟨?_,?_⟩
 ·obtain⟨p,_,_,rfl⟩:=Ds z;rfl
 ·obtain⟨⟨a,b⟩,k,rfl,rfl⟩:=Ds z
  match vs,hl with
  |[v0,v1],_=>
   obtain⟨i,rfl,c⟩:=Uy (y 0 _ v0 rfl rfl);obtain⟨o,rfl,d⟩:=Uy (y 1 _ v1 rfl rfl);rcases k with ⟨e,g,s⟩|hne
   ·simp only at e g s;subst e;refine(aOO w i o a ⟨G,c,v⟩ ⟨G,d,v⟩ g s).mono ?_;rintro e t ⟨rfl,m⟩;exact⟨_,G,rfl,m,λb h=>v b (Qh m.size h),λ_ _=>rfl,by simp only[decide_true];exact .bool _⟩
   ·refine(aOP w i o a b ⟨G,c,v⟩ ⟨G,d,v⟩ hne).mono ?_;rintro e t ⟨rfl,m⟩;exact⟨_,G,rfl,m,λb h=>v b (Qh m.size h),λ_ _=>rfl,by simp only[decide_eq_false hne];exact .bool _⟩
def aXb:=Ao []
def aE7:=RF aXb aDj [.t 2,.t 3] 26
def aP1:Kq aE7 160:=Am (Ai func160) Ad
def aE6(p:Bs)(c:p.length<=1000000):aE7 [.str p]=some (.tup [.str ((Tr.beyB p).getD []),.bool (Tr.beyB p).isSome]):=by
 refine Al (Qa rfl) ?_;unfold aDj;have d:IntKind.i64.wrap ((p.length:Int)-1)=(p.length:Int)-1:=Hu O O;simp only[G7,↓C2,GY,simprocAttr,d];refine cW c p.length _ _ (Qe _) rfl rfl (λe x a f i=>?_) (λa x=>?_)
 ·rw[Q0]at a;rw[a];simp only[G7,↓C2,GY,simprocAttr,f,i]
  all_goals exact Y0
 ·rw[Q0]at a;rw[a];simp only[G7,↓C2,GY,simprocAttr]
  all_goals exact Y0
def Uf:=Ao [(157,Ac sK),(160,Ac aE7),(159,Ac sI)]
def aFh:=RF Uf aDr [.cell (some 1) 4] 37
def aP7:Kq aFh 90:=Am (Ai func90) (Aa aB7 (Aa aP1 (Aa aB5 Ad)))
def aFg(t:Tr)(p:Bs)(h:Wr t)(c:p.length<=1000000):aFh [.agg [Hh t],.str p]=some (.agg [Hh (Tr.dropT p t)]):=by
 refine Al (Qa rfl) ?_;unfold aDr;have i:=Sh t p h;have m:=aE6 p c;have k:=Tr.cnt_split p t;have o:=Tr.wgt_split p t;obtain⟨u,f⟩:=h;unfold Tr.dropT;cases hb:Tr.beyB p with
 |none=>
  rw[hb]at m;simp only[Zq,Zi]at m;simp only[G7,↓C2,GY,simprocAttr,Hk,Ae Uf 157,i,Ae Uf 160,m]
  all_goals exact Y0
 |some e=>
  rw[hb]at m;simp only[QV,Qy]at m;have w:=Sh (Tr.split p t).2 e ⟨O,O⟩;have n:=Tr.cnt_split e (Tr.split p t).2;have r:=Tr.wgt_split e (Tr.split p t).2;have j:=gP (Tr.split p t).1 (Tr.split e (Tr.split p t).2).2 O O;simp only[G7,↓C2,GY,simprocAttr,Hk,Ae Uf 157,i,Ae Uf 160,m,w,Ae Uf 159,j]
  all_goals exact Y0
def Ug:=Ao [(27,Ac aFH),(157,Ac sK),(158,Ac sJ),(159,Ac sI)]
def aFj:=RF Ug aDs [.cell (some 1) 4] 38
def aP8:Kq aFj 89:=Am (Ai func89) (Aa aCc (Aa aB7 (Aa aB6 (Aa aB5 Ad))))
def aFi(t:Tr)(q:Bs)(h:Wr t)(g:Tr.Ord t.lst):aFj [.agg [Hh t],.str q]=some (.agg [Hh (Tr.delT q t)]):=by
 refine Al (Qa rfl) ?_;unfold aDs;have s:=gY t q;have z:=Sh t q h;have k:=Tr.cnt_split q t;have o:=Tr.wgt_split q t;obtain⟨u,f⟩:=h;unfold Tr.delT;cases hg:t.get q with
 |none=>
  rw[hg]at s;simp only[Zq,Zi]at s;simp only[G7,↓C2,GY,simprocAttr,Hk,Ae Ug 27,s]
  all_goals exact Y0
 |some v=>
  rw[hg]at s;simp only[QV,Qy]at s;have p:(Tr.split q t).2≠ .nil:=λe=>by
   have i:=(Tr.lst_split q t g).2;rw[e,Tr.get_lst q t g]at *;rw[Tr.fil_ge g (Tr.getL_some hg)]at i;cases i
  simp only;cases hz:(Tr.split q t).2 with
  |nil=>exact absurd hz p
  |node a x y b=>
   rw[hz]at z k o;simp only[Tr.cnt,Tr.wgt]at k o;have w:=gR a x y b ⟨Xg,Xf⟩;have n:=Tr.cnt_first a x y b;have r:=Tr.wgt_first a x y b;have j:=gP (Tr.split q t).1 (Tr.first a x y b).2.2 O O;simp only[G7,↓C2,GY,simprocAttr,Hk,Ae Ug 27,s,Ae Ug 157,z,Ae Ug 158,w,Ae Ug 159,j]
   all_goals exact Y0
def aAv{a b:List (Bs×Bs)}(h:a.Sublist b):Tr.sizeL a<=Tr.sizeL b:=by
 induction h with
 |slnil=>exact Qe _
 |cons x _ ih=>obtain⟨k,v⟩:=x;rw[Tr.size_cons];omega
 |cons_cons x _ ih=>obtain⟨k,v⟩:=x;rw[Tr.size_cons,Tr.size_cons];omega
def cC(x:Op1){t:Tr}(h:Tr.Ord t.lst):(ON x t).cnt<=1+t.cnt∧(ON x t).wgt<=4+x.2.1.length+x.2.2.length+t.wgt:=by
 have j:∀u:Tr,u.lst.Sublist t.lst->u.cnt<=t.cnt∧u.wgt<=t.wgt:=λu z=>by
  rw[←Tr.cnt_lst,←Tr.cnt_lst,Tr.wgt_lst,Tr.wgt_lst t];exact⟨z.length_le,aAv z⟩
 unfold ON;split
 ·have:=Nf x.2.1 x.2.2 t;omega
 split
 ·have:=j (Tr.delT x.2.1 t) (by rw[Tr.lst_del _ t h];exact Q5);omega
 split
 ·have:=j (Tr.dropT x.2.1 t) (by rw[Tr.lst_drop _ t h];exact Tr.drop_sub _ h);omega
 ·omega
def gK:=Ao [(83,Ac sM),(89,Ac aFj),(90,Ac aFh)]
def aFA:=RF gK aDF [.cell (some 1) 4] 37
def aQm:Kq aFA 39:=Am (Ai func39) (Aa aB9 (Aa aP8 (Aa aP7 Ad)))
def dC{l:List Op1}{nl:Bool}{Q:Ex->St->Prop}(hk:∀x∈l,x.2.1.length<=100∧x.2.2.length<=400){R:Tr}(hQ:∀p,p.m [0] 0=some (Hh R)->p.m [1] 0=some .nilptr->p.s 2= .ptr [0] 0->p.s 4= .ptr [1] 0->Q (.exit 0) p):
  ∀(f j:Nat)(t:Tr)(y:St) g,l.length=j+f->l.length<=100000->Tr.Ord t.lst->t.cnt+f<=700000->t.wgt+600*f<=700000000000->CD (l.drop j) t=R->2<=y.c->y.s 2= .ptr [0] 0->y.s 4= .ptr [1] 0->y.s 7= .slice nl [] (Ek l)->y.s 8= .int .i64 (l.length:Int)->y.s 9= .int .i64 (j:Int)->
   y.m [0] 0=some (Hh t)->y.m [1] 0=some .nilptr->Ba gK [] M7 Q y g
 |0,j,t,y,g,hf,hl,ho,hc,hw,hR,h2c,h2,h4,h7,h8,h9,m0,m1=>by
  refine Af M7.eq_1 ?_;have d1:((j:Int)<l.length)=False:=eq_false O;rw[Zd O]at hR;simp only[CD]at hR;subst hR;simp only[G7,↓C2,GY,simprocAttr,h8,h9,d1];exact hQ _ m0 m1 h2 h4
 |f+1,j,t,y,g,hf,hl,ho,hc,hw,hR,h2c,h2,h4,h7,h8,h9,m0,m1=>by
  have ih:=dC (nl:=nl) hk hQ f (j+1);have r:j<l.length:=O
  have n:(Ek l)[j]?=some (opD l[j]):=by unfold Ek;rw[QE,Qi r];rfl
  have ra:=hk l[j] (QD r);rw[QJ r]at hR;simp only[CD]at hR;have z:=cC l[j] ho;have a:=(DP l[j] ho).1;generalize l[j]=x at *;refine Af M7.eq_1 ?_;obtain⟨ka,fa,da⟩:=y;simp only at h2 h4 h7 h8 h9 m0 m1 h2c;have d1:((j:Int)<l.length)=True:=eq_true O;have oa:=nJ (j:=j);have na:IntKind.i64.wrap ((j:Int)+1)=((j+1:Nat):Int):=Hu O O;have z3:∀{m:G6} {i:Id} {x0 x1 x2:D},Ag (m.put i 0 [x0,x1,x2]) i 0 3=some [x0,x1,x2]:=Ay rfl;obtain⟨k,q,v⟩:=x;unfold opD at n;simp only at ra z a hR n;unfold ON at z a hR;simp only at z a hR;have u:∀{m:G6} {q o i:Nat} {x:List D},q<2->2<=i->m.put [i] 0 x [q] o=m [q] o:=λhq hi=>aA Xb
  have d:∀{i:Nat},2<=i->(([0]:Id)=[i])=False:=λhi=>Xb
  have b:∀{i:Nat},2<=i->(([1]:Id)=[i])=False:=λhi=>Xb
  have s1:∀{m:G6} {x:D},Ag (m.put [0] 0 [x]) [0] 0 1=some [x]:=Ay rfl;have s2:∀{m:G6} {x:D},Ag (m.put [0] 0 [x]) [1] 0 1=Ag m [1] 0 1:=AH V;have e:∀{m:G6} {x:List D},m.put [0] 0 x [1] 0=m [1] 0:=aA V;have ea:Wr t:=⟨O,O⟩;by_cases c1:k=1
  ·subst c1;simp only[reduceIte]at z a hR;have i1:=Nr t q v O O;simp (disch:=first|assumption|omega)only[G7,↓C2,GY,simprocAttr,Hk,h2,h4,h7,h8,h9,d1,oa,Ql,n,z3,u,m0,m1,Ae gK 83,i1,na,d,b];refine ih _ _ _ O hl a O O hR Xa h2 h4 h7 h8 rfl rfl ?_;simp (disch:=omega)only[e,u,m1]
  rw[if_neg c1]at z a hR;have n1:(k=1)=False:=eq_false c1;by_cases w:k=2
  ·subst w;simp only[reduceIte]at z a hR;have i1:=aFi t q ea ho;simp (disch:=first|assumption|omega)only[G7,↓C2,GY,simprocAttr,Hk,h2,h4,h7,h8,h9,d1,oa,Ql,n,z3,u,m0,m1,Ae gK 89,i1,na,d,b];refine ih _ _ _ O hl a O O hR Xa h2 h4 h7 h8 rfl rfl ?_;simp (disch:=omega)only[e,u,m1]
  rw[if_neg w]at z a hR;have n2:(k=2)=False:=eq_false w;by_cases c3:k=3
  ·subst c3;simp only[reduceIte]at z a hR;have i1:=aFg t q ea O;simp (disch:=first|assumption|omega)only[G7,↓C2,GY,simprocAttr,Hk,h2,h4,h7,h8,h9,d1,oa,Ql,n,z3,u,m0,m1,Ae gK 90,i1,na,d,b];refine ih _ _ _ O hl a O O hR Xa h2 h4 h7 h8 rfl rfl ?_;simp (disch:=omega)only[e,u,m1]
  rw[if_neg c3]at z a hR;have n3:(k=3)=False:=eq_false c3;simp (disch:=first|assumption|omega)only[G7,↓C2,GY,simprocAttr,Hk,h2,h4,h7,h8,h9,d1,oa,Ql,n,z3,u,m0,m1,n1,n2,n3,na,d,b];refine ih _ _ _ O hl a O O hR Xa h2 h4 h7 h8 rfl ?_ ?_
  ·simp (disch:=omega)only[u,m0]
  ·simp (disch:=omega)only[u,m1]
def aFz(t:Tr)(nl:Bool)(l:List Op1)(hl:l.length<=100000)(o:∀x∈l,x.2.1.length<=100∧x.2.2.length<=400)(y:Tr.Ord t.lst)(w:t.cnt+l.length<=700000)(f:t.wgt+600*l.length<=700000000000):aFA [.agg [Hh t],.slice nl [] (Ek l)]=some (.agg [Hh (CD l t)]):=by
 refine Al (Qa rfl) ?_;unfold aDF;have r:(Ek l).length=l.length:=Qo ..;simp only[G7,↓C2,GY,simprocAttr,Hk,r];refine dC (nl:=nl) o (R:=CD l t) (λp a1 s j i=>?_) l.length 0 t _ _ O hl y w f rfl (by show 2<=5;decide) rfl rfl rfl rfl rfl rfl rfl;simp only[G7,↓C2,GY,simprocAttr,Hk,a1,s,j,i]
 all_goals exact Y0
def MX:=y3 f96 5 [] []
def aDq:=y2 f96 [] [(5,MX)]
def RK:=y3 f98 3 [] []
def aDp:=y2 f98 [] [(3,RK)]
def MV:=y3 f167 6 [] []
def MU:=y3 f167 4 [] [(6,MV)]
def aDi:=y2 f167 [] [(4,MU)]
def M6:=y3 f43 2 [] []
def aDE:=y2 f43 [] [(2,M6)]
def RJ:=y3 f100 5 [] []
def aDo:=y2 f100 [] [(5,RJ)]
def aDD:=y2 f45 [(17,[(7,0)]),(20,[(7,0)]),(27,[(6,0)]),(38,[(8,0)]),(39,[(3,0)])] []
def Na:=y3 f15 11 [] []
def aDN:=y2 f15 [] [(11,Na)]
def CE(c:UInt8):Int:=if 48<=c.toNat∧c.toNat<=57 then(c.toNat:Int)-48 else if 97<=c.toNat∧c.toNat<=102 then(c.toNat:Int)-87 else-1
def gM(c:UInt8):aI5 [.int .u8 (c.toNat:Int)]=some (.int .i64 (CE c)):=by
 refine Al (Qa rfl) ?_;have w:=c.toNat_lt;unfold aC3 CE;by_cases u:48<=c.toNat∧c.toNat<=57
 ·have a1:((48:Int)<=(c.toNat:Int))=True:=eq_true O;have s:((c.toNat:Int)<=57)=True:=eq_true O;have n:IntKind.u8.wrap ((c.toNat:Int)-48)=(c.toNat:Int)-48:=w8 O O;have v:IntKind.i64.wrap ((c.toNat:Int)-48)=(c.toNat:Int)-48:=Hu O O;rw[if_pos u];simp only[G7,↓C2,GY,simprocAttr,a1,s,n,v]
  all_goals exact Y0
 rw[if_neg u];by_cases f:97<=c.toNat∧c.toNat<=102
 ·have a1:((48:Int)<=(c.toNat:Int))=True:=eq_true O;have s:((c.toNat:Int)<=57)=False:=eq_false O;have j:((97:Int)<=(c.toNat:Int))=True:=eq_true O;have i:((c.toNat:Int)<=102)=True:=eq_true O;have n:IntKind.u8.wrap ((c.toNat:Int)-97)=(c.toNat:Int)-97:=w8 O O;have v:IntKind.i64.wrap ((c.toNat:Int)-97)=(c.toNat:Int)-97:=Hu O O;have d:IntKind.i64.wrap ((c.toNat:Int)-97+10)=(c.toNat:Int)-87:=by rw[Hu O O];omega
  rw[if_pos f];simp only[G7,↓C2,GY,simprocAttr,a1,s,j,i,n,v,d]
  all_goals exact Y0
 rw[if_neg f];by_cases p:48<=c.toNat
 ·have a1:((48:Int)<=(c.toNat:Int))=True:=eq_true O;have s:((c.toNat:Int)<=57)=False:=eq_false O;by_cases m:97<=c.toNat
  ·have j:((97:Int)<=(c.toNat:Int))=True:=eq_true O;have i:((c.toNat:Int)<=102)=False:=eq_false O;simp only[G7,↓C2,GY,simprocAttr,a1,s,j,i]
   all_goals exact Y0
  ·have j:((97:Int)<=(c.toNat:Int))=False:=eq_false O;simp only[G7,↓C2,GY,simprocAttr,a1,s,j]
   all_goals exact Y0
 ·have a1:((48:Int)<=(c.toNat:Int))=False:=eq_false O;have j:((97:Int)<=(c.toNat:Int))=False:=eq_false O;simp only[G7,↓C2,GY,simprocAttr,a1,j]
  all_goals exact Y0
def aCX(c:UInt8):-1<=CE c∧CE c<=15:=by
 unfold CE
 repeat' split
 all_goals omega
def CX:Bs->Option Bs
 |[]=>some []
 |[_]=>none
 |a::b::r=>if CE a<0∨CE b<0 then none else(CX r).map λx=>UInt8.ofNat (16*CE a+CE b).toNat::x
def Mh(a b:UInt8)(r:Bs):CX (a::b::r)=if CE a<0∨CE b<0 then none else(CX r).map λx=>UInt8.ofNat (16*CE a+CE b).toNat::x:=by rw[CX]
def nV:∀(n:Nat)(s:Bs),s.length=2*n+1->CX s=none
 |0,s,h=>by
  match s,h with
  |[_],_=>rfl
 |n+1,s,h=>by
  match s,h with
  |a::b::r,h=>
   have:=nV n r XL;unfold CX;rw[this];split<;>rfl
def aET(s:Bs)(hl:s.length<=1000000):aEU [.str s]=some (.tup [.str ((CX s).getD []),.bool (CX s).isSome]):=by
 refine Al (Qa rfl) ?_;unfold aC5;rcases(by omega:s.length=2*(s.length / 2)∨s.length=2*(s.length / 2)+1)with he|he
 ·have hm:((s.length:Int).tmod 2)=0:=by rw[Zj O];omega
  have hq:IntKind.i64.wrap ((s.length:Int).tdiv 2)=((s.length / 2:Nat):Int):=by rw[Int.tdiv_eq_ediv_of_nonneg O,Hu O O];omega
  generalize hn:s.length / 2=n at *;simp only[↓C2,G_,GY,reduceIte,Qq,Qr,reduceCtorEq,Zf,Q_,hm,hq];refine As.intro ⟨O,O⟩ ?_;simp only[↓C2,G8,GY,reduceIte,Qq,Qr];refine Bv (n:=n) (I:=λj y=>y.s 0= .str s∧y.s 5= .int .i64 ((2*j:Nat):Int)∧∃t v,y.s 4= .slice false t (Az v)∧v.length=j∧CX s=(CX (s.drop (2*j))).map (v++·)∧LG 9 _ 5 y.m y.c false t) (λj r ih y g hI=>?_) (λy g hI=>?_) 0 (Qt _) _ _ ⟨rfl,rfl,_,[],rfl,rfl,by cases h:CX s<;>simp[h],⟨λ_ _ _=>rfl,.inr ⟨_,rfl,O,Xa,XK⟩,Xa⟩⟩
  ·obtain⟨ka,fa,da⟩:=y;obtain⟨z,h5,t,v,h4,va,x,hG⟩:=hI;simp only at z h5 h4 hG;refine Af MT.eq_1 ?_;have k:(((2*j:Nat):Int)<(s.length:Int)):=by omega
   have oa:(0:Int)<=((2*j:Nat):Int):=O
   have ta:(0:Int)<=((2*j+1:Nat):Int):=O
   have na:IntKind.i64.wrap (((2*j:Nat):Int)+1)=((2*j+1:Nat):Int):=Hu O O;have o:IntKind.i64.wrap (((2*j:Nat):Int)+2)=((2*(j+1):Nat):Int):=X_
   have b1:s[2*j]?=some (s[2*j]' O):=Qi _;have b2:s[2*j+1]?=some (s[2*j+1]' O):=Qi _;have p:s.drop (2*j)=s[2*j]' O::s[2*j+1]' O::s.drop (2*(j+1)):=by
    rw[QJ O,QJ O];rfl
   rw[p]at x;generalize (s[2*j]' O)=a at *;generalize (s[2*j+1]' O)=b at *;have u:=gM a;have w:=gM b;have k1:=aCX a;have k2:=aCX b;have ga:∀a:Int,AP .shl (.int .i64 a) (.int .u64 4)=some (.int .i64 (IntKind.i64.wrap (a*2 ^ min (4:Int).toNat IntKind.i64.bits))):=λa=>rfl
   rw[Mh]at x;simp only[↓C2,G_,reduceIte,Qq,Qr,reduceCtorEq,z,h5,k,oa,ta,na,Ql,b1,b2,Ae aRm 165,u,w];refine AV ?_;by_cases n1:CE a<0
   ·rw[if_pos (.inl n1)]at x;rw[x];have f:(CE a<0)=True:=eq_true n1;simp only[↓C2,G_,GY,reduceIte,Qq,Qr,reduceCtorEq,h4,f]
    all_goals exact Y0
   by_cases n2:CE b<0
   ·rw[if_pos (.inr n2)]at x;rw[x];have f:(CE a<0)=False:=eq_false n1;have d:(CE b<0)=True:=eq_true n2;simp only[↓C2,G_,GY,reduceIte,Qq,Qr,reduceCtorEq,h4,f,d]
    all_goals exact Y0
   rw[if_neg (λh=>h.elim n1 n2)]at x;have f:(CE a<0)=False:=eq_false n1;have d:(CE b<0)=False:=eq_false n2;have or:=orE (CE a).toNat O (CE b).toNat O;rw[QL O,QL O]at or;have e:((16*(CE a).toNat+(CE b).toNat:Nat):Int)=16*CE a+CE b:=O
   rw[e]at or;have q:((UInt8.ofNat (16*CE a+CE b).toNat).toNat:Int)=16*CE a+CE b:=by
    rw[UInt8.toNat_ofNat'];omega
   have ia:Az v++[.int .u8 (16*CE a+CE b)]=Az (v++[UInt8.ofNat (16*CE a+CE b).toNat]):=by
    rw[Ed];show _=Az v++[.int .u8 ((UInt8.ofNat (16*CE a+CE b).toNat).toNat:Int)];rw[q]
   have i:(Az v).length=j:=by rw[B_,va]
   simp only[↓C2,G_,GY,reduceIte,Qq,Qr,reduceCtorEq,h4,f,d,ga,or];refine As.intro ⟨by simp only[i];omega,rfl,YW⟩ ?_;rw[ia];simp only[↓C2,G_,GY,reduceIte,Qq,Qr,h5,o];refine ih _ _ ⟨z,rfl,_,_,rfl,by simp[va],?_,(by first|exact LG.nil (hG.appf O Xa)|exact LG.nil ((hG.put O).appf O Xa)|exact LG.nil (((hG.put O).put O).appf O Xa)|exact LG.nil ((((hG.put O).put O).put O).appf O Xa)|exact LG.nil (((((hG.put O).put O).put O).put O).appf O Xa)|exact LG.nil ((((((hG.put O).put O).put O).put O).put O).appf O Xa))⟩;rw[x];cases CX (s.drop (2*(j+1)))<;>simp
  ·obtain⟨z,h5,t,v,h4,va,x,hG⟩:=hI;refine Af MT.eq_1 ?_;have qa:(((2*n:Nat):Int)<(s.length:Int))=False:=eq_false O;rw[Zd O]at x;rw[x];simp only[Q9,↓C2,G_,GY,reduceIte,Qq,Qr,reduceCtorEq,z,h5,h4,qa,Cz]
   all_goals (first|rfl|exact⟨rfl,rfl⟩|(simp[CX];done))
 ·have hm:((s.length:Int).tmod 2)=1:=by rw[Zj O];omega
  rw[nV _ s he];simp only[G7,↓C2,GY,simprocAttr,hm]
  all_goals exact Y0
def Vz(s:Bs)(p:Nat):(Ho s p<128∧Utf8.decode ⟨s.toArray⟩ p=(Ho s p,1))∨(128<=Ho s p∧128<=(Utf8.decode ⟨s.toArray⟩ p).1):=by
 by_cases h:Ho s p<128
 ·refine .inl ⟨h,?_⟩;unfold Utf8.decode;simp only[NQ,ZP,h,if_true]
 ·refine .inr ⟨O,?_⟩;have z:=R0 s p;unfold Utf8.decode;simp only[NQ,ZP,h,if_false]
  (repeat' split)<;>simp_all [Utf8.runeError]<;>omega
def zR(s:Bs):Nat->Nat->Int->Int
 |0,_,n=>n
 |f+1,p,n=>if p<s.length then(if 48<=Ho s p∧Ho s p<=57 then zR s f (p+1) (10*n+((Ho s p:Int)-48))else-1)else n
def HU(s:Bs):Int:=if s=[]∨3<s.length∨(1<s.length∧s.head?=some 48)then-1 else zR s s.length 0 0
def bN(p:Nat):Int:=if p=0 then 0 else if p=1 then 9 else if p=2 then 99 else 999
def aEh(p:Nat):bN p<=999:=by unfold bN;repeat' split<;>omega
def VY{p:Nat}{n c:Int}(h:n<=bN p)(k:p<3)(w:c<=9):10*n+c<=bN (p+1):=by
 rcases(by omega:p=0∨p=1∨p=2)with rfl|rfl|rfl<;>simp[bN]at *<;>omega
def aBr(s:Bs)(j:s.length<=3):∀(f p:Nat)(n:Int),0<=n->n<=bN p->-1<=zR s f p n∧zR s f p n<=999
 |0,p,n,h0,h1=>by have:=aEh p;unfold zR;omega
 |f+1,p,n,h0,h1=>by
  have:=aEh p;unfold zR;split
  ·split
   ·exact aBr s j f (p+1) _ O (VY h1 O O)
   ·omega
  ·omega
def aUm(s:Bs):-1<=HU s∧HU s<=999:=by
 unfold HU;split
 ·omega
 ·exact aBr s O _ 0 0 (Ze _) V
def aSy{x:Int}(u:-2147483648<=x)(f:x<2147483648):IntKind.i32.wrap x=x:=IntWalk.i32_in _ ⟨u,O⟩
def cY{S:GZ}{ns i:Id}{s:Bs}{Q:Ex->St->Prop}{e:Int}(j:s.length<=3)(o:∀y,e=-1->y.s 2= .int .i64 (-1)->Q .ret y)(q:∀y,y.s 3= .int .i64 e->Q (.exit 0) y):
  ∀(f p:Nat)(n:Int) y g,s.length<=p+f->0<=n->n<=bN p->zR s f p n=e->y.s 24= .itp i->y.s 3= .int .i64 n->y.m i 1=some (.it s p)->Ba S ns MX Q y g:=by
 intro f;induction f with
 |zero=>
  intro p n y g d ia ua v t x a;refine Af MX.eq_1 ?_;have:¬(p<s.length):=O
  simp only[↓C2,G8,Hj,simprocAttr,a,t,this];exact q _ (by rw[←v];exact x)
 |succ f ih=>
  intro p n y g d ia ua v t x a;refine Af MX.eq_1 ?_;unfold zR at v;have z:=aEh p;by_cases u:p<s.length
  ·rw[if_pos u]at v;rcases Vz s p with ⟨d1,b⟩|⟨d1,b⟩
   ·have k:y.m.put i 1 [.it s (p+(Utf8.decode ⟨s.toArray⟩ p).2)] i 1=some (.it s (p+1)):=by rw[Eg,if_pos ⟨rfl,rfl⟩,b]
    by_cases c:48<=Ho s p∧Ho s p<=57
    ·rw[if_pos c]at v;have a1:((Ho s p:Int)<48)=False:=eq_false O;have r:((57:Int)<(Ho s p:Int))=False:=eq_false O;have e1:IntKind.i64.wrap (10*n)=10*n:=Hu O O;have w:IntKind.i32.wrap ((Ho s p:Int)-48)=(Ho s p:Int)-48:=aSy O O;have e3:IntKind.i64.wrap ((Ho s p:Int)-48)=(Ho s p:Int)-48:=Hu O O;have e4:IntKind.i64.wrap (10*n+((Ho s p:Int)-48))=10*n+((Ho s p:Int)-48):=Hu O O;simp only[↓C2,G8,Hj,simprocAttr,a,t,x,u,b,a1,r,e1,w,e3,e4];exact ih (p+1) _ _ _ O O (VY ua O O) v t rfl k
    ·rw[if_neg c]at v;by_cases c1:Ho s p<48
     ·have a1:((Ho s p:Int)<48)=True:=eq_true O;simp only[↓C2,G8,Hj,simprocAttr,a,t,x,u,b,a1];exact o _ v.symm rfl
     ·have a1:((Ho s p:Int)<48)=False:=eq_false O;have r:((57:Int)<(Ho s p:Int))=True:=eq_true O;simp only[↓C2,G8,Hj,simprocAttr,a,t,x,u,b,a1,r];exact o _ v.symm rfl
   ·rw[if_neg O]at v;have a1:(((Utf8.decode ⟨s.toArray⟩ p).1:Int)<48)=False:=eq_false O;have r:((57:Int)<((Utf8.decode ⟨s.toArray⟩ p).1:Int))=True:=eq_true O;simp only[↓C2,G8,Hj,simprocAttr,a,t,x,u,a1,r];exact o _ v.symm rfl
  ·rw[if_neg u]at v;simp only[↓C2,G8,Hj,simprocAttr,a,t,u];exact q _ (by rw[←v];exact x)
def aXd:=Ao []
def sL:=RF aXd aDq [.t 2] 41
def aB8:Kq sL 96:=Am (Ai func96) Ad
def gT(s:Bs):sL [.str s]=some (.int .i64 (HU s)):=by
 refine Al (Qa rfl) ?_;unfold aDq;unfold HU;by_cases z:s=[]
 ·subst z;rw[if_pos (.inl rfl)];simp only[G7,↓C2,GY,simprocAttr]
  all_goals exact Y0
 have x:(s=[])=False:=eq_false z;by_cases i:3<s.length
 ·rw[if_pos (.inr (.inl i))];have c1:((3:Int)<(s.length:Int))=True:=eq_true O;simp only[G7,↓C2,GY,simprocAttr,x,c1]
  all_goals exact Y0
 have c1:((3:Int)<(s.length:Int))=False:=eq_false O;have q:s[0]?=s.head?:=by cases s<;>rfl
 by_cases u:1<s.length
 ·have p:((1:Int)<(s.length:Int))=True:=eq_true O;obtain⟨c,r,rfl⟩:∃c r,s=c::r:=by cases s with|nil=>exact absurd rfl z|cons c r=>exact⟨c,r,rfl⟩
  by_cases f:c=48
  ·rw[if_pos (.inr (.inr ⟨u,by rw[f];rfl⟩))];have o:((c.toNat:Int)=48)=True:=eq_true (by rw[f];rfl);simp only[G7,↓C2,GY,simprocAttr,x,c1,p,Qc,o]
   all_goals exact Y0
  ·rw[if_neg (by rintro(h|h|⟨_,h⟩);exact z h;exact i h;exact f (ZR h))];have o:((c.toNat:Int)=48)=False:=eq_false (λe=>f (UInt8.toNat_inj.1 (by show c.toNat=48;omega)));simp only[G7,↓C2,GY,simprocAttr,x,c1,p,Qc,o];refine cY (s:=c::r) O (λy v h=>?_) (λy h=>?_) (c::r).length 0 0 _ _ O (Ze _) V rfl rfl rfl rfl
   ·rw[v];simp only[G7,↓C2,GY,simprocAttr,h]
    all_goals exact Y0
   ·simp only[G7,↓C2,GY,simprocAttr,h]
    all_goals exact Y0
 ·have p:((1:Int)<(s.length:Int))=False:=eq_false O;rw[if_neg (by rintro(h|h|⟨h,_⟩);exact z h;exact i h;exact u h)];simp only[G7,↓C2,GY,simprocAttr,x,c1,p];refine cY (s:=s) O (λy v h=>?_) (λy h=>?_) s.length 0 0 _ _ O (Ze _) V rfl rfl rfl rfl
  ·rw[v];simp only[G7,↓C2,GY,simprocAttr,h]
   all_goals exact Y0
  ·simp only[G7,↓C2,GY,simprocAttr,h]
   all_goals exact Y0
def opS(w:Bs):Nat->Nat->Int
 |0,_=>0
 |f+1,k=>if A4 (k:Int)=w then(k:Int)else opS w f (k+1)
def jT(w:Bs):Int:=opS w 18 1
def aBh(w:Bs):∀(f k:Nat),1<=k->0<=opS w f k∧opS w f k<=max 0 ((k:Int)+f-1)
 |0,k,h=>by unfold opS;omega
 |f+1,k,h=>by
  have:=aBh w f (k+1) O;unfold opS;split<;>omega
def aBg(w:Bs):0<=jT w∧jT w<=18:=by
 have:=aBh w 18 1 (Qe _);unfold jT;omega
def rQ:=Ao [(44,Ac yV)]
def aFy:=RF rQ aDE [.t 2] 14
def aQl:Kq aFy 43:=Am (Ai func43) (Aa pG Ad)
def dB{w:Bs}{Q:Ex->St->Prop}{e:Int}(o:∀y,y.s 2= .int .u8 e->Q .ret y)(p:∀y,e=0->Q (.exit 0) y):∀(f k:Nat)(y:St) g,k+f=19->opS w f k=e->y.s 0= .str w->y.s 3= .int .u8 (k:Int)->Ba rQ [] M6 Q y g
 |0,k,y,g,hf,he,h0,h3=>by
  refine Af M6.eq_1 ?_;have j:((k:Int)<=18)=False:=eq_false O;simp only[G7,↓C2,GY,simprocAttr,h0,h3,j];exact p _ he.symm
 |f+1,k,y,g,hf,he,h0,h3=>by
  have ih:=dB (w:=w) o p f (k+1);refine Af M6.eq_1 ?_;obtain⟨u,b,q⟩:=y;simp only at h0 h3;have j:((k:Int)<=18)=True:=eq_true O;have v:=Pv (op:=(k:Int)) O O;have n:IntKind.u8.wrap ((k:Int)+1)=((k+1:Nat):Int):=Yk
  unfold opS at he;by_cases c:A4 (k:Int)=w
  ·rw[if_pos c]at he;have c':(A4 (k:Int)=w)=True:=eq_true c;simp only[G7,↓C2,GY,simprocAttr,h0,h3,j,Ae rQ 44,v,c'];exact o _ (by rw[←he];rfl)
  ·rw[if_neg c]at he;have c':(A4 (k:Int)=w)=False:=eq_false c;simp only[G7,↓C2,GY,simprocAttr,h0,h3,j,Ae rQ 44,v,c',n];exact ih _ _ O he h0 rfl
def aFx(w:Bs):aFy [.str w]=some (.int .u8 (jT w)):=by
 refine Al (Qa rfl) ?_;unfold aDE;simp only[G7,↓C2,GY,simprocAttr];refine dB (w:=w) (e:=jT w) (λy h=>?_) (λy h=>?_) 18 1 _ _ rfl rfl rfl rfl
 ·simp only[G7,↓C2,GY,simprocAttr,h]
  all_goals exact Y0
 ·rw[h];simp only[G7,↓C2,GY,simprocAttr]
  all_goals exact Y0
def aEP:=Ao [(42,Ac Dg),(96,Ac sL)]
def aFf:=RF aEP aDp [.t 2] 20
def aP6:Kq aFf 98:=Am (Ai func98) (Aa uW (Aa aB8 Ad))
def aFe(s:Bs)(hl:s.length<=1000):aFf [.str s]=some (.slice false [] (AJ ((splitC 44 s).map HU))):=by
 refine Al (Qa rfl) ?_;unfold aDp;have ua:=GD (s:=s) (q:=44) O;have xa:=CO (q:=44) s;have p:=Ci (q:=44) s;generalize splitC 44 s=l at *;have r:((strsD l).length:Int)=(l.length:Int):=by rw[AS]
 simp only[G7,↓C2,GY,simprocAttr,Ae aEP 42,ua,r];refine Bv (n:=l.length) (I:=λj y=>y.s 7= .slice false [] (strsD l)∧y.s 8= .int .i64 ((strsD l).length:Int)∧y.s 9= .int .i64 (j:Int)∧∃nl t,y.s 3= .slice nl t (AJ ((l.take j).map HU))∧nl=decide (j=0)∧LG 0 _ 3 y.m y.c nl t) (λj d ih y g hI=>?_) (λy g hI=>?_) 0 (Qt _) _ _ ⟨rfl,rfl,rfl,true,[],rfl,rfl,LG.start Xa⟩
 ·obtain⟨w,o,da⟩:=y;obtain⟨h7,h8,h9,nl,t,i,qa,k⟩:=hI;simp only at h7 h8 h9 i k;rw[r]at h8;refine Af RK.eq_1 ?_;have u:((j:Int)<l.length):=by omega
  have oa:=nJ (j:=j);have hw:=wJ (j:=j) O;have x:(strsD l)[j]?=some (.str (l[j]' O)):=by unfold strsD;rw[QE,Qi O];rfl
  have f:=gT (l[j]' O);have z:AJ ((l.take (j+1)).map HU)=AJ ((l.take j).map HU)++[.int .i64 (HU (l[j]' O))]:=by
   rw[QG O,QX];simp[AJ]
  have va:(AJ ((l.take j).map HU)).length=j:=by simp[AJ];omega
  have ma:nl=true->AJ ((l.take j).map HU)=[]:=by
   grind
  generalize AJ ((l.take j).map HU)=v at i z va ma;simp only[G7,↓C2,GY,simprocAttr,h7,h8,h9,i,u,oa,Ql,x,Ae aEP 96,f];refine As.intro ⟨O,rfl,(by first|exact k.grow|exact(k.put O).grow|exact((k.put O).put O).grow|exact(((k.put O).put O).put O).grow|exact((((k.put O).put O).put O).put O).grow|exact(((((k.put O).put O).put O).put O).put O).grow)⟩ ?_;rw[B0 ma,←z];simp only[G7,↓C2,GY,simprocAttr,h9,hw];exact ih _ _ ⟨h7,by rw[r];exact h8,rfl,false,_,rfl,U,(by first|exact k.app O Xa|exact(k.put O).app O Xa|exact((k.put O).put O).app O Xa|exact(((k.put O).put O).put O).app O Xa|exact((((k.put O).put O).put O).put O).app O Xa|exact(((((k.put O).put O).put O).put O).put O).app O Xa)⟩
 ·obtain⟨w,o,da⟩:=y;obtain⟨h7,h8,h9,nl,t,i,qa,k⟩:=hI;simp only at h7 h8 h9 i k;rw[r]at h8;refine Af RK.eq_1 ?_;have e:decide (l.length=0)=false:=decide_eq_false (by cases l with|nil=>exact absurd rfl p|cons a b=>simp);rw[Zu (Qe _)]at i;rw[e]at qa;subst qa;simp only[G7,↓C2,GY,simprocAttr,h8,h9,i,Zn]
  all_goals exact Y0
def aAz:List Nat:=[114,119,100,120,108,115]
def Di(c:Nat):Nat->Nat->Nat
 |0,k=>k
 |f+1,k=>if k<6∧aAz.getD k 0≠c then Di c f (k+1)else k
def RU(s:Bs):Nat->Nat->Nat->Nat->Nat×Bool
 |0,_,_,o=>(o,true)
 |f+1,p,k,o=>if p<s.length then(if Di (Ho s p) (6-k) k=6 then(0,false)else RU s f (p+1) (Di (Ho s p) (6-k) k+1) (o|||2 ^ Di (Ho s p) (6-k) k))else(o,true)
def L9(s:Bs):Nat×Bool:=RU s s.length 0 0 0
def O_(c:Nat):∀f k,k<=6->k<=Di c f k∧Di c f k<=6
 |0,k,h=>by unfold Di;omega
 |f+1,k,h=>by
  unfold Di;split
  ·rename_i u;have:=O_ c f (k+1) O;omega
  ·omega
def WV{c d:Nat}(w:128<=c)(p:128<=d):∀f k,Di c f k=Di d f k
 |0,k=>rfl
 |f+1,k=>by
  have s:∀k,aAz.getD k 0<128:=λk=>by
   rcases(by omega:k=0∨k=1∨k=2∨k=3∨k=4∨k=5∨6<=k)with rfl|rfl|rfl|rfl|rfl|rfl|h
   all_goals first|decide|(simp[aAz,Zp,List.getElem?_eq_none (show [114,119,100,120,108,115].length<=k from h)])
  have:=s k;unfold Di;rw[WV w p f (k+1)];by_cases h:k<6
  ·rw[if_pos ⟨h,O⟩,if_pos ⟨h,O⟩]
  ·rw[if_neg (λe=>h e.1),if_neg (λe=>h e.1)]
def aKV:∀o,o<64->∀k,k<6->(o|||2 ^ k)<64:=V
def rG(s:Bs):∀f p k o,k<=6->o<64->(RU s f p k o).1<64
 |0,p,k,o,hk,h=>h
 |f+1,p,k,o,hk,h=>by
  have m:=O_ (Ho s p) (6-k) k hk;unfold RU;split
  ·split
   ·decide
   ·exact rG s f _ _ _ O (aKV o h _ O)
  ·exact h
def aQ4(s:Bs):(L9 s).1<64:=rG s _ 0 0 0 V V
def aTl:∀o,o<64->∀k,k<6->bits .or .u8 ((o:Nat):Int) ((2 ^ k:Nat):Int)=((o|||2 ^ k:Nat):Int):=V
def aVX{o k:Nat}(y:o<64)(n:k<6):AP .or (.int .u8 (o:Int)) (.int .u8 ((2 ^ k:Nat):Int))=some (.int .u8 ((o|||2 ^ k:Nat):Int)):=by
 rw[←aTl o y k n];rfl
def aQM{k:Nat}(o:k<6):AP .shl (.int .u8 1) (.int .i64 (k:Int))=some (.int .u8 ((2 ^ k:Nat):Int)):=by
 rcases(by omega:k=0∨k=1∨k=2∨k=3∨k=4∨k=5)with rfl|rfl|rfl|rfl|rfl|rfl<;>rfl
def TA{S:GZ}{ns:Id}{r:Nat}{Q:Ex->St->Prop}:∀(f k:Nat)(y:St) g,k+f=6->(∀x,x.m=y.m->x.c≥y.c->x.s 5= .int .i64 (Di r f k:Nat)->(∀j,j=4∨j=7∨j=9->x.s j=y.s j)->Q (.exit 2) x)->y.s 5= .int .i64 (k:Int)->y.s 7= .int .i32 (r:Int)->Ba S ns MV Q y g
 |0,k,y,g,hf,hexit,h5,h7=>by
  refine Af MV.eq_1 ?_;have t:((k:Int)<6)=False:=eq_false O;simp only[G7,↓C2,GY,simprocAttr,h5,h7,t];exact hexit _ rfl Xa h5 (by rintro j (rfl|rfl|rfl)<;>rfl)
 |f+1,k,y,g,hf,hexit,h5,h7=>by
  refine Af MV.eq_1 ?_;have ih:=TA (S:=S) (ns:=ns) (r:=r) (Q:=Q) f (k+1);obtain⟨ka,fa,q⟩:=y;simp only at h5 h7 hexit;have t:((k:Int)<6)=True:=eq_true O;have qa:(0:Int)<=(k:Int):=O
  obtain⟨c,o,b⟩:∃c:UInt8,([114,119,100,120,108,115]:List UInt8)[k]?=some c∧c.toNat=aAz.getD k 0:=by
   rcases(by omega:k=0∨k=1∨k=2∨k=3∨k=4∨k=5)with rfl|rfl|rfl|rfl|rfl|rfl<;>exact⟨_,rfl,rfl⟩
  have z:=c.toNat_lt;have n:IntKind.i32.wrap (c.toNat:Int)=(c.toNat:Int):=aSy O O;have v:IntKind.i64.wrap ((k:Int)+1)=((k+1:Nat):Int):=Xh
  unfold Di at hexit;rw[←b]at hexit;by_cases h:c.toNat=r
  ·rw[if_neg (λe=>e.2 h)]at hexit;have a1:((c.toNat:Int)=(r:Int))=True:=eq_true O;simp only[G7,↓C2,GY,simprocAttr,h5,h7,t,qa,o,n,a1,Ql];exact hexit _ rfl Xa h5 (by rintro j (rfl|rfl|rfl)<;>rfl)
  ·rw[if_pos ⟨O,h⟩]at hexit;have a1:((c.toNat:Int)=(r:Int))=False:=eq_false O;simp only[G7,↓C2,GY,simprocAttr,h5,h7,t,qa,o,n,v,a1,Ql];exact ih _ _ O (λx hm w a d=>hexit x hm (by simp only at w;omega) a (λj u=>(d j u).trans (by rcases u with rfl|rfl|rfl<;>rfl))) rfl h7
def aBO{S:GZ}{ns i:Id}{s:Bs}{Q:Ex->St->Prop}{e:Nat×Bool}(pa:∀y,e=(0,false)->y.s 2= .int .u8 0->y.s 3= .bool false->Q .ret y)(ga:∀y,e.2=true->y.s 4= .int .u8 (e.1:Int)->Q (.exit 0) y):
  ∀(f p k o:Nat)(y:St) g,s.length<=p+f->k<=6->o<64->RU s f p k o=e->y.s 9= .itp i->y.s 4= .int .u8 (o:Int)->y.s 5= .int .i64 (k:Int)->y.m i 1=some (.it s p)->Ba S ns MU Q y g:=by
 intro f;induction f with
 |zero=>
  intro p k o y g hf hk ho v h9 h4 h5 j;refine Af MU.eq_1 ?_;have:¬(p<s.length):=O
  simp only[↓C2,G8,Hj,simprocAttr,j,h9,this];unfold RU at v;subst v;exact ga _ rfl h4
 |succ f ih=>
  intro p k o y g hf hk ho v h9 h4 h5 j;refine Af MU.eq_1 ?_;obtain⟨ka,fa,c⟩:=y;simp only at h9 h4 h5 j;unfold RU at v;by_cases ea:p<s.length
  ·rw[if_pos ea]at v;have t:=O_ (Ho s p) (6-k) k hk;simp only[↓C2,G8,Hj,simprocAttr,j,h9,ea];have b:Di (Utf8.decode ⟨s.toArray⟩ p).1 (6-k) k=Di (Ho s p) (6-k) k:=by
    rcases Vz s p with ⟨d1,d2⟩|⟨d1,d2⟩
    ·rw[d2]
    ·exact WV d2 d1 _ _
   refine TA (r:=(Utf8.decode ⟨s.toArray⟩ p).1) (6-k) k _ _ O (λx z la a d=>?_) h5 rfl;rw[b]at a;generalize hq:Di (Ho s p) (6-k) k=q at *;have j4:=(d 4 (.inl rfl)).trans h4;have j9:=(d 9 (.inr (.inr rfl))).trans h9;by_cases h6:q=6
   ·subst h6;rw[if_pos rfl]at v;have a:x.s 5= .int .i64 6:=a;simp only[G7,↓C2,GY,simprocAttr,a];exact pa _ v.symm rfl rfl
   ·rw[if_neg h6]at v;have hp:p<s.length:=ea;have hw:(Utf8.decode ⟨s.toArray⟩ p).2=1:=by
     rcases Vz s p with ⟨d1,d2⟩|⟨d1,d2⟩
     ·rw[d2]
     ·exfalso;have:∀f k,k<=6->k+f=6->Di (Ho s p) f k=6:=by
       intro f;induction f with
       |zero=>intro k _ h;unfold Di;omega
       |succ f ih=>
        intro k u w;unfold Di;have:aAz.getD k 0<128:=by
         rcases(by omega:k=0∨k=1∨k=2∨k=3∨k=4∨k=5)with rfl|rfl|rfl|rfl|rfl|rfl<;>decide
        rw[if_pos ⟨O,O⟩];exact ih (k+1) O O
      exact h6 (hq.symm.trans (this (6-k) k hk O))
    have a1:((q:Int)=6)=False:=eq_false O;have n:=aQM (k:=q) O;have e2:=aVX (o:=o) (k:=q) ho O;have e3:IntKind.i64.wrap ((q:Int)+1)=((q+1:Nat):Int):=Xh
    simp only[G7,↓C2,GY,simprocAttr,a,j4,a1,n,e2,e3];refine ih (p+1) (q+1) (o|||2 ^ q) _ _ O O (aKV o ho q O) v j9 rfl rfl ?_;show x.m i 1=_;rw[z];show fa.put i 1 [.it s (p+(Utf8.decode ⟨s.toArray⟩ p).2)] i 1=_;rw[Eg,if_pos ⟨rfl,rfl⟩,hw]
  ·rw[if_neg ea]at v;simp only[↓C2,G8,Hj,simprocAttr,j,h9,ea];subst v;exact ga _ rfl h4
def aXa:=Ao []
def aE5:=RF aXa aDi [.t 2,.t 3] 33
def aP0:Kq aE5 167:=Am (Ai func167) Ad
def aE4(s:Bs):aE5 [.str s]=some (.tup [.int .u8 ((L9 s).1:Nat),.bool (L9 s).2]):=by
 refine Al (Qa rfl) ?_;unfold aDi;simp only[G7,↓C2,GY,simprocAttr];refine aBO (s:=s) (e:=L9 s) (λy v f i=>?_) (λy v p=>?_) s.length 0 0 0 _ _ O V V rfl rfl rfl rfl rfl
 ·rw[v];simp only[G7,↓C2,GY,simprocAttr,f,i]
  all_goals exact Y0
 ·rw[v];simp only[G7,↓C2,GY,simprocAttr,p]
  all_goals exact Y0
def F4{q:UInt8}:∀(s:Bs),∀x∈splitC q s,x.length<=s.length
 |[],x,h=>by simp only[splitC,Qm]at h;subst h;exact Qe _
 |c::r,x,h=>by
  have ih:=F4 (q:=q) r;unfold splitC at h;split at h
  ·rcases Qs.1 h with rfl|h
   ·exact Qt _
   ·have:=ih x h;simp only[Qb];omega
  ·cases hs:splitC q r with
   |nil=>
    rw[hs]at h;simp only[Qm]at h;subst h;simp
   |cons y t=>
    rw[hs]at h ih;simp only[Qs]at h;rcases h with rfl|h
    ·have:=ih y QB;simp only[Qb];omega
    ·have:=ih x (Qw _ h);simp only[Qb];omega
def qW(x:Bs)(c:UInt8):(BB x c).1.length<=x.length:=by
 unfold BB;split
 ·exact Qe _
 ·exact List.length_take_le' _ _
def IB(x:Bs):Bool:=(BB x 58).2.2&&(L9 (BB x 58).2.1).2
def OJ(x:Bs):Rl:=((BB x 58).1,((L9 (BB x 58).2.1).1:Int))
def EP(s:Bs):Bool×List Rl×Int:=
 if s=[]then(true,[],0)else if(splitC 44 s).all IB=false then(true,[],4)else if Cg ((splitC 44 s).map OJ)≠0 then(true,[],Cg ((splitC 44 s).map OJ))else(false,(splitC 44 s).map OJ,0)
def LK:=Ao [(42,Ac Dg),(166,Ac aJe),(167,Ac aE5),(168,Ac zF)]
def aFd:=RF LK aDo [.t 2,.t 3] 52
def aP5:Kq aFd 100:=Am (Ai func100) (Aa uW (Aa aLf (Aa aP0 (Aa cD Ad))))
def aFc(s:Bs)(hl:s.length<=1000):aFd [.str s]=some (.tup [.slice (EP s).1 [] (Ar (EP s).2.1),.int .i64 (EP s).2.2]):=by
 refine Al (Qa rfl) ?_;unfold aDo;unfold EP;by_cases w:s=[]
 ·subst w;rw[if_pos rfl];simp only[G7,↓C2,GY,simprocAttr]
  all_goals exact Y0
 rw[if_neg w];have ha:(s=[])=False:=eq_false w;have ua:=GD (s:=s) (q:=44) O;have xa:=CO (q:=44) s;have ga:=Ci (q:=44) s;have za:=F4 (q:=44) s;generalize splitC 44 s=l at *;have ba:((strsD l).length:Int)=(l.length:Int):=by rw[AS]
 simp only[G7,↓C2,GY,simprocAttr,ha,Ae LK 42,ua,ba];refine Bv (n:=l.length) (I:=λj y=>y.s 16= .slice false [] (strsD l)∧y.s 17= .int .i64 ((strsD l).length:Int)∧y.s 18= .int .i64 (j:Int)∧(l.take j).all IB=true∧∃nl t,y.s 4= .slice nl t (Ar ((l.take j).map OJ))∧nl=decide (j=0)∧LG 0 _ 174 y.m y.c nl t) (λj hj ih y g hI=>?_) (λy g hI=>?_) 0 (Qt _) _ _ ⟨rfl,rfl,rfl,rfl,true,[],rfl,rfl,LG.start Xa⟩
 ·obtain⟨ka,fa,da⟩:=y;obtain⟨ta,sa,la,ia,nl,t,h4,qa,hG⟩:=hI;simp only at ta sa la h4 hG;rw[ba]at sa;refine Af RJ.eq_1 ?_;have u:((j:Int)<l.length):=by omega
  have oa:=nJ (j:=j);have hw:=wJ (j:=j) O;have ja:(strsD l)[j]?=some (.str (l[j]' O)):=by unfold strsD;rw[QE,Qi O];rfl
  have ra:=za _ (QD (l:=l) (n:=j) O);have na:(l[j]' O)∈l:=QD _;have z:Ar ((l.take (j+1)).map OJ)=Ar ((l.take j).map OJ)++[.agg [.str (OJ (l[j]' O)).1,.int .u8 (OJ (l[j]' O)).2]]:=by
   rw[QG O,QX];simp[Ar,rlD]
  have p:(l.take (j+1)).all IB=IB (l[j]' O):=by
   rw[QG O,List.all_append,ia];simp
  have va:(Ar ((l.take j).map OJ)).length=j:=by simp[Ar];omega
  have ma:nl=true->Ar ((l.take j).map OJ)=[]:=by
   grind
  generalize Ar ((l.take j).map OJ)=v at h4 z va ma;generalize (l[j]' O)=x at *;have d:=rW x 58 O;have h:=aE4 (BB x 58).2.1;by_cases c1:(BB x 58).2.2=true
  ·by_cases c2:(L9 (BB x 58).2.1).2=true
   ·rw[c1]at d;rw[c2]at h;have i:IB x=true:=by unfold IB;rw[c1,c2];rfl
    have k:(OJ x).1=(BB x 58).1:=rfl;have o:(OJ x).2=((L9 (BB x 58).2.1).1:Int):=rfl;rw[k,o]at z;simp only[G7,↓C2,GY,simprocAttr,ta,sa,la,h4,u,oa,Ql,ja,Ae LK 166,d,Ae LK 167,h];refine As.intro ⟨O,rfl,YW⟩ ?_;rw[B0 ma,←z];simp only[G7,↓C2,GY,simprocAttr,la,hw];exact ih _ _ ⟨ta,by rw[ba];exact sa,rfl,by rw[p];exact i,false,_,rfl,U,(by first|exact hG.app O Xa|exact(hG.put O).app O Xa|exact((hG.put O).put O).app O Xa|exact(((hG.put O).put O).put O).app O Xa|exact((((hG.put O).put O).put O).put O).app O Xa|exact(((((hG.put O).put O).put O).put O).put O).app O Xa)⟩
   ·have i:IB x=false:=by unfold IB;rw[c1];simpa using c2
    have c2:(L9 (BB x 58).2.1).2=false:=by simpa using c2
    rw[c1]at d;rw[c2]at h;have hA:l.all IB=false:=by
     rw[ZD];exact⟨x,na,by rw[i];decide⟩
    rw[if_pos hA];simp only[G7,↓C2,GY,simprocAttr,ta,sa,la,h4,u,oa,Ql,ja,Ae LK 166,d,Ae LK 167,h]
    all_goals exact Y0
  ·have c1:(BB x 58).2.2=false:=by simpa using c1
   have i:IB x=false:=by unfold IB;rw[c1];rfl
   rw[c1]at d;have hA:l.all IB=false:=by
    rw[ZD];exact⟨x,na,by rw[i];decide⟩
   rw[if_pos hA];simp only[G7,↓C2,GY,simprocAttr,ta,sa,la,h4,u,oa,Ql,ja,Ae LK 166,d,Ae LK 167,h]
   all_goals exact Y0
 ·obtain⟨ka,fa,da⟩:=y;obtain⟨ta,sa,la,ia,nl,t,h4,qa,hG⟩:=hI;simp only at ta sa la h4 hG;rw[ba]at sa;refine Af RJ.eq_1 ?_;have e:decide (l.length=0)=false:=decide_eq_false (by cases l with|nil=>exact absurd rfl ga|cons a b=>simp);rw[Zu (Qe _)]at h4 ia;rw[e]at qa;subst qa;have hA:¬l.all IB=false:=by rw[ia];decide
  rw[if_neg hA];have f:=Sn (nl:=false) (l:=l.map OJ) (by rw[Qo];omega) (λr hr=>by
   obtain⟨x,hx,rfl⟩:=QM.1 hr;have:=za x hx;have:=qW x 58;exact⟨by show(BB x 58).1.length<=1000;omega,YH⟩)
  by_cases hp:Cg (l.map OJ)≠0
  ·rw[if_pos hp];have wa:(Cg (l.map OJ)=0)=False:=eq_false hp;simp only[G7,↓C2,GY,simprocAttr,sa,la,h4,Zn,Ae LK 168,f,wa]
   all_goals exact Y0
  ·rw[if_neg hp];have hp:=Decidable.not_not.1 hp;rw[hp]at f;simp only[G7,↓C2,GY,simprocAttr,sa,la,h4,Zn,Ae LK 168,f]
   all_goals exact Y0
def A1(a:Ak)(c:Int)(s:Bs):Ak×Int:=
 if c=116 then({a with tk:=s},A7 {a with tk:=s} 116)
 else if c=112 then({a with pa:=s},A7 {a with pa:=s} 112)
 else if c=109 then({a with ot:=s},A7 {a with ot:=s} 109)
 else if c=113 then({a with ot:=s},A7 {a with ot:=s} 113)
 else if c=110 then({a with n:=HU s},A7 {a with n:=HU s} 110)
 else if c=99 then({a with cas:=if s=[45]then-1 else HU s},BK (decide (s=[45])||decide (0<=HU s)))
 else if c=102 then({a with fl:=decide (s=[49])},BK (decide (s=[49])||decide (s=[48])))
 else if c=108 then(if s=[45]then(a,A7 a 108)else({a with nln:=false,ns:=(splitC 44 s).map HU},A7 {a with nln:=false,ns:=(splitC 44 s).map HU} 108))
 else if c=100 then(if s=[45]then(a,0)else({a with da:=(CX s).getD []},BK ((CX s).isSome&&decide (s≠[]))))
 else if c=114 then(if s=[45]then(a,0)else if s=[]then(a,4)else({a with nlr:=(EP s).1,rs:=(EP s).2.1},(EP s).2.2))
 else if c=107 then({a with key:=(CX s).getD []},BK ((CX s).isSome&&decide ((((CX s).getD []).length:Int)=16)))
 else(a,A7 a c)
def aA8(s:Bs)(j:s.length<=400):(EP s).2.1.length<=401∧∀r∈(EP s).2.1,r.1.length<=400∧0<=r.2∧r.2<256:=by
 unfold EP;split
 ·exact⟨Qt _,λr h=>Xc⟩
 split
 ·exact⟨Qt _,λr h=>Xc⟩
 split
 ·exact⟨Qt _,λr h=>Xc⟩
 ·refine⟨by simp only[Qo];have:=CO (q:=44) s;omega,λr h=>?_⟩;obtain⟨x,d,rfl⟩:=QM.1 h;have:=F4 s x d;have:=qW x 58;have:=aQ4 (BB x 58).2.1;exact⟨by show(BB x 58).1.length<=400;omega,YH,by show((L9 (BB x 58).2.1).1:Int)<256;omega⟩
def nW:∀(n:Nat)(s x:Bs),s.length<=n->CX s=some x->x.length<=s.length
 |0,s,x,h,e=>by
  match s,h with
  |[],_=>cases e;exact Qe _
 |n+1,s,x,h,e=>by
  match s,h,e with
  |[],_,e=>cases e;exact Qe _
  |[_],_,e=>cases e
  |a::b::r,h,e=>
   rw[Mh]at e;split at e
   ·cases e
   ·obtain⟨y,j,rfl⟩:=QN.1 e;have:=nW n r y XL j;simp only[Qb];omega
def aAk(s:Bs):((CX s).getD []).length<=s.length:=by
 cases h:CX s with
 |none=>exact Qt _
 |some x=>exact nW _ s x (Qe _) h
def UR{a:Ak}(x:HH a){c:Int}{s:Bs}(j:s.length<=400):HH (A1 a c s).1:=by
 have u:=aAk s;have f:=aA8 s j;have h3:=CO (q:=44) s;unfold A1;by_cases b:c=116
 ·rw[if_pos b];exact⟨x.op0,x.op,Xa,x.pa,x.ot,x.ns,x.da,x.rl,x.rs,x.key⟩
 rw[if_neg b];by_cases c1:c=112
 ·rw[if_pos c1];exact⟨x.op0,x.op,x.tk,Xa,x.ot,x.ns,x.da,x.rl,x.rs,x.key⟩
 rw[if_neg c1];by_cases p:c=109
 ·rw[if_pos p];exact⟨x.op0,x.op,x.tk,x.pa,Xa,x.ns,x.da,x.rl,x.rs,x.key⟩
 rw[if_neg p];by_cases y:c=113
 ·rw[if_pos y];exact⟨x.op0,x.op,x.tk,x.pa,Xa,x.ns,x.da,x.rl,x.rs,x.key⟩
 rw[if_neg y];by_cases t:c=110
 ·rw[if_pos t];exact⟨x.op0,x.op,x.tk,x.pa,x.ot,x.ns,x.da,x.rl,x.rs,x.key⟩
 rw[if_neg t];by_cases m:c=99
 ·rw[if_pos m];exact⟨x.op0,x.op,x.tk,x.pa,x.ot,x.ns,x.da,x.rl,x.rs,x.key⟩
 rw[if_neg m];by_cases k:c=102
 ·rw[if_pos k];exact⟨x.op0,x.op,x.tk,x.pa,x.ot,x.ns,x.da,x.rl,x.rs,x.key⟩
 rw[if_neg k];by_cases z:c=108
 ·rw[if_pos z];by_cases e:s=[45]
  ·rw[if_pos e];exact x
  ·rw[if_neg e];exact⟨x.op0,x.op,x.tk,x.pa,x.ot,by simp only[Qo];omega,x.da,x.rl,x.rs,x.key⟩
 rw[if_neg z];by_cases n:c=100
 ·rw[if_pos n];by_cases e:s=[45]
  ·rw[if_pos e];exact x
  ·rw[if_neg e];exact⟨x.op0,x.op,x.tk,x.pa,x.ot,x.ns,Xa,x.rl,x.rs,x.key⟩
 rw[if_neg n];by_cases w:c=114
 ·rw[if_pos w];by_cases e:s=[45]
  ·rw[if_pos e];exact x
  rw[if_neg e];by_cases v:s=[]
  ·rw[if_pos v];exact x
  ·rw[if_neg v];exact⟨x.op0,x.op,x.tk,x.pa,x.ot,x.ns,x.da,Xa,λr i=>⟨by have:=f.2 r i;omega,(f.2 r i).2.1⟩,x.key⟩
 rw[if_neg w];by_cases o:c=107
 ·rw[if_pos o];exact⟨x.op0,x.op,x.tk,x.pa,x.ot,x.ns,x.da,x.rl,x.rs,Xa⟩
 rw[if_neg o];exact x
def Cf:GZ:=Ao [(96,Ac sL),(97,Ac aSj),(98,Ac aFf),(99,Ac aEU),(100,Ac aFd),(101,Ac aGg)]
def gW:List D->Option D:=RF Cf aDD [.cell (some 11) 6,.t 7] 122
def aQk:Kq gW 45:=Am (Ai func45) (Aa aB8 (Aa aK2 (Aa aP6 (Aa aLi (Aa aP5 (Aa aK8 Ad))))))
def aFw(a:Ak)(x:HH a)(c:Int)(s:Bs)(hs:s.length<=400):gW [Hv a,.int .i32 c,.str s]=some (.tup [Hv (A1 a c s).1,.int .i64 (A1 a c s).2]):=by
 refine Al (Qa rfl) ?_;unfold aDD;have f:=gT s;have z:=aFe s O;have q:=aET s O;have g:=aFc s O;have u:=UR x (c:=c) hs;unfold A1 at u ⊢;by_cases c1:c=116
 ·subst c1;simp only[reduceIte,QH]at u ⊢;have d:=HP (c:=116) u;unfold Hv Hq at d ⊢;simp only[G7,↓C2,GY,simprocAttr,Ae Cf 101,d]
  (refine As.intro (An ?_) ?_;first|rfl|simp[AX,AI,Hr,Aj,Ac])
  simp only[G7,↓C2,GY,simprocAttr]
  all_goals exact Y0
 have n1:(c=116)=False:=eq_false c1;by_cases p:c=112
 ·subst p;simp only[reduceIte,QH]at u ⊢;have d:=HP (c:=112) u;unfold Hv Hq at d ⊢;simp only[G7,↓C2,GY,simprocAttr,Ae Cf 101,d]
  (refine As.intro (An ?_) ?_;first|rfl|simp[AX,AI,Hr,Aj,Ac])
  simp only[G7,↓C2,GY,simprocAttr]
  all_goals exact Y0
 have n2:(c=112)=False:=eq_false p;by_cases y:c=109
 ·subst y;simp only[reduceIte,QH]at u ⊢;have d:=HP (c:=109) u;unfold Hv Hq at d ⊢;simp only[G7,↓C2,GY,simprocAttr,Ae Cf 101,d]
  (refine As.intro (An ?_) ?_;first|rfl|simp[AX,AI,Hr,Aj,Ac])
  simp only[G7,↓C2,GY,simprocAttr]
  all_goals exact Y0
 have n3:(c=109)=False:=eq_false y;by_cases t:c=113
 ·subst t;simp only[reduceIte,QH]at u ⊢;have d:=HP (c:=113) u;unfold Hv Hq at d ⊢;simp only[G7,↓C2,GY,simprocAttr,Ae Cf 101,d]
  (refine As.intro (An ?_) ?_;first|rfl|simp[AX,AI,Hr,Aj,Ac])
  simp only[G7,↓C2,GY,simprocAttr]
  all_goals exact Y0
 have n4:(c=113)=False:=eq_false t;by_cases c5:c=110
 ·subst c5;simp only[reduceIte,QH]at u ⊢;have d:=HP (c:=110) u;unfold Hv Hq at d ⊢;simp only[G7,↓C2,GY,simprocAttr,Ae Cf 96,f,Ae Cf 101,d]
  (refine As.intro (An ?_) ?_;first|rfl|simp[AX,AI,Hr,Aj,Ac])
  simp only[G7,↓C2,GY,simprocAttr]
  all_goals exact Y0
 have n5:(c=110)=False:=eq_false c5;by_cases w:c=99
 ·subst w;simp only[reduceIte,QH]at u ⊢;have b:=HJ;unfold Hv Hq;have k:((0:Int)<=-1)=False:=eq_false V;by_cases e:s=[45]
  ·have n:(s=[45])=True:=eq_true e;rw[if_pos e,decide_eq_true e];simp only[G7,↓C2,GY,simprocAttr,Ae Cf 96,f,n,Ae Cf 97,b]
   (refine As.intro (An ?_) ?_;first|rfl|simp[AX,AI,Hr,Aj,Ac])
   simp only[G7,↓C2,GY,simprocAttr]
   all_goals exact Y0
  ·have n:(s=[45])=False:=eq_false e;rw[if_neg e,decide_eq_false e];simp only[G7,↓C2,GY,simprocAttr,Ae Cf 96,f,n,Ae Cf 97,b]
   (refine As.intro (An ?_) ?_;first|rfl|simp[AX,AI,Hr,Aj,Ac])
   simp only[G7,↓C2,GY,simprocAttr]
   all_goals exact Y0
 have n6:(c=99)=False:=eq_false w;by_cases c7:c=102
 ·subst c7;simp only[reduceIte,QH]at u ⊢;have b:=HJ;unfold Hv Hq;by_cases e:s=[49]
  ·have n:(s=[49])=True:=eq_true e;rw[decide_eq_true e];simp only[G7,↓C2,GY,simprocAttr,n,Ae Cf 97,b]
   (refine As.intro (An ?_) ?_;first|rfl|simp[AX,AI,Hr,Aj,Ac])
   simp only[G7,↓C2,GY,simprocAttr]
   all_goals exact Y0
  ·have n:(s=[49])=False:=eq_false e;rw[decide_eq_false e];simp only[G7,↓C2,GY,simprocAttr,n,Ae Cf 97,b]
   (refine As.intro (An ?_) ?_;first|rfl|simp[AX,AI,Hr,Aj,Ac])
   simp only[G7,↓C2,GY,simprocAttr]
   all_goals exact Y0
 have n7:(c=102)=False:=eq_false c7;by_cases c8:c=108
 ·subst c8;simp only[reduceIte,QH]at u ⊢;by_cases e:s=[45]
  ·have n:(s=[45])=True:=eq_true e;rw[if_pos e]at u ⊢;have d:=HP (c:=108) x;unfold Hv Hq at d ⊢;simp only[G7,↓C2,GY,simprocAttr,n,Ae Cf 101,d]
   (refine As.intro (An ?_) ?_;first|rfl|simp[AX,AI,Hr,Aj,Ac])
   simp only[G7,↓C2,GY,simprocAttr]
   all_goals exact Y0
  ·have n:(s=[45])=False:=eq_false e;rw[if_neg e]at u ⊢;have d:=HP (c:=108) u;unfold Hv Hq at d ⊢;simp only[G7,↓C2,GY,simprocAttr,n,Ae Cf 98,z,Ae Cf 101,d]
   (refine As.intro (An ?_) ?_;first|rfl|simp[AX,AI,Hr,Aj,Ac])
   simp only[G7,↓C2,GY,simprocAttr]
   all_goals exact Y0
 have n8:(c=108)=False:=eq_false c8;by_cases c9:c=100
 ·subst c9;simp only[reduceIte,QH]at u ⊢;have b:=HJ;by_cases e:s=[45]
  ·have n:(s=[45])=True:=eq_true e;have e0:(s=[])=False:=eq_false (by rw[e];decide);have o:BK true=0:=rfl;rw[if_pos e]at u ⊢;unfold Hv Hq;simp only[G7,↓C2,GY,simprocAttr,n,e0,Ae Cf 97,b,o]
   (refine As.intro (An ?_) ?_;first|rfl|simp[AX,AI,Hr,Aj,Ac])
   simp only[G7,↓C2,GY,simprocAttr]
   all_goals exact Y0
  ·have n:(s=[45])=False:=eq_false e;rw[if_neg e]at u ⊢;unfold Hv Hq;cases hu:(CX s).isSome with
   |true=>
    rw[hu]at q;simp only[G7,↓C2,GY,simprocAttr,n,Ae Cf 99,q,Ae Cf 97,b]
    (refine As.intro (An ?_) ?_;first|rfl|simp[AX,AI,Hr,Aj,Ac])
    simp only[G7,↓C2,GY,simprocAttr]
    all_goals exact Y0
   |false=>
    rw[hu]at q;simp only[G7,↓C2,GY,simprocAttr,n,Ae Cf 99,q,Ae Cf 97,b]
    (refine As.intro (An ?_) ?_;first|rfl|simp[AX,AI,Hr,Aj,Ac])
    simp only[G7,↓C2,GY,simprocAttr]
    all_goals exact Y0
 have n9:(c=100)=False:=eq_false c9;by_cases r:c=114
 ·subst r;simp only[reduceIte,QH]at u ⊢;by_cases e:s=[45]
  ·have n:(s=[45])=True:=eq_true e;rw[if_pos e];unfold Hv Hq;simp only[G7,↓C2,GY,simprocAttr,n]
   all_goals exact Y0
  have n:(s=[45])=False:=eq_false e;rw[if_neg e];by_cases v:s=[]
  ·have h:(s=[])=True:=eq_true v;rw[if_pos v];unfold Hv Hq;simp only[G7,↓C2,GY,simprocAttr,n,h,Ae Cf 100,g]
   all_goals exact Y0
  ·have h:(s=[])=False:=eq_false v;rw[if_neg v];unfold Hv Hq;simp only[G7,↓C2,GY,simprocAttr,n,h,Ae Cf 100,g]
   all_goals exact Y0
 have i:(c=114)=False:=eq_false r;by_cases m:c=107
 ·subst m;simp only[reduceIte,QH]at u ⊢;have b:=HJ;unfold Hv Hq;cases hu:(CX s).isSome with
  |true=>
   rw[hu]at q;simp only[G7,↓C2,GY,simprocAttr,Ae Cf 99,q,Ae Cf 97,b]
   (refine As.intro (An ?_) ?_;first|rfl|simp[AX,AI,Hr,Aj,Ac])
   simp only[G7,↓C2,GY,simprocAttr]
   all_goals exact Y0
  |false=>
   rw[hu]at q;simp only[G7,↓C2,GY,simprocAttr,Ae Cf 99,q,Ae Cf 97,b]
   (refine As.intro (An ?_) ?_;first|rfl|simp[AX,AI,Hr,Aj,Ac])
   simp only[G7,↓C2,GY,simprocAttr]
   all_goals exact Y0
 have j:(c=107)=False:=eq_false m;simp only[c1,p,y,t,c5,w,c7,c8,c9,r,m,if_false]at u ⊢;have d:=HP (c:=c) x;unfold Hv Hq at d ⊢;simp only[G7,↓C2,GY,simprocAttr,n1,n2,n3,n4,n5,n6,n7,n8,n9,i,j,Ae Cf 101,d]
 (refine As.intro (An ?_) ?_;first|rfl|simp[AX,AI,Hr,Aj,Ac])
 simp only[G7,↓C2,GY,simprocAttr]
 all_goals exact Y0
def akZ:Ak:=⟨0,[],[],[],0,0,false,true,[],[],true,[],[]⟩
def AD:Ak->Bs->List Bs->Ak×Int
 |a,[],_=>(a,0)
 |a,_::_,[]=>(akZ,4)
 |a,c::r,w::ws=>if(A1 a (c.toNat:Int) w).2≠0 then(akZ,(A1 a (c.toNat:Int) w).2)else AD (A1 a (c.toNat:Int) w).1 r ws
def Cd(s:Bs):Ak×Int:=
 if 400<s.length then(akZ,5)
 else if jT ((splitC 32 s).getD 0 [])=0 then(akZ,22)
 else if(splitC 32 s).length≠1+(Bk (jT ((splitC 32 s).getD 0 []))).length then(akZ,4)
 else AD {akZ with op:=jT ((splitC 32 s).getD 0 [])} (Bk (jT ((splitC 32 s).getD 0 []))) ((splitC 32 s).drop 1)
def aBQ{S:GZ}(l:S 45=some (Ac gW)){ls:Bs}(n:∀c∈ls,c.toNat<128)(xa:ls.length<=100){ws:List Bs}(ua:∀w∈ws,w.length<=400)(hl:ws.length=1+ls.length){r:Ak×Int}{Q:Ex->St->Prop}
  (pa:∀v,r.2≠0->r.1=akZ->v.s 3= .int .i64 r.2->v.s 2= .ptr [0] 0->Ag v.m [0] 0 11=some (Hq akZ)->Q .ret v)
  (ga:∀v,r.2=0->v.s 2= .ptr [0] 0->v.s 5= .ptr [13] 0->Ag v.m [0] 0 11=some (Hq akZ)->Ag v.m [13] 0 11=some (Hq r.1)->Q (.exit 0) v):
  ∀(f p:Nat)(b:Ak) v g,ls.length=p+f->AD b (ls.drop p) (ws.drop (p+1))=r->HH b->v.s 2= .ptr [0] 0->v.s 5= .ptr [13] 0->v.s 37= .itp [30]->v.s 4= .slice false [] (strsD ws)->Ag v.m [0] 0 11=some (Hq akZ)->Ag v.m [13] 0 11=some (Hq b)->v.m [30] 1=some (.it ls p)->
   Ba S [] Na Q v g:=by
 have ma:([0]:Id)≠[30]:=V
 have k:([13]:Id)≠[30]:=V
 have o:([0]:Id)≠[13]:=V
 intro f;induction f with
 |zero=>
  intro p b v g hf x hb h2 h5 a h4 hm ra ba;refine Af Na.eq_1 ?_;have hp:¬(p<ls.length):=O
  simp only[↓C2,G8,simprocAttr,a,hp,ba,Qc];rw[List.drop_of_length_le O]at x;simp only[AD]at x;subst x;exact ga _ rfl h2 h5 hm ra
 |succ f ih=>
  intro p b v g hf x hb h2 h5 a h4 hm ra ba;refine Af Na.eq_1 ?_;have hp:p<ls.length:=O
  have ja:ls[p]?=some ls[p]:=Qi hp;have na:ls[p]∈ls:=QD hp;have i:=N4 ja (n _ na);have j:p+1<ws.length:=O
  have q:ws[p+1]∈ws:=QD j;have ya:=ua _ q;have d:(strsD ws)[p+1]?=some (.str ws[p+1]):=by unfold strsD;rw[QE,Qi j];rfl
  have hR:=aFw b hb (ls[p].toNat:Int) ws[p+1] ya;have u:=UR hb (c:=(ls[p].toNat:Int)) ya;have sa:ls.drop p=ls[p]::ls.drop (p+1):=QJ hp;have t:ws.drop (p+1)=ws[p+1]::ws.drop (p+1+1):=QJ j;have e1:IntKind.i64.wrap (1+(p:Int))=((p+1:Nat):Int):=Xh
  have e2:(0:Int)<=((p+1:Nat):Int):=O
  rw[sa,t]at x;unfold AD at x;generalize ls[p]=c at *;generalize ws[p+1]=w at *;unfold Hv at hR;generalize A1 b (c.toNat:Int) w=z at *;obtain⟨b',e⟩:=z;simp only at x hR u;obtain⟨ka,fa,da⟩:=v;simp only at h2 h5 a h4 hm ra ba;by_cases he:e=0
  ·subst he;rw[if_neg (λh=>h rfl)]at x;simp only[↓C2,G_,simprocAttr,h2,h5,a,h4,hm,ra,i,AH ma,AH k,Ab l,hR,BR,BS,AO,AT,hp,ba,d,e1,e2,Ql,and_self,Qc,Qj,Qy]
   (refine As.intro (An ?_) ?_;first|rfl|simp[AX,AI,Hr,Aj,Ac])
   simp only[↓C2,G_,simprocAttr,h2,h5,a,h4,hm,ra,BR,BS,AO,AT];refine ih (p+1) _ _ _ O x u h2 h5 a h4 ?_ ?_ ?_
   ·show Ag ((fa.put [30] 1 [.it ls (p+(Utf8.decode ⟨ls.toArray⟩ p).2)]).put [13] 0 (Hq b')) [0] 0 11=_;rw[AH o,AH ma];exact hm
   ·exact Ay (AT _)
   ·show G6.put (G6.put fa [30] 1 [.it ls (p+(Utf8.decode ⟨ls.toArray⟩ p).2)]) [13] 0 (Hq b') [30] 1=_;rw[aA V,i];exact Mw
  ·rw[if_pos he]at x;have y:(e=0)=False:=eq_false he;have hf:∀zs:List D,Cn zs []=some zs:=λ_=>rfl
   have zc:(D.agg [.int .u8 0,.str [],.str [],.str [],.int .i64 0,.int .i64 0,.bool false,.slice true [] [],.str [],.slice true [] [],.str []]).cells=Hq akZ:=rfl;simp only[↓C2,G_,simprocAttr,h2,h5,a,h4,hm,ra,i,AH ma,AH k,AH o,Ab l,hR,BR,BS,AO,AT,hp,ba,d,e1,e2,Ql,and_self,Qc,Qj,Qy,y,hf,zc]
   (refine As.intro (An ?_) ?_;first|rfl|simp[AX,AI,Hr,Aj,Ac])
   simp only[↓C2,G_,simprocAttr,h2,h5,a,h4,hm,ra,AH ma,AH k,AH o,BR,BS,AO,AT,y,hf,zc,Qy,and_self];subst x;refine pa _ he rfl ?_ ?_ ?_
   ·rfl
   ·exact h2
   ·exact Ay (ds:=Hq akZ) rfl
def aCF:∀op:Fin 19,∀c∈Bk ((op.val:Nat):Int),c.toNat<128:=Xi
def aCD:∀op:Fin 19,(Bk ((op.val:Nat):Int)).length<=10:=Xi
def aCE{op:Int}(z:0<=op)(h:op<=18):(∀c∈Bk op,c.toNat<128)∧(Bk op).length<=10:=by
 have e:((⟨op.toNat,O⟩:Fin 19).val:Int)=op:=QL z;have u:=aCF ⟨op.toNat,O⟩;have f:=aCD ⟨op.toNat,O⟩;rw[e]at u f;exact⟨u,f⟩
def aEr{op:Int}(z:0<=op)(h:op<=18):HH {akZ with op:=op}:=⟨z,Xa,Qt _,Qt _,Qt _,Qt _,Qt _,Qt _,(λr i=>by cases i),Qt _⟩
def LL:=Ao [(42,Ac Dg),(43,Ac aFy),(44,Ac yV),(45,Ac gW)]
def aFL:=RF LL aDN [.cell (some 11) 2,.t 3] 58
def aQt:Kq aFL 15:=Am (Ai func15) (Aa uW (Aa aQl (Aa pG (Aa aQk Ad))))
def gZ(s:Bs)(hl:s.length<=1000000):aFL [.str s]=some (.tup [Hv (Cd s).1,.int .i64 (Cd s).2]):=by
 refine Al (Qa rfl) ?_;have c:LL 45=some (Ac gW):=rfl;unfold aDN;have hz:D.cells (.agg (Hq akZ))=Hq akZ:=rfl;unfold Cd Hv;by_cases h4:400<s.length
 ·rw[if_pos h4];have k:((400:Int)<(s.length:Int))=True:=eq_true O;simp only[G7,↓C2,GY,reduceIte,Qq,Qr,QW,Q1,QO,reduceCtorEq,QH,Zf,Zv,Q_,k]
  all_goals exact Y0
 rw[if_neg h4];have k:((400:Int)<(s.length:Int))=False:=eq_false O;have ua:=GD (s:=s) (q:=32) O;have p:=Ci (q:=32) s;have za:=F4 (q:=32) s;have xa:=CO (q:=32) s;generalize splitC 32 s=ws at *;obtain⟨w0,wr,rfl⟩:∃a b,ws=a::b:=by cases ws with|nil=>exact absurd rfl p|cons a b=>exact⟨a,b,rfl⟩
 have hg:(w0::wr).getD 0 []=w0:=rfl;rw[hg];have d:=aFx w0;obtain⟨b1,b2⟩:=aBg w0;have j:=Pv b1 O;obtain⟨f1,f2⟩:=aCE b1 b2;have ja:(strsD (w0::wr))[(0:Int).toNat]?=some (.str w0):=rfl;have o:((strsD (w0::wr)).length:Int)=((w0::wr).length:Int):=by rw[AS]
 have ya:∀w∈w0::wr,w.length<=400:=λw hw=>by have:=za w hw;omega
 generalize jT w0=op at *;by_cases t:op=0
 ·subst t;rw[if_pos rfl];simp only[G7,↓C2,GY,reduceIte,Qq,Qr,QW,Q1,QO,reduceCtorEq,QH,Zf,Zv,Q_,k,Ae LL 42,ua,ja,Ae LL 43,d]
  all_goals exact Y0
 rw[if_neg t];have x:(op=0)=False:=eq_false t;have na:IntKind.i64.wrap (1+((Bk op).length:Int))=((1+(Bk op).length:Nat):Int):=Xh
 by_cases g:(w0::wr).length≠1+(Bk op).length
 ·rw[if_pos g];have n:(((w0::wr).length:Int)=((1+(Bk op).length:Nat):Int))=False:=eq_false (λe=>g O);simp only[G7,↓C2,GY,reduceIte,Qq,Qr,QW,Q1,QO,reduceCtorEq,QH,Zf,Zv,Q_,k,Ae LL 42,ua,ja,Ae LL 43,d,x,Ae LL 44,j,o,na,n]
  all_goals exact Y0
 rw[if_neg g];have g:=Decidable.not_not.1 g;have n:(((w0::wr).length:Int)=((1+(Bk op).length:Nat):Int))=True:=eq_true (by rw[g]);simp only[G7,↓C2,GY,reduceIte,Qq,Qr,QW,Q1,QO,reduceCtorEq,QH,Zf,Zv,Q_,k,Ae LL 42,ua,ja,Ae LL 43,d,x,Ae LL 44,j,o,na,n];generalize i:AD {akZ with op:=op} (Bk op) ((w0::wr).drop 1)=r;refine aBQ (r:=r) c f1 O ya g (λv u y h3 f hm=>?_) (λv u f h5 hm ra=>?_) (Bk op).length 0 {akZ with op:=op} _ _ O i (aEr b1 b2) rfl rfl rfl rfl ?_ ?_ ?_
 ·rw[y];simp only[↓C2,G_,simprocAttr,HY,AW,f,h3,hm,Q9,BR,BS]
  all_goals exact Y0
 ·rw[u];have z:∀(m:G6)(a:Ak),Ag (m.put [0] 0 (Hq a)) [0] 0 11=some (Hq a):=λm a=>Ay (AT a)
  simp only[↓C2,G_,simprocAttr,f,h5,hm,ra,BR,BS,AO,AT,Qy,and_self,HY,AW,z,Q9]
  all_goals exact Y0
 ·simp (disch:=decide)only[AH];exact Ay (ds:=Hq akZ) rfl
 ·simp (disch:=decide)only[AH];exact Ay (ds:=Hq {akZ with op:=op}) rfl
 ·rfl
def Uh:=Ao [(87,Ac (R19 Sm SQ)),(88,Ac Um)]
def aFC:=RF Uh aDG [.cell (some 9) 4] 21
def aQn:Kq aFC 38:=Am (Ai func38) (Aa (aYx aUb aUa) (Aa aPx Ad))
def yR.trS{t:Tr}{room:Int}(h:yR t room):TrS t:=⟨by have:=h.len;rw[Tr.cnt_lst]at *;omega,λx q=>⟨Qh (h.key x q) V,Qh (h.val x q) V⟩⟩
def yR.cnt{t:Tr}{room:Int}(h:yR t room):t.cnt<=1945:=by have:=h.len;rw[Tr.cnt_lst]at *;exact this
def EQ(o:Oc):(LR o).length=9:=rfl
def iS{m:G6}{i j o:Nat}{x:List D}{n:Nat}(h:j≠i):Ag (m.put [i] 0 x) [j] o n=Ag m [j] o n:=AH (by simp[h])
def aBP{m:Md}(hm:Sr m){a:Ak}{y:Kn->Oc}(X:HO m.vw a y){R:Kn->Nat}(hR:∀k d,Ip k->(y k).need≠[]->R (AY k (y k).need (y k).li d)<R k){o:Oc}{Q:Ex->St->Prop}
  (pa:∀ha,Ag ha.m [2] 0 9=some (LR o)->ha.s 4= .ptr [2] 0->Q .ret ha):
  ∀(f j:Nat)(k:Kn)(x:St) g,KnJ k j->j+f<=20->R k<=f->Mq y m.tr f k=o->4<=x.c->x.s 2= .ptr [0] 0->x.s 3= .ptr [1] 0->x.s 4= .ptr [2] 0->x.s 5= .ptr [3] 0->
   Ag x.m [0] 0 5=some (HN m.vw)->Ag x.m [0] 5 1=some [Hh m.tr]->Ag x.m [1] 0 11=some (Hq a)->(∃z,Ag x.m [2] 0 9=some z)->Ag x.m [3] 0 5=some (HG k)->Ba Uh [] M8 Q x g:=by
 intro f;induction f with
 |zero=>
  intro j k x g hk hj hr ho hc h2 h3 h4 h5 m0 p m1 ⟨z,m2⟩ m3;have l:=hk.ok O;have hn:(y k).need=[]:=by
   by_cases hn:(y k).need=[]
   ·exact hn
   ·have:=hR k (En m.tr []) l hn;omega
  have ma:=X.run k l;have v:Uh 87=some (Ac (R19 Sm SQ)):=rfl;have u:Uh 88=some (Ac Um):=rfl;unfold H4 Hv at ma;refine Af M8.eq_1 ?_;obtain⟨ka,fa,da⟩:=x;simp only at hc h2 h3 h4 h5 m0 p m1 m2 m3;have zc:(D.agg (LR (y k))).cells=LR (y k):=rfl;have zu:(D.agg (LR (y k))).un1=D.agg (LR (y k)):=rfl;have zn:(D.agg (LR (y k))).un=D.agg (LR (y k)):=rfl;have zd:(D.agg (LR (y k))).data=true:=rfl;have zm:(D.agg (LR (y k))).calm=true:=rfl;have z9:∀{m:G6} {i:Id} {a b c d e f g h j:D},Ag (m.put i 0 [a,b,c,d,e,f,g,h,j]) i 0 9=some [a,b,c,d,e,f,g,h,j]:=Ay rfl;have zo:∀{m:G6} {i:Id},Ag (m.put i 0 (LR (y k))) i 0 9=some (LR (y k)):=Ay (EQ _);have z0:∀{m:G6} {i:Id},m.put i 0 (LR (y k)) i 0=some (.str (y k).need):=Bh (k:=0) (Ay (EQ _)) rfl;simp only[HN,HG]at ma m0 m3;unfold Mq at ho;have la:((y k).need=[])=True:=eq_true hn;simp (disch:=first|assumption|omega)only[↓C2,G_,simprocAttr,h2,h3,h4,h5,m0,p,m1,m2,m3,Ab v,ma,zc,la,BR,BS,AO,AT,EQ,z9,zo,z0,iS,Qy,and_self,zu,zd,zm,zn];subst ho;exact pa _ (Ay (EQ _)) h4
 |succ f ih=>
  intro j k x g hk hj hr ho hc h2 h3 h4 h5 m0 p m1 ⟨z,m2⟩ m3;have l:=hk.ok O;have ma:=X.run k l;have v:Uh 87=some (Ac (R19 Sm SQ)):=rfl;have u:Uh 88=some (Ac Um):=rfl;unfold H4 Hv at ma;refine Af M8.eq_1 ?_;obtain⟨ka,fa,da⟩:=x;simp only at hc h2 h3 h4 h5 m0 p m1 m2 m3;have zc:(D.agg (LR (y k))).cells=LR (y k):=rfl;have zu:(D.agg (LR (y k))).un1=D.agg (LR (y k)):=rfl;have zn:(D.agg (LR (y k))).un=D.agg (LR (y k)):=rfl;have zd:(D.agg (LR (y k))).data=true:=rfl;have zm:(D.agg (LR (y k))).calm=true:=rfl;have z9:∀{m:G6} {i:Id} {a b c d e f g h j:D},Ag (m.put i 0 [a,b,c,d,e,f,g,h,j]) i 0 9=some [a,b,c,d,e,f,g,h,j]:=Ay rfl;have zo:∀{m:G6} {i:Id},Ag (m.put i 0 (LR (y k))) i 0 9=some (LR (y k)):=Ay (EQ _);have z0:∀{m:G6} {i:Id},m.put i 0 (LR (y k)) i 0=some (.str (y k).need):=Bh (k:=0) (Ay (EQ _)) rfl;simp only[HN,HG]at ma m0 m3;unfold Mq at ho;by_cases hn:(y k).need=[]
  ·rw[if_pos hn]at ho;have la:((y k).need=[])=True:=eq_true hn;simp (disch:=first|assumption|omega)only[↓C2,G_,simprocAttr,h2,h3,h4,h5,m0,p,m1,m2,m3,Ab v,ma,zc,la,BR,BS,AO,AT,EQ,z9,zo,z0,iS,Qy,and_self,zu,zd,zm,zn];subst ho;exact pa _ (Ay (EQ _)) h4
  ·rw[if_neg hn]at ho;have la:((y k).need=[])=False:=eq_false hn;have w:=hR k (En m.tr (y k).need) l hn;have ea:=hk.learn hm.tr (y k).need (y k).li;have n:=aFX (k:=k) (q:=(y k).need) (li:=(y k).li) (r:=[.str (y k).rep,.slice (y k).nl [] (Ek (y k).ops)]++HN (y k).vw) (t:=m.tr) ⟨Qh l.es V,Qh l.ls V,rfl,hm.tr.trS,Qh (nZ _ _) (Qh hm.tr.len V)⟩;generalize AY k (y k).need (y k).li (En m.tr (y k).need)=k' at ho w ea n;have n:Um [.agg (HG k),.agg (LR (y k)),.agg [Hh m.tr]]=some (.agg (HG k')):=n;simp only[HG]at n;have z5:∀{m:G6} {i:Id} {a b c d e:D},Ag (m.put i 0 [a,b,c,d,e]) i 0 5=some [a,b,c,d,e]:=Ay rfl;simp (disch:=first|assumption|omega)only[↓C2,G_,simprocAttr,h2,h3,h4,h5,m0,p,m1,m2,m3,Ab v,ma,zc,la,BR,BS,AO,AT,EQ,z9,zo,z0,iS,Qy,and_self,zu,zd,zm,zn,Ab u,n,Hk,z5];refine ih (j+1) k' _ _ ea O O ho Xa h2 h3 h4 h5 ?_ ?_ ?_ ⟨z,?_⟩ ?_
   ·simp (disch:=omega)only[iS];exact m0
   ·simp (disch:=omega)only[iS];exact p
   ·simp (disch:=omega)only[iS];exact m1
   ·simp (disch:=omega)only[iS];exact m2
   ·exact Ay rfl
def aFB{m:Md}(j:Sr m){a:Ak}{z:Kn->Oc}(X:HO m.vw a z):aFC [.agg (Hl m),Hv a]=some (.agg (LR (ED z m))):=by
 refine Al (Qa rfl) ?_;unfold aDG;unfold Hl Hv;have f:D.cells (.agg (Hl m))=Hl m:=rfl;obtain⟨R,i,c⟩:=X.term;simp only[G7,↓C2,GY,simprocAttr,f];refine aBP j X c (o:=ED z m) (λx k u=>?_) 4 0 kn0 _ _ aLx V (Qh (i _) V) rfl (Qe _) rfl rfl rfl rfl ?_ ?_ ?_ ⟨[.str [],.bool false,.str [],.slice true [] [],.bool false,.int .i64 0,.str [],.slice true [] [],.slice true [] []],?_⟩ ?_
 ·simp only[↓C2,G_,simprocAttr,Bu,AW,u,k,Q9]
  all_goals exact Y0
 ·simp (disch:=decide)only[AH];exact aA1 (cs:=Hl m) (n:=7) (Ay rfl) V
 ·simp (disch:=decide)only[AH];exact aA1 (cs:=Hl m) (n:=7) (Ay rfl) V
 ·simp (disch:=decide)only[AH];exact Ay (AT a)
 ·simp (disch:=decide)only[AH];exact Ay rfl
 ·exact Ay rfl
def Dz:GZ:=Ao [(15,Ac aFL),(37,Ac aJX),(38,Ac aFC),(39,Ac aFA),(35,Ac Un)]
def BF:List D->Option D:=RF Dz RL [.cell (some 7) 4,.t 5] 53
def kQ:Kq BF 11:=Am (Ai func11:Fn Qk 11 53 RL [.cell (some 7) 4,.t 5]) (Aa aQt (Aa aLw (Aa aQn (Aa aQm (Aa U8 Ad)))))
def aJZ{m:Md}(h:m.room=0)(s:Bs):BF [.agg (Hl m),.str s]=some (.tup [.agg (Hl m),.str []]):=by
 refine Al (Qa rfl) ?_;unfold RL;have z:(m.room=0)=True:=eq_true h;simp only[Hl,HN,Qx,QA];simp (disch:=first|assumption|omega)only[G7,↓C2,GY,simprocAttr,Hk,z]
 all_goals exact Y0
def sQ{m:Md}(h:m.room≠0){s:Bs}{e:Int}(hl:s.length<=1000000)(v:(Cd s).2=e)(d:1<=e∧e<=99):BF [.agg (Hl m),.str s]=some (.tup [.agg (Hl m),.str (HD (.fail e))]):=by
 refine Al (Qa rfl) ?_;unfold RL;have t:(m.room=0)=False:=eq_false h;have k:=gZ s hl;rw[v]at k;have b:=Wf e d;have z:(e=0)=False:=eq_false O;unfold Hv at k;generalize (Cd s).1=a at k;have n:D.cells (.agg (Hq a))=Hq a:=rfl;have f:∀{m:G6} {i:Id},Ag (m.put i 0 (Hq a)) i 0 11=some (Hq a):=Ay (AT a);have c:∀{m:G6} {i:Id} {xs:List D},xs.length=11->(Ag (m.put i 0 xs) i 0 11).isSome=true:=λh=>by rw[Hs h];rfl
 simp only[Hl,HN,Qx,QA];simp (disch:=first|assumption|omega)only[G7,↓C2,GY,simprocAttr,Hk,t,Ae Dz 15,k,n,BR,BS,AO,AT,z,Ae Dz 37,b]
 (refine As.intro (An ?_) ?_;first|rfl|simp[AX,AI,Hr,Aj,Ac])
 simp (disch:=first|assumption|omega)only[G7,↓C2,GY,simprocAttr,Hk,t,Ae Dz 15,k,n,BR,BS,AO,AT,z,Ae Dz 37,b]
 all_goals exact Y0
def pD:∀(l:List Op1){t:Tr},Tr.Ord t.lst->(CD l t).cnt<=l.length+t.cnt
 |[],t,_=>by simp[CD]
 |x::r,t,h=>by
  have u:=(cC x h).1;have f:=pD r (DP x h).1;simp only[CD,Qb];omega
def WS:∀l:List (Bs×Bs),(∀x∈l,x.1.length<=100∧x.2.length<=400)->Tr.sizeL l<=504*l.length
 |[],_=>by simp[Tr.sizeL]
 |x::l,h=>by
  have u:=h x QB;have:=WS l λy j=>h y (Qw _ j)
  simp only[Tr.sizeL,Qg,Qp,Qb]at this ⊢;omega
def vV{v:Vw}{a:Ak}{o:Oc}(h:Iq v a o):zA o.ops:=by
 obtain⟨y,_,_,_,⟨_,e,_⟩|⟨_,⟨_,e,_⟩|⟨_,_,e,_⟩⟩⟩:=h
 ·rw[e];exact⟨U,λx q=>XG⟩
 ·rw[e];exact⟨U,λx q=>XG⟩
 ·exact e
def aGT{t:Tr}{room:Int}(h:yR t room){l:List Op1}(hl:zA l):TrS (CD l t):=by
 obtain⟨u,f⟩:=U4 l h.ord;have i:=pD l h.ord;have p:=h.cnt;have m:=hl.n;refine⟨O,λx q=>?_⟩;rcases f x q with h6|⟨z,o,_,rfl⟩
 ·exact⟨Qh (h.key x h6) V,Qh (h.val x h6) V⟩
 ·exact⟨Qh (hl.ok z o).1.1 V,Qh (hl.ok z o).1.2.1 V⟩
def Lt{m:Md}(h:m.room≠0){s:Bs}(hl:s.length<=1000000){a:Ak}(v:Cd s=(a,0)){z:Kn->Oc}(j:Sr m)(X:HO m.vw a z):BF [.agg (Hl m),.str s]=some (.tup [.agg (Hl (Dw m (ED z m)).1),.str (Dw m (ED z m)).2]):=by
 refine Al (Qa rfl) ?_;unfold RL;have t:(m.room=0)=False:=eq_false h;have c:=gZ s hl;rw[v]at c;have u:=aFB j X;obtain⟨hn,k,hk,y⟩:=P_ j X;have g:zA (ED z m).ops:=vV (by rw[y];exact X.rep k hk (by rw[←y];exact hn));have i:=aGT j.tr g;have r:=I7 i;have f:=aFz m.tr (ED z m).nl (ED z m).ops (Qh g.n V) (λx d=>⟨(g.ok x d).1.1,(g.ok x d).1.2.1⟩) j.tr.ord (by have:=j.tr.cnt;have:=g.n;omega) (by
  have h1:=WS m.tr.lst λx d=>⟨j.tr.key x d,j.tr.val x d⟩
  rw[←Tr.wgt_lst]at h1;have:=j.tr.len;have:=g.n;omega)
 have b:=Wf 7 V;generalize ED z m=o at *;have q:(Ek o.ops).length=o.ops.length:=Qo ..;unfold Dw;generalize CD o.ops m.tr=T at *;unfold Hv at c u;simp only[Hl,HN,LR,Hq,Qx,QA]at c u ⊢;by_cases w:o.ops=[]
 ·rw[if_neg (λh=>h.1 w)];have c1:((0:Int)<(o.ops.length:Int))=False:=by rw[w];simp
  repeat' (first|(refine As.intro (An ?_) ?_;first|rfl|simp[AX,AI,Hr,Aj,Ac])|simp (disch:=first|assumption|omega)only[G7,↓C2,GY,simprocAttr,Hk,t,Ae Dz 15,c,Ae Dz 38,u,Ae Dz 39,f,Ae Dz 35,r,Ae Dz 37,b,q,c1])
 ·have c1:((0:Int)<(o.ops.length:Int))=True:=eq_true (by have:o.ops.length≠0:=λe=>w (Zb.1 e);omega);by_cases hw:m.room<(Tr.weighL T.lst:Int)
  ·rw[if_pos ⟨w,hw⟩];have p:(m.room<(Tr.weighL T.lst:Int))=True:=eq_true hw
   repeat' (first|(refine As.intro (An ?_) ?_;first|rfl|simp[AX,AI,Hr,Aj,Ac])|simp (disch:=first|assumption|omega)only[G7,↓C2,GY,simprocAttr,Hk,t,Ae Dz 15,c,Ae Dz 38,u,Ae Dz 39,f,Ae Dz 35,r,Ae Dz 37,b,q,c1,p])
  ·rw[if_neg (λh=>hw h.2)];have p:(m.room<(Tr.weighL T.lst:Int))=False:=eq_false hw
   repeat' (first|(refine As.intro (An ?_) ?_;first|rfl|simp[AX,AI,Hr,Aj,Ac])|simp (disch:=first|assumption|omega)only[G7,↓C2,GY,simprocAttr,Hk,t,Ae Dz 15,c,Ae Dz 38,u,Ae Dz 39,f,Ae Dz 35,r,Ae Dz 37,b,q,c1,p])
def aYR:=Ao []
def aRL:=RF aYR qO [.t 4] 26
def aU4:Kq aRL 197:=Am aLH Ad
def pP{S:GZ}{l:List Rl}{nl nl':Bool}{Q:Ex->St->Prop}(hl:l.length<=1000000)(k:∀p,Q (.exit 0) p):
  ∀(f j:Nat)(y:St) g,l.length=j+f->y.s 0= .slice nl [] (Ar l)->y.s 1= .slice nl' [] (Ar l)->y.s 12= .int .i64 (l.length:Int)->y.s 13= .int .i64 (j:Int)->Ba S [] MS Q y g
 |0,j,y,g,hf,h0,h1,h12,h13=>by
  refine Af MS.eq_1 ?_;have t:((j:Int)<l.length)=False:=eq_false O;simp only[G7,↓C2,GY,simprocAttr,h12,h13,t];exact k _
 |f+1,j,y,g,hf,h0,h1,h12,h13=>by
  have ih:=pP (S:=S) (nl:=nl) (nl':=nl') hl k f (j+1);refine Af MS.eq_1 ?_;have t:((j:Int)<l.length)=True:=eq_true O;have d:j<l.length:=O
  have q:(Ar l)[j]?=some (rlD l[j]):=by unfold Ar;rw[QE,Qi d];rfl
  unfold rlD at q;generalize l[j]=x at q;obtain⟨e,b,c⟩:=y;simp only at h0 h1 h12 h13;have m:=nJ (j:=j);have na:IntKind.i64.wrap ((j:Int)+1)=((j+1:Nat):Int):=Hu O O
  repeat' (first|(refine As.intro (An ?_) ?_;first|rfl|simp[AX,AI,Hr,Aj,Ac])|simp only[G7,↓C2,GY,simprocAttr,h0,h1,h12,h13,t,m,Ql,q,na,PO,Bi,LY,Qc,Qj,beq_self_eq_true,bne_self_eq_false])
  exact ih _ _ O h0 h1 h12 rfl
def aI6(nl nl':Bool)(l:List Rl)(hl:l.length<=1000000):aRL [.slice nl [] (Ar l),.slice nl' [] (Ar l)]=some (.bool true):=by
 refine Al (Qa rfl) ?_;unfold qO;have r:=A_ l;simp only[G7,↓C2,GY,simprocAttr,r,bne_self_eq_false];refine pP (nl:=nl) (nl':=nl') hl (λx=>?_) l.length 0 _ _ O rfl rfl rfl rfl;simp only[G7,↓C2,GY,simprocAttr]
 all_goals exact Y0
def aXf:=Ao []
def aFp:=RF aXf aDx [.t 4] 26
def aQc:Kq aFp 75:=Am (Ai func75) Ad
def dA{S:GZ}{l:List Mt}{nl nl':Bool}{Q:Ex->St->Prop}(hl:l.length<=1000000)(k:∀p,Q (.exit 0) p):
  ∀(f j:Nat)(y:St) g,l.length=j+f->y.s 0= .slice nl [] (AA l)->y.s 1= .slice nl' [] (AA l)->y.s 12= .int .i64 (l.length:Int)->y.s 13= .int .i64 (j:Int)->Ba S [] MZ Q y g
 |0,j,y,g,hf,h0,h1,h12,h13=>by
  refine Af MZ.eq_1 ?_;have t:((j:Int)<l.length)=False:=eq_false O;simp only[G7,↓C2,GY,simprocAttr,h12,h13,t];exact k _
 |f+1,j,y,g,hf,h0,h1,h12,h13=>by
  have ih:=dA (S:=S) (nl:=nl) (nl':=nl') hl k f (j+1);refine Af MZ.eq_1 ?_;have t:((j:Int)<l.length)=True:=eq_true O;have d:j<l.length:=O
  have q:(AA l)[j]?=some (MF l[j]):=by unfold AA;rw[QE,Qi d];rfl
  unfold MF at q;generalize l[j]=x at q;obtain⟨e,b,c⟩:=y;simp only at h0 h1 h12 h13;have m:=nJ (j:=j);have na:IntKind.i64.wrap ((j:Int)+1)=((j+1:Nat):Int):=Hu O O
  repeat' (first|(refine As.intro (An ?_) ?_;first|rfl|simp[AX,AI,Hr,Aj,Ac])|simp only[G7,↓C2,GY,simprocAttr,h0,h1,h12,h13,t,m,Ql,q,na,PO,Bi,LY,Qc,Qj,beq_self_eq_true,bne_self_eq_false])
  exact ih _ _ O h0 h1 h12 rfl
def aFo(nl nl':Bool)(l:List Mt)(hl:l.length<=1000000):aFp [.slice nl [] (AA l),.slice nl' [] (AA l)]=some (.bool true):=by
 refine Al (Qa rfl) ?_;unfold aDx;have r:=AU l;simp only[G7,↓C2,GY,simprocAttr,r,bne_self_eq_false];refine dA (nl:=nl) (nl':=nl') hl (λx=>?_) l.length 0 _ _ O rfl rfl rfl rfl;simp only[G7,↓C2,GY,simprocAttr]
 all_goals exact Y0
def aWY:=Ao [(197,Ac aRL)]
def aRZ:=RF aWY qR [.t 4] 8
def aVn:Kq aRZ 132:=Am aLL (Aa aU4 Ad)
def aJt(nl nl':Bool)(l:List Rl)(hl:l.length<=1000000):aRZ [.slice nl [] (Ar l),.slice nl' [] (Ar l)]=some (.bool true):=by
 refine Al (Qa rfl) ?_;unfold qR;have a:=aI6 nl nl' l hl;simp only[G7,↓C2,GY,simprocAttr,Ae aWY 197,a]
 all_goals exact Y0
def aOe:=Ao [(132,Ac aRZ)]
def gU:=RF aOe aDv [.t 4] 24
def aQa:Kq gU 77:=Am (Ai func77) (Aa aVn Ad)
def aFl(k:Tk)(hl:k.2.2.2.length<=1000000):gU [PK k,PK k]=some (.bool true):=by
 refine Al (Qa rfl) ?_;unfold aDv;have b:=aJt k.2.2.1 k.2.2.1 k.2.2.2 hl;unfold PK;simp only[G7,↓C2,GY,simprocAttr,Ae aOe 132,b,beq_self_eq_true]
 all_goals exact Y0
def aOm:=Ao [(75,Ac aFp)]
def aFG:=RF aOm aDJ [.t 4] 10
def aQp:Kq aFG 32:=Am (Ai func32) (Aa aQc Ad)
def aFF(nl nl':Bool)(l:List Mt)(hl:l.length<=1000000):aFG [.agg [.slice nl [] (AA l)],.agg [.slice nl' [] (AA l)]]=some (.bool true):=by
 refine Al (Qa rfl) ?_;unfold aDJ;have a:=aFo nl nl' l hl;simp only[G7,↓C2,GY,simprocAttr,Ae aOm 75,a]
 all_goals exact Y0
def aOf:=Ao [(77,Ac gU)]
def aFn:=RF aOf aDw [.t 6] 32
def aQb:Kq aFn 76:=Am (Ai func76) (Aa aQa Ad)
def cZ{S:GZ}(e:S 77=some (Ac gU)){l:List Tk}{nl nl':Bool}{Q:Ex->St->Prop}(hl:l.length<=1000000)(v:∀k∈l,k.2.2.2.length<=1000000)(hQ:∀p,Q (.exit 0) p):
  ∀(f j:Nat)(y:St) g,l.length=j+f->y.s 1= .slice nl' [] (AL l)->y.s 15= .slice nl [] (AL l)->y.s 2= .fn 77 []->y.s 16= .int .i64 (l.length:Int)->y.s 17= .int .i64 (j:Int)->Ba S [] MY Q y g
 |0,j,y,g,hf,h1,h15,h2,h16,h17=>by
  refine Af MY.eq_1 ?_;have t:((j:Int)<l.length)=False:=eq_false O;simp only[G7,↓C2,GY,simprocAttr,h16,h17,t];exact hQ _
 |f+1,j,y,g,hf,h1,h15,h2,h16,h17=>by
  have ih:=cZ e (nl:=nl) (nl':=nl') hl v hQ f (j+1);refine Af MY.eq_1 ?_;have t:((j:Int)<l.length)=True:=eq_true O;have r:j<l.length:=O
  have q:(AL l)[j]?=some (PK l[j]):=by unfold AL;rw[QE,Qi r];rfl
  have d:=aFl l[j] (v _ (QD r));unfold PK at q d;generalize l[j]=x at q d;obtain⟨w,o,da⟩:=y;simp only at h1 h15 h2 h16 h17;have z:=nJ (j:=j);have na:IntKind.i64.wrap ((j:Int)+1)=((j+1:Nat):Int):=Hu O O;have u:∀{m:G6} {i:Id} {a b c:D},Ag (m.put i 0 [a,b,c]) i 0 3=some [a,b,c]:=Ay rfl;have zz:∀{m:G6} {i j:Nat} {x:List D} {n:Nat},j≠i->Ag (m.put [i] 0 x) [j] 0 n=Ag m [j] 0 n:=λh=>AH (by simp[h])
  simp (disch:=first|assumption|omega)only[↓C2,G_,simprocAttr,h1,h15,h2,h16,h17,t,z,Ql,q,na,u,zz,Ab e,d,Qy,and_self,Zw,ZM];exact ih _ _ O h1 h15 h2 h16 rfl
def aFm(nl nl':Bool)(l:List Tk)(hl:l.length<=1000000)(o:∀k∈l,k.2.2.2.length<=1000000):aFn [.slice nl [] (AL l),.slice nl' [] (AL l),.fn 77 []]=some (.bool true):=by
 refine Al (Qa rfl) ?_;have a:aOf 77=some (Ac gU):=rfl;unfold aDw;have r:(AL l).length=l.length:=Qo ..;simp only[G7,↓C2,GY,simprocAttr,r,bne_self_eq_false];refine cZ a (nl:=nl) (nl':=nl') hl o (λx=>?_) l.length 0 _ _ O rfl rfl rfl rfl rfl;simp only[G7,↓C2,GY,simprocAttr]
 all_goals exact Y0
def aOl:=Ao [(76,Ac aFn)]
def aFE:=RF aOl aDI [.t 4] 10
def aQo:Kq aFE 33:=Am (Ai func33) (Aa aQb Ad)
def aFD(nl nl':Bool)(l:List Tk)(hl:l.length<=1000000)(o:∀k∈l,k.2.2.2.length<=1000000):aFE [.agg [.slice nl [] (AL l)],.agg [.slice nl' [] (AL l)]]=some (.bool true):=by
 refine Al (Qa rfl) ?_;unfold aDI;have a:=aFm nl nl' l hl o;simp only[G7,↓C2,GY,simprocAttr,Ae aOl 76,a]
 all_goals exact Y0
def aEQ:=Ao [(32,Ac aFG),(33,Ac aFE)]
def aFv:=RF aEQ aDC [.t 4] 38
def aQj:Kq aFv 46:=Am (Ai func46) (Aa aQp (Aa aQo Ad))
def gV(v:Vw)(j:v.ms.length<=1000000)(hl:v.ks.length<=1000000)(o:∀k∈v.ks,k.2.2.2.length<=1000000):aFv [H4 v,H4 v]=some (.bool true):=by
 refine Al (Qa rfl) ?_;unfold aDC;have q:=aFF v.nlm v.nlm v.ms j;have z:=aFD v.nlt v.nlt v.ks hl o;simp only[H4,HN];simp only[G7,↓C2,GY,simprocAttr,Ae aEQ 32,q,Ae aEQ 33,z,beq_self_eq_true]
 all_goals exact Y0
def gL:=Ao [(46,Ac aFv),(47,Ac sS)]
def Sk:=RF gL mA [.t 4] 24
def aQs:Kq Sk 16:=Am (Ai func16) (Aa aQj (Aa aPy Ad))
def sP(m:Md)(j:m.vw.ms.length<=1000000)(hl:m.vw.ks.length<=1000000)(o:∀k∈m.vw.ks,k.2.2.2.length<=1000000)(y:Tr.Ord m.tr.lst)(w:m.tr.cnt<=400000):Sk [.agg (Hl m),.agg (Hl m)]=some (.bool true):=by
 refine Al (Qa rfl) ?_;unfold mA;have a:=gV m.vw j hl o;have b:=aJ5 y w;simp only[Hl,H4,HN,Qx,QA]at a ⊢;simp (disch:=first|assumption|omega)only[G7,↓C2,GY,simprocAttr,Hk,Ae gL 46,a,Ae gL 47,b,beq_self_eq_true]
 all_goals exact Y0
def aJY(m o:Md)(y:m.vw=o.vw)(i:m.room=o.room)(j:m.vw.ms.length<=1000000)(hl:m.vw.ks.length<=1000000)(n:∀k∈m.vw.ks,k.2.2.2.length<=1000000)(w:m.tr.cnt≠o.tr.cnt):Sk [.agg (Hl m),.agg (Hl o)]=some (.bool false):=by
 refine Al (Qa rfl) ?_;unfold mA;have a:=gV m.vw j hl n;have b:=aJ6 w;obtain⟨r,f,z⟩:=m;obtain⟨v,q,c⟩:=o;simp only at y i a b;subst y i;simp only[Hl,H4,HN,Qx,QA]at a ⊢;simp (disch:=first|assumption|omega)only[G7,↓C2,GY,simprocAttr,Hk,Ae gL 46,a,Ae gL 47,b,beq_self_eq_true]
 all_goals exact Y0
def aOo:=Ao [(35,Ac Un)]
def aFK:=RF aOo aDM [.t 2] 9
def aQr:Kq aFK 17:=Am (Ai func17) (Aa U8 Ad)
def aFJ(m:Md)(i:m.room≠0)(u:TrS m.tr):aFK [.agg (Hl m)]=some (.int .i64 ((Tr.weighL m.tr.lst:Nat):Int)):=by
 refine Al (Qa rfl) ?_;unfold aDM;have n:=I7 u;have z:(m.room=0)=False:=eq_false i;simp only[Hl,HN,Qx,QA];simp (disch:=first|assumption|omega)only[G7,↓C2,GY,simprocAttr,Hk,Ae aOo 35,n,z]
 all_goals exact Y0
def aXg:=Ao []
def sO:=RF aXg aDL [.t 2] 5
def aQq:Kq sO 18:=Am (Ai func18) Ad
def aFI(m:Md):sO [.agg (Hl m)]=some (.int .i64 m.room):=by
 refine Al (Qa rfl) ?_;unfold aDL;simp only[Hl,HN,Qx,QA];simp (disch:=first|assumption|omega)only[G7,↓C2,GY,simprocAttr,Hk]
 all_goals exact Y0
def aOg:=Ao [(26,Ac aJE)]
def Uj:=RF aOg aDy [.t 4] 15
def aQd:Kq Uj 71:=Am (Ai func71) (Aa aLn Ad)
def Si(k:Int)(name:Bs)(hl:name.length<=1000000):Uj [.int .u8 k,.str name]=some (.str (Aw k name 0)):=by
 refine Al (Qa rfl) ?_;unfold aDy;have a:=sE k 0 name hl;simp only[G7,↓C2,GY,simprocAttr,Ae aOg 26,a]
 all_goals exact Y0
def Hg:Bs:=[114,111,111,116]
def Mu:Bs:=[115,47,114,105,110,103]
def P7:Bs:=[115,47,109,111,117,110,116,115]
def W9:Bs:=[116,47,114,111,111,116]
def W8:Bs:=Cj [[],BA (Bl [([],63)])]
def Ms:Bs:=List.replicate 17 0
def firstE:Tr:=((Tr.nil.put Mu Ms).put P7 []).put W9 W8
def Np:=Ao [(80,Ac F48),(81,Ac F35),(82,Ac yW),(84,Ac RP),(85,Ac aE2),(86,Ac zO),(71,Ac Uj),(83,Ac sM)]
def sN:=RF Np aDH [.cell (some 1) 0] 30
def aCa:Kq sN 36:=Am (Ai func36) (Aa aTr (Aa aTv (Aa aLs (Aa aLv (Aa aLu (Aa aBn (Aa aQd (Aa aB9 Ad))))))))
def Sj:sN []=some (.agg [Hh firstE]):=by
 refine Al (Qa rfl) ?_;unfold aDH;have f:F48 []=some (.agg [.slice false [] (AL [CJ])]):=rfl;have n:F35 [.agg [.slice false [] (AL [CJ])],.str [114,111,111,116]]=some (.tup [PK CJ,.bool true]):=aF4 V (λk o=>by rw[Qm.1 o];exact⟨V,λh=>Xc⟩);have n:=(n:F35 _=_);unfold PK CJ at n;have g:yW [PK CJ]=some (.tup [.str W8,.int .i64 0]):=sG [114,111,111,116] [] false [([],63)] (BA (Bl [([],63)])) (Cg [([],63)]) (by rw[Wn V (λr i=>by rw[Qm.1 i];decide) V V];rfl) (by rw[Wl V (λr i=>by rw[Qm.1 i];decide)];rfl) V Xi;unfold PK CJ at g;have a:aE2 [.int .i64 1]=some (.int .i64 17):=sH 1;have d:RP [.str [0],.int .i64 17]=some (.str Ms):=rfl;have b:zO [.agg [.slice true [] (AA [])]]=some (.str []):=Wm ⟨V,λm j=>by cases j⟩;have w:Uj [.int .u8 5,.str []]=some (.str Mu):=Si 5 [] V;have p:Uj [.int .u8 4,.str []]=some (.str P7):=Si 4 [] V;have z:Uj [.int .u8 3,.str [114,111,111,116]]=some (.str W9):=Si 3 [114,111,111,116] V;have t:=Nr Tr.nil Mu Ms V V;have c:=Nr (Tr.nil.put Mu Ms) P7 [] V V;have s:=Nr ((Tr.nil.put Mu Ms).put P7 []) W9 W8 V Xi;rw[Lb]at t;unfold firstE;generalize (((Tr.nil.put Mu Ms).put P7 []).put W9 W8)=v at *;generalize ((Tr.nil.put Mu Ms).put P7 [])=e at *;generalize (Tr.nil.put Mu Ms)=q at *;simp only[AL,PK,CJ,AA,Qg,Qn]at f n b
 repeat' (first|(refine As.intro (An ?_) ?_;first|rfl|simp[AX,AI,Hr,Aj,Ac])|simp (disch:=first|assumption|omega)only[G7,↓C2,GY,simprocAttr,Hk,Ae Np 80,f,Ae Np 81,n,Ae Np 82,g,Ae Np 85,a,Ae Np 84,d,Ae Np 86,b,Ae Np 71,w,p,z,Ae Np 83,t,c,s])
def Vu:Tr.weighL firstE.lst<=300:=Xi
def aCI:21<=Tr.weighL firstE.lst:=Xi
def vZ:Tr.Ord firstE.lst:=by
 have z:Tr.Ord Tr.nil.lst:=List.Pairwise.nil;have u:=(DP (1,Mu,Ms) z).1;have f:=(DP (1,P7,[]) u).1;exact(DP (1,W9,W8) f).1
def eF:∀x∈firstE.lst,x.1.length<=100∧x.2.length<=400:=Xi
def qG{room:Int}(h:300<=room)(f:room<=70000):yR firstE room:=⟨vZ,λx q=>(eF x q).1,λx q=>(eF x q).2,by have:=Vu;omega,f⟩
def O5:TrS firstE:=(qG (room:=300) (Ze _) V).trS
def zS:Md:=⟨⟨false,0,[],true,[],true,[]⟩,.nil,0⟩
def Re(z:Bs)(room:Int):Md:=⟨aH6 z false,firstE,room⟩
def Ui:=Ao [(36,Ac sN),(35,Ac Un),(78,Ac F23)]
def Ns:=RF Ui VT [.cell (some 7) 4,.t 5] 26
def aCb:Kq Ns 34:=Am (Ai func34) (Aa aCa (Aa U8 (Aa aX7 Ad)))
def gX(z:Bs)(room:Int)(n:z.length=16)(i:room<=1048576)(f:(Tr.weighL firstE.lst:Int)<=room):Ns [.str z,.int .i64 room]=some (.tup [.agg (Hl (Re z room)),.int .i64 0]):=by
 refine Al (Qa rfl) ?_;unfold VT;have r:=I7 O5;have d:=Sj;have o:F23 [.str z]=some (H4 (aH6 z false)):=rfl;have c1:((z.length:Int)=16)=True:=eq_true O;have p:((1048576:Int)<room)=False:=eq_false O;have y:(room<(Tr.weighL firstE.lst:Int))=False:=eq_false O;simp only[Re,Hl,H4,HN,Qx,QA]at o ⊢;generalize firstE=t at *
 repeat' (first|(refine As.intro (An ?_) ?_;first|rfl|simp[AX,AI,Hr,Aj,Ac])|simp (disch:=first|assumption|omega)only[G7,↓C2,GY,simprocAttr,Hk,Ae Ui 36,d,Ae Ui 35,r,Ae Ui 78,o,c1,p,y,bne_self_eq_false])
def yZ(z:Bs)(room:Int)(o:z.length≠16):Ns [.str z,.int .i64 room]=some (.tup [.agg (Hl zS),.int .i64 2]):=by
 refine Al (Qa rfl) ?_;unfold VT;have c1:((z.length:Int)=16)=False:=eq_false O;simp only[zS,Hl,HN,Qx,QA,Lb]
 repeat' (first|(refine As.intro (An ?_) ?_;first|rfl|simp[AX,AI,Hr,Aj,Ac])|simp (disch:=first|assumption|omega)only[G7,↓C2,GY,simprocAttr,Hk,c1])
 all_goals exact Y0
def nL(z:Bs)(room:Int)(o:z.length=16)(i:room<=1048576)(f:room<(Tr.weighL firstE.lst:Int)):Ns [.str z,.int .i64 room]=some (.tup [.agg (Hl zS),.int .i64 7]):=by
 refine Al (Qa rfl) ?_;unfold VT;have n:=I7 O5;have d:=Sj;have c1:((z.length:Int)=16)=True:=eq_true O;have p:((1048576:Int)<room)=False:=eq_false O;have y:(room<(Tr.weighL firstE.lst:Int))=True:=eq_true O;simp only[zS,Hl,HN,Qx,QA,Lb];generalize firstE=t at *
 repeat' (first|(refine As.intro (An ?_) ?_;first|rfl|simp[AX,AI,Hr,Aj,Ac])|simp (disch:=first|assumption|omega)only[G7,↓C2,GY,simprocAttr,Hk,Ae Ui 36,d,Ae Ui 35,n,c1,p,y])
 all_goals exact Y0
def Vp:Bs:=[48,49,50,51,52,53,54,55,56,57,97,98,99,100,101,102]
def aER:=Ao [(34,Ac Ns),(11,Ac BF)]
def aFO:=RF aER aDP [.cell (some 7) 4,.t 5] 38
def aQv:Kq aFO 10:=Am (Ai func10) (Aa aCb (Aa kQ Ad))
def Tq(l:List Bs):Int:=if 40<l.length then 1 else if l.all (λs=>decide (s.length<=500))=true then 0 else 1
def aXi:=Ao []
def aFQ:=RF aXi aDR [.t 2] 19
def aQx:Kq aFQ 8:=Am (Ai func8) Ad
def dD{S:GZ}{l:List Bs}{nl:Bool}{Q:Ex->St->Prop}(hl:l.length<=40){R:Int}(a:∀p,p.s 2= .int .i64 R->Q .ret p)(o:∀p,R=0->Q (.exit 0) p):
  ∀(f j:Nat)(y:St) g,l.length=j+f->(if(l.drop j).all (λs=>decide (s.length<=500))=true then(0:Int)else 1)=R->y.s 0= .slice nl [] (strsD l)->y.s 3= .int .i64 (j:Int)->Ba S [] Nc Q y g
 |0,j,y,g,hf,hR,h0,h3=>by
  refine Af Nc.eq_1 ?_;have t:((j:Int)<l.length)=False:=eq_false O;rw[Zd O]at hR;have r:=AS l;simp only[G7,↓C2,GY,simprocAttr,h0,h3,t,r];exact o _ hR.symm
 |f+1,j,y,g,hf,hR,h0,h3=>by
  have ih:=dD (S:=S) (nl:=nl) hl a o f (j+1);refine Af Nc.eq_1 ?_;have t:((j:Int)<l.length)=True:=eq_true O;have d:j<l.length:=O
  have q:=DK d;have r:=AS l;rw[QJ d,List.all_cons]at hR;generalize l[j]=x at q hR;obtain⟨e,b,c⟩:=y;simp only at h0 h3;have m:=nJ (j:=j);have na:IntKind.i64.wrap ((j:Int)+1)=((j+1:Nat):Int):=Hu O O;by_cases w:x.length<=500
  ·have c1:((500:Int)<(x.length:Int))=False:=eq_false O;rw[decide_eq_true w,Bool.true_and]at hR;simp only[G7,↓C2,GY,simprocAttr,h0,h3,t,r,m,Ql,q,na,c1];exact ih _ _ O hR h0 rfl
  ·have c1:((500:Int)<(x.length:Int))=True:=eq_true O;rw[decide_eq_false w,Bool.false_and]at hR;simp only[Zh,if_false]at hR;subst hR;simp only[G7,↓C2,GY,simprocAttr,h0,h3,t,r,m,Ql,q,na,c1];exact a _ rfl
def hZ(nl:Bool)(l:List Bs):aFQ [.slice nl [] (strsD l)]=some (.int .i64 (Tq l)):=by
 refine Al (Qa rfl) ?_;unfold aDR;have r:=AS l;unfold Tq;by_cases o:40<l.length
 ·rw[if_pos o];have c1:((40:Int)<(l.length:Int))=True:=eq_true O;simp only[G7,↓C2,GY,simprocAttr,r,c1]
  all_goals exact Y0
 ·rw[if_neg o];have c1:((40:Int)<(l.length:Int))=False:=eq_false O;simp only[G7,↓C2,GY,simprocAttr,r,c1];refine dD (nl:=nl) O (R:=if l.all (λs=>decide (s.length<=500))=true then(0:Int)else 1) (λx f=>?_) (λx h=>?_) l.length 0 _ _ O rfl rfl rfl
  ·simp only[G7,↓C2,GY,simprocAttr,f]
   all_goals exact Y0
  ·rw[h];simp only[G7,↓C2,GY,simprocAttr]
   all_goals exact Y0
def aIi(b:Bool):0<=BK b∧BK b<=99:=by cases b<;>decide
def aHo(s:Bs):0<=(EP s).2.2∧(EP s).2.2<=99:=by
 have:=UY ((splitC 44 s).map OJ);unfold EP
 repeat' split
 all_goals simp only
 all_goals omega
def aHn(s:Bs)(h:(EP s).1=true):(EP s).2.1=[]:=by
 unfold EP at h ⊢
 repeat' split
 all_goals first|rfl|(simp_all;done)
def aLD{α:Type}(P:α->Prop){c:Prop}[Decidable c]{x y:α}(u:P x)(f:P y):P (if c then x else y):=by
 split
 ·exact u
 ·exact f
def aA0(a:Ak)(c:Int)(s:Bs):0<=(A1 a c s).2∧(A1 a c s).2<=99:=by
 unfold A1
 repeat' refine aLD (λz:Ak×Int=>0<=z.2∧z.2<=99) ?_ ?_
 all_goals dsimp only
 all_goals with_reducible first|exact TS _ _|exact aIi _|exact aHo _|exact⟨V,V⟩
def aPk{a:Ak}(x:H7 a){c:Int}{s:Bs}(j:s.length<=400):H7 (A1 a c s).1:=by
 have f:=aA8 s j;have h3:=aHn s;have h:Gv (A1 a c s).1.rs∧((A1 a c s).1.nlr=true->(A1 a c s).1.rs=[]):=by
  unfold A1
  repeat' refine aLD (λz:Ak×Int=>Gv z.1.rs∧(z.1.nlr=true->z.1.rs=[])) ?_ ?_
  all_goals first|exact⟨x.cap,x.nlr⟩|exact⟨λr i=>(f.2 r i).2,h3⟩
 exact⟨UR x.ok j,h.1,h.2⟩
def aEj{op:Int}(z:0<=op)(h:op<=18):H7 {akZ with op:=op}:={ok:=aEr z h,cap:=λr i=>(by cases i),nlr:=λ_=>rfl}
def gB:H7 akZ:=aEj (op:=0) V V
def oV:∀(ls:Bs)(k:List Bs){a:Ak},H7 a->(∀w∈k,w.length<=400)->H7 (AD a ls k).1∧0<=(AD a ls k).2∧(AD a ls k).2<=99
 |[],_,a,ha,_=>⟨ha,X1,X1⟩
 |_::_,[],a,_,_=>⟨gB,X1,X1⟩
 |c::ls,w::k,a,ha,hw=>by
  have u:=aA0 a (c.toNat:Int) w;simp only[AD];split
  ·exact⟨gB,u.1,u.2⟩
  ·exact oV ls k (aPk ha (hw w QB)) λx q=>hw x (Qw _ q)
def OC(s:Bs):H7 (Cd s).1∧0<=(Cd s).2∧(Cd s).2<=99:=by
 unfold Cd;split
 ·exact⟨gB,V,V⟩
 split
 ·exact⟨gB,V,V⟩
 split
 ·exact⟨gB,V,V⟩
 ·have h:=aBg ((splitC 32 s).getD 0 []);refine oV _ _ (aEj h.1 h.2) λw t=>?_
  have:=F4 s w (List.mem_of_mem_drop t);omega
structure aN8 (m:Md) (s:Bs) (m':Md) (y:Ry):Prop where
 run:BF [.agg (Hl m),.str s]=some (.tup [.agg (Hl m'),.str (HD y)])
 e:H3 y=0
 n:oO y
 md:Sr m'
 room:m'.room=m.room
 key:m'.vw.key=m.vw.key
 fl:(∃e,y= .fail e)->m'=m
 bad:(Cd s).2≠0->y= .fail (Cd s).2∧m'=m
 ro:((Cd s).1.op=1∨(Cd s).1.op=9∨(Cd s).1.op=14∨(Cd s).1.op=17)->m'=m
def WR{m:Md}(j:Sr m)(i:m.room≠0)(s:Bs)(hl:s.length<=1000000):∃m' y,aN8 m s m' y:=by
 obtain⟨q,b1,b⟩:=OC s;by_cases v:(Cd s).2=0
 ·obtain⟨z,X,_⟩:=aIm j.vw q;have c:Cd s=((Cd s).1,0):=Prod.ext rfl v;have ma:=Lt i hl c j X;obtain⟨g,k,o,r⟩:=P_ j X;have x:Iq m.vw (Cd s).1 (ED z m):=by rw[r];exact X.rep k o (by rw[←r];exact g)
  obtain⟨u,f,a,⟨y,n,w,d,e⟩,p⟩:=MR j x;rw[d]at ma;exact⟨_,y,ma,n,w,u,f,a,e,λh=>absurd v h,p⟩
 ·exact⟨m,.fail (Cd s).2,sQ i hl rfl ⟨O,b⟩,if_pos ⟨O,b⟩,trivial,j,rfl,rfl,λ_=>rfl,λ_=>⟨rfl,rfl⟩,λ_=>rfl⟩
def Sr.same{m:Md}(h:Sr m):Sk [.agg (Hl m),.agg (Hl m)]=some (.bool true):=
 sP m (Qh h.vw.ml V) (Qh h.vw.kl V) (λk o=>(h.vw.ok.kp k o).1.1) h.tr.ord (Qh h.tr.cnt V)
def vI:SP [CJ]:=by
 refine⟨λi j u f=>by simp at f;omega,⟨λs=>if s=[]then 0 else 1,⟨λt q=>?_,λt q=>?_,List.pairwise_singleton _ _⟩,rfl⟩,λt q=>?_,λt q=>?_,λt q _=>?_,λt q _=>?_⟩
 ·rw[Qm.1 q];decide
 ·rw[Qm.1 q];decide
 ·rw[Qm.1 q];decide
 ·rw[Qm.1 q];exact .inl rfl
 ·rw[Qm.1 q];rfl
 ·rw[Qm.1 q];rfl
def aQz(z:Bs):Hx (aH6 z false):=
 ⟨⟨Qt _,λm a=>(by cases a),Qa rfl,λk o=>(by rw[Qm.1 o];exact⟨⟨V,λh=>Xc⟩,V,λr x=>(by rw[Qm.1 x];decide),λr x=>(by rw[Qm.1 x];decide)⟩)⟩,vI,λi j u f=>absurd f (by show ¬j<0;omega),λ_=>rfl,⟨Ze 1,(by show(1:Int)<=6;decide)⟩,Qa rfl,Qt _,λm a=>(by cases a)⟩
def aLb{r:Int}(z:0<=r)(u:r<65536):Sr (Re Vp (300+r)):=⟨aQz _,qG (by show(300:Int)<=300+r;omega) (by show(300:Int)+r<=70000;omega)⟩
def Dd(l:List Bs):Nat:=(l.map λw=>1+w.length).sum
def Le{q:UInt8}:∀s:Bs,Dd (splitC q s)=s.length+1
 |[]=>by simp[splitC,Dd]
 |c::r=>by
  have ih:=Le (q:=q) r;have p:=Ci (q:=q) r;unfold splitC;split
  ·simp only[Dd,Qg,Qp,Qd,Qb]at ih ⊢;omega
  ·cases h:splitC q r with
   |nil=>exact absurd h p
   |cons x t=>
    rw[h]at ih;simp only[Dd,Qg,Qp,Qb]at ih ⊢;omega
def NM:∀{l:List Bs},l≠[]->(BA l).length+1=Dd l
 |[],h=>absurd rfl h
 |[x],_=>by simp[BA,Dd];omega
 |x::y::r,_=>by
  have ih:=NM (l:=y::r) U;have e:BA (x::y::r)=x++44::BA (y::r):=by simp[BA]
  rw[e];simp only[Dd,Qg,Qp,Qf,Qb]at ih ⊢;omega
def iT:∀{l m:List Bs},l.length=m.length->(∀i,i<l.length->(l.getD i []).length<=(m.getD i []).length)->Dd l<=Dd m
 |[],[],_,_=>Qe _
 |[],_::_,h,_=>Xd
 |_::_,[],h,_=>Xd
 |x::l,y::m,h,hh=>by
  have z:=hh 0 U;have ih:=iT (l:=l) (m:=m) Xl λi hi=>by simpa using hh (i+1) XZ
  simp only[Dd,Qg,Qp]at ih ⊢;simp at z;omega
def PE:∀(n:Nat)(s x:Bs),s.length<=n->CX s=some x->s.length=2*x.length
 |0,s,x,h,e=>by
  match s,h with
  |[],_=>cases e;rfl
 |n+1,s,x,h,e=>by
  match s,h,e with
  |[],_,e=>cases e;rfl
  |[_],_,e=>cases e
  |a::b::r,h,e=>
   rw[Mh]at e;split at e
   ·cases e
   ·obtain⟨y,j,rfl⟩:=QN.1 e;have:=PE n r y XL j;simp only[Qb];omega
def Gm(s:Bs):(Cl s).length=2*s.length:=by
 induction s with
 |nil=>rfl
 |cons c r ih=>
  show([_,_]++Cl r).length=_;rw[Qf,ih];simp only[Qb,Qd];omega
def aPM:∀o:Fin 64,∀k:Fin 6,(Go.Ve.lettersN (o.val|||2 ^ k.val)).length<=(Go.Ve.lettersN o.val).length+1∧(o.val|||2 ^ k.val)<64:=Xi
def fL(s:Bs):∀(f p k o:Nat),k<=6->o<64->p+f=s.length->(RU s f p k o).2=true->(Go.Ve.lettersN (RU s f p k o).1).length<=(Go.Ve.lettersN o).length+f
 |0,p,k,o,hk6,ho,hf,h=>by simp[RU]
 |f+1,p,k,o,hk6,ho,hf,h=>by
  unfold RU at h ⊢;rw[if_pos O]at h ⊢;by_cases c:Di (Ho s p) (6-k) k=6
  ·rw[if_pos c]at h;cases h
  ·rw[if_neg c]at h ⊢;have n:Di (Ho s p) (6-k) k<6:=by
    have:=(O_ (Ho s p) (6-k) k hk6).2;omega
   have u:=aPM ⟨o,ho⟩ ⟨_,n⟩;simp only at u;have:=fL s f (p+1) _ _ O u.2 O h;omega
def pI(s:Bs)(j:s.length<=3):∀(f p:Nat)(n:Int),0<=n->n<=bN p->p+f=s.length->zR s f p n<=bN s.length
 |0,p,n,h0,h1,h2=>by unfold zR;rw[←h2];exact h1
 |f+1,p,n,h0,h1,h2=>by
  unfold zR;rw[if_pos O];split
  ·exact pI s j f (p+1) _ O (VY h1 O O) O
  ·have:0<=bN s.length:=by unfold bN;repeat' split<;>omega
   omega
def Va{s:Bs}(h:0<=HU s):(BJ (HU s).toNat).length<=s.length∧1<=s.length:=by
 unfold HU at h ⊢;split at h
 ·omega
 rename_i w;rw[if_neg w];simp only[not_or]at w;have u:1<=s.length:=by cases s with|nil=>exact absurd rfl w.1|cons=>simp
 have m:=pI s O s.length 0 0 (Ze _) V O;refine⟨?_,u⟩;generalize zR s s.length 0 0=x at *;unfold BJ;rcases(by omega:s.length=1∨s.length=2∨s.length=3)with e|e|e<;>rw[e]at m ⊢
 ·rw[show bN 1=9 from rfl]at m;rw[if_pos O];simp
 ·rw[show bN 2=99 from rfl]at m;split
  ·simp
  ·rw[if_pos O];simp
 ·repeat' split
  all_goals simp
def TQ{b:Bool}(h:BK b=0):b=true:=by cases b with|true=>rfl|false=>exact absurd h V
def U1(x:Bs):(Wq x).length<=max 1 x.length:=by
 unfold Wq;split
 ·exact Nat.le_max_left _ _
 ·exact Nat.le_max_right _ _
def aBW{s:Bs}(h:countB ((splitC 44 s).map HU)=true):(Wq (BA (CR ((splitC 44 s).map HU)))).length<=s.length:=by
 unfold countB at h;simp only[Q2,decide_eq_true_eq,ZB,Zm,QM]at h;have d:∀w∈splitC 44 s,0<=HU w:=λw t=>by
  have:=h.2 (HU w) ⟨w,t,rfl⟩;simp at this;omega
 have p:=Ci (q:=44) s;have n:=Le (q:=44) s;have u:1<=s.length:=by
  cases s with
  |nil=>exact absurd (d [] (by simp[splitC])) V
  |cons=>simp
 have e:CR ((splitC 44 s).map HU)=(splitC 44 s).map λw=>BJ (HU w).toNat:=by simp[CR,Zr,Function.comp_def]
 have r:=NM (l:=CR ((splitC 44 s).map HU)) (by rw[e];simpa using p);have hl:Dd (CR ((splitC 44 s).map HU))<=Dd (splitC 44 s):=iT (by rw[e,Qo]) λi hi=>by
  rw[e]at hi ⊢;rw[Qo]at hi;rw[QQ,QQ,QE,Qi hi];exact(Va (d _ (QD hi))).1
 have:=U1 (BA (CR ((splitC 44 s).map HU)));omega
def aAI{x:Bs}(h:IB x=true):(Og (OJ x)).length<=x.length:=by
 unfold IB at h;simp only[Q2]at h;obtain⟨u,f⟩:=h;unfold Og OJ;have w:(L9 (BB x 58).2.1).2=true:=f;have hl:=fL (BB x 58).2.1 (BB x 58).2.1.length 0 0 0 V V O w;have p:(Go.Ve.lettersN 0).length=0:=rfl;have q:(BB x 58).1.length+1+(BB x 58).2.1.length=x.length:=by
  unfold BB at u ⊢;split at u
  ·cases u
  ·rename_i hi;rw[if_neg hi];have k:(Lib.indexByte x 58).toNat<x.length:=(Zl.1 (Lib.indexByte_some (l:=x) (c:=58) (o:=(Lib.indexByte x 58).toNat) O).1).1;simp only[ZE,List.length_drop];omega
 simp only[Qf,Qb,Qd,Ql];have:(Go.Ve.lettersN (L9 (BB x 58).2.1).1).length<=(BB x 58).2.1.length:=by unfold L9;omega
 omega
def vF{s:Bs}(j:s≠[])(h:(EP s).2.2=0):(Wq (if Cg (EP s).2.1=0 then BA (Bl (EP s).2.1)else [])).length<=s.length∧Cg (EP s).2.1=0:=by
 unfold EP at h ⊢;rw[if_neg j]at h ⊢;by_cases u:(splitC 44 s).all IB=false
 ·rw[if_pos u]at h;exact absurd h V
 rw[if_neg u]at h ⊢;by_cases f:Cg ((splitC 44 s).map OJ)≠0
 ·rw[if_pos f]at h;exact absurd h f
 rw[if_neg f];have k:=Decidable.not_not.1 f;have z:(splitC 44 s).all IB=true:=XU
 refine⟨?_,k⟩;rw[if_pos k];have p:=Ci (q:=44) s;have ht:=Le (q:=44) s;have n:1<=s.length:=by cases s with|nil=>exact absurd rfl j|cons=>simp
 have e:Bl ((splitC 44 s).map OJ)=(splitC 44 s).map λw=>Og (OJ w):=by simp[Bl,Zr,Function.comp_def]
 have d:=NM (l:=Bl ((splitC 44 s).map OJ)) (by rw[e];simpa using p);have hl:Dd (Bl ((splitC 44 s).map OJ))<=Dd (splitC 44 s):=iT (by rw[e,Qo]) λi hi=>by
  rw[e]at hi ⊢;rw[Qo]at hi;rw[QQ,QQ,QE,Qi hi];exact aAI (List.all_eq_true.1 z _ (QD hi))
 have:=U1 (BA (Bl ((splitC 44 s).map OJ)));simp only;omega
def rA{a:Ak}:∀(ls:Bs)(b:Ak),(∀c∈ls,A7 a (c.toNat:Int)=0)->LA a b ls=(0,ls.foldl (λb c=>Dh b (c.toNat:Int)) b)
 |[],b,_=>rfl
 |c::r,b,h=>by
  unfold LA;rw[if_neg (λe=>e (h c QB))];exact rA r _ λx q=>h x (Qw _ q)
def BE{a:Ak}(u:A4 a.op≠[])(f:∀c∈Bk a.op,A7 a (c.toNat:Int)=0)(i:Pz ((Bk a.op).foldl (λb c=>Dh b (c.toNat:Int)) (Ih a))=true)(p:(MG a).length<=400):BQ a=0:=by
 unfold BQ;rw[if_neg u,rA _ _ f];simp only[i];rw[if_neg V,if_neg V,if_neg O]
def cA(w:Bs):∀(f k:Nat),opS w f k≠0->A4 (opS w f k)=w
 |0,k,h=>absurd rfl h
 |f+1,k,h=>by
  unfold opS at h ⊢;by_cases c:A4 (k:Int)=w
  ·rw[if_pos c];exact c
  ·rw[if_neg c]at h ⊢;exact cA w f (k+1) h
def Ap{a:Ak}{c:UInt8}{ls:Bs}{w:Bs}{k:List Bs}{b:Ak}(h:AD a (c::ls) (w::k)=(b,0)):(A1 a (c.toNat:Int) w).2=0∧AD (A1 a (c.toNat:Int) w).1 ls k=(b,0):=by
 simp only[AD]at h;by_cases e:(A1 a (c.toNat:Int) w).2=0
 ·rw[if_neg (λh=>h e)]at h;exact⟨e,h⟩
 ·rw[if_pos e]at h;exact absurd (ZQ.1 h).2 e
def Bf{a b:Ak}{k:List Bs}(h:AD a [] k=(b,0)):b=a:=((ZQ.1 h).1).symm
def Lv{a:Ak}{w:Bs}(h:(A1 a 116 w).2=0):(A1 a 116 w).1={a with tk:=w}∧BK (BT w)=0:=⟨rfl,h⟩
def OM{a:Ak}{w:Bs}(h:(A1 a 112 w).2=0):(A1 a 112 w).1={a with pa:=w}∧AF w=0:=⟨rfl,h⟩
def aTd{a:Ak}{w:Bs}(h:(A1 a 109 w).2=0):(A1 a 109 w).1={a with ot:=w}∧BK (BT w)=0:=⟨rfl,h⟩
def aXO{a:Ak}{w:Bs}(h:(A1 a 113 w).2=0):(A1 a 113 w).1={a with ot:=w}∧AF w=0:=⟨rfl,h⟩
def aPm{a:Ak}{w:Bs}(h:(A1 a 110 w).2=0):(A1 a 110 w).1={a with n:=HU w}∧BK (decide (0<=HU w∧HU w<=999))=0∧(BJ (HU w).toNat).length<=w.length:=by
 have z:BK (decide (0<=HU w∧HU w<=999))=0:=h;have:=of_decide_eq_true (TQ z);exact⟨rfl,z,(Va this.1).1⟩
def aXR{a:Ak}{w:Bs}(h:(A1 a 99 w).2=0):∃x,(A1 a 99 w).1={a with cas:=x}∧BK (decide (-1<=x∧x<=999))=0∧(if x=-1 then [45]else BJ x.toNat).length<=w.length:=by
 have z:BK (decide (w=[45])||decide (0<=HU w))=0:=h;refine⟨if w=[45]then-1 else HU w,rfl,?_⟩;by_cases t:w=[45]
 ·subst t;exact⟨rfl,Qe _⟩
 ·have f:=TQ z;rw[decide_eq_false t,Bool.false_or]at f;have i:=of_decide_eq_true f;have p:=aUm w;rw[if_neg t];refine⟨by rw[decide_eq_true ⟨O,p.2⟩];rfl,?_⟩;rw[if_neg O];exact(Va i).1
def aTe{a:Ak}{w:Bs}(h:(A1 a 102 w).2=0):∃b,(A1 a 102 w).1={a with fl:=b}∧(if b=true then [49]else [48]:Bs).length<=w.length:=by
 have z:BK (decide (w=[49])||decide (w=[48]))=0:=h;have f:=TQ z;simp only[Bool.or_eq_true,decide_eq_true_eq]at f;refine⟨decide (w=[49]),rfl,?_⟩;have u:w.length=1:=by rcases f with rfl|rfl<;>rfl
 rw[u];split<;>simp
def aPn{a:Ak}{w:Bs}(x:a.ns=[])(h:(A1 a 108 w).2=0):∃nl ns,(A1 a 108 w).1={a with nln:=nl,ns:=ns}∧BK (countB ns)=0∧(Wq (BA (CR ns))).length<=w.length:=by
 by_cases t:w=[45]
 ·subst t;refine⟨a.nln,[],?_,rfl,Qe _⟩;show a=_;obtain⟨a1,s,j,i,v,y,k,p,n,b,r,c,d⟩:=a;simp only at x;rw[x]
 ·have e:A1 a 108 w=({a with nln:=false,ns:=(splitC 44 w).map HU},A7 {a with nln:=false,ns:=(splitC 44 w).map HU} 108):=if_neg t;rw[e]at h ⊢;have z:BK (countB ((splitC 44 w).map HU))=0:=h;exact⟨_,_,rfl,z,aBW (TQ z)⟩
def aXQ{a:Ak}{w:Bs}(p:a.da=[])(h:(A1 a 100 w).2=0):∃da,(A1 a 100 w).1={a with da:=da}∧(Wq (Cl da)).length<=w.length:=by
 by_cases n:w=[45]
 ·subst n;refine⟨[],?_,Qe _⟩;show a=_;obtain⟨a1,s,j,u,v,y,k,g,z,b,r,c,d⟩:=a;simp only at p;rw[p]
 ·have e:A1 a 100 w=({a with da:=(CX w).getD []},BK ((CX w).isSome&&decide (w≠[]))):=if_neg n;rw[e]at h ⊢;have f:=TQ h;simp only[Q2,decide_eq_true_eq,Zo]at f;obtain⟨⟨x,q⟩,o⟩:=f;have i:=PE _ w x (Qe _) q;have t:=U1 (Cl x);rw[Gm]at t;have m:1<=w.length:=by cases w with|nil=>exact absurd rfl o|cons=>simp
  refine⟨_,rfl,?_⟩;rw[q];simp only[QV];omega
def aXN{a:Ak}{w:Bs}(x:a.rs=[])(h:(A1 a 114 w).2=0):∃nl rs,(A1 a 114 w).1={a with nlr:=nl,rs:=rs}∧Cg rs=0∧(Wq (if Cg rs=0 then BA (Bl rs)else [])).length<=w.length:=by
 by_cases t:w=[45]
 ·subst t;refine⟨a.nlr,[],?_,rfl,Qe _⟩;show a=_;obtain⟨a1,s,j,i,v,y,k,p,n,b,r,c,d⟩:=a;simp only at x;rw[x]
 ·by_cases g:w=[]
  ·subst g;exact absurd (show(4:Int)=0 from h) V
  ·have e:A1 a 114 w=({a with nlr:=(EP w).1,rs:=(EP w).2.1},(EP w).2.2):=(if_neg t).trans (if_neg g);rw[e]at h ⊢;obtain⟨u,f⟩:=vF g h;exact⟨_,_,rfl,f,u⟩
def aXP{a:Ak}{w:Bs}(h:(A1 a 107 w).2=0):∃key,(A1 a 107 w).1={a with key:=key}∧BK (decide ((key.length:Int)=16))=0∧(Cl key).length<=w.length∧CX w=some key:=by
 have z:BK ((CX w).isSome&&decide ((((CX w).getD []).length:Int)=16))=0:=h;have f:=TQ z;simp only[Q2,Zo]at f;obtain⟨⟨x,q⟩,hl⟩:=f;refine⟨x,?_,?_,?_,q⟩
 ·show {a with key:=(CX w).getD []}=_;rw[q];rfl
 ·rw[q]at hl;rw[show decide ((x.length:Int)=16)=true from hl];rfl
 ·rw[Gm];exact Zs (PE _ w x (Qe _) q).symm
def uU{w0:Bs}{wr:List Bs}{op:Int}{a:Ak}(u:1<=op)(f:op<=18)(b:A4 op=w0)(g:(w0::wr).length=1+(Bk op).length)(j:Dd (w0::wr)<=401)(h:AD {akZ with op:=op} (Bk op) wr=(a,0)):a.op=op∧BQ a=0:=by
 rcases(by omega:op=1∨op=2∨op=3∨op=4∨op=5∨op=6∨op=7∨op=8∨op=9∨op=10∨op=11∨op=12∨op=13∨op=14∨op=15∨op=16∨op=17∨op=18)with rfl|rfl|rfl|rfl|rfl|rfl|rfl|rfl|rfl|rfl|rfl|rfl|rfl|rfl|rfl|rfl|rfl|rfl
 ·replace h:AD {akZ with op:=1} [] wr=(a,0):=h;replace g:(w0::wr).length=1+0:=g;obtain rfl:wr=[]:=by simpa using g
  obtain rfl:=Bf h;clear h;refine⟨rfl,BE (show A4 1≠[]by decide) (λc w=>(by cases w)) rfl ?_⟩
  ·show(A4 1++[]).length<=400;rw[b];simp only[Dd,Qg,Qn,Qp,QC]at j;simp only[Qf,Qb,Qd];omega
 ·replace h:AD {akZ with op:=2} [107] wr=(a,0):=h;replace g:(w0::wr).length=1+1:=g;obtain⟨s,rfl⟩:∃s,wr=[s]:=by
   match wr,g with
   |[s],_=>exact⟨_,rfl⟩
  obtain⟨n,h⟩:=Ap h;obtain⟨x1,r,i,l1,_⟩:=aXP n;replace h:=(congrArg (λz=>AD z [] []) r).symm.trans h;dsimp only at h;clear n r;obtain rfl:=Bf h;clear h;refine⟨rfl,BE (show A4 2≠[]by decide) (λc w=>?_) rfl ?_⟩
  ·replace w:c∈([107]:Bs):=w;simp only[Qs,Qv,or_false]at w;rcases w with rfl
   ·exact i
  ·show(A4 2++((32::(Cl x1))++[])).length<=400;rw[b];simp only[Dd,Qg,Qn,Qp,QC]at j;simp only[Qf,Qb,Qd];omega
 ·replace h:AD {akZ with op:=3} [116] wr=(a,0):=h;replace g:(w0::wr).length=1+1:=g;obtain⟨s,rfl⟩:∃s,wr=[s]:=by
   match wr,g with
   |[s],_=>exact⟨_,rfl⟩
  obtain⟨n,h⟩:=Ap h;obtain⟨r,i⟩:=Lv n;replace h:=(congrArg (λz=>AD z [] []) r).symm.trans h;dsimp only at h;clear n r;obtain rfl:=Bf h;clear h;refine⟨rfl,BE (show A4 3≠[]by decide) (λc w=>?_) rfl ?_⟩
  ·replace w:c∈([116]:Bs):=w;simp only[Qs,Qv,or_false]at w;rcases w with rfl
   ·exact i
  ·show(A4 3++((32::(s))++[])).length<=400;rw[b];simp only[Dd,Qg,Qn,Qp,QC]at j;simp only[Qf,Qb,Qd];omega
 ·replace h:AD {akZ with op:=4} [116] wr=(a,0):=h;replace g:(w0::wr).length=1+1:=g;obtain⟨s,rfl⟩:∃s,wr=[s]:=by
   match wr,g with
   |[s],_=>exact⟨_,rfl⟩
  obtain⟨n,h⟩:=Ap h;obtain⟨r,i⟩:=Lv n;replace h:=(congrArg (λz=>AD z [] []) r).symm.trans h;dsimp only at h;clear n r;obtain rfl:=Bf h;clear h;refine⟨rfl,BE (show A4 4≠[]by decide) (λc w=>?_) rfl ?_⟩
  ·replace w:c∈([116]:Bs):=w;simp only[Qs,Qv,or_false]at w;rcases w with rfl
   ·exact i
  ·show(A4 4++((32::(s))++[])).length<=400;rw[b];simp only[Dd,Qg,Qn,Qp,QC]at j;simp only[Qf,Qb,Qd];omega
 ·replace h:AD {akZ with op:=5} [116,112,110,102] wr=(a,0):=h;replace g:(w0::wr).length=1+4:=g;obtain⟨s,y,t,q,rfl⟩:∃s y t q,wr=[s,y,t,q]:=by
   match wr,g with
   |[s,y,t,q],_=>exact⟨_,_,_,_,rfl⟩
  obtain⟨n,h⟩:=Ap h;obtain⟨r,i⟩:=Lv n;replace h:=(congrArg (λz=>AD z [112,110,102] [y,t,q]) r).symm.trans h;dsimp only at h;clear n r;obtain⟨v,h⟩:=Ap h;obtain⟨x,k⟩:=OM v;replace h:=(congrArg (λz=>AD z [110,102] [t,q]) x).symm.trans h;dsimp only at h;clear v x;obtain⟨d,h⟩:=Ap h;obtain⟨p,f3,l3⟩:=aPm d;replace h:=(congrArg (λz=>AD z [102] [q]) p).symm.trans h;dsimp only at h;clear d p;obtain⟨o,h⟩:=Ap h;obtain⟨x4,e,l4⟩:=aTe o;replace h:=(congrArg (λz=>AD z [] []) e).symm.trans h;dsimp only at h;clear o e;obtain rfl:=Bf h;clear h;refine⟨rfl,BE (show A4 5≠[]by decide) (λc w=>?_) rfl ?_⟩
  ·replace w:c∈([116,112,110,102]:Bs):=w;simp only[Qs,Qv,or_false]at w;rcases w with rfl|rfl|rfl|rfl
   ·exact i
   ·exact k
   ·exact f3
   ·rfl
  ·show(A4 5++((32::(s))++((32::(y))++((32::(BJ (HU t).toNat))++((32::((if x4=true then [49]else [48]:Bs)))++[]))))).length<=400;rw[b];simp only[Dd,Qg,Qn,Qp,QC]at j;simp only[Qf,Qb,Qd];omega
 ·replace h:AD {akZ with op:=6} [116,112] wr=(a,0):=h;replace g:(w0::wr).length=1+2:=g;obtain⟨s,y,rfl⟩:∃s y,wr=[s,y]:=by
   match wr,g with
   |[s,y],_=>exact⟨_,_,rfl⟩
  obtain⟨n,h⟩:=Ap h;obtain⟨r,i⟩:=Lv n;replace h:=(congrArg (λz=>AD z [112] [y]) r).symm.trans h;dsimp only at h;clear n r;obtain⟨v,h⟩:=Ap h;obtain⟨x,k⟩:=OM v;replace h:=(congrArg (λz=>AD z [] []) x).symm.trans h;dsimp only at h;clear v x;obtain rfl:=Bf h;clear h;refine⟨rfl,BE (show A4 6≠[]by decide) (λc w=>?_) rfl ?_⟩
  ·replace w:c∈([116,112]:Bs):=w;simp only[Qs,Qv,or_false]at w;rcases w with rfl|rfl
   ·exact i
   ·exact k
  ·show(A4 6++((32::(s))++((32::(y))++[]))).length<=400;rw[b];simp only[Dd,Qg,Qn,Qp,QC]at j;simp only[Qf,Qb,Qd];omega
 ·replace h:AD {akZ with op:=7} [116,109,114] wr=(a,0):=h;replace g:(w0::wr).length=1+3:=g;obtain⟨s,y,t,rfl⟩:∃s y t,wr=[s,y,t]:=by
   match wr,g with
   |[s,y,t],_=>exact⟨_,_,_,rfl⟩
  obtain⟨n,h⟩:=Ap h;obtain⟨r,i⟩:=Lv n;replace h:=(congrArg (λz=>AD z [109,114] [y,t]) r).symm.trans h;dsimp only at h;clear n r;obtain⟨v,h⟩:=Ap h;obtain⟨x,k⟩:=aTd v;replace h:=(congrArg (λz=>AD z [114] [t]) x).symm.trans h;dsimp only at h;clear v x;obtain⟨d,h⟩:=Ap h;obtain⟨y3,m,p,f3,l3⟩:=aXN rfl d;replace h:=(congrArg (λz=>AD z [] []) p).symm.trans h;dsimp only at h;clear d p;obtain rfl:=Bf h;clear h;refine⟨rfl,BE (show A4 7≠[]by decide) (λc w=>?_) rfl ?_⟩
  ·replace w:c∈([116,109,114]:Bs):=w;simp only[Qs,Qv,or_false]at w;rcases w with rfl|rfl|rfl
   ·exact i
   ·exact k
   ·exact f3
  ·show(A4 7++((32::(s))++((32::(y))++((32::(Wq (if Cg m=0 then BA (Bl m)else [])))++[])))).length<=400;rw[b];simp only[Dd,Qg,Qn,Qp,QC]at j;simp only[Qf,Qb,Qd];omega
 ·replace h:AD {akZ with op:=8} [116,109] wr=(a,0):=h;replace g:(w0::wr).length=1+2:=g;obtain⟨s,y,rfl⟩:∃s y,wr=[s,y]:=by
   match wr,g with
   |[s,y],_=>exact⟨_,_,rfl⟩
  obtain⟨n,h⟩:=Ap h;obtain⟨r,i⟩:=Lv n;replace h:=(congrArg (λz=>AD z [109] [y]) r).symm.trans h;dsimp only at h;clear n r;obtain⟨v,h⟩:=Ap h;obtain⟨x,k⟩:=aTd v;replace h:=(congrArg (λz=>AD z [] []) x).symm.trans h;dsimp only at h;clear v x;obtain rfl:=Bf h;clear h;refine⟨rfl,BE (show A4 8≠[]by decide) (λc w=>?_) rfl ?_⟩
  ·replace w:c∈([116,109]:Bs):=w;simp only[Qs,Qv,or_false]at w;rcases w with rfl|rfl
   ·exact i
   ·exact k
  ·show(A4 8++((32::(s))++((32::(y))++[]))).length<=400;rw[b];simp only[Dd,Qg,Qn,Qp,QC]at j;simp only[Qf,Qb,Qd];omega
 ·replace h:AD {akZ with op:=9} [116,112,110] wr=(a,0):=h;replace g:(w0::wr).length=1+3:=g;obtain⟨s,y,t,rfl⟩:∃s y t,wr=[s,y,t]:=by
   match wr,g with
   |[s,y,t],_=>exact⟨_,_,_,rfl⟩
  obtain⟨n,h⟩:=Ap h;obtain⟨r,i⟩:=Lv n;replace h:=(congrArg (λz=>AD z [112,110] [y,t]) r).symm.trans h;dsimp only at h;clear n r;obtain⟨v,h⟩:=Ap h;obtain⟨x,k⟩:=OM v;replace h:=(congrArg (λz=>AD z [110] [t]) x).symm.trans h;dsimp only at h;clear v x;obtain⟨d,h⟩:=Ap h;obtain⟨p,f3,l3⟩:=aPm d;replace h:=(congrArg (λz=>AD z [] []) p).symm.trans h;dsimp only at h;clear d p;obtain rfl:=Bf h;clear h;refine⟨rfl,BE (show A4 9≠[]by decide) (λc w=>?_) rfl ?_⟩
  ·replace w:c∈([116,112,110]:Bs):=w;simp only[Qs,Qv,or_false]at w;rcases w with rfl|rfl|rfl
   ·exact i
   ·exact k
   ·exact f3
  ·show(A4 9++((32::(s))++((32::(y))++((32::(BJ (HU t).toNat))++[])))).length<=400;rw[b];simp only[Dd,Qg,Qn,Qp,QC]at j;simp only[Qf,Qb,Qd];omega
 ·replace h:AD {akZ with op:=10} [116,112,99,100] wr=(a,0):=h;replace g:(w0::wr).length=1+4:=g;obtain⟨s,y,t,q,rfl⟩:∃s y t q,wr=[s,y,t,q]:=by
   match wr,g with
   |[s,y,t,q],_=>exact⟨_,_,_,_,rfl⟩
  obtain⟨n,h⟩:=Ap h;obtain⟨r,i⟩:=Lv n;replace h:=(congrArg (λz=>AD z [112,99,100] [y,t,q]) r).symm.trans h;dsimp only at h;clear n r;obtain⟨v,h⟩:=Ap h;obtain⟨x,k⟩:=OM v;replace h:=(congrArg (λz=>AD z [99,100] [t,q]) x).symm.trans h;dsimp only at h;clear v x;obtain⟨d,h⟩:=Ap h;obtain⟨m,p,f3,l3⟩:=aXR d;replace h:=(congrArg (λz=>AD z [100] [q]) p).symm.trans h;dsimp only at h;clear d p;obtain⟨o,h⟩:=Ap h;obtain⟨x4,e,l4⟩:=aXQ rfl o;replace h:=(congrArg (λz=>AD z [] []) e).symm.trans h;dsimp only at h;clear o e;obtain rfl:=Bf h;clear h;refine⟨rfl,BE (show A4 10≠[]by decide) (λc w=>?_) rfl ?_⟩
  ·replace w:c∈([116,112,99,100]:Bs):=w;simp only[Qs,Qv,or_false]at w;rcases w with rfl|rfl|rfl|rfl
   ·exact i
   ·exact k
   ·exact f3
   ·rfl
  ·show(A4 10++((32::(s))++((32::(y))++((32::((if m=-1 then [45]else BJ m.toNat)))++((32::(Wq (Cl x4)))++[]))))).length<=400;rw[b];simp only[Dd,Qg,Qn,Qp,QC]at j;simp only[Qf,Qb,Qd];omega
 ·replace h:AD {akZ with op:=11} [116,112,108] wr=(a,0):=h;replace g:(w0::wr).length=1+3:=g;obtain⟨s,y,t,rfl⟩:∃s y t,wr=[s,y,t]:=by
   match wr,g with
   |[s,y,t],_=>exact⟨_,_,_,rfl⟩
  obtain⟨n,h⟩:=Ap h;obtain⟨r,i⟩:=Lv n;replace h:=(congrArg (λz=>AD z [112,108] [y,t]) r).symm.trans h;dsimp only at h;clear n r;obtain⟨v,h⟩:=Ap h;obtain⟨x,k⟩:=OM v;replace h:=(congrArg (λz=>AD z [108] [t]) x).symm.trans h;dsimp only at h;clear v x;obtain⟨d,h⟩:=Ap h;obtain⟨y3,m,p,f3,l3⟩:=aPn rfl d;replace h:=(congrArg (λz=>AD z [] []) p).symm.trans h;dsimp only at h;clear d p;obtain rfl:=Bf h;clear h;refine⟨rfl,BE (show A4 11≠[]by decide) (λc w=>?_) rfl ?_⟩
  ·replace w:c∈([116,112,108]:Bs):=w;simp only[Qs,Qv,or_false]at w;rcases w with rfl|rfl|rfl
   ·exact i
   ·exact k
   ·exact f3
  ·show(A4 11++((32::(s))++((32::(y))++((32::(Wq (BA (CR m))))++[])))).length<=400;rw[b];simp only[Dd,Qg,Qn,Qp,QC]at j;simp only[Qf,Qb,Qd];omega
 ·replace h:AD {akZ with op:=12} [116,112,108] wr=(a,0):=h;replace g:(w0::wr).length=1+3:=g;obtain⟨s,y,t,rfl⟩:∃s y t,wr=[s,y,t]:=by
   match wr,g with
   |[s,y,t],_=>exact⟨_,_,_,rfl⟩
  obtain⟨n,h⟩:=Ap h;obtain⟨r,i⟩:=Lv n;replace h:=(congrArg (λz=>AD z [112,108] [y,t]) r).symm.trans h;dsimp only at h;clear n r;obtain⟨v,h⟩:=Ap h;obtain⟨x,k⟩:=OM v;replace h:=(congrArg (λz=>AD z [108] [t]) x).symm.trans h;dsimp only at h;clear v x;obtain⟨d,h⟩:=Ap h;obtain⟨y3,m,p,f3,l3⟩:=aPn rfl d;replace h:=(congrArg (λz=>AD z [] []) p).symm.trans h;dsimp only at h;clear d p;obtain rfl:=Bf h;clear h;refine⟨rfl,BE (show A4 12≠[]by decide) (λc w=>?_) rfl ?_⟩
  ·replace w:c∈([116,112,108]:Bs):=w;simp only[Qs,Qv,or_false]at w;rcases w with rfl|rfl|rfl
   ·exact i
   ·exact k
   ·exact f3
  ·show(A4 12++((32::(s))++((32::(y))++((32::(Wq (BA (CR m))))++[])))).length<=400;rw[b];simp only[Dd,Qg,Qn,Qp,QC]at j;simp only[Qf,Qb,Qd];omega
 ·replace h:AD {akZ with op:=13} [116,112,108] wr=(a,0):=h;replace g:(w0::wr).length=1+3:=g;obtain⟨s,y,t,rfl⟩:∃s y t,wr=[s,y,t]:=by
   match wr,g with
   |[s,y,t],_=>exact⟨_,_,_,rfl⟩
  obtain⟨n,h⟩:=Ap h;obtain⟨r,i⟩:=Lv n;replace h:=(congrArg (λz=>AD z [112,108] [y,t]) r).symm.trans h;dsimp only at h;clear n r;obtain⟨v,h⟩:=Ap h;obtain⟨x,k⟩:=OM v;replace h:=(congrArg (λz=>AD z [108] [t]) x).symm.trans h;dsimp only at h;clear v x;obtain⟨d,h⟩:=Ap h;obtain⟨y3,m,p,f3,l3⟩:=aPn rfl d;replace h:=(congrArg (λz=>AD z [] []) p).symm.trans h;dsimp only at h;clear d p;obtain rfl:=Bf h;clear h;refine⟨rfl,BE (show A4 13≠[]by decide) (λc w=>?_) rfl ?_⟩
  ·replace w:c∈([116,112,108]:Bs):=w;simp only[Qs,Qv,or_false]at w;rcases w with rfl|rfl|rfl
   ·exact i
   ·exact k
   ·exact f3
  ·show(A4 13++((32::(s))++((32::(y))++((32::(Wq (BA (CR m))))++[])))).length<=400;rw[b];simp only[Dd,Qg,Qn,Qp,QC]at j;simp only[Qf,Qb,Qd];omega
 ·replace h:AD {akZ with op:=14} [116,112] wr=(a,0):=h;replace g:(w0::wr).length=1+2:=g;obtain⟨s,y,rfl⟩:∃s y,wr=[s,y]:=by
   match wr,g with
   |[s,y],_=>exact⟨_,_,rfl⟩
  obtain⟨n,h⟩:=Ap h;obtain⟨r,i⟩:=Lv n;replace h:=(congrArg (λz=>AD z [112] [y]) r).symm.trans h;dsimp only at h;clear n r;obtain⟨v,h⟩:=Ap h;obtain⟨x,k⟩:=OM v;replace h:=(congrArg (λz=>AD z [] []) x).symm.trans h;dsimp only at h;clear v x;obtain rfl:=Bf h;clear h;refine⟨rfl,BE (show A4 14≠[]by decide) (λc w=>?_) rfl ?_⟩
  ·replace w:c∈([116,112]:Bs):=w;simp only[Qs,Qv,or_false]at w;rcases w with rfl|rfl
   ·exact i
   ·exact k
  ·show(A4 14++((32::(s))++((32::(y))++[]))).length<=400;rw[b];simp only[Dd,Qg,Qn,Qp,QC]at j;simp only[Qf,Qb,Qd];omega
 ·replace h:AD {akZ with op:=15} [116,112,110,102] wr=(a,0):=h;replace g:(w0::wr).length=1+4:=g;obtain⟨s,y,t,q,rfl⟩:∃s y t q,wr=[s,y,t,q]:=by
   match wr,g with
   |[s,y,t,q],_=>exact⟨_,_,_,_,rfl⟩
  obtain⟨n,h⟩:=Ap h;obtain⟨r,i⟩:=Lv n;replace h:=(congrArg (λz=>AD z [112,110,102] [y,t,q]) r).symm.trans h;dsimp only at h;clear n r;obtain⟨v,h⟩:=Ap h;obtain⟨x,k⟩:=OM v;replace h:=(congrArg (λz=>AD z [110,102] [t,q]) x).symm.trans h;dsimp only at h;clear v x;obtain⟨d,h⟩:=Ap h;obtain⟨p,f3,l3⟩:=aPm d;replace h:=(congrArg (λz=>AD z [102] [q]) p).symm.trans h;dsimp only at h;clear d p;obtain⟨o,h⟩:=Ap h;obtain⟨x4,e,l4⟩:=aTe o;replace h:=(congrArg (λz=>AD z [] []) e).symm.trans h;dsimp only at h;clear o e;obtain rfl:=Bf h;clear h;refine⟨rfl,BE (show A4 15≠[]by decide) (λc w=>?_) rfl ?_⟩
  ·replace w:c∈([116,112,110,102]:Bs):=w;simp only[Qs,Qv,or_false]at w;rcases w with rfl|rfl|rfl|rfl
   ·exact i
   ·exact k
   ·exact f3
   ·rfl
  ·show(A4 15++((32::(s))++((32::(y))++((32::(BJ (HU t).toNat))++((32::((if x4=true then [49]else [48]:Bs)))++[]))))).length<=400;rw[b];simp only[Dd,Qg,Qn,Qp,QC]at j;simp only[Qf,Qb,Qd];omega
 ·replace h:AD {akZ with op:=16} [116,112] wr=(a,0):=h;replace g:(w0::wr).length=1+2:=g;obtain⟨s,y,rfl⟩:∃s y,wr=[s,y]:=by
   match wr,g with
   |[s,y],_=>exact⟨_,_,rfl⟩
  obtain⟨n,h⟩:=Ap h;obtain⟨r,i⟩:=Lv n;replace h:=(congrArg (λz=>AD z [112] [y]) r).symm.trans h;dsimp only at h;clear n r;obtain⟨v,h⟩:=Ap h;obtain⟨x,k⟩:=OM v;replace h:=(congrArg (λz=>AD z [] []) x).symm.trans h;dsimp only at h;clear v x;obtain rfl:=Bf h;clear h;refine⟨rfl,BE (show A4 16≠[]by decide) (λc w=>?_) rfl ?_⟩
  ·replace w:c∈([116,112]:Bs):=w;simp only[Qs,Qv,or_false]at w;rcases w with rfl|rfl
   ·exact i
   ·exact k
  ·show(A4 16++((32::(s))++((32::(y))++[]))).length<=400;rw[b];simp only[Dd,Qg,Qn,Qp,QC]at j;simp only[Qf,Qb,Qd];omega
 ·replace h:AD {akZ with op:=17} [116,112] wr=(a,0):=h;replace g:(w0::wr).length=1+2:=g;obtain⟨s,y,rfl⟩:∃s y,wr=[s,y]:=by
   match wr,g with
   |[s,y],_=>exact⟨_,_,rfl⟩
  obtain⟨n,h⟩:=Ap h;obtain⟨r,i⟩:=Lv n;replace h:=(congrArg (λz=>AD z [112] [y]) r).symm.trans h;dsimp only at h;clear n r;obtain⟨v,h⟩:=Ap h;obtain⟨x,k⟩:=OM v;replace h:=(congrArg (λz=>AD z [] []) x).symm.trans h;dsimp only at h;clear v x;obtain rfl:=Bf h;clear h;refine⟨rfl,BE (show A4 17≠[]by decide) (λc w=>?_) rfl ?_⟩
  ·replace w:c∈([116,112]:Bs):=w;simp only[Qs,Qv,or_false]at w;rcases w with rfl|rfl
   ·exact i
   ·exact k
  ·show(A4 17++((32::(s))++((32::(y))++[]))).length<=400;rw[b];simp only[Dd,Qg,Qn,Qp,QC]at j;simp only[Qf,Qb,Qd];omega
 ·replace h:AD {akZ with op:=18} [116,112,113] wr=(a,0):=h;replace g:(w0::wr).length=1+3:=g;obtain⟨s,y,t,rfl⟩:∃s y t,wr=[s,y,t]:=by
   match wr,g with
   |[s,y,t],_=>exact⟨_,_,_,rfl⟩
  obtain⟨n,h⟩:=Ap h;obtain⟨r,i⟩:=Lv n;replace h:=(congrArg (λz=>AD z [112,113] [y,t]) r).symm.trans h;dsimp only at h;clear n r;obtain⟨v,h⟩:=Ap h;obtain⟨x,k⟩:=OM v;replace h:=(congrArg (λz=>AD z [113] [t]) x).symm.trans h;dsimp only at h;clear v x;obtain⟨d,h⟩:=Ap h;obtain⟨p,f3⟩:=aXO d;replace h:=(congrArg (λz=>AD z [] []) p).symm.trans h;dsimp only at h;clear d p;obtain rfl:=Bf h;clear h;refine⟨rfl,BE (show A4 18≠[]by decide) (λc w=>?_) rfl ?_⟩
  ·replace w:c∈([116,112,113]:Bs):=w;simp only[Qs,Qv,or_false]at w;rcases w with rfl|rfl|rfl
   ·exact i
   ·exact k
   ·exact f3
  ·show(A4 18++((32::(s))++((32::(y))++((32::(t))++[])))).length<=400;rw[b];simp only[Dd,Qg,Qn,Qp,QC]at j;simp only[Qf,Qb,Qd];omega
def nX:∀s:Bs,CX (Cl s)=some s
 |[]=>rfl
 |c::r=>by
  have ih:=nX r;have e:Cl (c::r)=[Ep (c.toNat / 16),Ep (c.toNat % 16)]++Cl r:=rfl;rw[e];show CX (Ep (c.toNat / 16)::Ep (c.toNat % 16)::Cl r)=_;have w:=c.toNat_lt;have j:∀n:Fin 16,CE (Ep n.val)=(n.val:Int):=Xi
  have u:=j ⟨c.toNat / 16,O⟩;have f:=j ⟨c.toNat % 16,O⟩;simp only at u f;rw[Mh,u,f,if_neg O,ih];simp only[Q9,Qu,Q8,and_true];have:(16*((c.toNat / 16:Nat):Int)+((c.toNat % 16:Nat):Int)).toNat=c.toNat:=O
  rw[this];exact UInt8.ofNat_toNat
def yG{s:Bs}{a:Ak}(h:Cd s=(a,0)):BQ a=0∧1<=a.op∧a.op<=18:=by
 unfold Cd at h;by_cases e:400<s.length
 ·rw[if_pos e]at h;cases h
 rw[if_neg e]at h;by_cases z:jT ((splitC 32 s).getD 0 [])=0
 ·rw[if_pos z]at h;cases h
 rw[if_neg z]at h;by_cases g:(splitC 32 s).length≠1+(Bk (jT ((splitC 32 s).getD 0 []))).length
 ·rw[if_pos g]at h;cases h
 rw[if_neg g]at h;have g:=Decidable.not_not.1 g;have n:=Le (q:=32) s;have p:=Ci (q:=32) s;generalize splitC 32 s=k at *;obtain⟨w0,wr,rfl⟩:∃a b,k=a::b:=by cases k with|nil=>exact absurd rfl p|cons a b=>exact⟨a,b,rfl⟩
 have x:(w0::wr).getD 0 []=w0:=rfl;rw[x]at h z g;have m:=aBg w0;have t:=cA w0 18 1 z;obtain⟨u,f⟩:=uU (w0:=w0) (wr:=wr) (op:=jT w0) O m.2 t g O h;exact⟨f,O,O⟩
def aIj{m:Md}(j:Sr m)(i:m.room≠0){s:Bs}(hl:s.length<=1000000){a:Ak}(v:Cd s=(a,0)){e:Int}(d:F8 m.vw a=e)(t:1<=e):BF [.agg (Hl m),.str s]=some (.tup [.agg (Hl m),.str (HD (.fail e))]):=by
 have q:=(OC s).1;rw[v]at q;have ia:=I8 j.vw.ok q.ok;have z:=UQ m.vw a;rw[d]at ia z;have X:=eY ia ⟨t,z.2⟩;have h:=Lt i hl v j X;rw[show ED (λ_=>EM m.vw e) m=EM m.vw e from rfl,show Dw m (EM m.vw e)=(m,HD (.fail e))from if_neg (λh=>h.1 rfl)]at h;exact h
def aIf{s:Bs}:(32:UInt8)∉Cl s:=λh=>absurd (pY s 32 h) V
namespace Tr
def MP{l:List (Kt×Kt)}(h:Ord l){q v:Kt}:OQ l q=some v↔(q,v)∈l:=⟨getL_some,getL_mem h⟩
def aH9{l:List (Kt×Kt)}{k v:Kt}{x:Kt×Kt}:x∈SA l k v↔x=(k,v)∨(x∈l∧x.1≠k):=by
 unfold SA;rw[QR,Qs,Q6,Q6];constructor
 ·rintro(⟨h1,h2⟩|h|⟨h1,h2⟩)
  ·exact .inr ⟨h1,λe=>by rw[e,CS]at h2;cases h2⟩
  ·exact .inl h
  ·exact .inr ⟨h1,λe=>by rw[e,CS]at h2;cases h2⟩
 ·rintro(h|⟨h1,h2⟩)
  ·exact .inr (.inl h)
  ·rcases cT x.1 k with c|c|c
   ·exact .inl ⟨h1,c⟩
   ·exact absurd c h2
   ·exact .inr (.inr ⟨h1,c⟩)
def pC{α:Type}{a b:Option α}(h:∀v,a=some v↔b=some v):a=b:=by
 cases b with
 |none=>cases a with
  |none=>rfl
  |some x=>exact absurd ((h x).1 rfl) U
 |some y=>exact(h y).2 rfl
def get_put{t:Tr}(h:Ord t.lst)(k v q:Kt):(t.put k v).get q=if q=k then some v else t.get q:=by
 have f:Ord (t.put k v).lst:=by rw[lst_put k v t h];exact ins_ord h k v
 refine pC λw=>?_
 rw[get_lst q _ f,MP f,lst_put k v t h,aH9];by_cases e:q=k
 ·subst e;rw[if_pos rfl];constructor
  ·rintro(i|⟨_,i⟩)
   ·cases i;rfl
   ·exact absurd rfl i
  ·intro i;cases i;exact .inl rfl
 ·rw[if_neg e,get_lst q _ h,MP h];constructor
  ·rintro(i|⟨i,_⟩)
   ·cases i;exact absurd rfl e
   ·exact i
  ·intro i;exact .inr ⟨i,e⟩
def get_del{t:Tr}(h:Ord t.lst)(k q:Kt):(delT k t).get q=if q=k then none else t.get q:=by
 have f:Ord (delT k t).lst:=by rw[lst_del k t h];exact ord_sub Q5 h
 refine pC λw=>?_
 rw[get_lst q _ f,MP f,lst_del k t h,Q6];by_cases e:q=k
 ·subst e;rw[if_pos rfl];simp
 ·rw[if_neg e,get_lst q _ h,MP h];simp[e]
def SU(a b:List (Kt×Kt))(x:Kt×Kt):weighL (a++x::b)=weighL (a++b)+costL x:=by
 simp only[weighL,QX,Qg,ZJ,Qp];omega
def tH{a b:List (Kt×Kt)}(h:a.Sublist b):weighL a<=weighL b:=by
 induction h with
 |slnil=>exact Qe _
 |cons x _ ih=>rw[GE];omega
 |cons_cons x _ ih=>rw[GE,GE];omega
def weigh_put{t:Tr}(h:Ord t.lst){k v w:Kt}(a:t.get k=some w)(hl:v.length=w.length):weighL (t.put k v).lst=weighL t.lst:=by
 rw[get_lst k t h]at a;have j:=getL_some a;have n:=Vv k h;rw[fil_ge h j]at n;rw[lst_put k v t h]
 conv=>rhs;rw[←n]
 unfold SA;rw[SU,SU];simp only[costL,hl]
def weigh_del{t:Tr}(h:Ord t.lst)(k:Kt):weighL (delT k t).lst<=weighL t.lst:=by
 rw[lst_del k t h];exact tH Q5
end Tr
def U5(k v:Bs)(t:Tr):ON (1,k,v) t=t.put k v:=if_pos rfl
def U6(k v:Bs)(t:Tr):ON (2,k,v) t=Tr.delT k t:=rfl
def MN{f:Int->Bs}:∀(ns:List Int){t:Tr},Tr.Ord t.lst->∀{q:Bs},(∀n∈ns,f n≠q)->(CD (ns.map λn=>((2:Int),f n,([]:Bs))) t).get q=t.get q
 |[],t,h,q,hq=>rfl
 |n::ns,t,h,q,hq=>by
  show(CD (ns.map _) (ON (2,f n,[]) t)).get q=_;rw[U6,MN ns (by rw[←U6 _ []];exact(DP _ h).1) λx d=>hq x (Qw _ d),Tr.get_del h,if_neg (λe=>hq n QB e.symm)]
def P1:∀(a b:List Op1)(t:Tr),CD (a++b) t=CD b (CD a t)
 |[],b,t=>rfl
 |x::a,b,t=>P1 a b _
def PC{f:Int->Bs}:∀(ns:List Int){t:Tr},Tr.Ord t.lst->Tr.weighL (CD (ns.map λn=>((2:Int),f n,([]:Bs))) t).lst<=Tr.weighL t.lst
 |[],t,h=>Qe _
 |n::ns,t,h=>by
  show Tr.weighL (CD (ns.map _) (ON (2,f n,[]) t)).lst<=_;have y:=(DP (2,f n,[]) h).1;refine Qh (PC ns y) ?_;rw[U6];exact Tr.weigh_del h _
def Gc{l:List Int}{p:Nat}{n:Int}(h:l[p]?=some n)(z:0<=n)(u:n<256):Bz (N2 l) p 0=(n,p+1,0):=by
 obtain⟨c,v⟩:=Zl.1 h;have a:p<(N2 l).length:=by unfold N2;rw[Qo];exact c
 unfold Bz;rw[if_neg (λh=>h rfl),dif_pos a];have e:(N2 l)[p]=UInt8.ofNat n.toNat:=by simp[N2,v]
 rw[e,UInt8.toNat_ofNat'];have:((n.toNat % 2 ^ 8:Nat):Int)=n:=O
 rw[this]
def rI(l:List Int):(N2 l).length=l.length:=by unfold N2;rw[Qo]
def aIh(g d:Bool):0<=bits .or .u8 (DX g) (IntKind.u8.wrap (DX d*2))∧bits .or .u8 (DX g) (IntKind.u8.wrap (DX d*2))<256∧decide (3<bits .or .u8 (DX g) (IntKind.u8.wrap (DX d*2)))=false∧decide (bits .and .i64 (bits .or .u8 (DX g) (IntKind.u8.wrap (DX d*2))) 1≠0)=g∧decide (bits .and .i64 (bits .or .u8 (DX g) (IntKind.u8.wrap (DX d*2))) 2≠0)=d:=by
 cases g<;>cases d<;>decide+kernel
def SW:∀(rs:List Rw){l pre:List Int},pre++Fx rs=l->(∀x∈rs,0<=x.1∧x.1<256)->Ij (N2 l) rs.length pre.length 0=(rs,false,l.length,0)
 |[],l,pre,h,_=>by
  rw[←h];simp[Ij,Fx]
 |x::rs,l,pre,h,hb=>by
  obtain⟨c,r⟩:=hb x QB;obtain⟨a,i,k,z,s⟩:=aIh x.2.1 x.2.2;have n:l[pre.length]?=some x.1:=by
   rw[←h,Zk (Qe _),Nat.sub_self];show some (IntKind.u8.wrap x.1)=_;rw[w8 c r]
  have v:l[pre.length+1]?=some (bits .or .u8 (DX x.2.1) (IntKind.u8.wrap (DX x.2.2*2))):=by
   rw[←h,Zk O,show pre.length+1-pre.length=1 by omega];rfl
  have n1:=Gc n c r;have n2:=Gc v a i;have hl:(pre++jH x)++Fx rs=l:=by rw[←h,List.append_assoc];rfl
  have ih:=SW rs hl λy j=>hb y (Qw _ j)
  have u:(pre++jH x).length=pre.length+1+1:=by rw[Qf];rfl
  rw[u]at ih;show Ij (N2 l) (rs.length+1) pre.length 0=_;unfold Ij;simp only[n1,n2,ih,k,z,s,ZN]
def aAj{s:Sc}(h:Ww s):BV (A9 s)=({s with nl:=decide (s.rs=[])},0):=by
 obtain⟨_,u,b,j,f,i⟩:=Ni h.bad;have hl:s.rs.length<=6:=h.len;have k:∀x∈s.rs,0<=x.1∧x.1<256:=λx q=>by have:=Lf h x q;omega
 have e:A9 s=N2 ([s.mx,DX s.cas,s.la,(s.rs.length:Int)]++Fx s.rs):=by
  unfold A9;rw[if_neg (by rw[h.bad];decide),w8 u.1 O,w8 b.1 O,w8 (x:=(s.rs.length:Int)) O O]
 have r:(A9 s).length=4+2*s.rs.length:=by
  rw[e,rI,Qf,F5];rfl
 have w:0<=DX s.cas∧DX s.cas<256∧decide (DX s.cas=1)=s.cas∧decide (1<DX s.cas)=false:=by cases s.cas<;>decide
 have n1:LU (A9 s)=(s.mx,1,0):=by unfold LU;rw[e];exact Gc rfl u.1 O
 have n2:Lx (A9 s)=(DX s.cas,2,0):=by unfold Lx;rw[n1,e];exact Gc rfl w.1 w.2.1
 have z:LT (A9 s)=(s.la,3,0):=by unfold LT;rw[n2,e];exact Gc rfl b.1 O
 have a:Ge (A9 s)=((s.rs.length:Int),4,0):=by unfold Ge;rw[z,e];exact Gc rfl O O
 have n:Fk (A9 s)=(s.rs,false,4+2*s.rs.length,0):=by
  unfold Fk;rw[a];simp only[Ql];have:=SW s.rs (l:=[s.mx,DX s.cas,s.la,(s.rs.length:Int)]++Fx s.rs) (pre:=[s.mx,DX s.cas,s.la,(s.rs.length:Int)]) rfl k;rw[←e]at this;rw[show([s.mx,DX s.cas,s.la,(s.rs.length:Int)]:List Int).length=4 from rfl]at this;rw[this];have d:([s.mx,DX s.cas,s.la,(s.rs.length:Int)]++Fx s.rs).length=4+2*s.rs.length:=by
   rw[Qf,F5];rfl
  rw[d]
 have g:Ut (A9 s)={s with nl:=decide (s.rs=[])}:=by
  unfold Ut;rw[n1,n2,z,a,n];simp only[Ql,w.2.2.1];have:decide (s.rs.length=0)=decide (s.rs=[]):=by
   by_cases c:s.rs=[]
   ·rw[c];rfl
   ·rw[decide_eq_false c,decide_eq_false (λp=>c (Zb.1 p))]
  rw[this]
 have m:CV {s with nl:=decide (s.rs=[])} 6=false:=h.bad;have t:wL (A9 s).length (4+2*s.rs.length) 0=0:=by
  unfold wL;rw[if_neg (λh=>h rfl),r,if_neg (Nat.lt_irrefl _)]
 unfold BV;rw[n];simp only[t,n2,w.2.2.2,g,m,ZN];rfl
def Tp{s:Sc}(h:Ww s):(A9 s).length=4+2*s.rs.length:=by
 unfold A9;rw[if_neg (by rw[h.bad];decide),rI,Qf,F5];rfl
end Go.Vd
end
