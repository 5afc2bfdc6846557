/-
  A part of the proof: the layers over the model. Nothing in it is assumed.
-/
import Derived.Test.YtfocnoaoekkloaaGreatDoorNeedsP4
import Derived.Test.YtfocnoaoekkloaaGreatDoorProg
import Derived.Lib.AppendZeros
import Derived.WalkKit

set_option linter.unusedSimpArgs false
set_option linter.unusedVariables false
set_option linter.defProp false
set_option maxHeartbeats 4000000
set_option maxRecDepth 100000
open Nat renaming le_of_ble_eq_true→Qa,reduceEqDiff→Qd,reduceAdd→Qi,reduceLT→Qk,zero_le→Qn,reduceLeDiff→Qp,reduceSub→Qs,lt_or_eq_of_le→Qz,zero_add→QB,le_of_lt_succ→QD,not_lt_zero→QH,sub_self→Za
open Go.Proofs.Tryz renaming prog→Qb
open Int renaming toNat_natCast→Qc,lt_irrefl→Ql,toNat_of_nonneg→Qv
open Option.some renaming injEq→Qe
open And renaming intro→Qf
open List renaming getElem?_eq_getElem→Qg,length_map→Qh,length_cons→Qj,length_nil→Qo,length_eq_zero_iff→Qq,length_append→Qr,getElem?_cons_zero→Qx,append_assoc→Qy,drop_eq_getElem_cons→QA,take_succ_eq_append_getElem→QC,all_eq_true→QE,mem_nil_iff→QF,map_map→QG,mem_cons→QI,getElem?_append_right→QK,mem_map→QL,append_nil→QN,getElem?_cons_succ→QO,findIdx?_eq_some_iff_getElem→QP,take_of_length_le→QQ,length_take→QR,drop_length→QS,map_cons→QU,map_append→QV,append_inj→QW,map_congr_left→QX,getElem_of_mem→QY,map_inj_right→QZ,getElem?_eq_some_iff→Q_,length_drop→Q3,cons_append→Q4,getElem_mem→Q5,getElem?_eq_none→Q7,getLast?→Q8,map_nil→Zb,map→Zc
open Bool renaming false_eq_true→Qm,false_ne_true→Qu,and_eq_true→QT,false_or→Q1,or_false→Q9
open Option renaming map_some→Qt,bind_some→Q2,map_eq_some_iff→Q6
open List.cons renaming injEq→Qw
open Prod renaming ext→QJ
open Prod.mk renaming injEq→QM
open Array renaming size_append→Q0
open Go.Proofs.Tryz
noncomputable section
namespace Go.Vd
open Go.RowKit
theorem lp_det{R:St->Ex->St->Prop}(hR:∀st e1 s1 e2 s2,R st e1 s1->R st e2 s2->e1=e2∧s1=s2):∀{n1 st e1 s1},Lp R n1 st e1 s1->∀{n2 e2 s2},Lp R n2 st e2 s2->e1=e2∧s1=s2:=by
 intro n1 st e1 s1 h1;induction h1 with
 |stop st e st' h hne=>
  intro n2 e2 s2 h2;cases h2 with
  |stop _ _ _ h' _=>exact hR _ _ _ _ _ h h'
  |more n _ st1 _ _ h' _=>exact absurd (hR _ _ _ _ _ h h').1 hne
 |more n st st1 e st' h hl ih=>
  intro n2 e2 s2 h2;cases h2 with
  |stop _ _ _ h' hne=>exact absurd (hR _ _ _ _ _ h h').1.symm hne
  |more n' _ st2 _ _ h' hl'=>
   have:=(hR _ _ _ _ _ h h').2;subst this;exact ih hl'
theorem ev_det{S:Summs}{ns:Id}:∀{dc:DC} {st:St} {e1:Ex} {s1:St} {e2:Ex} {s2:St},Ev S ns dc st e1 s1->Ev S ns dc st e2 s2->e1=e2∧s1=s2:=by
 intro dc;induction dc with
 |skip=>rintro st e1 s1 e2 s2 ⟨rfl,rfl⟩ ⟨rfl,rfl⟩;exact⟨rfl,rfl⟩
 |ret=>rintro st e1 s1 e2 s2 ⟨rfl,rfl⟩ ⟨rfl,rfl⟩;exact⟨rfl,rfl⟩
 |exit i=>rintro st e1 s1 e2 s2 ⟨rfl,rfl⟩ ⟨rfl,rfl⟩;exact⟨rfl,rfl⟩
 |row ops=>
  rintro st e1 ⟨a1,b1,c1⟩ e2 ⟨a2,b2,c2⟩ ⟨rfl,h1,h1'⟩ ⟨rfl,h2,h2'⟩;rw[h1]at h2;simp only[Qe,QM]at h2;simp only at h1' h2';exact⟨rfl,by rw[h2.1,h2.2,h1',h2']⟩
 |drawn ops ps=>
  rintro st e1 ⟨a1,b1,c1⟩ e2 ⟨a2,b2,c2⟩ ⟨rfl,⟨f1,h1,_⟩,h1'⟩ ⟨rfl,⟨f2,h2,_⟩,h2'⟩;rw[h1]at h2;simp only[Qe,QM]at h2;simp only at h1' h2';exact⟨rfl,by rw[h2.1,h2.2.1,h1',h2']⟩
 |seq a b iha ihb=>
  rintro st e1 s1 e2 s2 ⟨x1,y1,h1,k1⟩ ⟨x2,y2,h2,k2⟩;obtain⟨rfl,rfl⟩:=iha h1 h2;rcases k1 with ⟨n1,k1⟩|⟨n1,rfl,rfl⟩<;>rcases k2 with ⟨n2,k2⟩|⟨n2,rfl,rfl⟩
  ·exact ihb k1 k2
  ·exact absurd n1 n2
  ·exact absurd n2 n1
  ·exact⟨rfl,rfl⟩
 |cond c a b iha ihb=>
  rintro st e1 s1 e2 s2 h1 h2;rcases h1 with ⟨t1,h1⟩|⟨t1,h1⟩<;>rcases h2 with ⟨t2,h2⟩|⟨t2,h2⟩
  ·exact iha h1 h2
  ·rw[t1]at t2;simp at t2
  ·rw[t1]at t2;simp at t2
  ·exact ihb h1 h2
 |block i c ih=>
  rintro st e1 s1 e2 s2 ⟨x1,h1,k1⟩ ⟨x2,h2,k2⟩;obtain⟨rfl,rfl⟩:=ih h1 h2;rcases k1 with ⟨n1,rfl⟩|⟨n1,rfl⟩<;>rcases k2 with ⟨n2,rfl⟩|⟨n2,rfl⟩
  ·exact⟨rfl,rfl⟩
  ·exact absurd n1 n2
  ·exact absurd n2 n1
  ·exact⟨rfl,rfl⟩
 |loop c ih=>
  rintro st e1 s1 e2 s2 ⟨n1,h1⟩ ⟨n2,h2⟩;exact lp_det (R:=Ev S ns c) (λst e1 s1 e2 s2 h h'=>@ih st e1 s1 e2 s2 h h') h1 h2
theorem ends_det{S:Summs}{ns:Id}{dc:DC}{rs:List RV}{R1 R2:D->Mem->Prop}{st:St}(h1:dc.wp S ns (DE rs R1) st)(h2:dc.wp S ns (DE rs R2) st):∃d m,R1 d m∧R2 d m:=by
 obtain⟨e1,s1,v1,_,d1,q1,r1⟩:=h1;obtain⟨e2,s2,v2,_,d2,q2,r2⟩:=h2;obtain⟨rfl,rfl⟩:=ev_det v1 v2;rw[q1]at q2;simp only[Qe]at q2;subst q2;exact⟨_,_,r1,r2⟩
def runs1(S:Summs)(dc:DC)(rs:List RV)(N:Nat)(ds:List D)(r:D):Prop:=ds.length<=N∧dc.wp S [] (DE rs λd _=>d.unR=r∧r.calmR=true) ⟨Bx ds,λ_ _=>none,0⟩
open Classical in
def RF(S:Summs)(dc:DC)(rs:List RV)(N:Nat):List D->Option D:=λds=>if h:∃r,runs1 S dc rs N ds r then some (Classical.choose h)else none
theorem rf_get{S:Summs}{dc:DC}{rs:List RV}{N:Nat}{ds:List D}{r:D}(h:RF S dc rs N ds=some r):runs1 S dc rs N ds r:=by
 unfold RF at h;split at h
 ·rename_i hx;simp only[Qe]at h;subst h;exact Classical.choose_spec hx
 ·cases h
theorem AH{S:Summs}{dc:DC}{rs:List RV}{N:Nat}{ds:List D}{r:D}(hN:ds.length<=N)(h:dc.wp S [] (DE rs λd _=>d.unR=r∧r.calmR=true) ⟨Bx ds,λ_ _=>none,0⟩):RF S dc rs N ds=some r:=by
 have hx:∃r,runs1 S dc rs N ds r:=⟨r,hN,h⟩;unfold RF;rw[dif_pos hx];obtain⟨d,_,h1,h2⟩:=ends_det (Classical.choose_spec hx).2 h;rw[←h1.1,h2.1]
theorem AJ{P:Program}{S:Summs}{f:FuncId}{N:Nat}{dc:DC}{rs:List RV}(hf:Fn P f N dc rs)(hS:Summs.ok P S):(Ac (RF S dc rs N)).ok P f:=
 Ay hS hf (λds r h=>(rf_get h).1) (λds r h=>(rf_get h).2)
theorem rdC_same'{m:Mem}{i:Id}{ds:List D}{n:Nat}(h:ds.length=n):Ai (m.put i 0 ds) i 0 n=some ds:=by
 subst h;exact rd_aux (λk d hd=>by rw[Mem.put_same (Q_.1 hd).1,hd])
theorem Bm {S : Summs} {ns : Id} {b : DC} {Q : Ex → St → Prop} {n : Nat} {I : Nat → St → Prop} (hs : ∀ j, j < n → (∀ st g, I (j + 1) st → A6 S ns b Q st g) → ∀ st g, I j st → A6 S ns b Q st g) (he : ∀ st g, I n st → A6 S ns b Q st g) : ∀ j, j ≤ n → ∀ st g, I j st → A6 S ns b Q st g := by
  have key : ∀ f j, n = j + f → ∀ st g, I j st → A6 S ns b Q st g := by
    intro f
    induction f with
    | zero => intro j hj st g hI; have : j = n := by omega
              subst this; exact he st g hI
    | succ f ih => intro j hj st g hI; exact hs j (by omega) (fun st g h => ih (j + 1) (by omega) st g h) st g hI
  exact fun j hj => key (n - j) j (by omega)
def runsM(S:Summs)(dc:DC)(rs:List RV)(N n:Nat)(cs rest:List D)(y:D×List D):Prop:=cs.length=n∧rest.length+1<=N∧∀(i:Id)(m:Mem)(fr:Id),Ai m i 0 n=some cs->(∀j o,fr<:+j->m j o=none)->(∀k l,(i=l++k::fr)=False)->(∀k,(i=k::fr)=False)->
 dc.wp S fr (DE rs λd m'=>d=y.1∧Ai m' i 0 n=some y.2∧EE n i m m') ⟨Bx (.ptr i 0::rest),m,0⟩
theorem one_mem(cs:List D)(n:Nat)(hl:cs.length=n)(hn:0<n):∃m:Mem,Ai m [0] 0 n=some cs∧(∀j o,[1]<:+j->m j o=none)∧(∀k l,(([0]:Id)=l++k::[1])=False)∧(∀k,(([0]:Id)=k::[1])=False):=by
 refine⟨Mem.put (λ_ _=>none) [0] 0 cs,rdC_same' hl,λj o hj=>?_,λk l=>eq_false (λe=>?_),λk=>eq_false (λe=>by simp at e)⟩
 ·rw[Mem.put_other];rintro rfl;obtain⟨t,ht⟩:=hj;have:=congrArg Q8 ht;simp at this
 ·have:=congrArg Q8 e;simp at this
open Classical in
def RM(S:Summs)(dc:DC)(rs:List RV)(N n:Nat):List D->List D->Option (D×List D):=λcs rest=>if h:∃y,runsM S dc rs N n cs rest y then some (Classical.choose h)else none
theorem rm_get{S:Summs}{dc:DC}{rs:List RV}{N n:Nat}{cs rest:List D}{y:D×List D}(h:RM S dc rs N n cs rest=some y):runsM S dc rs N n cs rest y:=by
 unfold RM at h;split at h
 ·rename_i hx;simp only[Qe]at h;subst h;exact Classical.choose_spec hx
 ·cases h
theorem rm_eq{S:Summs}{dc:DC}{rs:List RV}{N n:Nat}{cs rest:List D}{y:D×List D}(hn:0<n)(hl:cs.length=n)(hN:rest.length+1<=N) (h:∀(i:Id)(m:Mem)(fr:Id),Ai m i 0 n=some cs->(∀j o,fr<:+j->m j o=none)->(∀k l,(i=l++k::fr)=False)->(∀k,(i=k::fr)=False)->
  dc.wp S fr (DE rs λd m'=>d=y.1∧Ai m' i 0 n=some y.2∧EE n i m m') ⟨Bx (.ptr i 0::rest),m,0⟩):RM S dc rs N n cs rest=some y:=by
 have hx:∃y,runsM S dc rs N n cs rest y:=⟨y,hl,hN,h⟩;unfold RM;rw[dif_pos hx];obtain⟨m,m1,m2,m3,m4⟩:=one_mem cs n hl hn;obtain⟨d,m',h1,h2⟩:=ends_det ((Classical.choose_spec hx).2.2 [0] m [1] m1 m2 m3 m4) (h [0] m [1] m1 m2 m3 m4);have e1:=h1.1.symm.trans h2.1;have e2:=h1.2.1.symm.trans h2.2.1;simp only[Qe]at e2;rw[show Classical.choose hx=y from QJ e1 e2]
theorem rm_ok{P:Program}{S:Summs}{f:FuncId}{N n:Nat}{dc:DC}{rs:List RV}(hf:Fn P f N dc rs)(hn:0<n)(hS:Summs.ok P S):(mQ n (RM S dc rs N n)).ok P f:=by
 refine m_ok hS hf hn (λcs rest y hy=>(rm_get hy).2.1) (λi m fr cs rest r cs' hcs hF hfr h1 h2=>?_);exact(rm_get hF).2.2 i m fr hcs hfr h1 h2
end Go.Vd
namespace Go.Vd
open Go.Proofs Go.RowKit
theorem n_tk1{x:D}{l:List D}{n:Nat}:(x::l).take (n+1)=x::l.take n:=rfl
theorem n_tk0{l:List D}:l.take 0=[]:=rfl
theorem n_dr0{l:List D}:l.drop 0=l:=rfl
theorem n_dr1{x:D}{l:List D}{n:Nat}:(x::l).drop (n+1)=l.drop n:=rfl
theorem n_ob{x:D}{f:D->Option (List D)}:(some x).bind f=f x:=rfl
theorem n_obn{f:D->Option (List D)}:(none:Option D).bind f=none:=rfl
theorem n_om{x:List D}{f:List D->List D}:(some x).map f=some (f x):=rfl
theorem n_om2{x:List D}{f:List D->D}:(some x).map f=some (f x):=rfl
theorem n_om3{x:D}{f:D->D}:(some x).map f=some (f x):=rfl
theorem n_om4{x:D}{f:D->List D}:(some x).map f=some (f x):=rfl
theorem n_is{x:List D}:(some x).isSome=true:=rfl
theorem n_isd{x:D}:(some x).isSome=true:=rfl
theorem n_ci{a b:Nat}{l l':List Nat}:(a::l=b::l')=(a=b∧l=l'):=by simp
theorem n_cin{a:Nat}{l:List Nat}:(a::l=[])=False:=by simp
theorem n_bt:(true=false)=False:=by simp
theorem n_bf:(false=true)=False:=by simp
theorem n_lda{m:Mem}{n:Nat}{i:Id}{o:Nat}:ldD m (some n) (.ptr i o)=(Ai m i o n).map .agg:=rfl
theorem n_ldl{m:Mem}{i:Id}{o:Nat}:ldD m none (.ptr i o)=m i o:=rfl
theorem resW_tc{s:Nat->D}{m:Mem}{k:Option Nat}{a b:Nat}:Cm [.t b,.cell k a] s m=(ldD m k (s a)).map λd=> .tup [s b,d]:=by
 simp only[Cm,Fk,RV.of];cases ldD m k (s a)<;>rfl
theorem resW_ctt{s:Nat->D}{m:Mem}{k:Option Nat}{a b c:Nat}:Cm [.cell k a,.t b,.t c] s m=(ldD m k (s a)).map λd=> .tup [d,s b,s c]:=by
 simp only[Cm,Fk,RV.of];cases ldD m k (s a)<;>rfl
theorem res_cell_ttt{s:Nat->D}{m:Mem}{k:Option Nat}{a b c e:Nat}:Cm [.cell k a,.t b,.t c,.t e] s m=(ldD m k (s a)).map λd=> .tup [d,s b,s c,s e]:=by
 simp only[Cm,Fk,RV.of];cases ldD m k (s a)<;>rfl
theorem res_cell_t'{s:Nat->D}{m:Mem}{k:Option Nat}{a b:Nat}:Cm [.cell k a,.t b] s m=(ldD m k (s a)).map λd=> .tup [d,s b]:=by
 simp only[Cm,Fk,RV.of];cases ldD m k (s a)<;>rfl
theorem n_fin{cs:List D}:BH cs []=some cs:=rfl
theorem n_fi{cs:List D}{o n:Nat}{d:D}{r:List (Nat×Nat×D)}:BH cs ((o,n,d)::r)=if d.data=true∧d.cells.length=n∧o+n<=cs.length then BH (CW cs o d.cells) r else none:=rfl
theorem n_pa{cs ds:List D}{o:Nat}:CW cs o ds=cs.take o++ds++cs.drop (o+ds.length):=rfl
theorem n_neq{nl:Bool}{t u:Id}{xs:List D}:nilEq 0 (.slice nl t xs) (.slice true u [])=some nl:=by cases nl<;>rfl
theorem n_bn1:(true !=false)=true:=rfl
theorem n_bn2:(false !=false)=false:=rfl
theorem n_bn3:(true !=true)=false:=rfl
theorem n_bn4:(false !=true)=true:=rfl
theorem n_grt{m:Mem}{e:Nat}{f t:Id}{xs:List D}:Upd.app m (Be e f (.slice true t xs))=m.put f 0 [.tok (e+1)]:=rfl
theorem n_grf{m:Mem}{e:Nat}{f t:Id}{xs:List D}:Upd.app m (Be e f (.slice false t xs))=(m.put t 0 [.tok 0]).put f 0 [.tok (e+1)]:=rfl
theorem n_se0{x y:D}{l:List D}:(x::l).set 0 y=y::l:=rfl
theorem n_se1{x y:D}{l:List D}{n:Nat}:(x::l).set (n+1) y=x::l.set n y:=rfl
set_option linter.defProp false
def go5:=Qf @Ag <| Qf @Ao <| Qf @Ap <| Qf @Bg <| Qf @res_cell_t' <| Qf @resW_tc <| Qf @resW_ctt <| Qf @res_cell_ttt <| Qf @n_lda <| Qf @n_ldl <| Qf @n_tk1 <| Qf @n_tk0 <| Qf @n_dr0 <| Qf @n_dr1 <| Qf @n_ob <| Qf @n_obn <| Qf @n_om <| Qf @n_om2 <| Qf @n_om3 <| Qf @n_om4 <| Qf @n_is <| Qf @n_isd <| Qf @n_ci <| Qf @n_cin <| Qf @n_bt <| Qf @n_bf <| Qf @Qn <| Qf @Nat.sub_zero <| Qf @QB <| Qf @true_and <| Qf @and_true <| Qf @false_and <| Qf @and_false <| Qf @and_self <| Qf @Nat.zero_ne_one <| Qf @Nat.one_ne_zero <| Qf @Nat.succ_ne_zero <| Qf @Nat.add_eq_right <| Qf @Bool.true_or <| Qf @Bool.or_true <| Qf @Q1 <| Qf @Q9 <| Qf @Bool.not_true <| Qf @Bool.not_false <| Qf @not_true_eq_false <| Qf @not_false_eq_true <| Qf @n_fin <| Qf @n_fi <| Qf @n_pa <| Qf @n_se0 <| Qf @n_se1 <| Qf @n_neq <| Qf @n_grt <| Qf @n_grf <| Qf n_bn1 <| Qf n_bn2 <| Qf n_bn3 n_bn4
abbrev Rw:=Int×Bool×Bool
def rwD(r:Rw):D:= .agg [.int .i64 r.1,.bool r.2.1,.bool r.2.2]
def Ba(l:List Rw):List D:=l.map rwD
theorem AS(l:List Rw):(Ba l).length=l.length:=Qh ..
theorem EJ{l:List Rw}{j:Nat}(h:j<l.length):(Ba l)[j]?=some (.agg [.int .i64 l[j].1,.bool l[j].2.1,.bool l[j].2.2]):=by simp[Ba,rwD,Qg h]
structure Sc where
 mx:Int
 cas:Bool
 la:Int
 nl:Bool
 rs:List Rw
def scC(s:Sc):List D:=[.int .i64 s.mx,.bool s.cas,.int .i64 s.la,.slice s.nl [] (Ba s.rs)]
def risB:List Rw->Int->Bool
 |[],_=>true
 |x::r,a=>decide (a<x.1)&&risB r x.1
def BX(s:Sc)(q:Int):Int:=if s.mx=0 then q else s.mx
def newE(l:List Rw):Int:=match l.getLast? with
 |some x=>x.1
 |none=>0
def Dl(s:Sc)(q:Int):Bool:=!decide (1<=q∧q<=6)||(!decide (0<=s.mx∧s.mx<=6)||(!decide (0<=s.la∧s.la<=30)||(decide (BX s q<s.rs.length)||(!risB s.rs 0||!decide (newE s.rs=s.la)))))
def secE(s:Sc)(q:Int):Int:=if Dl s q=true then 2 else 0
def S296:Summs:=AF []
def R296:List D->Option D:=RF S296 dc296 [.t 2] 5
theorem ko296:(Ac R296).ok Qb 296:=AJ fn296 Ad
theorem R296_eq(r:Rw):R296 [.agg [.int .i64 r.1,.bool r.2.1,.bool r.2.2]]=some (.int .i64 r.1):=by
 refine AH (Qa rfl) ?_;unfold dc296;simp only[↓go1,gB3,go5,reduceIte,simprocAttr]
 all_goals (first|rfl|exact⟨rfl,rfl⟩|(simp[*];done))
def S335:Summs:=AF []
def R335:List D->Option D:=RF S335 dc335 [.cell (some 2) 0] 2
theorem ko335:(Ac R335).ok Qb 335:=AJ fn335 Ad
theorem R335_eq:R335 []=some (.agg [.int .i64 6,.bool false]):=by
 refine AH (Qa rfl) ?_;unfold dc335;simp only[↓go1,gB3,go5,reduceIte,simprocAttr]
 all_goals (first|rfl|exact⟨rfl,rfl⟩|(simp[*];done))
def S241:Summs:=AF []
def R241:List D->Option D:=RF S241 dc241 [.cell (some 2) 0] 2
theorem ko241:(Ac R241).ok Qb 241:=AJ fn241 Ad
theorem R241_eq:R241 []=some (.agg [.int .i64 6,.bool false]):=by
 refine AH (Qa rfl) ?_;unfold dc241;simp only[↓go1,gB3,go5,reduceIte,simprocAttr]
 all_goals (first|rfl|exact⟨rfl,rfl⟩|(simp[*];done))
def S294:Summs:=AF []
def R294:List D->Option D:=RF S294 dc294 [.t 4] 12
theorem ko294:(Ac R294).ok Qb 294:=AJ fn294 Ad
theorem R294_eq(s:Sc)(q:Int)(b:Bool):R294 [.agg (scC s),.agg [.int .i64 q,.bool b]]=some (.int .i64 (BX s q)):=by
 refine AH (Qa rfl) ?_;unfold dc294;unfold BX scC;by_cases h:s.mx=0
 ·simp only[↓go1,gB3,go5,reduceIte,simprocAttr,h]
  all_goals (first|rfl|exact⟨rfl,rfl⟩|(simp[*];done))
 ·simp only[↓go1,gB3,go5,reduceIte,simprocAttr,h]
  all_goals (first|rfl|exact⟨rfl,rfl⟩|(simp[*];done))
def S295:Summs:=AF [(296,Ac R296)]
def R295:List D->Option D:=RF S295 dc295 [.t 4] 23
theorem ko295:(Ac R295).ok Qb 295:=AJ fn295 (Ab ko296 Ad)
theorem R295_eq{nl:Bool}{l:List Rw}(hl:l.length<=1000):R295 [.slice nl [] (Ba l),.fn 296 []]=some (.bool (risB l 0)):=by
 refine AH (Qa rfl) ?_;have s296:S295 296=some (Ac R296):=rfl;unfold dc295;simp only[↓go1,go2,reduceIte,simprocAttr,AS];refine Bm (n:=l.length) (I:=λj st=>st.s 8= .slice nl [] (Ba l)∧st.s 9= .int .i64 l.length∧st.s 10= .int .i64 (j:Int)∧st.s 1= .fn 296 []∧∃a,st.s 5= .int .i64 a∧risB (l.drop j) a=risB l 0) (λj hj ih st g hI=>?_) (λst g hI=>?_) 0 (Qn _) _ _ ⟨rfl,rfl,rfl,rfl,0,rfl,rfl⟩
 ·obtain⟨st_s,st_m,st_c⟩:=st;obtain⟨h8,h9,h10,h1,a,h5,ha⟩:=hI;simp only at h8 h9 h10 h1 h5;refine Af dc295l0.eq_1 ?_;have hlt:((j:Int)<l.length):=by omega
  have hj0:(0:Int)<=(j:Int):=by omega
  have hw:IntKind.i64.wrap ((j:Int)+1)=((j+1:Nat):Int):=w64 (by omega) (by omega);have hat:=EJ hj;have hd:l.drop j=l[j]::l.drop (j+1):=QA hj;have h296:=R296_eq l[j];rw[hd]at ha;generalize l[j]=x at hat ha h296 hd;by_cases hx:x.1<=a
  ·have e:risB l 0=false:=by rw[←ha];simp[risB];omega
   simp only[↓go1,gB3,go5,reduceIte,simprocAttr,h8,h9,h10,h1,h5,hlt,hj0,Qc,hat,Aa s296,h296,hx];rw[e]
   all_goals (first|rfl|exact⟨rfl,rfl⟩|(simp[*];done))
  ·have e:risB (l.drop (j+1)) x.1=risB l 0:=by rw[←ha];simp only[risB];rw[decide_eq_true (by omega)];rfl
   simp only[↓go1,gB3,go5,reduceIte,simprocAttr,h8,h9,h10,h1,h5,hlt,hj0,Qc,hat,Aa s296,h296,hx,hw];exact ih _ _ ⟨h8,h9,rfl,h1,_,rfl,e⟩
 ·obtain⟨h8,h9,h10,h1,a,h5,ha⟩:=hI;refine Af dc295l0.eq_1 ?_;have e:risB l 0=true:=by rw[←ha];simp[risB]
  simp only[↓go1,gB3,go5,reduceIte,simprocAttr,h9,h10,Ql];rw[e]
  all_goals (first|rfl|exact⟨rfl,rfl⟩|(simp[*];done))
def S191:Summs:=AF [(246,Ac F246),(294,Ac R294),(295,Ac R295)]
def ED:List D->Option D:=RF S191 dc191 [.t 4] 52
theorem ko191:(Ac ED).ok Qb 191:=AJ fn191 (Ab ok246 (Ab ko294 (Ab ko295 Ad)))
theorem F_(s:Sc)(q:Int)(b:Bool)(hl:s.rs.length<=1000):ED [.agg (scC s),.agg [.int .i64 q,.bool b]]=some (.int .i64 (secE s q)):=by
 refine AH (Qa rfl) ?_;have s246:S191 246=some (Ac F246):=rfl;have s294:S191 294=some (Ac R294):=rfl;have s295:S191 295=some (Ac R295):=rfl;unfold dc191;have h294:=R294_eq s q b;have h295:=R295_eq (nl:=s.nl) (l:=s.rs) hl;have h246:∀x a b:Int,F246 [.int .i64 x,.int .i64 a,.int .i64 b]=some (.bool (decide (a<=x∧x<=b))):=λ_ _ _=>rfl
 have hn:IntKind.i64.wrap ((s.rs.length:Int)-1)=(s.rs.length:Int)-1:=w64 (by omega) (by omega);have hlast:0<s.rs.length->∃x:Rw,newE s.rs=x.1∧(Ba s.rs)[((s.rs.length:Int)-1).toNat]?=some (.agg [.int .i64 x.1,.bool x.2.1,.bool x.2.2]):=λh=>by
  have hk:((s.rs.length:Int)-1).toNat=s.rs.length-1:=by omega
  refine⟨s.rs[s.rs.length-1],?_,by rw[hk];exact EJ (by omega)⟩;unfold newE;rw[List.getLast?_eq_getElem?,Qg (by omega)]
 have hnone:¬0<s.rs.length->newE s.rs=0:=λh=>by
  have:s.rs=[]:=Qq.1 (by omega);rw[this];rfl
 unfold secE Dl;unfold scC at h294 ⊢;generalize BX s q=kp at h294;generalize risB s.rs 0=rb at h295;generalize newE s.rs=nw at hlast hnone;by_cases c1:1<=q∧q<=6
 case neg=>
  simp only[↓go1,gB3,go5,reduceIte,simprocAttr,Aa s246,h246,c1]
  all_goals (first|rfl|exact⟨rfl,rfl⟩|(simp[*];done))
 by_cases c2:0<=s.mx∧s.mx<=6
 case neg=>
  simp only[↓go1,gB3,go5,reduceIte,simprocAttr,Aa s246,h246,c1,c2]
  all_goals (first|rfl|exact⟨rfl,rfl⟩|(simp[*];done))
 by_cases c3:0<=s.la∧s.la<=30
 case neg=>
  simp only[↓go1,gB3,go5,reduceIte,simprocAttr,Aa s246,h246,c1,c2,c3]
  all_goals (first|rfl|exact⟨rfl,rfl⟩|(simp[*];done))
 by_cases c4:kp<s.rs.length
 case pos=>
  simp only[↓go1,gB3,go5,reduceIte,simprocAttr,Aa s246,h246,Aa s294,h294,c1,c2,c3,c4,AS]
  (refine An.intro (Aj ?_) ?_;(first|rfl|(simp[Ax,Aq,rds,Ae];done)|(simp[Ax,Aq,rds,Ae,Ac];done)))
  simp only[↓go1,gB3,go5,reduceIte,simprocAttr,c4]
  all_goals (first|rfl|exact⟨rfl,rfl⟩|(simp[*];done))
 cases rb with
 |false=>
  simp only[↓go1,gB3,go5,reduceIte,simprocAttr,Aa s246,h246,Aa s294,h294,Aa s295,h295,c1,c2,c3,c4,AS]
  (refine An.intro (Aj ?_) ?_;(first|rfl|(simp[Ax,Aq,rds,Ae];done)|(simp[Ax,Aq,rds,Ae,Ac];done)))
  simp only[↓go1,gB3,go5,reduceIte,simprocAttr,c4]
  all_goals (first|rfl|exact⟨rfl,rfl⟩|(simp[*];done))
 |true=>
  by_cases c5:0<s.rs.length
  ·obtain⟨x,e1,e2⟩:=hlast c5;have c5':(0:Int)<(s.rs.length:Int):=by omega
   have c5'':(0:Int)<=(s.rs.length:Int)-1:=by omega
   subst e1;by_cases c6:x.1=s.la
   ·simp only[↓go1,gB3,go5,reduceIte,simprocAttr,Aa s246,h246,Aa s294,h294,Aa s295,h295,c1,c2,c3,c4,c6,AS]
    (refine An.intro (Aj ?_) ?_;(first|rfl|(simp[Ax,Aq,rds,Ae];done)|(simp[Ax,Aq,rds,Ae,Ac];done)))
    simp only[↓go1,gB3,go5,reduceIte,simprocAttr,c1,c2,c3,c4,c5',c5'',hn,e2,c6,AS]
    all_goals (first|rfl|exact⟨rfl,rfl⟩|(simp[*];done))
   ·simp only[↓go1,gB3,go5,reduceIte,simprocAttr,Aa s246,h246,Aa s294,h294,Aa s295,h295,c1,c2,c3,c4,c6,AS]
    (refine An.intro (Aj ?_) ?_;(first|rfl|(simp[Ax,Aq,rds,Ae];done)|(simp[Ax,Aq,rds,Ae,Ac];done)))
    simp only[↓go1,gB3,go5,reduceIte,simprocAttr,c1,c2,c3,c4,c5',c5'',hn,e2,c6,AS]
    all_goals (first|rfl|exact⟨rfl,rfl⟩|(simp[*];done))
  ·have e1:=hnone c5;have c5':¬(0:Int)<(s.rs.length:Int):=by omega
   subst e1;by_cases c6:(0:Int)=s.la
   ·have c6':((0:Int)=s.la)=True:=eq_true c6;simp only[↓go1,gB3,go5,reduceIte,simprocAttr,Aa s246,h246,Aa s294,h294,Aa s295,h295,c1,c2,c3,c4,c6',AS]
    (refine An.intro (Aj ?_) ?_;(first|rfl|(simp[Ax,Aq,rds,Ae];done)|(simp[Ax,Aq,rds,Ae,Ac];done)))
    simp only[↓go1,gB3,go5,reduceIte,simprocAttr,c1,c2,c3,c4,c5',c6',AS]
    all_goals (first|rfl|exact⟨rfl,rfl⟩|(simp[*];done))
   ·have c6':((0:Int)=s.la)=False:=eq_false c6;simp only[↓go1,gB3,go5,reduceIte,simprocAttr,Aa s246,h246,Aa s294,h294,Aa s295,h295,c1,c2,c3,c4,c6',AS]
    (refine An.intro (Aj ?_) ?_;(first|rfl|(simp[Ax,Aq,rds,Ae];done)|(simp[Ax,Aq,rds,Ae,Ac];done)))
    simp only[↓go1,gB3,go5,reduceIte,simprocAttr,c1,c2,c3,c4,c5',c6',AS]
    all_goals (first|rfl|exact⟨rfl,rfl⟩|(simp[*];done))
structure LG (c0:Nat) (m0:Mem) (e:Nat) (m:Mem) (c:Nat) (nl:Bool) (t:Id):Prop where
 low:∀q o,q<c0->m [q] o=m0 [q] o
 tok:nl=true∨∃j,t=[j]∧c0<=j∧j<c∧m t 0=some (.tok (e+1))
 le:c0<=c
section
variable{c0 e c c' c2 o:Nat}{m0 m:Mem}{nl:Bool}{t:Id}{ds xs:List D}
theorem LG.start(h:c0<=c):LG c0 m0 e m0 c true t:=⟨λ_ _ _=>rfl,.inl rfl,h⟩
theorem LG.put(h:LG c0 m0 e m c nl t)(hc:c<=c'):LG c0 m0 e (m.put [c'] o ds) c nl t:=by
 obtain⟨h1,h2,h3⟩:=h;refine⟨λq o' hq=>?_,?_,h3⟩
 ·rw[Mem.put_other (by simp;omega)];exact h1 q o' hq
 ·rcases h2 with h2|⟨j,rfl,a,b,d⟩
  ·exact .inl h2
  ·exact .inr ⟨j,rfl,a,b,by rw[Mem.put_other (by simp;omega)];exact d⟩
theorem LG.more(h:LG c0 m0 e m c nl t)(hc:c<=c'):LG c0 m0 e m c' nl t:=by
 obtain⟨h1,h2,h3⟩:=h;refine⟨h1,?_,by omega⟩;rcases h2 with h2|⟨j,a,b,b',d⟩
 ·exact .inl h2
 ·exact .inr ⟨j,a,b,by omega,d⟩
theorem LG.grow(h:LG c0 m0 e m c nl t):Grow m e (.slice nl t xs):=by
 rcases h.tok with h|⟨j,rfl,_,_,d⟩
 ·exact .inl h
 ·exact .inr ⟨d,by simp⟩
theorem LG.app(h:LG c0 m0 e m c nl t)(hc:c<=c')(h2:c'<c2):LG c0 m0 e (Upd.app m (Be e [c'] (.slice nl t xs))) c2 false [c']:=by
 obtain⟨h1,ht,h3⟩:=h;refine⟨λq o hq=>?_,.inr ⟨c',rfl,by omega,h2,?_⟩,by omega⟩
 ·rw[CM,if_neg (by simp;omega)];rcases ht with rfl|⟨j,rfl,a,b,d⟩
  ·rw[if_neg (by simp)];exact h1 q o hq
  ·rw[if_neg (by simp;omega)];exact h1 q o hq
 ·rw[CM,if_pos ⟨rfl,rfl⟩]
theorem LG.appf(h:LG c0 m0 e m c false t)(hc:c<=c')(h2:c'<c2):LG c0 m0 e ((m.put t 0 [.tok 0]).put [c'] 0 [.tok (e+1)]) c2 false [c']:=LG.app (xs:=[]) h hc h2
theorem LG.nil(h:LG c0 m0 e m c nl t):LG c0 m0 e (Upd.app m []) c nl t:=h
theorem LG.rd(h:LG c0 m0 e m c nl t){q p n:Nat}(hq:q<c0):Ai m [q] p n=Ai m0 [q] p n:=by
 have:∀n p,Ai m [q] p n=Ai m0 [q] p n:=by
  intro n;induction n with
  |zero=>intro p;rfl
  |succ n ih=>intro p;simp only[Ai,h.low q p hq,ih]
 exact this n p
end
theorem rwsD_hd(l:List Rw):D.headSz (Ba l) 3=3:=by cases l<;>rfl
theorem intsD_len'(l:List Int):(AR l).length=l.length:=Qh ..
theorem capV_int{m:Mem}{caps:List D}{k:IntKind}{n:Int}(h:E7 m caps=some (.int k n)):∃i,caps=[.ptr i 0]∧m i 0=some (.int k n):=by
 unfold E7 at h;split at h
 ·simp at h
 ·rename_i i;exact⟨i,rfl,h⟩
 ·cases h
def K337:D->D->Option D
 | .int .i64 n,.agg [.int .i64 a,.bool _,.bool _]=>some (.bool (decide (a=n)))
 |_,_=>none
theorem clo337:(cloS K337).ok Qb 337:=by
 refine clo_ok (S:=λ_=>none) AL fn337 (λx caps m fr c d hcap hF hfr hl=>⟨by omega,?_⟩);unfold K337 at hF;split at hF
 ·simp only[Qe]at hF;subst hF;obtain⟨i,rfl,hm⟩:=capV_int hcap;have hi:i≠0::fr:=by rintro rfl;have:=hfr 0 (0::fr) 0 (List.suffix_refl _);rw[hm]at this;cases this
  unfold dc337;simp only[↓go1,gB3,go5,reduceIte,simprocAttr,hm,hi];intro i o y h;split
  ·rename_i e;rw[e.1,hfr 0 _ o (List.suffix_refl _)]at h;cases h
  ·exact h
 ·cases hF
theorem fn336:Fn Qb 336 19 (dcI 3 (some 3)) [.t 4]:=⟨f336,_,func336,rfl,by kernel_rfl,rfl,by kernel_rfl,by kernel_rfl⟩
theorem idx336:(EC 337 (some 3) K337).ok Qb 336:=idx_ok (by omega) fn336 rfl clo337
def placeR(l:List Rw)(n:Int):Int:=A9 (l.map λr=>decide (r.1=n))
theorem idx336_ex{l:List Rw}{nl:Bool}{t:Id}(hl:l.length<=1000000){n:Int}(m:Mem)(fr i:Id)(hm:m i 0=some (.int .i64 n)):
  (EC 337 (some 3) K337).ex [.slice nl t (Ba l),.fn 337 [.ptr i 0]] m fr=some (.int .i64 (placeR l n),[]):=by
 have e:(Ba l).map (K337 (.int .i64 n))=(l.map λr=>decide (r.1=n)).map λb=>some (.bool b):=by
  simp only[Ba,QG];exact QX λr _=>rfl
 have he:(Ba l).all (elB (some 3))=true:=by
  rw[QE];intro x hx;obtain⟨r,_,rfl⟩:=QL.1 hx;rfl
 simp only[EC,AS,hl,he,and_self,if_true,E7,hm,Q2,e,C5,Qt];rfl
def Fy(s:Sc)(n:Int):Int:=if n=0 then(s.rs.length:Int)-1 else placeR s.rs n
def S242:Summs:=AF [(336,EC 337 (some 3) K337)]
def R242:List D->Option D:=RF S242 dc242 [.t 4] 15
theorem ko242:(Ac R242).ok Qb 242:=AJ fn242 (Ab idx336 Ad)
theorem R242_eq(s:Sc)(n:Int)(hl:s.rs.length<=1000):R242 [.agg (scC s),.int .i64 n]=some (.int .i64 (Fy s n)):=by
 refine AH (Qa rfl) ?_;have s336:S242 336=some (EC 337 (some 3) K337):=rfl;unfold dc242;have hn:IntKind.i64.wrap ((s.rs.length:Int)-1)=(s.rs.length:Int)-1:=w64 (by omega) (by omega);unfold Fy scC;by_cases c1:n=0
 ·simp only[↓go1,gB3,go5,reduceIte,simprocAttr,c1,hn,AS]
  all_goals (first|rfl|exact⟨rfl,rfl⟩|(simp[*];done))
 ·simp only[↓go1,gB3,go5,reduceIte,simprocAttr,c1,Ah s336,idx336_ex (n:=n) (show s.rs.length<=1000000 by omega)]
  all_goals (first|rfl|exact⟨rfl,rfl⟩|(simp[*];done))
def rw0:Rw:=(0,false,false)
def readS(s:Sc)(n:Int):Rw×Int:=if Dl s 6=true then(rw0,2)else if Fy s n<0 then(rw0,6)else
 if((s.rs.getD (Fy s n).toNat rw0).2.1||(s.rs.getD (Fy s n).toNat rw0).2.2)=true then(s.rs.getD (Fy s n).toNat rw0,21)else(s.rs.getD (Fy s n).toNat rw0,0)
theorem placeR_lt(l:List Rw)(n:Int):placeR l n<l.length:=by
 unfold placeR A9;split
 ·rename_i k h;rw[QP]at h;obtain⟨hk,_⟩:=h;rw[Qh]at hk;omega
 ·omega
theorem findS_lt(s:Sc)(n:Int):Fy s n<s.rs.length:=by
 unfold Fy;split
 ·omega
 ·exact placeR_lt _ _
def S136:Summs:=AF [(191,Ac ED),(241,Ac R241),(242,Ac R242)]
def EA:List D->Option D:=RF S136 dc136 [.cell (some 3) 4,.t 5] 32
theorem ko136:(Ac EA).ok Qb 136:=AJ fn136 (Ab ko191 (Ab ko241 (Ab ko242 Ad)))
theorem R136_eq(s:Sc)(n:Int)(hl:s.rs.length<=1000):EA [.agg (scC s),.int .i64 n]=some (.tup [rwD (readS s n).1,.int .i64 (readS s n).2]):=by
 refine AH (Qa rfl) ?_;have s191:S136 191=some (Ac ED):=rfl;have s241:S136 241=some (Ac R241):=rfl;have s242:S136 242=some (Ac R242):=rfl;unfold dc136;have h191:=F_ s 6 false hl;have h241:=R241_eq;have h242:=R242_eq s n hl;have hlt:=findS_lt s n;unfold readS;unfold secE at h191;unfold scC at h191 h242 ⊢;generalize Fy s n=i at h242 hlt;cases hb:Dl s 6 with
 |true=>
  rw[hb]at h191;simp only[if_true]at h191;simp only[↓go1,gB3,go5,reduceIte,simprocAttr,Aa s191,h191,Aa s241,h241]
  (refine An.intro (Aj ?_) ?_;(first|rfl|(simp[Ax,Aq,rds,Ae];done)|(simp[Ax,Aq,rds,Ae,Ac];done)))
  simp only[↓go1,gB3,go5,reduceIte,simprocAttr]
  all_goals (first|rfl|exact⟨rfl,rfl⟩|(simp[*];done))
 |false=>
  rw[hb]at h191;simp only[if_false,Qm]at h191;simp only[↓go1,gB3,go5,reduceIte,simprocAttr,Aa s191,h191,Aa s241,h241]
  (refine An.intro (Aj ?_) ?_;(first|rfl|(simp[Ax,Aq,rds,Ae];done)|(simp[Ax,Aq,rds,Ae,Ac];done)))
  by_cases c1:i<0
  ·simp only[↓go1,gB3,go5,reduceIte,simprocAttr,Aa s242,h242,c1]
   all_goals (first|rfl|exact⟨rfl,rfl⟩|(simp[*];done))
  ·have c1':0<=i:=by omega
   have hj:i.toNat<s.rs.length:=by omega
   have hat:=EJ hj;have hg:s.rs.getD i.toNat rw0=s.rs[i.toNat]:=by simp[List.getD,Qg hj]
   rw[hg];generalize s.rs[i.toNat]=x at hat;obtain⟨a,g,d⟩:=x;simp only at hat;cases g with
   |true=>
    simp only[↓go1,gB3,go5,reduceIte,simprocAttr,Aa s242,h242,c1,c1',hat]
    all_goals (first|rfl|exact⟨rfl,rfl⟩|(simp[*];done))
   |false=>
    cases d with
    |true=>
     simp only[↓go1,gB3,go5,reduceIte,simprocAttr,Aa s242,h242,c1,c1',hat]
     all_goals (first|rfl|exact⟨rfl,rfl⟩|(simp[*];done))
    |false=>
     simp only[↓go1,gB3,go5,reduceIte,simprocAttr,Aa s242,h242,c1,c1',hat]
     all_goals (first|rfl|exact⟨rfl,rfl⟩|(simp[*];done))
def refE(s:Sc)(q:Int)(b:Bool)(cas size:Int):Int:=if Dl s q=true∨cas< -1∨size<0 then 2 else if 96<size then 18 else if cas=-1∧(s.cas=true∨b=true)then 17 else if cas≠-1∧cas≠s.la then 16 else if s.la=30 then 19 else 0
def S338:Summs:=AF [(191,Ac ED)]
def R338:List D->Option D:=RF S338 dc338 [.t 8] 49
theorem ko338:(Ac R338).ok Qb 338:=AJ fn338 (Ab ko191 Ad)
theorem R338_eq(s:Sc)(q:Int)(b:Bool)(cas size:Int)(hl:s.rs.length<=1000):R338 [.agg (scC s),.agg [.int .i64 q,.bool b],.int .i64 cas,.int .i64 size]=some (.int .i64 (refE s q b cas size)):=by
 refine AH (Qa rfl) ?_;have s191:S338 191=some (Ac ED):=rfl;unfold dc338;have h191:=F_ s q b hl;unfold refE;unfold secE at h191;unfold scC at h191 ⊢;generalize Dl s q=bad at h191;cases bad with
 |true=>
  simp only[if_true]at h191;simp only[↓go1,gB3,go5,reduceIte,simprocAttr,Aa s191,h191,ne_eq]
  all_goals (first|rfl|exact⟨rfl,rfl⟩|(simp[*];done))
 |false=>
  simp only[if_false,Qm]at h191;by_cases c1:cas< -1
  ·simp only[↓go1,gB3,go5,reduceIte,simprocAttr,Aa s191,h191,ne_eq,c1]
   all_goals (first|rfl|exact⟨rfl,rfl⟩|(simp[*];done))
  by_cases c2:size<0
  ·simp only[↓go1,gB3,go5,reduceIte,simprocAttr,Aa s191,h191,ne_eq,c1,c2]
   all_goals (first|rfl|exact⟨rfl,rfl⟩|(simp[*];done))
  by_cases c3:96<size
  ·simp only[↓go1,gB3,go5,reduceIte,simprocAttr,Aa s191,h191,ne_eq,c1,c2,c3]
   all_goals (first|rfl|exact⟨rfl,rfl⟩|(simp[*];done))
  by_cases c4:cas=-1
  ·have c4':(cas=-1)=True:=eq_true c4;cases h1:s.cas with
   |true=>
    rw[h1]at h191;simp only[↓go1,gB3,go5,reduceIte,simprocAttr,Aa s191,h191,ne_eq,c1,c2,c3,c4']
    all_goals (first|rfl|exact⟨rfl,rfl⟩|(simp[*];done))
   |false=>
    rw[h1]at h191;cases b with
    |true=>
     simp only[↓go1,gB3,go5,reduceIte,simprocAttr,Aa s191,h191,ne_eq,c1,c2,c3,c4']
     all_goals (first|rfl|exact⟨rfl,rfl⟩|(simp[*];done))
    |false=>
     by_cases c6:s.la=30
     ·have c6':(s.la=30)=True:=eq_true c6;simp only[↓go1,gB3,go5,reduceIte,simprocAttr,Aa s191,h191,ne_eq,c1,c2,c3,c4',c6']
      all_goals (first|rfl|exact⟨rfl,rfl⟩|(simp[*];done))
     ·have c6':(s.la=30)=False:=eq_false c6;simp only[↓go1,gB3,go5,reduceIte,simprocAttr,Aa s191,h191,ne_eq,c1,c2,c3,c4',c6']
      all_goals (first|rfl|exact⟨rfl,rfl⟩|(simp[*];done))
  ·have c4':(cas=-1)=False:=eq_false c4;by_cases c5:cas=s.la
   ·have c5':(cas=s.la)=True:=eq_true c5;by_cases c6:s.la=30
    ·have c6':(s.la=30)=True:=eq_true c6;simp only[↓go1,gB3,go5,reduceIte,simprocAttr,Aa s191,h191,ne_eq,c1,c2,c3,c4',c5',c6']
     all_goals (first|rfl|exact⟨rfl,rfl⟩|(simp[*];done))
    ·have c6':(s.la=30)=False:=eq_false c6;simp only[↓go1,gB3,go5,reduceIte,simprocAttr,Aa s191,h191,ne_eq,c1,c2,c3,c4',c5',c6']
     all_goals (first|rfl|exact⟨rfl,rfl⟩|(simp[*];done))
   ·have c5':(cas=s.la)=False:=eq_false c5;simp only[↓go1,gB3,go5,reduceIte,simprocAttr,Aa s191,h191,ne_eq,c1,c2,c3,c4',c5']
    all_goals (first|rfl|exact⟨rfl,rfl⟩|(simp[*];done))
def S339:Summs:=AF []
def R339:List D->Option D:=RF S339 dc339 [.t 2] 8
theorem ko339:(Ac R339).ok Qb 339:=AJ fn339 Ad
theorem R339_eq{nl:Bool}{l:List Rw}(hl:l.length<=100000)(hn:nl=true->l=[]):R339 [.slice nl [] (Ba l)]=some (.slice nl [] (Ba l)):=by
 refine AH (Qa rfl) ?_;unfold dc339;cases nl with
 |true=>
  rw[hn rfl];simp only[↓go1,go2,go3,go5,reduceIte,simprocAttr]
  all_goals (first|rfl|exact⟨rfl,rfl⟩|(simp[*];done))
 |false=>
  simp only[↓go1,go2,go4,go5,reduceIte,simprocAttr];refine An.intro ⟨by rw[AS];omega,rwsD_hd l,.inr ⟨rfl,by simp⟩⟩ ?_;simp only[↓go1,gB3,go5,reduceIte,simprocAttr]
def CY(s:Sc)(q:Int):Nat:=s.rs.length-(BX s q).toNat
def fewS(s:Sc)(q:Int):Sc:={s with rs:=s.rs.drop (CY s q)}
def fewL(s:Sc)(q:Int):List Int:=(s.rs.take (CY s q)).map (·.1)
def S247:Summs:=AF [(294,Ac R294),(339,Ac R339)]
def R247:List D->Option D:=RF S247 dc247 [.cell (some 4) 4,.t 5] 41
theorem ko247:(Ac R247).ok Qb 247:=AJ fn247 (Ab ko294 (Ab ko339 Ad))
theorem R247_eq(s:Sc)(q:Int)(b:Bool)(hl:s.rs.length<=1000)(hk:0<=BX s q∧BX s q<=1000)(hnl:s.nl=true->s.rs=[]):R247 [.agg (scC s),.agg [.int .i64 q,.bool b]]=some (.tup [.agg (scC (fewS s q)),.slice (decide (CY s q=0)) [] (AR (fewL s q))]):=by
 refine AH (Qa rfl) ?_;have s294:S247 294=some (Ac R294):=rfl;have s339:S247 339=some (Ac R339):=rfl;unfold dc247;have h294:=R294_eq s q b;have h339:=R339_eq (nl:=s.nl) (l:=s.rs.drop (CY s q)) (by rw[Q3];omega) (λh=>by rw[hnl h,List.drop_nil]);have hw:IntKind.i64.wrap ((s.rs.length:Int)-BX s q)=(s.rs.length:Int)-BX s q:=w64 (by omega) (by omega);have hm:max 0 ((s.rs.length:Int)-BX s q)=(CY s q:Int):=by unfold CY;omega
 have hn:CY s q<=s.rs.length:=by unfold CY;omega
 have hb1:(0:Int)<=(CY s q:Int)∧(CY s q:Int)<=((s.rs.length:Nat):Int):=⟨by omega,by omega⟩;have htk:(Ba s.rs).take (CY s q)=Ba (s.rs.take (CY s q)):=List.map_take.symm;have hdr:(Ba s.rs).drop (CY s q)=Ba (s.rs.drop (CY s q)):=List.map_drop.symm;have hfew:fewS s q={s with rs:=s.rs.drop (CY s q)}:=rfl;unfold fewL;rw[hfew];unfold scC at h294 ⊢;generalize CY s q=n at *;generalize BX s q=kp at *;clear hfew;simp only[↓go1,gB3,go5,reduceIte,simprocAttr,Aa s294,h294,AS,hw,hm]
 (refine An.intro (Aj ?_) ?_;(first|rfl|(simp[Ax,Aq,rds,Ae];done)|(simp[Ax,Aq,rds,Ae,Ac];done)))
 simp only[↓go1,gB3,go5,reduceIte,simprocAttr,AS,rwsD_hd,hb1,Qc,htk,Nat.sub_zero,QR,Nat.min_eq_left hn];refine Bm (n:=n) (I:=λj st=>st.s 21= .slice s.nl [] (Ba (s.rs.take n))∧st.s 22= .int .i64 (n:Int)∧st.s 23= .int .i64 (j:Int)∧st.s 2= .ptr [0] 0∧st.s 4= .ptr [2] 0∧st.s 6= .int .i64 (n:Int)∧∃nl t,st.s 7= .slice nl t (AR (((s.rs.take n).take j).map (·.1)))∧nl=decide (j=0)∧LG 4 _ 3 st.m st.c nl t) (λj hj ih st g hI=>?_) (λst g hI=>?_) 0 (Qn _) _ _ ⟨(by show D.slice _ _ (List.take n (List.drop 0 (Ba s.rs)))=_;rw[List.drop_zero,htk]),rfl,rfl,rfl,rfl,rfl,true,[],rfl,rfl,LG.start (by simp only;omega)⟩
 ·obtain⟨st_s,st_m,st_c⟩:=st;obtain⟨h21,h22,h23,h2,h4,h6,nl,t,h7,hnl',hG⟩:=hI;simp only at h21 h22 h23 h2 h4 h6 h7 hG;refine Af dc247l0.eq_1 ?_;have hlt:((j:Int)<n):=by omega
  have hj0:(0:Int)<=(j:Int):=by omega
  have hw:IntKind.i64.wrap ((j:Int)+1)=((j+1:Nat):Int):=w64 (by omega) (by omega);have hlen:(s.rs.take n).length=n:=by rw[QR];omega
  generalize s.rs.take n=l at *;have hat:=EJ (l:=l) (j:=j) (by omega);have htk:AR ((l.take (j+1)).map (·.1))=AR ((l.take j).map (·.1))++[.int .i64 (l[j]'(by omega)).1]:=by
   rw[QC (by omega),QV];simp[AR]
  have hal:(AR ((l.take j).map (·.1))).length=j:=by simp[AR];omega
  have hnil:nl=true->AR ((l.take j).map (·.1))=[]:=by
   rw[hnl'];intro h;have:j=0:=by simpa using h
   subst this;rfl
  generalize AR ((l.take j).map (·.1))=acc at h7 htk hal hnil;generalize l[j]'(by omega)=x at hat htk;simp only[↓go1,gB3,go5,reduceIte,simprocAttr,h21,h22,h23,h7,hlt,hj0,Qc,hat];refine An.intro ⟨by omega,rfl,(by first|exact hG.grow|exact(hG.put (by omega)).grow|exact((hG.put (by omega)).put (by omega)).grow|exact(((hG.put (by omega)).put (by omega)).put (by omega)).grow|exact((((hG.put (by omega)).put (by omega)).put (by omega)).put (by omega)).grow|exact(((((hG.put (by omega)).put (by omega)).put (by omega)).put (by omega)).put (by omega)).grow)⟩ ?_;rw[BK hnil,←htk];simp only[↓go1,go2,reduceIte,simprocAttr,h23,hw];exact ih _ _ ⟨h21,h22,rfl,h2,h4,h6,false,_,rfl,by simp,(by first|exact hG.app (by omega) (by simp only;omega)|exact(hG.put (by omega)).app (by omega) (by simp only;omega)|exact((hG.put (by omega)).put (by omega)).app (by omega) (by simp only;omega)|exact(((hG.put (by omega)).put (by omega)).put (by omega)).app (by omega) (by simp only;omega)|exact((((hG.put (by omega)).put (by omega)).put (by omega)).put (by omega)).app (by omega) (by simp only;omega)|exact(((((hG.put (by omega)).put (by omega)).put (by omega)).put (by omega)).put (by omega)).app (by omega) (by simp only;omega))⟩
 ·obtain⟨st_s,st_m,st_c⟩:=st;obtain⟨h21,h22,h23,h2,h4,h6,nl,t,h7,hnl',hG⟩:=hI;simp only at h21 h22 h23 h2 h4 h6 h7 hG;refine Af dc247l0.eq_1 ?_;have m0:∀k,st_m [0] k=_:=λk=>hG.low 0 k (by omega)
  have m2:∀k,st_m [2] k=_:=λk=>hG.low 2 k (by omega)
  have hd2:(Ba s.rs).take s.rs.length=Ba s.rs:=QQ (by rw[AS];omega);have hdt:(Ba (s.rs.drop n)).take (s.rs.length-n)=Ba (s.rs.drop n):=QQ (by rw[AS,Q3];omega);have ht2:(s.rs.take n).take n=s.rs.take n:=QQ (by rw[QR];omega);rw[ht2]at h7;simp only[↓go1,gB3,go5,reduceIte,simprocAttr,h22,h23,h2,h4,h6,h7,Ql,m0,m2,AS,rwsD_hd,hb1,Qc,hdt,hdr,Aa s339,h339];subst hnl'
  all_goals (first|rfl|exact⟨rfl,rfl⟩|(simp[*];done))
def clQ:Summ where
 rd:=λ_ _=>[]
 ex:=λds _ fr=>match ds with
  |[.slice nl _ xs]=>if xs.length<=100000∧(nl=true->xs=[])∧D.headSz xs 3=3 then(if nl=true then some (.slice true [] [],[])else some (.slice false (5::fr) xs,[(5::fr,0,[.tok 229])]))else none
  |_=>none
theorem clone339{nl:Bool}{t:Id}{xs:List D}{m:Mem}{fr:Id}(h1:xs.length<=100000)(h2:nl=true->xs=[])(h3:D.headSz xs 3=3)(S:Summs){R:D->Mem->Prop}(hR:if nl=true then R (.slice true [] []) m else R (.slice false (5::fr) xs) (((m.put (3::fr) 0 [.tok 229]).put (3::fr) 0 [.tok 0]).put (5::fr) 0 [.tok 229])):dc339.wp S fr (DE [.t 2] R) ⟨Bx [.slice nl t xs],m,0⟩:=by
 unfold dc339;cases nl with
 |true=>
  simp only[↓go1,go2,go5,reduceIte,Qd,Qi,reduceCtorEq];simpa using hR
 |false=>
  simp only[↓go1,go2,go4,go5,reduceIte,Qd,Qi,reduceCtorEq];refine An.intro ⟨by omega,h3,.inr ⟨Bq ..▸by simp,by simp⟩⟩ ?_;simp only[↓go1,go2,go4,go5,reduceIte,Qd,Qi];simp only[Qm,if_false]at hR;exact hR
theorem ok339q:clQ.ok Qb 339:=by
 refine opn_ok2 (S:=λ_=>none) AL fn339 (λds m m' fr _=>rfl) (λds m fr r u hex hfr=>?_);simp only[clQ]at hex;split at hex
 ·rename_i nl t xs;split at hex
  ·rename_i hc;obtain⟨h1,h2,h3⟩:=hc;refine⟨by simp,clone339 h1 h2 h3 _ ?_⟩;cases nl with
   |true=>
    simp only[if_true,Qe,QM]at hex ⊢;obtain⟨rfl,rfl⟩:=hex;exact⟨rfl,λ_ _ _ h=>h⟩
   |false=>
    simp only[Qm,if_false,Qe,QM]at hex ⊢;obtain⟨rfl,rfl⟩:=hex;refine⟨rfl,λi o x h=>?_⟩;have h':(m.put (5::fr) 0 [.tok 229]) i o=some x:=h;rw[Bq]at h' ⊢;split at h'
    ·rename_i e;rw[if_pos e];exact h'
    ·rename_i e;rw[if_neg e,Bq,if_neg,Bq,if_neg]
     ·exact h'
     ·rintro⟨rfl,_⟩;rw[hfr (3::fr) _ ⟨[3],rfl⟩]at h';cases h'
     ·rintro⟨rfl,_⟩;rw[hfr (3::fr) _ ⟨[3],rfl⟩]at h';cases h'
  ·cases hex
 ·cases hex
theorem clQ_ex{nl:Bool}{t:Id}{l:List Rw}{m:Mem}{fr:Id}(h1:l.length<=1000)(h2:nl=true->l=[]):clQ.ex [.slice nl t (Ba l)] m fr=if nl=true then some (.slice true [] [],[])else some (.slice false (5::fr) (Ba l),[(5::fr,0,[.tok 229])]):=
 if_pos ⟨by rw[AS];omega,λh=>by rw[h2 h];rfl,rwsD_hd l⟩
theorem badS_get{s:Sc}{q:Int}(h:Dl s q=false):(1<=q∧q<=6)∧(0<=s.mx∧s.mx<=6)∧(0<=s.la∧s.la<=30)∧(s.rs.length:Int)<=BX s q∧risB s.rs 0=true∧newE s.rs=s.la:=by
 simpa[Dl]using h
theorem refE_get{s:Sc}{q:Int}{b:Bool}{cas size:Int}(h:refE s q b cas size=0):Dl s q=false:=by
 unfold refE at h;split at h
 ·omega
 ·rename_i hc;cases hb:Dl s q with
  |true=>exact absurd (.inl hb) hc
  |false=>rfl
theorem keeps_bd{s:Sc}{q:Int}(h1:1<=q∧q<=6)(h2:0<=s.mx∧s.mx<=6):0<=BX s q∧BX s q<=1000:=by
 unfold BX;split<;>omega
def EO(s:Sc):Sc:={s with la:=s.la+1,nl:=false,rs:=s.rs++[(s.la+1,false,false)]}
def CI(s:Sc)(q:Int)(b:Bool)(cas size:Int):Sc×Int×List Int×Int:=if refE s q b cas size≠0 then(s,0,[],refE s q b cas size)else(fewS (EO s) q,s.la+1,fewL (EO s) q,0)
theorem fewL_nil{s:Sc}{q:Int}:(fewL s q=[])=(CY s q=0):=by
 unfold fewL;apply propext;rw[List.map_eq_nil_iff,←Qq,QR];unfold CY;omega
def S243:Summs:=AF [(338,Ac R338),(247,Ac R247),(339,clQ)]
def R243:List D->Option D:=RF S243 dc243 [.cell (some 4) 8,.t 9,.t 10,.t 11] 47
theorem ko243:(Ac R243).ok Qb 243:=AJ fn243 (Ab ko338 (Ab ko247 (Ab ok339q Ad)))
theorem R243_eq(s:Sc)(q:Int)(b:Bool)(cas size:Int)(hl:s.rs.length<=900)(hnl:s.nl=true->s.rs=[]):R243 [.agg (scC s),.agg [.int .i64 q,.bool b],.int .i64 cas,.int .i64 size]=some (.tup [.agg (scC (CI s q b cas size).1),.int .i64 (CI s q b cas size).2.1,.slice (decide ((CI s q b cas size).2.2.1=[])) [] (AR (CI s q b cas size).2.2.1),.int .i64 (CI s q b cas size).2.2.2]):=by
 refine AH (Qa rfl) ?_;have s338:S243 338=some (Ac R338):=rfl;have s247:S243 247=some (Ac R247):=rfl;have s339:S243 339=some (clQ):=rfl;unfold dc243;have h338:=R338_eq s q b cas size (by omega);have h339:=λ(m:Mem)(fr:Id)=>clQ_ex (nl:=s.nl) (t:=[]) (l:=s.rs) (m:=m) (fr:=fr) (by omega) hnl
 unfold CI;by_cases he:refE s q b cas size=0
 ·obtain⟨b1,b2,b3,_⟩:=badS_get (refE_get he);have hk:BX (EO s) q=BX s q:=rfl;have h247:=R247_eq (EO s) q b (by simp[EO];omega) (by rw[hk];exact keeps_bd b1 b2) (by simp[EO]);have hw:IntKind.i64.wrap (s.la+1)=s.la+1:=w64 (by omega) (by omega);have hfl:(fewS (EO s) q).la=s.la+1:=rfl;have hnE:=fewL_nil (s:=EO s) (q:=q);rw[he]at h338;rw[he];simp only[ne_eq,not_true_eq_false,if_false,hnE];generalize decide (CY (EO s) q=0)=nl2 at h247 ⊢;generalize fewL (EO s) q=l2 at *;generalize fewS (EO s) q=s2 at *;have hrs:Ba (s.rs++[(s.la+1,false,false)])=Ba s.rs++[.agg [.int .i64 (s.la+1),.bool false,.bool false]]:=by simp[Ba,rwD]
  unfold EO scC at h247;simp only[hrs]at h247;unfold scC at h338 ⊢;rw[hfl]at h247;clear hk;have hal:(Ba s.rs).length=s.rs.length:=AS _;cases hn:s.nl with
  |true=>
   rw[hn]at h338 h339;rw[hnl hn]at h338 h247 h339 hal ⊢;simp only[if_true]at h339;have e0:Ba []=[]:=rfl;rw[e0]at h338 h247 h339 hal ⊢;rw[List.nil_append]at h247;simp only[↓go1,gB3,go5,reduceIte,Qd,Qi,Qk,Qp,Qs,reduceCtorEq,Aa s338,h338,Ah s339,h339,hw];refine An.intro ⟨by simp,rfl,.inl rfl⟩ ?_;simp only[↓go1,gB3,go5,reduceIte,Qd,Qi,Qk,Qp,Qs,reduceCtorEq]
   (refine An.intro (Aj ?_) ?_;(first|rfl|(simp[Ax,Aq,rds,Ae];done)|(simp[Ax,Aq,rds,Ae,Ac];done)))
   simp only[↓go1,gB3,go5,reduceIte,Qd,Qi,Qk,Qp,Qs,reduceCtorEq,Aa s247,h247]
   (refine An.intro (Aj ?_) ?_;(first|rfl|(simp[Ax,Aq,rds,Ae];done)|(simp[Ax,Aq,rds,Ae,Ac];done)))
   simp only[↓go1,gB3,go5,reduceIte,Qd,Qi,Qk,Qp,Qs,hfl]
   all_goals (first|rfl|exact⟨rfl,rfl⟩|(simp[*];done))
  |false=>
   rw[hn]at h338 h339;simp only[if_false,Qm]at h339;simp only[↓go1,gB3,go5,reduceIte,Qd,Qi,Qk,Qp,Qs,reduceCtorEq,Aa s338,h338,Ah s339,h339,hw];refine An.intro ⟨by simp only[hal];omega,rfl,.inr ⟨by simp[Mem.put],by simp⟩⟩ ?_;simp only[↓go1,gB3,go5,reduceIte,Qd,Qi,Qk,Qp,Qs,reduceCtorEq]
   (refine An.intro (Aj ?_) ?_;(first|rfl|(simp[Ax,Aq,rds,Ae];done)|(simp[Ax,Aq,rds,Ae,Ac];done)))
   simp only[↓go1,gB3,go5,reduceIte,Qd,Qi,Qk,Qp,Qs,reduceCtorEq,Aa s247,h247]
   (refine An.intro (Aj ?_) ?_;(first|rfl|(simp[Ax,Aq,rds,Ae];done)|(simp[Ax,Aq,rds,Ae,Ac];done)))
   simp only[↓go1,gB3,go5,reduceIte,Qd,Qi,Qk,Qp,Qs,reduceCtorEq,hfl]
   all_goals (first|rfl|exact⟨rfl,rfl⟩|(simp[*];done))
 ·have he':(refE s q b cas size=0)=False:=eq_false he;unfold scC at h338 ⊢;simp only[ne_eq,he',not_false_eq_true,if_true];generalize refE s q b cas size=e at *;simp only[↓go1,gB3,go5,reduceIte,Qd,Qi,Qk,reduceCtorEq,Aa s338,h338,he']
  all_goals (first|rfl|exact⟨rfl,rfl⟩|(simp[*];done))
def D4(s:Sc)(q:Int)(most:Int)(cas:Bool):Sc×List Int×Int:=if Dl s q=true∨¬(0<=most∧most<=6)then(s,[],2)else(fewS {s with mx:=most,cas:=cas} q,fewL {s with mx:=most,cas:=cas} q,0)
def S139:Summs:=AF [(246,Ac F246),(191,Ac ED),(247,Ac R247)]
def R139:List D->Option D:=RF S139 dc139 [.cell (some 4) 8,.t 9,.t 10] 35
theorem ko139:(Ac R139).ok Qb 139:=AJ fn139 (Ab ok246 (Ab ko191 (Ab ko247 Ad)))
theorem R139_eq(s:Sc)(q:Int)(b:Bool)(most:Int)(cas:Bool)(hl:s.rs.length<=1000)(hnl:s.nl=true->s.rs=[]):R139 [.agg (scC s),.agg [.int .i64 q,.bool b],.int .i64 most,.bool cas]=some (.tup [.agg (scC (D4 s q most cas).1),.slice (decide ((D4 s q most cas).2.1=[])) [] (AR (D4 s q most cas).2.1),.int .i64 (D4 s q most cas).2.2]):=by
 refine AH (Qa rfl) ?_;have s246:S139 246=some (Ac F246):=rfl;have s191:S139 191=some (Ac ED):=rfl;have s247:S139 247=some (Ac R247):=rfl;unfold dc139;have h191:=F_ s q b hl;have h246:∀x a b:Int,F246 [.int .i64 x,.int .i64 a,.int .i64 b]=some (.bool (decide (a<=x∧x<=b))):=λ_ _ _=>rfl
 unfold D4;unfold secE at h191;cases hb:Dl s q with
 |true=>
  rw[hb]at h191;simp only[if_true]at h191;unfold scC at h191 ⊢;simp only[↓go1,gB3,go5,reduceIte,Qd,Qi,Qk,reduceCtorEq,Int.reduceEq,Aa s191,h191,true_or,if_true]
  all_goals (first|rfl|exact⟨rfl,rfl⟩|(simp[*];done))
 |false=>
  rw[hb]at h191;simp only[if_false,Qm]at h191;by_cases c1:0<=most∧most<=6
  ·obtain⟨b1,b2,b3,_⟩:=badS_get hb;have h247:=R247_eq {s with mx:=most,cas:=cas} q b hl (keeps_bd b1 c1) hnl;have hnE:=fewL_nil (s:={s with mx:=most,cas:=cas}) (q:=q);simp only[c1,and_self,not_true_eq_false,or_self,if_false,Qm,hnE];generalize decide (CY {s with mx:=most,cas:=cas} q=0)=nl2 at h247 ⊢;generalize fewL {s with mx:=most,cas:=cas} q=l2 at *;generalize fewS {s with mx:=most,cas:=cas} q=s2 at *;unfold scC at h191 h247 ⊢;simp only[↓go1,gB3,go5,reduceIte,Qd,Qi,Qk,Qp,Qs,reduceCtorEq,Aa s191,h191,Aa s246,h246,Aa s247,h247,c1]
   all_goals (first|rfl|exact⟨rfl,rfl⟩|(simp[*];done))
  ·unfold scC at h191 ⊢;simp only[↓go1,gB3,go5,reduceIte,Qd,Qi,Qk,reduceCtorEq,Aa s191,h191,Aa s246,h246,c1,or_true,if_true]
   all_goals (first|rfl|exact⟨rfl,rfl⟩|(simp[*];done))
theorem fxs_ok{α:Type}{mk:α->List D}{ok:α->Prop}{res:α->D}{P:Program}{S:Summs}{f:FuncId}{N:Nat}{dc:DC}{rs:List RV}(hS:Summs.ok P S)(hf:Fn P f N dc rs)(hN:∀a,(mk a).length<=N)
  (hF:∀a,ok a->(res a).calmR=true∧dc.wp S [] (DE rs λd m'=>SetR m' d (res a)) ⟨Bx (mk a),λ_ _=>none,0⟩):(Ac (FX mk ok res)).ok P f:=by
 refine fun_set hS hf (λds r h=>?_) (λds r h=>?_)
 ·obtain⟨a,_,rfl,_⟩:=F6 h;exact hN a
 ·obtain⟨a,ha,rfl,rfl⟩:=F6 h;exact hF a ha
theorem firstT_at{l:List Int}{n:Int}{j:Nat}(hj:j<l.length)(hx:n=l[j])(hall:∀i (h:i<j),n≠l[i]'(by omega)):A9 (l.map λx=>decide (n=x))=j:=by
 unfold A9;have:(l.map λx=>decide (n=x)).findIdx? id=some j:=by
  rw[QP];refine⟨by simpa using hj,by simp[hx],λi hi=>?_⟩;have:=hall i hi;simpa using this
 rw[this]
theorem firstT_no{l:List Int}{n:Int}(hall:∀i (h:i<l.length),n≠l[i]):A9 (l.map λx=>decide (n=x))=-1:=by
 unfold A9;have:(l.map λx=>decide (n=x)).findIdx? id=none:=by
  rw[List.findIdx?_eq_none_iff];intro b hb;obtain⟨x,hx,rfl⟩:=QL.1 hb;obtain⟨i,hi,rfl⟩:=QY hx;simpa using hall i hi
 rw[this]
theorem intsD_at'{l:List Int}{j:Nat}(h:j<l.length):(AR l)[j]?=some (.int .i64 l[j]):=by simp[AR,Qg h]
def hasI(l:List Int)(n:Int):Bool:=l.any λx=>decide (n=x)
theorem hasI_first(l:List Int)(n:Int):decide (0<=A9 (l.map λx=>decide (n=x)))=hasI l n:=by
 rw[FU,List.any_map];rfl
def S387:Summs:=AF []
def R387:List D->Option D:=RF S387 dc387 [.t 4] 19
theorem ko387:(Ac R387).ok Qb 387:=AJ fn387 Ad
theorem R387_eq{nl:Bool}{l:List Int}(n:Int)(hl:l.length<=1000):R387 [.slice nl [] (AR l),.int .i64 n]=some (.int .i64 (A9 (l.map λx=>decide (n=x)))):=by
 refine AH (Qa rfl) ?_;unfold dc387;simp only[↓go1,go2,reduceIte,simprocAttr,intsD_len'];refine Bm (n:=l.length) (I:=λj st=>st.s 0= .slice nl [] (AR l)∧st.s 1= .int .i64 n∧st.s 7= .int .i64 l.length∧st.s 8= .int .i64 (j:Int)∧∀i (h:i<j) (h2:i<l.length),n≠l[i]) (λj hj ih st g hI=>?_) (λst g hI=>?_) 0 (Qn _) _ _ ⟨rfl,rfl,rfl,rfl,λi h=>absurd h (QH _)⟩
 ·obtain⟨st_s,st_m,st_c⟩:=st;obtain⟨h0,h1,h7,h8,hall⟩:=hI;simp only at h0 h1 h7 h8;refine Af dc387l0.eq_1 ?_;have hlt:((j:Int)<l.length):=by omega
  have hj0:(0:Int)<=(j:Int):=by omega
  have hw:IntKind.i64.wrap ((j:Int)+1)=((j+1:Nat):Int):=w64 (by omega) (by omega);have hat:=intsD_at' hj;by_cases hx:n=l[j]
  ·have e:=firstT_at hj hx (λi h=>hall i h (by omega));have hx':(n=l[j])=True:=eq_true hx;simp only[↓go1,gB3,go5,reduceIte,simprocAttr,h0,h1,h7,h8,hlt,hj0,Qc,hat,hx'];rw[e]
   all_goals (first|rfl|exact⟨rfl,rfl⟩|(simp[*];done))
  ·have hx':(n=l[j])=False:=eq_false hx;simp only[↓go1,gB3,go5,reduceIte,simprocAttr,h0,h1,h7,h8,hlt,hj0,Qc,hat,hx',hw];refine ih _ _ ⟨h0,h1,h7,rfl,λi h h2=>?_⟩;rcases Qz (QD h)with h|rfl
   ·exact hall i h h2
   ·exact hx
 ·obtain⟨h0,h1,h7,h8,hall⟩:=hI;refine Af dc387l0.eq_1 ?_;have e:=firstT_no (λi h=>hall i h h);simp only[↓go1,gB3,go5,reduceIte,simprocAttr,h7,h8,Ql];rw[e]
  all_goals (first|rfl|exact⟨rfl,rfl⟩|(simp[*];done))
def S341:Summs:=AF [(387,Ac R387)]
def R341:List D->Option D:=RF S341 dc341 [.t 4] 9
theorem ko341:(Ac R341).ok Qb 341:=AJ fn341 (Ab ko387 Ad)
theorem R341_eq{nl:Bool}{l:List Int}(n:Int)(hl:l.length<=1000):R341 [.slice nl [] (AR l),.int .i64 n]=some (.bool (hasI l n)):=by
 refine AH (Qa rfl) ?_;have s387:S341 387=some (Ac R387):=rfl;unfold dc341;have h387:=R387_eq (nl:=nl) n hl;have e:=hasI_first l n;generalize A9 (l.map λx=>decide (n=x))=i at *;simp only[↓go1,gB3,go5,reduceIte,simprocAttr,Aa s387,h387];rw[←e]
 all_goals (first|rfl|exact⟨rfl,rfl⟩|(simp[*];done))
def S250:Summs:=AF []
def R250:List D->Option D:=RF S250 dc250 [.cell (some 3) 2] 6
theorem ko250:(Ac R250).ok Qb 250:=AJ fn250 Ad
theorem R250_eq(r:Rw):R250 [.agg [.int .i64 r.1,.bool r.2.1,.bool r.2.2]]=some (.agg [.int .i64 r.1,.bool true,.bool false]):=by
 refine AH (Qa rfl) ?_;unfold dc250;simp only[↓go1,gB3,go5,reduceIte,simprocAttr]
 all_goals (first|rfl|exact⟨rfl,rfl⟩|(simp[*];done))
def S251:Summs:=AF []
def R251:List D->Option D:=RF S251 dc251 [.cell (some 3) 2] 6
theorem ko251:(Ac R251).ok Qb 251:=AJ fn251 Ad
theorem R251_eq(r:Rw):R251 [.agg [.int .i64 r.1,.bool r.2.1,.bool r.2.2]]=some (.agg [.int .i64 r.1,.bool false,.bool false]):=by
 refine AH (Qa rfl) ?_;unfold dc251;simp only[↓go1,gB3,go5,reduceIte,simprocAttr]
 all_goals (first|rfl|exact⟨rfl,rfl⟩|(simp[*];done))
def S252:Summs:=AF []
def R252:List D->Option D:=RF S252 dc252 [.cell (some 3) 2] 6
theorem ko252:(Ac R252).ok Qb 252:=AJ fn252 Ad
theorem R252_eq(r:Rw):R252 [.agg [.int .i64 r.1,.bool r.2.1,.bool r.2.2]]=some (.agg [.int .i64 r.1,.bool false,.bool true]):=by
 refine AH (Qa rfl) ?_;unfold dc252;simp only[↓go1,gB3,go5,reduceIte,simprocAttr]
 all_goals (first|rfl|exact⟨rfl,rfl⟩|(simp[*];done))
def chR(k:Nat)(r:Rw):Rw:=if k=250 then(r.1,true,false)else if k=251 then(r.1,false,false)else(r.1,false,true)
def hitR(ns:List Int)(n j:Nat)(x:Rw):Bool:=(hasI ns x.1||(ns.isEmpty&&decide (j+1=n)))&&!x.2.2
def turnR(ns:List Int)(k n:Nat):Nat->List Rw->List Rw
 |_,[]=>[]
 |j,x::r=>(if hitR ns n j x=true then chR k x else x)::turnR ns k n (j+1) r
def EF(ns:List Int)(n:Nat):Nat->List Rw->List Int
 |_,[]=>[]
 |j,x::r=>if hitR ns n j x=true then x.1::EF ns n (j+1) r else EF ns n (j+1) r
theorem turnR_len(ns:List Int)(k n:Nat):∀(l:List Rw)(j:Nat),(turnR ns k n j l).length=l.length
 |[],_=>rfl
 |x::r,j=>by simp[turnR,turnR_len ns k n r]
def BB(s:Sc)(ns:List Int)(k:Nat):Sc×List Int×Int:=if Dl s 6=true then(s,[],2)else if s.rs=[]then(s,[],6)else({s with rs:=turnR ns k s.rs.length 0 s.rs},EF ns s.rs.length 0 s.rs,0)
def mkTn(p:Sc×Bool×List Int×Nat):List D:=[.agg (scC p.1),.slice p.2.1 [] (AR p.2.2.1),.fn p.2.2.2 []]
theorem rwsD_inj{a b:List Rw}(h:Ba a=Ba b):a=b:=(QZ (λx y e=>by
 simp only[rwD,D.agg.injEq,Qw,D.int.injEq,D.bool.injEq,true_and,and_true]at e;exact QJ e.1 (QJ e.2.1 e.2.2))).1 h
theorem scC_inj{a b:Sc}(h:scC a=scC b):a=b:=by
 cases a;cases b;simp only[scC,Qw,D.int.injEq,D.bool.injEq,D.slice.injEq,true_and,and_true]at h;obtain⟨h1,h2,h3,h4,h5⟩:=h;have:=rwsD_inj h5;subst h1 h2 h3 h4 this;rfl
theorem intsD_inj'{a b:List Int}(h:AR a=AR b):a=b:=(QZ (λx y e=>by simpa using e)).1 h
theorem mkTn_inj(x y:Sc×Bool×List Int×Nat)(e:mkTn x=mkTn y):x=y:=by
 simp only[mkTn,Qw,D.agg.injEq,D.slice.injEq,D.fn.injEq,true_and,and_true]at e;exact QJ (scC_inj e.1) (QJ e.2.1.1 (QJ (intsD_inj' e.2.1.2) e.2.2))
def resTn(p:Sc×Bool×List Int×Nat):D:= .tup [.agg (scC (BB p.1 p.2.2.1 p.2.2.2).1),.slice (decide ((BB p.1 p.2.2.1 p.2.2.2).2.1=[])) [] (AR (BB p.1 p.2.2.1 p.2.2.2).2.1),.int .i64 (BB p.1 p.2.2.1 p.2.2.2).2.2]
structure TnOk (p:Sc×Bool×List Int×Nat):Prop where
 hl:p.1.rs.length<=1000
 hn:p.1.nl=true->p.1.rs=[]
 hs:p.2.2.1.length<=1000
 hk:p.2.2.2=250∨p.2.2.2=251∨p.2.2.2=252
def F249:List D->Option D:=FX mkTn TnOk resTn
def OW:List D->Option (List D):=λds=>match ds with|[.slice false _ xs]=>if xs.length<=100000∧D.headSz xs 3=3∧(flat xs).all D.plain=true then some xs else none|_=>none
theorem own339:(ownS OW).ok Qb 339:=by
 unfold OW;refine own_ok (S:=λ_=>none) AL fn339 (λds r h=>?_) (λds xs h=>?_)
 ·split at h
  ·simp
  ·cases h
 ·split at h
  ·split at h
   ·rename_i hc;simp only[Qe]at h;subst h;exact⟨QE.1 hc.2.2,clone339 hc.1 (by simp) hc.2.1 _ ⟨_,228,rfl,by simp,by simp[Mem.put]⟩⟩
   ·cases h
  ·cases h
theorem rwsD_flat(l:List Rw):(flat (Ba l)).all D.plain=true:=by
 rw[QE];induction l with
 |nil=>intro x hx;cases hx
 |cons y r ih=>
  intro x hx;have hx':x∈[D.int .i64 y.1,.bool y.2.1,.bool y.2.2]++flat (Ba r):=hx;rcases List.mem_append.1 hx' with h|h
  ·simp only[QI,QF,or_false]at h;rcases h with rfl|rfl|rfl<;>rfl
  ·exact ih x h
theorem own_ex{l:List Rw}{t:Id}{m:Mem}{fr:Id}(h:l.length<=1000):(ownS OW).ex [.slice false t (Ba l)] m fr=some (.row fr l.length,[(fr,0,flat (Ba l))]):=by
 have e:OW [.slice false [] ((Ba l).map D.un)]=some (Ba l):=by
  have:(Ba l).map D.un=Ba l:=by rw[Ba,QG];exact QX λ_ _=>rfl
  rw[this];exact if_pos ⟨by rw[AS];omega,rwsD_hd l,rwsD_flat l⟩
 have e2:OW ([D.slice false t (Ba l)].map D.un)=some (Ba l):=if_pos ⟨by rw[AS];omega,rwsD_hd l,rwsD_flat l⟩;simp only[ownS];refine(if_pos rfl).trans ?_;rw[e2,Qt,AS]
def Fd(m:Mem)(i:Id)(l:List Rw):Prop:=∀k x,l[k]?=some x->Ai m i (k*3) 3=some [.int .i64 x.1,.bool x.2.1,.bool x.2.2]
theorem rdW3{m:Mem}{i:Id}{o:Nat}{a b c:D}:Ai m i o 3=some [a,b,c]↔(m i o=some a∧m i (o+1)=some b∧m i (o+2)=some c):=by
 simp only[Ai];cases m i o<;>cases m i (o+1)<;>cases m i (o+1+1)<;>simp
theorem Fd.toFlat{m:Mem}{i:Id}:∀{l:List Rw} {p:Nat},(∀k x,l[k]?=some x->Ai m i (p+k*3) 3=some [.int .i64 x.1,.bool x.2.1,.bool x.2.2])->∀(j:Nat) d,(flat (Ba l))[j]?=some d->m i (p+j)=some d
 |[],p,_,j,d,h=>by simp[Ba,Vd.flat]at h
 |x::r,p,hr,j,d,h=>by
  have h':([D.int .i64 x.1,.bool x.2.1,.bool x.2.2]++Vd.flat (Ba r))[j]?=some d:=h;obtain⟨a0,a1,a2⟩:=rdW3.1 (hr 0 x rfl);simp only[Nat.zero_mul,Nat.add_zero]at a0 a1 a2
  match j,h' with
  |0,h'=>simp only[Q4,Qx,Qe]at h';subst h';exact a0
  |1,h'=>simp only[Q4,QO,Qx,Qe]at h';subst h';exact a1
  |2,h'=>simp only[Q4,QO,Qx,Qe]at h';subst h';exact a2
  |j+3,h'=>
   have:=Fd.toFlat (p:=p+3) (l:=r) (λk y hk=>by
    have:=hr (k+1) y (by simpa using hk);rw[show p+(k+1)*3=p+3+k*3 by omega]at this;exact this) j d (by simpa using h')
   rw[show p+3+j=p+(j+3)by omega]at this;exact this
theorem Fd.of{m:Mem}{i:Id}:∀{l:List Rw} {p:Nat},(∀(j:Nat) d,(flat (Ba l))[j]?=some d->m i (p+j)=some d)->∀k x,l[k]?=some x->Ai m i (p+k*3) 3=some [.int .i64 x.1,.bool x.2.1,.bool x.2.2]
 |[],p,_,k,x,h=>by simp at h
 |y::r,p,hr,k,x,h=>by
  match k,h with
  |0,h=>
   simp only[Qx,Qe]at h;subst h;exact rdW3.2 ⟨by simpa using hr 0 _ rfl,by simpa using hr 1 _ rfl,by simpa using hr 2 _ rfl⟩
  |k+1,h=>
   have:=Fd.of (p:=p+3) (l:=r) (λj d hj=>by
    have:=hr (j+3) d hj;rw[show p+(j+3)=p+3+j by omega]at this;exact this) k x (by simpa using h)
   rw[show p+3+k*3=p+(k+1)*3 by omega]at this;exact this
theorem Fd.set{m:Mem}{i:Id}{A B:List Rw}{x y:Rw}(h:Fd m i (A++x::B)):Fd (m.put i (A.length*3) [.int .i64 y.1,.bool y.2.1,.bool y.2.2]) i (A++y::B):=by
 intro k z hz;by_cases hk:k=A.length
 ·subst hk;rw[QK (Nat.le_refl _),Za,Qx,Qe]at hz;subst hz;refine rdW3.2 ⟨?_,?_,?_⟩<;>simp[Mem.put]
 ·have hz':(A++x::B)[k]?=some z:=by
   rcases Nat.lt_or_gt_of_ne hk with h1|h1
   ·rw[List.getElem?_append_left h1]at hz ⊢;exact hz
   ·rw[QK (by omega)]at hz ⊢;rw[show k-A.length=(k-A.length-1)+1 by omega,QO]at hz ⊢;exact hz
  obtain⟨a0,a1,a2⟩:=rdW3.1 (h k z hz');have ho:∀o,(o=k*3∨o=k*3+1∨o=k*3+2)->(m.put i (A.length*3) [.int .i64 y.1,.bool y.2.1,.bool y.2.2]) i o=m i o:=λo ho=>by
   refine Mem.put_out ?_;simp only[Qj,Qo];omega
  exact rdW3.2 ⟨by rw[ho _ (.inl rfl)];exact a0,by rw[ho _ (.inr (.inl rfl))];exact a1,by rw[ho _ (.inr (.inr rfl))];exact a2⟩
theorem Fd.other{m:Mem}{i j:Id}{o:Nat}{ds:List D}{l:List Rw}(h:Fd m i l)(hne:i≠j):Fd (m.put j o ds) i l:=λk x hk=>by
 obtain⟨a0,a1,a2⟩:=rdW3.1 (h k x hk);exact rdW3.2 ⟨by rw[Mem.put_other hne];exact a0,by rw[Mem.put_other hne];exact a1,by rw[Mem.put_other hne];exact a2⟩
theorem Fd.grow{m:Mem}{i f t:Id}{e:Nat}{nl:Bool}{xs:List D}{l:List Rw}(h:Fd m i l)(h1:i≠f)(h2:nl=false->i≠t):Fd (Upd.app m (Be e f (.slice nl t xs))) i l:=by
 cases nl with
 |true=>exact h.other h1
 |false=>exact(h.other (h2 rfl)).other h1
theorem LG.row{c0 e c r o:Nat}{m0 m:Mem}{nl:Bool}{t:Id}{ds:List D}(h:LG c0 m0 e m c nl t)(hr:c0<=r)(ht:nl=false->t≠[r]):LG c0 m0 e (m.put [r] o ds) c nl t:=by
 obtain⟨h1,h2,h3⟩:=h;refine⟨λq o' hq=>?_,?_,h3⟩
 ·rw[Mem.put_other (by simp;omega)];exact h1 q o' hq
 ·rcases h2 with h2|⟨j,rfl,a,b,d⟩
  ·exact .inl h2
  ·cases nl with
   |true=>exact .inl rfl
   |false=>exact .inr ⟨j,rfl,a,b,by rw[Mem.put_other (ht rfl)];exact d⟩
theorem rd3s{m:Mem}{i:Id}{o:Nat}{a b c:D}(h:Ai m i o 3=some [a,b,c]):m i o=some a∧m i (o+1)=some b∧m i (o+1+1)=some c:=rdW3.1 h
theorem row_da{i:Id}{n:Nat}:D.data (.row i n)=true:=rfl
theorem row_ce{i:Id}{n:Nat}:D.cells (.row i n)=[.row i n]:=rfl
theorem ok249:(Ac F249).ok Qb 249:=by
 have hS:Summs.ok Qb (AF [(191,Ac ED),(241,Ac R241),(339,ownS OW),(341,Ac R341),(250,Ac R250),(251,Ac R251),(252,Ac R252)]):=Ab ko191 (Ab ko241 (Ab own339 (Ab ko341 (Ab ko250 (Ab ko251 (Ab ko252 Ad))))));have s191:AF [(191,Ac ED),(241,Ac R241),(339,ownS OW),(341,Ac R341),(250,Ac R250),(251,Ac R251),(252,Ac R252)] 191=some (Ac ED):=rfl;have s241:AF [(191,Ac ED),(241,Ac R241),(339,ownS OW),(341,Ac R341),(250,Ac R250),(251,Ac R251),(252,Ac R252)] 241=some (Ac R241):=rfl;have s339:AF [(191,Ac ED),(241,Ac R241),(339,ownS OW),(341,Ac R341),(250,Ac R250),(251,Ac R251),(252,Ac R252)] 339=some (ownS OW):=rfl;have s341:AF [(191,Ac ED),(241,Ac R241),(339,ownS OW),(341,Ac R341),(250,Ac R250),(251,Ac R251),(252,Ac R252)] 341=some (Ac R341):=rfl;have sk:∀k,k=250∨k=251∨k=252->∃F,AF [(191,Ac ED),(241,Ac R241),(339,ownS OW),(341,Ac R341),(250,Ac R250),(251,Ac R251),(252,Ac R252)] k=some (Ac F)∧∀x:Rw,F [.agg [.int .i64 x.1,.bool x.2.1,.bool x.2.2]]=some (.agg [.int .i64 (chR k x).1,.bool (chR k x).2.1,.bool (chR k x).2.2]):=λk hk=>by
  rcases hk with rfl|rfl|rfl
  ·exact⟨R250,rfl,R250_eq⟩
  ·exact⟨R251,rfl,R251_eq⟩
  ·exact⟨R252,rfl,R252_eq⟩
 generalize AF [(191,Ac ED),(241,Ac R241),(339,ownS OW),(341,Ac R341),(250,Ac R250),(251,Ac R251),(252,Ac R252)]=S at hS s191 s241 s339 s341 sk;refine fxs_ok hS fn249 (λ_=>by simp[mkTn]) (λp hp=>⟨by rfl,?_⟩);obtain⟨s,bn,ns,k⟩:=p;obtain⟨hl,hn,hs,hk⟩:=hp;simp only at hl hn hs hk;obtain⟨F,sF,hF⟩:=sk k hk;have h191:=F_ s 6 false hl;have h241:=R241_eq;unfold dc249 mkTn resTn BB;simp only;unfold secE at h191;cases hb:Dl s 6 with
 |true=>
  rw[hb]at h191;simp only[if_true]at h191 ⊢;unfold scC at h191 ⊢;simp only[↓go1,gB3,go5,reduceIte,simprocAttr,Aa s191,h191,Aa s241,h241]
  (refine An.intro (Aj ?_) ?_;(first|rfl|(simp[Ax,Aq,rds,Ae];done)|(simp[Ax,Aq,rds,Ae,Ac];done)))
  simp only[↓go1,gB3,go5,reduceIte,simprocAttr];exact .inr ⟨_,_,rfl,rfl,.inl (.inl rfl),.inl (.inl rfl),.inl (.inl rfl),trivial⟩
 |false=>
  rw[hb]at h191;simp only[if_false,Qm]at h191 ⊢;by_cases hz:s.rs=[]
  ·have hz':((s.rs.length:Int)=0)=True:=eq_true (by rw[hz];rfl);simp only[if_pos hz];unfold scC at h191 ⊢;simp only[↓go1,gB3,go5,reduceIte,simprocAttr,Aa s191,h191,Aa s241,h241]
   (refine An.intro (Aj ?_) ?_;(first|rfl|(simp[Ax,Aq,rds,Ae];done)|(simp[Ax,Aq,rds,Ae,Ac];done)))
   simp only[↓go1,gB3,go5,reduceIte,simprocAttr,AS,hz'];exact .inr ⟨_,_,rfl,rfl,.inl (.inl rfl),.inl (.inl rfl),.inl (.inl rfl),trivial⟩
  ·have hpos:0<s.rs.length:=by
    rcases Nat.eq_zero_or_pos s.rs.length with h|h
    ·exact absurd (Qq.1 h) hz
    ·exact h
   have hz':((s.rs.length:Int)=0)=False:=eq_false (by omega);have hsn:s.nl=false:=by
    cases h:s.nl with
    |true=>exact absurd (hn h) hz
    |false=>rfl
   have hown:=λ(m:Mem)(fr:Id)=>own_ex (l:=s.rs) (t:=[]) (m:=m) (fr:=fr) hl
   simp only[if_neg hz];unfold scC at h191 ⊢;simp only[hsn]at h191 ⊢;simp only[↓go1,gB3,go5,reduceIte,simprocAttr,Aa s191,h191,Aa s241,h241]
   (refine An.intro (Aj ?_) ?_;(first|rfl|(simp[Ax,Aq,rds,Ae];done)|(simp[Ax,Aq,rds,Ae,Ac];done)))
   simp only[↓go1,gB3,go5,reduceIte,simprocAttr,AS,hz',Ah s339,hown];have hflat:Fd (Mem.put (λ_ _=>none) [14] 0 (flat (Ba s.rs))) [14] s.rs:=λk x hk=>by
    have:=Fd.of (m:=Mem.put (λ_ _=>none) [14] 0 (flat (Ba s.rs))) (i:=[14]) (p:=0) (l:=s.rs) (λj d hj=>by
     have hjl:=(Q_.1 hj).1;rw[Mem.put_same hjl,hj]) k x hk
    rwa [QB]at this
   refine Bm (n:=s.rs.length) (I:=λj st=>st.s 27= .row [14] s.rs.length∧st.s 28= .int .i64 s.rs.length∧st.s 29= .int .i64 (j:Int)∧st.s 9= .row [14] s.rs.length∧st.s 1= .slice bn [] (AR ns)∧st.s 2= .fn k []∧st.s 3= .ptr [0] 0∧st.s 6= .ptr [1] 0∧∃A B nl t,A.length=j∧A++turnR ns k s.rs.length j (s.rs.drop j)=turnR ns k s.rs.length 0 s.rs∧B++EF ns s.rs.length j (s.rs.drop j)=EF ns s.rs.length 0 s.rs∧st.s 10= .slice nl t (AR B)∧nl=decide (B=[])∧Fd st.m [14] (A++s.rs.drop j)∧15<=st.c∧(nl=false->t≠[14])∧LG 14 _ 3 st.m st.c nl t) (λj hj ih st g hI=>?_) (λst g hI=>?_) 0 (Qn _) _ _ ⟨rfl,rfl,rfl,rfl,rfl,rfl,rfl,rfl,[],[],true,[],rfl,rfl,rfl,rfl,rfl,?_,by simp only;omega,by simp,LG.start (by simp only;omega)⟩
   rotate_left 2
   ·intro k x hk;obtain⟨a0,a1,a2⟩:=rdW3.1 (hflat k x hk);have hpl:k*3+2<(flat (Ba s.rs)).length:=by
     by_cases hh:k*3+2<(flat (Ba s.rs)).length
     ·exact hh
     ·rw[Mem.put_out (by omega)]at a2;cases a2
    refine rdW3.2 ⟨?_,?_,?_⟩
    ·rw[←a0];simp[Mem.put]
    ·rw[←a1];simp[Mem.put]
    ·rw[←a2];simp[Mem.put]
   ·obtain⟨st_s,st_m,st_c⟩:=st;obtain⟨h27,h28,h29,h9,h1,h2,h3,h6,A,B,nl,t,hAl,hA,hB,h10,hnl,hR,hc,ht,hG⟩:=hI;simp only at h27 h28 h29 h9 h1 h2 h3 h6 h10 hR hc hG;refine Af dc249l0.eq_1 ?_;have hlt:((j:Int)<s.rs.length):=by omega
    have hj0:(0:Int)<=(j:Int):=by omega
    have hjn:((j:Int)<((s.rs.length:Nat):Int)):=by omega
    have hw:IntKind.i64.wrap ((j:Int)+1)=((j+1:Nat):Int):=w64 (by omega) (by omega);have hwl:IntKind.i64.wrap ((s.rs.length:Int)-1)=(s.rs.length:Int)-1:=w64 (by omega) (by omega);have hd:s.rs.drop j=s.rs[j]::s.rs.drop (j+1):=QA hj;rw[hd]at hA hB hR;generalize s.rs[j]=x at hA hB hR;have hrow:Ai st_m [14] (j*3) 3=some [.int .i64 x.1,.bool x.2.1,.bool x.2.2]:=hR j x (by rw[QK (by omega),hAl,Za];rfl);have h341:=R341_eq (nl:=bn) (l:=ns) x.1 hs;have hBl:(AR B).length<=100000:=by
     have h1:=congrArg List.length hB;have h2:∀(l:List Rw)(j:Nat),(EF ns s.rs.length j l).length<=l.length:=λl=>by
      induction l with
      |nil=>intro j;simp[EF]
      |cons y r ih=>intro j;unfold EF;split<;>have:=ih (j+1)<;>simp only[Qj]<;>omega
     have h3:=h2 s.rs 0;rw[Qr]at h1;rw[intsD_len'];omega
    have hBl2:B.length<=100000:=by rw[←intsD_len'];exact hBl
    have hBn:nl=true->AR B=[]:=by rw[hnl];intro h;rw[of_decide_eq_true h];rfl
    have e1:turnR ns k s.rs.length j (x::s.rs.drop (j+1))=(if hitR ns s.rs.length j x=true then chR k x else x)::turnR ns k s.rs.length (j+1) (s.rs.drop (j+1)):=rfl;have e2:EF ns s.rs.length j (x::s.rs.drop (j+1))=if hitR ns s.rs.length j x=true then x.1::EF ns s.rs.length (j+1) (s.rs.drop (j+1))else EF ns s.rs.length (j+1) (s.rs.drop (j+1)):=rfl
    have hBa:AR (B++[x.1])=AR B++[.int .i64 x.1]:=by simp[AR]
    have hFx:=hF x;subst hAl;generalize hcb:hasI ns x.1=cb at h341;have h0:((ns.length:Int)=0)=(ns.isEmpty=true):=by cases ns<;>simp<;>omega
    have h14:(14=st_c+1+3)=False:=eq_false (by omega);have h15:(st_c=10)=False:=eq_false (by omega);have hjq:((A.length:Int)=(s.rs.length:Int)-1)=(A.length+1=s.rs.length):=propext (by omega);cases cb with
    |true=>
     cases hxd:x.2.2 with
     |true=>
      rw[hxd]at hrow;obtain⟨a0,a1,a2⟩:=rd3s hrow;have hh:hitR ns s.rs.length A.length x=false:=by simp[hitR,hcb,hxd]
      rw[hh,if_neg Qu]at e1 e2;simp only[↓go1,gB3,go5,reduceIte,simprocAttr,h27,h28,h29,h1,hlt,hj0,Qc,a0,a1,a2,Aa s341,h341,hw];refine ih _ _ ⟨h27,h28,rfl,h9,h1,h2,h3,h6,A++[x],B,nl,t,by simp,by rw[←hA,e1];simp,by rw[←hB,e2],h10,hnl,?_,by simp only;omega,ht,(by first|exact hG.more (by simp only;omega)|exact(hG.put (by omega)).more (by simp only;omega)|exact((hG.put (by omega)).put (by omega)).more (by simp only;omega)|exact(((hG.put (by omega)).put (by omega)).put (by omega)).more (by simp only;omega)|exact((((hG.put (by omega)).put (by omega)).put (by omega)).put (by omega)).more (by simp only;omega)|exact(((((hG.put (by omega)).put (by omega)).put (by omega)).put (by omega)).put (by omega)).more (by simp only;omega))⟩;rw[Qy];exact(hR.other (by first|(simp;done)|(simp;omega))).other (by first|(simp;done)|(simp;omega))
     |false=>
      rw[hxd]at hrow;obtain⟨a0,a1,a2⟩:=rd3s hrow;rw[hxd]at hFx;have hh:hitR ns s.rs.length A.length x=true:=by simp[hitR,hcb,hxd]
      rw[if_pos hh]at e1 e2;simp only[↓go1,gB3,go5,reduceIte,simprocAttr,h27,h28,h29,h9,h1,h2,h10,hlt,hj0,Qc,a0,a1,a2,h14,h15,Aa s341,h341,intsD_len',Aa sF,hFx];refine An.intro ⟨by omega,rfl,(by first|exact(((hG.put (by omega)).put (by omega)).row (by omega) ht).grow|exact((((hG.put (by omega)).put (by omega)).row (by omega) ht).put (by omega)).grow)⟩ ?_;rw[BK hBn,←hBa];simp only[↓go1,go2,reduceIte,simprocAttr,h29,hw];refine ih _ _ ⟨h27,h28,rfl,h9,h1,h2,h3,h6,A++[chR k x],B++[x.1],false,_,by simp,by rw[←hA,e1];simp,by rw[←hB,e2];simp,rfl,by simp,?_,by simp only;omega,by first|(simp;done)|(simp;omega),(by first|exact(((hG.put (by omega)).put (by omega)).row (by omega) ht).app (by omega) (by simp only;omega)|exact((((hG.put (by omega)).put (by omega)).row (by omega) ht).put (by omega)).app (by omega) (by simp only;omega))⟩;rw[Qy]
      first|exact(Fd.set ((hR.other (by first|(simp;done)|(simp;omega))).other (by first|(simp;done)|(simp;omega)))).grow (by first|(simp;done)|(simp;omega)) (λh e=>ht h e.symm)|exact((Fd.set ((hR.other (by first|(simp;done)|(simp;omega))).other (by first|(simp;done)|(simp;omega)))).other (by first|(simp;done)|(simp;omega))).grow (by first|(simp;done)|(simp;omega)) (λh e=>ht h e.symm)
    |false=>
     cases hle:ns.isEmpty with
     |false=>
      rw[hle]at h0;obtain⟨a0,a1,a2⟩:=rd3s hrow;have hh:hitR ns s.rs.length A.length x=false:=by simp[hitR,hcb,hle]
      rw[hh,if_neg Qu]at e1 e2;simp only[↓go1,gB3,go5,reduceIte,simprocAttr,h27,h28,h29,h1,hlt,hj0,Qc,a0,a1,a2,Aa s341,h341,intsD_len',h0,hw];refine ih _ _ ⟨h27,h28,rfl,h9,h1,h2,h3,h6,A++[x],B,nl,t,by simp,by rw[←hA,e1];simp,by rw[←hB,e2],h10,hnl,?_,by simp only;omega,ht,(by first|exact hG.more (by simp only;omega)|exact(hG.put (by omega)).more (by simp only;omega)|exact((hG.put (by omega)).put (by omega)).more (by simp only;omega)|exact(((hG.put (by omega)).put (by omega)).put (by omega)).more (by simp only;omega)|exact((((hG.put (by omega)).put (by omega)).put (by omega)).put (by omega)).more (by simp only;omega)|exact(((((hG.put (by omega)).put (by omega)).put (by omega)).put (by omega)).put (by omega)).more (by simp only;omega))⟩;rw[Qy];exact(hR.other (by first|(simp;done)|(simp;omega))).other (by first|(simp;done)|(simp;omega))
     |true=>
      rw[hle]at h0;by_cases hjl:A.length+1=s.rs.length
      ·rw[eq_true hjl]at hjq;cases hxd:x.2.2 with
       |true=>
        rw[hxd]at hrow;obtain⟨a0,a1,a2⟩:=rd3s hrow;have hh:hitR ns s.rs.length A.length x=false:=by simp[hitR,hcb,hle,hjl,hxd]
        rw[hh,if_neg Qu]at e1 e2;simp only[↓go1,gB3,go5,reduceIte,simprocAttr,h27,h28,h29,h9,h1,hlt,hj0,Qc,a0,a1,a2,Aa s341,h341,intsD_len',h0,hwl,hjq,hw];refine ih _ _ ⟨h27,h28,rfl,h9,h1,h2,h3,h6,A++[x],B,nl,t,by simp,by rw[←hA,e1];simp,by rw[←hB,e2],h10,hnl,?_,by simp only;omega,ht,(by first|exact hG.more (by simp only;omega)|exact(hG.put (by omega)).more (by simp only;omega)|exact((hG.put (by omega)).put (by omega)).more (by simp only;omega)|exact(((hG.put (by omega)).put (by omega)).put (by omega)).more (by simp only;omega)|exact((((hG.put (by omega)).put (by omega)).put (by omega)).put (by omega)).more (by simp only;omega)|exact(((((hG.put (by omega)).put (by omega)).put (by omega)).put (by omega)).put (by omega)).more (by simp only;omega))⟩;rw[Qy];exact(hR.other (by first|(simp;done)|(simp;omega))).other (by first|(simp;done)|(simp;omega))
       |false=>
        rw[hxd]at hrow;obtain⟨a0,a1,a2⟩:=rd3s hrow;rw[hxd]at hFx;have hh:hitR ns s.rs.length A.length x=true:=by simp[hitR,hcb,hle,hjl,hxd]
        rw[if_pos hh]at e1 e2;simp only[↓go1,gB3,go5,reduceIte,simprocAttr,h27,h28,h29,h9,h1,h2,h10,hlt,hj0,Qc,a0,a1,a2,h14,h15,Aa s341,h341,intsD_len',Aa sF,hFx,h0,hwl,hjq];refine An.intro ⟨by omega,rfl,(by first|exact(((hG.put (by omega)).put (by omega)).row (by omega) ht).grow|exact((((hG.put (by omega)).put (by omega)).row (by omega) ht).put (by omega)).grow)⟩ ?_;rw[BK hBn,←hBa];simp only[↓go1,go2,reduceIte,simprocAttr,h29,hw];refine ih _ _ ⟨h27,h28,rfl,h9,h1,h2,h3,h6,A++[chR k x],B++[x.1],false,_,by simp,by rw[←hA,e1];simp,by rw[←hB,e2];simp,rfl,by simp,?_,by simp only;omega,by first|(simp;done)|(simp;omega),(by first|exact(((hG.put (by omega)).put (by omega)).row (by omega) ht).app (by omega) (by simp only;omega)|exact((((hG.put (by omega)).put (by omega)).row (by omega) ht).put (by omega)).app (by omega) (by simp only;omega))⟩;rw[Qy]
        first|exact(Fd.set ((hR.other (by first|(simp;done)|(simp;omega))).other (by first|(simp;done)|(simp;omega)))).grow (by first|(simp;done)|(simp;omega)) (λh e=>ht h e.symm)|exact((Fd.set ((hR.other (by first|(simp;done)|(simp;omega))).other (by first|(simp;done)|(simp;omega)))).other (by first|(simp;done)|(simp;omega))).grow (by first|(simp;done)|(simp;omega)) (λh e=>ht h e.symm)
      ·rw[eq_false hjl]at hjq;obtain⟨a0,a1,a2⟩:=rd3s hrow;have hh:hitR ns s.rs.length A.length x=false:=by simp[hitR,hcb,hle,hjl]
       rw[hh,if_neg Qu]at e1 e2;simp only[↓go1,gB3,go5,reduceIte,simprocAttr,h27,h28,h29,h9,h1,hlt,hj0,Qc,a0,a1,a2,Aa s341,h341,intsD_len',h0,hwl,hjq,hw];refine ih _ _ ⟨h27,h28,rfl,h9,h1,h2,h3,h6,A++[x],B,nl,t,by simp,by rw[←hA,e1];simp,by rw[←hB,e2],h10,hnl,?_,by simp only;omega,ht,(by first|exact hG.more (by simp only;omega)|exact(hG.put (by omega)).more (by simp only;omega)|exact((hG.put (by omega)).put (by omega)).more (by simp only;omega)|exact(((hG.put (by omega)).put (by omega)).put (by omega)).more (by simp only;omega)|exact((((hG.put (by omega)).put (by omega)).put (by omega)).put (by omega)).more (by simp only;omega)|exact(((((hG.put (by omega)).put (by omega)).put (by omega)).put (by omega)).put (by omega)).more (by simp only;omega))⟩;rw[Qy];exact(hR.other (by first|(simp;done)|(simp;omega))).other (by first|(simp;done)|(simp;omega))
   ·obtain⟨st_s,st_m,st_c⟩:=st;obtain⟨h27,h28,h29,h9,h1,h2,h3,h6,A,B,nl,t,hAl,hA,hB,h10,hnl,hR,hc,ht,hG⟩:=hI;simp only at h27 h28 h29 h9 h1 h2 h3 h6 h10 hR hc hG;refine Af dc249l0.eq_1 ?_;have m0:∀k,st_m [0] k=_:=λk=>hG.low 0 k (by omega)
    have m1:∀k,st_m [1] k=_:=λk=>hG.low 1 k (by omega)
    rw[QS,turnR,QN]at hA;rw[QS,EF,QN]at hB;rw[QS,QN,hA]at hR;subst hnl hB;simp only[↓go1,gB3,go5,reduceIte,simprocAttr,h28,h29,h9,h10,h3,h6,Ql,m0,m1,row_da,row_ce];refine .inr ⟨_,_,rfl,rfl,.inr ⟨_,_,rfl,rfl,.inl rfl,.inl rfl,.inl rfl,.inr ⟨[14],Ba (turnR ns k s.rs.length 0 s.rs),3,?_,rfl,?_,?_⟩,trivial⟩,.inl (.inl rfl),.inl (.inl rfl),trivial⟩
    ·rw[AS,turnR_len]
    ·intro x hx;obtain⟨y,_,rfl⟩:=QL.1 hx;exact⟨rfl,rfl⟩
    ·intro j x hx;have:=Fd.toFlat (m:=st_m) (i:=[14]) (p:=0) (l:=turnR ns k s.rs.length 0 s.rs) (λk x hk=>by rw[QB];exact hR k x hk) j x hx;rw[QB]at this;rw[←this];simp[Mem.put]
theorem F249_eq(s:Sc)(bn:Bool)(ns:List Int)(k:Nat)(h:TnOk (s,bn,ns,k)):F249 [.agg (scC s),.slice bn [] (AR ns),.fn k []]=some (resTn (s,bn,ns,k)):=BA (mk:=mkTn) (a:=(s,bn,ns,k)) mkTn_inj h
def S143:Summs:=AF [(249,Ac F249)]
def R143:List D->Option D:=RF S143 dc143 [.cell (some 4) 4,.t 5] 18
theorem ko143:(Ac R143).ok Qb 143:=AJ fn143 (Ab ok249 Ad)
theorem R143_eq(s:Sc)(bn:Bool)(ns:List Int)(hl:s.rs.length<=1000)(hn:s.nl=true->s.rs=[])(hs:ns.length<=1000):R143 [.agg (scC s),.slice bn [] (AR ns)]=some (.tup [.agg (scC (BB s ns 250).1),.int .i64 (BB s ns 250).2.2]):=by
 refine AH (Qa rfl) ?_;have s249:S143 249=some (Ac F249):=rfl;unfold dc143;have h249:=F249_eq s bn ns 250 ⟨hl,hn,hs,by simp⟩;unfold resTn at h249;simp only at h249;generalize BB s ns 250=r at *;unfold scC at *;simp only[↓go1,gB3,go5,reduceIte,simprocAttr,Aa s249,h249]
 all_goals (first|rfl|exact⟨rfl,rfl⟩|(simp[*];done))
def S144:Summs:=AF [(249,Ac F249)]
def R144:List D->Option D:=RF S144 dc144 [.cell (some 4) 4,.t 5] 18
theorem ko144:(Ac R144).ok Qb 144:=AJ fn144 (Ab ok249 Ad)
theorem R144_eq(s:Sc)(bn:Bool)(ns:List Int)(hl:s.rs.length<=1000)(hn:s.nl=true->s.rs=[])(hs:ns.length<=1000):R144 [.agg (scC s),.slice bn [] (AR ns)]=some (.tup [.agg (scC (BB s ns 251).1),.int .i64 (BB s ns 251).2.2]):=by
 refine AH (Qa rfl) ?_;have s249:S144 249=some (Ac F249):=rfl;unfold dc144;have h249:=F249_eq s bn ns 251 ⟨hl,hn,hs,by simp⟩;unfold resTn at h249;simp only at h249;generalize BB s ns 251=r at *;unfold scC at *;simp only[↓go1,gB3,go5,reduceIte,simprocAttr,Aa s249,h249]
 all_goals (first|rfl|exact⟨rfl,rfl⟩|(simp[*];done))
def S145:Summs:=AF [(249,Ac F249)]
def R145:List D->Option D:=RF S145 dc145 [.cell (some 4) 4,.t 5,.t 6] 13
theorem ko145:(Ac R145).ok Qb 145:=AJ fn145 (Ab ok249 Ad)
theorem R145_eq(s:Sc)(bn:Bool)(ns:List Int)(hl:s.rs.length<=1000)(hn:s.nl=true->s.rs=[])(hs:ns.length<=1000):R145 [.agg (scC s),.slice bn [] (AR ns)]=some (.tup [.agg (scC (BB s ns 252).1),.slice (decide ((BB s ns 252).2.1=[])) [] (AR (BB s ns 252).2.1),.int .i64 (BB s ns 252).2.2]):=by
 refine AH (Qa rfl) ?_;have s249:S145 249=some (Ac F249):=rfl;unfold dc145;have h249:=F249_eq s bn ns 252 ⟨hl,hn,hs,by simp⟩;unfold resTn at h249;simp only at h249;generalize BB s ns 252=r at *;unfold scC at *;simp only[↓go1,gB3,go5,reduceIte,simprocAttr,Aa s249,h249]
 all_goals (first|rfl|exact⟨rfl,rfl⟩|(simp[*];done))
def bitI(b:Bool):Int:=if b=true then 1 else 0
def bysD(l:List Int):List D:=l.map (.int .u8)
def bysB(l:List Int):Bs:=l.map λn=>UInt8.ofNat n.toNat
theorem bysD_len(l:List Int):(bysD l).length=l.length:=Qh ..
theorem bysD_un:∀l:List Int,Bw (bysD l)=some (bysB l)
 |[]=>rfl
 |n::r=>by
  show(Bw (bysD r)).map _=_;rw[bysD_un r];rfl
def rowI(x:Rw):List Int:=[IntKind.u8.wrap x.1,bits .or .u8 (bitI x.2.1) (IntKind.u8.wrap (bitI x.2.2*2))]
def rowsI:List Rw->List Int
 |[]=>[]
 |x::r=>rowI x++rowsI r
def packB(s:Sc):Bs:=if Dl s 6=true then []else bysB ([IntKind.u8.wrap s.mx,bitI s.cas,IntKind.u8.wrap s.la,IntKind.u8.wrap s.rs.length]++rowsI s.rs)
def packE(s:Sc):Int:=if Dl s 6=true then 2 else 0
def S386:Summs:=AF []
def R386:List D->Option D:=RF S386 dc386 [.t 2] 4
theorem ko386:(Ac R386).ok Qb 386:=AJ fn386 Ad
theorem R386_eq(b:Bool):R386 [.bool b]=some (.int .u8 (bitI b)):=by
 refine AH (Qa rfl) ?_;unfold dc386;cases b with
 |true=>
  simp only[↓go1,go2,go3,go5,reduceIte,simprocAttr]
  all_goals (first|rfl|exact⟨rfl,rfl⟩|(simp[*];done))
 |false=>
  simp only[↓go1,go2,go3,go5,reduceIte,simprocAttr]
  all_goals (first|rfl|exact⟨rfl,rfl⟩|(simp[*];done))
def S340:Summs:=AF [(191,Ac ED),(335,Ac R335),(386,Ac R386)]
def R340:List D->Option D:=RF S340 dc340 [.t 2,.t 3] 49
theorem ko340:(Ac R340).ok Qb 340:=AJ fn340 (Ab ko191 (Ab ko335 (Ab ko386 Ad)))
theorem R340_eq(s:Sc)(hl:s.rs.length<=1000):R340 [.agg (scC s)]=some (.tup [.str (packB s),.int .i64 (packE s)]):=by
 refine AH (Qa rfl) ?_;have s191:S340 191=some (Ac ED):=rfl;have s335:S340 335=some (Ac R335):=rfl;have s386:S340 386=some (Ac R386):=rfl;unfold dc340;have h191:=F_ s 6 false hl;have h335:=R335_eq;have h386:=R386_eq;unfold packB packE;unfold secE at h191;unfold scC at *;cases hb:Dl s 6 with
 |true=>
  rw[hb]at h191;simp only[if_true]at h191;simp only[↓go1,gB3,go5,reduceIte,simprocAttr,Aa s191,h191,Aa s335,h335]
  (refine An.intro (Aj ?_) ?_;(first|rfl|(simp[Ax,Aq,rds,Ae];done)|(simp[Ax,Aq,rds,Ae,Ac];done)))
  simp only[↓go1,gB3,go5,reduceIte,simprocAttr]
  all_goals (first|rfl|exact⟨rfl,rfl⟩|(simp[*];done))
 |false=>
  rw[hb]at h191;simp only[if_false,Qm]at h191;simp only[↓go1,gB3,go5,reduceIte,simprocAttr,Aa s191,h191,Aa s335,h335]
  (refine An.intro (Aj ?_) ?_;(first|rfl|(simp[Ax,Aq,rds,Ae];done)|(simp[Ax,Aq,rds,Ae,Ac];done)))
  simp only[↓go1,gB3,go5,reduceIte,simprocAttr,Aa s386,h386,AS]
  (refine An.intro (Aj ?_) ?_;(first|rfl|(simp[Ax,Aq,rds,Ae];done)|(simp[Ax,Aq,rds,Ae,Ac];done)))
  simp only[↓go1,gB3,go5,reduceIte,simprocAttr,AS];refine Bm (n:=s.rs.length) (I:=λj st=>st.s 26= .slice s.nl [] (Ba s.rs)∧st.s 27= .int .i64 s.rs.length∧st.s 28= .int .i64 (j:Int)∧∃B t,B.length=4+2*j∧B++rowsI (s.rs.drop j)=[IntKind.u8.wrap s.mx,bitI s.cas,IntKind.u8.wrap s.la,IntKind.u8.wrap s.rs.length]++rowsI s.rs∧st.s 4= .slice false t (bysD B)∧LG 1 _ 5 st.m st.c false t) (λj hj ih st g hI=>?_) (λst g hI=>?_) 0 (Qn _) _ _ ⟨rfl,rfl,rfl,_,_,rfl,rfl,rfl,⟨λ_ _ _=>rfl,.inr ⟨_,rfl,by omega,by simp only;omega,by simp[Mem.put,Upd.app]⟩,by simp only;omega⟩⟩
  ·obtain⟨st_s,st_m,st_c⟩:=st;obtain⟨h26,h27,h28,B,t,hBl,hB,h4,hG⟩:=hI;simp only at h26 h27 h28 h4 hG;refine Af dc340l0.eq_1 ?_;have hlt:((j:Int)<s.rs.length):=by omega
   have hj0:(0:Int)<=(j:Int):=by omega
   have hw:IntKind.i64.wrap ((j:Int)+1)=((j+1:Nat):Int):=w64 (by omega) (by omega);have hat:=EJ hj;have hd:s.rs.drop j=s.rs[j]::s.rs.drop (j+1):=QA hj;rw[hd]at hB;generalize s.rs[j]=x at hat hB;have hBa:bysD B++[.int .u8 (IntKind.u8.wrap x.1),.int .u8 (bits .or .u8 (bitI x.2.1) (IntKind.u8.wrap (bitI x.2.2*2)))]=bysD (B++rowI x):=by simp[bysD,rowI]
   have hsh:∀a:Int,AX .shl (.int .u8 a) (.int .u64 1)=some (.int .u8 (IntKind.u8.wrap (a*2))):=λa=>rfl
   have hbl:(bysD B).length=4+2*j:=by rw[bysD_len];exact hBl
   simp only[↓go1,gB3,go5,reduceIte,simprocAttr,h26,h27,h28,h4,hlt,hj0,Qc,hat,Aa s386,h386,hsh];refine An.intro ⟨by simp only[hbl];omega,rfl,(by first|exact hG.grow|exact(hG.put (by omega)).grow|exact((hG.put (by omega)).put (by omega)).grow|exact(((hG.put (by omega)).put (by omega)).put (by omega)).grow|exact((((hG.put (by omega)).put (by omega)).put (by omega)).put (by omega)).grow|exact(((((hG.put (by omega)).put (by omega)).put (by omega)).put (by omega)).put (by omega)).grow)⟩ ?_;rw[hBa];simp only[↓go1,gB3,go5,reduceIte,simprocAttr]
   (refine An.intro (Aj ?_) ?_;(first|rfl|(simp[Ax,Aq,rds,Ae];done)|(simp[Ax,Aq,rds,Ae,Ac];done)))
   simp only[↓go1,go2,reduceIte,simprocAttr,h28,hw];exact ih _ _ ⟨h26,h27,rfl,_,_,by rw[Qr,hBl];simp[rowI];omega,by rw[←hB,rowsI,Qy],rfl,(by first|exact LG.nil (hG.appf (by omega) (by simp only;omega))|exact LG.nil ((hG.put (by omega)).appf (by omega) (by simp only;omega))|exact LG.nil (((hG.put (by omega)).put (by omega)).appf (by omega) (by simp only;omega))|exact LG.nil ((((hG.put (by omega)).put (by omega)).put (by omega)).appf (by omega) (by simp only;omega))|exact LG.nil (((((hG.put (by omega)).put (by omega)).put (by omega)).put (by omega)).appf (by omega) (by simp only;omega))|exact LG.nil ((((((hG.put (by omega)).put (by omega)).put (by omega)).put (by omega)).put (by omega)).appf (by omega) (by simp only;omega)))⟩
  ·obtain⟨h26,h27,h28,B,t,hBl,hB,h4,hG⟩:=hI;refine Af dc340l0.eq_1 ?_;rw[QS,rowsI,QN]at hB;subst hB;simp only[↓go1,gB3,go5,reduceIte,simprocAttr,h27,h28,h4,Ql,bysD_un]
   all_goals (first|rfl|exact⟨rfl,rfl⟩|(simp[*];done))
def scD(s:Bs)(p:Nat)(e:Int):List D:=[.str s,.int .i64 (p:Int),.int .i64 e]
theorem or0:∀n:Fin 256,bits .or .u64 0 ((n.val:Nat):Int)=n.val:=by decide
theorem or0'(x:UInt8):bits .or .u64 0 (x.toNat:Int)=x.toNat:=or0 ⟨x.toNat,x.toNat_lt⟩
def Br(s:Bs)(p:Nat)(e:Int):Int×Nat×Int:=if e≠0 then(0,p,e)else if h:p<s.length then(s[p].toNat,p+1,0)else(0,p,3)
def S384:Summs:=AF []
def R384:List D->Option D:=RF S384 dc384 [.t 2] 14
theorem ko384:(Ac R384).ok Qb 384:=AJ fn384 Ad
theorem R384_eq(s:Bs)(p:Nat)(e:Int)(hp:p<=s.length):R384 [.agg (scD s p e)]=some (.bool true):=by
 refine AH (Qa rfl) ?_;unfold dc384;have h1:(0:Int)<=(p:Int):=by omega
 have h2:(p:Int)<=(s.length:Int):=by omega
 unfold scD;simp only[↓go1,gB3,go5,reduceIte,Qd,Qi,Qk,h1,h2]
 all_goals (first|rfl|exact⟨rfl,rfl⟩|(simp[*];done))
def S385:Summs:=AF []
def R385:List D->Option D:=RF S385 dc385 [.t 2] 9
theorem ko385:(Ac R385).ok Qb 385:=AJ fn385 Ad
theorem R385_eq(s:Bs)(p:Nat)(e:Int)(hl:s.length<=1000000)(hp:p<=s.length):R385 [.agg (scD s p e)]=some (.int .i64 ((s.length-p:Nat):Int)):=by
 refine AH (Qa rfl) ?_;unfold dc385;have hw:IntKind.i64.wrap ((s.length:Int)-(p:Int))=((s.length-p:Nat):Int):=by rw[w64 (by omega) (by omega)];omega
 unfold scD;simp only[↓go1,gB3,go5,reduceIte,Qd,Qi,Qk,hw]
 all_goals (first|rfl|exact⟨rfl,rfl⟩|(simp[*];done))
def S404:Summs:=AF []
def R404:List D->Option D:=RF S404 dc404 [.t 2] 9
theorem ko404:(Ac R404).ok Qb 404:=AJ fn404 Ad
theorem R404_eq:R404 [.int .i64 1]=some (.bool true):=by
 refine AH (Qa rfl) ?_;unfold dc404;simp only[↓go1,gB3,go5,reduceIte,Qd,Qi,reduceCtorEq,Int.reduceLE]
 all_goals (first|rfl|exact⟨rfl,rfl⟩|(simp[*];done))
def S405:Summs:=AF []
def R405:List D->Option D:=RF S405 dc405 [.cell (some 3) 4] 8
theorem ko405:(Ac R405).ok Qb 405:=AJ fn405 Ad
theorem R405_eq(s:Bs)(p:Nat)(e x:Int):R405 [.agg (scD s p e),.int .i64 x]=some (.agg (scD s p x)):=by
 refine AH (Qa rfl) ?_;unfold dc405;unfold scD;simp only[↓go1,gB3,go5,reduceIte,Qd,Qi,Qk,Qp,Qs]
 all_goals (first|rfl|exact⟨rfl,rfl⟩|(simp[*];done))
def S383:Summs:=AF [(384,Ac R384),(404,Ac R404),(405,Ac R405),(385,Ac R385)]
def R383:List D->Option D:=RF S383 dc383 [.t 4,.cell (some 3) 5] 60
theorem ko383:(Ac R383).ok Qb 383:=AJ fn383 (Ab ko384 (Ab ko404 (Ab ko405 (Ab ko385 Ad))))
theorem R383_eq(s:Bs)(p:Nat)(e:Int)(hl:s.length<=1000000)(hp:p<=s.length):R383 [.agg (scD s p e),.int .i64 1]=some (.tup [.int .u64 (Br s p e).1,.agg (scD s (Br s p e).2.1 (Br s p e).2.2)]):=by
 refine AH (Qa rfl) ?_;have s384:S383 384=some (Ac R384):=rfl;have s404:S383 404=some (Ac R404):=rfl;have s405:S383 405=some (Ac R405):=rfl;have s385:S383 385=some (Ac R385):=rfl;unfold dc383;have h384:=R384_eq s p e hp;have h385:=R385_eq s p e hl hp;have h404:=R404_eq;have h405:=λx=>R405_eq s p e x
 unfold Br scD at *;by_cases c1:e=0
 ·subst c1;by_cases c2:p<s.length
  ·have c3:(((s.length-p:Nat):Int)<1)=False:=eq_false (by omega);have hw:IntKind.i64.wrap ((p:Int)+1)=((p+1:Nat):Int):=w64 (by omega) (by omega);have b1:((0:Int)<=((p+1:Nat):Int)∧((p+1:Nat):Int)<=((s.length:Nat):Int))=True:=eq_true (by omega);have b2:((0:Int)<=(p:Int)∧(p:Int)<=((p+1:Nat):Int))=True:=eq_true (by omega);have hcut:(s.drop p).take (p+1-p)=[s[p]]:=by rw[QA c2,show p+1-p=1 by omega];rfl
   have hby:AI [s[p]]=[.int .u8 (s[p].toNat:Int)]:=rfl;have hsh:AX .shl (.int .u64 0) (.int .u64 8)=some (.int .u64 0):=rfl;have hor:=or0' s[p];have hu:IntKind.u64.wrap (s[p].toNat:Int)=(s[p].toNat:Int):=u64_small (by omega) (by have:=s[p].toNat_lt;omega);have hw1:IntKind.i64.wrap ((0:Int)+1)=1:=rfl;simp only[ne_eq,not_true_eq_false,if_false,dif_pos c2];generalize s[p]=x at *;simp only[↓go1,gB3,go5,reduceIte,Qd,Qi,Qk,reduceCtorEq,Aa s384,h384,Aa s385,h385,Aa s404,h404,c3,hw,b1,b2,Qc,hcut,hby];refine Af dc383l0.eq_1 ?_;simp only[↓go1,gB3,go5,reduceIte,Qd,Qi,hsh,hor,hu,hw1,Int.toNat_zero,hcut,Int.zero_lt_one,Int.cast_ofNat_Int,Int.le_refl];refine Af dc383l0.eq_1 ?_;simp only[↓go1,gB3,go5,reduceIte,Qd,Qi,Qk,Qp,Qs,reduceCtorEq,Ql,hw]
   repeat (refine An.intro (Aj ?_) ?_;(first|rfl|(simp[Ax,Aq,rds,Ae];done)|(simp[Ax,Aq,rds,Ae,Ac];done)))
   simp only[↓go1,gB3,go5,reduceIte,Qd,Qi,Qk,Qp,Qs]
   all_goals (first|rfl|exact⟨rfl,rfl⟩|(simp[*];done))
  ·have c3:(((s.length-p:Nat):Int)<1)=True:=eq_true (by omega);simp only[ne_eq,not_true_eq_false,if_false,dif_neg c2];simp only[↓go1,gB3,go5,reduceIte,Qd,Qi,Qk,reduceCtorEq,Aa s384,h384,Aa s385,h385,Aa s404,h404,Aa s405,h405,c3]
   all_goals (first|rfl|exact⟨rfl,rfl⟩|(simp[*];done))
 ·have c1':(e=0)=False:=eq_false c1;simp only[ne_eq,c1',not_false_eq_true,if_true];simp only[↓go1,gB3,go5,reduceIte,Qd,Qi,Qk,reduceCtorEq,c1']
  repeat (refine An.intro (Aj ?_) ?_;(first|rfl|(simp[Ax,Aq,rds,Ae];done)|(simp[Ax,Aq,rds,Ae,Ac];done)))
  simp only[↓go1,gB3,go5,reduceIte,Qd,Qi,Qk]
  all_goals (first|rfl|exact⟨rfl,rfl⟩|(simp[*];done))
def S334:Summs:=AF [(384,Ac R384),(385,Ac R385)]
def R334:List D->Option D:=RF S334 dc334 [.t 2] 17
theorem ko334:(Ac R334).ok Qb 334:=AJ fn334 (Ab ko384 (Ab ko385 Ad))
theorem R334_eq(s:Bs)(p:Nat)(e:Int)(hl:s.length<=1000000)(hp:p<=s.length):R334 [.agg (scD s p e)]=some (.int .i64 (if e≠0 then e else if p<s.length then 4 else 0)):=by
 refine AH (Qa rfl) ?_;have s384:S334 384=some (Ac R384):=rfl;have s385:S334 385=some (Ac R385):=rfl;unfold dc334;have h384:=R384_eq s p e hp;have h385:=R385_eq s p e hl hp;unfold scD at *;by_cases c1:e=0
 ·subst c1;have c3:((0:Int)<((s.length-p:Nat):Int))=(p<s.length):=propext (by omega);by_cases c2:p<s.length
  ·simp only[↓go1,gB3,go5,reduceIte,Qd,Qi,Qk,Int.reduceNe,Aa s384,h384,Aa s385,h385,c3,c2]
   all_goals (first|rfl|exact⟨rfl,rfl⟩|(simp[*];done))
  ·simp only[↓go1,gB3,go5,reduceIte,Qd,Qi,Qk,Int.reduceNe,Aa s384,h384,Aa s385,h385,c3,c2]
   all_goals (first|rfl|exact⟨rfl,rfl⟩|(simp[*];done))
 ·have c1':(e=0)=False:=eq_false c1;simp only[↓go1,gB3,go5,reduceIte,Qd,Qi,Qk,c1'];simp[c1]
theorem D8{s:Bs}{p:Nat}{e:Int}(hp:p<=s.length):(Br s p e).2.1<=s.length∧0<=(Br s p e).1∧(Br s p e).1<256:=by
 unfold Br;split
 ·exact⟨hp,by simp,by simp⟩
 ·split
  ·rename_i h;have:=s[p].toNat_lt;exact⟨h,by first|(simp;done)|(simp;omega),by first|(simp;done)|(simp;omega)⟩
  ·exact⟨hp,by simp,by simp⟩
def S333:Summs:=AF [(383,Ac R383)]
def M333:List D->List D->Option (D×List D):=RM S333 dc333 [.t 2] 17 3
theorem ko333:(mQ 3 M333).ok Qb 333:=rm_ok fn333 (by decide) (Ab ko383 Ad)
theorem rdC_oth{m:Mem}{i j:Id}{o:Nat}{ds:List D}(h:j≠i):∀{n p:Nat},Ai (m.put i o ds) j p n=Ai m j p n
 |0,p=>rfl
 |n+1,p=>by simp only[Ai,Mem.put_other h,rdC_oth h]
theorem othW1{i fr:Id}(h:∀k,(i=k::fr)=False)(m:Mem)(k o:Nat)(ys:List D)(p n:Nat):Ai (m.put (k::fr) o ys) i p n=Ai m i p n:=rdC_oth (λe=>(h k).mp e)
theorem M333_eq(s:Bs)(p:Nat)(e:Int)(hl:s.length<=1000000)(hp:p<=s.length):M333 (scD s p e) []=some (.int .i64 (Br s p e).1,scD s (Br s p e).2.1 (Br s p e).2.2):=by
 refine rm_eq (by decide) rfl (Qa rfl) (λi m fr hcs hfr hni hni0=>?_);have s383:S333 383=some (Ac R383):=rfl;have h383:=R383_eq s p e hl hp;obtain⟨_,b1,b2⟩:=D8 (e:=e) hp;have hw:IntKind.i64.wrap (Br s p e).1=(Br s p e).1:=w64 (by omega) (by omega);generalize Br s p e=r at *;unfold scD at *;obtain⟨a0,a1,a2⟩:=rd3s hcs;unfold dc333;simp only[↓go1,gB3,go5,reduceIte,Qd,Qi,Qk,reduceCtorEq,a0,a1,a2,othW1 hni0,hni0,Aa s383,h383,hw]
 first|exact EE.own (EE.new0 hfr (EE.new0 hfr EE.refl)) (by simp)|exact EE.own (EE.new0 hfr EE.refl) (by simp)
structure LX (ex:List Nat) (c0:Nat) (m0:Mem) (e:Nat) (m:Mem) (c:Nat) (nl:Bool) (t:Id):Prop where
 low:∀q o,q<c0->q∉ex->m [q] o=m0 [q] o
 tok:nl=true∨∃j,t=[j]∧c0<=j∧j<c∧m t 0=some (.tok (e+1))
 le:c0<=c
section
variable{ex:List Nat}{c0 e c c' c2 o q:Nat}{m0 m:Mem}{nl:Bool}{t:Id}{ds xs:List D}
theorem LX.start(h:c0<=c):LX ex c0 m0 e m0 c true t:=⟨λ_ _ _ _=>rfl,.inl rfl,h⟩
theorem LX.put(h:LX ex c0 m0 e m c nl t)(hc:c<=c'):LX ex c0 m0 e (m.put [c'] o ds) c nl t:=by
 obtain⟨h1,h2,h3⟩:=h;refine⟨λq o' hq hx=>?_,?_,h3⟩
 ·rw[Mem.put_other (by simp;omega)];exact h1 q o' hq hx
 ·rcases h2 with h2|⟨j,rfl,a,b,d⟩
  ·exact .inl h2
  ·exact .inr ⟨j,rfl,a,b,by rw[Mem.put_other (by simp;omega)];exact d⟩
theorem LX.putx(h:LX ex c0 m0 e m c nl t)(hq:q∈ex)(hl:q<c0):LX ex c0 m0 e (m.put [q] o ds) c nl t:=by
 obtain⟨h1,h2,h3⟩:=h;refine⟨λq' o' hq' hx=>?_,?_,h3⟩
 ·rw[Mem.put_other (by rintro e;simp only[Qw,and_true]at e;exact hx (e▸hq))];exact h1 q' o' hq' hx
 ·rcases h2 with h2|⟨j,rfl,a,b,d⟩
  ·exact .inl h2
  ·exact .inr ⟨j,rfl,a,b,by rw[Mem.put_other (by simp;omega)];exact d⟩
theorem LX.more(h:LX ex c0 m0 e m c nl t)(hc:c<=c'):LX ex c0 m0 e m c' nl t:=by
 obtain⟨h1,h2,h3⟩:=h;refine⟨h1,?_,by omega⟩;rcases h2 with h2|⟨j,a,b,b',d⟩
 ·exact .inl h2
 ·exact .inr ⟨j,a,b,by omega,d⟩
theorem LX.grow(h:LX ex c0 m0 e m c nl t):Grow m e (.slice nl t xs):=by
 rcases h.tok with h|⟨j,rfl,_,_,d⟩
 ·exact .inl h
 ·exact .inr ⟨d,by simp⟩
theorem LX.app(h:LX ex c0 m0 e m c nl t)(hc:c<=c')(h2:c'<c2):LX ex c0 m0 e (Upd.app m (Be e [c'] (.slice nl t xs))) c2 false [c']:=by
 obtain⟨h1,ht,h3⟩:=h;refine⟨λq o hq hx=>?_,.inr ⟨c',rfl,by omega,h2,?_⟩,by omega⟩
 ·rw[CM,if_neg (by simp;omega)];rcases ht with rfl|⟨j,rfl,a,b,d⟩
  ·rw[if_neg (by simp)];exact h1 q o hq hx
  ·rw[if_neg (by simp;omega)];exact h1 q o hq hx
 ·rw[CM,if_pos ⟨rfl,rfl⟩]
theorem LX.low_app(h:LX ex c0 m0 e m c nl t)(hc:c<=c')(hq:q<c0):Upd.app m (Be e [c'] (.slice nl t xs)) [q] o=m [q] o:=by
 obtain⟨h1,ht,h3⟩:=h;rw[CM,if_neg (by simp;omega)];rcases ht with rfl|⟨j,rfl,a,b,d⟩
 ·rw[if_neg (by simp)]
 ·rw[if_neg (by simp;omega)]
end
theorem put_here{m:Mem}{i:Id}{o:Nat}{d:D}:m.put i o [d] i o=some d:=by simp[Mem.put]
def unpR(s:Bs):Nat->Nat->Int->List Rw×Bool×Nat×Int
 |0,p,e=>([],false,p,e)
 |k+1,p,e=>(((Br s p e).1,decide (bits .and .i64 (Br s (Br s p e).2.1 (Br s p e).2.2).1 1≠0),decide (bits .and .i64 (Br s (Br s p e).2.1 (Br s p e).2.2).1 2≠0))::(unpR s k (Br s (Br s p e).2.1 (Br s p e).2.2).2.1 (Br s (Br s p e).2.1 (Br s p e).2.2).2.2).1,
   decide (3<(Br s (Br s p e).2.1 (Br s p e).2.2).1)||(unpR s k (Br s (Br s p e).2.1 (Br s p e).2.2).2.1 (Br s (Br s p e).2.1 (Br s p e).2.2).2.2).2.1,(unpR s k (Br s (Br s p e).2.1 (Br s p e).2.2).2.1 (Br s (Br s p e).2.1 (Br s p e).2.2).2.2).2.2)
def sc0:Sc:=⟨0,false,0,true,[]⟩
def num1(s:Bs):=Br s 0 0
def num2(s:Bs):=Br s (num1 s).2.1 (num1 s).2.2
def num3(s:Bs):=Br s (num2 s).2.1 (num2 s).2.2
def num4(s:Bs):=Br s (num3 s).2.1 (num3 s).2.2
def Fh(s:Bs):=unpR s (num4 s).1.toNat (num4 s).2.1 (num4 s).2.2
def unpS(s:Bs):Sc:=⟨(num1 s).1,decide ((num2 s).1=1),(num3 s).1,decide ((num4 s).1.toNat=0),(Fh s).1⟩
def endE(n p:Nat)(e:Int):Int:=if e≠0 then e else if p<n then 4 else 0
def B3(s:Bs):Sc×Int:=if endE s.length (Fh s).2.2.1 (Fh s).2.2.2=3 then(sc0,3)else if endE s.length (Fh s).2.2.1 (Fh s).2.2.2≠0∨(decide (1<(num2 s).1)||(Fh s).2.1)=true∨Dl (unpS s) 6=true then(sc0,4)else(unpS s,0)
theorem unpR_bd{s:Bs}:∀{k p:Nat} {e:Int},p<=s.length->(unpR s k p e).2.2.1<=s.length
 |0,p,e,h=>h
 |k+1,p,e,h=>by
  show(unpR s k (Br s (Br s p e).2.1 (Br s p e).2.2).2.1 (Br s (Br s p e).2.1 (Br s p e).2.2).2.2).2.2.1<=_;exact unpR_bd (D8 (D8 h).1).1
theorem unpR_len{s:Bs}:∀{k p:Nat} {e:Int},(unpR s k p e).1.length=k
 |0,p,e=>rfl
 |k+1,p,e=>by simp[unpR,unpR_len]
def S240:Summs:=AF [(333,mQ 3 M333),(334,Ac R334),(335,Ac R335),(191,Ac ED)]
def R240:List D->Option D:=RF S240 dc240 [.cell (some 4) 2,.t 3] 77
theorem ko240:(Ac R240).ok Qb 240:=AJ fn240 (Ab ko333 (Ab ko334 (Ab ko335 (Ab ko191 Ad))))
theorem R240_eq(s:Bs)(hl:s.length<=1000000):R240 [.str s]=some (.tup [.agg (scC (B3 s).1),.int .i64 (B3 s).2]):=by
 refine AH (Qa rfl) ?_;have s333:S240 333=some (mQ 3 M333):=rfl;have s334:S240 334=some (Ac R334):=rfl;have s335:S240 335=some (Ac R335):=rfl;have s191:S240 191=some (Ac ED):=rfl;unfold dc240;have b1:(num1 s).2.1<=s.length∧0<=(num1 s).1∧(num1 s).1<256:=D8 (Qn _);have b2:(num2 s).2.1<=s.length∧0<=(num2 s).1∧(num2 s).1<256:=D8 b1.1;have b3:(num3 s).2.1<=s.length∧0<=(num3 s).1∧(num3 s).1<256:=D8 b2.1;have b4:(num4 s).2.1<=s.length∧0<=(num4 s).1∧(num4 s).1<256:=D8 b3.1;have g1:M333 [.str s,.int .i64 0,.int .i64 0] []=some (.int .i64 (num1 s).1,scD s (num1 s).2.1 (num1 s).2.2):=M333_eq s 0 0 hl (Qn _);have g2:M333 (scD s (num1 s).2.1 (num1 s).2.2) []=some (.int .i64 (num2 s).1,scD s (num2 s).2.1 (num2 s).2.2):=M333_eq s _ _ hl b1.1;have g3:M333 (scD s (num2 s).2.1 (num2 s).2.2) []=some (.int .i64 (num3 s).1,scD s (num3 s).2.1 (num3 s).2.2):=M333_eq s _ _ hl b2.1;have g4:M333 (scD s (num3 s).2.1 (num3 s).2.2) []=some (.int .i64 (num4 s).1,scD s (num4 s).2.1 (num4 s).2.2):=M333_eq s _ _ hl b3.1;have hn:((num4 s).1.toNat:Int)=(num4 s).1:=Qv b4.2.1;have hb5:(Fh s).2.2.1<=s.length:=unpR_bd b4.1;have hlA:(Fh s).1.length=(num4 s).1.toNat:=unpR_len;have h334:R334 [.agg [.str s,.int .i64 ((Fh s).2.2.1:Int),.int .i64 (Fh s).2.2.2]]=some (.int .i64 (endE s.length (Fh s).2.2.1 (Fh s).2.2.2)):=R334_eq s _ _ hl hb5;have h335:=R335_eq;have h191:=F_ (unpS s) 6 false (by show(Fh s).1.length<=1000;omega);have hA:Fh s=unpR s (num4 s).1.toNat (num4 s).2.1 (num4 s).2.2:=rfl;unfold B3;unfold secE at h191;unfold scD at g1 g2 g3 g4;have hS:unpS s=⟨(num1 s).1,decide ((num2 s).1=1),(num3 s).1,decide ((num4 s).1.toNat=0),(Fh s).1⟩:=rfl;unfold scC at h191 ⊢;generalize Dl (unpS s) 6=bad at *;generalize endE s.length (Fh s).2.2.1 (Fh s).2.2.2=en at *;rw[hS]at h191 ⊢;clear hS;generalize Fh s=tot at *;generalize num1 s=n1 at *;generalize num2 s=n2 at *;generalize num3 s=n3 at *;generalize num4 s=n4 at *;obtain⟨v4,p4,e4⟩:=n4;simp only at *;generalize hn4:v4.toNat=n at *;rw[←hn]at g4;simp only[gB1,↓go1,go5,reduceIte,simprocAttr,Ah s333,mQ_run,g1,g2,g3,g4];refine Bm (n:=n) (I:=λj st=>st.s 28= .int .i64 (n:Int)∧st.s 29= .int .i64 (j:Int)∧st.s 4= .ptr [4] 0∧st.s 5= .ptr [9] 0∧st.s 2= .ptr [0] 0∧∃A od p e nl t,A.length=j∧p<=s.length∧A++(unpR s (n-j) p e).1=tot.1∧(od||(unpR s (n-j) p e).2.1)=(decide (1<n2.1)||tot.2.1)∧(unpR s (n-j) p e).2.2=tot.2.2∧st.s 7= .bool od∧(st.m [4] 0=some (.str s)∧st.m [4] 1=some (.int .i64 (p:Int))∧st.m [4] 2=some (.int .i64 e))∧(st.m [9] 0=some (.int .i64 n1.1)∧st.m [9] 1=some (.bool (decide (n2.1=1)))∧st.m [9] 2=some (.int .i64 n3.1)∧st.m [9] 3=some (.slice nl t (Ba A)))∧nl=decide (j=0)∧LX [4,9] 10 _ 228 st.m st.c nl t) (λj hj ih st g hI=>?_) (λst g hI=>?_) 0 (Qn _) _ _ ⟨rfl,rfl,rfl,rfl,rfl,[],decide (1<n2.1),p4,e4,true,[],rfl,b4.1,by rw[hA];rfl,by rw[hA];rfl,by rw[hA];rfl,rfl,?_,?_,rfl,LX.start (by simp only;omega)⟩
 rotate_left 2
 ·exact⟨by simp[Mem.put],by simp[Mem.put],by simp[Mem.put]⟩
 ·exact⟨by simp[Mem.put],by simp[Mem.put],by simp[Mem.put],by simp[Mem.put,Ba]⟩
 ·obtain⟨st_s,st_m,st_c⟩:=st;obtain⟨h28,h29,h4,h5,h2,A,od,p,e,nl,t,hAl,hp,hAA,hod,hpp,h7,⟨x0,x1,x2⟩,⟨y0,y1,y2,y3⟩,hnl,hG⟩:=hI;simp only at h28 h29 h4 h5 h2 h7 x0 x1 x2 y0 y1 y2 y3 hG;refine Af dc240l0.eq_1 ?_;have hlt:((j:Int)<n):=by omega
  have hj0:(0:Int)<=(j:Int):=by omega
  have hw:IntKind.i64.wrap ((j:Int)+1)=((j+1:Nat):Int):=w64 (by omega) (by omega);have q1:=D8 (e:=e) hp;have k1:=M333_eq s p e hl hp;have k2:=M333_eq s _ (Br s p e).2.2 hl q1.1;have q2:=D8 (e:=(Br s p e).2.2) q1.1;have hnj:n-j=(n-(j+1))+1:=by omega
  rw[hnj]at hAA hod hpp;unfold unpR at hAA hod hpp;simp only at hAA hod hpp;generalize Br s p e=a at *;generalize Br s a.2.1 a.2.2=b at *;unfold scD at k1 k2;have hG1:=(hG.putx (q:=4) (o:=0) (ds:=[.str s,.int .i64 (a.2.1:Int),.int .i64 a.2.2]) (by simp) (by omega)).putx (q:=4) (o:=0) (ds:=[.str s,.int .i64 (b.2.1:Int),.int .i64 b.2.2]) (by simp) (by omega);have hBn:nl=true->Ba A=[]:=by
   rw[hnl];intro h;have:A=[]:=Qq.1 (by rw[hAl];simpa using h);rw[this];rfl
  have hBa:Ba A++[.agg [.int .i64 a.1,.bool (decide (bits .and .i64 b.1 1≠0)),.bool (decide (bits .and .i64 b.1 2≠0))]]=Ba (A++[(a.1,decide (bits .and .i64 b.1 1≠0),decide (bits .and .i64 b.1 2≠0))]):=by simp[Ba,rwD]
  have hBl:(Ba A).length<256:=by rw[AS];omega
  have h49:(9=4)=False:=by simp
  have h94:(4=9)=False:=by simp
  cases od with
  |true=>
   simp only[gB1,↓go1,go5,reduceIte,simprocAttr,h28,h29,hlt,h4,h5,h7,Ah s333,mQ_run,x0,x1,x2,y3,k1,k2];refine An.intro ⟨by omega,rfl,(LX.put hG1 (by omega)).grow⟩ ?_;rw[BK hBn,hBa];have z:∀(c1 c2 k:Nat)(ds:List D)(xs:List D),st_c<=c1->st_c<=c2->∀q,q<10->Upd.app ((((st_m.put [4] 0 [.str s,.int .i64 (a.2.1:Int),.int .i64 a.2.2]).put [4] 0 [.str s,.int .i64 (b.2.1:Int),.int .i64 b.2.2]).put [c1] 0 ds)) (Be 228 [c2] (.slice nl t xs)) [q] k=((st_m.put [4] 0 [.str s,.int .i64 (a.2.1:Int),.int .i64 a.2.2]).put [4] 0 [.str s,.int .i64 (b.2.1:Int),.int .i64 b.2.2]) [q] k:=λc1 c2 k ds xs e1 e2 q hq=>by
    have:=hG.le;rw[LX.low_app (LX.put hG1 e1) e2 hq,Mem.put_other (by simp;omega)]
   have zz:=λ(c1 c2 k:Nat)(ds:List D)(xs:List D) e1 e2=>z c1 c2 k ds xs e1 e2 9 (by omega)
   have z4:=λ(c1 c2 k:Nat)(ds:List D)(xs:List D) e1 e2=>z c1 c2 k ds xs e1 e2 4 (by omega)
   have isS:∀(c1 c2:Nat)(ds xs:List D),st_c<=c1->st_c<=c2->(Ai (Upd.app ((((st_m.put [4] 0 [.str s,.int .i64 (a.2.1:Int),.int .i64 a.2.2]).put [4] 0 [.str s,.int .i64 (b.2.1:Int),.int .i64 b.2.2]).put [c1] 0 ds)) (Be 228 [c2] (.slice nl t xs))) [9] 3 1).isSome=true:=λc1 c2 ds xs e1 e2=>by
    simp only[Ai,zz c1 c2 3 ds xs e1 e2];simp[Mem.put,y3]
   simp only[↓go1,gB3,h5,reduceIte,simprocAttr,QB];refine An.intro (isS _ _ _ _ (by omega) (by omega)) ?_;simp only[↓go1,go2,reduceIte,simprocAttr,h29,hw];refine ih _ _ ⟨h28,rfl,h4,h5,h2,A++[(a.1,decide (bits .and .i64 b.1 1≠0),decide (bits .and .i64 b.1 2≠0))],true,b.2.1,b.2.2,false,_,by simp[hAl],q2.1,by rw[←hAA];simp,by rw[←hod];simp[],hpp,rfl,⟨?_,?_,?_⟩,⟨?_,?_,?_,?_⟩,by simp,LX.putx (LX.app (LX.put hG1 (by omega)) (by omega) (by simp only;omega)) (by simp) (by omega)⟩
   ·simp only;rw[Mem.put_other (by simp),z4 _ _ _ _ _ (by omega) (by omega)];simp[Mem.put]
   ·simp only;rw[Mem.put_other (by simp),z4 _ _ _ _ _ (by omega) (by omega)];simp[Mem.put]
   ·simp only;rw[Mem.put_other (by simp),z4 _ _ _ _ _ (by omega) (by omega)];simp[Mem.put]
   ·simp only;rw[Mem.put_out (by simp),zz _ _ _ _ _ (by omega) (by omega)];simp[Mem.put,y0]
   ·simp only;rw[Mem.put_out (by simp),zz _ _ _ _ _ (by omega) (by omega)];simp[Mem.put,y1]
   ·simp only;rw[Mem.put_out (by simp),zz _ _ _ _ _ (by omega) (by omega)];simp[Mem.put,y2]
   ·simp only;rw[EX];exact put_here
  |false=>
   by_cases c3:3<b.1
   ·simp only[gB1,↓go1,go5,reduceIte,simprocAttr,h28,h29,hlt,h4,h5,h7,Ah s333,mQ_run,x0,x1,x2,y3,k1,k2,c3];refine An.intro ⟨by omega,rfl,(LX.put hG1 (by omega)).grow⟩ ?_;rw[BK hBn,hBa];have z:∀(c1 c2 k:Nat)(ds:List D)(xs:List D),st_c<=c1->st_c<=c2->∀q,q<10->Upd.app ((((st_m.put [4] 0 [.str s,.int .i64 (a.2.1:Int),.int .i64 a.2.2]).put [4] 0 [.str s,.int .i64 (b.2.1:Int),.int .i64 b.2.2]).put [c1] 0 ds)) (Be 228 [c2] (.slice nl t xs)) [q] k=((st_m.put [4] 0 [.str s,.int .i64 (a.2.1:Int),.int .i64 a.2.2]).put [4] 0 [.str s,.int .i64 (b.2.1:Int),.int .i64 b.2.2]) [q] k:=λc1 c2 k ds xs e1 e2 q hq=>by
     have:=hG.le;rw[LX.low_app (LX.put hG1 e1) e2 hq,Mem.put_other (by simp;omega)]
    have zz:=λ(c1 c2 k:Nat)(ds:List D)(xs:List D) e1 e2=>z c1 c2 k ds xs e1 e2 9 (by omega)
    have z4:=λ(c1 c2 k:Nat)(ds:List D)(xs:List D) e1 e2=>z c1 c2 k ds xs e1 e2 4 (by omega)
    have isS:∀(c1 c2:Nat)(ds xs:List D),st_c<=c1->st_c<=c2->(Ai (Upd.app ((((st_m.put [4] 0 [.str s,.int .i64 (a.2.1:Int),.int .i64 a.2.2]).put [4] 0 [.str s,.int .i64 (b.2.1:Int),.int .i64 b.2.2]).put [c1] 0 ds)) (Be 228 [c2] (.slice nl t xs))) [9] 3 1).isSome=true:=λc1 c2 ds xs e1 e2=>by
     simp only[Ai,zz c1 c2 3 ds xs e1 e2];simp[Mem.put,y3]
    simp only[↓go1,gB3,h5,reduceIte,simprocAttr,QB];refine An.intro (isS _ _ _ _ (by omega) (by omega)) ?_;simp only[↓go1,go2,reduceIte,simprocAttr,h29,hw];refine ih _ _ ⟨h28,rfl,h4,h5,h2,A++[(a.1,decide (bits .and .i64 b.1 1≠0),decide (bits .and .i64 b.1 2≠0))],true,b.2.1,b.2.2,false,_,by simp[hAl],q2.1,by rw[←hAA];simp,by rw[←hod];simp[c3],hpp,rfl,⟨?_,?_,?_⟩,⟨?_,?_,?_,?_⟩,by simp,LX.putx (LX.app (LX.put hG1 (by omega)) (by omega) (by simp only;omega)) (by simp) (by omega)⟩
    ·simp only;rw[Mem.put_other (by simp),z4 _ _ _ _ _ (by omega) (by omega)];simp[Mem.put]
    ·simp only;rw[Mem.put_other (by simp),z4 _ _ _ _ _ (by omega) (by omega)];simp[Mem.put]
    ·simp only;rw[Mem.put_other (by simp),z4 _ _ _ _ _ (by omega) (by omega)];simp[Mem.put]
    ·simp only;rw[Mem.put_out (by simp),zz _ _ _ _ _ (by omega) (by omega)];simp[Mem.put,y0]
    ·simp only;rw[Mem.put_out (by simp),zz _ _ _ _ _ (by omega) (by omega)];simp[Mem.put,y1]
    ·simp only;rw[Mem.put_out (by simp),zz _ _ _ _ _ (by omega) (by omega)];simp[Mem.put,y2]
    ·simp only;rw[EX];exact put_here
   ·simp only[gB1,↓go1,go5,reduceIte,simprocAttr,h28,h29,hlt,h4,h5,h7,Ah s333,mQ_run,x0,x1,x2,y3,k1,k2,c3];refine An.intro ⟨by omega,rfl,(LX.put hG1 (by omega)).grow⟩ ?_;rw[BK hBn,hBa];have z:∀(c1 c2 k:Nat)(ds:List D)(xs:List D),st_c<=c1->st_c<=c2->∀q,q<10->Upd.app ((((st_m.put [4] 0 [.str s,.int .i64 (a.2.1:Int),.int .i64 a.2.2]).put [4] 0 [.str s,.int .i64 (b.2.1:Int),.int .i64 b.2.2]).put [c1] 0 ds)) (Be 228 [c2] (.slice nl t xs)) [q] k=((st_m.put [4] 0 [.str s,.int .i64 (a.2.1:Int),.int .i64 a.2.2]).put [4] 0 [.str s,.int .i64 (b.2.1:Int),.int .i64 b.2.2]) [q] k:=λc1 c2 k ds xs e1 e2 q hq=>by
     have:=hG.le;rw[LX.low_app (LX.put hG1 e1) e2 hq,Mem.put_other (by simp;omega)]
    have zz:=λ(c1 c2 k:Nat)(ds:List D)(xs:List D) e1 e2=>z c1 c2 k ds xs e1 e2 9 (by omega)
    have z4:=λ(c1 c2 k:Nat)(ds:List D)(xs:List D) e1 e2=>z c1 c2 k ds xs e1 e2 4 (by omega)
    have isS:∀(c1 c2:Nat)(ds xs:List D),st_c<=c1->st_c<=c2->(Ai (Upd.app ((((st_m.put [4] 0 [.str s,.int .i64 (a.2.1:Int),.int .i64 a.2.2]).put [4] 0 [.str s,.int .i64 (b.2.1:Int),.int .i64 b.2.2]).put [c1] 0 ds)) (Be 228 [c2] (.slice nl t xs))) [9] 3 1).isSome=true:=λc1 c2 ds xs e1 e2=>by
     simp only[Ai,zz c1 c2 3 ds xs e1 e2];simp[Mem.put,y3]
    simp only[↓go1,gB3,h5,reduceIte,simprocAttr,QB];refine An.intro (isS _ _ _ _ (by omega) (by omega)) ?_;simp only[↓go1,go2,reduceIte,simprocAttr,h29,hw];refine ih _ _ ⟨h28,rfl,h4,h5,h2,A++[(a.1,decide (bits .and .i64 b.1 1≠0),decide (bits .and .i64 b.1 2≠0))],false,b.2.1,b.2.2,false,_,by simp[hAl],q2.1,by rw[←hAA];simp,by rw[←hod];simp[c3],hpp,rfl,⟨?_,?_,?_⟩,⟨?_,?_,?_,?_⟩,by simp,LX.putx (LX.app (LX.put hG1 (by omega)) (by omega) (by simp only;omega)) (by simp) (by omega)⟩
    ·simp only;rw[Mem.put_other (by simp),z4 _ _ _ _ _ (by omega) (by omega)];simp[Mem.put]
    ·simp only;rw[Mem.put_other (by simp),z4 _ _ _ _ _ (by omega) (by omega)];simp[Mem.put]
    ·simp only;rw[Mem.put_other (by simp),z4 _ _ _ _ _ (by omega) (by omega)];simp[Mem.put]
    ·simp only;rw[Mem.put_out (by simp),zz _ _ _ _ _ (by omega) (by omega)];simp[Mem.put,y0]
    ·simp only;rw[Mem.put_out (by simp),zz _ _ _ _ _ (by omega) (by omega)];simp[Mem.put,y1]
    ·simp only;rw[Mem.put_out (by simp),zz _ _ _ _ _ (by omega) (by omega)];simp[Mem.put,y2]
    ·simp only;rw[EX];exact put_here
 ·obtain⟨st_s,st_m,st_c⟩:=st;obtain⟨h28,h29,h4,h5,h2,A,od,p,e,nl,t,hAl,hp,hAA,hod,hpp,h7,⟨x0,x1,x2⟩,⟨y0,y1,y2,y3⟩,hnl,hG⟩:=hI;simp only at h28 h29 h4 h5 h2 h7 x0 x1 x2 y0 y1 y2 y3 hG;refine Af dc240l0.eq_1 ?_;have m0:∀k,st_m [0] k=_:=λk=>hG.low 0 k (by omega) (by simp)
  rw[Za]at hAA hod hpp;unfold unpR at hAA hod hpp;simp only[QN,Q9]at hAA hod hpp;rw[←hod];rw[←hAA]at h191 ⊢;rw[←hpp]at h334;simp only at h334;rw[←hnl]at h191 ⊢;by_cases c1:en=3
  ·simp only[gB1,↓go1,go5,reduceIte,simprocAttr,h28,h29,h4,h2,Ql,x0,x1,x2,m0,Aa s334,h334,c1]
   all_goals (first|rfl|exact⟨rfl,rfl⟩|(simp[*,sc0];done)|(simp[*,sc0];rfl))
  ·have c1':(en=3)=False:=eq_false c1;by_cases c2:en=0
   ·subst c2;cases od with
    |true=>
     simp only[gB1,↓go1,go5,reduceIte,simprocAttr,h28,h29,h4,h7,Ql,x0,x1,x2,Aa s334,h334]
     (refine An.intro (Aj ?_) ?_;(first|rfl|(simp[Ax,Aq,rds,Ae];done)|(simp[Ax,Aq,rds,Ae,Ac];done)))
     simp only[gB1,↓go1,go5,reduceIte,simprocAttr,h2,m0]
     all_goals (first|rfl|exact⟨rfl,rfl⟩|(simp[*,sc0];done)|(simp[*,sc0];rfl))
    |false=>
     cases bad with
     |true=>
      simp only[if_true]at h191;simp only[gB1,↓go1,go5,reduceIte,simprocAttr,h28,h29,h4,h5,h7,Ql,x0,x1,x2,y0,y1,y2,y3,Aa s334,h334,Aa s335,h335,Aa s191,h191]
      (refine An.intro (Aj ?_) ?_;(first|rfl|(simp[Ax,Aq,rds,Ae];done)|(simp[Ax,Aq,rds,Ae,Ac];done)))
      simp only[gB1,↓go1,go5,reduceIte,simprocAttr,h2,m0]
      all_goals (first|rfl|exact⟨rfl,rfl⟩|(simp[*,sc0];done)|(simp[*,sc0];rfl))
     |false=>
      simp only[if_false,Qm]at h191;simp only[gB1,↓go1,go5,reduceIte,simprocAttr,h28,h29,h4,h5,h7,Ql,x0,x1,x2,y0,y1,y2,y3,Aa s334,h334,Aa s335,h335,Aa s191,h191]
      (refine An.intro (Aj ?_) ?_;(first|rfl|(simp[Ax,Aq,rds,Ae];done)|(simp[Ax,Aq,rds,Ae,Ac];done)))
      simp only[gB1,↓go1,go5,reduceIte,simprocAttr,h2,h5,m0,y0,y1,y2,y3]
      all_goals (first|rfl|exact⟨rfl,rfl⟩|(simp[*,sc0];done)|(simp[*,sc0];rfl))
   ·have c2':(en=0)=False:=eq_false c2;simp only[gB1,↓go1,go5,reduceIte,simprocAttr,h28,h29,h4,Ql,x0,x1,x2,Aa s334,h334,c1',c2']
    (refine An.intro (Aj ?_) ?_;(first|rfl|(simp[Ax,Aq,rds,Ae];done)|(simp[Ax,Aq,rds,Ae,Ac];done)))
    simp only[gB1,↓go1,go5,reduceIte,simprocAttr,h2,m0]
    all_goals (first|rfl|exact⟨rfl,rfl⟩|(simp[*,sc0];done)|(simp[*,sc0];rfl))
end Go.Vd
namespace Go.Vd
open Go.Proofs
def dc128:DC:=(sr [oo 2 (.mv (.c (.slice true [] [])))] (sr [mm 3 0,oo 4 (.bin .add (.c (.str [109,47])) (.t 3)),oo 5 (.bin .add (.t 4) (.c (.str [47]))),mm 6 0,oo 7 (.bin .add (.c (.str [100,47])) (.t 6)),oo 8 (.bin .add (.t 7) (.c (.str [47]))),oo 9 (.bslice 9 1 [(.t 5),(.t 8)]),mm 2 9] .ret))
theorem fn128:Fn Qb 128 10 dc128 [.t 2]:=Am func128
def dc97:DC:=(sr [oo 2 (.alloc [(.int .u8 0),(.str []),(.int .i64 0)])] (.seq (sr [mm 10 0,oo 11 (.bin .eql (.t 10) (.c (.str [115,47,109,111,117,110,116,115])))] (cd 11 (sr [oo 12 (.build [(.int .u8 0),(.str []),(.int .i64 0)] [(0,1,(.c (.int .u8 4)))]),oz (.store 3 (.t 2) (.t 12))] .ret) .skip)) (.seq (sr [mm 13 0,oo 14 (.bin .eql (.t 13) (.c (.str [115,47,114,105,110,103])))] (cd 14 (sr [oo 15 (.build [(.int .u8 0),(.str []),(.int .i64 0)] [(0,1,(.c (.int .u8 5)))]),oz (.store 3 (.t 2) (.t 15))] .ret) .skip)) (.seq (sr [mm 17 0,cc 18 200 [(.t 17),(.c (.str [109,47]))],mm 16 18,xx 19 0 16,xx 20 1 16,mm 3 19,mm 4 20] (sr [mm 21 4] (cd 21 (sr [mm 22 3,oo 23 (.build [(.int .u8 0),(.str []),(.int .i64 0)] [(0,1,(.c (.int .u8 1))),(1,1,(.t 22))]),oz (.store 3 (.t 2) (.t 23))] .ret) .skip))) (.seq (sr [mm 25 0,cc 26 200 [(.t 25),(.c (.str [116,47]))],mm 24 26,xx 27 0 24,xx 28 1 24,mm 5 27,mm 6 28] (sr [mm 29 6] (cd 29 (sr [mm 30 5,oo 31 (.build [(.int .u8 0),(.str []),(.int .i64 0)] [(0,1,(.c (.int .u8 3))),(1,1,(.t 30))]),oz (.store 3 (.t 2) (.t 31))] .ret) .skip))) (.seq (sr [mm 33 0,cc 34 200 [(.t 33),(.c (.str [100,47]))],mm 32 34,xx 35 0 32,xx 36 1 32,mm 7 35,mm 8 36] (sr [mm 37 8,mm 38 37,og 39 (.mv (.t 7)) 1 true,og 40 (.len true (.t 39)) 1 true,og 41 (.bin .gtr (.t 40) (.c (.int .i64 2))) 1 true,oo 42 (.pick (.t 38) (.t 41) (.c (.bool false))),mm 43 42,og 44 (.mv (.t 7)) 6 true,og 45 (.mv (.t 7)) 6 true,og 46 (.len true (.t 45)) 6 true,og 47 (.bin .sub (.t 46) (.c (.int .i64 2))) 6 true,og 48 (.idxs (.t 44) (.t 47)) 6 true,og 49 (.bin .eql (.t 48) (.c (.int .u8 0))) 6 true,oo 50 (.pick (.t 43) (.t 49) (.c (.bool false)))] (cd 50 (sr [mm 51 7,nn 52 true 51,bi 53 .sub 52 2,mm 9 53] (.seq (.drawn [mm 54 7,mm 55 9,oo 56 (.cuts (.t 54) none (some (.t 55))),mm 57 7,mm 58 9,bi 59 .add 58 1,oo 60 (.idxs (.t 57) (.t 59)),oo 61 (.conv .i64 (.t 60)),oo 62 (.build [(.int .u8 0),(.str []),(.int .i64 0)] [(0,1,(.c (.int .u8 2))),(1,1,(.t 56)),(2,1,(.t 61))]),oz (.store 3 (.t 2) (.t 62))] []) .ret)) .skip))) (sr [oo 63 (.build [(.int .u8 0),(.str []),(.int .i64 0)] []),oz (.store 3 (.t 2) (.t 63))] .ret)))))))
theorem fn97:Fn Qb 97 64 dc97 [.cell (some 3) 2]:=Am func97
def dc38:DC:=(sr [oo 2 (.alloc [(.int .u8 0),(.str []),(.int .i64 0)]),ci 3 0] (sr [mm 5 0,cc 6 97 [(.t 5)],oo 4 (.alloc [(.int .u8 0),(.str []),(.int .i64 0)]),oz (.store 3 (.t 4) (.t 6))] (.seq (sr [lk 7 3 4,cc 8 98 [(.t 7)],bi 9 .neq 8 0] (cd 9 (sr [oo 10 (.build [(.int .u8 0),(.str []),(.int .i64 0)] []),oz (.store 3 (.t 2) (.t 10)),ci 3 4] .ret) .skip)) (sr [lk 11 3 4,oz (.store 3 (.t 2) (.t 11)),ci 3 0] .ret))))
theorem fn38:Fn Qb 38 12 dc38 [.cell (some 3) 2,.t 3]:=Am func38
def dc132:DC:=(sr [oo 2 (.box (.t 0)),oo 4 (.mv (.c (.slice true [] []))),cb 5 false] (sr [ff 7 3 2,ll 8 7,mm 9 1,cc 10 237 [(.t 8),(.t 9)],mm 6 10] (.seq (sr [mm 11 6,bi 12 .lss 11 0,mm 13 12,og 14 (.mv (.t 6)) 2 false,og 15 (.faddr 4 (.t 2)) 2 false,og 16 (.load none (.t 15)) 2 false,og 17 (.len false (.t 16)) 2 false,og 18 (.bin .geq (.t 14) (.t 17)) 2 false,oo 19 (.pick (.t 13) (.c (.bool true)) (.t 18))] (cd 19 (sr [mm 20 6,bi 21 .geq 20 0,oo 4 (.mv (.c (.slice true [] []))),mm 5 21] .ret) .skip)) (sr [ff 22 4 2,ll 23 22,mm 24 6,ii 25 1 23 24,ll 26 25,mm 4 26,cb 5 true] .ret))))
theorem fn132:Fn Qb 132 27 dc132 [.t 4,.t 5]:=Am func132
end Go.Vd
namespace Go.Vd
open Go.Proofs Go.RowKit
def AZ(k:Int)(name:Bs)(n:Int):Bs:=if DK k name n≠0 then []else if k=1 then [109,47]++name else if k=2 then [100,47]++name++[0,UInt8.ofNat (IntKind.u8.wrap n).toNat]else if k=3 then [116,47]++name else if k=4 then [115,47,109,111,117,110,116,115]else [115,47,114,105,110,103]
theorem F98_eq{k n:Int}{name:Bs}(h:name.length<=1000000):F98 [.agg [.int .u8 k,.str name,.int .i64 n]]=some (.int .i64 (DK k name n)):=if_pos h
theorem add_s{a b:Bs}(h:a.length+b.length<=9223372036854775807):AX .add (.str a) (.str b)=some (.str (a++b)):=by simp[AX,h]
def S223:Summs:=AF [(98,Ac F98)]
def R223:List D->Option D:=RF S223 dc223 [.t 2,.t 3] 35
theorem ko223:(Ac R223).ok Qb 223:=AJ fn223 (Ab ok98 Ad)
theorem R223_eq(k n:Int)(name:Bs)(hl:name.length<=1000000):R223 [.agg [.int .u8 k,.str name,.int .i64 n]]=some (.tup [.str (AZ k name n),.int .i64 (DK k name n)]):=by
 refine AH (Qa rfl) ?_;have s98:S223 98=some (Ac F98):=rfl;unfold dc223;have h98:=F98_eq (k:=k) (n:=n) hl;have a1:∀x y,AX .add (.str [x,y]) (.str name)=some (.str ([x,y]++name)):=λx y=>add_s (by simp only[Qj,Qo];omega)
 have hb:∀a,Bw [.int .u8 0,.int .u8 a]=some [0,UInt8.ofNat a.toNat]:=λ_=>rfl
 unfold AZ;generalize DK k name n=e at *;by_cases c0:e=0
 ·subst c0;by_cases c1:k=1
  ·have c1':=eq_true c1;simp only[gB1,↓go1,go5,reduceIte,simprocAttr,Aa s98,h98,c1',a1]
   all_goals (first|rfl|exact⟨rfl,rfl⟩|(simp[*];done))
  have c1':=eq_false c1;by_cases c2:k=2
  ·have c2':=eq_true c2;have a3:=λz (hz:z.length<=100)=>add_s (a:=[100,47]++name) (b:=z) (by simp only[Qr,Qj,Qo];omega)
   have a4:=λc d=>a3 [c,d] (by simp)
   simp only[gB1,↓go1,go5,reduceIte,simprocAttr,Aa s98,h98,c1',c2',a1,a4,hb]
   all_goals (first|rfl|exact⟨rfl,rfl⟩|(simp[*];done))
  have c2':=eq_false c2;by_cases c3:k=3
  ·have c3':=eq_true c3;simp only[gB1,↓go1,go5,reduceIte,simprocAttr,Aa s98,h98,c1',c2',c3',a1]
   all_goals (first|rfl|exact⟨rfl,rfl⟩|(simp[*];done))
  have c3':=eq_false c3;by_cases c4:k=4
  ·have c4':=eq_true c4;simp only[gB1,↓go1,go5,reduceIte,simprocAttr,Aa s98,h98,c1',c2',c3',c4']
   all_goals (first|rfl|exact⟨rfl,rfl⟩|(simp[*];done))
  ·have c4':=eq_false c4;simp only[gB1,↓go1,go5,reduceIte,simprocAttr,Aa s98,h98,c1',c2',c3',c4']
   all_goals (first|rfl|exact⟨rfl,rfl⟩|(simp[*];done))
 ·have c0':=eq_false c0;simp only[gB1,↓go1,go5,reduceIte,simprocAttr,Aa s98,h98,c0']
  all_goals (first|rfl|exact⟨rfl,rfl⟩|(simp[*];done))
def S123:Summs:=AF [(223,Ac R223)]
def B1:List D->Option D:=RF S123 dc123 [.t 6] 18
theorem ko123:(Ac B1).ok Qb 123:=AJ fn123 (Ab ko223 Ad)
theorem Cy(k n:Int)(name:Bs)(hl:name.length<=1000000):B1 [.int .u8 k,.str name,.int .i64 n]=some (.str (AZ k name n)):=by
 refine AH (Qa rfl) ?_;have s223:S123 223=some (Ac R223):=rfl;unfold dc123;have h223:=R223_eq k n name hl;simp only[↓go1,gB3,go5,reduceIte,simprocAttr,Aa s223,h223]
 all_goals (first|rfl|exact⟨rfl,rfl⟩|(simp[*];done))
def S128:Summs:=AF []
def R128:List D->Option D:=RF S128 dc128 [.t 2] 10
theorem ko128:(Ac R128).ok Qb 128:=AJ fn128 Ad
theorem R128_eq(p:Bs)(hl:p.length<=1000000):R128 [.str p]=some (.slice false [] [.str ([109,47]++p++[47]),.str ([100,47]++p++[47])]):=by
 refine AH (Qa rfl) ?_;unfold dc128;have a1:∀x y,AX .add (.str [x,y]) (.str p)=some (.str ([x,y]++p)):=λx y=>add_s (by simp only[Qj,Qo];omega)
 have a2:∀x y,AX .add (.str ([x,y]++p)) (.str [47])=some (.str ([x,y]++p++[47])):=λx y=>add_s (by simp only[Qr,Qj,Qo];omega)
 simp only[↓go1,gB3,go5,reduceIte,simprocAttr,a1,a2]
 all_goals (first|rfl|exact⟨rfl,rfl⟩|(simp[*];done))
def CT(s:Bs):Int×Bs×Int:=if s=[115,47,109,111,117,110,116,115]then(4,[],0)else if s=[115,47,114,105,110,103]then(5,[],0)else if BP s [109,47]=true then(1,s.drop 2,0)else if BP s [116,47]=true then(3,s.drop 2,0)else
 if BP s [100,47]=true∧2<(s.drop 2).length∧(s.drop 2).getD ((s.drop 2).length-2) 0=0 then(2,(s.drop 2).take ((s.drop 2).length-2),((s.drop 2).getD ((s.drop 2).length-1) 0).toNat)else(0,[],0)
def Dd(s:Bs):(Int×Bs×Int)×Int:=if DK (CT s).1 (CT s).2.1 (CT s).2.2≠0 then((0,[],0),4)else(CT s,0)
def kyD(k:Int×Bs×Int):D:= .agg [.int .u8 k.1,.str k.2.1,.int .i64 k.2.2]
theorem guess_len(s:Bs):(CT s).2.1.length<=s.length:=by
 unfold CT
 repeat' split
 all_goals (simp;try omega)
def S97:Summs:=AF [(200,Ac F200)]
def R97:List D->Option D:=RF S97 dc97 [.cell (some 3) 2] 64
theorem ko97:(Ac R97).ok Qb 97:=AJ fn97 (Ab ok200 Ad)
theorem R97_eq (s : Bs) (hl : s.length ≤ 1000000) : R97 [.str s] = some (kyD (CT s)) := by
  refine AH (Qa rfl) ?_
  have s200 : S97 200 = some (Ac F200) := rfl
  unfold dc97
  have h200 : ∀ a b : UInt8, F200 [.str s, .str [a, b]] = some (.tup [.str (if BP s [a, b] = true then s.drop 2 else s), .bool (BP s [a, b])]) := fun _ _ => rfl
  unfold CT kyD
  by_cases c1 : s = [115, 47, 109, 111, 117, 110, 116, 115]
  · have c1' := eq_true c1
    simp only [gB1, ↓go1, go5, reduceIte, simprocAttr, c1']
    all_goals (first | rfl | exact ⟨rfl, rfl⟩ | (simp [*]; done))
  have c1' := eq_false c1
  by_cases c2 : s = [115, 47, 114, 105, 110, 103]
  · have c2' := eq_true c2
    simp only [gB1, ↓go1, go5, reduceIte, simprocAttr, c1', c2']
    all_goals (first | rfl | exact ⟨rfl, rfl⟩ | (simp [*]; done))
  have c2' := eq_false c2
  cases c3 : BP s [109, 47] with
  | true =>
    simp only [gB1, ↓go1, go5, reduceIte, simprocAttr, Aa s200, h200, c1', c2', c3]
    all_goals (first | rfl | exact ⟨rfl, rfl⟩ | (simp [*]; done))
  | false =>
    cases c4 : BP s [116, 47] with
    | true =>
      simp only [gB1, ↓go1, go5, reduceIte, simprocAttr, Aa s200, h200, c1', c2', c3, c4]
      all_goals (first | rfl | exact ⟨rfl, rfl⟩ | (simp [*]; done))
    | false =>
      cases c5 : BP s [100, 47] with
      | false =>
        simp only [gB1, ↓go1, go5, reduceIte, simprocAttr, Aa s200, h200, c1', c2', c3, c4, c5]
        all_goals (first | rfl | exact ⟨rfl, rfl⟩ | (simp [*]; done))
      | true =>
        have hdl : (s.drop 2).length ≤ 1000000 := by rw [Q3]; omega
        generalize hr : s.drop 2 = r at *
        by_cases c6 : 2 < r.length
        · have c6' : ((2 : Int) < (r.length : Int)) = True := eq_true (by omega)
          have w1 : IntKind.i64.wrap ((r.length : Int) - 2) = ((r.length - 2 : Nat) : Int) := by rw [w64 (by omega) (by omega)]; omega
          have w2 : IntKind.i64.wrap (((r.length - 2 : Nat) : Int) + 1) = ((r.length - 1 : Nat) : Int) := by rw [w64 (by omega) (by omega)]; omega
          have w3 : (0 : Int) ≤ ((r.length - 2 : Nat) : Int) := by omega
          have w3' : (0 : Int) ≤ ((r.length - 1 : Nat) : Int) := by omega
          have w4 : (((r.length - 2 : Nat) : Int) ≤ ((r.length : Nat) : Int)) = True := eq_true (by omega)
          have g1 : r[r.length - 2]? = some (r.getD (r.length - 2) 0) := by simp [List.getD, Qg (show r.length - 2 < r.length by omega)]
          have g2 : r[r.length - 1]? = some (r.getD (r.length - 1) 0) := by simp [List.getD, Qg (show r.length - 1 < r.length by omega)]
          have hz : ((r.getD (r.length - 2) 0).toNat : Int) = 0 ↔ r.getD (r.length - 2) 0 = 0 := by
            constructor
            · intro h; exact UInt8.toNat_inj.1 (by have : (r.getD (r.length - 2) 0).toNat = 0 := by omega
                                                   rw [this]; rfl)
            · intro h; rw [h]; rfl
          have hwi : IntKind.i64.wrap ((r.getD (r.length - 1) 0).toNat : Int) = ((r.getD (r.length - 1) 0).toNat : Int) := w64 (by omega) (by have := (r.getD (r.length - 1) 0).toNat_lt; omega)
          generalize r.getD (r.length - 1) 0 = y at *
          generalize r.getD (r.length - 2) 0 = x at *
          by_cases c7 : x = 0
          · have c7' : ((x.toNat : Int) = 0) = True := eq_true (hz.2 c7)
            simp only [gB1, ↓go1, go5, reduceIte, simprocAttr, Aa s200, h200, c1', c2', c3, c4, c5, c6', w1, w2, w3, w3', w4, g1, g2, c7', hwi, Qc]
            (refine An.intro (Aj ?_) ?_; (first | rfl | (simp [Ax, Aq, rds, Ae]; done) | (simp [Ax, Aq, rds, Ae, Ac]; done)))
            simp only [gB1, ↓go1, go5, reduceIte, simprocAttr]
            all_goals (first | rfl | exact ⟨rfl, rfl⟩ | (simp [*]; done))
          · have c7' : ((x.toNat : Int) = 0) = False := eq_false (fun h => c7 (hz.1 h))
            simp only [gB1, ↓go1, go5, reduceIte, simprocAttr, Aa s200, h200, c1', c2', c3, c4, c5, c6', w1, w3, g1, c7', Qc]
            all_goals (first | rfl | exact ⟨rfl, rfl⟩ | (simp [*]; done))
        · have c6' : ((2 : Int) < (r.length : Int)) = False := eq_false (by omega)
          simp only [gB1, ↓go1, go5, reduceIte, simprocAttr, Aa s200, h200, c1', c2', c3, c4, c5, c6']
          all_goals (first | rfl | exact ⟨rfl, rfl⟩ | (simp [*]; done))
def S38:Summs:=AF [(97,Ac R97),(98,Ac F98)]
def R38:List D->Option D:=RF S38 dc38 [.cell (some 3) 2,.t 3] 12
theorem ko38:(Ac R38).ok Qb 38:=AJ fn38 (Ab ko97 (Ab ok98 Ad))
theorem R38_eq(s:Bs)(hl:s.length<=1000000):R38 [.str s]=some (.tup [kyD (Dd s).1,.int .i64 (Dd s).2]):=by
 refine AH (Qa rfl) ?_;have s97:S38 97=some (Ac R97):=rfl;have s98:S38 98=some (Ac F98):=rfl;unfold dc38;have h97:=R97_eq s hl;have h98:=F98_eq (k:=(CT s).1) (n:=(CT s).2.2) (name:=(CT s).2.1) (by have:=guess_len s;omega);unfold Dd;unfold kyD at *;generalize DK (CT s).1 (CT s).2.1 (CT s).2.2=e at *;generalize CT s=g at *;by_cases c0:e=0
 ·subst c0;simp only[gB1,↓go1,go5,reduceIte,simprocAttr,Aa s97,h97,Aa s98,h98]
  all_goals (first|rfl|exact⟨rfl,rfl⟩|(simp[*];done))
 ·have c0':=eq_false c0;simp only[gB1,↓go1,go5,reduceIte,simprocAttr,Aa s97,h97,Aa s98,h98,c0']
  all_goals (first|rfl|exact⟨rfl,rfl⟩|(simp[*];done))
end Go.Vd
namespace Go.Vd
open Go.Proofs
def dc13:DC:=(sr [oo 3 (.box (.t 0)),oo 6 (.alloc [(.slice true [] []),(.slice true [] []),(.slice true [] []),(.slice true [] []),(.slice true [] [])])] (sr [ff 7 3 3,ll 8 7,mm 9 1,oo 10 (.bslice 9 1 [(.t 9)]),oo 11 (.bslice 28 1 [(.t 8),(.t 10)]),cc 12 39 [(.t 11)],ff 13 3 3,oz (.store 1 (.t 13) (.t 12))] (.seq (.drawn [ff 14 4 3,ll 15 14,mm 16 2,cc 17 42 [(.t 16)],oo 18 (.bslice 28 1 [(.t 17)]),oo 19 (.bslice 30 1 [(.t 15),(.t 18)]),cc 20 41 [(.t 19)],ff 21 4 3,oz (.store 1 (.t 21) (.t 20))] [(3,1),(4,1)]) (sr [lk 22 5 3,oz (.store 5 (.t 6) (.t 22))] .ret))))
theorem fn13:Fn Qb 13 23 dc13 [.cell (some 5) 6]:=Am func13
def dc42:DC:=(sr [oo 2 (.mv (.c (.slice true [] [])))] (.seq (sr [mm 3 0,oo 4 (.nileq false 0 (.t 3) (.c (.slice true [] [])))] (cd 4 (sr [oo 2 (.mv (.c (.slice true [] [])))] .ret) .skip)) (sr [oo 5 (.bslice 9 1 []),mm 6 0,oo 7 (.app 9 1 16 (.t 5) (.t 6)),mm 2 7] .ret)))
theorem fn42:Fn Qb 42 8 dc42 [.t 2]:=Am func42
def dc21l0:DC:=(.seq (sr [mm 11 7,ff 12 1 5,ll 13 12,nn 14 false 13,bt 15 .lss 11 14] (cd 15 .skip (.exit 0))) (.seq (.block 1 (.seq (.drawn [ff 18 1 5,ll 19 18,mm 20 7,ii 21 2 19 20,ff 22 0 21,ll 23 22,ff 24 0 4,ll 25 24,bt 26 .eql 23 25] []) (cd 26 (.seq (.drawn [lk 27 5 3,ff 28 0 4,ll 29 28,ff 30 1 5,ll 31 30,mm 32 7,ii 33 2 31 32,ff 34 1 33,ll 35 34,cc 36 13 [(.t 27),(.t 29),(.t 35)],oz (.store 5 (.t 6) (.t 36))] []) .ret) .skip))) (.row [mm 16 7,bi 17 .add 16 1,mm 7 17])))
def dc21l1:DC:=(.seq (sr [mm 41 8,ff 42 0 5,ll 43 42,nn 44 false 43,bt 45 .lss 41 44] (cd 45 .skip (.exit 2))) (.seq (.block 3 (.seq (.drawn [ff 48 0 5,ll 49 48,mm 50 8,ii 51 3 49 50,ff 52 0 51,ll 53 52,ff 54 0 4,ll 55 54,bt 56 .eql 53 55] []) (cd 56 (.seq (.drawn [lk 57 5 3,ff 58 0 4,ll 59 58,ff 60 0 5,ll 61 60,mm 62 8,ii 63 3 61 62,ff 64 1 63,ll 65 64,ff 66 0 5,ll 67 66,mm 68 8,ii 69 3 67 68,ff 70 2 69,ll 71 70,cc 72 12 [(.t 57),(.t 59),(.t 65),(.t 71)],oz (.store 5 (.t 6) (.t 72))] []) .ret) .skip))) (.row [mm 46 8,bi 47 .add 46 1,mm 8 47])))
def dc21:DC:=(sr [oo 3 (.box (.t 0)),oo 4 (.box (.t 1)),oo 5 (.box (.t 2)),oo 6 (.alloc [(.slice true [] []),(.slice true [] []),(.slice true [] []),(.slice true [] []),(.slice true [] [])])] (.seq (sr [ff 9 1 4,ll 10 9] (cd 10 (.seq (sr [ci 7 0] (.block 0 (.loop dc21l0))) (sr [lk 37 5 3,ff 38 0 4,ll 39 38,cc 40 13 [(.t 37),(.t 39),(.c (.slice true [] []))],oz (.store 5 (.t 6) (.t 40))] .ret)) .skip)) (.seq (sr [ci 8 0] (.block 2 (.loop dc21l1))) (sr [lk 73 5 3,ff 74 0 4,ll 75 74,cc 76 12 [(.t 73),(.t 75),(.c (.str [])),(.c (.bool false))],oz (.store 5 (.t 6) (.t 76))] .ret))))
theorem fn21:Fn Qb 21 77 dc21 [.cell (some 5) 6]:=Am func21
def dc9l0:DC:=(.seq (sr [mm 16 3,ff 17 0 1,ll 18 17,nn 19 false 18,bt 20 .lss 16 19] (cd 20 .skip (.exit 0))) (.seq (.block 1 (sr [ff 23 0 1,ll 24 23,mm 25 3,ii 26 3 24 25,ff 27 0 26,ll 28 27,nn 29 true 28,bi 30 .gtr 29 200,mm 31 30,og 32 (.faddr 0 (.t 1)) 8 false,og 33 (.load none (.t 32)) 8 false,og 34 (.mv (.t 3)) 8 false,og 35 (.iaddr 3 (.t 33) (.t 34)) 8 false,og 36 (.faddr 1 (.t 35)) 8 false,og 37 (.load none (.t 36)) 8 false,og 38 (.len true (.t 37)) 8 false,og 39 (.bin .gtr (.t 38) (.c (.int .i64 200))) 8 false,oo 40 (.pick (.t 31) (.c (.bool true)) (.t 39))] (cd 40 (sr [cb 2 true] .ret) .skip))) (.row [mm 21 3,bi 22 .add 21 1,mm 3 22])))
def dc9l1:DC:=(.seq (sr [mm 66 5,ff 67 1 1,ll 68 67,mm 69 4,ii 70 2 68 69,ff 71 1 70,ll 72 71,nn 73 false 72,bt 74 .lss 66 73] (cd 74 .skip (.exit 4))) (.seq (.block 5 (sr [ff 77 1 1,ll 78 77,mm 79 4,ii 80 2 78 79,ff 81 1 80,ll 82 81,mm 83 5,ii 84 1 82 83,ll 85 84,nn 86 true 85,bi 87 .gtr 86 200] (cd 87 (sr [cb 2 true] .ret) .skip))) (.row [mm 75 5,bi 76 .add 75 1,mm 5 76])))
def dc9l2:DC:=(.seq (sr [mm 41 4,ff 42 1 1,ll 43 42,nn 44 false 43,bt 45 .lss 41 44] (cd 45 .skip (.exit 2))) (.seq (.block 3 (.seq (sr [ff 48 1 1,ll 49 48,mm 50 4,ii 51 2 49 50,ff 52 1 51,ll 53 52,nn 54 false 53,bi 55 .gtr 54 100,mm 56 55,og 57 (.faddr 1 (.t 1)) 8 false,og 58 (.load none (.t 57)) 8 false,og 59 (.mv (.t 4)) 8 false,og 60 (.iaddr 2 (.t 58) (.t 59)) 8 false,og 61 (.faddr 0 (.t 60)) 8 false,og 62 (.load none (.t 61)) 8 false,og 63 (.len true (.t 62)) 8 false,og 64 (.bin .gtr (.t 63) (.c (.int .i64 200))) 8 false,oo 65 (.pick (.t 56) (.c (.bool true)) (.t 64))] (cd 65 (sr [cb 2 true] .ret) .skip)) (sr [ci 5 0] (.block 4 (.loop dc9l1))))) (.row [mm 46 4,bi 47 .add 46 1,mm 4 47])))
def dc9:DC:=(sr [oo 1 (.box (.t 0)),cb 2 false] (.seq (sr [ff 6 0 1,ll 7 6,nn 8 false 7,bi 9 .gtr 8 12,mm 10 9,og 11 (.faddr 1 (.t 1)) 4 false,og 12 (.load none (.t 11)) 4 false,og 13 (.len false (.t 12)) 4 false,og 14 (.bin .gtr (.t 13) (.c (.int .i64 4))) 4 false,oo 15 (.pick (.t 10) (.c (.bool true)) (.t 14))] (cd 15 (sr [cb 2 true] .ret) .skip)) (.seq (sr [ci 3 0] (.block 0 (.loop dc9l0))) (.seq (sr [ci 4 0] (.block 2 (.loop dc9l2))) (sr [cb 2 false] .ret)))))
theorem fn9:Fn Qb 9 88 dc9 [.t 2]:=Am func9
end Go.Vd
namespace Go.Vd
open Go.Proofs Go.RowKit
theorem wGrow99(w:World)(k:Nat)(h0:0<k)(hk:k<=1000000):
  Calls Qb 99 #[.slice none 0 0,.int .i64 (k:Int)] w λe w'=>e= .returned (.slice (some ⟨w.heap.size,0,none⟩) 0 (grownCap w k 0 9))∧w'=w.drew.alloc (.cells (Builtin.zeroCells #[.string .empty] k++Builtin.zeroCells #[.string .empty] (grownCap w k 0 9-k)) 9):=by
 have happ:=Lib.run_append_nil_zeros (P:=Qb) w 28 3 28 9 t9 (.string .empty) .i64 .i64 underlying28 underlying3 (by kernel_rfl) (by kernel_rfl) k h0 (by decide) (by omega) (by show k*16<=_;omega)
 go_enter func99,ntmps99
 go_wp2_with (first|(at_builtin;refine Lib.wpList_append_run _ rfl _ _ _ _ rfl _ _ rfl rfl _ _ happ ?_))
 all_goals go_ret
 all_goals exact⟨rfl,rfl⟩
theorem ko99:(Df 9).ok Qb 99:=by
 refine grow_ok (sz:=1) ⟨_,func99,by kernel_rfl,by kernel_rfl⟩ (by decide) ⟨t9,(.string .empty),by kernel_rfl,by kernel_rfl,by kernel_rfl,by kernel_rfl⟩ (λw k h0 hk=>?_);refine(wGrow99 w k h0 hk).mono ?_;rintro e w' ⟨rfl,rfl⟩;refine⟨_,_,grownCap_le_maxLen w k 0 9 (by unfold maxLen;omega),?_,rfl,rfl⟩;have hge:=grownCap_ge w k 0 9;simp only[Q0,size_zeroCells];simp;omega
theorem wGrow100(w:World)(k:Nat)(h0:0<k)(hk:k<=1000000):
  Calls Qb 100 #[.slice none 0 0,.int .i64 (k:Int)] w λe w'=>e= .returned (.slice (some ⟨w.heap.size,0,none⟩) 0 (grownCap w k 0 4))∧w'=w.drew.alloc (.cells (Builtin.zeroCells #[.bool false] k++Builtin.zeroCells #[.bool false] (grownCap w k 0 4-k)) 4):=by
 have happ:=Lib.run_append_nil_zeros (P:=Qb) w 29 3 29 4 t4 (.bool false) .i64 .i64 underlying29 underlying3 (by kernel_rfl) (by kernel_rfl) k h0 (by decide) (by omega) (by show k*1<=_;omega)
 go_enter func100,ntmps100
 go_wp2_with (first|(at_builtin;refine Lib.wpList_append_run _ rfl _ _ _ _ rfl _ _ rfl rfl _ _ happ ?_))
 all_goals go_ret
 all_goals exact⟨rfl,rfl⟩
theorem ko100:(Df 4).ok Qb 100:=by
 refine grow_ok (sz:=1) ⟨_,func100,by kernel_rfl,by kernel_rfl⟩ (by decide) ⟨t4,(.bool false),by kernel_rfl,by kernel_rfl,by kernel_rfl,by kernel_rfl⟩ (λw k h0 hk=>?_);refine(wGrow100 w k h0 hk).mono ?_;rintro e w' ⟨rfl,rfl⟩;refine⟨_,_,grownCap_le_maxLen w k 0 4 (by unfold maxLen;omega),?_,rfl,rfl⟩;have hge:=grownCap_ge w k 0 4;simp only[Q0,size_zeroCells];simp;omega
theorem wGrow101(w:World)(k:Nat)(h0:0<k)(hk:k<=1000000):
  Calls Qb 101 #[.slice none 0 0,.int .i64 (k:Int)] w λe w'=>e= .returned (.slice (some ⟨w.heap.size,0,none⟩) 0 (grownCap w k 0 28))∧w'=w.drew.alloc (.cells (Builtin.zeroCells #[.slice none 0 0] k++Builtin.zeroCells #[.slice none 0 0] (grownCap w k 0 28-k)) 28):=by
 have happ:=Lib.run_append_nil_zeros (P:=Qb) w 30 3 30 28 t28 (.slice none 0 0) .i64 .i64 underlying30 underlying3 (by kernel_rfl) (by kernel_rfl) k h0 (by decide) (by omega) (by show k*24<=_;omega)
 go_enter func101,ntmps101
 go_wp2_with (first|(at_builtin;refine Lib.wpList_append_run _ rfl _ _ _ _ rfl _ _ rfl rfl _ _ happ ?_))
 all_goals go_ret
 all_goals exact⟨rfl,rfl⟩
theorem ko101:(Df 28).ok Qb 101:=by
 refine grow_ok (sz:=1) ⟨_,func101,by kernel_rfl,by kernel_rfl⟩ (by decide) ⟨t28,(.slice none 0 0),by kernel_rfl,by kernel_rfl,by kernel_rfl,by kernel_rfl⟩ (λw k h0 hk=>?_);refine(wGrow101 w k h0 hk).mono ?_;rintro e w' ⟨rfl,rfl⟩;refine⟨_,_,grownCap_le_maxLen w k 0 28 (by unfold maxLen;omega),?_,rfl,rfl⟩;have hge:=grownCap_ge w k 0 28;simp only[Q0,size_zeroCells];simp;omega
theorem fn39':Fn Qb 39 36 (Fz 9 9 1 16 99) [.t 2]:=⟨f39,_,func39,rfl,by kernel_rfl,rfl,by kernel_rfl,by kernel_rfl⟩
def S39:Summs:=AF [(99,Df 9)]
def R39:List D->Option D:=RF S39 (Fz 9 9 1 16 99) [.t 2] 36
theorem ko39:(Ac R39).ok Qb 39:=AJ fn39' (Ab ko99 Ad)
theorem R39_eq{nl:Bool}{xs:List D}{x:D}(hl:xs.length<=1000)(hs:(xs++[x]).all (szB 1)=true):R39 [.slice false [] [.slice nl [] xs,.slice false [] [x]]]=some (.slice false [] (xs++[x])):=
 AH (Qa rfl) (cat_wp (P:=Qb) (f:=39) (by omega) rfl (by simp[Ec]) (Qa rfl) (by simp) (by simp;omega) hs λt m hgr=>⟨rfl,rfl⟩)
theorem fn40':Fn Qb 40 36 (Fz 9 4 1 1 100) [.t 2]:=⟨f40,_,func40,rfl,by kernel_rfl,rfl,by kernel_rfl,by kernel_rfl⟩
def S40:Summs:=AF [(100,Df 4)]
def R40:List D->Option D:=RF S40 (Fz 9 4 1 1 100) [.t 2] 36
theorem ko40:(Ac R40).ok Qb 40:=AJ fn40' (Ab ko100 Ad)
theorem R40_eq{nl:Bool}{xs:List D}{x:D}(hl:xs.length<=1000)(hs:(xs++[x]).all (szB 1)=true):R40 [.slice false [] [.slice nl [] xs,.slice false [] [x]]]=some (.slice false [] (xs++[x])):=
 AH (Qa rfl) (cat_wp (P:=Qb) (f:=40) (by omega) rfl (by simp[Ec]) (Qa rfl) (by simp) (by simp;omega) hs λt m hgr=>⟨rfl,rfl⟩)
theorem fn41':Fn Qb 41 36 (Fz 9 28 1 24 101) [.t 2]:=⟨f41,_,func41,rfl,by kernel_rfl,rfl,by kernel_rfl,by kernel_rfl⟩
def S41:Summs:=AF [(101,Df 28)]
def R41:List D->Option D:=RF S41 (Fz 9 28 1 24 101) [.t 2] 36
theorem ko41:(Ac R41).ok Qb 41:=AJ fn41' (Ab ko101 Ad)
theorem R41_eq{nl:Bool}{xs:List D}{x:D}(hl:xs.length<=1000)(hs:(xs++[x]).all (szB 1)=true):R41 [.slice false [] [.slice nl [] xs,.slice false [] [x]]]=some (.slice false [] (xs++[x])):=
 AH (Qa rfl) (cat_wp (P:=Qb) (f:=41) (by omega) rfl (by simp[Ec]) (Qa rfl) (by simp) (by simp;omega) hs λt m hgr=>⟨rfl,rfl⟩)
def AB(l:List Bs):List D:=l.map .str
theorem strsD_hd(l:List Bs):D.headSz (AB l) 1=1:=by cases l<;>rfl
theorem A0(l:List Bs):(AB l).length=l.length:=Qh ..
theorem DI{l:List Bs}{j:Nat}(h:j<l.length):(AB l)[j]?=some (.str l[j]):=by simp[AB,Qg h]
structure Kn where
 es:List (Bs×Bs×Bool)
 ls:List (Bs×Bool×List Bs)
def lsD(x:Bs×Bool×List Bs):D:= .slice x.2.1 [] (AB x.2.2)
def kwC(k:Kn):List D:=[.slice k.es.isEmpty [] (k.es.map λx=> .str x.1),.slice k.es.isEmpty [] (k.es.map λx=> .str x.2.1),.slice k.es.isEmpty [] (k.es.map λx=> .bool x.2.2),.slice k.ls.isEmpty [] (k.ls.map λx=> .str x.1),.slice k.ls.isEmpty [] (k.ls.map lsD)]
theorem all1{α:Type}{f:α->D}(h:∀x,szB 1 (f x)=true)(l:List α)(y:α):(l.map f++[f y]).all (szB 1)=true:=by
 rw[QE];intro x hx;rcases List.mem_append.1 hx with hx|hx
 ·obtain⟨z,_,rfl⟩:=QL.1 hx;exact h z
 ·rw[List.mem_singleton.1 hx];exact h y
theorem appE{α:Type}(l:List α)(x:α):(l++[x]).isEmpty=false:=by cases l<;>rfl
def S42:Summs:=AF []
def R42:List D->Option D:=RF S42 dc42 [.t 2] 8
theorem ko42:(Ac R42).ok Qb 42:=AJ fn42 Ad
theorem R42_eq{nl:Bool}{l:List Bs}(hl:l.length<=100000)(hn:nl=true->l=[]):R42 [.slice nl [] (AB l)]=some (.slice nl [] (AB l)):=by
 refine AH (Qa rfl) ?_;unfold dc42;cases nl with
 |true=>
  rw[hn rfl];simp only[↓go1,go2,go3,go5,reduceIte,simprocAttr]
  all_goals (first|rfl|exact⟨rfl,rfl⟩|(simp[*];done))
 |false=>
  simp only[↓go1,go2,go4,go5,reduceIte,simprocAttr];refine An.intro ⟨by rw[A0];omega,strsD_hd l,.inr ⟨rfl,by simp⟩⟩ ?_;simp only[↓go1,gB3,go5,reduceIte,simprocAttr]
def S12:Summs:=AF [(39,Ac R39),(40,Ac R40)]
def R12:List D->Option D:=RF S12 dc12 [.cell (some 5) 8] 31
theorem ko12:(Ac R12).ok Qb 12:=AJ fn12 (Ab ko39 (Ab ko40 Ad))
theorem R12_eq(k:Kn)(key text:Bs)(there:Bool)(hl:k.es.length<=1000):R12 [.agg (kwC k),.str key,.str text,.bool there]=some (.agg (kwC {k with es:=k.es++[(key,text,there)]})):=by
 refine AH (Qa rfl) ?_;have s39:S12 39=some (Ac R39):=rfl;have s40:S12 40=some (Ac R40):=rfl;unfold dc12;have h1:=R39_eq (nl:=k.es.isEmpty) (xs:=k.es.map λx=> .str x.1) (x:= .str key) (by simpa using hl) (all1 (f:=λx:Bs×Bs×Bool=> .str x.1) (λ_=>rfl) k.es (key,text,there));have h2:=R39_eq (nl:=k.es.isEmpty) (xs:=k.es.map λx=> .str x.2.1) (x:= .str text) (by simpa using hl) (all1 (f:=λx:Bs×Bs×Bool=> .str x.2.1) (λ_=>rfl) k.es (key,text,there));have h3:=R40_eq (nl:=k.es.isEmpty) (xs:=k.es.map λx=> .bool x.2.2) (x:= .bool there) (by simpa using hl) (all1 (f:=λx:Bs×Bs×Bool=> .bool x.2.2) (λ_=>rfl) k.es (key,text,there));unfold kwC;simp only[QV,QU,Zb,appE];simp only[gB1,↓go1,go5,reduceIte,simprocAttr,Aa s39,h1,h2,Aa s40,h3]
 all_goals (first|rfl|exact⟨rfl,rfl⟩|(simp[*];done))
def S13:Summs:=AF [(39,Ac R39),(41,Ac R41),(42,Ac R42)]
def R13:List D->Option D:=RF S13 dc13 [.cell (some 5) 6] 23
theorem ko13:(Ac R13).ok Qb 13:=AJ fn13 (Ab ko39 (Ab ko41 (Ab ko42 Ad)))
theorem R13_eq(k:Kn)(p:Bs)(nl:Bool)(l:List Bs)(hl:k.ls.length<=1000)(hl2:l.length<=100000)(hn:nl=true->l=[]):R13 [.agg (kwC k),.str p,.slice nl [] (AB l)]=some (.agg (kwC {k with ls:=k.ls++[(p,nl,l)]})):=by
 refine AH (Qa rfl) ?_;have s39:S13 39=some (Ac R39):=rfl;have s41:S13 41=some (Ac R41):=rfl;have s42:S13 42=some (Ac R42):=rfl;unfold dc13;have h1:=R39_eq (nl:=k.ls.isEmpty) (xs:=k.ls.map λx=> .str x.1) (x:= .str p) (by simpa using hl) (all1 (f:=λx:Bs×Bool×List Bs=> .str x.1) (λ_=>rfl) k.ls (p,nl,l));have h2:=R42_eq (nl:=nl) (l:=l) hl2 hn;have h3:=R41_eq (nl:=k.ls.isEmpty) (xs:=k.ls.map lsD) (x:=lsD (p,nl,l)) (by simpa using hl) (all1 (f:=lsD) (λ_=>rfl) k.ls (p,nl,l));have e1:lsD (p,nl,l)= .slice nl [] (AB l):=rfl;rw[e1]at h3;unfold kwC;simp only[QV,QU,Zb,appE,e1];simp only[gB1,↓go1,go5,reduceIte,simprocAttr,Aa s39,h1,Aa s42,h2,Aa s41,h3]
 (refine An.intro (Aj ?_) ?_;(first|rfl|(simp[Ax,Aq,rds,Ae];done)|(simp[Ax,Aq,rds,Ae,Ac];done)))
 simp only[gB1,↓go1,go5,reduceIte,simprocAttr]
 all_goals (first|rfl|exact⟨rfl,rfl⟩|(simp[*];done))
def BD:List Bs->Bs->Int
 |[],_=>-1
 |x::r,s=>if 0<=BD r s then BD r s+1 else if x=s then 0 else-1
theorem Et:∀(l:List Bs)(s:Bs),-1<=BD l s∧BD l s<l.length
 |[],s=>by simp[BD]
 |x::r,s=>by
  have:=Et r s;unfold BD;simp only[Qj];split
  ·omega
  ·split<;>omega
theorem lastI_no:∀{l:List Bs} {s:Bs},(∀i (h:i<l.length),l[i]≠s)->BD l s=-1
 |[],s,_=>rfl
 |x::r,s,h=>by
  have ih:=lastI_no (l:=r) (s:=s) (λi hi=>h (i+1) (by simpa using hi));have h0:x≠s:=h 0 (by simp);simp[BD,ih,h0]
theorem lastI_at:∀{l:List Bs} {s:Bs} {j:Nat} (hj:j<l.length),l[j]=s->(∀i (h:i<l.length),j<i->l[i]≠s)->BD l s=j
 |x::r,s,0,hj,hx,h=>by
  have ih:=lastI_no (l:=r) (s:=s) (λi hi=>h (i+1) (by simpa using hi) (by omega));have h0:x=s:=hx;simp[BD,ih,h0]
 |x::r,s,j+1,hj,hx,h=>by
  have ih:=lastI_at (l:=r) (s:=s) (j:=j) (by simpa using hj) (by simpa using hx) (λi hi hji=>h (i+1) (by simpa using hi) (by omega));unfold BD;rw[if_pos (by omega),ih];omega
def S237:Summs:=AF []
def R237:List D->Option D:=RF S237 dc237 [.t 4] 20
theorem ko237:(Ac R237).ok Qb 237:=AJ fn237 Ad
theorem R237_eq{nl:Bool}{l:List Bs}(q:Bs)(hl:l.length<=1000):R237 [.slice nl [] (AB l),.str q]=some (.int .i64 (BD l q)):=by
 refine AH (Qa rfl) ?_;unfold dc237;have hw0:IntKind.i64.wrap ((l.length:Int)-1)=(l.length:Int)-1:=w64 (by omega) (by omega);simp only[↓go1,go2,reduceIte,simprocAttr,A0,hw0];refine Bm (n:=l.length) (I:=λj st=>st.s 0= .slice nl [] (AB l)∧st.s 1= .str q∧st.s 5= .int .i64 ((l.length:Int)-1-j)∧∀i (h:i<l.length),l.length<=i+j->l[i]≠q) (λj hj ih st g hI=>?_) (λst g hI=>?_) 0 (Qn _) _ _ ⟨rfl,rfl,by rw[show((0:Nat):Int)=0 from rfl,Int.sub_zero];rfl,λi h h2=>by omega⟩
 ·obtain⟨st_s,st_m,st_c⟩:=st;obtain⟨h0,h1,h5,hall⟩:=hI;simp only at h0 h1 h5;refine Af dc237l0.eq_1 ?_;have hge:(0:Int)<=(l.length:Int)-1-j:=by omega
  have hw:IntKind.i64.wrap ((l.length:Int)-1-j-1)=(l.length:Int)-1-((j+1:Nat):Int):=by rw[w64 (by omega) (by omega)];omega
  have hi:((l.length:Int)-1-j).toNat=l.length-1-j:=by omega
  have hat:=DI (l:=l) (j:=l.length-1-j) (by omega);by_cases hx:l[l.length-1-j]'(by omega)=q
  ·have e:=lastI_at (by omega) hx (λi h h2=>hall i h (by omega));have hx':=eq_true hx;have e2:((l.length-1-j:Nat):Int)=(l.length:Int)-1-j:=by omega
   simp only[↓go1,gB3,go5,reduceIte,simprocAttr,h0,h1,h5,hge,hi,hat,hx'];rw[e,e2]
   all_goals (first|rfl|exact⟨rfl,rfl⟩|(simp[*];done))
  ·have hx':=eq_false hx;simp only[↓go1,gB3,go5,reduceIte,simprocAttr,h0,h1,h5,hge,hi,hat,hx',hw];refine ih _ _ ⟨h0,h1,rfl,λi h h2=>?_⟩;by_cases hj2:l.length<=i+j
   ·exact hall i h hj2
   ·have:i=l.length-1-j:=by omega
    subst this;exact hx
 ·obtain⟨h0,h1,h5,hall⟩:=hI;refine Af dc237l0.eq_1 ?_;have hge:¬(0:Int)<=(l.length:Int)-1-(l.length:Int):=by omega
  have e:=lastI_no (l:=l) (s:=q) (λi h=>hall i h (by omega));simp only[↓go1,gB3,go5,reduceIte,simprocAttr,h5,hge];rw[e]
  all_goals (first|rfl|exact⟨rfl,rfl⟩|(simp[*];done))
def EQ(k:Kn):List Bs:=k.es.map (·.1)
def CG(k:Kn)(q:Bs):Bs×Bool×Bool:=if BD (EQ k) q<0 then([],false,false)else((k.es.getD (BD (EQ k) q).toNat ([],[],false)).2.1,(k.es.getD (BD (EQ k) q).toNat ([],[],false)).2.2,true)
def EB(k:Kn)(q:Bs):Bool×List Bs×Bool:=if BD (k.ls.map (·.1)) q<0 then(true,[],false)else((k.ls.getD (BD (k.ls.map (·.1)) q).toNat ([],true,[])).2.1,(k.ls.getD (BD (k.ls.map (·.1)) q).toNat ([],true,[])).2.2,true)
def S137:Summs:=AF [(237,Ac R237)]
def Ez:List D->Option D:=RF S137 dc137 [.t 4,.t 5,.t 6] 37
theorem ko137:(Ac Ez).ok Qb 137:=AJ fn137 (Ab ko237 Ad)
theorem R137_eq(k:Kn)(q:Bs)(hl:k.es.length<=1000):Ez [.agg (kwC k),.str q]=some (.tup [.str (CG k q).1,.bool (CG k q).2.1,.bool (CG k q).2.2]):=by
 refine AH (Qa rfl) ?_;have s237:S137 237=some (Ac R237):=rfl;unfold dc137;have h237:R237 [.slice k.es.isEmpty [] (k.es.map λx=> .str x.1),.str q]=some (.int .i64 (BD (EQ k) q)):=by
  have e:=R237_eq (nl:=k.es.isEmpty) (l:=EQ k) q (by simpa[EQ]using hl);simpa[AB,EQ,Function.comp_def]using e
 have hb:=Et (EQ k) q;have hkl:(EQ k).length=k.es.length:=Qh ..;rw[hkl]at hb;unfold CG kwC;generalize BD (EQ k) q=i at *;by_cases c:i<0
 ·simp only[↓go1,gB3,go5,reduceIte,simprocAttr,Aa s237,h237,c]
  all_goals (first|rfl|exact⟨rfl,rfl⟩|(simp[*];done))
 ·have hi:i.toNat<k.es.length:=by omega
  have c0:(0:Int)<=i:=by omega
  have c1:(i<(k.es.length:Int))=True:=eq_true (by omega);have g1:(k.es.map λx=>D.str x.2.1)[i.toNat]?=some (.str (k.es.getD i.toNat ([],[],false)).2.1):=by simp[Qg hi]
  have g2:(k.es.map λx=>D.bool x.2.2)[i.toNat]?=some (.bool (k.es.getD i.toNat ([],[],false)).2.2):=by simp[Qg hi]
  generalize k.es.getD i.toNat ([],[],false)=x at *;simp only[↓go1,gB3,go5,reduceIte,simprocAttr,Aa s237,h237,c,c0,c1,g1,g2,Qh]
  (refine An.intro (Aj ?_) ?_;(first|rfl|(simp[Ax,Aq,rds,Ae];done)|(simp[Ax,Aq,rds,Ae,Ac];done)))
  simp only[↓go1,gB3,go5,reduceIte,simprocAttr]
  all_goals (first|rfl|exact⟨rfl,rfl⟩|(simp[*];done))
def S132:Summs:=AF [(237,Ac R237)]
def R132:List D->Option D:=RF S132 dc132 [.t 4,.t 5] 27
theorem ko132:(Ac R132).ok Qb 132:=AJ fn132 (Ab ko237 Ad)
theorem R132_eq(k:Kn)(q:Bs)(hl:k.ls.length<=1000):R132 [.agg (kwC k),.str q]=some (.tup [.slice (EB k q).1 [] (AB (EB k q).2.1),.bool (EB k q).2.2]):=by
 refine AH (Qa rfl) ?_;have s237:S132 237=some (Ac R237):=rfl;unfold dc132;have h237:R237 [.slice k.ls.isEmpty [] (k.ls.map λx=> .str x.1),.str q]=some (.int .i64 (BD (k.ls.map (·.1)) q)):=by
  have e:=R237_eq (nl:=k.ls.isEmpty) (l:=k.ls.map (·.1)) q (by simpa using hl);simpa[AB,Function.comp_def]using e
 have hb:=Et (k.ls.map (·.1)) q;have hkl:(k.ls.map (·.1)).length=k.ls.length:=Qh ..;rw[hkl]at hb;unfold EB kwC;generalize BD (k.ls.map (·.1)) q=i at *;by_cases c:i<0
 ·have c0:¬(0:Int)<=i:=by omega
  simp only[↓go1,gB3,go5,reduceIte,simprocAttr,Aa s237,h237,c,c0]
  all_goals (first|rfl|exact⟨rfl,rfl⟩|(simp[*];done))
 ·have hi:i.toNat<k.ls.length:=by omega
  have c0:(0:Int)<=i:=by omega
  have c1:((k.ls.length:Int)<=i)=False:=eq_false (by omega);have g1:(k.ls.map lsD)[i.toNat]?=some (.slice (k.ls.getD i.toNat ([],true,[])).2.1 [] (AB (k.ls.getD i.toNat ([],true,[])).2.2)):=by simp[Qg hi,lsD]
  generalize k.ls.getD i.toNat ([],true,[])=x at *;simp only[↓go1,gB3,go5,reduceIte,simprocAttr,Aa s237,h237,c,c0,c1,g1,Qh]
  all_goals (first|rfl|exact⟨rfl,rfl⟩|(simp[*];done))
structure Dk where
 n1:Bool
 its:List (Bs×Bs×Bool)
 n2:Bool
 lss:List (Bs×Bool×List Bs)
def itD(x:Bs×Bs×Bool):D:= .agg [.str x.1,.str x.2.1,.bool x.2.2]
def ltD(x:Bs×Bool×List Bs):D:= .agg [.str x.1,.slice x.2.1 [] (AB x.2.2)]
def dkC(k:Dk):List D:=[.slice k.n1 [] (k.its.map itD),.slice k.n2 [] (k.lss.map ltD)]
def bigI(x:Bs×Bs×Bool):Bool:=decide (200<x.1.length)||decide (200<x.2.1.length)
def bigL(x:Bs×Bool×List Bs):Bool:=decide (100<x.2.2.length)||decide (200<x.1.length)||x.2.2.any λs=>decide (200<s.length)
def muchB(k:Dk):Bool:=decide (12<k.its.length)||decide (4<k.lss.length)||k.its.any bigI||k.lss.any bigL
theorem any_at{α:Type}{l:List α}{p:α->Bool}{j:Nat}(hj:j<l.length)(h:p l[j]=true):l.any p=true:=List.any_eq_true.2 ⟨_,Q5 hj,h⟩
theorem any_no{α:Type}{l:List α}{p:α->Bool}(h:∀i (hi:i<l.length),p l[i]=false):l.any p=false:=by
 rw[List.any_eq_false];intro x hx;obtain⟨i,hi,rfl⟩:=QY hx;simp[h i hi]
def S9:Summs:=AF []
def R9:List D->Option D:=RF S9 dc9 [.t 2] 88
theorem ko9:(Ac R9).ok Qb 9:=AJ fn9 Ad
theorem R9_eq(k:Dk):R9 [.agg (dkC k)]=some (.bool (muchB k)):=by
 refine AH (Qa rfl) ?_;unfold dc9;unfold muchB dkC;by_cases c1:12<k.its.length
 ·have c1':((12:Int)<(k.its.length:Int))=True:=eq_true (by omega);simp only[↓go1,gB3,go5,reduceIte,simprocAttr,c1',Qh];simp[c1]
 have c1':((12:Int)<(k.its.length:Int))=False:=eq_false (by omega);by_cases c2:4<k.lss.length
 ·have c2':((4:Int)<(k.lss.length:Int))=True:=eq_true (by omega);simp only[↓go1,gB3,go5,reduceIte,simprocAttr,c1',c2',Qh];simp[c1,c2]
 have c2':((4:Int)<(k.lss.length:Int))=False:=eq_false (by omega);simp only[decide_eq_false c1,decide_eq_false c2,Q1];simp only[↓go1,gB3,go5,reduceIte,simprocAttr,c1',c2',Qh];refine Bm (n:=k.its.length) (I:=λj st=>st.s 1= .ptr [0] 0∧st.s 3= .int .i64 (j:Int)∧(∀i (hi:i<k.its.length),i<j->bigI k.its[i]=false)∧st.m=_) (λj hj ih st g hI=>?_) (λst g hI=>?_) 0 (Qn _) _ _ ⟨rfl,rfl,λi hi h=>absurd h (QH _),rfl⟩
 ·obtain⟨st_s,st_m,st_c⟩:=st;obtain⟨h1,h3,hall,hm⟩:=hI;simp only at h1 h3 hm;subst hm;refine Af dc9l0.eq_1 ?_;have hlt:((j:Int)<k.its.length):=by omega
  have hj0:(0:Int)<=(j:Int):=by omega
  have hw:IntKind.i64.wrap ((j:Int)+1)=((j+1:Nat):Int):=w64 (by omega) (by omega);have hat:(k.its.map itD)[j]?=some (.agg [.str k.its[j].1,.str k.its[j].2.1,.bool k.its[j].2.2]):=by simp[Qg hj,itD]
  by_cases d1:200<k.its[j].1.length
  ·have d1':((200:Int)<(k.its[j].1.length:Int))=True:=eq_true (by omega);have e:k.its.any bigI=true:=any_at hj (by simp[bigI,d1]);rw[e];simp only[↓go1,gB3,go5,reduceIte,simprocAttr,h1,h3,hlt,hj0,Qc,hat,d1',Qh]
   all_goals (first|rfl|exact⟨rfl,rfl⟩|(simp[*];done))
  ·have d1':((200:Int)<(k.its[j].1.length:Int))=False:=eq_false (by omega);by_cases d2:200<k.its[j].2.1.length
   ·have d2':((200:Int)<(k.its[j].2.1.length:Int))=True:=eq_true (by omega);have e:k.its.any bigI=true:=any_at hj (by simp[bigI,d2]);rw[e];simp only[↓go1,gB3,go5,reduceIte,simprocAttr,h1,h3,hlt,hj0,Qc,hat,d1',d2',Qh]
    all_goals (first|rfl|exact⟨rfl,rfl⟩|(simp[*];done))
   ·have d2':((200:Int)<(k.its[j].2.1.length:Int))=False:=eq_false (by omega);simp only[↓go1,gB3,go5,reduceIte,simprocAttr,h1,h3,hlt,hj0,Qc,hat,d1',d2',hw,Qh];refine ih _ _ ⟨h1,rfl,λi hi h=>?_,rfl⟩;rcases Qz (QD h)with h|rfl
    ·exact hall i hi h
    ·simp[bigI,d1,d2]
 ·obtain⟨st_s,st_m,st_c⟩:=st;obtain⟨h1,h3,hall,hm⟩:=hI;simp only at h1 h3 hm;subst hm;refine Af dc9l0.eq_1 ?_;rw[any_no (λi hi=>hall i hi hi),Q1];simp only[↓go1,gB3,go5,reduceIte,simprocAttr,h1,h3,Ql,Qh];refine Bm (n:=k.lss.length) (I:=λj st=>st.s 1= .ptr [0] 0∧st.s 4= .int .i64 (j:Int)∧(∀i (hi:i<k.lss.length),i<j->bigL k.lss[i]=false)∧st.m=_) (λj hj ih st g hI=>?_) (λst g hI=>?_) 0 (Qn _) _ _ ⟨h1,rfl,λi hi h=>absurd h (QH _),rfl⟩
  ·obtain⟨st_s,st_m,st_c⟩:=st;obtain⟨h1,h3,hall,hm⟩:=hI;simp only at h1 h3 hm;subst hm;refine Af dc9l2.eq_1 ?_;have hlt:((j:Int)<k.lss.length):=by omega
   have hj0:(0:Int)<=(j:Int):=by omega
   have hw:IntKind.i64.wrap ((j:Int)+1)=((j+1:Nat):Int):=w64 (by omega) (by omega);have hat:(k.lss.map ltD)[j]?=some (.agg [.str k.lss[j].1,.slice k.lss[j].2.1 [] (AB k.lss[j].2.2)]):=by simp[Qg hj,ltD]
   by_cases d1:100<k.lss[j].2.2.length
   ·have d1':((100:Int)<(k.lss[j].2.2.length:Int))=True:=eq_true (by omega);have e:k.lss.any bigL=true:=any_at hj (by simp[bigL,d1]);rw[e];simp only[↓go1,gB3,go5,reduceIte,simprocAttr,h1,h3,hlt,hj0,Qc,hat,d1',Qh,A0]
    all_goals (first|rfl|exact⟨rfl,rfl⟩|(simp[*];done))
   ·have d1':((100:Int)<(k.lss[j].2.2.length:Int))=False:=eq_false (by omega);by_cases d2:200<k.lss[j].1.length
    ·have d2':((200:Int)<(k.lss[j].1.length:Int))=True:=eq_true (by omega);have e:k.lss.any bigL=true:=any_at hj (by simp[bigL,d2]);rw[e];simp only[↓go1,gB3,go5,reduceIte,simprocAttr,h1,h3,hlt,hj0,Qc,hat,d1',d2',Qh,A0]
     all_goals (first|rfl|exact⟨rfl,rfl⟩|(simp[*];done))
    ·have d2':((200:Int)<(k.lss[j].1.length:Int))=False:=eq_false (by omega);simp only[↓go1,gB3,go5,reduceIte,simprocAttr,h1,h3,hlt,hj0,Qc,hat,d1',d2',Qh,A0];refine Bm (n:=k.lss[j].2.2.length) (I:=λq st=>st.s 1= .ptr [0] 0∧st.s 4= .int .i64 (j:Int)∧st.s 5= .int .i64 (q:Int)∧(∀i (hi:i<k.lss[j].2.2.length),i<q->k.lss[j].2.2[i].length<=200)∧st.m=_) (λq hq ih2 st g hI=>?_) (λst g hI=>?_) 0 (Qn _) _ _ ⟨h1,h3,rfl,λi hi h=>absurd h (QH _),rfl⟩
     ·obtain⟨st_s,st_m,st_c⟩:=st;obtain⟨h1,h3,h5,hall2,hm⟩:=hI;simp only at h1 h3 h5 hm;subst hm;refine Af dc9l1.eq_1 ?_;have hlq:((q:Int)<k.lss[j].2.2.length):=by omega
      have hq0:(0:Int)<=(q:Int):=by omega
      have hwq:IntKind.i64.wrap ((q:Int)+1)=((q+1:Nat):Int):=w64 (by omega) (by omega);have haq:=DI hq;by_cases d3:200<k.lss[j].2.2[q].length
      ·have d3':((200:Int)<(k.lss[j].2.2[q].length:Int))=True:=eq_true (by omega);have e:k.lss.any bigL=true:=any_at hj (by
        have:k.lss[j].2.2.any (λs=>decide (200<s.length))=true:=any_at hq (by simp[d3]);simp only[bigL,this,Bool.or_true])
       rw[e];simp only[↓go1,gB3,go5,reduceIte,simprocAttr,h1,h3,h5,hj0,hlq,hq0,Qc,hat,haq,d3',A0]
       all_goals (first|rfl|exact⟨rfl,rfl⟩|(simp[*];done))
      ·have d3':((200:Int)<(k.lss[j].2.2[q].length:Int))=False:=eq_false (by omega);simp only[↓go1,gB3,go5,reduceIte,simprocAttr,h1,h3,h5,hj0,hlq,hq0,Qc,hat,haq,d3',hwq,A0];refine ih2 _ _ ⟨h1,h3,rfl,λi hi h=>?_,rfl⟩;rcases Qz (QD h)with h|rfl
       ·exact hall2 i hi h
       ·omega
     ·obtain⟨st_s,st_m,st_c⟩:=st;obtain⟨h1,h3,h5,hall2,hm⟩:=hI;simp only at h1 h3 h5 hm;subst hm;refine Af dc9l1.eq_1 ?_;simp only[↓go1,gB3,go5,reduceIte,simprocAttr,h1,h3,h5,hj0,Ql,Qc,hat,hw,A0];refine ih _ _ ⟨h1,rfl,λi hi h=>?_,rfl⟩;rcases Qz (QD h)with h|rfl
      ·exact hall i hi h
      ·have:k.lss[i].2.2.any (λs=>decide (200<s.length))=false:=any_no (λp hp=>by have:=hall2 p hp hp;simp;omega);simp only[bigL,this,decide_eq_false d1,decide_eq_false d2,Q9]
  ·obtain⟨st_s,st_m,st_c⟩:=st;obtain⟨h1,h3,hall,hm⟩:=hI;simp only at h1 h3 hm;subst hm;refine Af dc9l2.eq_1 ?_;rw[any_no (λi hi=>hall i hi hi)];simp only[↓go1,gB3,go5,reduceIte,simprocAttr,h1,h3,Ql,Qh]
   all_goals (first|rfl|exact⟨rfl,rfl⟩|(simp[*];done))
theorem find_at{α:Type}:∀{l:List α} {p:α->Bool} {j:Nat} (hj:j<l.length),p l[j]=true->(∀i (h:i<l.length),i<j->p l[i]=false)->l.find? p=some l[j]
 |x::r,p,0,_,hx,_=>by simpa[List.find?]using by simp[show p x=true from hx]
 |x::r,p,j+1,hj,hx,h=>by
  have h0:p x=false:=h 0 (by simp) (by omega);have ih:=find_at (l:=r) (p:=p) (j:=j) (by simpa using hj) (by simpa using hx) (λi hi hij=>h (i+1) (by simpa using hi) (by omega));simp only[List.find?_cons,h0,ih,List.getElem_cons_succ]
theorem find_no{α:Type}{l:List α}{p:α->Bool}(h:∀i (hi:i<l.length),p l[i]=false):l.find? p=none:=by
 rw[List.find?_eq_none];intro x hx;obtain⟨i,hi,rfl⟩:=QY hx;simp[h i hi]
def Bj(k:Kn)(q:Bs)(li:Bool)(d:Dk):Kn:=
 if li=true then {k with ls:=k.ls++[(q,((d.lss.find? λx=>decide (x.1=q)).getD ([],true,[])).2)]}else {k with es:=k.es++[(q,((d.its.find? λx=>decide (x.1=q)).getD ([],[],false)).2)]}
structure DkOk (d:Dk):Prop where
 l1:d.its.length<=1000
 l2:d.lss.length<=1000
 ls:∀x∈d.lss,x.2.2.length<=1000∧(x.2.1=true->x.2.2=[])
def S21:Summs:=AF [(12,Ac R12),(13,Ac R13)]
def R21:List D->Option D:=RF S21 dc21 [.cell (some 5) 6] 77
theorem ko21:(Ac R21).ok Qb 21:=AJ fn21 (Ab ko12 (Ab ko13 Ad))
theorem R21_eq(k:Kn)(q:Bs)(li:Bool)(d:Dk)(r2 r3 r4 r5 r6 r7 r8:D)(hk:k.es.length<=900)(hk2:k.ls.length<=900)(hd:DkOk d):R21 [.agg (kwC k),.agg [.str q,.bool li,r2,r3,r4,r5,r6,r7,r8],.agg (dkC d)]=some (.agg (kwC (Bj k q li d))):=by
 refine AH (Qa rfl) ?_;have s12:S21 12=some (Ac R12):=rfl;have s13:S21 13=some (Ac R13):=rfl;unfold dc21;have h12:=λtext there=>R12_eq k q text there (by omega)
 have h13:=λnl (l:List Bs) (h1:l.length<=100000) (h2:nl=true->l=[])=>R13_eq k q nl l (by omega) h1 h2
 obtain⟨l1,l2,ls⟩:=hd;have e0:∀k:Kn,(kwC k).length=5:=λ_=>rfl
 unfold Bj;cases li with
 |true=>
  simp only[if_true];generalize hnk:(λnl (l:List Bs)=>kwC {k with ls:=k.ls++[(q,nl,l)]})=nk;have hnk':∀nl l,kwC {k with ls:=k.ls++[(q,nl,l)]}=nk nl l:=λnl l=>by rw[←hnk]
  have hnl:∀nl l,∃a b c d,∃e:List D×List D,nk nl l=[.slice a [] b,.slice a [] c,.slice a [] d,.slice false [] e.1,.slice false [] e.2]:=λnl l=>⟨_,_,_,_,(_,_),by rw[←hnk];(simp only[kwC,appE]<;>rfl)⟩
  simp only[hnk']at h13;rw[show kwC {k with ls:=k.ls++[(q,((d.lss.find? λx=>decide (x.1=q)).getD ([],true,[])).2)]}=nk ((d.lss.find? λx=>decide (x.1=q)).getD ([],true,[])).2.1 ((d.lss.find? λx=>decide (x.1=q)).getD ([],true,[])).2.2 from hnk' _ _];clear hnk hnk' h12;unfold kwC dkC at *;simp only[↓go1,gB3,go5,reduceIte,simprocAttr];refine Bm (n:=d.lss.length) (I:=λj st=>st.s 3= .ptr [0] 0∧st.s 4= .ptr [1] 0∧st.s 5= .ptr [2] 0∧st.s 6= .ptr [3] 0∧st.s 7= .int .i64 (j:Int)∧(∀i (hi:i<d.lss.length),i<j->decide (d.lss[i].1=q)=false)∧st.m=_) (λj hj ih st g hI=>?_) (λst g hI=>?_) 0 (Qn _) _ _ ⟨rfl,rfl,rfl,rfl,rfl,λi hi h=>absurd h (QH _),rfl⟩
  ·obtain⟨st_s,st_m,st_c⟩:=st;obtain⟨h3,h4,h5,h6,h7,hall,hm⟩:=hI;simp only at h3 h4 h5 h6 h7 hm;subst hm;refine Af dc21l0.eq_1 ?_;have hlt:((j:Int)<d.lss.length):=by omega
   have hj0:(0:Int)<=(j:Int):=by omega
   have hw:IntKind.i64.wrap ((j:Int)+1)=((j+1:Nat):Int):=w64 (by omega) (by omega);have hat:(d.lss.map ltD)[j]?=some (.agg [.str d.lss[j].1,.slice d.lss[j].2.1 [] (AB d.lss[j].2.2)]):=by simp[Qg hj,ltD]
   by_cases hx:d.lss[j].1=q
   ·have hx':=eq_true hx;have e:=find_at (p:=λx:Bs×Bool×List Bs=>decide (x.1=q)) hj (by simp[hx]) hall;have hmem:=ls _ (Q5 hj);rw[e];simp only[Option.getD_some];generalize d.lss[j]=x at *;have h13':=h13 x.2.1 x.2.2 (by omega) hmem.2;obtain⟨a,b,c,dd,ee,hshape⟩:=hnl x.2.1 x.2.2;rw[hshape]at h13' ⊢;simp only[↓go1,gB3,go5,reduceIte,simprocAttr,h4,h5,hlt,hj0,Qc,hat,Qh,h7,hx']
    (refine An.intro (Aj ?_) ?_;(first|rfl|(simp[Ax,Aq,rds,Ae];done)|(simp[Ax,Aq,rds,Ae,Ac];done)))
    simp only[gB1,↓go1,go5,reduceIte,simprocAttr,h3,h4,h5,h6,hj0,Qc,hat,h7,Aa s13,h13']
    (refine An.intro (Aj ?_) ?_;(first|rfl|(simp[Ax,Aq,rds,Ae];done)|(simp[Ax,Aq,rds,Ae,Ac];done)))
    simp only[gB1,↓go1,go5,reduceIte,simprocAttr,h6]
    all_goals (first|rfl|exact⟨rfl,rfl⟩|(simp[*];done))
   ·have hx':=eq_false hx;simp only[↓go1,gB3,go5,reduceIte,simprocAttr,h4,h5,hlt,hj0,Qc,hat,Qh,h7,hx']
    (refine An.intro (Aj ?_) ?_;(first|rfl|(simp[Ax,Aq,rds,Ae];done)|(simp[Ax,Aq,rds,Ae,Ac];done)))
    simp only[↓go1,go2,go5,reduceIte,simprocAttr,hw,h7];refine ih _ _ ⟨h3,h4,h5,h6,rfl,λi hi h=>?_,rfl⟩;rcases Qz (QD h)with h|rfl
    ·exact hall i hi h
    ·simp[hx]
  ·obtain⟨st_s,st_m,st_c⟩:=st;obtain⟨h3,h4,h5,h6,h7,hall,hm⟩:=hI;simp only at h3 h4 h5 h6 h7 hm;subst hm;refine Af dc21l0.eq_1 ?_;have e:=find_no (p:=λx:Bs×Bool×List Bs=>decide (x.1=q)) (λi hi=>hall i hi hi);rw[e];simp only[Option.getD_none];have h13':=h13 true [] (by simp) (by simp);obtain⟨a,b,c,dd,ee,hshape⟩:=hnl true [];rw[hshape]at h13' ⊢;have z:AB []=[]:=rfl;rw[z]at h13';simp only[gB1,↓go1,go5,reduceIte,simprocAttr,h3,h4,h5,h6,h7,Ql,Qh,Aa s13,h13']
   all_goals (first|rfl|exact⟨rfl,rfl⟩|(simp[*];done))
 |false=>
  simp only[Qm,if_false];generalize hnk:(λ(t:Bs)(b:Bool)=>kwC {k with es:=k.es++[(q,t,b)]})=nk;have hnk':∀t b,kwC {k with es:=k.es++[(q,t,b)]}=nk t b:=λnl l=>by rw[←hnk]
  have hnl:∀nl l,∃a b c d,∃e:List D×List D,nk nl l=[.slice false [] a,.slice false [] b,.slice false [] c,.slice d [] e.1,.slice d [] e.2]:=λnl l=>⟨_,_,_,_,(_,_),by rw[←hnk];(simp only[kwC,appE]<;>rfl)⟩
  simp only[hnk']at h12;rw[show kwC {k with es:=k.es++[(q,((d.its.find? λx=>decide (x.1=q)).getD ([],[],false)).2)]}=nk ((d.its.find? λx=>decide (x.1=q)).getD ([],[],false)).2.1 ((d.its.find? λx=>decide (x.1=q)).getD ([],[],false)).2.2 from hnk' _ _];clear hnk hnk' h13;unfold kwC dkC at *;simp only[↓go1,gB3,go5,reduceIte,simprocAttr];refine Bm (n:=d.its.length) (I:=λj st=>st.s 3= .ptr [0] 0∧st.s 4= .ptr [1] 0∧st.s 5= .ptr [2] 0∧st.s 6= .ptr [3] 0∧st.s 8= .int .i64 (j:Int)∧(∀i (hi:i<d.its.length),i<j->decide (d.its[i].1=q)=false)∧st.m=_) (λj hj ih st g hI=>?_) (λst g hI=>?_) 0 (Qn _) _ _ ⟨rfl,rfl,rfl,rfl,rfl,λi hi h=>absurd h (QH _),rfl⟩
  ·obtain⟨st_s,st_m,st_c⟩:=st;obtain⟨h3,h4,h5,h6,h7,hall,hm⟩:=hI;simp only at h3 h4 h5 h6 h7 hm;subst hm;refine Af dc21l1.eq_1 ?_;have hlt:((j:Int)<d.its.length):=by omega
   have hj0:(0:Int)<=(j:Int):=by omega
   have hw:IntKind.i64.wrap ((j:Int)+1)=((j+1:Nat):Int):=w64 (by omega) (by omega);have hat:(d.its.map itD)[j]?=some (.agg [.str d.its[j].1,.str d.its[j].2.1,.bool d.its[j].2.2]):=by simp[Qg hj,itD]
   by_cases hx:d.its[j].1=q
   ·have hx':=eq_true hx;have e:=find_at (p:=λx:Bs×Bs×Bool=>decide (x.1=q)) hj (by simp[hx]) hall;rw[e];simp only[Option.getD_some];generalize d.its[j]=x at *;have h12':=h12 x.2.1 x.2.2;obtain⟨a,b,c,dd,ee,hshape⟩:=hnl x.2.1 x.2.2;rw[hshape]at h12' ⊢;simp only[↓go1,gB3,go5,reduceIte,simprocAttr,h4,h5,hlt,hj0,Qc,hat,Qh,h7,hx']
    (refine An.intro (Aj ?_) ?_;(first|rfl|(simp[Ax,Aq,rds,Ae];done)|(simp[Ax,Aq,rds,Ae,Ac];done)))
    simp only[gB1,↓go1,go5,reduceIte,simprocAttr,h3,h4,h5,h6,hj0,Qc,hat,h7,Aa s12,h12']
    (refine An.intro (Aj ?_) ?_;(first|rfl|(simp[Ax,Aq,rds,Ae];done)|(simp[Ax,Aq,rds,Ae,Ac];done)))
    simp only[gB1,↓go1,go5,reduceIte,simprocAttr,h6]
    all_goals (first|rfl|exact⟨rfl,rfl⟩|(simp[*];done))
   ·have hx':=eq_false hx;simp only[↓go1,gB3,go5,reduceIte,simprocAttr,h4,h5,hlt,hj0,Qc,hat,Qh,h7,hx']
    (refine An.intro (Aj ?_) ?_;(first|rfl|(simp[Ax,Aq,rds,Ae];done)|(simp[Ax,Aq,rds,Ae,Ac];done)))
    simp only[↓go1,go2,go5,reduceIte,simprocAttr,hw,h7];refine ih _ _ ⟨h3,h4,h5,h6,rfl,λi hi h=>?_,rfl⟩;rcases Qz (QD h)with h|rfl
    ·exact hall i hi h
    ·simp[hx]
  ·obtain⟨st_s,st_m,st_c⟩:=st;obtain⟨h3,h4,h5,h6,h7,hall,hm⟩:=hI;simp only at h3 h4 h5 h6 h7 hm;subst hm;refine Af dc21l1.eq_1 ?_;have e:=find_no (p:=λx:Bs×Bs×Bool=>decide (x.1=q)) (λi hi=>hall i hi hi);rw[e];simp only[Option.getD_none];have h12':=h12 [] false;obtain⟨a,b,c,dd,ee,hshape⟩:=hnl [] false;rw[hshape]at h12' ⊢;simp only[gB1,↓go1,go5,reduceIte,simprocAttr,h3,h4,h5,h6,h7,Ql,Qh,Aa s12,h12']
   all_goals (first|rfl|exact⟨rfl,rfl⟩|(simp[*];done))
end Go.Vd
namespace Go.Vd
open Go.Proofs
def dc298:DC:=(sr [cb 4 false] (sr [mm 5 0,mm 6 1,cc 7 288 [(.t 5),(.t 6)],bi 8 .geq 7 0,mm 4 8] .ret))
theorem fn298:Fn Qb 298 9 dc298 [.t 4]:=Am func298
def dc194:DC:=(sr [cb 2 false] (sr [mm 3 0,oo 4 (.bin .neq (.t 3) (.c (.str []))),mm 5 4,og 6 (.mv (.t 0)) 2 true,og 7 (.bin .neq (.t 6) (.c (.str [45]))) 2 true,oo 8 (.pick (.t 5) (.t 7) (.c (.bool false))),mm 9 8,og 10 (.mv (.t 0)) 6 true,og 11 (.len true (.t 10)) 6 true,og 12 (.bin .leq (.t 11) (.c (.int .i64 64))) 6 true,oo 13 (.pick (.t 9) (.t 12) (.c (.bool false))),mm 14 13,og 15 (.mv (.t 0)) 11 true,og 16 (.call (.c (.fn 298 [])) [(.t 15),(.c (.str [32]))]) 11 true,og 17 (.un .not (.t 16)) 11 true,oo 18 (.pick (.t 14) (.t 17) (.c (.bool false))),mm 19 18,og 20 (.mv (.t 0)) 16 true,og 21 (.call (.c (.fn 298 [])) [(.t 20),(.c (.str [44]))]) 16 true,og 22 (.un .not (.t 21)) 16 true,oo 23 (.pick (.t 19) (.t 22) (.c (.bool false))),mm 2 23] .ret))
theorem fn194:Fn Qb 194 24 dc194 [.t 2]:=Am func194
def dc193:DC:=(sr [cb 2 false] (sr [mm 3 0,cc 4 194 [(.t 3)],oo 5 (.un .not (.t 4)),mm 2 5] .ret))
theorem fn193:Fn Qb 193 6 dc193 [.t 2]:=Am func193
def dc318:DC:=(sr [oo 1 (.box (.t 0)),oo 2 (.mv (.c (.str [])))] (sr [ff 4 0 1,ll 5 4,cc 6 316 [(.t 5)],mm 3 6] (.seq (sr [ff 7 1 1,ll 8 7] (cd 8 (.row [mm 9 3,oo 10 (.bin .add (.t 9) (.c (.str [33]))),mm 3 10]) .skip)) (.seq (sr [ff 11 2 1,ll 12 11] (cd 12 (.row [mm 13 3,oo 14 (.bin .add (.t 13) (.c (.str [35]))),mm 3 14]) .skip)) (sr [mm 15 3,mm 2 15] .ret)))))
theorem fn318:Fn Qb 318 16 dc318 [.t 2]:=Am func318
def dc319:DC:=(sr [oo 2 (.mv (.c (.str [])))] (.seq (sr [mm 3 0] (cd 3 (sr [oo 2 (.mv (.c (.str [49])))] .ret) .skip)) (sr [oo 2 (.mv (.c (.str [48])))] .ret)))
theorem fn319:Fn Qb 319 4 dc319 [.t 2]:=Am func319
def dc320:DC:=(sr [oo 2 (.mv (.c (.str [])))] (.seq (sr [mm 3 0,nn 4 false 3,bi 5 .eql 4 0] (cd 5 (sr [oo 2 (.mv (.c (.str [45])))] .ret) .skip)) (sr [mm 6 0,cc 7 221 [(.t 6),(.c (.str [44]))],mm 2 7] .ret)))
theorem fn320:Fn Qb 320 8 dc320 [.t 2]:=Am func320
end Go.Vd
namespace Go.Vd
open Go.Proofs Go.RowKit
def plV:D->Value
 | .str s=> .string ⟨s.toArray⟩
 | .int k n=> .int k n
 | .bool b=> .bool b
 |_=>undef
theorem rep_pl{w:World}{g:Gh}{d:D}{v:Value}(h:Rep w g d v)(hp:d.plain=true):v=plV d:=by
 cases h with
 |bool b=>rfl
 |int k n=>rfl
 |str s=>rfl
 |_=>cases hp
theorem pure_ok {P:Program} {f:FuncId} {F:List D→Option D} (ent:∃fn,P.funcs[f]?=some fn∧fn.body.isSome=true∧(fn.name== "runtime.NumGoroutine")=false)
  (h:∀ds r,F ds=some r->(∀d∈ds,d.plain=true)∧∃v,(∀w g,Rep w g r v)∧∀w:World,Calls P f (ds.map plV).toArray w λe w'=>e= .returned v∧Below w.heap.size w w'):(Ac F).ok P f:=by
 refine⟨ent,λds m m' fr _=>rfl,?_⟩;intro B w0 w m g fr ds vs r u hi hfresh hl hrep hex;simp only[Ac]at hex;split at hex
 ·rename_i hcalm;rw[Q6]at hex;obtain⟨r',hr,hex⟩:=hex;simp only[QM]at hex;obtain⟨rfl,rfl⟩:=hex;obtain⟨hp,v,hv,hc⟩:=h _ _ hr;have hvs:vs=(ds.map D.un).map plV:=by
   apply List.ext_getElem?;intro j;by_cases hj:j<vs.length
   ·have hj2:j<ds.length:=by omega
    have e:=(hrep j _ _ (Qg hj2) (Qg hj)).un;have hd:(ds.map D.un)[j]?=some ds[j].un:=by rw[List.getElem?_map,Qg hj2];rfl
    rw[Qg hj,List.getElem?_map,hd,rep_pl e (hp _ (List.mem_of_getElem? hd))];rfl
   ·rw[Q7 (by omega),Q7 (by simp;omega)]
  subst hvs;refine(hc w).mono ?_;rintro ev w' ⟨rfl,hb⟩;exact⟨_,g.over w w',rfl,hi.over hb,Ext.over hi.gz hb,hv _ _,λi hf _=>hf⟩
 ·cases hex
def IX:List D->Option D
 |[.str s,.str [c]]=>some (.int .i64 (Lib.indexByte s c))
 |_=>none
theorem ko288:(Ac IX).ok Qb 288:=pure_ok ⟨_,func288,by kernel_rfl,by kernel_rfl⟩ λds r h=>by
 unfold IX at h;split at h
 ·rename_i s c;simp only[Qe]at h;subst h;refine⟨λd hd=>?_,_,λw g=> .int _ _,λw=>?_⟩
  ·simp only[QI,QF,or_false]at hd;rcases hd with rfl|rfl<;>rfl
  ·refine(Go.Proofs.Any.strings_Index_one (P:=Qb) (ρ:=lays146_ren) {lays146 with} ⟨s.toArray⟩ c w).mono ?_;rintro e w' ⟨rfl,rfl⟩;exact⟨rfl,Below.refl _ _⟩
 ·cases h
theorem ko356:(Ac IX).ok Qb 356:=pure_ok ⟨_,func356,by kernel_rfl,by kernel_rfl⟩ λds r h=>by
 unfold IX at h;split at h
 ·rename_i s c;simp only[Qe]at h;subst h;refine⟨λd hd=>?_,_,λw g=> .int _ _,λw=>?_⟩
  ·simp only[QI,QF,or_false]at hd;rcases hd with rfl|rfl<;>rfl
  ·refine(Go.Proofs.Any.stringslite_Index_one (P:=Qb) (ρ:=lays146_ren) {lays146 with} ⟨s.toArray⟩ c w).mono ?_;rintro e w' ⟨rfl,rfl⟩;exact⟨rfl,Below.refl _ _⟩
 ·cases h
theorem ix_has:∀(s:Bs)(c:UInt8),decide (0<=Lib.indexByte s c)=s.any (·==c)
 |[],c=>rfl
 |b::l,c=>by
  have ih:=ix_has l c;unfold Lib.indexByte;cases hb:b==c with
  |true=>simp[hb]
  |false=>
   simp only[List.any_cons,hb,Q1,←ih];rw[if_neg Qu];cases h1:Lib.indexByte l c==-1 with
   |true=>rw[if_pos rfl];have:=beq_iff_eq.1 h1;rw[this]
   |false=>
    rw[if_neg Qu];have hne:Lib.indexByte l c≠-1:=by intro e;rw[e]at h1;simp at h1
    have hge:-1<=Lib.indexByte l c:=by
     clear ih hb h1 hne;induction l with
     |nil=>simp[Lib.indexByte]
     |cons x r ih=>unfold Lib.indexByte;split<;>first|omega|(split<;>omega)
    congr 1;exact propext (by omega)
def hasB1(s:Bs)(c:UInt8):Bool:=s.any (·==c)
def nmB(s:Bs):Bool:=decide (s≠[])&&(decide (s≠[45])&&(decide (s.length<=64)&&(!hasB1 s 32&&!hasB1 s 44)))
def S298:Summs:=AF [(288,Ac IX)]
def R298:List D->Option D:=RF S298 dc298 [.t 4] 9
theorem ko298:(Ac R298).ok Qb 298:=AJ fn298 (Ab ko288 Ad)
theorem R298_eq(s:Bs)(c:UInt8):R298 [.str s,.str [c]]=some (.bool (hasB1 s c)):=by
 refine AH (Qa rfl) ?_;have s288:S298 288=some (Ac IX):=rfl;unfold dc298;have h288:IX [.str s,.str [c]]=some (.int .i64 (Lib.indexByte s c)):=rfl;have e:=ix_has s c;simp only[↓go1,gB3,go5,reduceIte,simprocAttr,Aa s288,h288];rw[e]
 all_goals (first|rfl|exact⟨rfl,rfl⟩|(simp[*];done))
def S194:Summs:=AF [(298,Ac R298)]
def R194:List D->Option D:=RF S194 dc194 [.t 2] 24
theorem ko194:(Ac R194).ok Qb 194:=AJ fn194 (Ab ko298 Ad)
theorem R194_eq(s:Bs):R194 [.str s]=some (.bool (nmB s)):=by
 refine AH (Qa rfl) ?_;have s298:S194 298=some (Ac R298):=rfl;unfold dc194;have h298:=R298_eq s;unfold nmB;by_cases c1:s=[]
 ·have c1':=eq_true c1;simp only[↓go1,gB3,go5,reduceIte,simprocAttr,c1']
  all_goals (first|rfl|exact⟨rfl,rfl⟩|(simp[*];done))
 have c1':=eq_false c1;by_cases c2:s=[45]
 ·have c2':=eq_true c2;simp only[↓go1,gB3,go5,reduceIte,simprocAttr,c1',c2']
  all_goals (first|rfl|exact⟨rfl,rfl⟩|(simp[*];done))
 have c2':=eq_false c2;by_cases c3:s.length<=64
 ·have c3':((s.length:Int)<=64)=True:=eq_true (by omega);cases c4:hasB1 s 32 with
  |true=>
   simp only[↓go1,gB3,go5,reduceIte,simprocAttr,c1',c2',c3',c4,Aa s298,h298]
   all_goals (first|rfl|exact⟨rfl,rfl⟩|(simp[*];done))
  |false=>
   simp only[↓go1,gB3,go5,reduceIte,simprocAttr,c1',c2',c3',c4,Aa s298,h298]
   all_goals (first|rfl|exact⟨rfl,rfl⟩|(simp[*];done))
 ·have c3':((s.length:Int)<=64)=False:=eq_false (by omega);simp only[↓go1,gB3,go5,reduceIte,simprocAttr,c1',c2',c3']
  all_goals (first|rfl|exact⟨rfl,rfl⟩|(simp[*];done))
theorem clo193:(cloS λc x=>match x with| .str s=>some (.bool (!nmB s))|_=>none).ok Qb 193:=by
 obtain⟨S,hS,hl⟩:=A5 (Ab ko194 Ad);have s194:=hl 194 _ rfl;clear hl;refine clo_ok (S:=S) hS fn193 (λx caps m fr c d hcap hF hfr hl=>⟨by omega,?_⟩);split at hF
 ·rename_i s;simp only[Qe]at hF;subst hF;have h194:=R194_eq s;unfold dc193;simp only[↓go1,gB3,go5,reduceIte,simprocAttr,Aa s194,h194]
  try exact λi o y h=>h
 ·cases hF
def KN:D->D->Option D:=λc x=>match x with| .str s=>some (.bool (!nmB s))|_=>none
theorem idx297n:(EC 193 none KN).ok Qb 297:=idx_ok (by omega) fn297 rfl clo193
theorem cn192n:(cnS 193 none KN).ok Qb 192:=cn_ok (by omega) fn192 idx297n
theorem cn192n_ex{l:List Bs}{nl:Bool}{t:Id}(hl:l.length<=1000000)(m:Mem)(fr:Id):
  (cnS 193 none KN).ex [.slice nl t (AB l),.fn 193 []] m fr=some (.bool (l.any λs=>!nmB s),[]):=by
 have e:(AB l).map (KN .junk)=(l.map λs=>!nmB s).map λb=>some (.bool b):=by
  simp only[AB,QG];exact QX λr _=>rfl
 have hel:(AB l).all (elB none)=true:=by
  rw[QE];intro x hx;obtain⟨r,_,rfl⟩:=QL.1 hx;rfl
 simp only[cnS,A0,hl,hel,and_self,if_true,E7,Q2,e,C5,Qt];simp only[List.any_map];rfl
def S292:Summs:=AF []
def R292:List D->Option D:=RF S292 dc292 [.t 4] 26
theorem ko292:(Ac R292).ok Qb 292:=AJ fn292 Ad
theorem R292_eq{n1 n2:Bool}{l:List Bs}(hl:l.length<=100000):R292 [.slice n1 [] (AB l),.slice n2 [] (AB l)]=some (.bool true):=by
 refine AH (Qa rfl) ?_;unfold dc292;simp only[↓go1,go2,go4,go5,reduceIte,simprocAttr,A0];refine Bm (n:=l.length) (I:=λj st=>st.s 0= .slice n1 [] (AB l)∧st.s 1= .slice n2 [] (AB l)∧st.s 12= .int .i64 l.length∧st.s 13= .int .i64 (j:Int)) (λj hj ih st g hI=>?_) (λst g hI=>?_) 0 (Qn _) _ _ ⟨rfl,rfl,rfl,rfl⟩
 ·obtain⟨st_s,st_m,st_c⟩:=st;obtain⟨h0,h1,h12,h13⟩:=hI;simp only at h0 h1 h12 h13;refine Af dc292l0.eq_1 ?_;have hlt:((j:Int)<l.length):=by omega
  have hj0:(0:Int)<=(j:Int):=by omega
  have hw:IntKind.i64.wrap ((j:Int)+1)=((j+1:Nat):Int):=w64 (by omega) (by omega);have hat:=DI hj;simp only[↓go1,gB3,go5,reduceIte,simprocAttr,h0,h1,h12,h13,hlt,hj0,Qc,hat]
  (refine An.intro (Aj ?_) ?_;(first|rfl|(simp[Ax,Aq,rds,Ae];done)|(simp[Ax,Aq,rds,Ae,Ac];done)))
  simp only[↓go1,go2,go5,reduceIte,simprocAttr,h13,hw];exact ih _ _ ⟨h0,h1,h12,rfl⟩
 ·obtain⟨h0,h1,h12,h13⟩:=hI;refine Af dc292l0.eq_1 ?_;simp only[↓go1,gB3,go5,reduceIte,simprocAttr,h12,h13,Ql]
  all_goals (first|rfl|exact⟨rfl,rfl⟩|(simp[*];done))
def S359:Summs:=AF []
def R359:List D->Option D:=RF S359 dc359 [.t 4] 26
theorem ko359:(Ac R359).ok Qb 359:=AJ fn359 Ad
theorem R359_eq{n1 n2:Bool}{l:List Rw}(hl:l.length<=100000):R359 [.slice n1 [] (Ba l),.slice n2 [] (Ba l)]=some (.bool true):=by
 refine AH (Qa rfl) ?_;unfold dc359;simp only[↓go1,go2,go4,go5,reduceIte,simprocAttr,AS];refine Bm (n:=l.length) (I:=λj st=>st.s 0= .slice n1 [] (Ba l)∧st.s 1= .slice n2 [] (Ba l)∧st.s 12= .int .i64 l.length∧st.s 13= .int .i64 (j:Int)) (λj hj ih st g hI=>?_) (λst g hI=>?_) 0 (Qn _) _ _ ⟨rfl,rfl,rfl,rfl⟩
 ·obtain⟨st_s,st_m,st_c⟩:=st;obtain⟨h0,h1,h12,h13⟩:=hI;simp only at h0 h1 h12 h13;refine Af dc359l0.eq_1 ?_;have hlt:((j:Int)<l.length):=by omega
  have hj0:(0:Int)<=(j:Int):=by omega
  have hw:IntKind.i64.wrap ((j:Int)+1)=((j+1:Nat):Int):=w64 (by omega) (by omega);have hat:=EJ hj;have hle:Bi [.int .i64 l[j].1,.bool l[j].2.1,.bool l[j].2.2] [.int .i64 l[j].1,.bool l[j].2.1,.bool l[j].2.2] [(0,0),(1,1),(1,2)]=some true:=by simp[Bi,leafEq]
  simp only[Qt,↓go1,gB3,go5,reduceIte,simprocAttr,h0,h1,h12,h13,hlt,hj0,Qc,hat,hle]
  (refine An.intro (Aj ?_) ?_;(first|rfl|(simp[Ax,Aq,rds,Ae];done)|(simp[Ax,Aq,rds,Ae,Ac];done)))
  simp only[↓go1,go2,go5,reduceIte,simprocAttr,h13,hw];exact ih _ _ ⟨h0,h1,h12,rfl⟩
 ·obtain⟨h0,h1,h12,h13⟩:=hI;refine Af dc359l0.eq_1 ?_;simp only[↓go1,gB3,go5,reduceIte,simprocAttr,h12,h13,Ql]
  all_goals (first|rfl|exact⟨rfl,rfl⟩|(simp[*];done))
def S293:Summs:=AF [(359,Ac R359)]
def R293:List D->Option D:=RF S293 dc293 [.t 4] 31
theorem ko293:(Ac R293).ok Qb 293:=AJ fn293 (Ab ko359 Ad)
theorem R293_eq(s:Sc)(hl:s.rs.length<=100000):R293 [.agg (scC s),.agg (scC s)]=some (.bool true):=by
 refine AH (Qa rfl) ?_;have s359:S293 359=some (Ac R359):=rfl;unfold dc293;have h359:=R359_eq (n1:=s.nl) (n2:=s.nl) hl;unfold scC;simp only[↓go1,gB3,go5,reduceIte,simprocAttr,Aa s359,h359]
 all_goals (first|rfl|exact⟨rfl,rfl⟩|(simp[*];done))
inductive Ry where
 |fail (e:Int)
 |done
 |number (n:Int)
 |found (n:Int) (d:Bs)
 |about (s:Sc)
 |names (nl:Bool) (l:List Bs)
 |state (b:Bool)
def z0:List D:=[.int .i64 0,.bool false,.int .i64 0,.slice true [] []]
def ryC:Ry->List D
 | .fail e=>[.int .u8 0,.int .i64 e,.int .i64 0,.str [],.slice true [] [],.int .i64 0,.bool false,.int .i64 0,.slice true [] [],.bool false]
 | .done=>[.int .u8 1,.int .i64 0,.int .i64 0,.str [],.slice true [] [],.int .i64 0,.bool false,.int .i64 0,.slice true [] [],.bool false]
 | .number n=>[.int .u8 2,.int .i64 0,.int .i64 n,.str [],.slice true [] [],.int .i64 0,.bool false,.int .i64 0,.slice true [] [],.bool false]
 | .found n d=>[.int .u8 3,.int .i64 0,.int .i64 n,.str d,.slice true [] [],.int .i64 0,.bool false,.int .i64 0,.slice true [] [],.bool false]
 | .about s=>[.int .u8 4,.int .i64 0,.int .i64 0,.str [],.slice true [] [],.int .i64 s.mx,.bool s.cas,.int .i64 s.la,.slice s.nl [] (Ba s.rs),.bool false]
 | .names nl l=>[.int .u8 5,.int .i64 0,.int .i64 0,.str [],.slice nl [] (AB l),.int .i64 0,.bool false,.int .i64 0,.slice true [] [],.bool false]
 | .state b=>[.int .u8 6,.int .i64 0,.int .i64 0,.str [],.slice true [] [],.int .i64 0,.bool false,.int .i64 0,.slice true [] [],.bool b]
def ryOk:Ry->Prop
 | .about s=>s.rs.length<=1000
 | .names _ l=>l.length<=1000
 |_=>True
def ryE:Ry->Int
 | .fail e=>if 1<=e∧e<=99 then 0 else 2
 | .number n=>if 0<=n∧n<=999 then 0 else 2
 | .found n d=>if 0<=n∧n<=999∧d.length<=400 then 0 else 2
 | .about s=>if Dl s 6=true then 2 else 0
 | .names _ l=>if l.length<=64∧(l.any λs=>!nmB s)=false then 0 else 2
 |_=>0
def S189:Summs:=AF [(292,Ac R292),(293,Ac R293)]
def R189:List D->Option D:=RF S189 dc189 [.t 4] 52
theorem ko189:(Ac R189).ok Qb 189:=AJ fn189 (Ab ko292 (Ab ko293 Ad))
theorem F4(k e n:Int)(da:Bs)(nl:Bool)(l:List Bs)(s:Sc)(fl:Bool)(hl:l.length<=1000)(hs:s.rs.length<=1000):R189 [.agg [.int .u8 k,.int .i64 e,.int .i64 n,.str da,.slice nl [] (AB l),.int .i64 s.mx,.bool s.cas,.int .i64 s.la,.slice s.nl [] (Ba s.rs),.bool fl],.agg [.int .u8 k,.int .i64 e,.int .i64 n,.str da,.slice nl [] (AB l),.int .i64 s.mx,.bool s.cas,.int .i64 s.la,.slice s.nl [] (Ba s.rs),.bool fl]]=some (.bool true):=by
 refine AH (Qa rfl) ?_;have s292:S189 292=some (Ac R292):=rfl;have s293:S189 293=some (Ac R293):=rfl;unfold dc189;have h292:=R292_eq (n1:=nl) (n2:=nl) (l:=l) (by omega);have h293:=R293_eq s (by omega);unfold scC at h293;simp only[gB1,↓go1,go5,reduceIte,simprocAttr,Aa s292,h292,Aa s293,h293]
 all_goals (first|rfl|exact⟨rfl,rfl⟩|(simp[*];done))
theorem same_ry(y:Ry)(h:ryOk y):R189 [.agg (ryC y),.agg (ryC y)]=some (.bool true):=by
 have e0:AB []=[]:=rfl;have e1:Ba []=[]:=rfl;cases y with
 |fail e=>exact F4 0 e 0 [] true [] sc0 false (by simp) (by simp[sc0])
 |done=>exact F4 1 0 0 [] true [] sc0 false (by simp) (by simp[sc0])
 |number n=>exact F4 2 0 n [] true [] sc0 false (by simp) (by simp[sc0])
 |found n d=>exact F4 3 0 n d true [] sc0 false (by simp) (by simp[sc0])
 |about s=>exact F4 4 0 0 [] true [] s false (by simp) h
 |names nl l=>exact F4 5 0 0 [] nl l sc0 false h (by simp[sc0])
 |state b=>exact F4 6 0 0 [] true [] sc0 b (by simp) (by simp[sc0])
def S190:Summs:=AF []
def R190:List D->Option D:=RF S190 dc190 [.cell (some 10) 2] 52
theorem ko190:(Ac R190).ok Qb 190:=AJ fn190 Ad
theorem R190_eq(y:Ry):R190 [.agg (ryC y)]=some (.agg (ryC y)):=by
 refine AH (Qa rfl) ?_;unfold dc190;cases y<;>unfold ryC
 all_goals
  simp only[gB1,↓go1,go5,reduceIte,simprocAttr]
  all_goals (first|rfl|exact⟨rfl,rfl⟩|(simp[*];done))
def S92:Summs:=AF [(190,Ac R190),(189,Ac R189),(191,Ac ED),(192,cnS 193 none KN)]
def R92:List D->Option D:=RF S92 dc92 [.t 2] 73
theorem ko92:(Ac R92).ok Qb 92:=AJ fn92 (Ab ko190 (Ab ko189 (Ab ko191 (Ab cn192n Ad))))
theorem R92_eq(y:Ry)(h:ryOk y):R92 [.agg (ryC y)]=some (.int .i64 (ryE y)):=by
 refine AH (Qa rfl) ?_;have s190:S92 190=some (Ac R190):=rfl;have s189:S92 189=some (Ac R189):=rfl;have s191:S92 191=some (Ac ED):=rfl;have s192:S92 192=some (cnS 193 none KN):=rfl;unfold dc92;have h190:=R190_eq y;have h189:=same_ry y h;cases y with
 |fail e=>
  unfold ryC ryE at *;simp only[gB1,↓go1,go5,reduceIte,simprocAttr,Aa s190,h190,Aa s189,h189]
  (refine An.intro (Aj ?_) ?_;(first|rfl|(simp[Ax,Aq,rds,Ae];done)|(simp[Ax,Aq,rds,Ae,Ac];done)))
  by_cases c1:1<=e
  ·by_cases c2:e<=99
   ·simp only[↓go1,gB3,go5,reduceIte,simprocAttr,c1,c2]
    all_goals (first|rfl|exact⟨rfl,rfl⟩|(simp[*];done))
   ·simp only[↓go1,gB3,go5,reduceIte,simprocAttr,c1,c2]
    all_goals (first|rfl|exact⟨rfl,rfl⟩|(simp[*];done))
  ·simp only[↓go1,gB3,go5,reduceIte,simprocAttr,c1]
   all_goals (first|rfl|exact⟨rfl,rfl⟩|(simp[*];done))
 |done=>
  unfold ryC ryE at *;simp only[gB1,↓go1,go5,reduceIte,simprocAttr,Aa s190,h190,Aa s189,h189]
  (refine An.intro (Aj ?_) ?_;(first|rfl|(simp[Ax,Aq,rds,Ae];done)|(simp[Ax,Aq,rds,Ae,Ac];done)))
  simp only[↓go1,gB3,go5,reduceIte,simprocAttr]
  all_goals (first|rfl|exact⟨rfl,rfl⟩|(simp[*];done))
 |number n=>
  unfold ryC ryE at *;simp only[gB1,↓go1,go5,reduceIte,simprocAttr,Aa s190,h190,Aa s189,h189]
  (refine An.intro (Aj ?_) ?_;(first|rfl|(simp[Ax,Aq,rds,Ae];done)|(simp[Ax,Aq,rds,Ae,Ac];done)))
  by_cases c1:0<=n
  ·by_cases c2:n<=999
   ·simp only[↓go1,gB3,go5,reduceIte,simprocAttr,c1,c2,Qo,Int.cast_ofNat_Int]
    all_goals (first|rfl|exact⟨rfl,rfl⟩|(simp[*];done))
   ·simp only[↓go1,gB3,go5,reduceIte,simprocAttr,c1,c2]
    all_goals (first|rfl|exact⟨rfl,rfl⟩|(simp[*];done))
  ·simp only[↓go1,gB3,go5,reduceIte,simprocAttr,c1]
   all_goals (first|rfl|exact⟨rfl,rfl⟩|(simp[*];done))
 |found n d=>
  unfold ryC ryE at *;simp only[gB1,↓go1,go5,reduceIte,simprocAttr,Aa s190,h190,Aa s189,h189]
  (refine An.intro (Aj ?_) ?_;(first|rfl|(simp[Ax,Aq,rds,Ae];done)|(simp[Ax,Aq,rds,Ae,Ac];done)))
  by_cases c1:0<=n
  ·by_cases c2:n<=999
   ·by_cases c3:d.length<=400
    ·have c3':((d.length:Int)<=400)=True:=eq_true (by omega);simp only[↓go1,gB3,go5,reduceIte,simprocAttr,c1,c2,c3']
     all_goals (first|rfl|exact⟨rfl,rfl⟩|(simp[*];done))
    ·have c3':((d.length:Int)<=400)=False:=eq_false (by omega);simp only[↓go1,gB3,go5,reduceIte,simprocAttr,c1,c2,c3']
     all_goals (first|rfl|exact⟨rfl,rfl⟩|(simp[*];done))
   ·simp only[↓go1,gB3,go5,reduceIte,simprocAttr,c1,c2]
    all_goals (first|rfl|exact⟨rfl,rfl⟩|(simp[*];done))
  ·simp only[↓go1,gB3,go5,reduceIte,simprocAttr,c1]
   all_goals (first|rfl|exact⟨rfl,rfl⟩|(simp[*];done))
 |about s=>
  have h191:=F_ s 6 false h;unfold secE scC at h191;unfold ryC ryE at *;simp only[gB1,↓go1,go5,reduceIte,simprocAttr,Aa s190,h190,Aa s189,h189]
  (refine An.intro (Aj ?_) ?_;(first|rfl|(simp[Ax,Aq,rds,Ae];done)|(simp[Ax,Aq,rds,Ae,Ac];done)))
  cases hb:Dl s 6 with
  |true=>
   rw[hb]at h191;simp only[if_true]at h191;simp only[gB1,↓go1,go5,reduceIte,simprocAttr,Aa s191,h191]
   all_goals (first|rfl|exact⟨rfl,rfl⟩|(simp[*];done))
  |false=>
   rw[hb]at h191;simp only[if_false,Qm]at h191;simp only[gB1,↓go1,go5,reduceIte,simprocAttr,Aa s191,h191]
   all_goals (first|rfl|exact⟨rfl,rfl⟩|(simp[*];done))
 |names nl l=>
  have h192:=λ(m:Mem)(fr:Id)=>cn192n_ex (l:=l) (nl:=nl) (t:=[]) (by have:l.length<=1000:=h;omega) m fr
  unfold ryC ryE at *;simp only[gB1,↓go1,go5,reduceIte,simprocAttr,Aa s190,h190,Aa s189,h189]
  (refine An.intro (Aj ?_) ?_;(first|rfl|(simp[Ax,Aq,rds,Ae];done)|(simp[Ax,Aq,rds,Ae,Ac];done)))
  by_cases c1:l.length<=64
  ·have c1':((l.length:Int)<=64)=True:=eq_true (by omega);cases c2:l.any λs=>!nmB s with
   |true=>
    rw[c2]at h192;simp only[↓go1,gB3,go5,reduceIte,simprocAttr,c1',A0,Ah s192,h192]
    all_goals (first|rfl|exact⟨rfl,rfl⟩|(simp[*];done))
   |false=>
    rw[c2]at h192;simp only[↓go1,gB3,go5,reduceIte,simprocAttr,c1',A0,Ah s192,h192]
    all_goals (first|rfl|exact⟨rfl,rfl⟩|(simp[*];done))
  ·have c1':((l.length:Int)<=64)=False:=eq_false (by omega);simp only[↓go1,gB3,go5,reduceIte,simprocAttr,c1',A0]
   all_goals (first|rfl|exact⟨rfl,rfl⟩|(simp[*];done))
 |state b=>
  unfold ryC ryE at *;simp only[gB1,↓go1,go5,reduceIte,simprocAttr,Aa s190,h190,Aa s189,h189]
  (refine An.intro (Aj ?_) ?_;(first|rfl|(simp[Ax,Aq,rds,Ae];done)|(simp[Ax,Aq,rds,Ae,Ac];done)))
  simp only[↓go1,gB3,go5,reduceIte,simprocAttr]
  all_goals (first|rfl|exact⟨rfl,rfl⟩|(simp[*];done))
theorem dgB:∀d:Fin 10,UInt8.ofNat (IntKind.u8.wrap (48+((d.val:Nat):Int))).toNat=hexD d.val:=by decide
theorem dgO(n:Nat):UInt8.ofNat (IntKind.u8.wrap (IntKind.i64.wrap (48+((n % 10:Nat):Int)))).toNat=hexD (n % 10):=by
 rw[w64 (by omega) (by omega)];exact dgB ⟨n % 10,by omega⟩
theorem un1(a:Int):Bw [.int .u8 a]=some [UInt8.ofNat a.toNat]:=rfl
theorem Em(n:Nat):(Ft n).length<=3:=by
 unfold Ft;split
 ·simp
 ·split<;>simp
def S316:Summs:=AF []
def R316:List D->Option D:=RF S316 dc316 [.t 2] 17
theorem ko316:(Ac R316).ok Qb 316:=AJ fn316 Ad
theorem R316_eq(n:Nat)(h:n<1000):R316 [.int .i64 (n:Int)]=some (.str (Ft n)):=by
 refine AH (Qa rfl) ?_;unfold dc316;have td:∀k:Nat,k<1000->IntKind.i64.wrap ((k:Int).tdiv 10)=((k / 10:Nat):Int):=tdiv10;have t1:=td n h;have t2:=td (n / 10) (by omega);have t3:=td (n / 10 / 10) (by omega);have a0:∀c:UInt8,AX .add (.str [c]) (.str [])=some (.str [c]):=λc=>add_s (by simp)
 have a1:∀c d:UInt8,AX .add (.str [c]) (.str [d])=some (.str [c,d]):=λc d=>add_s (by simp)
 have a2:∀c d e:UInt8,AX .add (.str [c]) (.str [d,e])=some (.str [c,d,e]):=λc d e=>add_s (by simp)
 have hr:∀k:Nat,AX .rem (.int .i64 (k:Int)) (.int .i64 10)=some (.int .i64 ((k % 10:Nat):Int)):=λk=>by rw[←tmod10];rfl
 have hq:∀k:Nat,AX .quo (.int .i64 (k:Int)) (.int .i64 10)=some (.int .i64 (IntKind.i64.wrap ((k:Int).tdiv 10))):=λk=>rfl
 unfold Ft;simp only[↓go1,go2,simprocAttr];refine Af dc316l0.eq_1 ?_;by_cases c1:n<10
 ·have z1:(((n / 10:Nat):Int)=0)=True:=eq_true (by omega);have z2:n % 10=n:=by omega
  simp only[Qt,↓go1,gB3,go5,reduceIte,simprocAttr,hr,hq,t1,dgO,a0,z1];rw[z2,if_pos c1]
 ·have z1:(((n / 10:Nat):Int)=0)=False:=eq_false (by omega);simp only[Qt,↓go1,gB3,go5,reduceIte,simprocAttr,hr,hq,t1,dgO,a0,z1];refine Af dc316l0.eq_1 ?_;by_cases c2:n<100
  ·have z2:(((n / 10 / 10:Nat):Int)=0)=True:=eq_true (by omega);have z3:n / 10 % 10=n / 10:=by omega
   simp only[Qt,↓go1,gB3,go5,reduceIte,simprocAttr,hr,hq,t2,dgO,a1,z2];rw[z3,if_neg c1,if_pos c2]
  ·have z2:(((n / 10 / 10:Nat):Int)=0)=False:=eq_false (by omega);simp only[Qt,↓go1,gB3,go5,reduceIte,simprocAttr,hr,hq,t2,dgO,a1,z2];refine Af dc316l0.eq_1 ?_;have z4:(((n / 10 / 10 / 10:Nat):Int)=0)=True:=eq_true (by omega);have z5:n / 10 / 10 % 10=n / 100:=by omega
   simp only[Qt,↓go1,gB3,go5,reduceIte,simprocAttr,hr,hq,t3,dgO,a2,z4];rw[z5,if_neg c1,if_neg c2]
def DY(x:Rw):Bs:=Ft x.1.toNat++(if x.2.1=true then [33]else [])++(if x.2.2=true then [35]else [])
def S318:Summs:=AF [(316,Ac R316)]
def R318:List D->Option D:=RF S318 dc318 [.t 2] 16
theorem ko318:(Ac R318).ok Qb 318:=AJ fn318 (Ab ko316 Ad)
theorem R318_eq(x:Rw)(h:0<=x.1∧x.1<1000):R318 [.agg [.int .i64 x.1,.bool x.2.1,.bool x.2.2]]=some (.str (DY x)):=by
 refine AH (Qa rfl) ?_;have s316:S318 316=some (Ac R316):=rfl;unfold dc318;have h316:=R316_eq x.1.toNat (by omega);rw[Qv h.1]at h316;have hl:=Em x.1.toNat;unfold DY;generalize Ft x.1.toNat=s at *;have a1:∀c:UInt8,AX .add (.str s) (.str [c])=some (.str (s++[c])):=λc=>add_s (by simp;omega)
 have a2:∀c d:UInt8,AX .add (.str (s++[c])) (.str [d])=some (.str (s++[c]++[d])):=λc d=>add_s (by simp;omega)
 obtain⟨n,g,d⟩:=x;simp only at *;cases g<;>cases d
 all_goals
  simp only[↓go1,gB3,go5,reduceIte,simprocAttr,Aa s316,h316,a1,a2]
  all_goals (first|rfl|exact⟨rfl,rfl⟩|(simp[*];done))
def S319:Summs:=AF []
def R319:List D->Option D:=RF S319 dc319 [.t 2] 4
theorem ko319:(Ac R319).ok Qb 319:=AJ fn319 Ad
theorem R319_eq(b:Bool):R319 [.bool b]=some (.str [if b=true then 49 else 48]):=by
 refine AH (Qa rfl) ?_;unfold dc319;cases b
 all_goals
  simp only[↓go1,go2,go3,go5,reduceIte,simprocAttr]
  all_goals (first|rfl|exact⟨rfl,rfl⟩|(simp[*];done))
def listW(l:List Bs):Bs:=if l=[]then [45]else Lib.join l [44]
theorem ko221:(Ac joinF).ok Qb 221:=joinF_ok lays156 Builder_Extra_156 ⟨_,func221,by kernel_rfl,by kernel_rfl⟩
theorem joinW_eq{l:List Bs}{s:Bs}(h:l≠[]∧l.length<=1000∧Cw l<=1000000∧s.length<=1000∧(Lib.join l s).length<=10000000):joinF [.slice false [] (AB l),.str s]=some (.str (Lib.join l s)):=BA (mk:=mkJ) (a:=(l,s)) mkJ_inj h
def S320:Summs:=AF [(221,Ac joinF)]
def R320:List D->Option D:=RF S320 dc320 [.t 2] 8
theorem ko320:(Ac R320).ok Qb 320:=AJ fn320 (Ab ko221 Ad)
theorem R320_eq(nl:Bool)(l:List Bs)(hn:nl=true->l=[])(h:l.length<=1000∧Cw l<=1000000∧(Lib.join l [44]).length<=10000000):R320 [.slice nl [] (AB l)]=some (.str (listW l)):=by
 refine AH (Qa rfl) ?_;have s221:S320 221=some (Ac joinF):=rfl;unfold dc320;unfold listW;by_cases c:l=[]
 ·have c':((l.length:Int)=0)=True:=eq_true (by rw[c];rfl);simp only[↓go1,gB3,go5,reduceIte,simprocAttr,c',A0];simp[c]
 ·have c':((l.length:Int)=0)=False:=eq_false (by
   intro e;exact c (Qq.1 (by omega)))
  have hnl:nl=false:=by
   cases nl with
   |true=>exact absurd (hn rfl) c
   |false=>rfl
  subst hnl;have h221:=joinW_eq (l:=l) (s:=[44]) ⟨c,h.1,h.2.1,by simp,h.2.2⟩;simp only[↓go1,gB3,go5,reduceIte,simprocAttr,c',A0,Aa s221,h221];simp[c]
def ryW:Ry->List Bs
 | .fail e=>[[101,114,114,111,114],Ft e.toNat]
 | .done=>[[111,107]]
 | .number n=>[[111,107],[110,117,109,98,101,114],Ft n.toNat]
 | .found n d=>[[111,107],[102,111,117,110,100],Ft n.toNat,if d=[]then [45]else hexB d]
 | .about s=>[[111,107],[97,98,111,117,116],Ft s.mx.toNat,[if s.cas=true then 49 else 48],Ft s.la.toNat,listW (s.rs.map DY)]
 | .names _ l=>[[111,107],[110,97,109,101,115],listW l]
 | .state b=>if b=true then [[111,107],[115,101,97,108,101,100]]else [[111,107],[111,112,101,110]]
def ryG:Ry->Prop
 | .fail e=>0<=e∧e<1000
 | .number n=>0<=n∧n<1000
 | .found n d=>0<=n∧n<1000∧d.length<=1000
 | .about s=>s.rs.length<=100∧(0<=s.mx∧s.mx<1000)∧(0<=s.la∧s.la<1000)∧∀x∈s.rs,0<=x.1∧x.1<1000
 | .names nl l=>l.length<=1000∧(nl=true->l=[])∧Cw l<=1000000
 |_=>True
theorem join_len:∀(l:List Bs)(s:Bs),(Lib.join l s).length<=Cw l+l.length*s.length
 |[],s=>by simp[Lib.join]
 |[x],s=>by simp[Lib.join,Cw]
 |x::y::r,s=>by
  have ih:=join_len (y::r) s;have e:Lib.join (x::y::r) s=x++s++Lib.join (y::r) s:=by simp[Lib.join]
  rw[e,Qr,Qr];simp only[Cw,Qj]at ih ⊢;rw[Nat.succ_mul];omega
theorem rowW1_len(x:Rw):(DY x).length<=5:=by
 have:=Em x.1.toNat;unfold DY;rw[Qr,Qr];split<;>split<;>simp<;>omega
theorem sum_rows:∀l:List Rw,Cw (l.map DY)<=5*l.length
 |[]=>by simp[Cw]
 |x::r=>by
  have:=sum_rows r;have:=rowW1_len x;simp only[QU,Cw,Qj];omega
def S222:Summs:=AF [(316,Ac R316),(319,Ac R319),(320,Ac R320),(318,Ac R318),(317,Ac F317)]
def R222:List D->Option D:=RF S222 dc222 [.t 2] 78
theorem ko222:(Ac R222).ok Qb 222:=AJ fn222 (Ab ko316 (Ab ko319 (Ab ko320 (Ab ko318 (Ab ok317 Ad)))))
theorem R222_eq (y : Ry) (h : ryG y) : R222 [.agg (ryC y)] = some (.slice false [] (AB (ryW y))) := by
  refine AH (Qa rfl) ?_
  have s316 : S222 316 = some (Ac R316) := rfl
  have s319 : S222 319 = some (Ac R319) := rfl
  have s320 : S222 320 = some (Ac R320) := rfl
  have s318 : S222 318 = some (Ac R318) := rfl
  have s317 : S222 317 = some (Ac F317) := rfl
  unfold dc222
  cases y with
  | fail e =>
    have h316 := R316_eq e.toNat (by have := h.1; have := h.2; omega)
    rw [Qv h.1] at h316
    unfold ryC ryW AB
    simp only [↓go1, gB3, go5, reduceIte, simprocAttr, Aa s316, h316]
    all_goals (first | rfl | exact ⟨rfl, rfl⟩ | (simp [*]; done))
  | done =>
    unfold ryC ryW AB
    simp only [↓go1, gB3, go5, reduceIte, simprocAttr]
    all_goals (first | rfl | exact ⟨rfl, rfl⟩ | (simp [*]; done))
  | number n =>
    have h316 := R316_eq n.toNat (by have := h.1; have := h.2; omega)
    rw [Qv h.1] at h316
    unfold ryC ryW AB
    simp only [↓go1, gB3, go5, reduceIte, simprocAttr, Aa s316, h316]
    all_goals (first | rfl | exact ⟨rfl, rfl⟩ | (simp [*]; done))
  | found n d =>
    have h316 := R316_eq n.toNat (by have := h.1; have := h.2; omega)
    rw [Qv h.1] at h316
    have h317 := F317_eq (s := d) (by have := h.2.2; omega)
    unfold ryC ryW AB
    by_cases c : d = []
    · have c' := eq_true c
      simp only [↓go1, gB3, go5, reduceIte, simprocAttr, Aa s316, h316, c']
      simp []
    · have c' := eq_false c
      simp only [↓go1, gB3, go5, reduceIte, simprocAttr, Aa s316, h316, Aa s317, h317, c']
      simp []
  | names nl l =>
    obtain ⟨h1, h2, h3⟩ := h
    have h320 := R320_eq nl l h2 ⟨h1, h3, by have := join_len l [44]; simp at this; omega⟩
    unfold ryC ryW
    simp only [↓go1, gB3, go5, reduceIte, simprocAttr, Aa s320, h320]
    all_goals (first | rfl | exact ⟨rfl, rfl⟩ | (simp [*]; done))
  | state b =>
    unfold ryC ryW AB
    cases b with
    | true =>
      simp only [↓go1, gB3, go5, reduceIte, simprocAttr]
      all_goals (first | rfl | exact ⟨rfl, rfl⟩ | (simp [*]; done))
    | false =>
      simp only [↓go1, gB3, go5, reduceIte, simprocAttr]
      all_goals (first | rfl | exact ⟨rfl, rfl⟩ | (simp [*]; done))
  | about s =>
    obtain ⟨g1, g2, g3, g4⟩ := h
    have h1 := R316_eq s.mx.toNat (by omega)
    rw [Qv g2.1] at h1
    have h2 := R316_eq s.la.toNat (by omega)
    rw [Qv g3.1] at h2
    have h319 := R319_eq s.cas
    have hsr := sum_rows s.rs
    have h320 := fun nl hn => R320_eq nl (s.rs.map DY) hn ⟨by simp; omega, by omega, by have := join_len (s.rs.map DY) [44]; simp at this; omega⟩
    unfold ryC ryW
    simp only [↓go1, gB3, go5, reduceIte, simprocAttr, AS]
    refine Bm (n := s.rs.length) (I := fun j st => st.s 38 = .slice s.nl [] (Ba s.rs) ∧ st.s 39 = .int .i64 s.rs.length ∧ st.s 40 = .int .i64 (j : Int) ∧ st.s 1 = .ptr [0] 0 ∧ ∃ nl t, st.s 4 = .slice nl t (AB ((s.rs.take j).map DY)) ∧ nl = decide (j = 0) ∧ LG 1 _ 9 st.m st.c nl t) (fun j hj ih st g hI => ?_) (fun st g hI => ?_) 0 (Qn _) _ _ ⟨rfl, rfl, rfl, rfl, true, [], rfl, rfl, LG.start (by simp only; omega)⟩
    · obtain ⟨st_s, st_m, st_c⟩ := st
      obtain ⟨h38, h39, h40, hp, nl, t, h4, hnl, hG⟩ := hI
      simp only at h38 h39 h40 hp h4 hG
      refine Af dc222l0.eq_1 ?_
      have hlt : ((j : Int) < s.rs.length) := by omega
      have hj0 : (0 : Int) ≤ (j : Int) := by omega
      have hw : IntKind.i64.wrap ((j : Int) + 1) = ((j + 1 : Nat) : Int) := w64 (by omega) (by omega)
      have hat := EJ hj
      have h318 := R318_eq s.rs[j] (g4 _ (Q5 hj))
      have htk : AB ((s.rs.take (j + 1)).map DY) = AB ((s.rs.take j).map DY) ++ [.str (DY s.rs[j])] := by
        rw [QC hj, QV]; simp [AB]
      have hal : (AB ((s.rs.take j).map DY)).length = j := by simp [AB]; omega
      have hnil : nl = true → AB ((s.rs.take j).map DY) = [] := by
        rw [hnl]; intro h; have : j = 0 := by simpa using h
        subst this; rfl
      generalize AB ((s.rs.take j).map DY) = acc at h4 htk hal hnil
      generalize s.rs[j] = x at hat htk h318
      simp only [gB1, ↓go1, go5, reduceIte, simprocAttr, h38, h39, h40, h4, hlt, hj0, Qc, hat, Aa s318, h318]
      refine An.intro ⟨by omega, rfl, (by first | exact hG.grow | exact (hG.put (by omega)).grow | exact ((hG.put (by omega)).put (by omega)).grow | exact (((hG.put (by omega)).put (by omega)).put (by omega)).grow | exact ((((hG.put (by omega)).put (by omega)).put (by omega)).put (by omega)).grow | exact (((((hG.put (by omega)).put (by omega)).put (by omega)).put (by omega)).put (by omega)).grow)⟩ ?_
      rw [BK hnil, ← htk]
      simp only [↓go1, go2, reduceIte, simprocAttr, h40, hw]
      exact ih _ _ ⟨h38, h39, rfl, hp, false, _, rfl, by simp, (by first | exact hG.app (by omega) (by simp only; omega) | exact (hG.put (by omega)).app (by omega) (by simp only; omega) | exact ((hG.put (by omega)).put (by omega)).app (by omega) (by simp only; omega) | exact (((hG.put (by omega)).put (by omega)).put (by omega)).app (by omega) (by simp only; omega) | exact ((((hG.put (by omega)).put (by omega)).put (by omega)).put (by omega)).app (by omega) (by simp only; omega) | exact (((((hG.put (by omega)).put (by omega)).put (by omega)).put (by omega)).put (by omega)).app (by omega) (by simp only; omega))⟩
    · obtain ⟨st_s, st_m, st_c⟩ := st
      obtain ⟨h38, h39, h40, hp, nl, t, h4, hnl, hG⟩ := hI
      simp only at h38 h39 h40 hp h4 hG
      refine Af dc222l0.eq_1 ?_
      have m0 : ∀ k, st_m [0] k = _ := fun k => hG.low 0 k (by omega)
      rw [List.take_length] at h4
      have hh := h320 nl (by rw [hnl]; intro h; have : s.rs.length = 0 := by simpa using h
                             simp [Qq.1 this])
      unfold AB at h4 hh ⊢
      simp only [↓go1, gB3, go5, reduceIte, simprocAttr, h39, h40, hp, h4, Ql, m0, Aa s316, h1, h2, Aa s319, h319, Aa s320, hh]
      (refine An.intro (Aj ?_) ?_; (first | rfl | (simp [Ax, Aq, rds, Ae]; done) | (simp [Ax, Aq, rds, Ae, Ac]; done)))
      simp only [↓go1, go2, go3, go5, reduceIte, simprocAttr]
      all_goals (first | rfl | exact ⟨rfl, rfl⟩ | (simp [*]; done))
def spJ(l:List Bs):Bs:=Lib.join l [32]
def ryT(y:Ry):Bs:=if ryE y=0 then spJ (ryW y)else []
theorem ryW_ne(y:Ry):ryW y≠[]:=by
 cases y<;>simp[ryW];split<;>simp
def ryN:Ry->Prop
 | .names nl l=>nl=true->l=[]
 |_=>True
theorem ris_bd:∀{l:List Rw} {a:Int},risB l a=true->∀x∈l,a<x.1∧x.1<=(l.getLast?.map (·.1)).getD 0
 |[],a,_,x,hx=>by cases hx
 |y::r,a,h,x,hx=>by
  simp only[risB,QT,decide_eq_true_eq]at h;cases r with
  |nil=>
   rw[List.mem_singleton.1 hx];exact⟨h.1,by simp⟩
  |cons z q=>
   have ih:=ris_bd h.2;have hz:=ih z (List.mem_cons_self ..);rw[List.getLast?_cons_cons];rcases QI.1 hx with rfl|hx
   ·exact⟨h.1,by omega⟩
   ·have:=ih x hx;exact⟨by omega,this.2⟩
theorem new_last(l:List Rw):newE l=(l.getLast?.map (·.1)).getD 0:=by
 unfold newE;cases l.getLast?<;>rfl
theorem badS_rows{s:Sc}{q:Int}(h:Dl s q=false)(hq:q<=6):s.rs.length<=6∧∀x∈s.rs,1<=x.1∧x.1<=30:=by
 obtain⟨b1,b2,b3,b4,b5,b6⟩:=badS_get h;have hk:BX s q<=6:=by unfold BX;split<;>omega
 refine⟨by omega,λx hx=>?_⟩;have:=ris_bd b5 x hx;rw[←new_last,b6]at this;omega
theorem sum_64:∀l:List Bs,(l.any λs=>!nmB s)=false->Cw l<=64*l.length
 |[],_=>by simp[Cw]
 |x::r,h=>by
  simp only[List.any_cons,Bool.or_eq_false_iff,Bool.not_eq_false']at h;have ih:=sum_64 r h.2;have hx:x.length<=64:=by
   have:=h.1;simp only[nmB,QT,decide_eq_true_eq]at this;exact this.2.2.1
  simp only[Cw,Qj];omega
theorem ry_good{y:Ry}(h:ryE y=0)(hn:ryN y):ryG y:=by
 cases y with
 |fail e=>simp only[ryE]at h;split at h;(rename_i c;exact⟨by omega,by omega⟩);omega
 |done=>trivial
 |number n=>simp only[ryE]at h;split at h;(rename_i c;exact⟨by omega,by omega⟩);omega
 |found n d=>simp only[ryE]at h;split at h;(rename_i c;exact⟨by omega,by omega,by omega⟩);omega
 |about s=>
  simp only[ryE]at h;cases hb:Dl s 6 with
  |true=>rw[hb]at h;simp at h
  |false=>
   obtain⟨b1,b2,b3,_⟩:=badS_get hb;obtain⟨r1,r2⟩:=badS_rows hb (by omega);exact⟨by omega,by omega,by omega,λx hx=>by have:=r2 x hx;omega⟩
 |names nl l=>
  simp only[ryE]at h;split at h
  ·rename_i c;have:=sum_64 l c.2;exact⟨by omega,hn,by omega⟩
  ·omega
 |state b=>trivial
theorem listW_len(l:List Bs):(listW l).length<=1+Cw l+l.length:=by
 unfold listW;split
 ·simp;omega
 ·have:=join_len l [44];simp only[Qj,Qo]at this;omega
theorem ryW_sum{y:Ry}(h:ryE y=0)(hn:ryN y):(ryW y).length<=6∧Cw (ryW y)<=100000:=by
 cases y with
 |fail e=>have:=Em e.toNat;simp only[ryW,Cw,Qj,Qo];omega
 |done=>simp[ryW,Cw]
 |number n=>have:=Em n.toNat;simp only[ryW,Cw,Qj,Qo];omega
 |found n d=>
  have:=Em n.toNat;simp only[ryE]at h;split at h
  ·rename_i c;have:=hexB_len d;simp only[ryW,Cw,Qj,Qo];split<;>simp<;>omega
  ·omega
 |about s=>
  have q1:=Em s.mx.toNat;have q2:=Em s.la.toNat;obtain⟨g1,_⟩:=ry_good h hn;have:=listW_len (s.rs.map DY);have:=sum_rows s.rs;rw[Qh]at *;simp only[ryW,Cw,Qj,Qo];omega
 |names nl l=>
  simp only[ryE]at h;split at h
  ·rename_i c;have:=sum_64 l c.2;have:=listW_len l;simp only[ryW,Cw,Qj,Qo];omega
  ·omega
 |state b=>cases b<;>simp[ryW,Cw]
def S121:Summs:=AF [(92,Ac R92),(222,Ac R222),(221,Ac joinF)]
def R121:List D->Option D:=RF S121 dc121 [.t 2,.t 3] 13
theorem ko121:(Ac R121).ok Qb 121:=AJ fn121 (Ab ko92 (Ab ko222 (Ab ko221 Ad)))
theorem R121_eq(y:Ry)(h:ryOk y)(hn:ryN y):R121 [.agg (ryC y)]=some (.tup [.str (ryT y),.int .i64 (ryE y)]):=by
 refine AH (Qa rfl) ?_;have s92:S121 92=some (Ac R92):=rfl;have s222:S121 222=some (Ac R222):=rfl;have s221:S121 221=some (Ac joinF):=rfl;unfold dc121;have h92:=R92_eq y h;have e0:∃a b c d e f g i j k,ryC y=[a,b,c,d,e,f,g,i,j,k]:=by cases y<;>exact⟨_,_,_,_,_,_,_,_,_,_,rfl⟩
 have d0:∀x∈ryC y,x.un1=x∧x.calm1=true:=by
  cases y<;>(intro x hx;simp only[ryC,QI,QF,or_false]at hx;rcases hx with rfl|rfl|rfl|rfl|rfl|rfl|rfl|rfl|rfl|rfl<;>exact⟨rfl,rfl⟩)
 unfold ryT;by_cases c:ryE y=0
 ·have h222:=R222_eq y (ry_good c hn);obtain⟨w1,w2⟩:=ryW_sum c hn;have h221:=joinW_eq (l:=ryW y) (s:=[32]) ⟨ryW_ne y,by omega,by omega,by simp,by have:=join_len (ryW y) [32];simp only[Qj,Qo]at this;omega⟩;obtain⟨a,b,cc,d,e,f,g,i,j,k,hc⟩:=e0;have u:=λx hx=>d0 x hx
  rw[hc]at h92 h222 d0 ⊢;rw[c]at h92 ⊢;simp only[QI,QF,or_false,forall_eq_or_imp,forall_eq]at d0;obtain⟨⟨a1,a2⟩,⟨b1,b2⟩,⟨c1,c2⟩,⟨d1,d2⟩,⟨e1,e2⟩,⟨f1,f2⟩,⟨g1,g2⟩,⟨i1,i2⟩,⟨j1,j2⟩,k1,k2⟩:=d0;have hcalm:((AB (ryW y)).all D.calm)=true:=by simp[AB,QE];intros;rfl
  simp only[gB1,↓go1,go5,reduceIte,simprocAttr,Aa s92,h92,a1,a2,b1,b2,c1,c2,d1,d2,e1,e2,f1,f2,g1,g2,i1,i2,j1,j2,k1,k2,Aa s222,h222,Aa s221,h221,spJ]
  all_goals (first|rfl|exact⟨rfl,rfl⟩|(simp[*];done))
 ·have c':=eq_false c;obtain⟨a,b,cc,d,e,f,g,i,j,k,hc⟩:=e0;rw[hc]at h92 d0 ⊢;simp only[QI,QF,or_false,forall_eq_or_imp,forall_eq]at d0;obtain⟨⟨a1,a2⟩,⟨b1,b2⟩,⟨c1,c2⟩,⟨d1,d2⟩,⟨e1,e2⟩,⟨f1,f2⟩,⟨g1,g2⟩,⟨i1,i2⟩,⟨j1,j2⟩,k1,k2⟩:=d0;simp only[gB1,↓go1,go5,reduceIte,simprocAttr,Aa s92,h92,a1,a2,b1,b2,c1,c2,d1,d2,e1,e2,f1,f2,g1,g2,i1,i2,j1,j2,k1,k2,c']
  all_goals (first|rfl|exact⟨rfl,rfl⟩|(simp[*];done))
def S120:Summs:=AF [(121,Ac R121)]
def R120:List D->Option D:=RF S120 dc120 [.t 2] 17
theorem ko120:(Ac R120).ok Qb 120:=AJ fn120 (Ab ko121 Ad)
theorem R120_eq(e:Int)(h:1<=e∧e<=99):R120 [.int .i64 e]=some (.str (ryT (.fail e))):=by
 refine AH (Qa rfl) ?_;have s121:S120 121=some (Ac R121):=rfl;unfold dc120;have h121:=R121_eq (.fail e) trivial trivial;have he:ryE (.fail e)=0:=if_pos h;rw[he]at h121;have c':(e=0)=False:=eq_false (by omega);unfold ryC at h121;simp only[gB1,↓go1,go5,reduceIte,simprocAttr,Aa s121,h121,c']
 all_goals (first|rfl|exact⟨rfl,rfl⟩|(simp[*];done))
abbrev Op1:=Int×Bs×Bs
def opD(x:Op1):D:= .agg [.int .u8 x.1,.str x.2.1,.str x.2.2]
def Dr(l:List Op1):List D:=l.map opD
theorem opD_inj{x y:Op1}(h:opD x=opD y):x=y:=by
 simp only[opD,D.agg.injEq,Qw,D.int.injEq,D.str.injEq,true_and,and_true]at h;exact QJ h.1 (QJ h.2.1 h.2.2)
theorem opsD_inj{a b:List Op1}(h:Dr a=Dr b):a=b:=(QZ (λ_ _ e=>opD_inj e)).1 h
theorem opsD_len(l:List Op1):(Dr l).length=l.length:=Qh ..
structure Oc where
 need:Bs
 li:Bool
 rep:Bs
 nl:Bool
 ops:List Op1
 vw:Vw
structure Wb where
 v:Vw
 a:Ak
 k:Kn
def ocC(o:Oc)(t:Id):List D:=[.str o.need,.bool o.li,.str o.rep,.slice o.nl t (Dr o.ops)]++vwC o.vw
def wkC(w:Wb)(o:Oc)(t:Id):List D:=vwC w.v++(akC w.a++(kwC w.k++ocC o t))
theorem Cu(w:Wb)(o:Oc)(t:Id):(wkC w o t).length=30:=rfl
theorem map_str_inj{α:Type}{f:α->Bs}{a b:List α}(h:a.map (λx=>D.str (f x))=b.map λx=>D.str (f x)):a.map f=b.map f:=by
 have:=congrArg (Zc λd=>match d with|D.str s=>s|_=>[]) h;simpa[QG,Function.comp_def]using this
theorem map_bool_inj{α:Type}{f:α->Bool}{a b:List α}(h:a.map (λx=>D.bool (f x))=b.map λx=>D.bool (f x)):a.map f=b.map f:=by
 have:=congrArg (Zc λd=>match d with|D.bool s=>s|_=>false) h;simpa[QG,Function.comp_def]using this
theorem lsD_get{a b:List (Bs×Bool×List Bs)}(h:a.map lsD=b.map lsD):a.map (·.2)=b.map (·.2):=by
 have:=congrArg (Zc λd=>match d with|D.slice nl _ xs=>(nl,xs.map λd=>match d with|D.str s=>s|_=>[])|_=>(false,[])) h;simpa[QG,Function.comp_def,lsD,AB]using this
theorem zip3{α β γ:Type}:∀{a b:List (α×β×γ)},a.map (·.1)=b.map (·.1)->a.map (·.2.1)=b.map (·.2.1)->a.map (·.2.2)=b.map (·.2.2)->a=b
 |[],[],_,_,_=>rfl
 |[],_::_,h,_,_=>by simp at h
 |_::_,[],h,_,_=>by simp at h
 |x::a,y::b,h1,h2,h3=>by
  simp only[QU,Qw]at h1 h2 h3;rw[zip3 h1.2 h2.2 h3.2,QJ h1.1 (QJ h2.1 h3.1)]
theorem kwC_inj{a b:Kn}(h:kwC a=kwC b):a=b:=by
 cases a;cases b;simp only[kwC,Qw,D.slice.injEq,true_and,and_true]at h;obtain⟨⟨_,h1⟩,⟨_,h2⟩,⟨_,h3⟩,⟨_,h4⟩,_,h5⟩:=h;have e1:=zip3 (map_str_inj h1) (map_str_inj h2) (map_bool_inj h3);have g:=lsD_get h5;have e2:=zip3 (map_str_inj h4) (by have:=congrArg (Zc Prod.fst) g;simpa[QG,Function.comp_def]using this) (by have:=congrArg (Zc Prod.snd) g;simpa[QG,Function.comp_def]using this);rw[e1,e2]
theorem wkC_inj{w w':Wb}{o o':Oc}{t t':Id}(h:wkC w o t=wkC w' o' t'):w=w'∧o=o'∧t=t':=by
 unfold wkC at h;obtain⟨h1,h⟩:=QW h rfl;obtain⟨h2,h⟩:=QW h rfl;obtain⟨h3,h⟩:=QW h rfl;have e1:=vwD_inj (congrArg D.agg h1);have e2:=Ed (congrArg D.agg h2);have e3:=kwC_inj h3;unfold ocC at h;obtain⟨h4,h5⟩:=QW h rfl;have e5:=vwD_inj (congrArg D.agg h5);simp only[Qw,D.str.injEq,D.bool.injEq,D.slice.injEq,and_true]at h4;obtain⟨g1,g2,g3,g4,g5,g6⟩:=h4;have e6:=opsD_inj g6;cases w;cases w';cases o;cases o';simp only at e1 e2 e3 e5 g1 g2 g3 g4 e6;subst e1 e2 e3 e5 g1 g2 g3 g4 e6 g5;exact⟨rfl,rfl,rfl⟩
abbrev WY:=D×Oc×Option (List Nat)
def updW(i:Id)(w:Wb)(o:Oc)(t fr:Id)(y:WY):Upd:=match y.2.2 with
 |none=>[(i,0,wkC w y.2.1 t)]
 |some l=>(i,0,wkC w y.2.1 (l++fr))::Be 107 (l++fr) (.slice o.nl t (Dr o.ops))
def atW(m:Mem)(i:Id)(x:Wb×Oc×Id):Prop:=Ai m i 0 30=some (wkC x.1 x.2.1 x.2.2)∧BG m 107 x.2.1.nl x.2.2 x.2.1.ops.isEmpty=true∧(x.2.1.nl=true->x.2.2=[])
open Classical in
def pickW(p:Wb×Oc×Id->Prop):Option (Wb×Oc×Id):=if h:∃x,p x then some (Classical.choose h)else none
theorem pickW_eq{p:Wb×Oc×Id->Prop}{x:Wb×Oc×Id}(h:p x)(hu:∀y,p y->y=x):pickW p=some x:=by
 have hx:∃x,p x:=⟨x,h⟩;unfold pickW;rw[dif_pos hx,hu _ (Classical.choose_spec hx)]
theorem pickW_get{p:Wb×Oc×Id->Prop}{x:Wb×Oc×Id}(h:pickW p=some x):p x:=by
 unfold pickW at h;split at h
 ·rename_i hx;simp only[Qe]at h;subst h;exact Classical.choose_spec hx
 ·cases h
def wQ(F:Wb->Oc->List D->Option WY):Summ where
 rd:=λds m=>match ds with
  | .ptr i 0::_=>Ae i 0 30++(match m i 24 with|some (.slice _ t _)=>[(t,0)]|_=>[])
  |_=>[]
 ex:=λds m fr=>match ds with
  | .ptr i 0::rest=>(pickW (atW m i)).bind λx=>(F x.1 x.2.1 rest).map λy=>(y.1,updW i x.1 x.2.1 x.2.2 fr y)
  |_=>none
theorem at24{m:Mem}{i:Id}{w:Wb}{o:Oc}{t:Id}(h:Ai m i 0 30=some (wkC w o t)):m i 24=some (.slice o.nl t (Dr o.ops)):=Bp h rfl
theorem wQ_loc{F:Wb->Oc->List D->Option WY}(ds:List D)(m m':Mem)(fr:Id)(h:∀l∈(wQ F).rd ds m,m l.1 l.2=m' l.1 l.2):(wQ F).ex ds m fr=(wQ F).ex ds m' fr:=by
 simp only[wQ]at h ⊢;split
 ·rename_i i rest;have hr:Ai m i 0 30=Ai m' i 0 30:=Bu (λl hl=>h l (List.mem_append_left _ hl));have hp:atW m i=atW m' i:=by
   funext x;obtain⟨w,o,t⟩:=x;apply propext;unfold atW;rw[hr];have key:Ai m' i 0 30=some (wkC w o t)->BG m 107 o.nl t o.ops.isEmpty=BG m' 107 o.nl t o.ops.isEmpty:=λhc=>by
    refine DN (h (t,0) (List.mem_append_right _ ?_));have:=at24 (hr.trans hc);rw[this];simp
   constructor
   ·rintro⟨a,b,c⟩;exact⟨a,by rw[←key a];exact b,c⟩
   ·rintro⟨a,b,c⟩;exact⟨a,by rw[key a];exact b,c⟩
  rw[hp]
 ·rfl
theorem atW_uniq{m:Mem}{i:Id}{x y:Wb×Oc×Id}(hx:atW m i x)(hy:atW m i y):y=x:=by
 have:=hy.1.symm.trans hx.1;simp only[Qe]at this;obtain⟨a,b,c⟩:=wkC_inj this;exact QJ a (QJ b c)
structure Wt (i fr:Id) (m0:Mem) (nl0:Bool) (t0:Id) (m:Mem) (w:Wb) (o:Oc) (t:Id):Prop where
 at_:atW m i (w,o,t)
 loc:∀q,t≠q::fr
 sub0:nl0=false->¬fr<:+t0
 ch:(t=t0∧o.nl=nl0∧∀j x d,(j≠i∨30<=x)->m0 j x=some d->m j x=some d)∨
  ((∃l k,t=l++k::fr)∧o.nl=false∧(nl0=false->m t0 0=some (.tok 0))∧∀j x d,(j≠i∨30<=x)->(nl0=true∨j≠t0∨x≠0)->m0 j x=some d->m j x=some d)
def WE(i fr:Id)(m0:Mem)(nl0:Bool)(t0:Id)(w:Wb)(y:WY)(d:D)(m':Mem):Prop:=d=y.1∧match y.2.2 with
 |none=>Ai m' i 0 30=some (wkC w y.2.1 t0)∧∀j x d,(j≠i∨30<=x)->m0 j x=some d->m' j x=some d
 |some l=>Ai m' i 0 30=some (wkC w y.2.1 (l++fr))∧m' (l++fr) 0=some (.tok 108)∧(nl0=false->m' t0 0=some (.tok 0))∧∀j x d,(j≠i∨30<=x)->(nl0=true∨j≠t0∨x≠0)->m0 j x=some d->m' j x=some d
section
variable{i fr t0 t:Id}{m0 m m':Mem}{nl0:Bool}{w:Wb}{o o':Oc}
theorem wt_bool(h:Ai m i 0 30=some (wkC w o t)):m i 0=some (.bool w.v.se):=Bp h rfl
theorem tok_ne(h:atW m i (w,o,t))(hn:o.nl=false):i≠t:=by
 rintro rfl;have h1:=wt_bool h.1;have h2:=Ef h.2.1 hn;rw[h1]at h2;cases h2
theorem zero_ne(h:Ai m i 0 30=some (wkC w o t))(h2:m t0 0=some (.tok 0)):t0≠i:=by
 rintro rfl;rw[wt_bool h]at h2;cases h2
theorem Wt.put(h:Wt i fr m0 nl0 t0 m w o t)(hfr:∀j x,fr<:+j->m0 j x=none)(hni:∀k,(i=k::fr)=False){q p:Nat}{ys:List D}:Wt i fr m0 nl0 t0 (m.put (q::fr) p ys) w o t:=by
 obtain⟨⟨a1,a2,a3⟩,hl,hs,hc⟩:=h;have hi:i≠q::fr:=λe=>(hni q).mp e
 have hout:∀j x d,m0 j x=some d->j≠q::fr:=λj x d hm e=>by
  rw[e,hfr (q::fr) _ ⟨[q],rfl⟩]at hm;cases hm
 refine⟨⟨by rw[rdC_oth hi];exact a1,?_,a3⟩,hl,hs,?_⟩
 ·rw[←a2];exact DN (by rw[Mem.put_other (hl q)])
 ·rcases hc with ⟨c1,c0,c2⟩|⟨c1,c2,c3,c4⟩
  ·refine .inl ⟨c1,c0,λj x d hj hm=>?_⟩;rw[Mem.put_other (hout j x d hm)];exact c2 j x d hj hm
  ·refine .inr ⟨c1,c2,λh0=>?_,λj x d hj hj2 hm=>?_⟩
   ·rw[Mem.put_other (λe=>hs h0 (by rw[e];exact⟨[q],rfl⟩))];exact c3 h0
   ·rw[Mem.put_other (hout j x d hm)];exact c4 j x d hj hj2 hm
theorem Wt.cell(h:Wt i fr m0 nl0 t0 m w o t)(hcell:Ai m' i 0 30=some (wkC w o' t))(h1:o'.nl=o.nl)(h2:o'.ops=o.ops)(hm':∀j x,(j≠i∨30<=x)->m' j x=m j x):Wt i fr m0 nl0 t0 m' w o' t:=by
 obtain⟨a,hl,hs,hc⟩:=h;refine⟨⟨hcell,?_,by show o'.nl=true->t=[];rw[h1];exact a.2.2⟩,hl,hs,?_⟩
 ·show BG m' 107 o'.nl t o'.ops.isEmpty=true;rw[h1,h2];have ht:=a.2.1;cases hn:o.nl with
  |true=>simp only[hn,BG,if_true]at ht ⊢;exact ht
  |false=>
   have hne:=tok_ne a hn;simp only[hn]at ht;rw[←ht];exact DN (hm' t 0 (.inl (λe=>hne e.symm)))
 ·rcases hc with ⟨c1,c0,c2⟩|⟨c1,c2,c3,c4⟩
  ·exact .inl ⟨c1,by rw[h1];exact c0,λj x d hj hm=>by rw[hm' j x hj];exact c2 j x d hj hm⟩
  ·exact .inr ⟨c1,by rw[h1];exact c2,λh0=>by rw[hm' t0 0 (.inl (zero_ne a.1 (c3 h0)))];exact c3 h0,λj x d hj hj2 hm=>by rw[hm' j x hj];exact c4 j x d hj hj2 hm⟩
theorem put_i{cs:List D}(hl:cs.length=30):∀j x,(j≠i∨30<=x)->(m.put i 0 cs) j x=m j x:=λj x h=>by
 rcases h with h|h
 ·rw[Mem.put_other h]
 ·by_cases hj:j=i
  ·subst hj;rw[Mem.put_out (by omega)]
  ·rw[Mem.put_other hj]
theorem FD{nl:Bool}{xs:List D}{e:Nat}{f:Id}{j:Id}{x:Nat}:Upd.app m (Be e f (.slice nl t xs)) j x=if j=f∧x=0 then some (.tok (e+1))else if nl=false∧j=t∧x=0 then some (.tok 0)else m j x:=CM
def nameW(t fr:Id):Option (List Nat)->Id
 |none=>t
 |some l=>l++fr
theorem Wt.call(h:Wt i fr m0 nl0 t0 m w o t)(hfr:∀j x,fr<:+j->m0 j x=none)(hni:∀k l,(i=l++k::fr)=False){k:Nat}{d:D}{ol:Option (List Nat)}
  (hs1:ol=none->o'.nl=o.nl∧o'.ops=o.ops) (hs2:∀l,ol=some l->o'.nl=false∧l≠[]):
  Wt i fr m0 nl0 t0 (Upd.app m (updW i w o t (k::fr) (d,o',ol))) w o' (nameW t (k::fr) ol)∧∀q x,Upd.app m (updW i w o t (k::fr) (d,o',ol)) (q::fr) x=m (q::fr) x:=by
 cases ol with
 |none=>
  obtain⟨h1,h2⟩:=hs1 rfl;refine⟨h.cell (rdC_same' (Cu _ _ _)) h1 h2 (put_i (Cu _ _ _)),λq x=>?_⟩;have e0:q::fr≠i:=λe=>(hni q []).mp e.symm
  show(m.put i 0 _) (q::fr) x=_;rw[Mem.put_other e0]
 |some l=>
  obtain⟨hn,hl0⟩:=hs2 l rfl;obtain⟨a,hl,hs,hc⟩:=h;have hit:i≠l++k::fr:=λe=>(hni k l).mp e
  have key:∀j x,Upd.app m (updW i w o t (k::fr) (d,o',some l)) j x=if j=l++k::fr∧x=0 then some (.tok 108)else if o.nl=false∧j=t∧x=0 then some (.tok 0)else(m.put i 0 (wkC w o' (l++k::fr))) j x:=λj x=>FD (m:=m.put i 0 (wkC w o' (l++k::fr)))
  have ne1:∀q,q::fr≠l++k::fr:=λq e=>by
   have:=congrArg List.length e;simp only[Qr,Qj]at this;exact hl0 (Qq.1 (by omega))
  have suf:fr<:+l++k::fr:=⟨l++[k],by simp⟩;refine⟨⟨⟨?_,?_,λh=>absurd h (by rw[hn];simp)⟩,λq e=>ne1 q e.symm,hs,.inr ⟨⟨l,k,rfl⟩,hn,λh0=>?_,λj x dd hj hj2 hm=>?_⟩⟩,λq x=>?_⟩
  ·show Ai _ i 0 30=some (wkC w o' (l++k::fr));rw[←rdC_same' (m:=m) (i:=i) (Cu w o' (l++k::fr))];refine Bu (λq hq=>?_);have hq1:q.1=i:=by
    simp only[Ae,QL]at hq;obtain⟨_,_,rfl⟩:=hq;rfl
   rw[key,hq1,if_neg (λe=>hit e.1),if_neg (λe=>tok_ne a e.1 e.2.1)]
  ·show BG _ 107 o'.nl (l++k::fr) _=true;rw[hn];unfold BG;rw[if_neg Qu];simp only[key,and_self,if_true];cases l<;>simp
  ·have hne:t0≠l++k::fr:=λe=>hs h0 (e▸suf)
   rw[key,if_neg (λe=>hne e.1)];rcases hc with ⟨c1,c0,c2⟩|⟨c1,c2,c3,c4⟩
   ·rw[if_pos ⟨c0.trans h0,c1.symm,rfl⟩]
   ·split
    ·rfl
    ·rw[Mem.put_other (zero_ne a.1 (c3 h0))];exact c3 h0
  ·have hne:j≠l++k::fr:=λe=>by rw[e,hfr _ _ suf]at hm;cases hm
   rw[key,if_neg (λe=>hne e.1)];have hold:m j x=some dd:=by
    rcases hc with ⟨c1,c0,c2⟩|⟨c1,c2,c3,c4⟩
    ·exact c2 j x dd hj hm
    ·exact c4 j x dd hj hj2 hm
   rw[if_neg]
   ·rw[put_i (Cu _ _ _) j x hj];exact hold
   ·rintro⟨e1,e2,e3⟩;rcases hc with ⟨c1,c0,c2⟩|⟨⟨l',k',c1⟩,c2,c3,c4⟩
    ·rcases hj2 with h|h|h
     ·rw[←c0,e1]at h;cases h
     ·exact h (e2.trans c1)
     ·exact h e3
    ·rw[e2,c1,hfr _ _ ⟨l'++[k'],by simp⟩]at hm;cases hm
  ·have e0:q::fr≠i:=λe=>(hni q []).mp e.symm
   rw[key,if_neg (λe=>ne1 q e.1),if_neg (λe=>hl q e.2.1.symm),Mem.put_other e0]
theorem Wt.start(h:atW m i (w,o,t))(hfr:∀j x,fr<:+j->m j x=none):Wt i fr m o.nl t m w o t:=by
 have hs:o.nl=false->¬fr<:+t:=λhn hs=>by
  have:=Ef h.2.1 hn;rw[hfr _ _ hs]at this;cases this
 refine⟨h,λq e=>?_,hs,.inl ⟨rfl,rfl,λ_ _ _ _ h=>h⟩⟩;cases hn:o.nl with
 |true=>have:=h.2.2 hn;simp only at this;rw[this]at e;cases e
 |false=>exact hs hn (by rw[e];exact⟨[q],rfl⟩)
theorem Wt.end0(h:Wt i fr m0 nl0 t0 m w o t0)(hn0:nl0=true->t0=[]){d:D}:WE i fr m0 nl0 t0 w (d,o,none) d m:=by
 refine⟨rfl,h.at_.1,?_⟩;rcases h.ch with ⟨c1,c0,c2⟩|⟨⟨l,k,c1⟩,c2,c3,c4⟩
 ·exact c2
 ·exfalso;cases hn:nl0 with
  |true=>rw[hn0 hn]at c1;simp at c1
  |false=>exact h.sub0 hn (c1▸⟨l++[k],by simp⟩)
theorem Wt.endl{l:List Nat}(h:Wt i fr m0 nl0 t0 m w o (l++fr))(hl:l≠[]){d:D}:WE i fr m0 nl0 t0 w (d,o,some l) d m:=by
 refine⟨rfl,h.at_.1,?_⟩;rcases h.ch with ⟨c1,c0,c2⟩|⟨⟨l',k,c1⟩,c2,c3,c4⟩
 ·exfalso;cases hn:nl0 with
  |true=>
   have:=h.at_.2.2 (c0.trans hn);simp only[List.append_eq_nil_iff]at this;exact hl this.1
  |false=>exact h.sub0 hn (c1▸⟨l,rfl⟩)
 ·exact⟨Ef h.at_.2.1 c2,c3,c4⟩
end
def runsW(S:Summs)(dc:DC)(rs:List RV)(N:Nat)(w:Wb)(o:Oc)(rest:List D)(y:WY):Prop:=rest.length+1<=N∧(y.2.2=none->y.2.1.nl=o.nl∧y.2.1.ops=o.ops)∧(∀l,y.2.2=some l->y.2.1.nl=false∧l≠[])∧
 ∀(i:Id)(m:Mem)(fr t:Id),atW m i (w,o,t)->(∀j x,fr<:+j->m j x=none)->(∀k l,(i=l++k::fr)=False)->(∀k,(i=k::fr)=False)->
  dc.wp S fr (DE rs (WE i fr m o.nl t w y)) ⟨Bx (.ptr i 0::rest),m,0⟩
open Classical in
def RW(S:Summs)(dc:DC)(rs:List RV)(N:Nat):Wb->Oc->List D->Option WY:=λw o rest=>if h:∃y,runsW S dc rs N w o rest y then some (Classical.choose h)else none
theorem Ej{S:Summs}{dc:DC}{rs:List RV}{N:Nat}{w:Wb}{o:Oc}{rest:List D}{y:WY}(h:RW S dc rs N w o rest=some y):runsW S dc rs N w o rest y:=by
 unfold RW at h;split at h
 ·rename_i hx;simp only[Qe]at h;subst h;exact Classical.choose_spec hx
 ·cases h
theorem one_w(w:Wb)(o:Oc)(ho:o.nl=true->o.ops=[]):∃(m:Mem)(t:Id),atW m [0] (w,o,t)∧(∀j x,[1]<:+j->m j x=none)∧¬[1]<:+t:=by
 have n1:¬[1]<:+[0]:=by decide
 have n2:¬[1]<:+[2]:=by decide
 cases hn:o.nl with
 |true=>
  refine⟨Mem.put (λ_ _=>none) [0] 0 (wkC w o []),[],⟨rdC_same' (Cu _ _ _),?_,λ_=>rfl⟩,λj x hj=>?_,by decide⟩
  ·show BG _ 107 o.nl [] o.ops.isEmpty=true;rw[hn,ho hn];rfl
  ·rw[Mem.put_other (λe=>n1 (by rw[←e];exact hj))]
 |false=>
  refine⟨(Mem.put (λ_ _=>none) [0] 0 (wkC w o [2])).put [2] 0 [.tok 108],[2],⟨?_,?_,λh=>?_⟩,λj x hj=>?_,n2⟩
  ·rw[rdC_oth (by decide)];exact rdC_same' (Cu _ _ _)
  ·show BG _ 107 o.nl [2] o.ops.isEmpty=true;rw[hn];unfold BG;rw[if_neg Qu];simp[Mem.put]
  ·simp only at h;rw[hn]at h;cases h
  ·rw[Mem.put_other (λe=>n2 (by rw[←e];exact hj)),Mem.put_other (λe=>n1 (by rw[←e];exact hj))]
theorem A8{S:Summs}{dc:DC}{rs:List RV}{N:Nat}{w:Wb}{o:Oc}{rest:List D}{y:WY}(ho:o.nl=true->o.ops=[])(hy:runsW S dc rs N w o rest y):RW S dc rs N w o rest=some y:=by
 have hx:∃y,runsW S dc rs N w o rest y:=⟨y,hy⟩;unfold RW;rw[dif_pos hx];obtain⟨m,t,h1,h2,h3⟩:=one_w w o ho;have e1:∀k l,(([0]:Id)=l++k::[1])=False:=λk l=>eq_false (λe=>by
  have:=congrArg Q8 e;simp at this)
 have e2:∀k,(([0]:Id)=k::[1])=False:=λk=>eq_false (λe=>by simp at e)
 obtain⟨d,m',a,b⟩:=ends_det ((Classical.choose_spec hx).2.2.2 [0] m [1] t h1 h2 e1 e2) (hy.2.2.2 [0] m [1] t h1 h2 e1 e2);generalize Classical.choose hx=z at *;obtain⟨z1,z2,z3⟩:=z;obtain⟨y1,y2,y3⟩:=y;obtain⟨rfl,a⟩:=a;obtain⟨hd,b⟩:=b;simp only at hd;subst hd;cases z3 with
 |none=>
  cases y3 with
  |none=>
   have:=a.1.symm.trans b.1;simp only[Qe]at this;rw[(wkC_inj this).2.1]
  |some l=>
   have:=a.1.symm.trans b.1;simp only[Qe]at this;exact absurd ⟨l,(wkC_inj this).2.2.symm⟩ h3
 |some l=>
  cases y3 with
  |none=>
   have:=a.1.symm.trans b.1;simp only[Qe]at this;exact absurd ⟨l,(wkC_inj this).2.2⟩ h3
  |some l2=>
   have:=a.1.symm.trans b.1;simp only[Qe]at this;obtain⟨_,e3,e4⟩:=wkC_inj this;rw[e3,List.append_cancel_right e4]
theorem CU{S:Summs}{f:FuncId}{N:Nat}{dc:DC}{rs:List RV}(hf:Fn Qb f N dc rs)(hS:Summs.ok Qb S):(wQ (RW S dc rs N)).ok Qb f:=by
 refine opn_ok2 hS hf wQ_loc (λds m fr r u hex hfr=>?_);simp only[wQ]at hex;split at hex
 ·rename_i i rest;rw[Option.bind_eq_some_iff]at hex;obtain⟨⟨w,o,t⟩,hp,hex⟩:=hex;rw[Q6]at hex;obtain⟨y,hF,hex⟩:=hex;simp only[QM]at hex;obtain⟨rfl,rfl⟩:=hex;have hat:=pickW_get hp;obtain⟨hN,hs1,hs2,hrun⟩:=Ej hF;have hm0:m i 0=some (.bool w.v.se):=wt_bool hat.1;have hni:∀k l,(i=l++k::fr)=False:=λk l=>eq_false (λe=>by
   rw[e,hfr _ _ ⟨l++[k],by simp⟩]at hm0;cases hm0)
  refine⟨hN,wp_mono' (hrun i m fr t hat hfr hni (λk=>hni k [])) (λe st' he=>?_)⟩;obtain⟨he1,d,he2,rfl,hE⟩:=he;refine⟨he1,_,he2,rfl,λj x dd hx=>?_⟩;obtain⟨y1,y2,y3⟩:=y;cases y3 with
  |none=>
   obtain⟨g1,g2⟩:=hE;have hx':(m.put i 0 (wkC w y2 t)) j x=some dd:=hx;by_cases hj:j≠i∨30<=x
   ·rw[put_i (Cu _ _ _) j x hj]at hx';exact g2 j x dd hj hx'
   ·have hji:j=i:=Classical.byContradiction (λh=>hj (.inl h));have hx30:x<30:=Nat.lt_of_not_le (λh=>hj (.inr h));subst hji;have hput:=Mem.put_same (m:=m) (i:=j) (o:=0) (j:=x) (ds:=wkC w y2 t) (by rw[Cu];exact hx30);rw[QB]at hput;rw[hput]at hx';exact Bp g1 hx'
  |some l=>
   obtain⟨g1,g2,g3,g4⟩:=hE;obtain⟨hn,hl0⟩:=hs2 l rfl;have hx':Upd.app (m.put i 0 (wkC w y2 (l++fr))) (Be 107 (l++fr) (.slice o.nl t (Dr o.ops))) j x=some dd:=hx;rw[FD]at hx';split at hx'
   ·rename_i e;rw[e.1,e.2];rw[g2];exact hx'
   ·split at hx'
    ·rename_i e;rw[e.2.1,e.2.2,g3 e.1];exact hx'
    ·rename_i e1 e2;by_cases hj:j≠i∨30<=x
     ·rw[put_i (Cu _ _ _) j x hj]at hx';refine g4 j x dd hj ?_ hx';cases ho:o.nl with
      |true=>exact .inl rfl
      |false=>
       by_cases h1:j=t
       ·by_cases h2:x=0
        ·exact absurd ⟨ho,h1,h2⟩ e2
        ·exact .inr (.inr h2)
       ·exact .inr (.inl h1)
     ·have hji:j=i:=Classical.byContradiction (λh=>hj (.inl h));have hx30:x<30:=Nat.lt_of_not_le (λh=>hj (.inr h));subst hji;have hput:=Mem.put_same (m:=m) (i:=j) (o:=0) (j:=x) (ds:=wkC w y2 (l++fr)) (by rw[Cu];exact hx30);rw[QB]at hput;rw[hput]at hx';exact Bp g1 hx'
 ·cases hex
theorem got_w{F:Wb->Oc->List D->Option WY}{w:Wb}{o:Oc}{t i fr:Id}{m:Mem}{rest:List D}{y:WY}{K:D×Upd->Prop}{g}(ha:atW m i (w,o,t))(hF:F w o rest=some y)(h:K (y.1,updW i w o t fr y)):Got ((wQ F).ex (.ptr i 0::rest) m fr) K g:=by
 refine Got.intro ?_ h;simp only[wQ,pickW_eq ha (λz hz=>atW_uniq ha hz),Q2,hF,Qt]
end Go.Vd
namespace Go.Vd
open Go.Proofs
def dc140:DC:=(sr [oo 4 (.alloc [(.int .i64 0),(.bool false)])] (sr [mm 8 0,nk 9 8,ff 10 0 9,ff 11 3 10,lk 12 1 11,mm 13 1,cc 14 248 [(.t 12),(.t 13)],mm 7 14,xx 15 0 7,xx 16 1 7,oo 5 (.alloc [(.str []),(.int .i64 0),(.bool false)]),oz (.store 3 (.t 5) (.t 15)),mm 6 16] (sr [ff 17 1 5,lk 18 2 17,oz (.store 2 (.t 4) (.t 18))] .ret)))
theorem fn140:Fn Qb 140 19 dc140 [.cell (some 2) 4]:=Am func140
def dc244:DC:=(sr [oo 5 (.box (.t 2))] (sr [lk 9 4 5,cc 10 340 [(.t 9)],mm 8 10,xx 11 0 8,xx 12 1 8,mm 6 11,mm 7 12] (.row [mm 13 0,mm 14 1,cc 15 123 [(.c (.int .u8 1)),(.t 14),(.c (.int .i64 0))],mm 16 6,cc 17 122 [(.t 13),(.c (.int .u8 1)),(.t 15),(.t 16)]])))
theorem fn244:Fn Qb 244 18 dc244 []:=Am func244
def dc245l0:DC:=(sr [bt 11 .lss 10 9] (.seq (cd 11 .skip (.exit 0)) (.seq (.block 1 (sr [ii 12 1 8 10,ll 13 12,mm 7 13] (.row [mm 14 0,mm 15 1,mm 16 7,cc 17 123 [(.c (.int .u8 2)),(.t 15),(.t 16)],cc 18 122 [(.t 14),(.c (.int .u8 2)),(.t 17),(.c (.str []))]]))) (.row [bi 19 .add 10 1,mm 10 19]))))
def dc245:DC:=(sr [mm 8 2,nn 9 false 8,ci 10 0] (.block 0 (.loop dc245l0)))
theorem fn245:Fn Qb 245 20 dc245 []:=Am func245
def dc138:DC:=(sr [oo 7 (.box (.t 2))] (.seq (.drawn [lk 15 4 7,mm 16 0,mm 17 1,cc 18 140 [(.t 16),(.t 17)],mm 19 3,mm 20 4,nn 21 true 20,cc 22 243 [(.t 15),(.t 18),(.t 19),(.t 21)],mm 14 22,xx 23 0 14,xx 24 1 14,xx 25 2 14,xx 26 3 14,oo 10 (.alloc [(.int .i64 0),(.bool false),(.int .i64 0),(.slice true [] [])]),oz (.store 4 (.t 10) (.t 23)),mm 11 24,mm 12 25,mm 13 26] [(3,0),(3,13),(7,13),(13,0),(13,3),(13,7)]) (.seq (sr [mm 27 13,bi 28 .neq 27 0] (cd 28 (sr [mm 29 0,mm 30 13,cc 31 54 [(.t 29),(.t 30)]] .ret) .skip)) (sr [mm 32 0,mm 33 1,lk 34 4 10,cc 35 244 [(.t 32),(.t 33),(.t 34)]] (sr [mm 36 0,mm 37 1,mm 38 11,cc 39 123 [(.c (.int .u8 2)),(.t 37),(.t 38)],mm 40 4,cc 41 122 [(.t 36),(.c (.int .u8 1)),(.t 39),(.t 40)]] (sr [mm 42 0,mm 43 1,mm 44 12,cc 45 245 [(.t 42),(.t 43),(.t 44)]] (.row [mm 46 0,mm 47 11,oo 48 (.build [(.int .u8 0),(.int .i64 0),(.int .i64 0),(.str []),(.slice true [] []),(.int .i64 0),(.bool false),(.int .i64 0),(.slice true [] []),(.bool false)] [(0,1,(.c (.int .u8 2))),(2,1,(.t 47))]),cc 49 55 [(.t 46),(.t 48)]])))))))
theorem fn138:Fn Qb 138 50 dc138 []:=Am func138
def dc141:DC:=(sr [oo 5 (.box (.t 1))] (.seq (sr [mm 8 3,bi 9 .neq 8 0] (cd 9 (sr [mm 10 0,mm 11 3,cc 12 54 [(.t 10),(.t 11)]] .ret) .skip)) (.seq (.drawn [mm 13 0,mm 14 0,nk 15 14,ff 16 5 15,ff 17 2 16,ll 18 17,lk 19 4 5,cc 20 244 [(.t 13),(.t 18),(.t 19)]] []) (sr [mm 21 0,mm 22 0,nk 23 22,ff 24 5 23,ff 25 2 24,ll 26 25,mm 27 2,cc 28 245 [(.t 21),(.t 26),(.t 27)]] (.row [mm 29 0,cc 30 56 [(.t 29)]])))))
theorem fn141:Fn Qb 141 31 dc141 []:=Am func141
def dc142l0:DC:=(sr [bt 18 .lss 17 16] (.seq (cd 18 .skip (.exit 0)) (.seq (.block 1 (sr [ii 19 3 15 17,lk 20 3 19,oo 5 (.alloc [(.int .i64 0),(.bool false),(.bool false)]),oz (.store 3 (.t 5) (.t 20))] (sr [ff 21 2 5,ll 22 21,oo 23 (.un .not (.t 22))] (cd 23 (.drawn [mm 24 0,mm 25 0,nk 26 25,ff 27 5 26,ff 28 2 27,ll 29 28,ff 30 0 5,ll 31 30,oo 32 (.bslice 3 1 [(.t 31)]),cc 33 245 [(.t 24),(.t 29),(.t 32)]] [(8,5)]) .skip)))) (.row [bi 34 .add 17 1,mm 17 34]))))
def dc142:DC:=(sr [oo 3 (.box (.t 1))] (sr [mm 6 0,mm 7 0,nk 8 7,ff 9 5 8,ff 10 2 9,ll 11 10,cc 12 123 [(.c (.int .u8 1)),(.t 11),(.c (.int .i64 0))],cc 13 122 [(.t 6),(.c (.int .u8 2)),(.t 12),(.c (.str []))]] (.seq (sr [ff 14 3 3,ll 15 14,nn 16 false 15,ci 17 0] (.block 0 (.loop dc142l0))) (.row [mm 35 0,cc 36 56 [(.t 35)]]))))
theorem fn142:Fn Qb 142 37 dc142 []:=Am func142
end Go.Vd
namespace Go.Vd
open Go.Proofs Go.RowKit
theorem AO{m:Mem}{i:Id}{w:Wb}{o:Oc}{t:Id}(h:Ai m i 0 30=some (wkC w o t)):m i 0=some (.bool w.v.se)∧m i 1=some (.int .i64 w.v.te)∧m i 2=some (.str w.v.key)∧m i 3=some (.slice w.v.nlm [] (Ar w.v.ms))∧m i 4=some (.slice w.v.nlt [] (Av w.v.ks))∧m i 5=some (.int .u8 w.a.op)∧m i 6=some (.str w.a.tk)∧m i 7=some (.str w.a.pa)∧m i 8=some (.str w.a.ot)∧m i 9=some (.int .i64 w.a.n)∧m i 10=some (.int .i64 w.a.cas)∧m i 11=some (.bool w.a.fl)∧m i 12=some (.slice w.a.nln [] (AR w.a.ns))∧m i 13=some (.str w.a.da)∧m i 14=some (.slice w.a.nlr [] (Al w.a.rs))∧m i 15=some (.str w.a.key)∧m i 16=some (.slice w.k.es.isEmpty [] (w.k.es.map λx=> .str x.1))∧m i 17=some (.slice w.k.es.isEmpty [] (w.k.es.map λx=> .str x.2.1))∧m i 18=some (.slice w.k.es.isEmpty [] (w.k.es.map λx=> .bool x.2.2))∧m i 19=some (.slice w.k.ls.isEmpty [] (w.k.ls.map λx=> .str x.1))∧m i 20=some (.slice w.k.ls.isEmpty [] (w.k.ls.map lsD))∧m i 21=some (.str o.need)∧m i 22=some (.bool o.li)∧m i 23=some (.str o.rep)∧m i 24=some (.slice o.nl t (Dr o.ops))∧m i 25=some (.bool o.vw.se)∧m i 26=some (.int .i64 o.vw.te)∧m i 27=some (.str o.vw.key)∧m i 28=some (.slice o.vw.nlm [] (Ar o.vw.ms))∧m i 29=some (.slice o.vw.nlt [] (Av o.vw.ks)):=
 ⟨Bp h rfl,Bp h rfl,Bp h rfl,Bp h rfl,Bp h rfl,Bp h rfl,Bp h rfl,Bp h rfl,Bp h rfl,Bp h rfl,Bp h rfl,Bp h rfl,Bp h rfl,Bp h rfl,Bp h rfl,Bp h rfl,Bp h rfl,Bp h rfl,Bp h rfl,Bp h rfl,Bp h rfl,Bp h rfl,Bp h rfl,Bp h rfl,Bp h rfl,Bp h rfl,Bp h rfl,Bp h rfl,Bp h rfl,Bp h rfl⟩
theorem Wt.cellp{i fr t0 t:Id}{m0 m:Mem}{nl0:Bool}{w:Wb}{o o':Oc}{p:Nat}{ys:List D}(h:Wt i fr m0 nl0 t0 m w o t)(hl:p+ys.length<=30)(hc:(wkC w o t).take p++ys++(wkC w o t).drop (p+ys.length)=wkC w o' t)(h1:o'.nl=o.nl)(h2:o'.ops=o.ops):Wt i fr m0 nl0 t0 (m.put i p ys) w o' t:=by
 refine h.cell (by rw[rd_put h.at_.1 hl,hc]) h1 h2 (λj x hj=>?_);rcases hj with hj|hj
 ·rw[Mem.put_other hj]
 ·by_cases e:j=i
  ·subst e;rw[Mem.put_out (by omega)]
  ·rw[Mem.put_other e]
structure Oc0 (o:Oc):Prop where
 nl:o.nl=true
 ops:o.ops=[]
def S54:Summs:=AF [(120,Ac R120)]
def W54:Wb->Oc->List D->Option WY:=RW S54 dc54 [] 14
theorem ko54:(wQ W54).ok Qb 54:=CU fn54 (Ab ko120 Ad)
theorem W54_eq(w:Wb)(o:Oc)(e:Int)(h0:Oc0 o)(he:1<=e∧e<=99):W54 w o [.int .i64 e]=some (.tup [],⟨[],false,ryT (.fail e),true,[],w.v⟩,none):=by
 refine A8 (λ_=>h0.ops) ⟨Qa rfl,λh=>⟨h0.nl.symm,h0.ops.symm⟩,λl h=>(by cases h),λi m fr t ha hfr hni hni0=>?_⟩;have s120:S54 120=some (Ac R120):=rfl;have hW:=Wt.start ha hfr;unfold dc54;have xx:=AO ha.1;have h120:=R120_eq e he;have ht:t=[]:=ha.2.2 h0.nl;simp only[gB1,↓go1,go5,reduceIte,simprocAttr,xx,Aa s120,h120]
 (refine An.intro (Aj ?_) ?_;(first|rfl|(simp[Ax,Aq,rds,Ae];done)|(simp[Ax,Aq,rds,Ae,Ac];done)))
 simp only[↓go1,go2,go3,simprocAttr];subst ht;exact(hW.cellp (o':=⟨[],false,ryT (.fail e),true,[],w.v⟩) (Qa rfl) rfl h0.nl.symm h0.ops.symm).end0 (λ_=>rfl)
def S55:Summs:=AF [(121,Ac R121)]
def W55:Wb->Oc->List D->Option WY:=RW S55 dc55 [] 13
theorem ko55:(wQ W55).ok Qb 55:=CU fn55 (Ab ko121 Ad)
theorem FZ(w:Wb)(o:Oc)(y:Ry)(ho:o.nl=true->o.ops=[])(h:ryOk y)(hn:ryN y):W55 w o [.agg (ryC y)]=some (.tup [],{o with rep:=ryT y},none):=by
 refine A8 ho ⟨Qa rfl,λh=>⟨rfl,rfl⟩,λl h=>(by cases h),λi m fr t ha hfr hni hni0=>?_⟩;have s121:S55 121=some (Ac R121):=rfl;have hW:=Wt.start ha hfr;unfold dc55;have xx:=AO ha.1;have h121:=R121_eq y h hn;have d0:((ryC y).map D.un1=ryC y∧(ryC y).all D.calm1=true)∧D.data (.agg (ryC y))=true∧(D.agg (ryC y)).cells=ryC y∧(ryC y).length=10:=by cases y<;>exact⟨⟨rfl,rfl⟩,rfl,rfl,rfl⟩
 obtain⟨⟨d1,d2⟩,d3,d4,d5⟩:=d0;obtain⟨a,b,cc,d,e,f,g,i',j,k,hc⟩:∃a b c d e f g i j k,ryC y=[a,b,c,d,e,f,g,i,j,k]:=by cases y<;>exact⟨_,_,_,_,_,_,_,_,_,_,rfl⟩
 rw[hc]at d1 d2 h121 ⊢;simp only[QU,Zb,Qw,and_true]at d1;simp only[List.all_cons,List.all_nil,Bool.and_true,QT]at d2;obtain⟨u0,u1,u2,u3,u4,u5,u6,u7,u8,u9⟩:=d1;obtain⟨k0,k1,k2,k3,k4,k5,k6,k7,k8,k9⟩:=d2;simp only[gB1,↓go1,go5,reduceIte,simprocAttr,xx.2.2.2.2.2.2.2.2.2.2.2.2.2.2.2.2.2.2.2.2.2.2.2.1,hni0,Aa s121,h121,u0,u1,u2,u3,u4,u5,u6,u7,u8,u9,k0,k1,k2,k3,k4,k5,k6,k7,k8,k9];exact((hW.put hfr hni0).cellp (o':={o with rep:=ryT y}) (Qa rfl) rfl rfl rfl).end0 ha.2.2
def S56:Summs:=AF [(55,wQ W55)]
def W56:Wb->Oc->List D->Option WY:=RW S56 dc56 [] 5
theorem ko56:(wQ W56).ok Qb 56:=CU fn56 (Ab ko55 Ad)
theorem W56_eq(w:Wb)(o:Oc)(ho:o.nl=true->o.ops=[]):W56 w o []=some (.tup [],{o with rep:=ryT .done},none):=by
 refine A8 ho ⟨Qa rfl,λh=>⟨rfl,rfl⟩,λl h=>(by cases h),λi m fr t ha hfr hni hni0=>?_⟩;have s55:S56 55=some (wQ W55):=rfl;have hW:=Wt.start ha hfr;unfold dc56;have h55:=FZ w o .done ho trivial trivial;unfold ryC at h55;simp only[↓go1,gB3,go5,reduceIte,simprocAttr,Ah s55];refine got_w ha h55 ?_;obtain⟨c1,c2⟩:=hW.call (o':={o with rep:=ryT .done}) (d:= .tup []) (ol:=none) (k:=2) hfr hni (λ_=>⟨rfl,rfl⟩) (λl h=>by cases h);simp only[↓go1,go2,simprocAttr];exact c1.end0 ha.2.2
def S133:Summs:=AF []
def W133:Wb->Oc->List D->Option WY:=RW S133 dc133 [] 16
theorem ko133:(wQ W133).ok Qb 133:=CU fn133 Ad
theorem W133_eq(w:Wb)(o:Oc)(q:Bs)(li:Bool)(h0:Oc0 o):W133 w o [.str q,.bool li]=some (.tup [],⟨q,li,[],true,[],w.v⟩,none):=by
 refine A8 (λ_=>h0.ops) ⟨Qa rfl,λh=>⟨h0.nl.symm,h0.ops.symm⟩,λl h=>(by cases h),λi m fr t ha hfr hni hni0=>?_⟩;have hW:=Wt.start ha hfr;unfold dc133;have xx:=AO ha.1;have ht:t=[]:=ha.2.2 h0.nl;simp only[gB1,↓go1,go5,reduceIte,simprocAttr,xx];subst ht;exact(hW.cellp (o':=⟨q,li,[],true,[],w.v⟩) (Qa rfl) rfl h0.nl.symm h0.ops.symm).end0 (λ_=>rfl)
def S122:Summs:=AF []
def Fc:Wb->Oc->List D->Option WY:=RW S122 dc122 [] 23
theorem ko122:(wQ Fc).ok Qb 122:=CU fn122 Ad
theorem W122_eq(w:Wb)(o:Oc)(k:Int)(key val:Bs)(ho:o.nl=true->o.ops=[])(hl:o.ops.length<=1000):Fc w o [.int .u8 k,.str key,.str val]=some (.tup [],{o with nl:=false,ops:=o.ops++[(k,key,val)]},some ([11])):=by
 refine A8 ho ⟨Qa rfl,λh=>(by cases h),λl h=>(by simp only[Qe]at h;subst h;exact⟨rfl,by simp⟩),λi m fr t ha hfr hni hni0=>?_⟩;have hW:=Wt.start ha hfr;unfold dc122;have xx:=AO ha.1;have hne:o.nl=false->i≠t:=λh=>tok_ne ha h
 have hnt:o.nl=false->m t 0=some (.tok 108):=λh=>Ef ha.2.1 h
 have hti:∀q,t≠q::fr:=hW.loc;have hon:o.nl=true->Dr o.ops=[]:=λh=>by rw[ho h];rfl
 have hops:Dr (o.ops++[(k,key,val)])=Dr o.ops++[.agg [.int .u8 k,.str key,.str val]]:=by simp[Dr,opD]
 have hlen:(Dr o.ops).length=o.ops.length:=opsD_len _;simp only[↓go1,gB3,go5,reduceIte,simprocAttr,xx.2.2.2.2.2.2.2.2.2.2.2.2.2.2.2.2.2.2.2.2.2.2.2.2.1];refine An.intro ⟨by simp only[hlen];omega,rfl,?_⟩ ?_
 ·cases hn:o.nl with
  |true=>exact .inl rfl
  |false=>exact .inr ⟨by rw[Mem.put_other (hti _)];exact hnt hn,by
    have:=Ef ha.2.1 hn;unfold atW BG at ha;simp only[hn,Qm,if_false,this,beq_self_eq_true,Bool.true_and]at ha;intro e;rw[e]at ha;simp at ha⟩
 rw[BK hon,rowU_grow];have key1:∀j x,Upd.app (m.put (10::fr) 0 [.tok 108]) (Be 107 (11::fr) (.slice o.nl t (Dr o.ops))) j x=if j=11::fr∧x=0 then some (.tok 108)else if o.nl=false∧j=t∧x=0 then some (.tok 0)else(m.put (10::fr) 0 [.tok 108]) j x:=λj x=>FD
 generalize hM:Upd.app (m.put (10::fr) 0 [.tok 108]) (Be 107 (11::fr) (.slice o.nl t (Dr o.ops)))=M at *;have hMi:∀x,M i x=m i x:=λx=>by
  rw[key1,if_neg (λe=>(hni0 11).mp e.1),if_neg (λe=>hne e.1 e.2.1),Mem.put_other (λe=>(hni0 10).mp e)]
 have hMc:Ai M i 0 30=some (wkC w o t):=by
  rw[←ha.1];exact Bu (λl hl=>by
   simp only[Ae,QL]at hl;obtain⟨_,_,rfl⟩:=hl;exact hMi _)
 simp only[gB1,↓go1,go5,reduceIte,simprocAttr,xx.2.2.2.2.2.2.2.2.2.2.2.2.2.2.2.2.2.2.2.2.2.2.2.2.1,hMi];refine⟨rfl,?_,?_,λh=>?_,λj x d hj hj2 hm=>?_⟩
 ·rw[rd_put hMc (Qa rfl),←hops];rfl
 ·show(M.put i 24 _) (11::fr) 0=_;rw[Mem.put_other (λe=>(hni0 11).mp e.symm),key1,if_pos ⟨rfl,rfl⟩]
 ·rw[Mem.put_other (λe=>hne h e.symm),key1,if_neg (λe=>hti 11 e.1),if_pos ⟨h,rfl,rfl⟩]
 ·have hjf:∀q,j≠q::fr:=λq e=>by rw[e,hfr (q::fr) _ ⟨[q],rfl⟩]at hm;cases hm
  have e1:(M.put i 24 [.slice false (11::fr) (Dr o.ops++[.agg [.int .u8 k,.str key,.str val]])]) j x=M j x:=by
   rcases hj with hj|hj
   ·rw[Mem.put_other hj]
   ·by_cases e:j=i
    ·subst e;rw[Mem.put_out (by simp;omega)]
    ·rw[Mem.put_other e]
  refine(show _=_ from e1).trans ?_;rw[key1,if_neg (λe=>hjf 11 e.1),if_neg,Mem.put_other (hjf 10)]
  ·exact hm
  ·rintro⟨a1,a2,a3⟩;rcases hj2 with h|h|h
   ·rw[a1]at h;cases h
   ·exact h a2
   ·exact h a3
end Go.Vd
namespace Go.Vd
open Go.Proofs
def dc57:DC:=(.seq (sr [mm 2 0,nk 3 2,ff 4 0 3,ff 5 1 4,ll 6 5,bi 7 .geq 6 6] (cd 7 (sr [mm 8 0,cc 9 54 [(.t 8),(.c (.int .i64 19))]] .ret) .skip)) (sr [mm 10 0,nk 11 10,ff 12 21 11,ff 13 4 12,ff 14 1 13,ll 15 14,bi 16 .add 15 1,nk 17 10,ff 18 21 17,ff 19 4 18,ff 20 1 19,oz (.store 1 (.t 20) (.t 16))] (.seq (.drawn [mm 21 0,cc 22 123 [(.c (.int .u8 5)),(.c (.str [])),(.c (.int .i64 0))],mm 23 0,nk 24 23,ff 25 21 24,ff 26 4 25,ff 27 1 26,ll 28 27,cc 29 125 [(.t 28)],cc 30 124 [(.c (.str [0])),(.t 29)],cc 31 122 [(.t 21),(.c (.int .u8 1)),(.t 22),(.t 30)]] [(1,7)]) (.row [mm 32 0,cc 33 56 [(.t 32)]]))))
theorem fn57:Fn Qb 57 34 dc57 []:=Am func57
def dc59l0:DC:=(sr [bt 44 .lss 43 42] (.seq (cd 44 .skip (.exit 0)) (.seq (.block 1 (sr [ii 45 1 41 43,ll 46 45,mm 5 46] (.row [mm 47 0,mm 48 5,cc 49 122 [(.t 47),(.c (.int .u8 3)),(.t 48),(.c (.str []))]]))) (.row [bi 50 .add 43 1,mm 43 50]))))
def dc59:DC:=(.seq (.drawn [mm 7 0,nk 8 7,ff 9 0 8,ff 10 3 9,lk 11 1 10,mm 12 0,nk 13 12,ff 14 5 13,ff 15 2 14,ll 16 15,cc 17 127 [(.t 11),(.t 16)],mm 6 17,xx 18 0 6,xx 19 1 6,oo 2 (.alloc [(.slice true [] [])]),oz (.store 1 (.t 2) (.t 18)),mm 3 19] [(10,14),(14,4),(14,9),(14,10)]) (.seq (sr [mm 20 3,bi 21 .neq 20 0] (cd 21 (sr [mm 22 0,mm 23 3,cc 24 54 [(.t 22),(.t 23)]] .ret) .skip)) (sr [mm 25 0,lk 26 1 2,nk 27 25,ff 28 21 27,ff 29 4 28,ff 30 3 29,oz (.store 1 (.t 30) (.t 26))] (.seq (.drawn [mm 31 0,cc 32 123 [(.c (.int .u8 4)),(.c (.str [])),(.c (.int .i64 0))],lk 33 1 2,cc 34 126 [(.t 33)],cc 35 122 [(.t 31),(.c (.int .u8 1)),(.t 32),(.t 34)]] [(1,2)]) (.seq (sr [mm 36 0,nk 37 36,ff 38 5 37,ff 39 2 38,ll 40 39,cc 41 128 [(.t 40)],nn 42 false 41,ci 43 0] (.block 0 (.loop dc59l0))) (.row [mm 51 0,cc 52 56 [(.t 51)]]))))))
theorem fn59:Fn Qb 59 53 dc59 []:=Am func59
def dc60:DC:=(.seq (.drawn [mm 7 0,nk 8 7,ff 9 5 8,ff 10 3 9,ll 11 10,mm 12 0,nk 13 12,ff 14 5 13,ff 15 1 14,ll 16 15,mm 17 0,nk 18 17,ff 19 5 18,ff 20 9 19,ll 21 20,oo 22 (.build [(.str []),(.str []),(.slice true [] [])] [(0,1,(.t 11)),(1,1,(.t 16)),(2,1,(.t 21))]),oo 2 (.alloc [(.str []),(.str []),(.slice true [] [])]),oz (.store 3 (.t 2) (.t 22))] [(16,4),(16,9),(16,14)]) (.seq (.drawn [mm 24 0,nk 25 24,ff 26 0 25,ff 27 4 26,lk 28 1 27,lk 29 3 2,cc 30 50 [(.t 28),(.t 29)],mm 23 30,xx 31 0 23,xx 32 1 23,oo 3 (.alloc [(.slice true [] [])]),oz (.store 1 (.t 3) (.t 31)),mm 4 32] [(6,10),(10,4),(10,5),(10,6)]) (.seq (sr [mm 33 4,bi 34 .eql 33 0,mm 35 34,og 36 (.mv (.t 0)) 2 true,og 37 (.nilchk (.t 36)) 2 true,og 38 (.faddr 0 (.t 37)) 2 true,og 39 (.faddr 4 (.t 38)) 2 true,og 40 (.load (some 1) (.t 39)) 2 true,og 41 (.call (.c (.fn 129 [])) [(.t 40)]) 2 true,og 42 (.len false (.t 41)) 2 true,og 43 (.bin .geq (.t 42) (.c (.int .i64 24))) 2 true,oo 44 (.pick (.t 35) (.t 43) (.c (.bool false)))] (cd 44 (.row [ci 4 24]) .skip)) (.seq (sr [mm 45 4,bi 46 .neq 45 0] (cd 46 (sr [mm 47 0,mm 48 4,cc 49 54 [(.t 47),(.t 48)]] .ret) .skip)) (sr [lk 51 3 2,cc 52 130 [(.t 51)],mm 50 52,xx 53 0 50,xx 54 1 50,mm 5 53,mm 6 54] (sr [mm 55 0,lk 56 1 3,nk 57 55,ff 58 21 57,ff 59 4 58,ff 60 4 59,oz (.store 1 (.t 60) (.t 56))] (sr [mm 61 0,mm 62 0,nk 63 62,ff 64 5 63,ff 65 3 64,ll 66 65,cc 67 123 [(.c (.int .u8 3)),(.t 66),(.c (.int .i64 0))],mm 68 5,cc 69 122 [(.t 61),(.c (.int .u8 1)),(.t 67),(.t 68)]] (.row [mm 70 0,cc 71 56 [(.t 70)]]))))))))
theorem fn60:Fn Qb 60 72 dc60 []:=Am func60
def dc61l0:DC:=(sr [bt 36 .lss 35 34] (.seq (cd 36 .skip (.exit 0)) (.seq (.block 1 (sr [ii 37 1 33 35,ll 38 37,mm 6 38] (.row [mm 39 0,mm 40 6,cc 41 123 [(.c (.int .u8 3)),(.t 40),(.c (.int .i64 0))],cc 42 122 [(.t 39),(.c (.int .u8 2)),(.t 41),(.c (.str []))]]))) (.row [bi 43 .add 35 1,mm 35 43]))))
def dc61:DC:=(.seq (.drawn [mm 8 0,nk 9 8,ff 10 0 9,ff 11 4 10,lk 12 1 11,mm 13 0,nk 14 13,ff 15 5 14,ff 16 3 15,ll 17 16,cc 18 131 [(.t 12),(.t 17)],mm 7 18,xx 19 0 7,xx 20 1 7,xx 21 2 7,oo 2 (.alloc [(.slice true [] [])]),oz (.store 1 (.t 2) (.t 19)),mm 3 20,mm 4 21] [(10,15),(15,4),(15,9),(15,10)]) (.seq (sr [mm 22 4,bi 23 .neq 22 0] (cd 23 (sr [mm 24 0,mm 25 4,cc 26 54 [(.t 24),(.t 25)]] .ret) .skip)) (sr [mm 27 0,lk 28 1 2,nk 29 27,ff 30 21 29,ff 31 4 30,ff 32 4 31,oz (.store 1 (.t 32) (.t 28))] (.seq (sr [mm 33 3,nn 34 false 33,ci 35 0] (.block 0 (.loop dc61l0))) (.row [mm 44 0,mm 45 3,oo 46 (.build [(.int .u8 0),(.int .i64 0),(.int .i64 0),(.str []),(.slice true [] []),(.int .i64 0),(.bool false),(.int .i64 0),(.slice true [] []),(.bool false)] [(0,1,(.c (.int .u8 5))),(4,1,(.t 45))]),cc 47 55 [(.t 44),(.t 46)]])))))
theorem fn61:Fn Qb 61 48 dc61 []:=Am func61
end Go.Vd
namespace Go.Vd
open Go.Proofs Go.RowKit
def Oc.op(o:Oc)(k:Int)(key val:Bs):Oc:={o with nl:=false,ops:=o.ops++[(k,key,val)]}
def BE(o:Oc)(p:Bs)(ns:List Int):Oc:={o with nl:=o.nl&&ns.isEmpty,ops:=o.ops++ns.map λn=>(2,AZ 2 p n,[])}
theorem dropO_op{o:Oc}{p:Bs}{ns:List Int}{n:Int}:(BE o p ns).op 2 (AZ 2 p n) []=BE o p (ns++[n]):=by
 simp[BE,Oc.op]
theorem dropO_nil{o:Oc}{p:Bs}:BE o p []=o:=by simp[BE]
def dropN(ns:List Int):Option (List Nat):=if ns=[]then none else some [11,11*ns.length]
def B6(v:Vw)(p:Bs):Int×Bool:=if Ch v.ms p=-1 then(0,false)else(Bk v.ms (Ch v.ms p).toNat).2
def rouE(v:Vw)(p:Bs):Bs×Int:=if Ch v.ms p=-1 then([],14)else((Bk v.ms (Ch v.ms p).toNat).1,0)
theorem route_eq(v:Vw)(p:Bs):routeD v.ms p= .tup [.agg [.str (rouE v p).1,.int .i64 (B6 v p).1,.bool (B6 v p).2],.int .i64 (rouE v p).2]:=by
 unfold routeD B6 rouE;split<;>rfl
theorem As{i fr t0 t:Id}{m0 m:Mem}{nl0:Bool}{w:Wb}{o o':Oc}{rest:List D}{d:D}{ol:Option (List Nat)}{F:Wb->Oc->List D->Option WY}{S:Summs}{c k n:Nat}{ops l:List DOper}{s:Nat->D}{dst:Option Nat}{K:Nat->(Nat->D)->Mem->Prop}{g}
  (hw:Wt i fr m0 nl0 t0 m w o t) (hfr:∀j x,fr<:+j->m0 j x=none) (hni:∀k l,(i=l++k::fr)=False) (hF:F w o rest=some (d,o',ol)) (hR:∃S dc rs N,F=RW S dc rs N)
  (h:∀M,Wt i fr m0 nl0 t0 M w o' (nameW t (n::fr) ol)->(∀q x,M (q::fr) x=m (q::fr) x)->Fm S fr c ops l k (CJ s dst d) M K):
  Got ((wQ F).ex (.ptr i 0::rest) m (n::fr)) (λx=>rowU S fr c ops l k s dst m K x.1 x.2) g:=by
 obtain⟨S',dc,rs,N,rfl⟩:=hR;obtain⟨_,hs1,hs2,_⟩:=Ej hF;refine got_w hw.at_ hF ?_;obtain⟨c1,c2⟩:=hw.call (o':=o') (d:=d) (ol:=ol) (k:=n) hfr hni hs1 hs2;exact h _ c1 c2
theorem Cg{i fr t0 t:Id}{m0 m:Mem}{nl0:Bool}{w:Wb}{o o':Oc}{rest:List D}{d:D}{ol:Option (List Nat)}{F:Wb->Oc->List D->Option WY}{S:Summs}{c k n:Nat}{ops l:List DOper}{s:Nat->D}{dst:Option Nat}{op:DOp}{K:Nat->(Nat->D)->Mem->List Foot->Prop}{g}
  (hw:Wt i fr m0 nl0 t0 m w o t) (hfr:∀j x,fr<:+j->m0 j x=none) (hni:∀k l,(i=l++k::fr)=False) (hF:F w o rest=some (d,o',ol)) (hR:∃S dc rs N,F=RW S dc rs N)
  (h:∀M u,u=updW i w o t (n::fr) (d,o',ol)->Wt i fr m0 nl0 t0 M w o' (nameW t (n::fr) ol)->(∀q x,M (q::fr) x=m (q::fr) x)->B_ S fr c ops l k (CJ s dst d) M λk' s' m' f=>K k' s' m' ((rds S s m op,Aq u)::f)):
  Got ((wQ F).ex (.ptr i 0::rest) m (n::fr)) (λx=>drawnU S fr c ops l k s dst m op K x.1 x.2) g:=by
 obtain⟨S',dc,rs,N,rfl⟩:=hR;obtain⟨_,hs1,hs2,_⟩:=Ej hF;refine got_w hw.at_ hF ?_;obtain⟨c1,c2⟩:=hw.call (o':=o') (d:=d) (ol:=ol) (k:=n) hfr hni hs1 hs2;exact h _ _ rfl c1 c2
theorem Dm(w:Wb)(o:Oc)(k:Int)(key val:Bs)(ho:o.nl=true->o.ops=[])(hl:o.ops.length<=1000):Fc w o [.int .u8 k,.str key,.str val]=some (.tup [],o.op k key val,some [11]):=W122_eq w o k key val ho hl
def S140:Summs:=AF [(248,Ac F248)]
def W140:Wb->Oc->List D->Option WY:=RW S140 dc140 [.cell (some 2) 4] 19
theorem ko140:(wQ W140).ok Qb 140:=CU fn140 (Ab ok248 Ad)
theorem W140_eq(w:Wb)(o:Oc)(p:Bs)(ho:o.nl=true->o.ops=[])(hm:w.v.ms.length<=1000):W140 w o [.str p]=some (.agg [.int .i64 (B6 w.v p).1,.bool (B6 w.v p).2],o,none):=by
 refine A8 ho ⟨Qa rfl,λh=>⟨rfl,rfl⟩,λl h=>(by cases h),λi m fr t ha hfr hni hni0=>?_⟩;have s248:S140 248=some (Ac F248):=rfl;have hW:=Wt.start ha hfr;unfold dc140;have xx:=AO ha.1;have h248:=F248_eq (nl:=w.v.nlm) (t:=[]) (l:=w.v.ms) (p:=p) (by omega);rw[route_eq]at h248;simp only[gB1,↓go1,go5,reduceIte,simprocAttr,xx,hni0,Aa s248,h248];exact((((hW.put hfr hni0).put hfr hni0).put hfr hni0).put hfr hni0).end0 ha.2.2
def S244:Summs:=AF [(340,Ac R340),(123,Ac B1),(122,wQ Fc)]
def W244:Wb->Oc->List D->Option WY:=RW S244 dc244 [] 18
theorem ko244:(wQ W244).ok Qb 244:=CU fn244 (Ab ko340 (Ab ko123 (Ab ko122 Ad)))
theorem W244_eq(w:Wb)(o:Oc)(p:Bs)(s:Sc)(ho:o.nl=true->o.ops=[])(hl:o.ops.length<=1000)(hs:s.rs.length<=1000)(hp:p.length<=1000000):W244 w o [.str p,.agg (scC s)]=some (.tup [],o.op 1 (AZ 1 p 0) (packB s),some ([11,12])):=by
 refine A8 ho ⟨Qa rfl,λh=>(by cases h),λl h=>(by simp only[Qe]at h;subst h;exact⟨rfl,by simp⟩),λi m fr t ha hfr hni hni0=>?_⟩;have s340:S244 340=some (Ac R340):=rfl;have s123:S244 123=some (Ac B1):=rfl;have s122:S244 122=some (wQ Fc):=rfl;have hW:=Wt.start ha hfr;unfold dc244;have h340:=R340_eq s hs;have h123:=Cy 1 0 p hp;have h122:=Dm w o 1 (AZ 1 p 0) (packB s) ho hl;unfold scC at *;simp only[gB1,↓go1,go5,reduceIte,simprocAttr,Aa s340,h340,Aa s123,h123,Ah s122];refine As (hW.put hfr hni0) hfr hni h122 ⟨_,_,_,_,rfl⟩ (λM c1 c2=>?_);simp only[↓go1,go2,simprocAttr];exact c1.endl (l:=[11,12]) (by simp)
def S245:Summs:=AF [(123,Ac B1),(122,wQ Fc)]
def W245:Wb->Oc->List D->Option WY:=RW S245 dc245 [] 20
theorem ko245:(wQ W245).ok Qb 245:=CU fn245 (Ab ko123 (Ab ko122 Ad))
theorem W245_eq(w:Wb)(o:Oc)(p:Bs)(nl:Bool)(tq:Id)(ns:List Int)(ho:o.nl=true->o.ops=[])(hl:o.ops.length+ns.length<=1000)(hp:p.length<=1000000):W245 w o [.str p,.slice nl tq (AR ns)]=some (.tup [],BE o p ns,dropN ns):=by
 refine A8 ho ⟨Qa rfl,λh=>(by unfold dropN at h;split at h<;>simp_all [BE]),λl h=>(by unfold dropN at h;split at h<;>simp_all [BE];subst h;simp),λi m fr t ha hfr hni hni0=>?_⟩;have s123:S245 123=some (Ac B1):=rfl;have s122:S245 122=some (wQ Fc):=rfl;have hW:=Wt.start ha hfr;unfold dc245;simp only[↓go1,go2,reduceIte,simprocAttr,BY];refine Bm (n:=ns.length) (I:=λj st=>st.s 8= .slice nl tq (AR ns)∧st.s 9= .int .i64 ns.length∧st.s 10= .int .i64 (j:Int)∧st.s 0= .ptr i 0∧st.s 1= .str p∧st.c=3+11*j∧Wt i fr m o.nl t st.m w (BE o p (ns.take j)) (if j=0 then t else [11,11*j]++fr)) (λj hj ih st g hI=>?_) (λst g hI=>?_) 0 (Qn _) _ _ ⟨rfl,rfl,rfl,rfl,rfl,rfl,by simp only[List.take_zero,dropO_nil,if_true];exact hW⟩
 ·obtain⟨st_s,st_m,st_c⟩:=st;obtain⟨h8,h9,h10,h0,h1,hc,hw⟩:=hI;simp only at h8 h9 h10 h0 h1 hc hw;refine Af dc245l0.eq_1 ?_;have hlt:((j:Int)<(ns.length:Int))=True:=eq_true (by omega);have hj0:(0:Int)<=(j:Int):=by omega
  have hat:=intsD_at' (l:=ns) (j:=j) hj;have hw1:IntKind.i64.wrap ((j:Int)+1)=((j+1:Nat):Int):=by rw[w64 (by omega) (by omega)];omega
  have h123:=Cy 2 ns[j] p hp;have hn1:(BE o p (ns.take j)).nl=true->(BE o p (ns.take j)).ops=[]:=λh=>by
   simp only[BE,QT,List.isEmpty_iff]at h ⊢;rw[ho h.1,h.2];rfl
  have hn2:(BE o p (ns.take j)).ops.length<=1000:=by simp[BE];omega
  have h122:=Dm w (BE o p (ns.take j)) 2 (AZ 2 p ns[j]) [] hn1 hn2;rw[dropO_op,←QC hj]at h122;simp only[↓go1,gB3,go5,reduceIte,simprocAttr,h0,h1,h8,h9,h10,hlt,hj0,Qc,hat,Aa s123,h123,Ah s122];refine As hw hfr hni h122 ⟨_,_,_,_,rfl⟩ (λM c1 c2=>?_);have e:nameW (if j=0 then t else [11,11*j]++fr) ((st_c+1+3+4)::fr) (some [11])=(if j+1=0 then t else [11,11*(j+1)]++fr):=by
   rw[if_neg (Nat.succ_ne_zero j)];show [11]++_::fr=_;rw[show st_c+1+3+4=11*(j+1)by omega];rfl
  rw[e]at c1;simp only[↓go1,go2,reduceIte,simprocAttr,h10,hw1];exact ih _ _ ⟨h8,h9,rfl,h0,h1,by simp only;omega,c1⟩
 ·obtain⟨st_s,st_m,st_c⟩:=st;obtain⟨h8,h9,h10,h0,h1,hc,hw⟩:=hI;simp only at h8 h9 h10 h0 h1 hc hw;refine Af dc245l0.eq_1 ?_;simp only[↓go1,go2,go4,go5,reduceIte,simprocAttr,h9,h10,Ql];rw[List.take_length]at hw;unfold dropN;cases ns with
  |nil=>exact hw.end0 ha.2.2
  |cons a r=>exact hw.endl (l:=[11,11*(r.length+1)]) (by simp)
end Go.Vd
end
