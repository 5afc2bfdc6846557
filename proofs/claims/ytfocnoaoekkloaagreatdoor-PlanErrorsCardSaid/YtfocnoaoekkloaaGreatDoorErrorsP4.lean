/-
  A part of the proof: the layers over the model. Nothing in it is assumed.
-/
import Derived.Test.YtfocnoaoekkloaaGreatDoorErrorsP3
import Derived.Test.YtfocnoaoekkloaaGreatDoorProg
import Derived.Lib.AppendZeros
import Derived.WalkKit
import Derived.Shelf.Strings.OnBuilder
import Derived.Shelf.Strings.BuilderRune
import Derived.Shelf.Strings.BuilderF

set_option linter.unusedSimpArgs false
set_option linter.unusedVariables false
set_option linter.defProp false
set_option maxHeartbeats 4000000
set_option maxRecDepth 100000
open Nat renaming reduceEqDiff→Qa,le_of_ble_eq_true→Qb,reduceAdd→Qd,succ_ne_zero→Qi,zero_ne_one→Qj,reduceLT→Ql,reduceLeDiff→Qm,zero_add→Qs,zero_le→Qv,reduceSub→Qz,lt_or_eq_of_le→QR,le_refl→QS,le_of_lt_succ→QW,not_lt_zero→Q1,sub_self→Zn
open Go.Proofs.Tryz renaming prog→Qc
open List renaming getElem?_cons_succ→Qe,getElem?_eq_getElem→Qg,length_map→Qk,length_append→Qo,take_of_length_le→Qx,length_eq_zero_iff→QA,getElem?_cons_zero→QB,append_assoc→QC,append_nil→QD,all_eq_true→QE,drop_eq_getElem_cons→QH,getElem_mem→QI,mem_map→QJ,getElem?_append_right→QL,length_take→QM,cons_append→QN,length_cons→QO,getElem?_eq_some_iff→QP,map_congr_left→QQ,findIdx?_eq_some_iff_getElem→QT,take_zero→QU,take_succ_eq_append_getElem→QV,take_add_one→QX,length_drop→QY,drop_length→QZ,map_cons→Q_,map_append→Q0,take_succ_cons→Q3,getElem_of_mem→Q4,drop_zero→Q5,mem_cons→Za,mem_nil_iff→Zb,map_map→Zc,length_nil→Ze,nil_append→Zf,foldl_cons→Zg,getElem?_eq_none→Zh,foldl_nil→Zi,drop_succ_cons→Zj,length_pos_iff→Zk,any_map→Zm,map_nil→Zq,getD→Zr,length→Zs
open Int renaming toNat_natCast→Qf,lt_irrefl→Qt,toNat_of_nonneg→Qu,tmod_eq_emod_of_nonneg→Q6,tdiv_eq_ediv_of_nonneg→Q7,reduceLE→Zo,reduceNe→Zp,le_refl→Zt
open List.cons renaming injEq→Qh
open Option renaming bind_some→Qn,isSome_some→Qp,map_some→Qw,map_eq_some_iff→Zd
open Bool renaming false_eq_true→Qq,false_and→Qy,false_ne_true→QF,and_false→QG,false_or→Zl
open Option.some renaming injEq→Qr
open Prod renaming ext→QK
open Array renaming getElem?_setIfInBounds→Q2,size_append→Q8
open Prod.mk renaming injEq→Q9
open Go.Proofs.Tryz
noncomputable section
namespace Go.Vd
open Go.Proofs Go.RowKit
structure Ak where
 op:Int
 tk:Bs
 pa:Bs
 ot:Bs
 n:Int
 cas:Int
 fl:Bool
 nln:Bool
 ns:List Int
 da:Bs
 nlr:Bool
 rs:List Rl
 key:Bs
def AT(l:List Int):List D:=l.map (.int .i64)
def Cb(l:List Int):(AT l).length=l.length:=Qk ..
def intsD_inj:∀{a b:List Int},AT a=AT b->a=b
 |[],[],_=>rfl
 |[],_::_,h=>by simp[AT]at h
 |_::_,[],h=>by simp[AT]at h
 |x::a,y::b,h=>by
  simp only[AT,Q_,Qh,D.int.injEq,true_and]at h;rw[h.1,intsD_inj (a:=a) (b:=b) h.2]
def intsD_el(l:List Int):(AT l).all (elB none)=true:=by rw[QE];intro x hx;obtain⟨y,_,rfl⟩:=QJ.1 hx;rfl
def rlsD_inj{a b:List Rl}(h:Al a=Al b):a=b:=by rw[←AR a,h,AR]
def mtsD_inj{a b:List Mt}(h:Ar a=Ar b):a=b:=by rw[←Bc a,h,Bc]
def FN{a b:List Tk}(h:Ax a=Ax b):a=b:=by rw[←Bh a,h,Bh]
def akC(a:Ak):List D:=[.int .u8 a.op,.str a.tk,.str a.pa,.str a.ot,.int .i64 a.n,.int .i64 a.cas,.bool a.fl,.slice a.nln [] (AT a.ns),.str a.da,.slice a.nlr [] (Al a.rs),.str a.key]
def akD(a:Ak):D:= .agg (akC a)
def EF{a b:Ak}(h:akD a=akD b):a=b:=by
 cases a;cases b;simp only[akD,akC,D.agg.injEq,Qh,D.int.injEq,D.str.injEq,D.bool.injEq,D.slice.injEq,true_and,and_true]at h;obtain⟨h1,h2,h3,h4,h5,h6,h7,⟨h8,h9⟩,h10,⟨h11,h12⟩,h13⟩:=h;have e9:=intsD_inj h9;have e12:=rlsD_inj h12;subst h1 h2 h3 h4 h5 h6 h7 h8 h10 h11 h13 e9 e12;rfl
def Fq(b:Bool):Int:=if b=true then 0 else 4
def F257:List D->Option D:=FX (λb:Bool=>[.bool b]) (λ_=>True) (λb=> .int .i64 (Fq b))
def F257_eq(b:Bool):F257 [.bool b]=some (.int .i64 (Fq b)):=Bq (mk:=λb:Bool=>[.bool b]) (λa b h=>by simpa using h) trivial
def ok257:(Ac F257).ok Qc 257:=by
 refine Bx (S:=λ_=>none) AK fn257 (λ_=>by simp) (λb _=>?_);unfold dc257;cases b<;>simp only[↓go1,gB2,reduceIte,Qa,Qd]
 all_goals first|rfl|exact⟨rfl,rfl⟩
def F258:List D->Option D:=FX (λs:Bs=>[.str s]) (λs=>s.length<=1000000) (λs=> .bool (Bz s))
def F258_eq{s:Bs}(h:s.length<=1000000):F258 [.str s]=some (.bool (Bz s)):=Bq (mk:=λs:Bs=>[.str s]) (λa b h=>by simpa using h) h
def ok258:(Ac F258).ok Qc 258:=by
 obtain⟨S,hS,hl⟩:=A6 (Ab ok98 Ad);have s98:=hl 98 _ rfl;clear hl;refine Bx hS fn258 (λ_=>by simp) (λs hs=>?_);have h98:F98 [.agg [.int .u8 3,.str s,.int .i64 0]]=some (.int .i64 (B7 3 s 0)):=if_pos hs;have hr:B7 3 s 0=if Bz s=true then 0 else 2:=by simp[B7]
 rw[hr]at h98;unfold dc258;cases hn:Bz s<;>rw[hn]at h98<;>simp only[if_true,Qq,if_false]at h98
 ·simp only[↓go1,gB2,reduceIte,Qa,Qd,Aa s98,h98,BK,C0,Qm,gB3,Qs,and_self,Q3,QU,Q5,Zj]
  all_goals first|rfl|exact⟨rfl,rfl⟩
 ·simp only[↓go1,gB2,reduceIte,Qa,Qd,Aa s98,h98,BK,C0,Qm,gB3,Qs,and_self,Q3,QU,Q5,Zj]
  all_goals first|rfl|exact⟨rfl,rfl⟩
def countB(l:List Int):Bool:=decide (l.length<=6)&&!(l.any λx=>!decide (1<=x∧x<=999))
def F260:List D->Option D:=FX (λp:Bool×List Int=>[.slice p.1 [] (AT p.2)]) (λp=>p.2.length<=1000000) (λp=> .bool (countB p.2))
def F260_eq{nl:Bool}{l:List Int}(h:l.length<=1000000):F260 [.slice nl [] (AT l)]=some (.bool (countB l)):=
 Bq (mk:=λp:Bool×List Int=>[.slice p.1 [] (AT p.2)]) (a:=(nl,l)) (λa b h=>by
  simp only[Qh,D.slice.injEq,true_and,and_true]at h;exact QK h.1 (intsD_inj h.2)) h
def cn343_ex{l:List Int}{nl:Bool}{t:Id}(hl:l.length<=1000000)(m:Mem)(fr:Id):
  (cnS 344 none K344).ex [.slice nl t (AT l),.fn 344 []] m fr=some (.bool (l.any λx=>!decide (1<=x∧x<=999)),[]):=by
 have e:(AT l).map (K344 .junk)=(l.map λx=>!decide (1<=x∧x<=999)).map λb=>some (.bool b):=by
  simp only[AT,Zc];exact QQ λr _=>rfl
 simp only[cnS,Cb,hl,intsD_el,and_self,if_true,FE,Qn,e,Dp,Qw,Zm];rfl
def ok260:(Ac F260).ok Qc 260:=by
 obtain⟨S,hS,hl⟩:=A6 (Ab cn343 Ad);have s343:=hl 343 _ rfl;clear hl;refine Bx hS fn260 (λ_=>by simp) (λp hs=>?_);obtain⟨nl,l⟩:=p;have h343:=cn343_ex (nl:=nl) (t:=[]) hs;unfold dc260 countB;simp only;generalize (l.any λx=>!decide (1<=x∧x<=999))=b at h343;by_cases h6:l.length<=6
 ·have h6':((l.length:Int)<=6):=by omega
  simp only[↓go1,gB2,reduceIte,Qa,Qd,Ah s343,h343,h6,h6',Cb]
  all_goals first|rfl|exact⟨rfl,rfl⟩
 ·have h6':¬((l.length:Int)<=6):=by omega
  simp only[↓go1,gB2,reduceIte,Qa,Qd,h6,h6',Cb,Qy,and_self]
  all_goals first|rfl|exact⟨rfl,rfl⟩
def F261:List D->Option D:=FX (λp:Bool×List D×Bool=>[.slice p.1 [] p.2.1,.slice p.2.2 [] []]) (λp=>p.2.1.length<=1000000) (λp=> .bool p.2.1.isEmpty)
def F261_eq{nl nl':Bool}{l:List D}(h:l.length<=1000000):F261 [.slice nl [] l,.slice nl' [] []]=some (.bool l.isEmpty):=
 Bq (mk:=λp:Bool×List D×Bool=>[.slice p.1 [] p.2.1,.slice p.2.2 [] []]) (a:=(nl,l,nl')) (λa b h=>by
  simp only[Qh,D.slice.injEq,true_and,and_true]at h;exact QK h.1.1 (QK h.1.2 h.2)) h
def ok261:(Ac F261).ok Qc 261:=by
 refine Bx (S:=λ_=>none) AK fn261 (λ_=>by simp) (λp hs=>?_);obtain⟨nl,l,nl'⟩:=p;unfold dc261;cases l with
 |nil=>
  simp only[↓go1,go2,go4,reduceIte,Qa,Qd,Ze];have h00:((0:Int)<((0:Nat):Int))=False:=by simp
  refine Ae dc261l0.eq_1 ?_;simp only[↓go1,gB2,reduceIte,Qa,Qd,h00]
  all_goals first|rfl|exact⟨rfl,rfl⟩
 |cons x r=>
  have hne:(((r.length+1:Nat):Int)=((0:Nat):Int))=False:=eq_false (by omega);simp only[↓go1,gB2,reduceIte,Qa,Qd,gB3,hne]
  all_goals first|rfl|exact⟨rfl,rfl⟩
def ok345:(Ac F261).ok Qc 345:=by
 refine Bx (S:=λ_=>none) AK fn345 (λ_=>by simp) (λp hs=>?_);obtain⟨nl,l,nl'⟩:=p;unfold dc345;cases l with
 |nil=>
  simp only[↓go1,go2,go4,reduceIte,Qa,Qd,Ze];have h00:((0:Int)<((0:Nat):Int))=False:=by simp
  refine Ae dc345l0.eq_1 ?_;simp only[↓go1,gB2,reduceIte,Qa,Qd,h00]
  all_goals first|rfl|exact⟨rfl,rfl⟩
 |cons x r=>
  have hne:(((r.length+1:Nat):Int)=((0:Nat):Int))=False:=eq_false (by omega);simp only[↓go1,gB2,reduceIte,Qa,Qd,gB3,hne]
  all_goals first|rfl|exact⟨rfl,rfl⟩
structure LG (c0:Nat) (m0:Mem) (e:Nat) (m:Mem) (c:Nat) (nl:Bool) (t:Id):Prop where
 low:∀q o,q<c0->m [q] o=m0 [q] o
 tok:nl=true∨∃j,t=[j]∧c0<=j∧j<c∧m t 0=some (.tok (e+1))
 le:c0<=c
section
variable{c0 e c c' c2 o:Nat}{m0 m:Mem}{nl:Bool}{t:Id}{ds xs:List D}
def LG.start(h:c0<=c):LG c0 m0 e m0 c true t:=⟨λ_ _ _=>rfl,.inl rfl,h⟩
def LG.put(h:LG c0 m0 e m c nl t)(hc:c<=c'):LG c0 m0 e (m.put [c'] o ds) c nl t:=by
 obtain⟨h1,h2,h3⟩:=h;refine⟨λq o' hq=>?_,?_,h3⟩
 ·rw[Mem.put_other (by simp;omega)];exact h1 q o' hq
 ·rcases h2 with h2|⟨j,rfl,a,b,d⟩
  ·exact .inl h2
  ·exact .inr ⟨j,rfl,a,b,by rw[Mem.put_other (by simp;omega)];exact d⟩
def LG.more(h:LG c0 m0 e m c nl t)(hc:c<=c'):LG c0 m0 e m c' nl t:=by
 obtain⟨h1,h2,h3⟩:=h;refine⟨h1,?_,by omega⟩;rcases h2 with h2|⟨j,a,b,b',d⟩
 ·exact .inl h2
 ·exact .inr ⟨j,a,b,by omega,d⟩
def LG.grow(h:LG c0 m0 e m c nl t):Grow m e (.slice nl t xs):=by
 rcases h.tok with h|⟨j,rfl,_,_,d⟩
 ·exact .inl h
 ·exact .inr ⟨d,by simp⟩
def LG.app(h:LG c0 m0 e m c nl t)(hc:c<=c')(h2:c'<c2):LG c0 m0 e (Upd.app m (Bi e [c'] (.slice nl t xs))) c2 false [c']:=by
 obtain⟨h1,ht,h3⟩:=h;refine⟨λq o hq=>?_,.inr ⟨c',rfl,by omega,h2,?_⟩,by omega⟩
 ·rw[C7,if_neg (by simp;omega)];rcases ht with rfl|⟨j,rfl,a,b,d⟩
  ·rw[if_neg (by simp)];exact h1 q o hq
  ·rw[if_neg (by simp;omega)];exact h1 q o hq
 ·rw[C7,if_pos ⟨rfl,rfl⟩]
def LG.appf(h:LG c0 m0 e m c false t)(hc:c<=c')(h2:c'<c2):LG c0 m0 e ((m.put t 0 [.tok 0]).put [c'] 0 [.tok (e+1)]) c2 false [c']:=LG.app (xs:=[]) h hc h2
def LG.nil(h:LG c0 m0 e m c nl t):LG c0 m0 e (Upd.app m []) c nl t:=h
def LG.rd(h:LG c0 m0 e m c nl t){q p n:Nat}(hq:q<c0):Ag m [q] p n=Ag m0 [q] p n:=by
 have:∀n p,Ag m [q] p n=Ag m0 [q] p n:=by
  intro n;induction n with
  |zero=>intro p;rfl
  |succ n ih=>intro p;simp only[Ag,h.low q p hq,ih]
 exact this n p
end
def rwsD_hd(l:List Rw):D.headSz (A8 l) 3=3:=by cases l<;>rfl
def intsD_len'(l:List Int):(AT l).length=l.length:=Qk ..
def capV_int{m:Mem}{caps:List D}{k:IntKind}{n:Int}(h:FE m caps=some (.int k n)):∃i,caps=[.ptr i 0]∧m i 0=some (.int k n):=by
 unfold FE at h;split at h
 ·simp at h
 ·rename_i i;exact⟨i,rfl,h⟩
 ·cases h
def K337:D->D->Option D
 | .int .i64 n,.agg [.int .i64 a,.bool _,.bool _]=>some (.bool (decide (a=n)))
 |_,_=>none
def clo337:(cloS K337).ok Qc 337:=by
 refine clo_ok (S:=λ_=>none) AK fn337 (λx caps m fr c d hcap hF hfr hl=>⟨by omega,?_⟩);unfold K337 at hF;split at hF
 ·simp only[Qr]at hF;subst hF;obtain⟨i,rfl,hm⟩:=capV_int hcap;have hi:i≠0::fr:=by rintro rfl;have:=hfr 0 (0::fr) 0 (List.suffix_refl _);rw[hm]at this;cases this
  unfold dc337;simp only[↓go1,gB2,go5,simprocAttr,hm,hi];intro i o y h;split
  ·rename_i e;rw[e.1,hfr 0 _ o (List.suffix_refl _)]at h;cases h
  ·exact h
 ·cases hF
def fn336:Fn Qc 336 19 (dcI 3 (some 3)) [.t 4]:=⟨f336,_,func336,rfl,by kernel_rfl,rfl,by kernel_rfl,by kernel_rfl⟩
def idx336:(E8 337 (some 3) K337).ok Qc 336:=idx_ok (by omega) fn336 rfl clo337
def placeR(l:List Rw)(n:Int):Int:=Be (l.map λr=>decide (r.1=n))
def idx336_ex{l:List Rw}{nl:Bool}{t:Id}(hl:l.length<=1000000){n:Int}(m:Mem)(fr i:Id)(hm:m i 0=some (.int .i64 n)):
  (E8 337 (some 3) K337).ex [.slice nl t (A8 l),.fn 337 [.ptr i 0]] m fr=some (.int .i64 (placeR l n),[]):=by
 have e:(A8 l).map (K337 (.int .i64 n))=(l.map λr=>decide (r.1=n)).map λb=>some (.bool b):=by
  simp only[A8,Zc];exact QQ λr _=>rfl
 have he:(A8 l).all (elB (some 3))=true:=by
  rw[QE];intro x hx;obtain⟨r,_,rfl⟩:=QJ.1 hx;rfl
 simp only[E8,AV,hl,he,and_self,if_true,FE,hm,Qn,e,Dp,Qw];rfl
def F5(s:Sc)(n:Int):Int:=if n=0 then(s.rs.length:Int)-1 else placeR s.rs n
def S242:Summs:=AF [(336,E8 337 (some 3) K337)]
def R242:List D->Option D:=RF S242 dc242 [.t 4] 15
def ko242:(Ac R242).ok Qc 242:=AH fn242 (Ab idx336 Ad)
def R242_eq(s:Sc)(n:Int)(hl:s.rs.length<=1000):R242 [.agg (scC s),.int .i64 n]=some (.int .i64 (F5 s n)):=by
 refine AG (Qb rfl) ?_;have s336:S242 336=some (E8 337 (some 3) K337):=rfl;unfold dc242;have hn:IntKind.i64.wrap ((s.rs.length:Int)-1)=(s.rs.length:Int)-1:=w64 (by omega) (by omega);unfold F5 scC;by_cases c1:n=0
 ·simp only[↓go1,gB2,go5,simprocAttr,c1,hn,AV]
  all_goals first|rfl|exact⟨rfl,rfl⟩|simp[*]
 ·simp only[↓go1,gB2,go5,simprocAttr,c1,Ah s336,idx336_ex (n:=n) (show s.rs.length<=1000000 by omega)]
  all_goals first|rfl|exact⟨rfl,rfl⟩|simp[*]
def rw0:Rw:=(0,false,false)
def readS(s:Sc)(n:Int):Rw×Int:=if DJ s 6=true then(rw0,2)else if F5 s n<0 then(rw0,6)else
 if((s.rs.getD (F5 s n).toNat rw0).2.1||(s.rs.getD (F5 s n).toNat rw0).2.2)=true then(s.rs.getD (F5 s n).toNat rw0,21)else(s.rs.getD (F5 s n).toNat rw0,0)
def placeR_lt(l:List Rw)(n:Int):placeR l n<l.length:=by
 unfold placeR Be;split
 ·rename_i k h;rw[QT]at h;obtain⟨hk,_⟩:=h;rw[Qk]at hk;omega
 ·omega
def findS_lt(s:Sc)(n:Int):F5 s n<s.rs.length:=by
 unfold F5;split
 ·omega
 ·exact placeR_lt _ _
def S136:Summs:=AF [(191,Ac GH),(241,Ac R241),(242,Ac R242)]
def R136:List D->Option D:=RF S136 dc136 [.cell (some 3) 4,.t 5] 32
def ko136:(Ac R136).ok Qc 136:=AH fn136 (Ab ko191 (Ab ko241 (Ab ko242 Ad)))
def R136_eq(s:Sc)(n:Int)(hl:s.rs.length<=1000):R136 [.agg (scC s),.int .i64 n]=some (.tup [rwD (readS s n).1,.int .i64 (readS s n).2]):=by
 refine AG (Qb rfl) ?_;have s241:S136 241=some (Ac R241):=rfl;have s242:S136 242=some (Ac R242):=rfl;unfold dc136;have h191:=GG s 6 false hl;have h241:=R241_eq;have h242:=R242_eq s n hl;have hlt:=findS_lt s n;unfold readS;unfold secE at h191;unfold scC at h191 h242 ⊢;generalize F5 s n=i at h242 hlt;cases hb:DJ s 6 with
 |true=>
  rw[hb]at h191;simp only[if_true]at h191;simp only[↓go1,gB2,go5,simprocAttr,An S136 191,h191,Aa s241,h241]
  (refine Ao.intro (Aj ?_) ?_;first|rfl|simp[A2,AL,rds,Ai,Ac])
  simp only[↓go1,gB2,go5,simprocAttr]
  all_goals first|rfl|exact⟨rfl,rfl⟩|simp[*]
 |false=>
  rw[hb]at h191;simp only[if_false,Qq]at h191;simp only[↓go1,gB2,go5,simprocAttr,An S136 191,h191,Aa s241,h241]
  (refine Ao.intro (Aj ?_) ?_;first|rfl|simp[A2,AL,rds,Ai,Ac])
  by_cases c1:i<0
  ·simp only[↓go1,gB2,go5,simprocAttr,Aa s242,h242,c1]
   all_goals first|rfl|exact⟨rfl,rfl⟩|simp[*]
  ·have c1':0<=i:=by omega
   have hj:i.toNat<s.rs.length:=by omega
   have hat:=Fe hj;have hg:s.rs.getD i.toNat rw0=s.rs[i.toNat]:=by simp[Zr,Qg hj]
   rw[hg];generalize s.rs[i.toNat]=x at hat;obtain⟨a,g,d⟩:=x;simp only at hat;cases g with
   |true=>
    simp only[↓go1,gB2,go5,simprocAttr,Aa s242,h242,c1,c1',hat]
    all_goals first|rfl|exact⟨rfl,rfl⟩|simp[*]
   |false=>
    cases d with
    |true=>
     simp only[↓go1,gB2,go5,simprocAttr,Aa s242,h242,c1,c1',hat]
     all_goals first|rfl|exact⟨rfl,rfl⟩|simp[*]
    |false=>
     simp only[↓go1,gB2,go5,simprocAttr,Aa s242,h242,c1,c1',hat]
     all_goals first|rfl|exact⟨rfl,rfl⟩|simp[*]
def refE(s:Sc)(q:Int)(b:Bool)(cas size:Int):Int:=if DJ s q=true∨cas< -1∨size<0 then 2 else if 96<size then 18 else if cas=-1∧(s.cas=true∨b=true)then 17 else if cas≠-1∧cas≠s.la then 16 else if s.la=30 then 19 else 0
def S338:Summs:=AF [(191,Ac GH)]
def R338:List D->Option D:=RF S338 dc338 [.t 8] 49
def ko338:(Ac R338).ok Qc 338:=AH fn338 (Ab ko191 Ad)
def R338_eq(s:Sc)(q:Int)(b:Bool)(cas size:Int)(hl:s.rs.length<=1000):R338 [.agg (scC s),.agg [.int .i64 q,.bool b],.int .i64 cas,.int .i64 size]=some (.int .i64 (refE s q b cas size)):=by
 refine AG (Qb rfl) ?_;unfold dc338;have h191:=GG s q b hl;unfold refE;unfold secE at h191;unfold scC at h191 ⊢;generalize DJ s q=bad at h191;cases bad with
 |true=>
  simp only[if_true]at h191;simp only[↓go1,gB2,go5,simprocAttr,An S338 191,h191,ne_eq]
  all_goals first|rfl|exact⟨rfl,rfl⟩|simp[*]
 |false=>
  simp only[if_false,Qq]at h191;by_cases c1:cas< -1
  ·simp only[↓go1,gB2,go5,simprocAttr,An S338 191,h191,ne_eq,c1]
   all_goals first|rfl|exact⟨rfl,rfl⟩|simp[*]
  by_cases c2:size<0
  ·simp only[↓go1,gB2,go5,simprocAttr,An S338 191,h191,ne_eq,c1,c2]
   all_goals first|rfl|exact⟨rfl,rfl⟩|simp[*]
  by_cases c3:96<size
  ·simp only[↓go1,gB2,go5,simprocAttr,An S338 191,h191,ne_eq,c1,c2,c3]
   all_goals first|rfl|exact⟨rfl,rfl⟩|simp[*]
  by_cases c4:cas=-1
  ·have c4':(cas=-1)=True:=eq_true c4;cases h1:s.cas with
   |true=>
    rw[h1]at h191;simp only[↓go1,gB2,go5,simprocAttr,An S338 191,h191,ne_eq,c1,c2,c3,c4']
    all_goals first|rfl|exact⟨rfl,rfl⟩|simp[*]
   |false=>
    rw[h1]at h191;cases b with
    |true=>
     simp only[↓go1,gB2,go5,simprocAttr,An S338 191,h191,ne_eq,c1,c2,c3,c4']
     all_goals first|rfl|exact⟨rfl,rfl⟩|simp[*]
    |false=>
     by_cases c6:s.la=30
     ·have c6':(s.la=30)=True:=eq_true c6;simp only[↓go1,gB2,go5,simprocAttr,An S338 191,h191,ne_eq,c1,c2,c3,c4',c6']
      all_goals first|rfl|exact⟨rfl,rfl⟩|simp[*]
     ·have c6':(s.la=30)=False:=eq_false c6;simp only[↓go1,gB2,go5,simprocAttr,An S338 191,h191,ne_eq,c1,c2,c3,c4',c6']
      all_goals first|rfl|exact⟨rfl,rfl⟩|simp[*]
  ·have c4':(cas=-1)=False:=eq_false c4;by_cases c5:cas=s.la
   ·have c5':(cas=s.la)=True:=eq_true c5;by_cases c6:s.la=30
    ·have c6':(s.la=30)=True:=eq_true c6;simp only[↓go1,gB2,go5,simprocAttr,An S338 191,h191,ne_eq,c1,c2,c3,c4',c5',c6']
     all_goals first|rfl|exact⟨rfl,rfl⟩|simp[*]
    ·have c6':(s.la=30)=False:=eq_false c6;simp only[↓go1,gB2,go5,simprocAttr,An S338 191,h191,ne_eq,c1,c2,c3,c4',c5',c6']
     all_goals first|rfl|exact⟨rfl,rfl⟩|simp[*]
   ·have c5':(cas=s.la)=False:=eq_false c5;simp only[↓go1,gB2,go5,simprocAttr,An S338 191,h191,ne_eq,c1,c2,c3,c4',c5']
    all_goals first|rfl|exact⟨rfl,rfl⟩|simp[*]
def S339:Summs:=AF []
def R339:List D->Option D:=RF S339 dc339 [.t 2] 8
def ko339:(Ac R339).ok Qc 339:=AH fn339 Ad
def R339_eq{nl:Bool}{l:List Rw}(hl:l.length<=100000)(hn:nl=true->l=[]):R339 [.slice nl [] (A8 l)]=some (.slice nl [] (A8 l)):=by
 refine AG (Qb rfl) ?_;unfold dc339;cases nl with
 |true=>
  rw[hn rfl];simp only[↓go1,go2,go3,go5,simprocAttr]
  all_goals first|rfl|exact⟨rfl,rfl⟩|simp[*]
 |false=>
  simp only[↓go1,go2,go4,go5,simprocAttr];refine Ao.intro ⟨by rw[AV];omega,rwsD_hd l,.inr ⟨rfl,by simp⟩⟩ ?_;simp only[↓go1,gB2,go5,simprocAttr]
def Di(s:Sc)(q:Int):Nat:=s.rs.length-(Ca s q).toNat
def fewS(s:Sc)(q:Int):Sc:={s with rs:=s.rs.drop (Di s q)}
def fewL(s:Sc)(q:Int):List Int:=(s.rs.take (Di s q)).map (·.1)
def S247:Summs:=AF [(294,Ac R294),(339,Ac R339)]
def R247:List D->Option D:=RF S247 dc247 [.cell (some 4) 4,.t 5] 41
def ko247:(Ac R247).ok Qc 247:=AH fn247 (Ab ko294 (Ab ko339 Ad))
def R247_eq(s:Sc)(q:Int)(b:Bool)(hl:s.rs.length<=1000)(hk:0<=Ca s q∧Ca s q<=1000)(hnl:s.nl=true->s.rs=[]):R247 [.agg (scC s),.agg [.int .i64 q,.bool b]]=some (.tup [.agg (scC (fewS s q)),.slice (decide (Di s q=0)) [] (AT (fewL s q))]):=by
 refine AG (Qb rfl) ?_;have s339:S247 339=some (Ac R339):=rfl;unfold dc247;have h294:=R294_eq s q b;have h339:=R339_eq (nl:=s.nl) (l:=s.rs.drop (Di s q)) (by rw[QY];omega) (λh=>by rw[hnl h,List.drop_nil]);have hw:IntKind.i64.wrap ((s.rs.length:Int)-Ca s q)=(s.rs.length:Int)-Ca s q:=w64 (by omega) (by omega);have hm:max 0 ((s.rs.length:Int)-Ca s q)=(Di s q:Int):=by unfold Di;omega
 have hn:Di s q<=s.rs.length:=by unfold Di;omega
 have hb1:(0:Int)<=(Di s q:Int)∧(Di s q:Int)<=((s.rs.length:Nat):Int):=⟨by omega,by omega⟩;have htk:(A8 s.rs).take (Di s q)=A8 (s.rs.take (Di s q)):=List.map_take.symm;have hdr:(A8 s.rs).drop (Di s q)=A8 (s.rs.drop (Di s q)):=List.map_drop.symm;have hfew:fewS s q={s with rs:=s.rs.drop (Di s q)}:=rfl;unfold fewL;rw[hfew];unfold scC at h294 ⊢;generalize Di s q=n at *;generalize Ca s q=kp at *;clear hfew;simp only[↓go1,gB2,go5,simprocAttr,An S247 294,h294,AV,hw,hm]
 (refine Ao.intro (Aj ?_) ?_;first|rfl|simp[A2,AL,rds,Ai,Ac])
 simp only[↓go1,gB2,go5,simprocAttr,AV,rwsD_hd,hb1,Qf,htk,Nat.sub_zero,QM,Nat.min_eq_left hn];refine Bm (n:=n) (I:=λj st=>st.s 21= .slice s.nl [] (A8 (s.rs.take n))∧st.s 22= .int .i64 (n:Int)∧st.s 23= .int .i64 (j:Int)∧st.s 2= .ptr [0] 0∧st.s 4= .ptr [2] 0∧st.s 6= .int .i64 (n:Int)∧∃nl t,st.s 7= .slice nl t (AT (((s.rs.take n).take j).map (·.1)))∧nl=decide (j=0)∧LG 4 _ 3 st.m st.c nl t) (λj hj ih st g hI=>?_) (λst g hI=>?_) 0 (Qv _) _ _ ⟨(by show D.slice _ _ (List.take n (List.drop 0 (A8 s.rs)))=_;rw[Q5,htk]),rfl,rfl,rfl,rfl,rfl,true,[],rfl,rfl,LG.start (by simp only;omega)⟩
 ·obtain⟨st_s,st_m,st_c⟩:=st;obtain⟨h21,h22,h23,h2,h4,h6,nl,t,h7,hnl',hG⟩:=hI;simp only at h21 h22 h23 h2 h4 h6 h7 hG;refine Ae dc247l0.eq_1 ?_;have hlt:((j:Int)<n):=by omega
  have hj0:=nJ (j:=j);have hw:=wJ (j:=j) (by omega);have hlen:(s.rs.take n).length=n:=by rw[QM];omega
  generalize s.rs.take n=l at *;have hat:=Fe (l:=l) (j:=j) (by omega);have htk:AT ((l.take (j+1)).map (·.1))=AT ((l.take j).map (·.1))++[.int .i64 (l[j]'(by omega)).1]:=by
   rw[QV (by omega),Q0];simp[AT]
  have hal:(AT ((l.take j).map (·.1))).length=j:=by simp[AT];omega
  have hnil:nl=true->AT ((l.take j).map (·.1))=[]:=by
   rw[hnl'];intro h;have:j=0:=by simpa using h
   subst this;rfl
  generalize AT ((l.take j).map (·.1))=acc at h7 htk hal hnil;generalize l[j]'(by omega)=x at hat htk;simp only[↓go1,gB2,go5,simprocAttr,h21,h22,h23,h7,hlt,hj0,Qf,hat];refine Ao.intro ⟨by omega,rfl,(by first|exact hG.grow|exact(hG.put (by omega)).grow|exact((hG.put (by omega)).put (by omega)).grow|exact(((hG.put (by omega)).put (by omega)).put (by omega)).grow|exact((((hG.put (by omega)).put (by omega)).put (by omega)).put (by omega)).grow|exact(((((hG.put (by omega)).put (by omega)).put (by omega)).put (by omega)).put (by omega)).grow)⟩ ?_;rw[BH hnil,←htk];simp only[↓go1,go2,simprocAttr,h23,hw];exact ih _ _ ⟨h21,h22,rfl,h2,h4,h6,false,_,rfl,by simp,(by first|exact hG.app (by omega) (by simp only;omega)|exact(hG.put (by omega)).app (by omega) (by simp only;omega)|exact((hG.put (by omega)).put (by omega)).app (by omega) (by simp only;omega)|exact(((hG.put (by omega)).put (by omega)).put (by omega)).app (by omega) (by simp only;omega)|exact((((hG.put (by omega)).put (by omega)).put (by omega)).put (by omega)).app (by omega) (by simp only;omega)|exact(((((hG.put (by omega)).put (by omega)).put (by omega)).put (by omega)).put (by omega)).app (by omega) (by simp only;omega))⟩
 ·obtain⟨st_s,st_m,st_c⟩:=st;obtain⟨h21,h22,h23,h2,h4,h6,nl,t,h7,hnl',hG⟩:=hI;simp only at h21 h22 h23 h2 h4 h6 h7 hG;refine Ae dc247l0.eq_1 ?_;have m0:∀k,st_m [0] k=_:=λk=>hG.low 0 k (by omega)
  have m2:∀k,st_m [2] k=_:=λk=>hG.low 2 k (by omega)
  have hd2:(A8 s.rs).take s.rs.length=A8 s.rs:=Qx (by rw[AV];omega);have hdt:(A8 (s.rs.drop n)).take (s.rs.length-n)=A8 (s.rs.drop n):=Qx (by rw[AV,QY];omega);have ht2:(s.rs.take n).take n=s.rs.take n:=Qx (by rw[QM];omega);rw[ht2]at h7;simp only[↓go1,gB2,go5,simprocAttr,h22,h23,h2,h4,h6,h7,Qt,m0,m2,AV,rwsD_hd,hb1,Qf,hdt,hdr,Aa s339,h339];subst hnl'
  all_goals first|rfl|exact⟨rfl,rfl⟩|simp[*]
def clQ:Summ where
 rd:=λ_ _=>[]
 ex:=λds _ fr=>match ds with
  |[.slice nl _ xs]=>if xs.length<=100000∧(nl=true->xs=[])∧D.headSz xs 3=3 then(if nl=true then some (.slice true [] [],[])else some (.slice false (5::fr) xs,[(5::fr,0,[.tok 229])]))else none
  |_=>none
def clone339{nl:Bool}{t:Id}{xs:List D}{m:Mem}{fr:Id}(h1:xs.length<=100000)(h2:nl=true->xs=[])(h3:D.headSz xs 3=3)(S:Summs){R:D->Mem->Prop}(hR:if nl=true then R (.slice true [] []) m else R (.slice false (5::fr) xs) (((m.put (3::fr) 0 [.tok 229]).put (3::fr) 0 [.tok 0]).put (5::fr) 0 [.tok 229])):dc339.wp S fr (DY [.t 2] R) ⟨Br [.slice nl t xs],m,0⟩:=by
 unfold dc339;cases nl with
 |true=>
  simp only[↓go1,go2,go5,reduceIte,Qa,Qd,reduceCtorEq];simpa using hR
 |false=>
  simp only[↓go1,go2,go4,go5,reduceIte,Qa,Qd,reduceCtorEq];refine Ao.intro ⟨by omega,h3,.inr ⟨Bf ..▸by simp,by simp⟩⟩ ?_;simp only[↓go1,go2,go4,go5,reduceIte,Qa,Qd];simp only[Qq,if_false]at hR;exact hR
def ok339q:clQ.ok Qc 339:=by
 refine Fi (S:=λ_=>none) AK fn339 (λds m m' fr _=>rfl) (λds m fr r u hex hfr=>?_);simp only[clQ]at hex;split at hex
 ·rename_i nl t xs;split at hex
  ·rename_i hc;obtain⟨h1,h2,h3⟩:=hc;refine⟨by simp,clone339 h1 h2 h3 _ ?_⟩;cases nl with
   |true=>
    simp only[if_true,Qr,Q9]at hex ⊢;obtain⟨rfl,rfl⟩:=hex;exact⟨rfl,λ_ _ _ h=>h⟩
   |false=>
    simp only[Qq,if_false,Qr,Q9]at hex ⊢;obtain⟨rfl,rfl⟩:=hex;refine⟨rfl,λi o x h=>?_⟩;have h':(m.put (5::fr) 0 [.tok 229]) i o=some x:=h;rw[Bf]at h' ⊢;split at h'
    ·rename_i e;rw[if_pos e];exact h'
    ·rename_i e;rw[if_neg e,Bf,if_neg,Bf,if_neg]
     ·exact h'
     ·rintro⟨rfl,_⟩;rw[hfr (3::fr) _ ⟨[3],rfl⟩]at h';cases h'
     ·rintro⟨rfl,_⟩;rw[hfr (3::fr) _ ⟨[3],rfl⟩]at h';cases h'
  ·cases hex
 ·cases hex
def clQ_ex{nl:Bool}{t:Id}{l:List Rw}{m:Mem}{fr:Id}(h1:l.length<=1000)(h2:nl=true->l=[]):clQ.ex [.slice nl t (A8 l)] m fr=if nl=true then some (.slice true [] [],[])else some (.slice false (5::fr) (A8 l),[(5::fr,0,[.tok 229])]):=
 if_pos ⟨by rw[AV];omega,λh=>by rw[h2 h];rfl,rwsD_hd l⟩
def badS_get{s:Sc}{q:Int}(h:DJ s q=false):(1<=q∧q<=6)∧(0<=s.mx∧s.mx<=6)∧(0<=s.la∧s.la<=30)∧(s.rs.length:Int)<=Ca s q∧risB s.rs 0=true∧newE s.rs=s.la:=by
 simpa[DJ]using h
def refE_get{s:Sc}{q:Int}{b:Bool}{cas size:Int}(h:refE s q b cas size=0):DJ s q=false:=by
 unfold refE at h;split at h
 ·omega
 ·rename_i hc;cases hb:DJ s q with
  |true=>exact absurd (.inl hb) hc
  |false=>rfl
def keeps_bd{s:Sc}{q:Int}(h1:1<=q∧q<=6)(h2:0<=s.mx∧s.mx<=6):0<=Ca s q∧Ca s q<=1000:=by
 unfold Ca;split<;>omega
def DM(s:Sc):Sc:={s with la:=s.la+1,nl:=false,rs:=s.rs++[(s.la+1,false,false)]}
def Cz(s:Sc)(q:Int)(b:Bool)(cas size:Int):Sc×Int×List Int×Int:=if refE s q b cas size≠0 then(s,0,[],refE s q b cas size)else(fewS (DM s) q,s.la+1,fewL (DM s) q,0)
def fewL_nil{s:Sc}{q:Int}:(fewL s q=[])=(Di s q=0):=by
 unfold fewL;apply propext;rw[List.map_eq_nil_iff,←QA,QM];unfold Di;omega
def S243:Summs:=AF [(338,Ac R338),(247,Ac R247),(339,clQ)]
def R243:List D->Option D:=RF S243 dc243 [.cell (some 4) 8,.t 9,.t 10,.t 11] 47
def ko243:(Ac R243).ok Qc 243:=AH fn243 (Ab ko338 (Ab ko247 (Ab ok339q Ad)))
def R243_eq(s:Sc)(q:Int)(b:Bool)(cas size:Int)(hl:s.rs.length<=900)(hnl:s.nl=true->s.rs=[]):R243 [.agg (scC s),.agg [.int .i64 q,.bool b],.int .i64 cas,.int .i64 size]=some (.tup [.agg (scC (Cz s q b cas size).1),.int .i64 (Cz s q b cas size).2.1,.slice (decide ((Cz s q b cas size).2.2.1=[])) [] (AT (Cz s q b cas size).2.2.1),.int .i64 (Cz s q b cas size).2.2.2]):=by
 refine AG (Qb rfl) ?_;have s247:S243 247=some (Ac R247):=rfl;have s339:S243 339=some (clQ):=rfl;unfold dc243;have h338:=R338_eq s q b cas size (by omega);have h339:=λ(m:Mem)(fr:Id)=>clQ_ex (nl:=s.nl) (t:=[]) (l:=s.rs) (m:=m) (fr:=fr) (by omega) hnl
 unfold Cz;by_cases he:refE s q b cas size=0
 ·obtain⟨b1,b2,b3,_⟩:=badS_get (refE_get he);have hk:Ca (DM s) q=Ca s q:=rfl;have h247:=R247_eq (DM s) q b (by simp[DM];omega) (by rw[hk];exact keeps_bd b1 b2) (by simp[DM]);have hw:IntKind.i64.wrap (s.la+1)=s.la+1:=w64 (by omega) (by omega);have hfl:(fewS (DM s) q).la=s.la+1:=rfl;have hnE:=fewL_nil (s:=DM s) (q:=q);rw[he]at h338;rw[he];simp only[ne_eq,not_true_eq_false,if_false,hnE];generalize decide (Di (DM s) q=0)=nl2 at h247 ⊢;generalize fewL (DM s) q=l2 at *;generalize fewS (DM s) q=s2 at *;have hrs:A8 (s.rs++[(s.la+1,false,false)])=A8 s.rs++[.agg [.int .i64 (s.la+1),.bool false,.bool false]]:=by simp[A8,rwD]
  unfold DM scC at h247;simp only[hrs]at h247;unfold scC at h338 ⊢;rw[hfl]at h247;clear hk;have hal:(A8 s.rs).length=s.rs.length:=AV _;cases hn:s.nl with
  |true=>
   rw[hn]at h338 h339;rw[hnl hn]at h338 h247 h339 hal ⊢;simp only[if_true]at h339;have e0:A8 []=[]:=rfl;rw[e0]at h338 h247 h339 hal ⊢;rw[Zf]at h247;simp only[↓go1,gB2,go5,reduceIte,Qa,Qd,Ql,Qm,Qz,reduceCtorEq,An S243 338,h338,Ah s339,h339,hw];refine Ao.intro ⟨by simp,rfl,.inl rfl⟩ ?_;simp only[↓go1,gB2,go5,reduceIte,Qa,Qd,Ql,Qm,Qz,reduceCtorEq]
   (refine Ao.intro (Aj ?_) ?_;first|rfl|simp[A2,AL,rds,Ai,Ac])
   simp only[↓go1,gB2,go5,reduceIte,Qa,Qd,Ql,Qm,Qz,reduceCtorEq,Aa s247,h247]
   (refine Ao.intro (Aj ?_) ?_;first|rfl|simp[A2,AL,rds,Ai,Ac])
   simp only[↓go1,gB2,go5,reduceIte,Qa,Qd,Ql,Qm,Qz,hfl]
   all_goals first|rfl|exact⟨rfl,rfl⟩|simp[*]
  |false=>
   rw[hn]at h338 h339;simp only[if_false,Qq]at h339;simp only[↓go1,gB2,go5,reduceIte,Qa,Qd,Ql,Qm,Qz,reduceCtorEq,An S243 338,h338,Ah s339,h339,hw];refine Ao.intro ⟨by simp only[hal];omega,rfl,.inr ⟨by simp[Mem.put],by simp⟩⟩ ?_;simp only[↓go1,gB2,go5,reduceIte,Qa,Qd,Ql,Qm,Qz,reduceCtorEq]
   (refine Ao.intro (Aj ?_) ?_;first|rfl|simp[A2,AL,rds,Ai,Ac])
   simp only[↓go1,gB2,go5,reduceIte,Qa,Qd,Ql,Qm,Qz,reduceCtorEq,Aa s247,h247]
   (refine Ao.intro (Aj ?_) ?_;first|rfl|simp[A2,AL,rds,Ai,Ac])
   simp only[↓go1,gB2,go5,reduceIte,Qa,Qd,Ql,Qm,Qz,reduceCtorEq,hfl]
   all_goals first|rfl|exact⟨rfl,rfl⟩|simp[*]
 ·have he':(refE s q b cas size=0)=False:=eq_false he;unfold scC at h338 ⊢;simp only[ne_eq,he',not_false_eq_true,if_true];generalize refE s q b cas size=e at *;simp only[↓go1,gB2,go5,reduceIte,Qa,Qd,Ql,reduceCtorEq,An S243 338,h338,he']
  all_goals first|rfl|exact⟨rfl,rfl⟩|simp[*]
def DO(s:Sc)(q:Int)(most:Int)(cas:Bool):Sc×List Int×Int:=if DJ s q=true∨¬(0<=most∧most<=6)then(s,[],2)else(fewS {s with mx:=most,cas:=cas} q,fewL {s with mx:=most,cas:=cas} q,0)
def S139:Summs:=AF [(246,Ac F246),(191,Ac GH),(247,Ac R247)]
def R139:List D->Option D:=RF S139 dc139 [.cell (some 4) 8,.t 9,.t 10] 35
def ko139:(Ac R139).ok Qc 139:=AH fn139 (Ab ok246 (Ab ko191 (Ab ko247 Ad)))
def R139_eq(s:Sc)(q:Int)(b:Bool)(most:Int)(cas:Bool)(hl:s.rs.length<=1000)(hnl:s.nl=true->s.rs=[]):R139 [.agg (scC s),.agg [.int .i64 q,.bool b],.int .i64 most,.bool cas]=some (.tup [.agg (scC (DO s q most cas).1),.slice (decide ((DO s q most cas).2.1=[])) [] (AT (DO s q most cas).2.1),.int .i64 (DO s q most cas).2.2]):=by
 refine AG (Qb rfl) ?_;have s191:S139 191=some (Ac GH):=rfl;have s247:S139 247=some (Ac R247):=rfl;unfold dc139;have h191:=GG s q b hl;have h246:∀x a b:Int,F246 [.int .i64 x,.int .i64 a,.int .i64 b]=some (.bool (decide (a<=x∧x<=b))):=λ_ _ _=>rfl
 unfold DO;unfold secE at h191;cases hb:DJ s q with
 |true=>
  rw[hb]at h191;simp only[if_true]at h191;unfold scC at h191 ⊢;simp only[↓go1,gB2,go5,reduceIte,Qa,Qd,Ql,reduceCtorEq,Int.reduceEq,Aa s191,h191,true_or,if_true]
  all_goals first|rfl|exact⟨rfl,rfl⟩|simp[*]
 |false=>
  rw[hb]at h191;simp only[if_false,Qq]at h191;by_cases c1:0<=most∧most<=6
  ·obtain⟨b1,b2,b3,_⟩:=badS_get hb;have h247:=R247_eq {s with mx:=most,cas:=cas} q b hl (keeps_bd b1 c1) hnl;have hnE:=fewL_nil (s:={s with mx:=most,cas:=cas}) (q:=q);simp only[c1,and_self,not_true_eq_false,or_self,if_false,Qq,hnE];generalize decide (Di {s with mx:=most,cas:=cas} q=0)=nl2 at h247 ⊢;generalize fewL {s with mx:=most,cas:=cas} q=l2 at *;generalize fewS {s with mx:=most,cas:=cas} q=s2 at *;unfold scC at h191 h247 ⊢;simp only[↓go1,gB2,go5,reduceIte,Qa,Qd,Ql,Qm,Qz,reduceCtorEq,Aa s191,h191,An S139 246,h246,Aa s247,h247,c1]
   all_goals first|rfl|exact⟨rfl,rfl⟩|simp[*]
  ·unfold scC at h191 ⊢;simp only[↓go1,gB2,go5,reduceIte,Qa,Qd,Ql,reduceCtorEq,Aa s191,h191,An S139 246,h246,c1,or_true,if_true]
   all_goals first|rfl|exact⟨rfl,rfl⟩|simp[*]
def fxs_ok{α:Type}{mk:α->List D}{ok:α->Prop}{res:α->D}{P:Program}{S:Summs}{f:FuncId}{N:Nat}{dc:DC}{rs:List RV}(hS:Summs.ok P S)(hf:Fn P f N dc rs)(hN:∀a,(mk a).length<=N)
  (hF:∀a,ok a->(res a).calmR=true∧dc.wp S [] (DY rs λd m'=>SetR m' d (res a)) ⟨Br (mk a),λ_ _=>none,0⟩):(Ac (FX mk ok res)).ok P f:=by
 refine fun_set hS hf (λds r h=>?_) (λds r h=>?_)
 ·obtain⟨a,_,rfl,_⟩:=E5 h;exact hN a
 ·obtain⟨a,ha,rfl,rfl⟩:=E5 h;exact hF a ha
def firstT_at{l:List Int}{n:Int}{j:Nat}(hj:j<l.length)(hx:n=l[j])(hall:∀i (h:i<j),n≠l[i]'(by omega)):Be (l.map λx=>decide (n=x))=j:=by
 unfold Be;have:(l.map λx=>decide (n=x)).findIdx? id=some j:=by
  rw[QT];refine⟨by simpa using hj,by simp[hx],λi hi=>?_⟩;have:=hall i hi;simpa using this
 rw[this]
def firstT_no{l:List Int}{n:Int}(hall:∀i (h:i<l.length),n≠l[i]):Be (l.map λx=>decide (n=x))=-1:=by
 unfold Be;have:(l.map λx=>decide (n=x)).findIdx? id=none:=by
  rw[List.findIdx?_eq_none_iff];intro b hb;obtain⟨x,hx,rfl⟩:=QJ.1 hb;obtain⟨i,hi,rfl⟩:=Q4 hx;simpa using hall i hi
 rw[this]
def intsD_at'{l:List Int}{j:Nat}(h:j<l.length):(AT l)[j]?=some (.int .i64 l[j]):=by simp[AT,Qg h]
def hasI(l:List Int)(n:Int):Bool:=l.any λx=>decide (n=x)
def hasI_first(l:List Int)(n:Int):decide (0<=Be (l.map λx=>decide (n=x)))=hasI l n:=by
 rw[Gy,Zm];rfl
def S387:Summs:=AF []
def R387:List D->Option D:=RF S387 dc387 [.t 4] 19
def ko387:(Ac R387).ok Qc 387:=AH fn387 Ad
def R387_eq{nl:Bool}{l:List Int}(n:Int)(hl:l.length<=1000):R387 [.slice nl [] (AT l),.int .i64 n]=some (.int .i64 (Be (l.map λx=>decide (n=x)))):=by
 refine AG (Qb rfl) ?_;unfold dc387;simp only[↓go1,go2,simprocAttr,intsD_len'];refine Bm (n:=l.length) (I:=λj st=>st.s 0= .slice nl [] (AT l)∧st.s 1= .int .i64 n∧st.s 7= .int .i64 l.length∧st.s 8= .int .i64 (j:Int)∧∀i (h:i<j) (h2:i<l.length),n≠l[i]) (λj hj ih st g hI=>?_) (λst g hI=>?_) 0 (Qv _) _ _ ⟨rfl,rfl,rfl,rfl,λi h=>absurd h (Q1 _)⟩
 ·obtain⟨st_s,st_m,st_c⟩:=st;obtain⟨h0,h1,h7,h8,hall⟩:=hI;simp only at h0 h1 h7 h8;refine Ae dc387l0.eq_1 ?_;have hlt:((j:Int)<l.length):=by omega
  have hj0:=nJ (j:=j);have hw:=wJ (j:=j) (by omega);have hat:=intsD_at' hj;by_cases hx:n=l[j]
  ·have e:=firstT_at hj hx (λi h=>hall i h (by omega));have hx':(n=l[j])=True:=eq_true hx;simp only[↓go1,gB2,go5,simprocAttr,h0,h1,h7,h8,hlt,hj0,Qf,hat,hx'];rw[e]
   all_goals first|rfl|exact⟨rfl,rfl⟩|simp[*]
  ·have hx':(n=l[j])=False:=eq_false hx;simp only[↓go1,gB2,go5,simprocAttr,h0,h1,h7,h8,hlt,hj0,Qf,hat,hx',hw];refine ih _ _ ⟨h0,h1,h7,rfl,λi h h2=>?_⟩;rcases QR (QW h)with h|rfl
   ·exact hall i h h2
   ·exact hx
 ·obtain⟨h0,h1,h7,h8,hall⟩:=hI;refine Ae dc387l0.eq_1 ?_;have e:=firstT_no (λi h=>hall i h h);simp only[↓go1,gB2,go5,simprocAttr,h7,h8,Qt];rw[e]
  all_goals first|rfl|exact⟨rfl,rfl⟩|simp[*]
def S341:Summs:=AF [(387,Ac R387)]
def R341:List D->Option D:=RF S341 dc341 [.t 4] 9
def ko341:(Ac R341).ok Qc 341:=AH fn341 (Ab ko387 Ad)
def R341_eq{nl:Bool}{l:List Int}(n:Int)(hl:l.length<=1000):R341 [.slice nl [] (AT l),.int .i64 n]=some (.bool (hasI l n)):=by
 refine AG (Qb rfl) ?_;unfold dc341;have h387:=R387_eq (nl:=nl) n hl;have e:=hasI_first l n;generalize Be (l.map λx=>decide (n=x))=i at *;simp only[↓go1,gB2,go5,simprocAttr,An S341 387,h387];rw[←e]
 all_goals first|rfl|exact⟨rfl,rfl⟩|simp[*]
def S250:Summs:=AF []
def R250:List D->Option D:=RF S250 dc250 [.cell (some 3) 2] 6
def ko250:(Ac R250).ok Qc 250:=AH fn250 Ad
def R250_eq(r:Rw):R250 [.agg [.int .i64 r.1,.bool r.2.1,.bool r.2.2]]=some (.agg [.int .i64 r.1,.bool true,.bool false]):=by
 refine AG (Qb rfl) ?_;unfold dc250;simp only[↓go1,gB2,go5,simprocAttr]
 all_goals first|rfl|exact⟨rfl,rfl⟩|simp[*]
def S251:Summs:=AF []
def R251:List D->Option D:=RF S251 dc251 [.cell (some 3) 2] 6
def ko251:(Ac R251).ok Qc 251:=AH fn251 Ad
def R251_eq(r:Rw):R251 [.agg [.int .i64 r.1,.bool r.2.1,.bool r.2.2]]=some (.agg [.int .i64 r.1,.bool false,.bool false]):=by
 refine AG (Qb rfl) ?_;unfold dc251;simp only[↓go1,gB2,go5,simprocAttr]
 all_goals first|rfl|exact⟨rfl,rfl⟩|simp[*]
def S252:Summs:=AF []
def R252:List D->Option D:=RF S252 dc252 [.cell (some 3) 2] 6
def ko252:(Ac R252).ok Qc 252:=AH fn252 Ad
def R252_eq(r:Rw):R252 [.agg [.int .i64 r.1,.bool r.2.1,.bool r.2.2]]=some (.agg [.int .i64 r.1,.bool false,.bool true]):=by
 refine AG (Qb rfl) ?_;unfold dc252;simp only[↓go1,gB2,go5,simprocAttr]
 all_goals first|rfl|exact⟨rfl,rfl⟩|simp[*]
def chR(k:Nat)(r:Rw):Rw:=if k=250 then(r.1,true,false)else if k=251 then(r.1,false,false)else(r.1,false,true)
def hitR(ns:List Int)(n j:Nat)(x:Rw):Bool:=(hasI ns x.1||(ns.isEmpty&&decide (j+1=n)))&&!x.2.2
def turnR(ns:List Int)(k n:Nat):Nat->List Rw->List Rw
 |_,[]=>[]
 |j,x::r=>(if hitR ns n j x=true then chR k x else x)::turnR ns k n (j+1) r
def Ep(ns:List Int)(n:Nat):Nat->List Rw->List Int
 |_,[]=>[]
 |j,x::r=>if hitR ns n j x=true then x.1::Ep ns n (j+1) r else Ep ns n (j+1) r
def turnR_len(ns:List Int)(k n:Nat):∀(l:List Rw)(j:Nat),(turnR ns k n j l).length=l.length
 |[],_=>rfl
 |x::r,j=>by simp[turnR,turnR_len ns k n r]
def BF(s:Sc)(ns:List Int)(k:Nat):Sc×List Int×Int:=if DJ s 6=true then(s,[],2)else if s.rs=[]then(s,[],6)else({s with rs:=turnR ns k s.rs.length 0 s.rs},Ep ns s.rs.length 0 s.rs,0)
def mkTn(p:Sc×Bool×List Int×Nat):List D:=[.agg (scC p.1),.slice p.2.1 [] (AT p.2.2.1),.fn p.2.2.2 []]
def rwsD_inj{a b:List Rw}(h:A8 a=A8 b):a=b:=(List.map_inj_right (λx y e=>by
 simp only[rwD,D.agg.injEq,Qh,D.int.injEq,D.bool.injEq,true_and,and_true]at e;exact QK e.1 (QK e.2.1 e.2.2))).1 h
def scC_inj{a b:Sc}(h:scC a=scC b):a=b:=by
 cases a;cases b;simp only[scC,Qh,D.int.injEq,D.bool.injEq,D.slice.injEq,true_and,and_true]at h;obtain⟨h1,h2,h3,h4,h5⟩:=h;have:=rwsD_inj h5;subst h1 h2 h3 h4 this;rfl
def intsD_inj'{a b:List Int}(h:AT a=AT b):a=b:=(List.map_inj_right (λx y e=>by simpa using e)).1 h
def mkTn_inj(x y:Sc×Bool×List Int×Nat)(e:mkTn x=mkTn y):x=y:=by
 simp only[mkTn,Qh,D.agg.injEq,D.slice.injEq,D.fn.injEq,true_and,and_true]at e;exact QK (scC_inj e.1) (QK e.2.1.1 (QK (intsD_inj' e.2.1.2) e.2.2))
def resTn(p:Sc×Bool×List Int×Nat):D:= .tup [.agg (scC (BF p.1 p.2.2.1 p.2.2.2).1),.slice (decide ((BF p.1 p.2.2.1 p.2.2.2).2.1=[])) [] (AT (BF p.1 p.2.2.1 p.2.2.2).2.1),.int .i64 (BF p.1 p.2.2.1 p.2.2.2).2.2]
structure TnOk (p:Sc×Bool×List Int×Nat):Prop where
 hl:p.1.rs.length<=1000
 hn:p.1.nl=true->p.1.rs=[]
 hs:p.2.2.1.length<=1000
 hk:p.2.2.2=250∨p.2.2.2=251∨p.2.2.2=252
def F249:List D->Option D:=FX mkTn TnOk resTn
def OW:List D->Option (List D):=λds=>match ds with|[.slice false _ xs]=>if xs.length<=100000∧D.headSz xs 3=3∧(flat xs).all D.plain=true then some xs else none|_=>none
def own339:(ownS OW).ok Qc 339:=by
 unfold OW;refine own_ok (S:=λ_=>none) AK fn339 (λds r h=>?_) (λds xs h=>?_)
 ·split at h
  ·simp
  ·cases h
 ·split at h
  ·split at h
   ·rename_i hc;simp only[Qr]at h;subst h;exact⟨QE.1 hc.2.2,clone339 hc.1 (by simp) hc.2.1 _ ⟨_,228,rfl,by simp,by simp[Mem.put]⟩⟩
   ·cases h
  ·cases h
def rwsD_flat(l:List Rw):(flat (A8 l)).all D.plain=true:=by
 rw[QE];induction l with
 |nil=>intro x hx;cases hx
 |cons y r ih=>
  intro x hx;have hx':x∈[D.int .i64 y.1,.bool y.2.1,.bool y.2.2]++flat (A8 r):=hx;rcases List.mem_append.1 hx' with h|h
  ·simp only[Za,Zb,or_false]at h;rcases h with rfl|rfl|rfl<;>rfl
  ·exact ih x h
def own_ex{l:List Rw}{t:Id}{m:Mem}{fr:Id}(h:l.length<=1000):(ownS OW).ex [.slice false t (A8 l)] m fr=some (.row fr l.length,[(fr,0,flat (A8 l))]):=by
 have e:OW [.slice false [] ((A8 l).map D.un)]=some (A8 l):=by
  have:(A8 l).map D.un=A8 l:=by rw[A8,Zc];exact QQ λ_ _=>rfl
  rw[this];exact if_pos ⟨by rw[AV];omega,rwsD_hd l,rwsD_flat l⟩
 have e2:OW ([D.slice false t (A8 l)].map D.un)=some (A8 l):=if_pos ⟨by rw[AV];omega,rwsD_hd l,rwsD_flat l⟩;simp only[ownS];refine(if_pos rfl).trans ?_;rw[e2,Qw,AV]
def FI(m:Mem)(i:Id)(l:List Rw):Prop:=∀k x,l[k]?=some x->Ag m i (k*3) 3=some [.int .i64 x.1,.bool x.2.1,.bool x.2.2]
def rdW3{m:Mem}{i:Id}{o:Nat}{a b c:D}:Ag m i o 3=some [a,b,c]↔(m i o=some a∧m i (o+1)=some b∧m i (o+2)=some c):=by
 simp only[Ag];cases m i o<;>cases m i (o+1)<;>cases m i (o+1+1)<;>simp
def FI.toFlat{m:Mem}{i:Id}:∀{l:List Rw} {p:Nat},(∀k x,l[k]?=some x->Ag m i (p+k*3) 3=some [.int .i64 x.1,.bool x.2.1,.bool x.2.2])->∀(j:Nat) d,(flat (A8 l))[j]?=some d->m i (p+j)=some d
 |[],p,_,j,d,h=>by simp[A8,Vd.flat]at h
 |x::r,p,hr,j,d,h=>by
  have h':([D.int .i64 x.1,.bool x.2.1,.bool x.2.2]++Vd.flat (A8 r))[j]?=some d:=h;obtain⟨a0,a1,a2⟩:=rdW3.1 (hr 0 x rfl);simp only[Nat.zero_mul,Nat.add_zero]at a0 a1 a2
  match j,h' with
  |0,h'=>simp only[QN,QB,Qr]at h';subst h';exact a0
  |1,h'=>simp only[QN,Qe,QB,Qr]at h';subst h';exact a1
  |2,h'=>simp only[QN,Qe,QB,Qr]at h';subst h';exact a2
  |j+3,h'=>
   have:=FI.toFlat (p:=p+3) (l:=r) (λk y hk=>by
    have:=hr (k+1) y (by simpa using hk);rw[show p+(k+1)*3=p+3+k*3 by omega]at this;exact this) j d (by simpa using h')
   rw[show p+3+j=p+(j+3)by omega]at this;exact this
def FI.of{m:Mem}{i:Id}:∀{l:List Rw} {p:Nat},(∀(j:Nat) d,(flat (A8 l))[j]?=some d->m i (p+j)=some d)->∀k x,l[k]?=some x->Ag m i (p+k*3) 3=some [.int .i64 x.1,.bool x.2.1,.bool x.2.2]
 |[],p,_,k,x,h=>by simp at h
 |y::r,p,hr,k,x,h=>by
  match k,h with
  |0,h=>
   simp only[QB,Qr]at h;subst h;exact rdW3.2 ⟨by simpa using hr 0 _ rfl,by simpa using hr 1 _ rfl,by simpa using hr 2 _ rfl⟩
  |k+1,h=>
   have:=FI.of (p:=p+3) (l:=r) (λj d hj=>by
    have:=hr (j+3) d hj;rw[show p+(j+3)=p+3+j by omega]at this;exact this) k x (by simpa using h)
   rw[show p+3+k*3=p+(k+1)*3 by omega]at this;exact this
def FI.set{m:Mem}{i:Id}{A B:List Rw}{x y:Rw}(h:FI m i (A++x::B)):FI (m.put i (A.length*3) [.int .i64 y.1,.bool y.2.1,.bool y.2.2]) i (A++y::B):=by
 intro k z hz;by_cases hk:k=A.length
 ·subst hk;rw[QL (QS _),Zn,QB,Qr]at hz;subst hz;refine rdW3.2 ⟨?_,?_,?_⟩<;>simp[Mem.put]
 ·have hz':(A++x::B)[k]?=some z:=by
   rcases Nat.lt_or_gt_of_ne hk with h1|h1
   ·rw[List.getElem?_append_left h1]at hz ⊢;exact hz
   ·rw[QL (by omega)]at hz ⊢;rw[show k-A.length=(k-A.length-1)+1 by omega,Qe]at hz ⊢;exact hz
  obtain⟨a0,a1,a2⟩:=rdW3.1 (h k z hz');have ho:∀o,(o=k*3∨o=k*3+1∨o=k*3+2)->(m.put i (A.length*3) [.int .i64 y.1,.bool y.2.1,.bool y.2.2]) i o=m i o:=λo ho=>by
   refine Mem.put_out ?_;simp only[gB3];omega
  exact rdW3.2 ⟨by rw[ho _ (.inl rfl)];exact a0,by rw[ho _ (.inr (.inl rfl))];exact a1,by rw[ho _ (.inr (.inr rfl))];exact a2⟩
def FI.other{m:Mem}{i j:Id}{o:Nat}{ds:List D}{l:List Rw}(h:FI m i l)(hne:i≠j):FI (m.put j o ds) i l:=λk x hk=>by
 obtain⟨a0,a1,a2⟩:=rdW3.1 (h k x hk);exact rdW3.2 ⟨by rw[Mem.put_other hne];exact a0,by rw[Mem.put_other hne];exact a1,by rw[Mem.put_other hne];exact a2⟩
def FI.grow{m:Mem}{i f t:Id}{e:Nat}{nl:Bool}{xs:List D}{l:List Rw}(h:FI m i l)(h1:i≠f)(h2:nl=false->i≠t):FI (Upd.app m (Bi e f (.slice nl t xs))) i l:=by
 cases nl with
 |true=>exact h.other h1
 |false=>exact(h.other (h2 rfl)).other h1
def LG.row{c0 e c r o:Nat}{m0 m:Mem}{nl:Bool}{t:Id}{ds:List D}(h:LG c0 m0 e m c nl t)(hr:c0<=r)(ht:nl=false->t≠[r]):LG c0 m0 e (m.put [r] o ds) c nl t:=by
 obtain⟨h1,h2,h3⟩:=h;refine⟨λq o' hq=>?_,?_,h3⟩
 ·rw[Mem.put_other (by simp;omega)];exact h1 q o' hq
 ·rcases h2 with h2|⟨j,rfl,a,b,d⟩
  ·exact .inl h2
  ·cases nl with
   |true=>exact .inl rfl
   |false=>exact .inr ⟨j,rfl,a,b,by rw[Mem.put_other (ht rfl)];exact d⟩
def rd3s{m:Mem}{i:Id}{o:Nat}{a b c:D}(h:Ag m i o 3=some [a,b,c]):m i o=some a∧m i (o+1)=some b∧m i (o+1+1)=some c:=rdW3.1 h
def row_da{i:Id}{n:Nat}:D.data (.row i n)=true:=rfl
def row_ce{i:Id}{n:Nat}:D.cells (.row i n)=[.row i n]:=rfl
def ok249:(Ac F249).ok Qc 249:=by
 have hS:Summs.ok Qc (AF [(191,Ac GH),(241,Ac R241),(339,ownS OW),(341,Ac R341),(250,Ac R250),(251,Ac R251),(252,Ac R252)]):=Ab ko191 (Ab ko241 (Ab own339 (Ab ko341 (Ab ko250 (Ab ko251 (Ab ko252 Ad))))));have s191:AF [(191,Ac GH),(241,Ac R241),(339,ownS OW),(341,Ac R341),(250,Ac R250),(251,Ac R251),(252,Ac R252)] 191=some (Ac GH):=rfl;have s241:AF [(191,Ac GH),(241,Ac R241),(339,ownS OW),(341,Ac R341),(250,Ac R250),(251,Ac R251),(252,Ac R252)] 241=some (Ac R241):=rfl;have s339:AF [(191,Ac GH),(241,Ac R241),(339,ownS OW),(341,Ac R341),(250,Ac R250),(251,Ac R251),(252,Ac R252)] 339=some (ownS OW):=rfl;have s341:AF [(191,Ac GH),(241,Ac R241),(339,ownS OW),(341,Ac R341),(250,Ac R250),(251,Ac R251),(252,Ac R252)] 341=some (Ac R341):=rfl;have sk:∀k,k=250∨k=251∨k=252->∃F,AF [(191,Ac GH),(241,Ac R241),(339,ownS OW),(341,Ac R341),(250,Ac R250),(251,Ac R251),(252,Ac R252)] k=some (Ac F)∧∀x:Rw,F [.agg [.int .i64 x.1,.bool x.2.1,.bool x.2.2]]=some (.agg [.int .i64 (chR k x).1,.bool (chR k x).2.1,.bool (chR k x).2.2]):=λk hk=>by
  rcases hk with rfl|rfl|rfl
  ·exact⟨R250,rfl,R250_eq⟩
  ·exact⟨R251,rfl,R251_eq⟩
  ·exact⟨R252,rfl,R252_eq⟩
 generalize AF [(191,Ac GH),(241,Ac R241),(339,ownS OW),(341,Ac R341),(250,Ac R250),(251,Ac R251),(252,Ac R252)]=S at hS s191 s241 s339 s341 sk;refine fxs_ok hS fn249 (λ_=>by simp[mkTn]) (λp hp=>⟨by rfl,?_⟩);obtain⟨s,bn,ns,k⟩:=p;obtain⟨hl,hn,hs,hk⟩:=hp;simp only at hl hn hs hk;obtain⟨F,sF,hF⟩:=sk k hk;have h191:=GG s 6 false hl;have h241:=R241_eq;unfold dc249 mkTn resTn BF;simp only;unfold secE at h191;cases hb:DJ s 6 with
 |true=>
  rw[hb]at h191;simp only[if_true]at h191 ⊢;unfold scC at h191 ⊢;simp only[↓go1,gB2,go5,simprocAttr,Aa s191,h191,Aa s241,h241]
  (refine Ao.intro (Aj ?_) ?_;first|rfl|simp[A2,AL,rds,Ai,Ac])
  simp only[↓go1,gB2,go5,simprocAttr];exact .inr ⟨_,_,rfl,rfl,.inl (.inl rfl),.inl (.inl rfl),.inl (.inl rfl),trivial⟩
 |false=>
  rw[hb]at h191;simp only[if_false,Qq]at h191 ⊢;by_cases hz:s.rs=[]
  ·have hz':((s.rs.length:Int)=0)=True:=eq_true (by rw[hz];rfl);simp only[if_pos hz];unfold scC at h191 ⊢;simp only[↓go1,gB2,go5,simprocAttr,Aa s191,h191,Aa s241,h241]
   (refine Ao.intro (Aj ?_) ?_;first|rfl|simp[A2,AL,rds,Ai,Ac])
   simp only[↓go1,gB2,go5,simprocAttr,AV,hz'];exact .inr ⟨_,_,rfl,rfl,.inl (.inl rfl),.inl (.inl rfl),.inl (.inl rfl),trivial⟩
  ·have hpos:0<s.rs.length:=by
    rcases Nat.eq_zero_or_pos s.rs.length with h|h
    ·exact absurd (QA.1 h) hz
    ·exact h
   have hz':((s.rs.length:Int)=0)=False:=eq_false (by omega);have hsn:s.nl=false:=by
    cases h:s.nl with
    |true=>exact absurd (hn h) hz
    |false=>rfl
   have hown:=λ(m:Mem)(fr:Id)=>own_ex (l:=s.rs) (t:=[]) (m:=m) (fr:=fr) hl
   simp only[if_neg hz];unfold scC at h191 ⊢;simp only[hsn]at h191 ⊢;simp only[↓go1,gB2,go5,simprocAttr,Aa s191,h191,Aa s241,h241]
   (refine Ao.intro (Aj ?_) ?_;first|rfl|simp[A2,AL,rds,Ai,Ac])
   simp only[↓go1,gB2,go5,simprocAttr,AV,hz',Ah s339,hown];have hflat:FI (Mem.put (λ_ _=>none) [14] 0 (flat (A8 s.rs))) [14] s.rs:=λk x hk=>by
    have:=FI.of (m:=Mem.put (λ_ _=>none) [14] 0 (flat (A8 s.rs))) (i:=[14]) (p:=0) (l:=s.rs) (λj d hj=>by
     have hjl:=(QP.1 hj).1;rw[Mem.put_same hjl,hj]) k x hk
    rwa [Qs]at this
   refine Bm (n:=s.rs.length) (I:=λj st=>st.s 27= .row [14] s.rs.length∧st.s 28= .int .i64 s.rs.length∧st.s 29= .int .i64 (j:Int)∧st.s 9= .row [14] s.rs.length∧st.s 1= .slice bn [] (AT ns)∧st.s 2= .fn k []∧st.s 3= .ptr [0] 0∧st.s 6= .ptr [1] 0∧∃A B nl t,A.length=j∧A++turnR ns k s.rs.length j (s.rs.drop j)=turnR ns k s.rs.length 0 s.rs∧B++Ep ns s.rs.length j (s.rs.drop j)=Ep ns s.rs.length 0 s.rs∧st.s 10= .slice nl t (AT B)∧nl=decide (B=[])∧FI st.m [14] (A++s.rs.drop j)∧15<=st.c∧(nl=false->t≠[14])∧LG 14 _ 3 st.m st.c nl t) (λj hj ih st g hI=>?_) (λst g hI=>?_) 0 (Qv _) _ _ ⟨rfl,rfl,rfl,rfl,rfl,rfl,rfl,rfl,[],[],true,[],rfl,rfl,rfl,rfl,rfl,?_,by simp only;omega,by simp,LG.start (by simp only;omega)⟩
   rotate_left 2
   ·intro k x hk;obtain⟨a0,a1,a2⟩:=rdW3.1 (hflat k x hk);have hpl:k*3+2<(flat (A8 s.rs)).length:=by
     by_cases hh:k*3+2<(flat (A8 s.rs)).length
     ·exact hh
     ·rw[Mem.put_out (by omega)]at a2;cases a2
    refine rdW3.2 ⟨?_,?_,?_⟩
    ·rw[←a0];simp[Mem.put]
    ·rw[←a1];simp[Mem.put]
    ·rw[←a2];simp[Mem.put]
   ·obtain⟨st_s,st_m,st_c⟩:=st;obtain⟨h27,h28,h29,h9,h1,h2,h3,h6,A,B,nl,t,hAl,hA,hB,h10,hnl,hR,hc,ht,hG⟩:=hI;simp only at h27 h28 h29 h9 h1 h2 h3 h6 h10 hR hc hG;refine Ae dc249l0.eq_1 ?_;have hlt:((j:Int)<s.rs.length):=by omega
    have hj0:=nJ (j:=j);have hjn:((j:Int)<((s.rs.length:Nat):Int)):=by omega
    have hw:=wJ (j:=j) (by omega);have hwl:IntKind.i64.wrap ((s.rs.length:Int)-1)=(s.rs.length:Int)-1:=w64 (by omega) (by omega);have hd:s.rs.drop j=s.rs[j]::s.rs.drop (j+1):=QH hj;rw[hd]at hA hB hR;generalize s.rs[j]=x at hA hB hR;have hrow:Ag st_m [14] (j*3) 3=some [.int .i64 x.1,.bool x.2.1,.bool x.2.2]:=hR j x (by rw[QL (by omega),hAl,Zn];rfl);have h341:=R341_eq (nl:=bn) (l:=ns) x.1 hs;have hBl:(AT B).length<=100000:=by
     have h1:=congrArg Zs hB;have h2:∀(l:List Rw)(j:Nat),(Ep ns s.rs.length j l).length<=l.length:=λl=>by
      induction l with
      |nil=>intro j;simp[Ep]
      |cons y r ih=>intro j;unfold Ep;split<;>have:=ih (j+1)<;>simp only[QO]<;>omega
     have h3:=h2 s.rs 0;rw[Qo]at h1;rw[intsD_len'];omega
    have hBl2:B.length<=100000:=by rw[←intsD_len'];exact hBl
    have hBn:nl=true->AT B=[]:=by rw[hnl];intro h;rw[of_decide_eq_true h];rfl
    have e1:turnR ns k s.rs.length j (x::s.rs.drop (j+1))=(if hitR ns s.rs.length j x=true then chR k x else x)::turnR ns k s.rs.length (j+1) (s.rs.drop (j+1)):=rfl;have e2:Ep ns s.rs.length j (x::s.rs.drop (j+1))=if hitR ns s.rs.length j x=true then x.1::Ep ns s.rs.length (j+1) (s.rs.drop (j+1))else Ep ns s.rs.length (j+1) (s.rs.drop (j+1)):=rfl
    have hBa:AT (B++[x.1])=AT B++[.int .i64 x.1]:=by simp[AT]
    have hFx:=hF x;subst hAl;generalize hcb:hasI ns x.1=cb at h341;have h0:((ns.length:Int)=0)=(ns.isEmpty=true):=by cases ns<;>simp<;>omega
    have h14:(14=st_c+1+3)=False:=eq_false (by omega);have h15:(st_c=10)=False:=eq_false (by omega);have hjq:((A.length:Int)=(s.rs.length:Int)-1)=(A.length+1=s.rs.length):=propext (by omega);cases cb with
    |true=>
     cases hxd:x.2.2 with
     |true=>
      rw[hxd]at hrow;obtain⟨a0,a1,a2⟩:=rd3s hrow;have hh:hitR ns s.rs.length A.length x=false:=by simp[hitR,hcb,hxd]
      rw[hh,if_neg QF]at e1 e2;simp only[↓go1,gB2,go5,simprocAttr,h27,h28,h29,h1,hlt,hj0,Qf,a0,a1,a2,Aa s341,h341,hw];refine ih _ _ ⟨h27,h28,rfl,h9,h1,h2,h3,h6,A++[x],B,nl,t,by simp,by rw[←hA,e1];simp,by rw[←hB,e2],h10,hnl,?_,by simp only;omega,ht,(by first|exact hG.more (by simp only;omega)|exact(hG.put (by omega)).more (by simp only;omega)|exact((hG.put (by omega)).put (by omega)).more (by simp only;omega)|exact(((hG.put (by omega)).put (by omega)).put (by omega)).more (by simp only;omega)|exact((((hG.put (by omega)).put (by omega)).put (by omega)).put (by omega)).more (by simp only;omega)|exact(((((hG.put (by omega)).put (by omega)).put (by omega)).put (by omega)).put (by omega)).more (by simp only;omega))⟩;rw[QC];exact(hR.other (by first|(simp;done)|(simp;omega))).other (by first|(simp;done)|(simp;omega))
     |false=>
      rw[hxd]at hrow;obtain⟨a0,a1,a2⟩:=rd3s hrow;rw[hxd]at hFx;have hh:hitR ns s.rs.length A.length x=true:=by simp[hitR,hcb,hxd]
      rw[if_pos hh]at e1 e2;simp only[↓go1,gB2,go5,simprocAttr,h27,h28,h29,h9,h1,h2,h10,hlt,hj0,Qf,a0,a1,a2,h14,h15,Aa s341,h341,intsD_len',Aa sF,hFx];refine Ao.intro ⟨by omega,rfl,(by first|exact(((hG.put (by omega)).put (by omega)).row (by omega) ht).grow|exact((((hG.put (by omega)).put (by omega)).row (by omega) ht).put (by omega)).grow)⟩ ?_;rw[BH hBn,←hBa];simp only[↓go1,go2,simprocAttr,h29,hw];refine ih _ _ ⟨h27,h28,rfl,h9,h1,h2,h3,h6,A++[chR k x],B++[x.1],false,_,by simp,by rw[←hA,e1];simp,by rw[←hB,e2];simp,rfl,by simp,?_,by simp only;omega,by first|(simp;done)|(simp;omega),(by first|exact(((hG.put (by omega)).put (by omega)).row (by omega) ht).app (by omega) (by simp only;omega)|exact((((hG.put (by omega)).put (by omega)).row (by omega) ht).put (by omega)).app (by omega) (by simp only;omega))⟩;rw[QC]
      first|exact(FI.set ((hR.other (by first|(simp;done)|(simp;omega))).other (by first|(simp;done)|(simp;omega)))).grow (by first|(simp;done)|(simp;omega)) (λh e=>ht h e.symm)|exact((FI.set ((hR.other (by first|(simp;done)|(simp;omega))).other (by first|(simp;done)|(simp;omega)))).other (by first|(simp;done)|(simp;omega))).grow (by first|(simp;done)|(simp;omega)) (λh e=>ht h e.symm)
    |false=>
     cases hle:ns.isEmpty with
     |false=>
      rw[hle]at h0;obtain⟨a0,a1,a2⟩:=rd3s hrow;have hh:hitR ns s.rs.length A.length x=false:=by simp[hitR,hcb,hle]
      rw[hh,if_neg QF]at e1 e2;simp only[↓go1,gB2,go5,simprocAttr,h27,h28,h29,h1,hlt,hj0,Qf,a0,a1,a2,Aa s341,h341,intsD_len',h0,hw];refine ih _ _ ⟨h27,h28,rfl,h9,h1,h2,h3,h6,A++[x],B,nl,t,by simp,by rw[←hA,e1];simp,by rw[←hB,e2],h10,hnl,?_,by simp only;omega,ht,(by first|exact hG.more (by simp only;omega)|exact(hG.put (by omega)).more (by simp only;omega)|exact((hG.put (by omega)).put (by omega)).more (by simp only;omega)|exact(((hG.put (by omega)).put (by omega)).put (by omega)).more (by simp only;omega)|exact((((hG.put (by omega)).put (by omega)).put (by omega)).put (by omega)).more (by simp only;omega)|exact(((((hG.put (by omega)).put (by omega)).put (by omega)).put (by omega)).put (by omega)).more (by simp only;omega))⟩;rw[QC];exact(hR.other (by first|(simp;done)|(simp;omega))).other (by first|(simp;done)|(simp;omega))
     |true=>
      rw[hle]at h0;by_cases hjl:A.length+1=s.rs.length
      ·rw[eq_true hjl]at hjq;cases hxd:x.2.2 with
       |true=>
        rw[hxd]at hrow;obtain⟨a0,a1,a2⟩:=rd3s hrow;have hh:hitR ns s.rs.length A.length x=false:=by simp[hitR,hcb,hle,hjl,hxd]
        rw[hh,if_neg QF]at e1 e2;simp only[↓go1,gB2,go5,simprocAttr,h27,h28,h29,h9,h1,hlt,hj0,Qf,a0,a1,a2,Aa s341,h341,intsD_len',h0,hwl,hjq,hw];refine ih _ _ ⟨h27,h28,rfl,h9,h1,h2,h3,h6,A++[x],B,nl,t,by simp,by rw[←hA,e1];simp,by rw[←hB,e2],h10,hnl,?_,by simp only;omega,ht,(by first|exact hG.more (by simp only;omega)|exact(hG.put (by omega)).more (by simp only;omega)|exact((hG.put (by omega)).put (by omega)).more (by simp only;omega)|exact(((hG.put (by omega)).put (by omega)).put (by omega)).more (by simp only;omega)|exact((((hG.put (by omega)).put (by omega)).put (by omega)).put (by omega)).more (by simp only;omega)|exact(((((hG.put (by omega)).put (by omega)).put (by omega)).put (by omega)).put (by omega)).more (by simp only;omega))⟩;rw[QC];exact(hR.other (by first|(simp;done)|(simp;omega))).other (by first|(simp;done)|(simp;omega))
       |false=>
        rw[hxd]at hrow;obtain⟨a0,a1,a2⟩:=rd3s hrow;rw[hxd]at hFx;have hh:hitR ns s.rs.length A.length x=true:=by simp[hitR,hcb,hle,hjl,hxd]
        rw[if_pos hh]at e1 e2;simp only[↓go1,gB2,go5,simprocAttr,h27,h28,h29,h9,h1,h2,h10,hlt,hj0,Qf,a0,a1,a2,h14,h15,Aa s341,h341,intsD_len',Aa sF,hFx,h0,hwl,hjq];refine Ao.intro ⟨by omega,rfl,(by first|exact(((hG.put (by omega)).put (by omega)).row (by omega) ht).grow|exact((((hG.put (by omega)).put (by omega)).row (by omega) ht).put (by omega)).grow)⟩ ?_;rw[BH hBn,←hBa];simp only[↓go1,go2,simprocAttr,h29,hw];refine ih _ _ ⟨h27,h28,rfl,h9,h1,h2,h3,h6,A++[chR k x],B++[x.1],false,_,by simp,by rw[←hA,e1];simp,by rw[←hB,e2];simp,rfl,by simp,?_,by simp only;omega,by first|(simp;done)|(simp;omega),(by first|exact(((hG.put (by omega)).put (by omega)).row (by omega) ht).app (by omega) (by simp only;omega)|exact((((hG.put (by omega)).put (by omega)).row (by omega) ht).put (by omega)).app (by omega) (by simp only;omega))⟩;rw[QC]
        first|exact(FI.set ((hR.other (by first|(simp;done)|(simp;omega))).other (by first|(simp;done)|(simp;omega)))).grow (by first|(simp;done)|(simp;omega)) (λh e=>ht h e.symm)|exact((FI.set ((hR.other (by first|(simp;done)|(simp;omega))).other (by first|(simp;done)|(simp;omega)))).other (by first|(simp;done)|(simp;omega))).grow (by first|(simp;done)|(simp;omega)) (λh e=>ht h e.symm)
      ·rw[eq_false hjl]at hjq;obtain⟨a0,a1,a2⟩:=rd3s hrow;have hh:hitR ns s.rs.length A.length x=false:=by simp[hitR,hcb,hle,hjl]
       rw[hh,if_neg QF]at e1 e2;simp only[↓go1,gB2,go5,simprocAttr,h27,h28,h29,h9,h1,hlt,hj0,Qf,a0,a1,a2,Aa s341,h341,intsD_len',h0,hwl,hjq,hw];refine ih _ _ ⟨h27,h28,rfl,h9,h1,h2,h3,h6,A++[x],B,nl,t,by simp,by rw[←hA,e1];simp,by rw[←hB,e2],h10,hnl,?_,by simp only;omega,ht,(by first|exact hG.more (by simp only;omega)|exact(hG.put (by omega)).more (by simp only;omega)|exact((hG.put (by omega)).put (by omega)).more (by simp only;omega)|exact(((hG.put (by omega)).put (by omega)).put (by omega)).more (by simp only;omega)|exact((((hG.put (by omega)).put (by omega)).put (by omega)).put (by omega)).more (by simp only;omega)|exact(((((hG.put (by omega)).put (by omega)).put (by omega)).put (by omega)).put (by omega)).more (by simp only;omega))⟩;rw[QC];exact(hR.other (by first|(simp;done)|(simp;omega))).other (by first|(simp;done)|(simp;omega))
   ·obtain⟨st_s,st_m,st_c⟩:=st;obtain⟨h27,h28,h29,h9,h1,h2,h3,h6,A,B,nl,t,hAl,hA,hB,h10,hnl,hR,hc,ht,hG⟩:=hI;simp only at h27 h28 h29 h9 h1 h2 h3 h6 h10 hR hc hG;refine Ae dc249l0.eq_1 ?_;have m0:∀k,st_m [0] k=_:=λk=>hG.low 0 k (by omega)
    have m1:∀k,st_m [1] k=_:=λk=>hG.low 1 k (by omega)
    rw[QZ,turnR,QD]at hA;rw[QZ,Ep,QD]at hB;rw[QZ,QD,hA]at hR;subst hnl hB;simp only[↓go1,gB2,go5,simprocAttr,h28,h29,h9,h10,h3,h6,Qt,m0,m1,row_da,row_ce];refine .inr ⟨_,_,rfl,rfl,.inr ⟨_,_,rfl,rfl,.inl rfl,.inl rfl,.inl rfl,.inr ⟨[14],A8 (turnR ns k s.rs.length 0 s.rs),3,?_,rfl,?_,?_⟩,trivial⟩,.inl (.inl rfl),.inl (.inl rfl),trivial⟩
    ·rw[AV,turnR_len]
    ·intro x hx;obtain⟨y,_,rfl⟩:=QJ.1 hx;exact⟨rfl,rfl⟩
    ·intro j x hx;have:=FI.toFlat (m:=st_m) (i:=[14]) (p:=0) (l:=turnR ns k s.rs.length 0 s.rs) (λk x hk=>by rw[Qs];exact hR k x hk) j x hx;rw[Qs]at this;rw[←this];simp[Mem.put]
def F249_eq(s:Sc)(bn:Bool)(ns:List Int)(k:Nat)(h:TnOk (s,bn,ns,k)):F249 [.agg (scC s),.slice bn [] (AT ns),.fn k []]=some (resTn (s,bn,ns,k)):=Bq (mk:=mkTn) (a:=(s,bn,ns,k)) mkTn_inj h
def S143:Summs:=AF [(249,Ac F249)]
def R143:List D->Option D:=RF S143 dc143 [.cell (some 4) 4,.t 5] 18
def ko143:(Ac R143).ok Qc 143:=AH fn143 (Ab ok249 Ad)
def R143_eq(s:Sc)(bn:Bool)(ns:List Int)(hl:s.rs.length<=1000)(hn:s.nl=true->s.rs=[])(hs:ns.length<=1000):R143 [.agg (scC s),.slice bn [] (AT ns)]=some (.tup [.agg (scC (BF s ns 250).1),.int .i64 (BF s ns 250).2.2]):=by
 refine AG (Qb rfl) ?_;unfold dc143;have h249:=F249_eq s bn ns 250 ⟨hl,hn,hs,by simp⟩;unfold resTn at h249;simp only at h249;generalize BF s ns 250=r at *;unfold scC at *;simp only[↓go1,gB2,go5,simprocAttr,An S143 249,h249]
 all_goals first|rfl|exact⟨rfl,rfl⟩|simp[*]
def S144:Summs:=AF [(249,Ac F249)]
def R144:List D->Option D:=RF S144 dc144 [.cell (some 4) 4,.t 5] 18
def ko144:(Ac R144).ok Qc 144:=AH fn144 (Ab ok249 Ad)
def R144_eq(s:Sc)(bn:Bool)(ns:List Int)(hl:s.rs.length<=1000)(hn:s.nl=true->s.rs=[])(hs:ns.length<=1000):R144 [.agg (scC s),.slice bn [] (AT ns)]=some (.tup [.agg (scC (BF s ns 251).1),.int .i64 (BF s ns 251).2.2]):=by
 refine AG (Qb rfl) ?_;unfold dc144;have h249:=F249_eq s bn ns 251 ⟨hl,hn,hs,by simp⟩;unfold resTn at h249;simp only at h249;generalize BF s ns 251=r at *;unfold scC at *;simp only[↓go1,gB2,go5,simprocAttr,An S144 249,h249]
 all_goals first|rfl|exact⟨rfl,rfl⟩|simp[*]
def S145:Summs:=AF [(249,Ac F249)]
def R145:List D->Option D:=RF S145 dc145 [.cell (some 4) 4,.t 5,.t 6] 13
def ko145:(Ac R145).ok Qc 145:=AH fn145 (Ab ok249 Ad)
def R145_eq(s:Sc)(bn:Bool)(ns:List Int)(hl:s.rs.length<=1000)(hn:s.nl=true->s.rs=[])(hs:ns.length<=1000):R145 [.agg (scC s),.slice bn [] (AT ns)]=some (.tup [.agg (scC (BF s ns 252).1),.slice (decide ((BF s ns 252).2.1=[])) [] (AT (BF s ns 252).2.1),.int .i64 (BF s ns 252).2.2]):=by
 refine AG (Qb rfl) ?_;unfold dc145;have h249:=F249_eq s bn ns 252 ⟨hl,hn,hs,by simp⟩;unfold resTn at h249;simp only at h249;generalize BF s ns 252=r at *;unfold scC at *;simp only[↓go1,gB2,go5,simprocAttr,An S145 249,h249]
 all_goals first|rfl|exact⟨rfl,rfl⟩|simp[*]
def bitI(b:Bool):Int:=if b=true then 1 else 0
def bysD(l:List Int):List D:=l.map (.int .u8)
def bysB(l:List Int):Bs:=l.map λn=>UInt8.ofNat n.toNat
def bysD_len(l:List Int):(bysD l).length=l.length:=Qk ..
def bysD_un:∀l:List Int,BE (bysD l)=some (bysB l)
 |[]=>rfl
 |n::r=>by
  show(BE (bysD r)).map _=_;rw[bysD_un r];rfl
def rowI(x:Rw):List Int:=[IntKind.u8.wrap x.1,bits .or .u8 (bitI x.2.1) (IntKind.u8.wrap (bitI x.2.2*2))]
def rowsI:List Rw->List Int
 |[]=>[]
 |x::r=>rowI x++rowsI r
def rowsI_len:∀l:List Rw,(rowsI l).length=2*l.length
 |[]=>rfl
 |x::r=>by simp[rowsI,rowI,rowsI_len r];omega
def FT(s:Sc):Bs:=if DJ s 6=true then []else bysB ([IntKind.u8.wrap s.mx,bitI s.cas,IntKind.u8.wrap s.la,IntKind.u8.wrap s.rs.length]++rowsI s.rs)
def packE(s:Sc):Int:=if DJ s 6=true then 2 else 0
def S386:Summs:=AF []
def R386:List D->Option D:=RF S386 dc386 [.t 2] 4
def ko386:(Ac R386).ok Qc 386:=AH fn386 Ad
def R386_eq(b:Bool):R386 [.bool b]=some (.int .u8 (bitI b)):=by
 refine AG (Qb rfl) ?_;unfold dc386;cases b with
 |true=>
  simp only[↓go1,go2,go3,go5,simprocAttr]
  all_goals first|rfl|exact⟨rfl,rfl⟩|simp[*]
 |false=>
  simp only[↓go1,go2,go3,go5,simprocAttr]
  all_goals first|rfl|exact⟨rfl,rfl⟩|simp[*]
def S340:Summs:=AF [(191,Ac GH),(335,Ac R335),(386,Ac R386)]
def R340:List D->Option D:=RF S340 dc340 [.t 2,.t 3] 49
def ko340:(Ac R340).ok Qc 340:=AH fn340 (Ab ko191 (Ab ko335 (Ab ko386 Ad)))
def R340_eq(s:Sc)(hl:s.rs.length<=1000):R340 [.agg (scC s)]=some (.tup [.str (FT s),.int .i64 (packE s)]):=by
 refine AG (Qb rfl) ?_;have s335:S340 335=some (Ac R335):=rfl;have s386:S340 386=some (Ac R386):=rfl;unfold dc340;have h191:=GG s 6 false hl;have h335:=R335_eq;have h386:=R386_eq;unfold FT packE;unfold secE at h191;unfold scC at *;cases hb:DJ s 6 with
 |true=>
  rw[hb]at h191;simp only[if_true]at h191;simp only[↓go1,gB2,go5,simprocAttr,An S340 191,h191,Aa s335,h335]
  (refine Ao.intro (Aj ?_) ?_;first|rfl|simp[A2,AL,rds,Ai,Ac])
  simp only[↓go1,gB2,go5,simprocAttr]
  all_goals first|rfl|exact⟨rfl,rfl⟩|simp[*]
 |false=>
  rw[hb]at h191;simp only[if_false,Qq]at h191;simp only[↓go1,gB2,go5,simprocAttr,An S340 191,h191,Aa s335,h335]
  (refine Ao.intro (Aj ?_) ?_;first|rfl|simp[A2,AL,rds,Ai,Ac])
  simp only[↓go1,gB2,go5,simprocAttr,Aa s386,h386,AV]
  (refine Ao.intro (Aj ?_) ?_;first|rfl|simp[A2,AL,rds,Ai,Ac])
  simp only[↓go1,gB2,go5,simprocAttr,AV];refine Bm (n:=s.rs.length) (I:=λj st=>st.s 26= .slice s.nl [] (A8 s.rs)∧st.s 27= .int .i64 s.rs.length∧st.s 28= .int .i64 (j:Int)∧∃B t,B.length=4+2*j∧B++rowsI (s.rs.drop j)=[IntKind.u8.wrap s.mx,bitI s.cas,IntKind.u8.wrap s.la,IntKind.u8.wrap s.rs.length]++rowsI s.rs∧st.s 4= .slice false t (bysD B)∧LG 1 _ 5 st.m st.c false t) (λj hj ih st g hI=>?_) (λst g hI=>?_) 0 (Qv _) _ _ ⟨rfl,rfl,rfl,_,_,rfl,rfl,rfl,⟨λ_ _ _=>rfl,.inr ⟨_,rfl,by omega,by simp only;omega,by simp[Mem.put,Upd.app]⟩,by simp only;omega⟩⟩
  ·obtain⟨st_s,st_m,st_c⟩:=st;obtain⟨h26,h27,h28,B,t,hBl,hB,h4,hG⟩:=hI;simp only at h26 h27 h28 h4 hG;refine Ae dc340l0.eq_1 ?_;have hlt:((j:Int)<s.rs.length):=by omega
   have hj0:=nJ (j:=j);have hw:=wJ (j:=j) (by omega);have hat:=Fe hj;have hd:s.rs.drop j=s.rs[j]::s.rs.drop (j+1):=QH hj;rw[hd]at hB;generalize s.rs[j]=x at hat hB;have hBa:bysD B++[.int .u8 (IntKind.u8.wrap x.1),.int .u8 (bits .or .u8 (bitI x.2.1) (IntKind.u8.wrap (bitI x.2.2*2)))]=bysD (B++rowI x):=by simp[bysD,rowI]
   have hsh:∀a:Int,A_ .shl (.int .u8 a) (.int .u64 1)=some (.int .u8 (IntKind.u8.wrap (a*2))):=λa=>rfl
   have hbl:(bysD B).length=4+2*j:=by rw[bysD_len];exact hBl
   simp only[↓go1,gB2,go5,simprocAttr,h26,h27,h28,h4,hlt,hj0,Qf,hat,Aa s386,h386,hsh];refine Ao.intro ⟨by simp only[hbl];omega,rfl,(by first|exact hG.grow|exact(hG.put (by omega)).grow|exact((hG.put (by omega)).put (by omega)).grow|exact(((hG.put (by omega)).put (by omega)).put (by omega)).grow|exact((((hG.put (by omega)).put (by omega)).put (by omega)).put (by omega)).grow|exact(((((hG.put (by omega)).put (by omega)).put (by omega)).put (by omega)).put (by omega)).grow)⟩ ?_;rw[hBa];simp only[↓go1,gB2,go5,simprocAttr]
   (refine Ao.intro (Aj ?_) ?_;first|rfl|simp[A2,AL,rds,Ai,Ac])
   simp only[↓go1,go2,simprocAttr,h28,hw];exact ih _ _ ⟨h26,h27,rfl,_,_,by rw[Qo,hBl];simp[rowI];omega,by rw[←hB,rowsI,QC],rfl,(by first|exact LG.nil (hG.appf (by omega) (by simp only;omega))|exact LG.nil ((hG.put (by omega)).appf (by omega) (by simp only;omega))|exact LG.nil (((hG.put (by omega)).put (by omega)).appf (by omega) (by simp only;omega))|exact LG.nil ((((hG.put (by omega)).put (by omega)).put (by omega)).appf (by omega) (by simp only;omega))|exact LG.nil (((((hG.put (by omega)).put (by omega)).put (by omega)).put (by omega)).appf (by omega) (by simp only;omega))|exact LG.nil ((((((hG.put (by omega)).put (by omega)).put (by omega)).put (by omega)).put (by omega)).appf (by omega) (by simp only;omega)))⟩
  ·obtain⟨h26,h27,h28,B,t,hBl,hB,h4,hG⟩:=hI;refine Ae dc340l0.eq_1 ?_;rw[QZ,rowsI,QD]at hB;subst hB;simp only[↓go1,gB2,go5,simprocAttr,h27,h28,h4,Qt,bysD_un]
   all_goals first|rfl|exact⟨rfl,rfl⟩|simp[*]
end Go.Vd
namespace Go.Vd
open Go.Proofs
def dc384:=y0 f384 [] []
def fn384:Fn Qc 384 14 dc384 [.t 2]:=Am func384
def dc385:=y0 f385 [] []
def fn385:Fn Qc 385 9 dc385 [.t 2]:=Am func385
def dc404:=y0 f404 [] []
def fn404:Fn Qc 404 9 dc404 [.t 2]:=Am func404
def dc405:=y0 f405 [] []
def fn405:Fn Qc 405 8 dc405 [.cell (some 3) 4]:=Am func405
def dc383l0:=y1 f383 9 [] []
def dc383:=y0 f383 [] [(9,dc383l0)]
def fn383:Fn Qc 383 60 dc383 [.t 4,.cell (some 3) 5]:=Am func383
def dc333:=y0 f333 [] []
def fn333:Fn Qc 333 17 dc333 [.t 2]:=Am func333
def dc334:=y0 f334 [] []
def fn334:Fn Qc 334 17 dc334 [.t 2]:=Am func334
def dc240l0:=y1 Tryz.f240 7 [] []
def dc240:=y0 Tryz.f240 [(15,[(7,6)])] [(7,dc240l0)]
def fn240:Fn Qc 240 77 dc240 [.cell (some 4) 2,.t 3]:=Am func240
def dc292l0:=y1 f292 4 [] []
def dc292:=y0 f292 [] [(4,dc292l0)]
def fn292:Fn Qc 292 26 dc292 [.t 4]:=Am func292
def dc359l0:=y1 f359 4 [] []
def dc359:=y0 f359 [] [(4,dc359l0)]
def fn359:Fn Qc 359 26 dc359 [.t 4]:=Am func359
def dc293:=y0 f293 [] []
def fn293:Fn Qc 293 31 dc293 [.t 4]:=Am func293
def dc189:=y0 f189 [] []
def fn189:Fn Qc 189 52 dc189 [.t 4]:=Am func189
def dc190:=y0 f190 [] []
def fn190:Fn Qc 190 52 dc190 [.cell (some 10) 2]:=Am func190
end Go.Vd
namespace Go.Vd
open Go.Proofs Go.RowKit
def scD(s:Bs)(p:Nat)(e:Int):List D:=[.str s,.int .i64 (p:Int),.int .i64 e]
def or0:∀n:Fin 256,bits .or .u64 0 ((n.val:Nat):Int)=n.val:=by decide
def or0'(x:UInt8):bits .or .u64 0 (x.toNat:Int)=x.toNat:=or0 ⟨x.toNat,x.toNat_lt⟩
def By(s:Bs)(p:Nat)(e:Int):Int×Nat×Int:=if e≠0 then(0,p,e)else if h:p<s.length then(s[p].toNat,p+1,0)else(0,p,3)
def S384:Summs:=AF []
def R384:List D->Option D:=RF S384 dc384 [.t 2] 14
def ko384:(Ac R384).ok Qc 384:=AH fn384 Ad
def R384_eq(s:Bs)(p:Nat)(e:Int)(hp:p<=s.length):R384 [.agg (scD s p e)]=some (.bool true):=by
 refine AG (Qb rfl) ?_;unfold dc384;have h1:(0:Int)<=(p:Int):=by omega
 have h2:(p:Int)<=(s.length:Int):=by omega
 unfold scD;simp only[↓go1,gB2,go5,reduceIte,Qa,Qd,Ql,h1,h2]
 all_goals first|rfl|exact⟨rfl,rfl⟩|simp[*]
def S385:Summs:=AF []
def R385:List D->Option D:=RF S385 dc385 [.t 2] 9
def ko385:(Ac R385).ok Qc 385:=AH fn385 Ad
def R385_eq(s:Bs)(p:Nat)(e:Int)(hl:s.length<=1000000)(hp:p<=s.length):R385 [.agg (scD s p e)]=some (.int .i64 ((s.length-p:Nat):Int)):=by
 refine AG (Qb rfl) ?_;unfold dc385;have hw:IntKind.i64.wrap ((s.length:Int)-(p:Int))=((s.length-p:Nat):Int):=by rw[w64 (by omega) (by omega)];omega
 unfold scD;simp only[↓go1,gB2,go5,reduceIte,Qa,Qd,Ql,hw]
 all_goals first|rfl|exact⟨rfl,rfl⟩|simp[*]
def S404:Summs:=AF []
def R404:List D->Option D:=RF S404 dc404 [.t 2] 9
def ko404:(Ac R404).ok Qc 404:=AH fn404 Ad
def R404_eq:R404 [.int .i64 1]=some (.bool true):=by
 refine AG (Qb rfl) ?_;unfold dc404;simp only[↓go1,gB2,go5,reduceIte,Qa,Qd,reduceCtorEq,Zo]
 all_goals first|rfl|exact⟨rfl,rfl⟩|simp[*]
def S405:Summs:=AF []
def R405:List D->Option D:=RF S405 dc405 [.cell (some 3) 4] 8
def ko405:(Ac R405).ok Qc 405:=AH fn405 Ad
def R405_eq(s:Bs)(p:Nat)(e x:Int):R405 [.agg (scD s p e),.int .i64 x]=some (.agg (scD s p x)):=by
 refine AG (Qb rfl) ?_;unfold dc405;unfold scD;simp only[↓go1,gB2,go5,reduceIte,Qa,Qd,Ql,Qm,Qz]
 all_goals first|rfl|exact⟨rfl,rfl⟩|simp[*]
def S383:Summs:=AF [(384,Ac R384),(404,Ac R404),(405,Ac R405),(385,Ac R385)]
def R383:List D->Option D:=RF S383 dc383 [.t 4,.cell (some 3) 5] 60
def ko383:(Ac R383).ok Qc 383:=AH fn383 (Ab ko384 (Ab ko404 (Ab ko405 (Ab ko385 Ad))))
def R383_eq(s:Bs)(p:Nat)(e:Int)(hl:s.length<=1000000)(hp:p<=s.length):R383 [.agg (scD s p e),.int .i64 1]=some (.tup [.int .u64 (By s p e).1,.agg (scD s (By s p e).2.1 (By s p e).2.2)]):=by
 refine AG (Qb rfl) ?_;have s404:S383 404=some (Ac R404):=rfl;have s405:S383 405=some (Ac R405):=rfl;have s385:S383 385=some (Ac R385):=rfl;unfold dc383;have h384:=R384_eq s p e hp;have h385:=R385_eq s p e hl hp;have h404:=R404_eq;have h405:=λx=>R405_eq s p e x
 unfold By scD at *;by_cases c1:e=0
 ·subst c1;by_cases c2:p<s.length
  ·have c3:(((s.length-p:Nat):Int)<1)=False:=eq_false (by omega);have hw:IntKind.i64.wrap ((p:Int)+1)=((p+1:Nat):Int):=w64 (by omega) (by omega);have b1:((0:Int)<=((p+1:Nat):Int)∧((p+1:Nat):Int)<=((s.length:Nat):Int))=True:=eq_true (by omega);have b2:((0:Int)<=(p:Int)∧(p:Int)<=((p+1:Nat):Int))=True:=eq_true (by omega);have hcut:(s.drop p).take (p+1-p)=[s[p]]:=by rw[QH c2,show p+1-p=1 by omega];rfl
   have hby:Au [s[p]]=[.int .u8 (s[p].toNat:Int)]:=rfl;have hsh:A_ .shl (.int .u64 0) (.int .u64 8)=some (.int .u64 0):=rfl;have hor:=or0' s[p];have hu:IntKind.u64.wrap (s[p].toNat:Int)=(s[p].toNat:Int):=u64_small (by omega) (by have:=s[p].toNat_lt;omega);have hw1:IntKind.i64.wrap ((0:Int)+1)=1:=rfl;simp only[ne_eq,not_true_eq_false,if_false,dif_pos c2];generalize s[p]=x at *;simp only[↓go1,gB2,go5,reduceIte,Qa,Qd,Ql,reduceCtorEq,An S383 384,h384,Aa s385,h385,Aa s404,h404,c3,hw,b1,b2,Qf,hcut,hby];refine Ae dc383l0.eq_1 ?_;simp only[↓go1,gB2,go5,reduceIte,Qa,Qd,hsh,hor,hu,hw1,Int.toNat_zero,hcut,Int.zero_lt_one,Int.cast_ofNat_Int,Zt];refine Ae dc383l0.eq_1 ?_;simp only[↓go1,gB2,go5,reduceIte,Qa,Qd,Ql,Qm,Qz,reduceCtorEq,Qt,hw]
   repeat (refine Ao.intro (Aj ?_) ?_;first|rfl|simp[A2,AL,rds,Ai,Ac])
   simp only[↓go1,gB2,go5,reduceIte,Qa,Qd,Ql,Qm,Qz]
   all_goals first|rfl|exact⟨rfl,rfl⟩|simp[*]
  ·have c3:(((s.length-p:Nat):Int)<1)=True:=eq_true (by omega);simp only[ne_eq,not_true_eq_false,if_false,dif_neg c2];simp only[↓go1,gB2,go5,reduceIte,Qa,Qd,Ql,reduceCtorEq,An S383 384,h384,Aa s385,h385,Aa s404,h404,Aa s405,h405,c3]
   all_goals first|rfl|exact⟨rfl,rfl⟩|simp[*]
 ·have c1':(e=0)=False:=eq_false c1;simp only[ne_eq,c1',not_false_eq_true,if_true];simp only[↓go1,gB2,go5,reduceIte,Qa,Qd,Ql,reduceCtorEq,c1']
  repeat (refine Ao.intro (Aj ?_) ?_;first|rfl|simp[A2,AL,rds,Ai,Ac])
  simp only[↓go1,gB2,go5,reduceIte,Qa,Qd,Ql]
  all_goals first|rfl|exact⟨rfl,rfl⟩|simp[*]
def S334:Summs:=AF [(384,Ac R384),(385,Ac R385)]
def R334:List D->Option D:=RF S334 dc334 [.t 2] 17
def ko334:(Ac R334).ok Qc 334:=AH fn334 (Ab ko384 (Ab ko385 Ad))
def R334_eq(s:Bs)(p:Nat)(e:Int)(hl:s.length<=1000000)(hp:p<=s.length):R334 [.agg (scD s p e)]=some (.int .i64 (if e≠0 then e else if p<s.length then 4 else 0)):=by
 refine AG (Qb rfl) ?_;have s385:S334 385=some (Ac R385):=rfl;unfold dc334;have h384:=R384_eq s p e hp;have h385:=R385_eq s p e hl hp;unfold scD at *;by_cases c1:e=0
 ·subst c1;have c3:((0:Int)<((s.length-p:Nat):Int))=(p<s.length):=propext (by omega);by_cases c2:p<s.length
  ·simp only[↓go1,gB2,go5,reduceIte,Qa,Qd,Ql,Zp,An S334 384,h384,Aa s385,h385,c3,c2]
   all_goals first|rfl|exact⟨rfl,rfl⟩|simp[*]
  ·simp only[↓go1,gB2,go5,reduceIte,Qa,Qd,Ql,Zp,An S334 384,h384,Aa s385,h385,c3,c2]
   all_goals first|rfl|exact⟨rfl,rfl⟩|simp[*]
 ·have c1':(e=0)=False:=eq_false c1;simp only[↓go1,gB2,go5,reduceIte,Qa,Qd,Ql,c1'];simp[c1]
def EA{s:Bs}{p:Nat}{e:Int}(hp:p<=s.length):(By s p e).2.1<=s.length∧0<=(By s p e).1∧(By s p e).1<256:=by
 unfold By;split
 ·exact⟨hp,by simp,by simp⟩
 ·split
  ·rename_i h;have:=s[p].toNat_lt;exact⟨h,by first|(simp;done)|(simp;omega),by first|(simp;done)|(simp;omega)⟩
  ·exact⟨hp,by simp,by simp⟩
def S333:Summs:=AF [(383,Ac R383)]
def M333:List D->List D->Option (D×List D):=RM S333 dc333 [.t 2] 17 3
def ko333:(mQ 3 M333).ok Qc 333:=rm_ok fn333 (by decide) (Ab ko383 Ad)
def rdC_oth{m:Mem}{i j:Id}{o:Nat}{ds:List D}(h:j≠i):∀{n p:Nat},Ag (m.put i o ds) j p n=Ag m j p n
 |0,p=>rfl
 |n+1,p=>by simp only[Ag,Mem.put_other h,rdC_oth h]
def othW1{i fr:Id}(h:∀k,(i=k::fr)=False)(m:Mem)(k o:Nat)(ys:List D)(p n:Nat):Ag (m.put (k::fr) o ys) i p n=Ag m i p n:=rdC_oth (λe=>(h k).mp e)
def M333_eq(s:Bs)(p:Nat)(e:Int)(hl:s.length<=1000000)(hp:p<=s.length):M333 (scD s p e) []=some (.int .i64 (By s p e).1,scD s (By s p e).2.1 (By s p e).2.2):=by
 refine rm_eq (by decide) rfl (Qb rfl) (λi m fr hcs hfr hni hni0=>?_);have h383:=R383_eq s p e hl hp;obtain⟨_,b1,b2⟩:=EA (e:=e) hp;have hw:IntKind.i64.wrap (By s p e).1=(By s p e).1:=w64 (by omega) (by omega);generalize By s p e=r at *;unfold scD at *;obtain⟨a0,a1,a2⟩:=rd3s hcs;unfold dc333;simp only[↓go1,gB2,go5,reduceIte,Qa,Qd,Ql,reduceCtorEq,a0,a1,a2,othW1 hni0,hni0,An S333 383,h383,hw]
 first|exact Fb.own (Fb.new0 hfr (Fb.new0 hfr Fb.refl)) (by simp)|exact Fb.own (Fb.new0 hfr Fb.refl) (by simp)
structure LX (ex:List Nat) (c0:Nat) (m0:Mem) (e:Nat) (m:Mem) (c:Nat) (nl:Bool) (t:Id):Prop where
 low:∀q o,q<c0->q∉ex->m [q] o=m0 [q] o
 tok:nl=true∨∃j,t=[j]∧c0<=j∧j<c∧m t 0=some (.tok (e+1))
 le:c0<=c
section
variable{ex:List Nat}{c0 e c c' c2 o q:Nat}{m0 m:Mem}{nl:Bool}{t:Id}{ds xs:List D}
def LX.start(h:c0<=c):LX ex c0 m0 e m0 c true t:=⟨λ_ _ _ _=>rfl,.inl rfl,h⟩
def LX.put(h:LX ex c0 m0 e m c nl t)(hc:c<=c'):LX ex c0 m0 e (m.put [c'] o ds) c nl t:=by
 obtain⟨h1,h2,h3⟩:=h;refine⟨λq o' hq hx=>?_,?_,h3⟩
 ·rw[Mem.put_other (by simp;omega)];exact h1 q o' hq hx
 ·rcases h2 with h2|⟨j,rfl,a,b,d⟩
  ·exact .inl h2
  ·exact .inr ⟨j,rfl,a,b,by rw[Mem.put_other (by simp;omega)];exact d⟩
def LX.putx(h:LX ex c0 m0 e m c nl t)(hq:q∈ex)(hl:q<c0):LX ex c0 m0 e (m.put [q] o ds) c nl t:=by
 obtain⟨h1,h2,h3⟩:=h;refine⟨λq' o' hq' hx=>?_,?_,h3⟩
 ·rw[Mem.put_other (by rintro e;simp only[Qh,and_true]at e;exact hx (e▸hq))];exact h1 q' o' hq' hx
 ·rcases h2 with h2|⟨j,rfl,a,b,d⟩
  ·exact .inl h2
  ·exact .inr ⟨j,rfl,a,b,by rw[Mem.put_other (by simp;omega)];exact d⟩
def LX.more(h:LX ex c0 m0 e m c nl t)(hc:c<=c'):LX ex c0 m0 e m c' nl t:=by
 obtain⟨h1,h2,h3⟩:=h;refine⟨h1,?_,by omega⟩;rcases h2 with h2|⟨j,a,b,b',d⟩
 ·exact .inl h2
 ·exact .inr ⟨j,a,b,by omega,d⟩
def LX.grow(h:LX ex c0 m0 e m c nl t):Grow m e (.slice nl t xs):=by
 rcases h.tok with h|⟨j,rfl,_,_,d⟩
 ·exact .inl h
 ·exact .inr ⟨d,by simp⟩
def LX.app(h:LX ex c0 m0 e m c nl t)(hc:c<=c')(h2:c'<c2):LX ex c0 m0 e (Upd.app m (Bi e [c'] (.slice nl t xs))) c2 false [c']:=by
 obtain⟨h1,ht,h3⟩:=h;refine⟨λq o hq hx=>?_,.inr ⟨c',rfl,by omega,h2,?_⟩,by omega⟩
 ·rw[C7,if_neg (by simp;omega)];rcases ht with rfl|⟨j,rfl,a,b,d⟩
  ·rw[if_neg (by simp)];exact h1 q o hq hx
  ·rw[if_neg (by simp;omega)];exact h1 q o hq hx
 ·rw[C7,if_pos ⟨rfl,rfl⟩]
def LX.low_app(h:LX ex c0 m0 e m c nl t)(hc:c<=c')(hq:q<c0):Upd.app m (Bi e [c'] (.slice nl t xs)) [q] o=m [q] o:=by
 obtain⟨h1,ht,h3⟩:=h;rw[C7,if_neg (by simp;omega)];rcases ht with rfl|⟨j,rfl,a,b,d⟩
 ·rw[if_neg (by simp)]
 ·rw[if_neg (by simp;omega)]
end
def put_here{m:Mem}{i:Id}{o:Nat}{d:D}:m.put i o [d] i o=some d:=by simp[Mem.put]
def unpR(s:Bs):Nat->Nat->Int->List Rw×Bool×Nat×Int
 |0,p,e=>([],false,p,e)
 |k+1,p,e=>(((By s p e).1,decide (bits .and .i64 (By s (By s p e).2.1 (By s p e).2.2).1 1≠0),decide (bits .and .i64 (By s (By s p e).2.1 (By s p e).2.2).1 2≠0))::(unpR s k (By s (By s p e).2.1 (By s p e).2.2).2.1 (By s (By s p e).2.1 (By s p e).2.2).2.2).1,
   decide (3<(By s (By s p e).2.1 (By s p e).2.2).1)||(unpR s k (By s (By s p e).2.1 (By s p e).2.2).2.1 (By s (By s p e).2.1 (By s p e).2.2).2.2).2.1,(unpR s k (By s (By s p e).2.1 (By s p e).2.2).2.1 (By s (By s p e).2.1 (By s p e).2.2).2.2).2.2)
def sc0:Sc:=⟨0,false,0,true,[]⟩
def num1(s:Bs):=By s 0 0
def num2(s:Bs):=By s (num1 s).2.1 (num1 s).2.2
def num3(s:Bs):=By s (num2 s).2.1 (num2 s).2.2
def num4(s:Bs):=By s (num3 s).2.1 (num3 s).2.2
def FL(s:Bs):=unpR s (num4 s).1.toNat (num4 s).2.1 (num4 s).2.2
def unpS(s:Bs):Sc:=⟨(num1 s).1,decide ((num2 s).1=1),(num3 s).1,decide ((num4 s).1.toNat=0),(FL s).1⟩
def endE(n p:Nat)(e:Int):Int:=if e≠0 then e else if p<n then 4 else 0
def Cj(s:Bs):Sc×Int:=if endE s.length (FL s).2.2.1 (FL s).2.2.2=3 then(sc0,3)else if endE s.length (FL s).2.2.1 (FL s).2.2.2≠0∨(decide (1<(num2 s).1)||(FL s).2.1)=true∨DJ (unpS s) 6=true then(sc0,4)else(unpS s,0)
def unpR_bd{s:Bs}:∀{k p:Nat} {e:Int},p<=s.length->(unpR s k p e).2.2.1<=s.length
 |0,p,e,h=>h
 |k+1,p,e,h=>by
  show(unpR s k (By s (By s p e).2.1 (By s p e).2.2).2.1 (By s (By s p e).2.1 (By s p e).2.2).2.2).2.2.1<=_;exact unpR_bd (EA (EA h).1).1
def unpR_len{s:Bs}:∀{k p:Nat} {e:Int},(unpR s k p e).1.length=k
 |0,p,e=>rfl
 |k+1,p,e=>by simp[unpR,unpR_len]
def S240:Summs:=AF [(333,mQ 3 M333),(334,Ac R334),(335,Ac R335),(191,Ac GH)]
def R240:List D->Option D:=RF S240 dc240 [.cell (some 4) 2,.t 3] 77
def ko240:(Ac R240).ok Qc 240:=AH fn240 (Ab ko333 (Ab ko334 (Ab ko335 (Ab ko191 Ad))))
def R240_eq(s:Bs)(hl:s.length<=1000000):R240 [.str s]=some (.tup [.agg (scC (Cj s).1),.int .i64 (Cj s).2]):=by
 refine AG (Qb rfl) ?_;have s333:S240 333=some (mQ 3 M333):=rfl;have s335:S240 335=some (Ac R335):=rfl;have s191:S240 191=some (Ac GH):=rfl;unfold dc240;have b1:(num1 s).2.1<=s.length∧0<=(num1 s).1∧(num1 s).1<256:=EA (Qv _);have b2:(num2 s).2.1<=s.length∧0<=(num2 s).1∧(num2 s).1<256:=EA b1.1;have b3:(num3 s).2.1<=s.length∧0<=(num3 s).1∧(num3 s).1<256:=EA b2.1;have b4:(num4 s).2.1<=s.length∧0<=(num4 s).1∧(num4 s).1<256:=EA b3.1;have g1:M333 [.str s,.int .i64 0,.int .i64 0] []=some (.int .i64 (num1 s).1,scD s (num1 s).2.1 (num1 s).2.2):=M333_eq s 0 0 hl (Qv _);have g2:M333 (scD s (num1 s).2.1 (num1 s).2.2) []=some (.int .i64 (num2 s).1,scD s (num2 s).2.1 (num2 s).2.2):=M333_eq s _ _ hl b1.1;have g3:M333 (scD s (num2 s).2.1 (num2 s).2.2) []=some (.int .i64 (num3 s).1,scD s (num3 s).2.1 (num3 s).2.2):=M333_eq s _ _ hl b2.1;have g4:M333 (scD s (num3 s).2.1 (num3 s).2.2) []=some (.int .i64 (num4 s).1,scD s (num4 s).2.1 (num4 s).2.2):=M333_eq s _ _ hl b3.1;have hn:((num4 s).1.toNat:Int)=(num4 s).1:=Qu b4.2.1;have hb5:(FL s).2.2.1<=s.length:=unpR_bd b4.1;have hlA:(FL s).1.length=(num4 s).1.toNat:=unpR_len;have h334:R334 [.agg [.str s,.int .i64 ((FL s).2.2.1:Int),.int .i64 (FL s).2.2.2]]=some (.int .i64 (endE s.length (FL s).2.2.1 (FL s).2.2.2)):=R334_eq s _ _ hl hb5;have h335:=R335_eq;have h191:=GG (unpS s) 6 false (by show(FL s).1.length<=1000;omega);have hA:FL s=unpR s (num4 s).1.toNat (num4 s).2.1 (num4 s).2.2:=rfl;unfold Cj;unfold secE at h191;unfold scD at g1 g2 g3 g4;have hS:unpS s=⟨(num1 s).1,decide ((num2 s).1=1),(num3 s).1,decide ((num4 s).1.toNat=0),(FL s).1⟩:=rfl;unfold scC at h191 ⊢;generalize DJ (unpS s) 6=bad at *;generalize endE s.length (FL s).2.2.1 (FL s).2.2.2=en at *;rw[hS]at h191 ⊢;clear hS;generalize FL s=tot at *;generalize num1 s=n1 at *;generalize num2 s=n2 at *;generalize num3 s=n3 at *;generalize num4 s=n4 at *;obtain⟨v4,p4,e4⟩:=n4;simp only at *;generalize hn4:v4.toNat=n at *;rw[←hn]at g4;simp only[gB1,↓go1,go5,simprocAttr,Ah s333,mQ_run,g1,g2,g3,g4];refine Bm (n:=n) (I:=λj st=>st.s 28= .int .i64 (n:Int)∧st.s 29= .int .i64 (j:Int)∧st.s 4= .ptr [4] 0∧st.s 5= .ptr [9] 0∧st.s 2= .ptr [0] 0∧∃A od p e nl t,A.length=j∧p<=s.length∧A++(unpR s (n-j) p e).1=tot.1∧(od||(unpR s (n-j) p e).2.1)=(decide (1<n2.1)||tot.2.1)∧(unpR s (n-j) p e).2.2=tot.2.2∧st.s 7= .bool od∧(st.m [4] 0=some (.str s)∧st.m [4] 1=some (.int .i64 (p:Int))∧st.m [4] 2=some (.int .i64 e))∧(st.m [9] 0=some (.int .i64 n1.1)∧st.m [9] 1=some (.bool (decide (n2.1=1)))∧st.m [9] 2=some (.int .i64 n3.1)∧st.m [9] 3=some (.slice nl t (A8 A)))∧nl=decide (j=0)∧LX [4,9] 10 _ 228 st.m st.c nl t) (λj hj ih st g hI=>?_) (λst g hI=>?_) 0 (Qv _) _ _ ⟨rfl,rfl,rfl,rfl,rfl,[],decide (1<n2.1),p4,e4,true,[],rfl,b4.1,by rw[hA];rfl,by rw[hA];rfl,by rw[hA];rfl,rfl,?_,?_,rfl,LX.start (by simp only;omega)⟩
 rotate_left 2
 ·exact⟨by simp[Mem.put],by simp[Mem.put],by simp[Mem.put]⟩
 ·exact⟨by simp[Mem.put],by simp[Mem.put],by simp[Mem.put],by simp[Mem.put,A8]⟩
 ·obtain⟨st_s,st_m,st_c⟩:=st;obtain⟨h28,h29,h4,h5,h2,A,od,p,e,nl,t,hAl,hp,hAA,hod,hpp,h7,⟨x0,x1,x2⟩,⟨y0,y1,y2,y3⟩,hnl,hG⟩:=hI;simp only at h28 h29 h4 h5 h2 h7 x0 x1 x2 y0 y1 y2 y3 hG;refine Ae dc240l0.eq_1 ?_;have hlt:((j:Int)<n):=by omega
  have hj0:=nJ (j:=j);have hw:=wJ (j:=j) (by omega);have q1:=EA (e:=e) hp;have k1:=M333_eq s p e hl hp;have k2:=M333_eq s _ (By s p e).2.2 hl q1.1;have q2:=EA (e:=(By s p e).2.2) q1.1;have hnj:n-j=(n-(j+1))+1:=by omega
  rw[hnj]at hAA hod hpp;unfold unpR at hAA hod hpp;simp only at hAA hod hpp;generalize By s p e=a at *;generalize By s a.2.1 a.2.2=b at *;unfold scD at k1 k2;have hG1:=(hG.putx (q:=4) (o:=0) (ds:=[.str s,.int .i64 (a.2.1:Int),.int .i64 a.2.2]) (by simp) (by omega)).putx (q:=4) (o:=0) (ds:=[.str s,.int .i64 (b.2.1:Int),.int .i64 b.2.2]) (by simp) (by omega);have hBn:nl=true->A8 A=[]:=by
   rw[hnl];intro h;have:A=[]:=QA.1 (by rw[hAl];simpa using h);rw[this];rfl
  have hBa:A8 A++[.agg [.int .i64 a.1,.bool (decide (bits .and .i64 b.1 1≠0)),.bool (decide (bits .and .i64 b.1 2≠0))]]=A8 (A++[(a.1,decide (bits .and .i64 b.1 1≠0),decide (bits .and .i64 b.1 2≠0))]):=by simp[A8,rwD]
  have hBl:(A8 A).length<256:=by rw[AV];omega
  have h49:(9=4)=False:=by simp
  have h94:(4=9)=False:=by simp
  cases od with
  |true=>
   simp only[gB1,↓go1,go5,simprocAttr,h28,h29,hlt,h4,h5,h7,Ah s333,mQ_run,x0,x1,x2,y3,k1,k2];refine Ao.intro ⟨by omega,rfl,(LX.put hG1 (by omega)).grow⟩ ?_;rw[BH hBn,hBa];have z:∀(c1 c2 k:Nat)(ds:List D)(xs:List D),st_c<=c1->st_c<=c2->∀q,q<10->Upd.app ((((st_m.put [4] 0 [.str s,.int .i64 (a.2.1:Int),.int .i64 a.2.2]).put [4] 0 [.str s,.int .i64 (b.2.1:Int),.int .i64 b.2.2]).put [c1] 0 ds)) (Bi 228 [c2] (.slice nl t xs)) [q] k=((st_m.put [4] 0 [.str s,.int .i64 (a.2.1:Int),.int .i64 a.2.2]).put [4] 0 [.str s,.int .i64 (b.2.1:Int),.int .i64 b.2.2]) [q] k:=λc1 c2 k ds xs e1 e2 q hq=>by
    have:=hG.le;rw[LX.low_app (LX.put hG1 e1) e2 hq,Mem.put_other (by simp;omega)]
   have zz:=λ(c1 c2 k:Nat)(ds:List D)(xs:List D) e1 e2=>z c1 c2 k ds xs e1 e2 9 (by omega)
   have z4:=λ(c1 c2 k:Nat)(ds:List D)(xs:List D) e1 e2=>z c1 c2 k ds xs e1 e2 4 (by omega)
   have isS:∀(c1 c2:Nat)(ds xs:List D),st_c<=c1->st_c<=c2->(Ag (Upd.app ((((st_m.put [4] 0 [.str s,.int .i64 (a.2.1:Int),.int .i64 a.2.2]).put [4] 0 [.str s,.int .i64 (b.2.1:Int),.int .i64 b.2.2]).put [c1] 0 ds)) (Bi 228 [c2] (.slice nl t xs))) [9] 3 1).isSome=true:=λc1 c2 ds xs e1 e2=>by
    simp only[Ag,zz c1 c2 3 ds xs e1 e2];simp[Mem.put,y3]
   simp only[↓go1,gB2,h5,simprocAttr,Qs];refine Ao.intro (isS _ _ _ _ (by omega) (by omega)) ?_;simp only[↓go1,go2,simprocAttr,h29,hw];refine ih _ _ ⟨h28,rfl,h4,h5,h2,A++[(a.1,decide (bits .and .i64 b.1 1≠0),decide (bits .and .i64 b.1 2≠0))],true,b.2.1,b.2.2,false,_,by simp[hAl],q2.1,by rw[←hAA];simp,by rw[←hod];simp[],hpp,rfl,⟨?_,?_,?_⟩,⟨?_,?_,?_,?_⟩,by simp,LX.putx (LX.app (LX.put hG1 (by omega)) (by omega) (by simp only;omega)) (by simp) (by omega)⟩
   ·simp only;rw[Mem.put_other (by simp),z4 _ _ _ _ _ (by omega) (by omega)];simp[Mem.put]
   ·simp only;rw[Mem.put_other (by simp),z4 _ _ _ _ _ (by omega) (by omega)];simp[Mem.put]
   ·simp only;rw[Mem.put_other (by simp),z4 _ _ _ _ _ (by omega) (by omega)];simp[Mem.put]
   ·simp only;rw[Mem.put_out (by simp),zz _ _ _ _ _ (by omega) (by omega)];simp[Mem.put,y0]
   ·simp only;rw[Mem.put_out (by simp),zz _ _ _ _ _ (by omega) (by omega)];simp[Mem.put,y1]
   ·simp only;rw[Mem.put_out (by simp),zz _ _ _ _ _ (by omega) (by omega)];simp[Mem.put,y2]
   ·simp only;rw[Ft];exact put_here
  |false=>
   by_cases c3:3<b.1
   ·simp only[gB1,↓go1,go5,simprocAttr,h28,h29,hlt,h4,h5,h7,Ah s333,mQ_run,x0,x1,x2,y3,k1,k2,c3];refine Ao.intro ⟨by omega,rfl,(LX.put hG1 (by omega)).grow⟩ ?_;rw[BH hBn,hBa];have z:∀(c1 c2 k:Nat)(ds:List D)(xs:List D),st_c<=c1->st_c<=c2->∀q,q<10->Upd.app ((((st_m.put [4] 0 [.str s,.int .i64 (a.2.1:Int),.int .i64 a.2.2]).put [4] 0 [.str s,.int .i64 (b.2.1:Int),.int .i64 b.2.2]).put [c1] 0 ds)) (Bi 228 [c2] (.slice nl t xs)) [q] k=((st_m.put [4] 0 [.str s,.int .i64 (a.2.1:Int),.int .i64 a.2.2]).put [4] 0 [.str s,.int .i64 (b.2.1:Int),.int .i64 b.2.2]) [q] k:=λc1 c2 k ds xs e1 e2 q hq=>by
     have:=hG.le;rw[LX.low_app (LX.put hG1 e1) e2 hq,Mem.put_other (by simp;omega)]
    have zz:=λ(c1 c2 k:Nat)(ds:List D)(xs:List D) e1 e2=>z c1 c2 k ds xs e1 e2 9 (by omega)
    have z4:=λ(c1 c2 k:Nat)(ds:List D)(xs:List D) e1 e2=>z c1 c2 k ds xs e1 e2 4 (by omega)
    have isS:∀(c1 c2:Nat)(ds xs:List D),st_c<=c1->st_c<=c2->(Ag (Upd.app ((((st_m.put [4] 0 [.str s,.int .i64 (a.2.1:Int),.int .i64 a.2.2]).put [4] 0 [.str s,.int .i64 (b.2.1:Int),.int .i64 b.2.2]).put [c1] 0 ds)) (Bi 228 [c2] (.slice nl t xs))) [9] 3 1).isSome=true:=λc1 c2 ds xs e1 e2=>by
     simp only[Ag,zz c1 c2 3 ds xs e1 e2];simp[Mem.put,y3]
    simp only[↓go1,gB2,h5,simprocAttr,Qs];refine Ao.intro (isS _ _ _ _ (by omega) (by omega)) ?_;simp only[↓go1,go2,simprocAttr,h29,hw];refine ih _ _ ⟨h28,rfl,h4,h5,h2,A++[(a.1,decide (bits .and .i64 b.1 1≠0),decide (bits .and .i64 b.1 2≠0))],true,b.2.1,b.2.2,false,_,by simp[hAl],q2.1,by rw[←hAA];simp,by rw[←hod];simp[c3],hpp,rfl,⟨?_,?_,?_⟩,⟨?_,?_,?_,?_⟩,by simp,LX.putx (LX.app (LX.put hG1 (by omega)) (by omega) (by simp only;omega)) (by simp) (by omega)⟩
    ·simp only;rw[Mem.put_other (by simp),z4 _ _ _ _ _ (by omega) (by omega)];simp[Mem.put]
    ·simp only;rw[Mem.put_other (by simp),z4 _ _ _ _ _ (by omega) (by omega)];simp[Mem.put]
    ·simp only;rw[Mem.put_other (by simp),z4 _ _ _ _ _ (by omega) (by omega)];simp[Mem.put]
    ·simp only;rw[Mem.put_out (by simp),zz _ _ _ _ _ (by omega) (by omega)];simp[Mem.put,y0]
    ·simp only;rw[Mem.put_out (by simp),zz _ _ _ _ _ (by omega) (by omega)];simp[Mem.put,y1]
    ·simp only;rw[Mem.put_out (by simp),zz _ _ _ _ _ (by omega) (by omega)];simp[Mem.put,y2]
    ·simp only;rw[Ft];exact put_here
   ·simp only[gB1,↓go1,go5,simprocAttr,h28,h29,hlt,h4,h5,h7,Ah s333,mQ_run,x0,x1,x2,y3,k1,k2,c3];refine Ao.intro ⟨by omega,rfl,(LX.put hG1 (by omega)).grow⟩ ?_;rw[BH hBn,hBa];have z:∀(c1 c2 k:Nat)(ds:List D)(xs:List D),st_c<=c1->st_c<=c2->∀q,q<10->Upd.app ((((st_m.put [4] 0 [.str s,.int .i64 (a.2.1:Int),.int .i64 a.2.2]).put [4] 0 [.str s,.int .i64 (b.2.1:Int),.int .i64 b.2.2]).put [c1] 0 ds)) (Bi 228 [c2] (.slice nl t xs)) [q] k=((st_m.put [4] 0 [.str s,.int .i64 (a.2.1:Int),.int .i64 a.2.2]).put [4] 0 [.str s,.int .i64 (b.2.1:Int),.int .i64 b.2.2]) [q] k:=λc1 c2 k ds xs e1 e2 q hq=>by
     have:=hG.le;rw[LX.low_app (LX.put hG1 e1) e2 hq,Mem.put_other (by simp;omega)]
    have zz:=λ(c1 c2 k:Nat)(ds:List D)(xs:List D) e1 e2=>z c1 c2 k ds xs e1 e2 9 (by omega)
    have z4:=λ(c1 c2 k:Nat)(ds:List D)(xs:List D) e1 e2=>z c1 c2 k ds xs e1 e2 4 (by omega)
    have isS:∀(c1 c2:Nat)(ds xs:List D),st_c<=c1->st_c<=c2->(Ag (Upd.app ((((st_m.put [4] 0 [.str s,.int .i64 (a.2.1:Int),.int .i64 a.2.2]).put [4] 0 [.str s,.int .i64 (b.2.1:Int),.int .i64 b.2.2]).put [c1] 0 ds)) (Bi 228 [c2] (.slice nl t xs))) [9] 3 1).isSome=true:=λc1 c2 ds xs e1 e2=>by
     simp only[Ag,zz c1 c2 3 ds xs e1 e2];simp[Mem.put,y3]
    simp only[↓go1,gB2,h5,simprocAttr,Qs];refine Ao.intro (isS _ _ _ _ (by omega) (by omega)) ?_;simp only[↓go1,go2,simprocAttr,h29,hw];refine ih _ _ ⟨h28,rfl,h4,h5,h2,A++[(a.1,decide (bits .and .i64 b.1 1≠0),decide (bits .and .i64 b.1 2≠0))],false,b.2.1,b.2.2,false,_,by simp[hAl],q2.1,by rw[←hAA];simp,by rw[←hod];simp[c3],hpp,rfl,⟨?_,?_,?_⟩,⟨?_,?_,?_,?_⟩,by simp,LX.putx (LX.app (LX.put hG1 (by omega)) (by omega) (by simp only;omega)) (by simp) (by omega)⟩
    ·simp only;rw[Mem.put_other (by simp),z4 _ _ _ _ _ (by omega) (by omega)];simp[Mem.put]
    ·simp only;rw[Mem.put_other (by simp),z4 _ _ _ _ _ (by omega) (by omega)];simp[Mem.put]
    ·simp only;rw[Mem.put_other (by simp),z4 _ _ _ _ _ (by omega) (by omega)];simp[Mem.put]
    ·simp only;rw[Mem.put_out (by simp),zz _ _ _ _ _ (by omega) (by omega)];simp[Mem.put,y0]
    ·simp only;rw[Mem.put_out (by simp),zz _ _ _ _ _ (by omega) (by omega)];simp[Mem.put,y1]
    ·simp only;rw[Mem.put_out (by simp),zz _ _ _ _ _ (by omega) (by omega)];simp[Mem.put,y2]
    ·simp only;rw[Ft];exact put_here
 ·obtain⟨st_s,st_m,st_c⟩:=st;obtain⟨h28,h29,h4,h5,h2,A,od,p,e,nl,t,hAl,hp,hAA,hod,hpp,h7,⟨x0,x1,x2⟩,⟨y0,y1,y2,y3⟩,hnl,hG⟩:=hI;simp only at h28 h29 h4 h5 h2 h7 x0 x1 x2 y0 y1 y2 y3 hG;refine Ae dc240l0.eq_1 ?_;have m0:∀k,st_m [0] k=_:=λk=>hG.low 0 k (by omega) (by simp)
  rw[Zn]at hAA hod hpp;unfold unpR at hAA hod hpp;simp only[QD,Bool.or_false]at hAA hod hpp;rw[←hod];rw[←hAA]at h191 ⊢;rw[←hpp]at h334;simp only at h334;rw[←hnl]at h191 ⊢;by_cases c1:en=3
  ·simp only[gB1,↓go1,go5,simprocAttr,h28,h29,h4,h2,Qt,x0,x1,x2,m0,An S240 334,h334,c1]
   all_goals (first|rfl|exact⟨rfl,rfl⟩|(simp[*,sc0];done)|(simp[*,sc0];rfl))
  ·have c1':(en=3)=False:=eq_false c1;by_cases c2:en=0
   ·subst c2;cases od with
    |true=>
     simp only[gB1,↓go1,go5,simprocAttr,h28,h29,h4,h7,Qt,x0,x1,x2,An S240 334,h334]
     (refine Ao.intro (Aj ?_) ?_;first|rfl|simp[A2,AL,rds,Ai,Ac])
     simp only[gB1,↓go1,go5,simprocAttr,h2,m0]
     all_goals (first|rfl|exact⟨rfl,rfl⟩|(simp[*,sc0];done)|(simp[*,sc0];rfl))
    |false=>
     cases bad with
     |true=>
      simp only[if_true]at h191;simp only[gB1,↓go1,go5,simprocAttr,h28,h29,h4,h5,h7,Qt,x0,x1,x2,y0,y1,y2,y3,An S240 334,h334,Aa s335,h335,Aa s191,h191]
      (refine Ao.intro (Aj ?_) ?_;first|rfl|simp[A2,AL,rds,Ai,Ac])
      simp only[gB1,↓go1,go5,simprocAttr,h2,m0]
      all_goals (first|rfl|exact⟨rfl,rfl⟩|(simp[*,sc0];done)|(simp[*,sc0];rfl))
     |false=>
      simp only[if_false,Qq]at h191;simp only[gB1,↓go1,go5,simprocAttr,h28,h29,h4,h5,h7,Qt,x0,x1,x2,y0,y1,y2,y3,An S240 334,h334,Aa s335,h335,Aa s191,h191]
      (refine Ao.intro (Aj ?_) ?_;first|rfl|simp[A2,AL,rds,Ai,Ac])
      simp only[gB1,↓go1,go5,simprocAttr,h2,h5,m0,y0,y1,y2,y3]
      all_goals (first|rfl|exact⟨rfl,rfl⟩|(simp[*,sc0];done)|(simp[*,sc0];rfl))
   ·have c2':(en=0)=False:=eq_false c2;simp only[gB1,↓go1,go5,simprocAttr,h28,h29,h4,Qt,x0,x1,x2,An S240 334,h334,c1',c2']
    (refine Ao.intro (Aj ?_) ?_;first|rfl|simp[A2,AL,rds,Ai,Ac])
    simp only[gB1,↓go1,go5,simprocAttr,h2,m0]
    all_goals (first|rfl|exact⟨rfl,rfl⟩|(simp[*,sc0];done)|(simp[*,sc0];rfl))
end Go.Vd
namespace Go.Vd
open Go.Proofs
def dc128:=y0 f128 [] []
def fn128:Fn Qc 128 10 dc128 [.t 2]:=Am func128
def dc97:=y0 f97 [] []
def fn97:Fn Qc 97 64 dc97 [.cell (some 3) 2]:=Am func97
def dc38:=y0 f38 [] []
def fn38:Fn Qc 38 12 dc38 [.cell (some 3) 2,.t 3]:=Am func38
def dc132:=y0 f132 [] []
def fn132:Fn Qc 132 27 dc132 [.t 4,.t 5]:=Am func132
def dc92:=y0 f92 [(3,[(2,0)])] []
def fn92:Fn Qc 92 73 dc92 [.t 2]:=Am func92
def dc316l0:=y1 f316 2 [] []
def dc316:=y0 f316 [] [(2,dc316l0)]
def fn316:Fn Qc 316 17 dc316 [.t 2]:=Am func316
def dc222l0:=y1 f222 14 [] []
def dc222:=y0 f222 [(18,[(3,6),(3,10),(7,10)])] [(14,dc222l0)]
def fn222:Fn Qc 222 78 dc222 [.t 2]:=Am func222
def dc121:=y0 f121 [] []
def fn121:Fn Qc 121 13 dc121 [.t 2,.t 3]:=Am func121
def dc120:=y0 f120 [] []
def fn120:Fn Qc 120 17 dc120 [.t 2]:=Am func120
def dc223:=y0 f223 [] []
def fn223:Fn Qc 223 35 dc223 [.t 2,.t 3]:=Am func223
def dc123:=y0 f123 [] []
def fn123:Fn Qc 123 18 dc123 [.t 6]:=Am func123
def dc122:=y0 f122 [] []
def fn122:Fn Qc 122 23 dc122 []:=Am func122
def dc237l0:=y1 f237 2 [] []
def dc237:=y0 f237 [] [(2,dc237l0)]
def fn237:Fn Qc 237 20 dc237 [.t 4]:=Am func237
def dc137:=y0 f137 [] []
def fn137:Fn Qc 137 37 dc137 [.t 4,.t 5,.t 6]:=Am func137
def dc12:=y0 f12 [] []
def fn12:Fn Qc 12 31 dc12 [.cell (some 5) 8]:=Am func12
end Go.Vd
namespace Go.Vd
open Go.Proofs Go.RowKit
def Bn(k:Int)(name:Bs)(n:Int):Bs:=if B7 k name n≠0 then []else if k=1 then [109,47]++name else if k=2 then [100,47]++name++[0,UInt8.ofNat (IntKind.u8.wrap n).toNat]else if k=3 then [116,47]++name else if k=4 then [115,47,109,111,117,110,116,115]else [115,47,114,105,110,103]
def F98_eq{k n:Int}{name:Bs}(h:name.length<=1000000):F98 [.agg [.int .u8 k,.str name,.int .i64 n]]=some (.int .i64 (B7 k name n)):=if_pos h
def add_s{a b:Bs}(h:a.length+b.length<=9223372036854775807):A_ .add (.str a) (.str b)=some (.str (a++b)):=by simp[A_,h]
def S223:Summs:=AF [(98,Ac F98)]
def R223:List D->Option D:=RF S223 dc223 [.t 2,.t 3] 35
def ko223:(Ac R223).ok Qc 223:=AH fn223 (Ab ok98 Ad)
def R223_eq(k n:Int)(name:Bs)(hl:name.length<=1000000):R223 [.agg [.int .u8 k,.str name,.int .i64 n]]=some (.tup [.str (Bn k name n),.int .i64 (B7 k name n)]):=by
 refine AG (Qb rfl) ?_;unfold dc223;have h98:=F98_eq (k:=k) (n:=n) hl;have a1:∀x y,A_ .add (.str [x,y]) (.str name)=some (.str ([x,y]++name)):=λx y=>add_s (by simp only[gB3];omega)
 have hb:∀a,BE [.int .u8 0,.int .u8 a]=some [0,UInt8.ofNat a.toNat]:=λ_=>rfl
 unfold Bn;generalize B7 k name n=e at *;by_cases c0:e=0
 ·subst c0;by_cases c1:k=1
  ·have c1':=eq_true c1;simp only[gB1,↓go1,go5,simprocAttr,An S223 98,h98,c1',a1]
   all_goals first|rfl|exact⟨rfl,rfl⟩|simp[*]
  have c1':=eq_false c1;by_cases c2:k=2
  ·have c2':=eq_true c2;have a3:=λz (hz:z.length<=100)=>add_s (a:=[100,47]++name) (b:=z) (by simp only[Qo,gB3];omega)
   have a4:=λc d=>a3 [c,d] (by simp)
   simp only[gB1,↓go1,go5,simprocAttr,An S223 98,h98,c1',c2',a1,a4,hb]
   all_goals first|rfl|exact⟨rfl,rfl⟩|simp[*]
  have c2':=eq_false c2;by_cases c3:k=3
  ·have c3':=eq_true c3;simp only[gB1,↓go1,go5,simprocAttr,An S223 98,h98,c1',c2',c3',a1]
   all_goals first|rfl|exact⟨rfl,rfl⟩|simp[*]
  have c3':=eq_false c3;by_cases c4:k=4
  ·have c4':=eq_true c4;simp only[gB1,↓go1,go5,simprocAttr,An S223 98,h98,c1',c2',c3',c4']
   all_goals first|rfl|exact⟨rfl,rfl⟩|simp[*]
  ·have c4':=eq_false c4;simp only[gB1,↓go1,go5,simprocAttr,An S223 98,h98,c1',c2',c3',c4']
   all_goals first|rfl|exact⟨rfl,rfl⟩|simp[*]
 ·have c0':=eq_false c0;simp only[gB1,↓go1,go5,simprocAttr,An S223 98,h98,c0']
  all_goals first|rfl|exact⟨rfl,rfl⟩|simp[*]
def S123:Summs:=AF [(223,Ac R223)]
def CL:List D->Option D:=RF S123 dc123 [.t 6] 18
def ko123:(Ac CL).ok Qc 123:=AH fn123 (Ab ko223 Ad)
def CP(k n:Int)(name:Bs)(hl:name.length<=1000000):CL [.int .u8 k,.str name,.int .i64 n]=some (.str (Bn k name n)):=by
 refine AG (Qb rfl) ?_;unfold dc123;have h223:=R223_eq k n name hl;simp only[↓go1,gB2,go5,simprocAttr,An S123 223,h223]
 all_goals first|rfl|exact⟨rfl,rfl⟩|simp[*]
def S128:Summs:=AF []
def R128:List D->Option D:=RF S128 dc128 [.t 2] 10
def ko128:(Ac R128).ok Qc 128:=AH fn128 Ad
def R128_eq(p:Bs)(hl:p.length<=1000000):R128 [.str p]=some (.slice false [] [.str ([109,47]++p++[47]),.str ([100,47]++p++[47])]):=by
 refine AG (Qb rfl) ?_;unfold dc128;have a1:∀x y,A_ .add (.str [x,y]) (.str p)=some (.str ([x,y]++p)):=λx y=>add_s (by simp only[gB3];omega)
 have a2:∀x y,A_ .add (.str ([x,y]++p)) (.str [47])=some (.str ([x,y]++p++[47])):=λx y=>add_s (by simp only[Qo,gB3];omega)
 simp only[↓go1,gB2,go5,simprocAttr,a1,a2]
 all_goals first|rfl|exact⟨rfl,rfl⟩|simp[*]
def BQ(s:Bs):Int×Bs×Int:=if s=[115,47,109,111,117,110,116,115]then(4,[],0)else if s=[115,47,114,105,110,103]then(5,[],0)else if BN s [109,47]=true then(1,s.drop 2,0)else if BN s [116,47]=true then(3,s.drop 2,0)else
 if BN s [100,47]=true∧2<(s.drop 2).length∧(s.drop 2).getD ((s.drop 2).length-2) 0=0 then(2,(s.drop 2).take ((s.drop 2).length-2),((s.drop 2).getD ((s.drop 2).length-1) 0).toNat)else(0,[],0)
def Cx(s:Bs):(Int×Bs×Int)×Int:=if B7 (BQ s).1 (BQ s).2.1 (BQ s).2.2≠0 then((0,[],0),4)else(BQ s,0)
def kyD(k:Int×Bs×Int):D:= .agg [.int .u8 k.1,.str k.2.1,.int .i64 k.2.2]
def guess_len(s:Bs):(BQ s).2.1.length<=s.length:=by
 unfold BQ
 repeat' split
 all_goals (simp;try omega)
def S97:Summs:=AF [(200,Ac F200)]
def R97:List D->Option D:=RF S97 dc97 [.cell (some 3) 2] 64
def ko97:(Ac R97).ok Qc 97:=AH fn97 (Ab ok200 Ad)
theorem R97_eq (s : Bs) (hl : s.length ≤ 1000000) : R97 [.str s] = some (kyD (BQ s)) := by
  refine AG (Qb rfl) ?_
  unfold dc97
  have h200 : ∀ a b : UInt8, F200 [.str s, .str [a, b]] = some (.tup [.str (if BN s [a, b] = true then s.drop 2 else s), .bool (BN s [a, b])]) := fun _ _ => rfl
  unfold BQ kyD
  by_cases c1 : s = [115, 47, 109, 111, 117, 110, 116, 115]
  · have c1' := eq_true c1
    simp only [gB1, ↓go1, go5, simprocAttr, c1']
    all_goals first | rfl | exact ⟨rfl, rfl⟩ | simp [*]
  have c1' := eq_false c1
  by_cases c2 : s = [115, 47, 114, 105, 110, 103]
  · have c2' := eq_true c2
    simp only [gB1, ↓go1, go5, simprocAttr, c1', c2']
    all_goals first | rfl | exact ⟨rfl, rfl⟩ | simp [*]
  have c2' := eq_false c2
  cases c3 : BN s [109, 47] with
  | true =>
    simp only [gB1, ↓go1, go5, simprocAttr, An S97 200, h200, c1', c2', c3]
    all_goals first | rfl | exact ⟨rfl, rfl⟩ | simp [*]
  | false =>
    cases c4 : BN s [116, 47] with
    | true =>
      simp only [gB1, ↓go1, go5, simprocAttr, An S97 200, h200, c1', c2', c3, c4]
      all_goals first | rfl | exact ⟨rfl, rfl⟩ | simp [*]
    | false =>
      cases c5 : BN s [100, 47] with
      | false =>
        simp only [gB1, ↓go1, go5, simprocAttr, An S97 200, h200, c1', c2', c3, c4, c5]
        all_goals first | rfl | exact ⟨rfl, rfl⟩ | simp [*]
      | true =>
        have hdl : (s.drop 2).length ≤ 1000000 := by rw [QY]; omega
        generalize hr : s.drop 2 = r at *
        by_cases c6 : 2 < r.length
        · have c6' : ((2 : Int) < (r.length : Int)) = True := eq_true (by omega)
          have w1 : IntKind.i64.wrap ((r.length : Int) - 2) = ((r.length - 2 : Nat) : Int) := by rw [w64 (by omega) (by omega)]; omega
          have w2 : IntKind.i64.wrap (((r.length - 2 : Nat) : Int) + 1) = ((r.length - 1 : Nat) : Int) := by rw [w64 (by omega) (by omega)]; omega
          have w3 : (0 : Int) ≤ ((r.length - 2 : Nat) : Int) := by omega
          have w3' : (0 : Int) ≤ ((r.length - 1 : Nat) : Int) := by omega
          have w4 : (((r.length - 2 : Nat) : Int) ≤ ((r.length : Nat) : Int)) = True := eq_true (by omega)
          have g1 : r[r.length - 2]? = some (r.getD (r.length - 2) 0) := by simp [Zr, Qg (show r.length - 2 < r.length by omega)]
          have g2 : r[r.length - 1]? = some (r.getD (r.length - 1) 0) := by simp [Zr, Qg (show r.length - 1 < r.length by omega)]
          have hz : ((r.getD (r.length - 2) 0).toNat : Int) = 0 ↔ r.getD (r.length - 2) 0 = 0 := by
            constructor
            · intro h; exact UInt8.toNat_inj.1 (by have : (r.getD (r.length - 2) 0).toNat = 0 := by omega
                                                   rw [this]; rfl)
            · intro h; rw [h]; rfl
          have hwi : IntKind.i64.wrap ((r.getD (r.length - 1) 0).toNat : Int) = ((r.getD (r.length - 1) 0).toNat : Int) := w64 (by omega) (by have := (r.getD (r.length - 1) 0).toNat_lt; omega)
          generalize r.getD (r.length - 1) 0 = y at *
          generalize r.getD (r.length - 2) 0 = x at *
          by_cases c7 : x = 0
          · have c7' : ((x.toNat : Int) = 0) = True := eq_true (hz.2 c7)
            simp only [gB1, ↓go1, go5, simprocAttr, An S97 200, h200, c1', c2', c3, c4, c5, c6', w1, w2, w3, w3', w4, g1, g2, c7', hwi, Qf]
            (refine Ao.intro (Aj ?_) ?_; first | rfl | simp [A2, AL, rds, Ai, Ac])
            simp only [gB1, ↓go1, go5, simprocAttr]
            all_goals first | rfl | exact ⟨rfl, rfl⟩ | simp [*]
          · have c7' : ((x.toNat : Int) = 0) = False := eq_false (fun h => c7 (hz.1 h))
            simp only [gB1, ↓go1, go5, simprocAttr, An S97 200, h200, c1', c2', c3, c4, c5, c6', w1, w3, g1, c7', Qf]
            all_goals first | rfl | exact ⟨rfl, rfl⟩ | simp [*]
        · have c6' : ((2 : Int) < (r.length : Int)) = False := eq_false (by omega)
          simp only [gB1, ↓go1, go5, simprocAttr, An S97 200, h200, c1', c2', c3, c4, c5, c6']
          all_goals first | rfl | exact ⟨rfl, rfl⟩ | simp [*]
def S38:Summs:=AF [(97,Ac R97),(98,Ac F98)]
def R38:List D->Option D:=RF S38 dc38 [.cell (some 3) 2,.t 3] 12
def ko38:(Ac R38).ok Qc 38:=AH fn38 (Ab ko97 (Ab ok98 Ad))
def R38_eq(s:Bs)(hl:s.length<=1000000):R38 [.str s]=some (.tup [kyD (Cx s).1,.int .i64 (Cx s).2]):=by
 refine AG (Qb rfl) ?_;have s98:S38 98=some (Ac F98):=rfl;unfold dc38;have h97:=R97_eq s hl;have h98:=F98_eq (k:=(BQ s).1) (n:=(BQ s).2.2) (name:=(BQ s).2.1) (by have:=guess_len s;omega);unfold Cx;unfold kyD at *;generalize B7 (BQ s).1 (BQ s).2.1 (BQ s).2.2=e at *;generalize BQ s=g at *;by_cases c0:e=0
 ·subst c0;simp only[gB1,↓go1,go5,simprocAttr,An S38 97,h97,Aa s98,h98]
  all_goals first|rfl|exact⟨rfl,rfl⟩|simp[*]
 ·have c0':=eq_false c0;simp only[gB1,↓go1,go5,simprocAttr,An S38 97,h97,Aa s98,h98,c0']
  all_goals first|rfl|exact⟨rfl,rfl⟩|simp[*]
end Go.Vd
namespace Go.Vd
open Go.Proofs
def dc13:=y0 f13 [(2,[(3,1),(4,1)])] []
def fn13:Fn Qc 13 23 dc13 [.cell (some 5) 6]:=Am func13
def dc42:=y0 f42 [] []
def fn42:Fn Qc 42 8 dc42 [.t 2]:=Am func42
def dc9l0:=y1 f9 4 [] []
def dc9l1:=y1 f9 14 [] []
def dc9l2:=y1 f9 9 [] [(14,dc9l1)]
def dc9:=y0 f9 [] [(4,dc9l0),(9,dc9l2)]
def fn9:Fn Qc 9 88 dc9 [.t 2]:=Am func9
end Go.Vd
namespace Go.Vd
open Go.Proofs Go.RowKit
def wGrow99(w:World)(k:Nat)(h0:0<k)(hk:k<=1000000):
  Calls Qc 99 #[.slice none 0 0,.int .i64 (k:Int)] w λe w'=>e= .returned (.slice (some ⟨w.heap.size,0,none⟩) 0 (grownCap w k 0 9))∧w'=w.drew.alloc (.cells (Builtin.zeroCells #[.string .empty] k++Builtin.zeroCells #[.string .empty] (grownCap w k 0 9-k)) 9):=by
 have happ:=Lib.run_append_nil_zeros (P:=Qc) w 28 3 28 9 Tryz.t9 (.string .empty) .i64 .i64 underlying28 underlying3 (by kernel_rfl) (by kernel_rfl) k h0 (by decide) (by omega) (by show k*16<=_;omega)
 go_enter func99,ntmps99
 go_wp2_with (first|(at_builtin;refine Lib.wpList_append_run _ rfl _ _ _ _ rfl _ _ rfl rfl _ _ happ ?_))
 all_goals go_ret
 all_goals exact⟨rfl,rfl⟩
def ko99:(DD 9).ok Qc 99:=by
 refine grow_ok (sz:=1) ⟨_,func99,by kernel_rfl,by kernel_rfl⟩ (by decide) ⟨Tryz.t9,(.string .empty),by kernel_rfl,by kernel_rfl,by kernel_rfl,by kernel_rfl⟩ (λw k h0 hk=>?_);refine(wGrow99 w k h0 hk).mono ?_;rintro e w' ⟨rfl,rfl⟩;refine⟨_,_,grownCap_le_maxLen w k 0 9 (by unfold maxLen;omega),?_,rfl,rfl⟩;have hge:=grownCap_ge w k 0 9;simp only[Q8,size_zeroCells];simp;omega
def wGrow100(w:World)(k:Nat)(h0:0<k)(hk:k<=1000000):
  Calls Qc 100 #[.slice none 0 0,.int .i64 (k:Int)] w λe w'=>e= .returned (.slice (some ⟨w.heap.size,0,none⟩) 0 (grownCap w k 0 4))∧w'=w.drew.alloc (.cells (Builtin.zeroCells #[.bool false] k++Builtin.zeroCells #[.bool false] (grownCap w k 0 4-k)) 4):=by
 have happ:=Lib.run_append_nil_zeros (P:=Qc) w 29 3 29 4 Tryz.t4 (.bool false) .i64 .i64 underlying29 underlying3 (by kernel_rfl) (by kernel_rfl) k h0 (by decide) (by omega) (by show k*1<=_;omega)
 go_enter func100,ntmps100
 go_wp2_with (first|(at_builtin;refine Lib.wpList_append_run _ rfl _ _ _ _ rfl _ _ rfl rfl _ _ happ ?_))
 all_goals go_ret
 all_goals exact⟨rfl,rfl⟩
def ko100:(DD 4).ok Qc 100:=by
 refine grow_ok (sz:=1) ⟨_,func100,by kernel_rfl,by kernel_rfl⟩ (by decide) ⟨Tryz.t4,(.bool false),by kernel_rfl,by kernel_rfl,by kernel_rfl,by kernel_rfl⟩ (λw k h0 hk=>?_);refine(wGrow100 w k h0 hk).mono ?_;rintro e w' ⟨rfl,rfl⟩;refine⟨_,_,grownCap_le_maxLen w k 0 4 (by unfold maxLen;omega),?_,rfl,rfl⟩;have hge:=grownCap_ge w k 0 4;simp only[Q8,size_zeroCells];simp;omega
def wGrow101(w:World)(k:Nat)(h0:0<k)(hk:k<=1000000):
  Calls Qc 101 #[.slice none 0 0,.int .i64 (k:Int)] w λe w'=>e= .returned (.slice (some ⟨w.heap.size,0,none⟩) 0 (grownCap w k 0 28))∧w'=w.drew.alloc (.cells (Builtin.zeroCells #[.slice none 0 0] k++Builtin.zeroCells #[.slice none 0 0] (grownCap w k 0 28-k)) 28):=by
 have happ:=Lib.run_append_nil_zeros (P:=Qc) w 30 3 30 28 t28 (.slice none 0 0) .i64 .i64 underlying30 underlying3 (by kernel_rfl) (by kernel_rfl) k h0 (by decide) (by omega) (by show k*24<=_;omega)
 go_enter func101,ntmps101
 go_wp2_with (first|(at_builtin;refine Lib.wpList_append_run _ rfl _ _ _ _ rfl _ _ rfl rfl _ _ happ ?_))
 all_goals go_ret
 all_goals exact⟨rfl,rfl⟩
def ko101:(DD 28).ok Qc 101:=by
 refine grow_ok (sz:=1) ⟨_,func101,by kernel_rfl,by kernel_rfl⟩ (by decide) ⟨t28,(.slice none 0 0),by kernel_rfl,by kernel_rfl,by kernel_rfl,by kernel_rfl⟩ (λw k h0 hk=>?_);refine(wGrow101 w k h0 hk).mono ?_;rintro e w' ⟨rfl,rfl⟩;refine⟨_,_,grownCap_le_maxLen w k 0 28 (by unfold maxLen;omega),?_,rfl,rfl⟩;have hge:=grownCap_ge w k 0 28;simp only[Q8,size_zeroCells];simp;omega
def fn39':Fn Qc 39 36 (F6 9 9 1 16 99) [.t 2]:=⟨f39,_,func39,rfl,by kernel_rfl,rfl,by kernel_rfl,by kernel_rfl⟩
def S39:Summs:=AF [(99,DD 9)]
def R39:List D->Option D:=RF S39 (F6 9 9 1 16 99) [.t 2] 36
def ko39:(Ac R39).ok Qc 39:=AH fn39' (Ab ko99 Ad)
def R39_eq{nl:Bool}{xs:List D}{x:D}(hl:xs.length<=1000)(hs:(xs++[x]).all (szB 1)=true):R39 [.slice false [] [.slice nl [] xs,.slice false [] [x]]]=some (.slice false [] (xs++[x])):=
 AG (Qb rfl) (cat_wp (P:=Qc) (f:=39) (by omega) rfl (by simp[EE]) (Qb rfl) (by simp) (by simp;omega) hs λt m hgr=>⟨rfl,rfl⟩)
def fn40':Fn Qc 40 36 (F6 9 4 1 1 100) [.t 2]:=⟨f40,_,func40,rfl,by kernel_rfl,rfl,by kernel_rfl,by kernel_rfl⟩
def S40:Summs:=AF [(100,DD 4)]
def R40:List D->Option D:=RF S40 (F6 9 4 1 1 100) [.t 2] 36
def ko40:(Ac R40).ok Qc 40:=AH fn40' (Ab ko100 Ad)
def R40_eq{nl:Bool}{xs:List D}{x:D}(hl:xs.length<=1000)(hs:(xs++[x]).all (szB 1)=true):R40 [.slice false [] [.slice nl [] xs,.slice false [] [x]]]=some (.slice false [] (xs++[x])):=
 AG (Qb rfl) (cat_wp (P:=Qc) (f:=40) (by omega) rfl (by simp[EE]) (Qb rfl) (by simp) (by simp;omega) hs λt m hgr=>⟨rfl,rfl⟩)
def fn41':Fn Qc 41 36 (F6 9 28 1 24 101) [.t 2]:=⟨f41,_,func41,rfl,by kernel_rfl,rfl,by kernel_rfl,by kernel_rfl⟩
def S41:Summs:=AF [(101,DD 28)]
def R41:List D->Option D:=RF S41 (F6 9 28 1 24 101) [.t 2] 36
def ko41:(Ac R41).ok Qc 41:=AH fn41' (Ab ko101 Ad)
def R41_eq{nl:Bool}{xs:List D}{x:D}(hl:xs.length<=1000)(hs:(xs++[x]).all (szB 1)=true):R41 [.slice false [] [.slice nl [] xs,.slice false [] [x]]]=some (.slice false [] (xs++[x])):=
 AG (Qb rfl) (cat_wp (P:=Qc) (f:=41) (by omega) rfl (by simp[EE]) (Qb rfl) (by simp) (by simp;omega) hs λt m hgr=>⟨rfl,rfl⟩)
def Ay(l:List Bs):List D:=l.map .str
def strsD_hd(l:List Bs):D.headSz (Ay l) 1=1:=by cases l<;>rfl
def A1(l:List Bs):(Ay l).length=l.length:=Qk ..
def D7{l:List Bs}{j:Nat}(h:j<l.length):(Ay l)[j]?=some (.str l[j]):=by simp[Ay,Qg h]
structure Kn where
 es:List (Bs×Bs×Bool)
 ls:List (Bs×Bool×List Bs)
def lsD(x:Bs×Bool×List Bs):D:= .slice x.2.1 [] (Ay x.2.2)
def kwC(k:Kn):List D:=[.slice k.es.isEmpty [] (k.es.map λx=> .str x.1),.slice k.es.isEmpty [] (k.es.map λx=> .str x.2.1),.slice k.es.isEmpty [] (k.es.map λx=> .bool x.2.2),.slice k.ls.isEmpty [] (k.ls.map λx=> .str x.1),.slice k.ls.isEmpty [] (k.ls.map lsD)]
def all1{α:Type}{f:α->D}(h:∀x,szB 1 (f x)=true)(l:List α)(y:α):(l.map f++[f y]).all (szB 1)=true:=by
 rw[QE];intro x hx;rcases List.mem_append.1 hx with hx|hx
 ·obtain⟨z,_,rfl⟩:=QJ.1 hx;exact h z
 ·rw[List.mem_singleton.1 hx];exact h y
def appE{α:Type}(l:List α)(x:α):(l++[x]).isEmpty=false:=by cases l<;>rfl
def S42:Summs:=AF []
def R42:List D->Option D:=RF S42 dc42 [.t 2] 8
def ko42:(Ac R42).ok Qc 42:=AH fn42 Ad
def R42_eq{nl:Bool}{l:List Bs}(hl:l.length<=100000)(hn:nl=true->l=[]):R42 [.slice nl [] (Ay l)]=some (.slice nl [] (Ay l)):=by
 refine AG (Qb rfl) ?_;unfold dc42;cases nl with
 |true=>
  rw[hn rfl];simp only[↓go1,go2,go3,go5,simprocAttr]
  all_goals first|rfl|exact⟨rfl,rfl⟩|simp[*]
 |false=>
  simp only[↓go1,go2,go4,go5,simprocAttr];refine Ao.intro ⟨by rw[A1];omega,strsD_hd l,.inr ⟨rfl,by simp⟩⟩ ?_;simp only[↓go1,gB2,go5,simprocAttr]
def S12:Summs:=AF [(39,Ac R39),(40,Ac R40)]
def R12:List D->Option D:=RF S12 dc12 [.cell (some 5) 8] 31
def ko12:(Ac R12).ok Qc 12:=AH fn12 (Ab ko39 (Ab ko40 Ad))
def R12_eq(k:Kn)(key text:Bs)(there:Bool)(hl:k.es.length<=1000):R12 [.agg (kwC k),.str key,.str text,.bool there]=some (.agg (kwC {k with es:=k.es++[(key,text,there)]})):=by
 refine AG (Qb rfl) ?_;have s40:S12 40=some (Ac R40):=rfl;unfold dc12;have h1:=R39_eq (nl:=k.es.isEmpty) (xs:=k.es.map λx=> .str x.1) (x:= .str key) (by simpa using hl) (all1 (f:=λx:Bs×Bs×Bool=> .str x.1) (λ_=>rfl) k.es (key,text,there));have h2:=R39_eq (nl:=k.es.isEmpty) (xs:=k.es.map λx=> .str x.2.1) (x:= .str text) (by simpa using hl) (all1 (f:=λx:Bs×Bs×Bool=> .str x.2.1) (λ_=>rfl) k.es (key,text,there));have h3:=R40_eq (nl:=k.es.isEmpty) (xs:=k.es.map λx=> .bool x.2.2) (x:= .bool there) (by simpa using hl) (all1 (f:=λx:Bs×Bs×Bool=> .bool x.2.2) (λ_=>rfl) k.es (key,text,there));unfold kwC;simp only[Q0,Q_,Zq,appE];simp only[gB1,↓go1,go5,simprocAttr,An S12 39,h1,h2,Aa s40,h3]
 all_goals first|rfl|exact⟨rfl,rfl⟩|simp[*]
def S13:Summs:=AF [(39,Ac R39),(41,Ac R41),(42,Ac R42)]
def R13:List D->Option D:=RF S13 dc13 [.cell (some 5) 6] 23
def ko13:(Ac R13).ok Qc 13:=AH fn13 (Ab ko39 (Ab ko41 (Ab ko42 Ad)))
def R13_eq(k:Kn)(p:Bs)(nl:Bool)(l:List Bs)(hl:k.ls.length<=1000)(hl2:l.length<=100000)(hn:nl=true->l=[]):R13 [.agg (kwC k),.str p,.slice nl [] (Ay l)]=some (.agg (kwC {k with ls:=k.ls++[(p,nl,l)]})):=by
 refine AG (Qb rfl) ?_;have s41:S13 41=some (Ac R41):=rfl;have s42:S13 42=some (Ac R42):=rfl;unfold dc13;have h1:=R39_eq (nl:=k.ls.isEmpty) (xs:=k.ls.map λx=> .str x.1) (x:= .str p) (by simpa using hl) (all1 (f:=λx:Bs×Bool×List Bs=> .str x.1) (λ_=>rfl) k.ls (p,nl,l));have h2:=R42_eq (nl:=nl) (l:=l) hl2 hn;have h3:=R41_eq (nl:=k.ls.isEmpty) (xs:=k.ls.map lsD) (x:=lsD (p,nl,l)) (by simpa using hl) (all1 (f:=lsD) (λ_=>rfl) k.ls (p,nl,l));have e1:lsD (p,nl,l)= .slice nl [] (Ay l):=rfl;rw[e1]at h3;unfold kwC;simp only[Q0,Q_,Zq,appE,e1];simp only[gB1,↓go1,go5,simprocAttr,An S13 39,h1,Aa s42,h2,Aa s41,h3]
 (refine Ao.intro (Aj ?_) ?_;first|rfl|simp[A2,AL,rds,Ai,Ac])
 simp only[gB1,↓go1,go5,simprocAttr]
 all_goals first|rfl|exact⟨rfl,rfl⟩|simp[*]
def CR:List Bs->Bs->Int
 |[],_=>-1
 |x::r,s=>if 0<=CR r s then CR r s+1 else if x=s then 0 else-1
def lastI_bd:∀(l:List Bs)(s:Bs),-1<=CR l s∧CR l s<l.length
 |[],s=>by simp[CR]
 |x::r,s=>by
  have:=lastI_bd r s;unfold CR;simp only[QO];split
  ·omega
  ·split<;>omega
def lastI_no:∀{l:List Bs} {s:Bs},(∀i (h:i<l.length),l[i]≠s)->CR l s=-1
 |[],s,_=>rfl
 |x::r,s,h=>by
  have ih:=lastI_no (l:=r) (s:=s) (λi hi=>h (i+1) (by simpa using hi));have h0:x≠s:=h 0 (by simp);simp[CR,ih,h0]
def lastI_at:∀{l:List Bs} {s:Bs} {j:Nat} (hj:j<l.length),l[j]=s->(∀i (h:i<l.length),j<i->l[i]≠s)->CR l s=j
 |x::r,s,0,hj,hx,h=>by
  have ih:=lastI_no (l:=r) (s:=s) (λi hi=>h (i+1) (by simpa using hi) (by omega));have h0:x=s:=hx;simp[CR,ih,h0]
 |x::r,s,j+1,hj,hx,h=>by
  have ih:=lastI_at (l:=r) (s:=s) (j:=j) (by simpa using hj) (by simpa using hx) (λi hi hji=>h (i+1) (by simpa using hi) (by omega));unfold CR;rw[if_pos (by omega),ih];omega
def S237:Summs:=AF []
def R237:List D->Option D:=RF S237 dc237 [.t 4] 20
def ko237:(Ac R237).ok Qc 237:=AH fn237 Ad
def R237_eq{nl:Bool}{l:List Bs}(q:Bs)(hl:l.length<=1000):R237 [.slice nl [] (Ay l),.str q]=some (.int .i64 (CR l q)):=by
 refine AG (Qb rfl) ?_;unfold dc237;have hw0:IntKind.i64.wrap ((l.length:Int)-1)=(l.length:Int)-1:=w64 (by omega) (by omega);simp only[↓go1,go2,simprocAttr,A1,hw0];refine Bm (n:=l.length) (I:=λj st=>st.s 0= .slice nl [] (Ay l)∧st.s 1= .str q∧st.s 5= .int .i64 ((l.length:Int)-1-j)∧∀i (h:i<l.length),l.length<=i+j->l[i]≠q) (λj hj ih st g hI=>?_) (λst g hI=>?_) 0 (Qv _) _ _ ⟨rfl,rfl,by rw[show((0:Nat):Int)=0 from rfl,Int.sub_zero];rfl,λi h h2=>by omega⟩
 ·obtain⟨st_s,st_m,st_c⟩:=st;obtain⟨h0,h1,h5,hall⟩:=hI;simp only at h0 h1 h5;refine Ae dc237l0.eq_1 ?_;have hge:(0:Int)<=(l.length:Int)-1-j:=by omega
  have hw:IntKind.i64.wrap ((l.length:Int)-1-j-1)=(l.length:Int)-1-((j+1:Nat):Int):=by rw[w64 (by omega) (by omega)];omega
  have hi:((l.length:Int)-1-j).toNat=l.length-1-j:=by omega
  have hat:=D7 (l:=l) (j:=l.length-1-j) (by omega);by_cases hx:l[l.length-1-j]'(by omega)=q
  ·have e:=lastI_at (by omega) hx (λi h h2=>hall i h (by omega));have hx':=eq_true hx;have e2:((l.length-1-j:Nat):Int)=(l.length:Int)-1-j:=by omega
   simp only[↓go1,gB2,go5,simprocAttr,h0,h1,h5,hge,hi,hat,hx'];rw[e,e2]
   all_goals first|rfl|exact⟨rfl,rfl⟩|simp[*]
  ·have hx':=eq_false hx;simp only[↓go1,gB2,go5,simprocAttr,h0,h1,h5,hge,hi,hat,hx',hw];refine ih _ _ ⟨h0,h1,rfl,λi h h2=>?_⟩;by_cases hj2:l.length<=i+j
   ·exact hall i h hj2
   ·have:i=l.length-1-j:=by omega
    subst this;exact hx
 ·obtain⟨h0,h1,h5,hall⟩:=hI;refine Ae dc237l0.eq_1 ?_;have hge:¬(0:Int)<=(l.length:Int)-1-(l.length:Int):=by omega
  have e:=lastI_no (l:=l) (s:=q) (λi h=>hall i h (by omega));simp only[↓go1,gB2,go5,simprocAttr,h5,hge];rw[e]
  all_goals first|rfl|exact⟨rfl,rfl⟩|simp[*]
def FW(k:Kn):List Bs:=k.es.map (·.1)
def entE(k:Kn)(q:Bs):Bs×Bool×Bool:=if CR (FW k) q<0 then([],false,false)else((k.es.getD (CR (FW k) q).toNat ([],[],false)).2.1,(k.es.getD (CR (FW k) q).toNat ([],[],false)).2.2,true)
def lstE(k:Kn)(q:Bs):Bool×List Bs×Bool:=if CR (k.ls.map (·.1)) q<0 then(true,[],false)else((k.ls.getD (CR (k.ls.map (·.1)) q).toNat ([],true,[])).2.1,(k.ls.getD (CR (k.ls.map (·.1)) q).toNat ([],true,[])).2.2,true)
def S137:Summs:=AF [(237,Ac R237)]
def E0:List D->Option D:=RF S137 dc137 [.t 4,.t 5,.t 6] 37
def ko137:(Ac E0).ok Qc 137:=AH fn137 (Ab ko237 Ad)
def R137_eq(k:Kn)(q:Bs)(hl:k.es.length<=1000):E0 [.agg (kwC k),.str q]=some (.tup [.str (entE k q).1,.bool (entE k q).2.1,.bool (entE k q).2.2]):=by
 refine AG (Qb rfl) ?_;unfold dc137;have h237:R237 [.slice k.es.isEmpty [] (k.es.map λx=> .str x.1),.str q]=some (.int .i64 (CR (FW k) q)):=by
  have e:=R237_eq (nl:=k.es.isEmpty) (l:=FW k) q (by simpa[FW]using hl);simpa[Ay,FW,Function.comp_def]using e
 have hb:=lastI_bd (FW k) q;have hkl:(FW k).length=k.es.length:=Qk ..;rw[hkl]at hb;unfold entE kwC;generalize CR (FW k) q=i at *;by_cases c:i<0
 ·simp only[↓go1,gB2,go5,simprocAttr,An S137 237,h237,c]
  all_goals first|rfl|exact⟨rfl,rfl⟩|simp[*]
 ·have hi:i.toNat<k.es.length:=by omega
  have c0:(0:Int)<=i:=by omega
  have c1:(i<(k.es.length:Int))=True:=eq_true (by omega);have g1:(k.es.map λx=>D.str x.2.1)[i.toNat]?=some (.str (k.es.getD i.toNat ([],[],false)).2.1):=by simp[Qg hi]
  have g2:(k.es.map λx=>D.bool x.2.2)[i.toNat]?=some (.bool (k.es.getD i.toNat ([],[],false)).2.2):=by simp[Qg hi]
  generalize k.es.getD i.toNat ([],[],false)=x at *;simp only[↓go1,gB2,go5,simprocAttr,An S137 237,h237,c,c0,c1,g1,g2,Qk]
  (refine Ao.intro (Aj ?_) ?_;first|rfl|simp[A2,AL,rds,Ai,Ac])
  simp only[↓go1,gB2,go5,simprocAttr]
  all_goals first|rfl|exact⟨rfl,rfl⟩|simp[*]
def S132:Summs:=AF [(237,Ac R237)]
def R132:List D->Option D:=RF S132 dc132 [.t 4,.t 5] 27
def ko132:(Ac R132).ok Qc 132:=AH fn132 (Ab ko237 Ad)
def R132_eq(k:Kn)(q:Bs)(hl:k.ls.length<=1000):R132 [.agg (kwC k),.str q]=some (.tup [.slice (lstE k q).1 [] (Ay (lstE k q).2.1),.bool (lstE k q).2.2]):=by
 refine AG (Qb rfl) ?_;unfold dc132;have h237:R237 [.slice k.ls.isEmpty [] (k.ls.map λx=> .str x.1),.str q]=some (.int .i64 (CR (k.ls.map (·.1)) q)):=by
  have e:=R237_eq (nl:=k.ls.isEmpty) (l:=k.ls.map (·.1)) q (by simpa using hl);simpa[Ay,Function.comp_def]using e
 have hb:=lastI_bd (k.ls.map (·.1)) q;have hkl:(k.ls.map (·.1)).length=k.ls.length:=Qk ..;rw[hkl]at hb;unfold lstE kwC;generalize CR (k.ls.map (·.1)) q=i at *;by_cases c:i<0
 ·have c0:¬(0:Int)<=i:=by omega
  simp only[↓go1,gB2,go5,simprocAttr,An S132 237,h237,c,c0]
  all_goals first|rfl|exact⟨rfl,rfl⟩|simp[*]
 ·have hi:i.toNat<k.ls.length:=by omega
  have c0:(0:Int)<=i:=by omega
  have c1:((k.ls.length:Int)<=i)=False:=eq_false (by omega);have g1:(k.ls.map lsD)[i.toNat]?=some (.slice (k.ls.getD i.toNat ([],true,[])).2.1 [] (Ay (k.ls.getD i.toNat ([],true,[])).2.2)):=by simp[Qg hi,lsD]
  generalize k.ls.getD i.toNat ([],true,[])=x at *;simp only[↓go1,gB2,go5,simprocAttr,An S132 237,h237,c,c0,c1,g1,Qk]
  all_goals first|rfl|exact⟨rfl,rfl⟩|simp[*]
structure Dk where
 n1:Bool
 its:List (Bs×Bs×Bool)
 n2:Bool
 lss:List (Bs×Bool×List Bs)
def itD(x:Bs×Bs×Bool):D:= .agg [.str x.1,.str x.2.1,.bool x.2.2]
def ltD(x:Bs×Bool×List Bs):D:= .agg [.str x.1,.slice x.2.1 [] (Ay x.2.2)]
def dkC(k:Dk):List D:=[.slice k.n1 [] (k.its.map itD),.slice k.n2 [] (k.lss.map ltD)]
def bigI(x:Bs×Bs×Bool):Bool:=decide (200<x.1.length)||decide (200<x.2.1.length)
def bigL(x:Bs×Bool×List Bs):Bool:=decide (100<x.2.2.length)||decide (200<x.1.length)||x.2.2.any λs=>decide (200<s.length)
def muchB(k:Dk):Bool:=decide (12<k.its.length)||decide (4<k.lss.length)||k.its.any bigI||k.lss.any bigL
def any_at{α:Type}{l:List α}{p:α->Bool}{j:Nat}(hj:j<l.length)(h:p l[j]=true):l.any p=true:=List.any_eq_true.2 ⟨_,QI hj,h⟩
def any_no{α:Type}{l:List α}{p:α->Bool}(h:∀i (hi:i<l.length),p l[i]=false):l.any p=false:=by
 rw[List.any_eq_false];intro x hx;obtain⟨i,hi,rfl⟩:=Q4 hx;simp[h i hi]
def S9:Summs:=AF []
def R9:List D->Option D:=RF S9 dc9 [.t 2] 88
def ko9:(Ac R9).ok Qc 9:=AH fn9 Ad
def R9_eq(k:Dk):R9 [.agg (dkC k)]=some (.bool (muchB k)):=by
 refine AG (Qb rfl) ?_;unfold dc9;unfold muchB dkC;by_cases c1:12<k.its.length
 ·have c1':((12:Int)<(k.its.length:Int))=True:=eq_true (by omega);simp only[↓go1,gB2,go5,simprocAttr,c1',Qk];simp[c1]
 have c1':((12:Int)<(k.its.length:Int))=False:=eq_false (by omega);by_cases c2:4<k.lss.length
 ·have c2':((4:Int)<(k.lss.length:Int))=True:=eq_true (by omega);simp only[↓go1,gB2,go5,simprocAttr,c1',c2',Qk];simp[c1,c2]
 have c2':((4:Int)<(k.lss.length:Int))=False:=eq_false (by omega);simp only[decide_eq_false c1,decide_eq_false c2,Zl];simp only[↓go1,gB2,go5,simprocAttr,c1',c2',Qk];refine Bm (n:=k.its.length) (I:=λj st=>st.s 1= .ptr [0] 0∧st.s 3= .int .i64 (j:Int)∧(∀i (hi:i<k.its.length),i<j->bigI k.its[i]=false)∧st.m=_) (λj hj ih st g hI=>?_) (λst g hI=>?_) 0 (Qv _) _ _ ⟨rfl,rfl,λi hi h=>absurd h (Q1 _),rfl⟩
 ·obtain⟨st_s,st_m,st_c⟩:=st;obtain⟨h1,h3,hall,hm⟩:=hI;simp only at h1 h3 hm;subst hm;refine Ae dc9l0.eq_1 ?_;have hlt:((j:Int)<k.its.length):=by omega
  have hj0:=nJ (j:=j);have hw:=wJ (j:=j) (by omega);have hat:(k.its.map itD)[j]?=some (.agg [.str k.its[j].1,.str k.its[j].2.1,.bool k.its[j].2.2]):=by simp[Qg hj,itD]
  by_cases d1:200<k.its[j].1.length
  ·have d1':((200:Int)<(k.its[j].1.length:Int))=True:=eq_true (by omega);have e:k.its.any bigI=true:=any_at hj (by simp[bigI,d1]);rw[e];simp only[↓go1,gB2,go5,simprocAttr,h1,h3,hlt,hj0,Qf,hat,d1',Qk]
   all_goals first|rfl|exact⟨rfl,rfl⟩|simp[*]
  ·have d1':((200:Int)<(k.its[j].1.length:Int))=False:=eq_false (by omega);by_cases d2:200<k.its[j].2.1.length
   ·have d2':((200:Int)<(k.its[j].2.1.length:Int))=True:=eq_true (by omega);have e:k.its.any bigI=true:=any_at hj (by simp[bigI,d2]);rw[e];simp only[↓go1,gB2,go5,simprocAttr,h1,h3,hlt,hj0,Qf,hat,d1',d2',Qk]
    all_goals first|rfl|exact⟨rfl,rfl⟩|simp[*]
   ·have d2':((200:Int)<(k.its[j].2.1.length:Int))=False:=eq_false (by omega);simp only[↓go1,gB2,go5,simprocAttr,h1,h3,hlt,hj0,Qf,hat,d1',d2',hw,Qk];refine ih _ _ ⟨h1,rfl,λi hi h=>?_,rfl⟩;rcases QR (QW h)with h|rfl
    ·exact hall i hi h
    ·simp[bigI,d1,d2]
 ·obtain⟨st_s,st_m,st_c⟩:=st;obtain⟨h1,h3,hall,hm⟩:=hI;simp only at h1 h3 hm;subst hm;refine Ae dc9l0.eq_1 ?_;rw[any_no (λi hi=>hall i hi hi),Zl];simp only[↓go1,gB2,go5,simprocAttr,h1,h3,Qt,Qk];refine Bm (n:=k.lss.length) (I:=λj st=>st.s 1= .ptr [0] 0∧st.s 4= .int .i64 (j:Int)∧(∀i (hi:i<k.lss.length),i<j->bigL k.lss[i]=false)∧st.m=_) (λj hj ih st g hI=>?_) (λst g hI=>?_) 0 (Qv _) _ _ ⟨h1,rfl,λi hi h=>absurd h (Q1 _),rfl⟩
  ·obtain⟨st_s,st_m,st_c⟩:=st;obtain⟨h1,h3,hall,hm⟩:=hI;simp only at h1 h3 hm;subst hm;refine Ae dc9l2.eq_1 ?_;have hlt:((j:Int)<k.lss.length):=by omega
   have hj0:=nJ (j:=j);have hw:=wJ (j:=j) (by omega);have hat:(k.lss.map ltD)[j]?=some (.agg [.str k.lss[j].1,.slice k.lss[j].2.1 [] (Ay k.lss[j].2.2)]):=by simp[Qg hj,ltD]
   by_cases d1:100<k.lss[j].2.2.length
   ·have d1':((100:Int)<(k.lss[j].2.2.length:Int))=True:=eq_true (by omega);have e:k.lss.any bigL=true:=any_at hj (by simp[bigL,d1]);rw[e];simp only[↓go1,gB2,go5,simprocAttr,h1,h3,hlt,hj0,Qf,hat,d1',Qk,A1]
    all_goals first|rfl|exact⟨rfl,rfl⟩|simp[*]
   ·have d1':((100:Int)<(k.lss[j].2.2.length:Int))=False:=eq_false (by omega);by_cases d2:200<k.lss[j].1.length
    ·have d2':((200:Int)<(k.lss[j].1.length:Int))=True:=eq_true (by omega);have e:k.lss.any bigL=true:=any_at hj (by simp[bigL,d2]);rw[e];simp only[↓go1,gB2,go5,simprocAttr,h1,h3,hlt,hj0,Qf,hat,d1',d2',Qk,A1]
     all_goals first|rfl|exact⟨rfl,rfl⟩|simp[*]
    ·have d2':((200:Int)<(k.lss[j].1.length:Int))=False:=eq_false (by omega);simp only[↓go1,gB2,go5,simprocAttr,h1,h3,hlt,hj0,Qf,hat,d1',d2',Qk,A1];refine Bm (n:=k.lss[j].2.2.length) (I:=λq st=>st.s 1= .ptr [0] 0∧st.s 4= .int .i64 (j:Int)∧st.s 5= .int .i64 (q:Int)∧(∀i (hi:i<k.lss[j].2.2.length),i<q->k.lss[j].2.2[i].length<=200)∧st.m=_) (λq hq ih2 st g hI=>?_) (λst g hI=>?_) 0 (Qv _) _ _ ⟨h1,h3,rfl,λi hi h=>absurd h (Q1 _),rfl⟩
     ·obtain⟨st_s,st_m,st_c⟩:=st;obtain⟨h1,h3,h5,hall2,hm⟩:=hI;simp only at h1 h3 h5 hm;subst hm;refine Ae dc9l1.eq_1 ?_;have hlq:((q:Int)<k.lss[j].2.2.length):=by omega
      have hq0:(0:Int)<=(q:Int):=by omega
      have hwq:IntKind.i64.wrap ((q:Int)+1)=((q+1:Nat):Int):=w64 (by omega) (by omega);have haq:=D7 hq;by_cases d3:200<k.lss[j].2.2[q].length
      ·have d3':((200:Int)<(k.lss[j].2.2[q].length:Int))=True:=eq_true (by omega);have e:k.lss.any bigL=true:=any_at hj (by
        have:k.lss[j].2.2.any (λs=>decide (200<s.length))=true:=any_at hq (by simp[d3]);simp only[bigL,this,Bool.or_true])
       rw[e];simp only[↓go1,gB2,go5,simprocAttr,h1,h3,h5,hj0,hlq,hq0,Qf,hat,haq,d3',A1]
       all_goals first|rfl|exact⟨rfl,rfl⟩|simp[*]
      ·have d3':((200:Int)<(k.lss[j].2.2[q].length:Int))=False:=eq_false (by omega);simp only[↓go1,gB2,go5,simprocAttr,h1,h3,h5,hj0,hlq,hq0,Qf,hat,haq,d3',hwq,A1];refine ih2 _ _ ⟨h1,h3,rfl,λi hi h=>?_,rfl⟩;rcases QR (QW h)with h|rfl
       ·exact hall2 i hi h
       ·omega
     ·obtain⟨st_s,st_m,st_c⟩:=st;obtain⟨h1,h3,h5,hall2,hm⟩:=hI;simp only at h1 h3 h5 hm;subst hm;refine Ae dc9l1.eq_1 ?_;simp only[↓go1,gB2,go5,simprocAttr,h1,h3,h5,hj0,Qt,Qf,hat,hw,A1];refine ih _ _ ⟨h1,rfl,λi hi h=>?_,rfl⟩;rcases QR (QW h)with h|rfl
      ·exact hall i hi h
      ·have:k.lss[i].2.2.any (λs=>decide (200<s.length))=false:=any_no (λp hp=>by have:=hall2 p hp hp;simp;omega);simp only[bigL,this,decide_eq_false d1,decide_eq_false d2,Bool.or_false]
  ·obtain⟨st_s,st_m,st_c⟩:=st;obtain⟨h1,h3,hall,hm⟩:=hI;simp only at h1 h3 hm;subst hm;refine Ae dc9l2.eq_1 ?_;rw[any_no (λi hi=>hall i hi hi)];simp only[↓go1,gB2,go5,simprocAttr,h1,h3,Qt,Qk]
   all_goals first|rfl|exact⟨rfl,rfl⟩|simp[*]
structure DkOk (d:Dk):Prop where
 l1:d.its.length<=1000
 l2:d.lss.length<=1000
 ls:∀x∈d.lss,x.2.2.length<=1000∧(x.2.1=true->x.2.2=[])
end Go.Vd
namespace Go.Vd
open Go.Proofs
def dc298:=y0 f298 [] []
def fn298:Fn Qc 298 9 dc298 [.t 4]:=Am func298
def dc194:=y0 f194 [] []
def fn194:Fn Qc 194 24 dc194 [.t 2]:=Am func194
def dc193:=y0 f193 [] []
def fn193:Fn Qc 193 6 dc193 [.t 2]:=Am func193
def dc318:=y0 f318 [] []
def fn318:Fn Qc 318 16 dc318 [.t 2]:=Am func318
def dc319:=y0 f319 [] []
def fn319:Fn Qc 319 4 dc319 [.t 2]:=Am func319
def dc320:=y0 f320 [] []
def fn320:Fn Qc 320 8 dc320 [.t 2]:=Am func320
end Go.Vd
namespace Go.Vd
open Go.Proofs Go.RowKit
def plV:D->Value
 | .str s=> .string ⟨s.toArray⟩
 | .int k n=> .int k n
 | .bool b=> .bool b
 |_=>undef
def rep_pl{w:World}{g:Gh}{d:D}{v:Value}(h:Rep w g d v)(hp:d.plain=true):v=plV d:=by
 cases h with
 |bool b=>rfl
 |int k n=>rfl
 |str s=>rfl
 |_=>cases hp
def pure_ok {P:Program} {f:FuncId} {F:List D→Option D} (ent:∃fn,P.funcs[f]?=some fn∧fn.body.isSome=true∧(fn.name== "runtime.NumGoroutine")=false)
  (h:∀ds r,F ds=some r->(∀d∈ds,d.plain=true)∧∃v,(∀w g,Rep w g r v)∧∀w:World,Calls P f (ds.map plV).toArray w λe w'=>e= .returned v∧Below w.heap.size w w'):(Ac F).ok P f:=by
 refine⟨ent,λds m m' fr _=>rfl,?_⟩;intro B w0 w m g fr ds vs r u hi hfresh hl hrep hex;simp only[Ac]at hex;split at hex
 ·rename_i hcalm;rw[Zd]at hex;obtain⟨r',hr,hex⟩:=hex;simp only[Q9]at hex;obtain⟨rfl,rfl⟩:=hex;obtain⟨hp,v,hv,hc⟩:=h _ _ hr;have hvs:vs=(ds.map D.un).map plV:=by
   apply List.ext_getElem?;intro j;by_cases hj:j<vs.length
   ·have hj2:j<ds.length:=by omega
    have e:=(hrep j _ _ (Qg hj2) (Qg hj)).un;have hd:(ds.map D.un)[j]?=some ds[j].un:=by rw[List.getElem?_map,Qg hj2];rfl
    rw[Qg hj,List.getElem?_map,hd,rep_pl e (hp _ (List.mem_of_getElem? hd))];rfl
   ·rw[Zh (by omega),Zh (by simp;omega)]
  subst hvs;refine(hc w).mono ?_;rintro ev w' ⟨rfl,hb⟩;exact⟨_,g.over w w',rfl,hi.over hb,Ext.over hi.gz hb,hv _ _,λi hf _=>hf⟩
 ·cases hex
def IX:List D->Option D
 |[.str s,.str [c]]=>some (.int .i64 (Lib.indexByte s c))
 |_=>none
def ko288:(Ac IX).ok Qc 288:=pure_ok ⟨_,func288,by kernel_rfl,by kernel_rfl⟩ λds r h=>by
 unfold IX at h;split at h
 ·rename_i s c;simp only[Qr]at h;subst h;refine⟨λd hd=>?_,_,λw g=> .int _ _,λw=>?_⟩
  ·simp only[Za,Zb,or_false]at hd;rcases hd with rfl|rfl<;>rfl
  ·refine(Go.Proofs.Any.strings_Index_one (P:=Qc) (ρ:=lays146_ren) {lays146 with} ⟨s.toArray⟩ c w).mono ?_;rintro e w' ⟨rfl,rfl⟩;exact⟨rfl,Below.refl _ _⟩
 ·cases h
def ko356:(Ac IX).ok Qc 356:=pure_ok ⟨_,func356,by kernel_rfl,by kernel_rfl⟩ λds r h=>by
 unfold IX at h;split at h
 ·rename_i s c;simp only[Qr]at h;subst h;refine⟨λd hd=>?_,_,λw g=> .int _ _,λw=>?_⟩
  ·simp only[Za,Zb,or_false]at hd;rcases hd with rfl|rfl<;>rfl
  ·refine(Go.Proofs.Any.stringslite_Index_one (P:=Qc) (ρ:=lays146_ren) {lays146 with} ⟨s.toArray⟩ c w).mono ?_;rintro e w' ⟨rfl,rfl⟩;exact⟨rfl,Below.refl _ _⟩
 ·cases h
def ix_has:∀(s:Bs)(c:UInt8),decide (0<=Lib.indexByte s c)=s.any (·==c)
 |[],c=>rfl
 |b::l,c=>by
  have ih:=ix_has l c;unfold Lib.indexByte;cases hb:b==c with
  |true=>simp[hb]
  |false=>
   simp only[List.any_cons,hb,Zl,←ih];rw[if_neg QF];cases h1:Lib.indexByte l c==-1 with
   |true=>rw[if_pos rfl];have:=beq_iff_eq.1 h1;rw[this]
   |false=>
    rw[if_neg QF];have hne:Lib.indexByte l c≠-1:=by intro e;rw[e]at h1;simp at h1
    have hge:-1<=Lib.indexByte l c:=by
     clear ih hb h1 hne;induction l with
     |nil=>simp[Lib.indexByte]
     |cons x r ih=>unfold Lib.indexByte;split<;>first|omega|(split<;>omega)
    congr 1;exact propext (by omega)
def hasB1(s:Bs)(c:UInt8):Bool:=s.any (·==c)
def nmB(s:Bs):Bool:=decide (s≠[])&&(decide (s≠[45])&&(decide (s.length<=64)&&(!hasB1 s 32&&!hasB1 s 44)))
def S298:Summs:=AF [(288,Ac IX)]
def R298:List D->Option D:=RF S298 dc298 [.t 4] 9
def ko298:(Ac R298).ok Qc 298:=AH fn298 (Ab ko288 Ad)
def R298_eq(s:Bs)(c:UInt8):R298 [.str s,.str [c]]=some (.bool (hasB1 s c)):=by
 refine AG (Qb rfl) ?_;unfold dc298;have h288:IX [.str s,.str [c]]=some (.int .i64 (Lib.indexByte s c)):=rfl;have e:=ix_has s c;simp only[↓go1,gB2,go5,simprocAttr,An S298 288,h288];rw[e]
 all_goals first|rfl|exact⟨rfl,rfl⟩|simp[*]
def S194:Summs:=AF [(298,Ac R298)]
def R194:List D->Option D:=RF S194 dc194 [.t 2] 24
def ko194:(Ac R194).ok Qc 194:=AH fn194 (Ab ko298 Ad)
def R194_eq(s:Bs):R194 [.str s]=some (.bool (nmB s)):=by
 refine AG (Qb rfl) ?_;unfold dc194;have h298:=R298_eq s;unfold nmB;by_cases c1:s=[]
 ·have c1':=eq_true c1;simp only[↓go1,gB2,go5,simprocAttr,c1']
  all_goals first|rfl|exact⟨rfl,rfl⟩|simp[*]
 have c1':=eq_false c1;by_cases c2:s=[45]
 ·have c2':=eq_true c2;simp only[↓go1,gB2,go5,simprocAttr,c1',c2']
  all_goals first|rfl|exact⟨rfl,rfl⟩|simp[*]
 have c2':=eq_false c2;by_cases c3:s.length<=64
 ·have c3':((s.length:Int)<=64)=True:=eq_true (by omega);cases c4:hasB1 s 32 with
  |true=>
   simp only[↓go1,gB2,go5,simprocAttr,c1',c2',c3',c4,An S194 298,h298]
   all_goals first|rfl|exact⟨rfl,rfl⟩|simp[*]
  |false=>
   simp only[↓go1,gB2,go5,simprocAttr,c1',c2',c3',c4,An S194 298,h298]
   all_goals first|rfl|exact⟨rfl,rfl⟩|simp[*]
 ·have c3':((s.length:Int)<=64)=False:=eq_false (by omega);simp only[↓go1,gB2,go5,simprocAttr,c1',c2',c3']
  all_goals first|rfl|exact⟨rfl,rfl⟩|simp[*]
def clo193:(cloS λc x=>match x with| .str s=>some (.bool (!nmB s))|_=>none).ok Qc 193:=by
 obtain⟨S,hS,hl⟩:=A6 (Ab ko194 Ad);have s194:=hl 194 _ rfl;clear hl;refine clo_ok (S:=S) hS fn193 (λx caps m fr c d hcap hF hfr hl=>⟨by omega,?_⟩);split at hF
 ·rename_i s;simp only[Qr]at hF;subst hF;have h194:=R194_eq s;unfold dc193;simp only[↓go1,gB2,go5,simprocAttr,Aa s194,h194]
  try exact λi o y h=>h
 ·cases hF
def KN:D->D->Option D:=λc x=>match x with| .str s=>some (.bool (!nmB s))|_=>none
def idx297n:(E8 193 none KN).ok Qc 297:=idx_ok (by omega) fn297 rfl clo193
def cn192n:(cnS 193 none KN).ok Qc 192:=cn_ok (by omega) fn192 idx297n
def cn192n_ex{l:List Bs}{nl:Bool}{t:Id}(hl:l.length<=1000000)(m:Mem)(fr:Id):
  (cnS 193 none KN).ex [.slice nl t (Ay l),.fn 193 []] m fr=some (.bool (l.any λs=>!nmB s),[]):=by
 have e:(Ay l).map (KN .junk)=(l.map λs=>!nmB s).map λb=>some (.bool b):=by
  simp only[Ay,Zc];exact QQ λr _=>rfl
 have hel:(Ay l).all (elB none)=true:=by
  rw[QE];intro x hx;obtain⟨r,_,rfl⟩:=QJ.1 hx;rfl
 simp only[cnS,A1,hl,hel,and_self,if_true,FE,Qn,e,Dp,Qw];simp only[Zm];rfl
def S292:Summs:=AF []
def R292:List D->Option D:=RF S292 dc292 [.t 4] 26
def ko292:(Ac R292).ok Qc 292:=AH fn292 Ad
def R292_eq{n1 n2:Bool}{l:List Bs}(hl:l.length<=100000):R292 [.slice n1 [] (Ay l),.slice n2 [] (Ay l)]=some (.bool true):=by
 refine AG (Qb rfl) ?_;unfold dc292;simp only[↓go1,go2,go4,go5,simprocAttr,A1];refine Bm (n:=l.length) (I:=λj st=>st.s 0= .slice n1 [] (Ay l)∧st.s 1= .slice n2 [] (Ay l)∧st.s 12= .int .i64 l.length∧st.s 13= .int .i64 (j:Int)) (λj hj ih st g hI=>?_) (λst g hI=>?_) 0 (Qv _) _ _ ⟨rfl,rfl,rfl,rfl⟩
 ·obtain⟨st_s,st_m,st_c⟩:=st;obtain⟨h0,h1,h12,h13⟩:=hI;simp only at h0 h1 h12 h13;refine Ae dc292l0.eq_1 ?_;have hlt:((j:Int)<l.length):=by omega
  have hj0:=nJ (j:=j);have hw:=wJ (j:=j) (by omega);have hat:=D7 hj;simp only[↓go1,gB2,go5,simprocAttr,h0,h1,h12,h13,hlt,hj0,Qf,hat]
  (refine Ao.intro (Aj ?_) ?_;first|rfl|simp[A2,AL,rds,Ai,Ac])
  simp only[↓go1,go2,go5,simprocAttr,h13,hw];exact ih _ _ ⟨h0,h1,h12,rfl⟩
 ·obtain⟨h0,h1,h12,h13⟩:=hI;refine Ae dc292l0.eq_1 ?_;simp only[↓go1,gB2,go5,simprocAttr,h12,h13,Qt]
  all_goals first|rfl|exact⟨rfl,rfl⟩|simp[*]
def S359:Summs:=AF []
def R359:List D->Option D:=RF S359 dc359 [.t 4] 26
def ko359:(Ac R359).ok Qc 359:=AH fn359 Ad
def R359_eq{n1 n2:Bool}{l:List Rw}(hl:l.length<=100000):R359 [.slice n1 [] (A8 l),.slice n2 [] (A8 l)]=some (.bool true):=by
 refine AG (Qb rfl) ?_;unfold dc359;simp only[↓go1,go2,go4,go5,simprocAttr,AV];refine Bm (n:=l.length) (I:=λj st=>st.s 0= .slice n1 [] (A8 l)∧st.s 1= .slice n2 [] (A8 l)∧st.s 12= .int .i64 l.length∧st.s 13= .int .i64 (j:Int)) (λj hj ih st g hI=>?_) (λst g hI=>?_) 0 (Qv _) _ _ ⟨rfl,rfl,rfl,rfl⟩
 ·obtain⟨st_s,st_m,st_c⟩:=st;obtain⟨h0,h1,h12,h13⟩:=hI;simp only at h0 h1 h12 h13;refine Ae dc359l0.eq_1 ?_;have hlt:((j:Int)<l.length):=by omega
  have hj0:=nJ (j:=j);have hw:=wJ (j:=j) (by omega);have hat:=Fe hj;have hle:Bl [.int .i64 l[j].1,.bool l[j].2.1,.bool l[j].2.2] [.int .i64 l[j].1,.bool l[j].2.1,.bool l[j].2.2] [(0,0),(1,1),(1,2)]=some true:=by simp[Bl,leafEq]
  simp only[Qw,↓go1,gB2,go5,simprocAttr,h0,h1,h12,h13,hlt,hj0,Qf,hat,hle]
  (refine Ao.intro (Aj ?_) ?_;first|rfl|simp[A2,AL,rds,Ai,Ac])
  simp only[↓go1,go2,go5,simprocAttr,h13,hw];exact ih _ _ ⟨h0,h1,h12,rfl⟩
 ·obtain⟨h0,h1,h12,h13⟩:=hI;refine Ae dc359l0.eq_1 ?_;simp only[↓go1,gB2,go5,simprocAttr,h12,h13,Qt]
  all_goals first|rfl|exact⟨rfl,rfl⟩|simp[*]
def S293:Summs:=AF [(359,Ac R359)]
def R293:List D->Option D:=RF S293 dc293 [.t 4] 31
def ko293:(Ac R293).ok Qc 293:=AH fn293 (Ab ko359 Ad)
def R293_eq(s:Sc)(hl:s.rs.length<=100000):R293 [.agg (scC s),.agg (scC s)]=some (.bool true):=by
 refine AG (Qb rfl) ?_;unfold dc293;have h359:=R359_eq (n1:=s.nl) (n2:=s.nl) hl;unfold scC;simp only[↓go1,gB2,go5,simprocAttr,An S293 359,h359]
 all_goals first|rfl|exact⟨rfl,rfl⟩|simp[*]
def F347:List D->Option D:=FX (λs:Bs=>[.str s]) (λ_=>True) (λs=> .str (if s=[]then [45]else s))
def F347_eq(s:Bs):F347 [.str s]=some (.str (if s=[]then [45]else s)):=Bq (mk:=λs:Bs=>[.str s]) (λa b h=>by simpa using h) trivial
theorem ok347 : (Ac F347).ok Qc 347 := by
  refine Bx (S := fun _ => none) AK fn347 (fun _ => by simp) (fun s _ => ?_)
  unfold dc347
  cases s with
  | nil => simp only [↓go1, gB2, reduceIte, Qa, Qd, and_self]
           all_goals first | rfl | exact ⟨rfl, rfl⟩
  | cons x r =>
    have he : ((x :: r) == ([] : Bs)) = false := rfl
    simp only [↓go1, gB2, reduceIte, Qa, Qd, reduceCtorEq]
    all_goals first | rfl | exact ⟨rfl, rfl⟩
def BZ(n:Nat):Bs:=if n<10 then [E9 n]else if n<100 then [E9 (n / 10),E9 (n % 10)]else [E9 (n / 100),E9 (n / 10 % 10),E9 (n % 10)]
def F346:List D->Option D:=FX (λn:Nat=>[.int .i64 (n:Int)]) (λn=>n<1000) (λn=> .str (BZ n))
def F346_eq{n:Nat}(h:n<1000):F346 [.int .i64 (n:Int)]=some (.str (BZ n)):=Bq (mk:=λn:Nat=>[.int .i64 (n:Int)]) (λa b h=>by simp only[Qh,D.int.injEq,true_and,and_true]at h;omega) h
def tmod10(n:Nat):(n:Int).tmod 10=((n % 10:Nat):Int):=by rw[Q6 (by omega)];omega
def tdiv10(n:Nat)(h:n<1000):IntKind.i64.wrap ((n:Int).tdiv 10)=((n / 10:Nat):Int):=by
 have e:(n:Int).tdiv 10=((n / 10:Nat):Int):=by rw[Q7 (by omega)];omega
 rw[e];exact w64 (by omega) (by omega)
def ok346:(Ac F346).ok Qc 346:=by
 refine Bx (S:=λ_=>none) AK fn346 (λ_=>by simp) (λn hn=>?_);have t0:=hexTab (n % 10) (by omega);have t1:=hexTab (n / 10 % 10) (by omega);have t2:=hexTab (n / 10 / 10 % 10) (by omega);have m0:=tmod10 n;have m1:=tmod10 (n / 10);have m2:=tmod10 (n / 10 / 10);have d0:=tdiv10 n hn;have d1:=tdiv10 (n / 10) (by omega);have d2:=tdiv10 (n / 10 / 10) (by omega);have z0:(0:Int)<=((n % 10:Nat):Int):=by omega
 have z1:(0:Int)<=((n / 10 % 10:Nat):Int):=by omega
 have z2:(0:Int)<=((n / 10 / 10 % 10:Nat):Int):=by omega
 have ten:((10:Int)=0)=False:=by simp
 unfold dc346 BZ;by_cases h1:n<10
 ·have g:¬((0:Int)<((n / 10:Nat):Int)):=by omega
  have e:n % 10=n:=by omega
  simp only[↓go1,gB2,reduceIte,Qa,Qd,m0,z0,t0,d0,ten,ne_eq,Qf,gB3,Qs];refine Ae dc346l0.eq_1 ?_;simp only[↓go1,gB2,reduceIte,Qa,Qd,g,h1];rw[e,UInt8.ofNat_toNat]
  all_goals first|rfl|exact⟨rfl,rfl⟩
 ·have g:((0:Int)<((n / 10:Nat):Int)):=by omega
  by_cases h2:n<100
  ·have g2:¬((0:Int)<((n / 10 / 10:Nat):Int)):=by omega
   have e:n / 10 % 10=n / 10:=by omega
   rw[e]at t1 m1 z1;simp only[↓go1,gB2,reduceIte,Qa,Qd,m0,z0,t0,d0,ten,ne_eq,Qf,gB3,Qs];refine Ae dc346l0.eq_1 ?_;simp only[↓go1,gB2,reduceIte,Qa,Qd,g,m1,z1,t1,d1,ten,ne_eq,Qf,Qm,gB3,Qs,Qi];refine Ae dc346l0.eq_1 ?_;simp only[↓go1,gB2,reduceIte,Qa,Qd,g2,h1,h2,UInt8.ofNat_toNat,QN,Zf]
   all_goals first|rfl|exact⟨rfl,rfl⟩
  ·have g2:((0:Int)<((n / 10 / 10:Nat):Int)):=by omega
   have g3:¬((0:Int)<((n / 10 / 10 / 10:Nat):Int)):=by omega
   have e:n / 10 / 10 % 10=n / 100:=by omega
   rw[e]at t2 m2 z2;simp only[↓go1,gB2,reduceIte,Qa,Qd,m0,z0,t0,d0,ten,ne_eq,Qf,gB3,Qs];refine Ae dc346l0.eq_1 ?_;simp only[↓go1,gB2,reduceIte,Qa,Qd,g,m1,z1,t1,d1,ten,ne_eq,Qf,Qm,gB3,Qs,Qi];refine Ae dc346l0.eq_1 ?_;simp only[↓go1,gB2,reduceIte,Qa,Qd,g2,m2,z2,t2,d2,ten,ne_eq,Qf,Qo,Qm,gB3,Qs,Qi];refine Ae dc346l0.eq_1 ?_;simp only[↓go1,gB2,reduceIte,Qa,Qd,g3,h1,h2,UInt8.ofNat_toNat,QN,Zf]
   all_goals first|rfl|exact⟨rfl,rfl⟩
def F317:List D->Option D:=FX (λs:Bs=>[.str s]) (λs=>s.length<=1000000) (λs=> .str (Fa s))
def F317_eq{s:Bs}(h:s.length<=1000000):F317 [.str s]=some (.str (Fa s)):=Bq (mk:=λs:Bs=>[.str s]) (λa b h=>by simpa using h) h
def loop317{S:Summs}{l:Bs}{Q:Ex->St->Prop}(hb:l.length<=1000000)
  (hexit:∀st t,st.s 3= .slice false t (Au (Fa l))->Q (.exit 0) st):
  ∀(n k:Nat)(t:Id) st g,n=l.length-k->k<=l.length->st.s 13= .int .i64 (k:Int)->st.s 12= .int .i64 (l.length:Int)->st.s 11= .slice false [] (Au l)->st.s 3= .slice false t (Au (Fa (l.take k)))->Gw st.m st.c 5 false t->
   A4 S [] dc317l0 Q st g:=by
 intro n;induction n with
 |zero=>
  intro k t st g hn hk h13 h12 h11 h3 hg;refine Ae dc317l0.eq_1 ?_;have:¬((k:Int)<l.length):=by omega
  simp only[↓go1,go2,go4,reduceIte,Qd,h13,h12,this];refine hexit _ t ?_;rw[Qx (by omega)]at h3;simp only[↓go1,reduceIte,Qa,h3]
 |succ n ih=>
  intro k t st g hn hk h13 h12 h11 h3 hg;refine Ae dc317l0.eq_1 ?_;have hlt:((k:Int)<l.length):=by omega
  have hk0:(0:Int)<=(k:Int):=by omega
  have hkl:k<l.length:=by omega
  have hx:(Au l)[(k:Int).toNat]?=some (.int .u8 (l[k].toNat:Int)):=by simp[Au,hkl]
  have hw:IntKind.i64.wrap ((k:Int)+1)=(k:Int)+1:=IntWalk.i64_in _ ⟨by omega,by omega⟩;have hc:=l[k].toNat_lt;have htk:l.take (k+1)=l.take k++[l[k]]:=by rw[QX,Qg hkl];rfl
  have hlen:(l.take k).length=k:=by simp;omega
  have h04:(0:Int)<=4:=by decide
  have a1:=shr4 l[k].toNat (by omega);have a2:=and15 l[k].toNat (by omega);have p1:(0:Int)<=((l[k].toNat / 16:Nat):Int):=by omega
  have p2:(0:Int)<=((l[k].toNat % 16:Nat):Int):=by omega
  have q1:(((l[k].toNat / 16:Nat):Int)).toNat=l[k].toNat / 16:=Qf _;have q2:(((l[k].toNat % 16:Nat):Int)).toNat=l[k].toNat % 16:=Qf _;have t1:=hexTab (l[k].toNat / 16) (by omega);have t2:=hexTab (l[k].toNat % 16) (by omega);simp only[↓go1,gB2,reduceIte,Qa,Qd,gB3,h13,h12,h11,h3,hlt,hk0,hx,h04,a1,a2,p1,p2,q1,q2,t1,t2,false_and,reduceCtorEq];refine Ao.intro ⟨by rw[Bu,Ec,hlen];omega,rfl,hg.grow (by omega)⟩ ?_;simp only[↓go1,gB2,reduceIte,Qa,Qd];refine Ao.intro (Aj rfl) ?_;simp only[↓go1,gB2,reduceIte,Qa,Qd,h13,hw];refine ih (k+1) [st.c+1+3+8] _ _ (by omega) (by omega) rfl h12 h11 ?_ ?_
  ·rw[htk,hexB_snoc,CK];rfl
  ·exact Gw.new (by simp only;omega)
def ok317:(Ac F317).ok Qc 317:=by
 refine Bx (S:=λ_=>none) AK fn317 (λ_=>by simp) (λs hb=>?_);have hw:IntKind.i64.wrap (2*(s.length:Int))=2*(s.length:Int):=IntWalk.i64_in _ ⟨by omega,by omega⟩;have b1:(0:Int)<=0:=by decide
 have b2:(0:Int)<=2*(s.length:Int):=by omega
 have b3:2*(s.length:Int)*2<=140737488355328:=by omega
 have e0:(0:Int).toNat=0:=rfl;unfold dc317;simp only[↓go1,gB2,reduceIte,Qa,Qd,hw,b1,b2];refine Ao.intro (by omega) ?_;simp only[↓go1,go2,reduceIte,Qa,Qd,e0,List.replicate_zero,Bu];refine loop317 (l:=s) hb (λst t' h1=>?_) s.length 0 [4] _ _ rfl (by omega) rfl rfl rfl rfl (.inr ⟨4,rfl,by simp only;omega,by simp[Bf]⟩);simp only[↓go1,gB2,reduceIte,Qa,Qd,h1,Cr]
 all_goals first|rfl|exact⟨rfl,rfl⟩
end Go.Vd
namespace Go.Proofs
open Go.Shelf
def lays156_ren:Go.Shelf.Ren:=⟨λ|156=>221|165=>226|166=>227|169=>229|240=>324|241=>325|276=>370|277=>371|n=>n,λ|31=>28|9=>9|3=>3|4=>4|0=>0|20=>20|72=>322|76=>326|70=>320|37=>264|75=>325|127=>402|164=>439|5=>5|80=>216|n=>n,λ|n=>n⟩
def lays156:Go.Proofs.Lays.n156 Qc lays156_ren:={
 mixed:=by kernel_rfl
 f156:=func221.trans (congrArg some (by kernel_rfl))
 f165:=func226.trans (congrArg some (by kernel_rfl))
 f166:=func227.trans (congrArg some (by kernel_rfl))
 f169:=func229.trans (congrArg some (by kernel_rfl))
 f240:=func324.trans (congrArg some (by kernel_rfl))
 f241:=func325.trans (congrArg some (by kernel_rfl))
 f276:=func370.trans (congrArg some (by kernel_rfl))
 f277:=func371.trans (congrArg some (by kernel_rfl))
 t0:=underlying0
 a0:=isAgg0
 z0:=sizeOf0
 v0:=zeroValue0
 t3:=underlying3
 a3:=isAgg3
 z3:=sizeOf3
 v3:=zeroValue3
 t4:=underlying4
 a4:=isAgg4
 z4:=sizeOf4
 v4:=zeroValue4
 t9:=underlying9
 a9:=isAgg9
 z9:=sizeOf9
 v9:=zeroValue9
 t20:=underlying20
 a20:=isAgg20
 z20:=sizeOf20
 v20:=zeroValue20
 t31:=underlying28
 a31:=isAgg28
 z31:=sizeOf28
 v31:=zeroValue28
 t37:=underlying264
 a37:=isAgg264
 z37:=sizeOf264
 v37:=zeroValue264
 t70:=underlying320
 a70:=isAgg320
 z70:=sizeOf320
 v70:=zeroValue320
 t72:=underlying322
 a72:=isAgg322
 z72:=sizeOf322
 v72:=zeroValue322
 t75:=underlying325
 a75:=isAgg325
 z75:=sizeOf325
 v75:=zeroValue325
 t76:=underlying326
 a76:=isAgg326
 z76:=sizeOf326
 v76:=zeroValue326
 t127:=underlying402
 a127:=isAgg402
 z127:=sizeOf402
 v127:=zeroValue402
 t164:=underlying439
 a164:=isAgg439
 z164:=sizeOf439
 v164:=zeroValue439}
def Builder_Extra_156:Builder.Extra Qc lays156_ren:={
 sizeBuilder:=by kernel_rfl
 liesBuilder:=by kernel_rfl
 t5:=underlying5
 a5:=isAgg5
 z5:=sizeOf5
 v5:=zeroValue5
 infoByte:=by kernel_rfl
 cellsByte:=by kernel_rfl
 sizeByte:=by kernel_rfl
 neB5:=by decide}
end Go.Proofs
namespace Go.Vd
open Go.Proofs Go.RowKit
inductive Ry where
 |fail (e:Int)
 |done
 |number (n:Int)
 |found (n:Int) (d:Bs)
 |about (s:Sc)
 |names (nl:Bool) (l:List Bs)
 |state (b:Bool)
def z0:List D:=[.int .i64 0,.bool false,.int .i64 0,.slice true [] []]
def ryC:Ry->List D
 | .fail e=>[.int .u8 0,.int .i64 e,.int .i64 0,.str [],.slice true [] [],.int .i64 0,.bool false,.int .i64 0,.slice true [] [],.bool false]
 | .done=>[.int .u8 1,.int .i64 0,.int .i64 0,.str [],.slice true [] [],.int .i64 0,.bool false,.int .i64 0,.slice true [] [],.bool false]
 | .number n=>[.int .u8 2,.int .i64 0,.int .i64 n,.str [],.slice true [] [],.int .i64 0,.bool false,.int .i64 0,.slice true [] [],.bool false]
 | .found n d=>[.int .u8 3,.int .i64 0,.int .i64 n,.str d,.slice true [] [],.int .i64 0,.bool false,.int .i64 0,.slice true [] [],.bool false]
 | .about s=>[.int .u8 4,.int .i64 0,.int .i64 0,.str [],.slice true [] [],.int .i64 s.mx,.bool s.cas,.int .i64 s.la,.slice s.nl [] (A8 s.rs),.bool false]
 | .names nl l=>[.int .u8 5,.int .i64 0,.int .i64 0,.str [],.slice nl [] (Ay l),.int .i64 0,.bool false,.int .i64 0,.slice true [] [],.bool false]
 | .state b=>[.int .u8 6,.int .i64 0,.int .i64 0,.str [],.slice true [] [],.int .i64 0,.bool false,.int .i64 0,.slice true [] [],.bool b]
def ryOk:Ry->Prop
 | .about s=>s.rs.length<=1000
 | .names _ l=>l.length<=1000
 |_=>True
def ryE:Ry->Int
 | .fail e=>if 1<=e∧e<=99 then 0 else 2
 | .number n=>if 0<=n∧n<=999 then 0 else 2
 | .found n d=>if 0<=n∧n<=999∧d.length<=400 then 0 else 2
 | .about s=>if DJ s 6=true then 2 else 0
 | .names _ l=>if l.length<=64∧(l.any λs=>!nmB s)=false then 0 else 2
 |_=>0
def S189:Summs:=AF [(292,Ac R292),(293,Ac R293)]
def R189:List D->Option D:=RF S189 dc189 [.t 4] 52
def ko189:(Ac R189).ok Qc 189:=AH fn189 (Ab ko292 (Ab ko293 Ad))
def GI(k e n:Int)(da:Bs)(nl:Bool)(l:List Bs)(s:Sc)(fl:Bool)(hl:l.length<=1000)(hs:s.rs.length<=1000):R189 [.agg [.int .u8 k,.int .i64 e,.int .i64 n,.str da,.slice nl [] (Ay l),.int .i64 s.mx,.bool s.cas,.int .i64 s.la,.slice s.nl [] (A8 s.rs),.bool fl],.agg [.int .u8 k,.int .i64 e,.int .i64 n,.str da,.slice nl [] (Ay l),.int .i64 s.mx,.bool s.cas,.int .i64 s.la,.slice s.nl [] (A8 s.rs),.bool fl]]=some (.bool true):=by
 refine AG (Qb rfl) ?_;have s293:S189 293=some (Ac R293):=rfl;unfold dc189;have h292:=R292_eq (n1:=nl) (n2:=nl) (l:=l) (by omega);have h293:=R293_eq s (by omega);unfold scC at h293;simp only[gB1,↓go1,go5,simprocAttr,An S189 292,h292,Aa s293,h293]
 all_goals first|rfl|exact⟨rfl,rfl⟩|simp[*]
def same_ry(y:Ry)(h:ryOk y):R189 [.agg (ryC y),.agg (ryC y)]=some (.bool true):=by
 have e0:Ay []=[]:=rfl;have e1:A8 []=[]:=rfl;cases y with
 |fail e=>exact GI 0 e 0 [] true [] sc0 false (by simp) (by simp[sc0])
 |done=>exact GI 1 0 0 [] true [] sc0 false (by simp) (by simp[sc0])
 |number n=>exact GI 2 0 n [] true [] sc0 false (by simp) (by simp[sc0])
 |found n d=>exact GI 3 0 n d true [] sc0 false (by simp) (by simp[sc0])
 |about s=>exact GI 4 0 0 [] true [] s false (by simp) h
 |names nl l=>exact GI 5 0 0 [] nl l sc0 false h (by simp[sc0])
 |state b=>exact GI 6 0 0 [] true [] sc0 b (by simp) (by simp[sc0])
def S190:Summs:=AF []
def R190:List D->Option D:=RF S190 dc190 [.cell (some 10) 2] 52
def ko190:(Ac R190).ok Qc 190:=AH fn190 Ad
def R190_eq(y:Ry):R190 [.agg (ryC y)]=some (.agg (ryC y)):=by
 refine AG (Qb rfl) ?_;unfold dc190;cases y<;>unfold ryC
 all_goals
  simp only[gB1,↓go1,go5,simprocAttr]
  all_goals first|rfl|exact⟨rfl,rfl⟩|simp[*]
def S92:Summs:=AF [(190,Ac R190),(189,Ac R189),(191,Ac GH),(192,cnS 193 none KN)]
def R92:List D->Option D:=RF S92 dc92 [.t 2] 73
def ko92:(Ac R92).ok Qc 92:=AH fn92 (Ab ko190 (Ab ko189 (Ab ko191 (Ab cn192n Ad))))
def R92_eq(y:Ry)(h:ryOk y):R92 [.agg (ryC y)]=some (.int .i64 (ryE y)):=by
 refine AG (Qb rfl) ?_;have s189:S92 189=some (Ac R189):=rfl;have s191:S92 191=some (Ac GH):=rfl;have s192:S92 192=some (cnS 193 none KN):=rfl;unfold dc92;have h190:=R190_eq y;have h189:=same_ry y h;cases y with
 |fail e=>
  unfold ryC ryE at *;simp only[gB1,↓go1,go5,simprocAttr,An S92 190,h190,Aa s189,h189]
  (refine Ao.intro (Aj ?_) ?_;first|rfl|simp[A2,AL,rds,Ai,Ac])
  by_cases c1:1<=e
  ·by_cases c2:e<=99
   ·simp only[↓go1,gB2,go5,simprocAttr,c1,c2]
    all_goals first|rfl|exact⟨rfl,rfl⟩|simp[*]
   ·simp only[↓go1,gB2,go5,simprocAttr,c1,c2]
    all_goals first|rfl|exact⟨rfl,rfl⟩|simp[*]
  ·simp only[↓go1,gB2,go5,simprocAttr,c1]
   all_goals first|rfl|exact⟨rfl,rfl⟩|simp[*]
 |done=>
  unfold ryC ryE at *;simp only[gB1,↓go1,go5,simprocAttr,An S92 190,h190,Aa s189,h189]
  (refine Ao.intro (Aj ?_) ?_;first|rfl|simp[A2,AL,rds,Ai,Ac])
  simp only[↓go1,gB2,go5,simprocAttr]
  all_goals first|rfl|exact⟨rfl,rfl⟩|simp[*]
 |number n=>
  unfold ryC ryE at *;simp only[gB1,↓go1,go5,simprocAttr,An S92 190,h190,Aa s189,h189]
  (refine Ao.intro (Aj ?_) ?_;first|rfl|simp[A2,AL,rds,Ai,Ac])
  by_cases c1:0<=n
  ·by_cases c2:n<=999
   ·simp only[↓go1,gB2,go5,simprocAttr,c1,c2,Ze,Int.cast_ofNat_Int]
    all_goals first|rfl|exact⟨rfl,rfl⟩|simp[*]
   ·simp only[↓go1,gB2,go5,simprocAttr,c1,c2]
    all_goals first|rfl|exact⟨rfl,rfl⟩|simp[*]
  ·simp only[↓go1,gB2,go5,simprocAttr,c1]
   all_goals first|rfl|exact⟨rfl,rfl⟩|simp[*]
 |found n d=>
  unfold ryC ryE at *;simp only[gB1,↓go1,go5,simprocAttr,An S92 190,h190,Aa s189,h189]
  (refine Ao.intro (Aj ?_) ?_;first|rfl|simp[A2,AL,rds,Ai,Ac])
  by_cases c1:0<=n
  ·by_cases c2:n<=999
   ·by_cases c3:d.length<=400
    ·have c3':((d.length:Int)<=400)=True:=eq_true (by omega);simp only[↓go1,gB2,go5,simprocAttr,c1,c2,c3']
     all_goals first|rfl|exact⟨rfl,rfl⟩|simp[*]
    ·have c3':((d.length:Int)<=400)=False:=eq_false (by omega);simp only[↓go1,gB2,go5,simprocAttr,c1,c2,c3']
     all_goals first|rfl|exact⟨rfl,rfl⟩|simp[*]
   ·simp only[↓go1,gB2,go5,simprocAttr,c1,c2]
    all_goals first|rfl|exact⟨rfl,rfl⟩|simp[*]
  ·simp only[↓go1,gB2,go5,simprocAttr,c1]
   all_goals first|rfl|exact⟨rfl,rfl⟩|simp[*]
 |about s=>
  have h191:=GG s 6 false h;unfold secE scC at h191;unfold ryC ryE at *;simp only[gB1,↓go1,go5,simprocAttr,An S92 190,h190,Aa s189,h189]
  (refine Ao.intro (Aj ?_) ?_;first|rfl|simp[A2,AL,rds,Ai,Ac])
  cases hb:DJ s 6 with
  |true=>
   rw[hb]at h191;simp only[if_true]at h191;simp only[gB1,↓go1,go5,simprocAttr,Aa s191,h191]
   all_goals first|rfl|exact⟨rfl,rfl⟩|simp[*]
  |false=>
   rw[hb]at h191;simp only[if_false,Qq]at h191;simp only[gB1,↓go1,go5,simprocAttr,Aa s191,h191]
   all_goals first|rfl|exact⟨rfl,rfl⟩|simp[*]
 |names nl l=>
  have h192:=λ(m:Mem)(fr:Id)=>cn192n_ex (l:=l) (nl:=nl) (t:=[]) (by have:l.length<=1000:=h;omega) m fr
  unfold ryC ryE at *;simp only[gB1,↓go1,go5,simprocAttr,An S92 190,h190,Aa s189,h189]
  (refine Ao.intro (Aj ?_) ?_;first|rfl|simp[A2,AL,rds,Ai,Ac])
  by_cases c1:l.length<=64
  ·have c1':((l.length:Int)<=64)=True:=eq_true (by omega);cases c2:l.any λs=>!nmB s with
   |true=>
    rw[c2]at h192;simp only[↓go1,gB2,go5,simprocAttr,c1',A1,Ah s192,h192]
    all_goals first|rfl|exact⟨rfl,rfl⟩|simp[*]
   |false=>
    rw[c2]at h192;simp only[↓go1,gB2,go5,simprocAttr,c1',A1,Ah s192,h192]
    all_goals first|rfl|exact⟨rfl,rfl⟩|simp[*]
  ·have c1':((l.length:Int)<=64)=False:=eq_false (by omega);simp only[↓go1,gB2,go5,simprocAttr,c1',A1]
   all_goals first|rfl|exact⟨rfl,rfl⟩|simp[*]
 |state b=>
  unfold ryC ryE at *;simp only[gB1,↓go1,go5,simprocAttr,An S92 190,h190,Aa s189,h189]
  (refine Ao.intro (Aj ?_) ?_;first|rfl|simp[A2,AL,rds,Ai,Ac])
  simp only[↓go1,gB2,go5,simprocAttr]
  all_goals first|rfl|exact⟨rfl,rfl⟩|simp[*]
def dgB:∀d:Fin 10,UInt8.ofNat (IntKind.u8.wrap (48+((d.val:Nat):Int))).toNat=E9 d.val:=by decide
def dgO(n:Nat):UInt8.ofNat (IntKind.u8.wrap (IntKind.i64.wrap (48+((n % 10:Nat):Int)))).toNat=E9 (n % 10):=by
 rw[w64 (by omega) (by omega)];exact dgB ⟨n % 10,by omega⟩
def un1(a:Int):BE [.int .u8 a]=some [UInt8.ofNat a.toNat]:=rfl
def Dy(n:Nat):(BZ n).length<=3:=by
 unfold BZ;split
 ·simp
 ·split<;>simp
def S316:Summs:=AF []
def R316:List D->Option D:=RF S316 dc316 [.t 2] 17
def ko316:(Ac R316).ok Qc 316:=AH fn316 Ad
def R316_eq(n:Nat)(h:n<1000):R316 [.int .i64 (n:Int)]=some (.str (BZ n)):=by
 refine AG (Qb rfl) ?_;unfold dc316;have td:∀k:Nat,k<1000->IntKind.i64.wrap ((k:Int).tdiv 10)=((k / 10:Nat):Int):=tdiv10;have t1:=td n h;have t2:=td (n / 10) (by omega);have t3:=td (n / 10 / 10) (by omega);have a0:∀c:UInt8,A_ .add (.str [c]) (.str [])=some (.str [c]):=λc=>add_s (by simp)
 have a1:∀c d:UInt8,A_ .add (.str [c]) (.str [d])=some (.str [c,d]):=λc d=>add_s (by simp)
 have a2:∀c d e:UInt8,A_ .add (.str [c]) (.str [d,e])=some (.str [c,d,e]):=λc d e=>add_s (by simp)
 have hr:∀k:Nat,A_ .rem (.int .i64 (k:Int)) (.int .i64 10)=some (.int .i64 ((k % 10:Nat):Int)):=λk=>by rw[←tmod10];rfl
 have hq:∀k:Nat,A_ .quo (.int .i64 (k:Int)) (.int .i64 10)=some (.int .i64 (IntKind.i64.wrap ((k:Int).tdiv 10))):=λk=>rfl
 unfold BZ;simp only[↓go1,go2,simprocAttr];refine Ae dc316l0.eq_1 ?_;by_cases c1:n<10
 ·have z1:(((n / 10:Nat):Int)=0)=True:=eq_true (by omega);have z2:n % 10=n:=by omega
  simp only[Qw,↓go1,gB2,go5,simprocAttr,hr,hq,t1,dgO,a0,z1];rw[z2,if_pos c1]
 ·have z1:(((n / 10:Nat):Int)=0)=False:=eq_false (by omega);simp only[Qw,↓go1,gB2,go5,simprocAttr,hr,hq,t1,dgO,a0,z1];refine Ae dc316l0.eq_1 ?_;by_cases c2:n<100
  ·have z2:(((n / 10 / 10:Nat):Int)=0)=True:=eq_true (by omega);have z3:n / 10 % 10=n / 10:=by omega
   simp only[Qw,↓go1,gB2,go5,simprocAttr,hr,hq,t2,dgO,a1,z2];rw[z3,if_neg c1,if_pos c2]
  ·have z2:(((n / 10 / 10:Nat):Int)=0)=False:=eq_false (by omega);simp only[Qw,↓go1,gB2,go5,simprocAttr,hr,hq,t2,dgO,a1,z2];refine Ae dc316l0.eq_1 ?_;have z4:(((n / 10 / 10 / 10:Nat):Int)=0)=True:=eq_true (by omega);have z5:n / 10 / 10 % 10=n / 100:=by omega
   simp only[Qw,↓go1,gB2,go5,simprocAttr,hr,hq,t3,dgO,a2,z4];rw[z5,if_neg c1,if_neg c2]
def rowW1(x:Rw):Bs:=BZ x.1.toNat++(if x.2.1=true then [33]else [])++(if x.2.2=true then [35]else [])
def S318:Summs:=AF [(316,Ac R316)]
def R318:List D->Option D:=RF S318 dc318 [.t 2] 16
def ko318:(Ac R318).ok Qc 318:=AH fn318 (Ab ko316 Ad)
def R318_eq(x:Rw)(h:0<=x.1∧x.1<1000):R318 [.agg [.int .i64 x.1,.bool x.2.1,.bool x.2.2]]=some (.str (rowW1 x)):=by
 refine AG (Qb rfl) ?_;unfold dc318;have h316:=R316_eq x.1.toNat (by omega);rw[Qu h.1]at h316;have hl:=Dy x.1.toNat;unfold rowW1;generalize BZ x.1.toNat=s at *;have a1:∀c:UInt8,A_ .add (.str s) (.str [c])=some (.str (s++[c])):=λc=>add_s (by simp;omega)
 have a2:∀c d:UInt8,A_ .add (.str (s++[c])) (.str [d])=some (.str (s++[c]++[d])):=λc d=>add_s (by simp;omega)
 obtain⟨n,g,d⟩:=x;simp only at *;cases g<;>cases d
 all_goals
  simp only[↓go1,gB2,go5,simprocAttr,An S318 316,h316,a1,a2]
  all_goals first|rfl|exact⟨rfl,rfl⟩|simp[*]
def S319:Summs:=AF []
def R319:List D->Option D:=RF S319 dc319 [.t 2] 4
def ko319:(Ac R319).ok Qc 319:=AH fn319 Ad
def R319_eq(b:Bool):R319 [.bool b]=some (.str [if b=true then 49 else 48]):=by
 refine AG (Qb rfl) ?_;unfold dc319;cases b
 all_goals
  simp only[↓go1,go2,go3,go5,simprocAttr]
  all_goals first|rfl|exact⟨rfl,rfl⟩|simp[*]
def Dj(l:List Bs):Bs:=if l=[]then [45]else Lib.join l [44]
def ko221:(Ac joinF).ok Qc 221:=joinF_ok lays156 Builder_Extra_156 ⟨_,func221,by kernel_rfl,by kernel_rfl⟩
def joinW_eq{l:List Bs}{s:Bs}(h:l≠[]∧l.length<=1000∧CG l<=1000000∧s.length<=1000∧(Lib.join l s).length<=10000000):joinF [.slice false [] (Ay l),.str s]=some (.str (Lib.join l s)):=Bq (mk:=mkJ) (a:=(l,s)) mkJ_inj h
def S320:Summs:=AF [(221,Ac joinF)]
def R320:List D->Option D:=RF S320 dc320 [.t 2] 8
def ko320:(Ac R320).ok Qc 320:=AH fn320 (Ab ko221 Ad)
def R320_eq(nl:Bool)(l:List Bs)(hn:nl=true->l=[])(h:l.length<=1000∧CG l<=1000000∧(Lib.join l [44]).length<=10000000):R320 [.slice nl [] (Ay l)]=some (.str (Dj l)):=by
 refine AG (Qb rfl) ?_;unfold dc320;unfold Dj;by_cases c:l=[]
 ·have c':((l.length:Int)=0)=True:=eq_true (by rw[c];rfl);simp only[↓go1,gB2,go5,simprocAttr,c',A1];simp[c]
 ·have c':((l.length:Int)=0)=False:=eq_false (by
   intro e;exact c (QA.1 (by omega)))
  have hnl:nl=false:=by
   cases nl with
   |true=>exact absurd (hn rfl) c
   |false=>rfl
  subst hnl;have h221:=joinW_eq (l:=l) (s:=[44]) ⟨c,h.1,h.2.1,by simp,h.2.2⟩;simp only[↓go1,gB2,go5,simprocAttr,c',A1,An S320 221,h221];simp[c]
def ryW:Ry->List Bs
 | .fail e=>[[101,114,114,111,114],BZ e.toNat]
 | .done=>[[111,107]]
 | .number n=>[[111,107],[110,117,109,98,101,114],BZ n.toNat]
 | .found n d=>[[111,107],[102,111,117,110,100],BZ n.toNat,if d=[]then [45]else Fa d]
 | .about s=>[[111,107],[97,98,111,117,116],BZ s.mx.toNat,[if s.cas=true then 49 else 48],BZ s.la.toNat,Dj (s.rs.map rowW1)]
 | .names _ l=>[[111,107],[110,97,109,101,115],Dj l]
 | .state b=>if b=true then [[111,107],[115,101,97,108,101,100]]else [[111,107],[111,112,101,110]]
def ryG:Ry->Prop
 | .fail e=>0<=e∧e<1000
 | .number n=>0<=n∧n<1000
 | .found n d=>0<=n∧n<1000∧d.length<=1000
 | .about s=>s.rs.length<=100∧(0<=s.mx∧s.mx<1000)∧(0<=s.la∧s.la<1000)∧∀x∈s.rs,0<=x.1∧x.1<1000
 | .names nl l=>l.length<=1000∧(nl=true->l=[])∧CG l<=1000000
 |_=>True
def Ea:∀(l:List Bs)(s:Bs),(Lib.join l s).length<=CG l+l.length*s.length
 |[],s=>by simp[Lib.join]
 |[x],s=>by simp[Lib.join,CG]
 |x::y::r,s=>by
  have ih:=Ea (y::r) s;have e:Lib.join (x::y::r) s=x++s++Lib.join (y::r) s:=by simp[Lib.join]
  rw[e,Qo,Qo];simp only[CG,QO]at ih ⊢;rw[Nat.succ_mul];omega
def rowW1_len(x:Rw):(rowW1 x).length<=5:=by
 have:=Dy x.1.toNat;unfold rowW1;rw[Qo,Qo];split<;>split<;>simp<;>omega
def sum_rows:∀l:List Rw,CG (l.map rowW1)<=5*l.length
 |[]=>by simp[CG]
 |x::r=>by
  have:=sum_rows r;have:=rowW1_len x;simp only[Q_,CG,QO];omega
def S222:Summs:=AF [(316,Ac R316),(319,Ac R319),(320,Ac R320),(318,Ac R318),(317,Ac F317)]
def R222:List D->Option D:=RF S222 dc222 [.t 2] 78
def ko222:(Ac R222).ok Qc 222:=AH fn222 (Ab ko316 (Ab ko319 (Ab ko320 (Ab ko318 (Ab ok317 Ad)))))
theorem R222_eq (y : Ry) (h : ryG y) : R222 [.agg (ryC y)] = some (.slice false [] (Ay (ryW y))) := by
  refine AG (Qb rfl) ?_
  have s319 : S222 319 = some (Ac R319) := rfl
  have s320 : S222 320 = some (Ac R320) := rfl
  have s318 : S222 318 = some (Ac R318) := rfl
  have s317 : S222 317 = some (Ac F317) := rfl
  unfold dc222
  cases y with
  | fail e =>
    have h316 := R316_eq e.toNat (by have := h.1; have := h.2; omega)
    rw [Qu h.1] at h316
    unfold ryC ryW Ay
    simp only [↓go1, gB2, go5, simprocAttr, An S222 316, h316]
    all_goals first | rfl | exact ⟨rfl, rfl⟩ | simp [*]
  | done =>
    unfold ryC ryW Ay
    simp only [↓go1, gB2, go5, simprocAttr]
    all_goals first | rfl | exact ⟨rfl, rfl⟩ | simp [*]
  | number n =>
    have h316 := R316_eq n.toNat (by have := h.1; have := h.2; omega)
    rw [Qu h.1] at h316
    unfold ryC ryW Ay
    simp only [↓go1, gB2, go5, simprocAttr, An S222 316, h316]
    all_goals first | rfl | exact ⟨rfl, rfl⟩ | simp [*]
  | found n d =>
    have h316 := R316_eq n.toNat (by have := h.1; have := h.2; omega)
    rw [Qu h.1] at h316
    have h317 := F317_eq (s := d) (by have := h.2.2; omega)
    unfold ryC ryW Ay
    by_cases c : d = []
    · have c' := eq_true c
      simp only [↓go1, gB2, go5, simprocAttr, An S222 316, h316, c']
      simp []
    · have c' := eq_false c
      simp only [↓go1, gB2, go5, simprocAttr, An S222 316, h316, Aa s317, h317, c']
      simp []
  | names nl l =>
    obtain ⟨h1, h2, h3⟩ := h
    have h320 := R320_eq nl l h2 ⟨h1, h3, by have := Ea l [44]; simp at this; omega⟩
    unfold ryC ryW
    simp only [↓go1, gB2, go5, simprocAttr, Aa s320, h320]
    all_goals first | rfl | exact ⟨rfl, rfl⟩ | simp [*]
  | state b =>
    unfold ryC ryW Ay
    cases b with
    | true =>
      simp only [↓go1, gB2, go5, simprocAttr]
      all_goals first | rfl | exact ⟨rfl, rfl⟩ | simp [*]
    | false =>
      simp only [↓go1, gB2, go5, simprocAttr]
      all_goals first | rfl | exact ⟨rfl, rfl⟩ | simp [*]
  | about s =>
    obtain ⟨g1, g2, g3, g4⟩ := h
    have h1 := R316_eq s.mx.toNat (by omega)
    rw [Qu g2.1] at h1
    have h2 := R316_eq s.la.toNat (by omega)
    rw [Qu g3.1] at h2
    have h319 := R319_eq s.cas
    have hsr := sum_rows s.rs
    have h320 := fun nl hn => R320_eq nl (s.rs.map rowW1) hn ⟨by simp; omega, by omega, by have := Ea (s.rs.map rowW1) [44]; simp at this; omega⟩
    unfold ryC ryW
    simp only [↓go1, gB2, go5, simprocAttr, AV]
    refine Bm (n := s.rs.length) (I := fun j st => st.s 38 = .slice s.nl [] (A8 s.rs) ∧ st.s 39 = .int .i64 s.rs.length ∧ st.s 40 = .int .i64 (j : Int) ∧ st.s 1 = .ptr [0] 0 ∧ ∃ nl t, st.s 4 = .slice nl t (Ay ((s.rs.take j).map rowW1)) ∧ nl = decide (j = 0) ∧ LG 1 _ 9 st.m st.c nl t) (fun j hj ih st g hI => ?_) (fun st g hI => ?_) 0 (Qv _) _ _ ⟨rfl, rfl, rfl, rfl, true, [], rfl, rfl, LG.start (by simp only; omega)⟩
    · obtain ⟨st_s, st_m, st_c⟩ := st
      obtain ⟨h38, h39, h40, hp, nl, t, h4, hnl, hG⟩ := hI
      simp only at h38 h39 h40 hp h4 hG
      refine Ae dc222l0.eq_1 ?_
      have hlt : ((j : Int) < s.rs.length) := by omega
      have hj0 := nJ (j := j)
      have hw := wJ (j := j) (by omega)
      have hat := Fe hj
      have h318 := R318_eq s.rs[j] (g4 _ (QI hj))
      have htk : Ay ((s.rs.take (j + 1)).map rowW1) = Ay ((s.rs.take j).map rowW1) ++ [.str (rowW1 s.rs[j])] := by
        rw [QV hj, Q0]; simp [Ay]
      have hal : (Ay ((s.rs.take j).map rowW1)).length = j := by simp [Ay]; omega
      have hnil : nl = true → Ay ((s.rs.take j).map rowW1) = [] := by
        rw [hnl]; intro h; have : j = 0 := by simpa using h
        subst this; rfl
      generalize Ay ((s.rs.take j).map rowW1) = acc at h4 htk hal hnil
      generalize s.rs[j] = x at hat htk h318
      simp only [gB1, ↓go1, go5, simprocAttr, h38, h39, h40, h4, hlt, hj0, Qf, hat, Aa s318, h318]
      refine Ao.intro ⟨by omega, rfl, (by first | exact hG.grow | exact (hG.put (by omega)).grow | exact ((hG.put (by omega)).put (by omega)).grow | exact (((hG.put (by omega)).put (by omega)).put (by omega)).grow | exact ((((hG.put (by omega)).put (by omega)).put (by omega)).put (by omega)).grow | exact (((((hG.put (by omega)).put (by omega)).put (by omega)).put (by omega)).put (by omega)).grow)⟩ ?_
      rw [BH hnil, ← htk]
      simp only [↓go1, go2, simprocAttr, h40, hw]
      exact ih _ _ ⟨h38, h39, rfl, hp, false, _, rfl, by simp, (by first | exact hG.app (by omega) (by simp only; omega) | exact (hG.put (by omega)).app (by omega) (by simp only; omega) | exact ((hG.put (by omega)).put (by omega)).app (by omega) (by simp only; omega) | exact (((hG.put (by omega)).put (by omega)).put (by omega)).app (by omega) (by simp only; omega) | exact ((((hG.put (by omega)).put (by omega)).put (by omega)).put (by omega)).app (by omega) (by simp only; omega) | exact (((((hG.put (by omega)).put (by omega)).put (by omega)).put (by omega)).put (by omega)).app (by omega) (by simp only; omega))⟩
    · obtain ⟨st_s, st_m, st_c⟩ := st
      obtain ⟨h38, h39, h40, hp, nl, t, h4, hnl, hG⟩ := hI
      simp only at h38 h39 h40 hp h4 hG
      refine Ae dc222l0.eq_1 ?_
      have m0 : ∀ k, st_m [0] k = _ := fun k => hG.low 0 k (by omega)
      rw [List.take_length] at h4
      have hh := h320 nl (by rw [hnl]; intro h; have : s.rs.length = 0 := by simpa using h
                             simp [QA.1 this])
      unfold Ay at h4 hh ⊢
      simp only [↓go1, gB2, go5, simprocAttr, h39, h40, hp, h4, Qt, m0, An S222 316, h1, h2, Aa s319, h319, Aa s320, hh]
      (refine Ao.intro (Aj ?_) ?_; first | rfl | simp [A2, AL, rds, Ai, Ac])
      simp only [↓go1, go2, go3, go5, simprocAttr]
      all_goals first | rfl | exact ⟨rfl, rfl⟩ | simp [*]
def spJ(l:List Bs):Bs:=Lib.join l [32]
def ryT(y:Ry):Bs:=if ryE y=0 then spJ (ryW y)else []
def ryW_ne(y:Ry):ryW y≠[]:=by
 cases y<;>simp[ryW];split<;>simp
def S89:Summs:=AF []
def R89:List D->Option D:=RF S89 dc89 [] 6
def ko89:(Ac R89).ok Qc 89:=AH fn89 Ad
def R89_eq:R89 [.bool true]=some (.tup []):=by
 refine AG (Qb rfl) ?_;unfold dc89;simp only[↓go1,gB2,go5,reduceIte,Qa,Qd]
 all_goals first|rfl|exact⟨rfl,rfl⟩|simp[*]
def S90:Summs:=AF [(89,Ac R89)]
def R90:List D->Option D:=RF S90 dc90 [.t 2] 46
def ko90:(Ac R90).ok Qc 90:=AH fn90 (Ab ko89 Ad)
def numP(s:Bs):Int:=s.foldl (λa c=>10*a+((c.toNat:Int)-48)) 0
def numP_app(s:Bs)(c:UInt8):numP (s++[c])=10*numP s+((c.toNat:Int)-48):=by simp[numP]
def numP_le{s:Bs}(hd:∀c∈s,48<=c.toNat∧c.toNat<=57):∀j,j<=s.length->0<=numP (s.take j)∧numP (s.take j)<10 ^ j:=by
 intro j;induction j with
 |zero=>intro _;rw[QU];exact⟨by decide,by decide⟩
 |succ j ih=>
  intro hj;have hc:=hd s[j] (QI _);have hi:=ih (by omega);rw[QX,Qg (by omega:j<s.length)];show 0<=numP (s.take j++[s[j]])∧numP (s.take j++[s[j]])<10 ^ (j+1);rw[numP_app,Int.pow_succ];omega
def loop90{ns:Id}{s:Bs}{Q:Ex->St->Prop}(h3:s.length<=3)(hd:∀c∈s,48<=c.toNat∧c.toNat<=57)(hexit:∀st,st.s 3= .int .i64 (numP s)->Q (.exit 0) st)(st:St)(g)(h25:st.s 25= .slice false [] (Au s))(h26:st.s 26= .int .i64 (Au s).length)(h27:st.s 27= .int .i64 0)(h03:st.s 3= .int .i64 0):A4 S90 ns dc90l0 Q st g:=by
 have h89:=R89_eq;refine Bm (n:=s.length) (I:=λj st=>st.s 25= .slice false [] (Au s)∧st.s 26= .int .i64 s.length∧st.s 27= .int .i64 (j:Int)∧st.s 3= .int .i64 (numP (s.take j))) (λj hj ih st g hI=>?_) (λst g hI=>?_) 0 (Qv _) st g ⟨h25,by rw[h26,Bu],h27,by rw[QU];exact h03⟩
 ·obtain⟨st_s,st_m,st_c⟩:=st;obtain⟨h25,h26,h27,h3'⟩:=hI;simp only at h25 h26 h27 h3';refine Ae dc90l0.eq_1 ?_;have hlt:((j:Int)<s.length):=by omega
  have hj0:=nJ (j:=j);have hw:=wJ (j:=j) (by omega);have hat:(Au s)[j]?=some (.int .u8 (s[j].toNat:Int)):=by simp[Au,hj]
  obtain⟨c1,c2⟩:=hd s[j] (QI _);have p:=numP_le hd j (by omega);have p3:(10:Int) ^ j<=1000:=by
   have:j=0∨j=1∨j=2:=by omega
   rcases this with rfl|rfl|rfl<;>decide
  have d1:(48:Int)<=(s[j].toNat:Int):=by omega
  have d2:(s[j].toNat:Int)<=57:=by omega
  have w1:IntKind.i64.wrap (10*numP (s.take j))=10*numP (s.take j):=IntWalk.i64_in _ ⟨by omega,by omega⟩;have w2:IntKind.u8.wrap ((s[j].toNat:Int)-48)=(s[j].toNat:Int)-48:=by show((s[j].toNat:Int)-48) % 256=_;omega
  have w3:IntKind.i64.wrap ((s[j].toNat:Int)-48)=(s[j].toNat:Int)-48:=IntWalk.i64_in _ ⟨by omega,by omega⟩;have w4:IntKind.i64.wrap (10*numP (s.take j)+((s[j].toNat:Int)-48))=numP (s.take (j+1)):=by
   rw[IntWalk.i64_in _ ⟨by omega,by omega⟩,QX,Qg hj];exact(numP_app _ _).symm
  simp only[↓go1,gB2,go5,reduceIte,Qa,Qd,h25,h26,h27,h3',hlt,hj0,Qf,hat,An S90 89,h89,d1,d2,w1,w2,w3,w4,hw];exact ih _ _ ⟨h25,h26,rfl,rfl⟩
 ·obtain⟨h25,h26,h27,h3'⟩:=hI;refine Ae dc90l0.eq_1 ?_;simp only[↓go1,go2,go4,go5,reduceIte,Qd,h26,h27,Qt];refine hexit _ ?_;rw[Qx (QS _)]at h3';simp only[↓go1,reduceIte,Qa,h3']
def R90_eq(s:Bs)(h1:1<=s.length)(h3:s.length<=3)(hz:s=[48]∨s.head?≠some 48)(hd:∀c∈s,48<=c.toNat∧c.toNat<=57):R90 [.str s]=some (.int .i64 (numP s)):=by
 refine AG (Qb rfl) ?_;unfold dc90;have h89:=R89_eq;have e1:((1:Int)<=s.length):=by omega
 have e3:((s.length:Int)<=3):=by omega
 have hg0:∃c,s[0]?=some c∧(s=[48]∨c≠48):=by
  cases s with
  |nil=>simp at h1
  |cons c s=>exact⟨c,rfl,by rcases hz with h|h;exact .inl h;exact .inr (λe=>h (by rw[e];rfl))⟩
 obtain⟨c0,hc0,hz'⟩:=hg0;simp only[↓go1,go2,go4,reduceIte,Qa,Qd,reduceCtorEq,e1,e3];refine ifQ.intro (λhs=>?_) (λhs=>?_)
 ·subst hs;simp only[↓go1,gB2,go5,reduceIte,Qa,Qd,reduceCtorEq,An S90 89,h89];refine loop90 h3 hd (λst h=>?_) _ _ rfl rfl rfl rfl;simp only[↓go1,go2,go3,go5,reduceIte,Qa,Qd,h]
  all_goals first|rfl|exact⟨rfl,rfl⟩|simp[*]
 ·have hc48:((c0.toNat:Int)=48)=False:=eq_false (λe=>(hz'.resolve_left hs) (UInt8.toNat_inj.1 (by show c0.toNat=48;omega)));simp only[↓go1,gB2,go5,reduceIte,Qa,Qd,reduceCtorEq,Zo,hs,hc0,hc48,An S90 89,h89,Int.toNat_zero];refine loop90 h3 hd (λst h=>?_) _ _ rfl rfl rfl rfl;simp only[↓go1,go2,go3,go5,reduceIte,Qa,Qd,h]
  all_goals first|rfl|exact⟨rfl,rfl⟩|simp[*]
def C6:∀d,d<10->(E9 d).toNat=48+d:=by decide
def numB_dig(n:Nat)(h:n<1000):∀c∈BZ n,48<=c.toNat∧c.toNat<=57:=by
 unfold BZ;have key:∀d,d<10->48<=(E9 d).toNat∧(E9 d).toNat<=57:=λd hd=>by rw[C6 d hd];omega
 split
 ·intro c hc;rw[List.mem_singleton.1 hc];exact key _ (by omega)
 ·split<;>intro c hc<;>simp only[Za,List.not_mem_nil,or_false]at hc
  ·rcases hc with rfl|rfl<;>exact key _ (by omega)
  ·rcases hc with rfl|rfl|rfl<;>exact key _ (by omega)
def numB_num(n:Nat)(h:n<1000):numP (BZ n)=n:=by
 unfold BZ;split
 ·simp only[numP,Zg,Zi,C6 n (by omega)];omega
 ·split
  ·simp only[numP,Zg,Zi,C6 (n / 10) (by omega),C6 (n % 10) (by omega)];omega
  ·simp only[numP,Zg,Zi,C6 (n / 100) (by omega),C6 (n / 10 % 10) (by omega),C6 (n % 10) (by omega)];omega
def numB_one(n:Nat):1<=(BZ n).length:=by unfold BZ;split;simp;split<;>simp
def numB_hd(n:Nat)(h:n<1000):BZ n=[48]∨(BZ n).head?≠some 48:=by
 have key:∀d,d<10->d≠0->E9 d≠48:=λd hd h0 e=>by have:=C6 d hd;rw[e]at this;simp at this;omega
 unfold BZ;split
 ·by_cases h0:n=0
  ·subst h0;exact .inl (by decide)
  ·exact .inr (λe=>key n (by omega) h0 (by simpa using e))
 ·split
  ·exact .inr (λe=>key (n / 10) (by omega) (by omega) (by simpa using e))
  ·exact .inr (λe=>key (n / 100) (by omega) (by omega) (by simpa using e))
def FA(n:Nat)(h:n<1000):R90 [.str (BZ n)]=some (.int .i64 (n:Int)):=by
 rw[R90_eq (BZ n) (numB_one n) (Dy n) (numB_hd n h) (numB_dig n h),numB_num n h]
def S290:Summs:=AF [(89,Ac R89)]
def R290:List D->Option D:=RF S290 dc290 [.t 2] 12
def ko290:(Ac R290).ok Qc 290:=AH fn290 (Ab ko89 Ad)
def R290_eq(b:Bool):R290 [.str (if b then [49]else [48])]=some (.bool b):=by
 refine AG (Qb rfl) ?_;unfold dc290;have h89:=R89_eq;have h:True:=trivial;have d1:decide (([49]:Bs)=[48])=false:=rfl;have d2:decide (([48]:Bs)=[49])=false:=rfl;have d3:decide (([49]:Bs)=[49])=true:=rfl;have d4:decide (([48]:Bs)=[48])=true:=rfl;cases b
 all_goals
  repeat' (first|(refine ifQ.intro (λh=>?_) (λh=>?_)<;>try (exfalso;omega))|(refine Ao.intro (Aj ?_) ?_;first|rfl|simp[A2,AL,rds,Ai,Ac])|(simp only[↓go1,gB2,go5,reduceIte,Qa,Qd,reduceCtorEq,An S290 89,h89,d1,d2]))
  all_goals first|rfl|exact⟨rfl,rfl⟩|simp[*]
def S357:Summs:=AF []
def R357:List D->Option D:=RF S357 dc357 [.t 2] 24
def ko357:(Ac R357).ok Qc 357:=AH fn357 Ad
def hexD_let:∀d,d<16->10<=d->(E9 d).toNat=87+d:=by decide
def w8{x:Int}(h0:0<=x)(h1:x<256):IntKind.u8.wrap x=x:=by show x % 256=x;omega
def R357_eq(d:Nat)(h:d<16):R357 [.int .u8 ((E9 d).toNat:Int)]=some (.int .i64 (d:Int)):=by
 refine AG (Qb rfl) ?_;unfold dc357;have hh:=h;by_cases hd:d<10
 ·rw[C6 d hd];have a1:(48:Int)<=((48+d:Nat):Int):=by omega
  have a2:((48+d:Nat):Int)<=57:=by omega
  have a3:IntKind.u8.wrap (((48+d:Nat):Int)-48)=(d:Int):=by rw[w8 (by omega) (by omega)];omega
  have a4:IntKind.i64.wrap (d:Int)=(d:Int):=IntWalk.i64_in _ ⟨by omega,by omega⟩;simp only[↓go1,gB2,go5,reduceIte,Qa,Qd,reduceCtorEq,a1,a2,a3,a4]
  all_goals first|rfl|exact⟨rfl,rfl⟩|simp[*]
 ·rw[hexD_let d h (by omega)];have a1:(48:Int)<=((87+d:Nat):Int):=by omega
  have a2:(((87+d:Nat):Int)<=57)=False:=eq_false (by omega);have a5:(97:Int)<=((87+d:Nat):Int):=by omega
  have a6:((87+d:Nat):Int)<=102:=by omega
  have a3:IntKind.u8.wrap (((87+d:Nat):Int)-97)=(d:Int)-10:=by rw[w8 (by omega) (by omega)];omega
  have a4:IntKind.i64.wrap ((d:Int)-10)=(d:Int)-10:=IntWalk.i64_in _ ⟨by omega,by omega⟩;have a7:IntKind.i64.wrap ((d:Int)-10+10)=(d:Int):=by rw[IntWalk.i64_in _ ⟨by omega,by omega⟩];omega
  simp only[↓go1,gB2,go5,reduceIte,Qa,Qd,reduceCtorEq,a1,a2,a5,a6,a3,a4,a7]
  all_goals first|rfl|exact⟨rfl,rfl⟩|simp[*]
def hexB_at:∀(s:Bs)(j:Nat)(h:j<s.length),(Fa s)[2*j]?=some (E9 (s[j].toNat / 16))∧(Fa s)[2*j+1]?=some (E9 (s[j].toNat % 16))
 |[],j,h=>absurd h (by simp)
 |c::s,0,h=>⟨rfl,rfl⟩
 |c::s,j+1,h=>hexB_at s j (by simpa using h)
def orE:∀x:Nat,x<16->∀y:Nat,y<16->IntKind.u8.wrap (bits .or .i64 (IntKind.i64.wrap ((x:Int)*2 ^ min (4:Int).toNat IntKind.i64.bits)) (y:Int))=((16*x+y:Nat):Int):=by decide
def S289:Summs:=AF [(357,Ac R357)]
def R289:List D->Option D:=RF S289 dc289 [.t 2,.t 3] 47
def ko289:(Ac R289).ok Qc 289:=AH fn289 (Ab ko357 Ad)
def R289_eq(s:Bs)(hl:s.length<=1000000):R289 [.str (Fa s)]=some (.tup [.str s,.bool true]):=by
 refine AG (Qb rfl) ?_;unfold dc289;have hlen:(((Fa s).length:Nat):Int)=2*s.length:=by rw[Ec];omega
 have hm:((2*(s.length:Int)).tmod 2)=0:=by rw[Q6 (by omega)];omega
 have hq:IntKind.i64.wrap ((2*(s.length:Int)).tdiv 2)=(s.length:Int):=by rw[Q7 (by omega),show(2*(s.length:Int)) / 2=s.length by omega];exact IntWalk.i64_in _ ⟨by omega,by omega⟩
 simp only[↓go1,gB2,go5,reduceIte,Qa,Qd,reduceCtorEq,Zp,Zo,hlen,hm,hq];refine Ao.intro ⟨by omega,by omega⟩ ?_;simp only[↓go1,go2,go5,reduceIte,Qa,Qd];refine Bm (n:=s.length) (I:=λj st=>st.s 0= .str (Fa s)∧st.s 5= .int .i64 ((2*j:Nat):Int)∧∃t,st.s 4= .slice false t (Au (s.take j))∧LG 9 _ 5 st.m st.c false t) (λj hj ih st g hI=>?_) (λst g hI=>?_) 0 (Qv _) _ _ ⟨rfl,rfl,_,rfl,⟨λ_ _ _=>rfl,.inr ⟨_,rfl,by omega,by simp only;omega,by simp[Mem.put]⟩,by simp only;omega⟩⟩
 ·obtain⟨st_s,st_m,st_c⟩:=st;obtain⟨h0,h5,t,h4,hG⟩:=hI;simp only at h0 h5 h4 hG;refine Ae dc289l0.eq_1 ?_;have hlt:(((2*j:Nat):Int)<2*s.length):=by omega
  have hj0:(0:Int)<=((2*j:Nat):Int):=by omega
  have hj1:(0:Int)<=((2*j+1:Nat):Int):=by omega
  have hw1:IntKind.i64.wrap (((2*j:Nat):Int)+1)=((2*j+1:Nat):Int):=w64 (by omega) (by omega);have hw2:IntKind.i64.wrap (((2*j:Nat):Int)+2)=((2*(j+1):Nat):Int):=by rw[IntWalk.i64_in _ ⟨by omega,by omega⟩];omega
  obtain⟨b1,b2⟩:=hexB_at s j hj;have hc:=s[j].toNat_lt;have h1:=R357_eq (s[j].toNat / 16) (by omega);have h2:=R357_eq (s[j].toNat % 16) (by omega);have or:=orE (s[j].toNat / 16) (by omega) (s[j].toNat % 16) (by omega);rw[show 16*(s[j].toNat / 16)+s[j].toNat % 16=s[j].toNat by omega]at or;have n1:(((s[j].toNat / 16:Nat):Int)<0)=False:=eq_false (by omega);have n2:(((s[j].toNat % 16:Nat):Int)<0)=False:=eq_false (by omega);have hBa:Au (s.take j)++[.int .u8 (s[j].toNat:Int)]=Au (s.take (j+1)):=by rw[QX,Qg hj,CK];rfl
  have hbl:(Au (s.take j)).length=j:=by rw[Bu,QM];omega
  simp only[↓go1,gB2,reduceIte,Qa,Qd,reduceCtorEq,h0,h5,hlen,hlt,hj0,hj1,hw1,Qf,b1,b2,An S289 357,h1,h2]
  (refine Ao.intro (Aj ?_) ?_;first|rfl|simp[A2,AL,rds,Ai,Ac])
  have ha:IntKind.i64.wrap (((s[j].toNat / 16:Nat):Int)*2 ^ min (4:Int).toNat IntKind.i64.bits)=IntKind.i64.wrap (((s[j].toNat / 16:Nat):Int)*2 ^ min (4:Int).toNat IntKind.i64.bits):=rfl;have hsh:∀a:Int,A_ .shl (.int .i64 a) (.int .u64 4)=some (.int .i64 (IntKind.i64.wrap (a*2 ^ min (4:Int).toNat IntKind.i64.bits))):=λa=>rfl
  simp only[↓go1,gB2,go5,reduceIte,Qa,Qd,reduceCtorEq,h4,n1,n2,hsh,or];refine Ao.intro ⟨by simp only[hbl];omega,rfl,(by first|exact hG.grow|exact(hG.put (by omega)).grow|exact((hG.put (by omega)).put (by omega)).grow|exact(((hG.put (by omega)).put (by omega)).put (by omega)).grow|exact((((hG.put (by omega)).put (by omega)).put (by omega)).put (by omega)).grow|exact(((((hG.put (by omega)).put (by omega)).put (by omega)).put (by omega)).put (by omega)).grow)⟩ ?_;rw[hBa];simp only[↓go1,gB2,go5,reduceIte,Qa,Qd,h5,hw2];exact ih _ _ ⟨h0,rfl,_,rfl,(by first|exact LG.nil (hG.appf (by omega) (by simp only;omega))|exact LG.nil ((hG.put (by omega)).appf (by omega) (by simp only;omega))|exact LG.nil (((hG.put (by omega)).put (by omega)).appf (by omega) (by simp only;omega))|exact LG.nil ((((hG.put (by omega)).put (by omega)).put (by omega)).appf (by omega) (by simp only;omega))|exact LG.nil (((((hG.put (by omega)).put (by omega)).put (by omega)).put (by omega)).appf (by omega) (by simp only;omega))|exact LG.nil ((((((hG.put (by omega)).put (by omega)).put (by omega)).put (by omega)).put (by omega)).appf (by omega) (by simp only;omega)))⟩
 ·obtain⟨h0,h5,t,h4,hG⟩:=hI;refine Ae dc289l0.eq_1 ?_;have hnl:(((2*s.length:Nat):Int)<2*s.length)=False:=eq_false (by omega);rw[Qx (QS _)]at h4;simp only[Qw,↓go1,gB2,go5,reduceIte,Qa,Qd,reduceCtorEq,h0,h5,h4,hlen,hnl,Cr]
  all_goals first|rfl|exact⟨rfl,rfl⟩|simp[*]
def hexB_ne(d:Bs)(h:d≠[]):Fa d≠[45]∧Fa d≠[]:=by
 have:0<d.length:=Zk.2 h;exact⟨λe=>by have:=congrArg Zs e;rw[Ec]at this;simp at this;omega,λe=>by have:=congrArg Zs e;rw[Ec]at this;simp at this;omega⟩
def S187:Summs:=AF [(289,Ac R289),(89,Ac R89)]
def R187:List D->Option D:=RF S187 dc187 [.t 2] 19
def ko187:(Ac R187).ok Qc 187:=AH fn187 (Ab ko289 (Ab ko89 Ad))
def R187_eq(d:Bs)(hl:d.length<=1000000):R187 [.str (if d=[]then [45]else Fa d)]=some (.str d):=by
 refine AG (Qb rfl) ?_;have s89:S187 89=some (Ac R89):=rfl;unfold dc187;have h289:=R289_eq d hl;have h89:=R89_eq;by_cases h:d=[]
 ·subst h;simp only[↓go1,gB2,go5,reduceIte,Qa,Qd,reduceCtorEq]
  all_goals first|rfl|exact⟨rfl,rfl⟩|simp[*]
 ·rw[if_neg h];obtain⟨h1,h2⟩:=hexB_ne d h;simp only[↓go1,gB2,go5,reduceIte,Qa,Qd,reduceCtorEq,h1,h2,An S187 289,h289,Aa s89,h89]
  all_goals first|rfl|exact⟨rfl,rfl⟩|simp[*]
def cutP(s:Bs)(c:UInt8):Bs×Bool:=if s.getLast?=some c then(s.dropLast,true)else(s,false)
def last_drop(s:Bs)(c:UInt8)(h:1<=s.length):(s.drop (s.length-1)=[c])=(s.getLast?=some c):=by
 rw[List.getLast?_eq_getElem?,QH (by omega),Qg (by omega),List.drop_eq_nil_of_le (by omega)];simp
def S408:Summs:=AF []
def R408:List D->Option D:=RF S408 dc408 [.t 4] 21
def ko408:(Ac R408).ok Qc 408:=AH fn408 Ad
def R408_eq(s:Bs)(c:UInt8)(hl:s.length<=1000000):R408 [.str s,.str [c]]=some (.bool (decide (s.getLast?=some c))):=by
 refine AG (Qb rfl) ?_;unfold dc408;by_cases h0:s=[]
 ·have y1:((1:Nat):Int)=1:=rfl;have e1:((1:Int)<=s.length)=False:=eq_false (by rw[h0];decide);simp only[↓go1,gB2,go5,reduceIte,Qa,Qd,reduceCtorEq,gB3,y1,e1];rw[h0]
  all_goals first|rfl|exact⟨rfl,rfl⟩|simp[*]
 ·have h1:1<=s.length:=Zk.2 h0;have e1:((1:Int)<=s.length)=True:=eq_true (by omega);have hw:IntKind.i64.wrap ((s.length:Int)-1)=(s.length:Int)-1:=w64 (by omega) (by omega);have e2:(0:Int)<=(s.length:Int)-1:=by omega
  have e3:((s.length:Int)-1<=(s.length:Int))=True:=eq_true (by omega);have e4:((s.length:Int)-1).toNat=s.length-1:=by omega
  have y1:((1:Nat):Int)=1:=rfl;have hd:=last_drop s c h1;have m3:List.take (s.length-(s.length-1)) (s.drop (s.length-1))=s.drop (s.length-1):=Qx (by rw[QY];omega);simp only[↓go1,gB2,go5,reduceIte,Qa,Qd,reduceCtorEq,gB3,y1,e1,hw,e2,e3,e4,m3,hd]
  all_goals first|rfl|exact⟨rfl,rfl⟩|simp[*]
def S394:Summs:=AF [(408,Ac R408)]
def R394:List D->Option D:=RF S394 dc394 [.t 4,.t 5] 18
def ko394:(Ac R394).ok Qc 394:=AH fn394 (Ab ko408 Ad)
def R394_eq(s:Bs)(c:UInt8)(hl:s.length<=1000000):R394 [.str s,.str [c]]=some (.tup [.str (cutP s c).1,.bool (cutP s c).2]):=by
 refine AG (Qb rfl) ?_;unfold dc394;have h408:=R408_eq s c hl;unfold cutP;by_cases h:s.getLast?=some c
 ·have h1:1<=s.length:=by cases s;cases h;simp
  have hw:IntKind.i64.wrap ((s.length:Int)-1)=(s.length:Int)-1:=w64 (by omega) (by omega);have e2:(0:Int)<=(s.length:Int)-1:=by omega
  have e3:((s.length:Int)-1<=(s.length:Int))=True:=eq_true (by omega);have e4:((s.length:Int)-1).toNat=s.length-1:=by omega
  have y1:((1:Nat):Int)=1:=rfl;rw[if_pos h];simp only[↓go1,gB2,go5,reduceIte,Qa,Qd,reduceCtorEq,gB3,y1,An S394 408,h408,h,hw,e2,e3,e4,Q5,List.dropLast_eq_take]
  all_goals first|rfl|exact⟨rfl,rfl⟩|simp[*]
 ·rw[if_neg h];simp only[↓go1,gB2,go5,reduceIte,Qa,Qd,reduceCtorEq,An S394 408,h408,h]
  all_goals first|rfl|exact⟨rfl,rfl⟩|simp[*]
def S358:Summs:=AF [(394,Ac R394)]
def R358:List D->Option D:=RF S358 dc358 [.t 4,.t 5] 11
def ko358:(Ac R358).ok Qc 358:=AH fn358 (Ab ko394 Ad)
def R358_eq(s:Bs)(c:UInt8)(hl:s.length<=1000000):R358 [.str s,.str [c]]=some (.tup [.str (cutP s c).1,.bool (cutP s c).2]):=by
 refine AG (Qb rfl) ?_;unfold dc358;have h394:=R394_eq s c hl;simp only[↓go1,gB2,go5,reduceIte,Qa,Qd,reduceCtorEq,An S358 394,h394]
 all_goals first|rfl|exact⟨rfl,rfl⟩|simp[*]
def cut_yes(s:Bs)(c:UInt8):cutP (s++[c]) c=(s,true):=by
 unfold cutP;rw[if_pos (by simp)];simp
def cut_no{s:Bs}{c:UInt8}(h:s.getLast?≠some c):cutP s c=(s,false):=if_neg h
def num_last(n:Nat)(h:n<1000)(c:UInt8)(hc:c.toNat<48):(BZ n).getLast?≠some c:=by
 intro e;have:=(numB_dig n h c (List.mem_of_getLast? e)).1;omega
def row_cuts(x:Rw)(h:0<=x.1∧x.1<1000):cutP (rowW1 x) 35=(BZ x.1.toNat++(if x.2.1=true then [33]else []),x.2.2)∧cutP (BZ x.1.toNat++(if x.2.1=true then [33]else [])) 33=(BZ x.1.toNat,x.2.1):=by
 obtain⟨n,g,d⟩:=x;have hn:n.toNat<1000:=by simp only at h;omega
 unfold rowW1;have a:∀c:UInt8,c.toNat<48->(BZ n.toNat).getLast?≠some c:=num_last _ hn;cases g<;>cases d<;>simp only[Qq,if_false,if_true,QD,cut_yes,true_and,and_true]
 ·exact⟨cut_no (a 35 (by decide)),cut_no (a 33 (by decide))⟩
 ·exact cut_no (a 33 (by decide))
 ·exact cut_no (by simp)
def S291:Summs:=AF [(358,Ac R358),(90,Ac R90)]
def R291:List D->Option D:=RF S291 dc291 [.cell (some 3) 2] 20
def ko291:(Ac R291).ok Qc 291:=AH fn291 (Ab ko358 (Ab ko90 Ad))
def R291_eq(x:Rw)(h:0<=x.1∧x.1<1000):R291 [.str (rowW1 x)]=some (.agg [.int .i64 x.1,.bool x.2.1,.bool x.2.2]):=by
 refine AG (Qb rfl) ?_;have s90:S291 90=some (Ac R90):=rfl;unfold dc291;obtain⟨c1,c2⟩:=row_cuts x h;have hl:=rowW1_len x;have a1:=R358_eq (rowW1 x) 35 (by omega);have a2:=R358_eq (BZ x.1.toNat++(if x.2.1=true then [33]else [])) 33 (by have:=Dy x.1.toNat;rw[Qo];split<;>simp<;>omega);rw[c1]at a1;rw[c2]at a2;have a3:=FA x.1.toNat (by omega);rw[Qu h.1]at a3;generalize BZ x.1.toNat++(if x.2.1=true then [33]else [])=y at *;simp only[gB1,↓go1,go5,reduceIte,Qa,Qd,Ql,Qm,reduceCtorEq,An S291 358,a1,a2,Aa s90,a3]
 all_goals first|rfl|exact⟨rfl,rfl⟩|simp[*]
end Go.Vd
namespace Go.Vd
open Go.Proofs
end Go.Vd
namespace Go.Proofs
open Go.Shelf
def Tryz.runes_ren:Go.Shelf.Ren:=⟨λ|168=>372|169=>229|240=>324|242=>400|276=>370|278=>410|277=>371|n=>n,λ|31=>28|9=>9|3=>3|4=>4|0=>0|20=>20|21=>21|72=>322|76=>326|70=>320|37=>264|75=>325|127=>402|164=>439|5=>5|80=>216|46=>137|51=>392|n=>n,λ|n=>n⟩
def runes168:Go.Proofs.Lays.n168 Qc Tryz.runes_ren:={
 mixed:=by kernel_rfl
 f168:=func372.trans (congrArg some (by kernel_rfl))
 f240:=func324.trans (congrArg some (by kernel_rfl))
 f242:=func400.trans (congrArg some (by kernel_rfl))
 f276:=func370.trans (congrArg some (by kernel_rfl))
 f278:=func410.trans (congrArg some (by kernel_rfl))
 t0:=underlying0
 a0:=isAgg0
 z0:=sizeOf0
 v0:=zeroValue0
 t3:=underlying3
 a3:=isAgg3
 z3:=sizeOf3
 v3:=zeroValue3
 t4:=underlying4
 a4:=isAgg4
 z4:=sizeOf4
 v4:=zeroValue4
 t5:=underlying5
 a5:=isAgg5
 z5:=sizeOf5
 v5:=zeroValue5
 t9:=underlying9
 a9:=isAgg9
 z9:=sizeOf9
 v9:=zeroValue9
 t20:=underlying20
 a20:=isAgg20
 z20:=sizeOf20
 v20:=zeroValue20
 t21:=underlying21
 a21:=isAgg21
 z21:=sizeOf21
 v21:=zeroValue21
 t37:=underlying264
 a37:=isAgg264
 z37:=sizeOf264
 v37:=zeroValue264
 t46:=underlying137
 a46:=isAgg137
 z46:=sizeOf137
 v46:=zeroValue137
 t51:=underlying392
 a51:=isAgg392
 z51:=sizeOf392
 v51:=zeroValue392
 t70:=underlying320
 a70:=isAgg320
 z70:=sizeOf320
 v70:=zeroValue320
 t72:=underlying322
 a72:=isAgg322
 z72:=sizeOf322
 v72:=zeroValue322
 t75:=underlying325
 a75:=isAgg325
 z75:=sizeOf325
 v75:=zeroValue325
 t164:=underlying439
 a164:=isAgg439
 z164:=sizeOf439
 v164:=zeroValue439}
def runes169:Go.Proofs.Lays.n169 Qc Tryz.runes_ren:={
 mixed:=by kernel_rfl
 f169:=func229.trans (congrArg some (by kernel_rfl))
 t0:=underlying0
 a0:=isAgg0
 z0:=sizeOf0
 v0:=zeroValue0
 t3:=underlying3
 a3:=isAgg3
 z3:=sizeOf3
 v3:=zeroValue3
 t9:=underlying9
 a9:=isAgg9
 z9:=sizeOf9
 v9:=zeroValue9
 t37:=underlying264
 a37:=isAgg264
 z37:=sizeOf264
 v37:=zeroValue264
 t70:=underlying320
 a70:=isAgg320
 z70:=sizeOf320
 v70:=zeroValue320
 t72:=underlying322
 a72:=isAgg322
 z72:=sizeOf322
 v72:=zeroValue322
 t127:=underlying402
 a127:=isAgg402
 z127:=sizeOf402
 v127:=zeroValue402}
def Tryz.runesX:Builder.Extra Qc Tryz.runes_ren:={
 sizeBuilder:=by kernel_rfl
 liesBuilder:=by kernel_rfl
 t5:=underlying5
 a5:=isAgg5
 z5:=sizeOf5
 v5:=zeroValue5
 infoByte:=by kernel_rfl
 cellsByte:=by kernel_rfl
 sizeByte:=by kernel_rfl
 neB5:=by decide}
end Go.Proofs
namespace Go.Ve
open Go.Vd
open Go.Proofs Go.RowKit
def six:List UInt8:=[114,119,100,120,108,115]
def Es(c:Nat):Nat->List UInt8
 |0=>[]
 |k+1=>Es c k++(if c / 2 ^ k % 2=1 then [six.getD k 0]else [])
structure J328 (w0:World) (c k:Nat) (a:Act) (w:World):Prop where
 slots:∃x4 x5 x7 x8 x9 x10 x11 x12 x13 x14 x15 x16 x17:Value,a={tmps:=#[.int .u8 (c:Int),undef,.string ⟨#[]⟩,.pointer (some ⟨w0.heap.size,0,none⟩),x4,x5,.pointer (some ⟨w0.heap.size+1,0,none⟩),x7,x8,x9,x10,x11,x12,x13,x14,x15,x16,x17,undef],defers:=[]}
 iter:w.heap[w0.heap.size+1]?=some (.stringIter ⟨#[114,119,100,120,108,115]⟩ k)
 bld:Lib.IsBuilderF 322 5 w0.heap.size w0.heap.size (Lib.byteCells (Es c k)) w
 bel:Below w0.heap.size w0 w
def run_next_at{P:Program}{w:World}{b:Nat}{s:ByteArray}{pos:Nat}{ty:TypeId}(h:w.heap[b]?=some (.stringIter s pos))(hp:pos<s.size):
  (Instr.next (.pointer (some ⟨b,0,none⟩)) true ty).run P w= .ok (.tuple #[.bool true,.int .i64 (pos:Nat),.int .i32 (Utf8.decode s pos).1]) {w with heap:=w.heap.setIfInBounds b (.stringIter s (pos+(Utf8.decode s pos).2))}:=by
 have hget:(getObj b).run P w= .ok (.stringIter s pos) w:=by simp[getObj,Sem.run,h]
 have hset:∀o',(setObj b o').run P w= .ok () {w with heap:=w.heap.setIfInBounds b o'}:=by intro o';simp[setObj,Sem.run,h]
 simp only[Instr.next,Sem.run_bind,hget,Result.andThen_ok,hp,if_true];cases hd:Utf8.decode s pos with
 |mk c wd=>
  simp only[hset,Result.andThen_ok,Sem.run_pure];rfl
def run_next_out{P:Program}{w:World}{b:Nat}{s:ByteArray}{pos:Nat}{ty:TypeId}(h:w.heap[b]?=some (.stringIter s pos))(hp:¬pos<s.size):
  (Instr.next (.pointer (some ⟨b,0,none⟩)) true ty).run P w= .ok (.tuple #[.bool false]) w:=by
 have hget:(getObj b).run P w= .ok (.stringIter s pos) w:=by simp[getObj,Sem.run,h]
 simp only[Instr.next,Sem.run_bind,hget,Result.andThen_ok,hp,if_false,Sem.run_pure]
def dec_six:∀k,k<6->Utf8.decode ⟨#[114,119,100,120,108,115]⟩ k=((six.getD k 0).toNat,1):=by decide+kernel
def bit_six:∀c:Nat,c<64->∀k,k<6->(bits BinOp.and IntKind.u8 ((c:Int) / 2 ^ k) 1==1)=decide (c / 2 ^ k % 2=1):=by decide+kernel
def rune_six:∀k,k<6->Lib.runeCells (((six[k]?.getD 0).toNat:Nat):Int)=Lib.byteCells [six.getD k 0]
 |0,_=>rfl
 |1,_=>rfl
 |2,_=>rfl
 |3,_=>rfl
 |4,_=>rfl
 |5,_=>rfl
 |k+6,h=>absurd h (by omega)
def pickL_len(c:Nat):∀k,(Es c k).length<=k
 |0=>QS _
 |k+1=>by
  have:=pickL_len c k;unfold Es;rw[Qo];split<;>simp<;>omega
def set_other{w:World}{bi j:Nat}{o:Obj}(h:j≠bi):(w.heap.setIfInBounds bi o)[j]?=w.heap[j]?:=by
 rw[Q2,if_neg (λe=>h e.symm)]
def bldF_set{w:World}{B b bi:Nat}{bs:List Value}{o:Obj}{s:ByteArray}{p:Nat}(h:Lib.IsBuilderF 322 5 B b bs w)(hi:w.heap[bi]?=some (.stringIter s p)):Lib.IsBuilderF 322 5 B b bs {w with heap:=w.heap.setIfInBounds bi o}:=by
 have key:∀q,Lib.BuilderAtF 322 5 B b q bs w->Lib.BuilderAtF 322 5 B b q bs {w with heap:=w.heap.setIfInBounds bi o}:=by
  rintro q ⟨h1,v,h2,h3,h4⟩;have hb:b≠bi:=λe=>by rw[e,hi]at h2;cases h2
  refine⟨h1,v,by show(w.heap.setIfInBounds bi o)[b]?=_;rw[set_other hb];exact h2,⟨h3.1,?_⟩,h4⟩;rcases h3.2 with h|⟨g,cap,cur,fz,e1,e2,e3,e4⟩
  ·exact .inl h
  ·have hg:g≠bi:=λe=>by rw[e,hi]at e3;cases e3
   exact .inr ⟨g,cap,cur,fz,e1,e2,by show(w.heap.setIfInBounds bi o)[g]?=_;rw[set_other hg];exact e3,e4⟩
 exact h.elim (λx=> .inl (key _ x)) (λx=> .inr (key _ x))
theorem below_set {B bi : Nat} {w w1 : World} {o : Obj} (h : Below B w w1) (hb : B ≤ bi) : Below B w { w1 with heap := w1.heap.setIfInBounds bi o } :=
 ⟨h.os, h.tape, h.output, by show _ ≤ (w1.heap.setIfInBounds bi o).size; rw [Array.size_setIfInBounds]; exact h.size, fun k hk => by
  show (w1.heap.setIfInBounds bi o)[k]? = _
  rw [set_other (by omega)]
  exact h.block k hk⟩
def w328(w:World)(c:Nat)(hc:c<64):
  Calls Qc 328 #[.int .u8 (c:Int)] w λe w'=>e= .returned (.string ⟨(Es c 6).toArray⟩)∧Below w.heap.size w w':=by
 have hz:(w.alloc (Obj.cells #[Value.pointer none,Value.slice none 0 0] 322)).heap.size=w.heap.size+1:=Array.size_push _
 go_enter func328,ntmps328
 go_wp2
 refine wp_loop_n (λn a w'=>∃k,k<=6∧n=6-k∧J328 w c k a w') ?_ (n:=6) ⟨0,by omega,rfl,⟨⟨_,_,_,_,_,_,_,_,_,_,_,_,_,rfl⟩,?_,?_,?_⟩⟩
 ·rintro n a w1 ⟨k,hk,rfl,⟨x4,x5,x7,x8,x9,x10,x11,x12,x13,x14,x15,x16,x17,rfl⟩,hi,hb,hB⟩
  go_wp2
  by_cases h6:k<6
  ·rw[run_next_at hi (by show k<6;exact h6),dec_six k h6];simp only[Result.andThen];rw[Oper.upon_value];have hbit:=bit_six c hc k h6;have hpl:=pickL_len c k;have hi2:(w1.heap.setIfInBounds (w.heap.size+1) (.stringIter ⟨#[114,119,100,120,108,115]⟩ (k+1)))[w.heap.size+1]?=some (.stringIter ⟨#[114,119,100,120,108,115]⟩ (k+1)):=by
    have hlt:w.heap.size+1<w1.heap.size:=(Array.getElem?_eq_some_iff.1 hi).1;rw[Q2,if_pos rfl,if_pos hlt]
   have hb2:=bldF_set (o:= .stringIter ⟨#[114,119,100,120,108,115]⟩ (k+1)) hb hi;have hB2:=below_set (o:= .stringIter ⟨#[114,119,100,120,108,115]⟩ (k+1)) hB (Nat.le_succ w.heap.size);by_cases hcn:c / 2 ^ k % 2=1
   ·rw[decide_eq_true hcn]at hbit
    go_wp2_with fail
    refine(Go.Proofs.Any.Builder_WriteRune_k runes168 Tryz.runesX w.heap.size w.heap.size (Lib.byteCells (Es c k)) _ (by have:=(six[k]?.getD 0).toNat_lt;omega) (by have:=(six[k]?.getD 0).toNat_lt;omega) _ hb2 (by simp[Lib.byteCells];omega) hB2.size).mono ?_;rintro e w3 ⟨rfl,h3,hb3,hk3⟩;rw[rune_six k h6]at h3
    go_wp2
    refine⟨6-(k+1),by omega,k+1,by omega,rfl,⟨⟨_,_,_,_,_,_,_,_,_,_,_,_,_,rfl⟩,?_,?_,hB2.trans hb3⟩⟩
    ·exact hk3 _ _ hi2 (by simp) (λ_ _=>by simp)
    ·refine .inr ?_;have e:Es c (k+1)=Es c k++[six.getD k 0]:=by simp only[Es,hcn,if_true]
     rw[e];have e2:Lib.byteCells (Es c k++[six.getD k 0])=Lib.byteCells (Es c k)++Lib.byteCells [six.getD k 0]:=by simp[Lib.byteCells]
     rw[e2];exact h3
   ·rw[decide_eq_false hcn]at hbit
    go_wp2_with fail
    refine⟨6-(k+1),by omega,k+1,by omega,rfl,⟨⟨_,_,_,_,_,_,_,_,_,_,_,_,_,rfl⟩,hi2,?_,hB2⟩⟩;have e:Es c (k+1)=Es c k:=by simp only[Es,hcn,if_false,QD]
    rw[e];exact hb2
  ·rw[run_next_out hi (by show ¬k<6;exact h6)];simp only[Result.andThen];rw[Oper.upon_value];obtain rfl:k=6:=by omega
   go_wp2_with fail
   refine(Go.Proofs.Any.Builder_String_any_f runes169 Tryz.runesX w.heap.size w.heap.size (Es c 6) w1 hb hB.size).mono ?_;rintro e w3 ⟨rfl,_,hb3⟩
   go_wp2
   go_ret
   exact⟨rfl,hB.trans hb3⟩
 ·have e:=heap_alloc_new (w.alloc (Obj.cells #[Value.pointer none,Value.slice none 0 0] 322)) (.stringIter ⟨#[114,119,100,120,108,115]⟩ 0);rw[hz]at e;exact e
 ·refine .inl ⟨QS _,.slice none 0 0,?_,World.ownsRowF_nil _ _ _ _,by simp[Value.ownBlock]⟩;have:=heap_alloc_new w (Obj.cells #[Value.pointer none,Value.slice none 0 0] 322);exact(Below.heap_alloc _ _ _ (by rw[hz];omega)).trans this
 ·exact((Below.refl _ w).alloc (QS _) _).alloc (by rw[hz];omega) _
def eqBs:List UInt8->List UInt8->Bool
 |[],[]=>true
 |a::r,b::s=>a==b&&eqBs r s
 |_,_=>false
def eqBs_eq:∀{a b:List UInt8},eqBs a b=true->a=b
 |[],[],_=>rfl
 |a::r,b::s,h=>by
  simp only[eqBs,Bool.and_eq_true,beq_iff_eq]at h;rw[h.1,eqBs_eq h.2]
 |[],_::_,h=>by cases h
 |_::_,[],h=>by cases h
def lettersN(c:Nat):List UInt8:=
 (if c % 2=1 then [114]else [])++((if c / 2 % 2=1 then [119]else [])++((if c / 4 % 2=1 then [100]else [])++((if c / 8 % 2=1 then [120]else [])++((if c / 16 % 2=1 then [108]else [])++(if c / 32 % 2=1 then [115]else [])))))
def pick_letters:∀c:Nat,c<64->Es c 6=lettersN c:=by decide+kernel
def lay_calls{c:Nat}(h:c<64)(w:World):Calls Qc 328 #[.int .u8 (c:Nat)] w λe w'=>e= .returned (.string ⟨(lettersN c).toArray⟩)∧Below w.heap.size w w':=by
 have:=w328 w c h;rw[pick_letters c h]at this;exact this
end Go.Ve
namespace Go.Vd
open Go.Proofs Go.RowKit
def join221:joinQ.ok Qc 221:=joinQ_ok lays156 Builder_Extra_156 ⟨_,func221,by kernel_rfl,by kernel_rfl⟩
def joinQ_ex{m:Mem}{i fr:Id}{n:Nat}{l:List Bs}(hn:n=l.length)(h:∀k x,l[k]?=some x->m i k=some (.str x))(h1:l.length<=1000)(h2:CG l<=1000000):
  joinQ.ex ([.row i n,.str [44]]++[]) m fr=some (.str (C5 l),[]):=by
 subst hn;simp only[joinQ,QD];rw[strR_of (j:=0) (λk x hx=>by rw[Qs];exact h k x hx),Qn,if_pos ⟨h1,h2⟩]
def RI.strs{r:Id}{m0 m:Mem}{l:List Bs}(h:RI [] r m0 m l l.length):∀k x,l[k]?=some x->m r k=some (.str x):=by
 intro k x hx;have hk:=(QP.1 hx).1;rw[h.row k hk,if_pos hk];simp[Zr,hx]
def sumL_le{l:List Bs}{b:Nat}(h:∀x∈l,x.length<=b):CG l<=b*l.length:=by
 induction l with
 |nil=>simp[CG]
 |cons x r ih=>
  have h1:=h x (List.mem_cons_self ..);have h2:=ih λy hy=>h y (List.mem_cons_of_mem _ hy)
  simp only[CG,QO,Nat.mul_add];omega
def numB_len(n:Nat):(BZ n).length<=3:=by
 unfold BZ;split
 ·simp
 ·split<;>simp
def FU(l:List Int):List Bs:=l.map λx=>BZ x.toNat
def DT(l:List Int):(FU l).length=l.length:=Qk ..
def F348:List D->Option D:=FX (λp:Bool×List Int=>[.slice p.1 [] (AT p.2)]) (λp=>p.2.length<=1000∧∀x∈p.2,0<=x∧x<1000) (λp=> .str (C5 (FU p.2)))
def F348_eq{nl:Bool}{l:List Int}(h:l.length<=1000)(h2:∀x∈l,0<=x∧x<1000):F348 [.slice nl [] (AT l)]=some (.str (C5 (FU l))):=
 Bq (mk:=λp:Bool×List Int=>[.slice p.1 [] (AT p.2)]) (a:=(nl,l)) (λa b h=>by
  simp only[Qh,D.slice.injEq,true_and,and_true]at h;exact QK h.1 (intsD_inj h.2)) ⟨h,h2⟩
def loop348{S:Summs}{l:List Int}{nl:Bool}{m0:Mem}{Q:Ex->St->Prop}(hb:l.length<=1000)(hx:∀x∈l,0<=x∧x<1000)(s346:S 346=some (Ac F346))
  (hexit:∀st,st.s 3= .row [3] l.length->RI [] [3] m0 st.m (FU l) l.length->Q (.exit 0) st):
  ∀(f j:Nat) st g,l.length=j+f->st.s 3= .row [3] l.length->st.s 9= .slice nl [] (AT l)->st.s 10= .int .i64 (l.length:Int)->st.s 11= .int .i64 (j:Int)->RI [] [3] m0 st.m (FU l) j->A4 S [] dc348l0 Q st g:=by
 intro f;induction f with
 |zero=>
  intro j st g hf h3 h9 h10 h11 I;refine Ae dc348l0.eq_1 ?_;have:¬((j:Int)<l.length):=by omega
  simp only[↓go1,go2,go4,reduceIte,Qd,h10,h11,this];exact hexit _ h3 (by rw[show l.length=j by omega];exact I)
 |succ f ih=>
  intro j st g hf h3 h9 h10 h11 I;refine Ae dc348l0.eq_1 ?_;have hj:j<l.length:=by omega
  have hlt:((j:Int)<l.length):=by omega
  have hj0:=nJ (j:=j);have hw:=wJ (j:=j) (by omega);have hmem:=hx l[j] (QI hj);obtain⟨n,hn⟩:∃n:Nat,l[j]=(n:Int):=⟨l[j].toNat,by omega⟩;have hat:(AT l)[j]?=some (.int .i64 (n:Int)):=by simp[AT,Qg hj,hn]
  have hg:(FU l).getD j []=BZ n:=by simp[FU,Qg hj,hn]
  have h346:=F346_eq (n:=n) (by omega);have hrow:=I.row j (by rw[DT];exact hj);rw[if_neg (by omega)]at hrow;obtain⟨st_s,st_m,st_c⟩:=st;simp only at h3 h9 h10 h11 hrow I;simp only[↓go1,gB2,reduceIte,Qa,Qd,h3,h9,h10,h11,hlt,hj0,hw,Qf,hat,hrow,Aa s346,h346,Ap,Aq,gB3,Qs,and_self,Qn,Qp,List.head?_cons];refine ih (j+1) _ _ (by omega) h3 h9 h10 rfl ?_;rw[←hg];exact I.fill (List.nil_suffix)
def ok348:(Ac F348).ok Qc 348:=by
 obtain⟨S,hS,hl⟩:=A6 (Ab ok346 (Ab join221 Ad));have s346:=hl 346 _ rfl;have s221:=hl 221 _ rfl;clear hl;refine Bx hS fn348 (λ_=>by simp) (λp hp=>?_);obtain⟨nl,l⟩:=p;obtain⟨hl,hx⟩:=hp;simp only at hl hx;have hn0:((0:Int)<=(l.length:Int)):=by omega
 have hnb:((l.length:Int)*(((16:Nat):Int)+1)<=140737488355328)=True:=eq_true (by omega);unfold dc348;simp only[↓go1,go2,go3,reduceIte,Qa,Qd,hn0,hnb,Cb,Qf,Zt,gB3,Qs,and_self];refine loop348 (l:=l) (nl:=nl) (m0:=λ_ _=>none) hl hx s346 (λst h3 I=>?_) l.length 0 _ _ (by omega) rfl rfl rfl rfl ?_
 ·simp only[↓go1,go2,go4,reduceIte,Qd,h3];rw[Ah s221];rw[←DT]at I;have hs:CG (FU l)<=1000000:=by
   have:=sumL_le (l:=FU l) (b:=3) λx hx=>by
    obtain⟨y,_,rfl⟩:=QJ.1 hx;exact numB_len _
   rw[DT]at this;omega
  refine Got.intro (joinQ_ex (DT l).symm I.strs (by rw[DT];exact hl) hs) ?_;simp only[↓go1,gB2,reduceIte,Qa,Qd]
  all_goals first|rfl|exact⟨rfl,rfl⟩
 ·exact RI.start (DT l).symm
open Classical in
def F328:List D->Option D
 |[.int .u8 c]=>if 0<=c∧c<64 then some (.str (Go.Ve.lettersN c.toNat))else none
 |_=>none
def ok328:(Ac F328).ok Qc 328:=by
 refine⟨⟨_,func328,by kernel_rfl,by kernel_rfl⟩,λds m m' fr _=>rfl,?_⟩;intro B w0 w m g fr ds vs r u hi hfresh hl hrep hex;simp only[Ac]at hex;split at hex
 ·rw[Zd]at hex;obtain⟨r',hr,hex⟩:=hex;simp only[Q9]at hex;obtain⟨rfl,rfl⟩:=hex;unfold F328 at hr;split at hr
  ·rename_i c e;split at hr
   ·rename_i hc;simp only[Qr]at hr;subst hr
    match ds,vs,hl with
    |[d],[v],_=>
     have hd:d= .int .u8 c:=by
      simp only[Q_,Zq,Qh,and_true]at e;cases d<;>simp[D.un]at e;rw[e.1,e.2]
     subst hd;have hv:=(hrep 0 _ v rfl rfl).int_inv;subst hv;have hcc:((c.toNat:Nat):Int)=c:=Qu hc.1;have:=Go.Ve.lay_calls (c:=c.toNat) (by omega) w;rw[hcc]at this;refine this.mono ?_;rintro e w' ⟨rfl,hb⟩;exact⟨_,g.over w w',rfl,hi.over hb,Ext.over hi.gz hb,.str _,λi hf _=>hf⟩
    |[],_,_=>simp at e
    |_::_::_,_,_=>simp at e
   ·cases hr
  ·cases hr
 ·cases hex
def rulesE_zero{l:List Rl}:∀f j,CW l f j=0->∀i,j<=i->i<j+f->i<l.length->(Bp l i).2<=63
 |0,j,_,i,h1,h2,_=>by omega
 |f+1,j,h,i,h1,h2,hi=>by
  unfold CW at h;rw[if_pos (by omega)]at h;split at h
  ·rename_i hc;exact absurd h hc
  ·rename_i hc;rcases Nat.eq_or_lt_of_le h1 with rfl|h1
   ·have hc:EM (Bp l j) (l.take j)=0:=by
     rcases Classical.em (EM (Bp l j) (l.take j)=0)with h|h
     ·exact h
     ·exact absurd h hc
    unfold EM at hc;split at hc
    ·rename_i h9;exact absurd hc h9.2
    ·split at hc
     ·omega
     ·omega
   ·exact rulesE_zero f (j+1) h i (by omega) (by omega) hi
def polE_zero{l:List Rl}(h:Cm l=0):l.length<=4∧∀r∈l,r.2<=63:=by
 unfold Cm at h;split at h
 ·cases h
 ·refine⟨by omega,λr hr=>?_⟩;obtain⟨i,hi,rfl⟩:=Q4 hr;have:=rulesE_zero l.length 0 h i (Qv _) (by omega) hi;simpa[Bp,Qg hi]using this
def ruleB(r:Rl):Bs:=r.1++[58]++Go.Ve.lettersN r.2.toNat
def B2(l:List Rl):List Bs:=l.map ruleB
def CH(l:List Rl):(B2 l).length=l.length:=Qk ..
def Fk(n:Nat):(Go.Ve.lettersN n).length<=6:=by
 unfold Go.Ve.lettersN;have h:∀(c:Prop)[Decidable c](x:UInt8),(if c then [x]else []).length<=1:=by
  intro c _ x;split<;>simp
 simp only[Qo];have h1:=h (n % 2=1) 114;have h2:=h (n / 2 % 2=1) 119;have h3:=h (n / 4 % 2=1) 100;have h4:=h (n / 8 % 2=1) 120;have h5:=h (n / 16 % 2=1) 108;have h6:=h (n / 32 % 2=1) 115;omega
def loop232{S:Summs}{l:List Rl}{nl:Bool}{m0:Mem}{Q:Ex->St->Prop}(hb:l.length<=4)(hx:∀r∈l,r.1.length<=1000∧0<=r.2∧r.2<64)(s328:S 328=some (Ac F328))
  (hexit:∀st,st.s 5= .row [9] l.length->RI [] [9] m0 st.m (B2 l) l.length->Q (.exit 0) st):
  ∀(f j:Nat) st g,l.length=j+f->10<=st.c->st.s 5= .row [9] l.length->st.s 16= .slice nl [] (Al l)->st.s 17= .int .i64 (l.length:Int)->st.s 18= .int .i64 (j:Int)->RI [] [9] m0 st.m (B2 l) j->A4 S [] dc232l0 Q st g:=by
 intro f;induction f with
 |zero=>
  intro j st g hf hc h5 h16 h17 h18 I;refine Ae dc232l0.eq_1 ?_;have:¬((j:Int)<l.length):=by omega
  simp only[↓go1,go2,go4,reduceIte,Qd,h17,h18,this];exact hexit _ h5 (by rw[show l.length=j by omega];exact I)
 |succ f ih=>
  intro j st g hf hc h5 h16 h17 h18 I;refine Ae dc232l0.eq_1 ?_;have hj:j<l.length:=by omega
  have hlt:((j:Int)<l.length):=by omega
  have hj0:=nJ (j:=j);have hw:=wJ (j:=j) (by omega);obtain⟨hm1,hm2,hm3⟩:=hx l[j] (QI hj);have hat:(Al l)[j]?=some (.agg [.str l[j].1,.int .u8 l[j].2]):=by simp[Al,rlD,Qg hj]
  have hg:(B2 l).getD j []=ruleB l[j]:=by simp[B2,Qg hj]
  generalize l[j]=r at hm1 hm2 hm3 hat hg;have h328:F328 [.int .u8 r.2]=some (.str (Go.Ve.lettersN r.2.toNat)):=if_pos ⟨hm2,hm3⟩;have hrow:=I.row j (by rw[CH];exact hj);rw[if_neg (by omega)]at hrow;have hll:=Fk r.2.toNat;have l1:(r.1.length+1<=9223372036854775807)=True:=eq_true (by omega);have l2:(r.1.length+1+(Go.Ve.lettersN r.2.toNat).length<=9223372036854775807)=True:=eq_true (by omega);have hne1:([st.c+1+3]=([9]:Id))=False:=eq_false (by simp;omega);have hne2:(([9]:Id)=[st.c+1+3])=False:=eq_false (by simp;omega);obtain⟨st_s,st_m,st_c⟩:=st;simp only at h5 h16 h17 h18 hrow I hc hne1 hne2;simp only[↓go1,gB0,reduceIte,Qa,Qd,h5,h16,h17,h18,hlt,hj0,Qf,hat,hrow,Aa s328,h328,hne2,l1,l2,QS,Qo,Af,Ap,Aq,Ql,Qe,Qn,Q3,QU,Qp,false_and];refine Ao.intro (Aj rfl) ?_;simp only[↓go1,go2,go3,reduceIte,Qa,Qd,h18,hw];refine ih (j+1) _ _ (by omega) (by simp only;omega) h5 h16 h17 rfl ?_;have hb':r.1++[58]++Go.Ve.lettersN r.2.toNat=(B2 l).getD j []:=hg.symm;rw[hb'];exact((I.put (by simp;omega)).put (by simp;omega)).fill (List.nil_suffix)
def F232:List D->Option D:=FX (λp:Bool×List Rl=>[.slice p.1 [] (Al p.2)]) (λp=>p.2.length<=1000000∧∀r∈p.2,r.1.length<=1000∧0<=r.2)
 (λp=> .tup [.str (if Cm p.2=0 then C5 (B2 p.2)else []),.int .i64 (Cm p.2)])
def F232_eq{nl:Bool}{l:List Rl}(h:l.length<=1000000)(h2:∀r∈l,r.1.length<=1000∧0<=r.2):F232 [.slice nl [] (Al l)]=some (.tup [.str (if Cm l=0 then C5 (B2 l)else []),.int .i64 (Cm l)]):=
 Bq (mk:=λp:Bool×List Rl=>[.slice p.1 [] (Al p.2)]) (a:=(nl,l)) (λa b h=>by
  simp only[Qh,D.slice.injEq,true_and,and_true]at h;exact QK h.1 (rlsD_inj h.2)) ⟨h,h2⟩
open Classical in
def Fpol_eq'{nl:Bool}{l:List Rl}(h:l.length<=1000000)(h2:∀r∈l,r.1.length<=1000∧0<=r.2):Fpol [.slice nl [] (Al l)]=some (.int .i64 (Cm l)):=by
 have hc:Al l=Al (Bb (Al l))∧(Al l).length<=1000000∧BJ (Bb (Al l)):=by
  rw[AR,As];exact⟨rfl,h,λr hr=>Nat.le_trans (h2 r hr).1 (by omega)⟩
 show(if _ then _ else _)=_;rw[if_pos hc,AR]
def ok232:(Ac F232).ok Qc 232:=by
 obtain⟨S,hS,hl⟩:=A6 (Ab ok214 (Ab ok328 (Ab join221 Ad)));have s214:=hl 214 _ rfl;have s328:=hl 328 _ rfl;have s221:=hl 221 _ rfl;clear hl;refine Bx hS fn232 (λ_=>by simp) (λp hp=>?_);obtain⟨nl,l⟩:=p;obtain⟨hl,hx⟩:=hp;simp only at hl hx;have h214:=Fpol_eq' (nl:=nl) hl hx;have hz:=polE_zero (l:=l);simp only;unfold dc232;generalize Cm l=e at h214 hz;by_cases he:e=0
 ·subst he;obtain⟨h4,h63⟩:=hz rfl;have hn0:((0:Int)<=(l.length:Int)):=by omega
  have hnb:((l.length:Int)*(((16:Nat):Int)+1)<=140737488355328)=True:=eq_true (by omega);simp only[↓go1,gB2,reduceIte,Qa,Qd,Aa s214,h214,hn0,hnb,As,Qf,Zt,gB3,Qs,and_self];refine loop232 (l:=l) (nl:=nl) (m0:=λ_ _=>none) h4 (λr hr=>⟨(hx r hr).1,(hx r hr).2,by have:=h63 r hr;omega⟩) s328 (λst h5 I=>?_) l.length 0 _ _ (by omega) (by simp only;omega) rfl rfl rfl rfl ?_
  ·simp only[↓go1,go2,go4,reduceIte,Qd,h5];rw[Ah s221];rw[←CH]at I;have hs:CG (B2 l)<=1000000:=by
    have:=sumL_le (l:=B2 l) (b:=1007) λx hx'=>by
     obtain⟨y,hy,rfl⟩:=QJ.1 hx';have h1:=(hx y hy).1;have h2:=Fk y.2.toNat;simp only[ruleB,Qo,gB3];omega
    rw[CH]at this;omega
   refine Got.intro (joinQ_ex (CH l).symm I.strs (by rw[CH];omega) hs) ?_;simp only[↓go1,gB2,reduceIte,Qa,Qd]
   all_goals first|rfl|exact⟨rfl,rfl⟩
  ·exact RI.start (CH l).symm
 ·simp only[↓go1,gB2,reduceIte,Qa,Qd,Aa s214,h214,he,and_self]
  all_goals first|rfl|exact⟨rfl,rfl⟩
end Go.Vd
namespace Go.Vd
open Go.Proofs
def dc151:=y0 f151 [] []
def fn151:Fn Qc 151 30 dc151 [.cell (some 2) 2]:=Am func151
def dc152:=y0 f152 [] []
def fn152:Fn Qc 152 58 dc152 [.t 4]:=Am func152
def dc153:=y0 f153 [] []
def fn153:Fn Qc 153 38 dc153 [.cell (some 11) 4]:=Am func153
def dc154:=y0 f154 [] []
def fn154:Fn Qc 154 82 dc154 [.t 4]:=Am func154
def dc155l0:=y1 f155 4 [] []
def dc155:=y0 f155 [] [(4,dc155l0)]
def fn155:Fn Qc 155 25 dc155 [.t 2]:=Am func155
def dc263:=y0 f263 [] []
def fn263:Fn Qc 263 63 dc263 [.t 4]:=Am func263
def dc68l0:=y1 f68 7 [] []
def dc68:=y0 f68 [] [(7,dc68l0)]
def fn68:Fn Qc 68 39 dc68 [.t 2]:=Am func68
end Go.Vd
namespace Go.Vd
open Go.Proofs Go.RowKit
def ascii_dec{s:Bs}{p:Nat}{c:UInt8}(h:s[p]?=some c)(hc:c.toNat<128):Utf8.decode ⟨s.toArray⟩ p=(c.toNat,1):=by
 have hp:=(QP.1 h).1;have ha:at' s p=c.toNat:=by simp[at',h]
 unfold Utf8.decode;simp only[get_at,Nat.add_zero,ha,hc,if_true]
def forms:List (Bs×Bs):=[([],[]),([115,116,97,116,117,115],[]),([117,110,115,101,97,108],[107]),([115,101,97,108],[116]),([114,111,116,97,116,101],[116]),([109,111,117,110,116],[116,112,110,102]),([117,110,109,111,117,110,116],[116,112]),([109,97,107,101],[116,109,114]),([114,101,118,111,107,101],[116,109]),([114,101,97,100],[116,112,110]),([119,114,105,116,101],[116,112,99,100]),([100,101,108,101,116,101],[116,112,108]),([117,110,100,101,108,101,116,101],[116,112,108]),([100,101,115,116,114,111,121],[116,112,108]),([109,101,116,97],[116,112]),([99,111,110,102,105,103],[116,112,110,102]),([112,117,114,103,101],[116,112]),([108,105,115,116],[116,112]),([99,111,112,121],[116,112,113])]
def formW(op:Int):Bs:=(forms.getD op.toNat ([],[])).1
def CS(op:Int):Bs:=(forms.getD op.toNat ([],[])).2
def isForm(p:Bs×Bs):Option D->Bool
 |some (.agg [.str a,.str b])=>Go.Ve.eqBs a p.1&&Go.Ve.eqBs b p.2
 |_=>false
def R151:List D->Option D:=funRun (λ_=>none) 30 dc151 [.cell (some 2) 2] 60
def ok151:(Ac R151).ok Qc 151:=funRun_ok AK fn151 60
def R151_all:(List.range 256).all (λop=>isForm (forms.getD op ([],[])) (R151 [.int .u8 (op:Nat)]))=true:=by kernel_rfl
def R151_eq{op:Int}(h0:0<=op)(h:op<256):R151 [.int .u8 op]=some (.agg [.str (formW op),.str (CS op)]):=by
 have:=QE.1 R151_all op.toNat (by simp;omega);rw[Qu h0]at this;unfold formW CS;generalize R151 [.int .u8 op]=r at this;unfold isForm at this;split at this
 ·rw[Bool.and_eq_true]at this;rw[Go.Ve.eqBs_eq this.1,Go.Ve.eqBs_eq this.2]
 ·cases this
structure AkOk (a:Ak):Prop where
 op0:0<=a.op
 op:a.op<256
 tk:a.tk.length<=1000
 pa:a.pa.length<=1000
 ot:a.ot.length<=1000
 ns:a.ns.length<=1000
 da:a.da.length<=1000
 rl:a.rs.length<=1000
 rs:∀r∈a.rs,r.1.length<=1000∧0<=r.2
 key:a.key.length<=1000
def BV(a:Ak)(c:Int):Int:=if c=116 then Fq (Bz a.tk)else if c=109 then Fq (Bz a.ot)else if c=112 then AP a.pa else if c=113 then AP a.ot else if c=110 then Fq (decide (0<=a.n∧a.n<=999))else if c=99 then Fq (decide (-1<=a.cas∧a.cas<=999))else if c=108 then Fq (countB a.ns)else if c=114 then Cm a.rs else if c=107 then Fq (decide ((a.key.length:Int)=16))else 0
def F152:List D->Option D:=FX (λp:Ak×Int=>[akD p.1,.int .i32 p.2]) (λp=>AkOk p.1) (λp=> .int .i64 (BV p.1 p.2))
def F152_eq{a:Ak}{c:Int}(h:AkOk a):F152 [akD a,.int .i32 c]=some (.int .i64 (BV a c)):=
 Bq (mk:=λp:Ak×Int=>[akD p.1,.int .i32 p.2]) (a:=(a,c)) (λx y e=>by
  simp only[Qh,D.int.injEq,true_and,and_true]at e;exact QK (EF e.1) e.2) h
def ok152:(Ac F152).ok Qc 152:=by
 obtain⟨S,hS,hl⟩:=A6 (Ab ok258 (Ab ok257 (Ab ok201 (Ab ok259 (Ab ok260 (Ab ok214 Ad))))));have s258:=hl 258 _ rfl;have s257:=hl 257 _ rfl;have s201:=hl 201 _ rfl;have s259:=hl 259 _ rfl;have s260:=hl 260 _ rfl;have s214:=hl 214 _ rfl;clear hl;refine Bx hS fn152 (λ_=>by simp) (λp hp=>?_);obtain⟨a,c⟩:=p;simp only at hp;have hT:=F258_eq (s:=a.tk) (by have:=hp.tk;omega);have hO:=F258_eq (s:=a.ot) (by have:=hp.ot;omega);have hP:F201 [.str a.pa]=some (.int .i64 (AP a.pa)):=if_pos (by have:=hp.pa;omega);have hQ:F201 [.str a.ot]=some (.int .i64 (AP a.ot)):=if_pos (by have:=hp.ot;omega);have hN:F259 [.int .i64 a.n,.int .i64 0,.int .i64 999]=some (.bool (decide (0<=a.n∧a.n<=999))):=rfl;have hC:F259 [.int .i64 a.cas,.int .i64 (-1),.int .i64 999]=some (.bool (decide (-1<=a.cas∧a.cas<=999))):=rfl;have hL:=F260_eq (nl:=a.nln) (l:=a.ns) (by have:=hp.ns;omega);have hR:=Fpol_eq' (nl:=a.nlr) (l:=a.rs) (by have:=hp.rl;omega) hp.rs;unfold BV dc152 akD akC;simp only;by_cases h116:c=116
 ·subst h116;simp only[↓go1,gB0,simprocAttr,Aa s258,hT,Aa s257,F257_eq,Af,Qe]
  all_goals first|rfl|exact⟨rfl,rfl⟩
 have g116:decide (c=116)=false:=by simpa using h116
 by_cases h109:c=109
 ·subst h109;simp only[↓go1,gB0,simprocAttr,Aa s258,hO,Aa s257,F257_eq,Af,Qe]
  all_goals first|rfl|exact⟨rfl,rfl⟩
 have g109:decide (c=109)=false:=by simpa using h109
 by_cases h112:c=112
 ·subst h112;simp only[↓go1,gB0,simprocAttr,Aa s201,hP,Af,Qe]
  all_goals first|rfl|exact⟨rfl,rfl⟩
 have g112:decide (c=112)=false:=by simpa using h112
 by_cases h113:c=113
 ·subst h113;simp only[↓go1,gB0,simprocAttr,Aa s201,hQ,Af,Qe]
  all_goals first|rfl|exact⟨rfl,rfl⟩
 have g113:decide (c=113)=false:=by simpa using h113
 by_cases h110:c=110
 ·subst h110;simp only[↓go1,gB0,simprocAttr,Aa s259,hN,Aa s257,F257_eq,Af,Qe]
  all_goals first|rfl|exact⟨rfl,rfl⟩
 have g110:decide (c=110)=false:=by simpa using h110
 by_cases h99:c=99
 ·subst h99;simp only[↓go1,gB0,simprocAttr,Aa s259,hC,Aa s257,F257_eq,Af,Qe]
  all_goals first|rfl|exact⟨rfl,rfl⟩
 have g99:decide (c=99)=false:=by simpa using h99
 by_cases h108:c=108
 ·subst h108;simp only[↓go1,gB0,simprocAttr,Aa s260,hL,Aa s257,F257_eq,Af,Qe]
  all_goals first|rfl|exact⟨rfl,rfl⟩
 have g108:decide (c=108)=false:=by simpa using h108
 by_cases h114:c=114
 ·subst h114;simp only[↓go1,gB0,simprocAttr,Aa s214,hR,Af,Qe]
  all_goals first|rfl|exact⟨rfl,rfl⟩
 have g114:decide (c=114)=false:=by simpa using h114
 by_cases h107:c=107
 ·subst h107;simp only[↓go1,gB0,simprocAttr,Aa s257,F257_eq,Af,Qe]
  all_goals first|rfl|exact⟨rfl,rfl⟩
 have g107:decide (c=107)=false:=by simpa using h107
 simp only[↓go1,gB2,simprocAttr,h116,h109,h112,h113,h110,h99,h108,h114,h107,Qs,and_self]
 all_goals first|rfl|exact⟨rfl,rfl⟩
def D5(a:Ak)(c:Int):Ak:=if c=116 then {a with tk:=[]}else if c=112 then {a with pa:=[]}else if c=109∨c=113 then {a with ot:=[]}else if c=110 then {a with n:=0}else if c=99 then {a with cas:=0}else if c=102 then {a with fl:=false}else if c=108 then {a with nln:=true,ns:=[]}else if c=100 then {a with da:=[]}else if c=114 then {a with nlr:=true,rs:=[]}else if c=107 then {a with key:=[]}else a
def F153:List D->Option D:=FX (λp:Ak×Int=>[akD p.1,.int .i32 p.2]) (λp=>True) (λp=>akD (D5 p.1 p.2))
def F153_eq{a:Ak}{c:Int}:F153 [akD a,.int .i32 c]=some (akD (D5 a c)):=
 Bq (mk:=λp:Ak×Int=>[akD p.1,.int .i32 p.2]) (a:=(a,c)) (λx y e=>by
  simp only[Qh,D.int.injEq,true_and,and_true]at e;exact QK (EF e.1) e.2) trivial
def ok153:(Ac F153).ok Qc 153:=by
 refine Bx (S:=λ_=>none) AK fn153 (λ_=>by simp) (λp hp=>?_);obtain⟨a,c⟩:=p;unfold D5 dc153 akD akC;simp only;by_cases h116:c=116
 ·subst h116;simp only[↓go1,gB0,simprocAttr,or_self,Af,Ap,Aq,Qe,Qn,Qp,Qh,Qj,and_false,Qi,Bk,AX]
  all_goals first|rfl|exact⟨rfl,rfl⟩
 by_cases h112:c=112
 ·subst h112;simp only[↓go1,gB0,simprocAttr,or_self,Af,Ap,Aq,Qe,Qn,Qp,Qh,Qj,and_false,Qi,Bk,AX]
  all_goals first|rfl|exact⟨rfl,rfl⟩
 by_cases h109:c=109
 ·subst h109;simp only[↓go1,gB0,simprocAttr,true_or,Af,Ap,Aq,Qe,Qn,Qp,Qh,Qj,and_false,Qi,Bk,AX]
  all_goals first|rfl|exact⟨rfl,rfl⟩
 by_cases h113:c=113
 ·subst h113;simp only[↓go1,gB0,simprocAttr,or_true,Af,Ap,Aq,Qe,Qn,Qp,Qh,Qj,and_false,Qi,Bk,AX]
  all_goals first|rfl|exact⟨rfl,rfl⟩
 by_cases h110:c=110
 ·subst h110;simp only[↓go1,gB0,simprocAttr,or_self,Af,Ap,Aq,Qe,Qn,Qp,Qh,Qj,and_false,Qi,Bk,AX]
  all_goals first|rfl|exact⟨rfl,rfl⟩
 by_cases h99:c=99
 ·subst h99;simp only[↓go1,gB0,simprocAttr,or_self,Af,Ap,Aq,Qe,Qn,Qp,Qh,Qj,and_false,Qi,Bk,AX]
  all_goals first|rfl|exact⟨rfl,rfl⟩
 by_cases h102:c=102
 ·subst h102;simp only[↓go1,gB0,simprocAttr,or_self,Af,Ap,Aq,Qe,Qn,Qp,Qh,Qj,and_false,Qi,Bk,AX]
  all_goals first|rfl|exact⟨rfl,rfl⟩
 by_cases h108:c=108
 ·subst h108;simp only[↓go1,gB0,simprocAttr,or_self,Af,Ap,Aq,Qe,Qn,Qp,Qh,Qj,and_false,Qi,Bk,AX]
  all_goals first|rfl|exact⟨rfl,rfl⟩
 by_cases h100:c=100
 ·subst h100;simp only[↓go1,gB0,simprocAttr,or_self,Af,Ap,Aq,Qe,Qn,Qp,Qh,Qj,and_false,Qi,Bk,AX]
  all_goals first|rfl|exact⟨rfl,rfl⟩
 by_cases h114:c=114
 ·subst h114;simp only[↓go1,gB0,simprocAttr,or_self,Af,Ap,Aq,Qe,Qn,Qp,Qh,Qj,and_false,Qi,Bk,AX]
  all_goals first|rfl|exact⟨rfl,rfl⟩
 by_cases h107:c=107
 ·subst h107;simp only[↓go1,gB0,simprocAttr,or_self,Af,Ap,Aq,Qe,Qn,Qp,Qh,Qj,and_false,Qi,Bk,AX]
  all_goals first|rfl|exact⟨rfl,rfl⟩
 simp only[↓go1,gB0,simprocAttr,h116,h112,h109,h113,h110,h99,h102,h108,h100,h114,h107,or_self,Af,Ap,Aq,Qe,Qn,Qp,Qh,Qj,Qi,Bk,AX]
 all_goals first|rfl|exact⟨rfl,rfl⟩
def orN(s:Bs):Bs:=if s=[]then [45]else s
def layA(a:Ak)(c:Int):Bs:=if c=116 then a.tk else if c=112 then a.pa else if c=109∨c=113 then a.ot else if c=110 then BZ a.n.toNat else if c=99 then(if a.cas=-1 then [45]else BZ a.cas.toNat)
 else if c=102 then(if a.fl=true then [49]else [48])else if c=108 then orN (C5 (FU a.ns))else if c=100 then orN (Fa a.da)else if c=114 then orN (if Cm a.rs=0 then C5 (B2 a.rs)else [])else Fa a.key
structure LayOk (a:Ak) (c:Int):Prop where
 n:c=110->0<=a.n∧a.n<1000
 cas:c=99->-1<=a.cas∧a.cas<1000
 ns:c=108->∀x∈a.ns,0<=x∧x<1000
def F263:List D->Option D:=FX (λp:Ak×Int=>[akD p.1,.int .i32 p.2]) (λp=>AkOk p.1∧LayOk p.1 p.2) (λp=> .str (layA p.1 p.2))
def F263_eq{a:Ak}{c:Int}(h:AkOk a)(h2:LayOk a c):F263 [akD a,.int .i32 c]=some (.str (layA a c)):=
 Bq (mk:=λp:Ak×Int=>[akD p.1,.int .i32 p.2]) (a:=(a,c)) (λx y e=>by
  simp only[Qh,D.int.injEq,true_and,and_true]at e;exact QK (EF e.1) e.2) ⟨h,h2⟩
def ok263:(Ac F263).ok Qc 263:=by
 obtain⟨S,hS,hl⟩:=A6 (Ab ok346 (Ab ok347 (Ab ok348 (Ab ok317 (Ab ok232 Ad)))));have s346:=hl 346 _ rfl;have s347:=hl 347 _ rfl;have s348:=hl 348 _ rfl;have s317:=hl 317 _ rfl;have s232:=hl 232 _ rfl;clear hl;refine Bx hS fn263 (λ_=>by simp) (λp hp=>?_);obtain⟨a,c⟩:=p;obtain⟨hp,hN,hC,hL⟩:=hp;simp only at hp hN hC hL;unfold layA orN dc263 akD akC;simp only;by_cases h116:c=116
 ·subst h116;simp only[↓go1,gB0,simprocAttr,or_self,Af,Qe]
  all_goals first|rfl|exact⟨rfl,rfl⟩
 by_cases h112:c=112
 ·subst h112;simp only[↓go1,gB0,simprocAttr,or_self,Af,Qe]
  all_goals first|rfl|exact⟨rfl,rfl⟩
 by_cases h109:c=109
 ·subst h109;simp only[↓go1,gB0,simprocAttr,true_or,Af,Qe]
  all_goals first|rfl|exact⟨rfl,rfl⟩
 by_cases h113:c=113
 ·subst h113;simp only[↓go1,gB0,simprocAttr,or_true,Af,Qe]
  all_goals first|rfl|exact⟨rfl,rfl⟩
 by_cases h110:c=110
 ·subst h110;have hn:=hN rfl;obtain⟨n,hn'⟩:∃n:Nat,a.n=(n:Int):=⟨a.n.toNat,by omega⟩;have h346:=F346_eq (n:=n) (by omega);rw[hn'];simp only[↓go1,gB0,simprocAttr,Aa s346,h346,Qf,or_self,Af,Qe]
  all_goals first|rfl|exact⟨rfl,rfl⟩
 by_cases h99:c=99
 ·subst h99;have hc:=hC rfl;by_cases h1:a.cas=-1
  ·rw[h1];simp only[↓go1,gB0,simprocAttr,or_self,Af,Qe]
   all_goals first|rfl|exact⟨rfl,rfl⟩
  ·obtain⟨n,hn'⟩:∃n:Nat,a.cas=(n:Int):=⟨a.cas.toNat,by omega⟩;have h346:=F346_eq (n:=n) (by omega);rw[hn']at h1 ⊢;simp only[↓go1,gB0,simprocAttr,h1,Aa s346,h346,Qf,or_self,Af,Qe]
   all_goals first|rfl|exact⟨rfl,rfl⟩
 by_cases h102:c=102
 ·subst h102;cases a.fl<;>simp only[↓go1,gB0,simprocAttr,or_self,Af,Qe]
  all_goals first|rfl|exact⟨rfl,rfl⟩
 by_cases h108:c=108
 ·subst h108;have hl:=hL rfl;have h348:=F348_eq (nl:=a.nln) (l:=a.ns) hp.ns hl;simp only[↓go1,gB0,simprocAttr,Aa s348,h348,Aa s347,F347_eq,or_self,Af,Qe]
  all_goals first|rfl|exact⟨rfl,rfl⟩
 by_cases h100:c=100
 ·subst h100;have h317:=F317_eq (s:=a.da) (by have:=hp.da;omega);simp only[↓go1,gB0,simprocAttr,Aa s317,h317,Aa s347,F347_eq,or_self,Af,Qe]
  all_goals first|rfl|exact⟨rfl,rfl⟩
 by_cases h114:c=114
 ·subst h114;have h232:=F232_eq (nl:=a.nlr) (l:=a.rs) (by have:=hp.rl;omega) hp.rs;simp only[↓go1,gB0,simprocAttr,Aa s232,h232,Aa s347,F347_eq,or_self,Af,Qe]
  all_goals first|rfl|exact⟨rfl,rfl⟩
 have h317:=F317_eq (s:=a.key) (by have:=hp.key;omega);simp only[↓go1,gB0,simprocAttr,Aa s317,h317,h116,h112,h109,h113,h110,h99,h102,h108,h100,h114,or_self,Af,Qe]
 all_goals first|rfl|exact⟨rfl,rfl⟩
def zeroB(a:Ak):Bool:=a.ns.isEmpty&&(a.rs.isEmpty&&(decide (a.op=0)&&(decide (a.tk=[])&&(decide (a.pa=[])&&(decide (a.ot=[])&&(decide (a.n=0)&&(decide (a.cas=0)&&(!a.fl&&(decide (a.da=[])&&decide (a.key=[]))))))))))
def ak0:Ak:=⟨0,[],[],[],0,0,false,true,[],[],true,[],[]⟩
def F154:List D->Option D:=FX (λa:Ak=>[akD a,akD ak0]) (λa=>AkOk a) (λa=> .bool (zeroB a))
def F154_eq{a:Ak}(h:AkOk a):F154 [akD a,akD ak0]=some (.bool (zeroB a)):=
 Bq (mk:=λa:Ak=>[akD a,akD ak0]) (λx y e=>by
  simp only[Qh,and_true]at e;exact EF e) h
def ok262:(Ac F261).ok Qc 262:=by
 obtain⟨S,hS,hl⟩:=A6 (Ab ok345 Ad);have s345:=hl 345 _ rfl;clear hl;refine Bx hS fn262 (λ_=>by simp) (λp hs=>?_);have h345:=F261_eq (nl:=p.1) (nl':=p.2.2) (l:=p.2.1) hs;unfold dc262;by_cases hcm:(([D.slice p.1 [] p.2.1,.slice p.2.2 [] []]:List D).map D.un).all D.calm=true
 ·simp only[↓go1,gB2,simprocAttr,Aa s345,h345,and_self]
  all_goals first|rfl|exact⟨rfl,rfl⟩
 ·exact absurd rfl hcm
theorem ok154 : (Ac F154).ok Qc 154 := by
  obtain ⟨S, hS, hl⟩ := A6 (Ab ok261 (Ab ok262 Ad))
  have s261 := hl 261 _ rfl
  have s262 := hl 262 _ rfl
  clear hl
  refine Bx hS fn154 (fun _ => by simp) (fun a hp => ?_)
  have h261 := F261_eq (nl := a.nln) (nl' := true) (l := AT a.ns) (by rw [Cb]; have := hp.ns; omega)
  have h262 := F261_eq (nl := a.nlr) (nl' := true) (l := Al a.rs) (by rw [As]; have := hp.rl; omega)
  have e1 : (AT a.ns).isEmpty = a.ns.isEmpty := by cases a.ns <;> rfl
  have e2 : (Al a.rs).isEmpty = a.rs.isEmpty := by cases a.rs <;> rfl
  rw [e1] at h261
  rw [e2] at h262
  unfold zeroB dc154 akD akC ak0
  simp only
  generalize a.ns.isEmpty = b1 at h261
  generalize a.rs.isEmpty = b2 at h262
  have n1 : AT ([] : List Int) = [] := rfl
  have n2 : Al ([] : List Rl) = [] := rfl
  cases b1 with
  | false => simp only [↓go1, gB0, simprocAttr, n1, n2, Aa s261, h261, Qy, Af, Qe, Qh, Qj, Qi]
             all_goals first | rfl | exact ⟨rfl, rfl⟩
  | true =>
    cases b2 with
    | false => simp only [↓go1, gB0, simprocAttr, n1, n2, Aa s261, h261, Aa s262, h262, Qy, QG, Af, Qe, Qh, Qj, Qi]
               all_goals first | rfl | exact ⟨rfl, rfl⟩
    | true =>
      simp only [Bool.true_and]
      by_cases g1 : a.op = 0
      · by_cases g2 : a.tk = []
        · by_cases g3 : a.pa = []
          · by_cases g4 : a.ot = []
            · by_cases g5 : a.n = 0
              · by_cases g6 : a.cas = 0
                · cases g7 : a.fl with
                  | false =>
                    by_cases g8 : a.da = []
                    · simp only [↓go1, gB0, simprocAttr, n1, n2, Aa s261, h261, Aa s262, h262, Af, Qe, Qh, Qj, Qi, g1, g2, g3, g4, g5, g6, g8]
                      trace_state
                      all_goals first | rfl | exact ⟨rfl, rfl⟩
                    · simp only [↓go1, gB0, simprocAttr, n1, n2, Aa s261, h261, Aa s262, h262, Qy, QG, Af, Qe, Qh, Qj, Qi, g1, g2, g3, g4, g5, g6, g8]
                      all_goals first | rfl | exact ⟨rfl, rfl⟩
                  | true => simp only [↓go1, gB0, simprocAttr, n1, n2, Aa s261, h261, Aa s262, h262, Qy, QG, Af, Qe, Qh, Qj, Qi, g1, g2, g3, g4, g5, g6]
                            all_goals first | rfl | exact ⟨rfl, rfl⟩
                · simp only [↓go1, gB0, simprocAttr, n1, n2, Aa s261, h261, Aa s262, h262, Qy, QG, Af, Qe, Qh, Qj, Qi, g1, g2, g3, g4, g5, g6]
                  all_goals first | rfl | exact ⟨rfl, rfl⟩
              · simp only [↓go1, gB0, simprocAttr, n1, n2, Aa s261, h261, Aa s262, h262, Qy, QG, Af, Qe, Qh, Qj, Qi, g1, g2, g3, g4, g5]
                all_goals first | rfl | exact ⟨rfl, rfl⟩
            · simp only [↓go1, gB0, simprocAttr, n1, n2, Aa s261, h261, Aa s262, h262, Qy, QG, Af, Qe, Qh, Qj, Qi, g1, g2, g3, g4]
              all_goals first | rfl | exact ⟨rfl, rfl⟩
          · simp only [↓go1, gB0, simprocAttr, n1, n2, Aa s261, h261, Aa s262, h262, Qy, QG, Af, Qe, Qh, Qj, Qi, g1, g2, g3]
            all_goals first | rfl | exact ⟨rfl, rfl⟩
        · simp only [↓go1, gB0, simprocAttr, n1, n2, Aa s261, h261, Aa s262, h262, Qy, QG, Af, Qe, Qh, Qj, Qi, g1, g2]
          all_goals first | rfl | exact ⟨rfl, rfl⟩
      · simp only [↓go1, gB0, simprocAttr, n1, n2, Aa s261, h261, Aa s262, h262, Qy, Af, Qe, Qh, Qj, Qi, g1]
        all_goals first | rfl | exact ⟨rfl, rfl⟩
end Go.Vd
end
