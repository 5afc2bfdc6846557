/-
  A part of the proof: the layers over the model. Nothing in it is assumed.
-/
import Derived.Test.YtfocnoaoekkloaaGreatDoorErrorsP4
import Derived.Test.YtfocnoaoekkloaaGreatDoorProg
import Derived.Shelf.Strings.Repeat
import Derived.WalkKit

set_option linter.unusedSimpArgs false
set_option linter.unusedVariables false
set_option linter.defProp false
set_option maxHeartbeats 4000000
set_option maxRecDepth 100000
open Nat renaming le_of_ble_eq_true→Qa,reduceEqDiff→Qg,zero_add→Qh,succ_ne_zero→Qi,reduceAdd→Qj,zero_le→Qq,zero_ne_one→Qu,reduceLeDiff→QE,le_refl→QF,reduceLT→QL,sub_zero→QX,le_succ_of_le→Zm,lt_of_not_le→Zy,not_lt_zero→ZC
open List renaming getElem?_cons_succ→Qb,getElem?_eq_getElem→Qe,getElem?_cons_zero→Qf,map_cons→Ql,map_nil→Qo,take_succ_cons→Qr,drop_zero→Qs,length_append→Qt,take_zero→Qv,take_of_length_le→Qw,mem_cons→Qx,mem_singleton→Qy,drop_succ_cons→Qz,length_cons→QA,length_take→QB,getElem_mem→QD,mem_cons_self→QI,getElem?_eq_some_iff→QM,take_add_one→QO,head?_cons→QP,flatMap_cons→QR,mem_append→QT,not_mem_nil→QV,foldl_cons→QW,all_cons→QY,flatMap_nil→QZ,tail_cons→Q_,map_append→Q0,all_nil→Q1,take_succ_eq_append_getElem→Q2,mem_cons_of_mem→Q3,length_drop→Q5,nil_append→Q6,getD→Q7,any_eq_false→Q9,mem_map→Za,mem_nil_iff→Zb,map_map→Zc,isEmpty_iff→Zd,any_eq_true→Zf,drop_eq_getElem_cons→Zh,length_map→Zj,append_eq_nil_iff→Zl,foldl_append→Zn,getElem?_map→Zo,mem_of_mem_take→Zp,mem_of_mem_drop→Zq,append_inj→Zr,exists_cons_of_ne_nil→Zt,all_eq_true→Zv,isEmpty_nil→Zw,length_eq_zero_iff→Zx,take_length→Zz,any_append→ZB,getElem?_eq_none→ZD,mem_append_right→ZE,map→ZG,mem_append_left→ZH,map_take→ZK,map_drop→ZL
open Go.Proofs.Tryz renaming prog→Qc
open List.cons renaming injEq→Qd
open Option renaming isSome_some→Qk,bind_some→Qp,getD_some→Zg,map_some→Zi,bind_eq_some_iff→Zk,map_eq_some_iff→ZA
open Option.some renaming injEq→Qm
open Int renaming toNat_natCast→Qn,cast_ofNat_Int→QK,toNat_of_nonneg→QN,reduceLE→QS,reduceToNat→QU,reduceEq→Ze,lt_irrefl→ZJ,toNat→ZM
open Bool renaming or_eq_false_iff→QC,true_or→QG,or_true→QH,and_eq_true→QQ,or_false→Q4,false_or→Q8,false_and→Zs,and_false→ZF,and_self→ZI
open Prod renaming ext→QJ
open Prod.mk renaming injEq→Zu
open Go.Proofs.Tryz
noncomputable section
namespace Go.Vd
open Go.Proofs Go.RowKit
def AJ{m:Mem}{i j:Id}{o:Nat}{ds:List D}(h:j≠i):∀{n p:Nat},Ag (m.put i o ds) j p n=Ag m j p n
 |0,p=>rfl
 |n+1,p=>by
  simp only[Ag,Mem.put_other h];rw[AJ h]
def rdC_aux{i:Id}:∀{ds:List D} {m:Mem} {p:Nat},(∀k d,ds[k]?=some d->m i (p+k)=some d)->Ag m i p ds.length=some ds
 |[],m,p,_=>rfl
 |d::r,m,p,h=>by
  have h0:=h 0 d rfl;rw[Nat.add_zero]at h0;have hr:=rdC_aux (ds:=r) (m:=m) (p:=p+1) λk x hx=>by
   have:=h (k+1) x (by simpa using hx);rw[show p+1+k=p+(k+1)by omega];exact this
  simp only[QA,Ag,h0,hr,Zi]
def AO{m:Mem}{i:Id}{ds:List D}{n:Nat}(h:ds.length=n):Ag (m.put i 0 ds) i 0 n=some ds:=by
 subst h;exact rdC_aux λk d hd=>by
  have hk:=(QM.1 hd).1;rw[Af,if_pos ⟨rfl,Qq _,by omega⟩];simpa using hd
def D_{m:Mem}{i:Id}{o:Nat}:Ag m i o 1=(m i o).map λd=>[d]:=by
 simp only[Ag];cases m i o<;>rfl
def rdC_at{m:Mem}{i:Id}:∀{ds:List D} {n p k:Nat} {d:D},Ag m i p n=some ds->ds[k]?=some d->m i (p+k)=some d
 |ds,0,p,k,d,h,hd=>by simp only[Ag,Qm]at h;subst h;simp at hd
 |ds,n+1,p,k,d,h,hd=>by
  simp only[Ag]at h;split at h
  ·rename_i x hx;rw[ZA]at h;obtain⟨r,hr,rfl⟩:=h;cases k with
   |zero=>simp only[Qf,Qm]at hd;subst hd;exact hx
   |succ k=>
    have:=rdC_at hr (by simpa using hd:r[k]?=some d);rw[show p+(k+1)=p+1+k by omega];exact this
  ·cases h
def B4(a:Ak):(akC a).map D.un1=akC a:=rfl
def B5(a:Ak):(akC a).all D.calm1=true:=rfl
def AN(a:Ak):D.cells (.agg (akC a))=akC a:=rfl
def Ba(a:Ak):(akC a).length=11:=rfl
def layA_len{a:Ak}{c:Int}(h:AkOk a):(layA a c).length<=100000:=by
 obtain⟨_,_,h1,h2,h3,h4,h5,h6,h7,h8⟩:=h;have n1:=numB_len a.n.toNat;have n2:=numB_len a.cas.toNat;have oN:∀s:Bs,s.length<=100000->(orN s).length<=100000:=by
  intro s hs;unfold orN;split
  ·simp
  ·exact hs
 have j1:(C5 (FU a.ns)).length<=100000:=by
  have e1:=FY (FU a.ns);have e2:=sumL_le (l:=FU a.ns) (b:=3) λx hx=>by
   obtain⟨y,_,rfl⟩:=Za.1 hx;exact numB_len _
  rw[DT]at e1 e2;omega
 have j2:(if Cm a.rs=0 then C5 (B2 a.rs)else []).length<=100000:=by
  split
  ·rename_i hz;have e0:=(polE_zero hz).1;have e1:=FY (B2 a.rs);have e2:=sumL_le (l:=B2 a.rs) (b:=1007) λx hx=>by
    obtain⟨y,hy,rfl⟩:=Za.1 hx;have h1:=(h7 y hy).1;have h2:=Fk y.2.toNat;simp only[ruleB,Qt,gB3];omega
   rw[CH]at e1 e2;omega
  ·simp
 have x1:=Ec a.da;have x2:=Ec a.key;unfold layA;split
 ·omega
 ·split
  ·omega
  ·split
   ·omega
   ·split
    ·omega
    ·split
     ·split
      ·simp
      ·omega
     ·split
      ·split<;>simp
      ·split
       ·exact oN _ j1
       ·split
        ·exact oN _ (by omega)
        ·split
         ·exact oN _ j2
         ·omega
def lineA(a:Ak):Bs:=formW a.op++(CS a.op).flatMap λc=>32::layA a (c.toNat:Int)
def forms_ok:forms.all (λp=>decide (p.1.length<=20)&&(decide (p.2.length<=20)&&p.2.all λc=>decide (c.toNat<128)))=true:=by decide+kernel
def form_at(op:Int):(formW op).length<=20∧(CS op).length<=20∧∀c∈CS op,c.toNat<128:=by
 unfold formW CS;have:∀p:Bs×Bs,p=([],[])∨p∈forms->p.1.length<=20∧p.2.length<=20∧∀c∈p.2,c.toNat<128:=by
  intro p hp;rcases hp with rfl|hp
  ·simp
  ·have h:=Zv.1 forms_ok p hp;simp only[QQ,decide_eq_true_eq,Zv]at h;exact h
 refine this _ ?_;by_cases h:op.toNat<forms.length
 ·right;simp[Q7,Qe h]
 ·left;simp[Q7,ZD (Nat.le_of_not_lt h)]
def loop155{S:Summs}{a:Ak}(ha:AkOk a)(s263:S 263=some (Ac F263)){ls:Bs}(hls:ls.length<=20)(has:∀c∈ls,c.toNat<128)(hlay:∀c∈ls,LayOk a (c.toNat:Int)){ki:Id}(hki:([0]:Id)≠ki){w0:Bs}(hw0:w0.length<=20){Q:Ex->St->Prop}
  (hexit:∀st,st.s 4= .str (w0++ls.flatMap λc=>32::layA a (c.toNat:Int))->Q (.exit 0) st):
  ∀(f p:Nat) st g,ls.length=p+f->st.s 1= .ptr [0] 0->st.s 4= .str (w0++(ls.take p).flatMap λc=>32::layA a (c.toNat:Int))->st.s 14= .itp ki->Ag st.m [0] 0 11=some (akC a)->st.m ki 1=some (.it ls p)->
   A4 S [] dc155l0 Q st g:=by
 intro f;induction f with
 |zero=>
  intro p st g hf h1 h4 h14 hm hit;refine Ae dc155l0.eq_1 ?_;have hp:¬(p<ls.length):=by omega
  simp only[↓go1,go2,simprocAttr,h14,hp,hit,Qf];refine hexit _ ?_;simp only[↓go1,reduceIte,Qg,h4];rw[Qw (by omega)]
 |succ f ih=>
  intro p st g hf h1 h4 h14 hm hit;refine Ae dc155l0.eq_1 ?_;have hp:p<ls.length:=by omega
  have hat:ls[p]?=some ls[p]:=Qe hp;have hmem:ls[p]∈ls:=QD hp;have hdec:=ascii_dec hat (has _ hmem);have h263:F263 [.agg (akC a),.int .i32 (ls[p].toNat:Int)]=some (.str (layA a (ls[p].toNat:Int))):=F263_eq ha (hlay _ hmem);have hll:=layA_len (c:=(ls[p].toNat:Int)) ha;have htk:ls.take (p+1)=ls.take p++[ls[p]]:=by rw[QO,hat];rfl
  have hacc:((ls.take p).flatMap λc=>32::layA a (c.toNat:Int)).length<=100001*20:=by
   have:∀(l:Bs),((l.flatMap λc=>32::layA a (c.toNat:Int))).length<=100001*l.length:=by
    intro l;induction l with
    |nil=>simp
    |cons x r ih=>
     have:=layA_len (c:=(x.toNat:Int)) ha;simp only[QR,Qt,QA,Nat.mul_add];omega
   have h:=this (ls.take p);have h':(ls.take p).length<=20:=by rw[QB];omega
   omega
  have hb1:(1+(layA a (ls[p].toNat:Int)).length<=9223372036854775807)=True:=eq_true (by omega);have hb2:(w0.length+((ls.take p).flatMap λc=>32::layA a (c.toNat:Int)).length+(1+(layA a (ls[p].toNat:Int)).length)<=9223372036854775807)=True:=eq_true (by omega);generalize ls[p]=c at hdec h263 htk hb1 hb2;obtain⟨st_s,st_m,st_c⟩:=st;simp only at h1 h4 h14 hm hit;simp only[↓go1,gB2,simprocAttr,h1,h4,h14,hm,hdec,AJ hki,Aa s263,h263,hb1,hb2,B4,B5,hp,hit,Qt,gB3,Qh,Qf,Qb];refine ih (p+1) _ _ (by omega) ?_ ?_ ?_ ?_ ?_
  ·exact h1
  ·simp only[↓go1,reduceIte,Qg];rw[htk];simp
  ·exact h14
  ·simp only[hm,AJ hki]
  ·simp only[reduceIte,Qj,Af,QF,and_self,gB3,Nat.lt_add_one,Nat.sub_self,Qf,hdec]
def F155:List D->Option D:=FX (λa:Ak=>[akD a]) (λa=>AkOk a∧∀c∈CS a.op,LayOk a (c.toNat:Int)) (λa=> .str (lineA a))
def F155_eq{a:Ak}(h:AkOk a)(h2:∀c∈CS a.op,LayOk a (c.toNat:Int)):F155 [akD a]=some (.str (lineA a)):=
 Bq (mk:=λa:Ak=>[akD a]) (λx y e=>by
  simp only[Qd,and_true]at e;exact EF e) ⟨h,h2⟩
def ok155:(Ac F155).ok Qc 155:=by
 obtain⟨S,hS,hl⟩:=A6 (Ab ok151 (Ab ok263 Ad));have s151:=hl 151 _ rfl;have s263:=hl 263 _ rfl;clear hl;refine Bx hS fn155 (λ_=>by simp) (λa hp=>?_);obtain⟨ha,hlay⟩:=hp;have h151:=R151_eq ha.op0 ha.op;obtain⟨f1,f2,f3⟩:=form_at a.op;have hop:akC a= .int .u8 a.op::(akC a).tail:=rfl;unfold lineA dc155 akD;have hm0:∀m:Mem,m.put [0] 0 (akC a) [0] 0=some (.int .u8 a.op):=λm=>by
  rw[Af,if_pos ⟨rfl,QF _,by rw[Ba];omega⟩];rfl
 simp only[↓go1,gB0,simprocAttr,Aa s151,h151,hm0,AN,Ba,Af,Ap,Aq,Qb,Qp,Qk,Qd,Qi];refine loop155 (ls:=CS a.op) (w0:=formW a.op) ha s263 f2 f3 hlay (ki:=_) ?_ f1 (λst h4=>?_) (CS a.op).length 0 _ _ (by omega) rfl ?_ rfl ?_ ?_
 ·decide
 ·simp only[↓go1,gB2,simprocAttr,h4]
  all_goals first|rfl|exact⟨rfl,rfl⟩
 ·simp only[↓go1,go2,reduceIte,Qg,Qv,QZ,List.append_nil]
 ·simp only[AJ (show([0]:Id)≠[12]by decide),AJ (show([0]:Id)≠[5]by decide),AO (Ba a)]
 ·simp only[go3,go4,simprocAttr,Af,Qq,QX,gB3,Qh,Qf,Qb,and_self,Qd,false_and,Qi]
def chkR(a:Ak):Ak->Bs->Int×Ak
 |b,[]=>(0,b)
 |b,c::r=>if BV a (c.toNat:Int)≠0 then(BV a (c.toNat:Int),b)else chkR a (D5 b (c.toNat:Int)) r
def bareA(a:Ak):Ak:={a with op:=0}
def Cf(a:Ak):Int:=if formW a.op=[]then 22 else if(chkR a (bareA a) (CS a.op)).1≠0 then(chkR a (bareA a) (CS a.op)).1 else if zeroB (chkR a (bareA a) (CS a.op)).2=false then 2 else if 400<(lineA a).length then 5 else 0
def AkOk.without{a:Ak}(h:AkOk a)(c:Int):AkOk (D5 a c):=by
 unfold D5;obtain⟨h0,h1,h2,h3,h4,h5,h6,h7,h8,h9⟩:=h
 repeat' split
 all_goals exact⟨by first|exact h0|simp,by first|exact h1|simp,by first|exact h2|simp,by first|exact h3|simp,by first|exact h4|simp,by first|exact h5|simp,by first|exact h6|simp,by first|exact h7|simp,by first|exact h8|simp,by first|exact h9|simp⟩
def rdC_bare{m:Mem}{i:Id}(a:Ak):Ag ((m.put i 0 (akC a)).put i 0 [.int .u8 0]) i 0 11=some (akC (bareA a)):=by
 have:=rdC_aux (i:=i) (ds:=akC (bareA a)) (m:=(m.put i 0 (akC a)).put i 0 [.int .u8 0]) (p:=0) λk d hd=>by
  have hk:=(QM.1 hd).1;rw[Ba]at hk;rw[Qh];cases k with
  |zero=>
   rw[Af,if_pos ⟨rfl,QF _,by simp⟩];exact hd
  |succ k=>
   rw[Af,if_neg (by simp),Af,if_pos ⟨rfl,Qq _,by rw[Ba];omega⟩];exact hd
 exact this
def loop68{S:Summs}{a:Ak}(ha:AkOk a)(s152:S 152=some (Ac F152))(s153:S 153=some (Ac F153)){ls:Bs}(has:∀c∈ls,c.toNat<128){r:Int×Ak}{Q:Ex->St->Prop}
  (hret:∀st,r.1≠0->st.s 2= .int .i64 r.1->Q .ret st)
  (hexit:∀st,r.1=0->(∀c∈ls,BV a (c.toNat:Int)=0)->AkOk r.2->st.s 1= .ptr [0] 0->st.s 4= .ptr [11] 0->Ag st.m [0] 0 11=some (akC a)->Ag st.m [11] 0 11=some (akC r.2)->Q (.exit 0) st):
  ∀(f p:Nat)(b:Ak) st g,ls.length=p+f->chkR a b (ls.drop p)=r->(∀c∈ls.take p,BV a (c.toNat:Int)=0)->AkOk b->st.s 1= .ptr [0] 0->st.s 4= .ptr [11] 0->st.s 18= .itp [17]->Ag st.m [0] 0 11=some (akC a)->Ag st.m [11] 0 11=some (akC b)->st.m [17] 1=some (.it ls p)->
   A4 S [] dc68l0 Q st g:=by
 have ne1:([0]:Id)≠[17]:=by decide
 have ne2:([11]:Id)≠[17]:=by decide
 have ne3:([0]:Id)≠[11]:=by decide
 have ne4:([17]:Id)≠[11]:=by decide
 intro f;induction f with
 |zero=>
  intro p b st g hf hr hz hb h1 h4 h18 hm hm2 hit;refine Ae dc68l0.eq_1 ?_;have hp:¬(p<ls.length):=by omega
  simp only[↓go1,go2,simprocAttr,h18,hp,hit,Qf];rw[List.drop_of_length_le (by omega)]at hr;rw[Qw (by omega)]at hz;simp only[chkR]at hr;subst hr;exact hexit _ rfl hz hb h1 h4 hm hm2
 |succ f ih=>
  intro p b st g hf hr hz hb h1 h4 h18 hm hm2 hit;refine Ae dc68l0.eq_1 ?_;have hp:p<ls.length:=by omega
  have hat:ls[p]?=some ls[p]:=Qe hp;have hmem:ls[p]∈ls:=QD hp;have hdec:=ascii_dec hat (has _ hmem);have h152:F152 [.agg (akC a),.int .i32 (ls[p].toNat:Int)]=some (.int .i64 (BV a (ls[p].toNat:Int))):=F152_eq ha;have h153:F153 [.agg (akC b),.int .i32 (ls[p].toNat:Int)]=some (.agg (akC (D5 b (ls[p].toNat:Int)))):=F153_eq;have htk:ls.take (p+1)=ls.take p++[ls[p]]:=by rw[QO,hat];rfl
  have hdr:ls.drop p=ls[p]::ls.drop (p+1):=Zh hp;have hb':=hb.without (ls[p].toNat:Int);rw[hdr]at hr;unfold chkR at hr;generalize ls[p]=c at hdec h152 h153 htk hr hb';obtain⟨st_s,st_m,st_c⟩:=st;simp only at h1 h4 h18 hm hm2 hit;by_cases he:BV a (c.toNat:Int)=0
  ·rw[if_neg (λh=>h he)]at hr;rw[he]at h152;simp only[↓go1,gB2,simprocAttr,h1,h4,h18,hm,hm2,hdec,AJ ne1,AJ ne2,Aa s152,h152,Aa s153,h153,B4,B5,AN,Ba,hp,hit,and_self,Qf,Qb,Qk];refine ih (p+1) _ _ _ (by omega) hr (λx hx=>?_) hb' ?_ ?_ ?_ ?_ ?_ ?_
   ·rw[htk]at hx;rcases QT.1 hx with hx|hx
    ·exact hz x hx
    ·simp only[Qx,Zb,or_false]at hx;rw[hx];exact he
   ·exact h1
   ·exact h4
   ·exact h18
   ·simp only[AJ ne3,AJ ne1,hm]
   ·simp only[AO (Ba _)]
   ·simp only[reduceIte,Qj,Mem.put_other ne4,Af,QF,and_self,gB3,Nat.lt_add_one,Nat.sub_self,Qf,hdec]
  ·rw[if_pos he]at hr;simp only[↓go1,gB2,simprocAttr,h1,h18,hm,hdec,AJ ne1,Aa s152,h152,he,B4,B5,hp,hit,Qf,Qb];exact hret _ (by rw[←hr];exact he) (by rw[←hr];rfl)
def fineE_zero{b:Bool}(h:Fq b=0):b=true:=by cases b with
 |true=>rfl
 |false=>cases h
def layOk_of{a:Ak}{c:Int}(h:BV a c=0):LayOk a c:=by
 refine⟨?_,?_,?_⟩
 ·rintro rfl;have e:BV a 110=Fq (decide (0<=a.n∧a.n<=999)):=by simp[BV]
  rw[e]at h;have:=of_decide_eq_true (fineE_zero h);omega
 ·rintro rfl;have e:BV a 99=Fq (decide (-1<=a.cas∧a.cas<=999)):=by simp[BV]
  rw[e]at h;have:=of_decide_eq_true (fineE_zero h);omega
 ·rintro rfl;have e:BV a 108=Fq (countB a.ns):=by simp[BV]
  rw[e]at h;have h2:=fineE_zero h;unfold countB at h2;rw[QQ]at h2;intro x hx;have h3:(a.ns.any λx=>!decide (1<=x∧x<=999))=false:=by simpa using h2.2
  rw[Q9]at h3;have h4:=h3 x hx;have h5:1<=x∧x<=999:=by simpa using h4
  omega
def F68:List D->Option D:=FX (λa:Ak=>[akD a]) (λa=>AkOk a) (λa=> .int .i64 (Cf a))
def F68_eq{a:Ak}(h:AkOk a):F68 [akD a]=some (.int .i64 (Cf a)):=
 Bq (mk:=λa:Ak=>[akD a]) (λx y e=>by
  simp only[Qd,and_true]at e;exact EF e) h
def ok68:(Ac F68).ok Qc 68:=by
 obtain⟨S,hS,hl⟩:=A6 (Ab ok151 (Ab ok152 (Ab ok153 (Ab ok154 (Ab ok155 Ad)))));have s151:=hl 151 _ rfl;have s152:=hl 152 _ rfl;have s153:=hl 153 _ rfl;have s154:=hl 154 _ rfl;have s155:=hl 155 _ rfl;clear hl;refine Bx hS fn68 (λ_=>by simp) (λa ha=>?_);have h151:=R151_eq ha.op0 ha.op;obtain⟨f1,f2,f3⟩:=form_at a.op;have hm0:∀m:Mem,m.put [0] 0 (akC a) [0] 0=some (.int .u8 a.op):=λm=>by
  rw[Af,if_pos ⟨rfl,QF _,by rw[Ba];omega⟩];rfl
 have ne1:([0]:Id)≠[17]:=by decide
 have ne2:([11]:Id)≠[17]:=by decide
 have ne3:([0]:Id)≠[11]:=by decide
 have ne4:([0]:Id)≠[5]:=by decide
 have hm1:∀m:Mem,m.put [11] 0 (akC a) [11] 0=some (.int .u8 a.op):=λm=>by
  rw[Af,if_pos ⟨rfl,QF _,by rw[Ba];omega⟩];rfl
 have hb0:AkOk (bareA a):=⟨by simp[bareA],by simp[bareA],ha.tk,ha.pa,ha.ot,ha.ns,ha.da,ha.rl,ha.rs,ha.key⟩;have hlay:(∀c∈CS a.op,BV a (c.toNat:Int)=0)->F155 [.agg (akC a)]=some (.str (lineA a)):=λh=>F155_eq ha λc hc=>layOk_of (h c hc)
 unfold Cf dc68 akD;by_cases hw:formW a.op=[]
 ·have hw':(formW a.op==([]:Bs))=true:=by rw[hw];rfl
  simp only[↓go1,gB0,simprocAttr,AN,Ba,Aa s151,h151,hm0,AO,Af,Qk,Qd,Qi,hw]
  all_goals first|rfl|exact⟨rfl,rfl⟩
 ·have hw':(formW a.op==([]:Bs))=false:=by simpa using hw
  simp only[↓go1,gB0,simprocAttr,AN,Ba,Aa s151,h151,hm0,hm1,D_,AO,Af,Qb,Qk,Qd,and_false,Qi,hw,AJ ne4,AO (Ba a)];generalize hr:chkR a (bareA a) (CS a.op)=r;refine loop68 (r:=r) ha s152 s153 f3 (λst h1 h2=>?_) (λst h1 hz hb h1' h4 hm hm2=>?_) (CS a.op).length 0 (bareA a) _ _ (by omega) hr (by simp) hb0 rfl rfl rfl ?_ ?_ ?_
  ·simp only[↓go1,gB2,reduceIte,h1,h2,ne_eq];rw[if_neg hw]
  ·have h155:=hlay hz;have h154:F154 [.agg (akC r.2),.agg [.int .u8 0,.str [],.str [],.str [],.int .i64 0,.int .i64 0,.bool false,.slice true [] [],.str [],.slice true [] [],.str []]]=some (.bool (zeroB r.2)):=F154_eq hb;cases hzb:zeroB r.2 with
   |false=>
    rw[hzb]at h154;simp only[↓go1,gB2,simprocAttr,B4,B5,ne_eq,Ql,Qo,QY,Q1,ZI,h1,h4,hm2,Aa s154,h154,BK,D.un1,D.calm1,Zw];rw[if_neg hw]
   |true=>
    rw[hzb]at h154;by_cases hl:400<(lineA a).length
    ·have hl':((400:Int)<((lineA a).length:Int)):=by omega
     simp only[↓go1,gB2,simprocAttr,B4,B5,ne_eq,Ql,Qo,QY,Q1,ZI,h1,h1',h4,hm,hm2,Aa s154,h154,Aa s155,h155,BK,hl,hl',D.un1,D.calm1,Zw];rw[if_neg hw]
    ·have hl':¬((400:Int)<((lineA a).length:Int)):=by omega
     simp only[↓go1,gB2,simprocAttr,B4,B5,ne_eq,Ql,Qo,QY,Q1,ZI,h1,h1',h4,hm,hm2,Aa s154,h154,Aa s155,h155,BK,hl,hl',D.un1,D.calm1,Zw];rw[if_neg hw]
  ·simp only[AJ ne1,AJ ne3,AJ ne4,AO (Ba a)]
  ·simp only[AJ ne2];exact rdC_bare a
  ·simp only[go3,go4,simprocAttr,Af,Qq,QX,gB3,Qh,Qf,Qb,and_self,Qd,false_and,and_false,Qi]
def ryN:Ry->Prop
 | .names nl l=>nl=true->l=[]
 |_=>True
def ris_bd:∀{l:List Rw} {a:Int},risB l a=true->∀x∈l,a<x.1∧x.1<=(l.getLast?.map (·.1)).getD 0
 |[],a,_,x,hx=>by cases hx
 |y::r,a,h,x,hx=>by
  simp only[risB,QQ,decide_eq_true_eq]at h;cases r with
  |nil=>
   rw[Qy.1 hx];exact⟨h.1,by simp⟩
  |cons z q=>
   have ih:=ris_bd h.2;have hz:=ih z (QI ..);rw[List.getLast?_cons_cons];rcases Qx.1 hx with rfl|hx
   ·exact⟨h.1,by omega⟩
   ·have:=ih x hx;exact⟨by omega,this.2⟩
def new_last(l:List Rw):newE l=(l.getLast?.map (·.1)).getD 0:=by
 unfold newE;cases l.getLast?<;>rfl
def badS_rows{s:Sc}{q:Int}(h:DJ s q=false)(hq:q<=6):s.rs.length<=6∧∀x∈s.rs,1<=x.1∧x.1<=30:=by
 obtain⟨b1,b2,b3,b4,b5,b6⟩:=badS_get h;have hk:Ca s q<=6:=by unfold Ca;split<;>omega
 refine⟨by omega,λx hx=>?_⟩;have:=ris_bd b5 x hx;rw[←new_last,b6]at this;omega
def sum_64:∀l:List Bs,(l.any λs=>!nmB s)=false->CG l<=64*l.length
 |[],_=>by simp[CG]
 |x::r,h=>by
  simp only[List.any_cons,QC,Bool.not_eq_false']at h;have ih:=sum_64 r h.2;have hx:x.length<=64:=by
   have:=h.1;simp only[nmB,QQ,decide_eq_true_eq]at this;exact this.2.2.1
  simp only[CG,QA];omega
def ry_good{y:Ry}(h:ryE y=0)(hn:ryN y):ryG y:=by
 cases y with
 |fail e=>simp only[ryE]at h;split at h;(rename_i c;exact⟨by omega,by omega⟩);omega
 |done=>trivial
 |number n=>simp only[ryE]at h;split at h;(rename_i c;exact⟨by omega,by omega⟩);omega
 |found n d=>simp only[ryE]at h;split at h;(rename_i c;exact⟨by omega,by omega,by omega⟩);omega
 |about s=>
  simp only[ryE]at h;cases hb:DJ s 6 with
  |true=>rw[hb]at h;simp at h
  |false=>
   obtain⟨b1,b2,b3,_⟩:=badS_get hb;obtain⟨r1,r2⟩:=badS_rows hb (by omega);exact⟨by omega,by omega,by omega,λx hx=>by have:=r2 x hx;omega⟩
 |names nl l=>
  simp only[ryE]at h;split at h
  ·rename_i c;have:=sum_64 l c.2;exact⟨by omega,hn,by omega⟩
  ·omega
 |state b=>trivial
def listW_len(l:List Bs):(Dj l).length<=1+CG l+l.length:=by
 unfold Dj;split
 ·simp;omega
 ·have:=Ea l [44];simp only[gB3]at this;omega
def ryW_sum{y:Ry}(h:ryE y=0)(hn:ryN y):(ryW y).length<=6∧CG (ryW y)<=100000:=by
 cases y with
 |fail e=>have:=Dy e.toNat;simp only[ryW,CG,gB3];omega
 |done=>simp[ryW,CG]
 |number n=>have:=Dy n.toNat;simp only[ryW,CG,gB3];omega
 |found n d=>
  have:=Dy n.toNat;simp only[ryE]at h;split at h
  ·rename_i c;have:=Ec d;simp only[ryW,CG,gB3];split<;>simp<;>omega
  ·omega
 |about s=>
  have q1:=Dy s.mx.toNat;have q2:=Dy s.la.toNat;obtain⟨g1,_⟩:=ry_good h hn;have:=listW_len (s.rs.map rowW1);have:=sum_rows s.rs;rw[Zj]at *;simp only[ryW,CG,gB3];omega
 |names nl l=>
  simp only[ryE]at h;split at h
  ·rename_i c;have:=sum_64 l c.2;have:=listW_len l;simp only[ryW,CG,gB3];omega
  ·omega
 |state b=>cases b<;>simp[ryW,CG]
def S121:Summs:=AF [(92,Ac R92),(222,Ac R222),(221,Ac joinF)]
def R121:List D->Option D:=RF S121 dc121 [.t 2,.t 3] 13
def ko121:(Ac R121).ok Qc 121:=AH fn121 (Ab ko92 (Ab ko222 (Ab ko221 Ad)))
def R121_eq(y:Ry)(h:ryOk y)(hn:ryN y):R121 [.agg (ryC y)]=some (.tup [.str (ryT y),.int .i64 (ryE y)]):=by
 refine AG (Qa rfl) ?_;have s222:S121 222=some (Ac R222):=rfl;have s221:S121 221=some (Ac joinF):=rfl;unfold dc121;have h92:=R92_eq y h;have e0:∃a b c d e f g i j k,ryC y=[a,b,c,d,e,f,g,i,j,k]:=by cases y<;>exact⟨_,_,_,_,_,_,_,_,_,_,rfl⟩
 have d0:∀x∈ryC y,x.un1=x∧x.calm1=true:=by
  cases y<;>(intro x hx;simp only[ryC,Qx,Zb,or_false]at hx;rcases hx with rfl|rfl|rfl|rfl|rfl|rfl|rfl|rfl|rfl|rfl<;>exact⟨rfl,rfl⟩)
 unfold ryT;by_cases c:ryE y=0
 ·have h222:=R222_eq y (ry_good c hn);obtain⟨w1,w2⟩:=ryW_sum c hn;have h221:=joinW_eq (l:=ryW y) (s:=[32]) ⟨ryW_ne y,by omega,by omega,by simp,by have:=Ea (ryW y) [32];simp only[gB3]at this;omega⟩;obtain⟨a,b,cc,d,e,f,g,i,j,k,hc⟩:=e0;have u:=λx hx=>d0 x hx
  rw[hc]at h92 h222 d0 ⊢;rw[c]at h92 ⊢;simp only[Qx,Zb,or_false,forall_eq_or_imp,forall_eq]at d0;obtain⟨⟨a1,a2⟩,⟨b1,b2⟩,⟨c1,c2⟩,⟨d1,d2⟩,⟨e1,e2⟩,⟨f1,f2⟩,⟨g1,g2⟩,⟨i1,i2⟩,⟨j1,j2⟩,k1,k2⟩:=d0;have hcalm:((Ay (ryW y)).all D.calm)=true:=by simp[Ay,Zv];intros;rfl
  simp only[gB1,↓go1,go5,simprocAttr,An S121 92,h92,a1,a2,b1,b2,c1,c2,d1,d2,e1,e2,f1,f2,g1,g2,i1,i2,j1,j2,k1,k2,Aa s222,h222,Aa s221,h221,spJ]
  all_goals first|rfl|exact⟨rfl,rfl⟩|simp[*]
 ·have c':=eq_false c;obtain⟨a,b,cc,d,e,f,g,i,j,k,hc⟩:=e0;rw[hc]at h92 d0 ⊢;simp only[Qx,Zb,or_false,forall_eq_or_imp,forall_eq]at d0;obtain⟨⟨a1,a2⟩,⟨b1,b2⟩,⟨c1,c2⟩,⟨d1,d2⟩,⟨e1,e2⟩,⟨f1,f2⟩,⟨g1,g2⟩,⟨i1,i2⟩,⟨j1,j2⟩,k1,k2⟩:=d0;simp only[gB1,↓go1,go5,simprocAttr,An S121 92,h92,a1,a2,b1,b2,c1,c2,d1,d2,e1,e2,f1,f2,g1,g2,i1,i2,j1,j2,k1,k2,c']
  all_goals first|rfl|exact⟨rfl,rfl⟩|simp[*]
def S120:Summs:=AF [(121,Ac R121)]
def R120:List D->Option D:=RF S120 dc120 [.t 2] 17
def ko120:(Ac R120).ok Qc 120:=AH fn120 (Ab ko121 Ad)
def R120_eq(e:Int)(h:1<=e∧e<=99):R120 [.int .i64 e]=some (.str (ryT (.fail e))):=by
 refine AG (Qa rfl) ?_;unfold dc120;have h121:=R121_eq (.fail e) trivial trivial;have he:ryE (.fail e)=0:=if_pos h;rw[he]at h121;have c':(e=0)=False:=eq_false (by omega);unfold ryC at h121;simp only[gB1,↓go1,go5,simprocAttr,An S120 121,h121,c']
 all_goals first|rfl|exact⟨rfl,rfl⟩|simp[*]
end Go.Vd
namespace Go.Vd
open Go.Proofs
end Go.Vd
namespace Go.Vd
open Go.Proofs Go.RowKit
end Go.Vd
namespace Go.Vd
open Go.Proofs
end Go.Vd
namespace Go.Vd
open Go.Proofs Go.RowKit
def dec_em{b:Bool}:decide (b=true)=b:=by cases b<;>rfl
end Go.Vd
namespace Go.Vd
open Go.Proofs
def dc156:=y0 f156 [] []
def fn156:Fn Qc 156 5 dc156 [.t 2]:=Am func156
def dc157:=y0 f157 [] []
def fn157:Fn Qc 157 29 dc157 [.t 8]:=Am func157
def dc69:=y0 f69 [(4,[(6,0),(6,2)])] []
def fn69:Fn Qc 69 32 dc69 [.t 4]:=Am func69
def dc70:=y0 f70 [] []
def fn70:Fn Qc 70 44 dc70 [.t 4]:=Am func70
def dc25:=y0 f25 [] []
def fn25:Fn Qc 25 52 dc25 [.t 4]:=Am func25
def dc23:=y0 f23 [] []
def fn23:Fn Qc 23 6 dc23 [.cell (some 5) 2]:=Am func23
end Go.Vd
namespace Go.Vd
open Go.Proofs Go.RowKit
structure Vw where
 se:Bool
 te:Int
 key:Bs
 nlm:Bool
 ms:List Mt
 nlt:Bool
 ks:List Tk
def vwC(v:Vw):List D:=[.bool v.se,.int .i64 v.te,.str v.key,.slice v.nlm [] (Ar v.ms),.slice v.nlt [] (Ax v.ks)]
def vwD(v:Vw):D:= .agg (vwC v)
def Gb{a b:Vw}(h:vwD a=vwD b):a=b:=by
 cases a;cases b;simp only[vwD,vwC,D.agg.injEq,Qd,D.int.injEq,D.str.injEq,D.bool.injEq,D.slice.injEq,true_and,and_true]at h;obtain⟨h1,h2,h3,⟨h4,h5⟩,h6,h7⟩:=h;have e5:=mtsD_inj h5;have e7:=FN h7;subst h1 h2 h3 h4 h6 e5 e7;rfl
def Cv(v:Vw):(vwC v).map D.un1=vwC v:=rfl
def Ci(v:Vw):(vwC v).all D.calm1=true:=rfl
def AZ(v:Vw):D.cells (.agg (vwC v))=vwC v:=rfl
def BI(v:Vw):(vwC v).length=5:=rfl
structure VwOk (v:Vw):Prop where
 ml:v.ms.length<=1000
 mp:∀m∈v.ms,m.1.length<=1000
 kl:v.ks.length<=1000
 kp:∀k∈v.ks,tkOk k∧EP k.2.2.2
def tkAt_mem{l:List Tk}{j:Nat}(h:j<l.length):AQ l j∈l:=by simp[AQ,Qe h]
def VwOk.set{v:Vw}(h:VwOk v):Er (Ax v.ks):=D8 (by have:=h.kl;omega)
def FG(ks:List Tk)(n p:Bs)(c:Int):Bool:=AY ks n&&hasB (Ch (AQ ks (bsE ks n)).2.2.2 p).toNat c.toNat
open Classical in
def F35_eq{nl:Bool}{l:List Tk}{s:Bs}(hl:l.length<=1000000)(hk:∀k∈l,tkOk k):F35 [.agg [.slice nl [] (Ax l)],.str s]=some (.tup (if AY l s=true then [tkD (AQ l (bsE l s)),.bool true]else [.agg [.str [],.str [],.slice true [] []],.bool false])):=by
 have h:Er (Ax l)∧∀k∈B1 (Ax l),tkOk k:=⟨D8 hl,by rw[Bh];exact hk⟩;show(if _ then _ else _)=_;rw[if_pos h,Bh]
open Classical in
def F36_eq{nl:Bool}{l:List Tk}{s p:Bs}(hl:l.length<=1000000)(hk:∀k∈l,k.2.2.2.length<=1000000):F36 [.agg [.slice nl [] (Ax l)],.str s,.str p]=some (.int .u8 (if AY l s=true then Ch (AQ l (bsE l s)).2.2.2 p else 0)):=by
 have h:Er (Ax l)∧∀k∈B1 (Ax l),k.2.2.2.length<=1000000:=⟨D8 hl,by rw[Bh];exact hk⟩;show(if _ then _ else _)=_;rw[if_pos h,Bh]
def caps_bd{l:List Rl}(h:DW l)(s:Bs):0<=Ch l s∧Ch l s<256:=by
 unfold Ch;split
 ·omega
 ·generalize (ES s (l.map (·.1))).toNat=j;by_cases hj:j<l.length
  ·have:Bp l j=l[j]:=by simp[Bp,Qe hj]
   rw[this];exact h _ (QD hj)
  ·have:Bp l j=([],0):=by simp[Bp,Q7,ZD (Nat.le_of_not_lt hj)]
   rw[this];decide
def mkAl(p:Vw×Bs×Bs×Int):List D:=[vwD p.1,.str p.2.1,.str p.2.2.1,.int .u8 p.2.2.2]
def mkAl_inj(x y:Vw×Bs×Bs×Int)(e:mkAl x=mkAl y):x=y:=by
 simp only[mkAl,Qd,D.int.injEq,D.str.injEq,true_and,and_true]at e;exact QJ (Gb e.1) (QJ e.2.1 (QJ e.2.2.1 e.2.2.2))
def F157:List D->Option D:=FX mkAl (λp=>VwOk p.1∧0<=p.2.2.2∧p.2.2.2<256) (λp=> .bool (FG p.1.ks p.2.1 p.2.2.1 p.2.2.2))
def F157_eq{v:Vw}{n p:Bs}{c:Int}(h:VwOk v)(h1:0<=c∧c<256):F157 [vwD v,.str n,.str p,.int .u8 c]=some (.bool (FG v.ks n p c)):=Bq (mk:=mkAl) (a:=(v,n,p,c)) mkAl_inj ⟨h,h1⟩
def ok157:(Ac F157).ok Qc 157:=by
 obtain⟨S,hS,hl⟩:=A6 (Ab ok35 (Ab ok36 Ad));have s35:=hl 35 _ rfl;have s36:=hl 36 _ rfl;clear hl;refine Bx hS fn157 (λ_=>by simp[mkAl]) (λp hp=>?_);obtain⟨v,n,q,c⟩:=p;obtain⟨hv,hc⟩:=hp;simp only at hv hc;have hkl:=hv.kl;have h35:=F35_eq (nl:=v.nlt) (l:=v.ks) (s:=n) (by omega) (λk hk=>(hv.kp k hk).1);have h36:=F36_eq (nl:=v.nlt) (l:=v.ks) (s:=n) (p:=q) (by omega) (λk hk=>(hv.kp k hk).2.1);unfold dc157 mkAl vwD vwC FG;simp only;cases hf:AY v.ks n with
 |false=>
  rw[hf]at h35;simp only[Bool.false_eq_true,if_false]at h35;simp only[↓go1,gB0,simprocAttr,Aa s35,h35,Zs,Af,Ap,Aq,Qb,Qp,Qk,Qd,Qi]
  all_goals first|rfl|exact⟨rfl,rfl⟩
 |true=>
  rw[hf]at h35 h36;simp only[if_true]at h35 h36;have hb:bsE v.ks n<v.ks.length:=by
   unfold AY at hf;rw[QQ,decide_eq_true_iff]at hf;exact hf.1
  have hcap:=(hv.kp _ (tkAt_mem hb)).2.2.2;generalize AQ v.ks (bsE v.ks n)=k at h35 h36 hcap;have hbd:=caps_bd hcap q;generalize Ch k.2.2.2 q=cp at h36 hbd;have hbit:=andNot_nat (a:=cp.toNat) (c:=c.toNat) (by omega) (by omega);rw[QN hc.1,QN hbd.1]at hbit;have hz:(((Nat.land c.toNat (255-cp.toNat):Nat):Int)=0)=(hasB cp.toNat c.toNat=true):=by
   unfold hasB;rw[Nat.beq_eq];exact propext ⟨λh=>by omega,λh=>by omega⟩
  simp only[tkD]at h35;simp only[↓go1,gB0,simprocAttr,Aa s35,h35,Aa s36,h36,v_andNot,hbit,hz,dec_em,Af,Ap,Aq,Qb,Qp,Qk,Qd,and_false,Qi]
  all_goals first|rfl|exact⟨rfl,rfl⟩
def sysB:Bs:=[115,121,115]
def atA(a:Ak):Bs:=if a.op<=8 then sysB else a.pa
def permA(v:Vw)(a:Ak):Bool:=FG v.ks a.tk (atA a) (capsF a.op)&&(decide (a.op≠18)||FG v.ks a.tk a.ot 2)
def mkVa(p:Vw×Ak):List D:=[vwD p.1,akD p.2]
def mkVa_inj(x y:Vw×Ak)(e:mkVa x=mkVa y):x=y:=by
 simp only[mkVa,Qd,and_true]at e;exact QJ (Gb e.1) (EF e.2)
def capsF_bd(op:Int):0<=capsF op∧capsF op<256:=by
 unfold capsF
 repeat' split
 all_goals omega
def F156:List D->Option D
 |[.int .u8 op]=>some (.bool (decide (op<=8)))
 |_=>none
def ok156:(Ac F156).ok Qc 156:=by
 refine Az (S:=λ_=>none) AK fn156 (λds r h=>?_) (λds r h=>?_)
 ·unfold F156 at h;split at h
  ·simp
  ·cases h
 ·unfold F156 at h;split at h
  ·simp only[Qm]at h;subst h;unfold dc156;simp only[↓go1,gB2,simprocAttr]
   all_goals first|rfl|exact⟨rfl,rfl⟩
  ·cases h
def F69:List D->Option D:=FX mkVa (λp=>VwOk p.1) (λp=> .bool (permA p.1 p.2))
def F69_eq{v:Vw}{a:Ak}(h:VwOk v):F69 [vwD v,akD a]=some (.bool (permA v a)):=Bq (mk:=mkVa) (a:=(v,a)) mkVa_inj h
def ok69:(Ac F69).ok Qc 69:=by
 obtain⟨S,hS,hl⟩:=A6 (Ab ok156 (Ab ok27 (Ab ok157 Ad)));have s156:=hl 156 _ rfl;have s27:=hl 27 _ rfl;have s157:=hl 157 _ rfl;clear hl;refine Bx hS fn69 (λ_=>by simp[mkVa]) (λp hv=>?_);obtain⟨v,a⟩:=p;simp only at hv;have h156:F156 [.int .u8 a.op]=some (.bool (decide (a.op<=8))):=rfl;have h27:F27 [.int .u8 a.op]=some (.int .u8 (capsF a.op)):=rfl;have h157:∀q,F157 [.agg (vwC v),.str a.tk,.str q,.int .u8 (capsF a.op)]=some (.bool (FG v.ks a.tk q (capsF a.op))):=λq=>F157_eq hv (capsF_bd _)
 have h157':F157 [.agg (vwC v),.str a.tk,.str a.ot,.int .u8 2]=some (.bool (FG v.ks a.tk a.ot 2)):=F157_eq hv (by omega);have hv0:∀m:Mem,Ag (m.put [1] 0 (akC a)) [0] 0 5=Ag m [0] 0 5:=λm=>AJ (by decide)
 have hv1:Ag (Mem.put (λ_ _=>none) [0] 0 (vwC v)) [0] 0 5=some (vwC v):=AO (BI v);have hm:∀m:Mem,∀k d,(akC a)[k]?=some d->(m.put [1] 0 (akC a)) [1] k=some d:=λm k d hd=>by
  have hk:=(QM.1 hd).1;rw[Af,if_pos ⟨rfl,Qq _,by omega⟩];exact hd
 have m0:=λm=>hm m 0 _ rfl
 have m1:=λm=>hm m 1 _ rfl
 have m2:=λm=>hm m 2 _ rfl
 have m3:=λm=>hm m 3 _ rfl
 unfold dc69 mkVa vwD akD permA atA;simp only;by_cases h8:a.op<=8
 ·have h18:¬a.op=18:=by omega
  rw[decide_eq_true h8]at h156;have hh:=h157 sysB;simp only[h8,if_true];generalize FG v.ks a.tk sysB (capsF a.op)=b at hh;unfold sysB at hh;cases b<;>simp only[↓go1,gB2,simprocAttr,m0,m1,m2,hv0,hv1,Cv,Ci,AZ,AN,Qh,ne_eq,h18,Aa s156,h156,Aa s27,h27,Aa s157,hh]<;>refine Ao.intro (Aj rfl) ?_<;>simp only[↓go1,gB2,reduceIte,Qg,QG,h18]
  all_goals first|rfl|exact⟨rfl,rfl⟩
 ·rw[decide_eq_false h8]at h156;have hh:=h157 a.pa;simp only[h8,if_false];generalize FG v.ks a.tk a.pa (capsF a.op)=b at hh;generalize FG v.ks a.tk a.ot 2=b2 at h157';by_cases h18:a.op=18
  ·have h18':(a.op=18)=True:=eq_true h18;clear h18;cases b<;>cases b2<;>simp only[↓go1,gB2,simprocAttr,m0,m1,m2,m3,hv0,hv1,Cv,Ci,AZ,AN,Qh,ne_eq,Aa s156,h156,Aa s27,h27,Aa s157,hh,h157',h18']<;>refine Ao.intro (Aj rfl) ?_<;>simp only[↓go1,gB2,reduceIte,Qg,Q8,ZF,h18']
   all_goals first|rfl|exact⟨rfl,rfl⟩
  ·cases b<;>simp only[↓go1,gB2,simprocAttr,m0,m1,m2,hv0,hv1,Cv,Ci,AZ,AN,Qh,ne_eq,h18,Aa s156,h156,Aa s27,h27,Aa s157,hh]<;>refine Ao.intro (Aj rfl) ?_<;>simp only[↓go1,gB2,reduceIte,Qg,QG,h18]
   all_goals first|rfl|exact⟨rfl,rfl⟩
abbrev Op1:=Int×Bs×Bs
def opD(x:Op1):D:= .agg [.int .u8 x.1,.str x.2.1,.str x.2.2]
def Da(l:List Op1):List D:=l.map opD
def opD_inj{x y:Op1}(h:opD x=opD y):x=y:=by
 simp only[opD,D.agg.injEq,Qd,D.int.injEq,D.str.injEq,true_and,and_true]at h;exact QJ h.1 (QJ h.2.1 h.2.2)
def opsD_inj{a b:List Op1}(h:Da a=Da b):a=b:=(List.map_inj_right (λ_ _ e=>opD_inj e)).1 h
def opsD_len(l:List Op1):(Da l).length=l.length:=Zj ..
structure Oc where
 need:Bs
 li:Bool
 rep:Bs
 nl:Bool
 ops:List Op1
 vw:Vw
structure Wb where
 v:Vw
 a:Ak
 k:Kn
def ocC(o:Oc)(t:Id):List D:=[.str o.need,.bool o.li,.str o.rep,.slice o.nl t (Da o.ops)]++vwC o.vw
def wkC(w:Wb)(o:Oc)(t:Id):List D:=vwC w.v++(akC w.a++(kwC w.k++ocC o t))
def CM(w:Wb)(o:Oc)(t:Id):(wkC w o t).length=30:=rfl
def map_str_inj{α:Type}{f:α->Bs}{a b:List α}(h:a.map (λx=>D.str (f x))=b.map λx=>D.str (f x)):a.map f=b.map f:=by
 have:=congrArg (ZG λd=>match d with|D.str s=>s|_=>[]) h;simpa[Zc,Function.comp_def]using this
def map_bool_inj{α:Type}{f:α->Bool}{a b:List α}(h:a.map (λx=>D.bool (f x))=b.map λx=>D.bool (f x)):a.map f=b.map f:=by
 have:=congrArg (ZG λd=>match d with|D.bool s=>s|_=>false) h;simpa[Zc,Function.comp_def]using this
def lsD_get{a b:List (Bs×Bool×List Bs)}(h:a.map lsD=b.map lsD):a.map (·.2)=b.map (·.2):=by
 have:=congrArg (ZG λd=>match d with|D.slice nl _ xs=>(nl,xs.map λd=>match d with|D.str s=>s|_=>[])|_=>(false,[])) h;simpa[Zc,Function.comp_def,lsD,Ay]using this
def zip3{α β γ:Type}:∀{a b:List (α×β×γ)},a.map (·.1)=b.map (·.1)->a.map (·.2.1)=b.map (·.2.1)->a.map (·.2.2)=b.map (·.2.2)->a=b
 |[],[],_,_,_=>rfl
 |[],_::_,h,_,_=>by simp at h
 |_::_,[],h,_,_=>by simp at h
 |x::a,y::b,h1,h2,h3=>by
  simp only[Ql,Qd]at h1 h2 h3;rw[zip3 h1.2 h2.2 h3.2,QJ h1.1 (QJ h2.1 h3.1)]
def kwC_inj{a b:Kn}(h:kwC a=kwC b):a=b:=by
 cases a;cases b;simp only[kwC,Qd,D.slice.injEq,true_and,and_true]at h;obtain⟨⟨_,h1⟩,⟨_,h2⟩,⟨_,h3⟩,⟨_,h4⟩,_,h5⟩:=h;have e1:=zip3 (map_str_inj h1) (map_str_inj h2) (map_bool_inj h3);have g:=lsD_get h5;have e2:=zip3 (map_str_inj h4) (by have:=congrArg (ZG Prod.fst) g;simpa[Zc,Function.comp_def]using this) (by have:=congrArg (ZG Prod.snd) g;simpa[Zc,Function.comp_def]using this);rw[e1,e2]
def wkC_inj{w w':Wb}{o o':Oc}{t t':Id}(h:wkC w o t=wkC w' o' t'):w=w'∧o=o'∧t=t':=by
 unfold wkC at h;obtain⟨h1,h⟩:=Zr h rfl;obtain⟨h2,h⟩:=Zr h rfl;obtain⟨h3,h⟩:=Zr h rfl;have e1:=Gb (congrArg D.agg h1);have e2:=EF (congrArg D.agg h2);have e3:=kwC_inj h3;unfold ocC at h;obtain⟨h4,h5⟩:=Zr h rfl;have e5:=Gb (congrArg D.agg h5);simp only[Qd,D.str.injEq,D.bool.injEq,D.slice.injEq,and_true]at h4;obtain⟨g1,g2,g3,g4,g5,g6⟩:=h4;have e6:=opsD_inj g6;cases w;cases w';cases o;cases o';simp only at e1 e2 e3 e5 g1 g2 g3 g4 e6;subst e1 e2 e3 e5 g1 g2 g3 g4 e6 g5;exact⟨rfl,rfl,rfl⟩
abbrev WY:=D×Oc×Option (List Nat)
def updW(i:Id)(w:Wb)(o:Oc)(t fr:Id)(y:WY):Upd:=match y.2.2 with
 |none=>[(i,0,wkC w y.2.1 t)]
 |some l=>(i,0,wkC w y.2.1 (l++fr))::Bi 107 (l++fr) (.slice o.nl t (Da o.ops))
def atW(m:Mem)(i:Id)(x:Wb×Oc×Id):Prop:=Ag m i 0 30=some (wkC x.1 x.2.1 x.2.2)∧BO m 107 x.2.1.nl x.2.2 x.2.1.ops.isEmpty=true∧(x.2.1.nl=true->x.2.2=[])
open Classical in
def pickW(p:Wb×Oc×Id->Prop):Option (Wb×Oc×Id):=if h:∃x,p x then some (Classical.choose h)else none
def pickW_eq{p:Wb×Oc×Id->Prop}{x:Wb×Oc×Id}(h:p x)(hu:∀y,p y->y=x):pickW p=some x:=by
 have hx:∃x,p x:=⟨x,h⟩;unfold pickW;rw[dif_pos hx,hu _ (Classical.choose_spec hx)]
def pickW_get{p:Wb×Oc×Id->Prop}{x:Wb×Oc×Id}(h:pickW p=some x):p x:=by
 unfold pickW at h;split at h
 ·rename_i hx;simp only[Qm]at h;subst h;exact Classical.choose_spec hx
 ·cases h
def wQ(F:Wb->Oc->List D->Option WY):Summ where
 rd:=λds m=>match ds with
  | .ptr i 0::_=>Ai i 0 30++(match m i 24 with|some (.slice _ t _)=>[(t,0)]|_=>[])
  |_=>[]
 ex:=λds m fr=>match ds with
  | .ptr i 0::rest=>(pickW (atW m i)).bind λx=>(F x.1 x.2.1 rest).map λy=>(y.1,updW i x.1 x.2.1 x.2.2 fr y)
  |_=>none
def at24{m:Mem}{i:Id}{w:Wb}{o:Oc}{t:Id}(h:Ag m i 0 30=some (wkC w o t)):m i 24=some (.slice o.nl t (Da o.ops)):=Bw h rfl
def wQ_loc{F:Wb->Oc->List D->Option WY}(ds:List D)(m m':Mem)(fr:Id)(h:∀l∈(wQ F).rd ds m,m l.1 l.2=m' l.1 l.2):(wQ F).ex ds m fr=(wQ F).ex ds m' fr:=by
 simp only[wQ]at h ⊢;split
 ·rename_i i rest;have hr:Ag m i 0 30=Ag m' i 0 30:=BC (λl hl=>h l (ZH _ hl));have hp:atW m i=atW m' i:=by
   funext x;obtain⟨w,o,t⟩:=x;apply propext;unfold atW;rw[hr];have key:Ag m' i 0 30=some (wkC w o t)->BO m 107 o.nl t o.ops.isEmpty=BO m' 107 o.nl t o.ops.isEmpty:=λhc=>by
    refine Ee (h (t,0) (ZE _ ?_));have:=at24 (hr.trans hc);rw[this];simp
   constructor
   ·rintro⟨a,b,c⟩;exact⟨a,by rw[←key a];exact b,c⟩
   ·rintro⟨a,b,c⟩;exact⟨a,by rw[key a];exact b,c⟩
  rw[hp]
 ·rfl
def atW_uniq{m:Mem}{i:Id}{x y:Wb×Oc×Id}(hx:atW m i x)(hy:atW m i y):y=x:=by
 have:=hy.1.symm.trans hx.1;simp only[Qm]at this;obtain⟨a,b,c⟩:=wkC_inj this;exact QJ a (QJ b c)
structure Wt (i fr:Id) (m0:Mem) (nl0:Bool) (t0:Id) (m:Mem) (w:Wb) (o:Oc) (t:Id):Prop where
 at_:atW m i (w,o,t)
 loc:∀q,t≠q::fr
 sub0:nl0=false->¬fr<:+t0
 ch:(t=t0∧o.nl=nl0∧∀j x d,(j≠i∨30<=x)->m0 j x=some d->m j x=some d)∨
  ((∃l k,t=l++k::fr)∧o.nl=false∧(nl0=false->m t0 0=some (.tok 0))∧∀j x d,(j≠i∨30<=x)->(nl0=true∨j≠t0∨x≠0)->m0 j x=some d->m j x=some d)
def WE(i fr:Id)(m0:Mem)(nl0:Bool)(t0:Id)(w:Wb)(y:WY)(d:D)(m':Mem):Prop:=d=y.1∧match y.2.2 with
 |none=>Ag m' i 0 30=some (wkC w y.2.1 t0)∧∀j x d,(j≠i∨30<=x)->m0 j x=some d->m' j x=some d
 |some l=>Ag m' i 0 30=some (wkC w y.2.1 (l++fr))∧m' (l++fr) 0=some (.tok 108)∧(nl0=false->m' t0 0=some (.tok 0))∧∀j x d,(j≠i∨30<=x)->(nl0=true∨j≠t0∨x≠0)->m0 j x=some d->m' j x=some d
section
variable{i fr t0 t:Id}{m0 m m':Mem}{nl0:Bool}{w:Wb}{o o':Oc}
def wt_bool(h:Ag m i 0 30=some (wkC w o t)):m i 0=some (.bool w.v.se):=Bw h rfl
def tok_ne(h:atW m i (w,o,t))(hn:o.nl=false):i≠t:=by
 rintro rfl;have h1:=wt_bool h.1;have h2:=EI h.2.1 hn;rw[h1]at h2;cases h2
def zero_ne(h:Ag m i 0 30=some (wkC w o t))(h2:m t0 0=some (.tok 0)):t0≠i:=by
 rintro rfl;rw[wt_bool h]at h2;cases h2
def Wt.put(h:Wt i fr m0 nl0 t0 m w o t)(hfr:∀j x,fr<:+j->m0 j x=none)(hni:∀k,(i=k::fr)=False){q p:Nat}{ys:List D}:Wt i fr m0 nl0 t0 (m.put (q::fr) p ys) w o t:=by
 obtain⟨⟨a1,a2,a3⟩,hl,hs,hc⟩:=h;have hi:i≠q::fr:=λe=>(hni q).mp e
 have hout:∀j x d,m0 j x=some d->j≠q::fr:=λj x d hm e=>by
  rw[e,hfr (q::fr) _ ⟨[q],rfl⟩]at hm;cases hm
 refine⟨⟨by rw[rdC_oth hi];exact a1,?_,a3⟩,hl,hs,?_⟩
 ·rw[←a2];exact Ee (by rw[Mem.put_other (hl q)])
 ·rcases hc with ⟨c1,c0,c2⟩|⟨c1,c2,c3,c4⟩
  ·refine .inl ⟨c1,c0,λj x d hj hm=>?_⟩;rw[Mem.put_other (hout j x d hm)];exact c2 j x d hj hm
  ·refine .inr ⟨c1,c2,λh0=>?_,λj x d hj hj2 hm=>?_⟩
   ·rw[Mem.put_other (λe=>hs h0 (by rw[e];exact⟨[q],rfl⟩))];exact c3 h0
   ·rw[Mem.put_other (hout j x d hm)];exact c4 j x d hj hj2 hm
def Wt.cell(h:Wt i fr m0 nl0 t0 m w o t)(hcell:Ag m' i 0 30=some (wkC w o' t))(h1:o'.nl=o.nl)(h2:o'.ops=o.ops)(hm':∀j x,(j≠i∨30<=x)->m' j x=m j x):Wt i fr m0 nl0 t0 m' w o' t:=by
 obtain⟨a,hl,hs,hc⟩:=h;refine⟨⟨hcell,?_,by show o'.nl=true->t=[];rw[h1];exact a.2.2⟩,hl,hs,?_⟩
 ·show BO m' 107 o'.nl t o'.ops.isEmpty=true;rw[h1,h2];have ht:=a.2.1;cases hn:o.nl with
  |true=>simp only[hn,BO,if_true]at ht ⊢;exact ht
  |false=>
   have hne:=tok_ne a hn;simp only[hn]at ht;rw[←ht];exact Ee (hm' t 0 (.inl (λe=>hne e.symm)))
 ·rcases hc with ⟨c1,c0,c2⟩|⟨c1,c2,c3,c4⟩
  ·exact .inl ⟨c1,by rw[h1];exact c0,λj x d hj hm=>by rw[hm' j x hj];exact c2 j x d hj hm⟩
  ·exact .inr ⟨c1,by rw[h1];exact c2,λh0=>by rw[hm' t0 0 (.inl (zero_ne a.1 (c3 h0)))];exact c3 h0,λj x d hj hj2 hm=>by rw[hm' j x hj];exact c4 j x d hj hj2 hm⟩
def put_i{cs:List D}(hl:cs.length=30):∀j x,(j≠i∨30<=x)->(m.put i 0 cs) j x=m j x:=λj x h=>by
 rcases h with h|h
 ·rw[Mem.put_other h]
 ·by_cases hj:j=i
  ·subst hj;rw[Mem.put_out (by omega)]
  ·rw[Mem.put_other hj]
def F9{nl:Bool}{xs:List D}{e:Nat}{f:Id}{j:Id}{x:Nat}:Upd.app m (Bi e f (.slice nl t xs)) j x=if j=f∧x=0 then some (.tok (e+1))else if nl=false∧j=t∧x=0 then some (.tok 0)else m j x:=C7
def nameW(t fr:Id):Option (List Nat)->Id
 |none=>t
 |some l=>l++fr
def Wt.call(h:Wt i fr m0 nl0 t0 m w o t)(hfr:∀j x,fr<:+j->m0 j x=none)(hni:∀k l,(i=l++k::fr)=False){k:Nat}{d:D}{ol:Option (List Nat)}
  (hs1:ol=none->o'.nl=o.nl∧o'.ops=o.ops) (hs2:∀l,ol=some l->o'.nl=false∧l≠[]):
  Wt i fr m0 nl0 t0 (Upd.app m (updW i w o t (k::fr) (d,o',ol))) w o' (nameW t (k::fr) ol)∧∀q x,Upd.app m (updW i w o t (k::fr) (d,o',ol)) (q::fr) x=m (q::fr) x:=by
 cases ol with
 |none=>
  obtain⟨h1,h2⟩:=hs1 rfl;refine⟨h.cell (rdC_same' (CM _ _ _)) h1 h2 (put_i (CM _ _ _)),λq x=>?_⟩;have e0:q::fr≠i:=λe=>(hni q []).mp e.symm
  show(m.put i 0 _) (q::fr) x=_;rw[Mem.put_other e0]
 |some l=>
  obtain⟨hn,hl0⟩:=hs2 l rfl;obtain⟨a,hl,hs,hc⟩:=h;have hit:i≠l++k::fr:=λe=>(hni k l).mp e
  have key:∀j x,Upd.app m (updW i w o t (k::fr) (d,o',some l)) j x=if j=l++k::fr∧x=0 then some (.tok 108)else if o.nl=false∧j=t∧x=0 then some (.tok 0)else(m.put i 0 (wkC w o' (l++k::fr))) j x:=λj x=>F9 (m:=m.put i 0 (wkC w o' (l++k::fr)))
  have ne1:∀q,q::fr≠l++k::fr:=λq e=>by
   have:=congrArg List.length e;simp only[Qt,QA]at this;exact hl0 (Zx.1 (by omega))
  have suf:fr<:+l++k::fr:=⟨l++[k],by simp⟩;refine⟨⟨⟨?_,?_,λh=>absurd h (by rw[hn];simp)⟩,λq e=>ne1 q e.symm,hs,.inr ⟨⟨l,k,rfl⟩,hn,λh0=>?_,λj x dd hj hj2 hm=>?_⟩⟩,λq x=>?_⟩
  ·show Ag _ i 0 30=some (wkC w o' (l++k::fr));rw[←rdC_same' (m:=m) (i:=i) (CM w o' (l++k::fr))];refine BC (λq hq=>?_);have hq1:q.1=i:=by
    simp only[Ai,Za]at hq;obtain⟨_,_,rfl⟩:=hq;rfl
   rw[key,hq1,if_neg (λe=>hit e.1),if_neg (λe=>tok_ne a e.1 e.2.1)]
  ·show BO _ 107 o'.nl (l++k::fr) _=true;rw[hn];unfold BO;rw[if_neg Bool.false_ne_true];simp only[key,and_self,if_true];cases l<;>simp
  ·have hne:t0≠l++k::fr:=λe=>hs h0 (e▸suf)
   rw[key,if_neg (λe=>hne e.1)];rcases hc with ⟨c1,c0,c2⟩|⟨c1,c2,c3,c4⟩
   ·rw[if_pos ⟨c0.trans h0,c1.symm,rfl⟩]
   ·split
    ·rfl
    ·rw[Mem.put_other (zero_ne a.1 (c3 h0))];exact c3 h0
  ·have hne:j≠l++k::fr:=λe=>by rw[e,hfr _ _ suf]at hm;cases hm
   rw[key,if_neg (λe=>hne e.1)];have hold:m j x=some dd:=by
    rcases hc with ⟨c1,c0,c2⟩|⟨c1,c2,c3,c4⟩
    ·exact c2 j x dd hj hm
    ·exact c4 j x dd hj hj2 hm
   rw[if_neg]
   ·rw[put_i (CM _ _ _) j x hj];exact hold
   ·rintro⟨e1,e2,e3⟩;rcases hc with ⟨c1,c0,c2⟩|⟨⟨l',k',c1⟩,c2,c3,c4⟩
    ·rcases hj2 with h|h|h
     ·rw[←c0,e1]at h;cases h
     ·exact h (e2.trans c1)
     ·exact h e3
    ·rw[e2,c1,hfr _ _ ⟨l'++[k'],by simp⟩]at hm;cases hm
  ·have e0:q::fr≠i:=λe=>(hni q []).mp e.symm
   rw[key,if_neg (λe=>ne1 q e.1),if_neg (λe=>hl q e.2.1.symm),Mem.put_other e0]
def Wt.start(h:atW m i (w,o,t))(hfr:∀j x,fr<:+j->m j x=none):Wt i fr m o.nl t m w o t:=by
 have hs:o.nl=false->¬fr<:+t:=λhn hs=>by
  have:=EI h.2.1 hn;rw[hfr _ _ hs]at this;cases this
 refine⟨h,λq e=>?_,hs,.inl ⟨rfl,rfl,λ_ _ _ _ h=>h⟩⟩;cases hn:o.nl with
 |true=>have:=h.2.2 hn;simp only at this;rw[this]at e;cases e
 |false=>exact hs hn (by rw[e];exact⟨[q],rfl⟩)
def Wt.end0(h:Wt i fr m0 nl0 t0 m w o t0)(hn0:nl0=true->t0=[]){d:D}:WE i fr m0 nl0 t0 w (d,o,none) d m:=by
 refine⟨rfl,h.at_.1,?_⟩;rcases h.ch with ⟨c1,c0,c2⟩|⟨⟨l,k,c1⟩,c2,c3,c4⟩
 ·exact c2
 ·exfalso;cases hn:nl0 with
  |true=>rw[hn0 hn]at c1;simp at c1
  |false=>exact h.sub0 hn (c1▸⟨l++[k],by simp⟩)
def Wt.endl{l:List Nat}(h:Wt i fr m0 nl0 t0 m w o (l++fr))(hl:l≠[]){d:D}:WE i fr m0 nl0 t0 w (d,o,some l) d m:=by
 refine⟨rfl,h.at_.1,?_⟩;rcases h.ch with ⟨c1,c0,c2⟩|⟨⟨l',k,c1⟩,c2,c3,c4⟩
 ·exfalso;cases hn:nl0 with
  |true=>
   have:=h.at_.2.2 (c0.trans hn);simp only[Zl]at this;exact hl this.1
  |false=>exact h.sub0 hn (c1▸⟨l,rfl⟩)
 ·exact⟨EI h.at_.2.1 c2,c3,c4⟩
end
def runsW(S:Summs)(dc:DC)(rs:List RV)(N:Nat)(w:Wb)(o:Oc)(rest:List D)(y:WY):Prop:=rest.length+1<=N∧(y.2.2=none->y.2.1.nl=o.nl∧y.2.1.ops=o.ops)∧(∀l,y.2.2=some l->y.2.1.nl=false∧l≠[])∧
 ∀(i:Id)(m:Mem)(fr t:Id),atW m i (w,o,t)->(∀j x,fr<:+j->m j x=none)->(∀k l,(i=l++k::fr)=False)->(∀k,(i=k::fr)=False)->
  dc.wp S fr (DY rs (WE i fr m o.nl t w y)) ⟨Br (.ptr i 0::rest),m,0⟩
open Classical in
def RW(S:Summs)(dc:DC)(rs:List RV)(N:Nat):Wb->Oc->List D->Option WY:=λw o rest=>if h:∃y,runsW S dc rs N w o rest y then some (Classical.choose h)else none
def EL{S:Summs}{dc:DC}{rs:List RV}{N:Nat}{w:Wb}{o:Oc}{rest:List D}{y:WY}(h:RW S dc rs N w o rest=some y):runsW S dc rs N w o rest y:=by
 unfold RW at h;split at h
 ·rename_i hx;simp only[Qm]at h;subst h;exact Classical.choose_spec hx
 ·cases h
def one_w(w:Wb)(o:Oc)(ho:o.nl=true->o.ops=[]):∃(m:Mem)(t:Id),atW m [0] (w,o,t)∧(∀j x,[1]<:+j->m j x=none)∧¬[1]<:+t:=by
 have n1:¬[1]<:+[0]:=by decide
 have n2:¬[1]<:+[2]:=by decide
 cases hn:o.nl with
 |true=>
  refine⟨Mem.put (λ_ _=>none) [0] 0 (wkC w o []),[],⟨rdC_same' (CM _ _ _),?_,λ_=>rfl⟩,λj x hj=>?_,by decide⟩
  ·show BO _ 107 o.nl [] o.ops.isEmpty=true;rw[hn,ho hn];rfl
  ·rw[Mem.put_other (λe=>n1 (by rw[←e];exact hj))]
 |false=>
  refine⟨(Mem.put (λ_ _=>none) [0] 0 (wkC w o [2])).put [2] 0 [.tok 108],[2],⟨?_,?_,λh=>?_⟩,λj x hj=>?_,n2⟩
  ·rw[rdC_oth (by decide)];exact rdC_same' (CM _ _ _)
  ·show BO _ 107 o.nl [2] o.ops.isEmpty=true;rw[hn];unfold BO;rw[if_neg Bool.false_ne_true];simp[Mem.put]
  ·simp only at h;rw[hn]at h;cases h
  ·rw[Mem.put_other (λe=>n2 (by rw[←e];exact hj)),Mem.put_other (λe=>n1 (by rw[←e];exact hj))]
def Bd{S:Summs}{dc:DC}{rs:List RV}{N:Nat}{w:Wb}{o:Oc}{rest:List D}{y:WY}(ho:o.nl=true->o.ops=[])(hy:runsW S dc rs N w o rest y):RW S dc rs N w o rest=some y:=by
 have hx:∃y,runsW S dc rs N w o rest y:=⟨y,hy⟩;unfold RW;rw[dif_pos hx];obtain⟨m,t,h1,h2,h3⟩:=one_w w o ho;have e1:∀k l,(([0]:Id)=l++k::[1])=False:=λk l=>eq_false (λe=>by
  have:=congrArg List.getLast? e;simp at this)
 have e2:∀k,(([0]:Id)=k::[1])=False:=λk=>eq_false (λe=>by simp at e)
 obtain⟨d,m',a,b⟩:=ends_det ((Classical.choose_spec hx).2.2.2 [0] m [1] t h1 h2 e1 e2) (hy.2.2.2 [0] m [1] t h1 h2 e1 e2);generalize Classical.choose hx=z at *;obtain⟨z1,z2,z3⟩:=z;obtain⟨y1,y2,y3⟩:=y;obtain⟨rfl,a⟩:=a;obtain⟨hd,b⟩:=b;simp only at hd;subst hd;cases z3 with
 |none=>
  cases y3 with
  |none=>
   have:=a.1.symm.trans b.1;simp only[Qm]at this;rw[(wkC_inj this).2.1]
  |some l=>
   have:=a.1.symm.trans b.1;simp only[Qm]at this;exact absurd ⟨l,(wkC_inj this).2.2.symm⟩ h3
 |some l=>
  cases y3 with
  |none=>
   have:=a.1.symm.trans b.1;simp only[Qm]at this;exact absurd ⟨l,(wkC_inj this).2.2⟩ h3
  |some l2=>
   have:=a.1.symm.trans b.1;simp only[Qm]at this;obtain⟨_,e3,e4⟩:=wkC_inj this;rw[e3,List.append_cancel_right e4]
def Df{S:Summs}{f:FuncId}{N:Nat}{dc:DC}{rs:List RV}(hf:Fn Qc f N dc rs)(hS:Summs.ok Qc S):(wQ (RW S dc rs N)).ok Qc f:=by
 refine Fi hS hf wQ_loc (λds m fr r u hex hfr=>?_);simp only[wQ]at hex;split at hex
 ·rename_i i rest;rw[Zk]at hex;obtain⟨⟨w,o,t⟩,hp,hex⟩:=hex;rw[ZA]at hex;obtain⟨y,hF,hex⟩:=hex;simp only[Zu]at hex;obtain⟨rfl,rfl⟩:=hex;have hat:=pickW_get hp;obtain⟨hN,hs1,hs2,hrun⟩:=EL hF;have hm0:m i 0=some (.bool w.v.se):=wt_bool hat.1;have hni:∀k l,(i=l++k::fr)=False:=λk l=>eq_false (λe=>by
   rw[e,hfr _ _ ⟨l++[k],by simp⟩]at hm0;cases hm0)
  refine⟨hN,wp_mono' (hrun i m fr t hat hfr hni (λk=>hni k [])) (λe st' he=>?_)⟩;obtain⟨he1,d,he2,rfl,hE⟩:=he;refine⟨he1,_,he2,rfl,λj x dd hx=>?_⟩;obtain⟨y1,y2,y3⟩:=y;cases y3 with
  |none=>
   obtain⟨g1,g2⟩:=hE;have hx':(m.put i 0 (wkC w y2 t)) j x=some dd:=hx;by_cases hj:j≠i∨30<=x
   ·rw[put_i (CM _ _ _) j x hj]at hx';exact g2 j x dd hj hx'
   ·have hji:j=i:=Classical.byContradiction (λh=>hj (.inl h));have hx30:x<30:=Zy (λh=>hj (.inr h));subst hji;have hput:=Mem.put_same (m:=m) (i:=j) (o:=0) (j:=x) (ds:=wkC w y2 t) (by rw[CM];exact hx30);rw[Qh]at hput;rw[hput]at hx';exact Bw g1 hx'
  |some l=>
   obtain⟨g1,g2,g3,g4⟩:=hE;obtain⟨hn,hl0⟩:=hs2 l rfl;have hx':Upd.app (m.put i 0 (wkC w y2 (l++fr))) (Bi 107 (l++fr) (.slice o.nl t (Da o.ops))) j x=some dd:=hx;rw[F9]at hx';split at hx'
   ·rename_i e;rw[e.1,e.2];rw[g2];exact hx'
   ·split at hx'
    ·rename_i e;rw[e.2.1,e.2.2,g3 e.1];exact hx'
    ·rename_i e1 e2;by_cases hj:j≠i∨30<=x
     ·rw[put_i (CM _ _ _) j x hj]at hx';refine g4 j x dd hj ?_ hx';cases ho:o.nl with
      |true=>exact .inl rfl
      |false=>
       by_cases h1:j=t
       ·by_cases h2:x=0
        ·exact absurd ⟨ho,h1,h2⟩ e2
        ·exact .inr (.inr h2)
       ·exact .inr (.inl h1)
     ·have hji:j=i:=Classical.byContradiction (λh=>hj (.inl h));have hx30:x<30:=Zy (λh=>hj (.inr h));subst hji;have hput:=Mem.put_same (m:=m) (i:=j) (o:=0) (j:=x) (ds:=wkC w y2 (l++fr)) (by rw[CM];exact hx30);rw[Qh]at hput;rw[hput]at hx';exact Bw g1 hx'
 ·cases hex
def got_w{F:Wb->Oc->List D->Option WY}{w:Wb}{o:Oc}{t i fr:Id}{m:Mem}{rest:List D}{y:WY}{K:D×Upd->Prop}{g}(ha:atW m i (w,o,t))(hF:F w o rest=some y)(h:K (y.1,updW i w o t fr y)):Got ((wQ F).ex (.ptr i 0::rest) m fr) K g:=by
 refine Got.intro ?_ h;simp only[wQ,pickW_eq ha (λz hz=>atW_uniq ha hz),Qp,hF,Zi]
end Go.Vd
namespace Go.Vd
open Go.Proofs
def dc140:=y0 f140 [] []
def fn140:Fn Qc 140 19 dc140 [.cell (some 2) 4]:=Am func140
def dc244:=y0 f244 [] []
def fn244:Fn Qc 244 18 dc244 []:=Am func244
def dc245l0:=y1 f245 1 [] []
def dc245:=y0 f245 [] [(1,dc245l0)]
def fn245:Fn Qc 245 20 dc245 []:=Am func245
def dc138:=y0 f138 [(1,[(3,0),(3,13),(7,13),(13,0),(13,3),(13,7)])] []
def fn138:Fn Qc 138 50 dc138 []:=Am func138
def dc141:=y0 f141 [] []
def fn141:Fn Qc 141 31 dc141 []:=Am func141
def dc142l0:=y1 f142 3 [(6,[(8,5)])] []
def dc142:=y0 f142 [] [(3,dc142l0)]
def fn142:Fn Qc 142 37 dc142 []:=Am func142
abbrev y2(f:Func)(ps:List (Nat×List (Nat×Nat)))(ls:List (Nat×DC)){c:DC}(_:tQ ps ls (bAt f)=c:=by exact Eq.trans (by conv=>lhs;whnf) (by simp only[tQ,fid,List.append_eq,tR,tO,tAt,tAi,tAb,tAs,tAf,tAl,tAp,tAn,tAu,tAg,zT,Tz.k,Tz.z,Tz.n,Tz.d,tL,tP,tB,tE,tX,tS,tI,tG,tC,tM,fAt,offsZ,lk,ofVal,List.getD_cons_zero,List.getD_cons_succ,List.map_cons,List.map_nil,gB3,List.headD_cons,List.cons_append,List.nil_append,Option.map_some,Option.map_none,Option.getD_some,Bool.false_eq_true,reduceIte,Nat.reduceAdd,Nat.reduceMul,Nat.reduceEqDiff]<;>rfl)):DC:=c
abbrev y3(f:Func)(k:Nat)(ps:List (Nat×List (Nat×Nat)))(ls:List (Nat×DC)){c:DC}(_:tQ ps ls ((lpAt k (bAt f)).getD .skip)=c:=by exact Eq.trans (by conv=>lhs;whnf) (by simp only[tQ,fid,List.append_eq,tR,tO,tAt,tAi,tAb,tAs,tAf,tAl,tAp,tAn,tAu,tAg,zT,Tz.k,Tz.z,Tz.n,Tz.d,tL,tP,tB,tE,tX,tS,tI,tG,tC,tM,fAt,offsZ,lk,ofVal,List.getD_cons_zero,List.getD_cons_succ,List.map_cons,List.map_nil,gB3,List.headD_cons,List.cons_append,List.nil_append,Option.map_some,Option.map_none,Option.getD_some,Bool.false_eq_true,reduceIte,Nat.reduceAdd,Nat.reduceMul,Nat.reduceEqDiff]<;>rfl)):DC:=c
def dc54:=y0 f54 [(0,[(2,6)])] []
def fn54:Fn Qc 54 14 dc54 []:=Am func54
def dc55:=y0 f55 [] []
def fn55:Fn Qc 55 13 dc55 []:=Am func55
def dc56:=y0 f56 [] []
def fn56:Fn Qc 56 5 dc56 []:=Am func56
def dc133:=y0 f133 [] []
def fn133:Fn Qc 133 16 dc133 []:=Am func133
def dc135:=y0 f135 [] []
def fn135:Fn Qc 135 42 dc135 [.cell (some 4) 4,.t 5,.t 6]:=Am func135
def dc58:=y0 f58 [(0,[(22,26),(26,4),(26,9),(26,14),(26,19),(26,22)]),(4,[(1,2)])] []
def fn58:Fn Qc 58 48 dc58 []:=Am func58
def dc63:=y0 f63 [] []
def fn63:Fn Qc 63 113 dc63 []:=Am func63
def dc19:=y0 f19 [] []
def fn19:Fn Qc 19 88 dc19 [.cell (some 9) 6]:=Am func19
def dc10:=y2 f10 [(6,[(4,1),(4,6),(5,6),(6,1),(6,4),(6,5)])] []
def fn10:Fn Qc 10 101 dc10 [.t 0]:=Am func10
end Go.Vd
namespace Go.Vd
open Go.Proofs Go.RowKit
def AS{m:Mem}{i:Id}{w:Wb}{o:Oc}{t:Id}(h:Ag m i 0 30=some (wkC w o t)):m i 0=some (.bool w.v.se)∧m i 1=some (.int .i64 w.v.te)∧m i 2=some (.str w.v.key)∧m i 3=some (.slice w.v.nlm [] (Ar w.v.ms))∧m i 4=some (.slice w.v.nlt [] (Ax w.v.ks))∧m i 5=some (.int .u8 w.a.op)∧m i 6=some (.str w.a.tk)∧m i 7=some (.str w.a.pa)∧m i 8=some (.str w.a.ot)∧m i 9=some (.int .i64 w.a.n)∧m i 10=some (.int .i64 w.a.cas)∧m i 11=some (.bool w.a.fl)∧m i 12=some (.slice w.a.nln [] (AT w.a.ns))∧m i 13=some (.str w.a.da)∧m i 14=some (.slice w.a.nlr [] (Al w.a.rs))∧m i 15=some (.str w.a.key)∧m i 16=some (.slice w.k.es.isEmpty [] (w.k.es.map λx=> .str x.1))∧m i 17=some (.slice w.k.es.isEmpty [] (w.k.es.map λx=> .str x.2.1))∧m i 18=some (.slice w.k.es.isEmpty [] (w.k.es.map λx=> .bool x.2.2))∧m i 19=some (.slice w.k.ls.isEmpty [] (w.k.ls.map λx=> .str x.1))∧m i 20=some (.slice w.k.ls.isEmpty [] (w.k.ls.map lsD))∧m i 21=some (.str o.need)∧m i 22=some (.bool o.li)∧m i 23=some (.str o.rep)∧m i 24=some (.slice o.nl t (Da o.ops))∧m i 25=some (.bool o.vw.se)∧m i 26=some (.int .i64 o.vw.te)∧m i 27=some (.str o.vw.key)∧m i 28=some (.slice o.vw.nlm [] (Ar o.vw.ms))∧m i 29=some (.slice o.vw.nlt [] (Ax o.vw.ks)):=
 ⟨Bw h rfl,Bw h rfl,Bw h rfl,Bw h rfl,Bw h rfl,Bw h rfl,Bw h rfl,Bw h rfl,Bw h rfl,Bw h rfl,Bw h rfl,Bw h rfl,Bw h rfl,Bw h rfl,Bw h rfl,Bw h rfl,Bw h rfl,Bw h rfl,Bw h rfl,Bw h rfl,Bw h rfl,Bw h rfl,Bw h rfl,Bw h rfl,Bw h rfl,Bw h rfl,Bw h rfl,Bw h rfl,Bw h rfl,Bw h rfl⟩
def Wt.cellp{i fr t0 t:Id}{m0 m:Mem}{nl0:Bool}{w:Wb}{o o':Oc}{p:Nat}{ys:List D}(h:Wt i fr m0 nl0 t0 m w o t)(hl:p+ys.length<=30)(hc:(wkC w o t).take p++ys++(wkC w o t).drop (p+ys.length)=wkC w o' t)(h1:o'.nl=o.nl)(h2:o'.ops=o.ops):Wt i fr m0 nl0 t0 (m.put i p ys) w o' t:=by
 refine h.cell (by rw[rd_put h.at_.1 hl,hc]) h1 h2 (λj x hj=>?_);rcases hj with hj|hj
 ·rw[Mem.put_other hj]
 ·by_cases e:j=i
  ·subst e;rw[Mem.put_out (by omega)]
  ·rw[Mem.put_other e]
structure Oc0 (o:Oc):Prop where
 nl:o.nl=true
 ops:o.ops=[]
def S54:Summs:=AF [(120,Ac R120)]
def W54:Wb->Oc->List D->Option WY:=RW S54 dc54 [] 14
def ko54:(wQ W54).ok Qc 54:=Df fn54 (Ab ko120 Ad)
def W54_eq(w:Wb)(o:Oc)(e:Int)(h0:Oc0 o)(he:1<=e∧e<=99):W54 w o [.int .i64 e]=some (.tup [],⟨[],false,ryT (.fail e),true,[],w.v⟩,none):=by
 refine Bd (λ_=>h0.ops) ⟨Qa rfl,λh=>⟨h0.nl.symm,h0.ops.symm⟩,λl h=>(by cases h),λi m fr t ha hfr hni hni0=>?_⟩;have hW:=Wt.start ha hfr;unfold dc54;have xx:=AS ha.1;have h120:=R120_eq e he;have ht:t=[]:=ha.2.2 h0.nl;simp only[gB1,↓go1,go5,simprocAttr,xx,An S54 120,h120]
 (refine Ao.intro (Aj ?_) ?_;first|rfl|simp[A2,AL,rds,Ai,Ac])
 simp only[↓go1,go2,go3,simprocAttr];subst ht;exact(hW.cellp (o':=⟨[],false,ryT (.fail e),true,[],w.v⟩) (Qa rfl) rfl h0.nl.symm h0.ops.symm).end0 (λ_=>rfl)
def S55:Summs:=AF [(121,Ac R121)]
def W55:Wb->Oc->List D->Option WY:=RW S55 dc55 [] 13
def ko55:(wQ W55).ok Qc 55:=Df fn55 (Ab ko121 Ad)
def GF(w:Wb)(o:Oc)(y:Ry)(ho:o.nl=true->o.ops=[])(h:ryOk y)(hn:ryN y):W55 w o [.agg (ryC y)]=some (.tup [],{o with rep:=ryT y},none):=by
 refine Bd ho ⟨Qa rfl,λh=>⟨rfl,rfl⟩,λl h=>(by cases h),λi m fr t ha hfr hni hni0=>?_⟩;have hW:=Wt.start ha hfr;unfold dc55;have xx:=AS ha.1;have h121:=R121_eq y h hn;have d0:((ryC y).map D.un1=ryC y∧(ryC y).all D.calm1=true)∧D.data (.agg (ryC y))=true∧(D.agg (ryC y)).cells=ryC y∧(ryC y).length=10:=by cases y<;>exact⟨⟨rfl,rfl⟩,rfl,rfl,rfl⟩
 obtain⟨⟨d1,d2⟩,d3,d4,d5⟩:=d0;obtain⟨a,b,cc,d,e,f,g,i',j,k,hc⟩:∃a b c d e f g i j k,ryC y=[a,b,c,d,e,f,g,i,j,k]:=by cases y<;>exact⟨_,_,_,_,_,_,_,_,_,_,rfl⟩
 rw[hc]at d1 d2 h121 ⊢;simp only[Ql,Qo,Qd,and_true]at d1;simp only[QY,Q1,Bool.and_true,QQ]at d2;obtain⟨u0,u1,u2,u3,u4,u5,u6,u7,u8,u9⟩:=d1;obtain⟨k0,k1,k2,k3,k4,k5,k6,k7,k8,k9⟩:=d2;simp only[gB1,↓go1,go5,simprocAttr,xx.2.2.2.2.2.2.2.2.2.2.2.2.2.2.2.2.2.2.2.2.2.2.2.1,hni0,An S55 121,h121,u0,u1,u2,u3,u4,u5,u6,u7,u8,u9,k0,k1,k2,k3,k4,k5,k6,k7,k8,k9];exact((hW.put hfr hni0).cellp (o':={o with rep:=ryT y}) (Qa rfl) rfl rfl rfl).end0 ha.2.2
def S56:Summs:=AF [(55,wQ W55)]
def W56:Wb->Oc->List D->Option WY:=RW S56 dc56 [] 5
def ko56:(wQ W56).ok Qc 56:=Df fn56 (Ab ko55 Ad)
def W56_eq(w:Wb)(o:Oc)(ho:o.nl=true->o.ops=[]):W56 w o []=some (.tup [],{o with rep:=ryT .done},none):=by
 refine Bd ho ⟨Qa rfl,λh=>⟨rfl,rfl⟩,λl h=>(by cases h),λi m fr t ha hfr hni hni0=>?_⟩;have s55:S56 55=some (wQ W55):=rfl;have hW:=Wt.start ha hfr;unfold dc56;have h55:=GF w o .done ho trivial trivial;unfold ryC at h55;simp only[↓go1,gB2,go5,simprocAttr,Ah s55];refine got_w ha h55 ?_;obtain⟨c1,c2⟩:=hW.call (o':={o with rep:=ryT .done}) (d:= .tup []) (ol:=none) (k:=2) hfr hni (λ_=>⟨rfl,rfl⟩) (λl h=>by cases h);simp only[↓go1,go2,simprocAttr];exact c1.end0 ha.2.2
def S133:Summs:=AF []
def W133:Wb->Oc->List D->Option WY:=RW S133 dc133 [] 16
def ko133:(wQ W133).ok Qc 133:=Df fn133 Ad
def W133_eq(w:Wb)(o:Oc)(q:Bs)(li:Bool)(h0:Oc0 o):W133 w o [.str q,.bool li]=some (.tup [],⟨q,li,[],true,[],w.v⟩,none):=by
 refine Bd (λ_=>h0.ops) ⟨Qa rfl,λh=>⟨h0.nl.symm,h0.ops.symm⟩,λl h=>(by cases h),λi m fr t ha hfr hni hni0=>?_⟩;have hW:=Wt.start ha hfr;unfold dc133;have xx:=AS ha.1;have ht:t=[]:=ha.2.2 h0.nl;simp only[gB1,↓go1,go5,simprocAttr,xx];subst ht;exact(hW.cellp (o':=⟨q,li,[],true,[],w.v⟩) (Qa rfl) rfl h0.nl.symm h0.ops.symm).end0 (λ_=>rfl)
def S122:Summs:=AF []
def FH:Wb->Oc->List D->Option WY:=RW S122 dc122 [] 23
def ko122:(wQ FH).ok Qc 122:=Df fn122 Ad
def W122_eq(w:Wb)(o:Oc)(k:Int)(key val:Bs)(ho:o.nl=true->o.ops=[])(hl:o.ops.length<=1000):FH w o [.int .u8 k,.str key,.str val]=some (.tup [],{o with nl:=false,ops:=o.ops++[(k,key,val)]},some ([11])):=by
 refine Bd ho ⟨Qa rfl,λh=>(by cases h),λl h=>(by simp only[Qm]at h;subst h;exact⟨rfl,by simp⟩),λi m fr t ha hfr hni hni0=>?_⟩;have hW:=Wt.start ha hfr;unfold dc122;have xx:=AS ha.1;have hne:o.nl=false->i≠t:=λh=>tok_ne ha h
 have hnt:o.nl=false->m t 0=some (.tok 108):=λh=>EI ha.2.1 h
 have hti:∀q,t≠q::fr:=hW.loc;have hon:o.nl=true->Da o.ops=[]:=λh=>by rw[ho h];rfl
 have hops:Da (o.ops++[(k,key,val)])=Da o.ops++[.agg [.int .u8 k,.str key,.str val]]:=by simp[Da,opD]
 have hlen:(Da o.ops).length=o.ops.length:=opsD_len _;simp only[↓go1,gB2,go5,simprocAttr,xx.2.2.2.2.2.2.2.2.2.2.2.2.2.2.2.2.2.2.2.2.2.2.2.2.1];refine Ao.intro ⟨by simp only[hlen];omega,rfl,?_⟩ ?_
 ·cases hn:o.nl with
  |true=>exact .inl rfl
  |false=>exact .inr ⟨by rw[Mem.put_other (hti _)];exact hnt hn,by
    have:=EI ha.2.1 hn;unfold atW BO at ha;simp only[hn,Bool.false_eq_true,if_false,this,beq_self_eq_true,Bool.true_and]at ha;intro e;rw[e]at ha;simp at ha⟩
 rw[BH hon,rowU_grow];have key1:∀j x,Upd.app (m.put (10::fr) 0 [.tok 108]) (Bi 107 (11::fr) (.slice o.nl t (Da o.ops))) j x=if j=11::fr∧x=0 then some (.tok 108)else if o.nl=false∧j=t∧x=0 then some (.tok 0)else(m.put (10::fr) 0 [.tok 108]) j x:=λj x=>F9
 generalize hM:Upd.app (m.put (10::fr) 0 [.tok 108]) (Bi 107 (11::fr) (.slice o.nl t (Da o.ops)))=M at *;have hMi:∀x,M i x=m i x:=λx=>by
  rw[key1,if_neg (λe=>(hni0 11).mp e.1),if_neg (λe=>hne e.1 e.2.1),Mem.put_other (λe=>(hni0 10).mp e)]
 have hMc:Ag M i 0 30=some (wkC w o t):=by
  rw[←ha.1];exact BC (λl hl=>by
   simp only[Ai,Za]at hl;obtain⟨_,_,rfl⟩:=hl;exact hMi _)
 simp only[gB1,↓go1,go5,simprocAttr,xx.2.2.2.2.2.2.2.2.2.2.2.2.2.2.2.2.2.2.2.2.2.2.2.2.1,hMi];refine⟨rfl,?_,?_,λh=>?_,λj x d hj hj2 hm=>?_⟩
 ·rw[rd_put hMc (Qa rfl),←hops];rfl
 ·show(M.put i 24 _) (11::fr) 0=_;rw[Mem.put_other (λe=>(hni0 11).mp e.symm),key1,if_pos ⟨rfl,rfl⟩]
 ·rw[Mem.put_other (λe=>hne h e.symm),key1,if_neg (λe=>hti 11 e.1),if_pos ⟨h,rfl,rfl⟩]
 ·have hjf:∀q,j≠q::fr:=λq e=>by rw[e,hfr (q::fr) _ ⟨[q],rfl⟩]at hm;cases hm
  have e1:(M.put i 24 [.slice false (11::fr) (Da o.ops++[.agg [.int .u8 k,.str key,.str val]])]) j x=M j x:=by
   rcases hj with hj|hj
   ·rw[Mem.put_other hj]
   ·by_cases e:j=i
    ·subst e;rw[Mem.put_out (by simp;omega)]
    ·rw[Mem.put_other e]
  refine(show _=_ from e1).trans ?_;rw[key1,if_neg (λe=>hjf 11 e.1),if_neg,Mem.put_other (hjf 10)]
  ·exact hm
  ·rintro⟨a1,a2,a3⟩;rcases hj2 with h|h|h
   ·rw[a1]at h;cases h
   ·exact h a2
   ·exact h a3
end Go.Vd
namespace Go.Vd
open Go.Proofs
def dc57:=y0 f57 [(3,[(1,7)])] []
def fn57:Fn Qc 57 34 dc57 []:=Am func57
def dc59l0:=y1 f59 6 [] []
def dc59:=y0 f59 [(0,[(10,14),(14,4),(14,9),(14,10)]),(4,[(1,2)])] [(6,dc59l0)]
def fn59:Fn Qc 59 53 dc59 []:=Am func59
def dc60:=y0 f60 [(0,[(16,4),(16,9),(16,14)]),(1,[(6,10),(10,4),(10,5),(10,6)])] []
def fn60:Fn Qc 60 72 dc60 []:=Am func60
def dc61l0:=y1 f61 5 [] []
def dc61:=y0 f61 [(0,[(10,15),(15,4),(15,9),(15,10)])] [(5,dc61l0)]
def fn61:Fn Qc 61 48 dc61 []:=Am func61
end Go.Vd
namespace Go.Vd
open Go.Proofs Go.RowKit
def Oc.op(o:Oc)(k:Int)(key val:Bs):Oc:={o with nl:=false,ops:=o.ops++[(k,key,val)]}
def Bt(o:Oc)(p:Bs)(ns:List Int):Oc:={o with nl:=o.nl&&ns.isEmpty,ops:=o.ops++ns.map λn=>(2,Bn 2 p n,[])}
def dropO_op{o:Oc}{p:Bs}{ns:List Int}{n:Int}:(Bt o p ns).op 2 (Bn 2 p n) []=Bt o p (ns++[n]):=by
 simp[Bt,Oc.op]
def dropO_nil{o:Oc}{p:Bs}:Bt o p []=o:=by simp[Bt]
def dropN(ns:List Int):Option (List Nat):=if ns=[]then none else some [11,11*ns.length]
def BL(v:Vw)(p:Bs):Int×Bool:=if Cw v.ms p=-1 then(0,false)else(A0 v.ms (Cw v.ms p).toNat).2
def rouE(v:Vw)(p:Bs):Bs×Int:=if Cw v.ms p=-1 then([],14)else((A0 v.ms (Cw v.ms p).toNat).1,0)
def route_eq(v:Vw)(p:Bs):routeD v.ms p= .tup [.agg [.str (rouE v p).1,.int .i64 (BL v p).1,.bool (BL v p).2],.int .i64 (rouE v p).2]:=by
 unfold routeD BL rouE;split<;>rfl
def Aw{i fr t0 t:Id}{m0 m:Mem}{nl0:Bool}{w:Wb}{o o':Oc}{rest:List D}{d:D}{ol:Option (List Nat)}{F:Wb->Oc->List D->Option WY}{S:Summs}{c k n:Nat}{ops l:List DOper}{s:Nat->D}{dst:Option Nat}{K:Nat->(Nat->D)->Mem->Prop}{g}
  (hw:Wt i fr m0 nl0 t0 m w o t) (hfr:∀j x,fr<:+j->m0 j x=none) (hni:∀k l,(i=l++k::fr)=False) (hF:F w o rest=some (d,o',ol)) (hR:∃S dc rs N,F=RW S dc rs N)
  (h:∀M,Wt i fr m0 nl0 t0 M w o' (nameW t (n::fr) ol)->(∀q x,M (q::fr) x=m (q::fr) x)->FP S fr c ops l k (BS s dst d) M K):
  Got ((wQ F).ex (.ptr i 0::rest) m (n::fr)) (λx=>rowU S fr c ops l k s dst m K x.1 x.2) g:=by
 obtain⟨S',dc,rs,N,rfl⟩:=hR;obtain⟨_,hs1,hs2,_⟩:=EL hF;refine got_w hw.at_ hF ?_;obtain⟨c1,c2⟩:=hw.call (o':=o') (d:=d) (ol:=ol) (k:=n) hfr hni hs1 hs2;exact h _ c1 c2
def Cu{i fr t0 t:Id}{m0 m:Mem}{nl0:Bool}{w:Wb}{o o':Oc}{rest:List D}{d:D}{ol:Option (List Nat)}{F:Wb->Oc->List D->Option WY}{S:Summs}{c k n:Nat}{ops l:List DOper}{s:Nat->D}{dst:Option Nat}{op:DOp}{K:Nat->(Nat->D)->Mem->List Foot->Prop}{g}
  (hw:Wt i fr m0 nl0 t0 m w o t) (hfr:∀j x,fr<:+j->m0 j x=none) (hni:∀k l,(i=l++k::fr)=False) (hF:F w o rest=some (d,o',ol)) (hR:∃S dc rs N,F=RW S dc rs N)
  (h:∀M u,u=updW i w o t (n::fr) (d,o',ol)->Wt i fr m0 nl0 t0 M w o' (nameW t (n::fr) ol)->(∀q x,M (q::fr) x=m (q::fr) x)->Cd S fr c ops l k (BS s dst d) M λk' s' m' f=>K k' s' m' ((rds S s m op,AL u)::f)):
  Got ((wQ F).ex (.ptr i 0::rest) m (n::fr)) (λx=>drawnU S fr c ops l k s dst m op K x.1 x.2) g:=by
 obtain⟨S',dc,rs,N,rfl⟩:=hR;obtain⟨_,hs1,hs2,_⟩:=EL hF;refine got_w hw.at_ hF ?_;obtain⟨c1,c2⟩:=hw.call (o':=o') (d:=d) (ol:=ol) (k:=n) hfr hni hs1 hs2;exact h _ _ rfl c1 c2
def DK(w:Wb)(o:Oc)(k:Int)(key val:Bs)(ho:o.nl=true->o.ops=[])(hl:o.ops.length<=1000):FH w o [.int .u8 k,.str key,.str val]=some (.tup [],o.op k key val,some [11]):=W122_eq w o k key val ho hl
def S140:Summs:=AF [(248,Ac F248)]
def W140:Wb->Oc->List D->Option WY:=RW S140 dc140 [.cell (some 2) 4] 19
def ko140:(wQ W140).ok Qc 140:=Df fn140 (Ab ok248 Ad)
def W140_eq(w:Wb)(o:Oc)(p:Bs)(ho:o.nl=true->o.ops=[])(hm:w.v.ms.length<=1000):W140 w o [.str p]=some (.agg [.int .i64 (BL w.v p).1,.bool (BL w.v p).2],o,none):=by
 refine Bd ho ⟨Qa rfl,λh=>⟨rfl,rfl⟩,λl h=>(by cases h),λi m fr t ha hfr hni hni0=>?_⟩;have hW:=Wt.start ha hfr;unfold dc140;have xx:=AS ha.1;have h248:=F248_eq (nl:=w.v.nlm) (t:=[]) (l:=w.v.ms) (p:=p) (by omega);rw[route_eq]at h248;simp only[gB1,↓go1,go5,simprocAttr,xx,hni0,An S140 248,h248];exact((((hW.put hfr hni0).put hfr hni0).put hfr hni0).put hfr hni0).end0 ha.2.2
def S244:Summs:=AF [(340,Ac R340),(123,Ac CL),(122,wQ FH)]
def W244:Wb->Oc->List D->Option WY:=RW S244 dc244 [] 18
def ko244:(wQ W244).ok Qc 244:=Df fn244 (Ab ko340 (Ab ko123 (Ab ko122 Ad)))
def W244_eq(w:Wb)(o:Oc)(p:Bs)(s:Sc)(ho:o.nl=true->o.ops=[])(hl:o.ops.length<=1000)(hs:s.rs.length<=1000)(hp:p.length<=1000000):W244 w o [.str p,.agg (scC s)]=some (.tup [],o.op 1 (Bn 1 p 0) (FT s),some ([11,12])):=by
 refine Bd ho ⟨Qa rfl,λh=>(by cases h),λl h=>(by simp only[Qm]at h;subst h;exact⟨rfl,by simp⟩),λi m fr t ha hfr hni hni0=>?_⟩;have s123:S244 123=some (Ac CL):=rfl;have s122:S244 122=some (wQ FH):=rfl;have hW:=Wt.start ha hfr;unfold dc244;have h340:=R340_eq s hs;have h123:=CP 1 0 p hp;have h122:=DK w o 1 (Bn 1 p 0) (FT s) ho hl;unfold scC at *;simp only[gB1,↓go1,go5,simprocAttr,An S244 340,h340,Aa s123,h123,Ah s122];refine Aw (hW.put hfr hni0) hfr hni h122 ⟨_,_,_,_,rfl⟩ (λM c1 c2=>?_);simp only[↓go1,go2,simprocAttr];exact c1.endl (l:=[11,12]) (by simp)
def S245:Summs:=AF [(123,Ac CL),(122,wQ FH)]
def W245:Wb->Oc->List D->Option WY:=RW S245 dc245 [] 20
def ko245:(wQ W245).ok Qc 245:=Df fn245 (Ab ko123 (Ab ko122 Ad))
def W245_eq(w:Wb)(o:Oc)(p:Bs)(nl:Bool)(tq:Id)(ns:List Int)(ho:o.nl=true->o.ops=[])(hl:o.ops.length+ns.length<=1000)(hp:p.length<=1000000):W245 w o [.str p,.slice nl tq (AT ns)]=some (.tup [],Bt o p ns,dropN ns):=by
 refine Bd ho ⟨Qa rfl,λh=>(by unfold dropN at h;split at h<;>simp_all [Bt]),λl h=>(by unfold dropN at h;split at h<;>simp_all [Bt];subst h;simp),λi m fr t ha hfr hni hni0=>?_⟩;have s122:S245 122=some (wQ FH):=rfl;have hW:=Wt.start ha hfr;unfold dc245;simp only[↓go1,go2,simprocAttr,Cb];refine Bm (n:=ns.length) (I:=λj st=>st.s 8= .slice nl tq (AT ns)∧st.s 9= .int .i64 ns.length∧st.s 10= .int .i64 (j:Int)∧st.s 0= .ptr i 0∧st.s 1= .str p∧st.c=3+11*j∧Wt i fr m o.nl t st.m w (Bt o p (ns.take j)) (if j=0 then t else [11,11*j]++fr)) (λj hj ih st g hI=>?_) (λst g hI=>?_) 0 (Qq _) _ _ ⟨rfl,rfl,rfl,rfl,rfl,rfl,by simp only[Qv,dropO_nil,if_true];exact hW⟩
 ·obtain⟨st_s,st_m,st_c⟩:=st;obtain⟨h8,h9,h10,h0,h1,hc,hw⟩:=hI;simp only at h8 h9 h10 h0 h1 hc hw;refine Ae dc245l0.eq_1 ?_;have hlt:((j:Int)<(ns.length:Int))=True:=eq_true (by omega);have hj0:=nJ (j:=j);have hat:=intsD_at' (l:=ns) (j:=j) hj;have hw1:IntKind.i64.wrap ((j:Int)+1)=((j+1:Nat):Int):=by rw[w64 (by omega) (by omega)];omega
  have h123:=CP 2 ns[j] p hp;have hn1:(Bt o p (ns.take j)).nl=true->(Bt o p (ns.take j)).ops=[]:=λh=>by
   simp only[Bt,QQ,Zd]at h ⊢;rw[ho h.1,h.2];rfl
  have hn2:(Bt o p (ns.take j)).ops.length<=1000:=by simp[Bt];omega
  have h122:=DK w (Bt o p (ns.take j)) 2 (Bn 2 p ns[j]) [] hn1 hn2;rw[dropO_op,←Q2 hj]at h122;simp only[↓go1,gB2,go5,simprocAttr,h0,h1,h8,h9,h10,hlt,hj0,Qn,hat,An S245 123,h123,Ah s122];refine Aw hw hfr hni h122 ⟨_,_,_,_,rfl⟩ (λM c1 c2=>?_);have e:nameW (if j=0 then t else [11,11*j]++fr) ((st_c+1+3+4)::fr) (some [11])=(if j+1=0 then t else [11,11*(j+1)]++fr):=by
   rw[if_neg (Qi j)];show [11]++_::fr=_;rw[show st_c+1+3+4=11*(j+1)by omega];rfl
  rw[e]at c1;simp only[↓go1,go2,simprocAttr,h10,hw1];exact ih _ _ ⟨h8,h9,rfl,h0,h1,by simp only;omega,c1⟩
 ·obtain⟨st_s,st_m,st_c⟩:=st;obtain⟨h8,h9,h10,h0,h1,hc,hw⟩:=hI;simp only at h8 h9 h10 h0 h1 hc hw;refine Ae dc245l0.eq_1 ?_;simp only[↓go1,go2,go4,go5,simprocAttr,h9,h10,ZJ];rw[Zz]at hw;unfold dropN;cases ns with
  |nil=>exact hw.end0 ha.2.2
  |cons a r=>exact hw.endl (l:=[11,11*(r.length+1)]) (by simp)
def metaT(w:Wb)(p:Bs):Bs×Bool×Bool:=entE w.k (Bn 1 p 0)
def S135:Summs:=AF [(123,Ac CL),(137,Ac E0),(133,wQ W133),(240,Ac R240)]
def BD:Wb->Oc->List D->Option WY:=RW S135 dc135 [.cell (some 4) 4,.t 5,.t 6] 42
def ko135:(wQ BD).ok Qc 135:=Df fn135 (Ab ko123 (Ab ko137 (Ab ko133 (Ab ko240 Ad))))
def W135_need(w:Wb)(o:Oc)(p:Bs)(h0:Oc0 o)(hp:p.length<=1000000)(hk:w.k.es.length<=1000)(mt:Bs×Bool×Bool)(hm:metaT w p=mt)(hq:mt.2.2=false):BD w o [.str p]=some (.tup [.agg (scC sc0),.bool false,.bool false],⟨Bn 1 p 0,false,[],true,[],w.v⟩,none):=by
 refine Bd (λ_=>h0.ops) ⟨Qa rfl,λh=>⟨h0.nl.symm,h0.ops.symm⟩,λl h=>(by cases h),λi m fr t ha hfr hni hni0=>?_⟩;have s137:S135 137=some (Ac E0):=rfl;have s133:S135 133=some (wQ W133):=rfl;have hW:=Wt.start ha hfr;unfold dc135;obtain⟨text,there,known⟩:=mt;simp only at hq;have h123:=CP 1 0 p hp;have h137:=R137_eq w.k (Bn 1 p 0) hk;rw[show entE w.k (Bn 1 p 0)=_ from hm]at h137;unfold kwC at h137;have xx:=AS ha.1;subst hq;have h133:=W133_eq w o (Bn 1 p 0) false h0;simp only[gB1,↓go1,go5,simprocAttr,xx,hni0,An S135 123,h123,Aa s137,h137,Ah s133];refine Aw (hW.put hfr hni0) hfr hni h133 ⟨_,_,_,_,rfl⟩ (λM c1 c2=>?_);simp only[gB1,↓go1,go5,simprocAttr,c2];exact(c1.put hfr hni0).end0 ha.2.2
def W135_no(w:Wb)(o:Oc)(p:Bs)(h0:Oc0 o)(hp:p.length<=1000000)(hk:w.k.es.length<=1000)(mt:Bs×Bool×Bool)(hm:metaT w p=mt)(hq:mt.2.2=true)(ht:mt.1.length<=1000000)(hb:mt.2.1=false∨(Cj mt.1).2≠0):BD w o [.str p]=some (.tup [.agg (scC sc0),.bool false,.bool true],o,none):=by
 refine Bd (λ_=>h0.ops) ⟨Qa rfl,λh=>⟨rfl,rfl⟩,λl h=>(by cases h),λi m fr t ha hfr hni hni0=>?_⟩;have s137:S135 137=some (Ac E0):=rfl;have s240:S135 240=some (Ac R240):=rfl;have hW:=Wt.start ha hfr;unfold dc135;obtain⟨text,there,known⟩:=mt;simp only at hq;have h123:=CP 1 0 p hp;have h137:=R137_eq w.k (Bn 1 p 0) hk;rw[show entE w.k (Bn 1 p 0)=_ from hm]at h137;unfold kwC at h137;have h240:=R240_eq text ht;unfold scC at h240;have xx:=AS ha.1;subst hq;simp only at hb;generalize Cj text=se at *;obtain⟨s,e⟩:=se;simp only at hb h240;cases there with
 |false=>
  simp only[gB1,↓go1,go5,simprocAttr,xx,hni0,An S135 123,h123,Aa s137,h137,Aa s240,h240];exact(((hW.put hfr hni0).put hfr hni0).put hfr hni0).end0 ha.2.2
 |true=>
  have he:(e=0)=False:=eq_false (hb.resolve_left (by simp));simp only[gB1,↓go1,go5,simprocAttr,xx,hni0,An S135 123,h123,Aa s137,h137,Aa s240,h240,he];exact(((hW.put hfr hni0).put hfr hni0).put hfr hni0).end0 ha.2.2
def W135_yes(w:Wb)(o:Oc)(p:Bs)(h0:Oc0 o)(hp:p.length<=1000000)(hk:w.k.es.length<=1000)(mt:Bs×Bool×Bool)(hm:metaT w p=mt)(hq:mt.2.2=true)(ht:mt.1.length<=1000000)(hb:mt.2.1=true)(he:(Cj mt.1).2=0):BD w o [.str p]=some (.tup [.agg (scC (Cj mt.1).1),.bool true,.bool true],o,none):=by
 refine Bd (λ_=>h0.ops) ⟨Qa rfl,λh=>⟨rfl,rfl⟩,λl h=>(by cases h),λi m fr t ha hfr hni hni0=>?_⟩;have s137:S135 137=some (Ac E0):=rfl;have s240:S135 240=some (Ac R240):=rfl;have hW:=Wt.start ha hfr;unfold dc135;obtain⟨text,there,known⟩:=mt;simp only at hq;have h123:=CP 1 0 p hp;have h137:=R137_eq w.k (Bn 1 p 0) hk;rw[show entE w.k (Bn 1 p 0)=_ from hm]at h137;unfold kwC at h137;have h240:=R240_eq text ht;unfold scC at h240;have xx:=AS ha.1;subst hq;simp only at hb he ⊢;generalize Cj text=se at *;obtain⟨s,e⟩:=se;simp only at he h240;subst hb he;simp only[gB1,↓go1,go5,simprocAttr,xx,hni0,An S135 123,h123,Aa s137,h137,Aa s240,h240];exact(((hW.put hfr hni0).put hfr hni0).put hfr hni0).end0 ha.2.2
def turnO'(o:Oc)(p:Bs)(s:Sc)(gone:List Int):Oc:={Bt (o.op 1 (Bn 1 p 0) (FT s)) p gone with rep:=ryT .done}
def S141:Summs:=AF [(54,wQ W54),(244,wQ W244),(245,wQ W245),(56,wQ W56)]
def W141:Wb->Oc->List D->Option WY:=RW S141 dc141 [] 31
def ko141:(wQ W141).ok Qc 141:=Df fn141 (Ab ko54 (Ab ko244 (Ab ko245 (Ab ko56 Ad))))
def W141_fail(w:Wb)(o:Oc)(s:Sc)(gnl:Bool)(gone:List Int)(e:Int)(h0:Oc0 o)(he:1<=e∧e<=99):W141 w o [.agg (scC s),.slice gnl [] (AT gone),.int .i64 e]=some (.tup [],⟨[],false,ryT (.fail e),true,[],w.v⟩,none):=by
 refine Bd (λ_=>h0.ops) ⟨Qa rfl,λh=>⟨h0.nl.symm,h0.ops.symm⟩,λl h=>(by cases h),λi m fr t ha hfr hni hni0=>?_⟩;have s54:S141 54=some (wQ W54):=rfl;have hW:=Wt.start ha hfr;unfold dc141;unfold scC;have h54:=W54_eq w o e h0 he;have he0:(e=0)=False:=eq_false (by omega);simp only[↓go1,gB2,go5,simprocAttr,he0,Ah s54];refine Aw (hW.put hfr hni0) hfr hni h54 ⟨_,_,_,_,rfl⟩ (λM c1 c2=>?_);simp only[↓go1,go2,simprocAttr];exact c1.end0 ha.2.2
def W141_ok(w:Wb)(o:Oc)(s:Sc)(gnl:Bool)(gone:List Int)(h0:Oc0 o)(hg:gone.length<=900)(hs:s.rs.length<=1000)(hp:w.a.pa.length<=1000000):W141 w o [.agg (scC s),.slice gnl [] (AT gone),.int .i64 0]=some (.tup [],turnO' o w.a.pa s gone,some (if gone=[]then [11,12,10]else [11,11*gone.length,18])):=by
 refine Bd (λ_=>h0.ops) ⟨Qa rfl,λh=>(by cases h),λl h=>(by simp only[Qm]at h;subst h;exact⟨rfl,by split<;>simp⟩),λi m fr t ha hfr hni hni0=>?_⟩;have s244:S141 244=some (wQ W244):=rfl;have s245:S141 245=some (wQ W245):=rfl;have s56:S141 56=some (wQ W56):=rfl;have hW:=Wt.start ha hfr;unfold dc141;have xx:=AS ha.1;have h244:=W244_eq w o w.a.pa s (λ_=>h0.ops) (by rw[h0.ops];simp) hs hp;have h245:=W245_eq w (o.op 1 (Bn 1 w.a.pa 0) (FT s)) w.a.pa gnl [] gone (λh=>by cases h) (by simp[Oc.op,h0.ops];omega) hp;have h56:=W56_eq w (Bt (o.op 1 (Bn 1 w.a.pa 0) (FT s)) w.a.pa gone) (λh=>by simp[Bt,Oc.op]at h);unfold scC at *;simp only[gB1,↓go1,go5,simprocAttr,xx.2.2.2.2.2.2.2.1,hni0,Ah s244];refine Cu (hW.put hfr hni0) hfr hni h244 ⟨_,_,_,_,rfl⟩ (λM u hu c1 c2=>?_);have xx:=AS c1.at_.1;simp only[↓go1,go3,simprocAttr];refine Ao.intro (λp hp=>by cases hp) ?_;simp only[↓go1,go2,go4,go5,simprocAttr,xx.2.2.2.2.2.2.2.1,Ah s245];refine Aw c1 hfr hni h245 ⟨_,_,_,_,rfl⟩ (λM2 d1 d2=>?_);simp only[↓go1,go2,go4,simprocAttr,Ah s56];refine Aw d1 hfr hni h56 ⟨_,_,_,_,rfl⟩ (λM3 e1 e2=>?_);simp only[↓go1,go2,simprocAttr];unfold dropN at e1;split
 ·rename_i hg0;rw[if_pos hg0]at e1;exact e1.endl (l:=[11,12,10]) (by simp)
 ·rename_i hg0;rw[if_neg hg0]at e1;exact e1.endl (l:=[11,11*gone.length,18]) (by simp)
def EY(l:List Rw):List Int:=(l.filter λx=>!x.2.2).map (·.1)
def purN:List Rw->Nat->List Nat->List Nat
 |[],_,L=>L
 |x::r,c,L=>if x.2.2=true then purN r (c+10) L else purN r (c+20) [11,11,c+17]
def purN_ne:∀{l:List Rw} {c:Nat} {L:List Nat},L≠[]->purN l c L≠[]
 |[],_,_,h=>h
 |x::r,c,L,h=>by
  unfold purN;split
  ·exact purN_ne h
  ·exact purN_ne (by simp)
def E7(o:Oc)(p:Bs)(l:List Rw):Oc:=Bt (o.op 2 (Bn 1 p 0) []) p (EY l)
def dropO_app{o:Oc}{p:Bs}{a b:List Int}:Bt (Bt o p a) p b=Bt o p (a++b):=by
 simp only[Bt,Bool.and_assoc,Q0,List.append_assoc,Oc.mk.injEq,true_and,and_true];cases a<;>cases b<;>simp
def aliveN_len(l:List Rw):(EY l).length<=l.length:=by
 unfold EY;rw[Zj];exact List.length_filter_le _ _
def aliveN_snoc(l:List Rw)(x:Rw):EY (l++[x])=EY l++if x.2.2=true then []else [x.1]:=by
 simp only[EY,List.filter_append,Q0];congr 1;cases h:x.2.2<;>simp[h]
def purO_nl{o:Oc}{p:Bs}{l:List Rw}:(E7 o p l).nl=false:=by simp[E7,Bt,Oc.op]
def purO_ops{o:Oc}{p:Bs}{l:List Rw}:(E7 o p l).ops.length=o.ops.length+1+(EY l).length:=by simp[E7,Bt,Oc.op];omega
def S142:Summs:=AF [(123,Ac CL),(122,wQ FH),(245,wQ W245),(56,wQ W56)]
def W142:Wb->Oc->List D->Option WY:=RW S142 dc142 [] 37
def ko142:(wQ W142).ok Qc 142:=Df fn142 (Ab ko123 (Ab ko122 (Ab ko245 (Ab ko56 Ad))))
def W142_eq(w:Wb)(o:Oc)(s:Sc)(h0:Oc0 o)(hs:s.rs.length<=900)(hp:w.a.pa.length<=1000000):W142 w o [.agg (scC s)]=some (.tup [],{E7 o w.a.pa s.rs with rep:=ryT .done},some (purN s.rs 13 [11,8])):=by
 refine Bd (λ_=>h0.ops) ⟨Qa rfl,λh=>(by cases h),λl h=>(by simp only[Qm]at h;subst h;exact⟨purO_nl (o:=o) (p:=w.a.pa) (l:=s.rs),purN_ne (by simp)⟩),λi m fr t ha hfr hni hni0=>?_⟩;have s122:S142 122=some (wQ FH):=rfl;have s245:S142 245=some (wQ W245):=rfl;have s56:S142 56=some (wQ W56):=rfl;have hW:=Wt.start ha hfr;unfold dc142;have xx:=AS ha.1;have h123:=CP 1 0 w.a.pa hp;have h122:=DK w o 2 (Bn 1 w.a.pa 0) [] (λ_=>h0.ops) (by rw[h0.ops];simp);unfold scC;simp only[↓go1,gB2,go5,simprocAttr,xx.2.2.2.2.2.2.2.1,hni0,An S142 123,h123,Ah s122];refine Aw (hW.put hfr hni0) hfr hni h122 ⟨_,_,_,_,rfl⟩ (λM c1 c2=>?_);simp only[↓go1,go2,go4,go5,simprocAttr,c2,AV];refine Bm (n:=s.rs.length) (I:=λj st=>st.s 15= .slice s.nl [] (A8 s.rs)∧st.s 16= .int .i64 s.rs.length∧st.s 17= .int .i64 (j:Int)∧st.s 0= .ptr i 0∧∃L,L≠[]∧purN (s.rs.drop j) st.c L=purN s.rs 13 [11,8]∧Wt i fr m o.nl t st.m w (E7 o w.a.pa (s.rs.take j)) (L++fr)) (λj hj ih st g hI=>?_) (λst g hI=>?_) 0 (Qq _) _ _ ⟨rfl,rfl,rfl,rfl,[11,8],by simp,rfl,by have c3:Wt i fr m o.nl t M w (o.op 2 (Bn 1 w.a.pa 0) []) ([11,8]++fr):=c1;simpa[E7,EY,dropO_nil]using c3⟩
 ·obtain⟨st_s,st_m,st_c⟩:=st;obtain⟨h15,h16,h17,hs0,L,hL,hn,hw⟩:=hI;simp only at h15 h16 h17 hs0 hn hw;refine Ae dc142l0.eq_1 ?_;have hlt:((j:Int)<(s.rs.length:Int))=True:=eq_true (by omega);have hj0:=nJ (j:=j);have hat:=Fe (l:=s.rs) (j:=j) hj;have hw1:IntKind.i64.wrap ((j:Int)+1)=((j+1:Nat):Int):=by rw[w64 (by omega) (by omega)];omega
  have hd:s.rs.drop j=s.rs[j]::s.rs.drop (j+1):=Zh hj;have htk:s.rs.take (j+1)=s.rs.take j++[s.rs[j]]:=Q2 hj;rw[hd]at hn;generalize s.rs[j]=x at *;obtain⟨n,b,dead⟩:=x;have hal:=aliveN_snoc (s.rs.take j) (n,b,dead);rw[←htk]at hal;simp only at hal hat;have xx:=AS hw.at_.1;cases dead with
  |true=>
   simp only[gB1,↓go1,go5,simprocAttr,h15,h16,h17,hlt,hj0,Qn,hat,hw1];refine ih _ _ ⟨h15,h16,rfl,hs0,L,hL,by simpa[purN]using hn,?_⟩;have e:E7 o w.a.pa (s.rs.take (j+1))=E7 o w.a.pa (s.rs.take j):=by unfold E7;rw[hal];simp
   rw[e];exact((hw.put hfr hni0).put hfr hni0)
  |false=>
   have e:Bt (E7 o w.a.pa (s.rs.take j)) w.a.pa [n]=E7 o w.a.pa (s.rs.take (j+1)):=by unfold E7;rw[hal,dropO_app];rfl
   have hop:(E7 o w.a.pa (s.rs.take j)).ops.length+1<=1000:=by
    rw[purO_ops,h0.ops];have:=aliveN_len (s.rs.take j);rw[QB]at this;simp only[List.length_nil];omega
   have h245:=W245_eq w (E7 o w.a.pa (s.rs.take j)) w.a.pa false ((st_c+1+4+3+8)::fr) [n] (λh=>by rw[purO_nl]at h;cases h) hop hp;rw[e]at h245;have h245:W245 w (E7 o w.a.pa (s.rs.take j)) [.str w.a.pa,.slice false ((st_c+1+4+3+8)::fr) [.int .i64 n]]=some (.tup [],E7 o w.a.pa (s.rs.take (j+1)),some [11,11]):=h245;simp only[gB1,↓go1,go5,simprocAttr,hs0,h15,h16,h17,hlt,hj0,Qn,hat,xx.2.2.2.2.2.2.2.1,hni0,Ah s245];refine Cu (((hw.put hfr hni0).put hfr hni0).put hfr hni0) hfr hni h245 ⟨_,_,_,_,rfl⟩ (λM u hu c1 c2=>?_);simp only[↓go1,go3,go4,go5,simprocAttr];refine Ao.intro (Aj ?_) ?_
   ·simp[A2,AL,rds,Ai];show ¬((st_c+1+4+3+8)::fr,0)∈[(i,7)];intro hm;simp only[Qy,Zu]at hm;exact(hni0 _).mp hm.1.symm
   simp only[↓go1,go2,simprocAttr,h17,hw1];refine ih _ _ ⟨h15,h16,rfl,hs0,[11,11,st_c+17],by simp,by simpa[purN]using hn,c1⟩
 ·obtain⟨st_s,st_m,st_c⟩:=st;obtain⟨h15,h16,h17,hs0,L,hL,hn,hw⟩:=hI;simp only at h15 h16 h17 hs0 hn hw;refine Ae dc142l0.eq_1 ?_;have h56:=W56_eq w (E7 o w.a.pa s.rs) (λh=>by rw[purO_nl]at h;cases h);rw[Zz]at hw;rw[List.drop_length]at hn;simp only[↓go1,go2,go4,go5,simprocAttr,hs0,h16,h17,ZJ,Ah s56];refine Aw hw hfr hni h56 ⟨_,_,_,_,rfl⟩ (λM c1 c2=>?_);simp only[↓go1,go2,simprocAttr];rw[←hn];exact c1.endl hL
def AU{l:Loc}{i:Id}{o n:Nat}(h:l∈Ai i o n):l.1=i:=by
 simp only[Ai,Za]at h;obtain⟨_,_,rfl⟩:=h;rfl
def AE{l:Loc}{i:Id}{o:Nat}{ds:List D}(h:l∈AL [(i,o,ds)]):l.1=i:=by
 simp only[AL,QR,QZ,List.append_nil]at h;exact AU h
def AA{l:Loc}{P:Prop}(h:l∈([]:List Loc)):P:=by cases h
def wriO(o:Oc)(p:Bs)(r:Sc×Int×List Int×Int)(data:Bs):Oc:={Bt ((o.op 1 (Bn 1 p 0) (FT r.1)).op 1 (Bn 2 p r.2.1) data) p r.2.2.1 with rep:=ryT (.number r.2.1)}
def S138:Summs:=AF [(140,wQ W140),(243,Ac R243),(54,wQ W54),(244,wQ W244),(123,Ac CL),(122,wQ FH),(245,wQ W245),(55,wQ W55)]
def W138:Wb->Oc->List D->Option WY:=RW S138 dc138 [] 50
def ko138:(wQ W138).ok Qc 138:=Df fn138 (Ab ko140 (Ab ko243 (Ab ko54 (Ab ko244 (Ab ko123 (Ab ko122 (Ab ko245 (Ab ko55 Ad))))))))
def W138_fail(w:Wb)(o:Oc)(p:Bs)(s:Sc)(cas:Int)(data:Bs)(h0:Oc0 o)(hs:s.rs.length<=800)(hnl:s.nl=true->s.rs=[])(hp:p.length<=1000000)(hd:data.length<=1000000)(hm:w.v.ms.length<=1000)(r:Sc×Int×List Int×Int)(hr:Cz s (BL w.v p).1 (BL w.v p).2 cas data.length=r)(he:1<=r.2.2.2∧r.2.2.2<=99):W138 w o [.str p,.agg (scC s),.int .i64 cas,.str data]=some (.tup [],⟨[],false,ryT (.fail r.2.2.2),true,[],w.v⟩,none):=by
 refine Bd (λ_=>h0.ops) ⟨Qa rfl,λh=>⟨h0.nl.symm,h0.ops.symm⟩,λl h=>(by cases h),λi m fr t ha hfr hni hni0=>?_⟩;have s140:S138 140=some (wQ W140):=rfl;have s54:S138 54=some (wQ W54):=rfl;have hW:=Wt.start ha hfr;unfold dc138;have h243:=R243_eq s (BL w.v p).1 (BL w.v p).2 cas data.length (by omega) hnl;rw[hr]at h243;obtain⟨s2,n,gone,e⟩:=r;simp only at he h243 ⊢;have h140:=W140_eq w o p (λ_=>h0.ops) hm;generalize BL w.v p=qb at *;unfold scC at *;simp only[gB1,↓go1,go5,simprocAttr,Ah s140];refine Cu (hW.put hfr hni0) hfr hni h140 ⟨_,_,_,_,rfl⟩ (λM u hu c1 c2=>?_);simp only[gB1,↓go1,go5,simprocAttr,An S138 243,h243];refine Ao.intro ?_ ?_
 ·subst hu;have a1:=at24 (hW.put hfr hni0 (q:=0) (p:=0) (ys:=[.int .i64 s.mx,.bool s.cas,.int .i64 s.la,.slice s.nl [] (A8 s.rs)])).at_.1;intro pp hpp l hl;simp only[Qx,QV,or_false]at hpp;rcases hpp with rfl|rfl|rfl|rfl|rfl|rfl
  ·change l∈AL [(i,0,wkC w o t)]at hl;refine⟨λh=>?_,λh=>AA h⟩;change l∈Ai (0::fr) 0 4 at h;exact(hni0 0).mp ((AE hl).symm.trans (AU h))
  ·change l∈AL [(i,0,wkC w o t)]at hl;exact⟨λh=>AA h,λh=>(hni0 14).mp ((AE hl).symm.trans (AE h))⟩
  ·exact AA hl
  ·have hl':l.1=14::fr:=AE hl;refine⟨λh=>?_,λh=>AA h⟩;change l∈Ai (0::fr) 0 4 at h;have:=hl'.symm.trans (AU h);simp at this
  ·have hl':l.1=14::fr:=AE hl;refine⟨λh=>?_,λh=>?_⟩
   ·rcases QT.1 h with h|h
    ·exact(hni0 14).mp ((AU h).symm.trans hl')
    ·rw[a1]at h;rw[Qy.1 h]at hl';exact hW.loc 14 hl'
   ·change l∈AL [(i,0,wkC w o t)]at h;exact(hni0 14).mp ((AE h).symm.trans hl')
  ·exact⟨λh=>AA h,λh=>AA h⟩
 have h54:=W54_eq w o e h0 he;have he0:(e=0)=False:=eq_false (by omega);simp only[↓go1,gB2,go5,simprocAttr,he0,Ah s54];refine Aw ((c1.put hfr hni0).put hfr hni0) hfr hni h54 ⟨_,_,_,_,rfl⟩ (λM2 d1 d2=>?_);simp only[↓go1,go2,simprocAttr];exact d1.end0 ha.2.2
def W138_ok(w:Wb)(o:Oc)(p:Bs)(s:Sc)(cas:Int)(data:Bs)(h0:Oc0 o)(hs:s.rs.length<=800)(hnl:s.nl=true->s.rs=[])(hp:p.length<=1000000)(hd:data.length<=1000000)(hm:w.v.ms.length<=1000)(r:Sc×Int×List Int×Int)(hr:Cz s (BL w.v p).1 (BL w.v p).2 cas data.length=r)(he:r.2.2.2=0)(hs2:r.1.rs.length<=1000)(hg:r.2.2.1.length<=900):W138 w o [.str p,.agg (scC s),.int .i64 cas,.str data]=some (.tup [],wriO o p r data,some (if r.2.2.1=[]then [11,30]else [11,11*r.2.2.1.length,34])):=by
 refine Bd (λ_=>h0.ops) ⟨Qa rfl,λh=>(by cases h),λl h=>(by simp only[Qm]at h;subst h;exact⟨by simp[wriO,Bt,Oc.op],by split<;>simp⟩),λi m fr t ha hfr hni hni0=>?_⟩;have s140:S138 140=some (wQ W140):=rfl;have s244:S138 244=some (wQ W244):=rfl;have s123:S138 123=some (Ac CL):=rfl;have s122:S138 122=some (wQ FH):=rfl;have s245:S138 245=some (wQ W245):=rfl;have s55:S138 55=some (wQ W55):=rfl;have hW:=Wt.start ha hfr;unfold dc138;have h243:=R243_eq s (BL w.v p).1 (BL w.v p).2 cas data.length (by omega) hnl;rw[hr]at h243;obtain⟨s2,n,gone,e⟩:=r;simp only at he h243 hs2 hg ⊢;subst he;have h140:=W140_eq w o p (λ_=>h0.ops) hm;generalize BL w.v p=qb at *;unfold scC at *;simp only[gB1,↓go1,go5,simprocAttr,Ah s140];refine Cu (hW.put hfr hni0) hfr hni h140 ⟨_,_,_,_,rfl⟩ (λM u hu c1 c2=>?_);simp only[gB1,↓go1,go5,simprocAttr,An S138 243,h243];refine Ao.intro ?_ ?_
 ·subst hu;have a1:=at24 (hW.put hfr hni0 (q:=0) (p:=0) (ys:=[.int .i64 s.mx,.bool s.cas,.int .i64 s.la,.slice s.nl [] (A8 s.rs)])).at_.1;intro pp hpp l hl;simp only[Qx,QV,or_false]at hpp;rcases hpp with rfl|rfl|rfl|rfl|rfl|rfl
  ·change l∈AL [(i,0,wkC w o t)]at hl;refine⟨λh=>?_,λh=>AA h⟩;change l∈Ai (0::fr) 0 4 at h;exact(hni0 0).mp ((AE hl).symm.trans (AU h))
  ·change l∈AL [(i,0,wkC w o t)]at hl;exact⟨λh=>AA h,λh=>(hni0 14).mp ((AE hl).symm.trans (AE h))⟩
  ·exact AA hl
  ·have hl':l.1=14::fr:=AE hl;refine⟨λh=>?_,λh=>AA h⟩;change l∈Ai (0::fr) 0 4 at h;have:=hl'.symm.trans (AU h);simp at this
  ·have hl':l.1=14::fr:=AE hl;refine⟨λh=>?_,λh=>?_⟩
   ·rcases QT.1 h with h|h
    ·exact(hni0 14).mp ((AU h).symm.trans hl')
    ·rw[a1]at h;rw[Qy.1 h]at hl';exact hW.loc 14 hl'
   ·change l∈AL [(i,0,wkC w o t)]at h;exact(hni0 14).mp ((AE h).symm.trans hl')
  ·exact⟨λh=>AA h,λh=>AA h⟩
 have h244:=W244_eq w o p s2 (λ_=>h0.ops) (by rw[h0.ops];simp) hs2 hp;have h123:=CP 2 n p hp;have h122:=DK w (o.op 1 (Bn 1 p 0) (FT s2)) 1 (Bn 2 p n) data (λh=>by cases h) (by simp[Oc.op,h0.ops]);have h245:=W245_eq w ((o.op 1 (Bn 1 p 0) (FT s2)).op 1 (Bn 2 p n) data) p (decide (gone=[])) [] gone (λh=>by cases h) (by simp[Oc.op,h0.ops];omega) hp;have h55:=GF w (Bt ((o.op 1 (Bn 1 p 0) (FT s2)).op 1 (Bn 2 p n) data) p gone) (.number n) (λh=>by simp[Bt,Oc.op]at h) trivial trivial;unfold scC at h244;unfold ryC at h55;simp only[gB1,↓go1,go5,simprocAttr,Ah s244];refine Aw ((c1.put hfr hni0).put hfr hni0) hfr hni h244 ⟨_,_,_,_,rfl⟩ (λM2 d1 d2=>?_);simp only[↓go1,gB2,simprocAttr,Aa s123,h123,Ah s122];refine Aw d1 hfr hni h122 ⟨_,_,_,_,rfl⟩ (λM3 e1 e2=>?_);simp only[↓go1,go2,go4,simprocAttr,Ah s245];refine Aw e1 hfr hni h245 ⟨_,_,_,_,rfl⟩ (λM4 f1 f2=>?_);simp only[↓go1,gB2,go5,simprocAttr,Ah s55];refine Aw f1 hfr hni h55 ⟨_,_,_,_,rfl⟩ (λM5 g1 g2=>?_);simp only[↓go1,go2,simprocAttr];unfold dropN at g1;split
 ·rename_i hg0;rw[if_pos hg0]at g1;exact g1.endl (l:=[11,30]) (by simp)
 ·rename_i hg0;rw[if_neg hg0]at g1;exact g1.endl (l:=[11,11*gone.length,34]) (by simp)
def Gk{q:UInt8}:∀{l:List Bs},l≠[]->(∀w∈l,q∉w)->splitC q (Lib.join l [q])=l
 |[],h,_=>absurd rfl h
 |[x],_,h=>by
  have e:Lib.join [x] [q]=x:=by simp[Lib.join]
  rw[e];exact split_one (h x (List.mem_singleton_self _))
 |x::y::r,_,h=>by
  have e:Lib.join (x::y::r) [q]=x++q::Lib.join (y::r) [q]:=by simp[Lib.join]
  rw[e,split_word (h x (QI ..)),Gk (by simp) (λw hw=>h w (Q3 _ hw))]
def rowW1_ne(x:Rw)(h:0<=x.1∧x.1<1000):∀c∈rowW1 x,c=33∨c=35∨48<=c.toNat∧c.toNat<=57:=by
 intro c hc;unfold rowW1 at hc;rcases QT.1 hc with hc|hc
 ·rcases QT.1 hc with hc|hc
  ·exact .inr (.inr (numB_dig _ (by omega) c hc))
  ·split at hc
   ·exact .inl (Qy.1 hc)
   ·cases hc
 ·split at hc
  ·exact .inr (.inl (Qy.1 hc))
  ·cases hc
def row_44(x:Rw)(h:0<=x.1∧x.1<1000):(44:UInt8)∉rowW1 x:=λhc=>by
 rcases rowW1_ne x h 44 hc with h|h|h
 ·cases h
 ·cases h
 ·exact absurd h.1 (by decide)
def row_n45(x:Rw)(h:0<=x.1∧x.1<1000)(l:List Rw):Lib.join ((x::l).map rowW1) [44]≠[45]:=λe=>by
 have h1:=rowW1_ne x h;have h2:rowW1 x≠[]:=by
  have:=numB_one x.1.toNat;unfold rowW1;intro e;simp only[Zl]at e;rw[e.1.1]at this;simp at this
 obtain⟨c,r,hr⟩:=Zt h2;have:∃r',Lib.join ((x::l).map rowW1) [44]=c::r':=by
  cases l with
  |nil=>exact⟨r,by simp[Lib.join,hr]⟩
  |cons y l=>exact⟨r++[44]++Lib.join ((y::l).map rowW1) [44],by simp[Lib.join,hr]⟩
 obtain⟨r',hr'⟩:=this;rw[hr']at e;have hc:c=45:=(List.cons.inj e).1;rcases h1 c (by rw[hr];exact QI ..)with h|h|h
 ·rw[hc]at h;cases h
 ·rw[hc]at h;cases h
 ·rw[hc]at h;exact absurd h.1 (by decide)
def Fsplit_eq{s:Bs}{q:UInt8}(h:s.length<=1000000):De [.str s,.str [q]]=some (.slice false [] (Ay (splitC q s))):=if_pos h
def S188:Summs:=AF [(90,Ac R90),(290,Ac R290),(291,Ac R291),(88,Ac De)]
def R188:List D->Option D:=RF S188 dc188 [.cell (some 4) 2] 42
def ko188:(Ac R188).ok Qc 188:=AH fn188 (Ab ko90 (Ab ko290 (Ab ko291 (Ab ok88 Ad))))
def R188_eq(s:Sc)(g1:s.rs.length<=100)(g2:0<=s.mx∧s.mx<1000)(g3:0<=s.la∧s.la<1000)(g4:∀x∈s.rs,0<=x.1∧x.1<1000):R188 [.slice false [] [.str (BZ s.mx.toNat),.str [if s.cas=true then 49 else 48],.str (BZ s.la.toNat),.str (Dj (s.rs.map rowW1))]]=some (.agg (scC {s with nl:=decide (s.rs=[])})):=by
 refine AG (Qa rfl) ?_;have s290:S188 290=some (Ac R290):=rfl;have s291:S188 291=some (Ac R291):=rfl;have s88:S188 88=some (Ac De):=rfl;unfold dc188;obtain⟨mx,cas,la,nl,rs⟩:=s;simp only at g1 g2 g3 g4;have a1:=FA mx.toNat (by omega);rw[QN g2.1]at a1;have a2:=FA la.toNat (by omega);rw[QN g3.1]at a2;have a3:R290 [.str [if cas=true then 49 else 48]]=some (.bool cas):=by
  rw[←R290_eq cas];cases cas<;>rfl
 have i0:∀a b c d:D,[a,b,c,d][ZM 0]?=some a:=λ_ _ _ _=>rfl
 have i1:∀a b c d:D,[a,b,c,d][ZM 1]?=some b:=λ_ _ _ _=>rfl
 have i2:∀a b c d:D,[a,b,c,d][ZM 2]?=some c:=λ_ _ _ _=>rfl
 have i3:∀a b c d:D,[a,b,c,d][ZM 3]?=some d:=λ_ _ _ _=>rfl
 by_cases hrs:rs=[]
 ·subst hrs;have e:(Dj (ZG rowW1 [])=[45])=True:=eq_true rfl;simp only[gB1,↓go1,go5,reduceIte,Qg,Qj,QL,QE,reduceCtorEq,QS,i0,i1,i2,An S188 90,a1,a2,Aa s290,a3]
  (refine Ao.intro (Aj ?_) ?_;first|rfl|simp[A2,AL,rds,Ai,Ac])
  simp only[gB1,↓go1,go5,reduceIte,Qg,Qj,QL,reduceCtorEq,QS,i3,e]
  all_goals first|rfl|exact⟨rfl,rfl⟩|simp[*]
 ·have e:(Dj (rs.map rowW1)=[45])=False:=eq_false (λh=>by
   obtain⟨x,l,rfl⟩:=Zt hrs;exact row_n45 x (g4 x (QI ..)) l h)
  have hw:Dj (rs.map rowW1)=Lib.join (rs.map rowW1) [44]:=if_neg (by simpa using hrs);have hsr:=sum_rows rs;have hjl:=Ea (rs.map rowW1) [44];have h88:=Fsplit_eq (s:=Dj (rs.map rowW1)) (q:=44) (by rw[hw];simp at hjl;omega);have hsp:splitC 44 (Dj (rs.map rowW1))=rs.map rowW1:=by
   rw[hw];exact Gk (by simpa using hrs) λw hx=>by obtain⟨x,hx',rfl⟩:=Za.1 hx;exact row_44 x (g4 x hx')
  rw[hsp]at h88;have hsl:(Ay (rs.map rowW1)).length=rs.length:=by simp[Ay]
  have hdc:decide (rs=[])=false:=decide_eq_false hrs;have a4:=λx hx=>R291_eq x (g4 x hx)
  simp only[gB1,↓go1,go5,reduceIte,Qg,Qj,QL,QE,reduceCtorEq,QS,i0,i1,i2,An S188 90,a1,a2,Aa s290,a3]
  (refine Ao.intro (Aj ?_) ?_;first|rfl|simp[A2,AL,rds,Ai,Ac])
  simp only[↓go1,gB2,go5,reduceIte,Qg,Qj,reduceCtorEq,QS,i3,e,Aa s88,h88,hsl];refine Bm (n:=rs.length) (I:=λj st=>st.s 27= .slice false [] (Ay (rs.map rowW1))∧st.s 28= .int .i64 rs.length∧st.s 29= .int .i64 (j:Int)∧st.s 2= .ptr [0] 0∧st.s 3= .ptr [14] 0∧(st.m [0] 0=some (.int .i64 0)∧st.m [0] 1=some (.bool false)∧st.m [0] 2=some (.int .i64 0)∧st.m [0] 3=some (.slice true [] []))∧st.m [14] 0=some (.int .i64 mx)∧st.m [14] 1=some (.bool cas)∧st.m [14] 2=some (.int .i64 la)∧26<=st.c∧∃t,st.m [14] 3=some (.slice (decide (j=0)) t (A8 (rs.take j)))∧(decide (j=0)=true∨∃i,t=[i]∧26<=i∧i<st.c∧st.m t 0=some (.tok 229))) (λj hj ih st g hI=>?_) (λst g hI=>?_) 0 (Qq _) _ _ ⟨rfl,rfl,rfl,rfl,rfl,⟨rfl,rfl,rfl,rfl⟩,rfl,rfl,rfl,QF 26,_,rfl,.inl rfl⟩
  ·obtain⟨st_s,st_m,st_c⟩:=st;obtain⟨h27,h28,h29,h2,h3,⟨z0,z1,z2,z3⟩,m1,m2,m3,hc,t,m4,hT⟩:=hI;simp only at h27 h28 h29 h2 h3 z0 z1 z2 z3 m1 m2 m3 hc m4 hT;refine Ae dc188l0.eq_1 ?_;have hlt:((j:Int)<rs.length):=by omega
   have hj0:=nJ (j:=j);have hw:=wJ (j:=j) (by omega);have hat:(Ay (rs.map rowW1))[j]?=some (.str (rowW1 rs[j])):=by simp[Ay,hj]
   have h291:=a4 rs[j] (QD hj);have htk:A8 (rs.take (j+1))=A8 (rs.take j)++[.agg [.int .i64 rs[j].1,.bool rs[j].2.1,.bool rs[j].2.2]]:=by
    unfold A8;rw[Q2 hj,Q0];rfl
   have hnil:decide (j=0)=true->A8 (rs.take j)=[]:=λh=>by
    have:j=0:=by simpa using h
    subst this;rfl
   have hal:(A8 (rs.take j)).length=j:=by simp[A8];omega
   generalize hacc:A8 (rs.take j)=acc at m4 htk hal hnil;generalize decide (j=0)=nb at m4 hnil hT;generalize rs[j]=x at hat htk h291;have oth:∀{o y p},(st_m.put [st_c+p] 0 y) [14] o=st_m [14] o:=Mem.put_other (by simp;omega);simp only[↓go1,gB2,go5,reduceIte,Qg,Qj,reduceCtorEq,h27,h28,h29,h3,m4,hlt,hj0,Qn,hat,Aa s291,h291];have hGr:Grow (st_m.put [st_c+1+3+4] 0 [.tok 229]) 228 (.slice nb t acc):=by
    rcases hT with h|⟨i,rfl,h1,h2,h3⟩
    ·exact .inl h
    ·exact .inr ⟨by rw[Mem.put_other (by simp;omega)];exact h3,by simp⟩
   refine Ao.intro ⟨by omega,rfl,hGr⟩ ?_;rw[BH hnil,←htk];obtain⟨M,hMe,M14,M0,Mt⟩:∃M,Upd.app (st_m.put [st_c+1+3+4] 0 [D.tok 229]) (Bi 228 [st_c+1+3+5] (D.slice nb t acc))=M∧(∀o,M [14] o=st_m [14] o)∧(∀o,M [0] o=st_m [0] o)∧M [st_c+1+3+5] 0=some (.tok 229):=by
    have p:∀(m:Mem)(k o:Nat)(y:List D),26<=k->(∀q,m.put [k] o y [14] q=m [14] q)∧(∀q,m.put [k] o y [0] q=m [0] q):=λm k o y hk=>⟨λq=>Mem.put_other (by simp;omega),λq=>Mem.put_other (by simp;omega)⟩
    refine⟨_,rfl,?_⟩;cases nb with
    |true=>
     show(∀o,((st_m.put [st_c+1+3+4] 0 [D.tok 229]).put [st_c+1+3+5] 0 [.tok 229]) [14] o=_)∧(∀o,((st_m.put [st_c+1+3+4] 0 [D.tok 229]).put [st_c+1+3+5] 0 [.tok 229]) [0] o=_)∧((st_m.put [st_c+1+3+4] 0 [D.tok 229]).put [st_c+1+3+5] 0 [.tok 229]) [st_c+1+3+5] 0=_;exact⟨λo=>((p _ _ _ _ (by omega)).1 o).trans ((p _ _ _ _ (by omega)).1 o),λo=>((p _ _ _ _ (by omega)).2 o).trans ((p _ _ _ _ (by omega)).2 o),by rw[Bf,if_pos ⟨rfl,rfl⟩]⟩
    |false=>
     rcases hT with h|⟨i,rfl,h1,h2,h3⟩
     ·cases h
     show(∀o,(((st_m.put [st_c+1+3+4] 0 [D.tok 229]).put [i] 0 [.tok 0]).put [st_c+1+3+5] 0 [.tok 229]) [14] o=_)∧(∀o,(((st_m.put [st_c+1+3+4] 0 [D.tok 229]).put [i] 0 [.tok 0]).put [st_c+1+3+5] 0 [.tok 229]) [0] o=_)∧(((st_m.put [st_c+1+3+4] 0 [D.tok 229]).put [i] 0 [.tok 0]).put [st_c+1+3+5] 0 [.tok 229]) [st_c+1+3+5] 0=_;exact⟨λo=>((p _ _ _ _ (by omega)).1 o).trans (((p _ _ _ _ h1).1 o).trans ((p _ _ _ _ (by omega)).1 o)),λo=>((p _ _ _ _ (by omega)).2 o).trans (((p _ _ _ _ h1).2 o).trans ((p _ _ _ _ (by omega)).2 o)),by rw[Bf,if_pos ⟨rfl,rfl⟩]⟩
   simp only[gB1,↓go1,go5,reduceIte,Qg,Qj,h3,hMe,M14,m4,Qk];refine Ao.intro ?_ ?_
   ·intro pp hpp l hl;simp only[Qx,QV,or_false]at hpp;rcases hpp with rfl|rfl
    ·exact AA hl
    ·have hl1:l.1=[st_c+1+3+4]:=AE hl;refine⟨λh=>?_,λh=>AA h⟩;change l∈Ai [14] 3 1 at h;have:=hl1.symm.trans (AU h);simp at this;omega
   have hj1:decide (j+1=0)=false:=decide_eq_false (by omega);rw[hj1]at ih;simp only[↓go1,gB2,reduceIte,Qg,Qj,h29,hw];subst hMe;refine ih _ _ ?_;exact⟨h27,h28,rfl,h2,h3,⟨(M0 0).trans z0,(M0 1).trans z1,(M0 2).trans z2,(M0 3).trans z3⟩,(M14 0).trans m1,(M14 1).trans m2,(M14 2).trans m3,Nat.le_trans hc (by show st_c<=st_c+1+3+8+2;omega),[st_c+1+3+5],rfl,.inr ⟨_,rfl,by omega,by show _<st_c+1+3+8+2;omega,(Mem.put_other (by simp;omega)).trans Mt⟩⟩
  ·obtain⟨st_s,st_m,st_c⟩:=st;obtain⟨h27,h28,h29,h2,h3,⟨z0,z1,z2,z3⟩,m1,m2,m3,hc,t,m4,hT⟩:=hI;simp only at h27 h28 h29 h2 h3 z0 z1 z2 z3 m1 m2 m3 hc m4 hT;refine Ae dc188l0.eq_1 ?_;rw[Zz]at m4;have hdj:decide (rs.length=0)=false:=decide_eq_false (λh=>hrs (Zx.1 h));rw[hdj]at m4;unfold scC;rw[hdc];simp only[gB1,↓go1,go5,reduceIte,Qg,Qj,QL,h28,h29,ZJ,h2,h3,z0,z1,z2,z3,m1,m2,m3,m4,Qk]
   all_goals first|rfl|exact⟨rfl,rfl⟩|simp[*]
def ryQ:Ry->Ry
 | .about s=> .about {s with nl:=decide (s.rs=[])}
 | .names _ l=> .names (decide (l=[])) l
 |y=>y
def ryS:Ry->Prop
 | .fail _=>False
 | .names _ l=>(∀w∈l,(44:UInt8)∉w)∧l≠[[45]]∧CG l<=900000
 |_=>True
def S91:Summs:=AF [(89,Ac R89),(90,Ac R90),(187,Ac R187),(188,Ac R188),(88,Ac De)]
def R91:List D->Option D:=RF S91 dc91 [.cell (some 10) 2] 96
def ko91:(Ac R91).ok Qc 91:=AH fn91 (Ab ko89 (Ab ko90 (Ab ko187 (Ab ko188 (Ab ok88 Ad)))))
def R91_eq(y:Ry)(h:ryG y)(hs:ryS y):R91 [.slice false [] (Ay (ryW y).tail)]=some (.agg (ryC (ryQ y))):=by
 refine AG (Qa rfl) ?_;have s90:S91 90=some (Ac R90):=rfl;have s187:S91 187=some (Ac R187):=rfl;have s188:S91 188=some (Ac R188):=rfl;have s88:S91 88=some (Ac De):=rfl;unfold dc91;have h89:=R89_eq;have y0:((0:Nat):Int)=0:=rfl;have y1:((1:Nat):Int)=1:=rfl;have c1:(decide (([115,101,97,108,101,100]:Bs)=[115,101,97,108,101,100]))=true:=rfl;have c2:(decide (([111,112,101,110]:Bs)=[115,101,97,108,101,100]))=false:=rfl;have c3:(decide (([111,112,101,110]:Bs)=[111,112,101,110]))=true:=rfl;have c4:(decide (([110,117,109,98,101,114]:Bs)=[110,117,109,98,101,114]))=true:=rfl;have c5:(decide (([110,97,109,101,115]:Bs)=[110,117,109,98,101,114]))=false:=rfl;have c6:(decide (([110,97,109,101,115]:Bs)=[110,97,109,101,115]))=true:=rfl;have c7:(decide (([102,111,117,110,100]:Bs)=[102,111,117,110,100]))=true:=rfl;have c8:(decide (([97,98,111,117,116]:Bs)=[97,98,111,117,116]))=true:=rfl;cases y with
 |fail e=>exact hs.elim
 |done=>
  unfold ryW ryQ ryC Ay;simp only[gB1,↓go1,go5,reduceIte,Qg,Qj,QL,QE,reduceCtorEq,Q_,Qo,Ql,gB3,Qf,Qb,QK,y0]
  all_goals first|rfl|exact⟨rfl,rfl⟩|simp[*]
 |state b=>
  unfold ryW ryQ ryC Ay;cases b with
  |true=>
   simp only[gB1,↓go1,go5,reduceIte,Qg,Qj,QL,QE,reduceCtorEq,Ze,QS,Q_,Qo,Ql,gB3,QU,Qf,Qb,QK,y1,An S91 89,h89]
   all_goals first|rfl|exact⟨rfl,rfl⟩|simp[*]
  |false=>
   simp only[gB1,↓go1,go5,reduceIte,Qg,Qj,QL,QE,reduceCtorEq,Ze,QS,Q_,Qo,Ql,gB3,QU,Qf,Qb,QK,y1,c2,An S91 89,h89]
   all_goals first|rfl|exact⟨rfl,rfl⟩|simp[*]
 |number n=>
  have h90:=FA n.toNat (by have:=h.1;have:=h.2;omega);rw[QN h.1]at h90;unfold ryW ryQ ryC Ay;simp only[gB1,↓go1,go5,reduceIte,Qg,Qj,QL,QE,reduceCtorEq,Ze,QS,Q_,Qo,Ql,gB3,QU,Qf,Qb,QK,Aa s90,h90]
  all_goals first|rfl|exact⟨rfl,rfl⟩|simp[*]
 |found n d=>
  have h90:=FA n.toNat (by have:=h.1;have:=h.2;omega);rw[QN h.1]at h90;have h187:=R187_eq d (by have:=h.2.2;omega);unfold ryW ryQ ryC Ay;simp only[gB1,↓go1,go5,reduceIte,Qg,Qj,QL,QE,reduceCtorEq,Ze,QS,Q_,Qo,Ql,gB3,QU,Qf,Qb,QK,Aa s90,h90,Aa s187,h187]
  (refine Ao.intro (Aj ?_) ?_;first|rfl|simp[A2,AL,rds,Ai,Ac])
  simp only[gB1,↓go1,go5,reduceIte,Qg,Qj,QL]
  all_goals first|rfl|exact⟨rfl,rfl⟩|simp[*]
 |about s=>
  obtain⟨g1,g2,g3,g4⟩:=h;have h188:=R188_eq s g1 g2 g3 g4;unfold ryW ryQ ryC Ay;unfold scC at h188;simp only[↓go1,gB2,go5,reduceIte,Qg,Qj,reduceCtorEq,Ze,QS,Q_,Qo,Ql,gB3,QU,Qf,QK];refine Ao.intro rfl ?_;simp only[gB1,↓go1,go5,reduceIte,Qg,Qj,QL,QE,Nat.reduceSub,QS,Qo,Ql,gB3,QU,Qf,Qb,QK,QU,Qz,Qs,Qr,Qv,Aa s188,h188]
  all_goals first|rfl|exact⟨rfl,rfl⟩|simp[*]
 |names nl l=>
  have hs1:∀w∈l,(44:UInt8)∉w:=hs.1;have hjl:=Ea l [44];have h88:=Fsplit_eq (s:=Dj l) (q:=44) (by have:=hs.2.2;have:=h.1;unfold Dj;split<;>simp at hjl ⊢;omega);unfold ryW ryQ ryC;by_cases hl:l=[]
  ·subst hl;have e:(Dj []=[45])=True:=eq_true rfl;unfold Ay;simp only[gB1,↓go1,go5,reduceIte,Qg,Qj,QL,QE,reduceCtorEq,Ze,QS,Q_,Qo,Ql,gB3,QU,Qf,Qb,QK,c5,An S91 89,h89,e]
   all_goals first|rfl|exact⟨rfl,rfl⟩|simp[*]
  ·have hw:Dj l=Lib.join l [44]:=if_neg hl;have hsp:splitC 44 (Dj l)=l:=by rw[hw];exact Gk hl hs1
   have e:(Dj l=[45])=False:=eq_false (λh=>by
    rw[h]at hsp;exact hs.2.1 (hsp.symm.trans rfl))
   rw[hsp]at h88;have hdl:decide (l=[])=false:=decide_eq_false hl;unfold Ay at *;simp only[gB1,↓go1,go5,reduceIte,Qg,Qj,QL,QE,reduceCtorEq,Ze,QS,Q_,Qo,Ql,gB3,QU,Qf,Qb,QK,c5,An S91 89,h89,e,hdl,Aa s88,h88]
   all_goals first|rfl|exact⟨rfl,rfl⟩|simp[*]
end Go.Vd
namespace Go.Vd
open Go.Proofs
def dc64:=y0 f64 [(7,[(7,0),(7,12),(7,17),(7,23),(18,23),(23,0),(23,6),(23,7),(23,12),(23,17),(23,18)]),(16,[(6,10),(10,0),(10,5),(10,6)]),(19,[(6,10),(10,0),(10,5),(10,6)]),(2,[(6,11),(11,0),(11,5),(11,6)])] []
def fn64:Fn Qc 64 172 dc64 []:=Am func64
end Go.Vd
namespace Go.Vd
open Go.Proofs Go.RowKit
def rdQ(F:Wb->Oc->List D->Option WY):Summ where
 rd:=(wQ F).rd
 ex:=λds m fr=>match ds with
  | .ptr i 0::rest=>(pickW (atW m i)).bind λx=>(F x.1 x.2.1 rest).bind λy=>open Classical in if y.2.1=x.2.1∧y.2.2=none then some (y.1,[])else none
  |_=>none
def rdQ_loc{F:Wb->Oc->List D->Option WY}(ds:List D)(m m':Mem)(fr:Id)(h:∀l∈(rdQ F).rd ds m,m l.1 l.2=m' l.1 l.2):(rdQ F).ex ds m fr=(rdQ F).ex ds m' fr:=by
 simp only[rdQ,wQ]at h ⊢;split
 ·rename_i i rest;have hr:Ag m i 0 30=Ag m' i 0 30:=BC (λl hl=>h l (ZH _ hl));have hp:atW m i=atW m' i:=by
   funext x;obtain⟨w,o,t⟩:=x;apply propext;unfold atW;rw[hr];have key:Ag m' i 0 30=some (wkC w o t)->BO m 107 o.nl t o.ops.isEmpty=BO m' 107 o.nl t o.ops.isEmpty:=λhc=>by
    refine Ee (h (t,0) (ZE _ ?_));have:=at24 (hr.trans hc);rw[this];simp
   constructor
   ·rintro⟨a,b,c⟩;exact⟨a,by rw[←key a];exact b,c⟩
   ·rintro⟨a,b,c⟩;exact⟨a,by rw[key a];exact b,c⟩
  rw[hp]
 ·rfl
def rdq_ok{S:Summs}{f:FuncId}{N:Nat}{dc:DC}{rs:List RV}(hf:Fn Qc f N dc rs)(hS:Summs.ok Qc S):(rdQ (RW S dc rs N)).ok Qc f:=by
 refine Fi hS hf rdQ_loc (λds m fr r u hex hfr=>?_);simp only[rdQ]at hex;split at hex
 ·rename_i i rest;rw[Zk]at hex;obtain⟨⟨w,o,t⟩,hp,hex⟩:=hex;rw[Zk]at hex;obtain⟨⟨y1,y2,y3⟩,hF,hex⟩:=hex;simp only at hex;split at hex
  ·rename_i hy;obtain⟨rfl,rfl⟩:=hy;simp only[Qm,Zu]at hex;obtain⟨rfl,rfl⟩:=hex;have hat:=pickW_get hp;obtain⟨hN,hs1,hs2,hrun⟩:=EL hF;have hm0:m i 0=some (.bool w.v.se):=wt_bool hat.1;have hni:∀k l,(i=l++k::fr)=False:=λk l=>eq_false (λe=>by
    rw[e,hfr _ _ ⟨l++[k],by simp⟩]at hm0;cases hm0)
   refine⟨hN,wp_mono' (hrun i m fr t hat hfr hni (λk=>hni k [])) (λe st' he=>?_)⟩;obtain⟨he1,d,he2,rfl,hE⟩:=he;refine⟨he1,_,he2,rfl,λj x dd hx=>?_⟩;obtain⟨g1,g2⟩:=hE;have hx':m j x=some dd:=hx;by_cases hj:j≠i∨30<=x
   ·exact g2 j x dd hj hx'
   ·have hji:j=i:=Classical.byContradiction (λh=>hj (.inl h));have hx30:x<30:=Zy (λh=>hj (.inr h));subst hji;obtain⟨v,hv⟩:∃v,(wkC w y2 t)[x]?=some v:=⟨_,Qe (by rw[CM];exact hx30)⟩;have e1:=Bw hat.1 hv;have e2:=Bw g1 hv;rw[e2,←e1,hx']
  ·cases hex
 ·cases hex
def got_rd{F:Wb->Oc->List D->Option WY}{w:Wb}{o:Oc}{t i fr:Id}{m:Mem}{rest:List D}{d:D}{K:D×Upd->Prop}{g}(ha:atW m i (w,o,t))(hF:F w o rest=some (d,o,none))(h:K (d,[])):Got ((rdQ F).ex (.ptr i 0::rest) m fr) K g:=by
 refine Got.intro ?_ h;simp only[rdQ,pickW_eq ha (λz hz=>atW_uniq ha hz),Qp,hF,and_self,if_true]
def Wt.endc{i fr t0:Id}{m0 m:Mem}{nl0:Bool}{w:Wb}{o:Oc}{k:Nat}{d:D}{ol:Option (List Nat)}(h:Wt i fr m0 nl0 t0 m w o (nameW t0 (k::fr) ol))(hn0:nl0=true->t0=[]):WE i fr m0 nl0 t0 w (d,o,ol.map (·++[k])) d m:=by
 cases ol with
 |none=>exact h.end0 hn0
 |some l=>
  have h2:Wt i fr m0 nl0 t0 m w o ((l++[k])++fr):=by simpa[nameW]using h
  exact h2.endl (by simp)
def CC{S:Summs}{dc:DC}{rs:List RV}{N:Nat}{w:Wb}{o o':Oc}{rest:List D}{d:D}{ol:Option (List Nat)}{k:Nat}(hF:RW S dc rs N w o rest=some (d,o',ol))(h:ol.map (·++[k])=none):o'.nl=o.nl∧o'.ops=o.ops:=(EL hF).2.1 (by simpa using h)
def CB{S:Summs}{dc:DC}{rs:List RV}{N:Nat}{w:Wb}{o o':Oc}{rest:List D}{d:D}{ol:Option (List Nat)}{k:Nat}{l:List Nat}(hF:RW S dc rs N w o rest=some (d,o',ol))(h:ol.map (·++[k])=some l):o'.nl=false∧l≠[]:=by
 cases ol with
 |none=>cases h
 |some l'=>
  simp only[Zi,Qm]at h;subst h;exact⟨((EL hF).2.2.1 l' rfl).1,by simp⟩
def ro140:(rdQ W140).ok Qc 140:=rdq_ok fn140 (Ab ok248 Ad)
def S64:Summs:=AF [(135,wQ BD),(138,wQ W138),(140,rdQ W140),(139,Ac R139),(141,wQ W141),(54,wQ W54),(55,wQ W55),(142,wQ W142),(143,Ac R143),(144,Ac R144),(145,Ac R145)]
def W64:Wb->Oc->List D->Option WY:=RW S64 dc64 [] 172
def ko64:(wQ W64).ok Qc 64:=Df fn64 (Ab ko135 (Ab ko138 (Ab ro140 (Ab ko139 (Ab ko141 (Ab ko54 (Ab ko55 (Ab ko142 (Ab ko143 (Ab ko144 (Ab ko145 Ad)))))))))))
def W64_need(w:Wb)(o:Oc)(s:Sc)(is:Bool)(o2:Oc)(ho:o.nl=true->o.ops=[])(h135:BD w o [.str w.a.pa]=some (.tup [.agg (scC s),.bool is,.bool false],o2,none)):W64 w o []=some (.tup [],o2,none):=by
 refine Bd ho ⟨Qa rfl,λh=>((EL h135).2.1 rfl),λl h=>(by cases h),λi m fr t ha hfr hni hni0=>?_⟩;have s135:S64 135=some (wQ BD):=rfl;have hW:=Wt.start ha hfr;unfold dc64;have xx:=AS ha.1;unfold scC at *;simp only[↓go1,go2,go4,go5,simprocAttr,xx,Ah s135];refine Aw hW hfr hni h135 ⟨_,_,_,_,rfl⟩ (λM c1 c2=>?_);simp only[gB1,↓go1,go5,simprocAttr];exact((c1.put hfr hni0).put hfr hni0).end0 ha.2.2
def W64_write(w:Wb)(o:Oc)(s:Sc)(is:Bool)(o2:Oc)(ol:Option (List Nat))(ho:o.nl=true->o.ops=[])(h135:BD w o [.str w.a.pa]=some (.tup [.agg (scC s),.bool is,.bool true],o,none))(hop:w.a.op=10)(h138:W138 w o [.str w.a.pa,.agg (scC s),.int .i64 w.a.cas,.str w.a.da]=some (.tup [],o2,ol)):W64 w o []=some (.tup [],o2,ol.map (·++[41])):=by
 refine Bd ho ⟨Qa rfl,λh=>CC h138 h,λl h=>CB h138 h,λi m fr t ha hfr hni hni0=>?_⟩;have s135:S64 135=some (wQ BD):=rfl;have s138:S64 138=some (wQ W138):=rfl;have hW:=Wt.start ha hfr;unfold dc64;have xx:=AS ha.1;unfold scC at *;simp only[↓go1,go2,go4,go5,simprocAttr,xx,Ah s135];refine Aw hW hfr hni h135 ⟨_,_,_,_,rfl⟩ (λM c1 c2=>?_);have xx:=AS c1.at_.1;simp only[gB1,↓go1,go5,simprocAttr,xx,hni0,Ah s138,hop];refine Cu ((c1.put hfr hni0).put hfr hni0) hfr hni h138 ⟨_,_,_,_,rfl⟩ (λM2 u hu d1 d2=>?_);simp only[↓go1,go3,simprocAttr];refine Ao.intro (λp hp=>by cases hp) ?_;simp only[↓go1,go2,simprocAttr];exact d1.endc ha.2.2
def W64_none(w:Wb)(o:Oc)(s:Sc)(o2:Oc)(ol:Option (List Nat))(ho:o.nl=true->o.ops=[])(h135:BD w o [.str w.a.pa]=some (.tup [.agg (scC s),.bool false,.bool true],o,none))(h10:w.a.op≠10)(h15:w.a.op≠15)(h54:W54 w o [.int .i64 6]=some (.tup [],o2,ol)):W64 w o []=some (.tup [],o2,ol.map (·++[35])):=by
 refine Bd ho ⟨Qa rfl,λh=>CC h54 h,λl h=>CB h54 h,λi m fr t ha hfr hni hni0=>?_⟩;have s135:S64 135=some (wQ BD):=rfl;have s54:S64 54=some (wQ W54):=rfl;have hW:=Wt.start ha hfr;unfold dc64;have xx:=AS ha.1;unfold scC at *;simp only[↓go1,go2,go4,go5,simprocAttr,xx,Ah s135];refine Aw hW hfr hni h135 ⟨_,_,_,_,rfl⟩ (λM c1 c2=>?_);have xx:=AS c1.at_.1;simp only[gB1,↓go1,go5,simprocAttr,xx,hni0,eq_false h10,eq_false h15,Ah s54];refine Aw ((c1.put hfr hni0).put hfr hni0) hfr hni h54 ⟨_,_,_,_,rfl⟩ (λM2 d1 d2=>?_);simp only[↓go1,go2,simprocAttr];exact d1.endc ha.2.2
def W64_about(w:Wb)(o:Oc)(s:Sc)(o2:Oc)(ol:Option (List Nat))(ho:o.nl=true->o.ops=[])(h135:BD w o [.str w.a.pa]=some (.tup [.agg (scC s),.bool true,.bool true],o,none))(hop:w.a.op=14)(h55:W55 w o [.agg (ryC (.about s))]=some (.tup [],o2,ol)):W64 w o []=some (.tup [],o2,ol.map (·++[44])):=by
 refine Bd ho ⟨Qa rfl,λh=>CC h55 h,λl h=>CB h55 h,λi m fr t ha hfr hni hni0=>?_⟩;have s135:S64 135=some (wQ BD):=rfl;have s55:S64 55=some (wQ W55):=rfl;have hW:=Wt.start ha hfr;unfold dc64;have xx:=AS ha.1;unfold scC at *;simp only[↓go1,go2,go4,go5,simprocAttr,xx,Ah s135];refine Aw hW hfr hni h135 ⟨_,_,_,_,rfl⟩ (λM c1 c2=>?_);have xx:=AS c1.at_.1;simp only[gB1,↓go1,go5,simprocAttr,xx,hni0,Ah s55,hop];refine Aw ((c1.put hfr hni0).put hfr hni0) hfr hni h55 ⟨_,_,_,_,rfl⟩ (λM2 d1 d2=>?_);simp only[↓go1,go2,simprocAttr];exact d1.endc ha.2.2
def W64_purge(w:Wb)(o:Oc)(s:Sc)(o2:Oc)(ol:Option (List Nat))(ho:o.nl=true->o.ops=[])(h135:BD w o [.str w.a.pa]=some (.tup [.agg (scC s),.bool true,.bool true],o,none))(hop:w.a.op=16)(h142:W142 w o [.agg (scC s)]=some (.tup [],o2,ol)):W64 w o []=some (.tup [],o2,ol.map (·++[50])):=by
 refine Bd ho ⟨Qa rfl,λh=>CC h142 h,λl h=>CB h142 h,λi m fr t ha hfr hni hni0=>?_⟩;have s135:S64 135=some (wQ BD):=rfl;have s142:S64 142=some (wQ W142):=rfl;have hW:=Wt.start ha hfr;unfold dc64;have xx:=AS ha.1;unfold scC at *;simp only[↓go1,go2,go4,go5,simprocAttr,xx,Ah s135];refine Aw hW hfr hni h135 ⟨_,_,_,_,rfl⟩ (λM c1 c2=>?_);have xx:=AS c1.at_.1;simp only[gB1,↓go1,go5,simprocAttr,xx,hni0,Ah s142,hop];refine Aw ((c1.put hfr hni0).put hfr hni0) hfr hni h142 ⟨_,_,_,_,rfl⟩ (λM2 d1 d2=>?_);simp only[↓go1,go2,simprocAttr];exact d1.endc ha.2.2
def W64_config(w:Wb)(o:Oc)(s:Sc)(is:Bool)(o2:Oc)(ol:Option (List Nat))(ho:o.nl=true->o.ops=[])(h135:BD w o [.str w.a.pa]=some (.tup [.agg (scC s),.bool is,.bool true],o,none))(hop:w.a.op=15)(q:Int)(b:Bool)(s2:Sc)(gnl:Bool)(gone:List Int)(e:Int)(h141:W141 w o [.agg (scC s2),.slice gnl [] (AT gone),.int .i64 e]=some (.tup [],o2,ol))(h140:W140 w o [.str w.a.pa]=some (.agg [.int .i64 q,.bool b],o,none))(h139:R139 [.agg (scC s),.agg [.int .i64 q,.bool b],.int .i64 w.a.n,.bool w.a.fl]=some (.tup [.agg (scC s2),.slice gnl [] (AT gone),.int .i64 e])):W64 w o []=some (.tup [],o2,ol.map (·++[62])):=by
 refine Bd ho ⟨Qa rfl,λh=>CC h141 h,λl h=>CB h141 h,λi m fr t ha hfr hni hni0=>?_⟩;have s135:S64 135=some (wQ BD):=rfl;have s140:S64 140=some (rdQ W140):=rfl;have s141:S64 141=some (wQ W141):=rfl;have hW:=Wt.start ha hfr;unfold dc64;have xx:=AS ha.1;unfold scC at *;simp only[↓go1,go2,go4,go5,simprocAttr,xx,Ah s135];refine Aw hW hfr hni h135 ⟨_,_,_,_,rfl⟩ (λM c1 c2=>?_);have xx:=AS c1.at_.1;simp only[gB1,↓go1,go5,simprocAttr,xx,hni0,Ah s140,hop];have a1:=at24 (((c1.put hfr hni0 (q:=11) (p:=0) (ys:=[.int .i64 0,.bool false,.int .i64 0,.slice true [] []])).put hfr hni0 (q:=11) (p:=0) (ys:=[.int .i64 s.mx,.bool s.cas,.int .i64 s.la,.slice s.nl [] (A8 s.rs)])).at_.1);refine got_rd ((c1.put hfr hni0).put hfr hni0).at_ h140 ?_;simp only[gB1,↓go1,go5,simprocAttr,xx,hni0,An S64 139,h139];refine Ao.intro ?_ ?_
 ·intro pp hpp l hl;simp only[Qx,QV,or_false]at hpp;rcases hpp with rfl|rfl|rfl|rfl|rfl|rfl|rfl|rfl|rfl|rfl|rfl
  ·exact AA hl
  ·exact AA hl
  ·exact AA hl
  ·exact AA hl
  ·exact AA hl
  ·have hl1:l.1=54::fr:=AE hl;refine⟨λh=>?_,λh=>AA h⟩;change l∈Ai (11::fr) 0 4 at h;have:=hl1.symm.trans (AU h);simp at this
  ·have hl1:l.1=54::fr:=AE hl;refine⟨λh=>?_,λh=>AA h⟩;change l∈Ai i _ 1 at h;exact(hni0 54).mp ((AU h).symm.trans hl1)
  ·have hl1:l.1=54::fr:=AE hl;refine⟨λh=>?_,λh=>AA h⟩;rcases QT.1 h with h|h
   ·exact(hni0 54).mp ((AU h).symm.trans hl1)
   ·rw[a1]at h;rw[Qy.1 h]at hl1;exact c1.loc 54 hl1
  ·have hl1:l.1=54::fr:=AE hl;refine⟨λh=>?_,λh=>AA h⟩;change l∈Ai i _ 1 at h;exact(hni0 54).mp ((AU h).symm.trans hl1)
  ·have hl1:l.1=54::fr:=AE hl;refine⟨λh=>?_,λh=>AA h⟩;change l∈Ai i _ 1 at h;exact(hni0 54).mp ((AU h).symm.trans hl1)
  ·have hl1:l.1=54::fr:=AE hl;exact⟨λh=>AA h,λh=>AA h⟩
 simp only[gB1,↓go1,go5,simprocAttr,Ah s141];refine Aw ((((c1.put hfr hni0).put hfr hni0).put hfr hni0).put hfr hni0) hfr hni h141 ⟨_,_,_,_,rfl⟩ (λM2 d1 d2=>?_);simp only[↓go1,go2,simprocAttr];exact d1.endc ha.2.2
def W64_delete(w:Wb)(o:Oc)(s:Sc)(o2:Oc)(ol:Option (List Nat))(ho:o.nl=true->o.ops=[])(h135:BD w o [.str w.a.pa]=some (.tup [.agg (scC s),.bool true,.bool true],o,none))(hop:w.a.op=11)(s2:Sc)(e:Int)(h141:W141 w o [.agg (scC s2),.slice true [] [],.int .i64 e]=some (.tup [],o2,ol))(hf:R143 [.agg (scC s),.slice w.a.nln [] (AT w.a.ns)]=some (.tup [.agg (scC s2),.int .i64 e])):W64 w o []=some (.tup [],o2,ol.map (·++[71])):=by
 refine Bd ho ⟨Qa rfl,λh=>CC h141 h,λl h=>CB h141 h,λi m fr t ha hfr hni hni0=>?_⟩;have s135:S64 135=some (wQ BD):=rfl;have s141:S64 141=some (wQ W141):=rfl;have hW:=Wt.start ha hfr;unfold dc64;have xx:=AS ha.1;unfold scC at *;simp only[↓go1,go2,go4,go5,simprocAttr,xx,Ah s135];refine Aw hW hfr hni h135 ⟨_,_,_,_,rfl⟩ (λM c1 c2=>?_);have xx:=AS c1.at_.1;simp only[gB1,↓go1,go5,simprocAttr,xx,hni0,An S64 143,hf,hop];refine Ao.intro ?_ ?_
 ·intro pp hpp l hl;simp only[Qx,QV,or_false]at hpp;rcases hpp with rfl|rfl|rfl|rfl
  ·exact AA hl
  ·have hl1:l.1=65::fr:=AE hl;refine⟨λh=>?_,λh=>AA h⟩;change l∈Ai (11::fr) 0 4 at h;have:=hl1.symm.trans (AU h);simp at this
  ·have hl1:l.1=65::fr:=AE hl;refine⟨λh=>?_,λh=>AA h⟩;change l∈Ai i _ 1 at h;exact(hni0 65).mp ((AU h).symm.trans hl1)
  ·have hl1:l.1=65::fr:=AE hl;exact⟨λh=>AA h,λh=>AA h⟩
 simp only[gB1,↓go1,go5,simprocAttr,Ah s141];refine Aw ((((c1.put hfr hni0).put hfr hni0).put hfr hni0).put hfr hni0) hfr hni h141 ⟨_,_,_,_,rfl⟩ (λM2 d1 d2=>?_);simp only[↓go1,go2,simprocAttr];exact d1.endc ha.2.2
def W64_undelete(w:Wb)(o:Oc)(s:Sc)(o2:Oc)(ol:Option (List Nat))(ho:o.nl=true->o.ops=[])(h135:BD w o [.str w.a.pa]=some (.tup [.agg (scC s),.bool true,.bool true],o,none))(hop:w.a.op=12)(s2:Sc)(e:Int)(h141:W141 w o [.agg (scC s2),.slice true [] [],.int .i64 e]=some (.tup [],o2,ol))(hf:R144 [.agg (scC s),.slice w.a.nln [] (AT w.a.ns)]=some (.tup [.agg (scC s2),.int .i64 e])):W64 w o []=some (.tup [],o2,ol.map (·++[78])):=by
 refine Bd ho ⟨Qa rfl,λh=>CC h141 h,λl h=>CB h141 h,λi m fr t ha hfr hni hni0=>?_⟩;have s135:S64 135=some (wQ BD):=rfl;have s141:S64 141=some (wQ W141):=rfl;have hW:=Wt.start ha hfr;unfold dc64;have xx:=AS ha.1;unfold scC at *;simp only[↓go1,go2,go4,go5,simprocAttr,xx,Ah s135];refine Aw hW hfr hni h135 ⟨_,_,_,_,rfl⟩ (λM c1 c2=>?_);have xx:=AS c1.at_.1;simp only[gB1,↓go1,go5,simprocAttr,xx,hni0,An S64 144,hf,hop];refine Ao.intro ?_ ?_
 ·intro pp hpp l hl;simp only[Qx,QV,or_false]at hpp;rcases hpp with rfl|rfl|rfl|rfl
  ·exact AA hl
  ·have hl1:l.1=72::fr:=AE hl;refine⟨λh=>?_,λh=>AA h⟩;change l∈Ai (11::fr) 0 4 at h;have:=hl1.symm.trans (AU h);simp at this
  ·have hl1:l.1=72::fr:=AE hl;refine⟨λh=>?_,λh=>AA h⟩;change l∈Ai i _ 1 at h;exact(hni0 72).mp ((AU h).symm.trans hl1)
  ·have hl1:l.1=72::fr:=AE hl;exact⟨λh=>AA h,λh=>AA h⟩
 simp only[gB1,↓go1,go5,simprocAttr,Ah s141];refine Aw ((((c1.put hfr hni0).put hfr hni0).put hfr hni0).put hfr hni0) hfr hni h141 ⟨_,_,_,_,rfl⟩ (λM2 d1 d2=>?_);simp only[↓go1,go2,simprocAttr];exact d1.endc ha.2.2
def W64_destroy(w:Wb)(o:Oc)(s:Sc)(o2:Oc)(ol:Option (List Nat))(ho:o.nl=true->o.ops=[])(h135:BD w o [.str w.a.pa]=some (.tup [.agg (scC s),.bool true,.bool true],o,none))(hop:w.a.op=13)(s2:Sc)(gnl:Bool)(gone:List Int)(e:Int)(h141:W141 w o [.agg (scC s2),.slice gnl [] (AT gone),.int .i64 e]=some (.tup [],o2,ol))(hf:R145 [.agg (scC s),.slice w.a.nln [] (AT w.a.ns)]=some (.tup [.agg (scC s2),.slice gnl [] (AT gone),.int .i64 e])):W64 w o []=some (.tup [],o2,ol.map (·++[81])):=by
 refine Bd ho ⟨Qa rfl,λh=>CC h141 h,λl h=>CB h141 h,λi m fr t ha hfr hni hni0=>?_⟩;have s135:S64 135=some (wQ BD):=rfl;have s141:S64 141=some (wQ W141):=rfl;have hW:=Wt.start ha hfr;unfold dc64;have xx:=AS ha.1;unfold scC at *;simp only[↓go1,go2,go4,go5,simprocAttr,xx,Ah s135];refine Aw hW hfr hni h135 ⟨_,_,_,_,rfl⟩ (λM c1 c2=>?_);have xx:=AS c1.at_.1;simp only[gB1,↓go1,go5,simprocAttr,xx,hni0,An S64 145,hf,hop];refine Ao.intro ?_ ?_
 ·intro pp hpp l hl;simp only[Qx,QV,or_false]at hpp;rcases hpp with rfl|rfl|rfl|rfl
  ·exact AA hl
  ·have hl1:l.1=73::fr:=AE hl;refine⟨λh=>?_,λh=>AA h⟩;change l∈Ai (11::fr) 0 4 at h;have:=hl1.symm.trans (AU h);simp at this
  ·have hl1:l.1=73::fr:=AE hl;refine⟨λh=>?_,λh=>AA h⟩;change l∈Ai i _ 1 at h;exact(hni0 73).mp ((AU h).symm.trans hl1)
  ·have hl1:l.1=73::fr:=AE hl;exact⟨λh=>AA h,λh=>AA h⟩
 simp only[gB1,↓go1,go5,simprocAttr,Ah s141];refine Aw ((((c1.put hfr hni0).put hfr hni0).put hfr hni0).put hfr hni0) hfr hni h141 ⟨_,_,_,_,rfl⟩ (λM2 d1 d2=>?_);simp only[↓go1,go2,simprocAttr];exact d1.endc ha.2.2
def S63:Summs:=AF [(135,wQ BD),(54,wQ W54),(136,Ac R136),(123,Ac CL),(137,Ac E0),(133,wQ W133),(55,wQ W55),(138,wQ W138)]
def W63:Wb->Oc->List D->Option WY:=RW S63 dc63 [] 113
def ko63:(wQ W63).ok Qc 63:=Df fn63 (Ab ko135 (Ab ko54 (Ab ko136 (Ab ko123 (Ab ko137 (Ab ko133 (Ab ko55 (Ab ko138 Ad))))))))
def W63_need(w:Wb)(o:Oc)(s:Sc)(is:Bool)(o2:Oc)(ho:o.nl=true->o.ops=[])(h135:BD w o [.str w.a.pa]=some (.tup [.agg (scC s),.bool is,.bool false],o2,none)):W63 w o []=some (.tup [],o2,none):=by
 refine Bd ho ⟨Qa rfl,λh=>((EL h135).2.1 rfl),λl h=>(by cases h),λi m fr t ha hfr hni hni0=>?_⟩;have s135:S63 135=some (wQ BD):=rfl;have hW:=Wt.start ha hfr;unfold dc63;have xx:=AS ha.1;unfold scC at *;simp only[↓go1,go2,go4,go5,simprocAttr,xx,Ah s135];refine Aw hW hfr hni h135 ⟨_,_,_,_,rfl⟩ (λM c1 c2=>?_);simp only[gB1,↓go1,go5,simprocAttr];exact((c1.put hfr hni0).put hfr hni0).end0 ha.2.2
def W63_none(w:Wb)(o:Oc)(s:Sc)(o2:Oc)(ol:Option (List Nat))(ho:o.nl=true->o.ops=[])(h135:BD w o [.str w.a.pa]=some (.tup [.agg (scC s),.bool false,.bool true],o,none))(h54:W54 w o [.int .i64 6]=some (.tup [],o2,ol)):W63 w o []=some (.tup [],o2,ol.map (·++[20])):=by
 refine Bd ho ⟨Qa rfl,λh=>CC h54 h,λl h=>CB h54 h,λi m fr t ha hfr hni hni0=>?_⟩;have s135:S63 135=some (wQ BD):=rfl;have s54:S63 54=some (wQ W54):=rfl;have hW:=Wt.start ha hfr;unfold dc63;have xx:=AS ha.1;unfold scC at *;simp only[↓go1,go2,go4,go5,simprocAttr,xx,Ah s135];refine Aw hW hfr hni h135 ⟨_,_,_,_,rfl⟩ (λM c1 c2=>?_);have xx:=AS c1.at_.1;simp only[gB1,↓go1,go5,simprocAttr,Ah s54];refine Aw ((c1.put hfr hni0).put hfr hni0) hfr hni h54 ⟨_,_,_,_,rfl⟩ (λM2 d1 d2=>?_);simp only[↓go1,go2,simprocAttr];exact d1.endc ha.2.2
def W63_fail9(w:Wb)(o:Oc)(s:Sc)(o2:Oc)(ol:Option (List Nat))(ho:o.nl=true->o.ops=[])(h135:BD w o [.str w.a.pa]=some (.tup [.agg (scC s),.bool true,.bool true],o,none))(hop:w.a.op=9)(nn e:Int)(ra rb:Bool)(h136:R136 [.agg (scC s),.int .i64 (w.a.n)]=some (.tup [.agg [.int .i64 nn,.bool ra,.bool rb],.int .i64 e]))(he:e≠0)(h54:W54 w o [.int .i64 e]=some (.tup [],o2,ol)):W63 w o []=some (.tup [],o2,ol.map (·++[44])):=by
 refine Bd ho ⟨Qa rfl,λh=>CC h54 h,λl h=>CB h54 h,λi m fr t ha hfr hni hni0=>?_⟩;have s135:S63 135=some (wQ BD):=rfl;have s54:S63 54=some (wQ W54):=rfl;have hW:=Wt.start ha hfr;unfold dc63;have xx:=AS ha.1;unfold scC at *;simp only[↓go1,go2,go4,go5,simprocAttr,xx,Ah s135];refine Aw hW hfr hni h135 ⟨_,_,_,_,rfl⟩ (λM c1 c2=>?_);have xx:=AS c1.at_.1;simp only[gB1,↓go1,go5,simprocAttr,xx,hni0,An S63 136,h136,eq_false he,Ah s54,hop];refine Aw ((((c1.put hfr hni0).put hfr hni0).put hfr hni0).put hfr hni0) hfr hni h54 ⟨_,_,_,_,rfl⟩ (λM2 d1 d2=>?_);simp only[↓go1,go2,simprocAttr];exact d1.endc ha.2.2
def W63_need9(w:Wb)(o:Oc)(s:Sc)(o2:Oc)(ol:Option (List Nat))(ho:o.nl=true->o.ops=[])(h135:BD w o [.str w.a.pa]=some (.tup [.agg (scC s),.bool true,.bool true],o,none))(hop:w.a.op=9)(nn:Int)(ra rb:Bool)(h136:R136 [.agg (scC s),.int .i64 (w.a.n)]=some (.tup [.agg [.int .i64 nn,.bool ra,.bool rb],.int .i64 0]))(at_ text:Bs)(there:Bool)(h123:CL [.int .u8 2,.str w.a.pa,.int .i64 nn]=some (.str at_))(h137:E0 [.agg (kwC w.k),.str at_]=some (.tup [.str text,.bool there,.bool false]))(h133:W133 w o [.str at_,.bool false]=some (.tup [],o2,ol)):W63 w o []=some (.tup [],o2,ol.map (·++[69])):=by
 refine Bd ho ⟨Qa rfl,λh=>CC h133 h,λl h=>CB h133 h,λi m fr t ha hfr hni hni0=>?_⟩;have s135:S63 135=some (wQ BD):=rfl;have s123:S63 123=some (Ac CL):=rfl;have s137:S63 137=some (Ac E0):=rfl;have s133:S63 133=some (wQ W133):=rfl;have hW:=Wt.start ha hfr;unfold dc63;have xx:=AS ha.1;unfold scC at *;unfold kwC at h137;simp only[↓go1,go2,go4,go5,simprocAttr,xx,Ah s135];refine Aw hW hfr hni h135 ⟨_,_,_,_,rfl⟩ (λM c1 c2=>?_);have xx:=AS c1.at_.1;simp only[gB1,↓go1,go5,simprocAttr,xx,hni0,An S63 136,h136,Aa s123,h123,hop];refine Ao.intro (λp hp=>by cases hp) ?_;simp only[gB1,↓go1,go5,simprocAttr,xx,hni0,Aa s137,h137,Ah s133];refine Aw ((((c1.put hfr hni0).put hfr hni0).put hfr hni0).put hfr hni0) hfr hni h133 ⟨_,_,_,_,rfl⟩ (λM2 d1 d2=>?_);simp only[↓go1,go2,simprocAttr];exact d1.endc ha.2.2
def W63_read_in(w:Wb)(o:Oc)(s:Sc)(o2:Oc)(ol:Option (List Nat))(ho:o.nl=true->o.ops=[])(h135:BD w o [.str w.a.pa]=some (.tup [.agg (scC s),.bool true,.bool true],o,none))(hop:w.a.op=9)(nn:Int)(ra rb:Bool)(h136:R136 [.agg (scC s),.int .i64 (w.a.n)]=some (.tup [.agg [.int .i64 nn,.bool ra,.bool rb],.int .i64 0]))(at_ text:Bs)(h123:CL [.int .u8 2,.str w.a.pa,.int .i64 nn]=some (.str at_))(h137:E0 [.agg (kwC w.k),.str at_]=some (.tup [.str text,.bool true,.bool true]))(h55:W55 w o [.agg (ryC (.found nn text))]=some (.tup [],o2,ol)):W63 w o []=some (.tup [],o2,ol.map (·++[81])):=by
 refine Bd ho ⟨Qa rfl,λh=>CC h55 h,λl h=>CB h55 h,λi m fr t ha hfr hni hni0=>?_⟩;have s135:S63 135=some (wQ BD):=rfl;have s123:S63 123=some (Ac CL):=rfl;have s137:S63 137=some (Ac E0):=rfl;have s55:S63 55=some (wQ W55):=rfl;have hW:=Wt.start ha hfr;unfold dc63;have xx:=AS ha.1;unfold scC at *;unfold kwC at h137;simp only[↓go1,go2,go4,go5,simprocAttr,xx,Ah s135];refine Aw hW hfr hni h135 ⟨_,_,_,_,rfl⟩ (λM c1 c2=>?_);have xx:=AS c1.at_.1;simp only[gB1,↓go1,go5,simprocAttr,xx,hni0,An S63 136,h136,Aa s123,h123,hop];refine Ao.intro (λp hp=>by cases hp) ?_;simp only[gB1,↓go1,go5,simprocAttr,xx,hni0,Aa s137,h137,Ah s55,hop];refine Aw ((((c1.put hfr hni0).put hfr hni0).put hfr hni0).put hfr hni0) hfr hni h55 ⟨_,_,_,_,rfl⟩ (λM2 d1 d2=>?_);simp only[↓go1,go2,simprocAttr];exact d1.endc ha.2.2
def W63_read_out(w:Wb)(o:Oc)(s:Sc)(o2:Oc)(ol:Option (List Nat))(ho:o.nl=true->o.ops=[])(h135:BD w o [.str w.a.pa]=some (.tup [.agg (scC s),.bool true,.bool true],o,none))(hop:w.a.op=9)(nn:Int)(ra rb:Bool)(h136:R136 [.agg (scC s),.int .i64 (w.a.n)]=some (.tup [.agg [.int .i64 nn,.bool ra,.bool rb],.int .i64 0]))(at_ text:Bs)(h123:CL [.int .u8 2,.str w.a.pa,.int .i64 nn]=some (.str at_))(h137:E0 [.agg (kwC w.k),.str at_]=some (.tup [.str text,.bool false,.bool true]))(h55:W55 w o [.agg (ryC (.found nn []))]=some (.tup [],o2,ol)):W63 w o []=some (.tup [],o2,ol.map (·++[82])):=by
 refine Bd ho ⟨Qa rfl,λh=>CC h55 h,λl h=>CB h55 h,λi m fr t ha hfr hni hni0=>?_⟩;have s135:S63 135=some (wQ BD):=rfl;have s123:S63 123=some (Ac CL):=rfl;have s137:S63 137=some (Ac E0):=rfl;have s55:S63 55=some (wQ W55):=rfl;have hW:=Wt.start ha hfr;unfold dc63;have xx:=AS ha.1;unfold scC at *;unfold kwC at h137;simp only[↓go1,go2,go4,go5,simprocAttr,xx,Ah s135];refine Aw hW hfr hni h135 ⟨_,_,_,_,rfl⟩ (λM c1 c2=>?_);have xx:=AS c1.at_.1;simp only[gB1,↓go1,go5,simprocAttr,xx,hni0,An S63 136,h136,Aa s123,h123,hop];refine Ao.intro (λp hp=>by cases hp) ?_;simp only[gB1,↓go1,go5,simprocAttr,xx,hni0,Aa s137,h137,Ah s55,hop];refine Aw ((((c1.put hfr hni0).put hfr hni0).put hfr hni0).put hfr hni0) hfr hni h55 ⟨_,_,_,_,rfl⟩ (λM2 d1 d2=>?_);simp only[↓go1,go2,simprocAttr];exact d1.endc ha.2.2
def W63_fail18(w:Wb)(o:Oc)(s:Sc)(o2:Oc)(ol:Option (List Nat))(ho:o.nl=true->o.ops=[])(h135:BD w o [.str w.a.pa]=some (.tup [.agg (scC s),.bool true,.bool true],o,none))(hop:w.a.op=18)(nn e:Int)(ra rb:Bool)(h136:R136 [.agg (scC s),.int .i64 (0)]=some (.tup [.agg [.int .i64 nn,.bool ra,.bool rb],.int .i64 e]))(he:e≠0)(h54:W54 w o [.int .i64 e]=some (.tup [],o2,ol)):W63 w o []=some (.tup [],o2,ol.map (·++[45])):=by
 refine Bd ho ⟨Qa rfl,λh=>CC h54 h,λl h=>CB h54 h,λi m fr t ha hfr hni hni0=>?_⟩;have s135:S63 135=some (wQ BD):=rfl;have s54:S63 54=some (wQ W54):=rfl;have hW:=Wt.start ha hfr;unfold dc63;have xx:=AS ha.1;unfold scC at *;simp only[↓go1,go2,go4,go5,simprocAttr,xx,Ah s135];refine Aw hW hfr hni h135 ⟨_,_,_,_,rfl⟩ (λM c1 c2=>?_);have xx:=AS c1.at_.1;simp only[gB1,↓go1,go5,simprocAttr,xx,hni0,An S63 136,h136,eq_false he,Ah s54,hop];refine Aw ((((c1.put hfr hni0).put hfr hni0).put hfr hni0).put hfr hni0) hfr hni h54 ⟨_,_,_,_,rfl⟩ (λM2 d1 d2=>?_);simp only[↓go1,go2,simprocAttr];exact d1.endc ha.2.2
def W63_need18(w:Wb)(o:Oc)(s:Sc)(o2:Oc)(ol:Option (List Nat))(ho:o.nl=true->o.ops=[])(h135:BD w o [.str w.a.pa]=some (.tup [.agg (scC s),.bool true,.bool true],o,none))(hop:w.a.op=18)(nn:Int)(ra rb:Bool)(h136:R136 [.agg (scC s),.int .i64 (0)]=some (.tup [.agg [.int .i64 nn,.bool ra,.bool rb],.int .i64 0]))(at_ text:Bs)(there:Bool)(h123:CL [.int .u8 2,.str w.a.pa,.int .i64 nn]=some (.str at_))(h137:E0 [.agg (kwC w.k),.str at_]=some (.tup [.str text,.bool there,.bool false]))(h133:W133 w o [.str at_,.bool false]=some (.tup [],o2,ol)):W63 w o []=some (.tup [],o2,ol.map (·++[70])):=by
 refine Bd ho ⟨Qa rfl,λh=>CC h133 h,λl h=>CB h133 h,λi m fr t ha hfr hni hni0=>?_⟩;have s135:S63 135=some (wQ BD):=rfl;have s123:S63 123=some (Ac CL):=rfl;have s137:S63 137=some (Ac E0):=rfl;have s133:S63 133=some (wQ W133):=rfl;have hW:=Wt.start ha hfr;unfold dc63;have xx:=AS ha.1;unfold scC at *;unfold kwC at h137;simp only[↓go1,go2,go4,go5,simprocAttr,xx,Ah s135];refine Aw hW hfr hni h135 ⟨_,_,_,_,rfl⟩ (λM c1 c2=>?_);have xx:=AS c1.at_.1;simp only[gB1,↓go1,go5,simprocAttr,xx,hni0,An S63 136,h136,Aa s123,h123,hop];refine Ao.intro (λp hp=>by cases hp) ?_;simp only[gB1,↓go1,go5,simprocAttr,xx,hni0,Aa s137,h137,Ah s133];refine Aw ((((c1.put hfr hni0).put hfr hni0).put hfr hni0).put hfr hni0) hfr hni h133 ⟨_,_,_,_,rfl⟩ (λM2 d1 d2=>?_);simp only[↓go1,go2,simprocAttr];exact d1.endc ha.2.2
def W63_copy_need_in(w:Wb)(o:Oc)(s:Sc)(o2:Oc)(ho:o.nl=true->o.ops=[])(h135:BD w o [.str w.a.pa]=some (.tup [.agg (scC s),.bool true,.bool true],o,none))(hop:w.a.op=18)(nn:Int)(ra rb:Bool)(h136:R136 [.agg (scC s),.int .i64 (0)]=some (.tup [.agg [.int .i64 nn,.bool ra,.bool rb],.int .i64 0]))(at_ text:Bs)(h123:CL [.int .u8 2,.str w.a.pa,.int .i64 nn]=some (.str at_))(h137:E0 [.agg (kwC w.k),.str at_]=some (.tup [.str text,.bool true,.bool true]))(s2:Sc)(is2:Bool)(h135b:BD w o [.str w.a.ot]=some (.tup [.agg (scC s2),.bool is2,.bool false],o2,none)):W63 w o []=some (.tup [],o2,none):=by
 refine Bd ho ⟨Qa rfl,λh=>((EL h135b).2.1 rfl),λl h=>(by cases h),λi m fr t ha hfr hni hni0=>?_⟩;have s135:S63 135=some (wQ BD):=rfl;have s123:S63 123=some (Ac CL):=rfl;have s137:S63 137=some (Ac E0):=rfl;have hW:=Wt.start ha hfr;unfold dc63;have xx:=AS ha.1;unfold scC at *;unfold kwC at h137;simp only[↓go1,go2,go4,go5,simprocAttr,xx,Ah s135];refine Aw hW hfr hni h135 ⟨_,_,_,_,rfl⟩ (λM c1 c2=>?_);have xx:=AS c1.at_.1;simp only[gB1,↓go1,go5,simprocAttr,xx,hni0,An S63 136,h136,Aa s123,h123,hop];refine Ao.intro (λp hp=>by cases hp) ?_;simp only[gB1,↓go1,go5,simprocAttr,xx,hni0,Aa s137,h137,Ah s135,hop];refine Aw ((((c1.put hfr hni0).put hfr hni0).put hfr hni0).put hfr hni0) hfr hni h135b ⟨_,_,_,_,rfl⟩ (λM2 d1 d2=>?_);have xx:=AS d1.at_.1;simp only[gB1,↓go1,go5,simprocAttr];exact((d1.put hfr hni0).put hfr hni0).end0 ha.2.2
def W63_copy_in(w:Wb)(o:Oc)(s:Sc)(o2:Oc)(ol:Option (List Nat))(ho:o.nl=true->o.ops=[])(h135:BD w o [.str w.a.pa]=some (.tup [.agg (scC s),.bool true,.bool true],o,none))(hop:w.a.op=18)(nn:Int)(ra rb:Bool)(h136:R136 [.agg (scC s),.int .i64 (0)]=some (.tup [.agg [.int .i64 nn,.bool ra,.bool rb],.int .i64 0]))(at_ text:Bs)(h123:CL [.int .u8 2,.str w.a.pa,.int .i64 nn]=some (.str at_))(h137:E0 [.agg (kwC w.k),.str at_]=some (.tup [.str text,.bool true,.bool true]))(s2:Sc)(is2:Bool)(h135b:BD w o [.str w.a.ot]=some (.tup [.agg (scC s2),.bool is2,.bool true],o,none))(h138:W138 w o [.str w.a.ot,.agg (scC s2),.int .i64 (-1),.str text]=some (.tup [],o2,ol)):W63 w o []=some (.tup [],o2,ol.map (·++[101])):=by
 refine Bd ho ⟨Qa rfl,λh=>CC h138 h,λl h=>CB h138 h,λi m fr t ha hfr hni hni0=>?_⟩;have s135:S63 135=some (wQ BD):=rfl;have s123:S63 123=some (Ac CL):=rfl;have s137:S63 137=some (Ac E0):=rfl;have s138:S63 138=some (wQ W138):=rfl;have hW:=Wt.start ha hfr;unfold dc63;have xx:=AS ha.1;unfold scC at *;unfold kwC at h137;simp only[↓go1,go2,go4,go5,simprocAttr,xx,Ah s135];refine Aw hW hfr hni h135 ⟨_,_,_,_,rfl⟩ (λM c1 c2=>?_);have xx:=AS c1.at_.1;simp only[gB1,↓go1,go5,simprocAttr,xx,hni0,An S63 136,h136,Aa s123,h123,hop];refine Ao.intro (λp hp=>by cases hp) ?_;simp only[gB1,↓go1,go5,simprocAttr,xx,hni0,Aa s137,h137,Ah s135,hop];refine Aw ((((c1.put hfr hni0).put hfr hni0).put hfr hni0).put hfr hni0) hfr hni h135b ⟨_,_,_,_,rfl⟩ (λM2 d1 d2=>?_);have xx:=AS d1.at_.1;simp only[gB1,↓go1,go5,simprocAttr,xx,hni0,Ah s138];refine Cu ((d1.put hfr hni0).put hfr hni0) hfr hni h138 ⟨_,_,_,_,rfl⟩ (λM3 u hu e1 e2=>?_);simp only[↓go1,go3,simprocAttr];refine Ao.intro (λp hp=>by cases hp) ?_;simp only[↓go1,go2,simprocAttr];exact e1.endc ha.2.2
def W63_copy_need_out(w:Wb)(o:Oc)(s:Sc)(o2:Oc)(ho:o.nl=true->o.ops=[])(h135:BD w o [.str w.a.pa]=some (.tup [.agg (scC s),.bool true,.bool true],o,none))(hop:w.a.op=18)(nn:Int)(ra rb:Bool)(h136:R136 [.agg (scC s),.int .i64 (0)]=some (.tup [.agg [.int .i64 nn,.bool ra,.bool rb],.int .i64 0]))(at_ text:Bs)(h123:CL [.int .u8 2,.str w.a.pa,.int .i64 nn]=some (.str at_))(h137:E0 [.agg (kwC w.k),.str at_]=some (.tup [.str text,.bool false,.bool true]))(s2:Sc)(is2:Bool)(h135b:BD w o [.str w.a.ot]=some (.tup [.agg (scC s2),.bool is2,.bool false],o2,none)):W63 w o []=some (.tup [],o2,none):=by
 refine Bd ho ⟨Qa rfl,λh=>((EL h135b).2.1 rfl),λl h=>(by cases h),λi m fr t ha hfr hni hni0=>?_⟩;have s135:S63 135=some (wQ BD):=rfl;have s123:S63 123=some (Ac CL):=rfl;have s137:S63 137=some (Ac E0):=rfl;have hW:=Wt.start ha hfr;unfold dc63;have xx:=AS ha.1;unfold scC at *;unfold kwC at h137;simp only[↓go1,go2,go4,go5,simprocAttr,xx,Ah s135];refine Aw hW hfr hni h135 ⟨_,_,_,_,rfl⟩ (λM c1 c2=>?_);have xx:=AS c1.at_.1;simp only[gB1,↓go1,go5,simprocAttr,xx,hni0,An S63 136,h136,Aa s123,h123,hop];refine Ao.intro (λp hp=>by cases hp) ?_;simp only[gB1,↓go1,go5,simprocAttr,xx,hni0,Aa s137,h137,Ah s135,hop];refine Aw ((((c1.put hfr hni0).put hfr hni0).put hfr hni0).put hfr hni0) hfr hni h135b ⟨_,_,_,_,rfl⟩ (λM2 d1 d2=>?_);have xx:=AS d1.at_.1;simp only[gB1,↓go1,go5,simprocAttr];exact((d1.put hfr hni0).put hfr hni0).end0 ha.2.2
def W63_copy_out(w:Wb)(o:Oc)(s:Sc)(o2:Oc)(ol:Option (List Nat))(ho:o.nl=true->o.ops=[])(h135:BD w o [.str w.a.pa]=some (.tup [.agg (scC s),.bool true,.bool true],o,none))(hop:w.a.op=18)(nn:Int)(ra rb:Bool)(h136:R136 [.agg (scC s),.int .i64 (0)]=some (.tup [.agg [.int .i64 nn,.bool ra,.bool rb],.int .i64 0]))(at_ text:Bs)(h123:CL [.int .u8 2,.str w.a.pa,.int .i64 nn]=some (.str at_))(h137:E0 [.agg (kwC w.k),.str at_]=some (.tup [.str text,.bool false,.bool true]))(s2:Sc)(is2:Bool)(h135b:BD w o [.str w.a.ot]=some (.tup [.agg (scC s2),.bool is2,.bool true],o,none))(h138:W138 w o [.str w.a.ot,.agg (scC s2),.int .i64 (-1),.str []]=some (.tup [],o2,ol)):W63 w o []=some (.tup [],o2,ol.map (·++[102])):=by
 refine Bd ho ⟨Qa rfl,λh=>CC h138 h,λl h=>CB h138 h,λi m fr t ha hfr hni hni0=>?_⟩;have s135:S63 135=some (wQ BD):=rfl;have s123:S63 123=some (Ac CL):=rfl;have s137:S63 137=some (Ac E0):=rfl;have s138:S63 138=some (wQ W138):=rfl;have hW:=Wt.start ha hfr;unfold dc63;have xx:=AS ha.1;unfold scC at *;unfold kwC at h137;simp only[↓go1,go2,go4,go5,simprocAttr,xx,Ah s135];refine Aw hW hfr hni h135 ⟨_,_,_,_,rfl⟩ (λM c1 c2=>?_);have xx:=AS c1.at_.1;simp only[gB1,↓go1,go5,simprocAttr,xx,hni0,An S63 136,h136,Aa s123,h123,hop];refine Ao.intro (λp hp=>by cases hp) ?_;simp only[gB1,↓go1,go5,simprocAttr,xx,hni0,Aa s137,h137,Ah s135,hop];refine Aw ((((c1.put hfr hni0).put hfr hni0).put hfr hni0).put hfr hni0) hfr hni h135b ⟨_,_,_,_,rfl⟩ (λM2 d1 d2=>?_);have xx:=AS d1.at_.1;simp only[gB1,↓go1,go5,simprocAttr,xx,hni0,Ah s138];refine Cu ((d1.put hfr hni0).put hfr hni0) hfr hni h138 ⟨_,_,_,_,rfl⟩ (λM3 u hu e1 e2=>?_);simp only[↓go1,go3,simprocAttr];refine Ao.intro (λp hp=>by cases hp) ?_;simp only[↓go1,go2,simprocAttr];exact e1.endc ha.2.2
end Go.Vd
namespace Go.Vd
open Go.Proofs
def dc230:=y0 f230 [] []
def fn230:Fn Qc 230 9 dc230 [.t 2]:=Am func230
def dc125:=y0 f125 [] []
def fn125:Fn Qc 125 9 dc125 [.t 2]:=Am func125
end Go.Vd
namespace Go.Proofs
open Go.Shelf
def lays105_ren:Go.Shelf.Ren:=⟨λ|105=>124|212=>224|99=>225|165=>226|166=>227|170=>228|169=>229|263=>321|264=>322|206=>323|240=>324|241=>325|276=>370|277=>371|n=>n,λ|9=>9|3=>3|4=>4|20=>20|0=>0|46=>137|109=>318|5=>5|72=>322|76=>326|51=>392|146=>398|53=>394|148=>400|70=>320|37=>264|75=>325|127=>402|164=>439|80=>216|n=>n,λ|n=>n⟩
def lays105:Go.Proofs.Lays.n105 Qc lays105_ren:={
 mixed:=by kernel_rfl
 f99:=func225.trans (congrArg some (by kernel_rfl))
 f105:=func124.trans (congrArg some (by kernel_rfl))
 f165:=func226.trans (congrArg some (by kernel_rfl))
 f166:=func227.trans (congrArg some (by kernel_rfl))
 f169:=func229.trans (congrArg some (by kernel_rfl))
 f170:=func228.trans (congrArg some (by kernel_rfl))
 f206:=func323.trans (congrArg some (by kernel_rfl))
 f212:=func224.trans (congrArg some (by kernel_rfl))
 f240:=func324.trans (congrArg some (by kernel_rfl))
 f241:=func325.trans (congrArg some (by kernel_rfl))
 f263:=func321.trans (congrArg some (by kernel_rfl))
 f264:=func322.trans (congrArg some (by kernel_rfl))
 f276:=func370.trans (congrArg some (by kernel_rfl))
 f277:=func371.trans (congrArg some (by kernel_rfl))
 t0:=underlying0
 a0:=isAgg0
 z0:=sizeOf0
 v0:=zeroValue0
 t3:=underlying3
 a3:=isAgg3
 z3:=sizeOf3
 v3:=zeroValue3
 t4:=underlying4
 a4:=isAgg4
 z4:=sizeOf4
 v4:=zeroValue4
 t5:=underlying5
 a5:=isAgg5
 z5:=sizeOf5
 v5:=zeroValue5
 t9:=underlying9
 a9:=isAgg9
 z9:=sizeOf9
 v9:=zeroValue9
 t20:=underlying20
 a20:=isAgg20
 z20:=sizeOf20
 v20:=zeroValue20
 t37:=underlying264
 a37:=isAgg264
 z37:=sizeOf264
 v37:=zeroValue264
 t46:=underlying137
 a46:=isAgg137
 z46:=sizeOf137
 v46:=zeroValue137
 t51:=underlying392
 a51:=isAgg392
 z51:=sizeOf392
 v51:=zeroValue392
 t53:=underlying394
 a53:=isAgg394
 z53:=sizeOf394
 v53:=zeroValue394
 t70:=underlying320
 a70:=isAgg320
 z70:=sizeOf320
 v70:=zeroValue320
 t72:=underlying322
 a72:=isAgg322
 z72:=sizeOf322
 v72:=zeroValue322
 t75:=underlying325
 a75:=isAgg325
 z75:=sizeOf325
 v75:=zeroValue325
 t76:=underlying326
 a76:=isAgg326
 z76:=sizeOf326
 v76:=zeroValue326
 t109:=underlying318
 a109:=isAgg318
 z109:=sizeOf318
 v109:=zeroValue318
 t127:=underlying402
 a127:=isAgg402
 z127:=sizeOf402
 v127:=zeroValue402
 t146:=underlying398
 a146:=isAgg398
 z146:=sizeOf398
 v146:=zeroValue398
 t148:=underlying400
 a148:=isAgg400
 z148:=sizeOf400
 v148:=zeroValue400
 t164:=underlying439
 a164:=isAgg439
 z164:=sizeOf439
 v164:=zeroValue439}
def Builder_Extra_105:Builder.Extra Qc lays105_ren:={
 sizeBuilder:=by kernel_rfl
 liesBuilder:=by kernel_rfl
 t5:=underlying5
 a5:=isAgg5
 z5:=sizeOf5
 v5:=zeroValue5
 infoByte:=by kernel_rfl
 cellsByte:=by kernel_rfl
 sizeByte:=by kernel_rfl
 neB5:=by decide}
end Go.Proofs
namespace Go.Vd
open Go.Proofs Go.RowKit
def mayB(t:Int):Bool:=decide (1<=t∧t<=6)
def lenK(t:Int):Int:=if mayB t=true then 1+t*16 else 0
def S230:Summs:=AF []
def R230:List D->Option D:=RF S230 dc230 [.t 2] 9
def ko230:(Ac R230).ok Qc 230:=AH fn230 Ad
def R230_eq(t:Int):R230 [.int .i64 t]=some (.bool (mayB t)):=by
 refine AG (Qa rfl) ?_;unfold dc230;unfold mayB;by_cases c:1<=t
 ·have c':((1:Int)<=t)=True:=eq_true c;simp only[↓go1,gB2,go5,simprocAttr,c']
  all_goals first|rfl|exact⟨rfl,rfl⟩|simp[*]
 ·have c':((1:Int)<=t)=False:=eq_false c;simp only[↓go1,gB2,go5,simprocAttr,c']
  all_goals first|rfl|exact⟨rfl,rfl⟩|simp[*]
def S125:Summs:=AF [(230,Ac R230)]
def R125:List D->Option D:=RF S125 dc125 [.t 2] 9
def ko125:(Ac R125).ok Qc 125:=AH fn125 (Ab ko230 Ad)
def R125_eq(t:Int):R125 [.int .i64 t]=some (.int .i64 (lenK t)):=by
 refine AG (Qa rfl) ?_;unfold dc125;have h230:=R230_eq t;unfold lenK;cases c:mayB t with
 |false=>
  rw[c]at h230;simp only[↓go1,gB2,go5,simprocAttr,An S125 230,h230]
  all_goals first|rfl|exact⟨rfl,rfl⟩|simp[*]
 |true=>
  have hb:1<=t∧t<=6:=by simpa[mayB]using c
  have w1:IntKind.i64.wrap (t*16)=t*16:=w64 (by omega) (by omega);have w2:IntKind.i64.wrap (1+t*16)=1+t*16:=w64 (by omega) (by omega);rw[c]at h230;simp only[↓go1,gB2,go5,simprocAttr,An S125 230,h230,w1,w2]
  all_goals first|rfl|exact⟨rfl,rfl⟩|simp[*]
def RP:List D->Option D
 |[.str s,.int .i64 c]=>if 0<=c∧c<=1000000∧s.length*c.toNat<=1000000 then some (.str (Lib.repeatL s c.toNat))else none
 |_=>none
def ko124:(Ac RP).ok Qc 124:=pure_ok ⟨_,func124,by kernel_rfl,by kernel_rfl⟩ λds r h=>by
 unfold RP at h;split at h
 ·rename_i s c;split at h
  ·rename_i hc;simp only[Qm]at h;subst h;refine⟨λd hd=>?_,_,λw g=> .str _,λw=>?_⟩
   ·simp only[Qx,Zb,or_false]at hd;rcases hd with rfl|rfl<;>rfl
   ·have h0:=Go.Proofs.Any.strings_Repeat lays105 Builder_Extra_105 ⟨s.toArray⟩ c.toNat w (by omega) (by show s.toArray.size*_<=_;simp only[List.size_toArray];omega);rw[QN hc.1]at h0;refine h0.mono ?_;rintro e w' ⟨rfl,hb⟩;exact⟨rfl,hb⟩
  ·cases h
 ·cases h
def RP_eq{s:Bs}{c:Int}(h:0<=c∧c<=1000000∧s.length*c.toNat<=1000000):RP [.str s,.int .i64 c]=some (.str (Lib.repeatL s c.toNat)):=if_pos h
def rotO(o:Oc)(te:Int):Oc:={({o with vw:={o.vw with te:=te+1}}:Oc).op 1 (Bn 5 [] 0) (Lib.repeatL [0] (lenK (te+1)).toNat)with rep:=ryT .done}
def S57:Summs:=AF [(54,wQ W54),(123,Ac CL),(125,Ac R125),(124,Ac RP),(122,wQ FH),(56,wQ W56)]
def W57:Wb->Oc->List D->Option WY:=RW S57 dc57 [] 34
def ko57:(wQ W57).ok Qc 57:=Df fn57 (Ab ko54 (Ab ko123 (Ab ko125 (Ab ko124 (Ab ko122 (Ab ko56 Ad))))))
def W57_fail(w:Wb)(o:Oc)(o2:Oc)(ol:Option (List Nat))(ho:o.nl=true->o.ops=[])(ht:6<=w.v.te)(h54:W54 w o [.int .i64 19]=some (.tup [],o2,ol)):W57 w o []=some (.tup [],o2,ol.map (·++[7])):=by
 refine Bd ho ⟨Qa rfl,λh=>CC h54 h,λl h=>CB h54 h,λi m fr t ha hfr hni hni0=>?_⟩;have s54:S57 54=some (wQ W54):=rfl;have hW:=Wt.start ha hfr;unfold dc57;have xx:=AS ha.1;simp only[↓go1,go2,go4,go5,simprocAttr,xx,eq_true ht,Ah s54];refine Aw hW hfr hni h54 ⟨_,_,_,_,rfl⟩ (λM c1 c2=>?_);simp only[↓go1,go2,simprocAttr];exact c1.endc ha.2.2
def W57_ok(w:Wb)(o:Oc)(te:Int)(h0:Oc0 o)(ht:¬6<=w.v.te)(hte:o.vw.te=te)(hb:0<=te∧te<=5):W57 w o []=some (.tup [],rotO o te,some ([11,28])):=by
 refine Bd (λ_=>h0.ops) ⟨Qa rfl,λh=>(by cases h),λl h=>(by simp only[Qm]at h;subst h;exact⟨rfl,by simp⟩),λi m fr t ha hfr hni hni0=>?_⟩;have s125:S57 125=some (Ac R125):=rfl;have s124:S57 124=some (Ac RP):=rfl;have s122:S57 122=some (wQ FH):=rfl;have s56:S57 56=some (wQ W56):=rfl;have hW:=Wt.start ha hfr;unfold dc57;have xx:=AS ha.1;have hw:IntKind.i64.wrap (te+1)=te+1:=w64 (by omega) (by omega);have h123:=CP 5 0 [] (by simp);have h125:=R125_eq (te+1);have hl:0<=lenK (te+1)∧lenK (te+1)<=1000:=by unfold lenK;split<;>omega
 have h124:=RP_eq (s:=[0]) (c:=lenK (te+1)) ⟨hl.1,by omega,by simp only[List.length_singleton];omega⟩;have h122:=DK w {o with vw:={o.vw with te:=te+1}} 1 (Bn 5 [] 0) (Lib.repeatL [0] (lenK (te+1)).toNat) (λ_=>h0.ops) (by simp only[h0.ops];simp);have h56:=W56_eq w (({o with vw:={o.vw with te:=te+1}}:Oc).op 1 (Bn 5 [] 0) (Lib.repeatL [0] (lenK (te+1)).toNat)) (λh=>by cases h);have hc:=hW.cellp (p:=26) (ys:=[.int .i64 (te+1)]) (o':={o with vw:={o.vw with te:=te+1}}) (Qa rfl) rfl rfl rfl;simp only[gB1,↓go1,go5,simprocAttr,xx,eq_false ht,hw,An S57 123,h123,Aa s125,h125,Aa s124,h124,Ah s122,hte];refine Cu hc hfr hni h122 ⟨_,_,_,_,rfl⟩ (λM u hu c1 c2=>?_);simp only[↓go1,go3,simprocAttr];refine Ao.intro ?_ ?_
 ·intro pp hpp l hl;simp only[Qx,QV,or_false]at hpp;subst hpp;exact AA hl
 simp only[↓go1,go2,go4,simprocAttr,Ah s56];refine Aw c1 hfr hni h56 ⟨_,_,_,_,rfl⟩ (λM2 d1 d2=>?_);simp only[↓go1,go2,simprocAttr];exact d1.endl (l:=[11,28]) (by simp)
end Go.Vd
namespace Go.Vd
open Go.Proofs
def dc127:=y0 f127 [] []
def fn127:Fn Qc 127 25 dc127 [.cell (some 1) 4,.t 5]:=Am func127
end Go.Vd
namespace Go.Vd
open Go.Proofs Go.RowKit
def or_ok{P:Program}{f:FuncId}{A B:List D->Option D}(hA:(Ac A).ok P f)(hB:(Ac B).ok P f):(Ac λds=>(A ds).or (B ds)).ok P f:=by
 refine⟨hA.1,λds m m' fr _=>rfl,?_⟩;intro B' w0 w m g fr ds vs r u hi hfresh hl hrep hex;have h:(Ac A).ex ds m fr=some (r,u)∨(Ac B).ex ds m fr=some (r,u):=by
  simp only[Ac]at hex ⊢;split at hex
  ·rename_i hc;simp only[hc,if_true];cases ha:A (ds.map D.un)with
   |none=>rw[ha]at hex;exact .inr hex
   |some x=>rw[ha]at hex;exact .inl hex
  ·cases hex
 rcases h with h|h
 ·obtain⟨_,_,h3⟩:=hA;exact h3 hi hfresh hl hrep h
 ·obtain⟨_,_,h3⟩:=hB;exact h3 hi hfresh hl hrep h
def growZ:Summ where
 rd:=λ_ _=>[]
 ex:=λds _ _=>match ds with
  |[.slice true _ [],.int .i64 0]=>some (.slice true [] [],[])
  |_=>none
def walk207z(w:World):Calls Qc 207 #[.slice none 0 0,.int .i64 0] w λe w'=>e= .returned (.slice none 0 0)∧w'=w:=by
 go_enter func207,ntmps207
 go_wp2
 all_goals go_ret
 all_goals exact⟨rfl,rfl⟩
def koGz:growZ.ok Qc 207:=by
 refine⟨⟨_,func207,by kernel_rfl,by kernel_rfl⟩,λds m m' fr _=>rfl,?_⟩;intro B w0 w m g fr ds vs r u hi hfresh hl hrep hex;simp only[growZ]at hex;split at hex
 ·simp only[Qm,Zu]at hex;obtain⟨rfl,rfl⟩:=hex
  match vs,hl with
  |[v0,v1],_=>
   have hr0:=hrep 0 _ v0 rfl rfl;have hr1:=(hrep 1 _ v1 rfl rfl).int_inv;subst hr1;have e0:v0= .slice none 0 0:=by
    rcases hr0.slice_inv with ⟨_,_,e⟩|⟨h,_⟩
    ·exact e
    ·cases h
   subst e0;refine(walk207z w).mono ?_;rintro ev w' ⟨rfl,hw⟩;subst hw;have hb:=Below.refl w'.heap.size w';exact⟨_,g.over w' w',rfl,hi.over hb,Ext.over hi.gz hb,.nils _,λi hf _=>hf⟩
 ·cases hex
def S106z:Summs:=AF [(207,growZ)]
def R106z:List D->Option D:=RF S106z (F6 9 124 3 32 207) [.t 2] 36
def ko106z:(Ac R106z).ok Qc 106:=AH fn106' (Ab koGz Ad)
def growZ_ex{m:Mem}{fr:Id}:growZ.ex [.slice true [] [],.int .i64 0] m fr=some (.slice true [] [],[]):=rfl
def R106z_eq{t:Id}:R106z [.slice false [] [.slice false [] [],.slice false [] []]]=some (.slice true [] []):=by
 refine AG (Qa rfl) ?_;have s207:S106z 207=some growZ:=rfl;have w0:IntKind.i64.wrap 0=0:=rfl;have w1:IntKind.i64.wrap 1=1:=rfl;have w2:IntKind.i64.wrap 2=2:=rfl;have y0:((0:Nat):Int)=0:=rfl;have y1:((1:Nat):Int)=1:=rfl;have y2:((2:Nat):Int)=2:=rfl;have z1:(0:Int)+1=1:=rfl;have z2:(1:Int)+1=2:=rfl;unfold F6;simp only[↓go1,go2,go5,simprocAttr,gB3];refine Ae (dcCat0.eq_1 _) ?_;simp only[↓go1,gB2,go5,simprocAttr,y0,w0,w1,z1,Int.toNat_zero,gB3];refine Ae (dcCat0.eq_1 _) ?_;simp only[↓go1,gB2,go5,simprocAttr,y0,w0,w2,z2,Int.toNat_one,gB3];refine Ae (dcCat0.eq_1 _) ?_;simp only[↓go1,gB2,go5,simprocAttr,Ah s207,growZ_ex,gB3];refine Ae (dcCat1.eq_1 _ _ _) ?_;simp only[↓go1,gB2,go5,simprocAttr,w1,z1,Int.toNat_zero,gB3];refine Ae (dcCat1.eq_1 _ _ _) ?_;simp only[↓go1,gB2,go5,simprocAttr,w2,z2,Int.toNat_one,gB3];refine Ae (dcCat1.eq_1 _ _ _) ?_;simp only[↓go1,gB2,go5,simprocAttr]
 all_goals first|rfl|exact⟨rfl,rfl⟩
def remL(l:List Mt)(p:Bs):List Mt:=l.take (B0 l p).toNat++l.drop ((B0 l p).toNat+1)
def F106u:List D->Option D:=λds=>(Fcat3 ds).or (R106z ds)
def ko106u:(Ac F106u).ok Qc 106:=or_ok (ok106 ok207) ko106z
def F106u_eq{a b:List Mt}(h:a.length+b.length<=1000):F106u [.slice false [] [.slice false [] (Ar a),.slice false [] (Ar b)]]=some (.slice (decide (a++b=[])) [] (Ar (a++b))):=by
 by_cases c:a++b=[]
 ·obtain⟨rfl,rfl⟩:=Zl.1 c;unfold F106u;rw[show Ar []=[]from rfl,R106z_eq (t:=[])];rfl
 ·have h1:Fcat3 [.slice false [] [.slice false [] (Ar a),.slice false [] (Ar b)]]=some (.slice false [] (Ar (a++b))):=by
   have e:EE [D.slice false [] (Ar a),D.slice false [] (Ar b)]=some (Ar (a++b)):=by simp[EE,Ar]
   have hp:0<(a++b).length:=List.length_pos_iff.2 c;unfold Fcat3;simp only[e];rw[if_pos ⟨by simp,by rw[Av];exact hp,by rw[Av,Qt];omega,mtsD_sz _⟩]
  unfold F106u;rw[h1,decide_eq_false c];rfl
def S127:Summs:=AF [(103,Ac F103),(106,Ac F106u)]
def R127:List D->Option D:=RF S127 dc127 [.cell (some 1) 4,.t 5] 25
def ko127:(Ac R127).ok Qc 127:=AH fn127 (Ab ok103 (Ab ko106u Ad))
def R127_no(nl:Bool)(l:List Mt)(p:Bs)(hl:l.length<=1000)(hf:B0 l p<0):R127 [.agg [.slice nl [] (Ar l)],.str p]=some (.tup [.agg [.slice nl [] (Ar l)],.int .i64 14]):=by
 refine AG (Qa rfl) ?_;have s106:S127 106=some (Ac F106u):=rfl;unfold dc127;have h103:=F103_eq (nl:=nl) (t:=[]) (l:=l) (p:=p) (by omega);simp only[gB1,↓go1,go5,simprocAttr,An S127 103,h103,eq_true hf]
 all_goals first|rfl|exact⟨rfl,rfl⟩|simp[*]
def R127_yes(nl:Bool)(l:List Mt)(p:Bs)(hl:l.length<=1000)(hn:nl=true->l=[])(hf:¬B0 l p<0)(hi:(B0 l p).toNat<l.length):R127 [.agg [.slice nl [] (Ar l)],.str p]=some (.tup [.agg [.slice (decide (remL l p=[])) [] (Ar (remL l p))],.int .i64 0]):=by
 refine AG (Qa rfl) ?_;have s106:S127 106=some (Ac F106u):=rfl;unfold dc127;have h103:=F103_eq (nl:=nl) (t:=[]) (l:=l) (p:=p) (by omega);have hnl:nl=false:=by
  cases nl with
  |false=>rfl
  |true=>rw[hn rfl]at hi;simp at hi
 subst hnl;unfold remL;generalize B0 l p=q at *;have hq:(0:Int)<=q:=by omega
 have e1:((q.toNat:Nat):Int)=q:=QN hq;have hw:IntKind.i64.wrap (q+1)=q+1:=w64 (by omega) (by omega);have e2:(q+1).toNat=q.toNat+1:=by omega
 have h106:=F106u_eq (a:=l.take q.toNat) (b:=l.drop (q.toNat+1)) (by rw[QB,Q5];omega);have hd:D.headSz (Ar l) 3=3:=by cases l<;>rfl
 have b1:q.toNat<=l.length:=by omega
 have b2:q.toNat+1<=l.length:=by omega
 have i1:(q<=(l.length:Int))=True:=eq_true (by omega);have i2:(q+1<=(l.length:Int))=True:=eq_true (by omega);have b3:(0:Int)<=q+1:=by omega
 have m1:List.take q.toNat (Ar l)=Ar (l.take q.toNat):=(ZK ..).symm;have m2:List.drop (q.toNat+1) (Ar l)=Ar (l.drop (q.toNat+1)):=(ZL ..).symm;have m3:List.take (l.length-(q.toNat+1)) (Ar (l.drop (q.toNat+1)))=Ar (l.drop (q.toNat+1)):=Qw (by rw[Av,Q5];omega);simp only[gB1,↓go1,go5,simprocAttr,An S127 103,h103,eq_false hf,hw,Av,hq,e2,hd,b3,i1,i2,Qs,m1,m2,m3,QF,Aa s106,h106];refine Ao.intro (λp hp=>by cases hp) ?_;simp only[gB1,↓go1,go5,simprocAttr]
 all_goals first|rfl|exact⟨rfl,rfl⟩|simp[*]
def EZ(a:Ak):(akC a)[0]?=some (.int .u8 a.op):=rfl
def ak_g2(a:Ak):(akC a)[2]?=some (.str a.pa):=rfl
def ak_g3(a:Ak):(akC a)[3]?=some (.str a.ot):=rfl
def ak_g10(a:Ak):(akC a)[10]?=some (.str a.key):=rfl
def EJ(v:Vw):(vwC v)[0]?=some (.bool v.se):=rfl
def vw_g2(v:Vw):(vwC v)[2]?=some (.str v.key):=rfl
def vw_g3(v:Vw):(vwC v)[3]?=some (.slice v.nlm [] (Ar v.ms)):=rfl
def rdC0{m:Mem}{v:Vw}{a:Ak}:Ag ((m.put [0] 0 (vwC v)).put [1] 0 (akC a)) [0] 0 5=some (vwC v):=by
 rw[AJ (by decide),AO (BI v)]
def rdCA{m:Mem}{a:Ak}:Ag (m.put [1] 0 (akC a)) [1] 0 11=some (akC a):=AO (Ba a)
def rdP0{m:Mem}{x:List D}{n:Nat}:Ag (m.put [14] 0 x) [0] 0 n=Ag m [0] 0 n:=AJ (by decide)
open Classical in
def F158_eq{nl:Bool}{l:List Mt}{p:Bs}(hl:l.length<=1000000):F158 [.agg [.slice nl [] (Ar l)],.str p]=some (.tup (if B0 l p<0 then [mtD ([],0,false),.int .i64 14]else [mtD (A0 l (B0 l p).toNat),.int .i64 0])):=by
 have h:Ar l=Ar (BU (Ar l))∧(Ar l).length<=1000000:=by rw[Bc,Av];exact⟨rfl,hl⟩
 show(if _ then _ else _)=_;rw[if_pos h,Bc]
open Classical in
def F159_eq{v:Vw}{p:Bs}(hl:v.ms.length<=1000000):F159 [vwD v,.str p]=some (.bool (decide (Cw v.ms p≠-1))):=by
 have h:Ar v.ms=Ar (BU (Ar v.ms))∧(Ar v.ms).length<=1000000:=by rw[Bc,Av];exact⟨rfl,hl⟩
 show(if _ then _ else _)=_;rw[if_pos h,Bc]
def mountA(v:Vw)(a:Ak):Bool:=decide (a.op<=8)||(((decide (a.op=17)&&decide (0<=B0 v.ms a.pa))||decide (Cw v.ms a.pa≠-1))&&(decide (a.op≠18)||decide (Cw v.ms a.ot≠-1)))
def F70:List D->Option D:=FX mkVa (λp=>VwOk p.1) (λp=> .bool (mountA p.1 p.2))
def F70_eq{v:Vw}{a:Ak}(h:VwOk v):F70 [vwD v,akD a]=some (.bool (mountA v a)):=Bq (mk:=mkVa) (a:=(v,a)) mkVa_inj h
def ok70:(Ac F70).ok Qc 70:=by
 obtain⟨S,hS,hl⟩:=A6 (Ab ok156 (Ab ok158 (Ab ok159 Ad)));have s156:=hl 156 _ rfl;have s158:=hl 158 _ rfl;have s159:=hl 159 _ rfl;clear hl;refine Bx hS fn70 (λ_=>by simp[mkVa]) (λp hv=>?_);obtain⟨v,a⟩:=p;simp only at hv;have hml:=hv.ml;have h156:F156 [.int .u8 a.op]=some (.bool (decide (a.op<=8))):=rfl;have h158:=F158_eq (nl:=v.nlm) (l:=v.ms) (p:=a.pa) (by omega);have h159:∀q,F159 [.agg (vwC v),.str q]=some (.bool (decide (Cw v.ms q≠-1))):=λq=>F159_eq (by omega)
 have h159a:=h159 a.pa;have h159b:=h159 a.ot;unfold dc70 mkVa vwD akD mountA;simp only;by_cases h8:a.op<=8
 ·rw[decide_eq_true h8]at h156;simp only[↓go1,gB2,simprocAttr,EZ,EJ,AZ,BI,AN,Ba,Qh,ne_eq,QG,Af,Qq,QX,Qh,and_self,Qd,Qi,h8,Aa s156,h156]
 ·rw[decide_eq_false h8]at h156;generalize decide (Cw v.ms a.pa≠-1)=b1 at h159a ⊢;generalize decide (Cw v.ms a.ot≠-1)=b2 at h159b ⊢;generalize B0 v.ms a.pa=fi at h158 ⊢;clear h159;by_cases h17:a.op=17
  ·have h17':(a.op=17)=True:=eq_true h17;have h18':(a.op=18)=False:=eq_false (by omega);clear h17;by_cases hf:fi<0
   ·have hf':¬0<=fi:=by omega
    rw[if_pos hf]at h158;cases b1<;>simp only[↓go1,gB0,simprocAttr,EZ,ak_g2,ak_g3,EJ,vw_g2,vw_g3,D_,rdP0,AO,rdC0,Cv,Ci,AZ,BI,AN,Ba,ne_eq,QG,Q8,QH,ZF,Af,Qb,Qk,Qd,Qu,Qi,h8,hf',h17',h18',Aa s156,h156,Aa s158,h158,Aa s159,h159a,mtD]
   ·have hf':0<=fi:=by omega
    rw[if_neg hf]at h158;generalize A0 v.ms fi.toNat=mt at h158;simp only[↓go1,gB0,simprocAttr,EZ,ak_g2,ak_g3,EJ,vw_g2,vw_g3,D_,AO,AZ,BI,AN,Ba,ne_eq,QG,QH,Af,Qb,Qk,Qd,Qu,Qi,h8,hf',h17',h18',Aa s156,h156,Aa s158,h158,mtD]
  ·have h17':(a.op=17)=False:=eq_false h17;obtain⟨mt,e,he⟩:∃(mt:Mt)(e:Int),F158 [.agg [.slice v.nlm [] (Ar v.ms)],.str a.pa]=some (.tup [mtD mt,.int .i64 e]):=by
    rw[h158];split
    ·exact⟨_,_,rfl⟩
    ·exact⟨_,_,rfl⟩
   clear h158;by_cases h18:a.op=18
   ·have h18':(a.op=18)=True:=eq_true h18;clear h18 h17;cases b1<;>cases b2<;>simp only[↓go1,gB0,simprocAttr,EZ,ak_g2,ak_g3,EJ,vw_g2,vw_g3,D_,rdP0,AO,rdC0,Cv,Ci,AZ,BI,AN,Ba,ne_eq,Zs,Q8,QH,ZF,Af,Qb,Qk,Qd,Qu,and_false,Qi,h8,h17',h18',Aa s156,h156,Aa s158,he,Aa s159,h159a,h159b,mtD]
   ·have h18':(a.op=18)=False:=eq_false h18;clear h18 h17;cases b1<;>simp only[↓go1,gB0,simprocAttr,EZ,ak_g2,ak_g3,EJ,vw_g2,vw_g3,D_,rdP0,AO,rdC0,Cv,Ci,AZ,BI,AN,Ba,ne_eq,Zs,QG,Q8,QH,Af,Qb,Qk,Qd,Qu,Qi,h8,h17',h18',Aa s156,h156,Aa s158,he,Aa s159,h159a,mtD]
def Ds(v:Vw)(a:Ak):Int:=if Cf a≠0 then Cf a else if a.op=1 then 0 else if a.op=2 then(if v.se=false then 9 else if a.key≠v.key then 11 else 0)else if v.se=true then 12 else if permA v a=false then 13 else if mountA v a=false then 14 else 0
def F25:List D->Option D:=FX mkVa (λp=>VwOk p.1∧AkOk p.2) (λp=> .int .i64 (Ds p.1 p.2))
def F25_eq{v:Vw}{a:Ak}(h:VwOk v)(h2:AkOk a):F25 [vwD v,akD a]=some (.int .i64 (Ds v a)):=Bq (mk:=mkVa) (a:=(v,a)) mkVa_inj ⟨h,h2⟩
def ok25:(Ac F25).ok Qc 25:=by
 obtain⟨S,hS,hl⟩:=A6 (Ab ok68 (Ab ok69 (Ab ok70 Ad)));have s68:=hl 68 _ rfl;have s69:=hl 69 _ rfl;have s70:=hl 70 _ rfl;clear hl;refine Bx hS fn25 (λ_=>by simp[mkVa]) (λp hp=>?_);obtain⟨v,a⟩:=p;obtain⟨hv,ha⟩:=hp;simp only at hv ha;have h68:F68 [.agg (akC a)]=some (.int .i64 (Cf a)):=F68_eq ha;have h69:F69 [.agg (vwC v),.agg (akC a)]=some (.bool (permA v a)):=F69_eq hv;have h70:F70 [.agg (vwC v),.agg (akC a)]=some (.bool (mountA v a)):=F70_eq hv;unfold dc25 mkVa vwD akD Ds;simp only;generalize Cf a=e at h68 ⊢;generalize permA v a=b1 at h69 ⊢;generalize mountA v a=b2 at h70 ⊢;by_cases he:e=0
 ·subst he;by_cases h1:a.op=1
  ·have h1':(a.op=1)=True:=eq_true h1;clear h1;simp only[↓go1,gB2,simprocAttr,EZ,EJ,rdCA,AZ,BI,B4,B5,AN,Ba,Qh,ne_eq,Af,Qq,QX,Qh,and_self,Qd,Qi,h1',Aa s68,h68]
  ·have h1':(a.op=1)=False:=eq_false h1;by_cases h2:a.op=2
   ·have h2':(a.op=2)=True:=eq_true h2;clear h1 h2;cases hse:v.se with
    |false=>
     simp only[↓go1,gB2,simprocAttr,EZ,EJ,rdCA,AZ,BI,B4,B5,AN,Ba,Qh,ne_eq,Af,Qq,QX,Qh,and_self,Qd,Qu,Qi,h1',h2',hse,Aa s68,h68]
    |true=>
     by_cases hk:a.key=v.key
     ·have hk':(a.key=v.key)=True:=eq_true hk;have hk2:(a.key==v.key)=true:=by rw[hk];simp
      clear hk;simp only[↓go1,gB2,simprocAttr,EZ,ak_g2,ak_g10,EJ,vw_g2,rdCA,AZ,BI,B4,B5,AN,Ba,Qh,ne_eq,Af,Qq,QX,Qh,and_self,Qd,Qu,and_false,Qi,h1',h2',hse,hk',Aa s68,h68]
     ·have hk':(a.key=v.key)=False:=eq_false hk;have hk2:(a.key==v.key)=false:=by simpa using hk
      clear hk;simp only[↓go1,gB2,simprocAttr,EZ,ak_g2,ak_g10,EJ,vw_g2,rdCA,AZ,BI,B4,B5,AN,Ba,Qh,ne_eq,Af,Qq,QX,Qh,and_self,Qd,Qu,and_false,Qi,h1',h2',hse,hk',Aa s68,h68]
   ·have h2':(a.op=2)=False:=eq_false h2;clear h1 h2;cases hse:v.se with
    |true=>
     simp only[↓go1,gB2,simprocAttr,EZ,EJ,rdCA,AZ,BI,B4,B5,AN,Ba,Qh,ne_eq,Af,Qq,QX,Qh,and_self,Qd,Qu,Qi,h1',h2',hse,Aa s68,h68]
    |false=>
     cases b1 with
     |false=>
      simp only[↓go1,gB2,simprocAttr,EZ,EJ,rdCA,rdC0,Cv,Ci,AZ,BI,B4,B5,AN,Ba,Qh,ne_eq,Af,Qq,QX,Qh,and_self,Qd,Qu,Qi,h1',h2',hse,Aa s68,h68,Aa s69,h69]
     |true=>
      cases b2<;>simp only[↓go1,gB2,simprocAttr,EZ,EJ,rdCA,rdC0,Cv,Ci,AZ,BI,B4,B5,AN,Ba,Qh,ne_eq,Af,Qq,QX,Qh,and_self,Qd,Qu,Qi,h1',h2',hse,Aa s68,h68,Aa s69,h69,Aa s70,h70]
 ·simp only[↓go1,gB2,simprocAttr,rdCA,AZ,B4,B5,AN,Qh,ne_eq,Qh,and_self,he,Aa s68,h68]
end Go.Vd
namespace Go.Vd
open Go.Proofs
def dc43l0:=y1 f43 4 [] []
def dc43:=y0 f43 [] [(4,dc43l0)]
def fn43:Fn Qc 43 38 dc43 [.t 2]:=Am func43
def dc15l0:=y1 f15 4 [] []
def dc15:=y0 f15 [] [(4,dc15l0)]
def fn15:Fn Qc 15 35 dc15 [.t 2]:=Am func15
def dc16:=y0 f16 [] []
def fn16:Fn Qc 16 43 dc16 [.t 2]:=Am func16
def dc53l0:=y1 f53 3 [] []
def dc53:=y0 f53 [] [(3,dc53l0)]
def fn53:Fn Qc 53 19 dc53 [.t 2]:=Am func53
def dc51:=y0 f51 [(1,[(6,1),(6,3)])] []
def fn51:Fn Qc 51 11 dc51 [.cell (some 3) 2]:=Am func51
def dc46:=y0 f46 [] []
def fn46:Fn Qc 46 8 dc46 [.cell (some 3) 2]:=Am func46
def dc18:=y0 f18 [(1,[(20,1),(20,3),(20,5),(20,7),(20,9),(20,11),(20,13),(20,15),(20,17),(20,22)])] []
def fn18:Fn Qc 18 27 dc18 [.cell (some 11) 2]:=Am func18
def dc17l0:=y1 f17 4 [(6,[(6,0)])] []
def dc17l1:=y1 f17 10 [(12,[(6,0)])] []
def dc17:=y0 f17 [(15,[(16,9),(16,12)])] [(4,dc17l0),(10,dc17l1)]
def fn17:Fn Qc 17 91 dc17 [.cell (some 5) 2,.cell (some 5) 3]:=Am func17
end Go.Vd
namespace Go.Vd
open Go.Proofs Go.RowKit
def bigR(r:Rl):Bool:=decide (100<r.1.length)
def overR(l:List Rl):Bool:=decide (8<l.length)||l.any bigR
def mkRl(p:Bool×List Rl):List D:=[.slice p.1 [] (Al p.2)]
def mkRl_inj(x y:Bool×List Rl)(e:mkRl x=mkRl y):x=y:=by
 simp only[mkRl,Qd,D.slice.injEq,true_and,and_true]at e;exact QJ e.1 (rlsD_inj e.2)
def oneI(b:Bool):D:= .int .i64 (if b=true then 1 else 0)
def F44:List D->Option D:=FX mkRl (λ_=>True) (λp=>oneI (overR p.2))
def F44_eq{nl:Bool}{l:List Rl}:F44 [.slice nl [] (Al l)]=some (oneI (overR l)):=Bq (mk:=mkRl) (a:=(nl,l)) mkRl_inj trivial
def loop44{S:Summs}{l:List Rl}{nl:Bool}{Q:Ex->St->Prop}(hb:l.length<=8)
  (hret:∀st,l.any bigR=true->st.s 2= .int .i64 1->Q .ret st) (hexit:∀st,l.any bigR=false->Q (.exit 0) st):
  ∀(f j:Nat) st g,l.length=j+f->(l.take j).any bigR=false->st.s 0= .slice nl [] (Al l)->st.s 3= .int .i64 (j:Int)->A4 S [] dc44l0 Q st g:=by
 intro f;induction f with
 |zero=>
  intro j st g hf ha h0 h3;refine Ae dc44l0.eq_1 ?_;have:¬((j:Int)<l.length):=by omega
  simp only[↓go1,go2,go4,simprocAttr,h0,h3,this,As];rw[Qw (by omega)]at ha;exact hexit _ ha
 |succ f ih=>
  intro j st g hf ha h0 h3;refine Ae dc44l0.eq_1 ?_;have hj:j<l.length:=by omega
  have hlt:((j:Int)<l.length):=by omega
  have hj0:=nJ (j:=j);have hw:=wJ (j:=j) (by omega);have hat:(Al l)[j]?=some (.agg [.str l[j].1,.int .u8 l[j].2]):=by simp[Al,Qe hj,rlD]
  have htk:l.take (j+1)=l.take j++[l[j]]:=by rw[QO,Qe hj];rfl
  have hmem:l[j]∈l:=QD hj;generalize l[j]=x at hat htk hmem;obtain⟨st_s,st_m,st_c⟩:=st;simp only at h0 h3;by_cases hx:100<x.1.length
  ·have hx':(100:Int)<(x.1.length:Int):=by omega
   simp only[↓go1,gB2,simprocAttr,h0,h3,hlt,hj0,Qn,hat,As,hx',Qq,gB3,Qh,Qs,QP];refine hret _ ?_ rfl;rw[Zf];exact⟨x,hmem,by simp[bigR,hx]⟩
  ·have hx':¬(100:Int)<(x.1.length:Int):=by omega
   simp only[↓go1,gB2,simprocAttr,h0,h3,hlt,hj0,hw,Qn,hat,As,hx',Qq,gB3,Qh,Qs,QP];refine ih (j+1) _ _ (by omega) ?_ h0 rfl;rw[htk,ZB,ha];simp[bigR,hx]
def ok44:(Ac F44).ok Qc 44:=by
 refine Bx (S:=λ_=>none) AK fn44 (λ_=>by simp[mkRl]) (λp _=>?_);obtain⟨nl,l⟩:=p;unfold dc44 overR mkRl;simp only;by_cases h8:8<l.length
 ·have h8':(8:Int)<(l.length:Int):=by omega
  simp only[↓go1,gB2,simprocAttr,h8',As];exact⟨by simp[oneI,h8],rfl⟩
 ·have h8':¬(8:Int)<(l.length:Int):=by omega
  simp only[↓go1,go2,go4,simprocAttr,h8',As];refine loop44 (l:=l) (nl:=nl) (by omega) (λst h1 h2=>?_) (λst h1=>?_) l.length 0 _ _ (by omega) (by simp) rfl rfl
  ·simp only[↓go1,go2,go3,h1,h2,QH]
   all_goals first|rfl|exact⟨rfl,rfl⟩
  ·simp only[↓go1,gB2,reduceIte,Qj,h1,h8,Q8]
   all_goals first|rfl|exact⟨rfl,rfl⟩
def bigT(k:Tk):Bool:=decide (40<k.1.length)||decide (40<k.2.1.length)||overR k.2.2.2
def overT(l:List Tk):Bool:=decide (12<l.length)||l.any bigT
def mkTl(p:Bool×List Tk):List D:=[.slice p.1 [] (Ax p.2)]
def mkTl_inj(x y:Bool×List Tk)(e:mkTl x=mkTl y):x=y:=by
 simp only[mkTl,Qd,D.slice.injEq,true_and,and_true]at e;exact QJ e.1 (FN e.2)
def F43:List D->Option D:=FX mkTl (λ_=>True) (λp=>oneI (overT p.2))
def F43_eq{nl:Bool}{l:List Tk}:F43 [.slice nl [] (Ax l)]=some (oneI (overT l)):=Bq (mk:=mkTl) (a:=(nl,l)) mkTl_inj trivial
def DS:oneI true= .int .i64 1:=rfl
def oneI_f:oneI false= .int .i64 0:=rfl
def loop43{S:Summs}{l:List Tk}{nl:Bool}{Q:Ex->St->Prop}(s44:S 44=some (Ac F44))(hb:l.length<=12)
  (hret:∀st,l.any bigT=true->st.s 2= .int .i64 1->Q .ret st) (hexit:∀st,l.any bigT=false->Q (.exit 0) st):
  ∀(f j:Nat) st g,l.length=j+f->(l.take j).any bigT=false->st.s 0= .slice nl [] (Ax l)->st.s 3= .int .i64 (j:Int)->A4 S [] dc43l0 Q st g:=by
 intro f;induction f with
 |zero=>
  intro j st g hf ha h0 h3;refine Ae dc43l0.eq_1 ?_;have:¬((j:Int)<l.length):=by omega
  simp only[↓go1,go2,go4,simprocAttr,h0,h3,this,AM];rw[Qw (by omega)]at ha;exact hexit _ ha
 |succ f ih=>
  intro j st g hf ha h0 h3;refine Ae dc43l0.eq_1 ?_;have hj:j<l.length:=by omega
  have hlt:((j:Int)<l.length):=by omega
  have hj0:=nJ (j:=j);have hw:=wJ (j:=j) (by omega);have hat:(Ax l)[j]?=some (.agg [.str l[j].1,.str l[j].2.1,.slice l[j].2.2.1 [] (Al l[j].2.2.2)]):=by simp[Ax,Qe hj,tkD]
  have htk:l.take (j+1)=l.take j++[l[j]]:=by rw[QO,Qe hj];rfl
  have hmem:l[j]∈l:=QD hj;generalize l[j]=x at hat htk hmem;obtain⟨x1,x2,x3,x4⟩:=x;simp only at hat;have hx4:(bigT (x1,x2,x3,x4))=(decide (40<x1.length)||decide (40<x2.length)||overR x4):=rfl;have h44:=F44_eq (nl:=x3) (l:=x4);generalize overR x4=b at h44 hx4;obtain⟨st_s,st_m,st_c⟩:=st;simp only at h0 h3;by_cases hx:40<x1.length
  ·have hx':(40:Int)<(x1.length:Int):=by omega
   simp only[↓go1,gB2,simprocAttr,h0,h3,hlt,hj0,Qn,hat,AM,Qq,gB3,Qh,Qs,QP,hx'];refine hret _ ?_ rfl;rw[Zf];exact⟨_,hmem,by rw[hx4,decide_eq_true hx];rfl⟩
  ·have hx':¬(40:Int)<(x1.length:Int):=by omega
   by_cases hy:40<x2.length
   ·have hy':(40:Int)<(x2.length:Int):=by omega
    simp only[↓go1,gB2,simprocAttr,h0,h3,hlt,hj0,Qn,hat,AM,Qq,gB3,Qh,Qs,Qz,QP,hx',hy'];refine hret _ ?_ rfl;rw[Zf];exact⟨_,hmem,by rw[hx4,decide_eq_true hy];simp⟩
   ·have hy':¬(40:Int)<(x2.length:Int):=by omega
    cases b with
    |true=>
     simp only[↓go1,gB2,simprocAttr,h0,h3,hlt,hj0,Qn,hat,AM,Aa s44,h44,DS,Qq,gB3,Qh,Qs,Qz,QP,hx',hy'];refine hret _ ?_ rfl;rw[Zf];exact⟨_,hmem,by rw[hx4];simp⟩
    |false=>
     simp only[↓go1,gB2,simprocAttr,h0,h3,hlt,hj0,hw,Qn,hat,AM,Aa s44,h44,oneI_f,Qq,gB3,Qh,Qs,Qz,QP,hx',hy'];refine ih (j+1) _ _ (by omega) ?_ h0 rfl;rw[htk,ZB,ha,List.any_cons,hx4,decide_eq_false hx,decide_eq_false hy];rfl
def ok43:(Ac F43).ok Qc 43:=by
 obtain⟨S,hS,hl⟩:=A6 (Ab ok44 Ad);have s44:=hl 44 _ rfl;clear hl;refine Bx hS fn43 (λ_=>by simp[mkTl]) (λp _=>?_);obtain⟨nl,l⟩:=p;unfold dc43 overT mkTl;simp only;by_cases h8:12<l.length
 ·have h8':(12:Int)<(l.length:Int):=by omega
  simp only[↓go1,gB2,simprocAttr,h8',AM];exact⟨by simp[oneI,h8],rfl⟩
 ·have h8':¬(12:Int)<(l.length:Int):=by omega
  simp only[↓go1,go2,go4,simprocAttr,h8',AM];refine loop43 (l:=l) (nl:=nl) s44 (by omega) (λst h1 h2=>?_) (λst h1=>?_) l.length 0 _ _ (by omega) (by simp) rfl rfl
  ·simp only[↓go1,go2,go3,h1,h2,QH]
   all_goals first|rfl|exact⟨rfl,rfl⟩
  ·simp only[↓go1,gB2,reduceIte,Qj,h1,h8,Q8]
   all_goals first|rfl|exact⟨rfl,rfl⟩
def bigM(m:Mt):Bool:=decide (200<m.1.length)
def overS(v:Vw):Bool:=decide (40<v.key.length)||decide (8<v.ms.length)||overT v.ks||v.ms.any bigM
def mkV(v:Vw):List D:=[vwD v]
def mkV_inj(x y:Vw)(e:mkV x=mkV y):x=y:=by
 simp only[mkV,Qd,and_true]at e;exact Gb e
def F15:List D->Option D:=FX mkV (λ_=>True) (λv=>oneI (overS v))
def F15_eq{v:Vw}:F15 [vwD v]=some (oneI (overS v)):=Bq (mk:=mkV) (a:=v) mkV_inj trivial
def vwP{m:Mem}{v:Vw}{k:Nat}{d:D}(hd:(vwC v)[k]?=some d):(m.put [0] 0 (vwC v)) [0] k=some d:=by
 have hk:=(QM.1 hd).1;rw[Af,if_pos ⟨rfl,Qq _,by omega⟩];exact hd
def loop15{S:Summs}{v:Vw}{Q:Ex->St->Prop}(hb:v.ms.length<=8)
  (hret:∀st,v.ms.any bigM=true->st.s 2= .int .i64 1->Q .ret st) (hexit:∀st,v.ms.any bigM=false->Q (.exit 0) st):
  ∀(f j:Nat) st g,v.ms.length=j+f->(v.ms.take j).any bigM=false->st.s 1= .ptr [0] 0->st.m [0] 3=some (.slice v.nlm [] (Ar v.ms))->st.s 3= .int .i64 (j:Int)->A4 S [] dc15l0 Q st g:=by
 intro f;induction f with
 |zero=>
  intro j st g hf ha h1 hm h3;refine Ae dc15l0.eq_1 ?_;have:¬((j:Int)<v.ms.length):=by omega
  simp only[↓go1,go2,go4,simprocAttr,h1,hm,h3,this,Av];rw[Qw (by omega)]at ha;exact hexit _ ha
 |succ f ih=>
  intro j st g hf ha h1 hm h3;refine Ae dc15l0.eq_1 ?_;have hj:j<v.ms.length:=by omega
  have hlt:((j:Int)<v.ms.length):=by omega
  have hj0:=nJ (j:=j);have hw:=wJ (j:=j) (by omega);have hat:(Ar v.ms)[j]?=some (.agg [.str v.ms[j].1,.int .i64 v.ms[j].2.1,.bool v.ms[j].2.2]):=by simp[Ar,Qe hj,mtD]
  have htk:v.ms.take (j+1)=v.ms.take j++[v.ms[j]]:=by rw[QO,Qe hj];rfl
  have hmem:v.ms[j]∈v.ms:=QD hj;generalize v.ms[j]=x at hat htk hmem;obtain⟨st_s,st_m,st_c⟩:=st;simp only at h1 hm h3;by_cases hx:200<x.1.length
  ·have hx':(200:Int)<(x.1.length:Int):=by omega
   simp only[↓go1,gB2,simprocAttr,h1,hm,h3,hlt,hj0,Qn,hat,Av,hx',Qq,gB3,Qh,Qs,QP];refine hret _ ?_ rfl;rw[Zf];exact⟨x,hmem,by simp[bigM,hx]⟩
  ·have hx':¬(200:Int)<(x.1.length:Int):=by omega
   simp only[↓go1,gB2,simprocAttr,h1,hm,h3,hlt,hj0,hw,Qn,hat,Av,hx',Qq,gB3,Qh,Qs,QP];refine ih (j+1) _ _ (by omega) ?_ h1 hm rfl;rw[htk,ZB,ha];simp[bigM,hx]
def ok15:(Ac F15).ok Qc 15:=by
 obtain⟨S,hS,hl⟩:=A6 (Ab ok43 Ad);have s43:=hl 43 _ rfl;clear hl;refine Bx hS fn15 (λ_=>by simp[mkV]) (λv _=>?_);have h43:=F43_eq (nl:=v.nlt) (l:=v.ks);have m2:=λm:Mem=>vwP (m:=m) (v:=v) (k:=2) rfl
 have m3:=λm:Mem=>vwP (m:=m) (v:=v) (k:=3) rfl
 have m4:=λm:Mem=>vwP (m:=m) (v:=v) (k:=4) rfl
 unfold dc15 overS mkV vwD;generalize overT v.ks=b at h43;by_cases h1:40<v.key.length
 ·have h1':(40:Int)<(v.key.length:Int):=by omega
  simp only[↓go1,gB2,simprocAttr,m2,AZ,DS,QG,h1',h1]
  all_goals first|rfl|exact⟨rfl,rfl⟩
 ·have h1':¬(40:Int)<(v.key.length:Int):=by omega
  by_cases h2:8<v.ms.length
  ·have h2':(8:Int)<(v.ms.length:Int):=by omega
   simp only[↓go1,gB2,simprocAttr,m2,m3,Av,AZ,DS,QG,QH,h1',h1,h2',h2]
   all_goals first|rfl|exact⟨rfl,rfl⟩
  ·have h2':¬(8:Int)<(v.ms.length:Int):=by omega
   cases b with
   |true=>
    simp only[↓go1,gB2,simprocAttr,m2,m3,m4,h43,Aa s43,Av,AZ,DS,QG,QH,Q4,h1',h1,h2',h2]
    all_goals first|rfl|exact⟨rfl,rfl⟩
   |false=>
    simp only[↓go1,gB2,simprocAttr,m2,m3,m4,h43,Aa s43,Av,AZ,oneI_f,h1',h2'];refine loop15 (v:=v) (by omega) (λst h3 h4=>?_) (λst h3=>?_) v.ms.length 0 _ _ (by omega) (by simp) rfl (m3 (λ_ _=>none)) rfl
    ·simp only[↓go1,go2,go3,h3,h4,QH]
     all_goals first|rfl|exact⟨rfl,rfl⟩
    ·simp only[↓go1,gB2,reduceIte,Qj,h3,h1,h2,Q8]
     all_goals first|rfl|exact⟨rfl,rfl⟩
def overA(a:Ak):Bool:=decide (100<a.tk.length)||decide (200<a.pa.length)||decide (200<a.ot.length)||decide (20<a.ns.length)||decide (300<a.da.length)||overR a.rs||decide (100<a.key.length)
def mkA(a:Ak):List D:=[akD a]
def mkA_inj(x y:Ak)(e:mkA x=mkA y):x=y:=by
 simp only[mkA,Qd,and_true]at e;exact EF e
def akP{m:Mem}{a:Ak}{k:Nat}{d:D}(hd:(akC a)[k]?=some d):(m.put [0] 0 (akC a)) [0] k=some d:=by
 have hk:=(QM.1 hd).1;rw[Af,if_pos ⟨rfl,Qq _,by omega⟩];exact hd
def F16:List D->Option D:=FX mkA (λ_=>True) (λa=>oneI (overA a))
def F16_eq{a:Ak}:F16 [akD a]=some (oneI (overA a)):=Bq (mk:=mkA) (a:=a) mkA_inj trivial
def ok16:(Ac F16).ok Qc 16:=by
 obtain⟨S,hS,hl⟩:=A6 (Ab ok44 Ad);have s44:=hl 44 _ rfl;clear hl;refine Bx hS fn16 (λ_=>by simp[mkA]) (λa _=>?_);have h44:=F44_eq (nl:=a.nlr) (l:=a.rs);have m1:=λm:Mem=>akP (m:=m) (a:=a) (k:=1) rfl
 have m2:=λm:Mem=>akP (m:=m) (a:=a) (k:=2) rfl
 have m3:=λm:Mem=>akP (m:=m) (a:=a) (k:=3) rfl
 have m7:=λm:Mem=>akP (m:=m) (a:=a) (k:=7) rfl
 have m8:=λm:Mem=>akP (m:=m) (a:=a) (k:=8) rfl
 have m9:=λm:Mem=>akP (m:=m) (a:=a) (k:=9) rfl
 have m10:=λm:Mem=>akP (m:=m) (a:=a) (k:=10) rfl
 have q1:((100:Int)<(a.tk.length:Int))=(100<a.tk.length):=propext (by omega);have q2:((200:Int)<(a.pa.length:Int))=(200<a.pa.length):=propext (by omega);have q3:((200:Int)<(a.ot.length:Int))=(200<a.ot.length):=propext (by omega);have q4:((20:Int)<(a.ns.length:Int))=(20<a.ns.length):=propext (by omega);have q5:((300:Int)<(a.da.length:Int))=(300<a.da.length):=propext (by omega);have q6:((100:Int)<(a.key.length:Int))=(100<a.key.length):=propext (by omega);unfold dc16 overA mkA akD;generalize overR a.rs=b at h44;by_cases h1:100<a.tk.length
 ·simp only[↓go1,gB2,simprocAttr,m1,q1,AN,DS,QG,h1]
  all_goals first|rfl|exact⟨rfl,rfl⟩
 by_cases h2:200<a.pa.length
 ·simp only[↓go1,gB2,simprocAttr,m1,m2,q1,q2,AN,DS,QG,QH,h1,h2]
  all_goals first|rfl|exact⟨rfl,rfl⟩
 by_cases h3:200<a.ot.length
 ·simp only[↓go1,gB2,simprocAttr,m1,m2,m3,q1,q2,q3,AN,DS,QG,QH,Q4,h1,h2,h3]
  all_goals first|rfl|exact⟨rfl,rfl⟩
 by_cases h4:20<a.ns.length
 ·simp only[↓go1,gB2,simprocAttr,m1,m2,m3,m7,q1,q2,q3,q4,Cb,AN,DS,QG,QH,Q4,h1,h2,h3,h4]
  all_goals first|rfl|exact⟨rfl,rfl⟩
 by_cases h5:300<a.da.length
 ·simp only[↓go1,gB2,simprocAttr,m1,m2,m3,m7,m8,q1,q2,q3,q4,q5,Cb,AN,DS,QG,QH,Q4,h1,h2,h3,h4,h5]
  all_goals first|rfl|exact⟨rfl,rfl⟩
 cases b with
 |true=>
  simp only[↓go1,gB2,simprocAttr,m1,m2,m3,m7,m8,m9,q1,q2,q3,q4,q5,h44,Aa s44,Cb,AN,DS,QG,QH,Q4,h1,h2,h3,h4,h5]
  all_goals first|rfl|exact⟨rfl,rfl⟩
 |false=>
  by_cases h6:100<a.key.length
  ·simp only[↓go1,gB2,simprocAttr,m1,m2,m3,m7,m8,m9,m10,q1,q2,q3,q4,q5,q6,h44,Aa s44,Cb,AN,DS,oneI_f,QH,Q4,h1,h2,h3,h4,h5,h6]
   all_goals first|rfl|exact⟨rfl,rfl⟩
  ·simp only[↓go1,gB2,simprocAttr,m1,m2,m3,m7,m8,m9,m10,q1,q2,q3,q4,q5,q6,h44,Aa s44,Cb,AN,oneI_f,Q4,h1,h2,h3,h4,h5,h6]
   all_goals first|rfl|exact⟨rfl,rfl⟩
def F53:List D->Option D:=FX mkRl (λp=>p.2.length<=1000) (λp=> .slice p.2.isEmpty [] (Al p.2))
def F53_eq{nl:Bool}{l:List Rl}(h:l.length<=1000):F53 [.slice nl [] (Al l)]=some (.slice l.isEmpty [] (Al l)):=Bq (mk:=mkRl) (a:=(nl,l)) mkRl_inj h
def isE_take{l:List Rl}{j:Nat}(h:j<l.length):(l.take (j+1)).isEmpty=false:=by
 cases l with
 |nil=>simp at h
 |cons x r=>rfl
def loop53{S:Summs}{l:List Rl}{nl:Bool}{Q:Ex->St->Prop}(hb:l.length<=1000)
  (hexit:∀st t,st.s 3= .slice l.isEmpty t (Al l)->Q (.exit 0) st):
  ∀(f j:Nat)(t:Id) st g,l.length=j+f->st.s 0= .slice nl [] (Al l)->st.s 3= .slice (l.take j).isEmpty t (Al (l.take j))->Gw st.m st.c 209 (l.take j).isEmpty t->st.s 4= .int .i64 (j:Int)->A4 S [] dc53l0 Q st g:=by
 intro f;induction f with
 |zero=>
  intro j t st g hf h0 h3 hg h4;refine Ae dc53l0.eq_1 ?_;have:¬((j:Int)<l.length):=by omega
  simp only[↓go1,go2,go4,simprocAttr,h0,h4,this,As];rw[Qw (by omega)]at h3;exact hexit _ t h3
 |succ f ih=>
  intro j t st g hf h0 h3 hg h4;refine Ae dc53l0.eq_1 ?_;have hj:j<l.length:=by omega
  have hlt:((j:Int)<l.length):=by omega
  have hj0:=nJ (j:=j);have hw:=wJ (j:=j) (by omega);have hat:(Al l)[j]?=some (.agg [.str l[j].1,.int .u8 l[j].2]):=by simp[Al,Qe hj,rlD]
  have htk:Al (l.take (j+1))=Al (l.take j)++[.agg [.str l[j].1,.int .u8 l[j].2]]:=by
   have e:l.take (j+1)=l.take j++[l[j]]:=by rw[QO,Qe hj];rfl
   rw[e];unfold Al;rw[Q0];rfl
  have hn:(l.take j).isEmpty=true->Al (l.take j)=[]:=λh=>by rw[Zd.1 h];rfl
  have hlen:(Al (l.take j)).length<=1000:=by rw[As,QB];omega
  have hlen2:(l.take j).length<=1000:=by rw[QB];omega
  have hem:=isE_take hj;obtain⟨st_s,st_m,st_c⟩:=st;simp only at h0 h3 hg h4;simp only[↓go1,gB2,simprocAttr,h0,h3,h4,hlt,hj0,Qn,hat,As,and_false,gB3,Qh,Qr,Qv,and_false];refine Ao.intro ⟨by omega,rfl,hg.grow (by omega)⟩ ?_;rw[BH hn];simp only[↓go1,gB2,simprocAttr,h4,hw];refine ih (j+1) [st_c+4+6] _ _ (by omega) h0 ?_ ?_ rfl
  ·rw[hem,htk];rfl
  ·rw[hem];exact Gw.new (by simp only;omega)
def ok53:(Ac F53).ok Qc 53:=by
 refine Bx (S:=λ_=>none) AK fn53 (λ_=>by simp[mkRl]) (λp hp=>?_);obtain⟨nl,l⟩:=p;simp only at hp;unfold dc53 mkRl;simp only[↓go1,go2,Qj];refine loop53 (l:=l) (nl:=nl) hp (λst t h=>?_) l.length 0 [] _ _ (by omega) rfl rfl (.inl rfl) rfl;simp only[↓go1,gB2,simprocAttr,h]
def ownT(k:Tk):Tk:=(k.1,k.2.1,k.2.2.2.isEmpty,k.2.2.2)
def F51:List D->Option D:=FX (λk:Tk=>[tkD k]) (λk=>k.2.2.2.length<=1000) (λk=>tkD (ownT k))
def tkD_inj1(x y:Tk)(e:[tkD x]=[tkD y]):x=y:=by
 simp only[Qd,and_true]at e;have:Ax [x]=Ax [y]:=by simp[Ax,e]
 simpa using FN this
def F51_eq{k:Tk}(h:k.2.2.2.length<=1000):F51 [tkD k]=some (tkD (ownT k)):=Bq (mk:=λk:Tk=>[tkD k]) (a:=k) tkD_inj1 h
def ok51:(Ac F51).ok Qc 51:=by
 obtain⟨S,hS,hl⟩:=A6 (Ab ok53 Ad);have s53:=hl 53 _ rfl;clear hl;refine Bx hS fn51 (λ_=>by simp) (λk hk=>?_);obtain⟨x1,x2,x3,x4⟩:=k;simp only at hk;have h53:=F53_eq (nl:=x3) (l:=x4) hk;unfold dc51 tkD ownT;simp only;simp only[↓go1,gB0,simprocAttr,BK,C0,Q6,Ql,Qo,Aa s53,h53,Af,Ap,Aq,Qb,Qp,Qr,Qv,Qk,Qs,Qz,Qd,Qu,Qi];refine Ao.intro (Aj rfl) ?_;simp only[↓go1,gB0,simprocAttr,Ql,Qo,Af,Ap,Aq,Qb,Qp,Qd,Qi,Bk,AX]
 all_goals first|rfl|exact⟨rfl,rfl⟩
def F46:List D->Option D:=FX (λm:Mt=>[mtD m]) (λ_=>True) (λm=>mtD m)
def mtD_inj1(x y:Mt)(e:[mtD x]=[mtD y]):x=y:=by
 simp only[Qd,and_true]at e;have:Ar [x]=Ar [y]:=by simp[Ar,e]
 simpa using mtsD_inj this
def F46_eq{m:Mt}:F46 [mtD m]=some (mtD m):=Bq (mk:=λm:Mt=>[mtD m]) (a:=m) mtD_inj1 trivial
def ok46:(Ac F46).ok Qc 46:=by
 refine Bx (S:=λ_=>none) AK fn46 (λ_=>by simp) (λm _=>?_);obtain⟨x1,x2,x3⟩:=m;unfold dc46 mtD;simp only;simp only[↓go1,gB0,simprocAttr,BK,C0,Q6,Ql,Qo,Af,Ap,Aq,Qb,Qp,Qr,Qv,Qk,Qs,Qz,Qd,Qu,Qi,Bk,AX]
 all_goals first|rfl|exact⟨rfl,rfl⟩
def ownA(a:Ak):Ak:={a with nlr:=a.rs.isEmpty}
def F18:List D->Option D:=FX mkA (λa=>a.rs.length<=1000) (λa=>akD (ownA a))
def F18_eq{a:Ak}(h:a.rs.length<=1000):F18 [akD a]=some (akD (ownA a)):=Bq (mk:=mkA) (a:=a) mkA_inj h
def ok18:(Ac F18).ok Qc 18:=by
 obtain⟨S,hS,hl⟩:=A6 (Ab ok53 Ad);have s53:=hl 53 _ rfl;clear hl;refine Bx hS fn18 (λ_=>by simp[mkA]) (λa ha=>?_);have h53:=F53_eq (nl:=a.nlr) (l:=a.rs) ha;unfold dc18 mkA akD akC ownA;simp only[↓go1,gB0,simprocAttr,BK,C0,Q6,Ql,Qo,Aa s53,h53,Af,Ap,Aq,Qb,Qp,Qr,Qv,Qk,Qs,Qz,Qd,Qu,Qi];refine Ao.intro (Aj rfl) ?_;simp only[↓go1,gB0,simprocAttr,Ql,Qo,Af,Ap,Aq,Qb,Qp,Qd,Qi,Bk,AX]
 all_goals first|rfl|exact⟨rfl,rfl⟩
def keyV(k:Bs)(nl:Bool):Vw:=⟨false,1,k,true,[],nl,[firstTk]⟩
def F23:List D->Option D
 |[.str k]=>some (vwD (keyV k false))
 |_=>none
def ok23:(Ac F23).ok Qc 23:=by
 obtain⟨S,hS,hl⟩:=A6 (Ab ok48 Ad);have s48:=hl 48 _ rfl;clear hl;refine Az (S:=S) hS fn23 (λds r h=>?_) (λds r h=>?_)
 ·unfold F23 at h;split at h
  ·simp
  ·cases h
 ·unfold F23 at h;split at h
  ·simp only[Qm]at h;subst h;have h48:F48 []=some (.agg [.slice false [] (Ax [firstTk])]):=rfl;unfold dc23;simp only[↓go1,gB0,simprocAttr,BK,C0,Q6,Ql,Qo,Aa s48,h48,Af,Ap,Aq,Qb,Qp,Qr,Qv,Qk,Qs,Qz,Bk,AX]
   all_goals first|rfl|exact⟨rfl,rfl⟩
  ·cases h
def putS{m:Mem}{i:Id}{x y:D}:(m.put i 0 [x]).put i 0 [y]=m.put i 0 [y]:=by
 funext j p;rw[Af,Af,Af];by_cases h:j=i∧0<=p∧p<0+[y].length
 ·rw[if_pos h,if_pos h]
 ·rw[if_neg h,if_neg h];exact if_neg h
def BA(s:Bool×List Mt)(m:Mt):Bool×List Mt:=match (E_ s.2 m).1 with
 |none=>s
 |some l=>(false,l)
def B6(s:Bool×List Mt)(m:Mt):Bool×List Mt:=match (addR s.2 m).1 with
 |none=>s
 |some l=>(false,l)
def tabD_st(s:Bool×List Mt)(m:Mt):tabD s.1 s.2 (E_ s.2 m).1= .agg [.slice (BA s m).1 [] (Ar (BA s m).2)]:=by
 unfold BA;cases(E_ s.2 m).1<;>rfl
def tabR_st(s:Bool×List Mt)(m:Mt):tabR s.1 s.2 (addR s.2 m).1= .slice (B6 s m).1 [] (Ar (B6 s m).2):=by
 unfold B6;cases(addR s.2 m).1<;>rfl
def MtOk(s:Bool×List Mt)(n:Nat):Prop:=s.2.length<=n∧(s.1=true->s.2=[])
def addSt_ok{s:Bool×List Mt}{m:Mt}{n:Nat}(h:MtOk s n):MtOk (BA s m) (n+1):=by
 unfold BA E_
 repeat' split
 all_goals first|exact⟨Zm h.1,h.2⟩|skip
 all_goals (rename_i he;revert he;repeat' split)
 all_goals intro he
 all_goals (cases he)
 all_goals exact⟨by rw[Gp,Qt];exact Nat.succ_le_succ h.1,λh=>by cases h⟩
def addRt_ok{s:Bool×List Mt}{m:Mt}{n:Nat}(h:MtOk s n)(hp:∀x∈s.2,x.1.length<=1000)(hm:m.1.length<=1000):MtOk (B6 s m) (n+1)∧∀x∈(B6 s m).2,x.1.length<=1000:=by
 unfold B6 addR
 repeat' split
 all_goals first|exact⟨⟨Zm h.1,h.2⟩,hp⟩|skip
 all_goals (rename_i he;revert he;repeat' split)
 all_goals intro he
 all_goals (cases he)
 all_goals
  refine⟨⟨?_,λh=>by cases h⟩,λx hx=>?_⟩
  ·have:=h.1;simp only[Qt,QA,QB,Q5];omega
  ·rcases QT.1 hx with h1|h1
   ·exact hp x (Zp h1)
   ·rcases Qx.1 h1 with rfl|h1
    ·exact hm
    ·exact hp x (Zq h1)
def Bg(s:Bool×List Tk)(k:Tk):Bool×List Tk:=match (DB s.2 (ownT k)).1 with
 |none=>s
 |some l=>(false,l)
def B3(s:Bool×List Tk)(k:Tk):Bool×List Tk:=match (makeR s.2 k).1 with
 |none=>s
 |some l=>(false,l)
def setD_st(s:Bool×List Tk)(k:Tk):setD s.1 s.2 (DB s.2 (ownT k)).1= .agg [.slice (Bg s k).1 [] (Ax (Bg s k).2)]:=by
 unfold Bg;cases(DB s.2 (ownT k)).1<;>rfl
def setR_st(s:Bool×List Tk)(k:Tk):setR s.1 s.2 (makeR s.2 k).1= .slice (B3 s k).1 [] (Ax (B3 s k).2):=by
 unfold B3;cases(makeR s.2 k).1<;>rfl
def TkG(k:Tk):Prop:=k.1.length<=1000∧k.2.1.length<=1000∧tkOk k∧EP k.2.2.2
def Fy(s:Bool×List Tk)(n:Nat):Prop:=s.2.length<=n∧∀k∈s.2,TkG k
def ownT_ok{k:Tk}(h:TkG k):TkG (ownT k):=⟨h.1,h.2.1,⟨h.2.2.1.1,λe=>Zd.1 e⟩,h.2.2.2⟩
def mid_ok{l:List Tk}{k:Tk}{j n:Nat}(h:l.length<=n)(hl:∀k∈l,TkG k)(hk:TkG k):Fy (false,l.take j++k::l.drop j) (n+1):=by
 refine⟨?_,λx hx=>?_⟩
 ·simp only[Qt,QA,QB,Q5];omega
 ·rcases QT.1 hx with h1|h1
  ·exact hl x (Zp h1)
  ·rcases Qx.1 h1 with rfl|h1
   ·exact hk
   ·exact hl x (Zq h1)
def makeSt_ok{s:Bool×List Tk}{k:Tk}{n:Nat}(h:Fy s n)(hk:TkG k):Fy (Bg s k) (n+1):=by
 unfold Bg DB
 repeat' split
 all_goals first|exact⟨Zm h.1,h.2⟩|skip
 all_goals (rename_i he;revert he;repeat' split)
 all_goals intro he
 all_goals (cases he)
 all_goals exact mid_ok h.1 h.2 (ownT_ok hk)
def makeRt_ok{s:Bool×List Tk}{k:Tk}{n:Nat}(h:Fy s n)(hk:TkG k):Fy (B3 s k) (n+1):=by
 unfold B3 makeR
 repeat' split
 all_goals first|exact⟨Zm h.1,h.2⟩|skip
 all_goals (rename_i he;revert he;repeat' split)
 all_goals intro he
 all_goals (cases he)
 all_goals exact mid_ok h.1 h.2 hk
open Classical in
def F50_eq{nl0 nl:Bool}{l:List Tk}{n p:Bs}{rs:List Rl}(hl:l.length<=90000)(hk:∀k∈l,EP k.2.2.2)(hn:nl=true->rs=[])(hr:EP rs)(h1:n.length<=1000000)(h2:p.length<=1000000):
  F50 [.agg [.slice nl0 [] (Ax l)],.agg [.str n,.str p,.slice nl [] (Al rs)]]=some (.tup [setD nl0 l (DB l (n,p,nl,rs)).1,.int .i64 (DB l (n,p,nl,rs)).2]):=by
 have h:(Er (Ax l)∧(Ax l).length<=90000∧∀k∈B1 (Ax l),EP k.2.2.2)∧rlsOk nl (Al rs)∧EP (Bb (Al rs))∧n.length<=1000000∧p.length<=1000000:=
  ⟨⟨D8 (by omega),by rw[AM];exact hl,by rw[Bh];exact hk⟩,rlsOk_mk hr.1 hn,by rw[AR];exact hr,h1,h2⟩
 show(if _ then _ else _)=_;rw[if_pos h,Bh,AR]
open Classical in
def F52_eq{nl0 nl:Bool}{l:List Tk}{n p:Bs}{rs:List Rl}(hl:l.length<=90000)(hk:∀k∈l,EP k.2.2.2)(hn:nl=true->rs=[])(hr:EP rs)(h1:n.length<=1000000)(h2:p.length<=1000000):
  F52 [.slice nl0 [] (Ax l),.agg [.str n,.str p,.slice nl [] (Al rs)]]=some (.tup [setR nl0 l (makeR l (n,p,nl,rs)).1,.int .i64 (makeR l (n,p,nl,rs)).2]):=by
 have h:(Er (Ax l)∧(Ax l).length<=90000∧∀k∈B1 (Ax l),EP k.2.2.2)∧rlsOk nl (Al rs)∧EP (Bb (Al rs))∧n.length<=1000000∧p.length<=1000000:=
  ⟨⟨D8 (by omega),by rw[AM];exact hl,by rw[Bh];exact hk⟩,rlsOk_mk hr.1 hn,by rw[AR];exact hr,h1,h2⟩
 show(if _ then _ else _)=_;rw[if_pos h,Bh,AR]
structure SeenOk (v:Vw):Prop where
 ml:v.ms.length<=8
 mp:∀m∈v.ms,m.1.length<=1000
 kl:v.ks.length<=12
 kp:∀k∈v.ks,TkG k
 kr:∀k∈v.ks,k.2.2.2.length<=1000
def z5:List D:=[.bool false,.int .i64 0,.str [],.slice true [] [],.slice true [] []]
def Gc(v:Vw):Mem:=(((Mem.put (λ_ _=>none) [0] 0 (vwC v)).put [1] 0 z5).put [2] 0 z5)
def vM0{v:Vw}{k:Nat}{d:D}(hd:(vwC v)[k]?=some d):Gc v [0] k=some d:=by
 unfold Gc;rw[Mem.put_other (by decide),Mem.put_other (by decide)];have hk:=(QM.1 hd).1;rw[Af,if_pos ⟨rfl,Qq _,by omega⟩];exact hd
def loop17a{S:Summs}{v:Vw}{Q:Ex->St->Prop}(s46:S 46=some (Ac F46))(s45:S 45=some (Ac F45))(s47:S 47=some (Ac F47))(hv:SeenOk v)
  (hexit:∀st:St,6<=st.c->st.s 1= .ptr [0] 0->st.s 2= .ptr [1] 0->st.s 3= .ptr [2] 0->st.s 4= .ptr [3] 0->st.s 5= .slice (v.ms.foldl B6 (true,[])).1 [] (Ar (v.ms.foldl B6 (true,[])).2)->st.m=(Gc v).put [3] 0 [.slice (v.ms.foldl BA (true,[])).1 [] (Ar (v.ms.foldl BA (true,[])).2)]->Q (.exit 0) st):
  ∀(f j:Nat)(a r:Bool×List Mt)(st:St) g,v.ms.length=j+f->a=(v.ms.take j).foldl BA (true,[])->r=(v.ms.take j).foldl B6 (true,[])->MtOk a j->MtOk r j->(∀x∈r.2,x.1.length<=1000)->
   6<=st.c->st.s 1= .ptr [0] 0->st.s 2= .ptr [1] 0->st.s 3= .ptr [2] 0->st.s 4= .ptr [3] 0->st.s 5= .slice r.1 [] (Ar r.2)->st.s 6= .int .i64 (j:Int)->st.m=(Gc v).put [3] 0 [.slice a.1 [] (Ar a.2)]->A4 S [] dc17l0 Q st g:=by
 have hml:=hv.ml;have m3:∀x,(Gc v).put [3] 0 [x] [0] 3=some (.slice v.nlm [] (Ar v.ms)):=λx=>by rw[Mem.put_other (by decide)];exact vM0 rfl
 intro f;induction f with
 |zero=>
  intro j a r st g hf ha hr oa or hp hc h1 h2 h3 h4 h5 h6 hm;refine Ae dc17l0.eq_1 ?_;have:¬((j:Int)<v.ms.length):=by omega
  rw[Qw (by omega)]at ha hr;subst ha hr;simp only[↓go1,go2,go4,simprocAttr,h1,h6,hm,m3,Av,this];exact hexit _ (by simp only;omega) h1 h2 h3 h4 h5 rfl
 |succ f ih=>
  intro j a r st g hf ha hr oa or hp hc h1 h2 h3 h4 h5 h6 hm;refine Ae dc17l0.eq_1 ?_;have hj:j<v.ms.length:=by omega
  have hlt:((j:Int)<v.ms.length):=by omega
  have hj0:=nJ (j:=j);have hw:=wJ (j:=j) (by omega);have hat:(Ar v.ms)[j]?=some (.agg [.str v.ms[j].1,.int .i64 v.ms[j].2.1,.bool v.ms[j].2.2]):=by simp[Ar,Qe hj,mtD]
  have htk:v.ms.take (j+1)=v.ms.take j++[v.ms[j]]:=by rw[QO,Qe hj];rfl
  have hmem:=hv.mp _ (QD hj);generalize v.ms[j]=x at hat htk hmem;have ha':BA a x=(v.ms.take (j+1)).foldl BA (true,[]):=by rw[htk,Zn,←ha];rfl
  have hr':B6 r x=(v.ms.take (j+1)).foldl B6 (true,[]):=by rw[htk,Zn,←hr];rfl
  have oa':=addSt_ok (m:=x) oa;have or':=addRt_ok or hp hmem;have h46:F46 [.agg [.str x.1,.int .i64 x.2.1,.bool x.2.2]]=some (.agg [.str x.1,.int .i64 x.2.1,.bool x.2.2]):=F46_eq (m:=x);have l1:=oa.1;have l2:=or.1;have h45:F45 [.agg [.slice a.1 [] (Ar a.2)],.agg [.str x.1,.int .i64 x.2.1,.bool x.2.2]]=some (.tup [.agg [.slice (BA a x).1 [] (Ar (BA a x).2)],.int .i64 (E_ a.2 x).2]):=by
   rw[←tabD_st];exact F45_eq (m:=x) (by omega) oa.2 (by omega)
  have h47:F47 [.slice r.1 [] (Ar r.2),.agg [.str x.1,.int .i64 x.2.1,.bool x.2.2]]=some (.tup [.slice (B6 r x).1 [] (Ar (B6 r x).2),.int .i64 (addR r.2 x).2]):=by
   rw[←tabR_st];exact F47_eq (m:=x) (by omega) or.2 (by omega) (λy hy=>Nat.le_trans (hp y hy) (by omega))
  generalize (E_ a.2 x).2=e1 at h45;generalize (addR r.2 x).2=e2 at h47;generalize BA a x=a' at ha' oa' h45;generalize B6 r x=r' at hr' or' h47;obtain⟨st_s,st_m,st_c⟩:=st;simp only at hc h1 h2 h3 h4 h5 h6 hm;subst hm;simp only[↓go1,gB0,simprocAttr,h1,h4,h6,m3,Av,hlt,hj0,Qn,hat,Aa s46,h46,Aa s45,h45,Af,Ap,Aq,Qb,Qp,Qr,Qv,Qk];refine Ao.intro (Aj (by simp[A2,AL,rds,Ai];done)) ?_;simp only[↓go1,gB2,simprocAttr,h1,h5,h6,m3,hj0,hw,Qn,hat,Aa s47,h47,putS,gB3,Qh,Qf,Qb,Qr,Qv];exact ih (j+1) a' r' _ _ (by omega) ha' hr' oa' or'.1 or'.2 (by simp only;omega) h1 h2 h3 h4 rfl rfl putS
def loop17b{S:Summs}{v:Vw}{M:Mem}{q:Nat}{s5:D}{Q:Ex->St->Prop}(s51:S 51=some (Ac F51))(s50:S 50=some (Ac F50))(s52:S 52=some (Ac F52))(hv:SeenOk v)(hq:4<=q)(hM:∀k d,(vwC v)[k]?=some d->M [0] k=some d)
  (hexit:∀st:St,q<st.c->st.s 1= .ptr [0] 0->st.s 2= .ptr [1] 0->st.s 3= .ptr [2] 0->st.s 4= .ptr [3] 0->st.s 7= .ptr [q] 0->st.s 8= .slice (v.ks.foldl B3 (false,[firstTk])).1 [] (Ax (v.ks.foldl B3 (false,[firstTk])).2)->st.s 5=s5->st.m=M.put [q] 0 [.slice (v.ks.foldl Bg (false,[firstTk])).1 [] (Ax (v.ks.foldl Bg (false,[firstTk])).2)]->Q (.exit 2) st):
  ∀(f j:Nat)(a r:Bool×List Tk)(st:St) g,v.ks.length=j+f->a=(v.ks.take j).foldl Bg (false,[firstTk])->r=(v.ks.take j).foldl B3 (false,[firstTk])->Fy a (j+1)->Fy r (j+1)->
   q<st.c->st.s 1= .ptr [0] 0->st.s 2= .ptr [1] 0->st.s 3= .ptr [2] 0->st.s 4= .ptr [3] 0->st.s 5=s5->st.s 7= .ptr [q] 0->st.s 8= .slice r.1 [] (Ax r.2)->st.s 9= .int .i64 (j:Int)->st.m=M.put [q] 0 [.slice a.1 [] (Ax a.2)]->A4 S [] dc17l1 Q st g:=by
 have hkl:=hv.kl;have m4:∀x,M.put [q] 0 [x] [0] 4=some (.slice v.nlt [] (Ax v.ks)):=λx=>by rw[Mem.put_other (by simp;omega)];exact hM _ _ rfl
 intro f;induction f with
 |zero=>
  intro j a r st g hf ha hr oa or hc h1 h2 h3 h4 h5 h7 h8 h9 hm;refine Ae dc17l1.eq_1 ?_;have:¬((j:Int)<v.ks.length):=by omega
  rw[Qw (by omega)]at ha hr;subst ha hr;simp only[↓go1,go2,go4,simprocAttr,h1,h9,hm,m4,AM,this];exact hexit _ (by simp only;omega) h1 h2 h3 h4 h7 h8 h5 rfl
 |succ f ih=>
  intro j a r st g hf ha hr oa or hc h1 h2 h3 h4 h5 h7 h8 h9 hm;refine Ae dc17l1.eq_1 ?_;have hj:j<v.ks.length:=by omega
  have hlt:((j:Int)<v.ks.length):=by omega
  have hj0:=nJ (j:=j);have hw:=wJ (j:=j) (by omega);have hat:(Ax v.ks)[j]?=some (.agg [.str v.ks[j].1,.str v.ks[j].2.1,.slice v.ks[j].2.2.1 [] (Al v.ks[j].2.2.2)]):=by simp[Ax,Qe hj,tkD]
  have htk:v.ks.take (j+1)=v.ks.take j++[v.ks[j]]:=by rw[QO,Qe hj];rfl
  have hmem:=hv.kp _ (QD hj);have hx4:=hv.kr _ (QD hj);generalize v.ks[j]=x at hat htk hmem hx4;have ha':Bg a x=(v.ks.take (j+1)).foldl Bg (false,[firstTk]):=by rw[htk,Zn,←ha];rfl
  have hr':B3 r x=(v.ks.take (j+1)).foldl B3 (false,[firstTk]):=by rw[htk,Zn,←hr];rfl
  have oa':=makeSt_ok oa hmem;have or':=makeRt_ok or hmem;obtain⟨x1,x2,x3,x4⟩:=x;obtain⟨p1,p2,⟨p3,p4⟩,p5⟩:=hmem;simp only at p1 p2 p3 p4 p5;simp only at hat;simp only at hx4;have h51:F51 [.agg [.str x1,.str x2,.slice x3 [] (Al x4)]]=some (.agg [.str x1,.str x2,.slice x4.isEmpty [] (Al x4)]):=F51_eq (k:=(x1,x2,x3,x4)) hx4;have l1:=oa.1;have l2:=or.1;have h50:F50 [.agg [.slice a.1 [] (Ax a.2)],.agg [.str x1,.str x2,.slice x4.isEmpty [] (Al x4)]]=some (.tup [.agg [.slice (Bg a (x1,x2,x3,x4)).1 [] (Ax (Bg a (x1,x2,x3,x4)).2)],.int .i64 (DB a.2 (x1,x2,x4.isEmpty,x4)).2]):=by
   rw[←setD_st];exact F50_eq (by omega) (λk hk=>(oa.2 k hk).2.2.2) (λe=>Zd.1 e) p5 (by omega) (by omega)
  have h52:F52 [.slice r.1 [] (Ax r.2),.agg [.str x1,.str x2,.slice x3 [] (Al x4)]]=some (.tup [.slice (B3 r (x1,x2,x3,x4)).1 [] (Ax (B3 r (x1,x2,x3,x4)).2),.int .i64 (makeR r.2 (x1,x2,x3,x4)).2]):=by
   rw[←setR_st];exact F52_eq (by omega) (λk hk=>(or.2 k hk).2.2.2) p4 p5 (by omega) (by omega)
  generalize (DB a.2 (x1,x2,x4.isEmpty,x4)).2=e1 at h50;generalize (makeR r.2 (x1,x2,x3,x4)).2=e2 at h52;generalize Bg a (x1,x2,x3,x4)=a' at ha' oa' h50;generalize B3 r (x1,x2,x3,x4)=r' at hr' or' h52;obtain⟨st_s,st_m,st_c⟩:=st;simp only at hc h1 h2 h3 h4 h5 h7 h8 h9 hm;subst hm;simp only[↓go1,gB0,simprocAttr,h1,h7,h9,m4,AM,hlt,hj0,Qn,hat,Aa s51,h51,Aa s50,h50,Af,Ap,Aq,Qb,Qp,Qr,Qv,Qk];refine Ao.intro (Aj (by simp[A2,AL,rds,Ai];done)) ?_;simp only[↓go1,gB2,simprocAttr,h1,h8,h9,m4,hj0,hw,Qn,hat,Aa s52,h52,putS,gB3,Qh,Qf,Qb,Qr,Qv];exact ih (j+1) a' r' _ _ (by omega) ha' hr' oa' or' (by simp only;omega) h1 h2 h3 h4 h5 h7 rfl rfl putS
def res_cells{s:Nat->D}{m:Mem}{k k':Option Nat}{a b:Nat}:BY [.cell k a,.cell k' b] s m=(ldD m k (s a)).bind λd=>(ldD m k' (s b)).map λd'=> .tup [d,d']:=by
 simp only[BY,Ff,RV.of];cases ldD m k (s a)<;>cases ldD m k' (s b)<;>rfl
def teV(n:Int):Int:=IntKind.i64.wrap (1+IntKind.i64.wrap ((IntKind.u64.wrap n).tmod 6))
def E6(v:Vw):Vw:=⟨v.se,teV v.te,v.key,(v.ms.foldl BA (true,[])).1,(v.ms.foldl BA (true,[])).2,(v.ks.foldl Bg (false,[firstTk])).1,(v.ks.foldl Bg (false,[firstTk])).2⟩
def docV(v:Vw):Vw:=⟨v.se,teV v.te,v.key,(v.ms.foldl B6 (true,[])).1,(v.ms.foldl B6 (true,[])).2,(v.ks.foldl B3 (false,[firstTk])).1,(v.ks.foldl B3 (false,[firstTk])).2⟩
def F17:List D->Option D:=FX mkV SeenOk (λv=> .tup [vwD (E6 v),vwD (docV v)])
def F17_eq{v:Vw}(h:SeenOk v):F17 [vwD v]=some (.tup [vwD (E6 v),vwD (docV v)]):=Bq (mk:=mkV) (a:=v) mkV_inj h
def first_ok:Fy (false,[firstTk]) 1:=⟨by decide,λk hk=>by
 rw[Qy.1 hk];refine⟨by decide,by decide,⟨by decide,by decide⟩,⟨by decide,λr hr=>?_,λr hr=>?_⟩⟩
 ·rw[Qy.1 hr];decide
 ·rw[Qy.1 hr];decide⟩
def ok17:(Ac F17).ok Qc 17:=by
 obtain⟨S,hS,hl⟩:=A6 (Ab ok46 (Ab ok45 (Ab ok47 (Ab ok48 (Ab ok49 (Ab ok51 (Ab ok50 (Ab ok52 Ad))))))));have s46:=hl 46 _ rfl;have s45:=hl 45 _ rfl;have s47:=hl 47 _ rfl;have s48:=hl 48 _ rfl;have s49:=hl 49 _ rfl;have s51:=hl 51 _ rfl;have s50:=hl 50 _ rfl;have s52:=hl 52 _ rfl;clear hl;refine Bx hS fn17 (λ_=>by simp[mkV]) (λv hv=>?_);have h48:F48 []=some (.agg [.slice false [] (Ax [firstTk])]):=rfl;have h49:F49 []=some (.slice false [] (Ax [firstTk])):=rfl;unfold dc17 mkV vwD;simp only[↓go1,go2,go3,Qj,AZ];refine loop17a (v:=v) s46 s45 s47 hv (λst hc h1 h2 h3 h4 h5 hm=>?_) v.ms.length 0 (true,[]) (true,[]) _ _ (by omega) rfl rfl ⟨QF _,λ_=>rfl⟩ ⟨QF _,λ_=>rfl⟩ (λx hx=>by cases hx) (by simp only;omega) rfl rfl rfl rfl rfl rfl rfl;obtain⟨st_s,st_m,st_c⟩:=st;simp only at hc h1 h2 h3 h4 h5 hm;subst hm;have hM:∀x k d,(vwC v)[k]?=some d->(Gc v).put [3] 0 [x] [0] k=some d:=λx k d hd=>by rw[Mem.put_other (by decide)];exact vM0 hd
 generalize hA:v.ms.foldl BA (true,[])=A;generalize hR:v.ms.foldl B6 (true,[])=R at h5;simp only[↓go1,gB0,reduceIte,Qg,Qj,Aa s48,h48,Aa s49,h49,Af,Ap,Aq,QL,Qp,Qk,Qd];refine loop17b (v:=v) (M:=(Gc v).put [3] 0 [.slice A.1 [] (Ar A.2)]) (q:=st_c+2) (s5:= .slice R.1 [] (Ar R.2)) s51 s50 s52 hv (by omega) (hM _) (λst hc1 h1 h2 h3 h4 h7 h8 h5 hm=>?_) v.ks.length 0 (false,[firstTk]) (false,[firstTk]) _ _ (by omega) rfl rfl first_ok first_ok (by simp only;omega) h1 h2 h3 h4 h5 rfl rfl rfl putS;obtain⟨u_s,u_m,u_c⟩:=st;simp only at hc1 h1 h2 h3 h4 h5 h7 h8 hm;have hA1:Ag u_m [3] 0 1=some [.slice A.1 [] (Ar A.2)]:=by rw[hm,AJ (by simp<;>omega)];exact AO rfl
 have hT1:Ag u_m [st_c+2] 0 1=some [.slice (E6 v).nlt [] (Ax (E6 v).ks)]:=by rw[hm];exact AO rfl
 have k0:u_m [0] 0=some (.bool v.se):=by rw[hm,Mem.put_other (by simp<;>omega)]<;>exact hM _ _ _ rfl
 have k1:u_m [0] 1=some (.int .i64 v.te):=by rw[hm,Mem.put_other (by simp<;>omega)]<;>exact hM _ _ _ rfl
 have k2:u_m [0] 2=some (.str v.key):=by rw[hm,Mem.put_other (by simp<;>omega)]<;>exact hM _ _ _ rfl
 have z1:Ag u_m [1] 0 5=some z5:=by rw[hm,AJ (by simp<;>omega),AJ (by decide)];unfold Gc;rw[AJ (by decide)];exact AO rfl
 have z2:Ag u_m [2] 0 5=some z5:=by rw[hm,AJ (by simp<;>omega),AJ (by decide)];unfold Gc;exact AO rfl
 have o1:∀x,Ag (u_m.put [1] 0 x) [2] 0 5=some z5:=λx=>by rw[AJ (by decide)];exact z2
 have e1:∀x y,x.length=5->Ag ((u_m.put [1] 0 x).put [2] 0 y) [1] 0 5=some x:=λx y hx=>by rw[AJ (by decide),AO hx]
 have e2:∀x y,y.length=5->Ag ((u_m.put [1] 0 x).put [2] 0 y) [2] 0 5=some y:=λx y hy=>by rw[AO hy]
 have hA2:A.1=(E6 v).nlm∧A.2=(E6 v).ms:=by subst hA;exact⟨rfl,rfl⟩
 have hR2:R.1=(docV v).nlm∧R.2=(docV v).ms:=by subst hR;exact⟨rfl,rfl⟩
 rw[hA2.1,hA2.2]at hA1;rw[hR2.1,hR2.2]at h5;have hU:st_c+2≠1∧st_c+2≠2:=by omega
 replace h8:u_s 8= .slice (docV v).nlt [] (Ax (docV v).ks):=h8;clear hm hA2 hR2 hA hR hM;simp only[↓go1,go2,reduceIte,Qg,Qj,h1,k1,Qh];refine Ao.intro (by decide) ?_;simp only[↓go1,gB2,reduceIte,Qg,Qj,h1,h2,h3,h4,h5,h7,h8,hA1,hT1,k0,k2,z1,o1,BK,C0,Q6,Ql,Qo,QE,gB3,Qh,and_self,Qr,Qv,Qk,Qs,Qz];refine Ao.intro (Aj ?_) ?_
 ·simp only[A2,QY,Q1,Q7,Qf,Qb,Zg,AL,gB3,QR,QZ,rds,↓go1,reduceIte,Qg,h2,h3,h4,h7];simp[Ai]
  try omega
 simp only[↓go1,gB2,reduceIte,Qg,Qj,h2,h3,e1,e2,Ci,res_cells,ldD,Ql,Qo,gB3,Qh,Qp];rfl
end Go.Vd
namespace Go.Vd
open Go.Proofs
def dc255l0:=y1 f255 4 [] []
def dc255:=y0 f255 [] [(4,dc255l0)]
def fn255:Fn Qc 255 26 dc255 [.t 4]:=Am func255
def dc149:=y0 f149 [] []
def fn149:Fn Qc 149 24 dc149 [.t 4]:=Am func149
def dc256l0:=y1 f256 3 [] []
def dc256:=y0 f256 [] [(3,dc256l0)]
def fn256:Fn Qc 256 19 dc256 [.t 2]:=Am func256
def dc150:=y0 f150 [(1,[(6,1),(6,3)])] []
def fn150:Fn Qc 150 11 dc150 [.cell (some 3) 2]:=Am func150
def dc67l0:=y1 f67 5 [(7,[(6,10),(10,0),(10,5),(10,6)]),(8,[(16,20)])] []
def dc67:=y0 f67 [] [(5,dc67l0)]
def fn67:Fn Qc 67 56 dc67 [.t 4]:=Am func67
def dc66l0:=y1 f66 5 [(7,[(8,3)])] []
def dc66:=y0 f66 [] [(5,dc66l0)]
def fn66:Fn Qc 66 43 dc66 [.t 4]:=Am func66
def dc22:=y0 f22 [] []
def fn22:Fn Qc 22 38 dc22 [.t 4]:=Am func22
end Go.Vd
namespace Go.Vd
open Go.Proofs Go.RowKit
def bne_tt:(true !=true)=false:=rfl
def mkRR(p:Bool×Bool×List Rl):List D:=[.slice p.1 [] (Al p.2.2),.slice p.2.1 [] (Al p.2.2)]
def mkRR_inj(x y:Bool×Bool×List Rl)(e:mkRR x=mkRR y):x=y:=by
 simp only[mkRR,Qd,D.slice.injEq,true_and,and_true]at e;exact QJ e.1.1 (QJ e.2.1 (rlsD_inj e.1.2))
def F255:List D->Option D:=FX mkRR (λp=>p.2.2.length<=1000) (λ_=> .bool true)
def F255_eq{n1 n2:Bool}{l:List Rl}(h:l.length<=1000):F255 [.slice n1 [] (Al l),.slice n2 [] (Al l)]=some (.bool true):=Bq (mk:=mkRR) (a:=(n1,n2,l)) mkRR_inj h
def loop255{S:Summs}{l:List Rl}{n1 n2:Bool}{Q:Ex->St->Prop}(hb:l.length<=1000)(hexit:∀st,Q (.exit 0) st):
  ∀(f j:Nat)(st:St) g,l.length=j+f->st.s 0= .slice n1 [] (Al l)->st.s 1= .slice n2 [] (Al l)->st.s 5= .int .i64 (j:Int)->A4 S [] dc255l0 Q st g:=by
 intro f;induction f with
 |zero=>
  intro j st g hf h0 h1 h5;refine Ae dc255l0.eq_1 ?_;have:¬((j:Int)<l.length):=by omega
  simp only[↓go1,go2,go4,simprocAttr,h0,h5,this,As];exact hexit _
 |succ f ih=>
  intro j st g hf h0 h1 h5;refine Ae dc255l0.eq_1 ?_;have hj:j<l.length:=by omega
  have hlt:((j:Int)<l.length):=by omega
  have hj0:=nJ (j:=j);have hw:=wJ (j:=j) (by omega);have hat:(Al l)[j]?=some (.agg [.str l[j].1,.int .u8 l[j].2]):=by simp[Al,Qe hj,rlD]
  have hle:Bl [.str l[j].1,.int .u8 l[j].2] [.str l[j].1,.int .u8 l[j].2] [(2,0),(0,1)]=some true:=by simp[Bl,leafEq]
  obtain⟨st_s,st_m,st_c⟩:=st;simp only at h0 h1 h5;simp only[↓go1,gB2,simprocAttr,h0,h1,h5,hlt,hj0,Qn,hat,hle,As,bne_tt,gB3,Qh,Qr,Qv];refine Ao.intro (Aj rfl) ?_;simp only[↓go1,go2,go3,simprocAttr,h5,hw];exact ih (j+1) _ _ (by omega) h0 h1 rfl
def ok255:(Ac F255).ok Qc 255:=by
 refine Bx (S:=λ_=>none) AK fn255 (λ_=>by simp[mkRR]) (λp hp=>?_);obtain⟨n1,n2,l⟩:=p;simp only at hp;have hne:((l.length:Int)=(l.length:Int))=True:=eq_true rfl;unfold dc255 mkRR;simp only;simp only[↓go1,go2,go4,simprocAttr,As];refine loop255 (l:=l) (n1:=n1) (n2:=n2) hp (λst=>?_) l.length 0 _ _ (by omega) rfl rfl rfl;simp only[↓go1,gB2,reduceIte,Qj]
 all_goals first|rfl|exact⟨rfl,rfl⟩
def mkTT(p:Bs×Bs×List Rl×Bool×Bool):List D:=[tkD (p.1,p.2.1,p.2.2.2.1,p.2.2.1),tkD (p.1,p.2.1,p.2.2.2.2,p.2.2.1)]
def mkTT_inj(x y:Bs×Bs×List Rl×Bool×Bool)(e:mkTT x=mkTT y):x=y:=by
 simp only[mkTT,tkD,Qd,D.agg.injEq,D.str.injEq,D.slice.injEq,true_and,and_true]at e;obtain⟨⟨e1,e2,e3,e4⟩,_,_,e5,_⟩:=e;exact QJ e1 (QJ e2 (QJ (rlsD_inj e4) (QJ e3 e5)))
def F149:List D->Option D:=FX mkTT (λp=>p.2.2.1.length<=1000) (λ_=> .bool true)
def F149_eq{n p:Bs}{n1 n2:Bool}{l:List Rl}(h:l.length<=1000):F149 [.agg [.str n,.str p,.slice n1 [] (Al l)],.agg [.str n,.str p,.slice n2 [] (Al l)]]=some (.bool true):=Bq (mk:=mkTT) (a:=(n,p,l,n1,n2)) mkTT_inj h
def ok149:(Ac F149).ok Qc 149:=by
 obtain⟨S,hS,hl⟩:=A6 (Ab ok255 Ad);have s255:=hl 255 _ rfl;clear hl;refine Bx hS fn149 (λ_=>by simp[mkTT]) (λp hp=>?_);obtain⟨n,p,l,n1,n2⟩:=p;simp only at hp;have h255:=F255_eq (n1:=n1) (n2:=n2) hp;unfold dc149 mkTT tkD;simp only;simp only[↓go1,gB0,simprocAttr,Aa s255,h255,Ql,Qo,Af,Qb,Qd,Qu,Qi]
 all_goals first|rfl|exact⟨rfl,rfl⟩
def F256:List D->Option D:=FX mkRl (λp=>p.2.length<=1000) (λp=> .slice p.2.isEmpty [] (Al p.2))
def F256_eq{nl:Bool}{l:List Rl}(h:l.length<=1000):F256 [.slice nl [] (Al l)]=some (.slice l.isEmpty [] (Al l)):=Bq (mk:=mkRl) (a:=(nl,l)) mkRl_inj h
def loop256{S:Summs}{l:List Rl}{nl:Bool}{Q:Ex->St->Prop}(hb:l.length<=1000)
  (hexit:∀st t,st.s 3= .slice l.isEmpty t (Al l)->Q (.exit 0) st):
  ∀(f j:Nat)(t:Id) st g,l.length=j+f->st.s 0= .slice nl [] (Al l)->st.s 3= .slice (l.take j).isEmpty t (Al (l.take j))->Gw st.m st.c 191 (l.take j).isEmpty t->st.s 4= .int .i64 (j:Int)->A4 S [] dc256l0 Q st g:=by
 intro f;induction f with
 |zero=>
  intro j t st g hf h0 h3 hg h4;refine Ae dc256l0.eq_1 ?_;have:¬((j:Int)<l.length):=by omega
  simp only[↓go1,go2,go4,simprocAttr,h0,h4,this,As];rw[Qw (by omega)]at h3;exact hexit _ t h3
 |succ f ih=>
  intro j t st g hf h0 h3 hg h4;refine Ae dc256l0.eq_1 ?_;have hj:j<l.length:=by omega
  have hlt:((j:Int)<l.length):=by omega
  have hj0:=nJ (j:=j);have hw:=wJ (j:=j) (by omega);have hat:(Al l)[j]?=some (.agg [.str l[j].1,.int .u8 l[j].2]):=by simp[Al,Qe hj,rlD]
  have htk:Al (l.take (j+1))=Al (l.take j)++[.agg [.str l[j].1,.int .u8 l[j].2]]:=by
   have e:l.take (j+1)=l.take j++[l[j]]:=by rw[QO,Qe hj];rfl
   rw[e];unfold Al;rw[Q0];rfl
  have hn:(l.take j).isEmpty=true->Al (l.take j)=[]:=λh=>by rw[Zd.1 h];rfl
  have hlen:(Al (l.take j)).length<=1000:=by rw[As,QB];omega
  have hlen2:(l.take j).length<=1000:=by rw[QB];omega
  have hem:=isE_take hj;obtain⟨st_s,st_m,st_c⟩:=st;simp only at h0 h3 hg h4;simp only[↓go1,gB2,simprocAttr,h0,h3,h4,hlt,hj0,Qn,hat,As,and_false,gB3,Qh,Qr,Qv,and_false];refine Ao.intro ⟨by omega,rfl,hg.grow (by omega)⟩ ?_;rw[BH hn];simp only[↓go1,gB2,simprocAttr,h4,hw];refine ih (j+1) [st_c+4+6] _ _ (by omega) h0 ?_ ?_ rfl
  ·rw[hem,htk];rfl
  ·rw[hem];exact Gw.new (by simp only;omega)
def ok256:(Ac F256).ok Qc 256:=by
 refine Bx (S:=λ_=>none) AK fn256 (λ_=>by simp[mkRl]) (λp hp=>?_);obtain⟨nl,l⟩:=p;simp only at hp;unfold dc256 mkRl;simp only[↓go1,go2,Qj];refine loop256 (l:=l) (nl:=nl) hp (λst t h=>?_) l.length 0 [] _ _ (by omega) rfl rfl (.inl rfl) rfl;simp only[↓go1,gB2,simprocAttr,h]
def F150:List D->Option D:=FX (λk:Tk=>[tkD k]) (λk=>k.2.2.2.length<=1000) (λk=>tkD (ownT k))
def F150_eq{k:Tk}(h:k.2.2.2.length<=1000):F150 [tkD k]=some (tkD (ownT k)):=Bq (mk:=λk:Tk=>[tkD k]) (a:=k) tkD_inj1 h
def ok150:(Ac F150).ok Qc 150:=by
 obtain⟨S,hS,hl⟩:=A6 (Ab ok256 Ad);have s256:=hl 256 _ rfl;clear hl;refine Bx hS fn150 (λ_=>by simp) (λk hk=>?_);obtain⟨x1,x2,x3,x4⟩:=k;simp only at hk;have h256:=F256_eq (nl:=x3) (l:=x4) hk;unfold dc150 tkD ownT;simp only;simp only[↓go1,gB0,simprocAttr,BK,C0,Q6,Ql,Qo,Aa s256,h256,Af,Ap,Aq,Qb,Qp,Qr,Qv,Qk,Qs,Qz,Qd,Qu,Qi];refine Ao.intro (Aj rfl) ?_;simp only[↓go1,gB0,simprocAttr,Ql,Qo,Af,Ap,Aq,Qb,Qp,Qd,Qi,Bk,AX]
 all_goals first|rfl|exact⟨rfl,rfl⟩
open Classical in
def F129_eq{nl:Bool}{l:List Tk}(hl:l.length<=1000000):F129 [.agg [.slice nl [] (Ax l)]]=some (.slice (decide (l.length=0)) [] (l.map λk=> .str k.1)):=by
 have h:Er (Ax l):=D8 hl;show(if _ then _ else _)=_;rw[if_pos h,Bh]
structure LikeT (L M:List Tk):Prop where
 len:L.length=M.length
 ll:L.length<=1000
 ok:∀k∈L,tkOk k
 r:∀k∈L,k.2.2.2.length<=1000
 each:∀j,j<M.length->(AQ L j).1=(AQ M j).1∧(AQ L j).2.1=(AQ M j).2.1∧(AQ L j).2.2.2=(AQ M j).2.2.2∧AY L (AQ M j).1=true∧AQ L (bsE L (AQ M j).1)=AQ L j
def mkLT(p:Bool×List Tk×Bool×List Tk):List D:=[.agg [.slice p.1 [] (Ax p.2.1)],.slice p.2.2.1 [] (Ax p.2.2.2)]
def mkLT_inj(x y:Bool×List Tk×Bool×List Tk)(e:mkLT x=mkLT y):x=y:=by
 simp only[mkLT,Qd,D.agg.injEq,D.slice.injEq,true_and,and_true]at e;obtain⟨⟨e1,e2⟩,e3,e4⟩:=e;exact QJ e1 (QJ (FN e2) (QJ e3 (FN e4)))
def F67:List D->Option D:=FX mkLT (λp=>LikeT p.2.1 p.2.2.2) (λ_=> .bool true)
def F67_eq{n1 n2:Bool}{L M:List Tk}(h:LikeT L M):F67 [.agg [.slice n1 [] (Ax L)],.slice n2 [] (Ax M)]=some (.bool true):=Bq (mk:=mkLT) (a:=(n1,L,n2,M)) mkLT_inj h
def rd3{m:Mem}{i:Id}{x y z:D}:Ag (m.put i 0 [x,y,z]) i 0 3=some [x,y,z]:=AO rfl
def loop67{S:Summs}{L M:List Tk}{n1 n2 n5:Bool}{Q:Ex->St->Prop}(s35:S 35=some (Ac F35))(s150:S 150=some (Ac F150))(s149:S 149=some (Ac F149))(hh:LikeT L M)(hexit:∀st,Q (.exit 0) st):
  ∀(f j:Nat)(st:St) g,M.length=j+f->1<=st.c->st.s 1= .slice n2 [] (Ax M)->st.s 2= .ptr [0] 0->st.s 5= .slice n5 [] (L.map λk=> .str k.1)->st.s 6= .int .i64 (j:Int)->Ag st.m [0] 0 1=some [.slice n1 [] (Ax L)]->A4 S [] dc67l0 Q st g:=by
 have hlen:=hh.len;have hll:=hh.ll;intro f;induction f with
 |zero=>
  intro j st g hf hc h1 h2 h5 h6 hm;refine Ae dc67l0.eq_1 ?_;have:¬((j:Int)<M.length):=by omega
  simp only[↓go1,go2,go4,simprocAttr,h1,h6,this,AM];exact hexit _
 |succ f ih=>
  intro j st g hf hc h1 h2 h5 h6 hm;refine Ae dc67l0.eq_1 ?_;have hj:j<M.length:=by omega
  have hjL:j<L.length:=by omega
  have hlt:((j:Int)<M.length):=by omega
  have hltL:((j:Int)<L.length):=by omega
  have hj0:=nJ (j:=j);have hw:=wJ (j:=j) (by omega);have hat:(Ax M)[j]?=some (.agg [.str (AQ M j).1,.str (AQ M j).2.1,.slice (AQ M j).2.2.1 [] (Al (AQ M j).2.2.2)]):=DZ hj;have hatN:(L.map λk=>D.str k.1)[j]?=some (.str (AQ L j).1):=by simp[AQ,Qe hjL]
  have hr:=hh.r _ (tkAt_mem hjL);obtain⟨e1,e2,e3,e4,e5⟩:=hh.each j hj;have h35:F35 [.agg [.slice n1 [] (Ax L)],.str (AQ M j).1]=some (.tup [.agg [.str (AQ L j).1,.str (AQ L j).2.1,.slice (AQ L j).2.2.1 [] (Al (AQ L j).2.2.2)],.bool true]):=by
   rw[F35_eq (by omega) hh.ok,if_pos e4,e5];rfl
  generalize AQ M j=y at hat h35 e1 e2 e3;generalize AQ L j=x at hatN h35 hr e1 e2 e3;obtain⟨x1,x2,x3,x4⟩:=x;obtain⟨y1,y2,y3,y4⟩:=y;simp only at e1 e2 e3 hat hatN h35 hr;subst e1 e2 e3;have h150:F150 [.agg [.str x1,.str x2,.slice x3 [] (Al x4)]]=some (.agg [.str x1,.str x2,.slice x4.isEmpty [] (Al x4)]):=F150_eq (k:=(x1,x2,x3,x4)) hr;have h149:=F149_eq (n:=x1) (p:=x2) (n1:=x4.isEmpty) (n2:=y3) hr;obtain⟨st_s,st_m,st_c⟩:=st;simp only at hc h1 h2 h5 h6 hm;simp only[↓go1,gB2,simprocAttr,h1,h2,h6,hm,hlt,hj0,Qn,hat,AM,Aa s35,h35,rd3,Qq,gB3,Qh,Qf,Qb,and_self,Qk,Qs,QP];refine Ao.intro (Aj ?_) ?_
  ·first|rfl|(simp only[A2,QY,Q1,Q7,Qf,Qb,Zg,AL,Ql,Qo,gB3,QR,QZ,rds,↓go1,reduceIte,Qg,h2];simp[Ai,s35,Ac];done)|(simp only[A2,QY,Q1,Q7,Qf,Qb,Zg,AL,Ql,Qo,gB3,QR,QZ,rds,↓go1,reduceIte,Qg,h1,h2,h5,h6];simp[Ai,s35,s150,s149,Ac];trace_state;omega)
  simp only[↓go1,gB2,simprocAttr,h1,h5,h6,hj0,Qn,hat,hatN,Aa s150,h150,Aa s149,h149,rd3,Qq,gB3,Qh,Qr,Qv,Qs,QP];refine Ao.intro (Aj ?_) ?_
  ·first|rfl|(simp only[A2,QY,Q1,Q7,Qf,Qb,Zg,AL,Ql,Qo,gB3,QR,QZ,rds,↓go1,reduceIte,Qg,h1,h2,h5,h6];simp[Ai,s35,s150,s149,Ac];done)|(simp only[A2,QY,Q1,Q7,Qf,Qb,Zg,AL,Ql,Qo,gB3,QR,QZ,rds,↓go1,reduceIte,Qg,h1,h2,h5,h6];simp[Ai,s35,s150,s149,Ac];trace_state;omega)
  simp only[↓go1,go2,go3,simprocAttr,h6,hw];refine ih (j+1) _ _ (by omega) (by simp only;omega) h1 h2 h5 rfl ?_;have hne:([0]:Id)≠[st_c+4+10]:=by simp
  show Ag ((st_m.put [st_c+4+10] 0 _).put [st_c+4+10] 0 _) [0] 0 1=_;rw[AJ hne,AJ hne];exact hm
def ok67:(Ac F67).ok Qc 67:=by
 obtain⟨S,hS,hl⟩:=A6 (Ab ok129 (Ab ok35 (Ab ok150 (Ab ok149 Ad))));have s129:=hl 129 _ rfl;have s35:=hl 35 _ rfl;have s150:=hl 150 _ rfl;have s149:=hl 149 _ rfl;clear hl;refine Bx hS fn67 (λ_=>by simp[mkLT]) (λp hp=>?_);obtain⟨n1,L,n2,M⟩:=p;simp only at hp;have hlen:=hp.len;have hll:=hp.ll;have h129:=F129_eq (nl:=n1) (l:=L) (by omega);have hne:((L.length:Int)=(M.length:Int))=True:=eq_true (by omega);have hun:(L.map λk=>D.str k.1).map D.un=L.map λk=> .str k.1:=by rw[Zc];rfl
 unfold dc67 mkLT;simp only;simp only[↓go1,gB0,simprocAttr,AM,Zj,Aa s129,h129,hne,Af,Ap,Aq,Qp];refine loop67 (L:=L) (M:=M) (n1:=n1) (n2:=n2) s35 s150 s149 hp (λst=>?_) M.length 0 _ _ (by omega) (by simp only;omega) rfl rfl rfl rfl rfl;simp only[↓go1,gB2,reduceIte,Qj]
 all_goals first|rfl|exact⟨rfl,rfl⟩
def bl_irr:∀a:Bs,Op.bytesLess a a=false
 |[]=>rfl
 |x::r=>by simp[Op.bytesLess,bl_irr r]
def bl_tri:∀{a b:Bs},a≠b->Op.bytesLess a b=!Op.bytesLess b a
 |[],[],h=>absurd rfl h
 |[],y::s,_=>rfl
 |x::r,[],_=>rfl
 |x::r,y::s,h=>by
  simp only[Op.bytesLess];by_cases hxy:x=y
  ·subst hxy;have hrs:r≠s:=λe=>h (by rw[e])
   have:=bl_tri hrs;simp[this]
  ·have hyx:¬y=x:=λe=>hxy e.symm
   have h1:(x==y)=false:=by simpa using hxy
   have h2:(y==x)=false:=by simpa using hyx
   rw[h1,h2];simp only[Zs,Q4];have hn:x.toNat≠y.toNat:=λe=>hxy (UInt8.toNat_inj.1 e)
   by_cases hlt:x<y
   ·have h3:¬y<x:=by rw[UInt8.lt_iff_toNat_lt]at hlt ⊢;omega
    simp[hlt,h3]
   ·have h3:y<x:=by rw[UInt8.lt_iff_toNat_lt]at hlt ⊢;omega
    simp[hlt,h3]
def bl_trans:∀{a b c:Bs},Op.bytesLess a b=true->Op.bytesLess b c=true->Op.bytesLess a c=true
 |a,b,[],h1,h2=>by simp[Op.bytesLess]at h2
 |a,[],z::t,h1,h2=>by cases a<;>simp[Op.bytesLess]at h1
 |[],y::s,z::t,h1,h2=>rfl
 |x::r,y::s,z::t,h1,h2=>by
  simp only[Op.bytesLess,Bool.or_eq_true,QQ,decide_eq_true_eq,beq_iff_eq]at h1 h2 ⊢;rcases h1 with h1|⟨rfl,h1⟩
  ·rcases h2 with h2|⟨rfl,h2⟩
   ·left;rw[UInt8.lt_iff_toNat_lt]at h1 h2 ⊢;omega
   ·left;exact h1
  ·rcases h2 with h2|⟨rfl,h2⟩
   ·left;exact h2
   ·right;exact⟨rfl,bl_trans h1 h2⟩
def Fz(l:List Mt):Prop:=∀i j,i<j->j<l.length->Op.bytesLess (l.getD i m0t).1 (l.getD j m0t).1=true
def cmpS_lt{a b:Bs}:decide (F7 a b<0)=Op.bytesLess a b:=by
 unfold F7;split
 ·rename_i h;rw[h];rfl
 ·rename_i h;have:Op.bytesLess a b=false:=by simpa using h
  rw[this];split<;>rfl
def kFr_kR{l:List Mt}{m:Mt}(hn:∀i,i<l.length->(l.getD i m0t).1≠m.1):∀j,j<=l.length->kR ltM m0t l m j=kFr l m.1 j
 |0,_=>rfl
 |j+1,hj=>by
  have ih:=kFr_kR hn j (by omega);have ht:=bl_tri (hn j (by omega));have hlt:ltM m (l.getD j m0t)=Op.bytesLess m.1 (l.getD j m0t).1:=cmpS_lt;unfold kR kFr;rw[hlt,show A0 l j=l.getD j m0t from rfl,ht];cases Op.bytesLess m.1 (l.getD j m0t).1
  ·simp
  ·simpa using ih
def find_none{l:List Mt}{p:Bs}(h:¬0<=B0 l p):∀i,i<l.length->(l.getD i m0t).1≠p:=by
 have h1:=Gy (l.map λm=>decide (m.1=p));have h2:decide (0<=Be (l.map λm=>decide (m.1=p)))=false:=decide_eq_false h;rw[h2]at h1;intro i hi e;have h3:=Q9.1 h1.symm (decide ((l.getD i m0t).1=p)) (Za.2 ⟨l[i],QD hi,by simp[Q7,hi]⟩);exact h3 (decide_eq_true e)
def addE_addR{l:List Mt}{m:Mt}(h:Fz l):E_ l m=addR l m:=by
 unfold E_ addR;split
 ·rfl
 split
 ·rfl
 rename_i hf;split
 ·rfl
 split
 ·rfl
 have hs:∀i,i+1<l.length->ltM (l.getD (i+1) m0t) (l.getD i m0t)=false:=λi hi=>by
  have h1:=h i (i+1) (by omega) hi;unfold ltM;rw[cmpS_lt];have hne:(l.getD (i+1) m0t).1≠(l.getD i m0t).1:=λe=>by rw[e,bl_irr]at h1;cases h1
  rw[bl_tri hne,h1];rfl
 have hi:=isort_app ltM m0t l m hs l.length 1 (QF _) (by omega);rw[hi,kFr_kR (find_none hf) l.length (QF _)];split
 ·rename_i h0;have:l=[]:=List.eq_nil_of_length_eq_zero h0;subst this;rfl
 ·rfl
def kFr_in{l:List Mt}{p:Bs}:∀j,kFr l p j=0∨Op.bytesLess (l.getD (kFr l p j-1) m0t).1 p=true
 |0=> .inl rfl
 |j+1=>by
  unfold kFr;split
  ·rename_i h;right;exact h
  ·exact kFr_in j
def kFr_out{l:List Mt}{p:Bs}:∀j i,kFr l p j<=i->i<j->Op.bytesLess (l.getD i m0t).1 p=false
 |0,i,_,h=>by omega
 |j+1,i,h1,h2=>by
  unfold kFr at h1;split at h1
  ·omega
  ·rename_i h;by_cases e:i=j
   ·subst e;exact Bool.eq_false_iff.2 h
   ·exact kFr_out j i h1 (by omega)
def mid_getD{α:Type}{l:List α}{m d:α}{k i:Nat}(hk:k<=l.length):(l.take k++m::l.drop k).getD i d=if i<k then l.getD i d else if i=k then m else l.getD (i-1) d:=by
 have ht:(l.take k).length=k:=by rw[QB];omega
 simp only[Q7];split
 ·rename_i h;rw[List.getElem?_append_left (by omega),List.getElem?_take,if_pos h]
 ·rename_i h;rw[List.getElem?_append_right (by omega),ht];split
  ·rename_i e;subst e;simp
  ·rename_i e;obtain⟨q,hq⟩:∃q,i-k=q+1:=⟨i-k-1,by omega⟩;rw[hq,Qb,List.getElem?_drop];congr 2;omega
def sort_mid{l:List Mt}{m:Mt}(h:Fz l)(hn:∀i,i<l.length->(l.getD i m0t).1≠m.1):Fz (l.take (kFr l m.1 l.length)++m::l.drop (kFr l m.1 l.length)):=by
 have hk:=kFr_le l m.1 l.length;have h1:=kFr_in (l:=l) (p:=m.1) l.length;have h2:=kFr_out (l:=l) (p:=m.1) l.length;generalize kFr l m.1 l.length=k at hk h1 h2;have lo:∀i,i<k->Op.bytesLess (l.getD i m0t).1 m.1=true:=λi hi=>by
  rcases h1 with h1|h1
  ·omega
  ·by_cases e:i=k-1
   ·rw[e];exact h1
   ·exact bl_trans (h i (k-1) (by omega) (by omega)) h1
 have hi:∀i,k<=i->i<l.length->Op.bytesLess m.1 (l.getD i m0t).1=true:=λi h3 h4=>by
  rw[bl_tri (λe=>hn i h4 e.symm),h2 i h3 h4];rfl
 intro i j hij hj;have hlen:(l.take k++m::l.drop k).length=l.length+1:=by
  simp only[Qt,QA,QB,Q5];omega
 rw[hlen]at hj;rw[mid_getD hk,mid_getD hk];by_cases a1:i<k
 ·rw[if_pos a1];by_cases b1:j<k
  ·rw[if_pos b1];exact h i j hij (by omega)
  ·rw[if_neg b1];by_cases b2:j=k
   ·rw[if_pos b2];exact lo i a1
   ·rw[if_neg b2];exact h i (j-1) (by omega) (by omega)
 ·rw[if_neg a1];have b1:¬j<k:=by omega
  have b2:¬j=k:=by omega
  rw[if_neg b1,if_neg b2];by_cases a2:i=k
  ·rw[if_pos a2];exact hi (j-1) (by omega) (by omega)
  ·rw[if_neg a2];exact h (i-1) (j-1) (by omega) (by omega)
def addRt_sort{s:Bool×List Mt}{m:Mt}(h:Fz s.2):Fz (B6 s m).2:=by
 unfold B6 addR;by_cases h1:CX m.1 m.2.1≠0
 ·rw[if_pos h1];exact h
 ·rw[if_neg h1];by_cases h2:0<=B0 s.2 m.1
  ·rw[if_pos h2];exact h
  ·rw[if_neg h2];by_cases h3:EQ m.1 (s.2.map (·.1))=true
   ·rw[if_pos h3];exact h
   ·rw[if_neg h3];by_cases h4:4<=s.2.length
    ·rw[if_pos h4];exact h
    ·rw[if_neg h4];exact sort_mid h (find_none h2)
def addSt_addRt{s:Bool×List Mt}{m:Mt}(h:Fz s.2):BA s m=B6 s m:=by
 unfold BA B6;rw[addE_addR h]
def fold_mounts(ms:List Mt):∀s:Bool×List Mt,Fz s.2->ms.foldl BA s=ms.foldl B6 s∧Fz (ms.foldl B6 s).2:=by
 induction ms with
 |nil=>exact λs h=>⟨rfl,h⟩
 |cons m r ih=>
  intro s h;rw[QW,QW,addSt_addRt h];exact ih _ (addRt_sort h)
def Fc(ms:List Mt):ms.foldl BA (true,[])=ms.foldl B6 (true,[])∧Fz (ms.foldl B6 (true,[])).2:=fold_mounts ms _ (λi j _ h=>absurd h (ZC _))
def C8(l:List Tk):Prop:=∀i j,i<j->j<l.length->Op.bytesLess (AQ l i).1 (AQ l j).1=true
def AtT(l:List Tk)(s:Bs)(r:Nat):Prop:=r<=l.length∧(∀i,i<r->Op.bytesLess (AQ l i).1 s=true)∧∀i,r<=i->i<l.length->Op.bytesLess (AQ l i).1 s=false
def AtT.uniq{l:List Tk}{s:Bs}{r q:Nat}(h:AtT l s r)(k:AtT l s q):r=q:=by
 rcases Nat.lt_trichotomy r q with e|e|e
 ·have h1:=h.2.2 r (QF _) (by have:=k.1;omega);rw[k.2.1 r e]at h1;cases h1
 ·exact e
 ·have h1:=k.2.2 q (QF _) (by have:=h.1;omega);rw[h.2.1 q e]at h1;cases h1
def less_down{l:List Tk}(h:C8 l){s:Bs}{i j:Nat}(hij:i<=j)(hj:j<l.length)(hl:Op.bytesLess (AQ l j).1 s=true):Op.bytesLess (AQ l i).1 s=true:=by
 by_cases e:i=j
 ·rw[e];exact hl
 ·exact bl_trans (h i j (by omega) hj) hl
def bsR_at{l:List Tk}(h:C8 l){s:Bs}:∀(f lo hi:Nat),hi-lo<=f->lo<=hi->hi<=l.length->(∀i,i<lo->Op.bytesLess (AQ l i).1 s=true)->(∀i,hi<=i->i<l.length->Op.bytesLess (AQ l i).1 s=false)->AtT l s (bsR l s f lo hi)
 |0,lo,hi,hf,h1,h2,h3,h4=>by
  have:lo=hi:=by omega
  subst this;exact⟨h2,h3,h4⟩
 |f+1,lo,hi,hf,h1,h2,h3,h4=>by
  unfold bsR;split
  ·rename_i hlt;have hm:(lo+hi) / 2<hi:=by omega
   have hm2:lo<=(lo+hi) / 2:=by omega
   split
   ·rename_i hc;have hc':Op.bytesLess (AQ l ((lo+hi) / 2)).1 s=true:=by rw[←cmpS_lt];exact decide_eq_true hc
    exact bsR_at h f _ hi (by omega) (by omega) h2 (λi hi'=>less_down h (show i<=(lo+hi) / 2 by omega) (by omega) hc') h4
   ·rename_i hc;have hc':Op.bytesLess (AQ l ((lo+hi) / 2)).1 s=false:=by rw[←cmpS_lt];exact decide_eq_false hc
    refine bsR_at h f lo _ (by omega) hm2 (by omega) h3 (λi h5 h6=>?_);by_cases e:Op.bytesLess (AQ l i).1 s=true
    ·rw[less_down h h5 h6 e]at hc';cases hc'
    ·simpa using e
  ·have:lo=hi:=by omega
   subst this;exact⟨h2,h3,h4⟩
def bsE_at{l:List Tk}(h:C8 l)(s:Bs):AtT l s (bsE l s):=bsR_at h l.length 0 l.length (by omega) (by omega) (QF _) (λi hi=>absurd hi (ZC _)) (λi h1 h2=>by omega)
def into_at{l:List Tk}(h:C8 l){s:Bs}:∀(f j:Nat),l.length=j+f->(∀i,i<j->Op.bytesLess (AQ l i).1 s=true)->AtT l s (Eb l s f j)
 |0,j,hj,h1=>⟨by unfold Eb;omega,h1,λi h2 h3=>by unfold Eb at h2;omega⟩
 |f+1,j,hj,h1=>by
  unfold Eb;split
  ·rename_i hc;refine into_at h f (j+1) (by omega) (λi hi=>?_);by_cases e:i=j
   ·rw[e];exact hc
   ·exact h1 i (by omega)
  ·rename_i hc;refine⟨by omega,h1,λi h2 h3=>?_⟩;by_cases e:Op.bytesLess (AQ l i).1 s=true
   ·exact absurd (less_down h h2 h3 e) hc
   ·simpa using e
def bsE_into{l:List Tk}(h:C8 l)(s:Bs):bsE l s=Eb l s l.length 0:=(bsE_at h s).uniq (into_at h l.length 0 (by omega) (λi hi=>absurd hi (ZC _)))
def cmpS_zero{a b:Bs}:decide (F7 a b=0)=decide (a=b):=by
 unfold F7;split
 ·rename_i h;have:a≠b:=λe=>by rw[e,bl_irr]at h;cases h
  simp[this]
 ·split
  ·rename_i h;simp[h]
  ·rename_i h;simp[h]
def found_at{l:List Tk}(h:C8 l){j:Nat}(hj:j<l.length):bsE l (AQ l j).1=j∧AY l (AQ l j).1=true:=by
 have e:bsE l (AQ l j).1=j:=(bsE_at h _).uniq ⟨by omega,λi hi=>h i j hi hj,λi h1 h2=>by
  by_cases e:i=j
  ·rw[e];exact bl_irr _
  ·have h3:=h j i (by omega) h2;have hne:(AQ l i).1≠(AQ l j).1:=λe=>by rw[e,bl_irr]at h3;cases h3
   rw[bl_tri hne,h3];rfl⟩
 refine⟨e,?_⟩;unfold AY;rw[e,cmpS_zero];simp[hj]
def tkAt_get{l:List Tk}{j:Nat}(h:j<l.length):AQ l j=l[j]:=by simp[AQ,Qe h]
def find_found{l:List Tk}(h:C8 l)(s:Bs):(AY l s=true∧Dn l s=(bsE l s:Int)∧bsE l s<l.length)∨(AY l s=false∧Dn l s=-1):=by
 by_cases hf:AY l s=true
 ·left;have h1:=hf;unfold AY at h1;rw[cmpS_zero,QQ,decide_eq_true_eq,decide_eq_true_eq]at h1;obtain⟨hl,hn⟩:=h1;refine⟨hf,?_,hl⟩;unfold Dn;refine Fp ?_ (λi hi=>?_)
  ·rw[Zo,Qe hl,Zi];rw[tkAt_get hl]at hn;rw[decide_eq_true hn]
  ·have hil:i<l.length:=by omega
   rw[Zo,Qe hil,Zi];have h3:=(bsE_at h s).2.1 i hi;rw[tkAt_get hil]at h3;have hne:l[i].1≠s:=λe=>by rw[e,bl_irr]at h3;cases h3
   rw[decide_eq_false hne]
 ·right;have hf':AY l s=false:=by simpa using hf
  refine⟨hf',?_⟩;have hall:∀j,j<l.length->(AQ l j).1≠s:=λj hj e=>by
   have:=(found_at h hj).2;rw[e,hf']at this;cases this
  unfold Dn Be;cases hx:(l.map λm=>decide (m.1=s)).findIdx? id with
  |none=>rfl
  |some k=>
   obtain⟨hk,hp,_⟩:=List.findIdx?_eq_some_iff_getElem.1 hx;rw[Zj]at hk;simp only[List.getElem_map,id_eq,decide_eq_true_eq]at hp;exact absurd (by rw[tkAt_get hk];exact hp) (hall k hk)
def strT(k:Tk):Bs×Bs×List Rl:=(k.1,k.2.1,k.2.2.2)
def CT(L M:List Tk):Prop:=L.map strT=M.map strT
def CT.len{L M:List Tk}(h:CT L M):L.length=M.length:=by have:=congrArg List.length h;simpa using this
def CT.at{L M:List Tk}(h:CT L M)(j:Nat):(AQ L j).1=(AQ M j).1∧(AQ L j).2.1=(AQ M j).2.1∧(AQ L j).2.2.2=(AQ M j).2.2.2:=by
 have h1:(L.map strT)[j]?=(M.map strT)[j]?:=by rw[h]
 rw[Zo,Zo]at h1;unfold AQ;simp only[Q7];cases hL:L[j]?<;>cases hM:M[j]?<;>rw[hL,hM]at h1<;>simp[strT]at h1<;>simp[h1]
def CT.sort{L M:List Tk}(h:CT L M)(hs:C8 L):C8 M:=λi j hij hj=>by
 rw[←(h.at i).1,←(h.at j).1];exact hs i j hij (by rw[h.len];exact hj)
def CT.into{L M:List Tk}(h:CT L M)(s:Bs):∀f j,Eb L s f j=Eb M s f j
 |0,_=>rfl
 |f+1,j=>by
  unfold Eb;rw[(h.at j).1,CT.into h s f (j+1)]
def CT.find{L M:List Tk}(h:CT L M)(s:Bs):Dn L s=Dn M s:=by
 unfold Dn;have e:∀K:List Tk,(K.map λm=>decide (m.1=s))=(K.map strT).map λx=>decide (x.1=s):=λK=>by rw[Zc];rfl
 rw[e,e,h]
def CT.mid{L M:List Tk}(h:CT L M){k k':Tk}(hk:strT k=strT k')(j:Nat):CT (L.take j++k::L.drop j) (M.take j++k'::M.drop j):=by
 unfold CT at h ⊢;rw[Q0,Q0,Ql,Ql,ZK,ZK,ZL,ZL,h,hk]
def sortT_mid{l:List Tk}{k:Tk}(h:C8 l)(hf:AY l k.1=false):C8 (Eo l k):=by
 have hat:=bsE_at h k.1;have hne:∀i,i<l.length->(AQ l i).1≠k.1:=λi hi e=>by
  have:=(found_at h hi).2;rw[e,hf]at this;cases this
 unfold Eo;generalize bsE l k.1=q at hat;obtain⟨hq,lo,hi⟩:=hat;have hi':∀i,q<=i->i<l.length->Op.bytesLess k.1 (AQ l i).1=true:=λi h1 h2=>by
  rw[bl_tri (λe=>hne i h2 e.symm),hi i h1 h2];rfl
 intro i j hij hj;have hlen:(l.take q++k::l.drop q).length=l.length+1:=by
  simp only[Qt,QA,QB,Q5];omega
 rw[hlen]at hj;have em:∀i,AQ (l.take q++k::l.drop q) i=if i<q then AQ l i else if i=q then k else AQ l (i-1):=λi=>mid_getD hq
 rw[em,em];by_cases a1:i<q
 ·rw[if_pos a1];by_cases b1:j<q
  ·rw[if_pos b1];exact h i j hij (by omega)
  ·rw[if_neg b1];by_cases b2:j=q
   ·rw[if_pos b2];exact lo i a1
   ·rw[if_neg b2];exact h i (j-1) (by omega) (by omega)
 ·rw[if_neg a1];have b1:¬j<q:=by omega
  have b2:¬j=q:=by omega
  rw[if_neg b1,if_neg b2];by_cases a2:i=q
  ·rw[if_pos a2];exact hi' (j-1) (by omega) (by omega)
  ·rw[if_neg a2];exact h (i-1) (j-1) (by omega) (by omega)
def make_same{s r:Bool×List Tk}{k:Tk}(h:CT s.2 r.2)(hs:C8 s.2):CT (Bg s k).2 (B3 r k).2∧C8 (Bg s k).2:=by
 unfold Bg B3 DB makeR;have e1:(ownT k).1=k.1:=rfl;have e2:(ownT k).2.1=k.2.1:=rfl;have e3:(ownT k).2.2.2=k.2.2.2:=rfl;rw[e1,e2,e3,←h.find,←h.find];by_cases h1:Gg k.1 k.2.1 k.2.2.2≠0
 ·rw[if_pos h1,if_pos h1];exact⟨h,hs⟩
 rw[if_neg h1,if_neg h1];by_cases h2:k.2.1=[]
 ·rw[if_pos h2,if_pos h2];exact⟨h,hs⟩
 rw[if_neg h2,if_neg h2];rcases find_found hs k.1 with ⟨f1,f2,f3⟩|⟨f1,f2⟩
 ·have n2:0<=Dn s.2 k.1:=by rw[f2];omega
  rw[if_pos f1,if_pos n2];exact⟨h,hs⟩
 have n1:¬AY s.2 k.1=true:=by rw[f1];decide
 have n2:¬0<=Dn s.2 k.1:=by rw[f2];decide
 rw[if_neg n1,if_neg n2];rcases find_found hs k.2.1 with ⟨g1,g2,g3⟩|⟨g1,g2⟩
 ·have p1:¬AY s.2 k.2.1=false:=by rw[g1];decide
  have p2:¬Dn s.2 k.2.1<0:=by rw[g2];omega
  rw[if_neg p1,if_neg p2,g2,Qn,←(h.at _).2.2];by_cases h5:DI k.2.2.2 (AQ s.2 (bsE s.2 k.2.1)).2.2.2=false
  ·rw[if_pos h5,if_pos h5];exact⟨h,hs⟩
  rw[if_neg h5,if_neg h5];refine⟨?_,sortT_mid (k:=ownT k) hs f1⟩;show CT (Eo s.2 (ownT k)) (withR r.2 k);unfold Eo withR;rw[e1,bsE_into hs,h.into,h.len];exact h.mid (k:=ownT k) (k':=k) (show strT (ownT k)=strT k from rfl) _
 ·have p2:Dn s.2 k.2.1<0:=by rw[g2];decide
  rw[if_pos g1,if_pos p2];exact⟨h,hs⟩
def fold_tokens(ks:List Tk):∀s r:Bool×List Tk,CT s.2 r.2->C8 s.2->CT (ks.foldl Bg s).2 (ks.foldl B3 r).2∧C8 (ks.foldl Bg s).2:=by
 induction ks with
 |nil=>exact λs r h hs=>⟨h,hs⟩
 |cons k t ih=>
  intro s r h hs;rw[QW,QW];obtain⟨h1,h2⟩:=make_same (k:=k) h hs;exact ih _ _ h1 h2
def view_tokens(ks:List Tk):CT (ks.foldl Bg (false,[firstTk])).2 (ks.foldl B3 (false,[firstTk])).2∧C8 (ks.foldl Bg (false,[firstTk])).2:=
 fold_tokens ks _ _ rfl (λi j h1 h2=>by simp at h2;omega)
structure LikeV (v r:Vw):Prop where
 se:v.se=r.se
 te:v.te=r.te
 key:v.key=r.key
 ms:v.ms=r.ms
 ks:CT v.ks r.ks
 sort:C8 v.ks
def view_like{v:Vw}:LikeV (E6 v) (docV v):=⟨rfl,rfl,rfl,by show(v.ms.foldl BA (true,[])).2=_;rw[(Fc v.ms).1];rfl,(view_tokens v.ks).1,(view_tokens v.ks).2⟩
def view_likeT{v:Vw}(h:SeenOk v):LikeT (E6 v).ks (docV v).ks:=by
 obtain⟨h1,h2⟩:=view_tokens v.ks;have hfold:∀(ks:List Tk)(s:Bool×List Tk)(n:Nat),Fy s n->(∀k∈s.2,k.2.2.2.length<=1000)->(∀k∈ks,TkG k∧k.2.2.2.length<=1000)->Fy (ks.foldl Bg s) (n+ks.length)∧∀k∈(ks.foldl Bg s).2,k.2.2.2.length<=1000:=by
  intro ks;induction ks with
  |nil=>exact λs n h h' _=>⟨h,h'⟩
  |cons k t ih=>
   intro s n hs hs' hk;rw[QW,QA,show n+(t.length+1)=n+1+t.length by omega];refine ih _ (n+1) (makeSt_ok hs (hk k (QI ..)).1) ?_ (λx hx=>hk x (Q3 _ hx));intro x hx;unfold Bg at hx;split at hx
   ·exact hs' x hx
   ·rename_i l hl;unfold DB at hl
    repeat' split at hl
    all_goals first|(cases hl;done)|skip
    simp only[Qm]at hl;subst hl;unfold Eo at hx;rcases QT.1 hx with h1|h1
    ·exact hs' x (Zp h1)
    ·rcases Qx.1 h1 with rfl|h1
     ·exact(hk k (QI ..)).2
     ·exact hs' x (Zq h1)
 obtain⟨f1,f2⟩:=hfold v.ks (false,[firstTk]) 1 first_ok (λk hk=>by rw[Qy.1 hk];decide) (λk hk=>⟨h.kp k hk,h.kr k hk⟩);have hl:=h.kl;refine⟨h1.len,?_,λk hk=>(f1.2 k hk).2.2.1,f2,λj hj=>?_⟩
 ·have:=f1.1;show(v.ks.foldl Bg (false,[firstTk])).2.length<=1000;omega
 ·obtain⟨e1,e2,e3⟩:=h1.at j;have hjL:j<(E6 v).ks.length:=by rw[show(E6 v).ks.length=(docV v).ks.length from h1.len];exact hj
  obtain⟨g1,g2⟩:=found_at h2 hjL;refine⟨e1,e2,e3,?_,?_⟩
  ·rw[show(AQ (docV v).ks j).1=(AQ (E6 v).ks j).1 from e1.symm];exact g2
  ·rw[show(AQ (docV v).ks j).1=(AQ (E6 v).ks j).1 from e1.symm];exact congrArg (AQ (E6 v).ks) g1
def foldR_ok:∀(ms:List Mt)(s:Bool×List Mt)(n:Nat),MtOk s n->(∀x∈s.2,x.1.length<=1000)->(∀m∈ms,m.1.length<=1000)->MtOk (ms.foldl B6 s) (n+ms.length)∧∀x∈(ms.foldl B6 s).2,x.1.length<=1000
 |[],s,n,h,h',_=>⟨h,h'⟩
 |m::r,s,n,h,h',hm=>by
  obtain⟨h1,h2⟩:=addRt_ok h h' (hm m (QI ..));rw[QW,QA,show n+(r.length+1)=n+1+r.length by omega];exact foldR_ok r _ _ h1 h2 (λx hx=>hm x (Q3 _ hx))
def foldS_ok:∀(ks:List Tk)(s:Bool×List Tk)(n:Nat),Fy s n->(∀k∈ks,TkG k)->Fy (ks.foldl Bg s) (n+ks.length)
 |[],s,n,h,_=>h
 |k::r,s,n,h,hk=>by
  rw[QW,QA,show n+(r.length+1)=n+1+r.length by omega];exact foldS_ok r _ _ (makeSt_ok h (hk k (QI ..))) (λx hx=>hk x (Q3 _ hx))
def foldT_ok:∀(ks:List Tk)(s:Bool×List Tk)(n:Nat),Fy s n->(∀k∈ks,TkG k)->Fy (ks.foldl B3 s) (n+ks.length)
 |[],s,n,h,_=>h
 |k::r,s,n,h,hk=>by
  rw[QW,QA,show n+(r.length+1)=n+1+r.length by omega];exact foldT_ok r _ _ (makeRt_ok h (hk k (QI ..))) (λx hx=>hk x (Q3 _ hx))
def doc_ok{v:Vw}(h:SeenOk v):VwOk (docV v):=by
 obtain⟨h1,h2⟩:=foldR_ok v.ms (true,[]) 0 ⟨QF _,λ_=>rfl⟩ (λx hx=>by cases hx) h.mp;have h3:=foldT_ok v.ks (false,[firstTk]) 1 first_ok h.kp;have hm:=h.ml;have hk:=h.kl;refine⟨?_,h2,?_,λk hk=>⟨(h3.2 k hk).2.2.1,(h3.2 k hk).2.2.2⟩⟩
 ·have:=h1.1;show(v.ms.foldl B6 (true,[])).2.length<=1000;omega
 ·have:=h3.1;show(v.ks.foldl B3 (false,[firstTk])).2.length<=1000;omega
def see_ok{v:Vw}(h:SeenOk v):VwOk (E6 v):=by
 have hd:=doc_ok h;have h3:=foldS_ok v.ks (false,[firstTk]) 1 first_ok h.kp;have hk:=h.kl;have e:(E6 v).ms=(docV v).ms:=view_like.ms;refine⟨by rw[e];exact hd.ml,by rw[e];exact hd.mp,?_,λk hk=>⟨(h3.2 k hk).2.2.1,(h3.2 k hk).2.2.2⟩⟩;have:=h3.1;show(v.ks.foldl Bg (false,[firstTk])).2.length<=1000;omega
def rawT(k:Tk):Prop:=(k.2.2.1=true->k.2.2.2=[])∧DW k.2.2.2
def overR_false{l:List Rl}(h:overR l=false):l.length<=8∧∀r∈l,r.1.length<=100:=by
 unfold overR at h;rw[QC]at h;refine⟨by have:=of_decide_eq_false h.1;omega,λr hr=>?_⟩;have h2:=Q9.1 h.2 r hr;unfold bigR at h2;simp only[decide_eq_true_eq]at h2;omega
def seen_of{v:Vw}(h:overS v=false)(hr:∀k∈v.ks,rawT k):SeenOk v:=by
 unfold overS at h;rw[QC,QC,QC]at h;obtain⟨⟨⟨h1,h2⟩,h3⟩,h4⟩:=h;unfold overT at h3;rw[QC]at h3;have hk:∀k∈v.ks,k.1.length<=40∧k.2.1.length<=40∧overR k.2.2.2=false:=λk hk=>by
  have h5:=Q9.1 h3.2 k hk;unfold bigT at h5;rw[Bool.not_eq_true,QC,QC]at h5;exact⟨by have:=of_decide_eq_false h5.1.1;omega,by have:=of_decide_eq_false h5.1.2;omega,h5.2⟩
 refine⟨by have:=of_decide_eq_false h2;omega,λm hm=>?_,by have:=of_decide_eq_false h3.1;omega,λk hk'=>?_,λk hk'=>?_⟩
 ·have h5:=Q9.1 h4 m hm;unfold bigM at h5;simp only[decide_eq_true_eq]at h5;omega
 ·obtain⟨a1,a2,a3⟩:=hk k hk';obtain⟨b1,b2⟩:=overR_false a3;obtain⟨c1,c2⟩:=hr k hk';exact⟨by omega,by omega,⟨by omega,c1⟩,⟨by omega,λr hr=>by have:=b2 r hr;omega,c2⟩⟩
 ·obtain⟨_,_,a3⟩:=hk k hk';have:=(overR_false a3).1;omega
def ask_of{a:Ak}(h:overA a=false)(h0:0<=a.op)(h1:a.op<256)(hr:DW a.rs):AkOk a:=by
 unfold overA at h;simp only[QC,decide_eq_false_iff_not]at h;obtain⟨⟨⟨⟨⟨⟨e1,e2⟩,e3⟩,e4⟩,e5⟩,e6⟩,e7⟩:=h;obtain⟨b1,b2⟩:=overR_false e6;exact⟨h0,h1,by omega,by omega,by omega,by omega,by omega,by omega,λr hr'=>⟨by have:=b2 r hr';omega,(hr r hr').1⟩,by omega⟩
def MsOk(l:List Mt):Prop:=l.length<=1000∧∀m∈l,m.1.length<=1000
def mkMM(p:Bool×Bool×List Mt):List D:=[.agg [.slice p.1 [] (Ar p.2.2)],.slice p.2.1 [] (Ar p.2.2)]
def mkMM_inj(x y:Bool×Bool×List Mt)(e:mkMM x=mkMM y):x=y:=by
 simp only[mkMM,Qd,D.agg.injEq,D.slice.injEq,true_and,and_true]at e;exact QJ e.1.1 (QJ e.2.1 (mtsD_inj e.1.2))
def F66:List D->Option D:=FX mkMM (λp=>MsOk p.2.2∧(p.1=true->p.2.2=[])) (λ_=> .bool true)
def F66_eq{n1 n2:Bool}{l:List Mt}(h:MsOk l)(hn:n1=true->l=[]):F66 [.agg [.slice n1 [] (Ar l)],.slice n2 [] (Ar l)]=some (.bool true):=Bq (mk:=mkMM) (a:=(n1,n2,l)) mkMM_inj ⟨h,hn⟩
def mkVV(p:Vw×Vw):List D:=[vwD p.1,vwD p.2]
def mkVV_inj(x y:Vw×Vw)(e:mkVV x=mkVV y):x=y:=by
 simp only[mkVV,Qd,and_true]at e;exact QJ (Gb e.1) (Gb e.2)
structure AlikeV (v r:Vw):Prop where
 se:v.se=r.se
 te:v.te=r.te
 key:v.key=r.key
 ms:v.ms=r.ms
 mo:MsOk v.ms
 mn:v.nlm=true->v.ms=[]
 ks:LikeT v.ks r.ks
def F22:List D->Option D:=FX mkVV (λp=>AlikeV p.1 p.2) (λ_=> .bool true)
def F22_eq{v r:Vw}(h:AlikeV v r):F22 [vwD v,vwD r]=some (.bool true):=Bq (mk:=mkVV) (a:=(v,r)) mkVV_inj h
def ok22(ok66:(Ac F66).ok Qc 66):(Ac F22).ok Qc 22:=by
 obtain⟨S,hS,hl⟩:=A6 (Ab ok66 (Ab ok67 Ad));have s66:=hl 66 _ rfl;have s67:=hl 67 _ rfl;clear hl;refine Bx hS fn22 (λ_=>by simp[mkVV]) (λp hp=>?_);obtain⟨⟨a1,a2,a3,a4,a5,a6,a7⟩,⟨b1,b2,b3,b4,b5,b6,b7⟩⟩:=p;obtain⟨h1,h2,h3,h4,h5,h6,h7⟩:=hp;simp only at h1 h2 h3 h4 h5 h6 h7;subst h1 h2 h3 h4;have h66:=F66_eq (n1:=a4) (n2:=b4) h5 h6;have h67:=F67_eq (n1:=a6) (n2:=b6) h7;unfold dc22 mkVV vwD vwC;simp only;cases a1<;>simp only[↓go1,gB0,simprocAttr,Aa s66,h66,Aa s67,h67,Af,Ap,Aq,Qb,Qp,Qd,Qu,Qi]<;>(try (first|rfl|exact⟨rfl,rfl⟩))
def alike_view{v:Vw}(h:SeenOk v):AlikeV (E6 v) (docV v):=by
 have hl:=view_like (v:=v);have hs:=see_ok h;obtain⟨h1,_⟩:=foldR_ok v.ms (true,[]) 0 ⟨QF _,λ_=>rfl⟩ (λx hx=>by cases hx) h.mp;refine⟨rfl,rfl,rfl,hl.ms,⟨hs.ml,hs.mp⟩,λe=>?_,view_likeT h⟩;have e2:(v.ms.foldl BA (true,[])).1=true:=e;rw[(Fc v.ms).1]at e2;show(v.ms.foldl BA (true,[])).2=[];rw[(Fc v.ms).1];exact h1.2 e2
def rowB(s:Bs):Bs:=beB 2 s.length++s
def mtB(m:Mt):Bs:=rowB m.1++[UInt8.ofNat (m.2.1 % 256).toNat,if m.2.2 then 1 else 0]
def Cp(l:List Mt):Bs:=l.flatMap mtB
def rowB_len(s:Bs):(rowB s).length=2+s.length:=by simp[rowB,GC]
def mtB_len(m:Mt):(mtB m).length=4+m.1.length:=by simp[mtB,rowB_len];omega
def tabB_take{l:List Mt}{j:Nat}(h:j<l.length):Cp (l.take (j+1))=Cp (l.take j)++mtB (A0 l j):=by
 have e:A0 l j=l[j]:=by simp[A0,Qe h]
 rw[e,Cp,Cp,←List.take_append_getElem h,List.flatMap_append];simp
def mtAt_mem{l:List Mt}{j:Nat}(h:j<l.length):A0 l j∈l:=by simp[A0,Qe h]
def lenR_eq{l:List Mt}:∀(f j a:Nat),l.length=j+f->lenR l f j a=a+(Cp (l.drop j)).length
 |0,j,a,h=>by
  rw[List.drop_eq_nil_of_le (by omega)];rfl
 |f+1,j,a,h=>by
  have hj:j<l.length:=by omega
  unfold lenR;rw[lenR_eq f (j+1) _ (by omega),Zh hj];have e:A0 l j=l[j]:=by simp[A0,Qe hj]
  rw[e];simp only[Cp,QR,Qt,mtB_len];omega
def lenM_eq(l:List Mt):lenM l=(Cp l).length:=by
 unfold lenM;rw[lenR_eq l.length 0 0 (by omega),Qh,Qs]
def tabB_le{l:List Mt}(h:MsOk l):∀j,j<=l.length->(Cp (l.take j)).length<=1004*j
 |0,_=>by simp[Cp]
 |j+1,hj=>by
  have h1:=tabB_le h j (by omega);have h2:=h.2 _ (mtAt_mem (show j<l.length by omega));rw[tabB_take (by omega),Qt,mtB_len];omega
def set_end(a:Bs)(x y z:UInt8):(a++[x,y]).set ((a++[x,y]).length-1) z=a++[x,z]:=by
 rw[Qt,List.set_append_right _ _ (by simp)];congr 1;have:a.length+[x,y].length-1-a.length=1:=by simp
 rw[this];rfl
end Go.Vd
namespace Go.Vd
open Go.Proofs
def dc126l0:=y1 f126 3 [] []
def dc126:=y0 f126 [] [(3,dc126l0)]
def fn126:Fn Qc 126 35 dc126 [.t 2]:=Am func126
def dc147l0:=y1 f147 3 [] []
def dc147:=y0 f147 [] [(3,dc147l0)]
def fn147:Fn Qc 147 44 dc147 [.t 2]:=Am func147
def dc231:=y0 f231 [] []
def fn231:Fn Qc 231 22 dc231 [.t 4,.t 5]:=Am func231
def dc254:=y0 f254 [] []
def fn254:Fn Qc 254 16 dc254 [.t 4,.t 5]:=Am func254
def dc326l0:=y1 f326 2 [] []
def dc326:=y0 f326 [] [(2,dc326l0)]
def fn326:Fn Qc 326 23 dc326 [.t 6]:=Am func326
def dc342l0:=y1 f342 9 [] []
def dc342l1:=y1 f342 5 [] [(9,dc342l0)]
def dc342:=y0 f342 [] [(5,dc342l1)]
def fn342:Fn Qc 342 42 dc342 [.t 6]:=Am func342
end Go.Vd
end
