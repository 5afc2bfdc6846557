/- A part of the proof; nothing in it is assumed. -/
import Derived.Test.YtglcjfimdoldbaaGreatDoorMRestoresP5

set_option linter.unusedSimpArgs false
set_option linter.unusedVariables false
set_option linter.defProp false
set_option maxHeartbeats 4000000
set_option maxRecDepth 100000
open Int renaming toNat_natCast→Qh,toNat_zero→QH,tmod_eq_emod_of_nonneg→Zf,tdiv_eq_ediv_of_nonneg→Zg,lt_irrefl→Zr,toNat_one→Zs,zero_add→ZG
open Option renaming isSome_some→Qi,bind_some→Qu,getD_some→QL,isSome_none→Q_,getD_none→Zz,map→ZD,map_map→ZE
open Nat renaming le_of_ble_eq_true→Qj,reduceEqDiff→Qo,zero_le→Qw,le_refl→QA,reduceAdd→QE,not_lt_zero→QR,succ_ne_zero→Q2,sub_zero→Q7,zero_ne_one→Zb,le_trans→Zd,zero_add→Zm,pow_le_pow_right→Zp,lt_or_ge→Zv,reduceLeDiff→Zw,min_eq_left→ZC
open List renaming getElem?_cons_succ→Qk,getElem?_eq_getElem→Ql,getElem?_cons_zero→Qm,drop_zero→Qn,take_of_length_le→Qq,drop_succ_cons→Qs,drop_eq_getElem_cons→Qt,head?_cons→Qv,length_nil→Qx,length_cons→Qy,length_append→Qz,take_succ_eq_append_getElem→QD,take_succ_cons→QF,drop→QG,take_zero→QI,map_cons→QJ,take→QK,getElem_mem→QM,append_assoc→QO,map_nil→QP,drop_of_length_le→QQ,not_mem_nil→QS,getD→QT,flatMap_cons→QU,nil_append→QV,all_cons→QW,length_take→QX,length_map→QY,flatMap_nil→QZ,take_append_drop→Q0,all_nil→Q1,append_nil→Q3,mem_singleton→Q5,filter_append→Q6,length_filter_le→Q8,mem_of_mem_take→Za,mem_append→Zc,any_eq_false→Zi,length_eq_zero_iff→Zk,length_drop→Zl,drop_eq_nil_of_le→Zn,getElem_of_mem→Zq,take_add_one→Zu,isEmpty_iff→Zx,drop_length→Zy,map_append→ZA,drop_take→ZF
open Bool renaming not_false→Qp,not_true→Qr,false_ne_true→Q4,false_eq_true→Zh,and_eq_true→Zj,decide_and→ZB
open List.cons renaming injEq→QB
open Go.Proofs.Tryz renaming prog→QC
open Option.some renaming injEq→QN,inj→Zo
open Prod renaming ext→Q9
open Array renaming getD_eq_getD_getElem?→Ze
open Prod.mk renaming injEq→Zt
open Go.Proofs.Tryz
noncomputable section
namespace Go.Vd
open Go.Proofs Go.RowKit
def TU(l:List Mt)(k:Nat):QK k (Ax l)=Ax (l.take k):=by simp[Ax]
def TW(l:List Mt)(k:Nat):QG k (Ax l)=Ax (l.drop k):=by simp[Ax]
def uZ(nl:Bool)(l:List Mt)(o:Option (List Mt)):D:=match o with
 |none=> .slice nl [] (Ax l)
 |some z=> .slice false [] (Ax z)
open Classical in
def F47:List D->Option D
 |[.slice nl _ xs,.agg [.str p,.int .i64 q,.bool b]]=>if OP nl xs∧xs.length<=1000∧p.length<=1000000∧(∀m∈B7 xs,m.1.length<=1000000)then some (.tup [uZ nl (B7 xs) (SO (B7 xs) (p,q,b)).1,.int .i64 (SO (B7 xs) (p,q,b)).2])else none
 |_=>none
open Classical in
def aT9{nl:Bool}{t:Id}{l:List Mt}{m:Mt}(hl:l.length<=1000)(c:nl=true->l=[])(o:m.1.length<=1000000)(p:∀m∈l,m.1.length<=1000000):F47 [.slice nl t (Ax l),HI m]=some (.tup [uZ nl l (SO l m).1,.int .i64 (SO l m).2]):=by
 have h:OP nl (Ax l)∧(Ax l).length<=1000∧m.1.length<=1000000∧(∀m∈B7 (Ax l),m.1.length<=1000000):=⟨MH O c,by rw[AC];exact hl,o,by rw[Bd];exact p⟩;show(if _ then _ else _)=_;rw[if_pos h,Bd]
open Classical in
def aT2{nl:Bool}{t:Id}{l:List Mt}{p:Bs}(hl:l.length<=1000000):F74 [.slice nl t (Ax l),.str p]=some (.int .i64 (CH l p)):=by
 have h:Ax l=Ax (B7 (Ax l))∧(Ax l).length<=1000000:=XO
 show(if _ then _ else _)=_;rw[if_pos h,Bd]
def aZY:Kq F47 88:=by
 obtain⟨S,hS,hl⟩:=A4 (Aa aWe (Aa aZR (Aa aMN Ae)));have a:=hl 158 _ rfl;have f:=hl 159 _ rfl;have x:=hl 160 _ rfl;clear hl;refine AB (S:=S) hS (Al func88:Fn QC 88 72 aYh [.t 4,.t 5]) (λds r h=>?_) (λds r h=>?_)
 ·unfold F47 at h;split at h
  ·simp
  ·cases h
 ·unfold F47 at h;split at h
  ·rename_i nl t xs p q b;split at h
   ·rename_i g;obtain⟨g,ea,hp,ka⟩:=g;obtain⟨l,rfl,hl,c,e⟩:=Lm g;rw[e]at h ka;rw[AC]at ea;simp only[QN]at h;subst h;have ja:aMc [.agg [.str p,.int .i64 q,.bool b]]=some (.int .i64 (Cp p q)):=if_pos hp;have d:=aT2 (nl:=nl) (t:=[]) (p:=p) hl;unfold aYh SO;simp only;generalize Cp p q=n at *;generalize CH l p=j at *;by_cases m:n=0
    ·subst m;by_cases ga:0<=j
     ·simp only[↓GQ,Hb,simprocAttr,Ab a,ja,Ab f,d,ne_eq,Aj,Ar,As,Qk,Qu,ga];cases nl<;>exact⟨rfl,rfl⟩
     ·simp only[↓GQ,Hb,simprocAttr,Ab a,ja,Ab f,d,ne_eq,Aj,Ar,As,Qk,Qu,ga];refine aRs (l:=l) (p:=p) (nl:=nl) (t:=t) (d1:= .int .i64 q) (d2:= .bool b) ea x ka hp (λz u h4 h5=>?_) (λz u y h3 h7 m0 m1 m2=>?_) l.length 0 _ _ O (λi hi=>absurd hi (QR _)) rfl rfl rfl rfl ?_ ?_ ?_
      ·rw[u];simp only[↓GQ,GT,reduceIte,ga,h4,h5];cases nl<;>exact⟨rfl,rfl⟩
      ·rw[u];by_cases h4:4<=l.length
       ·have w:(4:Int)<=(l.length:Int):=by omega
        simp only[↓GQ,GT,simprocAttr,AC,ga,y,h4,w];cases nl<;>exact⟨rfl,rfl⟩
       ·have w:¬(4:Int)<=(l.length:Int):=by omega
        have s:=kL l p l.length;generalize Ti l p l.length=k at h7 s;have ma:(0:Int)<=(k:Int):=O
        have ia:(k:Int)<=(l.length:Int):=O
        have o:((l.take k).length*33<=140737488355328)=True:=eq_true Xn;have ra:(((l.take k).length+1)*33<=140737488355328)=True:=eq_true Xn;have fa:(((l.take k).length+1+(l.drop k).length)*33<=140737488355328)=True:=eq_true Xs;have pa:QK (l.length-k) (QG k l)=QG k l:=Qq XV;have na:aF [D.agg [.str p,.int .i64 q,.bool b]] 3=3:=rfl;have v:(k<=l.length)=True:=eq_true s;simp only[↓GQ,Hb,simprocAttr,ne_eq,AC,Aj,Ar,As,Qk,Qu,Qn,QB,false_and,and_false,y,h3,h7,m0,m1,m2,w,ma,ia,Qh,CY,Cx,QV,TV,TU,TW,Qn,Qz,o,ra,fa,or_true,na,ite_self,pa];refine aA (Ah ?_) ?_
        ·simp only[Ap,QW,Q1,QT,Qm,Qk,QL,An,Qy,Qx,QU,QZ,GZ,↓GQ,reduceIte,Qo,h3];simp[Ag]
        simp only[↓GQ,GT,reduceIte,Qo,Qn,ga,h4,TU,TW,Qn,ite_self,pa];have e9:Ax (QK k l)++[D.agg [.str p,.int .i64 q,.bool b]]++Ax (QG k l)=Ax (QK k l++(p,q,b)::QG k l):=by simp[Ax,HI]
        rw[e9];exact⟨rfl,rfl⟩
      all_goals simp only[Hx,simprocAttr,Aj,Qw,Q7,Hs,Qm,Qk,and_self]
    ·simp only[↓GQ,Hb,simprocAttr,Ab a,ja,ne_eq,Aj,Ar,As,Qk,Qu,m];cases nl<;>exact⟨rfl,rfl⟩
   ·cases h
  ·cases h
def TB(l:List Tk)(k:Nat):QK k (Au l)=Au (l.take k):=by simp[Au]
def TD(l:List Tk)(k:Nat):QG k (Au l)=Au (l.drop k):=by simp[Au]
def dP(l:List Tk)(n:Bs):∀f j,Fp l n f j<=j+f
 |0,j=>QA _
 |f+1,j=>by
  unfold Fp;split
  ·have:=dP l n f (j+1);omega
  ·omega
def aJv{S:GR}{l:List Tk}{n:Bs}{nl:Bool}{t:Id}{d1 d2:D}{e:Nat}{Q:Ex->St->Prop}(i:l.length<=1000000)
  (b:∀z,1<=z.c->z.s 0= .slice nl t (Au l)->z.s 3= .ptr [0] 0->z.s 5= .int .i64 (e:Int)->z.m [0] 0=some (.str n)->z.m [0] 1=some d1->z.m [0] 2=some d2->Q (.exit 0) z):
  ∀(f j:Nat) z g,l.length=j+f->Fp l n f j=e->1<=z.c->z.s 0= .slice nl t (Au l)->z.s 3= .ptr [0] 0->z.s 5= .int .i64 (j:Int)->
   z.m [0] 0=some (.str n)->z.m [0] 1=some d1->z.m [0] 2=some d2->AK S [] P0 Q z g:=by
 intro f;induction f with
 |zero=>
  intro j z g o q p y d k ea qa sa;refine Af P0.eq_1 ?_;have v:¬((j:Int)<l.length):=O
  simp only[↓GQ,GX,Hf,simprocAttr,y,k,v,AD];refine AJ ?_;simp only[↓GQ,GX,reduceIte,Qo];exact b _ Xb y d (by rw[←q];exact k) ea qa sa
 |succ f ih=>
  intro j z g o q p y d k ea qa sa;refine Af P0.eq_1 ?_;have w:j<l.length:=O
  have v:((j:Int)<l.length):=O
  have u:=nJ (j:=j);have x:=wJ (j:=j) O;have ia:(Au l)[j]?=some (.agg [.str (AP l j).1,.str (AP l j).2.1,.slice (AP l j).2.2.1 [] (Am (AP l j).2.2.2)]):=Dp w;unfold Fp at q;generalize AP l j=m at ia q;obtain⟨ja,a,r⟩:=z;simp only at y d k ea qa sa p;cases hbl:Op.bytesLess m.1 n with
  |true=>
   rw[hbl,if_pos rfl]at q;simp only[↓GQ,GT,simprocAttr,y,d,k,v,u,Qh,ia,AD,ea,Gu,Qw,Hs,Qn,Qv,hbl];refine AJ ?_;simp only[↓GQ,GX,Hx,simprocAttr,k,x];exact ih (j+1) _ _ O q Xb y d rfl ea qa sa
  |false=>
   rw[hbl,if_neg Q4]at q;simp only[↓GQ,GT,simprocAttr,y,d,k,v,u,Qh,ia,AD,ea,Gu,Qw,Hs,Qn,Qv,hbl];refine AJ ?_;simp only[↓GQ,GX,Hx,reduceIte,Qo];exact b _ Xb y d (by rw[←q];exact k) ea qa sa
open Classical in
def aHy:List D->Option D
 |[.slice _ _ xs,.agg [.str n,.str p,.slice nl _ ys]]=>if(xs=Au (Cj xs)∧xs.length<=90000)∧ys=Am (Bc ys)then some (.slice false [] (Au (Ed (Cj xs) (n,p,nl,Bc ys))))else none
 |_=>none
open Classical in
def uG{nl0 nl:Bool}{t0 t:Id}{l:List Tk}{n p:Bs}{rs:List Rl}(hl:l.length<=90000):aHy [.slice nl0 t0 (Au l),.agg [.str n,.str p,.slice nl t (Am rs)]]=some (.slice false [] (Au (Ed l (n,p,nl,rs)))):=by
 have h:(Au l=Au (Cj (Au l))∧(Au l).length<=90000)∧Am rs=Am (Bc (Am rs)):=by rw[Bg,AD,AS];exact⟨⟨rfl,hl⟩,rfl⟩
 show(if _ then _ else _)=_;rw[if_pos h,Bg,AS]
def aMJ:Kq aHy 94:=by
 refine AB (S:=λ_=>none) AO (Al func94:Fn QC 94 34 aPw [.t 4]) (λds r h=>?_) (λds r h=>?_)
 ·unfold aHy at h;split at h
  ·simp
  ·cases h
 ·unfold aHy at h;split at h
  ·rename_i nl0 t0 xs n p nl t ys;split at h
   ·rename_i g;obtain⟨⟨f,ea⟩,i⟩:=g;simp only[QN]at h;subst h;generalize Cj xs=l at *;generalize Bc ys=rs at *;subst f i;rw[AD]at ea;unfold aPw;simp only[↓GQ,GX,Hx,QE,Zm];refine aJv (l:=l) (n:=n) (nl:=nl0) (t:=t0) (d1:= .str p) (d2:= .slice nl t (Am rs)) (e:=Fp l n l.length 0) O (λz g y d b m0 x u=>?_) l.length 0 _ _ O rfl Xb rfl rfl rfl ?_ ?_ ?_
    ·unfold Ed;simp only;have s:=dP l n l.length 0;generalize Fp l n l.length 0=k at b s;rw[Zm]at s;have q:(0:Int)<=(k:Int):=by omega
     have ia:(k:Int)<=(l.length:Int):=O
     have o:((l.take k).length*57<=140737488355328)=True:=eq_true Xn;have j:(((l.take k).length+1)*57<=140737488355328)=True:=eq_true Xn;have m:(((l.take k).length+1+(l.drop k).length)*57<=140737488355328)=True:=eq_true Xs;have w:QK (l.length-k) (QG k l)=QG k l:=Qq XV;have na:aF [D.agg [.str n,.str p,.slice nl [] (Am rs)]] 3=3:=rfl;have a:(0=z.c+0)=False:=eq_false O;have v:(k<=l.length)=True:=eq_true s;simp only[↓GQ,Hb,simprocAttr,a,y,d,b,m0,x,u,q,ia,Qh,CY,Cx,QV,TC,TB,TD,Qn,Qz,o,j,m,or_true,na,ite_self,w,AD,ne_eq,Aj,Ar,As,Qk,Qu,Qn,QB,false_and,and_false];refine aA (Ah ?_) ?_
     ·simp only[Ap,QW,Q1,QT,Qm,Qk,QL,An,Qy,Qx,QU,QZ,GZ,↓GQ,reduceIte,Qo,d];simp[Ag];omega
     simp only[↓GQ,GT,reduceIte,Qo,TB,TD,Qn,ite_self,w,Qn];have e9:Au (QK k l)++[D.agg [.str n,.str p,.slice nl [] (Am rs)]]++Au (QG k l)=Au (QK k l++(n,p,nl,rs)::QG k l):=by simp[Au,HD]
     rw[e9]
    all_goals simp only[Hx,simprocAttr,Aj,Qw,Q7,Hs,Qm,Qk,and_self]
   ·cases h
  ·cases h
def O9(nl:Bool)(l:List Tk)(o:Option (List Tk)):D:=match o with
 |none=> .slice nl [] (Au l)
 |some z=> .slice false [] (Au z)
open Classical in
def F52:List D->Option D
 |[.slice nl0 _ xs,.agg [.str n,.str p,.slice nl _ ys]]=>if(Et xs∧xs.length<=90000∧∀k∈Cj xs,Dg k.2.2.2)∧LM nl ys∧Dg (Bc ys)∧n.length<=1000000∧p.length<=1000000
   then some (.tup [O9 nl0 (Cj xs) (EX (Cj xs) (n,p,nl,Bc ys)).1,.int .i64 (EX (Cj xs) (n,p,nl,Bc ys)).2])else none
 |_=>none
open Classical in
def WB{nl:Bool}{t:Id}{l:List Tk}{p:Bs}(hl:l.length<=1000000):aHA [.slice nl t (Au l),.str p]=some (.int .i64 (C0 l p)):=by
 have h:Au l=Au (Cj (Au l))∧(Au l).length<=1000000:=by rw[Bg,AD];exact⟨rfl,hl⟩
 show(if _ then _ else _)=_;rw[if_pos h,Bg]
def aDr(l:List Tk)(p:Bs):C0 l p<l.length:=by
 have:=Ur (l.map λm=>decide (m.1=p));rw[QY]at this;exact this
def aZW:Kq F52 95:=by
 obtain⟨S,hS,hl⟩:=A4 (Aa pX (Aa aMK (Aa aWc (Aa aMJ Ae))));have b:=hl 72 _ rfl;have f:=hl 93 _ rfl;have m:=hl 163 _ rfl;have o:=hl 94 _ rfl;clear hl;refine AB (S:=S) hS (Al func95:Fn QC 95 44 aYd [.t 4,.t 5]) (λds r h=>?_) (λds r h=>?_)
 ·unfold F52 at h;split at h
  ·simp
  ·cases h
 ·unfold F52 at h;split at h
  ·rename_i nl0 t0 xs n p nl t ys;split at h
   ·rename_i hc;obtain⟨⟨hc,h9,s⟩,hr,q,hn,hp⟩:=hc;obtain⟨l,rfl,hl,e⟩:=D3 hc;obtain⟨rs,rfl,ka,ha,e2⟩:=F0 hr;rw[e,e2]at h;rw[e]at s;rw[e2]at q;rw[AD]at h9;simp only[QN]at h;subst h;have w:=HV (n:=n) (p:=p) (nl:=nl) (t:=[]) ka q.2.1 hn hp;have a:=WB (nl:=nl0) (t:=[]) (p:=n) hl;have c:=WB (nl:=nl0) (t:=[]) (p:=p) hl;have i:=uG (nl0:=nl0) (t0:=[]) (n:=n) (p:=p) (nl:=nl) (t:=[]) (rs:=rs) h9;have v:=aDr l p;unfold aYd EX;simp only;generalize Dc n p rs=e at *;generalize C0 l n=fn at *;generalize C0 l p=fp at *;by_cases he:e=0
    ·subst he;by_cases x:p=[]
     ·subst x;simp only[↓GQ,Hb,simprocAttr,Ab b,w,ne_eq,Aj,Ar,As,Qk,Qu];simp[O9];rfl
     ·by_cases u:0<=fn
      ·simp only[↓GQ,Hb,simprocAttr,Ab b,w,Ab f,a,ne_eq,Aj,Ar,As,Qk,Qu,x,u];simp[O9];rfl
      ·by_cases z:fp<0
       ·simp only[↓GQ,Hb,simprocAttr,Ab b,w,Ab f,a,c,ne_eq,Aj,Ar,As,Qk,Qu,x,u,z];simp[O9];rfl
       ·have ua:(0:Int)<=fp:=by omega
        have hi:fp.toNat<l.length:=O
        have ia:=Dp (l:=l) (j:=fp.toNat) hi;have y:AP l fp.toNat∈l:=by simp[AP,Ql hi]
        have ea:=s _ y;generalize AP l fp.toNat=k at ia ea;obtain⟨n2,p2,da,g⟩:=k;replace ia:(Au l)[fp.toNat]?=some (.agg [.str n2,.str p2,.slice da [] (Am g)]):=ia;have d:=uH (na:=nl) (nb:=da) (ta:=[]) (tb:=[]) ka ea.1 q.2.1 ea.2.1 q.2.2 ea.2.2;simp only at d;cases h3:CD rs g with
        |false=>
         rw[h3]at d;simp only[↓GQ,Hb,simprocAttr,Ab b,w,Ab f,a,c,ne_eq,Aj,Ar,As,Qk,Qu,Qn,Qs,Qv,x,u,z,ua,ia,Ab m,d];refine AJ ?_;simp only[↓GQ,GT,simprocAttr,x,u,z];simp[O9];rfl
        |true=>
         rw[h3]at d;simp only[↓GQ,Hb,simprocAttr,Ab b,w,Ab f,a,c,ne_eq,Aj,Ar,As,Qk,Qu,Qn,Qs,Qv,x,u,z,ua,ia,Ab m,d];refine AJ ?_;simp only[↓GQ,Hb,simprocAttr,Ab o,i,Aj,Ar,As,Qk,Qu,x,u,z];simp[O9];rfl
    ·simp only[↓GQ,Hb,simprocAttr,Ab b,w,ne_eq,Aj,Ar,As,Qk,Qu,he];simp[O9];rfl
   ·cases h
  ·cases h
def Pv:=y1 f136 4 [] []
def aNE:=y0 f136 [] [(4,Pv)]
def PG:=y1 f73 6 [] []
def aOd:=y0 f73 [] [(6,PG)]
def T_:Nat->Nat->Nat->Bs
 |0,_,_=>[]
 |f+1,j,c=>(if c % 2=1 then(([114,119,100,120,108,115]:Bs).drop j).take 1 else [])++T_ f (j+1) (c / 2)
def aCx(c:Nat):T_ 6 0 c=Go.Ve.lettersN c:=by
 simp only[T_,Go.Ve.lettersN,Nat.div_div_eq_div_mul,Nat.reduceMul,Q3];rfl
def aI5{S:GR}{Q:Ex->St->Prop}{w:Bs}(t:w.length<=2000)(u:∀z,z.s 3= .str w->Q (.exit 0) z):
  ∀(f j c:Nat)(acc:Bs) z g,j+f=6->c<256->acc++T_ f j c=w->z.s 3= .str acc->z.s 4= .int .u8 (c:Int)->z.s 5= .int .i64 (j:Int)->AK S [] Pv Q z g:=by
 intro f;induction f with
 |zero=>
  intro j c acc z g hf hc qa k x e;refine Af Pv.eq_1 ?_;have v:¬((j:Int)<6):=O
  simp only[↓GQ,GX,Hf,reduceIte,Qo,QE,e,v];refine u _ ?_;simp only[↓GQ,reduceIte,Qo,k];rw[←qa];simp[T_]
 |succ f ih=>
  intro j c acc z g hf hc qa k x e;refine Af Pv.eq_1 ?_;have v:((j:Int)<6):=O
  have q:=nJ (j:=j);have oa:IntKind.i64.wrap ((j:Int)+1)=((j+1:Nat):Int):=Hg O O;have m:((c:Int).tmod 2=1)=(c % 2=1):=by rw[Zf O];exact propext ⟨λh=>O,λh=>O⟩
  have n:IntKind.u8.wrap ((c:Int).tdiv 2)=((c / 2:Nat):Int):=by
   rw[Zg O];simp only[IntKind.wrap,IntKind.signed,IntKind.bits,Bool.false_and,Zh,if_false];omega
  have b:((2:Int)=0)=False:=U
  have o:((j+1:Nat):Int)<=((6:Nat):Int):=O
  have ra:(j:Int)<=((j+1:Nat):Int):=O
  have d:(0:Int)<=((j+1:Nat):Int):=O
  have p:j+1-j=1:=O
  have a:=qa;unfold T_ at a;obtain⟨ja,ga,r⟩:=z;simp only at k x e;by_cases ba:c % 2=1
  ·rw[if_pos ba]at a;have y:(acc.length+(QK 1 (QG j ([114,119,100,120,108,115]:Bs))).length<=9223372036854775807)=True:=eq_true (by
    have:=congrArg List.length a;rw[←QO,Qz,Qz]at this;omega)
   simp only[↓GQ,GX,Hf,reduceIte,Qo,QE,k,x,e,v,q,d,oa,m,ba,b,ne_eq,n,o,ra,p,Qh,y,Hs,and_self];exact ih (j+1) (c / 2) _ _ _ O O (by rw[←a];simp) rfl rfl rfl
  ·rw[if_neg ba]at a;simp only[↓GQ,GX,Hf,reduceIte,Qo,QE,x,e,v,oa,m,ba,b,ne_eq,n];exact ih (j+1) (c / 2) acc _ _ O O (by rw[←a];simp) k rfl rfl
def aLq:List D->Option D:=FX (λr:Rl=>[bP r]) (λr=>r.1.length<=1000∧0<=r.2∧r.2<64) (λr=> .str (Co r))
def uB{r:Rl}(h:r.1.length<=1000∧0<=r.2∧r.2<64):aLq [.agg [.str r.1,.int .u8 r.2]]=some (.str (Co r)):=
 BG (mk:=λr:Rl=>[bP r]) (λa b h=>by
  simp only[bP,QB,D.agg.injEq,D.str.injEq,D.int.injEq,true_and,and_true]at h;exact Q9 h.1 h.2) h
def aMs:Kq aLq 136:=by
 refine B1 (S:=λ_=>none) AO (Al func136:Fn QC 136 27 aNE [.t 2]) (λ_=>U) (λr j=>?_);obtain⟨u,q,d⟩:=j;obtain⟨p,c⟩:=r;simp only at u q d;obtain⟨n,rfl⟩:∃n:Nat,c=(n:Int):=⟨c.toNat,O⟩;have hl:(p.length+1<=9223372036854775807)=True:=eq_true O;have a:=DD n;unfold aNE bP;simp only[↓GQ,GX,Hx,reduceIte,Qo,QE,hl,Aj,Qw,Nat.reduceLT,Q7,Hs,Qm,Qk,and_self];refine aI5 (w:=Co (p,(n:Int))) (by simp only[Co,Qz,Qy,Qx,Qh];omega) (λz d=>?_) 6 0 n (p++[58]) _ _ rfl O ?_ rfl rfl rfl
 ·simp only[↓GQ,GT,reduceIte,Qo,QE,d]
  all_goals exact Qe
 ·rw[aCx];rfl
def Sa(y:Bs):∀xs:List Bs,xs≠[]->B0 (xs++[y])=B0 xs++44::y
 |[x],_=>rfl
 |x::z::r,_=>by
  have:=Sa y (z::r) U;simp only[List.cons_append,B0]at this ⊢;rw[this];simp
def aJb{S:GR}{l:List Rl}{nl:Bool}{Q:Ex->St->Prop}(k:l.length<=4)(p:∀r∈l,r.1.length<=1000∧0<=r.2∧r.2<64)(h:S 136=some (Ac aLq))
  (m:∀z,z.s 5= .str (B0 (Bn l))->Q (.exit 0) z):
  ∀(f j:Nat) z g,l.length=j+f->z.s 0= .slice nl [] (Am l)->z.s 5= .str (B0 (Bn (l.take j)))->z.s 6= .int .i64 (j:Int)->AK S [] PG Q z g:=by
 intro f;induction f with
 |zero=>
  intro j z g o n h5 h6;refine Af PG.eq_1 ?_;have:¬((j:Int)<l.length):=O
  simp only[↓GQ,GX,Hf,reduceIte,Qo,QE,n,h6,this,Ay];rw[Qq O]at h5;exact m _ h5
 |succ f ih=>
  intro j z g o n h5 h6;refine Af PG.eq_1 ?_;have w:j<l.length:=O
  have v:((j:Int)<l.length):=O
  have ma:=nJ (j:=j);have hw:=wJ (j:=j) O;have hm:=p l[j] (QM w);have ia:(Am l)[j]?=some (.agg [.str l[j].1,.int .u8 l[j].2]):=by simp[Am,bP,Ql w]
  have na:l.take (j+1)=l.take j++[l[j]]:=by rw[Zu,Ql w];rfl
  have ya:=DD l[j].2.toNat;have ea:(Co l[j]).length<=1007:=by
   grind [Co]
  have ta:(B0 (Bn (l.take j))).length<=10000:=by
   have e1:=Gc (Bn (l.take j));have e2:=Mw (l:=Bn (l.take j)) (b:=1007) λx oa=>by
    obtain⟨y,hy,rfl⟩:=List.mem_map.1 oa;have u:=(p y (Za hy)).1;have q:=DD y.2.toNat;simp only[Co,Qz,Qy,Qx];omega
   rw[CC,QX]at e1 e2;omega
  generalize l[j]=r at hm ia na ea;have a:=uB hm;have i:Bn (l.take (j+1))=Bn (l.take j)++[Co r]:=by rw[na];simp[Bn]
  obtain⟨ja,d,t⟩:=z;simp only at n h5 h6;by_cases hz:0<j
  ·have c:((0:Int)<(j:Int)):=by omega
   have la:Bn (l.take j)≠[]:=by
    grind [CC]
   have l1:((B0 (Bn (l.take j))).length+1<=9223372036854775807)=True:=eq_true O;have l2:((B0 (Bn (l.take j))).length+1+(Co r).length<=9223372036854775807)=True:=eq_true O;simp only[↓GQ,GT,reduceIte,Qo,QE,n,h5,h6,v,ma,hw,c,Qh,ia,Ay,Ab h,a,l1,l2,Qz,Zw,Hs,QF,QI];refine ih (j+1) _ _ O n ?_ rfl;simp only[↓GQ,Hx,reduceIte,Qo];rw[i,Sa _ _ la];simp
  ·have c:¬((0:Int)<(j:Int)):=by omega
   obtain rfl:j=0:=O
   have l2:((B0 (Bn [])).length+(Co r).length<=9223372036854775807)=True:=eq_true (by have e:B0 (Bn [])=[]:=rfl;rw[e,Qx];omega);simp only[↓GQ,GT,reduceIte,Qo,QE,n,h5,h6,v,ma,hw,c,Qh,ia,Ay,Ab h,a,l2,Zw,Hs,QF,QI];refine ih (0+1) _ _ O ?_ ?_ ?_
   ·exact n
   ·simp only[↓GQ,Hx,reduceIte,Qo,QE];rw[i];rfl
   ·rfl
def aVz:Kq nM 73:=by
 obtain⟨S,n,hl⟩:=A4 (Aa pU (Aa aMs Ae));have d:=hl 135 _ rfl;have h:=hl 136 _ rfl;clear hl;refine B1 n (Al func73:Fn QC 73 30 aOd [.t 2,.t 3]) (λ_=>U) (λp o=>?_);obtain⟨nl,l⟩:=p;obtain⟨hl,f⟩:=o;simp only at hl f;have c:=La (nl:=nl) hl f;have y:=Li (l:=l);simp only;unfold aOd;generalize B4 l=e at c y;by_cases q:e=0
 ·subst q;obtain⟨x,v⟩:=y rfl;simp only[↓GQ,GT,reduceIte,Qo,QE,Ab d,c];refine aJb (l:=l) (nl:=nl) x (λr j=>⟨(f r j).1,(f r j).2,by have:=v r j;omega⟩) h (λz k=>?_) l.length 0 _ _ O rfl rfl rfl;simp only[↓GQ,GT,reduceIte,Qo,QE,k]
  all_goals exact Qe
 ·simp only[↓GQ,GT,reduceIte,Qo,QE,Ab d,c,q,and_self]
  all_goals exact Qe
def aYi:=y0 f100 [] []
def jW(p:Bool×List Rl):List D:=[.slice p.1 [] (Am p.2)]
def aCa(x y:Bool×List Rl)(e:jW x=jW y):x=y:=by
 grind [jW,It]
def aC8{l:List Rl}{j:Nat}(h:j<l.length):(l.take (j+1)).isEmpty=false:=by
 cases l with
 |nil=>simp at h
 |cons x r=>rfl
def aQ7(k:Tk):Tk:=(k.1,k.2.1,k.2.2.2.isEmpty,k.2.2.2)
def aA5(x y:Tk)(e:[HD x]=[HD y]):x=y:=by
 simp only[QB,and_true]at e;have:Au [x]=Au [y]:=by simp[Au,e]
 simpa using Mu this
def F46:List D->Option D:=FX (λm:Mt=>[HI m]) (λ_=>True) (λm=>HI m)
def aB6(x y:Mt)(e:[HI x]=[HI y]):x=y:=by
 simp only[QB,and_true]at e;have:Ax [x]=Ax [y]:=by simp[Ax,e]
 simpa using IE this
def aUa{m:Mt}:F46 [HI m]=some (HI m):=BG (mk:=λm:Mt=>[HI m]) (a:=m) aB6 trivial
def aZZ:Kq F46 100:=by
 refine B1 (S:=λ_=>none) AO (Al func100:Fn QC 100 8 aYi [.cell (some 3) 2]) (λ_=>U) (λm _=>?_);obtain⟨t,v,x⟩:=m;unfold aYi HI;simp only;simp only[↓GQ,Hb,simprocAttr,Bw,Eh,QV,QJ,QP,Aj,Ar,As,Qk,Qu,QF,QI,Qi,Qn,Qs,QB,Zb,Q2,Bo,AY]
 all_goals exact Qe
def aFA(s:Bool×List Mt)(m:Mt):Bool×List Mt:=match (SO s.2 m).1 with
 |none=>s
 |some l=>(false,l)
open Classical in
def nI{nl0 nl:Bool}{l:List Tk}{n p:Bs}{rs:List Rl}(hl:l.length<=90000)(s:∀k∈l,Dg k.2.2.2)(c:nl=true->rs=[])(j:Dg rs)(u:n.length<=1000000)(q:p.length<=1000000):
  F52 [.slice nl0 [] (Au l),.agg [.str n,.str p,.slice nl [] (Am rs)]]=some (.tup [O9 nl0 l (EX l (n,p,nl,rs)).1,.int .i64 (EX l (n,p,nl,rs)).2]):=by
 have h:(Et (Au l)∧(Au l).length<=90000∧∀k∈Cj (Au l),Dg k.2.2.2)∧LM nl (Am rs)∧Dg (Bc (Am rs))∧n.length<=1000000∧p.length<=1000000:=
  ⟨⟨Ee O,Yd,by rw[Bg];exact s⟩,Is j.1 c,by rw[AS];exact j,u,q⟩
 show(if _ then _ else _)=_;rw[if_pos h,Bg,AS]
def HR:=y1 f92 4 [] []
def rF:=y0 f92 [] [(4,HR)]
def aNk:Fn QC 92 26 rF [.t 4]:=Al func92
def aPg:=y0 f104 [] []
def PH:=y1 f166 3 [] []
def aOk:=y0 f166 [] [(3,PH)]
def aPf:=y0 f105 [(1,[(6,1),(6,3)])] []
def VR:=y1 f49 5 [(7,[(6,10),(10,0),(10,5),(10,6)]),(8,[(16,20)])] []
def aX7:=y0 f49 [] [(5,VR)]
def VS:=y1 f48 5 [(7,[(8,3)])] []
def aX8:=y0 f48 [] [(5,VS)]
def aYs:=y0 f15 [] []
def aFl:(true !=true)=false:=rfl
def jX(p:Bool×Bool×List Rl):List D:=[.slice p.1 [] (Am p.2.2),.slice p.2.1 [] (Am p.2.2)]
def aCb(x y:Bool×Bool×List Rl)(e:jX x=jX y):x=y:=by
 grind [jX,It]
def aZv:List D->Option D:=FX jX (λp=>p.2.2.length<=1000) (λ_=> .bool true)
def aLF{n1 n2:Bool}{l:List Rl}(h:l.length<=1000):aZv [.slice n1 [] (Am l),.slice n2 [] (Am l)]=some (.bool true):=BG (mk:=jX) (a:=(n1,n2,l)) aCb h
def aJd{S:GR}{l:List Rl}{n1 n2:Bool}{Q:Ex->St->Prop}(i:l.length<=1000)(m:∀z,Q (.exit 0) z):
  ∀(f j:Nat)(z:St) g,l.length=j+f->z.s 0= .slice n1 [] (Am l)->z.s 1= .slice n2 [] (Am l)->z.s 5= .int .i64 (j:Int)->AK S [] HR Q z g:=by
 intro f;induction f with
 |zero=>
  intro j z g o y u k;refine Af HR.eq_1 ?_;have:¬((j:Int)<l.length):=O
  simp only[↓GQ,GX,Hf,simprocAttr,y,k,this,Ay];exact m _
 |succ f ih=>
  intro j z g o y u k;refine Af HR.eq_1 ?_;have w:j<l.length:=O
  have v:((j:Int)<l.length):=O
  have q:=nJ (j:=j);have t:=wJ (j:=j) O;have ia:(Am l)[j]?=some (.agg [.str l[j].1,.int .u8 l[j].2]):=by simp[Am,Ql w,bP]
  have ta:AW [.str l[j].1,.int .u8 l[j].2] [.str l[j].1,.int .u8 l[j].2] [(2,0),(0,1)]=some true:=by simp[AW,Dt]
  obtain⟨c,d,r⟩:=z;simp only at y u k;simp only[↓GQ,GT,simprocAttr,y,u,k,v,q,Qh,ia,ta,Ay,aFl,Hs,QF,QI];refine AJ ?_;simp only[↓GQ,GX,Hx,simprocAttr,k,t];exact ih (j+1) _ _ O y u rfl
def aVG:Kq aZv 92:=by
 refine B1 (S:=λ_=>none) AO aNk (λ_=>by simp[jX]) (λp o=>?_);obtain⟨n1,n2,l⟩:=p;simp only at o;have v:((l.length:Int)=(l.length:Int))=True:=eq_true rfl;unfold rF jX;simp only;simp only[↓GQ,GX,Hf,simprocAttr,Ay];refine aJd (l:=l) (n1:=n1) (n2:=n2) o (λz=>?_) l.length 0 _ _ O rfl rfl rfl;simp only[↓GQ,GT,reduceIte,QE]
 all_goals exact Qe
def jV(p:Bs×Bs×List Rl×Bool×Bool):List D:=[HD (p.1,p.2.1,p.2.2.2.1,p.2.2.1),HD (p.1,p.2.1,p.2.2.2.2,p.2.2.1)]
def aB9(x y:Bs×Bs×List Rl×Bool×Bool)(e:jV x=jV y):x=y:=by
 simp only[jV,HD,QB,D.agg.injEq,D.str.injEq,D.slice.injEq,true_and,and_true]at e;obtain⟨⟨p,m,c,b⟩,_,_,v,_⟩:=e;exact Q9 p (Q9 m (Q9 (It b) (Q9 c v)))
def aUi:List D->Option D:=FX jV (λp=>p.2.2.1.length<=1000) (λ_=> .bool true)
def aL4{n p:Bs}{n1 n2:Bool}{l:List Rl}(h:l.length<=1000):aUi [.agg [.str n,.str p,.slice n1 [] (Am l)],.agg [.str n,.str p,.slice n2 [] (Am l)]]=some (.bool true):=BG (mk:=jV) (a:=(n,p,l,n1,n2)) aB9 h
def aV7:Kq aUi 104:=by
 obtain⟨S,v,hl⟩:=A4 (Aa aVG Ae);have a:=hl 92 _ rfl;clear hl;refine B1 v (Al func104:Fn QC 104 24 aPg [.t 4]) (λ_=>by simp[jV]) (λp o=>?_);obtain⟨n,p,l,n1,n2⟩:=p;simp only at o;have d:=aLF (n1:=n1) (n2:=n2) o;unfold aPg jV HD;simp only;simp only[↓GQ,Hb,simprocAttr,Ab a,d,QJ,QP,Aj,Qk,QB,Zb,Q2]
 all_goals exact Qe
def aZu:List D->Option D:=FX jW (λp=>p.2.length<=1000) (λp=> .slice p.2.isEmpty [] (Am p.2))
def aLE{nl:Bool}{l:List Rl}(h:l.length<=1000):aZu [.slice nl [] (Am l)]=some (.slice l.isEmpty [] (Am l)):=BG (mk:=jW) (a:=(nl,l)) aCa h
def aJc{S:GR}{l:List Rl}{nl:Bool}{Q:Ex->St->Prop}(i:l.length<=1000)
  (u:∀z t,z.s 3= .slice l.isEmpty t (Am l)->Q (.exit 0) z):
  ∀(f j:Nat)(t:Id) z g,l.length=j+f->z.s 0= .slice nl [] (Am l)->z.s 3= .slice (l.take j).isEmpty t (Am (l.take j))->Gw z.m z.c 162 (l.take j).isEmpty t->z.s 4= .int .i64 (j:Int)->AK S [] PH Q z g:=by
 intro f;induction f with
 |zero=>
  intro j t z g o y d hg x;refine Af PH.eq_1 ?_;have:¬((j:Int)<l.length):=O
  simp only[↓GQ,GX,Hf,simprocAttr,y,x,this,Ay];rw[Qq O]at d;exact u _ t d
 |succ f ih=>
  intro j t z g o y d hg x;refine Af PH.eq_1 ?_;have w:j<l.length:=O
  have v:((j:Int)<l.length):=O
  have ma:=nJ (j:=j);have p:=wJ (j:=j) O;have ia:(Am l)[j]?=some (.agg [.str l[j].1,.int .u8 l[j].2]):=by simp[Am,Ql w,bP]
  have na:Am (l.take (j+1))=Am (l.take j)++[.agg [.str l[j].1,.int .u8 l[j].2]]:=by
   have e:l.take (j+1)=l.take j++[l[j]]:=by rw[Zu,Ql w];rfl
   rw[e];unfold Am;rw[ZA];rfl
  have q:(l.take j).isEmpty=true->Am (l.take j)=[]:=λh=>by rw[Zx.1 h];rfl
  have n:(Am (l.take j)).length<=1000:=by rw[Ay,QX];omega
  have a:(l.take j).length<=1000:=Xn
  have b:=aC8 w;obtain⟨ja,k,r⟩:=z;simp only at y d hg x;simp only[↓GQ,GT,simprocAttr,y,d,x,v,ma,Qh,ia,Ay,and_false,Hs,QF,QI,and_false];refine aA ⟨O,rfl,hg.grow O⟩ ?_;rw[Ba q];simp only[↓GQ,GT,simprocAttr,x,p];refine ih (j+1) [r+4+6] _ _ O y ?_ ?_ rfl
  ·rw[b,na];rfl
  ·grind [Gw.new]
def aVF:Kq aZu 166:=by
 refine B1 (S:=λ_=>none) AO (Al func166:Fn QC 166 19 aOk [.t 2]) (λ_=>by simp[jW]) (λp o=>?_);obtain⟨nl,l⟩:=p;simp only at o;unfold aOk jW;simp only[↓GQ,GX,QE];refine aJc (l:=l) (nl:=nl) o (λz t h=>?_) l.length 0 [] _ _ O rfl rfl (.inl rfl) rfl;simp only[↓GQ,GT,simprocAttr,h]
def aL3:List D->Option D:=FX (λk:Tk=>[HD k]) (λk=>k.2.2.2.length<=1000) (λk=>HD (aQ7 k))
def aL2{k:Tk}(h:k.2.2.2.length<=1000):aL3 [HD k]=some (HD (aQ7 k)):=BG (mk:=λk:Tk=>[HD k]) (a:=k) aA5 h
def aV6:Kq aL3 105:=by
 obtain⟨S,v,hl⟩:=A4 (Aa aVF Ae);have a:=hl 166 _ rfl;clear hl;refine B1 v (Al func105:Fn QC 105 11 aPf [.cell (some 3) 2]) (λ_=>U) (λk s=>?_);obtain⟨t,m,x,i⟩:=k;simp only at s;have f:=aLE (nl:=x) (l:=i) s;unfold aPf HD aQ7;simp only;simp only[↓GQ,Hb,simprocAttr,Bw,Eh,QV,QJ,QP,Ab a,f,Aj,Ar,As,Qk,Qu,QF,QI,Qi,Qn,Qs,QB,Zb,Q2];refine AJ ?_;simp only[↓GQ,Hb,simprocAttr,QJ,QP,Aj,Ar,As,Qk,Qu,QB,Q2,Bo,AY]
 all_goals exact Qe
def MV:=y3 f162 3 [] []
def MU:=y3 f162 10 [] []
def aDR:=y2 f162 [] [(3,MV),(10,MU)]
def MW:=y3 f91 6 [] []
def aDU:=y2 f91 [] [(6,MW)]
def aD0:=y2 f43 [] []
def MZ:=y3 f44 6 [(9,[(16,15)])] []
def MY:=y3 f44 3 [] [(6,MZ)]
def aDZ:=y2 f44 [] [(3,MY)]
def M_:=y3 f41 3 [] []
def aD1:=y2 f41 [] [(3,M_)]
def aDY:=y2 f47 [] []
def Sv:=y3 f14 3 [] []
def aD6:=y2 f14 [] [(3,Sv)]
def aEa:=y2 f7 [] []
def wO(l:List Tk)(k:Tk):EX l k=(some (Ed l k),0)∨(∃e,e≠0∧EX l k=(none,e)):=by
 unfold EX;split
 ·exact .inr ⟨_,‹_›,rfl⟩
 split
 ·exact .inr ⟨_,Z,rfl⟩
 split
 ·exact .inr ⟨_,Z,rfl⟩
 split
 ·exact .inr ⟨_,Z,rfl⟩
 split
 ·exact .inr ⟨_,Z,rfl⟩
 ·exact .inl rfl
def WJ(l:List Tk)(k:Tk):(Ed l k=[])=False:=eq_false (by unfold Ed;simp)
def bAP:=Az []
def aTP:=RF bAP rF [.t 4] 26
def aXg:Kq aTP 92:=Av aNk Ae
def aFS(n1 n2:Bool)(a:List Rl)(x:a.length<=1000000):aTP [.slice n1 [] (Am a),.slice n2 [] (Am [([],63)])]=some (.bool (decide (a=[([],63)]))):=by
 refine Aq (Qj rfl) ?_;unfold rF;by_cases u:a.length=1
 ·match a,u with
  |[(p,c)],_=>
   have j:Am [(p,c)]=[.agg [.str p,.int .u8 c]]:=rfl;have na:Am [(([]:Bs),(63:Int))]=[.agg [.str [],.int .u8 63]]:=rfl;have z:decide ([(p,c)]=[(([]:Bs),(63:Int))])=(decide (p=[])&&decide (c=63)):=by
    rw[←ZB];congr 1;simp
   rw[z,j,na];have f:IntKind.i64.wrap 1=1:=rfl;by_cases k:p=[]∧c=63
   ·obtain⟨rfl,rfl⟩:=k;have ta:AW [.str [],.int .u8 63] [.str [],.int .u8 63] [(2,0),(0,1)]=some true:=by simp[AW,Dt]
    simp only[GU,↓GQ,GS,simprocAttr,simprocAttr,Hs];refine Af HR.eq_1 ?_;simp only[GU,↓GQ,GS,simprocAttr,simprocAttr,Hs,Qm,QH,ta,aFl,QF,QI];refine AJ ?_;simp only[GU,↓GQ,GS,simprocAttr,simprocAttr,f];refine Af HR.eq_1 ?_;simp only[GU,↓GQ,GS,simprocAttr,simprocAttr,Hs]
    all_goals exact Qd
   ·have ta:AW [.str p,.int .u8 c] [.str [],.int .u8 63] [(2,0),(0,1)]=some false:=by
     have q:p.isEmpty=true->(c==63)=false:=λh=>by
      cases h3:c==63 with
      |false=>rfl
      |true=>exact absurd ⟨Zx.1 h,beq_iff_eq.1 h3⟩ k
     simp[AW,Dt];cases h:p.isEmpty with
     |false=>rfl
     |true=>rw[q h]
    have r:(decide (p=[])&&decide (c=63))=false:=by
     rw[←ZB];exact decide_eq_false k
    have b:AQ .neq (.agg [.str p,.int .u8 c]) (.agg [.str [],.int .u8 63])=none:=rfl;rw[r];simp only[GU,↓GQ,GS,simprocAttr,simprocAttr,Hs];refine Af HR.eq_1 ?_;simp only[GU,↓GQ,GS,simprocAttr,simprocAttr,Hs,Qm,QH,ta,GM,QF,QI];refine AJ ?_;simp only[GU,↓GQ,GS,simprocAttr,simprocAttr]
    all_goals exact Qd
 ·have c1:((a.length:Int)=1)=False:=eq_false O;have v:a≠[([],63)]:=λe=>u (by rw[e];rfl)
  rw[decide_eq_false v];have o:(Am [(([]:Bs),(63:Int))]).length=1:=rfl;simp only[GU,↓GQ,GS,simprocAttr,simprocAttr,Ay,Hs,o,c1]
  all_goals exact Qd
def Bl:GR:=Az [(72,Ac NK),(30,Ac F49),(92,Ac aTP),(93,Ac aHA),(94,Ac aHy),(95,Ac F52)]
def sK:List D->Option D:=RF Bl aDZ [.t 2,.t 3] 76
def aRL:Kq sK 44:=Av (Al func44) (Aa pX (Aa aU8 (Aa aXg (Aa aMK (Aa aMJ (Aa aZW Ae))))))
def Wg{L v:List Tk}(h:Hv L v)(hl:L.length<=1000):v.length<=1000:=by
 have:=Mx (OA h) (b:=L) (λx f=>(h.ldb x f).mem);omega
def wU{L:List Tk}(hN:fP L)(hB:WG L){nl:Bool}{n:Int}{A:List Tk}{Q:Ex->St->Prop}
  (hQ:∀st,st.s 0= .slice nl [] (Au L)->st.s 4= .slice (decide (A=[])) [] (Au A)->st.s 5= .int .i64 n->Q (.exit 2) st):
  ∀(f j:Nat)(aa:List Tk)(st:St) g,L.length=j+f->Hv L aa->A=(L.drop j).foldl DX aa->st.s 0= .slice nl [] (Au L)->st.s 4= .slice (decide (aa=[])) [] (Au aa)->st.s 5= .int .i64 n->st.s 6= .int .i64 (j:Int)->AK Bl [] MZ Q st g:=by
 intro f;induction f with
 |zero=>
  intro j aa st g hf hI hA h0 h4 h5 h6;refine Af MZ.eq_1 ?_;rw[Zn O]at hA;have e:A=aa:=hA;subst e;have d1:((j:Int)<(L.length:Int))=False:=eq_false O;simp only[GU,↓GQ,GS,simprocAttr,simprocAttr,h0,h6,d1,AD];exact hQ _ h0 h4 h5
 |succ f ih=>
  intro j aa st g hf hI hA h0 h4 h5 h6;refine Af MZ.eq_1 ?_;have hj:j<L.length:=O
  have hd:L.drop j=L[j]::L.drop (j+1):=Qt hj;have d1:((j:Int)<(L.length:Int))=True:=eq_true O;have hx:=Dp hj;have lb:AP L j=L[j]:=by unfold AP;rw[QT,Ql hj];rfl
  rw[lb]at hx;have la:=hB.ok _ (QM hj);have ia:=hN.tok _ (QM hj);obtain⟨fa,o⟩:=aYx hN hI (QM hj);rw[hd,List.foldl_cons]at hA;rw[←fa]at hA o;have ma:=nJ (j:=j);have hw:IntKind.i64.wrap ((j:Int)+1)=((j+1:Nat):Int):=Hg Yf Yf;have u:F49 []=some (.slice false [] (Au [Bh])):=rfl;have qa:=Wg hI hB.len;have oa:∀k∈aa,Dg k.2.2.2:=λk hk=>(hB.ok k ((hI.ldb k hk).mem)).1
  have r:=Wg o hB.len;have ea:∀k∈dS aa L[j],Dg k.2.2.2:=λk hk=>(hB.ok k ((o.ldb k hk).mem)).1
  have ih:=ih (j+1) (dS aa L[j]);generalize L[j]=x at *;obtain⟨xn,xp,xb,xr⟩:=x;have ba:=HV (n:=xn) (p:=xp) (nl:=xb) (t:=[]) (l:=xr) la.1.1 la.1.2.1 la.2.2.1 la.2.2.2;rw[ia]at ba;have d:=aFS xb false xr la.1.1;have q:=WB (nl:=decide (aa=[])) (t:=[]) (l:=aa) (p:=[114,111,111,116]) O;have i:=uG (nl0:=decide (aa=[])) (nl:=xb) (t0:=[]) (t:=[]) (l:=aa) (n:=xn) (p:=xp) (rs:=xr) O;have ha:G_=[114,111,111,116]:=rfl;obtain⟨ja,ga,da⟩:=st;simp only at h0 h4 h5 h6;simp only[Au,HD,Bh,QJ,QP]at u;have ra:Au [Bh]=[.agg [.str [114,111,111,116],.str [],.slice false [] (Am [([],63)])]]:=rfl;have sa:(Au [Bh])[0]?=some (.agg [.str [114,111,111,116],.str [],.slice false [] (Am [([],63)])]):=rfl;have pa:∀a b c:D,(QG 0 [a,b,c]).head?=some a:=λ_ _ _=>rfl
  simp only[HD]at hx;have ua:∀a b c:D,QK 3 [a,b,c]=[a,b,c]:=λ_ _ _=>rfl
  have bb:∀a b c:D,[a,b,c].length=3:=λ_ _ _=>rfl
  by_cases ca:xp=[]
  ·have c1:(xp=[])=True:=eq_true ca;have y:∀l:List Tk,EX l (xn,xp,xb,xr)=(none,2):=λl=>by
    unfold EX;rw[if_neg (by simp only;rw[ia];simp),if_pos ca]
   have w:dS aa (xn,xp,xb,xr)=dS1 aa (xn,xp,xb,xr):=by
    unfold dS;rw[y,if_neg (λh=>by have:=h.1;cases this)]
   rw[w]at hA o r ea ih;by_cases ka:xn=G_∧xr=[([],63)]∧C0 aa G_<0
   ·have v:dS1 aa (xn,xp,xb,xr)=Ed aa (xn,xp,xb,xr):=if_pos ⟨ca,ka.1,ia,ka.2.1,ka.2.2⟩;rw[v]at hA o r ea ih;have m:=nI (nl0:=false) (nl:=xb) (l:=Ed aa (xn,xp,xb,xr)) (n:=xn) (p:=xp) (rs:=xr) O ea la.2.1 la.1 la.2.2.1 la.2.2.2;rw[y]at m;simp only[O9]at m;have z:decide (Ed aa (xn,xp,xb,xr)=[])=false:=decide_eq_false (of_eq_false (WJ _ _));rw[z]at ih;generalize Ed aa (xn,xp,xb,xr)=na at *;have c2:(xn=[114,111,111,116])=True:=eq_true ka.1;have c3:decide (xr=[([],63)])=true:=decide_eq_true ka.2.1;have c4:(C0 aa [114,111,111,116]<0)=True:=eq_true ka.2.2;rw[c3]at d
    repeat' (first|(refine aA (Ah Xe) ?_)|simp (maxSteps:=4000000) (disch:=first|assumption|omega)only[↓GQ,GT,simprocAttr,GY,h0,h4,h5,h6,d1,hx,ma,Qh,QH,AD,Qm,Qn,Qs,Qv,Ad Bl 72,ba,Ad Bl 30,u,Ad Bl 92,d,Ad Bl 93,q,Ad Bl 94,i,Ad Bl 95,m,ua,bb,c1,c2,c4,hw,Ho,BC,BK,BW,CR,Hi,pO,Qi,and_self,and_false,decide_true,decide_false])
    exact ih _ _ O o hA h0 rfl h5 rfl
   ·have v:dS1 aa (xn,xp,xb,xr)=aa:=if_neg (λh=>ka ⟨h.2.1,h.2.2.2.1,h.2.2.2.2⟩);rw[v]at hA o r ea ih;have m:=nI (nl0:=decide (aa=[])) (nl:=xb) (l:=aa) (n:=xn) (p:=xp) (rs:=xr) O ea la.2.1 la.1 la.2.2.1 la.2.2.2;rw[y]at m;simp only[O9]at m;by_cases e2:xn=G_
    ·have c2:(xn=[114,111,111,116])=True:=eq_true e2;by_cases e3:xr=[([],63)]
     ·have c3:decide (xr=[([],63)])=true:=decide_eq_true e3;rw[c3]at d;have c4:(C0 aa [114,111,111,116]<0)=False:=eq_false (λh=>ka ⟨e2,e3,h⟩)
      repeat' (first|(refine aA (Ah Xe) ?_)|simp (maxSteps:=4000000) (disch:=first|assumption|omega)only[↓GQ,GT,simprocAttr,GY,h0,h4,h5,h6,d1,hx,ma,Qh,QH,AD,Qm,Qn,Qs,Qv,Ad Bl 72,ba,Ad Bl 30,u,Ad Bl 92,d,Ad Bl 93,q,Ad Bl 94,i,Ad Bl 95,m,ua,bb,c1,c2,c4,hw,Ho,BC,BK,BW,CR,Hi,pO,Qi,and_self,and_false,decide_true,decide_false])
      exact ih _ _ O o hA h0 h4 h5 rfl
     ·have c3:decide (xr=[([],63)])=false:=decide_eq_false e3;rw[c3]at d
      repeat' (first|(refine aA (Ah Xe) ?_)|simp (maxSteps:=4000000) (disch:=first|assumption|omega)only[↓GQ,GT,simprocAttr,GY,h0,h4,h5,h6,d1,hx,ma,Qh,QH,AD,Qm,Qn,Qs,Qv,Ad Bl 72,ba,Ad Bl 30,u,Ad Bl 92,d,Ad Bl 93,q,Ad Bl 94,i,Ad Bl 95,m,ua,bb,c1,c2,hw,Ho,BC,BK,BW,CR,Hi,pO,Qi,and_self,and_false,decide_true,decide_false])
      exact ih _ _ O o hA h0 h4 h5 rfl
    ·have c2:(xn=[114,111,111,116])=False:=eq_false e2
     repeat' (first|(refine aA (Ah Xe) ?_)|simp (maxSteps:=4000000) (disch:=first|assumption|omega)only[↓GQ,GT,simprocAttr,GY,h0,h4,h5,h6,d1,hx,ma,Qh,QH,AD,Qm,Qn,Qs,Qv,Ad Bl 72,ba,Ad Bl 30,u,Ad Bl 92,d,Ad Bl 93,q,Ad Bl 94,i,Ad Bl 95,m,ua,bb,c1,c2,hw,Ho,BC,BK,BW,CR,Hi,pO,Qi,and_self,and_false,decide_true,decide_false])
     exact ih _ _ O o hA h0 h4 h5 rfl
  ·have c1:(xp=[])=False:=eq_false ca;have v:dS1 aa (xn,xp,xb,xr)=aa:=if_neg (λh=>ca h.1);have m:=nI (nl0:=decide (aa=[])) (nl:=xb) (l:=aa) (n:=xn) (p:=xp) (rs:=xr) O oa la.2.1 la.1 la.2.2.1 la.2.2.2;rcases wO aa (xn,xp,xb,xr)with hm|⟨e,he,hm⟩
   ·rw[hm]at m;simp only[O9]at m;by_cases e2:xn=G_
    ·have c2:(xn=[114,111,111,116])=True:=eq_true e2;have w:dS aa (xn,xp,xb,xr)=aa:=by
      unfold dS;rw[v,if_neg (λh=>h.2 e2)]
     rw[w]at hA o r ea ih
     repeat' (first|(refine aA (Ah Xe) ?_)|simp (maxSteps:=4000000) (disch:=first|assumption|omega)only[↓GQ,GT,simprocAttr,GY,h0,h4,h5,h6,d1,hx,ma,Qh,QH,AD,Qm,Qn,Qs,Qv,Ad Bl 72,ba,Ad Bl 30,u,Ad Bl 92,d,Ad Bl 93,q,Ad Bl 94,i,Ad Bl 95,m,ua,bb,c1,c2,hw,Ho,BC,BK,BW,CR,Hi,pO,Qi,and_self,and_false,decide_true,decide_false])
     exact ih _ _ O o hA h0 h4 h5 rfl
    ·have c2:(xn=[114,111,111,116])=False:=eq_false e2;have w:dS aa (xn,xp,xb,xr)=Ed aa (xn,xp,xb,xr):=by
      unfold dS;rw[v,hm,if_pos ⟨rfl,e2⟩];rfl
     rw[w]at hA o r ea ih;have z:decide (Ed aa (xn,xp,xb,xr)=[])=false:=decide_eq_false (of_eq_false (WJ _ _));rw[z]at ih;generalize Ed aa (xn,xp,xb,xr)=na at *
     repeat' (first|(refine aA (Ah Xe) ?_)|simp (maxSteps:=4000000) (disch:=first|assumption|omega)only[↓GQ,GT,simprocAttr,GY,h0,h4,h5,h6,d1,hx,ma,Qh,QH,AD,Qm,Qn,Qs,Qv,Ad Bl 72,ba,Ad Bl 30,u,Ad Bl 92,d,Ad Bl 93,q,Ad Bl 94,i,Ad Bl 95,m,ua,bb,c1,c2,hw,Ho,BC,BK,BW,CR,Hi,pO,Qi,and_self,and_false,decide_true,decide_false])
     exact ih _ _ O o hA h0 rfl h5 rfl
   ·rw[hm]at m;simp only[O9]at m;have w:dS aa (xn,xp,xb,xr)=aa:=by
     unfold dS;rw[v,hm,if_neg (λh=>he h.1)]
    rw[w]at hA o r ea ih;have c5:(e=0)=False:=eq_false he
    repeat' (first|(refine aA (Ah Xe) ?_)|simp (maxSteps:=4000000) (disch:=first|assumption|omega)only[↓GQ,GT,simprocAttr,GY,h0,h4,h5,h6,d1,hx,ma,Qh,QH,AD,Qm,Qn,Qs,Qv,Ad Bl 72,ba,Ad Bl 30,u,Ad Bl 92,d,Ad Bl 93,q,Ad Bl 94,i,Ad Bl 95,m,ua,bb,c1,c5,hw,Ho,BC,BK,BW,CR,Hi,pO,Qi,and_self,and_false,decide_true,decide_false])
    exact ih _ _ O o hA h0 h4 h5 rfl
def wT{L:List Tk}(q:fP L)(b:WG L){nl:Bool}{A:List Tk}{Q:Ex->St->Prop}
  (m:∀z,z.s 0= .slice nl [] (Au L)->z.s 4= .slice (decide (A=[])) [] (Au A)->Q (.exit 0) z):
  ∀(f j:Nat)(v:List Tk)(z:St) g,L.length=j+f->Hv L v->A=E7 L f v->z.s 0= .slice nl [] (Au L)->z.s 4= .slice (decide (v=[])) [] (Au v)->z.s 5= .int .i64 (j:Int)->AK Bl [] MY Q z g:=by
 intro f;induction f with
 |zero=>
  intro j v z g o a i y x k;obtain⟨u,d,r⟩:=z;simp only at y x k;refine Af MY.eq_1 ?_;have d1:((j:Int)<(L.length:Int))=False:=eq_false O;have e:A=v:=i;subst e;simp only[GU,↓GQ,GS,simprocAttr,simprocAttr,y,k,d1,AD];exact m _ y x
 |succ f ih=>
  intro j v z g o a i y x k;obtain⟨u,d,r⟩:=z;simp only at y x k;refine Af MY.eq_1 ?_;have d1:((j:Int)<(L.length:Int))=True:=eq_true O;have p:IntKind.i64.wrap ((j:Int)+1)=((j+1:Nat):Int):=Hg (by have:=b.len;omega) (by have:=b.len;omega);simp only[GU,↓GQ,GS,simprocAttr,simprocAttr,y,k,d1,AD];refine wU q b (n:=(j:Int)) (A:=Nq v L) (λz g0 g4 g5=>?_) L.length 0 v _ _ O a rfl y x k rfl;obtain⟨u,d,r⟩:=z;simp only at g0 g4 g5;simp only[GU,↓GQ,GS,simprocAttr,simprocAttr,g0,g4,g5,p];exact ih (j+1) (Nq v L) _ _ O (Np q L v a (λt w=>w)).1 i g0 g4 rfl
def aBb:Option (List Tk)->D
 |some i=> .slice (decide (i=[])) [] (Au i)
 |none=> .slice true [] []
def aF5(nl:Bool)(L:List Tk)(e:fP L)(y:WG L):sK [.slice nl [] (Au L)]=some (.tup [aBb (LQ L),.int .i64 (if(LQ L).isSome then 0 else 4)]):=by
 refine Aq (Qj rfl) ?_;unfold aDZ;simp only[GU,↓GQ,GS,simprocAttr,simprocAttr];refine wT e y (A:=E7 L L.length []) (λz g0 g4=>?_) L.length 0 [] _ _ O ⟨λi j _ w=>absurd w (QR _),λx f=>absurd f QS,.inl rfl⟩ rfl rfl rfl rfl;obtain⟨u,d,r⟩:=z;simp only at g0 g4;unfold LQ;generalize E7 L L.length []=A at *;by_cases g:A.length=L.length
 ·rw[if_pos g];have c1:((A.length:Int)=(L.length:Int))=True:=eq_true O;simp only[aBb,Qi,if_true];simp only[GU,↓GQ,GS,simprocAttr,simprocAttr,g0,g4,AD,c1]
  all_goals exact Qd
 ·rw[if_neg g];have c1:((A.length:Int)=(L.length:Int))=False:=eq_false O;simp only[aBb,Q_];simp only[GU,↓GQ,GS,simprocAttr,simprocAttr,g0,g4,AD,c1]
  all_goals exact Qd
def aJz:∀j:Fin 6,∀o:Fin 64,o.val<2 ^ j.val->Go.Ve.lettersN (o.val|||2 ^ j.val)=Go.Ve.lettersN o.val++[UInt8.ofNat (iW.getD j.val 0)]∧(o.val|||2 ^ j.val)<2 ^ (j.val+1):=Xj
def W7(c:Nat):∀f k,6<=k+f->k<=6->CE c f k<6->iW.getD (CE c f k) 0=c
 |0,k,hf,hk,h=>by unfold CE at h;omega
 |f+1,k,hf,hk,h=>by
  unfold CE at h ⊢;split at h
  ·rename_i u;rw[if_pos u];exact W7 c f (k+1) O O h
  ·rename_i u;rw[if_neg u];exact Decidable.not_not.1 λe=>u ⟨h,e⟩
def Ux(s:Bs):∀f p k o n,k<=6->o<2 ^ k->p<=s.length->s.length<=p+f->To s f p k o=(n,true)->Go.Ve.lettersN n=Go.Ve.lettersN o++s.drop p
 |0,p,k,o,n,hk,ho,hp,hf,h=>by
  unfold To at h;cases h;rw[QQ O,Q3]
 |f+1,p,k,o,n,hk,ho,hp,hf,h=>by
  have i:=Pj (Hm s p) (6-k) k hk;unfold To at h;split at h
  ·rename_i v;split at h
   ·cases h
   ·rename_i r;have e:CE (Hm s p) (6-k) k<6:=by omega
    have y:=W7 (Hm s p) (6-k) k O hk e;generalize CE (Hm s p) (6-k) k=j at *;have w:2 ^ k<=64:=Zp (n:=2) Z hk;have a:2 ^ k<=2 ^ j:=Zp (n:=2) Z i.1;obtain⟨u,m⟩:=aJz ⟨j,e⟩ ⟨o,O⟩ (by show o<2 ^ j;omega);have ih:=Ux s f (p+1) (j+1) _ n O m O O h;rw[ih];simp only at u;rw[u,y,QO];congr 1;rw[Qt v];have:UInt8.ofNat (Hm s p)=s[p]:=by simp[Hm,v]
    rw[this];rfl
  ·cases h;rw[QQ O,Q3]
def aFc{w:Bs}{n:Nat}(h:Ia w=(n,true)):n<64∧Go.Ve.lettersN n=w:=by
 have u:=lX w;rw[h]at u;refine⟨u,?_⟩;have:=Ux w w.length 0 0 0 n Z Z (Qw _) O h;simpa[Go.Ve.lettersN]using this
def aC1{s:Bs}{c:UInt8}(h:¬Lib.indexByte s c<0):c∉s.take (Lib.indexByte s c).toNat∧s.take (Lib.indexByte s c).toNat++[c]++s.drop ((Lib.indexByte s c).toNat+1)=s:=by
 by_cases r:c∈s
 ·obtain⟨a,b,rfl,z⟩:=List.eq_append_cons_of_mem r;rw[Di z,Qh,List.take_left];refine⟨z,?_⟩;have:(a++c::b).drop (a.length+1)=b:=by simp
  rw[this,QO];rfl
 ·exfalso;have u:=VF s c;have q:s.any (·==c)=false:=by
   rw[Zi];intro x f e;exact r (beq_iff_eq.1 e▸f)
  rw[q]at u;have:=of_decide_eq_false u;omega
def aIH{s:Bs}{n:Nat}(g:(BY s 58).2.2=true)(c:n<64)(h:Co ((BY s 58).1,(n:Int))=s):DU s=true∧Ip s=((BY s 58).1,(n:Int)):=by
 have o:(58:UInt8)∉(BY s 58).1:=by
  unfold BY at g ⊢;split at g
  ·cases g
  ·rename_i y;rw[if_neg y];exact(aC1 y).1
 have:=aBk o (n:=n) O;rw[h]at this;exact this
def aBK{s:Bs}(h:DU s=true):(BY s 58).2.2=true∧∃n:Nat,n<64∧Ip s=((BY s 58).1,(n:Int))∧Co ((BY s 58).1,(n:Int))=s:=by
 unfold DU at h;rw[Zj]at h;obtain⟨u,q⟩:=h;obtain⟨n,c⟩:∃n,Ia (BY s 58).2.1=(n,true):=⟨_,Q9 rfl q⟩;obtain⟨a,b⟩:=aFc c;refine⟨u,n,a,by unfold Ip;rw[c],?_⟩;unfold Co;simp only[Qh,b];unfold BY at u ⊢;split at u
 ·cases u
 ·rename_i y;rw[if_neg y];simp only;exact(aC1 y).2
def prR(s:Bs):Nat->Nat->Nat->List Rl->Option (List Rl)
 |0,_,_,acc=>some acc
 |f+1,i,p,acc=>if i=s.length∨s[i]?=some 44 then(if DU ((s.drop p).take (i-p))=true then prR s f (i+1) (i+1) (acc++[Ip ((s.drop p).take (i-p))])else none)else prR s f (i+1) p acc
def jK{s:Bs}:∀(f i p:Nat)(acc:List Rl),i+f=s.length->p<=i->(44:UInt8)∉(s.drop p).take (i-p)->prR s (f+1) i p acc=if(splitC 44 (s.drop p)).all DU=true then some (acc++(splitC 44 (s.drop p)).map Ip)else none
 |0,i,p,acc,hf,hp,hn=>by
  have hi:i=s.length:=O
  have e:(s.drop p).take (i-p)=s.drop p:=Qq XN;unfold prR;rw[if_pos (.inl hi)];rw[e]at hn ⊢;rw[split_one hn];simp only[QW,Q1,Bool.and_true,QJ,QP];rfl
 |f+1,i,p,acc,hf,hp,hn=>by
  have hi:i<s.length:=O
  unfold prR;by_cases c:s[i]=44
  ·have g:i=s.length∨s[i]?=some 44:= .inr (by rw[Ql hi,c]);rw[if_pos g];have e:s.drop p=(s.drop p).take (i-p)++44::s.drop (i+1):=by
    have u:=(Q0 (i-p) (s.drop p)).symm;rw[List.drop_drop,show p+(i-p)=i by omega,Qt hi,c]at u;exact u
   have ih:=jK (s:=s) f (i+1) (i+1) (acc++[Ip ((s.drop p).take (i-p))]) O (QA _) (by rw[Nat.sub_self,QI];exact QS);have b:splitC 44 (s.drop p)=(s.drop p).take (i-p)::splitC 44 (s.drop (i+1)):=by
    conv=>lhs;rw[e]
    exact split_word hn _
   rw[ih,b,QW,QJ];cases DU ((s.drop p).take (i-p))with
   |false=>rfl
   |true=>simp
  ·have g:¬(i=s.length∨s[i]?=some 44):=by
    rw[Ql hi];rintro(h|h)
    ·omega
    ·exact c (Zo h)
   rw[if_neg g];refine jK f (i+1) p acc O O ?_;have z:i-p<(s.drop p).length:=XN
   have e:(s.drop p).take (i+1-p)=(s.drop p).take (i-p)++[s[i]]:=by
    rw[show i+1-p=(i-p)+1 by omega,QD z,List.getElem_drop];congr 3;omega
   rw[e,Zc,not_or];refine⟨hn,?_⟩;rw[Q5];exact λh=>c h.symm
def aIF{s:Bs}(h:s≠[]):(match prR s (s.length+1) 0 0 []with
  |none=>(true,[],4)
  |some l=>if B4 l≠0 then(true,[],B4 l)else(false,l,0))=Cc s:=by
 rw[jK s.length 0 0 [] O (QA _) U];unfold Cc;rw[if_neg h,Qn];cases(splitC 44 s).all DU with
 |false=>rfl
 |true=>rfl
def dO(s:Bs):Option Nat:=s.findIdx? (·==58)
def ixI:Option Nat->Int
 |some k=>(k:Int)
 |none=>-1
def aC2(c:UInt8)(s:Bs):dO (c::s)=if c=58 then some 0 else(dO s).map (·+1):=by
 unfold dO;rw[List.findIdx?_cons];by_cases h:c=58
 ·simp[h]
 ·have:(c==58)=false:=by simpa using h
  simp[this,h]
def aJL(s:Bs):(dO s=none∧(BY s 58).2.2=false)∨(∃k,dO s=some k∧k<s.length∧(BY s 58).1=s.take k∧(BY s 58).2.2=true):=by
 cases h:dO s with
 |none=>
  left;refine⟨rfl,?_⟩;have y:s.any (·==(58:UInt8))=false:=by
   unfold dO at h;rw[List.findIdx?_eq_none_iff]at h;rw[Zi];intro x f;have:=h x f;simpa using this
  have u:=VF s 58;rw[y]at u;unfold BY;have q:Lib.indexByte s 58<0:=by
   have:=of_decide_eq_false u;omega
  rw[if_pos q]
 |some k=>
  right;unfold dO at h;obtain⟨j,o,w⟩:=List.findIdx?_eq_some_iff_getElem.1 h;have g:s[k]=58:=XE
  have c:(58:UInt8)∉s.take k:=λa=>by
   obtain⟨i,hi,e⟩:=Zq a;rw[QX]at hi;rw[List.getElem_take]at e;have:=w i O;rw[e]at this;simp at this
  have e:s=s.take k++58::s.drop (k+1):=by
   conv=>lhs;rw[←Q0 k s,Qt j,g]
  have hi:Lib.indexByte s 58=(k:Int):=by
   have:=Di (r:=s.drop (k+1)) c;rw[←e,QX,ZC O]at this;exact this
  refine⟨k,rfl,j,?_,?_⟩
  ·unfold BY;rw[hi,if_neg O];simp
  ·unfold BY;rw[hi,if_neg O]
def bV(s:Bs):D:=if DU s=true then .tup [.agg [.str (Ip s).1,.int .u8 (Ip s).2],.bool true]else .tup [.agg [.str [],.int .u8 0],.bool false]
def fS:=Az [(136,Ac aLq)]
def aFU:=RF fS aDR [.cell (some 2) 2,.t 3] 39
def aRF:Kq aFU 162:=Av (Al func162) (Aa aMs Ae)
def wS{s:Bs}(hl:s.length<=1000){q2:D}{m0:GV}{Q:Ex->St->Prop}
  (hQ:∀z,z.m=m0->z.s 0= .str s->z.s 2=q2->z.s 4= .int .i64 (ixI (dO s))->Q (.exit 0) z):
  ∀(n:Nat) z g,n<=s.length->z.m=m0->z.s 0= .str s->z.s 2=q2->z.s 4= .int .i64 (ixI ((dO (s.drop n)).map (·+n)))->z.s 5= .int .i64 ((n:Int)-1)->AK fS [] MV Q z g:=by
 intro n;induction n with
 |zero=>
  intro z g v hm y q o b;obtain⟨u,d,r⟩:=z;simp only at y q o b hm;refine Af MV.eq_1 ?_;rw[Qn]at o;have e:(dO s).map (·+0)=dO s:=by cases dO s<;>rfl
  rw[e]at o;have b:u 5= .int .i64 (-1):=b;simp only[GU,↓GQ,GS,simprocAttr,b,simprocAttr];exact hQ _ hm y q o
 |succ n ih=>
  intro z g v hm y q o b;obtain⟨u,d,r⟩:=z;simp only at y q o b hm;refine Af MV.eq_1 ?_;have b:u 5= .int .i64 (n:Int):=by rw[b];congr 1;omega
  have t:s.drop n=s[n]::s.drop (n+1):=Qt v;have f:s[n]?=some s[n]:=Ql v;have p:=aC2 s[n] (s.drop (n+1));rw[←t]at p;have w:((0:Int)<=(n:Int))=True:=eq_true O;have hw:IntKind.i64.wrap ((n:Int)-1)=(n:Int)-1:=Hg O O;by_cases c:s[n]=58
  ·rw[if_pos c]at p;have j:ixI (ZD (·+n) (dO (QG n s)))=(n:Int):=by
    rw[p];show((0+n:Nat):Int)=n;rw[Zm]
   rw[c]at f;simp only[GU,↓GQ,GS,simprocAttr,y,b,w,f,Qh,simprocAttr,hw];exact ih _ _ O hm y q (by rw[j];rfl) rfl
  ·rw[if_neg c]at p;have a:(((s[n]).toNat:Int)=58)=False:=eq_false (λe=>c (by
    have:(s[n]).toNat=58:=O
    exact UInt8.toNat_inj.1 this))
   have j:ixI (ZD (·+n) (dO (QG n s)))=ixI (ZD (·+(n+1)) (dO (QG (n+1) s))):=by
    rw[p,ZE];congr 2;funext k;show k+1+n=k+(n+1);omega
   rw[←j]at o;generalize s[n]=x at *;simp only[GU,↓GQ,GS,simprocAttr,y,b,w,f,Qh,simprocAttr,hw,a];exact ih _ _ O hm y q o rfl
def z2k{m:GV}{i:Id}{a b:D}:Ai (m.put i 0 [a,b]) i 0 2=some [a,b]:=by simp[Ai,GV.put]
def wR{s:Bs}(hl:s.length<=1000){k:Nat}(u:dO s=some k)(ia:k<s.length){Q:Ex->St->Prop}
  (hQ:∀z,z.s 2= .ptr [0] 0->Ai z.m [0] 0 2=some [.str [],.int .u8 0]->(∀m:Nat,m<64->Co (s.take k,(m:Int))≠s)->Q (.exit 2) z)
  (hE:∀z (n:Nat),n<64->Co (s.take k,(n:Int))=s->z.s 2= .ptr [0] 0->Ai z.m [0] 0 2=some [.str (s.take k),.int .u8 (n:Int)]->z.s 3= .bool true->Q .ret z):
  ∀(f n:Nat) z g,n+f=64->1<=z.c->(∀m:Nat,m<n->Co (s.take k,(m:Int))≠s)->z.s 0= .str s->z.s 2= .ptr [0] 0->z.s 4= .int .i64 (k:Int)->z.s 6= .int .i64 (n:Int)->Ai z.m [0] 0 2=some [.str [],.int .u8 0]->AK fS [] MU Q z g:=by
 intro f;induction f with
 |zero=>
  intro n z g v p w y q x i hm;obtain⟨ja,ga,t⟩:=z;simp only at y q x i hm p;refine Af MU.eq_1 ?_;have e:n=64:=O
  subst e;have i:ja 6= .int .i64 64:=i;simp only[GU,↓GQ,GS,simprocAttr,i,simprocAttr];exact hQ _ q hm w
 |succ f ih=>
  intro n z g v p w y q x i hm;obtain⟨ja,ga,t⟩:=z;simp only at y q x i hm p;refine Af MU.eq_1 ?_;have d1:((n:Int)<=63)=True:=eq_true O;have hw:IntKind.i64.wrap ((n:Int)+1)=((n+1:Nat):Int):=Hg O O;have b:IntKind.u8.wrap (n:Int)=(n:Int):=by
   have:∀n:Fin 64,IntKind.u8.wrap ((n.val:Nat):Int)=((n.val:Nat):Int):=Z
   exact this ⟨n,O⟩
  have k0:((0:Int)<=(k:Int)∧(k:Int)<=(s.length:Int))=True:=eq_true O;have ta:∀j,(0=t+j)=False:=λj=>eq_false O
  have a:=uB (r:=(s.take k,(n:Int))) ⟨Xn,Xb,Xb⟩;simp only at a;have o:Bw [D.str [],.int .u8 0] [(0,1,.str (s.take k)),(1,1,.int .u8 (n:Int))]=some [.str (s.take k),.int .u8 (n:Int)]:=rfl;by_cases c:Co (s.take k,(n:Int))=s
  ·have c':(Co (s.take k,(n:Int))=s)=True:=eq_true c
   repeat' (first|(refine aA (Ah YK) ?_)|simp (disch:=first|assumption|omega)only[↓GQ,GT,simprocAttr,GY,y,q,x,i,hm,d1,b,k0,Qh,Qn,Q7,o,Ad fS 136,a,c',z2k,Hi,pO,Qi,and_self])
   exact hE _ n O c q z2k rfl
  ·have c':(Co (s.take k,(n:Int))=s)=False:=eq_false c
   repeat' (first|(refine aA (Ah YK) ?_)|simp (disch:=first|assumption|omega)only[↓GQ,GT,simprocAttr,GY,y,q,x,i,hm,d1,hw,b,k0,Qh,Qn,Q7,o,Ad fS 136,a,c',z2k,Hi,pO,Qi,and_self])
   refine ih (n+1) _ _ O Xb (λm d=>?_) y q x rfl ?_
   ·by_cases e:m=n
    ·subst e;exact c
    ·exact w m O
   ·simp only;rw[Hi O,Hi O];exact hm
def aFT(s:Bs)(hl:s.length<=1000):aFU [.str s]=some (bV s):=by
 refine Aq (Qj rfl) ?_;unfold aDR;have hw:IntKind.i64.wrap ((s.length:Int)-1)=(s.length:Int)-1:=Hg O O;simp only[GU,↓GQ,GS,simprocAttr,simprocAttr,hw];refine wS hl (q2:= .ptr [0] 0) (m0:=GV.put (λ_ _=>none) [0] 0 [.str [],.int .u8 0]) (λz a y q x=>?_) s.length _ _ (QA _) rfl rfl rfl (by rw[Zy];rfl) rfl;obtain⟨u,d,r⟩:=z;simp only at a y q x;subst a;rcases aJL s with ⟨p,t⟩|⟨k,p,t,f,b⟩
 ·rw[p]at x;have x:u 4= .int .i64 (-1):=x;have o:DU s=false:=by unfold DU;rw[t];rfl
  have j:bV s= .tup [.agg [.str [],.int .u8 0],.bool false]:=by unfold bV;rw[o];rfl
  rw[j]
  repeat' (first|(refine aA (Ah ?_) ?_;first|rfl|simp[Ap,An,GZ,Ag,Ac])|simp only[GU,↓GQ,GS,simprocAttr,simprocAttr,q,x,z2k,Qi])
 ·rw[p]at x;have x:u 4= .int .i64 (k:Int):=x;have c1:((k:Int)<0)=False:=eq_false O;simp only[GU,↓GQ,GS,simprocAttr,simprocAttr,q,x,c1];refine wR hl p t (λz i gm w=>?_) (λz n c j i gm e=>?_) 64 0 _ _ rfl ?_ (λm a=>absurd a (QR _)) y q x rfl z2k
  ·obtain⟨u,d,r⟩:=z;simp only at i gm;have o:DU s=false:=by
    cases h:DU s with
    |false=>rfl
    |true=>
     obtain⟨_,n,c,_,j⟩:=aBK h;rw[f]at j;exact absurd j (w n c)
   have j:bV s= .tup [.agg [.str [],.int .u8 0],.bool false]:=by unfold bV;rw[o];rfl
   rw[j];have g0:d [0] 0=some (.str []):=A_ (k:=0) gm rfl;have g:d [0] 1=some (.int .u8 0):=A_ (k:=1) gm rfl
   repeat' (first|(refine aA (Ah ?_) ?_;first|rfl|simp[Ap,An,GZ,Ag,Ac])|simp only[GU,↓GQ,GS,simprocAttr,simprocAttr,i,g0,g,z2k,Qi])
  ·obtain⟨u,d,r⟩:=z;simp only at i gm e;obtain⟨p1,v⟩:=aIH b c (by rw[f];exact j);have j:bV s= .tup [.agg [.str (s.take k),.int .u8 (n:Int)],.bool true]:=by unfold bV;rw[p1,v,f];rfl
   rw[j];have g0:d [0] 0=some (.str (s.take k)):=A_ (k:=0) gm rfl;have g:d [0] 1=some (.int .u8 (n:Int)):=A_ (k:=1) gm rfl;simp only[GU,↓GQ,GS,simprocAttr,simprocAttr,i,g0,g,e]
   all_goals exact Qd
  ·simp only;omega
def vY{s:Bs}(g:s.length<=1000)(p n:Nat):(Ip ((s.drop p).take n)).1.length<=1000∧0<=(Ip ((s.drop p).take n)).2:=by
 have:=P6 ((s.drop p).take n) 58;have q:((s.drop p).take n).length<=s.length:=Xs
 exact⟨by show(BY ((s.drop p).take n) 58).1.length<=1000;omega,by show(0:Int)<=((Ia (BY ((s.drop p).take n) 58).2.1).1:Int);omega⟩
def aBs(l:List Rl)(r:Rl):Am (l++[r])=Am l++[.agg [.str r.1,.int .u8 r.2]]:=by simp[Am,bP]
def OZ:=Az [(162,Ac aFU),(135,Ac gY)]
def aFZ:=RF OZ aDU [.t 2,.t 3] 50
def aRH:Kq aFZ 91:=Av (Al func91) (Aa aRF (Aa pU Ae))
def aCp{s:Bs}(hl:s.length<=1000){R:Option (List Rl)}{Q:Ex->St->Prop}
  (hQ:∀z t l,R=some l->z.s 4= .slice (decide (l=[])) t (Am l)->(∀r∈l,r.1.length<=1000∧0<=r.2)->l.length<=s.length+1->Q (.exit 0) z)
  (hE:∀z,R=none->z.s 2= .slice true [] []->z.s 3= .int .i64 4->Q .ret z):
  ∀(f i p:Nat)(acc:List Rl)(t:Id)(m0:GV)(z:St) g,i+f=s.length+1->p<=i->acc.length<=i->(∀r∈acc,r.1.length<=1000∧0<=r.2)->R=prR s f i p acc->LG 0 m0 162 z.m z.c (decide (acc=[])) t->z.s 0= .str s->z.s 4= .slice (decide (acc=[])) t (Am acc)->z.s 5= .int .i64 (p:Int)->z.s 6= .int .i64 (i:Int)->AK OZ [] MW Q z g:=by
 intro f;induction f with
 |zero=>
  intro i p acc t m0 z g hf u ha y hR hG n h4 h5 h6;refine Af MW.eq_1 ?_;have d1:((i:Int)<=(s.length:Int))=False:=eq_false O;simp only[GU,↓GQ,GS,simprocAttr,simprocAttr,n,h6,d1];exact hQ _ t acc hR h4 y O
 |succ f ih=>
  intro i p acc t m0 z g hf u ha y hR hG n h4 h5 h6;refine Af MW.eq_1 ?_;have d1:((i:Int)<=(s.length:Int))=True:=eq_true O;have i0:(0:Int)<=(i:Int):=O
  have hw:IntKind.i64.wrap ((i:Int)+1)=((i+1:Nat):Int):=Hg O O;have j:(Am acc).length<=i:=by rw[Ay];exact ha
  have oa:decide (acc=[])=true->Am acc=[]:=λh=>by rw[of_decide_eq_true h];rfl
  have b1:((0:Int)<=(i:Int)∧(i:Int)<=(s.length:Int))=True:=eq_true O;have b2:((0:Int)<=(p:Int)∧(p:Int)<=(i:Int))=True:=eq_true O;have a:=aFT ((s.drop p).take (i-p)) Xs;have q:=vY hl p (i-p);obtain⟨ja,ga,da⟩:=z;simp only at hG n h4 h5 h6;unfold prR at hR;have d:∀{k:St},True:=trivial;by_cases c:i=s.length∨s[i]?=some 44
  ·rw[if_pos c]at hR;unfold bV at a;have ih:=λt m0 z g=>ih (i+1) (i+1) (acc++[Ip ((s.drop p).take (i-p))]) t m0 z g
   generalize b:(s.drop p).take (i-p)=w at *;have v:decide (acc++[Ip w]=[])=false:=U
   rw[aBs,v]at ih;have va:((i:Int)=(s.length:Int))=True∨(((i:Int)=(s.length:Int))=False∧∃x:UInt8,s[i]?=some x∧((x.toNat:Int)=44)=True):=by
    by_cases ci:i=s.length
    ·exact .inl (eq_true O)
    ·refine .inr ⟨eq_false O,44,c.resolve_left ci,eq_true rfl⟩
   cases hpi:DU w with
   |false=>
    rw[hpi]at a hR;rw[if_neg Q4]at hR a;rcases va with c1|⟨c1,x,ia,c2⟩
    ·repeat' (first|(refine aA (Ah Xe) ?_)|simp (disch:=first|assumption|omega)only[↓GQ,GT,simprocAttr,GY,n,h4,h5,h6,d1,c1,b1,b2,i0,Qh,b,Ad OZ 162,a,z2k,Hi,pO,Qi,and_self,decide_true,decide_false,and_false])
     exact hE _ hR rfl rfl
    ·repeat' (first|(refine aA (Ah Xe) ?_)|simp (disch:=first|assumption|omega)only[↓GQ,GT,simprocAttr,GY,n,h4,h5,h6,d1,c1,ia,c2,b1,b2,i0,Qh,b,Ad OZ 162,a,z2k,Hi,pO,Qi,and_self,decide_true,decide_false,and_false])
     exact hE _ hR rfl rfl
   |true=>
    rw[hpi]at a hR;rw[if_pos rfl]at hR a;rcases va with c1|⟨c1,x,ia,c2⟩
    ·repeat' (first|(refine aA (Ah Xe) ?_)|simp (disch:=first|assumption|omega)only[↓GQ,GT,simprocAttr,GY,n,h4,h5,h6,d1,c1,b1,b2,i0,Qh,b,Ad OZ 162,a,z2k,Hi,pO,Qi,and_self,decide_true,decide_false,and_false])
     have na:=((hG.put (c':=da+4+10+8) (o:=0) (ds:=[.str [],.int .u8 0]) O).put (c':=da+4+10+8) (o:=0) (ds:=[.str (Ip w).1,.int .u8 (Ip w).2]) O).put (c':=da+4+10+11+2+2) (o:=0) (ds:=[.tok 163]) O;refine aA ⟨O,rfl,na.grow⟩ ?_;rw[Ba oa];simp (disch:=first|assumption|omega)only[↓GQ,GT,simprocAttr,GY,h6,hw,Hi,pO,Qi,and_self];refine ih _ _ _ _ O (QA _) XA (λr hr=>?_) hR ((na.app (xs:=Am acc) (c':=da+4+10+11+2+3) (c2:=da+4+10+11+2+5) O O).more Xb) n rfl rfl rfl;rcases Zc.1 hr with hr|hr
     ·exact y r hr
     ·rw[Q5.1 hr];exact q
    ·repeat' (first|(refine aA (Ah Xe) ?_)|simp (disch:=first|assumption|omega)only[↓GQ,GT,simprocAttr,GY,n,h4,h5,h6,d1,c1,ia,c2,b1,b2,i0,Qh,b,Ad OZ 162,a,z2k,Hi,pO,Qi,and_self,decide_true,decide_false,and_false])
     have na:=((hG.put (c':=da+4+10+8) (o:=0) (ds:=[.str [],.int .u8 0]) O).put (c':=da+4+10+8) (o:=0) (ds:=[.str (Ip w).1,.int .u8 (Ip w).2]) O).put (c':=da+4+10+11+2+2) (o:=0) (ds:=[.tok 163]) O;refine aA ⟨O,rfl,na.grow⟩ ?_;rw[Ba oa];simp (disch:=first|assumption|omega)only[↓GQ,GT,simprocAttr,GY,h6,hw,Hi,pO,Qi,and_self];refine ih _ _ _ _ O (QA _) XA (λr hr=>?_) hR ((na.app (xs:=Am acc) (c':=da+4+10+11+2+3) (c2:=da+4+10+11+2+5) O O).more Xb) n rfl rfl rfl;rcases Zc.1 hr with hr|hr
     ·exact y r hr
     ·rw[Q5.1 hr];exact q
  ·rw[if_neg c]at hR;have hi:i<s.length:=by
    rcases Zv i s.length with h|h
    ·exact h
    ·exact absurd (.inl O) c
   have c1:((i:Int)=(s.length:Int))=False:=eq_false O;have ia:s[i]?=some s[i]:=Ql hi;have c2:(((s[i]).toNat:Int)=44)=False:=eq_false (λe=>c (.inr (by
    rw[ia];have:(s[i]).toNat=44:=O
    exact congrArg some (UInt8.toNat_inj.1 this))))
   simp only[GU,↓GQ,GS,simprocAttr,simprocAttr,n,h6,d1,c1,i0,Qh,ia,c2,hw,decide_false];exact ih (i+1) p acc t m0 _ _ O O O y hR (hG.more Xb) n h4 h5 rfl
def jJ(s:Bs):∀(f i p:Nat)(acc:List Rl){l:List Rl},i+f=s.length+1->(acc≠[]∨i<=s.length)->prR s f i p acc=some l->l≠[]
 |0,i,p,acc,l,hf,ha,h=>by
  unfold prR at h;cases h;exact ha.resolve_right O
 |f+1,i,p,acc,l,hf,ha,h=>by
  unfold prR at h;split at h
  ·split at h
   ·exact jJ s f _ _ _ O (.inl U) h
   ·cases h
  ·rename_i c;exact jJ s f _ _ _ O (.inr (by have:i≠s.length:=λe=>c (.inl e);omega)) h
def aFY(s:Bs)(hl:s.length<=1000):aFZ [.str s]=some (.tup [.slice (Cc s).1 [] (Am (Cc s).2.1),.int .i64 (Cc s).2.2]):=by
 refine Aq (Qj rfl) ?_;unfold aDU;by_cases y:s=[]
 ·subst y;have e:Cc []=(true,[],0):=rfl;rw[e];simp only[GU,↓GQ,GS,simprocAttr,simprocAttr]
  all_goals exact Qd
 ·have c0:(s=[])=False:=eq_false y;rw[←aIF y];simp only[GU,↓GQ,GS,simprocAttr,simprocAttr,c0,decide_false];refine aCp hl (R:=prR s (s.length+1) 0 0 []) (λz t l w x f g=>?_) (λz w q d=>?_) (s.length+1) 0 0 [] [] _ _ _ O (QA _) (QA _) (λr j=>by cases j) rfl (LG.start Xb) rfl rfl rfl rfl
  ·obtain⟨u,k,n⟩:=z;simp only at x;rw[w];simp only;have c:=La (nl:=decide (l=[])) (l:=l) O f;by_cases o:B4 l=0
   ·have c1:(B4 l=0)=True:=eq_true o;have v:decide (l=[])=false:=by
     cases l with
     |nil=>
      exfalso;have:=jJ s (s.length+1) 0 0 [] O (.inr (Qw _)) w;exact this rfl
     |cons a b=>rfl
    rw[o]at c;rw[if_neg (by rw[o];simp)];rw[v]at x c;simp only[GU,↓GQ,GS,simprocAttr,simprocAttr,x,Ad OZ 135,c]
    all_goals exact Qd
   ·have c1:(B4 l=0)=False:=eq_false o;rw[if_pos o];generalize B4 l=e at *;simp only[GU,↓GQ,GS,simprocAttr,simprocAttr,x,Ad OZ 135,c,c1]
    all_goals exact Qd
  ·obtain⟨u,k,n⟩:=z;simp only at q d;rw[w];simp only[GU,↓GQ,GS,simprocAttr,simprocAttr,q,d]
   all_goals exact Qd
def M0:=y3 f33 2 [] []
def aD5:=y2 f33 [] [(2,M0)]
def Su:=y3 f34 3 [] []
def aD4:=y2 f34 [] [(3,Su)]
def Ss:=y3 f35 3 [] []
def aD3:=y2 f35 [] [(3,Ss)]
def Sr:=y3 f40 2 [] []
def aD2:=y2 f40 [] [(2,Sr)]
def aDX:=y2 f79 [] []
def Sw:=y3 f10 2 [] []
def aD8:=y2 f10 [] [(2,Sw)]
def aDT:=y2 f156 [] []
def aDS:=y2 f157 [] []
def aDW:=y2 f86 [] []
def HK:=y3 f87 9 [] []
def Sq:=y2 f87 [] [(9,HK)]
def MX:=y3 f90 3 [] []
def aDV:=y2 f90 [] [(3,MX)]
def aYY:=Az []
def sI:=RF aYY aDT [.cell (some 3) 4] 11
def aCG:Kq sI 156:=Av (Al func156) Ae
def gB(s:Bs)(p:Nat)(e x:Int):sI [.agg (Hr s p e),.int .i64 x]=some (.agg (Hr s p x)):=by
 refine Aq (Qj rfl) ?_;unfold aDT;unfold Hr at *
 repeat' (first|(refine aA (Ah Xe) ?_)|simp (disch:=first|assumption|omega)only[GU,↓GQ,GS,simprocAttr,simprocAttr,GY,Ho,BC,BK,BW,CR,O7,Bf,Hi,pO,Qi,and_self,ne_eq,not_true_eq_false,not_false_eq_true,decide_true,decide_false,Qr,Qp])
 all_goals exact Qd
def aYX:=Az []
def aFV:=RF aYX aDS [.t 2] 14
def aRG:Kq aFV 157:=Av (Al func157) Ae
def SY(s:Bs)(p:Nat)(e:Int)(o:p<=s.length):aFV [.agg (Hr s p e)]=some (.bool true):=by
 refine Aq (Qj rfl) ?_;unfold aDS;have c1:((0:Int)<=(p:Int))=True:=eq_true O;have c2:((p:Int)<=(s.length:Int))=True:=eq_true O;unfold Hr at *
 repeat' (first|(refine aA (Ah Xe) ?_)|simp (disch:=first|assumption|omega)only[GU,↓GQ,GS,simprocAttr,simprocAttr,GY,Ho,BC,BK,BW,CR,O7,Bf,Hi,pO,Qi,and_self,ne_eq,not_true_eq_false,not_false_eq_true,decide_true,decide_false,Qr,Qp,c1,c2])
 all_goals exact Qd
def fT:=Az [(156,Ac sI),(157,Ac aFV)]
def NC:=RF fT Sq [.t 4,.cell (some 3) 5] 59
def aCH:Kq NC 87:=Av (Al func87) (Aa aCG (Aa aRG Ae))
def aAb(s:Bs)(p:Nat)(e k:Int)(q:e≠0):NC [.agg (Hr s p e),.int .i64 k]=some (.tup [.int .u64 0,.agg (Hr s p e)]):=by
 refine Aq (Qj rfl) ?_;unfold Sq;have c1:(e=0)=False:=eq_false q;unfold Hr at *
 repeat' (first|(refine aA (Ah Xe) ?_)|simp (disch:=first|assumption|omega)only[GU,↓GQ,GS,simprocAttr,simprocAttr,GY,Ho,BC,BK,BW,CR,O7,Bf,Hi,pO,Qi,and_self,ne_eq,not_true_eq_false,not_false_eq_true,decide_true,decide_false,Qr,Qp,c1])
 all_goals exact Qd
def O2(s:Bs)(p k:Nat)(hl:s.length<=1000000)(o:p<=s.length)(j:k=1∨k=2)(h:s.length<p+k):NC [.agg (Hr s p 0),.int .i64 (k:Int)]=some (.tup [.int .u64 0,.agg (Hr s p 3)]):=by
 refine Aq (Qj rfl) ?_;unfold Sq;have a:=SY s p 0 o;have b:=gB s p 0 3;have t:IntKind.i64.wrap ((s.length:Int)-(p:Int))=(s.length:Int)-(p:Int):=Hg O O;unfold Hr at *;have c1:((s.length:Int)-(p:Int)<(k:Int))=True:=eq_true O;have c2:((k:Int)<1)=False:=eq_false O;have n:((8:Int)<(k:Int))=False:=eq_false O
 repeat' (first|(refine aA (Ah Xe) ?_)|simp (disch:=first|assumption|omega)only[GU,↓GQ,GS,simprocAttr,simprocAttr,GY,Ho,BC,BK,BW,CR,O7,Bf,Hi,pO,Qi,and_self,ne_eq,not_true_eq_false,not_false_eq_true,decide_true,decide_false,Qr,Qp,Ad fT 157,a,Ad fT 156,b,t,c1,c2,n])
 all_goals exact Qd
def aAa(s:Bs)(p:Nat)(hl:s.length<=1000000)(z:p+1<=s.length):NC [.agg (Hr s p 0),.int .i64 1]=some (.tup [.int .u64 ((s.getD p 0).toNat:Int),.agg (Hr s (p+1) 0)]):=by
 refine Aq (Qj rfl) ?_;unfold Sq;have a:=SY s p 0 O;have t:IntKind.i64.wrap ((s.length:Int)-(p:Int))=(s.length:Int)-(p:Int):=Hg O O;unfold Hr at *;have c1:((s.length:Int)-(p:Int)<1)=False:=eq_false O
 repeat' (first|(refine aA (Ah Xe) ?_)|simp (disch:=first|assumption|omega)only[GU,↓GQ,GS,simprocAttr,simprocAttr,GY,Ho,BC,BK,BW,CR,O7,Bf,Hi,pO,Qi,and_self,ne_eq,not_true_eq_false,not_false_eq_true,decide_true,decide_false,Qr,Qp,Ad fT 157,a,t,c1])
 have o:s[p]?=some s[p]:=Ql z;have y:s.getD p 0=s[p]:=by rw[QT,o];rfl
 have v:=(s[p]).toNat_lt;have w0:IntKind.i64.wrap ((p:Int)+0)=(p:Int):=Y3
 have i:IntKind.i64.wrap ((p:Int)+1)=((p+1:Nat):Int):=Hg O O;have e:IntKind.u64.wrap ((s[p]).toNat:Int)=((s[p]).toNat:Int):=B3 O O;have k:IntKind.u64.wrap 0=0:=rfl;have g:∀x:Int,(0:Int)+x=x:=ZG;have m:IntKind.i64.wrap 1=1:=rfl;have r:(0:Int)<=(p:Int):=O
 rw[y];generalize s[p]=x at *;generalize p+1=q at *;refine Af HK.eq_1 ?_
 repeat' (first|(refine aA (Ah Xe) ?_)|simp (disch:=first|assumption|omega)only[GU,↓GQ,GS,simprocAttr,simprocAttr,GY,Ho,BC,BK,BW,CR,O7,Bf,Hi,pO,Qi,and_self,ne_eq,not_true_eq_false,not_false_eq_true,decide_true,decide_false,Qr,Qp,t,c1,w0,i,e,k,g,m,r,o,Qh])
 refine Af HK.eq_1 ?_
 repeat' (first|(refine aA (Ah Xe) ?_)|simp (disch:=first|assumption|omega)only[GU,↓GQ,GS,simprocAttr,simprocAttr,GY,Ho,BC,BK,BW,CR,O7,Bf,Hi,pO,Qi,and_self,ne_eq,not_true_eq_false,not_false_eq_true,decide_true,decide_false,Qr,Qp,t,c1,w0,i,e,k,g,m,r,o,Qh,Zr])
 all_goals exact Qd
def zZ(s:Bs)(p:Nat)(hl:s.length<=1000000)(z:p+2<=s.length):NC [.agg (Hr s p 0),.int .i64 2]=some (.tup [.int .u64 ((DK s p:Nat):Int),.agg (Hr s (p+2) 0)]):=by
 refine Aq (Qj rfl) ?_;unfold Sq;have a:=SY s p 0 O;have t:IntKind.i64.wrap ((s.length:Int)-(p:Int))=(s.length:Int)-(p:Int):=Hg O O;unfold Hr at *;have c1:((s.length:Int)-(p:Int)<2)=False:=eq_false O
 repeat' (first|(refine aA (Ah Xe) ?_)|simp (disch:=first|assumption|omega)only[GU,↓GQ,GS,simprocAttr,simprocAttr,GY,Ho,BC,BK,BW,CR,O7,Bf,Hi,pO,Qi,and_self,ne_eq,not_true_eq_false,not_false_eq_true,decide_true,decide_false,Qr,Qp,Ad fT 157,a,t,c1])
 have o:s[p]?=some s[p]:=Ql O;have b:s[p+1]?=some s[p+1]:=Ql O;have v:=(s[p]).toNat_lt;have u:=(s[p+1]).toNat_lt;have w0:IntKind.i64.wrap ((p:Int)+0)=(p:Int):=Y3
 have i:IntKind.i64.wrap ((p:Int)+1)=((p+1:Nat):Int):=Hg O O;have d:IntKind.i64.wrap ((p:Int)+2)=((p+2:Nat):Int):=Hg O O;have j:IntKind.u64.wrap ((s[p]).toNat:Int)=((s[p]).toNat:Int):=B3 O O;have f:IntKind.u64.wrap ((s[p+1]).toNat:Int)=((s[p+1]).toNat:Int):=B3 O O;have k:IntKind.u64.wrap 0=0:=rfl;have e:IntKind.u64.wrap (256*((s[p]).toNat:Int))=256*((s[p]).toNat:Int):=B3 O O;have g:∀x:Int,(0:Int)+x=x:=ZG;have hn:DK s p=(s[p]).toNat*256+(s[p+1]).toNat:=by
  unfold DK;rw[QT,o,QT,b];rfl
 have c:IntKind.u64.wrap (256*((s[p]).toNat:Int)+((s[p+1]).toNat:Int))=((DK s p:Nat):Int):=by
  rw[hn];rw[B3 O O];omega
 have m:IntKind.i64.wrap 1=1:=rfl;have w6:IntKind.i64.wrap 2=2:=rfl;have p0:(0:Int)<=(p:Int):=O
 have w:(0:Int)<=((p+1:Nat):Int):=O
 generalize DK s p=n at *;clear hn;generalize s[p]=x at *;generalize s[p+1]=y at *;generalize p+2=r at *;generalize p+1=q at *;refine Af HK.eq_1 ?_
 repeat' (first|(refine aA (Ah Xe) ?_)|simp (disch:=first|assumption|omega)only[GU,↓GQ,GS,simprocAttr,simprocAttr,GY,Ho,BC,BK,BW,CR,O7,Bf,Hi,pO,Qi,and_self,ne_eq,not_true_eq_false,not_false_eq_true,decide_true,decide_false,Qr,Qp,t,c1,w0,i,j,k,g,m,p0,o,Qh])
 refine Af HK.eq_1 ?_
 repeat' (first|(refine aA (Ah Xe) ?_)|simp (disch:=first|assumption|omega)only[GU,↓GQ,GS,simprocAttr,simprocAttr,GY,Ho,BC,BK,BW,CR,O7,Bf,Hi,pO,Qi,and_self,ne_eq,not_true_eq_false,not_false_eq_true,decide_true,decide_false,Qr,Qp,t,c1,i,f,e,c,w6,w,b,Qh])
 refine Af HK.eq_1 ?_
 repeat' (first|(refine aA (Ah Xe) ?_)|simp (disch:=first|assumption|omega)only[GU,↓GQ,GS,simprocAttr,simprocAttr,GY,Ho,BC,BK,BW,CR,O7,Bf,Hi,pO,Qi,and_self,ne_eq,not_true_eq_false,not_false_eq_true,decide_true,decide_false,Qr,Qp,t,c1,d,Zr])
 all_goals exact Qd
def UH(s:Bs)(p:Nat)(e:Int)(hl:s.length<=1000000)(o:p<=s.length):NC [.agg (Hr s p e),.int .i64 1]=some (.tup [.int .u64 (A0 s p e).1,.agg (Hr s (A0 s p e).2.1 (A0 s p e).2.2)]):=by
 unfold A0;by_cases q:e=0
 ·subst q;rw[if_neg U];by_cases h:p<s.length
  ·rw[dif_pos h];have:=aAa s p hl h;have a:s.getD p 0=s[p]:=by rw[QT,Ql h];rfl
   rw[a]at this;exact this
  ·rw[dif_neg h];exact O2 s p 1 hl o (.inl rfl) O
 ·rw[if_pos q];exact aAb s p e 1 q
def fU:=Az [(87,Ac NC),(156,Ac sI)]
def sJ:=RF fU aDW [.t 2,.cell (some 3) 3] 44
def aCI:Kq sJ 86:=Av (Al func86) (Aa aCH (Aa aCG Ae))
def UI(s:Bs)(p:Nat)(hl:s.length<=1000000)(u:p<=s.length):sJ [.agg (Hr s p 0)]=some (.tup [.str (BH s p).1,.agg (Hr s (BH s p).2.1 (BH s p).2.2)]):=by
 refine Aq (Qj rfl) ?_;unfold aDW;unfold BH;by_cases z:s.length<p+2
 ·have j:Ef s p=none:=by unfold Ef;rw[if_pos z]
  rw[j];have a:=O2 s p 2 hl u (.inr rfl) z;have a:NC [.agg (Hr s p 0),.int .i64 2]=_:=a;simp only;unfold Hr at *
  repeat' (first|(refine aA (Ah Xe) ?_)|simp (disch:=first|assumption|omega)only[GU,↓GQ,GS,simprocAttr,simprocAttr,GY,Ho,BC,BK,BW,CR,O7,Bf,Hi,pO,Qi,and_self,ne_eq,not_true_eq_false,not_false_eq_true,decide_true,decide_false,Qr,Qp,Ad fU 87,a])
  all_goals exact Qd
 ·have a:=zZ s p hl O;have c:=gB s p 0 3;have v:DK s p<65536:=by
   unfold DK;have:=(s.getD p 0).toNat_lt;have:=(s.getD (p+1) 0).toNat_lt;omega
  by_cases d:s.length<p+2+DK s p
  ·have j:Ef s p=none:=by unfold Ef;rw[if_neg z,if_pos d]
   rw[j];simp only;unfold Hr at *;generalize DK s p=n at *;have ma:IntKind.i64.wrap (n:Int)=(n:Int):=Hg O O;have t:IntKind.i64.wrap ((s.length:Int)-((p+2:Nat):Int))=(s.length:Int)-((p+2:Nat):Int):=Hg O O;have c1:((s.length:Int)-((p+2:Nat):Int)<(n:Int))=True:=eq_true O;generalize p+2=q at *
   repeat' (first|(refine aA (Ah Xe) ?_)|simp (disch:=first|assumption|omega)only[GU,↓GQ,GS,simprocAttr,simprocAttr,GY,Ho,BC,BK,BW,CR,O7,Bf,Hi,pO,Qi,and_self,ne_eq,not_true_eq_false,not_false_eq_true,decide_true,decide_false,Qr,Qp,Ad fU 87,a,Ad fU 156,c,ma,t,c1])
   all_goals exact Qd
  ·have j:Ef s p=some ((s.drop (p+2)).take (DK s p)):=by unfold Ef;rw[if_neg z,if_neg d]
   rw[j];have y:((s.drop (p+2)).take (DK s p)).length=DK s p:=Xs
   simp only[y];unfold Hr at *;generalize DK s p=n at *;have ma:IntKind.i64.wrap (n:Int)=(n:Int):=Hg O O;have t:IntKind.i64.wrap ((s.length:Int)-((p+2:Nat):Int))=(s.length:Int)-((p+2:Nat):Int):=Hg O O;have c1:((s.length:Int)-((p+2:Nat):Int)<(n:Int))=False:=eq_false O;have o:IntKind.i64.wrap (((p+2:Nat):Int)+(n:Int))=((p+2+n:Nat):Int):=Xg
   have g:((0:Int)<=((p+2+n:Nat):Int)∧((p+2+n:Nat):Int)<=((s.length:Nat):Int))=True:=eq_true O;have b2:((0:Int)<=((p+2:Nat):Int)∧((p+2:Nat):Int)<=((p+2+n:Nat):Int))=True:=eq_true O;have m:p+2+n-(p+2)=n:=O
   generalize x:(s.drop (p+2)).take n=row at *;generalize na:p+2+n=r at *;generalize p+2=q at *;clear na
   repeat' (first|(refine aA (Ah Xe) ?_)|simp (disch:=first|assumption|omega)only[GU,↓GQ,GS,simprocAttr,simprocAttr,GY,Ho,BC,BK,BW,CR,O7,Bf,Hi,pO,Qi,and_self,ne_eq,not_true_eq_false,not_false_eq_true,decide_true,decide_false,Qr,Qp,Ad fU 87,a,ma,t,c1,o,g,b2,m,x,Qh])
   all_goals exact Qd
def rX:=Az [(86,Ac sJ)]
def aF0:=RF rX aDV [.t 2,.t 3] 34
def aRI:Kq aF0 90:=Av (Al func90) (Aa aCI Ae)
def pJ{m:GV}{e a b:Nat}{nl:Bool}{t:Id}{xs:List D}(f:b≠a)(w:nl=false->t≠[b]):∀(n p:Nat),Ai (Ha.app m (Be e [a] (.slice nl t xs))) [b] p n=Ai m [b] p n
 |0,p=>rfl
 |n+1,p=>by
  simp only[Ai];rw[pJ f w n,CZ,if_neg (by simp[f]),if_neg (λh=>w h.1 h.2.1.symm)]
def aCq{s:Bs}(hl:s.length<=2000){R:Option (List Bs)}{Q:Ex->St->Prop}
  (hQ:∀x nl t l,R=some l->x.s 5= .slice nl t (AL l)->nl=decide (l.length=0)->Q (.exit 0) x)
  (hE:∀x,R=none->x.s 2= .slice true [] []->x.s 3= .int .i64 3->Q .ret x):
  ∀(f p:Nat)(acc:List Bs)(nl:Bool)(t:Id)(m0:GV)(z:St) g,s.length<=p+f->p<=s.length->2*acc.length<=p->R=(Fc f s p).map (acc++·)->LG 5 m0 9 z.m z.c nl t->nl=decide (acc.length=0)->z.s 0= .str s->z.s 5= .slice nl t (AL acc)->z.s 4= .ptr [4] 0->Ai z.m [4] 0 3=some (Hr s p 0)->AK rX [] MX Q z g:=by
 intro f;induction f with
 |zero=>
  intro p acc nl t m0 z g hf hp ha hR hG qa y h5 w m4;refine Af MX.eq_1 ?_;have e:p=s.length:=O
  subst e;have i:z.m [4] 1=some (.int .i64 (s.length:Int)):=A_ (k:=1) m4 rfl;simp only[↓GQ,GT,simprocAttr,GY,y,w,i,Zr];refine hQ _ nl t acc ?_ h5 qa;rw[hR];unfold Fc;rw[if_pos (QA _)];simp
 |succ f ih=>
  intro p acc nl t m0 z g hf hp ha hR hG qa y h5 w m4;refine Af MX.eq_1 ?_;have i:z.m [4] 1=some (.int .i64 (p:Int)):=A_ (k:=1) m4 rfl;unfold Fc at hR;by_cases sa:s.length<=p
  ·rw[if_pos sa]at hR;have c1:((p:Int)<(s.length:Int))=False:=eq_false O;simp only[↓GQ,GT,simprocAttr,GY,y,w,i,c1];exact hQ _ nl t acc (by rw[hR];simp) h5 qa
  rw[if_neg sa]at hR;have c1:((p:Int)<(s.length:Int))=True:=eq_true O;have c2:((acc.length:Int)=1024)=False:=eq_false O;have v:(AL acc).length=acc.length:=Bb _;have oa:nl=true->AL acc=[]:=λh=>by
   rw[qa]at h;rw[Zk.1 (of_decide_eq_true h)];rfl
  have u:=UI (s:=s) (p:=p) O hp;obtain⟨ja,ga,n⟩:=z;simp only at hG y h5 w m4 i;have d:=hG.le;unfold BH at u;cases hrow:Ef s p with
  |none=>
   rw[hrow]at hR u;simp only[Hr]at u m4
   repeat' (first|(refine aA (Ah Ym) ?_)|simp (disch:=first|assumption|omega)only[↓GQ,GT,simprocAttr,GY,y,h5,w,v,c1,c2,m4,i,Ad rX 86,u,Ho,BC,BK,BW,Hi,pO,Qi,and_self,and_false])
   exact hE _ hR rfl rfl
  |some r=>
   rw[hrow]at hR u;obtain⟨_,ka,_⟩:=ET hrow;have fb:AL (acc++[r])=AL acc++[.str r]:=by simp[AL]
   have ih:=ih (p+2+r.length) (acc++[r]) false;rw[fb]at ih;simp only[Hr]at u m4;generalize AL acc=xs at *
   repeat' (first|(refine aA (Ah Ym) ?_)|simp (disch:=first|assumption|omega)only[↓GQ,GT,simprocAttr,GY,y,h5,w,v,c1,c2,m4,i,Ad rX 86,u,Ho,BC,BK,BW,Hi,pO,Qi,and_self,and_false])
   have na:=((hG.put (c':=n+5+3+5) (o:=0) (ds:=[.str [],.int .i64 0,.int .i64 0]) O).put (c':=n+5+3+5) (o:=0) (ds:=[.str s,.int .i64 ((p+2+r.length:Nat):Int),.int .i64 0]) O).put (c':=n+5+3+8+3+2) (o:=0) (ds:=[.tok 10]) O;refine aA ⟨O,rfl,na.grow⟩ ?_;rw[Ba oa];have cb:nl=false->t≠[n+5+3+5]:=λh e=>by
    rcases hG.tok with h1|⟨j,rfl,_,h3,_⟩
    ·rw[h]at h1;cases h1
    ·have:j=n+5+3+5:=by simpa using e
     omega
   have ab:=pJ (m:=((ga.put [n+5+3+5] 0 [D.str [],D.int IntKind.i64 0,D.int IntKind.i64 0]).put [n+5+3+5] 0 [D.str s,D.int IntKind.i64 ((p+2+r.length:Nat):Int),D.int IntKind.i64 0]).put [n+5+3+8+3+2] 0 [D.tok 10]) (e:=9) (a:=n+5+3+8+3+3) (xs:=xs) O cb 3 0;rw[Hi O,Ho]at ab;have xa:=na.app (xs:=xs) (c':=n+5+3+8+3+3) (c2:=n+5+3+8+3+5) O O;have b:(Ai (Ha.app (((ga.put [n+5+3+5] 0 [D.str [],D.int IntKind.i64 0,D.int IntKind.i64 0]).put [n+5+3+5] 0 [D.str s,D.int IntKind.i64 ((p+2+r.length:Nat):Int),D.int IntKind.i64 0]).put [n+5+3+8+3+2] 0 [D.tok 10]) (Be 9 [n+5+3+8+3+3] (.slice nl t xs))) [4] 0 3).isSome=true:=by
    rw[xa.rd O,←hG.rd O,m4];rfl
   repeat' (first|(refine aA (Ah Ym) ?_)|simp (disch:=first|assumption|omega)only[↓GQ,GT,simprocAttr,GY,w,ab,b,Ho,Hi,pO,Qi,and_self])
   refine ih _ _ _ _ O O XA ?_ ((xa.low_put (q:=4) (o:=0) (ds:=[.str s,.int .i64 ((p+2+r.length:Nat):Int),.int .i64 0]) O).more Xb) U y rfl w Ho;rw[hR,ZE];congr 1;funext l;simp
def vD:Option (List Bs)->D
 |some l=> .tup [.slice (decide (l.length=0)) [] (AL l),.int .i64 0]
 |none=> .tup [.slice true [] [],.int .i64 3]
def zY(s:Bs)(hl:s.length<=2000):aF0 [.str s]=some (vD (Fc s.length s 0)):=by
 refine Aq (Qj rfl) ?_;unfold aDV;simp (disch:=first|assumption|omega)only[GU,↓GQ,GS,simprocAttr,GY];refine aCq hl (R:=Fc s.length s 0) (λo nl t l g k x=>?_) (λo g q d=>?_) s.length 0 [] true [] _ _ _ O (Qw _) (QA _) U (LG.start (Qj rfl)) rfl rfl rfl rfl ?_
 ·subst x;rw[g];unfold vD;simp (disch:=first|assumption|omega)only[GU,↓GQ,GS,simprocAttr,GY,k]
  all_goals exact Qd
 ·rw[g];unfold vD;simp (disch:=first|assumption|omega)only[GU,↓GQ,GS,simprocAttr,GY,q,d]
  all_goals exact Qd
 ·exact Ho
def iM{n s:Bs}{l:List Bs}(h:Fc s.length s 0=some l)(q:l.length≠2):DG n s=(none,4):=by
 unfold DG;rw[h]
 match l,q with
 |[],_=>rfl
 |[a],_=>rfl
 |a::b::c::r,_=>rfl
def I2:=Az [(90,Ac aF0),(91,Ac aFZ),(72,Ac NK)]
def sL:=RF I2 aD0 [.cell (some 3) 4,.t 5] 46
def aRM:Kq sL 43:=Av (Al func43) (Aa aRI (Aa aRH (Aa pX Ae)))
def aAc(n s:Bs)(c:n.length<=1000000)(g:s.length<=1000):sL [.str n,.str s]=some (.tup [Lz (DG n s).1,.int .i64 (DG n s).2]):=by
 refine Aq (Qj rfl) ?_;unfold aD0;have d:=zY s O;have y:∀l,Fc s.length s 0=some l->∀r∈l,r.length<=s.length:=λl h=>My _ h
 by_cases ta:∃l,Fc s.length s 0=some l∧l.length≠2
 ·obtain⟨l,ho,q⟩:=ta;rw[iM ho q];rw[ho]at d;simp only[vD]at d;have i:=Bb l;have c1:((l.length:Int)=2)=False:=eq_false O;simp only[Lz]
  repeat' (first|(refine aA (Ah Xe) ?_)|simp (disch:=first|assumption|omega)only[GU,↓GQ,GS,simprocAttr,GY,Ad I2 90,d,i,c1,Ho,Hi,pO,Qi,and_self])
  all_goals exact Qd
 unfold DG;generalize Fc s.length s 0=o at *;cases o with
 |none=>
  simp only[vD]at d;simp only[Lz]
  repeat' (first|(refine aA (Ah Xe) ?_)|simp (disch:=first|assumption|omega)only[GU,↓GQ,GS,simprocAttr,GY,Ad I2 90,d,Ho,Hi,pO,Qi,and_self])
  all_goals exact Qd
 |some l=>
  simp only[vD]at d;have i:=Bb l;by_cases q:l.length=2
  ·match l,q with
   |[p,x],_=>
    have z:=y _ rfl p U;have u:=y _ rfl x U;have k:=aFY x O;obtain⟨r1,a⟩:=Vi x O;have v:=HV (n:=n) (p:=p) (nl:=(Cc x).1) (t:=[]) (l:=(Cc x).2.1) O (λr j=>Zd (a r j).1 Z) c O;simp only;generalize (Cc x).1=nl at *;generalize (Cc x).2.1=rs at *;generalize (Cc x).2.2=e at *;generalize Dc n p rs=te at *;have f:AL [p,x]=[.str p,.str x]:=rfl;rw[f]at d;simp only[Qy,Qx]at d;have b:decide (0+1+1=0)=false:=rfl;rw[b]at d;have f1:Bw [D.str [],.str [],.slice true [] []] [(0,1,.str n),(1,1,.str p),(2,1,.slice nl [] (Am rs))]=some [.str n,.str p,.slice nl [] (Am rs)]:=rfl;have i0:[D.str p,D.str x][0]?=some (.str p):=rfl;have w:[D.str p,D.str x][1]?=some (.str x):=rfl;by_cases c1:e=0
    ·have ka:(e=0)=True:=eq_true c1;by_cases c2:te=0
     ·have m:(te=0)=True:=eq_true c2;rw[if_neg (by rw[c1,c2];simp)];subst c1 c2;simp only[Lz,HD]
      repeat' (first|(refine aD (λ_=>?_) (λh=>absurd rfl h))|(refine aA (Ah Xe) ?_)|simp (disch:=first|assumption|omega)only[GU,↓GQ,GS,simprocAttr,GY,Ad I2 90,d,Ad I2 91,k,Ad I2 72,v,f1,i0,w,Zs,QH,Qy,Qx,Ho,Hi,pO,Qi,and_self])
      all_goals exact Qd
     ·have m:(te=0)=False:=eq_false c2;rw[if_pos (.inr c2)];subst c1;simp only[Lz]
      repeat' (first|(refine aD (λ_=>?_) (λh=>absurd rfl h))|(refine aA (Ah Xe) ?_)|simp (disch:=first|assumption|omega)only[GU,↓GQ,GS,simprocAttr,GY,Ad I2 90,d,Ad I2 91,k,Ad I2 72,v,m,f1,i0,w,Zs,QH,Qy,Qx,Ho,Hi,pO,Qi,and_self])
      all_goals exact Qd
    ·have ka:(e=0)=False:=eq_false c1;rw[if_pos (.inl c1)];simp only[Lz]
     repeat' (first|(refine aD (λ_=>?_) (λh=>absurd rfl h))|(refine aA (Ah Xe) ?_)|simp (disch:=first|assumption|omega)only[GU,↓GQ,GS,simprocAttr,GY,Ad I2 90,d,Ad I2 91,k,ka,f1,i0,w,Zs,QH,Qy,Qx,Ho,Hi,pO,Qi,and_self])
     all_goals exact Qd
  ·exact absurd ⟨l,rfl,q⟩ ta
structure gW (L M:List Tk):Prop where
 len:L.length=M.length
 ll:L.length<=1000
 ok:∀k∈L,aA1 k
 r:∀k∈L,k.2.2.2.length<=1000
 each:∀j,j<M.length->(AP L j).1=(AP M j).1∧(AP L j).2.1=(AP M j).2.1∧(AP L j).2.2.2=(AP M j).2.2.2∧AN L (AP M j).1=true∧AP L (HT L (AP M j).1)=AP L j
def jZ(p:Bool×List Tk×Bool×List Tk):List D:=[.agg [.slice p.1 [] (Au p.2.1)],.slice p.2.2.1 [] (Au p.2.2.2)]
def aCd(x y:Bool×List Tk×Bool×List Tk)(e:jZ x=jZ y):x=y:=by
 simp only[jZ,QB,D.agg.injEq,D.slice.injEq,true_and,and_true]at e;obtain⟨⟨p,m⟩,c,b⟩:=e;exact Q9 p (Q9 (Mu m) (Q9 c (Mu b)))
def F67:List D->Option D:=FX jZ (λp=>gW p.2.1 p.2.2.2) (λ_=> .bool true)
def aT6{n1 n2:Bool}{L M:List Tk}(h:gW L M):F67 [.agg [.slice n1 [] (Au L)],.slice n2 [] (Au M)]=some (.bool true):=BG (mk:=jZ) (a:=(n1,L,n2,M)) aCd h
def rd3{m:GV}{i:Id}{x y z:D}:Ai (m.put i 0 [x,y,z]) i 0 3=some [x,y,z]:=AM rfl
def aRq{S:GR}{L M:List Tk}{n1 n2 n5:Bool}{Q:Ex->St->Prop}(d:S 22=some (Ac F35))(b:S 105=some (Ac aL3))(a:S 104=some (Ac aUi))(hh:gW L M)(fa:∀z,Q (.exit 0) z):
  ∀(f j:Nat)(z:St) g,M.length=j+f->1<=z.c->z.s 1= .slice n2 [] (Au M)->z.s 2= .ptr [0] 0->z.s 5= .slice n5 [] (L.map λk=> .str k.1)->z.s 6= .int .i64 (j:Int)->Ai z.m [0] 0 1=some [.slice n1 [] (Au L)]->AK S [] VR Q z g:=by
 have ea:=hh.len;have ya:=hh.ll;intro f;induction f with
 |zero=>
  intro j z g hf hc u q h5 h6 hm;refine Af VR.eq_1 ?_;have:¬((j:Int)<M.length):=O
  simp only[↓GQ,GX,Hf,simprocAttr,u,h6,this,AD];exact fa _
 |succ f ih=>
  intro j z g hf hc u q h5 h6 hm;refine Af VR.eq_1 ?_;have w:j<M.length:=O
  have l:j<L.length:=O
  have v:((j:Int)<M.length):=O
  have o:((j:Int)<L.length):=O
  have ma:=nJ (j:=j);have hw:=wJ (j:=j) O;have ia:(Au M)[j]?=some (.agg [.str (AP M j).1,.str (AP M j).2.1,.slice (AP M j).2.2.1 [] (Am (AP M j).2.2.2)]):=Dp w;have e:(L.map λk=>D.str k.1)[j]?=some (.str (AP L j).1):=by simp[AP,Ql l]
  have hr:=hh.r _ (Rs l);obtain⟨e1,e2,e3,e4,e5⟩:=hh.each j w;have ha:F35 [.agg [.slice n1 [] (Au L)],.str (AP M j).1]=some (.tup [.agg [.str (AP L j).1,.str (AP L j).2.1,.slice (AP L j).2.2.1 [] (Am (AP L j).2.2.2)],.bool true]):=by
   rw[nK O hh.ok,if_pos e4,e5];rfl
  generalize AP M j=y at ia ha e1 e2 e3;generalize AP L j=x at e ha hr e1 e2 e3;obtain⟨x1,x2,x3,x4⟩:=x;obtain⟨y1,y2,y3,y4⟩:=y;simp only at e1 e2 e3 ia e ha hr;subst e1 e2 e3;have h:aL3 [.agg [.str x1,.str x2,.slice x3 [] (Am x4)]]=some (.agg [.str x1,.str x2,.slice x4.isEmpty [] (Am x4)]):=aL2 (k:=(x1,x2,x3,x4)) hr;have i:=aL4 (n:=x1) (p:=x2) (n1:=x4.isEmpty) (n2:=y3) hr;obtain⟨ja,ga,t⟩:=z;simp only at hc u q h5 h6 hm;simp only[↓GQ,GT,simprocAttr,u,q,h6,hm,v,ma,Qh,ia,AD,Ab d,ha,rd3,Qw,Hs,Qm,Qk,and_self,Qi,Qn,Qv];refine aA (Ah ?_) ?_
  ·first|rfl|(simp only[Ap,QW,Q1,QT,Qm,Qk,QL,An,QJ,QP,Qy,Qx,QU,QZ,GZ,↓GQ,reduceIte,Qo,q];simp[Ag,d,Ac];done)|(simp only[Ap,QW,Q1,QT,Qm,Qk,QL,An,QJ,QP,Qy,Qx,QU,QZ,GZ,↓GQ,reduceIte,Qo,u,q,h5,h6];simp[Ag,d,b,a,Ac];trace_state;omega)
  simp only[↓GQ,GT,simprocAttr,u,h5,h6,ma,Qh,ia,e,Ab b,h,Ab a,i,rd3,Qw,Hs,QF,QI,Qn,Qv];refine aA (Ah ?_) ?_
  ·first|rfl|(simp only[Ap,QW,Q1,QT,Qm,Qk,QL,An,QJ,QP,Qy,Qx,QU,QZ,GZ,↓GQ,reduceIte,Qo,u,q,h5,h6];simp[Ag,d,b,a,Ac];done)|(simp only[Ap,QW,Q1,QT,Qm,Qk,QL,An,QJ,QP,Qy,Qx,QU,QZ,GZ,↓GQ,reduceIte,Qo,u,q,h5,h6];simp[Ag,d,b,a,Ac];trace_state;omega)
  simp only[↓GQ,GX,Hx,simprocAttr,h6,hw];refine ih (j+1) _ _ O Xb u q h5 rfl ?_;have la:([0]:Id)≠[t+4+10]:=U
  show Ai ((ga.put [t+4+10] 0 _).put [t+4+10] 0 _) [0] 0 1=_;rw[AI la,AI la];exact hm
def aZV:Kq F67 49:=by
 obtain⟨S,x,hl⟩:=A4 (Aa aWb (Aa aRa (Aa aV6 (Aa aV7 Ae))));have c:=hl 103 _ rfl;have d:=hl 22 _ rfl;have b:=hl 105 _ rfl;have a:=hl 104 _ rfl;clear hl;refine B1 x (Al func49:Fn QC 49 56 aX7 [.t 4]) (λ_=>by simp[jZ]) (λp o=>?_);obtain⟨n1,L,n2,M⟩:=p;simp only at o;have y:=o.len;have u:=o.ll;have e:=aMa (nl:=n1) (l:=L) O;have v:((L.length:Int)=(M.length:Int))=True:=eq_true O;have r:(L.map λk=>D.str k.1).map D.un=L.map λk=> .str k.1:=by rw[List.map_map];rfl
 unfold aX7 jZ;simp only;simp only[↓GQ,Hb,simprocAttr,AD,QY,Ab c,e,v,Aj,Ar,As,Qu];refine aRq (L:=L) (M:=M) (n1:=n1) (n2:=n2) d b a o (λz=>?_) M.length 0 _ _ O Xb rfl rfl rfl rfl rfl;simp only[↓GQ,GT,reduceIte,QE]
 all_goals exact Qe
def aCY{l:List Mt}{p:Bs}:∀j,Ti l p j=0∨Op.bytesLess (l.getD (Ti l p j-1) m0t).1 p=true
 |0=> .inl rfl
 |j+1=>by
  unfold Ti;split
  ·rename_i h;right;exact h
  ·exact aCY j
def qK{l:List Mt}{p:Bs}:∀j i,Ti l p j<=i->i<j->Op.bytesLess (l.getD i m0t).1 p=false
 |0,i,_,h=>O
 |j+1,i,h1,h2=>by
  unfold Ti at h1;split at h1
  ·omega
  ·rename_i h;by_cases e:i=j
   ·subst e;exact Bool.eq_false_iff.2 h
   ·exact qK j i h1 O
theorem aA9{l:List Mt}{m:Mt}(h:Fb l)(c:∀i,i<l.length->(l.getD i m0t).1≠m.1):Fb (l.take (Ti l m.1 l.length)++m::l.drop (Ti l m.1 l.length)):=by
 have s:=kL l m.1 l.length;have h1:=aCY (l:=l) (p:=m.1) l.length;have q:=qK (l:=l) (p:=m.1) l.length;generalize Ti l m.1 l.length=k at s h1 q;have lo:∀i,i<k->Op.bytesLess (l.getD i m0t).1 m.1=true:=λi hi=>by
  rcases h1 with h1|h1
  ·omega
  ·by_cases e:i=k-1
   ·rw[e];exact h1
   ·exact Nt (h i (k-1) O O) h1
 have hi:∀i,k<=i->i<l.length->Op.bytesLess m.1 (l.getD i m0t).1=true:=λi d o=>by
  rw[Oy (λe=>c i o e.symm),q i d o];rfl
 intro i j x w;have y:(l.take k++m::l.drop k).length=l.length+1:=by
  grind
 rw[y]at w;rw[RY s,RY s];by_cases a1:i<k
 ·rw[if_pos a1];by_cases g:j<k
  ·rw[if_pos g];exact h i j x O
  ·rw[if_neg g];by_cases b2:j=k
   ·simp_all
   ·rw[if_neg b2];exact h i (j-1) O O
 ·rw[if_neg a1];have g:¬j<k:=by omega
  have b2:¬j=k:=O
  rw[if_neg g,if_neg b2];by_cases t:i=k
  ·grind
  ·rw[if_neg t];exact h (i-1) (j-1) O O
def mN{s:Bool×List Mt}{m:Mt}(h:Fb s.2):Fb (aFA s m).2:=by
 unfold aFA SO;by_cases u:Cp m.1 m.2.1≠0
 ·rw[if_pos u];exact h
 ·rw[if_neg u];by_cases q:0<=CH s.2 m.1
  ·rw[if_pos q];exact h
  ·grind [Ei,aA9,Ut]
def fM{l z:List Mt}{m:Mt}(h:Fb l)(e:(CK l m).1=some z):Fb z:=by
 rw[Lv h]at e;have:=mN (s:=(false,l)) (m:=m) h;unfold aFA at this;rw[e]at this;exact this
def fN{l z:List Mt}{m:Mt}(h:Fb l)(e:(CK l m).1=some z):∀x∈z,x∈l∨x=m:=by
 grind [Lv,SO]
def Cu:GR:=Az [(86,Ac sJ),(87,Ac NC),(88,Ac F47)]
def sM:List D->Option D:=RF Cu aD1 [.t 2,.t 3] 72
def aRN:Kq sM 41:=Av (Al func41) (Aa aCI (Aa aCH (Aa aZY Ae)))
def aCr{s:Bs}(hl:s.length<=2000){R:Option (List Mt)×Int}{Q:Ex->St->Prop}
  (hQ:∀ca nl ms,R=(some ms,0)->nl=decide (ms.length=0)->ca.s 5= .slice nl [] (Ax ms)->Q (.exit 0) ca)
  (hE:∀ca e,R=(none,e)->ca.s 2= .slice true [] []->ca.s 3= .int .i64 e->Q .ret ca):
  ∀(f p:Nat)(acc:List Mt)(nl:Bool)(z:St) g,s.length<=p+f->p<=s.length->Fb acc->(∀m∈acc,m.1.length<=1000000)->acc.length<=4->R=CA f s p acc->5<=z.c->nl=decide (acc.length=0)->z.s 0= .str s->z.s 4= .ptr [4] 0->z.s 5= .slice nl [] (Ax acc)->Ai z.m [4] 0 3=some (Hr s p 0)->AK Cu [] M_ Q z g:=by
 intro f;induction f with
 |zero=>
  intro p acc nl z g hf hp w y ha hR hc qa h0 h4 h5 m4;refine Af M_.eq_1 ?_;have i:z.m [4] 1=some (.int .i64 (p:Int)):=A_ (k:=1) m4 rfl;have d1:((p:Int)<(s.length:Int))=False:=eq_false O;simp only[↓GQ,GT,simprocAttr,GY,h0,h4,i,d1];exact hQ _ nl acc YX qa h5
 |succ f ih=>
  intro p acc nl z g hf hp w y ha hR hc qa h0 h4 h5 m4;refine Af M_.eq_1 ?_;have i:z.m [4] 1=some (.int .i64 (p:Int)):=A_ (k:=1) m4 rfl;unfold CA at hR;by_cases sa:s.length<=p
  ·have d1:((p:Int)<(s.length:Int))=False:=eq_false O;rw[if_pos sa]at hR;simp only[↓GQ,GT,simprocAttr,GY,h0,h4,i,d1];exact hQ _ nl acc hR qa h5
  rw[if_neg sa]at hR;have aa:((p:Int)<(s.length:Int))=True:=eq_true O;have x:=NY hp;have ua:(Ax acc).length=acc.length:=AC _;have u:=UI (s:=s) (p:=p) O hp;obtain⟨r1,r2,r3,_⟩:=Pn hp;have j:=UH s (BH s p).2.1 (BH s p).2.2 O r1;obtain⟨n1,n2,n3,_,_⟩:=F8 r1 (BH s p).2.2;have n:=UH s (A0 s (BH s p).2.1 (BH s p).2.2).2.1 (A0 s (BH s p).2.1 (BH s p).2.2).2.2 O n3;obtain⟨m1,m2,m3,_,_⟩:=F8 n3 (A0 s (BH s p).2.1 (BH s p).2.2).2.2;have d:=aT9 (nl:=nl) (t:=[]) (l:=acc) (m:=(BZ s p).1) O (λe=>YW) (by
   show(BH s p).1.length<=1000000;omega) y
  have ra:=Lv (l:=acc) (m:=(BZ s p).1) w;rw[←ra]at d;have ia:0<acc.length->(Ax acc)[acc.length-1]?=some (HI (AU acc (acc.length-1))):=λh=>C4 O
  have o:∀a b c:D,(QG 0 [a,b,c]).head?=some a:=λ_ _ _=>rfl
  have ih:=ih (BZ s p).2.1;have ya:=SQ acc (BZ s p).1;have v:∀l',(CK acc (BZ s p).1).1=some l'->(CK acc (BZ s p).1).2=0∧l'.length=acc.length+1∧l'.length<=4∧Fb l'∧(∀m∈l',m.1.length<=1000000):=λl' h=>by
   obtain⟨a,b,c⟩:=SP h;refine⟨a,b,c,fM w h,λm hm=>?_⟩;rcases fN w h m hm with h|rfl
   ·exact y m h
   ·show(BH s p).1.length<=1000000;omega
  unfold BZ at *;simp only at *;generalize AU acc (acc.length-1)=pm at *;generalize (BH s p).1=mp at *;generalize (BH s p).2.1=p1 at *;generalize (BH s p).2.2=e1 at *;generalize (A0 s p1 e1).1=q at *;generalize (A0 s p1 e1).2.1=p2 at *;generalize (A0 s p1 e1).2.2=e2 at *;generalize (A0 s p2 e2).1=c at *;generalize (A0 s p2 e2).2.1=p3 at *;generalize (A0 s p2 e2).2.2=e3 at *;have ma:IntKind.i64.wrap q=q:=Hg O O;obtain⟨pp,pq,pb⟩:=pm;obtain⟨ja,ga,da⟩:=z;simp only at hc h0 h4 h5 m4 i;have r:∀k,(4=da+k)=False:=λk=>eq_false O
  simp only[Hr,HI]at u j n d ia m4;have f1:∀mb:Bool,Bw [D.int .i64 0,.bool false] [(0,1,.int .i64 q),(1,1,.bool mb)]=some [.int .i64 q,.bool mb]:=λ_=>rfl
  have f2:∀mb:Bool,Bw [D.str [],.int .i64 0,.bool false] [(0,1,.str mp),(1,2,.agg [.int .i64 q,.bool mb])]=some [.str mp,.int .i64 q,.bool mb]:=λ_=>rfl
  by_cases he:e3=0
  rotate_left
  ·have ka:(e3=0)=False:=eq_false he;rw[if_pos he]at hR
   repeat' (first|(refine aA (Ah Xx) ?_)|simp (maxSteps:=4000000) (disch:=first|assumption|omega)only[↓GQ,GT,simprocAttr,GY,h0,h4,h5,m4,i,aa,ua,o,Qh,Ad Cu 86,u,Ad Cu 87,j,n,Ad Cu 88,Ho,BC,BK,BW,CR,O7,Bf,Hi,pO,Qi,and_self,decide_true,decide_false,f1,f2,ka])
   exact hE _ _ hR rfl rfl
  subst he;obtain⟨v1,v2,_⟩:=x rfl;rw[if_neg U]at hR;by_cases c2:c<=1
  rotate_left
  ·have fa:((1:Int)<c)=True:=eq_true O;rw[if_pos (.inl (decide_eq_false c2))]at hR
   repeat' (first|(refine aA (Ah Xx) ?_)|simp (maxSteps:=4000000) (disch:=first|assumption|omega)only[↓GQ,GT,simprocAttr,GY,h0,h4,h5,m4,i,aa,ua,o,Qh,Ad Cu 86,u,Ad Cu 87,j,n,Ad Cu 88,Ho,BC,BK,BW,CR,O7,Bf,Hi,pO,Qi,and_self,decide_true,decide_false,f1,f2,fa])
   exact hE _ _ hR rfl rfl
  have fa:((1:Int)<c)=False:=eq_false O;rcases Nat.eq_zero_or_pos acc.length with hj0|hj0
  ·have c1:((0:Int)<(acc.length:Int))=False:=eq_false O;rw[if_neg (λh=>h.elim (λh=>by rw[decide_eq_true c2]at h;cases h) (λh=>by have:=h.1;omega))]at hR;clear ia;rcases ya with ⟨l',a1,a2,a3⟩|⟨a1,a2⟩
   ·obtain⟨_,b2,b3,b4,b5⟩:=v l' a1;rw[a1,a2]at d;rw[a1]at hR;unfold uZ at d;simp only at d hR
    repeat' (first|(refine aA (Ah Xx) ?_)|simp (maxSteps:=4000000) (disch:=first|assumption|omega)only[↓GQ,GT,simprocAttr,GY,h0,h4,h5,m4,i,aa,ua,o,Qh,Ad Cu 86,u,Ad Cu 87,j,n,Ad Cu 88,Ho,BC,BK,BW,CR,O7,Bf,Hi,pO,Qi,and_self,decide_true,decide_false,f1,f2,fa,c1,ma,Ad Cu 88,d])
    refine ih l' false _ _ O v2 b4 b5 b3 hR (by first|omega|(simp only;omega)) (by rw[b2];simp) h0 h4 rfl Ho
   ·have a3:((CK acc (mp,q,decide (c=1))).2=0)=False:=eq_false O;rw[a1]at d hR;unfold uZ at d;simp only at d hR;generalize (CK acc (mp,q,decide (c=1))).2=er at *
    repeat' (first|(refine aA (Ah Xx) ?_)|simp (maxSteps:=4000000) (disch:=first|assumption|omega)only[↓GQ,GT,simprocAttr,GY,h0,h4,h5,m4,i,aa,ua,o,Qh,Ad Cu 86,u,Ad Cu 87,j,n,Ad Cu 88,Ho,BC,BK,BW,CR,O7,Bf,Hi,pO,Qi,and_self,decide_true,decide_false,f1,f2,fa,c1,ma,Ad Cu 88,d,a3])
    exact hE _ _ hR rfl rfl
  ·have c1:((0:Int)<(acc.length:Int))=True:=eq_true O;have ia:=ia hj0;have hw:IntKind.i64.wrap ((acc.length:Int)-1)=((acc.length-1:Nat):Int):=by rw[Hg O O];omega
   have cb:(0:Int)<=((acc.length-1:Nat):Int):=O
   simp only at hR;have pa:AQ .geq (.str pp) (.str mp)=some (.bool (!(Op.bytesLess pp mp))):=rfl;cases hb:Op.bytesLess pp mp with
   |false=>
    rw[hb]at pa;rw[if_pos (.inr ⟨hj0,hb⟩)]at hR;simp only[Qp]at pa
    repeat' (first|(refine aA (Ah Xx) ?_)|simp (maxSteps:=4000000) (disch:=first|assumption|omega)only[↓GQ,GT,simprocAttr,GY,h0,h4,h5,m4,i,aa,ua,o,Qh,Ad Cu 86,u,Ad Cu 87,j,n,Ad Cu 88,Ho,BC,BK,BW,CR,O7,Bf,Hi,pO,Qi,and_self,decide_true,decide_false,f1,f2,fa,c1,hw,cb,ia,pa])
    exact hE _ _ hR rfl rfl
   |true=>
    rw[hb]at pa;rw[if_neg (λh=>h.elim (λh=>by rw[decide_eq_true c2]at h;cases h) (λh=>Y9))]at hR;simp only[Qr]at pa;rcases ya with ⟨l',a1,a2,a3⟩|⟨a1,a2⟩
    ·obtain⟨_,b2,b3,b4,b5⟩:=v l' a1;rw[a1,a2]at d;rw[a1]at hR;unfold uZ at d;simp only at d hR
     repeat' (first|(refine aA (Ah Xx) ?_)|simp (maxSteps:=4000000) (disch:=first|assumption|omega)only[↓GQ,GT,simprocAttr,GY,h0,h4,h5,m4,i,aa,ua,o,Qh,Ad Cu 86,u,Ad Cu 87,j,n,Ad Cu 88,Ho,BC,BK,BW,CR,O7,Bf,Hi,pO,Qi,and_self,decide_true,decide_false,f1,f2,fa,c1,hw,cb,ia,pa,ma,Ad Cu 88,d])
     refine ih l' false _ _ O v2 b4 b5 b3 hR (by first|omega|(simp only;omega)) (by rw[b2];simp) h0 h4 rfl Ho
    ·have a3:((CK acc (mp,q,decide (c=1))).2=0)=False:=eq_false O;rw[a1]at d hR;unfold uZ at d;simp only at d hR;generalize (CK acc (mp,q,decide (c=1))).2=er at *
     repeat' (first|(refine aA (Ah Xx) ?_)|simp (maxSteps:=4000000) (disch:=first|assumption|omega)only[↓GQ,GT,simprocAttr,GY,h0,h4,h5,m4,i,aa,ua,o,Qh,Ad Cu 86,u,Ad Cu 87,j,n,Ad Cu 88,Ho,BC,BK,BW,CR,O7,Bf,Hi,pO,Qi,and_self,decide_true,decide_false,f1,f2,fa,c1,hw,cb,ia,pa,ma,Ad Cu 88,d,a3])
     exact hE _ _ hR rfl rfl
def vA:Option (List Mt)->D
 |some a=> .slice (decide (a.length=0)) [] (Ax a)
 |none=> .slice true [] []
def aF6(s:Bs)(hl:s.length<=2000):sM [.str s]=some (.tup [vA (CA s.length s 0 []).1,.int .i64 (CA s.length s 0 []).2]):=by
 refine Aq (Qj rfl) ?_;unfold aD1;have n:Bw [D.str [],.int .i64 0,.int .i64 0] [(0,1,.str s)]=some [.str s,.int .i64 0,.int .i64 0]:=rfl;simp only[GU,↓GQ,GS,simprocAttr,n,simprocAttr];refine aCr hl (R:=CA s.length s 0 []) (λz nl a g x k=>?_) (λz e g q d=>?_) s.length 0 [] true _ _ O (Qw _) (λi j _ w=>absurd w (QR _)) (λm r=>by cases r) Z rfl ?_ rfl rfl rfl rfl ?_
 ·rw[g];unfold vA;subst x;simp only[GU,↓GQ,GS,simprocAttr,k]
  all_goals exact Qd
 ·rw[g];unfold vA;simp only[GU,↓GQ,GS,simprocAttr,q,d]
  all_goals exact Qd
 ·exact Qj rfl
 ·exact Ho
def prD(x:Bs×Bs):D:= .agg [.str x.1,.str x.2]
def BI(l:List (Bs×Bs)):List D:=l.map prD
def A6(l:List (Bs×Bs)):(BI l).length=l.length:=QY ..
def Vh(l:List (Bs×Bs)):aF (BI l) 2=2:=XB
def GH{l:List (Bs×Bs)}{j:Nat}(h:j<l.length):(BI l)[j]?=some (.agg [.str l[j].1,.str l[j].2]):=by simp[BI,prD,Ql h]
def TO(l:List (Bs×Bs))(x:Bs×Bs):BI (l++[x])=BI l++[.agg [.str x.1,.str x.2]]:=by simp[BI,prD]
def N1(l:List (Bs×Bs))(k:Nat):QK k (BI l)=BI (l.take k):=by simp[BI]
def N2(l:List (Bs×Bs))(k:Nat):QG k (BI l)=BI (l.drop k):=by simp[BI]
def LG.bas{c0 e c:Nat}{m0 m:GV}{nl:Bool}{t:Id}(h:LG c0 m0 e m c nl t):LG c0 m e m c nl t:=⟨λ_ _ _=>rfl,h.tok,h.le⟩
def aYZ:=Az []
def aF2:=RF aYZ aDX [.t 4] 18
def aRJ:Kq aF2 79:=Av (Al func79) Ae
def aF1(s t:Bs):aF2 [.str s,.str t]=some (.bool (A2 s t)):=by
 refine Aq (Qj rfl) ?_;unfold aDX;by_cases c:t.length<=s.length
 ·have c1:((t.length:Int)<=(s.length:Int))=True:=eq_true O;have c0:(0:Int)<=(t.length:Int):=by omega
  have f:decide (s.take t.length=t)=A2 s t:=rfl;simp only[GU,↓GQ,GS,simprocAttr,c1,c0,Qh,decide_true,Qn,Q7,f,simprocAttr]
  all_goals exact Qd
 ·have c1:((t.length:Int)<=(s.length:Int))=False:=eq_false O;have o:A2 s t=false:=by
   cases h:A2 s t with
   |true=>exact absurd (IJ h) c
   |false=>rfl
  rw[o];simp only[GU,↓GQ,GS,simprocAttr,c1,decide_false,simprocAttr]
  all_goals exact Qd
def aY2:=Az []
def aGa:=RF aY2 aD4 [.t 4] 28
def aRQ:Kq aGa 34:=Av (Al func34) Ae
def aF9(nl:Bool)(l:List (Bs×Bs))(s:Bs)(hl:l.length<=1000):aGa [.slice nl [] (BI l),.str s]=some (.slice (decide (l.filter (λy=>y.1 !=s)=[])) [] (BI (l.filter λy=>y.1 !=s))):=by
 refine Aq (Qj rfl) ?_;unfold aD4;simp only[GU,↓GQ,GS,simprocAttr];refine By (n:=l.length) (I:=λj z=>z.s 0= .slice nl [] (BI l)∧z.s 1= .str s∧z.s 6= .int .i64 (j:Int)∧∃A nA tA,A=(l.take j).filter (λy=>y.1 !=s)∧nA=decide (A=[])∧z.s 5= .slice nA tA (BI A)∧LG 0 z.m 86 z.m z.c nA tA) (λj e ih z g a=>?_) (λz g a=>?_) 0 (Qw _) _ _ ⟨rfl,rfl,rfl,[],true,[],rfl,rfl,rfl,LG.start Xb⟩
 ·obtain⟨ja,d,t⟩:=z;obtain⟨r,u,o,A,nA,tA,eA,b,k,i⟩:=a;simp only at r u o k i;refine Af Su.eq_1 ?_;have v:((j:Int)<(l.length:Int))=True:=eq_true O;have q:=nJ (j:=j);have hw:=wJ (j:=j) O;have ia:=GH e;have na:l.take (j+1)=l.take j++[l[j]]:=QD e;have w:(BI A).length<=j:=by rw[A6,eA];exact Zd (Q8 ..) Xn
  generalize f:l[j]=x at *;by_cases p:x.1=s
  ·have qa:(x.1=s)=True:=eq_true p;simp only[GU,↓GQ,GS,simprocAttr,r,u,o,k,v,A6,q,Qh,ia,qa,simprocAttr,ne_eq,not_true_eq_false,decide_false,hw];refine ih _ _ ⟨r,u,rfl,A,nA,tA,?_,b,k,(i.more Xb).bas⟩;rw[na,Q6,←eA];simp[p]
  ·have qa:(x.1=s)=False:=eq_false p;simp only[GU,↓GQ,GS,simprocAttr,r,u,o,k,v,A6,q,Qh,ia,qa,simprocAttr,ne_eq,not_false_eq_true,decide_true];refine aA ⟨by rw[A6]at w;omega,rfl,YF⟩ ?_;simp only[GU,↓GQ,GS,simprocAttr,o,hw];have fin:(if nA=true then [D.agg [.str x.1,.str x.2]]else BI A++[D.agg [.str x.1,.str x.2]])=BI (A++[x]):=by
    rw[Ba (λh=>YY),TO]
   refine ih _ _ ⟨r,u,rfl,A++[x],false,_,?_,U,congrArg (D.slice false _) fin,((i.put O).app O Xb).bas⟩;rw[na,Q6,←eA];simp[p]
 ·obtain⟨ja,d,t⟩:=z;obtain⟨r,u,o,A,nA,tA,eA,b,k,i⟩:=a;simp only at r u o k i;refine Af Su.eq_1 ?_;have v:((l.length:Int)<(l.length:Int))=False:=eq_false O;rw[Qq (QA _)]at eA;subst eA b;simp only[GU,↓GQ,GS,simprocAttr,r,u,o,k,v,A6]
  all_goals exact Qd
def aFI:=Az [(79,Ac aF2)]
def aF8:=RF aFI aD3 [.t 4] 29
def aRP:Kq aF8 35:=Av (Al func35) (Aa aRJ Ae)
def aF7(nl:Bool)(l:List (Bs×Bs))(s:Bs)(hl:l.length<=1000):aF8 [.slice nl [] (BI l),.str s]=some (.slice (decide (l.filter (λy=>!A2 y.1 s)=[])) [] (BI (l.filter λy=>!A2 y.1 s))):=by
 refine Aq (Qj rfl) ?_;unfold aD3;simp only[GU,↓GQ,GS,simprocAttr];refine By (n:=l.length) (I:=λj z=>z.s 0= .slice nl [] (BI l)∧z.s 1= .str s∧z.s 6= .int .i64 (j:Int)∧∃A nA tA,A=(l.take j).filter (λy=>!A2 y.1 s)∧nA=decide (A=[])∧z.s 5= .slice nA tA (BI A)∧LG 0 z.m 86 z.m z.c nA tA) (λj e ih z g hI=>?_) (λz g hI=>?_) 0 (Qw _) _ _ ⟨rfl,rfl,rfl,[],true,[],rfl,rfl,rfl,LG.start Xb⟩
 ·obtain⟨ja,d,t⟩:=z;obtain⟨r,u,o,A,nA,tA,eA,b,k,i⟩:=hI;simp only at r u o k i;refine Af Ss.eq_1 ?_;have v:((j:Int)<(l.length:Int))=True:=eq_true O;have q:=nJ (j:=j);have p:=wJ (j:=j) O;have ia:=GH e;have na:l.take (j+1)=l.take j++[l[j]]:=QD e;have w:(BI A).length<=j:=by rw[A6,eA];exact Zd (Q8 ..) Xn
  generalize f:l[j]=x at *;have a:=aF1 x.1 s;cases hc:A2 x.1 s with
  |true=>
   rw[hc]at a;simp only[GU,↓GQ,GS,simprocAttr,r,u,o,k,v,A6,q,Qh,ia,Ad aFI 79,a,simprocAttr,Qr,p];refine ih _ _ ⟨r,u,rfl,A,nA,tA,?_,b,k,(i.more Xb).bas⟩;rw[na,Q6,←eA];simp[hc]
  |false=>
   rw[hc]at a;simp only[GU,↓GQ,GS,simprocAttr,r,u,o,k,v,A6,q,Qh,ia,Ad aFI 79,a,simprocAttr,Qp];refine aA ⟨by rw[A6]at w;omega,rfl,YF⟩ ?_;simp only[GU,↓GQ,GS,simprocAttr,o,p];have fin:(if nA=true then [D.agg [.str x.1,.str x.2]]else BI A++[D.agg [.str x.1,.str x.2]])=BI (A++[x]):=by
    rw[Ba (λh=>YY),TO]
   refine ih _ _ ⟨r,u,rfl,A++[x],false,_,?_,U,congrArg (D.slice false _) fin,((i.put O).app O Xb).bas⟩;rw[na,Q6,←eA];simp[hc]
 ·obtain⟨ja,d,t⟩:=z;obtain⟨r,u,o,A,nA,tA,eA,b,k,i⟩:=hI;simp only at r u o k i;refine Af Ss.eq_1 ?_;have v:((l.length:Int)<(l.length:Int))=False:=eq_false O;rw[Qq (QA _)]at eA;subst eA b;simp only[GU,↓GQ,GS,simprocAttr,r,u,o,k,v,A6]
  all_goals exact Qd
def xR(x:Bs×Bs)(l:List (Bs×Bs))(k:Bs):Tr.getL (x::l) k=if x.1=k then some x.2 else Tr.getL l k:=by
 unfold Tr.getL;by_cases h:x.1=k
 ·simp[h]
 ·have:(x.1==k)=false:=by simpa using h
  simp[List.find?_cons,this,h]
def aY1:=Az []
def UJ:=RF aY1 aD2 [.t 4,.t 5] 25
def aRO:Kq UJ 40:=Av (Al func40) Ae
def gC(nl:Bool)(l:List (Bs×Bs))(k:Bs)(hl:l.length<=1000):UJ [.slice nl [] (BI l),.str k]=some (.tup [.str ((Tr.getL l k).getD []),.bool (Tr.getL l k).isSome]):=by
 refine Aq (Qj rfl) ?_;unfold aD2;simp only[GU,↓GQ,GS,simprocAttr];refine By (n:=l.length) (I:=λj z=>z.s 0= .slice nl [] (BI l)∧z.s 1= .str k∧z.s 6= .int .i64 (j:Int)∧Tr.getL l k=Tr.getL (l.drop j) k) (λj w ih z g hI=>?_) (λz g hI=>?_) 0 (Qw _) _ _ ⟨rfl,rfl,rfl,rfl⟩
 ·obtain⟨m,d,r⟩:=z;obtain⟨y,u,i,a⟩:=hI;simp only at y u i;refine Af Sr.eq_1 ?_;have v:((j:Int)<(l.length:Int))=True:=eq_true O;have q:=nJ (j:=j);have t:=wJ (j:=j) O;have ia:=GH w;rw[Qt w,xR]at a;generalize l[j]=x at *;by_cases p:x.1=k
  ·rw[if_pos p]at a;have f:(x.1=k)=True:=eq_true p;rw[a];simp only[GU,↓GQ,GS,simprocAttr,y,u,i,v,A6,q,Qh,ia,f,simprocAttr,decide_true]
   all_goals exact Qd
  ·rw[if_neg p]at a;have f:(x.1=k)=False:=eq_false p;simp only[GU,↓GQ,GS,simprocAttr,y,u,i,v,A6,q,Qh,ia,f,simprocAttr,decide_false,t];exact ih _ _ ⟨y,u,rfl,a⟩
 ·obtain⟨m,d,r⟩:=z;obtain⟨y,u,i,a⟩:=hI;simp only at y u i;refine Af Sr.eq_1 ?_;have v:((l.length:Int)<(l.length:Int))=False:=eq_false O;rw[QQ (QA _)]at a;have c:Tr.getL l k=none:=a;rw[c];simp only[GU,↓GQ,GS,simprocAttr,y,u,i,v,A6]
  all_goals exact Qd
def Sy:=y3 f4 4 [] []
def aEb:=y2 f4 [] [(4,Sy)]
def Sx:=y3 f9 3 [] []
def aD9:=y2 f9 [] [(3,Sx)]
def M1:=y3 f12 8 [(12,[(7,11),(11,1),(11,6),(11,7)])] []
def aD7:=y2 f12 [] [(8,M1)]
def lR:=y2 f3 [(7,[(2,0)])] []
def jY(p:Bool×Bool×List Mt):List D:=[.agg [.slice p.1 [] (Ax p.2.2)],.slice p.2.1 [] (Ax p.2.2)]
def aCc(x y:Bool×Bool×List Mt)(e:jY x=jY y):x=y:=by
 grind [jY,IE]
def F66:List D->Option D:=FX jY (λp=>Ib p.2.2∧(p.1=true->p.2.2=[])) (λ_=> .bool true)
def aT7{n1 n2:Bool}{l:List Mt}(h:Ib l)(c:n1=true->l=[]):F66 [.agg [.slice n1 [] (Ax l)],.slice n2 [] (Ax l)]=some (.bool true):=BG (mk:=jY) (a:=(n1,n2,l)) aCc ⟨h,c⟩
def jU(p:Vw×Vw):List D:=[HN p.1,HN p.2]
def aB8(x y:Vw×Vw)(e:jU x=jU y):x=y:=by
 grind [jU,Mp]
structure nQ (v r:Vw):Prop where
 se:v.se=r.se
 te:v.te=r.te
 key:v.key=r.key
 ms:v.ms=r.ms
 mo:Ib v.ms
 mn:v.nlm=true->v.ms=[]
 ks:gW v.ks r.ks
def F22:List D->Option D:=FX jU (λp=>nQ p.1 p.2) (λ_=> .bool true)
def aUf{v r:Vw}(h:nQ v r):F22 [HN v,HN r]=some (.bool true):=BG (mk:=jU) (a:=(v,r)) aB8 h
def aZ4(ok66:Kq F66 48):Kq F22 15:=by
 obtain⟨S,v,hl⟩:=A4 (Aa ok66 (Aa aZV Ae));have c:=hl 48 _ rfl;have b:=hl 49 _ rfl;clear hl;refine B1 v (Al func15:Fn QC 15 38 aYs [.t 4]) (λ_=>by simp[jU]) (λp o=>?_);obtain⟨⟨a1,z,j,r,a5,f,s⟩,⟨g,b2,w,n,y,b6,b7⟩⟩:=p;obtain⟨u,q,m,x,k,i,e⟩:=o;simp only at u q m x k i e;subst u q m x;have a:=aT7 (n1:=r) (n2:=n) k i;have d:=aT6 (n1:=f) (n2:=b6) e;unfold aYs jU HN HG;simp only;cases a1<;>simp only[↓GQ,Hb,simprocAttr,Ab c,a,Ab b,d,Aj,Ar,As,Qk,Qu,QB,Zb,Q2]<;>(try (first|rfl|exact⟨rfl,rfl⟩))
theorem qF{l:List Mt}:∀(f j a:Nat),l.length=j+f->xC l f j a=a+(Ds (l.drop j)).length
 |0,j,a,h=>by
  rw[Zn O];rfl
 |f+1,j,a,h=>by
  have w:j<l.length:=O
  unfold xC;rw[qF f (j+1) _ O,Qt w];have e:AU l j=l[j]:=by simp[AU,Ql w]
  rw[e];simp only[Ds,QU,Qz,Vv];omega
def aJA(l:List Mt):aJB l=(Ds l).length:=by
 grind [aJB,qF]
def aIn(a:Bs)(x y z:UInt8):(a++[x,y]).set ((a++[x,y]).length-1) z=a++[x,z]:=by
 simp_all
def rI:=y1 f101 3 [] []
def aPi:=y0 f101 [] [(3,rI)]
def aOl:=y0 f137 [] []
def Py:=y1 f202 9 [] []
def Px:=y1 f202 5 [] [(9,Py)]
def aNJ:=y0 f202 [] [(5,Px)]
def aCl{S:GR}{fr:Id}{n:Int}(h:0<=n)(d:n<18446744073709551616){i:Nat}(hi:i<=8){X Y:D}{M:GV}{cs:Nat}{Q:Ex->St->Prop}
  (b:∀z,z.s 9= .int .u64 (n.fdiv (2 ^ (8*i)))->z.s 8= .int .i64 (i:Int)->z.s 7=X->z.s 2=Y->z.m=M->z.c=cs+9*i+3->Q (.exit 2) z):
  ∀(r j:Nat) z g,r=i-j->j<=i->z.s 10= .int .i64 (j:Int)->z.s 9= .int .u64 (n.fdiv (2 ^ (8*j)))->z.s 8= .int .i64 (i:Int)->z.s 7=X->z.s 2=Y->z.m=M->z.c=cs+9*j->AK S fr Py Q z g:=by
 intro r;induction r with
 |zero=>
  intro j z g hr e w y o x q a p;refine Af Py.eq_1 ?_;have v:((j:Int)<(i:Int))=False:=eq_false O;obtain rfl:j=i:=O
  simp only[↓GQ,GX,Hf,simprocAttr,w,o,v];exact b _ y o x q a Xb
 |succ r ih=>
  intro j z g hr e w y o x q a p;refine Af Py.eq_1 ?_;have v:((j:Int)<(i:Int))=True:=eq_true O;have t:IntKind.i64.wrap ((j:Int)+1)=((j+1:Nat):Int):=Yb
  have f:((256:Int)=0)=False:=eq_false Z;simp only[↓GQ,GX,Hf,simprocAttr,w,y,o,v,t,zI h d,ne_eq,f];exact ih (j+1) _ _ O O rfl rfl o x q a Xb
set_option maxHeartbeats 1000000 in
def aCk{S:GR}{fr:Id}{m0:GV}{n:Int}(h:0<=n)(h':n<18446744073709551616){T:Nat}{Q:Ex->St->Prop}:
  ∀(k:Nat) u (t:Id) (xs:List D) g,k<=8->xs.length+k<=200000000->u.c+Ir k=T->u.s 8= .int .i64 ((k:Int)-1)->u.s 7= .slice false t xs->u.s 2= .int .u64 n->Gd 5 fr m0 true [] u.m u.c t->
   (∀x t',x.s 7= .slice false t' (xs++Aw (OY k n))->(k=0->t'=t∧x.m=u.m∧u.c<=x.c)->(0<k->t'=[T-5]++fr∧Gd 5 fr m0 true [] x.m x.c t')->Q (.exit 0) x)->AK S fr Px Q u g:=by
 intro k;induction k with
 |zero=>
  intro u t xs g _ _ hT w h7 q r fa;refine Af Px.eq_1 ?_;have v:((0:Int)<=((0:Nat):Int)-1)=False:=eq_false Z;simp only[↓GQ,GX,Hf,simprocAttr,w,v];exact fa _ t (by simp only[↓GQ,reduceIte,Qo,h7,OY,Aw,QP,Q3]) (λ_=>⟨rfl,rfl,Xb⟩) (λh=>absurd h O)
 |succ k ih=>
  intro u t xs g hk y hT w h7 q r fa;simp only[Ir]at hT;refine Af Px.eq_1 ?_;have hw:IntKind.i64.wrap ((k:Int)-1)=(k:Int)-1:=IntWalk.i64_in _ ⟨O,O⟩;have p:u.s 8= .int .i64 (k:Int):=by rw[w];congr 1;omega
  have ra:((0:Int)<=(k:Int))=True:=eq_true O;have f:((256:Int)=0)=False:=eq_false Z;simp only[↓GQ,GX,Hf,simprocAttr,p,ra,q];refine aCl h h' (i:=k) O (X:= .slice false t xs) (Y:= .int .u64 n) (M:=u.m) (cs:=u.c+5) (λx a9 a8 a7 a2 am ac=>?_) k 0 _ _ rfl O rfl ?_ p h7 q rfl (by first|omega|rfl|(simp only;done))
  ·have z:Gd 5 fr m0 true [] (u.m.put ((x.c+4)::fr) 0 [.tok 6]) u.c t:=r.put (l:=[]) O;have la:t≠[]:=by
    obtain⟨a,b,e,_⟩:=r.name;rw[e];simp
   simp only[↓GQ,GT,simprocAttr,Hs,and_self,a9,a8,a7,ne_eq,f,Mr,zJ h];rw[am];refine aA ⟨O,rfl,.inr ⟨z.tok,la⟩⟩ ?_;simp only[↓GQ,GT,simprocAttr,a8,hw];have hd:Gd 5 fr m0 true [] (Ha.app (u.m.put ((x.c+4)::fr) 0 [.tok 6]) (Be 5 ((x.c+5)::fr) (.slice false t xs))) (x.c+7+3) ((x.c+5)::fr):=
    Gs.app (l:=[]) z.gs O O
   refine ih _ ((x.c+5)::fr) (xs++[.int .u8 ((((n.fdiv (2 ^ (8*k))) % 256).toNat:Nat):Int)]) _ O Xc Xb rfl rfl a2 hd (λo j e e2 e3=>?_);refine fa o j ?_ (λh=>absurd h O) (λ_=>?_)
   ·grind [OY,Aw,toNat_ofNat]
   ·by_cases ma:k=0
    ·obtain⟨b,c,d⟩:=e2 ma;subst ma;simp only[Ir]at hT;refine⟨?_,?_⟩
     ·grind
     ·rw[b,c];exact hd.more d
    ·exact e3 O
  ·simp only[↓GQ,reduceIte,Qo,Nat.mul_zero,Int.pow_zero];rw[show n.fdiv 1=n from Int.fdiv_one n]
def aLs:List D->Option (List D×List Nat)
 |[.int .i64 s,.int .u64 n]=>if 1<=s∧s<=8∧0<=n∧n<18446744073709551616 then some (Aw (OY s.toNat n),[9+Ir s.toNat])else none
 |_=>none
set_option maxHeartbeats 1000000 in
def aVl:(cQ 5 id aLs).ok QC 202:=by
 refine GI (S:=λ_=>none) AO (Al func202:Fn QC 202 42 aNJ [.t 6]) (λds m m' fr _=>rfl) (λds m fr d u h na=>?_);obtain⟨nl,t,xs,v,ys,l,rfl,q,f,k,rfl,rfl⟩:=mC h;unfold aLs at k;split at k
 ·rename_i s n;split at k
  ·rename_i g;obtain⟨ja,ta,c,xa⟩:=g;simp only[QN,Zt]at k;obtain⟨rfl,rfl⟩:=k;refine⟨U,?_⟩;clear h;have y:((s.toNat:Nat):Int)=s:=Int.toNat_of_nonneg O;have w1:IntKind.i64.wrap (s-1)=((s.toNat:Nat):Int)-1:=by rw[IntWalk.i64_in _ ⟨O,O⟩];omega
   have g1:(s<(1:Int))=False:=eq_false O;have g2:((8:Int)<s)=False:=eq_false O;have p:aF xs 1=1:=by
    cases xs with
    |nil=>rfl
    |cons a b=>
     simp only[QW,Zj]at q;cases a<;>simp[Eb]at q;rfl
   unfold aNJ;simp only[↓GQ,GX,Hf,simprocAttr,Qx,Zm,false_and];refine aA ⟨O,p,.inr ⟨by simp[Bp],U⟩⟩ ?_;simp only[↓GQ,GX,Hf,simprocAttr,g1,g2,w1];have hd:Gd 5 fr m true [] (Ha.app (m.put (1::fr) 0 [.tok 6]) (Be 5 (3::fr) (.slice false (1::fr) []))) 14 (3::fr):=by
    have z:Gd 5 fr m true [] (m.put (1::fr) 0 [.tok 6]) 2 (1::fr):=⟨⟨[],1,rfl,O⟩,by simp[Bp],λi o hi=>MD (l:=[]) i o hi⟩;exact Gs.app (l:=[]) z.gs O O
   refine aCk c xa (T:=14+Ir s.toNat) s.toNat _ (3::fr) xs _ O O rfl rfl (by simp only[↓GQ,GX,Hf,reduceIte,Qo,QV]) rfl hd (λx t' e j e3=>?_);obtain⟨rfl,r⟩:=e3 O;have w:14+Ir s.toNat-5=9+Ir s.toNat:=O
   rw[w]at e r;simp only[↓GQ,GX,simprocAttr,e];exact⟨rfl,r.finc na⟩
  ·cases k
 ·cases k
def aAx:List D->Option (List D×List Nat)
 |[.str s]=>if s.length<=65535 then some (Aw (OY 2 s.length++s),[11])else none
 |_=>none
def aMA:(cQ 5 U8 aAx).ok QC 137:=by
 obtain⟨S,n,hl⟩:=A4 (Aa aVl Ae);have a:=hl 202 _ rfl;clear hl;refine GI (S:=S) n (Al func137:Fn QC 137 16 aOl [.t 4,.t 5]) (λds m m' fr _=>rfl) (λds m fr d u h na=>?_);obtain⟨nl,t,xs,v,ys,l,rfl,x,f,j,rfl,rfl⟩:=mC h;unfold aAx at j;split at j
 ·rename_i s;split at j
  ·rename_i g;simp only[QN,Zt]at j;obtain⟨rfl,rfl⟩:=j;refine⟨U,?_⟩;clear h;have r:((65535:Int)<(s.length:Int))=False:=eq_false O;have e:IntKind.u64.wrap (s.length:Int)=(s.length:Int):=B3 O O;have b:aLs [.int .i64 2,.int .u64 (s.length:Int)]=some (Aw (OY 2 s.length),[54]):=by
    simp only[aLs];rw[if_pos ⟨O,O,O,O⟩];rfl
   unfold aOl;simp only[↓GQ,GX,Hf,simprocAttr,A7 a,r,e];refine dY x f b ?_;simp only[↓GQ,GX,simprocAttr,false_and,id,BA];have z:Gd 5 fr m true [] (m.put ([54]++9::fr) 0 [.tok 6]) 10 ([54]++9::fr):=
    ⟨⟨[54],9,rfl,O⟩,by rw[Bp,if_pos ⟨rfl,rfl⟩],λi o hi=>MD i o hi⟩
   refine aA ⟨YS,?_,.inr ⟨z.tok,U⟩⟩ ?_
   ·cases s<;>rfl
   simp only[↓GQ,GX,simprocAttr];refine⟨by rw[C1,QO];rfl,?_⟩;exact(Gs.app (c':=12) (l:=[]) (k:=11) z.gs O O).finc na
  ·cases j
 ·cases j
def VY:=y3 f74 5 [] []
def aOc:=y2 f74 [] [(5,VY)]
def aO6:=y2 f29 [] []
def aOb:=y2 f161 [] []
def aO4:=y2 f89 [] []
def PW:=y3 f42 7 [] []
def aO5:=y2 f42 [] [(7,PW)]
def fQ:=Az [(201,Ac hZ),(134,Ac nN)]
def aTO:=RF fQ aOb [.t 2] 75
def aXd:Kq aTO 161:=Av (Al func161) (Aa aBT (Aa aME Ae))
def aKQ(k n:Int)(name:Bs)(hl:name.length<=1000000):aTO [.agg [.int .u8 k,.str name,.int .i64 n]]=some (.int .i64 (Br k name n)):=by
 refine Aq (Qj rfl) ?_;unfold aOb;have a:hZ [.str name]=some (.int .i64 (AV name)):=if_pos hl;have c:nN [.str name]=some (.bool (BJ name)):=rfl;unfold Br;generalize AV name=r at *;generalize BJ name=b at *;by_cases s:k<1∨5<k
 ·have e:(if k=1 then(if n=0∧r=0 then(0:Int)else 2)else if k=2 then(if 1<=n∧n<=30∧r=0 then 0 else 2)else if k=3 then(if n=0∧b=true then 0 else 2)else if k=4∨k=5 then(if n=0∧name=[]then 0 else 2)else 22)=22:=by
   rw[if_neg O,if_neg O,if_neg O,if_neg O]
  rw[e];have h:True:=trivial
  repeat' (first|(refine aD (λh=>?_) (λh=>?_)<;>try (exfalso;omega))|refine AJ ?_ |(simp only[GU,↓GQ,GS,simprocAttr,h,decide_true,decide_false,Zh,Ad fQ 201,a]))
  all_goals exact Qd
 rcases(by omega:k=1∨k=2∨k=3∨k=4∨k=5)with rfl|rfl|rfl|rfl|rfl
 ·by_cases c1:r=0<;>by_cases c2:n=0
  all_goals
   simp only[GU,↓GQ,GS,simprocAttr,Ad fQ 201,a,c1,c2,decide_true,decide_false,and_true,and_false,and_self,false_and,true_and]
   all_goals exact Qd
 ·by_cases c1:r=0<;>by_cases c2:1<=n<;>by_cases q:n<=30
  all_goals
   simp only[GU,↓GQ,GS,simprocAttr,Ad fQ 201,a,c1,c2,q,decide_true,decide_false,and_true,and_false,and_self,false_and,true_and]
   all_goals exact Qd
 ·cases b<;>by_cases c2:n=0
  all_goals
   simp only[GU,↓GQ,GS,simprocAttr,Ad fQ 201,a,Ad fQ 134,c,c2,decide_true,decide_false,and_true,and_false,and_self,false_and,true_and]
   all_goals exact Qd
 all_goals
  by_cases c2:n=0
  all_goals
   by_cases c1:name=[]
   ·have d1:decide (name=[])=true:=decide_eq_true c1;simp only[GU,↓GQ,GS,simprocAttr,Ad fQ 201,a,d1,c2,decide_true,decide_false]
    all_goals exact Qd
   ·have d1:decide (name=[])=false:=decide_eq_false c1;simp only[GU,↓GQ,GS,simprocAttr,Ad fQ 201,a,d1,c2,decide_true,decide_false]
    all_goals exact Qd
def aTq:=Az [(161,Ac aTO)]
def aTY:=RF aTq aO4 [.t 2,.t 3] 37
def aXv:Kq aTY 89:=Av (Al func89) (Aa aXd Ae)
def aK9(k n:Int)(name:Bs)(hl:name.length<=1000000):aTY [.agg [.int .u8 k,.str name,.int .i64 n]]=some (.tup [.str (A9 k name n),.int .i64 (Br k name n)]):=by
 refine Aq (Qj rfl) ?_;unfold aO4;have a:=aKQ k n name hl;have q:Br k name n=0->1<=k∧k<=5:=λh=>by unfold Br at h;repeat' split at h;all_goals first|omega|cases h
 have a1:∀x y,AQ .add (.str [x,y]) (.str name)=some (.str ([x,y]++name)):=λx y=>LS YQ
 have t:∀x y z w,AQ .add (.str ([x,y]++name)) (.str [z,w])=some (.str ([x,y]++name++[z,w])):=λx y z w=>LS YR
 unfold A9;by_cases e:Br k name n=0
 ·have s:=q e;rw[e]at a ⊢;rcases(by omega:k=1∨k=2∨k=3∨k=4∨k=5)with rfl|rfl|rfl|rfl|rfl
  all_goals
   simp only[GU,↓GQ,GS,simprocAttr,Ad aTq 161,a,a1,t]
   all_goals exact Qd
 ·simp only[GU,↓GQ,GS,simprocAttr,Ad aTq 161,a,e]
  all_goals exact Qd
theorem aDh{s:Bs}{a b:UInt8}(h:A2 s [a,b]=true):s=[a,b]++s.drop 2:=by
 have u:s.take 2=[a,b]:=by simpa[A2]using h
 rw[←u,Q0]
def iN{s:Bs}(h:Br (AH s).1 (AH s).2.1 (AH s).2.2=0):A9 (AH s).1 (AH s).2.1 (AH s).2.2=s:=by
 have j:A9 (AH s).1 (AH s).2.1 (AH s).2.2=if(AH s).1=1 then [109,47]++(AH s).2.1 else if(AH s).1=2 then [100,47]++(AH s).2.1++[0,UInt8.ofNat (IntKind.u8.wrap (AH s).2.2).toNat]else if(AH s).1=3 then [116,47]++(AH s).2.1 else if(AH s).1=4 then [115,47,109,111,117,110,116,115]else [115,47,114,105,110,103]:=by
  grind [A9]
 rw[j];clear j;unfold AH at h ⊢;split
 ·rename_i e;rw[e];rfl
 split
 ·rename_i e;rw[e];rfl
 split
 ·grind [aDh]
 split
 ·grind [aDh]
 split
 ·rename_i e;obtain⟨p,m,c⟩:=e;show [100,47]++_++_=s
  conv=>rhs;rw[aDh p]
  generalize s.drop 2=u at *;rw[QO];congr 1;have y:u.length-2<u.length:=O
  have q:u.length-1<u.length:=O
  have z:u.drop (u.length-2)=[u[u.length-2],u[u.length-1]]:=by
   rw[Qt y,show u.length-2+1=u.length-1 by omega,Qt q,show u.length-1+1=u.length by omega,Zy]
  have b:u[u.length-2]=0:=by simpa[QT,Ql y]using c
  have v:UInt8.ofNat (IntKind.u8.wrap ((u.getD (u.length-1) 0).toNat:Int)).toNat=u[u.length-1]:=by
   have:u.getD (u.length-1) 0=u[u.length-1]:=by simp[QT,Ql q]
   rw[this,w8 O (by have:=u[u.length-1].toNat_lt;omega),Qh];exact UInt8.ofNat_toNat
  show _++[0,UInt8.ofNat (IntKind.u8.wrap ((u.getD (u.length-1) 0).toNat:Int)).toNat]=u;rw[v]
  conv=>rhs;rw[←Q0 (u.length-2) u,z,b]
 ·rename_i y q d x k;rw[if_neg y,if_neg q,if_neg d,if_neg x,if_neg k]at h;exact absurd h Z
def E9(s:Bs):List (Int×Bs×Int):=[(1,s.drop 2,0),(3,s.drop 2,0),(4,[],0),(5,[],0)]++if 4<=s.length then [(2,(s.take (s.length-2)).drop 2,((s.getD (s.length-1) 0).toNat:Int))]else []
def MK(s:Bs)(c:Int×Bs×Int):Prop:=Br c.1 c.2.1 c.2.2=0∧A9 c.1 c.2.1 c.2.2=s
def aT1{s:Bs}{c:Int×Bs×Int}(h:MK s c):A8 s=(c,0):=by
 have a:=Lo h.1;rw[h.2]at a;unfold A8;rw[a,if_neg (λe=>e h.1)]
def kW{s:Bs}(h:Br (AH s).1 (AH s).2.1 (AH s).2.2=0):AH s∈E9 s:=by
 unfold AH at h ⊢;split
 ·unfold E9;simp
 split
 ·unfold E9;simp
 split
 ·unfold E9;simp
 split
 ·unfold E9;simp
 split
 ·rename_i e;have m:=e.2.1;rw[Zl]at m;unfold E9;rw[if_pos O];refine Zc.2 (.inr (Q5.2 ?_));have o:((s.drop 2).take ((s.drop 2).length-2))=(s.take (s.length-2)).drop 2:=by rw[ZF,Zl]
  have q2:(s.drop 2).getD ((s.drop 2).length-1) 0=s.getD (s.length-1) 0:=by
   rw[Zl];simp only[QT,List.getElem?_drop];rw[show 2+(s.length-2-1)=s.length-1 by omega]
  rw[o,q2]
 ·rename_i u q d x k;rw[if_neg u,if_neg q,if_neg d,if_neg x,if_neg k]at h;exact absurd h Z
def aQg{s:Bs}(h:∀c∈E9 s,¬MK s c):A8 s=((0,[],0),4):=by
 unfold A8;by_cases e:Br (AH s).1 (AH s).2.1 (AH s).2.2=0
 ·exact absurd ⟨e,iN e⟩ (h _ (kW e))
 ·rw[if_pos e]
def bX{s:Bs}(h:s.length<2):A8 s=((0,[],0),4):=by
 refine aQg λc g r=>?_
 have z:=Lo r.1;rw[r.2]at z;have o:∀a b:UInt8,¬A2 s [a,b]=true:=λa b e=>by have:=IJ e;simp at this;omega
 have y:AH s=(0,[],0):=by
  grind [AH]
 rw[y]at z;obtain⟨k,n,i⟩:=c;simp only[Zt]at z;obtain⟨rfl,rfl,rfl⟩:=z;exact absurd r.1 Z
def zX:=Az [(89,Ac aTY)]
def aLb:=RF zX aO5 [.cell (some 3) 2,.t 3] 65
def aXw:Kq aLb 42:=Av (Al func42) (Aa aXv Ae)
def aLa(s:Bs)(hl:s.length<=1000000):aLb [.str s]=some (.tup [xD (A8 s).1,.int .i64 (A8 s).2]):=by
 refine Aq (Qj rfl) ?_;unfold aO5;by_cases c2:s.length<2
 ·rw[bX c2];have e1:((s.length:Int)<2)=True:=eq_true O;simp only[GU,↓GQ,GS,simprocAttr,e1,decide_true]
  all_goals exact Qd
 have e1:((s.length:Int)<2)=False:=eq_false O;have key:∀(cs:List (Int×Bs×Int)),cs=E9 s->cs.length<=5->∀(z:St) g,z.s 0= .str s->z.s 2= .ptr [0] 0->(∃t,z.s 4= .slice false t (cs.map xD))->z.s 5= .int .i64 ((0:Nat):Int)->z.m [0] 0=some (.int .u8 0)->z.m [0] 1=some (.str [])->z.m [0] 2=some (.int .i64 0)->AK zX [] PW (Ox 0 (aBd zX [] (.seq (.row [⟨some 64,.build [.int .u8 0,.str [],.int .i64 0] [],[],none⟩,⟨none,.store 3 (.t 2) (.t 64),[],none⟩,⟨some 3,.mv (.c (.int .i64 4)),[],none⟩]) .ret) (DV [.cell (some 3) 2,.t 3] λd _=>d.unR= .tup [xD (A8 s).1,.int .i64 (A8 s).2]∧D.calmR (.tup [xD (A8 s).1,.int .i64 (A8 s).2])=true))) z g:=by
  intro cs sa l z g e0 e2 e4 e5 j e f;have ya:∀c∈cs,c.2.1.length<=1000000:=by
   grind [E9]
  refine By (n:=cs.length) (I:=λk z=>z.s 0= .str s∧z.s 2= .ptr [0] 0∧(∃t,z.s 4= .slice false t (cs.map xD))∧z.s 5= .int .i64 (k:Int)∧z.m [0] 0=some (.int .u8 0)∧z.m [0] 1=some (.str [])∧z.m [0] 2=some (.int .i64 0)∧∀i (h:i<cs.length),i<k->¬MK s cs[i]) (λk u ih z g hI=>?_) (λz g hI=>?_) 0 (Qw _) _ _ ⟨e0,e2,e4,e5,j,e,f,λ_ _ h=>absurd h (QR _)⟩
  ·obtain⟨ja,ga,r⟩:=z;obtain⟨y,q,⟨t,o⟩,h5,m0,m1,m2,w⟩:=hI;simp only at y q o h5 m0 m1 m2;refine Af PW.eq_1 ?_;have v:((k:Int)<cs.length)=True:=eq_true O;have ma:(0:Int)<=(k:Int):=by omega
   have hw:IntKind.i64.wrap ((k:Int)+1)=((k+1:Nat):Int):=Hg O O;have ia:(cs.map xD)[k]?=some (.agg [.int .u8 cs[k].1,.str cs[k].2.1,.int .i64 cs[k].2.2]):=by rw[List.getElem?_map,Ql u];rfl
   have a:=aK9 cs[k].1 cs[k].2.2 cs[k].2.1 (ya _ (QM u));by_cases hm:MK s cs[k]
   ·rw[aT1 hm];have e1:=hm.1;have e2:=decide_eq_true hm.2;rw[e1]at a;generalize cs[k]=c at *;unfold xD;simp only[GU,↓GQ,GS,simprocAttr,y,q,o,h5,m0,m1,m2,v,QY,ma,Qh,ia,Ad zX 89,a,e2,decide_true]
    all_goals exact Qd
   ·have b:∀i (h:i<cs.length),i<k+1->¬MK s cs[i]:=λi h q=>by
     rcases Zv i k with h3|h3
     ·exact w i h h3
     ·grind
    have hh:Br cs[k].1 cs[k].2.1 cs[k].2.2≠0∨A9 cs[k].1 cs[k].2.1 cs[k].2.2≠s:=by
     by_cases h:Br cs[k].1 cs[k].2.1 cs[k].2.2=0
     ·exact .inr λq=>hm ⟨h,q⟩
     ·exact .inl h
    generalize cs[k]=c at *;by_cases h:Br c.1 c.2.1 c.2.2=0
    ·have e2:decide (A9 c.1 c.2.1 c.2.2=s)=false:=decide_eq_false (hh.resolve_left λx=>x h);simp only[GU,↓GQ,GS,simprocAttr,y,q,o,h5,m0,m1,m2,v,QY,ma,Qh,ia,Ad zX 89,a,h,e2,decide_true,decide_false,hw];exact ih _ _ ⟨y,q,⟨_,o⟩,rfl,m0,m1,m2,b⟩
    ·simp only[GU,↓GQ,GS,simprocAttr,y,q,o,h5,m0,m1,m2,v,QY,ma,Qh,ia,Ad zX 89,a,h,decide_true,decide_false,hw];exact ih _ _ ⟨y,q,⟨_,o⟩,rfl,m0,m1,m2,b⟩
  ·obtain⟨ja,ga,r⟩:=z;obtain⟨y,q,⟨t,o⟩,h5,m0,m1,m2,w⟩:=hI;simp only at y q o h5 m0 m1 m2;refine Af PW.eq_1 ?_;have v:((cs.length:Int)<cs.length)=False:=eq_false O;rw[aQg (s:=s) (λc p=>by rw[←sa]at p;obtain⟨i,hi,rfl⟩:=Zq p;exact w i hi hi)];simp only[GU,↓GQ,GS,simprocAttr,y,q,o,h5,m0,m1,m2,v,QY]
   all_goals exact Qd
 have b2:(0:Int)<=2∧(2:Int)<=((s.length:Nat):Int):=O
 have z2:(2:Int).toNat=2:=rfl;have td:(s.drop 2).take (s.length-2)=s.drop 2:=Qq XN;by_cases c4:4<=s.length
 ·have e4:((4:Int)<=s.length)=True:=eq_true O;have w1:IntKind.i64.wrap ((s.length:Int)-2)=((s.length-2:Nat):Int):=by rw[Hg O O];omega
  have w2:IntKind.i64.wrap ((s.length:Int)-1)=((s.length-1:Nat):Int):=Xg
  have b3:(0:Int)<=((s.length-2:Nat):Int)∧((s.length-2:Nat):Int)<=((s.length:Nat):Int):=O
  have b4:(0:Int)<=2∧(2:Int)<=((s.length-2:Nat):Int):=O
  have k0:(0:Int)<=((s.length-1:Nat):Int):=O
  have ia:s[s.length-1]?=some (s[s.length-1]' O):=Ql O;have za:s.getD (s.length-1) 0=s[s.length-1]' O:=by simp only[QT,ia,QL]
  have w3:IntKind.i64.wrap ((s[s.length-1]' O).toNat:Int)=((s[s.length-1]' O).toNat:Int):=Hg O (by have:=(s[s.length-1]' O).toNat_lt;omega);simp only[GU,↓GQ,GS,simprocAttr,e1,decide_false,b2,z2,td,e4,decide_true];refine AJ ?_;simp only[GU,↓GQ,GS,simprocAttr,e4,w1,w2,b3,b4,z2,k0,Qh,ia,w3];refine aA ⟨rfl,.inr ⟨XU,U⟩⟩ ?_;simp only[GU,↓GQ,GS,simprocAttr];refine AJ ?_;simp only[GU,↓GQ,GS,simprocAttr];exact key (E9 s) rfl (by unfold E9;rw[if_pos c4];simp) _ _ rfl rfl ⟨_,by unfold E9;rw[if_pos c4,za,ZF];rfl⟩ rfl rfl rfl rfl
 ·have e4:((4:Int)<=s.length)=False:=eq_false O;simp only[GU,↓GQ,GS,simprocAttr,e1,decide_false,b2,z2,td,e4,decide_true];refine AJ ?_;simp only[GU,↓GQ,GS,simprocAttr,e4,decide_false];exact key (E9 s) rfl (by unfold E9;rw[if_neg c4];simp) _ _ rfl rfl ⟨_,by unfold E9;rw[if_neg c4];rfl⟩ rfl rfl rfl rfl
def ST:=Az [(40,Ac UJ),(41,Ac sM),(42,Ac aLb),(43,Ac sL),(44,Ac sK)]
def gD:=RF ST aD7 [.cell (some 5) 4,.t 5] 117
def aRT:Kq gD 12:=Av (Al func12) (Aa aRO (Aa aRN (Aa aXw (Aa aRM (Aa aRL Ae)))))
def wA(s:Bs):(A8 s).1.2.1.length<=s.length:=by
 unfold A8;split
 ·exact Qw _
 ·exact Uh s
def aAZ(n s:Bs):(∃k,DG n s=(some k,0))∨(∃e,e≠0∧DG n s=(none,e)):=by
 unfold DG;split
 ·exact .inr ⟨3,Z,rfl⟩
 ·split
  ·exact .inr ⟨4,Z,rfl⟩
  ·exact .inl ⟨_,rfl⟩
 ·exact .inr ⟨4,Z,rfl⟩
def nS{m:GV}{i:Id}{a b c d e:D}:Ai (m.put i 0 [a,b,c,d,e]) i 0 5=some [a,b,c,d,e]:=by simp[Ai,GV.put]
def aCt{L:List (Bs×Bs)}(hl:L.length<=1000)(hb:∀x∈L,x.1.length<=150∧x.2.length<=1000){nl:Bool}{key ring:Bs}{md q4:D}{c0:Nat}{m0:GV}{A:List Tk}{fl:Bool}{Q:Ex->St->Prop}
  (p:q4= .ptr [0] 0) (va:1<=c0) (ea:Ai m0 [0] 0 5=some [.bool false,.int .i64 0,.str [],.slice true [] [],.slice true [] []])
  (hQ:∀z t m1,fl=true->z.s 0= .slice nl [] (BI L)->z.s 1= .str key->z.s 4=q4->z.s 6= .str ring->z.s 10=md->z.s 12= .slice (decide (A=[])) t (Au A)->LG c0 m1 83 z.m z.c (decide (A=[])) t->Ai z.m [0] 0 5=some [.bool false,.int .i64 0,.str [],.slice true [] [],.slice true [] []]->Q (.exit 0) z)
  (hE:∀z,fl=false->z.s 4=q4->z.s 5= .int .i64 4->Ai z.m [0] 0 5=some [.bool false,.int .i64 0,.str [],.slice true [] [],.slice true [] []]->Q .ret z):
  ∀(f j:Nat)(acc:List Tk)(t:Id)(m1:GV)(z:St) g,L.length=j+f->acc++(HM (L.drop j)).1=A->(HM (L.drop j)).2=fl->acc.length<=j->LG c0 m1 83 z.m z.c (decide (acc=[])) t->z.s 0= .slice nl [] (BI L)->z.s 1= .str key->z.s 4=q4->z.s 6= .str ring->z.s 10=md->z.s 12= .slice (decide (acc=[])) t (Au acc)->z.s 13= .int .i64 (j:Int)->Ai z.m [0] 0 5=some [.bool false,.int .i64 0,.str [],.slice true [] [],.slice true [] []]->AK ST [] M1 Q z g:=by
 intro f;induction f with
 |zero=>
  intro j acc t m1 z g hf hA ra q hG y u h4 h6 w la pa hm;refine Af M1.eq_1 ?_;rw[QQ O]at hA ra;have e:acc=A:=by rw[←hA];exact(Q3 _).symm
  subst e;have d1:((j:Int)<(L.length:Int))=False:=eq_false O;simp only[GU,↓GQ,GS,simprocAttr,simprocAttr,y,pa,d1,A6];exact hQ _ t m1 ra.symm y u h4 h6 w la (hG.more Xb) hm
 |succ f ih=>
  intro j acc t m1 z g hf hA ra q hG y u h4 h6 w la pa hm;refine Af M1.eq_1 ?_;have hj:j<L.length:=O
  have d1:((j:Int)<(L.length:Int))=True:=eq_true O;have ma:=nJ (j:=j);have hw:=wJ (j:=j) O;have ia:=GH hj;have n:=hb _ (QM hj);rw[Qt hj,Mv]at hA ra;generalize L[j]=x at *;have d:ST 42=some (Ac aLb):=rfl;have b:ST 43=some (Ac sL):=rfl;have i:=aLa x.1 O;have sa:=wA x.1;have a:=aAc (A8 x.1).1.2.1 x.2 O n.2;have db:=AD acc;have oa:decide (acc=[])=true->Au acc=[]:=λh=>by rw[of_decide_eq_true h];rfl
  obtain⟨ja,ga,r⟩:=z;simp only at hG y u h4 h6 w la pa hm;subst p;have f0:Bw [D.bool false,.int .i64 0,.str [],.slice true [] [],.slice true [] []] []=some [.bool false,.int .i64 0,.str [],.slice true [] [],.slice true [] []]:=rfl;unfold tkN at hA ra;unfold xD at i;have ta:∀k,(0=r+k)=False:=λk=>eq_false (by have:=hG.le;omega)
  have l:=hG.le;generalize (A8 x.1).1.2.1=pn at *;generalize (A8 x.1).1.2.2=pz at *;generalize (A8 x.1).1.1=pk at *;generalize (A8 x.1).2=pe at *;by_cases c1:pe=0
  ·have ka:(pe=0)=True:=eq_true c1;by_cases c2:pk=3
   ·have fa:(pk=3)=True:=eq_true c2;rw[if_pos ⟨c1,c2⟩]at hA ra;simp only at hA ra;rcases aAZ pn x.2 with ⟨k,ht⟩|⟨e,he,ht⟩
    ·rw[ht]at hA ra a;simp only[Lz,HD]at hA ra a;obtain⟨kn,kp,kb,kr⟩:=k;simp only at a
     repeat' (first|(refine aA (Ah X2) ?_)|simp (maxSteps:=4000000) (disch:=first|assumption|omega)only[↓GQ,GT,simprocAttr,GY,y,h4,la,pa,hm,d1,A6,ma,Qh,ia,Qn,Qs,Qv,Ab d,i,Ab b,a,ka,fa,hw,db,Ho,BC,BK,BW,CR,Hi,pO,Qi,and_self,and_false,decide_true,decide_false])
     have na:=((((hG.put (c':=r+4+9) (o:=0) (ds:=[.int .u8 0,.str [],.int .i64 0]) O).put (c':=r+4+9) (o:=0) (ds:=[.int .u8 pk,.str pn,.int .i64 pz]) O).put (c':=r+4+12+7+11) (o:=0) (ds:=[.str [],.str [],.slice true [] []]) O).put (c':=r+4+12+7+11) (o:=0) (ds:=[.str kn,.str kp,.slice kb [] (Am kr)]) O).put (c':=r+4+12+7+14+2+2) (o:=0) (ds:=[.tok 84]) O;refine aA ⟨O,rfl,na.grow⟩ ?_;rw[Ba oa];have v:decide (acc++[(kn,kp,kb,kr)]=[])=false:=U
     have ih:=λt m1 z g=>ih (j+1) (acc++[(kn,kp,kb,kr)]) t m1 z g
     rw[Ms,v]at ih;simp only[HD]at ih;have xa:=na.app (xs:=Au acc) (c':=r+4+12+7+14+2+3) (c2:=r+4+12+7+14+2+5) O O;simp (disch:=first|assumption|omega)only[↓GQ,GT,simprocAttr,GY,pa,hw,Hi,pO,Qi,and_self];refine ih _ _ _ _ O (by rw[QO];exact hA) ra XA (xa.more Xb) y u h4 h6 w rfl rfl ?_;exact(xa.rd O).trans ((hG.rd O).symm.trans hm)
    ·rw[ht]at hA ra a;simp only[Lz]at hA ra a;have c3:(e=0)=False:=eq_false he
     repeat' (first|(refine aA (Ah X2) ?_)|simp (maxSteps:=4000000) (disch:=first|assumption|omega)only[↓GQ,GT,simprocAttr,GY,y,h4,la,pa,hm,d1,A6,ma,Qh,ia,Qn,Qs,Qv,Ab d,i,Ab b,a,ka,fa,c3,f0,hw,db,Ho,BC,BK,BW,CR,Hi,pO,Qi,and_self,and_false,decide_true,decide_false])
     exact hE _ ra.symm h4 rfl nS
   ·have fa:(pk=3)=False:=eq_false c2;rw[if_neg (λh=>c2 h.2)]at hA ra;simp only at hA ra
    repeat' (first|(refine aA (Ah X2) ?_)|simp (maxSteps:=4000000) (disch:=first|assumption|omega)only[↓GQ,GT,simprocAttr,GY,y,h4,la,pa,hm,d1,A6,ma,Qh,ia,Qn,Qs,Qv,Ab d,i,Ab b,a,ka,fa,hw,db,Ho,BC,BK,BW,CR,Hi,pO,Qi,and_self,and_false,decide_true,decide_false])
    refine ih (j+1) acc t m1 _ _ O hA ra O (((hG.put O).put O).more Xb) y u h4 h6 w la rfl ?_;simp only;rw[Hi O,Hi O];exact hm
  ·have ka:(pe=0)=False:=eq_false c1;rw[if_neg (λh=>c1 h.1)]at hA ra;simp only at hA ra
   repeat' (first|(refine aA (Ah X2) ?_)|simp (maxSteps:=4000000) (disch:=first|assumption|omega)only[↓GQ,GT,simprocAttr,GY,y,h4,la,pa,hm,d1,A6,ma,Qh,ia,Qn,Qs,Qv,Ab d,i,Ab b,a,ka,hw,db,Ho,BC,BK,BW,CR,Hi,pO,Qi,and_self,and_false,decide_true,decide_false])
   refine ih (j+1) acc t m1 _ _ O hA ra O (((hG.put O).put O).more Xb) y u h4 h6 w la rfl ?_;simp only;rw[Hi O,Hi O];exact hm
def iO(n:Int):(17<=n∧n<=97∧n % 16=1∧Cb n=n / 16∧Cb n≠0)∨(¬(17<=n∧n<=97∧n % 16=1)∧Cb n=0):=by
 unfold Cb;split
 ·rename_i h;exact .inl ⟨h.1,h.2.1,h.2.2,rfl,O⟩
 ·rename_i h;exact .inr ⟨h,rfl⟩
def aGe(nl:Bool)(l:List (Bs×Bs))(key:Bs)(ho:Tr.Ord l)(hl:l.length<=1000)(hb:∀x∈l,x.1.length<=150∧x.2.length<=1000):gD [.slice nl [] (BI l),.str key]=some (.tup [WM key (CU l),.int .i64 (if(CU l).isSome then 0 else 4)]):=by
 refine Aq (Qj rfl) ?_;have b:ST 40=some (Ac UJ):=rfl;have a:ST 41=some (Ac sM):=rfl;have j:ST 44=some (Ac sK):=rfl;unfold aD7;have c:UJ [.slice nl [] (BI l),.str [115,47,114,105,110,103]]=some (.tup [.str ((Tr.getL l Hp).getD []),.bool (Tr.getL l Hp).isSome]):=gC nl l Hp hl;have d:UJ [.slice nl [] (BI l),.str [115,47,109,111,117,110,116,115]]=some (.tup [.str ((Tr.getL l He).getD []),.bool (Tr.getL l He).isSome]):=gC nl l He hl;have ca:∀k v,Tr.getL l k=some v->v.length<=1000:=λk v h=>(hb _ (Tr.getL_some h)).2
 have z:((Tr.getL l He).getD []).length<=1000:=by
  cases h:Tr.getL l He with
  |none=>exact Qw _
  |some v=>exact ca _ v h
 have g:=aF6 ((Tr.getL l He).getD []) O;have ba:∀o:Option (Int×List Mt×List Tk),o=none->WM key o= .agg [.bool false,.int .i64 0,.str [],.slice true [] [],.slice true [] []]∧(if o.isSome then(0:Int)else 4)=4:=λo h=>by subst h;exact⟨rfl,rfl⟩
 cases hx:Tr.getL l Hp with
 |none=>
  have hr:CU l=none:=by unfold CU;rw[hx]
  obtain⟨e1,e2⟩:=ba _ hr;rw[e1,e2];rw[hx]at c;simp only[Zz,Q_]at c;generalize (Tr.getL l He).getD []=yt at *;generalize (Tr.getL l He).isSome=yb at *
  repeat' (first|(refine aA (Ah Xz) ?_)|simp (maxSteps:=4000000) (disch:=first|assumption|omega)only[GU,↓GQ,GS,simprocAttr,GY,Ab b,c,d,Ab a,g,Qh,nS,Hi,pO,Qi,and_self,and_false,decide_true,decide_false,Qr,Qp,ne_eq])
 |some x=>
  rw[hx]at c;simp only[QL,Qi]at c;cases hy:Tr.getL l He with
  |none=>
   have hr:CU l=none:=by unfold CU;rw[hx,hy]
   obtain⟨e1,e2⟩:=ba _ hr;rw[e1,e2];rw[hy]at d g;simp only[Zz,Q_]at d g;have ea:CA ([]:Bs).length [] 0 []=(some [],0):=rfl;rw[ea]at g;simp only[vA]at g
   repeat' (first|(refine aA (Ah Xz) ?_)|simp (maxSteps:=4000000) (disch:=first|assumption|omega)only[GU,↓GQ,GS,simprocAttr,GY,Ab b,c,d,Ab a,g,Qh,nS,Hi,pO,Qi,and_self,and_false,decide_true,decide_false,Qr,Qp,ne_eq])
  |some y=>
   rw[hy]at d g z;simp only[QL,Qi]at d g z;cases ht:(CA y.length y 0 []).1 with
   |none=>
    have he:=UZ y.length ht;have hr:CU l=none:=by unfold CU;rw[hx,hy];simp only;rw[ht]
    obtain⟨e1,e2⟩:=ba _ hr;rw[e1,e2];rw[ht]at g;simp only[vA]at g;generalize (CA y.length y 0 []).2=e at *;have c1:(e=0)=False:=eq_false he
    repeat' (first|(refine aA (Ah Xz) ?_)|simp (maxSteps:=4000000) (disch:=first|assumption|omega)only[GU,↓GQ,GS,simprocAttr,GY,Ab b,c,d,Ab a,g,c1,Qh,nS,Hi,pO,Qi,and_self,and_false,decide_true,decide_false,Qr,Qp,ne_eq])
   |some ms=>
    have he:=NR y.length (s:=y) (p:=0) (acc:=[]) (by rw[ht];simp);rw[ht,he]at g;simp only[vA]at g;have m:((x.length:Int)).tmod 16=(x.length:Int) % 16:=Zf O;have n:((x.length:Int)).tdiv 16=(x.length:Int) / 16:=Zg O;have i:(Cb (x.length:Int)=0∨¬Fr l)->CU l=none:=λh=>by
     unfold CU;rw[hx,hy];simp only;rw[ht];exact if_pos h
    have q:¬(Cb (x.length:Int)=0∨¬Fr l)->CU l=(LQ (Ic l)).map λks=>(Cb (x.length:Int),ms,ks):=λh=>by
     unfold CU;rw[hx,hy];simp only;rw[ht];exact if_neg h
    rcases iO (x.length:Int)with ⟨t1,t2,t3,t4,t5⟩|⟨tn,t0⟩
    ·have q1:(((x.length:Int)).tmod 16=1)=True:=eq_true (by rw[m];exact t3);have q2:((x.length:Int)<17)=False:=eq_false O;have q3:((97:Int)<(x.length:Int))=False:=eq_false O;rw[←t4]at n
     repeat' (first|(refine aA (Ah Xz) ?_)|simp (maxSteps:=4000000) (disch:=first|assumption|omega)only[GU,↓GQ,GS,simprocAttr,GY,Ab b,c,d,Ab a,g,q1,q2,q3,Qh,nS,Hi,pO,Qi,and_self,and_false,decide_true,decide_false,Qr,Qp,ne_eq])
     refine aCt hl hb (nl:=nl) (key:=key) (ring:=x) (md:= .slice (decide (ms.length=0)) [] (Ax ms)) (q4:= .ptr [0] 0) (c0:=1) (m0:=GV.put (λ_ _=>none) [0] 0 [.bool false,.int .i64 0,.str [],.slice true [] [],.slice true [] []]) (A:=(HM l).1) (fl:=(HM l).2) rfl (QA _) nS (λst t m1 ra g0 g1 g4 g6 w u gG gm=>?_) (λst ra g4 g5 gm=>?_) l.length 0 [] [] _ _ _ O rfl rfl (QA _) (LG.start (Qj rfl)) rfl rfl rfl rfl rfl rfl rfl nS
     ·rcases NQ l with ⟨hg,hw⟩|⟨hg,hw⟩
      rotate_left
      ·rw[hw]at ra;cases ra
      have hC:=oG hl (λx hx=>(hb x hx).2);rw[hw]at hC u;simp only at hC u;have r:=aF5 (decide (Ic l=[])) (Ic l) (aA4 ho) hC;have f:=q (λh=>h.elim t5 (λh=>h hg));rw[f];clear f i q;obtain⟨ja,ga,da⟩:=st;simp only at g0 g1 g4 g6 w u gm;have gs:(Ai ga [0] 0 5).isSome=true:=by rw[gm];rfl
      have m0:ga [0] 0=some (.bool false):=A_ (k:=0) gm rfl;have m1:ga [0] 1=some (.int .i64 0):=A_ (k:=1) gm rfl;have m2:ga [0] 2=some (.str []):=A_ (k:=2) gm rfl;have m3:ga [0] 3=some (.slice true [] []):=A_ (k:=3) gm rfl;have m4:ga [0] 4=some (.slice true [] []):=A_ (k:=4) gm rfl;have aa:IntKind.i64.wrap (Cb (x.length:Int))=Cb (x.length:Int):=Hg O O;generalize Cb (x.length:Int)=te at *;cases hd:LQ (Ic l)with
      |none=>
       rw[hd]at r;simp only[aBb,Q_]at r;simp only[Option.map_none,WM,Q_]
       repeat' (first|(refine aA (Ah YM) ?_)|simp (maxSteps:=4000000) (disch:=first|assumption|omega)only[GU,↓GQ,GS,simprocAttr,GY,Ab j,r,g0,g1,g4,g6,w,u,gm,gs,m0,m1,m2,m3,m4,Function.comp_apply,Qh,nS,Hi,pO,Qi,and_self,and_false,decide_true,decide_false,Qr,Qp,ne_eq,simprocAttr,not_true_eq_false,not_false_eq_true])
       all_goals exact Qd
      |some ks=>
       rw[hd]at r;simp only[aBb,Qi]at r;simp only[Option.map_some,WM,Qi]
       repeat' (first|(refine aA (Ah YM) ?_)|simp (maxSteps:=4000000) (disch:=first|assumption|omega)only[GU,↓GQ,GS,simprocAttr,GY,Ab j,r,g0,g1,g4,g6,w,u,gm,gs,m0,m1,m2,m3,m4,Function.comp_apply,n,aa,Qh,nS,Hi,pO,Qi,and_self,and_false,decide_true,decide_false,Qr,Qp,ne_eq,simprocAttr,not_true_eq_false,not_false_eq_true])
       all_goals exact Qd
     ·rcases NQ l with ⟨hg,hw⟩|⟨hg,hw⟩
      ·rw[hw]at ra;cases ra
      have f:=i (.inr hg);obtain⟨e1,e2⟩:=ba _ f;rw[e1,e2];obtain⟨ja,ga,da⟩:=st;simp only at g4 g5 gm;have m0:ga [0] 0=some (.bool false):=A_ (k:=0) gm rfl;have m1:ga [0] 1=some (.int .i64 0):=A_ (k:=1) gm rfl;have m2:ga [0] 2=some (.str []):=A_ (k:=2) gm rfl;have m3:ga [0] 3=some (.slice true [] []):=A_ (k:=3) gm rfl;have m4:ga [0] 4=some (.slice true [] []):=A_ (k:=4) gm rfl;simp only[GU,↓GQ,GS,simprocAttr,g4,g5,m0,m1,m2,m3,m4,Function.comp_apply]
      all_goals exact Qd
    ·have f:=i (.inl t0);obtain⟨e1,e2⟩:=ba _ f;rw[e1,e2];by_cases r1:(x.length:Int) % 16=1
     ·have q1:(((x.length:Int)).tmod 16=1)=True:=eq_true (by rw[m];exact r1);by_cases r2:(x.length:Int)<17
      ·have q2:((x.length:Int)<17)=True:=eq_true r2
       repeat' (first|(refine aA (Ah Xz) ?_)|simp (maxSteps:=4000000) (disch:=first|assumption|omega)only[GU,↓GQ,GS,simprocAttr,GY,Ab b,c,d,Ab a,g,q1,q2,Qh,nS,Hi,pO,Qi,and_self,and_false,decide_true,decide_false,Qr,Qp,ne_eq])
      ·have q2:((x.length:Int)<17)=False:=eq_false r2;have q3:((97:Int)<(x.length:Int))=True:=eq_true O
       repeat' (first|(refine aA (Ah Xz) ?_)|simp (maxSteps:=4000000) (disch:=first|assumption|omega)only[GU,↓GQ,GS,simprocAttr,GY,Ab b,c,d,Ab a,g,q1,q2,q3,Qh,nS,Hi,pO,Qi,and_self,and_false,decide_true,decide_false,Qr,Qp,ne_eq])
     ·have q1:(((x.length:Int)).tmod 16=1)=False:=eq_false (by rw[m];exact r1)
      repeat' (first|(refine aA (Ah Xz) ?_)|simp (maxSteps:=4000000) (disch:=first|assumption|omega)only[GU,↓GQ,GS,simprocAttr,GY,Ab b,c,d,Ab a,g,q1,Qh,nS,Hi,pO,Qi,and_self,and_false,decide_true,decide_false,Qr,Qp,ne_eq])
def aY3:=Az []
def aGc:=RF aY3 aD5 [.t 6] 54
def aRR:Kq aGc 33:=Av (Al func33) Ae
def aCs{S:GR}{l:List (Bs×Bs)}{k v:Bs}{nl:Bool}{Q:Ex->St->Prop}(hb:l.length<=1000)
  (b:∀(j:Nat) z,j<=l.length->(∀i (hi:i<l.length),i<j->Hj l[i].1 k=true)->(∀w:j<l.length,Hj (l[j]'w).1 k=false)->z.m=(λ_ _=>none)->z.s 0= .slice nl [] (BI l)->z.s 1= .str k->z.s 2= .str v->z.s 7= .int .i64 (j:Int)->Q (.exit 0) z):
  ∀(f j:Nat) z g,l.length=j+f->(∀i (hi:i<l.length),i<j->Hj l[i].1 k=true)->z.m=(λ_ _=>none)->z.s 0= .slice nl [] (BI l)->z.s 1= .str k->z.s 2= .str v->z.s 7= .int .i64 (j:Int)->AK S [] M0 Q z g:=by
 intro f;induction f with
 |zero=>
  intro j z g o h a r u q h7;obtain⟨c,d,t⟩:=z;simp only at r u q h7 a;refine Af M0.eq_1 ?_;have y:((j:Int)<(l.length:Int))=False:=eq_false O;simp only[GU,↓GQ,GS,simprocAttr,r,u,h7,y,A6,decide_false,simprocAttr];exact b j _ O h (λw=>absurd w O) a r u q h7
 |succ f ih=>
  intro j z g o h a r u q h7;obtain⟨c,d,t⟩:=z;simp only at r u q h7 a;refine Af M0.eq_1 ?_;have w:j<l.length:=O
  have y:((j:Int)<(l.length:Int))=True:=eq_true O;have n:=nJ (j:=j);have p:=wJ (j:=j) O;have ia:=GH w;cases hc:Hj (l[j]).1 k with
  |true=>
   simp only[GU,↓GQ,GS,simprocAttr,r,u,h7,y,A6,decide_true,simprocAttr,n,Qh,ia,hc,Gu,p];refine ih (j+1) _ _ O (λi hi x=>?_) a r u q rfl;by_cases e:i=j
   ·subst e;exact hc
   ·exact h i hi O
  |false=>
   simp only[GU,↓GQ,GS,simprocAttr,r,u,h7,y,A6,decide_true,simprocAttr,n,Qh,ia,hc,Gu];exact b j _ O h (λ_=>hc) a r u q h7
def aGb(nl:Bool)(l:List (Bs×Bs))(k v:Bs)(hl:l.length<=1000)(ho:Tr.Ord l):aGc [.slice nl [] (BI l),.str k,.str v]=some (.slice false [] (BI (Tr.insL l k v))):=by
 refine Aq (Qj rfl) ?_;unfold aD5;simp only[GU,↓GQ,GS,simprocAttr];refine aCs (l:=l) (k:=k) (v:=v) (nl:=nl) hl (λj z e u q hm n p g h7=>?_) l.length 0 _ _ O (λi hi ha=>absurd ha (QR _)) rfl rfl rfl rfl rfl;have a:=Tr.ins_at (v:=v) ho e u q;obtain⟨ja,ga,t⟩:=z;simp only at n p g h7 hm;subst hm;have ma:=nJ (j:=j);have ta:(j:Int)<=(l.length:Int):=O
 have c:(j<=l.length)=True:=eq_true e;have o:((l.take j).length*33<=140737488355328)=True:=eq_true Xn;have ra:(((l.take j).length+1)*33<=140737488355328)=True:=eq_true Xn;have na:aF [D.agg [.str k,.str v]] 2=2:=rfl;have b:∀{x:Bs×Bs},D.agg [.str x.1,.str x.2]=prD x:=rfl;have e9:∀r:List (Bs×Bs),BI (QK j l)++[D.agg [.str k,.str v]]++BI r=BI (QK j l++(k,v)::r):=λr=>by simp[BI,prD]
 have e8:BI (QK j l)++[D.agg [.str k,.str v]]=BI (QK j l++[(k,v)]):=by simp[BI,prD]
 by_cases y:j<l.length
 ·have c1:((j:Int)<(l.length:Int))=True:=eq_true O;have ia:=GH y;have hw:=wJ (j:=j) O;by_cases s:(l[j]).1=k
  ·have w:∃e:j<l.length,(l[j]'e).1=k:=⟨y,s⟩;rw[if_pos w]at a;rw[a];have f:((l[j]).1=k)=True:=eq_true s;have qa:((j+1:Nat):Int)<=(l.length:Int):=by omega
   have d:(0:Int)<=((j+1:Nat):Int):=O
   have pa:QK (l.length-(j+1)) (QG (j+1) l)=QG (j+1) l:=Qq XV;have m:(((l.take j).length+1+(l.drop (j+1)).length)*33<=140737488355328)=True:=eq_true Xs;simp only[GU,↓GQ,GS,simprocAttr,n,p,g,h7,simprocAttr,ma,ta,c,Qh,CY,Cx,QV,Vh,N1,N2,Qn,Qz,o,ra,or_true,na,ite_self,A6,ne_eq,not_false_eq_true,and_self,Aj,Qy,Qx,QB,false_and,and_false,c1,ia,f,decide_true,hw,qa,d,pa,m,e9]
  ·have w:¬∃e:j<l.length,(l[j]'e).1=k:=λ⟨_,h⟩=>s h
   rw[if_neg w]at a;rw[a];have f:((l[j]).1=k)=False:=eq_false s;have pa:QK (l.length-j) (QG j l)=QG j l:=Qq XV;have m:(((l.take j).length+1+(l.drop j).length)*33<=140737488355328)=True:=eq_true Xs;simp only[GU,↓GQ,GS,simprocAttr,n,p,g,h7,simprocAttr,ma,ta,c,Qh,CY,Cx,QV,Vh,N1,N2,Qn,Qz,o,ra,or_true,na,ite_self,A6,ne_eq,not_false_eq_true,and_self,Aj,Qy,Qx,QB,false_and,and_false,c1,ia,f,decide_true,decide_false,pa,m,e9]
 ·have w:¬∃e:j<l.length,(l[j]'e).1=k:=λ⟨h,_⟩=>y h
  rw[if_neg w]at a;rw[a];have c1:((j:Int)<(l.length:Int))=False:=eq_false O;have pa:QK (l.length-j) (QG j l)=QG j l:=Qq XV;have m:(((l.take j).length+1+(l.drop j).length)*33<=140737488355328)=True:=eq_true Xs;simp only[GU,↓GQ,GS,simprocAttr,n,p,g,h7,simprocAttr,ma,ta,c,Qh,CY,Cx,QV,Vh,N1,N2,Qn,Qz,o,ra,or_true,na,ite_self,A6,ne_eq,not_false_eq_true,and_self,Aj,Qy,Qx,QB,false_and,and_false,c1,decide_false,pa,m,e9]
def aY0:=Az []
def aF4:=RF aY0 aDY [.t 4] 14
def aRK:Kq aF4 47:=Av (Al func47) Ae
def aF3(k:Bs)(n:Nat)(s:k.length<=1000000)(c:n<=1000000):aF4 [.str k,.int .i64 (n:Int)]=some (.int .i64 (36+(k.length:Int)+(n:Int))):=by
 refine Aq (Qj rfl) ?_;unfold aDY;have c1:((n:Int)<0)=False:=eq_false O;have c2:((1048576:Int)<(n:Int))=False:=eq_false O;have i:IntKind.i64.wrap (36+(k.length:Int))=36+(k.length:Int):=Hg O O;have e:IntKind.i64.wrap (36+(k.length:Int)+(n:Int))=36+(k.length:Int)+(n:Int):=Hg O O;simp only[GU,↓GQ,GS,simprocAttr,c1,c2,i,e,simprocAttr,decide_false]
 all_goals exact Qd
def aPU:=Az [(47,Ac aF4)]
def sN:=RF aPU aD6 [.t 2] 26
def aRS:Kq sN 14:=Av (Al func14) (Aa aRK Ae)
def aGd(nl:Bool)(l:List (Bs×Bs))(hl:l.length<=1000)(i:∀x∈l,x.1.length<=150∧x.2.length<=1000):sN [.slice nl [] (BI l)]=some (.int .i64 ((Tr.weighL l:Nat):Int)):=by
 refine Aq (Qj rfl) ?_;unfold aD6;simp only[GU,↓GQ,GS,simprocAttr];refine By (n:=l.length) (I:=λj z=>z.s 0= .slice nl [] (BI l)∧z.s 3= .int .i64 ((Tr.weighL (l.take j):Nat):Int)∧z.s 4= .int .i64 (j:Int)) (λj e ih z g m=>?_) (λz g m=>?_) 0 (Qw _) _ _ ⟨rfl,rfl,rfl⟩
 ·obtain⟨u,k,r⟩:=z;obtain⟨y,d,w⟩:=m;simp only at y d w;refine Af Sv.eq_1 ?_;have v:((j:Int)<(l.length:Int))=True:=eq_true O;have q:=nJ (j:=j);have t:=wJ (j:=j) O;have ia:=GH e;have na:l.take (j+1)=l.take j++[l[j]]:=QD e;have f:=i _ (QM e);have c:=Rk (l.take j) (λx f=>by have:=i x (Za f);omega);have b:(l.take j).length<=1000:=by rw[QX];omega
  generalize l[j]=x at *;have a:=aF3 x.1 x.2.length O O;have p:(Tr.weighL (l.take j):Int)+(36+(x.1.length:Int)+(x.2.length:Int))=((Tr.weighL (l.take (j+1)):Nat):Int):=by
   rw[na,Rj,Tr.costL,ZC O];omega
  have o:IntKind.i64.wrap ((Tr.weighL (l.take j):Int)+(36+(x.1.length:Int)+(x.2.length:Int)))=((Tr.weighL (l.take (j+1)):Nat):Int):=by
   rw[←p];exact Hg O O
  simp only[GU,↓GQ,GS,simprocAttr,y,d,w,v,A6,q,Qh,ia,Ad aPU 47,a,simprocAttr,t,o];refine AJ ?_;simp only[GU,↓GQ,GS,simprocAttr,w,t];exact ih _ _ ⟨y,rfl,rfl⟩
 ·obtain⟨u,k,r⟩:=z;obtain⟨y,d,w⟩:=m;simp only at y d w;refine Af Sv.eq_1 ?_;have v:((l.length:Int)<(l.length:Int))=False:=eq_false O;rw[Qq (QA _)]at d;simp only[GU,↓GQ,GS,simprocAttr,y,d,w,v,A6]
  all_goals exact Qd
def Fm(l:List Op1):Bool:=decide (50<l.length)||l.any λx=>decide (150<x.2.1.length)||decide (1000<x.2.2.length)
def RG{l:List Op1}{j:Nat}(h:j<l.length):(opsD l)[j]?=some (.agg [.int .u8 l[j].1,.str l[j].2.1,.str l[j].2.2]):=by simp[opsD,opD,Ql h]
def aY5:=Az []
def sQ:=RF aY5 aEb [.t 2] 29
def aRX:Kq sQ 4:=Av (Al func4) Ae
def gE(nl:Bool)(l:List Op1):sQ [.slice nl [] (opsD l)]=some (.int .i64 (if Fm l then 1 else 0)):=by
 refine Aq (Qj rfl) ?_;unfold aEb;by_cases c:50<l.length
 ·have c1:((50:Int)<(l.length:Int))=True:=eq_true O;have u:Fm l=true:=by unfold Fm;rw[decide_eq_true c];rfl
  rw[u];simp only[GU,↓GQ,GS,simprocAttr,c1,B5,simprocAttr,decide_true]
  all_goals exact Qd
 ·have c1:((50:Int)<(l.length:Int))=False:=eq_false O;simp only[GU,↓GQ,GS,simprocAttr,c1,B5,simprocAttr,decide_false];refine By (n:=l.length) (I:=λj z=>z.s 0= .slice nl [] (opsD l)∧z.s 3= .int .i64 (j:Int)∧Fm l=(l.drop j).any λx=>decide (150<x.2.1.length)||decide (1000<x.2.2.length)) (λj w ih z g a=>?_) (λz g a=>?_) 0 (Qw _) _ _ ⟨rfl,rfl,by unfold Fm;rw[decide_eq_false c];rfl⟩
  ·obtain⟨ja,k,r⟩:=z;obtain⟨y,d,b⟩:=a;simp only at y d;refine Af Sy.eq_1 ?_;have v:((j:Int)<(l.length:Int))=True:=eq_true O;have q:=nJ (j:=j);have t:=wJ (j:=j) O;have ia:=RG w;rw[Qt w,List.any_cons]at b;generalize l[j]=x at *;by_cases c2:150<x.2.1.length
   ·have m:((150:Int)<(x.2.1.length:Int))=True:=eq_true O;rw[decide_eq_true c2]at b;have u:Fm l=true:=by rw[b];rfl
    rw[u];simp only[GU,↓GQ,GS,simprocAttr,y,d,v,B5,q,Qh,ia,simprocAttr,m,decide_true]
    all_goals exact Qd
   ·have m:((150:Int)<(x.2.1.length:Int))=False:=eq_false O;rw[decide_eq_false c2]at b;by_cases i:1000<x.2.2.length
    ·have o:((1000:Int)<(x.2.2.length:Int))=True:=eq_true O;rw[decide_eq_true i]at b;have u:Fm l=true:=by rw[b];rfl
     rw[u];simp only[GU,↓GQ,GS,simprocAttr,y,d,v,B5,q,Qh,ia,simprocAttr,m,o,decide_true,decide_false]
     all_goals exact Qd
    ·have o:((1000:Int)<(x.2.2.length:Int))=False:=eq_false O;rw[decide_eq_false i,Bool.or_self,Bool.false_or]at b;simp only[GU,↓GQ,GS,simprocAttr,y,d,v,B5,q,Qh,ia,simprocAttr,m,o,decide_true,decide_false,t];exact ih _ _ ⟨y,rfl,b⟩
  ·obtain⟨ja,k,r⟩:=z;obtain⟨y,d,b⟩:=a;simp only at y d;refine Af Sy.eq_1 ?_;have v:((l.length:Int)<(l.length:Int))=False:=eq_false O;rw[QQ (QA _)]at b;have u:Fm l=false:=b;rw[u];simp only[GU,↓GQ,GS,simprocAttr,y,d,v,B5]
   all_goals exact Qd
def aY4:=Az []
def sO:=RF aY4 aD9 [.t 2] 19
def aRV:Kq sO 9:=Av (Al func9) Ae
def aGg(nl:Bool)(l:List Op1)(hl:l.length<=1000):sO [.slice nl [] (opsD l)]=some (.slice (decide (l.length=0)) [] (opsD l)):=by
 refine Aq (Qj rfl) ?_;unfold aD9;simp only[GU,↓GQ,GS,simprocAttr];refine By (n:=l.length) (I:=λj z=>z.s 0= .slice nl [] (opsD l)∧z.s 4= .int .i64 (j:Int)∧∃e tA,e=decide (j=0)∧z.s 3= .slice e tA (opsD (l.take j))∧LG 0 z.m 88 z.m z.c e tA) (λj w ih z g a=>?_) (λz g a=>?_) 0 (Qw _) _ _ ⟨rfl,rfl,true,[],rfl,rfl,LG.start Xb⟩
 ·obtain⟨u,k,r⟩:=z;obtain⟨y,o,e,tA,b,d,i⟩:=a;simp only at y o d i;refine Af Sx.eq_1 ?_;have v:((j:Int)<(l.length:Int))=True:=eq_true O;have q:=nJ (j:=j);have t:=wJ (j:=j) O;have ia:=RG w;have na:opsD (l.take (j+1))=opsD (l.take j)++[.agg [.int .u8 l[j].1,.str l[j].2.1,.str l[j].2.2]]:=by
   unfold opsD;rw[QD w,ZA];rfl
  have f:e=true->opsD (l.take j)=[]:=λh=>by
   rw[b]at h;rw[of_decide_eq_true h];rfl
  have ea:(opsD (l.take j)).length=j:=by rw[B5,QX];omega
  have ih:=ih;rw[na]at ih;generalize opsD (l.take j)=xs at *;generalize l[j]=x at *;simp only[GU,↓GQ,GS,simprocAttr,y,o,d,v,B5,q,Qh,ia,simprocAttr];refine aA ⟨by rw[ea];omega,rfl,YF⟩ ?_;rw[Ba f];simp only[GU,↓GQ,GS,simprocAttr,o,t];exact ih _ _ ⟨y,rfl,false,_,U,rfl,((i.put O).app O Xb).bas⟩
 ·obtain⟨u,k,r⟩:=z;obtain⟨y,o,e,tA,b,d,i⟩:=a;simp only at y o d i;refine Af Sx.eq_1 ?_;have v:((l.length:Int)<(l.length:Int))=False:=eq_false O;rw[Qq (QA _)]at d;subst b;simp only[GU,↓GQ,GS,simprocAttr,y,o,d,v,B5]
  all_goals exact Qd
def Vq(x:Op1)(nl:Bool)(l:List (Bs×Bs)):Bool:=if x.1=1 then false else if x.1=2∨x.1=3 then decide (FM x l=[])else nl
def opN:List Op1->Bool->List (Bs×Bs)->Bool
 |[],nl,_=>nl
 |x::r,nl,l=>opN r (Vq x nl l) (FM x l)
def wD(x:Op1)(r:List Op1)(l:List (Bs×Bs)):Th (x::r) l=Th r (FM x l):=rfl
def aBQ(x:Op1)(r:List Op1)(nl:Bool)(l:List (Bs×Bs)):opN (x::r) nl l=opN r (Vq x nl l) (FM x l):=rfl
def rY:=Az [(33,Ac aGc),(34,Ac aGa),(35,Ac aF8)]
def UK:=RF rY aD8 [.t 4] 57
def aRU:Kq UK 10:=Av (Al func10) (Aa aRR (Aa aRQ (Aa aRP Ae)))
def aGf(nl no:Bool)(l:List (Bs×Bs))(ops:List Op1)(n:Nat)(k:tW l n)(q:n+ops.length<=1000)(hk:∀x∈ops,x.2.1.length<=150∧x.2.2.length<=1000)(ho:Tr.Ord l):UK [.slice nl [] (BI l),.slice no [] (opsD ops)]=some (.slice (opN ops nl l) [] (BI (Th ops l))):=by
 refine Aq (Qj rfl) ?_;unfold aD8;simp only[GU,↓GQ,GS,simprocAttr];refine By (n:=ops.length) (I:=λj z=>z.s 1= .slice no [] (opsD ops)∧z.s 5= .int .i64 (j:Int)∧∃cur b,z.s 0= .slice b [] (BI cur)∧Th ops l=Th (ops.drop j) cur∧opN ops nl l=opN (ops.drop j) b cur∧Tr.Ord cur∧tW cur (n+j)) (λj w ih z g hI=>?_) (λz g hI=>?_) 0 (Qw _) _ _ ⟨rfl,rfl,l,nl,rfl,rfl,rfl,ho,k⟩
 ·obtain⟨ja,ga,t⟩:=z;obtain⟨u,h5,cur,b,r,p,e2,f,i⟩:=hI;simp only at r u h5;refine Af Sw.eq_1 ?_;have v:((j:Int)<(ops.length:Int))=True:=eq_true O;have ma:=nJ (j:=j);have hw:=wJ (j:=j) O;have ia:=RG w;have la:=hk _ (QM w);rw[Qt w]at p e2;rw[wD]at p;rw[aBQ]at e2;generalize ops[j]=x at *;have wa:=i.len;have va:=i.op la f;have a:=RH f x;have e:=aGb b cur x.2.1 x.2.2 O f;have d:=aF9 b cur x.2.1 O;have c:=aF7 b cur x.2.1 O;by_cases c1:x.1=1
  ·have ka:(x.1=1)=True:=eq_true c1;have m:FM x cur=Tr.insL cur x.2.1 x.2.2:=if_pos c1;have q:Vq x b cur=false:=if_pos c1;rw[q,m]at e2;rw[m]at p va a;simp only[GU,↓GQ,GS,simprocAttr,r,u,h5,v,B5,ma,Qh,ia,ka,simprocAttr,decide_true,Ad rY 33,e];refine AJ ?_;simp only[GU,↓GQ,GS,simprocAttr,h5,hw];exact ih _ _ ⟨u,rfl,_,_,rfl,p,e2,a,va⟩
  ·have ka:(x.1=1)=False:=eq_false c1;by_cases c2:x.1=2
   ·have fa:(x.1=2)=True:=eq_true c2;have m:FM x cur=cur.filter (λy=>y.1 !=x.2.1):=by unfold FM;rw[if_neg c1,if_pos c2]
    have q:Vq x b cur=decide (FM x cur=[]):=by unfold Vq;rw[if_neg c1,if_pos (.inl c2)]
    rw[q,m]at e2;rw[m]at p va a;simp only[GU,↓GQ,GS,simprocAttr,r,u,h5,v,B5,ma,Qh,ia,ka,fa,simprocAttr,decide_true,decide_false,Ad rY 34,d,hw];exact ih _ _ ⟨u,rfl,_,_,rfl,p,e2,a,va⟩
   ·have fa:(x.1=2)=False:=eq_false c2;by_cases c3:x.1=3
    ·have o:(x.1=3)=True:=eq_true c3;have m:FM x cur=cur.filter (λy=>!A2 y.1 x.2.1):=by unfold FM;rw[if_neg c1,if_neg c2,if_pos c3]
     have q:Vq x b cur=decide (FM x cur=[]):=by unfold Vq;rw[if_neg c1,if_pos (.inr c3)]
     rw[q,m]at e2;rw[m]at p va a;simp only[GU,↓GQ,GS,simprocAttr,r,u,h5,v,B5,ma,Qh,ia,ka,fa,o,simprocAttr,decide_true,decide_false,Ad rY 35,c,hw];exact ih _ _ ⟨u,rfl,_,_,rfl,p,e2,a,va⟩
    ·have o:(x.1=3)=False:=eq_false c3;have m:FM x cur=cur:=by unfold FM;rw[if_neg c1,if_neg c2,if_neg c3]
     have q:Vq x b cur=b:=by unfold Vq;rw[if_neg c1,if_neg (λh=>h.elim c2 c3)]
     rw[q,m]at e2;rw[m]at p va a;simp only[GU,↓GQ,GS,simprocAttr,r,u,h5,v,B5,ma,Qh,ia,ka,fa,o,simprocAttr,decide_true,decide_false,hw];exact ih _ _ ⟨u,rfl,_,_,r,p,e2,a,va⟩
 ·obtain⟨ja,ga,t⟩:=z;obtain⟨u,h5,cur,b,r,p,e2,f,i⟩:=hI;simp only at r u h5;refine Af Sw.eq_1 ?_;have v:((ops.length:Int)<(ops.length:Int))=False:=eq_false O;rw[QQ (QA _)]at p e2;have p:Th ops l=cur:=p;have e2:opN ops nl l=b:=e2;rw[p,e2];simp only[GU,↓GQ,GS,simprocAttr,r,u,h5,v,B5]
  all_goals exact Qd
def aYU:=Az [(137,cQ 5 U8 aAx)]
def aKS:=RF aYU aOc [.t 2,.t 3] 31
def aXe:Kq aKS 74:=Av (Al func74) (Aa aMA Ae)
def aKR(nl:Bool)(l:List Bs)(hl:l.length<=1024)(hs:∀s∈l,s.length<=60000):aKS [.slice nl [] (AL l)]=some (.tup [.slice (decide (l.length=0)) [] (Aw (BT l)),.int .i64 0]):=by
 refine Aq (Qj rfl) ?_;unfold aOc;have ea:((1024:Int)<(l.length:Int))=False:=eq_false O;simp only[GU,↓GQ,GS,simprocAttr,Bb,ea,decide_false];refine By (n:=l.length) (I:=λk z=>z.s 0= .slice nl [] (AL l)∧z.s 5= .int .i64 (k:Int)∧∃t,z.s 4= .slice (decide (k=0)) t (Aw (BT (l.take k)))) (λk u ih z g a=>?_) (λz g a=>?_) 0 (Qw _) _ _ ⟨rfl,rfl,_,rfl⟩
 ·obtain⟨m,d,r⟩:=z;obtain⟨y,e,t,o⟩:=a;simp only at y e o;refine Af VY.eq_1 ?_;have v:((k:Int)<(l.length:Int))=True:=eq_true O;have q:(0:Int)<=(k:Int):=by omega
  have hw:IntKind.i64.wrap ((k:Int)+1)=((k+1:Nat):Int):=Hg O O;have ia:=Ik (l:=l) (j:=k) u;have f:=hs l[k] (QM u);have na:l.take (k+1)=l.take k++[l[k]]:=QD u;have ta:(BT (l.take k)).length<=60002*k:=by
   have:=L0 (l:=l.take k) (λs hh=>hs s (Za hh));rw[QX]at this;omega
  generalize l[k]=x at ia f na;have hF:aAx [.str x]=some (Aw (OY 2 x.length++x),[11]):=if_pos O;have p:∀b:Bs,(Aw b).all Eb=true:=λb=>by simp[Aw,Eb]
  simp only[GU,↓GQ,GS,simprocAttr,y,e,o,v,Bb,q,Qh,ia,Bu aYU 137];refine dY (p _) Yc hF ?_;have i:Aw (BT (l.take k))++Aw (OY 2 x.length++x)=Aw (BT (l.take (k+1))):=by rw[na,OL];simp[Aw]
  unfold U8;simp only[GU,↓GQ,GS,simprocAttr,e,hw];exact ih _ _ ⟨y,rfl,_,congrArg (D.slice false _) i⟩
 ·obtain⟨m,d,r⟩:=z;obtain⟨y,e,t,o⟩:=a;simp only at y e o;refine Af VY.eq_1 ?_;have v:((l.length:Int)<l.length)=False:=eq_false O;rw[Qq (QA _)]at o;simp only[GU,↓GQ,GS,simprocAttr,y,e,o,v,Bb]
  all_goals exact Qd
def aKp:=Az [(72,Ac NK),(73,Ac nM),(74,Ac aKS)]
def aTZ:=RF aKp aO6 [.t 2,.t 3] 30
def aXx:Kq aTZ 29:=Av (Al func29) (Aa pX (Aa aVz (Aa aXe Ae)))
def aLc(n p:Bs)(a:Bool)(rs:List Rl)(u:Bs)(m:Int)(v:NK [.agg [.str n,.str p,.slice a [] (Am rs)]]=some (.int .i64 0))(e:nM [.slice a [] (Am rs)]=some (.tup [.str u,.int .i64 m]))(o:p.length<=60000)(j:u.length<=60000):aTZ [.agg [.str n,.str p,.slice a [] (Am rs)]]=some (.tup [.str (BT [p,u]),.int .i64 0]):=by
 refine Aq (Qj rfl) ?_;unfold aO6;have b:aKS [.slice false [] [.str p,.str u]]=some (.tup [.slice false [] (Aw (BT [p,u])),.int .i64 0]):=aKR false [p,u] U (by
  intro s g;simp only[List.mem_cons,QS,or_false]at g;rcases g with rfl|rfl
  ·exact o
  ·exact j)
 simp only[GU,↓GQ,GS,simprocAttr,Ad aKp 72,v,Ad aKp 73,e,Ad aKp 74,b,Ci]
 all_goals exact Qd
def Sm:List (Bs×Bs):=[(He,[]),(Hp,H_),(RA,MB)]
def Us:firstE.lst=Sm:=Xj
def aFJ:=Az [(30,Ac F49),(29,Ac aTZ)]
def sP:=RF aFJ aEa [.t 0] 17
def aRW:Kq sP 7:=Av (Al func7) (Aa aU8 (Aa aXx Ae))
def aGh:sP []=some (.slice false [] (BI Sm)):=by
 refine Aq (Qj rfl) ?_;unfold aEa;have u:F49 []=some (.slice false [] (Au [Bh])):=rfl;have a:=aLc [114,111,111,116] [] false [([],63)] (B0 (Bn [([],63)])) (B4 [([],63)]) Y4 YZ Z Xj;have z:BT [[],B0 (Bn [([],63)])]=MB:=rfl;rw[z]at a;have o:BI Sm=[.agg [.str He,.str []],.agg [.str Hp,.str H_],.agg [.str RA,.str MB]]:=rfl;have e:H_=List.replicate 17 0:=rfl;rw[o];simp only[Au,HD,Bh,QJ,QP]at u;generalize MB=t at *
 repeat' (first|(refine aA (Ah ?_) ?_;first|rfl|simp[Ap,An,GZ,Ag,Ac])|simp only[GU,↓GQ,GS,simprocAttr,Ad aFJ 30,u,Ad aFJ 29,a,simprocAttr,Qm])
 rfl
section
variable{n:Nat}{ds:List D}
def Fit.slice{P:Program}{t e:TypeId}(w:P.underlying t=some (.slice e))(h:Fit P (n+1) t ds):∃nl xs,ds=[.slice nl [] xs]∧(nl=true->xs=[])∧∀x∈xs,∃cs,x=LF (VH P e) cs∧Fit P n e cs:=by
 unfold Fit at h;rw[w]at h;exact h
def Fit.str{P:Program}{t:TypeId}(w:P.underlying t=some .string)(h:Fit P (n+1) t ds):∃s,ds=[.str s]:=by
 unfold Fit at h;rw[w]at h;exact h
def Fit.int{P:Program}{t:TypeId}{k:IntKind}(w:P.underlying t=some (.int k))(h:Fit P (n+1) t ds):∃x,ds=[.int k x]∧(Lit.int k x).wf=true:=by
 unfold Fit at h;rw[w]at h;exact h
def all_map{α β:Type}{f:α->β}:∀{xs:List β},(∀x∈xs,∃a,x=f a)->∃l:List α,xs=l.map f
 |[],_=>⟨[],rfl⟩
 |x::r,h=>by
  obtain⟨a,rfl⟩:=h x List.mem_cons_self;obtain⟨l,rfl⟩:=all_map λy d=>h y (List.mem_cons_of_mem _ d)
  exact⟨a::l,rfl⟩
end
def cell_fit{H:Type}{c:TypeId×Value->H}{P:Program}{w:World}{base:Nat}{a:Nat->Bool}{b:Bool}{n:Nat}{t:TypeId}{v:Value}{d:DataW H}{p:List MemPlace}(o:Iy P n t=true)(y:v.cells=#[v])(h:DataW.Trod c P w base a b t v d p):
  ∃ds,Fit P n t ds∧∀x,ds=[x]->Rep w (startG (allG w)) x v:=by
 obtain⟨fuel,r⟩:=h;rw[y]at r;obtain⟨_,ds,u,q⟩:=RC n t o _ _ _ r;exact⟨ds,u,λx e=>by subst e;exact(q.rep 0 x v rfl rfl).1⟩
end Go.Vd
namespace Go.Vd
open Go.RowKit
section
variable{P:Program}{B:Nat}{w0:World}{N:Nat}{S:GR}
def Iz(v:GR.ok P S){y:Code}{b:DC}{t:Nat}(r:AA P N y=some b)(s:Du t y=true){z:St}{a:Act}{w:World}{g:Gh}(f:Cm P B w0 N [] z a w g){Q:Ex->St->Prop}(h:b.wp S [] Q z):
  y.wp P (λn k w'=>∃e o c,n=e.toExit∧Q e o∧Cm P B w0 N [] o k w' c∧c.G0=g.G0∧k.tmps[t]?=a.tmps[t]?) a w:=by
 obtain⟨e,o,x,j⟩:=h;refine wp_mono (aDy v y b r s z e o x a w g f) ?_;rintro n k w' ⟨⟨rfl,c,u,q,_⟩,na⟩;exact⟨e,o,c,rfl,j,u,q.G0,na⟩
end
end Go.Vd
namespace Go.Vd
open Go.Proofs Go.RowKit
def RQ(p:Bool×List Mt):List D:=[.slice p.1 [] (Ax p.2)]
def wK(x y:Bool×List Mt)(e:RQ x=RQ y):x=y:=by
 grind [RQ,IE]
def aZw:List D->Option D:=FX RQ (λp=>Ib p.2) (λp=> .str (Ds p.2))
def aL7{n:Bool}{l:List Mt}(h:Ib l):aZw [.slice n [] (Ax l)]=some (.str (Ds l)):=BG (mk:=RQ) (a:=(n,l)) wK h
def rL:DC:=(.seq (.row [⟨some 5,.mv (.t 4),[],none⟩,⟨some 6,.mv (.t 0),[],none⟩,⟨some 7,.len false (.t 6),[],none⟩,⟨some 8,.bin .lss (.t 5) (.t 7),[],none⟩]) (.cond (.t 8) .skip (.exit 0)))
def aPQ:DC:=(.row [⟨some 12,.mv (.t 3),[],none⟩,⟨some 13,.mv (.t 0),[],none⟩,⟨some 14,.mv (.t 4),[],none⟩,⟨some 15,.iaddr 3 (.t 13) (.t 14),[],none⟩,⟨some 16,.faddr 0 (.t 15),[],none⟩,⟨some 17,.load none (.t 16),[],none⟩,⟨some 18,.call (.c (.fn 137 [])) [(.t 12),(.t 17)],[],none⟩,⟨some 11,.mv (.t 18),[],none⟩,⟨some 19,.ext 0 (.t 11),[],none⟩,⟨some 20,.ext 1 (.t 11),[],none⟩,⟨some 3,.mv (.t 19),[],none⟩])
def aPP:DC:=(.row [⟨some 21,.mv (.t 3),[],none⟩,⟨some 22,.mv (.t 0),[],none⟩,⟨some 23,.mv (.t 4),[],none⟩,⟨some 24,.iaddr 3 (.t 22) (.t 23),[],none⟩,⟨some 25,.faddr 1 (.t 24),[],none⟩,⟨some 26,.faddr 0 (.t 25),[],none⟩,⟨some 27,.load none (.t 26),[],none⟩,⟨some 28,.conv .u8 (.t 27),[],none⟩,⟨some 29,.bslice 5 1 [(.t 28),(.c (.int .u8 0))],[],none⟩,⟨some 30,.app 5 1 1 (.t 21) (.t 29),[],none⟩,⟨some 3,.mv (.t 30),[],none⟩])
def aPO:DC:=(.row [⟨some 31,.mv (.t 0),[],none⟩,⟨some 32,.mv (.t 4),[],none⟩,⟨some 33,.iaddr 3 (.t 31) (.t 32),[],none⟩,⟨some 34,.faddr 1 (.t 33),[],none⟩,⟨some 35,.faddr 1 (.t 34),[],none⟩,⟨some 36,.load none (.t 35),[],none⟩])
def aPN:DC:=(.row [⟨some 9,.mv (.t 4),[],none⟩,⟨some 10,.bin .add (.t 9) (.c (.int .i64 1)),[],none⟩,⟨some 4,.mv (.t 10),[],none⟩])
section
variable{S:GR}{l:List Mt}{n1:Bool}{j:Nat}{st:St}{n:Bool}{t:Id}{bs:Bs}
def LE(n1:Bool)(l:List Mt)(j:Nat)(n:Bool)(t:Id)(bs:Bs)(z:St):Prop:=
 z.s 0= .slice n1 [] (Ax l)∧z.s 3= .slice n t (Aw bs)∧z.s 4= .int .i64 (j:Int)
def aXK(h:LE n1 l j n t bs st)(w:j<l.length):rL.wp S [] (λe o=>e= .normal∧LE n1 l j n t bs o) st:=by
 obtain⟨y,d,x⟩:=h;have v:((j:Int)<l.length):=O
 simp only[↓GQ,GX,Hf,simprocAttr,rL,y,x,v,AC];exact⟨y,d,x⟩
def aXF(h:LE n1 l j n t bs st)(w:¬j<l.length):rL.wp S [] (λe o=>e= .exit 0∧LE n1 l j n t bs o) st:=by
 obtain⟨y,d,x⟩:=h;have v:¬((j:Int)<l.length):=O
 simp only[↓GQ,GX,Hf,simprocAttr,rL,y,x,v,AC];exact⟨y,d,x⟩
def aXJ(c:S 137=some (cQ 5 U8 aAx))(h:LE n1 l j n t bs st)(w:j<l.length)(f:bs.length<=10000000)(z:(AU l j).1.length<=1000):
  aPQ.wp S [] (λe o=>e= .normal∧∃i,LE n1 l j false i (bs++jB (AU l j).1) o∧i≠[]∧o.m i 0=some (.tok 6)) st:=by
 obtain⟨y,d,x⟩:=h;have v:((j:Int)<l.length):=O
 have q:=nJ (j:=j);have ia:(Ax l)[j]?=some (.agg [.str (AU l j).1,.int .i64 (AU l j).2.1,.bool (AU l j).2.2]):=C4 w;generalize AU l j=m at ia z ⊢;obtain⟨p,k,b⟩:=m;simp only at z ia;have hF:aAx [.str p]=some (Aw (jB p),[11]):=if_pos O;obtain⟨u,a,r⟩:=st;simp only at y d x;simp only[↓GQ,GT,simprocAttr,aPQ,y,d,x,q,Qh,ia,A7 c,Qw,Hs,Qn,Qv];refine dY (Ow _) Yc hF ?_;simp only[↓GQ,Hb,simprocAttr,U8,Aj,Qk];refine⟨_,⟨y,oT rfl (by rw[C1]),x⟩,?_,?_⟩
 ·simp
 ·simp only[];simp
def aXI(h:LE n1 l j false t bs st)(w:j<l.length)(f:bs.length<=10000000)(s:t≠[])(a:st.m t 0=some (.tok 6)):
  aPP.wp S [] (λe o=>e= .normal∧∃n,LE n1 l j false n (bs++[UInt8.ofNat ((AU l j).2.1 % 256).toNat,0]) o∧n≠[]∧o.m n 0=some (.tok 6)) st:=by
 obtain⟨y,d,x⟩:=h;have v:((j:Int)<l.length):=O
 have q:=nJ (j:=j);have ia:(Ax l)[j]?=some (.agg [.str (AU l j).1,.int .i64 (AU l j).2.1,.bool (AU l j).2.2]):=C4 w;generalize AU l j=m at ia ⊢;obtain⟨p,k,b⟩:=m;simp only at ia;obtain⟨u,ga,r⟩:=st;simp only at y d x a;simp only[↓GQ,GT,simprocAttr,aPP,y,d,x,q,Qh,ia,Mr,Qw,Hs,and_self,Qn,Qs,Qv];refine aA ⟨by simp only[BA];omega,rfl,.inr ⟨?_,s⟩⟩ ?_
 ·grind [Bp]
 simp only[↓GQ,GT,simprocAttr];refine⟨[r+9],⟨y,oT rfl ?_,x⟩,?_,?_⟩
 ·grind [C1,Aw,toNat_ofNat]
 ·simp
 ·simp_all [Be,Ha.app,Bp]
def aXH(h:LE n1 l j false t bs st)(w:j<l.length):
  aPO.wp S [] (λe o=>e= .normal∧LE n1 l j false t bs o∧o.m=st.m∧o.s 36= .bool (AU l j).2.2) st:=by
 obtain⟨y,d,x⟩:=h;have v:((j:Int)<l.length):=O
 have q:=nJ (j:=j);have ia:(Ax l)[j]?=some (.agg [.str (AU l j).1,.int .i64 (AU l j).2.1,.bool (AU l j).2.2]):=C4 w;generalize AU l j=m at ia ⊢;obtain⟨p,k,b⟩:=m;simp only at ia;obtain⟨u,a,r⟩:=st;simp only at y d x;simp only[↓GQ,GT,simprocAttr,aPO,y,x,q,Qh,ia,Hs,and_self,Qn,Qs,Qv];exact⟨y,d,x⟩
def aXG(h:LE n1 l j n t bs st)(w:j<l.length)(hl:l.length<=1000):
  aPN.wp S [] (λe o=>e= .normal∧LE n1 l (j+1) n t bs o) st:=by
 obtain⟨y,d,x⟩:=h;have p:=wJ (j:=j) O;simp only[↓GQ,GX,Hf,simprocAttr,aPN,x,p];exact⟨y,d,rfl⟩
end
def aCW:(f101.body.map (Du 0))=some true:=Xa
def aV9:Kq aZw 101:=by
 obtain⟨S,hS,hl⟩:=A4 (Aa aMA Ae);have c:=hl 137 _ rfl;clear hl;refine xS (Al func101:Fn QC 101 44 aPi [.t 2]) (λds r h=>?_) (λds r h fn ea a w g hf b da ua cb hG la=>?_)
 ·obtain⟨p,_,rfl,_⟩:=Dy h;simp[RQ]
 ·obtain⟨⟨n1,l⟩,hl,rfl,rfl⟩:=Dy h;replace hl:Ib l:=hl;have hk:Du 0 ea=true:=by
   have e:fn=f101:=(Zo (func101.symm.trans hf)).symm;have ma:=aCW;rw[e]at b;rw[b]at ma;exact Zo ma
  unfold aPi at da;obtain⟨c1,y,rfl,t1,x⟩:=Gv da;obtain⟨c2,y,rfl,t2,z⟩:=Gv x;obtain⟨eb,y3,rfl,ya,ty⟩:=Gv z;obtain⟨c3,y4,rfl,t3,t4⟩:=Gv ya;obtain⟨c4,rfl,wa⟩:=WT t4;obtain⟨c5,rfl,t5⟩:=aH6 wa;unfold rI at t5;obtain⟨cA,y,rfl,tA,tB⟩:=Gv t5;obtain⟨cB,c9,rfl,ab,t9⟩:=Gv tB;obtain⟨cC,rfl,tC⟩:=WT ab;obtain⟨k1,y,rfl,u1,tD⟩:=Gv tC;obtain⟨k2,y,rfl,u2,tE⟩:=Gv tD;obtain⟨k3,k4,rfl,u3,tF⟩:=Gv tE;obtain⟨o,kx,ky,rfl,uo,ux,uy⟩:=aH8 tF;obtain⟨i,os,aa,rfl,fa,hd⟩:=aQJ ux;simp only[Du,Zj]at hk;obtain⟨q1,q2,⟨q3,qA,⟨za,ra,v,_,wy⟩,q9⟩,qy⟩:=hk;have va:=la.slots 0;have ha:=la.inv.gz;refine wp_seq (wp_mono (Iz hS t1 q1 la (Q:=λe ca=>e= .normal∧ca.s 0= .slice n1 [] (Ax l)) (by simp only[↓GQ,GX,simprocAttr,RQ,and_self])) ?_);rintro e1 a1 w1 ⟨e,ga,g1,rfl,⟨rfl,r1⟩,h1,G1,T1⟩;refine wp_seq (wp_mono (Iz hS t2 q2 h1 (Q:=λe ca=>e= .normal∧ca.s 0= .slice n1 [] (Ax l)∧ca.s 3= .slice true [] []) (by simp only[↓GQ,GX,simprocAttr,r1,and_self])) ?_);rintro e1 a2 w2 ⟨e,qa,g2,rfl,⟨rfl,r2,ka⟩,h2,G2,T2⟩;refine wp_seq (wp_seq (wp_mono (Iz hS t3 q3 h2 (Q:=λe ca=>e= .normal∧LE n1 l 0 true [] [] ca) (by simp only[↓GQ,GX,Hf,simprocAttr,LE,r2,ka];first|done|exact⟨r2,ka,rfl⟩|exact⟨rfl,rfl⟩|exact⟨rfl,rfl,rfl⟩|rfl)) ?_));rintro e1 a3 w3 ⟨e,xa,g3,rfl,⟨rfl,r3⟩,h3,G3,T3⟩
  let J:Nat->Act->World->Prop:=λn a' w'=>∃st g' j nl t,Cm QC w.heap.size w 44 [] st a' w' g'∧g'.G0=g.G0∧a'.tmps[0]?=a.tmps[0]?∧LE n1 l j nl t (Ds (l.take j)) st∧n=l.length-j∧j<=l.length
  refine wp_block (Le J ?_ (n:=l.length) ⟨xa,g3,0,true,[],h3,by rw[G3,G2,G1],by rw[T3,T2,T1],r3,O,O⟩);rintro n a4 w4 ⟨st,g4,j,nl,t,h4,G4,T4,K4,rfl,hj⟩;rcases Zv j l.length with hlt|hge
  ·have hb:=U_ hl j hj;have sa:=hl.1;have hp:=hl.2 _ (RN hlt);refine wp_seq (wp_mono (Iz hS tA qA h4 (aXK K4 hlt)) ?_);rintro e1 a5 w5 ⟨e,ta,g5,rfl,⟨rfl,r5⟩,h5,G5,T5⟩;refine wp_seq (wp_block ?_);refine wp_seq (wp_mono (Iz hS u1 za h5 (aXJ c r5 hlt O hp)) ?_);rintro e1 a6 w6 ⟨e,u,g6,rfl,⟨rfl,t6,r6,n6,m6⟩,h6,G6,T6⟩;refine wp_seq (wp_mono (Iz hS u2 ra h6 (aXI r6 hlt (by rw[Qz,Iq];omega) n6 m6)) ?_);rintro e1 a7 w7 ⟨e,db,g7,rfl,⟨rfl,t7,r7,n7,m7⟩,h7,G7,T7⟩;refine wp_seq (wp_mono (Iz hS u3 v h7 (aXH r7 hlt)) ?_);rintro e1 a8 w8 ⟨e,ja,g8,rfl,⟨rfl,r8,m8,c8⟩,h8,G8,T8⟩;have oa:g8.G0=g.G0:=by rw[G8,G7,G6,G5,G4]
   have ba:a8.tmps[0]?=a.tmps[0]?:=by rw[T8,T7,T6,T5,T4]
   have fin:∀(a':Act)(w':World)(ca:St)(g':Gh)(n':Bool)(t':Id),Cm QC w.heap.size w 44 [] ca a' w' g'->g'.G0=g.G0->a'.tmps[0]?=a.tmps[0]?->LE n1 l j n' t' (Ds (l.take (j+1))) ca->
     c9.wp QC (Exit.then (λa' w'=>∃k,k<l.length-j∧J k a' w') (Exit.inBlock 0 (Exit.then (y3.wp QC (λe a' w'=>(e= .normal∨e= .ret)∧∃ca g' d,Cm QC w.heap.size w 44 [] ca a' w' g'∧g'.G0=g.G0∧B6 [RV.t 2] ca.s ca.m=some d∧d.unR= .str (Ds l)∧(D.str (Ds l)).calmR=true)) (λe a' w'=>(e= .normal∨e= .ret)∧∃ca g' d,Cm QC w.heap.size w 44 [] ca a' w' g'∧g'.G0=g.G0∧B6 [RV.t 2] ca.s ca.m=some d∧d.unR= .str (Ds l)∧(D.str (Ds l)).calmR=true)))) a' w':=by
    intro a' w' ca g' n' t' hh hg ht ia;refine wp_mono (Iz hS t9 q9 hh (aXG ia hlt sa)) ?_;rintro e1 a9 w9 ⟨e,f,g9,rfl,⟨rfl,r9⟩,h9,G9,T9⟩;exact⟨l.length-(j+1),O,f,g9,j+1,n',t',h9,by rw[G9,hg],by rw[T9,ht],r9,rfl,O⟩
   have na:=NS hlt;have q:=h8.slots.arg uo;rw[show GW.ev ja.s (.t 36)=ja.s 36 from rfl,c8]at q;cases hb2:(AU l j).2.2 with
   |true=>
    rw[hb2]at q;refine wp_cond_true q.bool_inv ?_;have bb:=aJD (id:=i) (e:=5) (g0:=g) (w0:=w) hS fa hd.symm h8 ua cb hG ha oa (QA _) (by
     rw[r8.1];rw[show a8.tmps.getD 0 undef=a.tmps.getD 0 undef by rw[Ze,Ze,ba]];exact va) (bs:=Ds (l.take j)++jB (AU l j).1++[UInt8.ofNat ((AU l j).2.1 % 256).toNat,0]) U (by simp only[Qz,Iq,Qy,Qx];omega) n7 r8.2.1 r8.2.2 (by rw[m8];exact m7)
    refine wp_mono bb ?_;rintro e1 a9 w9 ⟨rfl,T9,f,g9,h9,G9,z0,z4,z3⟩;refine fin a9 w9 f g9 false [] h9 G9 (T9.trans ba) ⟨z0.trans r8.1,?_,z4.trans r8.2.2⟩;rw[z3,aIn,na];simp only[mtB,hb2,if_true,QO]
   |false=>
    rw[hb2]at q;refine wp_cond_false q.bool_inv ?_;refine wp_mono (Iz hS uy wy h8 (Q:=λe ca=>e= .normal∧ca=ja) ⟨_,_,⟨rfl,rfl⟩,rfl,rfl⟩) ?_;rintro e1 a9 w9 ⟨e,f,g9,rfl,⟨rfl,rfl⟩,h9,G9,T9⟩;refine fin a9 w9 f g9 false t7 h9 (G9.trans oa) (T9.trans ba) ⟨r8.1,?_,r8.2.2⟩;rw[r8.2.1,na];simp only[mtB,hb2,if_false,Zh,QO]
  ·refine wp_seq (wp_mono (Iz hS tA qA h4 (aXF K4 O)) ?_);rintro e1 a5 w5 ⟨e,ta,g5,rfl,⟨rfl,r5⟩,h5,G5,T5⟩;have pa:j=l.length:=by omega
   rw[pa,Qq (QA _)]at r5;simp only[Ex.toExit,Exit.then,Exit.inBlock,if_true];refine wp_mono (Iz hS ty qy h5 (Q:=λe ca=>(e= .ret∨e= .normal)∧ca.s 2= .str (Ds l)) (by
    obtain⟨z0,z3,z4⟩:=r5;simp only[↓GQ,GX,Hf,simprocAttr,z3,aFq,Ci]
    first|done|exact⟨.inl rfl,rfl⟩|simp)) ?_
   rintro e1 a6 w6 ⟨e,u,g6,rfl,⟨he,r6⟩,h6,G6,T6⟩;refine⟨?_,u,g6,.str (Ds l),h6,by rw[G6,G5,G4],?_,rfl,rfl⟩
   ·rcases he with rfl|rfl
    ·exact .inr rfl
    ·exact .inl rfl
   ·show B6 [RV.t 2] u.s u.m=_;simp only[B6,Fj,RV.of,r6]
def lv3{p:Bs}{q:Int}{b:Bool}:AW [.str p,.int .i64 q,.bool b] [.str p,.int .i64 q,.bool b] [(2,0),(0,1),(1,2)]=some true:=by simp[AW,Dt]
def aRr{S:GR}{l:List Mt}{n2 n5:Bool}{Q:Ex->St->Prop}{M:GV}(c:S 100=some (Ac F46))(hl:l.length<=1000)(fa:∀z,z.m=M->z.s 1= .slice n2 [] (Ax l)->z.s 2= .ptr [0] 0->Q (.exit 0) z):
  ∀(f j:Nat)(z:St) g,l.length=j+f->z.m=M->z.s 1= .slice n2 [] (Ax l)->z.s 2= .ptr [0] 0->z.s 5= .slice n5 [] (Ax l)->z.s 6= .int .i64 (j:Int)->AK S [] VS Q z g:=by
 intro f;induction f with
 |zero=>
  intro j z g o y u w k i;refine Af VS.eq_1 ?_;have:¬((j:Int)<l.length):=O
  simp only[↓GQ,GX,Hf,simprocAttr,u,i,this,AC];exact fa _ y u w
 |succ f ih=>
  intro j z g o y u w k i;refine Af VS.eq_1 ?_;have e:j<l.length:=O
  have v:((j:Int)<l.length):=O
  have n:=nJ (j:=j);have t:=wJ (j:=j) O;have ia:(Ax l)[j]?=some (.agg [.str (AU l j).1,.int .i64 (AU l j).2.1,.bool (AU l j).2.2]):=C4 e;generalize AU l j=m at ia;obtain⟨p,q,b⟩:=m;simp only at ia;have a:F46 [.agg [.str p,.int .i64 q,.bool b]]=some (.agg [.str p,.int .i64 q,.bool b]):=aUa (m:=(p,q,b));obtain⟨ja,d,r⟩:=z;simp only at y u w k i;simp only[↓GQ,GT,simprocAttr,u,k,i,v,n,Qh,ia,AC,Ab c,a,lv3,bne_self_eq_false,Hs,QA,QF,QI];refine aA (Ah ?_) ?_
  ·simp_all [Ap,An,GZ,Ag,Ac]
  simp only[↓GQ,GX,Hx,simprocAttr,i,t];exact ih (j+1) _ _ O y u w k rfl
open Classical in
def aL8{n:Bool}{l:List Mt}(hl:Ib l)(c:n=true->l=[]):aL9 [.agg [.slice n [] (Ax l)]]=some (.slice n [] (Ax l)):=by
 show(if _ then _ else _)=_;rw[if_pos (MH (by have:=hl.1;omega) c)]
open Classical in
def aL5{n:Bool}{l:List Mt}(hl:Ib l):aL6 [.agg [.slice n [] (Ax l)]]=some (.int .i64 ((Ds l).length:Int)):=by
 have h:Ax l=Ax (B7 (Ax l))∧(Ax l).length<=1000∧∀m∈B7 (Ax l),m.1.length<=1000000:=⟨by rw[Bd],by rw[AC];exact hl.1,λm r=>by rw[Bd]at r;have:=hl.2 m r;omega⟩;show(if _ then _ else _)=_;rw[if_pos h,Bd,aJA]
def ok66:Kq F66 48:=by
 obtain⟨S,x,hl⟩:=A4 (Aa aWa (Aa aZZ (Aa aBU (Aa aV9 (Aa aV8 Ae)))));have a:=hl 99 _ rfl;have c:=hl 100 _ rfl;have e:=hl 28 _ rfl;have i:=hl 101 _ rfl;have d:=hl 102 _ rfl;clear hl;refine B1 x (Al func48:Fn QC 48 43 aX8 [.t 4]) (λ_=>by simp[jY]) (λp o=>?_);obtain⟨n1,n2,l⟩:=p;obtain⟨hl,v⟩:=o;replace hl:Ib l:=hl;replace v:n1=true->l=[]:=v;have g:=aL8 hl v;have b:=WA (n:=n1) hl;have f:=aL7 (n:=n2) hl;have h:=aL5 (n:=n1) hl;unfold aX8 jY;simp only;simp only[↓GQ,Hb,simprocAttr,AC,Ab a,g,Aj,Ar,As,Qu];refine aRr (l:=l) (n2:=n2) (n5:=n1) c hl.1 (λz r u q=>?_) l.length 0 _ _ O rfl rfl rfl rfl rfl;simp only[↓GQ,Hb,simprocAttr,u,q,r,Ab e,b,Ab i,f,Ab d,h,Aj,Ar,As,Qu]
def oJ:∀(f:Nat){s:Bs}{p:Nat}{acc a:List Mt},(CA f s p acc).1=some a->p<=s.length->acc.length<=4->Fb acc->(∀m∈acc,m.1.length<=s.length)->a.length<=4∧∀m∈a,m.1.length<=s.length
 |0,s,p,acc,a,h,hp,h4,hs,hb=>by
  unfold CA at h;split at h
  ·cases h;exact⟨h4,hb⟩
  ·cases h
 |f+1,s,p,acc,a,h,hp,h4,hs,hb=>by
  unfold CA at h;split at h
  ·cases h;exact⟨h4,hb⟩
  split at h
  ·cases h
  rename_i c2;split at h
  ·cases h
  split at h
  ·cases h
  ·rename_i z v;obtain⟨n1,n2,q⟩:=NY hp (Decidable.not_not.1 c2);obtain⟨_,_,w⟩:=SP v;refine oJ f h n2 w (fM hs v) (λm r=>?_);rcases fN hs v m r with h1|rfl
   ·exact hb m h1
   ·exact q
def aIe{n p:Bs}{l:List Rl}(h:Dc n p l=0):B4 l=0:=by
 unfold Dc at h;split at h
 ·cases h
 split at h
 ·exact absurd h ‹_›
 ·exact Decidable.not_not.1 ‹_›
def aBw{l:List (Bs×Bs)}(u:Tr.Ord l)(hl:l.length<=1000)(hb:∀x∈l,x.1.length<=150∧x.2.length<=1000){te:Int}{ms:List Mt}{ks:List Tk}(h:CU l=some (te,ms,ks)):Ib ms∧gW ks ks:=by
 unfold CU at h;split at h
 ·rename_i x y f p;split at h
  ·rename_i d v;split at h
   ·cases h
   ·rename_i g;obtain⟨c,s,e⟩:=Option.map_eq_some_iff.1 h;cases e;have a:=(hb _ (Tr.getL_some p)).2;have a:y.length<=1000:=a;obtain⟨a1,t⟩:=oJ y.length v (Qw _) Z (λi j _ w=>absurd w (QR _)) (λm r=>by cases r);refine⟨⟨O,λm r=>Zd (t m r) a⟩,?_⟩;have z:Fr l:=Classical.byContradiction λq=>g (.inr q)
    have hC:=oG hl (λx f=>(hb x f).2);rw[Rq z]at hC;simp only at hC;have hN:=aA4 u;have b:Hv (Ic l) []:=⟨λi j _ w=>absurd w (QR _),λx f=>absurd f QS,.inl rfl⟩;obtain⟨o,_⟩:=SC hN (Ic l).length [] b (Q8 ..);unfold LQ at s;split at s
    ·cases s;have r:∀k∈E7 (Ic l) (Ic l).length [],Dg k.2.2.2∧(k.2.2.1=true->k.2.2.2=[])∧k.1.length<=1000000∧k.2.1.length<=1000000:=λk s=>hC.ok k ((o.ldb k s).mem)
     have n:=Wg o hC.len;refine⟨rfl,n,λk s=>?_,λk s=>?_,λj w=>⟨rfl,rfl,rfl,(Gj o.srt w).2,?_⟩⟩
     ·exact⟨(r k s).1.1,(r k s).2.1⟩
     ·exact Zd (Li (aIe (hN.tok k ((o.ldb k s).mem)))).1 Z
     ·rw[(Gj o.srt w).1]
    ·cases s
  ·cases h
 ·cases h
def vwO(key:Bs):Option (Int×List Mt×List Tk)->Vw
 |some (te,ms,ks)=>⟨true,te,key,decide (ms.length=0),ms,decide (ks=[]),ks⟩
 |none=>⟨false,0,[],true,[],true,[]⟩
def aAM(key:Bs)(o:Option (Int×List Mt×List Tk)):WM key o=HN (vwO key o):=by
 cases o with
 |none=>rfl
 |some p=>rfl
def jD{l:List (Bs×Bs)}(c:Tr.Ord l)(hl:l.length<=1000)(f:∀x∈l,x.1.length<=150∧x.2.length<=1000)(key:Bs):nQ (vwO key (CU l)) (vwO key (CU l)):=by
 cases h:CU l with
 |none=>exact⟨rfl,rfl,rfl,rfl,⟨Qw _,λm r=>absurd r QS⟩,λ_=>rfl,⟨rfl,Qw _,λk s=>absurd s QS,λk s=>absurd s QS,λj w=>absurd w (QR _)⟩⟩
 |some p=>
  obtain⟨n,a,i⟩:=p;obtain⟨u,q⟩:=aBw c hl f h;exact⟨rfl,rfl,rfl,rfl,u,λe=>Zk.1 (of_decide_eq_true e),q⟩
def En:GR:=Az [(4,Ac sQ),(5,Ac tV),(6,Ac UL),(7,Ac sP),(9,Ac sO),(8,Ac gR),(10,Ac UK),(11,Ac Wp),(12,Ac gD),(13,Ac O6),(14,Ac sN),(15,Ac F22)]
def sR:List D->Option D:=RF En lR [.t 6] 62
def aRY:Kq sR 3:=Av (Al func3) (Aa aRX (Aa aSy (Aa kJ (Aa aRW (Aa aRV (Aa aCU (Aa aRU (Aa aJH (Aa aRT (Aa RJ (Aa aRS (Aa (aZ4 ok66) Ae))))))))))))
def SZ(nl:Bool)(l:List Op1)(name:Bs)(b:Bool)(h:Fm l=true∨40<name.length):sR [.slice nl [] (opsD l),.str name,.bool b]=some (.bool true):=by
 refine Aq (Qj rfl) ?_;unfold lR;have x:=gE nl l;have y:=gV;by_cases c:Fm l=true
 ·rw[c,if_pos rfl]at x;simp only[GU,↓GQ,GS,simprocAttr,simprocAttr,Ad En 4,x,Ad En 5,y]
  all_goals exact Qd
 ·have c2:Fm l=false:=by simpa using c
  rw[c2,if_neg Q4]at x;have n:((40:Int)<(name.length:Int))=True:=eq_true (by have:=h.resolve_left c;omega);simp only[GU,↓GQ,GS,simprocAttr,simprocAttr,Ad En 4,x,Ad En 5,y,n]
  all_goals exact Qd
def t0(b:Bool):Tr:=if b then firstE else .nil
def r0(b:Bool):List (Bs×Bs):=if b then Sm else []
def U0(b:Bool):(t0 b).lst=r0 b:=by
 cases b with
 |true=>exact Us
 |false=>rfl
def aQO(b:Bool):Tr.Ord (t0 b).lst:=by
 cases b with
 |true=>exact Uq
 |false=>exact List.Pairwise.nil
def aMn(b:Bool):tW (r0 b) 3:=by
 cases b with
 |true=>exact⟨Z,λx f=>by
   rw[←U0 true]at f;have:=Sk x f;omega⟩
 |false=>exact⟨Qw _,λx f=>absurd f QS⟩
def mY(nl:Bool)(l:List Op1)(name:Bs)(b:Bool)(h1:Fm l=false)(h2:name.length<=40):sR [.slice nl [] (opsD l),.str name,.bool b]=some (.bool true):=by
 refine Aq (Qj rfl) ?_;have k:En 4=some (Ac sQ):=rfl;have m:En 5=some (Ac tV):=rfl;have j:En 6=some (Ac UL):=rfl;have h:En 7=some (Ac sP):=rfl;have c:En 9=some (Ac sO):=rfl;have e:En 8=some (Ac gR):=rfl;have g:En 10=some (Ac UK):=rfl;have f:En 11=some (Ac Wp):=rfl;have a:En 12=some (Ac gD):=rfl;have n:En 13=some (Ac O6):=rfl;have o:En 14=some (Ac sN):=rfl;have u:En 15=some (Ac F22):=rfl;unfold lR;have ea:l.length<=50∧∀x∈l,x.2.1.length<=150∧x.2.2.length<=1000:=by
  unfold Fm at h1;rw[Bool.or_eq_false_iff]at h1;refine⟨by have:=of_decide_eq_false h1.1;omega,λx hx=>?_⟩;have:=Zi.1 h1.2 x hx;simp only[Bool.or_eq_true,decide_eq_true_eq,not_or]at this;omega
 obtain⟨hl,hk⟩:=ea;have ho:=aQO b;have hB:=aMn b;rw[←U0 b]at hB;obtain⟨oa,z⟩:=cD l ho;have p:=tW.ops (r:=l) hB hk ho;rw[←oa]at p;obtain⟨hE,hS⟩:=p.entW O;have h4:=gE nl l;rw[h1,if_neg Q4]at h4;have s:=gV;have aa:=NG;have h7:=aGh;have h9:=aGg nl l O;have ga:(t0 b).cnt<=3:=by rw[←Tr.cnt_lst];exact hB.len
 have ja:(t0 b).wgt<=10000:=by cases b<;>decide+kernel
 have i:=gP (t0 b) (decide (l.length=0)) l O hk ho O O;have ba:=aGf (!b) nl (r0 b) l 3 (aMn b) O hk (by rw[←U0 b];exact ho);rw[←U0 b,←oa]at ba;have ka:∀y,(CW l (t0 b)).get He=some y->y.length<=1000:=λy hy=>by
  rw[Tr.get_lst He _ z]at hy;exact(p.ok _ (Tr.getL_some hy)).2
 have q:=aAm hE ka name;rw[vS z]at q;have ca:(CW l (t0 b)).lst.length<=1000:=by have:=p.len;omega
 have da:=λnl=>aGe nl (CW l (t0 b)).lst name z ca p.ok
 have ha:=Gt hS;have d:=λnl=>aGd nl (CW l (t0 b)).lst ca p.ok
 have wa:=jD z ca p.ok name;have w:=aUf wa;rw[aAM]at q;have la:∀nl,gD [.slice nl [] (BI (CW l (t0 b)).lst),.str name]=some (.tup [HN (vwO name (CU (CW l (t0 b)).lst)),.int .i64 (if(CU (CW l (t0 b)).lst).isSome then 0 else 4)]):=λnl=>by rw[da nl,aAM]
 clear da;have c3:((40:Int)<(name.length:Int))=False:=eq_false O;generalize (if(CU (CW l (t0 b)).lst).isSome=true then(0:Int)else 4)=er at *;generalize vwO name (CU (CW l (t0 b)).lst)=v at *;generalize Tr.weighL (CW l (t0 b)).lst=wg at *;generalize ia:BI (CW l (t0 b)).lst=pp at *;generalize opN l (!b) (t0 b).lst=fa at *;generalize CW l (t0 b)=t at *;unfold HN HG at q la w;clear wa hE hS ka ca p oa z ga ja ho hB hk ia;cases b with
 |false=>
  have e0:t0 false= .nil:=rfl;rw[e0,Gy]at i;rw[e0]at ba;have ba:UK [.slice true [] [],.slice nl [] (opsD l)]=some (.slice fa [] pp):=ba
  repeat' (first|(refine aA (Ah YL) ?_)|simp (maxSteps:=4000000) (disch:=first|assumption|omega)only[GU,↓GQ,GS,simprocAttr,GY,Ab k,h4,Ab m,s,Ab j,aa,Ab h,h7,Ab c,h9,Ab e,i,Ab g,ba,Ab f,q,Ab a,la,Ab n,ha,Ab o,d,Ab u,w,c3,nS,Rg,NL,Bf,Hi,pO,Qi,and_self,and_false,decide_true,decide_false,Qr,Qp,ne_eq])
 |true=>
  have e0:t0 true=firstE:=rfl;rw[e0]at i ba;rw[Us]at ba;have ba:UK [.slice false [] (BI Sm),.slice nl [] (opsD l)]=some (.slice fa [] pp):=ba
  repeat' (first|(refine aA (Ah YL) ?_)|simp (maxSteps:=4000000) (disch:=first|assumption|omega)only[GU,↓GQ,GS,simprocAttr,GY,Ab k,h4,Ab m,s,Ab j,aa,Ab h,h7,Ab c,h9,Ab e,i,Ab g,ba,Ab f,q,Ab a,la,Ab n,ha,Ab o,d,Ab u,w,c3,nS,Rg,NL,Bf,Hi,pO,Qi,and_self,and_false,decide_true,decide_false,Qr,Qp,ne_eq])
def restores_law{w:World}{r t v2:Value}(y:∃(nl:Bool)(l:List Op1),Rep w (startG (allG w)) (.slice nl [] (opsD l)) r)(u:∃s:Bs,Rep w (startG (allG w)) (.str s) t)(q:∃b:Bool,v2= .bool b):
  Calls QC 3 #[r,t,v2] w λe w'=>e= .returned (.bool true)∧Below w.heap.size w w':=by
 obtain⟨nl,l,c⟩:=y;obtain⟨s,g⟩:=u;obtain⟨b,rfl⟩:=q;have k:sR [.slice nl [] (opsD l),.str s,.bool b]=some (.bool true):=by
  by_cases c1:Fm l=true
  ·exact SZ nl l s b (.inl c1)
  by_cases c2:40<s.length
  ·exact SZ nl l s b (.inr c2)
  ·exact mY nl l s b (by simpa using c1) O
 refine aBm aRY (G:=allG w) (λb i=>SN w b i) (ds:=[.slice nl [] (opsD l),.str s,.bool b]) (vs:=[r,t,.bool b]) rfl (λj d x z f=>?_) rfl rfl k
 match j with
 |0=>simp only[Qm,QN]at z f;subst z f;exact c
 |1=>simp only[Qk,Qm,QN]at z f;subst z f;exact g
 |2=>simp only[Qk,Qm,QN]at z f;subst z f;exact .bool _
 |j+3=>simp at z
def Fit.struct{P:Program}{n:Nat}{t:TypeId}{ds:List D}{u:Array Field}(a:P.underlying t=some (.struct u))(h:Fit P (n+1) t ds):aLo (Fit P n) (u.toList.map (·.type)) ds:=by unfold Fit at h;rw[a]at h;exact h
def fit_ops{ds:List D}(h:Fit QC 8 22 ds):∃nl l,ds=[.slice nl [] (opsD l)]:=by
 obtain⟨nl,xs,rfl,v,p⟩:=Fit.slice (n:=7) underlying22 h;obtain⟨l,rfl⟩:=all_map (f:=opD) (xs:=xs) (λx c=>by
  obtain⟨cs,rfl,o⟩:=p x c;rw[show VH QC 57=true by kernel_rfl];have o:=Fit.struct underlying57 o;obtain⟨a,b,rfl,g,t,b2,rfl,d,j,u,rfl,y,rfl⟩:=o;obtain⟨k,rfl,_⟩:=Fit.int underlying5 g;obtain⟨s,rfl⟩:=Fit.str underlying9 d;obtain⟨w,rfl⟩:=Fit.str underlying9 y;exact⟨(k,s,w),rfl⟩)
 exact⟨nl,l,rfl⟩
end Go.Vd
end
