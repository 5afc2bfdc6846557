/- A part of the proof; nothing in it is assumed. -/
import Derived.Test.YtpiplnfjodahpaaGreatDoorMErrorsP2
import Derived.Shelf.Strings.BuilderRune

set_option linter.unusedSimpArgs false
set_option linter.unusedVariables false
set_option linter.defProp false
set_option maxHeartbeats 4000000
set_option maxRecDepth 100000
open Nat renaming le_of_ble_eq_true→Qa,reduceEqDiff→Qb,reduceAdd→Qd,succ_ne_zero→Qf,zero_ne_one→Qn,zero_add→Qp,reduceLT→Qr,reduceLeDiff→Qt,zero_le→Qu,le_refl→QB,reduceSub→QE,sub_zero→QM,add_zero→Za,lt_of_not_le→Zk,sub_self→Zu,not_lt_zero→ZB,mul_add→ZJ
open List.cons renaming injEq→Qc
open Go.Proofs.Tryz renaming prog→Qe
open List renaming length_cons→Qg,getElem?_eq_getElem→Qi,length_nil→Qm,getElem?_cons_zero→Qo,length_append→Qq,getElem?_cons_succ→Qw,length_map→Qy,map_cons→QD,take_succ_eq_append_getElem→QF,take_of_length_le→QG,append_assoc→QH,append_nil→QI,drop_eq_getElem_cons→QJ,mem_map→QL,mem_cons→QO,take_zero→QP,getElem?_eq_some_iff→QQ,map_map→QR,take_succ_cons→QS,all_eq_true→QT,mem_nil_iff→QV,length_eq_zero_iff→QW,getElem_mem→QX,map_append→Q_,cons_append→Q0,drop_length→Q1,map_nil→Q2,map_congr_left→Q3,mem_singleton→Q4,findIdx?_eq_some_iff_getElem→Q6,all_cons→Q7,append_inj→Q8,drop_succ_cons→Q9,all_nil→Zb,drop_zero→Zc,map_inj_right→Zd,getElem?_append_right→Ze,take_add_one→Zg,take_length→Zi,isEmpty_nil→Zj,nil_append→Zl,mem_append→Zm,mem_append_right→Zn,mem_append_left→Zo,getElem_of_mem→Zp,mem_cons_self→Zs,any_map→Zt,getElem?_map→Zv,map→Zw,getD→Zx,length_take→Zy,not_mem_nil→Zz,nil_suffix→ZC,range→ZD,any_cons→ZE,length→ZI
open Int renaming toNat_natCast→Qh,toNat_of_nonneg→Qx,lt_irrefl→Qz,cast_ofNat_Int→Zr,le_refl→ZA,reduceNe→ZG
open Option renaming bind_some→Qj,isSome_some→Qk,map_some→Qv,map_eq_some_iff→QZ,bind_eq_some_iff→Q5
open Option.some renaming injEq→Ql
open Bool renaming false_eq_true→Qs,false_and→QA,false_ne_true→QK,and_false→QN,and_eq_true→QY,and_self→Zh,true_and→Zq,false_or→ZF,true_or→ZH
open Prod.mk renaming injEq→QC
open Prod renaming ext→QU
open Array renaming size_append→Zf
open Go.Proofs.Tryz
noncomputable section
namespace Go.Vd
open Go.Proofs Go.RowKit
def aAc{S:Gq}{fr i:Id}{n:Nat}{m0:Gu}{Q:Ex->St->Prop}(a:S 192=some (Ac vP))(c:n<=1000){zs:List Mt}
  (j:∀y,Nw i m0 y.m zs->Q (.exit 0) y):
  ∀(f k:Nat)(xs:List Mt) y g,xs.length=n->k+f=n->CU fY m0t f k xs=zs->y.s 0= .row i n->y.s 1= .int .i64 0->y.s 2= .int .i64 (n:Int)->y.s 3= .fn 192 []->y.s 8= .int .i64 (k:Int)->Nw i m0 y.m xs->
   A5 S fr Ow Q y g:=by
 intro f;induction f with
 |zero=>
  intro k xs y g hl o d q u z v w I;refine Af Ow.eq_1 ?_;have:¬((k:Int)<n):=O
  simp only[↓C2,Gy,GI,simprocAttr,z,w,this];exact j _ (by rw[←d];exact I)
 |succ f ih=>
  intro k xs y g hl o d q u z v w I;refine Af Ow.eq_1 ?_;have r:((k:Int)<n):=O
  have b:IntKind.i64.wrap ((k:Int)+1)=((k+1:Nat):Int):=GS O O;simp only[↓C2,Gy,GI,simprocAttr,z,w,r];refine aAd (i8:=k) (m0:=m0) a c k xs _ _ hl O q u z v w rfl I (λx g0 p e t g8 I'=>?_);simp only[↓C2,Gy,simprocAttr,g8,b];exact ih (k+1) _ _ _ (by rw[PA];exact hl) O d g0 p e t rfl I'
def MS(m:Gu)(i:Id):Nat->Nat->Option (List Mt)
 |0,_=>some []
 |f+1,j=>match m i (j*3),m i (j*3+1),m i (j*3+2),MS m i f (j+1)with
  |some (.str p),some (.int .i64 q),some (.bool b),some l=>some ((p,q,b)::l)
  |_,_,_,_=>none
def Si{m:Gu}{i:Id}:∀{f j:Nat} {xs:List Mt},MS m i f j=some xs->xs.length=f∧∀k,k<f->m i ((j+k)*3)=some (.str (xs.getD k m0t).1)∧m i ((j+k)*3+1)=some (.int .i64 (xs.getD k m0t).2.1)∧m i ((j+k)*3+2)=some (.bool (xs.getD k m0t).2.2)
 |0,j,xs,h=>by
  simp only[MS,Ql]at h;subst h;exact⟨rfl,λk g=>absurd g (ZB _)⟩
 |f+1,j,xs,h=>by
  unfold MS at h;split at h
  ·rename_i p q b l w y n a;simp only[Ql]at h;subst h;obtain⟨t,e⟩:=Si a;refine⟨by simp[t],λk g=>?_⟩;cases k with
   |zero=>exact⟨w,y,n⟩
   |succ k=>
    have:=e k O;rw[show j+1+k=j+(k+1)by omega]at this;exact this
  ·cases h
def VP{m m':Gu}{i:Id}:∀{f j n:Nat},j+f<=n->(∀o,o<n*3->m i o=m' i o)->MS m i f j=MS m' i f j
 |0,j,n,_,_=>rfl
 |f+1,j,n,hn,h=>by
  unfold MS;rw[h (j*3) O,h (j*3+1) O,h (j*3+2) O,VP (f:=f) (j:=j+1) O h]
def aFw{m:Gu}{i:Id}{xs:List Mt}(h:∀j d,(flat (AA xs))[j]?=some d->m i j=some d):MS m i xs.length 0=some xs:=by
 have u:∀(ys v:List Mt),v++ys=xs->MS m i ys.length v.length=some ys:=by
  intro ys;induction ys with
  |nil=>intro v _;rfl
  |cons y r ih=>
   intro v t;have f:∀x∈AA xs,x.cells.length=3:=λx q=>YL
   have k:v.length<(AA xs).length:=by rw[AV,←t];simp
   have p:(AA xs)[v.length]=MI y:=by simp[AA,←t]
   have b:=h _ _ ((D_ f k (j:=0) O).trans (by rw[p];rfl));have w:=h _ _ ((D_ f k (j:=1) O).trans (by rw[p];rfl));have a:=h _ _ ((D_ f k (j:=2) O).trans (by rw[p];rfl));have:=ih (v++[y]) (by rw[←t];simp);rw[Qq]at this;rw[Za]at b;have this:MS m i r.length (v.length+1)=some r:=this;simp only[Qg,MS,b,w,a,this]
 exact u xs [] rfl
def Sa(m:Gu)(i:Id)(n:Nat):Option (D×GA):=if n<=12∧1<=n then(MS m i n 0).map λxs=>(.tup [],[(i,0,flat (AA (CU fY m0t (n-1) 1 xs)))])else none
def Ez(v:List D->Option (Id×Nat)):G_ where
 rd:=λds _=>match v ds with
  |some (i,n)=>(ZD (n*3)).map λo=>(i,o)
  |none=>[]
 ex:=λds m _=>match v ds with
  |some (i,n)=>Sa m i n
  |none=>none
def MP(v:List D->Option (Id×Nat)):∀ds m m' fr,(∀l∈(Ez v).rd ds m,m l.1 l.2=m' l.1 l.2)->(Ez v).ex ds m fr=(Ez v).ex ds m' fr:=by
 intro ds m m' fr h;simp only[Ez]at h ⊢;cases hs:v ds with
 |none=>rfl
 |some p=>
  obtain⟨i,n⟩:=p;simp only[hs]at h ⊢;unfold Sa;split
  ·rw[VP (m:=m) (m':=m') (n:=n) O λo b=>h (i,o) (QL.2 ⟨o,XU,rfl⟩)]
  ·rfl
def Le{v:List D->Option (Id×Nat)}{ds:List D}{m:Gu}{fr:Id}{r:D}{u:GA}(h:(Ez v).ex ds m fr=some (r,u)):
  ∃i n xs,v ds=some (i,n)∧n<=12∧1<=n∧MS m i n 0=some xs∧xs.length=n∧Nw i m m xs∧r= .tup []∧u=[(i,0,flat (AA (CU fY m0t (n-1) 1 xs)))]:=by
 simp only[Ez]at h;cases hs:v ds with
 |none=>rw[hs]at h;cases h
 |some p=>
  obtain⟨i,n⟩:=p;simp only[hs]at h;unfold Sa at h;split at h
  ·rename_i y;rw[QZ]at h;obtain⟨xs,q,h⟩:=h;simp only[QC]at h;obtain⟨rfl,rfl⟩:=h;obtain⟨s,e⟩:=Si q;exact⟨i,n,xs,rfl,y.1,y.2,q,s,⟨λj t=>by have:=e j O;rwa [Qp]at this,λ_ _ _=>rfl⟩,rfl,rfl⟩
  ·cases h
def Nw.fin{i:Id}{m0 m:Gu}{xs:List Mt}(h:Nw i m0 m xs):∀v o x,(m0.put i 0 (flat (AA xs))) v o=some x->m v o=some x:=by
 intro v o x q;have d:∀x∈AA xs,x.cells.length=3:=λx q=>YL
 have j:=B6 d;rw[AV]at j;rw[Ah]at q;split at q
 ·rename_i y;obtain⟨rfl,_,b⟩:=y;rw[QM]at q;have g:o / 3<xs.length:=by omega
  have r:o / 3<(AA xs).length:=by rw[AV];exact g
  have p:(AA xs)[o / 3]=MI (xs.getD (o / 3) m0t):=by simp[AA,Qi g]
  obtain⟨c,a1,s⟩:=h.row (o / 3) g;have t:o % 3<3:=Nat.mod_lt _ O;have e:o / 3*3+o % 3=o:=O
  have:=D_ d r t;rw[e,q,p]at this;have h3:o % 3=0∨o % 3=1∨o % 3=2:=O
  rcases h3 with h3|h3|h3
  ·rw[h3]at this e;rw[Za]at e;rw[←e,c,this];rfl
  ·rw[h3]at this e;rw[←e,a1,this];rfl
  ·rw[h3]at this e;rw[←e,s,this];rfl
 ·rename_i y;rw[←q];refine h.out v o ?_;by_cases e:v=i
  ·simp_all
  ·exact .inl e
def lB:List D->Option (Id×Nat)
 |[.row i n,.int .i64 0,.int .i64 k,.fn 192 []]=>if k=(n:Int)then some (i,n)else none
 |_=>none
def aRG:(Ez lB).ok Qe 296:=by
 obtain⟨S,s,hl⟩:=Bd (Aa aSg Ad);have a:=hl 192 _ rfl;clear hl;refine MX s (Aj func296:Fn Qe 296 53 aKN []) (MP _) (λds m fr r u z w=>?_);obtain⟨i,n,xs,j,c,ta,t,hl,I,rfl,rfl⟩:=Le z;unfold lB at j;split at j
 ·split at j
  ·rename_i g;simp only[Ql,QC]at j;obtain⟨rfl,rfl⟩:=j;subst g;refine⟨U,?_⟩;rename_i i n;have v:IntKind.i64.wrap ((0:Int)+1)=((1:Nat):Int):=rfl;unfold aKN;simp only[↓C2,Gy,simprocAttr,v];refine aAc (m0:=m) (zs:=CU fY m0t (n-1) 1 xs) a O (λx p=>?_) (n-1) 1 xs _ _ hl O rfl rfl rfl rfl rfl rfl I;simp only[↓C2,Gy,GI,reduceIte];exact p.fin
  ·cases j
 ·cases j
def lC:List D->Option (Id×Nat)
 |[.row i n,.int .i64 0,.int .i64 k,.int .i64 _,.fn 192 []]=>if k=(n:Int)then some (i,n)else none
 |_=>none
def aRW:(Ez lC).ok Qe 251:=by
 obtain⟨S,s,hl⟩:=Bd (Aa aRG Ad);have a:=hl 296 _ rfl;clear hl;refine MX s (Aj func251:Fn Qe 251 148 aLu []) (MP _) (λds m fr r u z w=>?_);obtain⟨i,n,xs,j,c,ta,t,hl,I,rfl,rfl⟩:=Le z;unfold lC at j;split at j
 ·split at j
  ·rename_i g;simp only[Ql,QC]at j;obtain⟨rfl,rfl⟩:=j;subst g;refine⟨U,?_⟩;rename_i i n _;have v:IntKind.i64.wrap ((n:Int)-0)=(n:Int):=by rw[GS O O];omega
   have e:((n:Int)<=12):=O
   have p:∀fr,(Ez lB).ex ([.row i n,.int .i64 0,.int .i64 (n:Int),.fn 192 []]++[]) m fr=some (.tup [],[(i,0,flat (AA (CU fY m0t (n-1) 1 xs)))]):=by
    grind [Ez,lB,Sa]
   unfold aLu;simp only[↓C2,Gy,Qd];refine Af nC.eq_1 ?_;simp only[↓C2,Gy,GI,simprocAttr,v,e];rw[AD a];refine aI (p _) ?_;simp only[↓C2,Gy,GI];exact λ_ _ _ h=>h
  ·cases j
 ·cases j
def aVe:List D->Option D:=Nf (λ_=>none) 25 aKM [.t 2] 60
def aRF:Kq aVe 305:=Nd A2 (Aj func305:Fn Qe 305 25 aKM [.t 2]) 60
def aH0:List D->Option D:=Nf (Ap [(305,Ac aVe)]) 8 aLt [.t 2] 60
def aRV:Kq aH0 252:=Nd (Aa aRF Ad) (Aj func252:Fn Qe 252 8 aLt [.t 2]) 60
def isI:Option D->Bool
 |some (.int .i64 _)=>true
 |_=>false
def aDl:(ZD 13).all (λn=>isI (aH0 [.int .u64 (n:Nat)]))=true:=Z
def aDk{n:Nat}(h:n<=12):∃k,aH0 [.int .u64 (n:Nat)]=some (.int .i64 k):=by
 have:=QT.1 aDl n Xb;generalize aH0 [.int .u64 (n:Nat)]=r at this;unfold isI at this;split at this
 ·exact⟨_,rfl⟩
 ·cases this
def lD:List D->Option (Id×Nat)
 |[.row i n,.fn 192 []]=>some (i,n)
 |_=>none
def aSh:(Ez lD).ok Qe 191:=by
 obtain⟨S,s,hl⟩:=Bd (Aa aRV (Aa aRW Ad));have a:=hl 252 _ rfl;have b:=hl 251 _ rfl;clear hl;refine MX s (Aj func191:Fn Qe 191 14 aMh []) (MP _) (λds m fr r u z w=>?_);obtain⟨i,n,xs,j,c,ta,t,hl,I,rfl,rfl⟩:=Le z;unfold lD at j;split at j
 ·simp only[Ql,QC]at j;obtain⟨rfl,rfl⟩:=j;refine⟨U,?_⟩;rename_i i n;have v:IntKind.u64.wrap ((n:Nat):Int)=((n:Nat):Int):=by simp only[IntKind.wrap,IntKind.signed,IntKind.bits,QA,Qs,if_false];omega
  obtain⟨k,g⟩:=aDk c;have p:∀fr,(Ez lC).ex ([.row i n,.int .i64 0,.int .i64 (n:Int),.int .i64 k,.fn 192 []]++[]) m fr=some (.tup [],[(i,0,flat (AA (CU fY m0t (n-1) 1 xs)))]):=by
   grind [Ez,lC,Sa]
  unfold aMh;simp only[↓C2,Gt,simprocAttr,v,Ab a,g];rw[AD b];refine aI (p _) ?_;simp only[↓C2,Gy,GI];exact λ_ _ _ h=>h
 ·cases j
def aA8:Fn Qe 190 36 (FS 9 68 3 32 250) [.t 2]:=aJ8
def aNJ:(H1 λds=>(Tc 3 ds).bind λys=>if(flat ys).all D.plain=true then some ys else none).ok Qe 190:=aGU aA8 O aJm
def FC:List D->Option (List D):=λds=>(Tc 3 ds).bind λys=>if(flat ys).all D.plain=true then some ys else none
def fR(l:List Mt):(flat (AA l)).all D.plain=true:=by
 induction l with
 |nil=>rfl
 |cons m r ih=>simp only[AA,QD,flat,MI,D.cells,List.all_append,Q7,Zb,D.plain,Zh,Zq];exact ih
def We(a b:List Mt):AA (a++b)=AA a++AA b:=Q_
theorem lW(l:List Mt):(AA l).all (eA 3)=true:=X3
def aVk{l:List Mt}{m:Mt}{nl:Bool}(hl:l.length<=1000):FC [.slice false [] [.slice nl [] (AA l),.slice false [] [MI m]]]=some (AA (l++[m])):=by
 have y:EM [.slice nl [] (AA l),.slice false [] [MI m]]=some (AA (l++[m])):=by
  simp only[EM,Qv,QI,We];rfl
 have v:(AA (l++[m])).length=l.length+1:=by rw[AV,Qq];rfl
 simp only[FC,Tc,y];rw[if_pos ⟨U,O,O,lW _⟩,Qj,if_pos (fR _)]
def HA(l:List Mt)(m:Mt):Option (List Mt)×Int:=
 if Eb m.1 m.2.1≠0 then(none,Eb m.1 m.2.1)else if 0<=B0 l m.1 then(none,20)else if L1 m.1 (l.map (·.1))=true then(none,15)else if 4<=l.length then(none,24)
 else(some (CU fY m0t l.length 1 (l++[m])),0)
def aNj(nl:Bool)(l:List Mt)(o:Option (List Mt)):D:=match o with
 |none=> .agg [.slice nl [] (AA l)]
 |some q=> .agg [.slice false [] (AA q)]
open Classical in
def F45:List D->Option D
 |[.agg [.slice nl _ xs],.agg [.str p,.int .i64 q,.bool b]]=>if lV nl xs∧xs.length<=1000∧p.length<=1000000 then some (.tup [aNj nl (Da xs) (HA (Da xs) (p,q,b)).1,.int .i64 (HA (Da xs) (p,q,b)).2])else none
 |_=>none
open Classical in
def aEo{nl:Bool}{t:Id}{l:List Mt}{m:Mt}(hl:l.length<=1000)(c:nl=true->l=[])(y:m.1.length<=1000000):F45 [.agg [.slice nl t (AA l)],MI m]=some (.tup [aNj nl l (HA l m).1,.int .i64 (HA l m).2]):=by
 have h:lV nl (AA l)∧(AA l).length<=1000∧m.1.length<=1000000:=⟨zL O c,by rw[AV];exact hl,y⟩;show(if _ then _ else _)=_;rw[if_pos h,By]
def xQ{i:Id}{n:Nat}:(D.row i n).data=true:=rfl
def qI{i:Id}{n:Nat}:(D.row i n).cells=[.row i n]:=rfl
def fS(nl:Bool)(l:List Mt)(o:Option (List Mt))(e:Int):(D.tup [aNj nl l o,.int .i64 e]).calmR=true:=by
 cases o<;>rfl
def aVQ:Kq F45 129:=by
 obtain⟨S,hS,hl⟩:=Bd (Aa aSl (Aa zC (Aa aSk (Aa aSj (Aa aNJ (Aa aSh Ad))))));have g:=hl 186 _ rfl;have c:=hl 187 _ rfl;have n:=hl 188 _ rfl;have k:=hl 189 _ rfl;have u:=hl 190 _ rfl;have v:=hl 191 _ rfl;clear hl;refine mJ hS (Aj func129:Fn Qe 129 44 aUf [.cell (some 1) 4,.t 5]) (λds r h=>?_) (λds r h=>?_)
 ·unfold F45 at h;split at h
  ·simp
  ·cases h
 ·unfold F45 at h;split at h
  ·rename_i nl t xs p q b;split at h
   ·rename_i hc;obtain⟨hc,ba,hp⟩:=hc;obtain⟨l,rfl,hl,hn,e⟩:=qS hc;rw[e]at h;rw[AV]at ba;simp only[Ql]at h;subst h;refine⟨fS ..,?_⟩;have f:aI5 [.agg [.str p,.int .i64 q,.bool b]]=some (.int .i64 (Eb p q)):=if_pos hp;have z:=OS (nl:=nl) (t:=[]) (p:=p) hl;have i:=aI2 (nl:=nl) (t:=t) hl;have a:=aI4 (s:=p) (nl:=false) (t:=[]) (l:=l.map (·.1)) Xj;have ja:∀mm fr,(H1 FC).ex [D.slice false [30] [D.slice nl [] (AA l),D.slice false [] [D.agg [D.str p,D.int IntKind.i64 q,D.bool b]]]] mm fr=some (.row fr (l.length+1),[(fr,0,flat (AA (l++[(p,q,b)])))]):=by
     intro mm fr;have h1:FC ([D.slice false [30] [D.slice nl [] (AA l),D.slice false [] [D.agg [D.str p,D.int IntKind.i64 q,D.bool b]]]].map D.un)=some (AA (l++[(p,q,b)])):=aVk (m:=(p,q,b)) ba;simp only[H1,h1];refine(if_pos rfl).trans ?_;rw[Qv,AV,Qq];rfl
    have o:l.length<4->∀mm fr,(∀(j:Nat) d,(flat (AA (l++[(p,q,b)])))[j]?=some d->mm [31] j=some d)->(Ez lD).ex [.row [31] (l.length+1),.fn 192 []] mm fr=some (.tup [],[([31],0,flat (AA (CU fY m0t l.length 1 (l++[(p,q,b)]))))]):=by
     intro w mm fr hm;have hr:=aFw hm;rw[Qq]at hr;simp only[Ez,lD,Sa];rw[if_pos ⟨O,O⟩,show l.length+1=l.length+[(p,q,b)].length from rfl,hr];rfl
    unfold aUf HA;simp only;generalize Eb p q=e1 at *;generalize B0 l p=e2 at *;generalize L1 p (l.map (·.1))=e3 at *;by_cases he:e1=0
    ·subst he;by_cases fa:0<=e2
     ·simp only[↓C2,GJ,simprocAttr,Ab g,f,Ab c,z,ne_eq,Ah,Au,Av,Qj,Qk,Qc,Qn,and_false,Qf,AT,A4,fa];exact .inr ⟨_,_,rfl,rfl,.inl (.inl rfl),.inl (.inl rfl),trivial⟩
     ·cases e3 with
      |true=>
       simp only[↓C2,GJ,simprocAttr,Ab g,f,Ab c,z,Ab n,a,AD k,TB,i,ne_eq,Ah,Au,Av,Qj,Qc,Qn,and_false,Qf,fa];refine AS ?_;simp only[↓C2,Gt,simprocAttr,Ah,Au,Av,Qu,QM,Qg,Qm,Qp,Qo,and_self,Qj,Qk,Qc,Qn,Qf,AT,A4,fa];exact .inr ⟨_,_,rfl,rfl,.inl (.inl rfl),.inl (.inl rfl),trivial⟩
      |false=>
       by_cases h4:4<=l.length
       ·have ia:(4:Int)<=(l.length:Int):=by omega
        simp only[↓C2,GJ,simprocAttr,Ab g,f,Ab c,z,Ab n,a,AD k,TB,i,ne_eq,Ah,Au,Av,Qj,Qc,Qn,and_false,Qf,fa];refine AS ?_;simp only[↓C2,Gt,simprocAttr,AV,Ah,Au,Av,Qu,QM,Qg,Qm,Qp,Qo,and_self,Qj,Qk,Qc,Qn,Qf,AT,A4,fa,ia,h4];exact .inr ⟨_,_,rfl,rfl,.inl (.inl rfl),.inl (.inl rfl),trivial⟩
       ·have ia:¬(4:Int)<=(l.length:Int):=by omega
        simp only[↓C2,GJ,simprocAttr,Ab g,f,Ab c,z,Ab n,a,AD k,TB,i,ne_eq,Ah,Au,Av,Qj,Qc,Qn,and_false,Qf,fa];refine AS ?_;simp only[↓C2,GJ,simprocAttr,AD u,AV,Ah,Au,Av,Qj,Qc,Qn,and_false,Qf,ia];refine aI (ja _ _) ?_;simp only[↓C2,Gt,simprocAttr,AD v];refine aI (o O _ _ (λj d hd=>?_)) ?_
        ·grind [Ah]
        simp only[↓C2,Gt,simprocAttr,xQ,qI,B7,E4,Ah,Au,Av,Qu,QM,Qg,Qm,Qp,Qo,and_self,Qj,QP,Qk,Zc,Q9,Qc,false_and,Qf,AT,A4,fa,h4];refine .inr ⟨_,_,rfl,rfl,.inr ⟨_,_,rfl,rfl,.inr (.inl ⟨[31],_,3,?_,rfl,?_,?_⟩),trivial⟩,.inl (.inl rfl),trivial⟩
        ·grind [AV,isortR_len]
        ·intro x hx;obtain⟨y,_,rfl⟩:=QL.1 hx;exact⟨rfl,rfl⟩
        ·grind [aA,Ah]
    ·simp only[↓C2,GJ,simprocAttr,Ab g,f,ne_eq,Ah,Au,Av,Qj,Qk,Qc,Qn,and_false,Qf,AT,A4,he];exact .inr ⟨_,_,rfl,rfl,.inl (.inl rfl),.inl (.inl rfl),trivial⟩
   ·cases h
  ·cases h
def Oz:=y1 f23 2 [] []
def aK7:=y0 f23 [] [(2,Oz)]
def aBz:=y0 f266 [] []
def aF7{S:Gq}{l:List Mt}{p:Bs}{nl:Bool}{t:Id}{Q:Ex->St->Prop}(o:l.length<=1000000)(d:S 54=some (Ac vH))
  (pa:∀y (m:Mt),Ch l p≠-1->m=Cu l (Ch l p).toNat->y.s 4= .ptr [1] 0->y.s 5= .int .i64 0->y.m [1] 0=some (.str m.1)->y.m [1] 1=some (.int .i64 m.2.1)->y.m [1] 2=some (.bool m.2.2)->Q .ret y)
  (w:∀y a b c,Ch l p=-1->y.s 4= .ptr [1] 0->y.m [1] 0=some a->y.m [1] 1=some b->y.m [1] 2=some c->Q (.exit 0) y):
  ∀(f j:Nat) y g a b c,l.length=j+f->(∀i,i<j->(l.map λm=>Ci p m.1)[i]?=some false)->2<=y.c->y.s 1= .str p->y.s 4= .ptr [1] 0->y.s 9= .slice nl t (AA l)->y.s 10= .int .i64 (l.length:Int)->y.s 11= .int .i64 (j:Int)->
   y.m [1] 0=some a->y.m [1] 1=some b->y.m [1] 2=some c->A5 S [] Oz Q y g:=by
 intro f;induction f with
 |zero=>
  intro j y g a b c hf z hc u h4 h9 la ma na qa ra;refine Af Oz.eq_1 ?_;have r:¬((j:Int)<l.length):=O
  simp only[↓C2,Gy,GI,reduceIte,Qd,la,ma,r];exact w _ a b c (WX (by rw[Qy];intro i hi;exact z i O)) h4 na qa ra
 |succ f ih=>
  intro j y g a b c hf z hc u h4 h9 la ma na qa ra;refine Af Oz.eq_1 ?_;have q:j<l.length:=O
  have r:((j:Int)<l.length):=O
  have oa:=nJ (j:=j);have hw:=wJ (j:=j) O;have ja:(AA l)[j]?=some (.agg [.str (Cu l j).1,.int .i64 (Cu l j).2.1,.bool (Cu l j).2.2]):=Ok q;have h:(l.map λm=>Ci p m.1)[j]?=some (Ci p (Cu l j).1):=by simp[Cu,Qi q]
  have x:([y.c+1+2]=([1]:Id))=False:=eq_false U;have v:(([1]:Id)=[y.c+1+2])=False:=eq_false U;obtain⟨m,k⟩:∃m,Cu l j=m:=⟨_,rfl⟩;rw[k]at ja h;have e:vH [.str p,.str m.1]=some (.bool (Ci p m.1)):=rfl;obtain⟨ka,fa,da⟩:=y;simp only at u h4 h9 la ma na qa ra x v hc;cases hq:Ci p m.1 with
  |true=>
   rw[hq]at h e;have n:Ch l p=(j:Int):=WW h z;simp only[↓C2,GJ,simprocAttr,u,h4,h9,la,ma,r,oa,Qh,ja,v,na,qa,ra,Ab d,e,QB,Ah,Au,Av,Qj,QS,QP,Qk];refine pa _ m (by rw[n];omega) (by rw[n];exact k.symm) h4 rfl ?_ ?_ ?_<;>simp only[GI,simprocAttr,v,na,qa,ra,QB,Ah,Qu,QM,Qg,Qm,Qp,Qo,Qw,and_self]
  |false=>
   rw[hq]at h e;simp only[↓C2,GJ,simprocAttr,u,h9,la,ma,r,oa,hw,Qh,ja,Ab d,e,QB,Ah,Au,Av,Qj,QS,QP,Qk];refine ih (j+1) _ _ a b c O (λi hi=>?_) Xa u h4 h9 la rfl ?_ ?_ ?_
   ·grind
   all_goals simp only[He,GI,simprocAttr,v,na,qa,ra,QB,Ah,Qu,QM,Qg,Qm,Qp,Qo,Qw,and_self]
def Lg(l:List Mt)(p:Bs):D:=if Ch l p=-1 then .tup [MI m0t,.int .i64 14]else .tup [MI (Cu l (Ch l p).toNat),.int .i64 0]
open Classical in
def aEw:List D->Option D
 |[.agg [.slice _ _ xs],.str p]=>if xs=AA (Da xs)∧xs.length<=1000000 then some (Lg (Da xs) p)else none
 |_=>none
open Classical in
def pG{nl:Bool}{t:Id}{l:List Mt}{p:Bs}(hl:l.length<=1000000):aEw [.agg [.slice nl t (AA l)],.str p]=some (Lg l p):=by
 have h:AA l=AA (Da (AA l))∧(AA l).length<=1000000:=XS
 show(if _ then _ else _)=_;rw[if_pos h,By]
def yZ:Kq aEw 23:=by
 obtain⟨S,j,hl⟩:=Bd (Aa aJi Ad);have d:=hl 54 _ rfl;clear hl;refine AK (S:=S) j (Aj func23:Fn Qe 23 22 aK7 [.cell (some 3) 4,.t 5]) (λds r h=>?_) (λds r h=>?_)
 ·unfold aEw at h;split at h
  ·simp
  ·cases h
 ·unfold aEw at h;split at h
  ·rename_i nl t xs p;split at h
   ·rename_i k;obtain⟨q,hl⟩:=k;simp only[Ql]at h;subst h;generalize Da xs=l at q;subst q;rw[AV]at hl;unfold aK7;simp only[↓C2,Gt,simprocAttr,AV,Ah,Qu,QM,Qg,Qm,Qp,Qo,and_self,Qc,Qn];refine aF7 (l:=l) (p:=p) (nl:=nl) (t:=t) hl d (λy m f u o s m0 x e=>?_) (λy a b c f o m0 x e=>?_) l.length 0 _ _ (.str []) (.int .i64 0) (.bool false) O U Xa rfl rfl rfl rfl rfl ?_ ?_ ?_
    ·unfold Lg;rw[if_neg f,←u];simp only[↓C2,Gt,Qd,o,s,m0,x,e,Au,Av,Qp,Qj,AT,A4];exact⟨rfl,rfl⟩
    ·unfold Lg;rw[if_pos f];simp only[↓C2,GJ,simprocAttr,o,m0,x,e,B7,Ah,Au,Av,Qj,Qk,AT,A4];exact⟨rfl,rfl⟩
    all_goals simp only[He,GI,simprocAttr,Ah,Qu,QM,Qg,Qm,Qp,Qo,Qw,and_self,Qc,and_false,Qf]
   ·cases h
  ·cases h
open Classical in
def aEB:List D->Option D
 |[.agg [.bool se,.int .i64 te,.str key,.slice nlm tm xs,.slice nlt tt ys],.str p]=>if xs=AA (Da xs)∧xs.length<=1000000 then some (.bool (decide (Ch (Da xs) p≠-1)))else none
 |_=>none
def aR4:Kq aEB 266:=by
 obtain⟨S,j,hl⟩:=Bd (Aa yZ Ad);have b:=hl 23 _ rfl;clear hl;refine AK (S:=S) j (Aj func266:Fn Qe 266 16 aBz [.t 4]) (λds r h=>?_) (λds r h=>?_)
 ·unfold aEB at h;split at h
  ·simp
  ·cases h
 ·unfold aEB at h;split at h
  ·rename_i k x z c w xs d u ys p;split at h
   ·rename_i y;obtain⟨q,hl⟩:=y;simp only[Ql]at h;subst h;generalize Da xs=l at q;subst q;rw[AV]at hl;have a:=pG (nl:=c) (t:=[]) (p:=p) hl;unfold Lg at a;by_cases i:Ch l p=-1
    ·rw[if_pos i]at a;simp only[i,ne_eq,not_true_eq_false,decide_false];unfold aBz;simp only[↓C2,GJ,simprocAttr,Ab b,a,MI,Ah,Au,Av,Qj,Qk,Qc,Qf]
     all_goals rfl
    ·rw[if_neg i]at a;simp only[i,ne_eq,not_false_eq_true,decide_true];unfold aBz;simp only[↓C2,GJ,simprocAttr,Ab b,a,MI,Ah,Au,Av,Qj,Qk,Qc,Qf]
     all_goals rfl
   ·cases h
  ·cases h
def gK(l:List Mt)(p:Bs):Nat->Nat
 |0=>0
 |j+1=>if Op.bytesLess (Cu l j).1 p=true then j+1 else gK l p j
def aAE(l:List Mt)(p:Bs):∀j,gK l p j<=j
 |0=>QB _
 |j+1=>by
  unfold gK;split
  ·exact QB _
  ·exact Nat.le_succ_of_le (aAE l p j)
def aCV(l:List Mt)(m:Mt):Option (List Mt)×Int:=
 if Eb m.1 m.2.1≠0 then(none,Eb m.1 m.2.1)else if 0<=B0 l m.1 then(none,20)else if L1 m.1 (l.map (·.1))=true then(none,15)else if 4<=l.length then(none,24)
 else(some (l.take (gK l m.1 l.length)++m::l.drop (gK l m.1 l.length)),0)
def aK2:=y0 f97 [] []
def aK1:=y0 Tryz.f169 [] []
def aKZ:=y0 f171 [] []
def nB:=y1 f309 4 [] []
def aKY:=y0 f309 [] [(4,nB)]
def aKs:=y0 f331 [] []
def Hj:=y1 f330 3 [] []
def aKt:=y0 f330 [] [(3,Hj)]
def nA:=y0 f132 [] []
def aJ4:Fn Qe 132 8 nA [.t 4]:=Aj func132
def Mb:=y1 f197 4 [] []
def mX:=y0 f197 [] [(4,Mb)]
def aJ0:Fn Qe 197 26 mX [.t 4]:=Aj func197
def Ou:=y1 f14 3 [] []
def aKJ:=y0 f14 [] [(3,Ou)]
def Oq:=y1 f332 3 [] []
def aKr:=y0 f332 [] [(3,Oq)]
def OA:=y1 f136 6 [(8,[(7,3)])] []
def aLk:=y0 f136 [] [(6,OA)]
structure Ak where
 op:Int
 tk:Bs
 pa:Bs
 ot:Bs
 n:Int
 cas:Int
 fl:Bool
 nln:Bool
 ns:List Int
 da:Bs
 nlr:Bool
 rs:List Rl
 key:Bs
def AF(l:List Int):List D:=l.map (.int .i64)
def Es(l:List Int):(AF l).length=l.length:=Qy ..
def IN:∀{a b:List Int},AF a=AF b->a=b
 |[],[],_=>rfl
 |[],_::_,h=>by simp[AF]at h
 |_::_,[],h=>by simp[AF]at h
 |x::a,y::b,h=>by
  simp only[AF,QD,Qc,D.int.injEq,true_and]at h;rw[h.1,IN (a:=a) (b:=b) h.2]
def aAQ(l:List Int):(AF l).all (mS none)=true:=X3
def VT{a b:List Rl}(h:Ar a=Ar b):a=b:=by rw[←AY a,h,AY]
theorem Wd{a b:List Mt}(h:AA a=AA b):a=b:=by rw[←By a,h,By]
theorem Vy{a b:List Tk}(h:AG a=AG b):a=b:=by rw[←Bx a,h,Bx]
def GO(a:Ak):List D:=[.int .u8 a.op,.str a.tk,.str a.pa,.str a.ot,.int .i64 a.n,.int .i64 a.cas,.bool a.fl,.slice a.nln [] (AF a.ns),.str a.da,.slice a.nlr [] (Ar a.rs),.str a.key]
def GT(a:Ak):D:= .agg (GO a)
theorem Fe{a b:Ak}(h:GT a=GT b):a=b:=by
 cases a;cases b;simp only[GT,GO,D.agg.injEq,Qc,D.int.injEq,D.str.injEq,D.bool.injEq,D.slice.injEq,true_and,and_true]at h;obtain⟨u,z,i,o,m,t,j,⟨w,n⟩,e,⟨k,g⟩,x⟩:=h;have p:=IN n;have c:=VT g;subst u z i o m t j w e k x p c;rfl
def CQ(b:Bool):Int:=if b=true then 0 else 4
def aQv:List D->Option D:=FX (λb:Bool=>[.bool b]) (λ_=>True) (λb=> .int .i64 (CQ b))
def G8(b:Bool):aQv [.bool b]=some (.int .i64 (CQ b)):=BO (mk:=λb:Bool=>[.bool b]) (λa b h=>Xn) trivial
def aJk:Kq aQv 97:=by
 refine CI (S:=λ_=>none) A2 (Aj func97:Fn Qe 97 4 aK2 [.t 2]) (λ_=>U) (λb _=>?_);unfold aK2;cases b<;>simp only[↓C2,Gt,reduceIte,Qb,Qd]
 all_goals exact YU
def aVo:List D->Option D:=FX (λs:Bs=>[.str s]) (λs=>s.length<=1000000) (λs=> .bool (BI s))
def pF{s:Bs}(h:s.length<=1000000):aVo [.str s]=some (.bool (BI s)):=BO (mk:=λs:Bs=>[.str s]) (λa b h=>Xn) h
def aRP:Kq aVo 169:=by
 obtain⟨S,j,hl⟩:=Bd (Aa aFR Ad);have a:=hl 53 _ rfl;clear hl;refine CI j (Aj func169:Fn Qe 169 7 aK1 [.t 2]) (λ_=>U) (λs g=>?_);have z:F98 [.agg [.int .u8 3,.str s,.int .i64 0]]=some (.int .i64 (BX 3 s 0)):=if_pos g;have i:BX 3 s 0=if BI s=true then 0 else 2:=by simp[BX]
 rw[i]at z;unfold aK1;cases hn:BI s<;>rw[hn]at z<;>simp only[if_true,Qs,if_false]at z
 ·simp only[↓C2,Gt,reduceIte,Qb,Qd,Ab a,z,B7,E4,Qt,Qg,Qm,Qp,and_self,QS,QP,Zc,Q9]
  all_goals exact YU
 ·simp only[↓C2,Gt,reduceIte,Qb,Qd,Ab a,z,B7,E4,Qt,Qg,Qm,Qp,and_self,QS,QP,Zc,Q9]
  all_goals exact YU
def countB(l:List Int):Bool:=decide (l.length<=6)&&!(l.any λx=>!decide (1<=x∧x<=999))
def aVn:List D->Option D:=FX (λp:Bool×List Int=>[.slice p.1 [] (AF p.2)]) (λp=>p.2.length<=1000000) (λp=> .bool (countB p.2))
def aIC{nl:Bool}{l:List Int}(h:l.length<=1000000):aVn [.slice nl [] (AF l)]=some (.bool (countB l)):=
 BO (mk:=λp:Bool×List Int=>[.slice p.1 [] (AF p.2)]) (a:=(nl,l)) (λa b h=>by
  simp only[Qc,D.slice.injEq,true_and,and_true]at h;exact QU h.1 (IN h.2)) h
def aCt{l:List Int}{nl:Bool}{t:Id}(hl:l.length<=1000000)(m:Gu)(fr:Id):
  (eC 241 none vB).ex [.slice nl t (AF l),.fn 241 []] m fr=some (.bool (l.any λx=>!decide (1<=x∧x<=999)),[]):=by
 have e:(AF l).map (vB .junk)=(l.map λx=>!decide (1<=x∧x<=999)).map λb=>some (.bool b):=by
  simp only[AF,QR];exact Q3 λr _=>rfl
 simp only[eC,Es,hl,aAQ,and_self,if_true,Fp,Qj,e,C5,Qv,Zt];rfl
def aRO:Kq aVn 171:=by
 obtain⟨S,j,hl⟩:=Bd (Aa aUu Ad);have d:=hl 240 _ rfl;clear hl;refine CI j (Aj func171:Fn Qe 171 11 aKZ [.t 2]) (λ_=>U) (λp g=>?_);obtain⟨nl,l⟩:=p;have a:=aCt (nl:=nl) (t:=[]) g;unfold aKZ countB;simp only;generalize (l.any λx=>!decide (1<=x∧x<=999))=b at a;by_cases e:l.length<=6
 ·have c:((l.length:Int)<=6):=by omega
  simp only[↓C2,Gt,reduceIte,Qb,Qd,AD d,a,e,c,Es]
  all_goals exact YU
 ·have c:¬((l.length:Int)<=6):=by omega
  simp only[↓C2,Gt,reduceIte,Qb,Qd,e,c,Es,QA,and_self]
  all_goals exact YU
def aIB:List D->Option D:=FX (λp:Bool×List D×Bool=>[.slice p.1 [] p.2.1,.slice p.2.2 [] []]) (λp=>p.2.1.length<=1000000) (λp=> .bool p.2.1.isEmpty)
def U6{nl nl':Bool}{l:List D}(h:l.length<=1000000):aIB [.slice nl [] l,.slice nl' [] []]=some (.bool l.isEmpty):=
 BO (mk:=λp:Bool×List D×Bool=>[.slice p.1 [] p.2.1,.slice p.2.2 [] []]) (a:=(nl,l,nl')) (λa b h=>by
  simp only[Qc,D.slice.injEq,true_and,and_true]at h;exact QU h.1.1 (QU h.1.2 h.2)) h
def aRN:Kq aIB 309:=by
 refine CI (S:=λ_=>none) A2 (Aj func309:Fn Qe 309 26 aKY [.t 4]) (λ_=>U) (λp g=>?_);obtain⟨nl,l,nl'⟩:=p;unfold aKY;cases l with
 |nil=>
  simp only[↓C2,Gy,GI,reduceIte,Qb,Qd,Qm];have b:((0:Int)<((0:Nat):Int))=False:=U
  refine Af nB.eq_1 ?_;simp only[↓C2,Gt,reduceIte,Qb,Qd,b]
  all_goals exact YU
 |cons x r=>
  have j:(((r.length+1:Nat):Int)=((0:Nat):Int))=False:=eq_false O;simp only[↓C2,Gt,reduceIte,Qb,Qd,Qg,Qm,j]
  all_goals exact YU
def aRA:Kq aIB 197:=by
 refine CI (S:=λ_=>none) A2 aJ0 (λ_=>U) (λp g=>?_);obtain⟨nl,l,nl'⟩:=p;unfold mX;cases l with
 |nil=>
  simp only[↓C2,Gy,GI,reduceIte,Qb,Qd,Qm];have b:((0:Int)<((0:Nat):Int))=False:=U
  refine Af Mb.eq_1 ?_;simp only[↓C2,Gt,reduceIte,Qb,Qd,b]
  all_goals exact YU
 |cons x r=>
  have j:(((r.length+1:Nat):Int)=((0:Nat):Int))=False:=eq_false O;simp only[↓C2,Gt,reduceIte,Qb,Qd,Qg,Qm,j]
  all_goals exact YU
structure LG (c0:Nat) (m0:Gu) (e:Nat) (m:Gu) (c:Nat) (nl:Bool) (t:Id):Prop where
 low:∀q o,q<c0->m [q] o=m0 [q] o
 tok:nl=true∨∃j,t=[j]∧c0<=j∧j<c∧m t 0=some (.tok (e+1))
 le:c0<=c
section
variable{c0 e c c' c2 o:Nat}{m0 m:Gu}{nl:Bool}{t:Id}{ds xs:List D}
def LG.start(h:c0<=c):LG c0 m0 e m0 c true t:=⟨λ_ _ _=>rfl,.inl rfl,h⟩
def LG.put(h:LG c0 m0 e m c nl t)(y:c<=c':=by omega):LG c0 m0 e (m.put [c'] o ds) c nl t:=by
 obtain⟨u,z,i⟩:=h;refine⟨λq o' j=>?_,?_,i⟩
 ·grind [aA]
 ·grind [aA]
def LG.more(h:LG c0 m0 e m c nl t)(y:c<=c'):LG c0 m0 e m c' nl t:=by
 obtain⟨u,h2,i⟩:=h;refine⟨u,?_,O⟩;rcases h2 with h2|⟨j,a,b,v,d⟩
 ·exact .inl h2
 ·grind
def LG.grow(h:LG c0 m0 e m c nl t):Iw m e (.slice nl t xs):=by
 rcases h.tok with h|⟨j,rfl,_,_,d⟩
 ·exact .inl h
 ·exact .inr ⟨d,U⟩
def LG.app(h:LG c0 m0 e m c nl t)(y:c<=c')(z:c'<c2):LG c0 m0 e (GA.app m (A6 e [c'] (.slice nl t xs))) c2 false [c']:=by
 obtain⟨u,k,i⟩:=h;refine⟨λq o j=>?_,.inr ⟨c',rfl,O,z,?_⟩,O⟩
 ·grind [CP]
 ·rw[CP,if_pos ⟨rfl,rfl⟩]
def LG.appf(h:LG c0 m0 e m c false t)(y:c<=c')(z:c'<c2):LG c0 m0 e ((m.put t 0 [.tok 0]).put [c'] 0 [.tok (e+1)]) c2 false [c']:=LG.app (xs:=[]) h y z
def LG.nil(h:LG c0 m0 e m c nl t):LG c0 m0 e (GA.app m []) c nl t:=h
def LG.rd(h:LG c0 m0 e m c nl t){q p n:Nat}(j:q<c0):Ag m [q] p n=Ag m0 [q] p n:=by
 have:∀n p,Ag m [q] p n=Ag m0 [q] p n:=by
  intro n;induction n with
  |zero=>intro p;rfl
  |succ n ih=>intro p;simp only[Ag,h.low q p j,ih]
 exact this n p
end
def IF(l:List Rw):aF (A1 l) 3=3:=XH
def GX(l:List Int):(AF l).length=l.length:=Qy ..
def aCy{m:Gu}{caps:List D}{k:IntKind}{n:Int}(h:Fp m caps=some (.int k n)):∃i,caps=[.ptr i 0]∧m i 0=some (.int k n):=by
 unfold Fp at h;split at h
 ·simp at h
 ·simp_all
 ·cases h
def vC:D->D->Option D
 | .int .i64 n,.agg [.int .i64 a,.bool _,.bool _]=>some (.bool (decide (a=n)))
 |_,_=>none
def aO6:(Im vC).ok Qe 314:=by
 refine Np (S:=λ_=>none) A2 (Aj func314:Fn Qe 314 8 aKy [.t 3]) (λx caps m fr c d e z n hl=>⟨O,?_⟩);unfold vC at z;split at z
 ·simp only[Ql]at z;subst z;obtain⟨i,rfl,w⟩:=aCy e;have hi:i≠0::fr:=by rintro rfl;have:=n 0 (0::fr) 0 (List.suffix_refl _);rw[w]at this;cases this
  unfold aKy;simp only[↓C2,Gt,Gp,simprocAttr,w,hi];intro i o y h;split
  ·grind
  ·exact h
 ·cases z
def aTU:Fn Qe 313 19 (dcI 3 (some 3)) [.t 4]:=⟨f313,_,func313,rfl,Z,rfl,Z,Z⟩
def aOM:(Fl 314 (some 3) vC).ok Qe 313:=Nb O aTU rfl aO6
def TN(l:List Rw)(n:Int):Int:=A9 (l.map λr=>decide (r.1=n))
def rF{l:List Rw}{nl:Bool}{t:Id}(hl:l.length<=1000000){n:Int}(m:Gu)(fr i:Id)(w:m i 0=some (.int .i64 n)):
  (Fl 314 (some 3) vC).ex [.slice nl t (A1 l),.fn 314 [.ptr i 0]] m fr=some (.int .i64 (TN l n),[]):=by
 have e:(A1 l).map (vC (.int .i64 n))=(l.map λr=>decide (r.1=n)).map λb=>some (.bool b):=by
  simp only[A1,QR];exact Q3 λr _=>rfl
 have d:(A1 l).all (mS (some 3))=true:=by
  rw[QT];intro x q;obtain⟨r,_,rfl⟩:=QL.1 q;rfl
 simp only[Fl,AN,hl,d,and_self,if_true,Fp,w,Qj,e,C5,Qv];rfl
def FR(s:Sc)(n:Int):Int:=if n=0 then(s.rs.length:Int)-1 else TN s.rs n
def aUU:=Ap [(313,Fl 314 (some 3) vC)]
def aQc:=RF aUU aLd [.t 4] 15
def aTr:Kq aQc 274:=An (Aj func274) (Aa aOM Ad)
def aHS(s:Sc)(n:Int)(hl:s.rs.length<=1000):aQc [.agg (GB s),.int .i64 n]=some (.int .i64 (FR s n)):=by
 refine Am (Qa rfl) ?_;unfold aLd;have c:IntKind.i64.wrap ((s.rs.length:Int)-1)=(s.rs.length:Int)-1:=GS O O;unfold FR GB;by_cases c1:n=0
 ·simp only[↓C2,Gt,Gp,simprocAttr,c1,c,AN]
  all_goals exact YT
 ·simp only[↓C2,Gt,Gp,simprocAttr,c1,AC aUU 313,rF (n:=n) (show s.rs.length<=1000000 by omega)]
  all_goals exact YT
def rw0:Rw:=(0,false,false)
def Hp(s:Sc)(n:Int):Rw×Int:=if DA s 6=true then(rw0,2)else if FR s n<0 then(rw0,6)else
 if((s.rs.getD (FR s n).toNat rw0).2.1||(s.rs.getD (FR s n).toNat rw0).2.2)=true then(s.rs.getD (FR s n).toNat rw0,21)else(s.rs.getD (FR s n).toNat rw0,0)
def Sn(l:List Rw)(n:Int):TN l n<l.length:=by
 unfold TN A9;split
 ·rename_i k h;rw[Q6]at h;obtain⟨g,_⟩:=h;rw[Qy]at g;omega
 ·omega
def aBb(s:Sc)(n:Int):FR s n<s.rs.length:=by
 unfold FR;split
 ·omega
 ·exact Sn _ _
def U_:=Ap [(25,Ac IZ),(273,Ac Ra),(274,Ac aQc)]
def Nx:=RF U_ aL0 [.cell (some 3) 4,.t 5] 32
def aTK:Kq Nx 219:=An (Aj func219) (Aa Pv (Aa aJD (Aa aTr Ad)))
def aIe(s:Sc)(n:Int)(hl:s.rs.length<=1000):Nx [.agg (GB s),.int .i64 n]=some (.tup [rwD (Hp s n).1,.int .i64 (Hp s n).2]):=by
 refine Am (Qa rfl) ?_;unfold aL0;have z:=Gl s 6 false hl;have q:=oH;have b:=aHS s n hl;have r:=aBb s n;unfold Hp;unfold Ts at z;unfold GB at z b ⊢;generalize FR s n=i at b r;cases hb:DA s 6 with
 |true=>
  rw[hb]at z;simp only[if_true]at z;simp only[↓C2,Gt,Gp,simprocAttr,Ae U_ 25,z,Ae U_ 273,q];refine AS ?_;simp only[↓C2,Gt,Gp,simprocAttr]
  all_goals exact YT
 |false=>
  rw[hb]at z;simp only[if_false,Qs]at z;simp only[↓C2,Gt,Gp,simprocAttr,Ae U_ 25,z,Ae U_ 273,q];refine AS ?_;by_cases c1:i<0
  ·simp only[↓C2,Gt,Gp,simprocAttr,Ae U_ 274,b,c1]
   all_goals exact YT
  ·have w:0<=i:=by omega
   have t:i.toNat<s.rs.length:=O
   have f:=EZ t;have p:s.rs.getD i.toNat rw0=s.rs[i.toNat]:=by simp[Zx,Qi t]
   rw[p];generalize s.rs[i.toNat]=x at f;obtain⟨a,g,d⟩:=x;simp only at f;cases g with
   |true=>
    simp only[↓C2,Gt,Gp,simprocAttr,Ae U_ 274,b,c1,w,f]
    all_goals exact YT
   |false=>
    cases d with
    |true=>
     simp only[↓C2,Gt,Gp,simprocAttr,Ae U_ 274,b,c1,w,f]
     all_goals exact YT
    |false=>
     simp only[↓C2,Gt,Gp,simprocAttr,Ae U_ 274,b,c1,w,f]
     all_goals exact YT
def IU(s:Sc)(q:Int)(b:Bool)(cas v:Int):Int:=if DA s q=true∨cas< -1∨v<0 then 2 else if 96<v then 18 else if cas=-1∧(s.cas=true∨b=true)then 17 else if cas≠-1∧cas≠s.la then 16 else if s.la=30 then 19 else 0
def N5:=Ap [(25,Ac IZ)]
def aPZ:=RF N5 aKx [.t 8] 49
def aS7:Kq aPZ 315:=An (Aj func315) (Aa Pv Ad)
def aHu(s:Sc)(q:Int)(b:Bool)(cas v:Int)(hl:s.rs.length<=1000):aPZ [.agg (GB s),.agg [.int .i64 q,.bool b],.int .i64 cas,.int .i64 v]=some (.int .i64 (IU s q b cas v)):=by
 refine Am (Qa rfl) ?_;unfold aKx;have z:=Gl s q b hl;unfold IU;unfold Ts at z;unfold GB at z ⊢;generalize DA s q=w at z;cases w with
 |true=>
  simp only[if_true]at z;simp only[↓C2,Gt,Gp,simprocAttr,Ae N5 25,z,ne_eq]
  all_goals exact YT
 |false=>
  simp only[if_false,Qs]at z;by_cases c1:cas< -1
  ·simp only[↓C2,Gt,Gp,simprocAttr,Ae N5 25,z,ne_eq,c1]
   all_goals exact YT
  by_cases u:v<0
  ·simp only[↓C2,Gt,Gp,simprocAttr,Ae N5 25,z,ne_eq,c1,u]
   all_goals exact YT
  by_cases t:96<v
  ·simp only[↓C2,Gt,Gp,simprocAttr,Ae N5 25,z,ne_eq,c1,u,t]
   all_goals exact YT
  by_cases n:cas=-1
  ·have g:(cas=-1)=True:=eq_true n;cases h1:s.cas with
   |true=>
    rw[h1]at z;simp only[↓C2,Gt,Gp,simprocAttr,Ae N5 25,z,ne_eq,c1,u,t,g]
    all_goals exact YT
   |false=>
    rw[h1]at z;cases b with
    |true=>
     simp only[↓C2,Gt,Gp,simprocAttr,Ae N5 25,z,ne_eq,c1,u,t,g]
     all_goals exact YT
    |false=>
     by_cases k:s.la=30
     ·have e:(s.la=30)=True:=eq_true k;simp only[↓C2,Gt,Gp,simprocAttr,Ae N5 25,z,ne_eq,c1,u,t,g,e]
      all_goals exact YT
     ·have e:(s.la=30)=False:=eq_false k;simp only[↓C2,Gt,Gp,simprocAttr,Ae N5 25,z,ne_eq,c1,u,t,g,e]
      all_goals exact YT
  ·have g:(cas=-1)=False:=eq_false n;by_cases d:cas=s.la
   ·have i:(cas=s.la)=True:=eq_true d;by_cases k:s.la=30
    ·have e:(s.la=30)=True:=eq_true k;simp only[↓C2,Gt,Gp,simprocAttr,Ae N5 25,z,ne_eq,c1,u,t,g,i,e]
     all_goals exact YT
    ·have e:(s.la=30)=False:=eq_false k;simp only[↓C2,Gt,Gp,simprocAttr,Ae N5 25,z,ne_eq,c1,u,t,g,i,e]
     all_goals exact YT
   ·have i:(cas=s.la)=False:=eq_false d;simp only[↓C2,Gt,Gp,simprocAttr,Ae N5 25,z,ne_eq,c1,u,t,g,i]
    all_goals exact YT
def aWF:=Ap []
def aPY:=RF aWF bT [.t 2] 8
def aS6:Kq aPY 316:=An aA7 Ad
def aHt{nl:Bool}{l:List Rw}(hl:l.length<=100000)(c:nl=true->l=[]):aPY [.slice nl [] (A1 l)]=some (.slice nl [] (A1 l)):=by
 refine Am (Qa rfl) ?_;unfold bT;cases nl with
 |true=>
  rw[c rfl];simp only[↓C2,Gy,He,Gp,simprocAttr]
  all_goals exact YT
 |false=>
  simp only[↓C2,Gy,GI,Gp,simprocAttr];refine aB ⟨XF,IF l,.inr ⟨rfl,U⟩⟩ ?_;simp only[↓C2,Gt,Gp,simprocAttr]
def CY(s:Sc)(q:Int):Nat:=s.rs.length-(B_ s q).toNat
def PK(s:Sc)(q:Int):Sc:={s with rs:=s.rs.drop (CY s q)}
def Nh(s:Sc)(q:Int):List Int:=(s.rs.take (CY s q)).map (·.1)
def aPy:=Ap [(59,Ac aHG),(316,Ac aPY)]
def aHR:=RF aPy aK8 [.cell (some 4) 4,.t 5] 41
def aJB:Kq aHR 278:=An (Aj func278) (Aa aJz (Aa aS6 Ad))
def oF(s:Sc)(q:Int)(b:Bool)(hl:s.rs.length<=1000)(hk:0<=B_ s q∧B_ s q<=1000)(pa:s.nl=true->s.rs=[]):aHR [.agg (GB s),.agg [.int .i64 q,.bool b]]=some (.tup [.agg (GB (PK s q)),.slice (decide (CY s q=0)) [] (AF (Nh s q))]):=by
 refine Am (Qa rfl) ?_;unfold aK8;have d:=oE s q b;have a:=aHt (nl:=s.nl) (l:=s.rs.drop (CY s q)) XQ (λh=>by rw[pa h,List.drop_nil]);have hw:IntKind.i64.wrap ((s.rs.length:Int)-B_ s q)=(s.rs.length:Int)-B_ s q:=GS O O;have hm:max 0 ((s.rs.length:Int)-B_ s q)=(CY s q:Int):=by unfold CY;omega
 have hn:CY s q<=s.rs.length:=by unfold CY;omega
 have ia:(0:Int)<=(CY s q:Int)∧(CY s q:Int)<=((s.rs.length:Nat):Int):=⟨O,O⟩;have na:(A1 s.rs).take (CY s q)=A1 (s.rs.take (CY s q)):=List.map_take.symm;have wa:(A1 s.rs).drop (CY s q)=A1 (s.rs.drop (CY s q)):=List.map_drop.symm;have p:PK s q={s with rs:=s.rs.drop (CY s q)}:=rfl;unfold Nh;rw[p];unfold GB at d ⊢;generalize CY s q=n at *;generalize B_ s q=kp at *;clear p;simp only[↓C2,Gt,Gp,simprocAttr,Ae aPy 59,d,AN,hw,hm];refine AS ?_;simp only[↓C2,Gt,Gp,simprocAttr,AN,IF,ia,Qh,na,QM,Zy,Nat.min_eq_left hn];refine Bf (n:=n) (I:=λj y=>y.s 21= .slice s.nl [] (A1 (s.rs.take n))∧y.s 22= .int .i64 (n:Int)∧y.s 23= .int .i64 (j:Int)∧y.s 2= .ptr [0] 0∧y.s 4= .ptr [2] 0∧y.s 6= .int .i64 (n:Int)∧∃nl t,y.s 7= .slice nl t (AF (((s.rs.take n).take j).map (·.1)))∧nl=decide (j=0)∧LG 4 _ 3 y.m y.c nl t) (λj hj ih y g hI=>?_) (λy g hI=>?_) 0 (Qu _) _ _ ⟨(by show D.slice _ _ (List.take n (List.drop 0 (A1 s.rs)))=_;rw[Zc,na]),rfl,rfl,rfl,rfl,rfl,true,[],rfl,rfl,LG.start Xa⟩
 ·obtain⟨ka,fa,da⟩:=y;obtain⟨i,e,o,z,h4,h6,nl,t,h7,f,hG⟩:=hI;simp only at i e o z h4 h6 h7 hG;refine Af Uz.eq_1 ?_;have ea:((j:Int)<n):=by omega
  have oa:=nJ (j:=j);have hw:=wJ (j:=j) O;have ba:(s.rs.take n).length=n:=XE
  generalize s.rs.take n=l at *;have ja:=EZ (l:=l) (j:=j) O;have na:AF ((l.take (j+1)).map (·.1))=AF ((l.take j).map (·.1))++[.int .i64 (l[j]' O).1]:=by
   rw[QF O,Q_];simp[AF]
  have ra:(AF ((l.take j).map (·.1))).length=j:=by simp[AF];omega
  have ma:nl=true->AF ((l.take j).map (·.1))=[]:=by
   grind
  generalize AF ((l.take j).map (·.1))=w at h7 na ra ma;generalize l[j]' O=x at ja na;simp only[↓C2,Gt,Gp,simprocAttr,i,e,o,h7,ea,oa,Qh,ja];refine aB ⟨O,rfl,Yr⟩ ?_;rw[BM ma,←na];simp only[↓C2,Gy,simprocAttr,o,hw];exact ih _ _ ⟨i,e,rfl,z,h4,h6,false,_,rfl,U,YR⟩
 ·obtain⟨ka,fa,da⟩:=y;obtain⟨i,e,o,z,h4,h6,nl,t,h7,f,hG⟩:=hI;simp only at i e o z h4 h6 h7 hG;refine Af Uz.eq_1 ?_;have m0:∀k,fa [0] k=_:=λk=>hG.low 0 k O
  have m2:∀k,fa [2] k=_:=λk=>hG.low 2 k O
  have r:(A1 s.rs).take s.rs.length=A1 s.rs:=QG XF;have u:(A1 (s.rs.drop n)).take (s.rs.length-n)=A1 (s.rs.drop n):=QG (by rw[AN,List.length_drop];omega);have v:(s.rs.take n).take n=s.rs.take n:=QG XE;rw[v]at h7;simp only[↓C2,Gt,Gp,simprocAttr,e,o,z,h4,h6,h7,Qz,m0,m2,AN,IF,ia,Qh,u,wa,Ae aPy 316,a];subst f
  all_goals exact YT
def clQ:G_ where
 rd:=λ_ _=>[]
 ex:=λds _ fr=>match ds with
  |[.slice nl _ xs]=>if xs.length<=100000∧(nl=true->xs=[])∧aF xs 3=3 then(if nl=true then some (.slice true [] [],[])else some (.slice false (5::fr) xs,[(5::fr,0,[.tok 81])]))else none
  |_=>none
theorem cA{nl:Bool}{t:Id}{xs:List D}{m:Gu}{fr:Id}(u:xs.length<=100000)(z:nl=true->xs=[])(i:aF xs 3=3)(S:Gq){R:D->Gu->Prop}(x:if nl=true then R (.slice true [] []) m else R (.slice false (5::fr) xs) (((m.put (3::fr) 0 [.tok 81]).put (3::fr) 0 [.tok 0]).put (5::fr) 0 [.tok 81])):bT.wp S fr (DM [.t 2] R) ⟨Bv [.slice nl t xs],m,0⟩:=by
 unfold bT;cases nl with
 |true=>
  simp only[↓C2,Gy,Gp,reduceIte,Qb,Qd,reduceCtorEq];simpa using x
 |false=>
  simp only[↓C2,Gy,GI,Gp,reduceIte,Qb,Qd,reduceCtorEq];refine aB ⟨O,i,.inr ⟨Bk ..▸by simp,U⟩⟩ ?_;simp only[↓C2,Gy,GI,Gp,reduceIte,Qb,Qd];simp only[Qs,if_false]at x;exact x
def aNL:clQ.ok Qe 316:=by
 refine IK (S:=λ_=>none) A2 aA7 (λds m m' fr _=>rfl) (λds m fr r u z n=>?_);simp only[clQ]at z;split at z
 ·rename_i nl t xs;split at z
  ·rename_i y;obtain⟨q,v,h3⟩:=y;refine⟨U,cA q v h3 _ ?_⟩;cases nl with
   |true=>
    simp only[if_true,Ql,QC]at z ⊢;obtain⟨rfl,rfl⟩:=z;exact⟨rfl,λ_ _ _ h=>h⟩
   |false=>
    simp only[Qs,if_false,Ql,QC]at z ⊢;obtain⟨rfl,rfl⟩:=z;refine⟨rfl,λi o x h=>?_⟩;have j:(m.put (5::fr) 0 [.tok 81]) i o=some x:=h;rw[Bk]at j ⊢;split at j
    ·simp_all
    ·grind [Bk]
  ·cases z
 ·cases z
def aPa{nl:Bool}{t:Id}{l:List Rw}{m:Gu}{fr:Id}(u:l.length<=1000)(z:nl=true->l=[]):clQ.ex [.slice nl t (A1 l)] m fr=if nl=true then some (.slice true [] [],[])else some (.slice false (5::fr) (A1 l),[(5::fr,0,[.tok 81])]):=
 if_pos ⟨XF,λh=>by rw[z h];rfl,IF l⟩
def My{s:Sc}{q:Int}(h:DA s q=false):(1<=q∧q<=6)∧(0<=s.mx∧s.mx<=6)∧(0<=s.la∧s.la<=30)∧(s.rs.length:Int)<=B_ s q∧HP s.rs 0=true∧Pc s.rs=s.la:=by
 simpa[DA]using h
def yG{s:Sc}{q:Int}{b:Bool}{cas v:Int}(h:IU s q b cas v=0):DA s q=false:=by
 grind [IU,DA]
def WG{s:Sc}{q:Int}(u:1<=q∧q<=6)(z:0<=s.mx∧s.mx<=6):0<=B_ s q∧B_ s q<=1000:=by
 grind [B_]
def DW(s:Sc):Sc:={s with la:=s.la+1,nl:=false,rs:=s.rs++[(s.la+1,false,false)]}
def Cj(s:Sc)(q:Int)(b:Bool)(cas v:Int):Sc×Int×List Int×Int:=if IU s q b cas v≠0 then(s,0,[],IU s q b cas v)else(PK (DW s) q,s.la+1,Nh (DW s) q,0)
def W6{s:Sc}{q:Int}:(Nh s q=[])=(CY s q=0):=by
 simp_all [Nh,CY]
def dB:=Ap [(315,Ac aPZ),(278,Ac aHR),(316,clQ)]
def aQb:=RF dB aLc [.cell (some 4) 8,.t 9,.t 10,.t 11] 47
def aTq:Kq aQb 275:=An (Aj func275) (Aa aS7 (Aa aJB (Aa aNL Ad)))
def oG(s:Sc)(q:Int)(b:Bool)(cas v:Int)(hl:s.rs.length<=900)(n:s.nl=true->s.rs=[]):aQb [.agg (GB s),.agg [.int .i64 q,.bool b],.int .i64 cas,.int .i64 v]=some (.tup [.agg (GB (Cj s q b cas v).1),.int .i64 (Cj s q b cas v).2.1,.slice (decide ((Cj s q b cas v).2.2.1=[])) [] (AF (Cj s q b cas v).2.2.1),.int .i64 (Cj s q b cas v).2.2.2]):=by
 refine Am (Qa rfl) ?_;unfold aLc;have c:=aHu s q b cas v O;have a:=λ(m:Gu)(fr:Id)=>aPa (nl:=s.nl) (t:=[]) (l:=s.rs) (m:=m) (fr:=fr) O n
 unfold Cj;by_cases w:IU s q b cas v=0
 ·obtain⟨i,u,b3,_⟩:=My (yG w);have o:B_ (DW s) q=B_ s q:=rfl;have d:=oF (DW s) q b (by simp[DW];omega) (by rw[o];exact WG i u) (by simp[DW]);have z:IntKind.i64.wrap (s.la+1)=s.la+1:=GS O O;have j:(PK (DW s) q).la=s.la+1:=rfl;have f:=W6 (s:=DW s) (q:=q);rw[w]at c;rw[w];simp only[ne_eq,not_true_eq_false,if_false,f];generalize decide (CY (DW s) q=0)=k at d ⊢;generalize Nh (DW s) q=y at *;generalize PK (DW s) q=p at *;have r:A1 (s.rs++[(s.la+1,false,false)])=A1 s.rs++[.agg [.int .i64 (s.la+1),.bool false,.bool false]]:=by simp[A1,rwD]
  unfold DW GB at d;simp only[r]at d;unfold GB at c ⊢;rw[j]at d;clear o;have x:(A1 s.rs).length=s.rs.length:=AN _;cases hn:s.nl with
  |true=>
   rw[hn]at c a;rw[n hn]at c d a x ⊢;simp only[if_true]at a;have e0:A1 []=[]:=rfl;rw[e0]at c d a x ⊢;rw[Zl]at d;simp only[↓C2,Gt,Gp,reduceIte,Qb,Qd,Qr,Qt,QE,reduceCtorEq,Ae dB 315,c,AC dB 316,a,z];refine aB ⟨U,rfl,.inl rfl⟩ ?_;simp only[↓C2,Gt,Gp,reduceIte,Qb,Qd,Qr,Qt,QE,reduceCtorEq];refine AS ?_;simp only[↓C2,Gt,Gp,reduceIte,Qb,Qd,Qr,Qt,QE,reduceCtorEq,Ae dB 278,d];refine AS ?_;simp only[↓C2,Gt,Gp,reduceIte,Qb,Qd,Qr,Qt,QE,j]
   all_goals exact YT
  |false=>
   rw[hn]at c a;simp only[if_false,Qs]at a;simp only[↓C2,Gt,Gp,reduceIte,Qb,Qd,Qr,Qt,QE,reduceCtorEq,Ae dB 315,c,AC dB 316,a,z];refine aB ⟨by simp only[x];omega,rfl,.inr ⟨XP,U⟩⟩ ?_;simp only[↓C2,Gt,Gp,reduceIte,Qb,Qd,Qr,Qt,QE,reduceCtorEq];refine AS ?_;simp only[↓C2,Gt,Gp,reduceIte,Qb,Qd,Qr,Qt,QE,reduceCtorEq,Ae dB 278,d];refine AS ?_;simp only[↓C2,Gt,Gp,reduceIte,Qb,Qd,Qr,Qt,QE,reduceCtorEq,j]
   all_goals exact YT
 ·have g:(IU s q b cas v=0)=False:=eq_false w;unfold GB at c ⊢;simp only[ne_eq,g,not_false_eq_true,if_true];generalize IU s q b cas v=e at *;simp only[↓C2,Gt,Gp,reduceIte,Qb,Qd,Qr,reduceCtorEq,Ae dB 315,c,g]
  all_goals exact YT
def DB(s:Sc)(q:Int)(v:Int)(cas:Bool):Sc×List Int×Int:=if DA s q=true∨¬(0<=v∧v<=6)then(s,[],2)else(PK {s with mx:=v,cas:=cas} q,Nh {s with mx:=v,cas:=cas} q,0)
def jV:=Ap [(58,Ac dU),(25,Ac IZ),(278,Ac aHR)]
def aId:=RF jV aLY [.cell (some 4) 8,.t 9,.t 10] 35
def aTJ:Kq aId 222:=An (Aj func222) (Aa zA (Aa Pv (Aa aJB Ad)))
def aIc(s:Sc)(q:Int)(b:Bool)(v:Int)(cas:Bool)(hl:s.rs.length<=1000)(o:s.nl=true->s.rs=[]):aId [.agg (GB s),.agg [.int .i64 q,.bool b],.int .i64 v,.bool cas]=some (.tup [.agg (GB (DB s q v cas).1),.slice (decide ((DB s q v cas).2.1=[])) [] (AF (DB s q v cas).2.1),.int .i64 (DB s q v cas).2.2]):=by
 refine Am (Qa rfl) ?_;unfold aLY;have z:=Gl s q b hl;have c:∀x a b:Int,dU [.int .i64 x,.int .i64 a,.int .i64 b]=some (.bool (decide (a<=x∧x<=b))):=λ_ _ _=>rfl
 unfold DB;unfold Ts at z;cases hb:DA s q with
 |true=>
  rw[hb]at z;simp only[if_true]at z;unfold GB at z ⊢;simp only[↓C2,Gt,Gp,reduceIte,Qb,Qd,Qr,reduceCtorEq,Int.reduceEq,Ae jV 25,z,true_or,if_true]
  all_goals exact YT
 |false=>
  rw[hb]at z;simp only[if_false,Qs]at z;by_cases c1:0<=v∧v<=6
  ·obtain⟨i,u,t,_⟩:=My hb;have d:=oF {s with mx:=v,cas:=cas} q b hl (WG i c1) o;have f:=W6 (s:={s with mx:=v,cas:=cas}) (q:=q);simp only[c1,and_self,not_true_eq_false,or_self,if_false,Qs,f];generalize decide (CY {s with mx:=v,cas:=cas} q=0)=e at d ⊢;generalize Nh {s with mx:=v,cas:=cas} q=y at *;generalize PK {s with mx:=v,cas:=cas} q=p at *;unfold GB at z d ⊢;simp only[↓C2,Gt,Gp,reduceIte,Qb,Qd,Qr,Qt,QE,reduceCtorEq,Ae jV 25,z,Ae jV 58,c,Ae jV 278,d,c1]
   all_goals exact YT
  ·unfold GB at z ⊢;simp only[↓C2,Gt,Gp,reduceIte,Qb,Qd,Qr,reduceCtorEq,Ae jV 25,z,Ae jV 58,c,c1,or_true,if_true]
   all_goals exact YT
def aA2{α:Type}{mk:α->List D}{ok:α->Prop}{res:α->D}{P:Program}{S:Gq}{f:FuncId}{N:Nat}{g:DC}{rs:List RV}(j:Gq.ok P S)(k:Fn P f N g rs)(p:∀a,(mk a).length<=N)
  (z:∀a,ok a->(res a).calmR=true∧g.wp S [] (DM rs λd m'=>aUJ m' d (res a)) ⟨Bv (mk a),λ_ _=>none,0⟩):(Ac (FX mk ok res)).ok P f:=by
 refine mJ j k (λds r h=>?_) (λds r h=>?_)
 ·obtain⟨a,_,rfl,_⟩:=CV h;exact p a
 ·obtain⟨a,x,rfl,rfl⟩:=CV h;exact z a x
def rT{l:List Int}{n:Int}{j:Nat}(t:j<l.length)(q:n=l[j])(g:∀i (h:i<j),n≠l[i]'(by omega)):A9 (l.map λx=>decide (n=x))=j:=by
 unfold A9;have:(l.map λx=>decide (n=x)).findIdx? id=some j:=by
  rw[Q6];refine⟨XJ,by simp[q],λi hi=>?_⟩;have:=g i hi;simpa using this
 rw[this]
def rR{l:List Int}{n:Int}(g:∀i (h:i<l.length),n≠l[i]):A9 (l.map λx=>decide (n=x))=-1:=by
 unfold A9;have:(l.map λx=>decide (n=x)).findIdx? id=none:=by
  rw[List.findIdx?_eq_none_iff];intro b o;obtain⟨x,q,rfl⟩:=QL.1 o;obtain⟨i,hi,rfl⟩:=Zp q;simpa using g i hi
 rw[this]
def SH{l:List Int}{j:Nat}(h:j<l.length):(AF l)[j]?=some (.int .i64 l[j]):=by simp[AF,Qi h]
def aGA(l:List Int)(n:Int):Bool:=l.any λx=>decide (n=x)
def gY(l:List Int)(n:Int):decide (0<=A9 (l.map λx=>decide (n=x)))=aGA l n:=by
 rw[Gg,Zt];rfl
def aWy:=Ap []
def aPQ:=RF aWy aKh [.t 4] 19
def aSV:Kq aPQ 343:=An (Aj func343) Ad
def aHi{nl:Bool}{l:List Int}(n:Int)(hl:l.length<=1000):aPQ [.slice nl [] (AF l),.int .i64 n]=some (.int .i64 (A9 (l.map λx=>decide (n=x)))):=by
 refine Am (Qa rfl) ?_;unfold aKh;simp only[↓C2,Gy,simprocAttr,GX];refine Bf (n:=l.length) (I:=λj y=>y.s 0= .slice nl [] (AF l)∧y.s 1= .int .i64 n∧y.s 7= .int .i64 l.length∧y.s 8= .int .i64 (j:Int)∧∀i (h:i<j) (z:i<l.length),n≠l[i]) (λj t ih y g m=>?_) (λy g m=>?_) 0 (Qu _) _ _ ⟨rfl,rfl,rfl,rfl,λi h=>absurd h (ZB _)⟩
 ·obtain⟨a,p,c⟩:=y;obtain⟨f,u,h7,k,v⟩:=m;simp only at f u h7 k;refine Af Us.eq_1 ?_;have r:((j:Int)<l.length):=by omega
  have w:=nJ (j:=j);have b:=wJ (j:=j) O;have d:=SH t;by_cases q:n=l[j]
  ·have e:=rT t q (λi h=>v i h O);have o:(n=l[j])=True:=eq_true q;simp only[↓C2,Gt,Gp,simprocAttr,f,u,h7,k,r,w,Qh,d,o];rw[e]
   all_goals exact YT
  ·have o:(n=l[j])=False:=eq_false q;simp only[↓C2,Gt,Gp,simprocAttr,f,u,h7,k,r,w,Qh,d,o,b];refine ih _ _ ⟨f,u,h7,rfl,λi h z=>?_⟩;rcases Nat.lt_or_eq_of_le (Nat.le_of_lt_succ h)with h|rfl
   ·exact v i h z
   ·exact q
 ·obtain⟨f,u,h7,k,v⟩:=m;refine Af Us.eq_1 ?_;have e:=rR (λi h=>v i h h);simp only[↓C2,Gt,Gp,simprocAttr,h7,k,Qz];rw[e]
  all_goals exact YT
def aUL:=Ap [(343,Ac aPQ)]
def RO:=RF aUL aKv [.t 4] 9
def aS4:Kq RO 318:=An (Aj func318) (Aa aSV Ad)
def aHr{nl:Bool}{l:List Int}(n:Int)(hl:l.length<=1000):RO [.slice nl [] (AF l),.int .i64 n]=some (.bool (aGA l n)):=by
 refine Am (Qa rfl) ?_;unfold aKv;have a:=aHi (nl:=nl) n hl;have e:=gY l n;generalize A9 (l.map λx=>decide (n=x))=i at *;simp only[↓C2,Gt,Gp,simprocAttr,Ae aUL 343,a];rw[←e]
 all_goals exact YT
def aWP:=Ap []
def RS:=RF aWP aK5 [.cell (some 3) 2] 6
def aTp:Kq RS 280:=An (Aj func280) Ad
def aHQ(r:Rw):RS [.agg [.int .i64 r.1,.bool r.2.1,.bool r.2.2]]=some (.agg [.int .i64 r.1,.bool true,.bool false]):=by
 refine Am (Qa rfl) ?_;unfold aK5;simp only[↓C2,Gt,Gp,simprocAttr]
 all_goals exact YT
def aWO:=Ap []
def RR:=RF aWO aK4 [.cell (some 3) 2] 6
def aTo:Kq RR 281:=An (Aj func281) Ad
def aHP(r:Rw):RR [.agg [.int .i64 r.1,.bool r.2.1,.bool r.2.2]]=some (.agg [.int .i64 r.1,.bool false,.bool false]):=by
 refine Am (Qa rfl) ?_;unfold aK4;simp only[↓C2,Gt,Gp,simprocAttr]
 all_goals exact YT
def aWN:=Ap []
def RQ:=RF aWN aK3 [.cell (some 3) 2] 6
def aTn:Kq RQ 282:=An (Aj func282) Ad
def aHO(r:Rw):RQ [.agg [.int .i64 r.1,.bool r.2.1,.bool r.2.2]]=some (.agg [.int .i64 r.1,.bool false,.bool true]):=by
 refine Am (Qa rfl) ?_;unfold aK3;simp only[↓C2,Gt,Gp,simprocAttr]
 all_goals exact YT
def chR(k:Nat)(r:Rw):Rw:=if k=280 then(r.1,true,false)else if k=281 then(r.1,false,false)else(r.1,false,true)
def IY(ns:List Int)(n j:Nat)(x:Rw):Bool:=(aGA ns x.1||(ns.isEmpty&&decide (j+1=n)))&&!x.2.2
def HJ(ns:List Int)(k n:Nat):Nat->List Rw->List Rw
 |_,[]=>[]
 |j,x::r=>(if IY ns n j x=true then chR k x else x)::HJ ns k n (j+1) r
def Ef(ns:List Int)(n:Nat):Nat->List Rw->List Int
 |_,[]=>[]
 |j,x::r=>if IY ns n j x=true then x.1::Ef ns n (j+1) r else Ef ns n (j+1) r
theorem ML(ns:List Int)(k n:Nat):∀(l:List Rw)(j:Nat),(HJ ns k n j l).length=l.length
 |[],_=>rfl
 |x::r,j=>by simp[HJ,ML ns k n r]
def Br(s:Sc)(ns:List Int)(k:Nat):Sc×List Int×Int:=if DA s 6=true then(s,[],2)else if s.rs=[]then(s,[],6)else({s with rs:=HJ ns k s.rs.length 0 s.rs},Ef ns s.rs.length 0 s.rs,0)
def fT(p:Sc×Bool×List Int×Nat):List D:=[.agg (GB p.1),.slice p.2.1 [] (AF p.2.2.1),.fn p.2.2.2 []]
def xK{a b:List Rw}(h:A1 a=A1 b):a=b:=(Zd (λx y e=>by
 simp only[rwD,D.agg.injEq,Qc,D.int.injEq,D.bool.injEq,true_and,and_true]at e;exact QU e.1 (QU e.2.1 e.2.2))).1 h
theorem aFo{a b:Sc}(h:GB a=GB b):a=b:=by
 cases a;cases b;simp only[GB,Qc,D.int.injEq,D.bool.injEq,D.slice.injEq,true_and,and_true]at h;obtain⟨u,z,i,o,m⟩:=h;have:=xK m;subst u z i o this;rfl
theorem gO{a b:List Int}(h:AF a=AF b):a=b:=(Zd (λx y e=>by simpa using e)).1 h
def zO(x y:Sc×Bool×List Int×Nat)(e:fT x=fT y):x=y:=by
 grind [fT,aFo,gO]
def Sl(p:Sc×Bool×List Int×Nat):D:= .tup [.agg (GB (Br p.1 p.2.2.1 p.2.2.2).1),.slice (decide ((Br p.1 p.2.2.1 p.2.2.2).2.1=[])) [] (AF (Br p.1 p.2.2.1 p.2.2.2).2.1),.int .i64 (Br p.1 p.2.2.1 p.2.2.2).2.2]
structure aUI (p:Sc×Bool×List Int×Nat):Prop where
 hl:p.1.rs.length<=1000
 hn:p.1.nl=true->p.1.rs=[]
 hs:p.2.2.1.length<=1000
 hk:p.2.2.2=280∨p.2.2.2=281∨p.2.2.2=282
def aEv:List D->Option D:=FX fT aUI Sl
def OW:List D->Option (List D):=λds=>match ds with|[.slice false _ xs]=>if xs.length<=100000∧aF xs 3=3∧(flat xs).all D.plain=true then some xs else none|_=>none
def aNI:(H1 OW).ok Qe 316:=by
 unfold OW;refine yS (S:=λ_=>none) A2 aA7 (λds r h=>?_) (λds xs h=>?_)
 ·grind
 ·grind [cA,Gu.put]
def Se(l:List Rw):(flat (A1 l)).all D.plain=true:=by
 rw[QT];induction l with
 |nil=>intro x q;cases q
 |cons y r ih=>
  intro x q;have o:x∈[D.int .i64 y.1,.bool y.2.1,.bool y.2.2]++flat (A1 r):=q;rcases Zm.1 o with h|h
  ·simp only[QO,QV,or_false]at h;rcases h with rfl|rfl|rfl<;>rfl
  ·exact ih x h
def aNH{l:List Rw}{t:Id}{m:Gu}{fr:Id}(h:l.length<=1000):(H1 OW).ex [.slice false t (A1 l)] m fr=some (.row fr l.length,[(fr,0,flat (A1 l))]):=by
 have e:OW [.slice false [] ((A1 l).map D.un)]=some (A1 l):=by
  have:(A1 l).map D.un=A1 l:=by rw[A1,QR];exact Q3 λ_ _=>rfl
  rw[this];exact if_pos ⟨XF,IF l,Se l⟩
 have f:OW ([D.slice false t (A1 l)].map D.un)=some (A1 l):=if_pos ⟨XF,IF l,Se l⟩;simp only[H1];refine(if_pos rfl).trans ?_;rw[f,Qv,AN]
def Ft(m:Gu)(i:Id)(l:List Rw):Prop:=∀k x,l[k]?=some x->Ag m i (k*3) 3=some [.int .i64 x.1,.bool x.2.1,.bool x.2.2]
def Ru{m:Gu}{i:Id}{o:Nat}{a b c:D}:Ag m i o 3=some [a,b,c]↔(m i o=some a∧m i (o+1)=some b∧m i (o+2)=some c):=by
 simp only[Ag];cases m i o<;>cases m i (o+1)<;>cases m i (o+1+1)<;>simp
def bG{m:Gu}{i:Id}:∀{l:List Rw} {p:Nat},(∀k x,l[k]?=some x->Ag m i (p+k*3) 3=some [.int .i64 x.1,.bool x.2.1,.bool x.2.2])->∀(j:Nat) d,(flat (A1 l))[j]?=some d->m i (p+j)=some d
 |[],p,_,j,d,h=>by simp[A1,Vd.flat]at h
 |x::r,p,hr,j,d,h=>by
  have o:([D.int .i64 x.1,.bool x.2.1,.bool x.2.2]++Vd.flat (A1 r))[j]?=some d:=h;obtain⟨v,a1,s⟩:=Ru.1 (hr 0 x rfl);simp only[Nat.zero_mul,Za]at v a1 s
  match j,o with
  |0,o=>simp only[Q0,Qo,Ql]at o;subst o;exact v
  |1,o=>simp only[Q0,Qw,Qo,Ql]at o;subst o;exact a1
  |2,o=>simp only[Q0,Qw,Qo,Ql]at o;subst o;exact s
  |j+3,o=>
   have:=bG (p:=p+3) (l:=r) (λk y g=>by
    have:=hr (k+1) y (by simpa using g);rw[show p+(k+1)*3=p+3+k*3 by omega]at this;exact this) j d (by simpa using o)
   rw[show p+3+j=p+(j+3)by omega]at this;exact this
def Ft.of{m:Gu}{i:Id}:∀{l:List Rw} {p:Nat},(∀(j:Nat) d,(flat (A1 l))[j]?=some d->m i (p+j)=some d)->∀k x,l[k]?=some x->Ag m i (p+k*3) 3=some [.int .i64 x.1,.bool x.2.1,.bool x.2.2]
 |[],p,_,k,x,h=>Xd
 |y::r,p,hr,k,x,h=>by
  match k,h with
  |0,h=>
   simp only[Qo,Ql]at h;subst h;exact Ru.2 ⟨by simpa using hr 0 _ rfl,by simpa using hr 1 _ rfl,by simpa using hr 2 _ rfl⟩
  |k+1,h=>
   have:=Ft.of (p:=p+3) (l:=r) (λj d q=>by
    have:=hr (j+3) d q;rw[show p+(j+3)=p+3+j by omega]at this;exact this) k x Xn
   rw[show p+3+k*3=p+(k+1)*3 by omega]at this;exact this
def Ft.set{m:Gu}{i:Id}{A B:List Rw}{x y:Rw}(h:Ft m i (A++x::B)):Ft (m.put i (A.length*3) [.int .i64 y.1,.bool y.2.1,.bool y.2.2]) i (A++y::B):=by
 intro k z d;by_cases g:k=A.length
 ·subst g;rw[Ze (QB _),Zu,Qo,Ql]at d;subst d;refine Ru.2 ⟨?_,?_,?_⟩<;>simp[Gu.put]
 ·have na:(A++x::B)[k]?=some z:=by
   rcases Nat.lt_or_gt_of_ne g with h1|h1
   ·grind
   ·grind
  obtain⟨v,a1,s⟩:=Ru.1 (h k z na);have b:∀o,(o=k*3∨o=k*3+1∨o=k*3+2)->(m.put i (A.length*3) [.int .i64 y.1,.bool y.2.1,.bool y.2.2]) i o=m i o:=λo b=>by
   refine aD ?_;simp only[Qg,Qm];omega
  exact Ru.2 ⟨by rw[b _ (.inl rfl)];exact v,by rw[b _ (.inr (.inl rfl))];exact a1,by rw[b _ (.inr (.inr rfl))];exact s⟩
def Ft.other{m:Gu}{i j:Id}{o:Nat}{ds:List D}{l:List Rw}(h:Ft m i l)(w:i≠j):Ft (m.put j o ds) i l:=λk x g=>by
 obtain⟨v,a1,s⟩:=Ru.1 (h k x g);exact Ru.2 ⟨by rw[aA w];exact v,by rw[aA w];exact a1,by rw[aA w];exact s⟩
def Ft.grow{m:Gu}{i f t:Id}{e:Nat}{nl:Bool}{xs:List D}{l:List Rw}(h:Ft m i l)(u:i≠f)(z:nl=false->i≠t):Ft (GA.app m (A6 e f (.slice nl t xs))) i l:=by
 cases nl with
 |true=>exact h.other u
 |false=>exact(h.other (z rfl)).other u
def LG.row{b e c r o:Nat}{m0 m:Gu}{nl:Bool}{t:Id}{ds:List D}(h:LG b m0 e m c nl t)(i:b<=r)(k:nl=false->t≠[r]):LG b m0 e (m.put [r] o ds) c nl t:=by
 obtain⟨u,z,y⟩:=h;refine⟨λq o' j=>?_,?_,y⟩
 ·grind [aA]
 ·grind [aA]
def fD{m:Gu}{i:Id}{o:Nat}{a b c:D}(h:Ag m i o 3=some [a,b,c]):m i o=some a∧m i (o+1)=some b∧m i (o+1+1)=some c:=Ru.1 h
def aNw{i:Id}{n:Nat}:D.data (.row i n)=true:=rfl
def aNx{i:Id}{n:Nat}:D.cells (.row i n)=[.row i n]:=rfl
def yY:Kq aEv 279:=by
 have hS:Gq.ok Qe (Ap [(25,Ac IZ),(273,Ac Ra),(316,H1 OW),(318,Ac RO),(280,Ac RS),(281,Ac RR),(282,Ac RQ)]):=Aa Pv (Aa aJD (Aa aNI (Aa aS4 (Aa aTp (Aa aTo (Aa aTn Ad))))));have o:Ap [(25,Ac IZ),(273,Ac Ra),(316,H1 OW),(318,Ac RO),(280,Ac RS),(281,Ac RR),(282,Ac RQ)] 25=some (Ac IZ):=rfl;have u:Ap [(25,Ac IZ),(273,Ac Ra),(316,H1 OW),(318,Ac RO),(280,Ac RS),(281,Ac RR),(282,Ac RQ)] 273=some (Ac Ra):=rfl;have za:Ap [(25,Ac IZ),(273,Ac Ra),(316,H1 OW),(318,Ac RO),(280,Ac RS),(281,Ac RR),(282,Ac RQ)] 316=some (H1 OW):=rfl;have a:Ap [(25,Ac IZ),(273,Ac Ra),(316,H1 OW),(318,Ac RO),(280,Ac RS),(281,Ac RR),(282,Ac RQ)] 318=some (Ac RO):=rfl;have sk:∀k,k=280∨k=281∨k=282->∃F,Ap [(25,Ac IZ),(273,Ac Ra),(316,H1 OW),(318,Ac RO),(280,Ac RS),(281,Ac RR),(282,Ac RQ)] k=some (Ac F)∧∀x:Rw,F [.agg [.int .i64 x.1,.bool x.2.1,.bool x.2.2]]=some (.agg [.int .i64 (chR k x).1,.bool (chR k x).2.1,.bool (chR k x).2.2]):=λk hk=>by
  rcases hk with rfl|rfl|rfl
  ·exact⟨RS,rfl,aHQ⟩
  ·exact⟨RR,rfl,aHP⟩
  ·exact⟨RQ,rfl,aHO⟩
 generalize Ap [(25,Ac IZ),(273,Ac Ra),(316,H1 OW),(318,Ac RO),(280,Ac RS),(281,Ac RR),(282,Ac RQ)]=S at hS o u za a sk;refine aA2 hS (Aj func279:Fn Qe 279 72 aK6 [.cell (some 4) 6,.t 7,.t 8]) (λ_=>by simp[fT]) (λp hp=>⟨by rfl,?_⟩);obtain⟨s,bn,ns,k⟩:=p;obtain⟨hl,hn,hs,hk⟩:=hp;simp only at hl hn hs hk;obtain⟨F,sF,hF⟩:=sk k hk;have aa:=Gl s 6 false hl;have q:=oH;unfold aK6 fT Sl Br;simp only;unfold Ts at aa;cases hb:DA s 6 with
 |true=>
  rw[hb]at aa;simp only[if_true]at aa ⊢;unfold GB at aa ⊢;simp only[↓C2,Gt,Gp,simprocAttr,Ab o,aa,Ab u,q];refine AS ?_;simp only[↓C2,Gt,Gp,simprocAttr];exact .inr ⟨_,_,rfl,rfl,.inl (.inl rfl),.inl (.inl rfl),.inl (.inl rfl),trivial⟩
 |false=>
  rw[hb]at aa;simp only[if_false,Qs]at aa ⊢;by_cases hz:s.rs=[]
  ·have na:((s.rs.length:Int)=0)=True:=eq_true (by rw[hz];rfl);simp only[if_pos hz];unfold GB at aa ⊢;simp only[↓C2,Gt,Gp,simprocAttr,Ab o,aa,Ab u,q];refine AS ?_;simp only[↓C2,Gt,Gp,simprocAttr,AN,na];exact .inr ⟨_,_,rfl,rfl,.inl (.inl rfl),.inl (.inl rfl),.inl (.inl rfl),trivial⟩
  ·have ta:0<s.rs.length:=by
    rcases Nat.eq_zero_or_pos s.rs.length with h|h
    ·simp_all
    ·exact h
   have na:((s.rs.length:Int)=0)=False:=eq_false O;have ga:s.nl=false:=by
    simp_all
   have ja:=λ(m:Gu)(fr:Id)=>aNH (l:=s.rs) (t:=[]) (m:=m) (fr:=fr) hl
   simp only[if_neg hz];unfold GB at aa ⊢;simp only[ga]at aa ⊢;simp only[↓C2,Gt,Gp,simprocAttr,Ab o,aa,Ab u,q];refine AS ?_;simp only[↓C2,Gt,Gp,simprocAttr,AN,na,AD za,ja];have ma:Ft (Gu.put (λ_ _=>none) [14] 0 (flat (A1 s.rs))) [14] s.rs:=λk x hk=>by
    have:=Ft.of (m:=Gu.put (λ_ _=>none) [14] 0 (flat (A1 s.rs))) (i:=[14]) (p:=0) (l:=s.rs) (λj d hj=>by
     have wa:=(QQ.1 hj).1;rw[aE wa,hj]) k x hk
    rwa [Qp]at this
   refine Bf (n:=s.rs.length) (I:=λj st=>st.s 27= .row [14] s.rs.length∧st.s 28= .int .i64 s.rs.length∧st.s 29= .int .i64 (j:Int)∧st.s 9= .row [14] s.rs.length∧st.s 1= .slice bn [] (AF ns)∧st.s 2= .fn k []∧st.s 3= .ptr [0] 0∧st.s 6= .ptr [1] 0∧∃A B nl t,A.length=j∧A++HJ ns k s.rs.length j (s.rs.drop j)=HJ ns k s.rs.length 0 s.rs∧B++Ef ns s.rs.length j (s.rs.drop j)=Ef ns s.rs.length 0 s.rs∧st.s 10= .slice nl t (AF B)∧nl=decide (B=[])∧Ft st.m [14] (A++s.rs.drop j)∧15<=st.c∧(nl=false->t≠[14])∧LG 14 _ 3 st.m st.c nl t) (λj hj ih st g hI=>?_) (λst g hI=>?_) 0 (Qu _) _ _ ⟨rfl,rfl,rfl,rfl,rfl,rfl,rfl,rfl,[],[],true,[],rfl,rfl,rfl,rfl,rfl,?_,Xa,U,LG.start Xa⟩
   rotate_left 2
   ·intro k x hk;obtain⟨a0,a1,a2⟩:=Ru.1 (ma k x hk);have ra:k*3+2<(flat (A1 s.rs)).length:=by
     grind [flat,A1,aD]
    refine Ru.2 ⟨?_,?_,?_⟩
    ·rw[←a0];simp[Gu.put]
    ·rw[←a1];simp[Gu.put]
    ·rw[←a2];simp[Gu.put]
   ·obtain⟨ka,fa,da⟩:=st;obtain⟨ha,ba,f,h9,h1,h2,h3,h6,A,B,nl,t,v,hA,hB,la,pa,hR,hc,ht,hG⟩:=hI;simp only at ha ba f h9 h1 h2 h3 h6 la hR hc hG;refine Af Uy.eq_1 ?_;have ea:((j:Int)<s.rs.length):=by omega
    have oa:=nJ (j:=j);have z:((j:Int)<((s.rs.length:Nat):Int)):=O
    have hw:=wJ (j:=j) O;have ya:IntKind.i64.wrap ((s.rs.length:Int)-1)=(s.rs.length:Int)-1:=GS O O;have hd:s.rs.drop j=s.rs[j]::s.rs.drop (j+1):=QJ hj;rw[hd]at hA hB hR;generalize s.rs[j]=x at hA hB hR;have ca:Ag fa [14] (j*3) 3=some [.int .i64 x.1,.bool x.2.1,.bool x.2.2]:=hR j x (by rw[Ze O,v,Zu];rfl);have b:=aHr (nl:=bn) (l:=ns) x.1 hs;have ua:(AF B).length<=100000:=by
     have h1:=congrArg ZI hB;have h2:∀(l:List Rw)(j:Nat),(Ef ns s.rs.length j l).length<=l.length:=λl=>by
      induction l with
      |nil=>intro j;simp[Ef]
      |cons y r ih=>intro j;unfold Ef;split<;>have:=ih (j+1)<;>simp only[Qg]<;>omega
     have h3:=h2 s.rs 0;rw[Qq]at h1;rw[GX];omega
    have bb:B.length<=100000:=by rw[←GX];exact ua
    have sa:nl=true->AF B=[]:=by rw[pa];intro h;rw[of_decide_eq_true h];rfl
    have e1:HJ ns k s.rs.length j (x::s.rs.drop (j+1))=(if IY ns s.rs.length j x=true then chR k x else x)::HJ ns k s.rs.length (j+1) (s.rs.drop (j+1)):=rfl;have e2:Ef ns s.rs.length j (x::s.rs.drop (j+1))=if IY ns s.rs.length j x=true then x.1::Ef ns s.rs.length (j+1) (s.rs.drop (j+1))else Ef ns s.rs.length (j+1) (s.rs.drop (j+1)):=rfl
    have ia:AF (B++[x.1])=AF B++[.int .i64 x.1]:=by simp[AF]
    have ab:=hF x;subst v;generalize w:aGA ns x.1=cb at b;have h0:((ns.length:Int)=0)=(ns.isEmpty=true):=by cases ns<;>simp<;>omega
    have va:(14=da+1+3)=False:=eq_false O;have qa:(da=10)=False:=eq_false O;have xa:((A.length:Int)=(s.rs.length:Int)-1)=(A.length+1=s.rs.length):=propext O;cases cb with
    |true=>
     cases hxd:x.2.2 with
     |true=>
      rw[hxd]at ca;obtain⟨a0,a1,a2⟩:=fD ca;have hh:IY ns s.rs.length A.length x=false:=by simp[IY,w,hxd]
      rw[hh,if_neg QK]at e1 e2;simp only[↓C2,Gt,Gp,simprocAttr,ha,ba,f,h1,ea,oa,Qh,a0,a1,a2,Ab a,b,hw];refine ih _ _ ⟨ha,ba,rfl,h9,h1,h2,h3,h6,A++[x],B,nl,t,U,XD,X0,la,pa,?_,Xa,ht,X5⟩;rw[QH];exact(hR.other Xe).other Xe
     |false=>
      rw[hxd]at ca;obtain⟨a0,a1,a2⟩:=fD ca;rw[hxd]at ab;have hh:IY ns s.rs.length A.length x=true:=by simp[IY,w,hxd]
      rw[if_pos hh]at e1 e2;simp only[↓C2,Gt,Gp,simprocAttr,ha,ba,f,h9,h1,h2,la,ea,oa,Qh,a0,a1,a2,va,qa,Ab a,b,GX,Ab sF,ab];refine aB ⟨O,rfl,YO⟩ ?_;rw[BM sa,←ia];simp only[↓C2,Gy,simprocAttr,f,hw];refine ih _ _ ⟨ha,ba,rfl,h9,h1,h2,h3,h6,A++[chR k x],B++[x.1],false,_,U,XD,by rw[←hB,e2];simp,rfl,U,?_,Xa,Xe,YP⟩;rw[QH]
      first|exact(Ft.set ((hR.other Xe).other Xe)).grow Xe (λh e=>ht h e.symm)|exact((Ft.set ((hR.other Xe).other Xe)).other Xe).grow Xe (λh e=>ht h e.symm)
    |false=>
     cases hle:ns.isEmpty with
     |false=>
      rw[hle]at h0;obtain⟨a0,a1,a2⟩:=fD ca;have hh:IY ns s.rs.length A.length x=false:=by simp[IY,w,hle]
      rw[hh,if_neg QK]at e1 e2;simp only[↓C2,Gt,Gp,simprocAttr,ha,ba,f,h1,ea,oa,Qh,a0,a1,a2,Ab a,b,GX,h0,hw];refine ih _ _ ⟨ha,ba,rfl,h9,h1,h2,h3,h6,A++[x],B,nl,t,U,XD,X0,la,pa,?_,Xa,ht,X5⟩;rw[QH];exact(hR.other Xe).other Xe
     |true=>
      rw[hle]at h0;by_cases wa:A.length+1=s.rs.length
      ·rw[eq_true wa]at xa;cases hxd:x.2.2 with
       |true=>
        rw[hxd]at ca;obtain⟨a0,a1,a2⟩:=fD ca;have hh:IY ns s.rs.length A.length x=false:=by simp[IY,w,hle,wa,hxd]
        rw[hh,if_neg QK]at e1 e2;simp only[↓C2,Gt,Gp,simprocAttr,ha,ba,f,h9,h1,ea,oa,Qh,a0,a1,a2,Ab a,b,GX,h0,ya,xa,hw];refine ih _ _ ⟨ha,ba,rfl,h9,h1,h2,h3,h6,A++[x],B,nl,t,U,XD,X0,la,pa,?_,Xa,ht,X5⟩;rw[QH];exact(hR.other Xe).other Xe
       |false=>
        rw[hxd]at ca;obtain⟨a0,a1,a2⟩:=fD ca;rw[hxd]at ab;have hh:IY ns s.rs.length A.length x=true:=by simp[IY,w,hle,wa,hxd]
        rw[if_pos hh]at e1 e2;simp only[↓C2,Gt,Gp,simprocAttr,ha,ba,f,h9,h1,h2,la,ea,oa,Qh,a0,a1,a2,va,qa,Ab a,b,GX,Ab sF,ab,h0,ya,xa];refine aB ⟨O,rfl,YO⟩ ?_;rw[BM sa,←ia];simp only[↓C2,Gy,simprocAttr,f,hw];refine ih _ _ ⟨ha,ba,rfl,h9,h1,h2,h3,h6,A++[chR k x],B++[x.1],false,_,U,XD,by rw[←hB,e2];simp,rfl,U,?_,Xa,Xe,YP⟩;rw[QH]
        first|exact(Ft.set ((hR.other Xe).other Xe)).grow Xe (λh e=>ht h e.symm)|exact((Ft.set ((hR.other Xe).other Xe)).other Xe).grow Xe (λh e=>ht h e.symm)
      ·rw[eq_false wa]at xa;obtain⟨a0,a1,a2⟩:=fD ca;have hh:IY ns s.rs.length A.length x=false:=by simp[IY,w,hle,wa]
       rw[hh,if_neg QK]at e1 e2;simp only[↓C2,Gt,Gp,simprocAttr,ha,ba,f,h9,h1,ea,oa,Qh,a0,a1,a2,Ab a,b,GX,h0,ya,xa,hw];refine ih _ _ ⟨ha,ba,rfl,h9,h1,h2,h3,h6,A++[x],B,nl,t,U,XD,X0,la,pa,?_,Xa,ht,X5⟩;rw[QH];exact(hR.other Xe).other Xe
   ·obtain⟨ka,fa,da⟩:=st;obtain⟨ha,ba,f,h9,h1,h2,h3,h6,A,B,nl,t,v,hA,hB,la,pa,hR,hc,ht,hG⟩:=hI;simp only at ha ba f h9 h1 h2 h3 h6 la hR hc hG;refine Af Uy.eq_1 ?_;have m0:∀k,fa [0] k=_:=λk=>hG.low 0 k O
    have m1:∀k,fa [1] k=_:=λk=>hG.low 1 k O
    rw[Q1,HJ,QI]at hA;rw[Q1,Ef,QI]at hB;rw[Q1,QI,hA]at hR;subst pa hB;simp only[↓C2,Gt,Gp,simprocAttr,ba,f,h9,la,h3,h6,Qz,m0,m1,aNw,aNx];refine .inr ⟨_,_,rfl,rfl,.inr ⟨_,_,rfl,rfl,.inl rfl,.inl rfl,.inl rfl,.inr (.inl ⟨[14],A1 (HJ ns k s.rs.length 0 s.rs),3,?_,rfl,?_,?_⟩),trivial⟩,.inl (.inl rfl),.inl (.inl rfl),trivial⟩
    ·rw[AN,ML]
    ·intro x hx;obtain⟨y,_,rfl⟩:=QL.1 hx;exact⟨rfl,rfl⟩
    ·intro j x hx;have:=bG (m:=fa) (i:=[14]) (p:=0) (l:=HJ ns k s.rs.length 0 s.rs) (λk x hk=>by rw[Qp];exact hR k x hk) j x hx;rw[Qp]at this;rw[←this];simp[Gu.put]
def U8(s:Sc)(v:Bool)(ns:List Int)(k:Nat)(h:aUI (s,v,ns,k)):aEv [.agg (GB s),.slice v [] (AF ns),.fn k []]=some (Sl (s,v,ns,k)):=BO (mk:=fT) (a:=(s,v,ns,k)) zO h
def aUZ:=Ap [(279,Ac aEv)]
def aIb:=RF aUZ aLW [.cell (some 4) 4,.t 5] 18
def aTF:Kq aIb 226:=An (Aj func226) (Aa yY Ad)
def aIa(s:Sc)(v:Bool)(ns:List Int)(hl:s.rs.length<=1000)(c:s.nl=true->s.rs=[])(g:ns.length<=1000):aIb [.agg (GB s),.slice v [] (AF ns)]=some (.tup [.agg (GB (Br s ns 280).1),.int .i64 (Br s ns 280).2.2]):=by
 refine Am (Qa rfl) ?_;unfold aLW;have a:=U8 s v ns 280 ⟨hl,c,g,U⟩;unfold Sl at a;simp only at a;generalize Br s ns 280=r at *;unfold GB at *;simp only[↓C2,Gt,Gp,simprocAttr,Ae aUZ 279,a]
 all_goals exact YT
def aUY:=Ap [(279,Ac aEv)]
def aH9:=RF aUY aLV [.cell (some 4) 4,.t 5] 18
def aTE:Kq aH9 227:=An (Aj func227) (Aa yY Ad)
def aH8(s:Sc)(v:Bool)(ns:List Int)(hl:s.rs.length<=1000)(c:s.nl=true->s.rs=[])(g:ns.length<=1000):aH9 [.agg (GB s),.slice v [] (AF ns)]=some (.tup [.agg (GB (Br s ns 281).1),.int .i64 (Br s ns 281).2.2]):=by
 refine Am (Qa rfl) ?_;unfold aLV;have a:=U8 s v ns 281 ⟨hl,c,g,U⟩;unfold Sl at a;simp only at a;generalize Br s ns 281=r at *;unfold GB at *;simp only[↓C2,Gt,Gp,simprocAttr,Ae aUY 279,a]
 all_goals exact YT
def aUX:=Ap [(279,Ac aEv)]
def aH7:=RF aUX aLU [.cell (some 4) 4,.t 5,.t 6] 13
def aTD:Kq aH7 228:=An (Aj func228) (Aa yY Ad)
def aH6(s:Sc)(v:Bool)(ns:List Int)(hl:s.rs.length<=1000)(c:s.nl=true->s.rs=[])(g:ns.length<=1000):aH7 [.agg (GB s),.slice v [] (AF ns)]=some (.tup [.agg (GB (Br s ns 282).1),.slice (decide ((Br s ns 282).2.1=[])) [] (AF (Br s ns 282).2.1),.int .i64 (Br s ns 282).2.2]):=by
 refine Am (Qa rfl) ?_;unfold aLU;have a:=U8 s v ns 282 ⟨hl,c,g,U⟩;unfold Sl at a;simp only at a;generalize Br s ns 282=r at *;unfold GB at *;simp only[↓C2,Gt,Gp,simprocAttr,Ae aUX 279,a]
 all_goals exact YT
def jG(b:Bool):Int:=if b=true then 1 else 0
def cH(l:List Int):List D:=l.map (.int .u8)
def aPf(l:List Int):Bs:=l.map λn=>UInt8.ofNat n.toNat
def aCD(l:List Int):(cH l).length=l.length:=Qy ..
def nQ:∀l:List Int,Bp (cH l)=some (aPf l)
 |[]=>rfl
 |n::r=>by
  show(Bp (cH r)).map _=_;rw[nQ r];rfl
def xU(x:Rw):List Int:=[IntKind.u8.wrap x.1,bits .or .u8 (jG x.2.1) (IntKind.u8.wrap (jG x.2.2*2))]
def ND:List Rw->List Int
 |[]=>[]
 |x::r=>xU x++ND r
theorem rowsI_len:∀l:List Rw,(ND l).length=2*l.length
 |[]=>rfl
 |x::r=>by simp[ND,xU,rowsI_len r];omega
def FF(s:Sc):Bs:=if DA s 6=true then []else aPf ([IntKind.u8.wrap s.mx,jG s.cas,IntKind.u8.wrap s.la,IntKind.u8.wrap s.rs.length]++ND s.rs)
def aJa(s:Sc):Int:=if DA s 6=true then 2 else 0
def aWz:=Ap []
def aPR:=RF aWz aKi [.t 2] 4
def aSW:Kq aPR 342:=An (Aj func342) Ad
def aHj(b:Bool):aPR [.bool b]=some (.int .u8 (jG b)):=by
 refine Am (Qa rfl) ?_;unfold aKi;cases b with
 |true=>
  simp only[↓C2,Gy,He,Gp,simprocAttr]
  all_goals exact YT
 |false=>
  simp only[↓C2,Gy,He,Gp,simprocAttr]
  all_goals exact YT
def jS:=Ap [(25,Ac IZ),(57,Ac aHv),(342,Ac aPR)]
def aPX:=RF jS aKw [.t 2,.t 3] 49
def aS5:Kq aPX 317:=An (Aj func317) (Aa Pv (Aa aJw (Aa aSW Ad)))
def aHs(s:Sc)(hl:s.rs.length<=1000):aPX [.agg (GB s)]=some (.tup [.str (FF s),.int .i64 (aJa s)]):=by
 refine Am (Qa rfl) ?_;unfold aKw;have z:=Gl s 6 false hl;have i:=oB;have d:=aHj;unfold FF aJa;unfold Ts at z;unfold GB at *;cases hb:DA s 6 with
 |true=>
  rw[hb]at z;simp only[if_true]at z;simp only[↓C2,Gt,Gp,simprocAttr,Ae jS 25,z,Ae jS 57,i];refine AS ?_;simp only[↓C2,Gt,Gp,simprocAttr]
  all_goals exact YT
 |false=>
  rw[hb]at z;simp only[if_false,Qs]at z;simp only[↓C2,Gt,Gp,simprocAttr,Ae jS 25,z,Ae jS 57,i];refine AS ?_;simp only[↓C2,Gt,Gp,simprocAttr,Ae jS 342,d,AN];refine AS ?_;simp only[↓C2,Gt,Gp,simprocAttr,AN];refine Bf (n:=s.rs.length) (I:=λj y=>y.s 26= .slice s.nl [] (A1 s.rs)∧y.s 27= .int .i64 s.rs.length∧y.s 28= .int .i64 (j:Int)∧∃B t,B.length=4+2*j∧B++ND (s.rs.drop j)=[IntKind.u8.wrap s.mx,jG s.cas,IntKind.u8.wrap s.la,IntKind.u8.wrap s.rs.length]++ND s.rs∧y.s 4= .slice false t (cH B)∧LG 1 _ 5 y.m y.c false t) (λj q ih y g hI=>?_) (λy g hI=>?_) 0 (Qu _) _ _ ⟨rfl,rfl,rfl,_,_,rfl,rfl,rfl,⟨λ_ _ _=>rfl,.inr ⟨_,rfl,O,Xa,by simp[Gu.put,GA.app]⟩,Xa⟩⟩
  ·obtain⟨ka,fa,u⟩:=y;obtain⟨b,p,v,B,t,ua,hB,o,hG⟩:=hI;simp only at b p v o hG;refine Af Uv.eq_1 ?_;have k:((j:Int)<s.rs.length):=by omega
   have oa:=nJ (j:=j);have hw:=wJ (j:=j) O;have f:=EZ q;have r:s.rs.drop j=s.rs[j]::s.rs.drop (j+1):=QJ q;rw[r]at hB;generalize s.rs[j]=x at f hB;have ia:cH B++[.int .u8 (IntKind.u8.wrap x.1),.int .u8 (bits .or .u8 (jG x.2.1) (IntKind.u8.wrap (jG x.2.2*2)))]=cH (B++xU x):=by simp[cH,xU]
   have w:∀a:Int,AM .shl (.int .u8 a) (.int .u64 1)=some (.int .u8 (IntKind.u8.wrap (a*2))):=λa=>rfl
   have e:(cH B).length=4+2*j:=by rw[aCD];exact ua
   simp only[↓C2,Gt,Gp,simprocAttr,b,p,v,o,k,oa,Qh,f,Ae jS 342,d,w];refine aB ⟨by simp only[e];omega,rfl,Yr⟩ ?_;rw[ia];simp only[↓C2,Gt,Gp,simprocAttr];refine AS ?_;simp only[↓C2,Gy,simprocAttr,v,hw];exact ih _ _ ⟨b,p,rfl,_,_,by rw[Qq,ua];simp[xU];omega,by rw[←hB,ND,QH],rfl,(by first|exact LG.nil (hG.appf O Xa)|exact LG.nil (hG.put.appf O Xa)|exact LG.nil (hG.put.put.appf O Xa)|exact LG.nil (hG.put.put.put.appf O Xa)|exact LG.nil (hG.put.put.put.put.appf O Xa)|exact LG.nil (hG.put.put.put.put.put.appf O Xa))⟩
  ·obtain⟨b,p,v,B,t,ua,hB,o,hG⟩:=hI;refine Af Uv.eq_1 ?_;rw[Q1,ND,QI]at hB;subst hB;simp only[↓C2,Gt,Gp,simprocAttr,p,v,o,Qz,nQ]
   all_goals exact YT
def aKk:=y0 f111 [] []
def aKj:=y0 f112 [] []
def aKe:=y0 f175 [] []
def aKd:=y0 f176 [] []
def Ut:=y1 f110 9 [] []
def aKl:=y0 f110 [] [(9,Ut)]
def aBx:=y0 f55 [] []
def aKA:=y0 f56 [] []
def UB:=y1 f24 7 [] []
def aLf:=y0 f24 [(15,[(7,6)])] [(7,UB)]
def Ux:=y1 f179 4 [] []
def aKU:=y0 f179 [] [(4,Ux)]
def Uu:=y1 f244 4 [] []
def aKp:=y0 f244 [] [(4,Uu)]
def aKT:=y0 f180 [] []
def aLJ:=y0 f116 [] []
def aLI:=y0 f117 [] []
def Og(s:Bs)(p:Nat)(e:Int):List D:=[.str s,.int .i64 (p:Int),.int .i64 e]
def or0:∀n:Fin 256,bits .or .u64 0 ((n.val:Nat):Int)=n.val:=V
def aVL(x:UInt8):bits .or .u64 0 (x.toNat:Int)=x.toNat:=or0 ⟨x.toNat,x.toNat_lt⟩
def Bm(s:Bs)(p:Nat)(e:Int):Int×Nat×Int:=if e≠0 then(0,p,e)else if h:p<s.length then(s[p].toNat,p+1,0)else(0,p,3)
def aWB:=Ap []
def aHl:=RF aWB aKk [.t 2] 14
def aJv:Kq aHl 111:=An (Aj func111) Ad
def nY(s:Bs)(p:Nat)(e:Int)(y:p<=s.length):aHl [.agg (Og s p e)]=some (.bool true):=by
 refine Am (Qa rfl) ?_;unfold aKk;have u:(0:Int)<=(p:Int):=O
 have z:(p:Int)<=(s.length:Int):=O
 unfold Og;simp only[↓C2,Gt,Gp,reduceIte,Qb,Qd,Qr,u,z]
 all_goals exact YT
def aWA:=Ap []
def aHk:=RF aWA aKj [.t 2] 9
def aJu:Kq aHk 112:=An (Aj func112) Ad
def nX(s:Bs)(p:Nat)(e:Int)(hl:s.length<=1000000)(y:p<=s.length):aHk [.agg (Og s p e)]=some (.int .i64 ((s.length-p:Nat):Int)):=by
 refine Am (Qa rfl) ?_;unfold aKj;have v:IntKind.i64.wrap ((s.length:Int)-(p:Int))=((s.length-p:Nat):Int):=Xh
 unfold Og;simp only[↓C2,Gt,Gp,reduceIte,Qb,Qd,Qr,v]
 all_goals exact YT
def aWx:=Ap []
def aPN:=RF aWx aKe [.t 2] 9
def aSS:Kq aPN 175:=An (Aj func175) Ad
def aHg:aPN [.int .i64 1]=some (.bool true):=by
 refine Am (Qa rfl) ?_;unfold aKe;simp only[↓C2,Gt,Gp,reduceIte,Qb,Qd,reduceCtorEq,Int.reduceLE]
 all_goals exact YT
def aWw:=Ap []
def aPM:=RF aWw aKd [.cell (some 3) 4] 8
def aSR:Kq aPM 176:=An (Aj func176) Ad
def aHf(s:Bs)(p:Nat)(e x:Int):aPM [.agg (Og s p e),.int .i64 x]=some (.agg (Og s p x)):=by
 refine Am (Qa rfl) ?_;unfold aKd;unfold Og;simp only[↓C2,Gt,Gp,reduceIte,Qb,Qd,Qr,Qt,QE]
 all_goals exact YT
def dA:=Ap [(111,Ac aHl),(175,Ac aPN),(176,Ac aPM),(112,Ac aHk)]
def aPS:=RF dA aKl [.t 4,.cell (some 3) 5] 60
def aSX:Kq aPS 110:=An (Aj func110) (Aa aJv (Aa aSS (Aa aSR (Aa aJu Ad))))
def aHm(s:Bs)(p:Nat)(e:Int)(hl:s.length<=1000000)(y:p<=s.length):aPS [.agg (Og s p e),.int .i64 1]=some (.tup [.int .u64 (Bm s p e).1,.agg (Og s (Bm s p e).2.1 (Bm s p e).2.2)]):=by
 refine Am (Qa rfl) ?_;unfold aKl;have b:=nY s p e y;have a:=nX s p e hl y;have c:=aHg;have f:=λx=>aHf s p e x
 unfold Bm Og at *;by_cases c1:e=0
 ·subst c1;by_cases u:p<s.length
  ·have t:(((s.length-p:Nat):Int)<1)=False:=eq_false O;have v:IntKind.i64.wrap ((p:Int)+1)=((p+1:Nat):Int):=GS O O;have i:((0:Int)<=((p+1:Nat):Int)∧((p+1:Nat):Int)<=((s.length:Nat):Int))=True:=eq_true O;have g:((0:Int)<=(p:Int)∧(p:Int)<=((p+1:Nat):Int))=True:=eq_true O;have d:(s.drop p).take (p+1-p)=[s[p]]:=by rw[QJ u,show p+1-p=1 by omega];rfl
   have r:Ax [s[p]]=[.int .u8 (s[p].toNat:Int)]:=rfl;have j:AM .shl (.int .u64 0) (.int .u64 8)=some (.int .u64 0):=rfl;have q:=aVL s[p];have m:IntKind.u64.wrap (s[p].toNat:Int)=(s[p].toNat:Int):=R1 O (by have:=s[p].toNat_lt;omega);have z:IntKind.i64.wrap ((0:Int)+1)=1:=rfl;simp only[ne_eq,not_true_eq_false,if_false,dif_pos u];generalize s[p]=x at *;simp only[↓C2,Gt,Gp,reduceIte,Qb,Qd,Qr,reduceCtorEq,Ae dA 111,b,Ae dA 112,a,Ae dA 175,c,t,v,i,g,Qh,d,r];refine Af Ut.eq_1 ?_;simp only[↓C2,Gt,Gp,reduceIte,Qb,Qd,j,q,m,z,Int.toNat_zero,d,Int.zero_lt_one,Zr,ZA];refine Af Ut.eq_1 ?_;simp only[↓C2,Gt,Gp,simprocAttr,Qz,v]
   repeat refine AS ?_
   simp only[↓C2,Gt,Gp,reduceIte,Qb,Qd,Qr,Qt,QE]
   all_goals exact YT
  ·have t:(((s.length-p:Nat):Int)<1)=True:=eq_true O;simp only[ne_eq,not_true_eq_false,if_false,dif_neg u];simp only[↓C2,Gt,Gp,reduceIte,Qb,Qd,Qr,reduceCtorEq,Ae dA 111,b,Ae dA 112,a,Ae dA 175,c,Ae dA 176,f,t]
   all_goals exact YT
 ·have n:(e=0)=False:=eq_false c1;simp only[ne_eq,n,not_false_eq_true,if_true];simp only[↓C2,Gt,Gp,reduceIte,Qb,Qd,Qr,reduceCtorEq,n]
  repeat refine AS ?_
  simp only[↓C2,Gt,Gp,reduceIte,Qb,Qd,Qr]
  all_goals exact YT
def aDa:=Ap [(111,Ac aHl),(112,Ac aHk)]
def aHx:=RF aDa aKA [.t 2] 17
def aS8:Kq aHx 56:=An (Aj func56) (Aa aJv (Aa aJu Ad))
def aHw(s:Bs)(p:Nat)(e:Int)(hl:s.length<=1000000)(y:p<=s.length):aHx [.agg (Og s p e)]=some (.int .i64 (if e≠0 then e else if p<s.length then 4 else 0)):=by
 refine Am (Qa rfl) ?_;unfold aKA;have b:=nY s p e y;have a:=nX s p e hl y;unfold Og at *;by_cases c1:e=0
 ·subst c1;have t:((0:Int)<((s.length-p:Nat):Int))=(p<s.length):=propext O;by_cases u:p<s.length
  ·simp only[↓C2,Gt,Gp,reduceIte,Qb,Qd,Qr,ZG,Ae aDa 111,b,Ae aDa 112,a,t,u]
   all_goals exact YT
  ·simp only[↓C2,Gt,Gp,reduceIte,Qb,Qd,Qr,ZG,Ae aDa 111,b,Ae aDa 112,a,t,u]
   all_goals exact YT
 ·have n:(e=0)=False:=eq_false c1;simp only[↓C2,Gt,Gp,reduceIte,Qb,Qd,Qr,n];simp[c1]
def El{s:Bs}{p:Nat}{e:Int}(y:p<=s.length):(Bm s p e).2.1<=s.length∧0<=(Bm s p e).1∧(Bm s p e).1<256:=by
 unfold Bm;split
 ·exact⟨y,U,U⟩
 ·split
  ·rename_i h;have:=s[p].toNat_lt;exact⟨h,Xe,Xe⟩
  ·exact⟨y,U,U⟩
def aUM:=Ap [(110,Ac aPS)]
def kD:List D->List D->Option (D×List D):=RM aUM aBx [.t 2] 17 3
def aS9:(mQ 3 kD).ok Qe 55:=aRj (Aj func55:Fn Qe 55 17 aBx [.t 2]) V (Aa aSX Ad)
theorem Oi{m:Gu}{i j:Id}{o:Nat}{ds:List D}(h:j≠i):∀{n p:Nat},Ag (m.put i o ds) j p n=Ag m j p n
 |0,p=>rfl
 |n+1,p=>by simp only[Ag,aA h,Oi h]
def aRm{i fr:Id}(h:∀k,(i=k::fr)=False)(m:Gu)(k o:Nat)(ys:List D)(p n:Nat):Ag (m.put (k::fr) o ys) i p n=Ag m i p n:=Oi (λe=>(h k).mp e)
def IS(s:Bs)(p:Nat)(e:Int)(hl:s.length<=1000000)(y:p<=s.length):kD (Og s p e) []=some (.int .i64 (Bm s p e).1,Og s (Bm s p e).2.1 (Bm s p e).2.2):=by
 refine aRk V rfl (Qa rfl) (λi m fr na n g n0=>?_);have a:=aHm s p e hl y;obtain⟨_,x,u⟩:=El (e:=e) y;have v:IntKind.i64.wrap (Bm s p e).1=(Bm s p e).1:=GS O O;generalize Bm s p e=r at *;unfold Og at *;obtain⟨c,a1,f⟩:=fD na;unfold aBx;simp only[↓C2,Gt,Gp,reduceIte,Qb,Qd,Qr,reduceCtorEq,c,a1,f,aRm n0,n0,Ae aUM 110,a,v]
 first|exact ET.own (bH n (bH n ET.refl)) U|exact ET.own (bH n ET.refl) U
structure LX (ex:List Nat) (c0:Nat) (m0:Gu) (e:Nat) (m:Gu) (c:Nat) (nl:Bool) (t:Id):Prop where
 low:∀q o,q<c0->q∉ex->m [q] o=m0 [q] o
 tok:nl=true∨∃j,t=[j]∧c0<=j∧j<c∧m t 0=some (.tok (e+1))
 le:c0<=c
section
variable{ex:List Nat}{c0 e c c' c2 o q:Nat}{m0 m:Gu}{nl:Bool}{t:Id}{ds xs:List D}
def LX.start(h:c0<=c):LX ex c0 m0 e m0 c true t:=⟨λ_ _ _ _=>rfl,.inl rfl,h⟩
def LX.put(h:LX ex c0 m0 e m c nl t)(y:c<=c':=by omega):LX ex c0 m0 e (m.put [c'] o ds) c nl t:=by
 obtain⟨u,z,i⟩:=h;refine⟨λq o' j d=>?_,?_,i⟩
 ·grind [aA]
 ·grind [aA]
def LX.putx(h:LX ex c0 m0 e m c nl t)(j:q∈ex)(hl:q<c0):LX ex c0 m0 e (m.put [q] o ds) c nl t:=by
 obtain⟨u,z,i⟩:=h;refine⟨λs o' b d=>?_,?_,i⟩
 ·grind [aA]
 ·grind [aA]
def LX.more(h:LX ex c0 m0 e m c nl t)(y:c<=c'):LX ex c0 m0 e m c' nl t:=by
 obtain⟨u,h2,i⟩:=h;refine⟨u,?_,O⟩;rcases h2 with h2|⟨j,a,b,v,d⟩
 ·exact .inl h2
 ·grind
def LX.grow(h:LX ex c0 m0 e m c nl t):Iw m e (.slice nl t xs):=by
 rcases h.tok with h|⟨j,rfl,_,_,d⟩
 ·exact .inl h
 ·exact .inr ⟨d,U⟩
def LX.app(h:LX ex c0 m0 e m c nl t)(y:c<=c')(z:c'<c2):LX ex c0 m0 e (GA.app m (A6 e [c'] (.slice nl t xs))) c2 false [c']:=by
 obtain⟨u,k,i⟩:=h;refine⟨λq o j d=>?_,.inr ⟨c',rfl,O,z,?_⟩,O⟩
 ·grind [CP]
 ·rw[CP,if_pos ⟨rfl,rfl⟩]
def aX(h:LX ex c0 m0 e m c nl t)(y:c<=c')(s:q<c0):GA.app m (A6 e [c'] (.slice nl t xs)) [q] o=m [q] o:=by
 obtain⟨u,k,i⟩:=h;rw[CP,if_neg Xb];rcases k with rfl|⟨j,rfl,a,b,d⟩
 ·rw[if_neg U]
 ·rw[if_neg Xb]
end
def LU{m:Gu}{i:Id}{o:Nat}{d:D}:m.put i o [d] i o=some d:=XP
def LF(s:Bs):Nat->Nat->Int->List Rw×Bool×Nat×Int
 |0,p,e=>([],false,p,e)
 |k+1,p,e=>(((Bm s p e).1,decide (bits .and .i64 (Bm s (Bm s p e).2.1 (Bm s p e).2.2).1 1≠0),decide (bits .and .i64 (Bm s (Bm s p e).2.1 (Bm s p e).2.2).1 2≠0))::(LF s k (Bm s (Bm s p e).2.1 (Bm s p e).2.2).2.1 (Bm s (Bm s p e).2.1 (Bm s p e).2.2).2.2).1,
   decide (3<(Bm s (Bm s p e).2.1 (Bm s p e).2.2).1)||(LF s k (Bm s (Bm s p e).2.1 (Bm s p e).2.2).2.1 (Bm s (Bm s p e).2.1 (Bm s p e).2.2).2.2).2.1,(LF s k (Bm s (Bm s p e).2.1 (Bm s p e).2.2).2.1 (Bm s (Bm s p e).2.1 (Bm s p e).2.2).2.2).2.2)
def sc0:Sc:=⟨0,false,0,true,[]⟩
def M1(s:Bs):=Bm s 0 0
def L_(s:Bs):=Bm s (M1 s).2.1 (M1 s).2.2
def M_(s:Bs):=Bm s (L_ s).2.1 (L_ s).2.2
def Hy(s:Bs):=Bm s (M_ s).2.1 (M_ s).2.2
def Fu(s:Bs):=LF s (Hy s).1.toNat (Hy s).2.1 (Hy s).2.2
def eM(s:Bs):Sc:=⟨(M1 s).1,decide ((L_ s).1=1),(M_ s).1,decide ((Hy s).1.toNat=0),(Fu s).1⟩
def aGD(n p:Nat)(e:Int):Int:=if e≠0 then e else if p<n then 4 else 0
def B8(s:Bs):Sc×Int:=if aGD s.length (Fu s).2.2.1 (Fu s).2.2.2=3 then(sc0,3)else if aGD s.length (Fu s).2.2.1 (Fu s).2.2.2≠0∨(decide (1<(L_ s).1)||(Fu s).2.1)=true∨DA (eM s) 6=true then(sc0,4)else(eM s,0)
def kN{s:Bs}:∀{k p:Nat} {e:Int},p<=s.length->(LF s k p e).2.2.1<=s.length
 |0,p,e,h=>h
 |k+1,p,e,h=>by
  show(LF s k (Bm s (Bm s p e).2.1 (Bm s p e).2.2).2.1 (Bm s (Bm s p e).2.1 (Bm s p e).2.2).2.2).2.2.1<=_;exact kN (El (El h).1).1
def Vr{s:Bs}:∀{k p:Nat} {e:Int},(LF s k p e).1.length=k
 |0,p,e=>rfl
 |k+1,p,e=>by simp[LF,Vr]
def MB:=Ap [(55,mQ 3 kD),(56,Ac aHx),(57,Ac aHv),(25,Ac IZ)]
def aQd:=RF MB aLf [.cell (some 4) 2,.t 3] 77
def aTs:Kq aQd 24:=An (Aj func24) (Aa aS9 (Aa aS8 (Aa aJw (Aa Pv Ad))))
def oI(s:Bs)(hl:s.length<=1000000):aQd [.str s]=some (.tup [.agg (GB (B8 s).1),.int .i64 (B8 s).2]):=by
 refine Am (Qa rfl) ?_;unfold aLf;have b1:(M1 s).2.1<=s.length∧0<=(M1 s).1∧(M1 s).1<256:=El (Qu _);have b2:(L_ s).2.1<=s.length∧0<=(L_ s).1∧(L_ s).1<256:=El b1.1;have b3:(M_ s).2.1<=s.length∧0<=(M_ s).1∧(M_ s).1<256:=El b2.1;have b4:(Hy s).2.1<=s.length∧0<=(Hy s).1∧(Hy s).1<256:=El b3.1;have g1:kD [.str s,.int .i64 0,.int .i64 0] []=some (.int .i64 (M1 s).1,Og s (M1 s).2.1 (M1 s).2.2):=IS s 0 0 hl (Qu _);have g2:kD (Og s (M1 s).2.1 (M1 s).2.2) []=some (.int .i64 (L_ s).1,Og s (L_ s).2.1 (L_ s).2.2):=IS s _ _ hl b1.1;have g3:kD (Og s (L_ s).2.1 (L_ s).2.2) []=some (.int .i64 (M_ s).1,Og s (M_ s).2.1 (M_ s).2.2):=IS s _ _ hl b2.1;have g4:kD (Og s (M_ s).2.1 (M_ s).2.2) []=some (.int .i64 (Hy s).1,Og s (Hy s).2.1 (Hy s).2.2):=IS s _ _ hl b3.1;have hn:((Hy s).1.toNat:Int)=(Hy s).1:=Qx b4.2.1;have ja:(Fu s).2.2.1<=s.length:=kN b4.1;have qa:(Fu s).1.length=(Hy s).1.toNat:=Vr;have d:aHx [.agg [.str s,.int .i64 ((Fu s).2.2.1:Int),.int .i64 (Fu s).2.2.2]]=some (.int .i64 (aGD s.length (Fu s).2.2.1 (Fu s).2.2.2)):=aHw s _ _ hl ja;have i:=oB;have aa:=Gl (eM s) 6 false (by show(Fu s).1.length<=1000;omega);have hA:Fu s=LF s (Hy s).1.toNat (Hy s).2.1 (Hy s).2.2:=rfl;unfold B8;unfold Ts at aa;unfold Og at g1 g2 g3 g4;have hS:eM s=⟨(M1 s).1,decide ((L_ s).1=1),(M_ s).1,decide ((Hy s).1.toNat=0),(Fu s).1⟩:=rfl;unfold GB at aa ⊢;generalize DA (eM s) 6=w at *;generalize aGD s.length (Fu s).2.2.1 (Fu s).2.2.2=en at *;rw[hS]at aa ⊢;clear hS;generalize Fu s=tot at *;generalize M1 s=n1 at *;generalize L_ s=n2 at *;generalize M_ s=n3 at *;generalize Hy s=n4 at *;obtain⟨v4,p4,e4⟩:=n4;simp only at *;generalize y:v4.toNat=n at *;rw[←hn]at g4;simp only[Gv,↓C2,Gp,simprocAttr,AC MB 55,Ub,g1,g2,g3,g4];refine Bf (n:=n) (I:=λj st=>st.s 28= .int .i64 (n:Int)∧st.s 29= .int .i64 (j:Int)∧st.s 4= .ptr [4] 0∧st.s 5= .ptr [9] 0∧st.s 2= .ptr [0] 0∧∃A od p e nl t,A.length=j∧p<=s.length∧A++(LF s (n-j) p e).1=tot.1∧(od||(LF s (n-j) p e).2.1)=(decide (1<n2.1)||tot.2.1)∧(LF s (n-j) p e).2.2=tot.2.2∧st.s 7= .bool od∧(st.m [4] 0=some (.str s)∧st.m [4] 1=some (.int .i64 (p:Int))∧st.m [4] 2=some (.int .i64 e))∧(st.m [9] 0=some (.int .i64 n1.1)∧st.m [9] 1=some (.bool (decide (n2.1=1)))∧st.m [9] 2=some (.int .i64 n3.1)∧st.m [9] 3=some (.slice nl t (A1 A)))∧nl=decide (j=0)∧LX [4,9] 10 _ 80 st.m st.c nl t) (λj hj ih st g hI=>?_) (λst g hI=>?_) 0 (Qu _) _ _ ⟨rfl,rfl,rfl,rfl,rfl,[],decide (1<n2.1),p4,e4,true,[],rfl,b4.1,by rw[hA];rfl,by rw[hA];rfl,by rw[hA];rfl,rfl,?_,?_,rfl,LX.start Xa⟩
 rotate_left 2
 ·grind [Gu.put]
 ·simp_all [Gu.put,A1]
 ·obtain⟨ka,fa,da⟩:=st;obtain⟨ba,f,h4,h5,h2,A,od,p,e,nl,t,v,hp,r,l,ga,h7,⟨x0,x1,x2⟩,⟨y0,y1,y2,y3⟩,pa,hG⟩:=hI;simp only at ba f h4 h5 h2 h7 x0 x1 x2 y0 y1 y2 y3 hG;refine Af UB.eq_1 ?_;have ea:((j:Int)<n):=by omega
  have oa:=nJ (j:=j);have hw:=wJ (j:=j) O;have q1:=El (e:=e) hp;have k1:=IS s p e hl hp;have k2:=IS s _ (Bm s p e).2.2 hl q1.1;have q2:=El (e:=(Bm s p e).2.2) q1.1;have ma:n-j=(n-(j+1))+1:=O
  rw[ma]at r l ga;unfold LF at r l ga;simp only at r l ga;generalize Bm s p e=a at *;generalize Bm s a.2.1 a.2.2=b at *;unfold Og at k1 k2;have u:=(hG.putx (q:=4) (o:=0) (ds:=[.str s,.int .i64 (a.2.1:Int),.int .i64 a.2.2]) U O).putx (q:=4) (o:=0) (ds:=[.str s,.int .i64 (b.2.1:Int),.int .i64 b.2.2]) U O;have sa:nl=true->A1 A=[]:=by
   rw[pa];intro h;have:A=[]:=QW.1 (by rw[v];simpa using h);rw[this];rfl
  have ia:A1 A++[.agg [.int .i64 a.1,.bool (decide (bits .and .i64 b.1 1≠0)),.bool (decide (bits .and .i64 b.1 2≠0))]]=A1 (A++[(a.1,decide (bits .and .i64 b.1 1≠0),decide (bits .and .i64 b.1 2≠0))]):=by simp[A1,rwD]
  have ua:(A1 A).length<256:=XF
  have na:(9=4)=False:=U
  have la:(4=9)=False:=U
  cases od with
  |true=>
   simp only[Gv,↓C2,Gp,simprocAttr,ba,f,ea,h4,h5,h7,AC MB 55,Ub,x0,x1,x2,y3,k1,k2];refine aB ⟨O,rfl,(LX.put u O).grow⟩ ?_;rw[BM sa,ia];have z:∀(c1 c2 k:Nat)(ds:List D)(xs:List D),da<=c1->da<=c2->∀q,q<10->GA.app ((((fa.put [4] 0 [.str s,.int .i64 (a.2.1:Int),.int .i64 a.2.2]).put [4] 0 [.str s,.int .i64 (b.2.1:Int),.int .i64 b.2.2]).put [c1] 0 ds)) (A6 80 [c2] (.slice nl t xs)) [q] k=((fa.put [4] 0 [.str s,.int .i64 (a.2.1:Int),.int .i64 a.2.2]).put [4] 0 [.str s,.int .i64 (b.2.1:Int),.int .i64 b.2.2]) [q] k:=λc1 c2 k ds xs e1 e2 q hq=>by
    have:=hG.le;rw[aX (LX.put u e1) e2 hq,aA Xb]
   have zz:=λ(c1 c2 k:Nat)(ds:List D)(xs:List D) e1 e2=>z c1 c2 k ds xs e1 e2 9 O
   have z4:=λ(c1 c2 k:Nat)(ds:List D)(xs:List D) e1 e2=>z c1 c2 k ds xs e1 e2 4 O
   have x:∀(c1 c2:Nat)(ds xs:List D),da<=c1->da<=c2->(Ag (GA.app ((((fa.put [4] 0 [.str s,.int .i64 (a.2.1:Int),.int .i64 a.2.2]).put [4] 0 [.str s,.int .i64 (b.2.1:Int),.int .i64 b.2.2]).put [c1] 0 ds)) (A6 80 [c2] (.slice nl t xs))) [9] 3 1).isSome=true:=λc1 c2 ds xs e1 e2=>by
    simp only[Ag,zz c1 c2 3 ds xs e1 e2];simp[Gu.put,y3]
   simp only[↓C2,Gt,h5,simprocAttr,Qp];refine aB (x _ _ _ _ O O) ?_;simp only[↓C2,Gy,simprocAttr,f,hw];refine ih _ _ ⟨ba,rfl,h4,h5,h2,A++[(a.1,decide (bits .and .i64 b.1 1≠0),decide (bits .and .i64 b.1 2≠0))],true,b.2.1,b.2.2,false,_,by simp[v],q2.1,by rw[←r];simp,by rw[←l];simp[],ga,rfl,⟨?_,?_,?_⟩,⟨?_,?_,?_,?_⟩,U,LX.putx (LX.app (LX.put u O) O Xa) U O⟩
   ·simp only;rw[aA U,z4 _ _ _ _ _ O O];simp[Gu.put]
   ·simp only;rw[aA U,z4 _ _ _ _ _ O O];simp[Gu.put]
   ·simp only;rw[aA U,z4 _ _ _ _ _ O O];simp[Gu.put]
   ·simp only;rw[aD U,zz _ _ _ _ _ O O];simp[Gu.put,y0]
   ·simp only;rw[aD U,zz _ _ _ _ _ O O];simp[Gu.put,y1]
   ·simp only;rw[aD U,zz _ _ _ _ _ O O];simp[Gu.put,y2]
   ·simp only;rw[E9];exact LU
  |false=>
   by_cases c3:3<b.1
   ·simp only[Gv,↓C2,Gp,simprocAttr,ba,f,ea,h4,h5,h7,AC MB 55,Ub,x0,x1,x2,y3,k1,k2,c3];refine aB ⟨O,rfl,(LX.put u O).grow⟩ ?_;rw[BM sa,ia];have z:∀(c1 c2 k:Nat)(ds:List D)(xs:List D),da<=c1->da<=c2->∀q,q<10->GA.app ((((fa.put [4] 0 [.str s,.int .i64 (a.2.1:Int),.int .i64 a.2.2]).put [4] 0 [.str s,.int .i64 (b.2.1:Int),.int .i64 b.2.2]).put [c1] 0 ds)) (A6 80 [c2] (.slice nl t xs)) [q] k=((fa.put [4] 0 [.str s,.int .i64 (a.2.1:Int),.int .i64 a.2.2]).put [4] 0 [.str s,.int .i64 (b.2.1:Int),.int .i64 b.2.2]) [q] k:=λc1 c2 k ds xs e1 e2 q hq=>by
     have:=hG.le;rw[aX (LX.put u e1) e2 hq,aA Xb]
    have zz:=λ(c1 c2 k:Nat)(ds:List D)(xs:List D) e1 e2=>z c1 c2 k ds xs e1 e2 9 O
    have z4:=λ(c1 c2 k:Nat)(ds:List D)(xs:List D) e1 e2=>z c1 c2 k ds xs e1 e2 4 O
    have x:∀(c1 c2:Nat)(ds xs:List D),da<=c1->da<=c2->(Ag (GA.app ((((fa.put [4] 0 [.str s,.int .i64 (a.2.1:Int),.int .i64 a.2.2]).put [4] 0 [.str s,.int .i64 (b.2.1:Int),.int .i64 b.2.2]).put [c1] 0 ds)) (A6 80 [c2] (.slice nl t xs))) [9] 3 1).isSome=true:=λc1 c2 ds xs e1 e2=>by
     simp only[Ag,zz c1 c2 3 ds xs e1 e2];simp[Gu.put,y3]
    simp only[↓C2,Gt,h5,simprocAttr,Qp];refine aB (x _ _ _ _ O O) ?_;simp only[↓C2,Gy,simprocAttr,f,hw];refine ih _ _ ⟨ba,rfl,h4,h5,h2,A++[(a.1,decide (bits .and .i64 b.1 1≠0),decide (bits .and .i64 b.1 2≠0))],true,b.2.1,b.2.2,false,_,by simp[v],q2.1,by rw[←r];simp,by rw[←l];simp[c3],ga,rfl,⟨?_,?_,?_⟩,⟨?_,?_,?_,?_⟩,U,LX.putx (LX.app (LX.put u O) O Xa) U O⟩
    ·simp only;rw[aA U,z4 _ _ _ _ _ O O];simp[Gu.put]
    ·simp only;rw[aA U,z4 _ _ _ _ _ O O];simp[Gu.put]
    ·simp only;rw[aA U,z4 _ _ _ _ _ O O];simp[Gu.put]
    ·simp only;rw[aD U,zz _ _ _ _ _ O O];simp[Gu.put,y0]
    ·simp only;rw[aD U,zz _ _ _ _ _ O O];simp[Gu.put,y1]
    ·simp only;rw[aD U,zz _ _ _ _ _ O O];simp[Gu.put,y2]
    ·simp only;rw[E9];exact LU
   ·simp only[Gv,↓C2,Gp,simprocAttr,ba,f,ea,h4,h5,h7,AC MB 55,Ub,x0,x1,x2,y3,k1,k2,c3];refine aB ⟨O,rfl,(LX.put u O).grow⟩ ?_;rw[BM sa,ia];have z:∀(c1 c2 k:Nat)(ds:List D)(xs:List D),da<=c1->da<=c2->∀q,q<10->GA.app ((((fa.put [4] 0 [.str s,.int .i64 (a.2.1:Int),.int .i64 a.2.2]).put [4] 0 [.str s,.int .i64 (b.2.1:Int),.int .i64 b.2.2]).put [c1] 0 ds)) (A6 80 [c2] (.slice nl t xs)) [q] k=((fa.put [4] 0 [.str s,.int .i64 (a.2.1:Int),.int .i64 a.2.2]).put [4] 0 [.str s,.int .i64 (b.2.1:Int),.int .i64 b.2.2]) [q] k:=λc1 c2 k ds xs e1 e2 q hq=>by
     have:=hG.le;rw[aX (LX.put u e1) e2 hq,aA Xb]
    have zz:=λ(c1 c2 k:Nat)(ds:List D)(xs:List D) e1 e2=>z c1 c2 k ds xs e1 e2 9 O
    have z4:=λ(c1 c2 k:Nat)(ds:List D)(xs:List D) e1 e2=>z c1 c2 k ds xs e1 e2 4 O
    have x:∀(c1 c2:Nat)(ds xs:List D),da<=c1->da<=c2->(Ag (GA.app ((((fa.put [4] 0 [.str s,.int .i64 (a.2.1:Int),.int .i64 a.2.2]).put [4] 0 [.str s,.int .i64 (b.2.1:Int),.int .i64 b.2.2]).put [c1] 0 ds)) (A6 80 [c2] (.slice nl t xs))) [9] 3 1).isSome=true:=λc1 c2 ds xs e1 e2=>by
     simp only[Ag,zz c1 c2 3 ds xs e1 e2];simp[Gu.put,y3]
    simp only[↓C2,Gt,h5,simprocAttr,Qp];refine aB (x _ _ _ _ O O) ?_;simp only[↓C2,Gy,simprocAttr,f,hw];refine ih _ _ ⟨ba,rfl,h4,h5,h2,A++[(a.1,decide (bits .and .i64 b.1 1≠0),decide (bits .and .i64 b.1 2≠0))],false,b.2.1,b.2.2,false,_,by simp[v],q2.1,by rw[←r];simp,by rw[←l];simp[c3],ga,rfl,⟨?_,?_,?_⟩,⟨?_,?_,?_,?_⟩,U,LX.putx (LX.app (LX.put u O) O Xa) U O⟩
    ·simp only;rw[aA U,z4 _ _ _ _ _ O O];simp[Gu.put]
    ·simp only;rw[aA U,z4 _ _ _ _ _ O O];simp[Gu.put]
    ·simp only;rw[aA U,z4 _ _ _ _ _ O O];simp[Gu.put]
    ·simp only;rw[aD U,zz _ _ _ _ _ O O];simp[Gu.put,y0]
    ·simp only;rw[aD U,zz _ _ _ _ _ O O];simp[Gu.put,y1]
    ·simp only;rw[aD U,zz _ _ _ _ _ O O];simp[Gu.put,y2]
    ·simp only;rw[E9];exact LU
 ·obtain⟨ka,fa,da⟩:=st;obtain⟨ba,f,h4,h5,h2,A,od,p,e,nl,t,v,hp,r,l,ga,h7,⟨x0,x1,x2⟩,⟨y0,y1,y2,y3⟩,pa,hG⟩:=hI;simp only at ba f h4 h5 h2 h7 x0 x1 x2 y0 y1 y2 y3 hG;refine Af UB.eq_1 ?_;have m0:∀k,fa [0] k=_:=λk=>hG.low 0 k O U
  rw[Zu]at r l ga;unfold LF at r l ga;simp only[QI,Bool.or_false]at r l ga;rw[←l];rw[←r]at aa ⊢;rw[←ga]at d;simp only at d;rw[←pa]at aa ⊢;by_cases c1:en=3
  ·simp only[Gv,↓C2,Gp,simprocAttr,ba,f,h4,h2,Qz,x0,x1,x2,m0,Ae MB 56,d,c1]
   all_goals (first|rfl|exact⟨rfl,rfl⟩|(simp[*,sc0];done)|(simp[*,sc0];rfl))
  ·have ca:(en=3)=False:=eq_false c1;by_cases c2:en=0
   ·subst c2;cases od with
    |true=>
     simp only[Gv,↓C2,Gp,simprocAttr,ba,f,h4,h7,Qz,x0,x1,x2,Ae MB 56,d];refine AS ?_;simp only[Gv,↓C2,Gp,simprocAttr,h2,m0]
     all_goals (first|rfl|exact⟨rfl,rfl⟩|(simp[*,sc0];done)|(simp[*,sc0];rfl))
    |false=>
     cases w with
     |true=>
      simp only[if_true]at aa;simp only[Gv,↓C2,Gp,simprocAttr,ba,f,h4,h5,h7,Qz,x0,x1,x2,y0,y1,y2,y3,Ae MB 56,d,Ae MB 57,i,Ae MB 25,aa];refine AS ?_;simp only[Gv,↓C2,Gp,simprocAttr,h2,m0]
      all_goals (first|rfl|exact⟨rfl,rfl⟩|(simp[*,sc0];done)|(simp[*,sc0];rfl))
     |false=>
      simp only[if_false,Qs]at aa;simp only[Gv,↓C2,Gp,simprocAttr,ba,f,h4,h5,h7,Qz,x0,x1,x2,y0,y1,y2,y3,Ae MB 56,d,Ae MB 57,i,Ae MB 25,aa];refine AS ?_;simp only[Gv,↓C2,Gp,simprocAttr,h2,h5,m0,y0,y1,y2,y3]
      all_goals (first|rfl|exact⟨rfl,rfl⟩|(simp[*,sc0];done)|(simp[*,sc0];rfl))
   ·have ha:(en=0)=False:=eq_false c2;simp only[Gv,↓C2,Gp,simprocAttr,ba,f,h4,Qz,x0,x1,x2,Ae MB 56,d,ca,ha];refine AS ?_;simp only[Gv,↓C2,Gp,simprocAttr,h2,m0]
    all_goals (first|rfl|exact⟨rfl,rfl⟩|(simp[*,sc0];done)|(simp[*,sc0];rfl))
def aL5:=y0 f213 [] []
def aTZ:=y0 f52 [] []
def aUi:=y0 f22 [] []
def aL2:=y0 f215 [] []
def aT3:=y0 f67 [(3,[(2,0)])] []
def Ov:=y1 f124 2 [] []
def aKK:=y0 f124 [] [(2,Ov)]
def UF:=y1 f70 14 [] []
def aLo:=y0 f70 [(18,[(3,6),(3,10),(7,10)])] [(14,UF)]
def aL9:=y0 f30 [] []
def aMa:=y0 f37 [] []
def aLn:=y0 f26 [] []
def aBH:=y0 f211 [] []
def aL8:=y0 f210 [] []
def UC:=y1 f270 2 [] []
def aLh:=y0 f270 [] [(2,UC)]
def aLZ:=y0 f220 [] []
def aUr:=y0 f155 [] []
def AX(k:Int)(name:Bs)(n:Int):Bs:=if BX k name n≠0 then []else if k=1 then [109,47]++name else if k=2 then [100,47]++name++[0,UInt8.ofNat (IntKind.u8.wrap n).toNat]else if k=3 then [116,47]++name else if k=4 then [115,47,109,111,117,110,116,115]else [115,47,114,105,110,103]
def aEm{k n:Int}{name:Bs}(h:name.length<=1000000):F98 [.agg [.int .u8 k,.str name,.int .i64 n]]=some (.int .i64 (BX k name n)):=if_pos h
def Ir{a b:Bs}(h:a.length+b.length<=9223372036854775807):AM .add (.str a) (.str b)=some (.str (a++b)):=by simp[AM,h]
def jT:=Ap [(53,Ac F98)]
def aHY:=RF jT aLn [.t 2,.t 3] 35
def aJF:Kq aHY 26:=An (Aj func26) (Aa aFR Ad)
def oK(k n:Int)(name:Bs)(hl:name.length<=1000000):aHY [.agg [.int .u8 k,.str name,.int .i64 n]]=some (.tup [.str (AX k name n),.int .i64 (BX k name n)]):=by
 refine Am (Qa rfl) ?_;unfold aLn;have u:=aEm (k:=k) (n:=n) hl;have a1:∀x y,AM .add (.str [x,y]) (.str name)=some (.str ([x,y]++name)):=λx y=>Ir YA
 have o:∀a,Bp [.int .u8 0,.int .u8 a]=some [0,UInt8.ofNat a.toNat]:=λ_=>rfl
 unfold AX;generalize BX k name n=e at *;by_cases v:e=0
 ·subst v;by_cases c1:k=1
  ·have w:=eq_true c1;simp only[Gv,↓C2,Gp,simprocAttr,Ae jT 53,u,w,a1]
   all_goals exact YT
  have w:=eq_false c1;by_cases m:k=2
  ·have p:=eq_true m;have r:=λz (hz:z.length<=100)=>Ir (a:=[100,47]++name) (b:=z) YB
   have i:=λc d=>r [c,d] U
   simp only[Gv,↓C2,Gp,simprocAttr,Ae jT 53,u,w,p,a1,i,o]
   all_goals exact YT
  have p:=eq_false m;by_cases t:k=3
  ·have f:=eq_true t;simp only[Gv,↓C2,Gp,simprocAttr,Ae jT 53,u,w,p,f,a1]
   all_goals exact YT
  have f:=eq_false t;by_cases q:k=4
  ·have g:=eq_true q;simp only[Gv,↓C2,Gp,simprocAttr,Ae jT 53,u,w,p,f,g]
   all_goals exact YT
  ·have g:=eq_false q;simp only[Gv,↓C2,Gp,simprocAttr,Ae jT 53,u,w,p,f,g]
   all_goals exact YT
 ·have h:=eq_false v;simp only[Gv,↓C2,Gp,simprocAttr,Ae jT 53,u,h]
  all_goals exact YT
def aU2:=Ap [(26,Ac aHY)]
def ES:List D->Option D:=RF aU2 aBH [.t 6] 18
def H9:Kq ES 211:=An (Aj func211:Fn Qe 211 18 aBH [.t 6]) (Aa aJF Ad)
def CF(k n:Int)(name:Bs)(hl:name.length<=1000000):ES [.int .u8 k,.str name,.int .i64 n]=some (.str (AX k name n)):=by
 refine Am (Qa rfl) ?_;unfold aBH;have a:=oK k n name hl;simp only[↓C2,Gt,Gp,simprocAttr,Ae aU2 26,a]
 all_goals exact YT
def aWV:=Ap []
def uW:=RF aWV aL5 [.t 2] 10
def aJL:Kq uW 213:=An (Aj func213) Ad
def U0(p:Bs)(hl:p.length<=1000000):uW [.str p]=some (.slice false [] [.str ([109,47]++p++[47]),.str ([100,47]++p++[47])]):=by
 refine Am (Qa rfl) ?_;unfold aL5;have a1:∀x y,AM .add (.str [x,y]) (.str p)=some (.str ([x,y]++p)):=λx y=>Ir YA
 have s:∀x y,AM .add (.str ([x,y]++p)) (.str [47])=some (.str ([x,y]++p++[47])):=λx y=>Ir YB
 simp only[↓C2,Gt,Gp,simprocAttr,a1,s]
 all_goals exact YT
def BJ(s:Bs):Int×Bs×Int:=if s=[115,47,109,111,117,110,116,115]then(4,[],0)else if s=[115,47,114,105,110,103]then(5,[],0)else if BQ s [109,47]=true then(1,s.drop 2,0)else if BQ s [116,47]=true then(3,s.drop 2,0)else
 if BQ s [100,47]=true∧2<(s.drop 2).length∧(s.drop 2).getD ((s.drop 2).length-2) 0=0 then(2,(s.drop 2).take ((s.drop 2).length-2),((s.drop 2).getD ((s.drop 2).length-1) 0).toNat)else(0,[],0)
def Dj(s:Bs):(Int×Bs×Int)×Int:=if BX (BJ s).1 (BJ s).2.1 (BJ s).2.2≠0 then((0,[],0),4)else(BJ s,0)
def kyD(k:Int×Bs×Int):D:= .agg [.int .u8 k.1,.str k.2.1,.int .i64 k.2.2]
def rK(s:Bs):(BJ s).2.1.length<=s.length:=by
 grind [BJ]
def S97:=Ap [(106,Ac vK)]
def R97:=RF S97 aTZ [.cell (some 3) 2] 64
def aV7:Kq R97 52:=An (Aj func52) (Aa aJo Ad)
def aPG(s:Bs)(hl:s.length<=1000000):R97 [.str s]=some (kyD (BJ s)):=by
 refine Am (Qa rfl) ?_;unfold aTZ;have c:∀a b:UInt8,vK [.str s,.str [a,b]]=some (.tup [.str (if BQ s [a,b]=true then s.drop 2 else s),.bool (BQ s [a,b])]):=λ_ _=>rfl
 unfold BJ kyD;by_cases c1:s=[115,47,109,111,117,110,116,115]
 ·have n:=eq_true c1;simp only[Gv,↓C2,Gp,simprocAttr,n]
  all_goals exact YT
 have n:=eq_false c1;by_cases u:s=[115,47,114,105,110,103]
 ·have p:=eq_true u;simp only[Gv,↓C2,Gp,simprocAttr,n,p]
  all_goals exact YT
 have p:=eq_false u;cases c3:BQ s [109,47]with
 |true=>
  simp only[Gv,↓C2,Gp,simprocAttr,Ae S97 106,c,n,p,c3]
  all_goals exact YT
 |false=>
  cases c4:BQ s [116,47]with
  |true=>
   simp only[Gv,↓C2,Gp,simprocAttr,Ae S97 106,c,n,p,c3,c4]
   all_goals exact YT
  |false=>
   cases c5:BQ s [100,47]with
   |false=>
    simp only[Gv,↓C2,Gp,simprocAttr,Ae S97 106,c,n,p,c3,c4,c5]
    all_goals exact YT
   |true=>
    have z:(s.drop 2).length<=1000000:=XQ
    generalize i:s.drop 2=r at *;by_cases q:2<r.length
    ·have e:((2:Int)<(r.length:Int))=True:=eq_true O;have k:IntKind.i64.wrap ((r.length:Int)-2)=((r.length-2:Nat):Int):=by rw[GS O O];omega
     have w:IntKind.i64.wrap (((r.length-2:Nat):Int)+1)=((r.length-1:Nat):Int):=Xh
     have t:(0:Int)<=((r.length-2:Nat):Int):=O
     have g:(0:Int)<=((r.length-1:Nat):Int):=O
     have o:(((r.length-2:Nat):Int)<=((r.length:Nat):Int))=True:=eq_true O;have v:r[r.length-2]?=some (r.getD (r.length-2) 0):=by simp[Zx,Qi (show r.length-2<r.length by omega)]
     have j:r[r.length-1]?=some (r.getD (r.length-1) 0):=by simp[Zx,Qi (show r.length-1<r.length by omega)]
     have m:((r.getD (r.length-2) 0).toNat:Int)=0↔r.getD (r.length-2) 0=0:=by
      constructor
      ·intro h;exact UInt8.toNat_inj.1 (by
        have:(r.getD (r.length-2) 0).toNat=0:=O
        rw[this];rfl)
      ·intro h;rw[h];rfl
     have f:IntKind.i64.wrap ((r.getD (r.length-1) 0).toNat:Int)=((r.getD (r.length-1) 0).toNat:Int):=GS O (by have:=(r.getD (r.length-1) 0).toNat_lt;omega);generalize r.getD (r.length-1) 0=y at *;generalize r.getD (r.length-2) 0=x at *;by_cases c7:x=0
     ·have d:((x.toNat:Int)=0)=True:=eq_true (m.2 c7);simp only[Gv,↓C2,Gp,simprocAttr,Ae S97 106,c,n,p,c3,c4,c5,e,k,w,t,g,o,v,j,d,f,Qh];refine AS ?_;simp only[Gv,↓C2,Gp,simprocAttr]
      all_goals exact YT
     ·have d:((x.toNat:Int)=0)=False:=eq_false (λh=>c7 (m.1 h));simp only[Gv,↓C2,Gp,simprocAttr,Ae S97 106,c,n,p,c3,c4,c5,e,k,t,v,d,Qh]
      all_goals exact YT
    ·have e:((2:Int)<(r.length:Int))=False:=eq_false O;simp only[Gv,↓C2,Gp,simprocAttr,Ae S97 106,c,n,p,c3,c4,c5,e]
     all_goals exact YT
def S38:=Ap [(52,Ac R97),(53,Ac F98)]
def R38:=RF S38 aUi [.cell (some 3) 2,.t 3] 12
def aWk:Kq R38 22:=An (Aj func22) (Aa aV7 (Aa aFR Ad))
def aPP(s:Bs)(hl:s.length<=1000000):R38 [.str s]=some (.tup [kyD (Dj s).1,.int .i64 (Dj s).2]):=by
 refine Am (Qa rfl) ?_;unfold aUi;have a:=aPG s hl;have z:=aEm (k:=(BJ s).1) (n:=(BJ s).2.2) (name:=(BJ s).2.1) (by have:=rK s;omega);unfold Dj;unfold kyD at *;generalize BX (BJ s).1 (BJ s).2.1 (BJ s).2.2=e at *;generalize BJ s=g at *;by_cases b:e=0
 ·subst b;simp only[Gv,↓C2,Gp,simprocAttr,Ae S38 52,a,Ae S38 53,z]
  all_goals exact YT
 ·have h:=eq_false b;simp only[Gv,↓C2,Gp,simprocAttr,Ae S38 52,a,Ae S38 53,z,h]
  all_goals exact YT
def aUq:=y0 Tryz.f156 [(2,[(3,1),(4,1)])] []
def aUg:=y0 f232 [] []
def aEX(w:World)(k:Nat)(f:0<k)(g:k<=1000000):
  Calls Qe 283 #[.slice none 0 0,.int .i64 (k:Int)] w λe s=>e= .returned (.slice (some ⟨w.heap.size,0,none⟩) 0 (grownCap w k 0 9))∧s=w.drew.alloc (.cells (Builtin.zeroCells #[.string .empty] k++Builtin.zeroCells #[.string .empty] (grownCap w k 0 9-k)) 9):=by
 have z:=Lib.run_append_nil_zeros (P:=Qe) w 23 3 23 9 Tryz.t9 (.string .empty) .i64 .i64 underlying23 underlying3 Z Z k f V O (by show k*16<=_;omega)
 go_enter func283,ntmps283
 go_wp2_with (first|(at_builtin;refine Lib.wpList_append_run _ rfl _ _ _ _ rfl _ _ rfl rfl _ _ z ?_))
 all_goals go_ret
 all_goals exact YY
def aV6:(Dq 9).ok Qe 283:=by
 refine L7 (sz:=1) ⟨_,func283,Z,Z⟩ V ⟨Tryz.t9,(.string .empty),Z,Z,Z,Z⟩ (λw k f g=>?_);refine(aEX w k f g).mono ?_;rintro e s ⟨rfl,rfl⟩;refine⟨_,_,grownCap_le_maxLen w k 0 9 Xs,?_,rfl,rfl⟩;have z:=grownCap_ge w k 0 9;simp only[Zf,size_zeroCells];simp;omega
def wE(w:World)(k:Nat)(f:0<k)(g:k<=1000000):
  Calls Qe 284 #[.slice none 0 0,.int .i64 (k:Int)] w λe s=>e= .returned (.slice (some ⟨w.heap.size,0,none⟩) 0 (grownCap w k 0 4))∧s=w.drew.alloc (.cells (Builtin.zeroCells #[.bool false] k++Builtin.zeroCells #[.bool false] (grownCap w k 0 4-k)) 4):=by
 have z:=Lib.run_append_nil_zeros (P:=Qe) w 160 3 160 4 Tryz.t4 (.bool false) .i64 .i64 underlying160 underlying3 Z Z k f V O (by show k*1<=_;omega)
 go_enter func284,ntmps284
 go_wp2_with (first|(at_builtin;refine Lib.wpList_append_run _ rfl _ _ _ _ rfl _ _ rfl rfl _ _ z ?_))
 all_goals go_ret
 all_goals exact YY
def aTO:(Dq 4).ok Qe 284:=by
 refine L7 (sz:=1) ⟨_,func284,Z,Z⟩ V ⟨Tryz.t4,(.bool false),Z,Z,Z,Z⟩ (λw k f g=>?_);refine(wE w k f g).mono ?_;rintro e s ⟨rfl,rfl⟩;refine⟨_,_,grownCap_le_maxLen w k 0 4 Xs,?_,rfl,rfl⟩;have z:=grownCap_ge w k 0 4;simp only[Zf,size_zeroCells];simp;omega
def wD(w:World)(k:Nat)(f:0<k)(g:k<=1000000):
  Calls Qe 285 #[.slice none 0 0,.int .i64 (k:Int)] w λe s=>e= .returned (.slice (some ⟨w.heap.size,0,none⟩) 0 (grownCap w k 0 23))∧s=w.drew.alloc (.cells (Builtin.zeroCells #[.slice none 0 0] k++Builtin.zeroCells #[.slice none 0 0] (grownCap w k 0 23-k)) 23):=by
 have z:=Lib.run_append_nil_zeros (P:=Qe) w 161 3 161 23 t23 (.slice none 0 0) .i64 .i64 underlying161 underlying3 Z Z k f V O (by show k*24<=_;omega)
 go_enter func285,ntmps285
 go_wp2_with (first|(at_builtin;refine Lib.wpList_append_run _ rfl _ _ _ _ rfl _ _ rfl rfl _ _ z ?_))
 all_goals go_ret
 all_goals exact YY
def aTN:(Dq 23).ok Qe 285:=by
 refine L7 (sz:=1) ⟨_,func285,Z,Z⟩ V ⟨t23,(.slice none 0 0),Z,Z,Z,Z⟩ (λw k f g=>?_);refine(wD w k f g).mono ?_;rintro e s ⟨rfl,rfl⟩;refine⟨_,_,grownCap_le_maxLen w k 0 23 Xs,?_,rfl,rfl⟩;have z:=grownCap_ge w k 0 23;simp only[Zf,size_zeroCells];simp;omega
def aTR:Fn Qe 229 36 (FS 9 9 1 16 283) [.t 2]:=⟨f229,_,func229,rfl,Z,rfl,Z,Z⟩
def S39:=Ap [(283,Dq 9)]
def R39:=RF S39 (FS 9 9 1 16 283) [.t 2] 36
def aSU:Kq R39 229:=An aTR (Aa aV6 Ad)
def jZ{nl:Bool}{xs:List D}{x:D}(hl:xs.length<=1000)(g:(xs++[x]).all (eA 1)=true):R39 [.slice false [] [.slice nl [] xs,.slice false [] [x]]]=some (.slice false [] (xs++[x])):=
 Am (Qa rfl) (PT (P:=Qe) (f:=39) O rfl (by simp[EM]) (Qa rfl) U Xb g λt m v=>⟨rfl,rfl⟩)
def aTQ:Fn Qe 230 36 (FS 9 4 1 1 284) [.t 2]:=⟨f230,_,func230,rfl,Z,rfl,Z,Z⟩
def S40:=Ap [(284,Dq 4)]
def R40:=RF S40 (FS 9 4 1 1 284) [.t 2] 36
def aWj:Kq R40 230:=An aTQ (Aa aTO Ad)
def aPK{nl:Bool}{xs:List D}{x:D}(hl:xs.length<=1000)(g:(xs++[x]).all (eA 1)=true):R40 [.slice false [] [.slice nl [] xs,.slice false [] [x]]]=some (.slice false [] (xs++[x])):=
 Am (Qa rfl) (PT (P:=Qe) (f:=40) O rfl (by simp[EM]) (Qa rfl) U Xb g λt m v=>⟨rfl,rfl⟩)
def aTP:Fn Qe 231 36 (FS 9 23 1 24 285) [.t 2]:=⟨f231,_,func231,rfl,Z,rfl,Z,Z⟩
def S41:=Ap [(285,Dq 23)]
def R41:=RF S41 (FS 9 23 1 24 285) [.t 2] 36
def aWi:Kq R41 231:=An aTP (Aa aTN Ad)
def aPJ{nl:Bool}{xs:List D}{x:D}(hl:xs.length<=1000)(g:(xs++[x]).all (eA 1)=true):R41 [.slice false [] [.slice nl [] xs,.slice false [] [x]]]=some (.slice false [] (xs++[x])):=
 Am (Qa rfl) (PT (P:=Qe) (f:=41) O rfl (by simp[EM]) (Qa rfl) U Xb g λt m v=>⟨rfl,rfl⟩)
def strsD(l:List Bs):List D:=l.map .str
def wZ(l:List Bs):aF (strsD l) 1=1:=XH
def AP(l:List Bs):(strsD l).length=l.length:=Qy ..
def Df{l:List Bs}{j:Nat}(h:j<l.length):(strsD l)[j]?=some (.str l[j]):=by simp[strsD,Qi h]
structure Kn where
 es:List (Bs×Bs×Bool)
 ls:List (Bs×Bool×List Bs)
def zX(x:Bs×Bool×List Bs):D:= .slice x.2.1 [] (strsD x.2.2)
def G6(k:Kn):List D:=[.slice k.es.isEmpty [] (k.es.map λx=> .str x.1),.slice k.es.isEmpty [] (k.es.map λx=> .str x.2.1),.slice k.es.isEmpty [] (k.es.map λx=> .bool x.2.2),.slice k.ls.isEmpty [] (k.ls.map λx=> .str x.1),.slice k.ls.isEmpty [] (k.ls.map zX)]
def aCP{α:Type}{f:α->D}(h:∀x,eA 1 (f x)=true)(l:List α)(y:α):(l.map f++[f y]).all (eA 1)=true:=by
 simp_all
def aUE{α:Type}(l:List α)(x:α):(l++[x]).isEmpty=false:=XH
def S42:=Ap []
def R42:=RF S42 aUg [.t 2] 8
def aWh:Kq R42 232:=An (Aj func232) Ad
def aPI{nl:Bool}{l:List Bs}(hl:l.length<=100000)(c:nl=true->l=[]):R42 [.slice nl [] (strsD l)]=some (.slice nl [] (strsD l)):=by
 refine Am (Qa rfl) ?_;unfold aUg;cases nl with
 |true=>
  rw[c rfl];simp only[↓C2,Gy,He,Gp,simprocAttr]
  all_goals exact YT
 |false=>
  simp only[↓C2,Gy,GI,Gp,simprocAttr];refine aB ⟨by rw[AP];omega,wZ l,.inr ⟨rfl,U⟩⟩ ?_;simp only[↓C2,Gt,Gp,simprocAttr]
def S12:=Ap [(229,Ac R39),(230,Ac R40)]
def R12:=RF S12 aUr [.cell (some 5) 8] 31
def aWn:Kq R12 155:=An (Aj func155) (Aa aSU (Aa aWj Ad))
def aQk(k:Kn)(z r:Bs)(d:Bool)(hl:k.es.length<=1000):R12 [.agg (G6 k),.str z,.str r,.bool d]=some (.agg (G6 {k with es:=k.es++[(z,r,d)]})):=by
 refine Am (Qa rfl) ?_;unfold aUr;have u:=jZ (nl:=k.es.isEmpty) (xs:=k.es.map λx=> .str x.1) (x:= .str z) Xj (aCP (f:=λx:Bs×Bs×Bool=> .str x.1) (λ_=>rfl) k.es (z,r,d));have t:=jZ (nl:=k.es.isEmpty) (xs:=k.es.map λx=> .str x.2.1) (x:= .str r) Xj (aCP (f:=λx:Bs×Bs×Bool=> .str x.2.1) (λ_=>rfl) k.es (z,r,d));have i:=aPK (nl:=k.es.isEmpty) (xs:=k.es.map λx=> .bool x.2.2) (x:= .bool d) Xj (aCP (f:=λx:Bs×Bs×Bool=> .bool x.2.2) (λ_=>rfl) k.es (z,r,d));unfold G6;simp only[Q_,QD,Q2,aUE];simp only[Gv,↓C2,Gp,simprocAttr,Ae S12 229,u,t,Ae S12 230,i]
 all_goals exact YT
def S13:=Ap [(229,Ac R39),(231,Ac R41),(232,Ac R42)]
def R13:=RF S13 aUq [.cell (some 5) 6] 23
def aWm:Kq R13 156:=An (Aj func156) (Aa aSU (Aa aWi (Aa aWh Ad)))
def aQj(k:Kn)(p:Bs)(nl:Bool)(l:List Bs)(hl:k.ls.length<=1000)(e:l.length<=100000)(c:nl=true->l=[]):R13 [.agg (G6 k),.str p,.slice nl [] (strsD l)]=some (.agg (G6 {k with ls:=k.ls++[(p,nl,l)]})):=by
 refine Am (Qa rfl) ?_;unfold aUq;have u:=jZ (nl:=k.ls.isEmpty) (xs:=k.ls.map λx=> .str x.1) (x:= .str p) Xj (aCP (f:=λx:Bs×Bool×List Bs=> .str x.1) (λ_=>rfl) k.ls (p,nl,l));have z:=aPI (nl:=nl) (l:=l) e c;have i:=aPJ (nl:=k.ls.isEmpty) (xs:=k.ls.map zX) (x:=zX (p,nl,l)) Xj (aCP (f:=zX) (λ_=>rfl) k.ls (p,nl,l));have w:zX (p,nl,l)= .slice nl [] (strsD l):=rfl;rw[w]at i;unfold G6;simp only[Q_,QD,Q2,aUE,w];simp only[Gv,↓C2,Gp,simprocAttr,Ae S13 229,u,Ae S13 232,z,Ae S13 231,i];refine AS ?_;simp only[Gv,↓C2,Gp,simprocAttr]
 all_goals exact YT
def BC:List Bs->Bs->Int
 |[],_=>-1
 |x::r,s=>if 0<=BC r s then BC r s+1 else if x=s then 0 else-1
def EJ:∀(l:List Bs)(s:Bs),-1<=BC l s∧BC l s<l.length
 |[],s=>by simp[BC]
 |x::r,s=>by
  have:=EJ r s;unfold BC;simp only[Qg];split
  ·omega
  ·split<;>omega
def Pu:∀{l:List Bs} {s:Bs},(∀i (h:i<l.length),l[i]≠s)->BC l s=-1
 |[],s,_=>rfl
 |x::r,s,h=>by
  have ih:=Pu (l:=r) (s:=s) (λi hi=>h (i+1) (by simpa using hi));have f:x≠s:=h 0 U;simp[BC,ih,f]
def WF:∀{l:List Bs} {s:Bs} {j:Nat} (q:j<l.length),l[j]=s->(∀i (h:i<l.length),j<i->l[i]≠s)->BC l s=j
 |x::r,s,0,q,hx,h=>by
  have ih:=Pu (l:=r) (s:=s) (λi hi=>h (i+1) (by simpa using hi) O);have f:x=s:=hx;simp[BC,ih,f]
 |x::r,s,j+1,q,hx,h=>by
  have ih:=WF (l:=r) (s:=s) (j:=j) Xu (by simpa using hx) (λi hi p=>h (i+1) (by simpa using hi) O);unfold BC;rw[if_pos O,ih];omega
def aWR:=Ap []
def uT:=RF aWR aLh [.t 4] 20
def aJE:Kq uT 270:=An (Aj func270) Ad
def oJ{nl:Bool}{l:List Bs}(q:Bs)(hl:l.length<=1000):uT [.slice nl [] (strsD l),.str q]=some (.int .i64 (BC l q)):=by
 refine Am (Qa rfl) ?_;unfold aLh;have k:IntKind.i64.wrap ((l.length:Int)-1)=(l.length:Int)-1:=GS O O;simp only[↓C2,Gy,simprocAttr,AP,k];refine Bf (n:=l.length) (I:=λj y=>y.s 0= .slice nl [] (strsD l)∧y.s 1= .str q∧y.s 5= .int .i64 ((l.length:Int)-1-j)∧∀i (h:i<l.length),l.length<=i+j->l[i]≠q) (λj t ih y g x=>?_) (λy g x=>?_) 0 (Qu _) _ _ ⟨rfl,rfl,by rw[show((0:Nat):Int)=0 from rfl,Int.sub_zero];rfl,λi h z=>O⟩
 ·obtain⟨ka,p,c⟩:=y;obtain⟨f,u,h5,v⟩:=x;simp only at f u h5;refine Af UC.eq_1 ?_;have w:(0:Int)<=(l.length:Int)-1-j:=by omega
  have hw:IntKind.i64.wrap ((l.length:Int)-1-j-1)=(l.length:Int)-1-((j+1:Nat):Int):=Xh
  have hi:((l.length:Int)-1-j).toNat=l.length-1-j:=O
  have m:=Df (l:=l) (j:=l.length-1-j) O;by_cases d:l[l.length-1-j]' O=q
  ·have e:=WF O d (λi h z=>v i h O);have o:=eq_true d;have a:((l.length-1-j:Nat):Int)=(l.length:Int)-1-j:=by omega
   simp only[↓C2,Gt,Gp,simprocAttr,f,u,h5,w,hi,m,o];rw[e,a]
   all_goals exact YT
  ·have o:=eq_false d;simp only[↓C2,Gt,Gp,simprocAttr,f,u,h5,w,hi,m,o,hw];refine ih _ _ ⟨f,u,rfl,λi h z=>?_⟩;by_cases b:l.length<=i+j
   ·exact v i h b
   ·grind
 ·obtain⟨f,u,h5,v⟩:=x;refine Af UC.eq_1 ?_;have w:¬(0:Int)<=(l.length:Int)-1-(l.length:Int):=by omega
  have e:=Pu (l:=l) (s:=q) (λi h=>v i h O);simp only[↓C2,Gt,Gp,simprocAttr,h5,w];rw[e]
  all_goals exact YT
def E6(k:Kn):List Bs:=k.es.map (·.1)
def Db(k:Kn)(q:Bs):Bs×Bool×Bool:=if BC (E6 k) q<0 then([],false,false)else((k.es.getD (BC (E6 k) q).toNat ([],[],false)).2.1,(k.es.getD (BC (E6 k) q).toNat ([],[],false)).2.2,true)
def EQ(k:Kn)(q:Bs):Bool×List Bs×Bool:=if BC (k.ls.map (·.1)) q<0 then(true,[],false)else((k.ls.getD (BC (k.ls.map (·.1)) q).toNat ([],true,[])).2.1,(k.ls.getD (BC (k.ls.map (·.1)) q).toNat ([],true,[])).2.2,true)
def aPD:=Ap [(270,Ac uT)]
def N6:=RF aPD aLZ [.t 4,.t 5,.t 6] 37
def aJI:Kq N6 220:=An (Aj func220) (Aa aJE Ad)
def OQ(k:Kn)(q:Bs)(hl:k.es.length<=1000):N6 [.agg (G6 k),.str q]=some (.tup [.str (Db k q).1,.bool (Db k q).2.1,.bool (Db k q).2.2]):=by
 refine Am (Qa rfl) ?_;unfold aLZ;have a:uT [.slice k.es.isEmpty [] (k.es.map λx=> .str x.1),.str q]=some (.int .i64 (BC (E6 k) q)):=by
  have e:=oJ (nl:=k.es.isEmpty) (l:=E6 k) q (by simpa[E6]using hl);simpa[strsD,E6,Function.comp_def]using e
 have o:=EJ (E6 k) q;have w:(E6 k).length=k.es.length:=Qy ..;rw[w]at o;unfold Db G6;generalize BC (E6 k) q=i at *;by_cases c:i<0
 ·simp only[↓C2,Gt,Gp,simprocAttr,Ae aPD 270,a,c]
  all_goals exact YT
 ·have hi:i.toNat<k.es.length:=by omega
  have b:(0:Int)<=i:=O
  have c1:(i<(k.es.length:Int))=True:=eq_true O;have p:(k.es.map λx=>D.str x.2.1)[i.toNat]?=some (.str (k.es.getD i.toNat ([],[],false)).2.1):=by simp[Qi hi]
  have j:(k.es.map λx=>D.bool x.2.2)[i.toNat]?=some (.bool (k.es.getD i.toNat ([],[],false)).2.2):=by simp[Qi hi]
  generalize k.es.getD i.toNat ([],[],false)=x at *;simp only[↓C2,Gt,Gp,simprocAttr,Ae aPD 270,a,c,b,c1,p,j,Qy];refine AS ?_;simp only[↓C2,Gt,Gp,simprocAttr]
  all_goals exact YT
def aPE:=Ap [(270,Ac uT)]
def kA:=RF aPE aL2 [.t 4,.t 5] 27
def aTL:Kq kA 215:=An (Aj func215) (Aa aJE Ad)
def aIf(k:Kn)(q:Bs)(hl:k.ls.length<=1000):kA [.agg (G6 k),.str q]=some (.tup [.slice (EQ k q).1 [] (strsD (EQ k q).2.1),.bool (EQ k q).2.2]):=by
 refine Am (Qa rfl) ?_;unfold aL2;have a:uT [.slice k.ls.isEmpty [] (k.ls.map λx=> .str x.1),.str q]=some (.int .i64 (BC (k.ls.map (·.1)) q)):=by
  have e:=oJ (nl:=k.ls.isEmpty) (l:=k.ls.map (·.1)) q Xj;simpa[strsD,Function.comp_def]using e
 have o:=EJ (k.ls.map (·.1)) q;have w:(k.ls.map (·.1)).length=k.ls.length:=Qy ..;rw[w]at o;unfold EQ G6;generalize BC (k.ls.map (·.1)) q=i at *;by_cases c:i<0
 ·have b:¬(0:Int)<=i:=by omega
  simp only[↓C2,Gt,Gp,simprocAttr,Ae aPE 270,a,c,b]
  all_goals exact YT
 ·have hi:i.toNat<k.ls.length:=by omega
  have b:(0:Int)<=i:=O
  have c1:((k.ls.length:Int)<=i)=False:=eq_false O;have p:(k.ls.map zX)[i.toNat]?=some (.slice (k.ls.getD i.toNat ([],true,[])).2.1 [] (strsD (k.ls.getD i.toNat ([],true,[])).2.2)):=by simp[Qi hi,zX]
  generalize k.ls.getD i.toNat ([],true,[])=x at *;simp only[↓C2,Gt,Gp,simprocAttr,Ae aPE 270,a,c,b,c1,p,Qy]
  all_goals exact YT
structure Dk where
 n1:Bool
 its:List (Bs×Bs×Bool)
 n2:Bool
 lss:List (Bs×Bool×List Bs)
def A_(k:Kn)(q:Bs)(li:Bool)(d:Dk):Kn:=
 if li=true then {k with ls:=k.ls++[(q,((d.lss.find? λx=>decide (x.1=q)).getD ([],true,[])).2)]}else {k with es:=k.es++[(q,((d.its.find? λx=>decide (x.1=q)).getD ([],[],false)).2)]}
def aKR:=y0 f182 [] []
def aLG:=y0 f120 [] []
def aLH:=y0 f119 [] []
def aKI:=y0 f125 [] []
def aKH:=y0 f126 [] []
def aKG:=y0 f127 [] []
def plV:D->Value
 | .str s=> .string ⟨s.toArray⟩
 | .int k n=> .int k n
 | .bool b=> .bool b
 |_=>undef
def aNB{w:World}{g:Gh}{d:D}{v:Value}(h:Rep w g d v)(y:d.plain=true):v=plV d:=by
 cases h with
 |bool b=>rfl
 |int k n=>rfl
 |str s=>rfl
 |_=>cases y
def TI {P:Program} {f:FuncId} {F:List D→Option D} (a:∃fn,P.funcs[f]?=some fn∧fn.body.isSome=true∧(fn.name== "runtime.NumGoroutine")=false)
  (h:∀ds r,F ds=some r->(∀d∈ds,d.plain=true)∧∃v,(∀w g,Rep w g r v)∧∀w:World,Calls P f (ds.map plV).toArray w λe s=>e= .returned v∧Below w.heap.size w s):(Ac F).ok P f:=by
 refine⟨a,λds m m' fr _=>rfl,?_⟩;intro B w0 w m g fr ds vs r u hi fa hl c z;simp only[Ac]at z;split at z
 ·rename_i ia;rw[QZ]at z;obtain⟨r',n,z⟩:=z;simp only[QC]at z;obtain⟨rfl,rfl⟩:=z;obtain⟨t,v,x,y⟩:=h _ _ n;have k:vs=(ds.map D.un).map plV:=by
   apply List.ext_getElem?;intro j;by_cases q:j<vs.length
   ·have b:j<ds.length:=by omega
    have e:=(c j _ _ (Qi b) (Qi q)).un;have p:(ds.map D.un)[j]?=some ds[j].un:=by rw[Zv,Qi b];rfl
    rw[Qi q,Zv,p,aNB e (t _ (List.mem_of_getElem? p))];rfl
   ·simp_all
  subst k;refine(y w).mono ?_;rintro ev s ⟨rfl,o⟩;exact⟨_,g.over w s,rfl,hi.over o,GR.over hi.gz o,x _ _,λi hf _=>hf⟩
 ·cases z
def IX:List D->Option D
 |[.str s,.str [c]]=>some (.int .i64 (Lib.indexByte s c))
 |_=>none
def aTl:Kq IX 164:=TI ⟨_,func164,Z,Z⟩ λds r h=>by
 unfold IX at h;split at h
 ·rename_i s c;simp only[Ql]at h;subst h;refine⟨λd p=>?_,_,λw g=> .int _ _,λw=>?_⟩
  ·simp only[QO,QV,or_false]at p;rcases p with rfl|rfl<;>rfl
  ·refine(Go.Proofs.Any.strings_Index_one (P:=Qe) (ρ:=aN) {aO with} ⟨s.toArray⟩ c w).mono ?_;rintro e t ⟨rfl,rfl⟩;exact⟨rfl,Below.refl _ _⟩
 ·cases h
def aS2:Kq IX 237:=TI ⟨_,func237,Z,Z⟩ λds r h=>by
 unfold IX at h;split at h
 ·rename_i s c;simp only[Ql]at h;subst h;refine⟨λd p=>?_,_,λw g=> .int _ _,λw=>?_⟩
  ·simp only[QO,QV,or_false]at p;rcases p with rfl|rfl<;>rfl
  ·refine(Go.Proofs.Any.stringslite_Index_one (P:=Qe) (ρ:=aN) {aO with} ⟨s.toArray⟩ c w).mono ?_;rintro e t ⟨rfl,rfl⟩;exact⟨rfl,Below.refl _ _⟩
 ·cases h
def aAJ:∀(s:Bs)(c:UInt8),decide (0<=Lib.indexByte s c)=s.any (·==c)
 |[],c=>rfl
 |b::l,c=>by
  have ih:=aAJ l c;unfold Lib.indexByte;cases hb:b==c with
  |true=>simp[hb]
  |false=>
   simp only[ZE,hb,ZF,←ih];rw[if_neg QK];cases h1:Lib.indexByte l c==-1 with
   |true=>rw[if_pos rfl];have:=beq_iff_eq.1 h1;rw[this]
   |false=>
    rw[if_neg QK];have j:Lib.indexByte l c≠-1:=by intro e;rw[e]at h1;simp at h1
    have z:-1<=Lib.indexByte l c:=by
     clear ih hb h1 j;induction l with
     |nil=>simp[Lib.indexByte]
     |cons x r ih=>unfold Lib.indexByte;split<;>first|omega|(split<;>omega)
    congr 1;exact propext O
def NN(s:Bs)(c:UInt8):Bool:=s.any (·==c)
def T_(s:Bs):Bool:=decide (s≠[])&&(decide (s≠[45])&&(decide (s.length<=64)&&(!NN s 32&&!NN s 44)))
def aUQ:=Ap [(164,Ac IX)]
def aP4:=RF aUQ aKR [.t 4] 9
def aTe:Kq aP4 182:=An (Aj func182) (Aa aTl Ad)
def aHD(s:Bs)(c:UInt8):aP4 [.str s,.str [c]]=some (.bool (NN s c)):=by
 refine Am (Qa rfl) ?_;unfold aKR;have a:IX [.str s,.str [c]]=some (.int .i64 (Lib.indexByte s c)):=rfl;have e:=aAJ s c;simp only[↓C2,Gt,Gp,simprocAttr,Ae aUQ 164,a];rw[e]
 all_goals exact YT
def aPA:=Ap [(182,Ac aP4)]
def aVh:=RF aPA aLG [.t 2] 24
def aTy:Kq aVh 120:=An (Aj func120) (Aa aTe Ad)
def aH1(s:Bs):aVh [.str s]=some (.bool (T_ s)):=by
 refine Am (Qa rfl) ?_;unfold aLG;have a:=aHD s;unfold T_;by_cases c1:s=[]
 ·have n:=eq_true c1;simp only[↓C2,Gt,Gp,simprocAttr,n]
  all_goals exact YT
 have n:=eq_false c1;by_cases u:s=[45]
 ·have x:=eq_true u;simp only[↓C2,Gt,Gp,simprocAttr,n,x]
  all_goals exact YT
 have x:=eq_false u;by_cases t:s.length<=64
 ·have f:((s.length:Int)<=64)=True:=eq_true O;cases c4:NN s 32 with
  |true=>
   simp only[↓C2,Gt,Gp,simprocAttr,n,x,f,c4,Ae aPA 182,a]
   all_goals exact YT
  |false=>
   simp only[↓C2,Gt,Gp,simprocAttr,n,x,f,c4,Ae aPA 182,a]
   all_goals exact YT
 ·have f:((s.length:Int)<=64)=False:=eq_false O;simp only[↓C2,Gt,Gp,simprocAttr,n,x,f]
  all_goals exact YT
def aO9:(Im λc x=>match x with| .str s=>some (.bool (!T_ s))|_=>none).ok Qe 119:=by
 obtain⟨S,j,hl⟩:=Bd (Aa aTy Ad);have a:=hl 120 _ rfl;clear hl;refine Np (S:=S) j (Aj func119:Fn Qe 119 6 aLH [.t 2]) (λx caps m fr c d e z n hl=>⟨O,?_⟩);split at z
 ·rename_i s;simp only[Ql]at z;subst z;have b:=aH1 s;unfold aLH;simp only[↓C2,Gt,Gp,simprocAttr,Ab a,b]
  try exact λi o y h=>h
 ·cases z
def KN:D->D->Option D:=λc x=>match x with| .str s=>some (.bool (!T_ s))|_=>none
def aGw:(Fl 119 none KN).ok Qe 181:=Nb O aJ1 rfl aO9
def aO3:(eC 119 none KN).ok Qe 118:=nH O aJ5 aGw
def sU{l:List Bs}{nl:Bool}{t:Id}(hl:l.length<=1000000)(m:Gu)(fr:Id):
  (eC 119 none KN).ex [.slice nl t (strsD l),.fn 119 []] m fr=some (.bool (l.any λs=>!T_ s),[]):=by
 have e:(strsD l).map (KN .junk)=(l.map λs=>!T_ s).map λb=>some (.bool b):=by
  simp only[strsD,QR];exact Q3 λr _=>rfl
 have n:(strsD l).all (mS none)=true:=by
  rw[QT];intro x q;obtain⟨r,_,rfl⟩:=QL.1 q;rfl
 simp only[eC,AP,hl,n,and_self,if_true,Fp,Qj,e,C5,Qv];simp only[Zt];rfl
def aWM:=Ap []
def aP8:=RF aWM aKU [.t 4] 26
def aTi:Kq aP8 179:=An (Aj func179) Ad
def aHI{n1 n2:Bool}{l:List Bs}(hl:l.length<=100000):aP8 [.slice n1 [] (strsD l),.slice n2 [] (strsD l)]=some (.bool true):=by
 refine Am (Qa rfl) ?_;unfold aKU;simp only[↓C2,Gy,GI,Gp,simprocAttr,AP];refine Bf (n:=l.length) (I:=λj y=>y.s 0= .slice n1 [] (strsD l)∧y.s 1= .slice n2 [] (strsD l)∧y.s 12= .int .i64 l.length∧y.s 13= .int .i64 (j:Int)) (λj q ih y g m=>?_) (λy g m=>?_) 0 (Qu _) _ _ ⟨rfl,rfl,rfl,rfl⟩
 ·obtain⟨e,p,c⟩:=y;obtain⟨f,u,z,x⟩:=m;simp only at f u z x;refine Af Ux.eq_1 ?_;have r:((j:Int)<l.length):=by omega
  have w:=nJ (j:=j);have v:=wJ (j:=j) O;have d:=Df q;simp only[↓C2,Gt,Gp,simprocAttr,f,u,z,x,r,w,Qh,d];refine AS ?_;simp only[↓C2,Gy,Gp,simprocAttr,x,v];exact ih _ _ ⟨f,u,z,rfl⟩
 ·obtain⟨f,u,z,x⟩:=m;refine Af Ux.eq_1 ?_;simp only[↓C2,Gt,Gp,simprocAttr,z,x,Qz]
  all_goals exact YT
def aWC:=Ap []
def aPU:=RF aWC aKp [.t 4] 26
def aSZ:Kq aPU 244:=An (Aj func244) Ad
def aHo{n1 n2:Bool}{l:List Rw}(hl:l.length<=100000):aPU [.slice n1 [] (A1 l),.slice n2 [] (A1 l)]=some (.bool true):=by
 refine Am (Qa rfl) ?_;unfold aKp;simp only[↓C2,Gy,GI,Gp,simprocAttr,AN];refine Bf (n:=l.length) (I:=λj y=>y.s 0= .slice n1 [] (A1 l)∧y.s 1= .slice n2 [] (A1 l)∧y.s 12= .int .i64 l.length∧y.s 13= .int .i64 (j:Int)) (λj q ih y g o=>?_) (λy g o=>?_) 0 (Qu _) _ _ ⟨rfl,rfl,rfl,rfl⟩
 ·obtain⟨e,p,c⟩:=y;obtain⟨f,u,z,x⟩:=o;simp only at f u z x;refine Af Uu.eq_1 ?_;have r:((j:Int)<l.length):=by omega
  have w:=nJ (j:=j);have v:=wJ (j:=j) O;have d:=EZ q;have m:A8 [.int .i64 l[j].1,.bool l[j].2.1,.bool l[j].2.2] [.int .i64 l[j].1,.bool l[j].2.1,.bool l[j].2.2] [(0,0),(1,1),(1,2)]=some true:=by simp[A8,Ll]
  simp only[Qv,↓C2,Gt,Gp,simprocAttr,f,u,z,x,r,w,Qh,d,m];refine AS ?_;simp only[↓C2,Gy,Gp,simprocAttr,x,v];exact ih _ _ ⟨f,u,z,rfl⟩
 ·obtain⟨f,u,z,x⟩:=o;refine Af Uu.eq_1 ?_;simp only[↓C2,Gt,Gp,simprocAttr,z,x,Qz]
  all_goals exact YT
def aUR:=Ap [(244,Ac aPU)]
def aP7:=RF aUR aKT [.t 4] 31
def aTh:Kq aP7 180:=An (Aj func180) (Aa aSZ Ad)
def aHH(s:Sc)(hl:s.rs.length<=100000):aP7 [.agg (GB s),.agg (GB s)]=some (.bool true):=by
 refine Am (Qa rfl) ?_;unfold aKT;have a:=aHo (n1:=s.nl) (n2:=s.nl) hl;unfold GB;simp only[↓C2,Gt,Gp,simprocAttr,Ae aUR 244,a]
 all_goals exact YT
def aVm:List D->Option D:=FX (λs:Bs=>[.str s]) (λ_=>True) (λs=> .str (if s=[]then [45]else s))
def U3(s:Bs):aVm [.str s]=some (.str (if s=[]then [45]else s)):=BO (mk:=λs:Bs=>[.str s]) (λa b h=>Xn) trivial
def aRz:Kq aVm 331:=by
 refine CI (S:=λ_=>none) A2 (Aj func331:Fn Qe 331 6 aKs [.t 2]) (λ_=>U) (λs _=>?_);unfold aKs;cases s with
 |nil=>
  simp only[↓C2,Gt,reduceIte,Qb,Qd,and_self]
  all_goals exact YU
 |cons x r=>
  have d:((x::r)==([]:Bs))=false:=rfl;simp only[↓C2,Gt,reduceIte,Qb,Qd,reduceCtorEq]
  all_goals exact YU
def BT(n:Nat):Bs:=if n<10 then [Fm n]else if n<100 then [Fm (n / 10),Fm (n % 10)]else [Fm (n / 100),Fm (n / 10 % 10),Fm (n % 10)]
def aQt:List D->Option D:=FX (λn:Nat=>[.int .i64 (n:Int)]) (λn=>n<1000) (λn=> .str (BT n))
def U4{n:Nat}(h:n<1000):aQt [.int .i64 (n:Int)]=some (.str (BT n)):=BO (mk:=λn:Nat=>[.int .i64 (n:Int)]) (λa b h=>by simp only[Qc,D.int.injEq,true_and,and_true]at h;omega) h
def Tm(n:Nat):(n:Int).tmod 10=((n % 10:Nat):Int):=YG
def Tn(n:Nat)(h:n<1000):IntKind.i64.wrap ((n:Int).tdiv 10)=((n / 10:Nat):Int):=by
 grind [GS]
def aJd:Kq aQt 330:=by
 refine CI (S:=λ_=>none) A2 (Aj func330:Fn Qe 330 23 aKt [.t 2]) (λ_=>U) (λn c=>?_);have t0:=PC (n % 10) O;have j:=PC (n / 10 % 10) O;have p:=PC (n / 10 / 10 % 10) O;have m0:=Tm n;have x:=Tm (n / 10);have v:=Tm (n / 10 / 10);have i:=Tn n c;have d:=Tn (n / 10) O;have o:=Tn (n / 10 / 10) O;have z0:(0:Int)<=((n % 10:Nat):Int):=O
 have b:(0:Int)<=((n / 10 % 10:Nat):Int):=O
 have r:(0:Int)<=((n / 10 / 10 % 10:Nat):Int):=O
 have ten:((10:Int)=0)=False:=U
 unfold aKt BT;by_cases u:n<10
 ·have g:¬((0:Int)<((n / 10:Nat):Int)):=by omega
  have e:n % 10=n:=O
  simp only[↓C2,Gt,reduceIte,Qb,Qd,m0,z0,t0,i,ten,ne_eq,Qh,Qg,Qm,Qp];refine Af Hj.eq_1 ?_;simp only[↓C2,Gt,reduceIte,Qb,Qd,g,u];rw[e,UInt8.ofNat_toNat]
  all_goals exact YU
 ·have g:((0:Int)<((n / 10:Nat):Int)):=by omega
  by_cases z:n<100
  ·have k:¬((0:Int)<((n / 10 / 10:Nat):Int)):=by omega
   have e:n / 10 % 10=n / 10:=O
   rw[e]at j x b;simp only[↓C2,Gt,reduceIte,Qb,Qd,m0,z0,t0,i,ten,ne_eq,Qh,Qg,Qm,Qp];refine Af Hj.eq_1 ?_;simp only[↓C2,Gt,reduceIte,Qb,Qd,g,x,b,j,d,ten,ne_eq,Qh,Qt,Qg,Qm,Qp,Qf];refine Af Hj.eq_1 ?_;simp only[↓C2,Gt,reduceIte,Qb,Qd,k,u,z,UInt8.ofNat_toNat,Q0,Zl]
   all_goals exact YU
  ·have k:((0:Int)<((n / 10 / 10:Nat):Int)):=by omega
   have q:¬((0:Int)<((n / 10 / 10 / 10:Nat):Int)):=O
   have e:n / 10 / 10 % 10=n / 100:=O
   rw[e]at p v r;simp only[↓C2,Gt,reduceIte,Qb,Qd,m0,z0,t0,i,ten,ne_eq,Qh,Qg,Qm,Qp];refine Af Hj.eq_1 ?_;simp only[↓C2,Gt,reduceIte,Qb,Qd,g,x,b,j,d,ten,ne_eq,Qh,Qt,Qg,Qm,Qp,Qf];refine Af Hj.eq_1 ?_;simp only[↓C2,Gt,reduceIte,Qb,Qd,k,v,r,p,o,ten,ne_eq,Qh,Qq,Qt,Qg,Qm,Qp,Qf];refine Af Hj.eq_1 ?_;simp only[↓C2,Gt,reduceIte,Qb,Qd,q,u,z,UInt8.ofNat_toNat,Q0,Zl]
   all_goals exact YU
def aQu:List D->Option D:=FX (λs:Bs=>[.str s]) (λs=>s.length<=1000000) (λs=> .str (ER s))
def U5{s:Bs}(h:s.length<=1000000):aQu [.str s]=some (.str (ER s)):=BO (mk:=λs:Bs=>[.str s]) (λa b h=>Xn) h
def aF6{S:Gq}{l:Bs}{Q:Ex->St->Prop}(o:l.length<=1000000)
  (j:∀y t,y.s 3= .slice false t (Ax (ER l))->Q (.exit 0) y):
  ∀(n k:Nat)(t:Id) y g,n=l.length-k->k<=l.length->y.s 13= .int .i64 (k:Int)->y.s 12= .int .i64 (l.length:Int)->y.s 11= .slice false [] (Ax l)->y.s 3= .slice false t (Ax (ER (l.take k)))->Gw y.m y.c 5 false t->
   A5 S [] Ou Q y g:=by
 intro n;induction n with
 |zero=>
  intro k t y g hn hk x z e i hg;refine Af Ou.eq_1 ?_;have:¬((k:Int)<l.length):=O
  simp only[↓C2,Gy,GI,reduceIte,Qd,x,z,this];refine j _ t ?_;rw[QG O]at i;simp only[↓C2,reduceIte,Qb,i]
 |succ n ih=>
  intro k t y g hn hk x z e i hg;refine Af Ou.eq_1 ?_;have r:((k:Int)<l.length):=O
  have sa:(0:Int)<=(k:Int):=O
  have w:k<l.length:=O
  have q:(Ax l)[(k:Int).toNat]?=some (.int .u8 (l[k].toNat:Int)):=by simp[Ax,w]
  have b:IntKind.i64.wrap ((k:Int)+1)=(k:Int)+1:=IntWalk.i64_in _ ⟨O,O⟩;have p:=l[k].toNat_lt;have na:l.take (k+1)=l.take k++[l[k]]:=by rw[Zg,Qi w];rfl
  have v:(l.take k).length=k:=Xb
  have a:(0:Int)<=4:=V
  have a1:=aVC l[k].toNat O;have f:=aUF l[k].toNat O;have p1:(0:Int)<=((l[k].toNat / 16:Nat):Int):=O
  have p2:(0:Int)<=((l[k].toNat % 16:Nat):Int):=O
  have q1:(((l[k].toNat / 16:Nat):Int)).toNat=l[k].toNat / 16:=Qh _;have q2:(((l[k].toNat % 16:Nat):Int)).toNat=l[k].toNat % 16:=Qh _;have u:=PC (l[k].toNat / 16) O;have d:=PC (l[k].toNat % 16) O;simp only[↓C2,Gt,reduceIte,Qb,Qd,Qg,Qm,x,z,e,i,r,sa,q,a,a1,f,p1,p2,q1,q2,u,d,false_and,reduceCtorEq];refine aB ⟨by rw[BL,DY,v];omega,rfl,hg.grow O⟩ ?_;simp only[↓C2,Gt,reduceIte,Qb,Qd];refine AS ?_;simp only[↓C2,Gt,reduceIte,Qb,Qd,x,b];refine ih (k+1) [y.c+1+3+8] _ _ O O rfl z e ?_ ?_
  ·rw[na,rH,DL];rfl
  ·grind [Gw.new]
def aJh:Kq aQu 14:=by
 refine CI (S:=λ_=>none) A2 (Aj func14:Fn Qe 14 29 aKJ [.t 2]) (λ_=>U) (λs o=>?_);have v:IntKind.i64.wrap (2*(s.length:Int))=2*(s.length:Int):=IntWalk.i64_in _ ⟨O,O⟩;have i:(0:Int)<=0:=V
 have q:(0:Int)<=2*(s.length:Int):=O
 have g:2*(s.length:Int)*2<=140737488355328:=O
 have b:(0:Int).toNat=0:=rfl;unfold aKJ;simp only[↓C2,Gt,reduceIte,Qb,Qd,v,i,q];refine aB O ?_;simp only[↓C2,Gy,reduceIte,Qb,Qd,b,List.replicate_zero,BL];refine aF6 (l:=s) o (λy x u=>?_) s.length 0 [4] _ _ rfl O rfl rfl rfl rfl (.inr ⟨4,rfl,Xa,by simp[Bk]⟩);simp only[↓C2,Gt,reduceIte,Qb,Qd,u,Cd]
 all_goals exact YU
end Go.Vd
namespace Go.Proofs
open Go.Shelf
def aQ:Go.Shelf.Ren:=⟨λ|156=>69|165=>121|166=>122|169=>123|240=>183|241=>184|276=>245|277=>246|n=>n,λ|31=>23|9=>9|3=>3|4=>4|0=>0|20=>20|72=>196|76=>200|70=>194|37=>108|75=>199|127=>252|164=>309|5=>5|80=>159|n=>n,λ|n=>n⟩
def aY:Go.Proofs.Lays.n156 Qe aQ:={
 mixed:=Z
 f156:=func69.trans (congrArg some Z)
 f165:=func121.trans (congrArg some Z)
 f166:=func122.trans (congrArg some Z)
 f169:=func123.trans (congrArg some Z)
 f240:=func183.trans (congrArg some Z)
 f241:=func184.trans (congrArg some Z)
 f276:=func245.trans (congrArg some Z)
 f277:=func246.trans (congrArg some Z)
 t0:=underlying0
 a0:=isAgg0
 z0:=sizeOf0
 v0:=zeroValue0
 t3:=underlying3
 a3:=isAgg3
 z3:=sizeOf3
 v3:=zeroValue3
 t4:=underlying4
 a4:=isAgg4
 z4:=sizeOf4
 v4:=zeroValue4
 t9:=underlying9
 a9:=isAgg9
 z9:=sizeOf9
 v9:=zeroValue9
 t20:=underlying20
 a20:=isAgg20
 z20:=sizeOf20
 v20:=zeroValue20
 t31:=underlying23
 a31:=isAgg23
 z31:=sizeOf23
 v31:=zeroValue23
 t37:=underlying108
 a37:=isAgg108
 z37:=sizeOf108
 v37:=zeroValue108
 t70:=underlying194
 a70:=isAgg194
 z70:=sizeOf194
 v70:=zeroValue194
 t72:=underlying196
 a72:=isAgg196
 z72:=sizeOf196
 v72:=zeroValue196
 t75:=underlying199
 a75:=isAgg199
 z75:=sizeOf199
 v75:=zeroValue199
 t76:=underlying200
 a76:=isAgg200
 z76:=sizeOf200
 v76:=zeroValue200
 t127:=underlying252
 a127:=isAgg252
 z127:=sizeOf252
 v127:=zeroValue252
 t164:=underlying309
 a164:=isAgg309
 z164:=sizeOf309
 v164:=zeroValue309}
def aL:Builder.Extra Qe aQ:={
 sizeBuilder:=Z
 liesBuilder:=Z
 t5:=underlying5
 a5:=isAgg5
 z5:=sizeOf5
 v5:=zeroValue5
 infoByte:=Z
 cellsByte:=Z
 sizeByte:=Z
 neB5:=V}
end Go.Proofs
namespace Go.Vd
open Go.Proofs Go.RowKit
inductive Ry where
 |fail (e:Int)
 |done
 |number (n:Int)
 |found (n:Int) (d:Bs)
 |about (s:Sc)
 |names (nl:Bool) (l:List Bs)
 |state (b:Bool)
def z0:List D:=[.int .i64 0,.bool false,.int .i64 0,.slice true [] []]
def GW:Ry->List D
 | .fail e=>[.int .u8 0,.int .i64 e,.int .i64 0,.str [],.slice true [] [],.int .i64 0,.bool false,.int .i64 0,.slice true [] [],.bool false]
 | .done=>[.int .u8 1,.int .i64 0,.int .i64 0,.str [],.slice true [] [],.int .i64 0,.bool false,.int .i64 0,.slice true [] [],.bool false]
 | .number n=>[.int .u8 2,.int .i64 0,.int .i64 n,.str [],.slice true [] [],.int .i64 0,.bool false,.int .i64 0,.slice true [] [],.bool false]
 | .found n d=>[.int .u8 3,.int .i64 0,.int .i64 n,.str d,.slice true [] [],.int .i64 0,.bool false,.int .i64 0,.slice true [] [],.bool false]
 | .about s=>[.int .u8 4,.int .i64 0,.int .i64 0,.str [],.slice true [] [],.int .i64 s.mx,.bool s.cas,.int .i64 s.la,.slice s.nl [] (A1 s.rs),.bool false]
 | .names nl l=>[.int .u8 5,.int .i64 0,.int .i64 0,.str [],.slice nl [] (strsD l),.int .i64 0,.bool false,.int .i64 0,.slice true [] [],.bool false]
 | .state b=>[.int .u8 6,.int .i64 0,.int .i64 0,.str [],.slice true [] [],.int .i64 0,.bool false,.int .i64 0,.slice true [] [],.bool b]
def xJ:Ry->Prop
 | .about s=>s.rs.length<=1000
 | .names _ l=>l.length<=1000
 |_=>True
def Hh:Ry->Int
 | .fail e=>if 1<=e∧e<=99 then 0 else 2
 | .number n=>if 0<=n∧n<=999 then 0 else 2
 | .found n d=>if 0<=n∧n<=999∧d.length<=400 then 0 else 2
 | .about s=>if DA s 6=true then 2 else 0
 | .names _ l=>if l.length<=64∧(l.any λs=>!T_ s)=false then 0 else 2
 |_=>0
def aPB:=Ap [(179,Ac aP8),(180,Ac aP7)]
def aH3:=RF aPB aLJ [.t 4] 52
def aTA:Kq aH3 116:=An (Aj func116) (Aa aTi (Aa aTh Ad))
def Gm(k e n:Int)(u:Bs)(nl:Bool)(l:List Bs)(s:Sc)(i:Bool)(hl:l.length<=1000)(g:s.rs.length<=1000):aH3 [.agg [.int .u8 k,.int .i64 e,.int .i64 n,.str u,.slice nl [] (strsD l),.int .i64 s.mx,.bool s.cas,.int .i64 s.la,.slice s.nl [] (A1 s.rs),.bool i],.agg [.int .u8 k,.int .i64 e,.int .i64 n,.str u,.slice nl [] (strsD l),.int .i64 s.mx,.bool s.cas,.int .i64 s.la,.slice s.nl [] (A1 s.rs),.bool i]]=some (.bool true):=by
 refine Am (Qa rfl) ?_;unfold aLJ;have b:=aHI (n1:=nl) (n2:=nl) (l:=l) O;have a:=aHH s O;unfold GB at a;simp only[Gv,↓C2,Gp,simprocAttr,Ae aPB 179,b,Ae aPB 180,a]
 all_goals exact YT
def aFp(y:Ry)(h:xJ y):aH3 [.agg (GW y),.agg (GW y)]=some (.bool true):=by
 have m:strsD []=[]:=rfl;have w:A1 []=[]:=rfl;cases y with
 |fail e=>exact Gm 0 e 0 [] true [] sc0 false U XA
 |done=>exact Gm 1 0 0 [] true [] sc0 false U XA
 |number n=>exact Gm 2 0 n [] true [] sc0 false U XA
 |found n d=>exact Gm 3 0 n d true [] sc0 false U XA
 |about s=>exact Gm 4 0 0 [] true [] s false U h
 |names nl l=>exact Gm 5 0 0 [] nl l sc0 false h XA
 |state b=>exact Gm 6 0 0 [] true [] sc0 b U XA
def aWT:=Ap []
def aQg:=RF aWT aLI [.cell (some 10) 2] 52
def aTz:Kq aQg 117:=An (Aj func117) Ad
def aH2(y:Ry):aQg [.agg (GW y)]=some (.agg (GW y)):=by
 refine Am (Qa rfl) ?_;unfold aLI;cases y<;>unfold GW
 all_goals
  simp only[Gv,↓C2,Gp,simprocAttr]
  all_goals exact YT
def UZ:=Ap [(117,Ac aQg),(116,Ac aH3),(25,Ac IZ),(118,eC 119 none KN)]
def R92:=RF UZ aT3 [.t 2] 73
def aOa:Kq R92 67:=An (Aj func67) (Aa aTz (Aa aTA (Aa Pv (Aa aO3 Ad))))
def jX(y:Ry)(h:xJ y):R92 [.agg (GW y)]=some (.int .i64 (Hh y)):=by
 refine Am (Qa rfl) ?_;unfold aT3;have c:=aH2 y;have a:=aFp y h;cases y with
 |fail e=>
  unfold GW Hh at *;simp only[Gv,↓C2,Gp,simprocAttr,Ae UZ 117,c,Ae UZ 116,a];refine AS ?_;by_cases c1:1<=e
  ·by_cases u:e<=99
   ·simp only[↓C2,Gt,Gp,simprocAttr,c1,u]
    all_goals exact YT
   ·simp only[↓C2,Gt,Gp,simprocAttr,c1,u]
    all_goals exact YT
  ·simp only[↓C2,Gt,Gp,simprocAttr,c1]
   all_goals exact YT
 |done=>
  unfold GW Hh at *;simp only[Gv,↓C2,Gp,simprocAttr,Ae UZ 117,c,Ae UZ 116,a];refine AS ?_;simp only[↓C2,Gt,Gp,simprocAttr]
  all_goals exact YT
 |number n=>
  unfold GW Hh at *;simp only[Gv,↓C2,Gp,simprocAttr,Ae UZ 117,c,Ae UZ 116,a];refine AS ?_;by_cases c1:0<=n
  ·by_cases u:n<=999
   ·simp only[↓C2,Gt,Gp,simprocAttr,c1,u,Qm,Zr]
    all_goals exact YT
   ·simp only[↓C2,Gt,Gp,simprocAttr,c1,u]
    all_goals exact YT
  ·simp only[↓C2,Gt,Gp,simprocAttr,c1]
   all_goals exact YT
 |found n d=>
  unfold GW Hh at *;simp only[Gv,↓C2,Gp,simprocAttr,Ae UZ 117,c,Ae UZ 116,a];refine AS ?_;by_cases c1:0<=n
  ·by_cases u:n<=999
   ·by_cases c3:d.length<=400
    ·have f:((d.length:Int)<=400)=True:=eq_true O;simp only[↓C2,Gt,Gp,simprocAttr,c1,u,f]
     all_goals exact YT
    ·have f:((d.length:Int)<=400)=False:=eq_false O;simp only[↓C2,Gt,Gp,simprocAttr,c1,u,f]
     all_goals exact YT
   ·simp only[↓C2,Gt,Gp,simprocAttr,c1,u]
    all_goals exact YT
  ·simp only[↓C2,Gt,Gp,simprocAttr,c1]
   all_goals exact YT
 |about s=>
  have z:=Gl s 6 false h;unfold Ts GB at z;unfold GW Hh at *;simp only[Gv,↓C2,Gp,simprocAttr,Ae UZ 117,c,Ae UZ 116,a];refine AS ?_;cases hb:DA s 6 with
  |true=>
   rw[hb]at z;simp only[if_true]at z;simp only[Gv,↓C2,Gp,simprocAttr,Ae UZ 25,z]
   all_goals exact YT
  |false=>
   rw[hb]at z;simp only[if_false,Qs]at z;simp only[Gv,↓C2,Gp,simprocAttr,Ae UZ 25,z]
   all_goals exact YT
 |names nl l=>
  have g:=λ(m:Gu)(fr:Id)=>sU (l:=l) (nl:=nl) (t:=[]) (by have:l.length<=1000:=h;omega) m fr
  unfold GW Hh at *;simp only[Gv,↓C2,Gp,simprocAttr,Ae UZ 117,c,Ae UZ 116,a];refine AS ?_;by_cases c1:l.length<=64
  ·have w:((l.length:Int)<=64)=True:=eq_true O;cases u:l.any λs=>!T_ s with
   |true=>
    rw[u]at g;simp only[↓C2,Gt,Gp,simprocAttr,w,AP,AC UZ 118,g]
    all_goals exact YT
   |false=>
    rw[u]at g;simp only[↓C2,Gt,Gp,simprocAttr,w,AP,AC UZ 118,g]
    all_goals exact YT
  ·have w:((l.length:Int)<=64)=False:=eq_false O;simp only[↓C2,Gt,Gp,simprocAttr,w,AP]
   all_goals exact YT
 |state b=>
  unfold GW Hh at *;simp only[Gv,↓C2,Gp,simprocAttr,Ae UZ 117,c,Ae UZ 116,a];refine AS ?_;simp only[↓C2,Gt,Gp,simprocAttr]
  all_goals exact YT
def dgB:∀d:Fin 10,UInt8.ofNat (IntKind.u8.wrap (48+((d.val:Nat):Int))).toNat=Fm d.val:=V
def dgO(n:Nat):UInt8.ofNat (IntKind.u8.wrap (IntKind.i64.wrap (48+((n % 10:Nat):Int)))).toNat=Fm (n % 10):=by
 rw[GS O O];exact dgB ⟨n % 10,O⟩
def un1(a:Int):Bp [.int .u8 a]=some [UInt8.ofNat a.toNat]:=rfl
theorem Dm(n:Nat):(BT n).length<=3:=by
 grind [BT]
def aWJ:=Ap []
def aHC:=RF aWJ aKK [.t 2] 17
def aJy:Kq aHC 124:=An (Aj func124) Ad
def IR(n:Nat)(h:n<1000):aHC [.int .i64 (n:Int)]=some (.str (BT n)):=by
 refine Am (Qa rfl) ?_;unfold aKK;have f:∀k:Nat,k<1000->IntKind.i64.wrap ((k:Int).tdiv 10)=((k / 10:Nat):Int):=Tn;have o:=f n h;have p:=f (n / 10) O;have y:=f (n / 10 / 10) O;have v:∀c:UInt8,AM .add (.str [c]) (.str [])=some (.str [c]):=λc=>Ir U
 have a1:∀c d:UInt8,AM .add (.str [c]) (.str [d])=some (.str [c,d]):=λc d=>Ir U
 have s:∀c d e:UInt8,AM .add (.str [c]) (.str [d,e])=some (.str [c,d,e]):=λc d e=>Ir U
 have i:∀k:Nat,AM .rem (.int .i64 (k:Int)) (.int .i64 10)=some (.int .i64 ((k % 10:Nat):Int)):=λk=>by rw[←Tm];rfl
 have j:∀k:Nat,AM .quo (.int .i64 (k:Int)) (.int .i64 10)=some (.int .i64 (IntKind.i64.wrap ((k:Int).tdiv 10))):=λk=>rfl
 unfold BT;simp only[↓C2,Gy,simprocAttr];refine Af Ov.eq_1 ?_;by_cases c1:n<10
 ·have b:(((n / 10:Nat):Int)=0)=True:=eq_true O;have r:n % 10=n:=by omega
  simp only[Qv,↓C2,Gt,Gp,simprocAttr,i,j,o,dgO,v,b];rw[r,if_pos c1]
 ·have b:(((n / 10:Nat):Int)=0)=False:=eq_false O;simp only[Qv,↓C2,Gt,Gp,simprocAttr,i,j,o,dgO,v,b];refine Af Ov.eq_1 ?_;by_cases u:n<100
  ·have r:(((n / 10 / 10:Nat):Int)=0)=True:=eq_true O;have q:n / 10 % 10=n / 10:=by omega
   simp only[Qv,↓C2,Gt,Gp,simprocAttr,i,j,p,dgO,a1,r];rw[q,if_neg c1,if_pos u]
  ·have r:(((n / 10 / 10:Nat):Int)=0)=False:=eq_false O;simp only[Qv,↓C2,Gt,Gp,simprocAttr,i,j,p,dgO,a1,r];refine Af Ov.eq_1 ?_;have t:(((n / 10 / 10 / 10:Nat):Int)=0)=True:=eq_true O;have z5:n / 10 / 10 % 10=n / 100:=by omega
   simp only[Qv,↓C2,Gt,Gp,simprocAttr,i,j,y,dgO,s,t];rw[z5,if_neg c1,if_neg u]
def rowW1(x:Rw):Bs:=BT x.1.toNat++(if x.2.1=true then [33]else [])++(if x.2.2=true then [35]else [])
def aUP:=Ap [(124,Ac aHC)]
def aP3:=RF aUP aKI [.t 2] 16
def aTd:Kq aP3 125:=An (Aj func125) (Aa aJy Ad)
def aHB(x:Rw)(h:0<=x.1∧x.1<1000):aP3 [.agg [.int .i64 x.1,.bool x.2.1,.bool x.2.2]]=some (.str (rowW1 x)):=by
 refine Am (Qa rfl) ?_;unfold aKI;have a:=IR x.1.toNat O;rw[Qx h.1]at a;have hl:=Dm x.1.toNat;unfold rowW1;generalize BT x.1.toNat=s at *;have a1:∀c:UInt8,AM .add (.str s) (.str [c])=some (.str (s++[c])):=λc=>Ir Xb
 have f:∀c d:UInt8,AM .add (.str (s++[c])) (.str [d])=some (.str (s++[c]++[d])):=λc d=>Ir Xb
 obtain⟨n,g,d⟩:=x;simp only at *;cases g<;>cases d
 all_goals
  simp only[↓C2,Gt,Gp,simprocAttr,Ae aUP 124,a,a1,f]
  all_goals exact YT
def aWI:=Ap []
def aP2:=RF aWI aKH [.t 2] 4
def aTc:Kq aP2 126:=An (Aj func126) Ad
def aHA(b:Bool):aP2 [.bool b]=some (.str [if b=true then 49 else 48]):=by
 refine Am (Qa rfl) ?_;unfold aKH;cases b
 all_goals
  simp only[↓C2,Gy,He,Gp,simprocAttr]
  all_goals exact YT
def CZ(l:List Bs):Bs:=if l=[]then [45]else Lib.join l [44]
def aJG:Kq WK 69:=aAI aY aL ⟨_,func69,Z,Z⟩
def WI{l:List Bs}{s:Bs}(h:l≠[]∧l.length<=1000∧Cr l<=1000000∧s.length<=1000∧(Lib.join l s).length<=10000000):WK [.slice false [] (strsD l),.str s]=some (.str (Lib.join l s)):=BO (mk:=mkJ) (a:=(l,s)) aF0 h
def aUO:=Ap [(69,Ac WK)]
def aP1:=RF aUO aKG [.t 2] 8
def aTb:Kq aP1 127:=An (Aj func127) (Aa aJG Ad)
def oD(nl:Bool)(l:List Bs)(o:nl=true->l=[])(h:l.length<=1000∧Cr l<=1000000∧(Lib.join l [44]).length<=10000000):aP1 [.slice nl [] (strsD l)]=some (.str (CZ l)):=by
 refine Am (Qa rfl) ?_;unfold aKG;unfold CZ;by_cases c:l=[]
 ·have c':((l.length:Int)=0)=True:=eq_true (by rw[c];rfl);simp only[↓C2,Gt,Gp,simprocAttr,c',AP];simp[c]
 ·have c':((l.length:Int)=0)=False:=eq_false (by
   intro e;exact c (QW.1 O))
  have n:nl=false:=by
   simp_all
  subst n;have m:=WI (l:=l) (s:=[44]) ⟨c,h.1,h.2.1,U,h.2.2⟩;simp only[↓C2,Gt,Gp,simprocAttr,c',AP,Ae aUO 69,m];simp[c]
def GZ:Ry->List Bs
 | .fail e=>[[101,114,114,111,114],BT e.toNat]
 | .done=>[[111,107]]
 | .number n=>[[111,107],[110,117,109,98,101,114],BT n.toNat]
 | .found n d=>[[111,107],[102,111,117,110,100],BT n.toNat,if d=[]then [45]else ER d]
 | .about s=>[[111,107],[97,98,111,117,116],BT s.mx.toNat,[if s.cas=true then 49 else 48],BT s.la.toNat,CZ (s.rs.map rowW1)]
 | .names _ l=>[[111,107],[110,97,109,101,115],CZ l]
 | .state b=>if b=true then [[111,107],[115,101,97,108,101,100]]else [[111,107],[111,112,101,110]]
def ryG:Ry->Prop
 | .fail e=>0<=e∧e<1000
 | .number n=>0<=n∧n<1000
 | .found n d=>0<=n∧n<1000∧d.length<=1000
 | .about s=>s.rs.length<=100∧(0<=s.mx∧s.mx<1000)∧(0<=s.la∧s.la<1000)∧∀x∈s.rs,0<=x.1∧x.1<1000
 | .names nl l=>l.length<=1000∧(nl=true->l=[])∧Cr l<=1000000
 |_=>True
theorem DX:∀(l:List Bs)(s:Bs),(Lib.join l s).length<=Cr l+l.length*s.length
 |[],s=>XO
 |[x],s=>by simp[Lib.join,Cr]
 |x::y::r,s=>by
  have ih:=DX (y::r) s;have e:Lib.join (x::y::r) s=x++s++Lib.join (y::r) s:=XO
  rw[e,Qq,Qq];simp only[Cr,Qg]at ih ⊢;rw[Nat.succ_mul];omega
def Sh(x:Rw):(rowW1 x).length<=5:=by
 grind [Dm,rowW1]
def LL:∀l:List Rw,Cr (l.map rowW1)<=5*l.length
 |[]=>by simp[Cr]
 |x::r=>by
  have:=LL r;have:=Sh x;simp only[QD,Cr,Qg];omega
def P6:=Ap [(124,Ac aHC),(126,Ac aP2),(127,Ac aP1),(125,Ac aP3),(14,Ac aQu)]
def aQf:=RF P6 aLo [.t 2] 78
def aTx:Kq aQf 70:=An (Aj func70) (Aa aJy (Aa aTc (Aa aTb (Aa aTd (Aa aJh Ad)))))
def aHZ(y:Ry)(h:ryG y):aQf [.agg (GW y)]=some (.slice false [] (strsD (GZ y))):=by
 refine Am (Qa rfl) ?_;unfold aLo;cases y with
 |fail e=>
  have a:=IR e.toNat XT;rw[Qx h.1]at a;unfold GW GZ strsD;simp only[↓C2,Gt,Gp,simprocAttr,Ae P6 124,a]
  all_goals exact YT
 |done=>
  unfold GW GZ strsD;simp only[↓C2,Gt,Gp,simprocAttr]
  all_goals exact YT
 |number n=>
  have a:=IR n.toNat XT;rw[Qx h.1]at a;unfold GW GZ strsD;simp only[↓C2,Gt,Gp,simprocAttr,Ae P6 124,a]
  all_goals exact YT
 |found n d=>
  have a:=IR n.toNat XT;rw[Qx h.1]at a;have i:=U5 (s:=d) (by have:=h.2.2;omega);unfold GW GZ strsD;by_cases c:d=[]
  ·have c':=eq_true c;simp only[↓C2,Gt,Gp,simprocAttr,Ae P6 124,a,c'];simp[]
  ·have c':=eq_false c;simp only[↓C2,Gt,Gp,simprocAttr,Ae P6 124,a,Ae P6 14,i,c'];simp[]
 |names nl l=>
  obtain⟨h1,z,v⟩:=h;have p:=oD nl l z ⟨h1,v,by have:=DX l [44];simp at this;omega⟩;unfold GW GZ;simp only[↓C2,Gt,Gp,simprocAttr,Ae P6 127,p]
  all_goals exact YT
 |state b=>
  unfold GW GZ strsD;cases b with
  |true=>
   simp only[↓C2,Gt,Gp,simprocAttr]
   all_goals exact YT
  |false=>
   simp only[↓C2,Gt,Gp,simprocAttr]
   all_goals exact YT
 |about s=>
  obtain⟨g1,g2,g3,g4⟩:=h;have h1:=IR s.mx.toNat O;rw[Qx g2.1]at h1;have z:=IR s.la.toNat O;rw[Qx g3.1]at z;have r:=aHA s.cas;have va:=LL s.rs;have p:=λnl hn=>oD nl (s.rs.map rowW1) hn ⟨Xb,O,by have:=DX (s.rs.map rowW1) [44];simp at this;omega⟩
  unfold GW GZ;simp only[↓C2,Gt,Gp,simprocAttr,AN];refine Bf (n:=s.rs.length) (I:=λj w=>w.s 38= .slice s.nl [] (A1 s.rs)∧w.s 39= .int .i64 s.rs.length∧w.s 40= .int .i64 (j:Int)∧w.s 1= .ptr [0] 0∧∃nl t,w.s 4= .slice nl t (strsD ((s.rs.take j).map rowW1))∧nl=decide (j=0)∧LG 1 _ 9 w.m w.c nl t) (λj hj ih w g hI=>?_) (λw g hI=>?_) 0 (Qu _) _ _ ⟨rfl,rfl,rfl,rfl,true,[],rfl,rfl,LG.start Xa⟩
  ·obtain⟨ka,fa,da⟩:=w;obtain⟨u,f,o,hp,nl,t,h4,pa,hG⟩:=hI;simp only at u f o hp h4 hG;refine Af UF.eq_1 ?_;have ea:((j:Int)<s.rs.length):=by omega
   have oa:=nJ (j:=j);have hw:=wJ (j:=j) O;have ja:=EZ hj;have q:=aHB s.rs[j] (g4 _ (QX hj));have na:strsD ((s.rs.take (j+1)).map rowW1)=strsD ((s.rs.take j).map rowW1)++[.str (rowW1 s.rs[j])]:=by
    rw[QF hj,Q_];simp[strsD]
   have ra:(strsD ((s.rs.take j).map rowW1)).length=j:=by simp[strsD];omega
   have ma:nl=true->strsD ((s.rs.take j).map rowW1)=[]:=by
    grind
   generalize strsD ((s.rs.take j).map rowW1)=ca at h4 na ra ma;generalize s.rs[j]=x at ja na q;simp only[Gv,↓C2,Gp,simprocAttr,u,f,o,h4,ea,oa,Qh,ja,Ae P6 125,q];refine aB ⟨O,rfl,Yr⟩ ?_;rw[BM ma,←na];simp only[↓C2,Gy,simprocAttr,o,hw];exact ih _ _ ⟨u,f,rfl,hp,false,_,rfl,U,YR⟩
  ·obtain⟨ka,fa,da⟩:=w;obtain⟨u,f,o,hp,nl,t,h4,pa,hG⟩:=hI;simp only at u f o hp h4 hG;refine Af UF.eq_1 ?_;have m0:∀k,fa [0] k=_:=λk=>hG.low 0 k O
   rw[Zi]at h4;have hh:=p nl (by
    rw[pa];intro h;have:s.rs.length=0:=Xn
    simp[QW.1 this])
   unfold strsD at h4 hh ⊢;simp only[↓C2,Gt,Gp,simprocAttr,f,o,hp,h4,Qz,m0,Ae P6 124,h1,z,Ae P6 126,r,Ae P6 127,hh];refine AS ?_;simp only[↓C2,Gy,He,Gp,simprocAttr]
   all_goals exact YT
def spJ(l:List Bs):Bs:=Lib.join l [32]
def Hg(y:Ry):Bs:=if Hh y=0 then spJ (GZ y)else []
def eY(y:Ry):GZ y≠[]:=by
 cases y<;>simp[GZ];split<;>simp
end Go.Vd
namespace Go.Proofs
open Go.Shelf
def aP:Go.Shelf.Ren:=⟨λ|168=>255|169=>123|240=>183|242=>308|276=>245|278=>329|277=>246|n=>n,λ|31=>23|9=>9|3=>3|4=>4|0=>0|20=>20|21=>21|72=>196|76=>200|70=>194|37=>108|75=>199|127=>252|164=>309|5=>5|80=>159|46=>109|51=>268|n=>n,λ|n=>n⟩
def bE:Go.Proofs.Lays.n168 Qe aP:={
 mixed:=Z
 f168:=func255.trans (congrArg some Z)
 f240:=func183.trans (congrArg some Z)
 f242:=func308.trans (congrArg some Z)
 f276:=func245.trans (congrArg some Z)
 f278:=func329.trans (congrArg some Z)
 t0:=underlying0
 a0:=isAgg0
 z0:=sizeOf0
 v0:=zeroValue0
 t3:=underlying3
 a3:=isAgg3
 z3:=sizeOf3
 v3:=zeroValue3
 t4:=underlying4
 a4:=isAgg4
 z4:=sizeOf4
 v4:=zeroValue4
 t5:=underlying5
 a5:=isAgg5
 z5:=sizeOf5
 v5:=zeroValue5
 t9:=underlying9
 a9:=isAgg9
 z9:=sizeOf9
 v9:=zeroValue9
 t20:=underlying20
 a20:=isAgg20
 z20:=sizeOf20
 v20:=zeroValue20
 t21:=underlying21
 a21:=isAgg21
 z21:=sizeOf21
 v21:=zeroValue21
 t37:=underlying108
 a37:=isAgg108
 z37:=sizeOf108
 v37:=zeroValue108
 t46:=underlying109
 a46:=isAgg109
 z46:=sizeOf109
 v46:=zeroValue109
 t51:=underlying268
 a51:=isAgg268
 z51:=sizeOf268
 v51:=zeroValue268
 t70:=underlying194
 a70:=isAgg194
 z70:=sizeOf194
 v70:=zeroValue194
 t72:=underlying196
 a72:=isAgg196
 z72:=sizeOf196
 v72:=zeroValue196
 t75:=underlying199
 a75:=isAgg199
 z75:=sizeOf199
 v75:=zeroValue199
 t164:=underlying309
 a164:=isAgg309
 z164:=sizeOf309
 v164:=zeroValue309}
def bF:Go.Proofs.Lays.n169 Qe aP:={
 mixed:=Z
 f169:=func123.trans (congrArg some Z)
 t0:=underlying0
 a0:=isAgg0
 z0:=sizeOf0
 v0:=zeroValue0
 t3:=underlying3
 a3:=isAgg3
 z3:=sizeOf3
 v3:=zeroValue3
 t9:=underlying9
 a9:=isAgg9
 z9:=sizeOf9
 v9:=zeroValue9
 t37:=underlying108
 a37:=isAgg108
 z37:=sizeOf108
 v37:=zeroValue108
 t70:=underlying194
 a70:=isAgg194
 z70:=sizeOf194
 v70:=zeroValue194
 t72:=underlying196
 a72:=isAgg196
 z72:=sizeOf196
 v72:=zeroValue196
 t127:=underlying252
 a127:=isAgg252
 z127:=sizeOf252
 v127:=zeroValue252}
def bC:Builder.Extra Qe aP:={
 sizeBuilder:=Z
 liesBuilder:=Z
 t5:=underlying5
 a5:=isAgg5
 z5:=sizeOf5
 v5:=zeroValue5
 infoByte:=Z
 cellsByte:=Z
 sizeByte:=Z
 neB5:=V}
end Go.Proofs
namespace Go.Ve
open Go.Vd
open Go.Proofs Go.RowKit
def six:List UInt8:=[114,119,100,120,108,115]
def Eg(c:Nat):Nat->List UInt8
 |0=>[]
 |k+1=>Eg c k++(if c / 2 ^ k % 2=1 then [six.getD k 0]else [])
structure aWY (w0:World) (c k:Nat) (a:Act) (w:World):Prop where
 slots:∃x4 x5 x7 x8 x9 x10 x11 x12 x13 x14 x15 x16 x17:Value,a={tmps:=#[.int .u8 (c:Int),undef,.string ⟨#[]⟩,.pointer (some ⟨w0.heap.size,0,none⟩),x4,x5,.pointer (some ⟨w0.heap.size+1,0,none⟩),x7,x8,x9,x10,x11,x12,x13,x14,x15,x16,x17,undef],defers:=[]}
 iter:w.heap[w0.heap.size+1]?=some (.stringIter ⟨#[114,119,100,120,108,115]⟩ k)
 bld:Lib.IsBuilderF 196 5 w0.heap.size w0.heap.size (Lib.byteCells (Eg c k)) w
 bel:Below w0.heap.size w0 w
def VK{P:Program}{w:World}{b:Nat}{s:ByteArray}{z:Nat}{ty:TypeId}(h:w.heap[b]?=some (.stringIter s z))(y:z<s.size):
  (Instr.next (.pointer (some ⟨b,0,none⟩)) true ty).run P w= .ok (.tuple #[.bool true,.int .i64 (z:Nat),.int .i32 (Utf8.decode s z).1]) {w with heap:=w.heap.setIfInBounds b (.stringIter s (z+(Utf8.decode s z).2))}:=by
 have p:(getObj b).run P w= .ok (.stringIter s z) w:=by simp[getObj,Sem.run,h]
 have x:∀o',(setObj b o').run P w= .ok () {w with heap:=w.heap.setIfInBounds b o'}:=by intro o';simp[setObj,Sem.run,h]
 simp only[Instr.next,Sem.run_bind,p,Result.andThen_ok,y,if_true];cases hd:Utf8.decode s z with
 |mk c v=>
  simp only[x,Result.andThen_ok,Sem.run_pure];rfl
def Tt{P:Program}{w:World}{b:Nat}{s:ByteArray}{z:Nat}{ty:TypeId}(h:w.heap[b]?=some (.stringIter s z))(y:¬z<s.size):
  (Instr.next (.pointer (some ⟨b,0,none⟩)) true ty).run P w= .ok (.tuple #[.bool false]) w:=by
 have p:(getObj b).run P w= .ok (.stringIter s z) w:=by simp[getObj,Sem.run,h]
 simp only[Instr.next,Sem.run_bind,p,Result.andThen_ok,y,if_false,Sem.run_pure]
def aGF:∀k,k<6->Utf8.decode ⟨#[114,119,100,120,108,115]⟩ k=((six.getD k 0).toNat,1):=Xl
def aGY:∀c:Nat,c<64->∀k,k<6->(bits BinOp.and IntKind.u8 ((c:Int) / 2 ^ k) 1==1)=decide (c / 2 ^ k % 2=1):=Xl
def xN:∀k,k<6->Lib.runeCells (((six[k]?.getD 0).toNat:Nat):Int)=Lib.byteCells [six.getD k 0]
 |0,_=>rfl
 |1,_=>rfl
 |2,_=>rfl
 |3,_=>rfl
 |4,_=>rfl
 |5,_=>rfl
 |k+6,h=>absurd h O
def Sq(c:Nat):∀k,(Eg c k).length<=k
 |0=>QB _
 |k+1=>by
  have:=Sq c k;unfold Eg;rw[Qq];split<;>simp<;>omega
def MQ{w:World}{d j:Nat}{o:Obj}(h:j≠d):(w.heap.setIfInBounds d o)[j]?=w.heap[j]?:=by
 grind
def aCF{w:World}{B b d:Nat}{bs:List Value}{o:Obj}{s:ByteArray}{p:Nat}(h:Lib.IsBuilderF 196 5 B b bs w)(hi:w.heap[d]?=some (.stringIter s p)):Lib.IsBuilderF 196 5 B b bs {w with heap:=w.heap.setIfInBounds d o}:=by
 have z:∀q,Lib.BuilderAtF 196 5 B b q bs w->Lib.BuilderAtF 196 5 B b q bs {w with heap:=w.heap.setIfInBounds d o}:=by
  rintro q ⟨u,v,t,i,r⟩;have f:b≠d:=λe=>by rw[e,hi]at t;cases t
  refine⟨u,v,by show(w.heap.setIfInBounds d o)[b]?=_;rw[MQ f];exact t,⟨i.1,?_⟩,r⟩;rcases i.2 with h|⟨g,cap,cur,fz,j,y,n,m⟩
  ·exact .inl h
  ·have a:g≠d:=λe=>by rw[e,hi]at n;cases n
   exact .inr ⟨g,cap,cur,fz,j,y,by show(w.heap.setIfInBounds d o)[g]?=_;rw[MQ a];exact n,m⟩
 exact h.elim (λx=> .inl (z _ x)) (λx=> .inr (z _ x))
theorem uD {B d : Nat} {w c : World} {o : Obj} (h : Below B w c) (f : B ≤ d) : Below B w { c with heap := c.heap.setIfInBounds d o } :=
 ⟨h.os, h.tape, h.output, by show _ ≤ (c.heap.setIfInBounds d o).size; rw [Array.size_setIfInBounds]; exact h.size, fun k g => by
  show (c.heap.setIfInBounds d o)[k]? = _
  rw [MQ O]
  exact h.block k g⟩
theorem aVx(w:World)(c:Nat)(y:c<64):
  Calls Qe 200 #[.int .u8 (c:Int)] w λe t=>e= .returned (.string ⟨(Eg c 6).toArray⟩)∧Below w.heap.size w t:=by
 have hz:(w.alloc (Obj.cells #[Value.pointer none,Value.slice none 0 0] 196)).heap.size=w.heap.size+1:=Array.size_push _
 go_enter func200,ntmps200
 go_wp2
 refine R_ (λn a t=>∃k,k<=6∧n=6-k∧aWY w c k a t) ?_ (n:=6) ⟨0,O,rfl,⟨⟨_,_,_,_,_,_,_,_,_,_,_,_,_,rfl⟩,?_,?_,?_⟩⟩
 ·rintro n a w1 ⟨k,hk,rfl,⟨x4,x5,x7,x8,x9,m,l,q,r,s,p,j,i,rfl⟩,hi,hb,hB⟩
  go_wp2
  by_cases h6:k<6
  ·rw[VK hi (by show k<6;exact h6),aGF k h6];simp only[Result.andThen];rw[Oper.upon_value];have b:=aGY c y k h6;have x:=Sq c k;have g:(w1.heap.setIfInBounds (w.heap.size+1) (.stringIter ⟨#[114,119,100,120,108,115]⟩ (k+1)))[w.heap.size+1]?=some (.stringIter ⟨#[114,119,100,120,108,115]⟩ (k+1)):=by
    grind
   have z:=aCF (o:= .stringIter ⟨#[114,119,100,120,108,115]⟩ (k+1)) hb hi;have f:=uD (o:= .stringIter ⟨#[114,119,100,120,108,115]⟩ (k+1)) hB (Nat.le_succ w.heap.size);by_cases d:c / 2 ^ k % 2=1
   ·rw[decide_eq_true d]at b
    go_wp2_with fail
    refine(Go.Proofs.Any.Builder_WriteRune_k bE bC w.heap.size w.heap.size (Lib.byteCells (Eg c k)) _ YN YN _ z (by simp[Lib.byteCells];omega) f.size).mono ?_;rintro e w3 ⟨rfl,v,u,h⟩;rw[xN k h6]at v
    go_wp2
    refine⟨6-(k+1),O,k+1,O,rfl,⟨⟨_,_,_,_,_,_,_,_,_,_,_,_,_,rfl⟩,?_,?_,f.trans u⟩⟩
    ·exact h _ _ g U (λ_ _=>U)
    ·refine .inr ?_;have e:Eg c (k+1)=Eg c k++[six.getD k 0]:=by simp only[Eg,d,if_true]
     rw[e];have e2:Lib.byteCells (Eg c k++[six.getD k 0])=Lib.byteCells (Eg c k)++Lib.byteCells [six.getD k 0]:=by simp[Lib.byteCells]
     rw[e2];exact v
   ·rw[decide_eq_false d]at b
    go_wp2_with fail
    refine⟨6-(k+1),O,k+1,O,rfl,⟨⟨_,_,_,_,_,_,_,_,_,_,_,_,_,rfl⟩,g,?_,f⟩⟩;have e:Eg c (k+1)=Eg c k:=by simp only[Eg,d,if_false,QI]
    rw[e];exact z
  ·rw[Tt hi (by show ¬k<6;exact h6)];simp only[Result.andThen];rw[Oper.upon_value];obtain rfl:k=6:=by omega
   go_wp2_with fail
   refine(Go.Proofs.Any.Builder_String_any_f bF bC w.heap.size w.heap.size (Eg c 6) w1 hb hB.size).mono ?_;rintro e w3 ⟨rfl,_,u⟩
   go_wp2
   go_ret
   exact⟨rfl,hB.trans u⟩
 ·have e:=heap_alloc_new (w.alloc (Obj.cells #[Value.pointer none,Value.slice none 0 0] 196)) (.stringIter ⟨#[114,119,100,120,108,115]⟩ 0);rw[hz]at e;exact e
 ·refine .inl ⟨QB _,.slice none 0 0,?_,World.ownsRowF_nil _ _ _ _,by simp[Value.ownBlock]⟩;have:=heap_alloc_new w (Obj.cells #[Value.pointer none,Value.slice none 0 0] 196);exact(Below.heap_alloc _ _ _ (by rw[hz];omega)).trans this
 ·exact((Below.refl _ w).alloc (QB _) _).alloc (by rw[hz];omega) _
def eqBs:List UInt8->List UInt8->Bool
 |[],[]=>true
 |a::r,b::s=>a==b&&eqBs r s
 |_,_=>false
def eqBs_eq:∀{a b:List UInt8},eqBs a b=true->a=b
 |[],[],_=>rfl
 |a::r,b::s,h=>by
  simp only[eqBs,QY,beq_iff_eq]at h;rw[h.1,eqBs_eq h.2]
 |[],_::_,h=>Xc
 |_::_,[],h=>Xc
def lettersN(c:Nat):List UInt8:=
 (if c % 2=1 then [114]else [])++((if c / 2 % 2=1 then [119]else [])++((if c / 4 % 2=1 then [100]else [])++((if c / 8 % 2=1 then [120]else [])++((if c / 16 % 2=1 then [108]else [])++(if c / 32 % 2=1 then [115]else [])))))
theorem pick_letters:∀c:Nat,c<64->Eg c 6=lettersN c:=Xl
def lay_calls{c:Nat}(h:c<64)(w:World):Calls Qe 200 #[.int .u8 (c:Nat)] w λe s=>e= .returned (.string ⟨(lettersN c).toArray⟩)∧Below w.heap.size w s:=by
 grind [aVx,pick_letters]
end Go.Ve
namespace Go.Vd
open Go.Proofs Go.RowKit
def mE:SF.ok Qe 69:=aAH aY aL ⟨_,func69,Z,Z⟩
def WJ{m:Gu}{i fr:Id}{n:Nat}{l:List Bs}(c:n=l.length)(h:∀k x,l[k]?=some x->m i k=some (.str x))(u:l.length<=1000)(z:Cr l<=1000000):
  SF.ex ([.row i n,.str [44]]++[]) m fr=some (.str (Cw l),[]):=by
 subst c;simp only[SF,QI];rw[kW (j:=0) (λk x q=>by rw[Qp];exact h k x q),Qj,if_pos ⟨u,z⟩]
def RI.strs{r:Id}{m0 m:Gu}{l:List Bs}(h:RI [] r m0 m l l.length):∀k x,l[k]?=some x->m r k=some (.str x):=by
 intro k x q;have g:=(QQ.1 q).1;rw[h.row k g,if_pos g];simp[Zx,q]
def LM{l:List Bs}{b:Nat}(h:∀x∈l,x.length<=b):Cr l<=b*l.length:=by
 induction l with
 |nil=>simp[Cr]
 |cons x r ih=>
  have u:=h x (Zs ..);have z:=ih λy s=>h y (List.mem_cons_of_mem _ s)
  simp only[Cr,Qg,ZJ];omega
def LY(n:Nat):(BT n).length<=3:=by
 grind [BT]
def FH(l:List Int):List Bs:=l.map λx=>BT x.toNat
theorem DH(l:List Int):(FH l).length=l.length:=Qy ..
def aVl:List D->Option D:=FX (λp:Bool×List Int=>[.slice p.1 [] (AF p.2)]) (λp=>p.2.length<=1000∧∀x∈p.2,0<=x∧x<1000) (λp=> .str (Cw (FH p.2)))
def aIt{nl:Bool}{l:List Int}(h:l.length<=1000)(z:∀x∈l,0<=x∧x<1000):aVl [.slice nl [] (AF l)]=some (.str (Cw (FH l))):=
 BO (mk:=λp:Bool×List Int=>[.slice p.1 [] (AF p.2)]) (a:=(nl,l)) (λa b h=>by
  simp only[Qc,D.slice.injEq,true_and,and_true]at h;exact QU h.1 (IN h.2)) ⟨h,z⟩
def aF4{S:Gq}{l:List Int}{nl:Bool}{m0:Gu}{Q:Ex->St->Prop}(o:l.length<=1000)(q:∀x∈l,0<=x∧x<1000)(e:S 330=some (Ac aQt))
  (ga:∀y,y.s 3= .row [3] l.length->RI [] [3] m0 y.m (FH l) l.length->Q (.exit 0) y):
  ∀(f j:Nat) y g,l.length=j+f->y.s 3= .row [3] l.length->y.s 9= .slice nl [] (AF l)->y.s 10= .int .i64 (l.length:Int)->y.s 11= .int .i64 (j:Int)->RI [] [3] m0 y.m (FH l) j->A5 S [] Oq Q y g:=by
 intro f;induction f with
 |zero=>
  intro j y g b i h9 z k I;refine Af Oq.eq_1 ?_;have:¬((j:Int)<l.length):=O
  simp only[↓C2,Gy,GI,reduceIte,Qd,z,k,this];exact ga _ i X2
 |succ f ih=>
  intro j y g b i h9 z k I;refine Af Oq.eq_1 ?_;have t:j<l.length:=O
  have r:((j:Int)<l.length):=O
  have oa:=nJ (j:=j);have v:=wJ (j:=j) O;have qa:=q l[j] (QX t);obtain⟨n,c⟩:∃n:Nat,l[j]=(n:Int):=⟨l[j].toNat,O⟩;have d:(AF l)[j]?=some (.int .i64 (n:Int)):=by simp[AF,Qi t,c]
  have hg:(FH l).getD j []=BT n:=by simp[FH,Qi t,c]
  have h:=U4 (n:=n) O;have w:=I.row j (by rw[DH];exact t);rw[if_neg O]at w;obtain⟨a,p,u⟩:=y;simp only at i h9 z k w I;simp only[↓C2,Gt,reduceIte,Qb,Qd,i,h9,z,k,r,oa,v,Qh,d,w,Ab e,h,Au,Av,Qg,Qm,Qp,and_self,Qj,Qk,List.head?_cons];refine ih (j+1) _ _ O i h9 z rfl ?_;rw[←hg];exact I.fill (ZC)
def aRy:Kq aVl 332:=by
 obtain⟨S,j,hl⟩:=Bd (Aa aJd (Aa mE Ad));have e:=hl 330 _ rfl;have a:=hl 69 _ rfl;clear hl;refine CI j (Aj func332:Fn Qe 332 24 aKr [.t 2]) (λ_=>U) (λp d=>?_);obtain⟨nl,l⟩:=p;obtain⟨hl,q⟩:=d;simp only at hl q;have z:((0:Int)<=(l.length:Int)):=O
 have r:((l.length:Int)*(((16:Nat):Int)+1)<=140737488355328)=True:=eq_true O;unfold aKr;simp only[↓C2,Gy,He,reduceIte,Qb,Qd,z,r,Es,Qh,ZA,Qg,Qm,Qp,and_self];refine aF4 (l:=l) (nl:=nl) (m0:=λ_ _=>none) hl q e (λw i I=>?_) l.length 0 _ _ O rfl rfl rfl rfl ?_
 ·simp only[↓C2,Gy,GI,reduceIte,Qd,i];rw[AD a];rw[←DH]at I;have g:Cr (FH l)<=1000000:=by
   have:=LM (l:=FH l) (b:=3) λx q=>by
    obtain⟨y,_,rfl⟩:=QL.1 q;exact LY _
   rw[DH]at this;omega
  refine aI (WJ (DH l).symm I.strs (by rw[DH];exact hl) g) ?_;simp only[↓C2,Gt,reduceIte,Qb,Qd]
  all_goals exact YU
 ·grind [RI.start,DH]
open Classical in
def aIu:List D->Option D
 |[.int .u8 c]=>if 0<=c∧c<64 then some (.str (Go.Ve.lettersN c.toNat))else none
 |_=>none
def aRB:Kq aIu 200:=by
 refine⟨⟨_,func200,Z,Z⟩,λds m m' fr _=>rfl,?_⟩;intro B w0 w m g fr ds vs r u hi q hl s z;simp only[Ac]at z;split at z
 ·rw[QZ]at z;obtain⟨f,n,z⟩:=z;simp only[QC]at z;obtain⟨rfl,rfl⟩:=z;unfold aIu at n;split at n
  ·rename_i c e;split at n
   ·rename_i y;simp only[Ql]at n;subst n
    match ds,vs,hl with
    |[d],[v],_=>
     have p:d= .int .u8 c:=by
      simp only[QD,Q2,Qc,and_true]at e;cases d<;>simp[D.un]at e;rw[e.1,e.2]
     subst p;have x:=(s 0 _ v rfl rfl).int_inv;subst x;have qa:((c.toNat:Nat):Int)=c:=Qx y.1;have:=Go.Ve.lay_calls (c:=c.toNat) O w;rw[qa]at this;refine this.mono ?_;rintro e t ⟨rfl,o⟩;exact⟨_,g.over w t,rfl,hi.over o,GR.over hi.gz o,.str _,λi k _=>k⟩
    |[],_,_=>simp at e
    |_::_::_,_,_=>simp at e
   ·cases n
  ·cases n
 ·cases z
def NC{l:List Rl}:∀f j,DG l f j=0->∀i,j<=i->i<j+f->i<l.length->(CB l i).2<=63
 |0,j,_,i,h1,h2,_=>O
 |f+1,j,h,i,h1,h2,hi=>by
  unfold DG at h;rw[if_pos O]at h;split at h
  ·omega
  ·rename_i y;rcases Nat.eq_or_lt_of_le h1 with rfl|h1
   ·grind [Ho,CB]
   ·exact NC f (j+1) h i O O hi
def MU{l:List Rl}(h:Cp l=0):l.length<=4∧∀r∈l,r.2<=63:=by
 unfold Cp at h;split at h
 ·cases h
 ·refine⟨O,λr n=>?_⟩;obtain⟨i,hi,rfl⟩:=Zp n;have:=NC l.length 0 h i (Qu _) O hi;simpa[CB,Qi hi]using this
def VM(r:Rl):Bs:=r.1++[58]++Go.Ve.lettersN r.2.toNat
def BH(l:List Rl):List Bs:=l.map VM
theorem Ct(l:List Rl):(BH l).length=l.length:=Qy ..
def E5(n:Nat):(Go.Ve.lettersN n).length<=6:=by
 unfold Go.Ve.lettersN;have h:∀(c:Prop)[Decidable c](x:UInt8),(if c then [x]else []).length<=1:=by
  intro c _ x;split<;>simp
 simp only[Qq];have u:=h (n % 2=1) 114;have z:=h (n / 2 % 2=1) 119;have i:=h (n / 4 % 2=1) 100;have o:=h (n / 8 % 2=1) 120;have m:=h (n / 16 % 2=1) 108;have e:=h (n / 32 % 2=1) 115;omega
def aF8{S:Gq}{l:List Rl}{nl:Bool}{m0:Gu}{Q:Ex->St->Prop}(o:l.length<=4)(q:∀r∈l,r.1.length<=1000∧0<=r.2∧r.2<64)(d:S 200=some (Ac aIu))
  (w:∀y,y.s 5= .row [9] l.length->RI [] [9] m0 y.m (BH l) l.length->Q (.exit 0) y):
  ∀(f j:Nat) y g,l.length=j+f->10<=y.c->y.s 5= .row [9] l.length->y.s 16= .slice nl [] (Ar l)->y.s 17= .int .i64 (l.length:Int)->y.s 18= .int .i64 (j:Int)->RI [] [9] m0 y.m (BH l) j->A5 S [] OA Q y g:=by
 intro f;induction f with
 |zero=>
  intro j y g hf p h5 ua e z I;refine Af OA.eq_1 ?_;have:¬((j:Int)<l.length):=O
  simp only[↓C2,Gy,GI,reduceIte,Qd,e,z,this];exact w _ h5 X2
 |succ f ih=>
  intro j y g hf p h5 ua e z I;refine Af OA.eq_1 ?_;have t:j<l.length:=O
  have k:((j:Int)<l.length):=O
  have i:=nJ (j:=j);have hw:=wJ (j:=j) O;obtain⟨qa,ra,b⟩:=q l[j] (QX t);have ja:(Ar l)[j]?=some (.agg [.str l[j].1,.int .u8 l[j].2]):=by simp[Ar,rlD,Qi t]
  have hg:(BH l).getD j []=VM l[j]:=by simp[BH,Qi t]
  generalize l[j]=r at qa ra b ja hg;have a:aIu [.int .u8 r.2]=some (.str (Go.Ve.lettersN r.2.toNat)):=if_pos ⟨ra,b⟩;have n:=I.row j (by rw[Ct];exact t);rw[if_neg O]at n;have xa:=E5 r.2.toNat;have l1:(r.1.length+1<=9223372036854775807)=True:=eq_true O;have l2:(r.1.length+1+(Go.Ve.lettersN r.2.toNat).length<=9223372036854775807)=True:=eq_true O;have x:([y.c+1+3]=([9]:Id))=False:=eq_false Xb;have v:(([9]:Id)=[y.c+1+3])=False:=eq_false Xb;obtain⟨ka,fa,u⟩:=y;simp only at h5 ua e z n I p x v;simp only[↓C2,GJ,reduceIte,Qb,Qd,h5,ua,e,z,k,i,Qh,ja,n,Ab d,a,v,l1,l2,QB,Qq,Ah,Au,Av,Qr,Qj,QS,QP,Qk,false_and];refine AS ?_;simp only[↓C2,Gy,He,reduceIte,Qb,Qd,z,hw];refine ih (j+1) _ _ O Xa h5 ua e rfl ?_;have ta:r.1++[58]++Go.Ve.lettersN r.2.toNat=(BH l).getD j []:=hg.symm;rw[ta];exact((I.put Xb).put Xb).fill (ZC)
def aID:List D->Option D:=FX (λp:Bool×List Rl=>[.slice p.1 [] (Ar p.2)]) (λp=>p.2.length<=1000000∧∀r∈p.2,r.1.length<=1000∧0<=r.2)
 (λp=> .tup [.str (if Cp p.2=0 then Cw (BH p.2)else []),.int .i64 (Cp p.2)])
def U9{nl:Bool}{l:List Rl}(h:l.length<=1000000)(z:∀r∈l,r.1.length<=1000∧0<=r.2):aID [.slice nl [] (Ar l)]=some (.tup [.str (if Cp l=0 then Cw (BH l)else []),.int .i64 (Cp l)]):=
 BO (mk:=λp:Bool×List Rl=>[.slice p.1 [] (Ar p.2)]) (a:=(nl,l)) (λa b h=>by
  simp only[Qc,D.slice.injEq,true_and,and_true]at h;exact QU h.1 (VT h.2)) ⟨h,z⟩
open Classical in
def Rm{nl:Bool}{l:List Rl}(h:l.length<=1000000)(z:∀r∈l,r.1.length<=1000∧0<=r.2):vE [.slice nl [] (Ar l)]=some (.int .i64 (Cp l)):=by
 have y:Ar l=Ar (Ba (Ar l))∧(Ar l).length<=1000000∧Ca (Ba (Ar l)):=by
  rw[AY,AW];exact⟨rfl,h,λr i=>Nat.le_trans (z r i).1 O⟩
 show(if _ then _ else _)=_;rw[if_pos y,AY]
def aJl:Kq aID 136:=by
 obtain⟨S,j,hl⟩:=Bd (Aa V7 (Aa aRB (Aa mE Ad)));have c:=hl 168 _ rfl;have d:=hl 200 _ rfl;have a:=hl 69 _ rfl;clear hl;refine CI j (Aj func136:Fn Qe 136 36 aLk [.t 2,.t 3]) (λ_=>U) (λp hp=>?_);obtain⟨nl,l⟩:=p;obtain⟨hl,q⟩:=hp;simp only at hl q;have f:=Rm (nl:=nl) hl q;have m:=MU (l:=l);simp only;unfold aLk;generalize Cp l=e at f m;by_cases he:e=0
 ·subst he;obtain⟨h4,g⟩:=m rfl;have z:((0:Int)<=(l.length:Int)):=by omega
  have k:((l.length:Int)*(((16:Nat):Int)+1)<=140737488355328)=True:=eq_true O;simp only[↓C2,Gt,reduceIte,Qb,Qd,Ab c,f,z,k,AW,Qh,ZA,Qg,Qm,Qp,and_self];refine aF8 (l:=l) (nl:=nl) (m0:=λ_ _=>none) h4 (λr i=>⟨(q r i).1,(q r i).2,by have:=g r i;omega⟩) d (λw s I=>?_) l.length 0 _ _ O Xa rfl rfl rfl rfl ?_
  ·simp only[↓C2,Gy,GI,reduceIte,Qd,s];rw[AD a];rw[←Ct]at I;have o:Cr (BH l)<=1000000:=by
    have:=LM (l:=BH l) (b:=1007) λx n=>by
     obtain⟨y,hy,rfl⟩:=QL.1 n;have u:=(q y hy).1;have v:=E5 y.2.toNat;simp only[VM,Qq,Qg,Qm];omega
    rw[Ct]at this;omega
   refine aI (WJ (Ct l).symm I.strs (by rw[Ct];omega) o) ?_;simp only[↓C2,Gt,reduceIte,Qb,Qd]
   all_goals exact YU
  ·grind [RI.start,Ct]
 ·simp only[↓C2,Gt,reduceIte,Qb,Qd,Ab c,f,he,and_self]
  all_goals exact YU
def aLT:=y0 f44 [] []
def aLS:=y0 f101 [] []
def aLR:=y0 f259 [] []
def aLQ:=y0 f260 [] []
def OG:=y1 f261 4 [] []
def aLP:=y0 f261 [] [(4,OG)]
def aKX:=y0 f310 [] []
def Uq:=y1 f207 7 [] []
def aT9:=y0 f207 [] [(7,Uq)]
def Ns{s:Bs}{p:Nat}{c:UInt8}(h:s[p]?=some c)(y:c.toNat<128):Utf8.decode ⟨s.toArray⟩ p=(c.toNat,1):=by
 have t:=(QQ.1 h).1;have x:GP s p=c.toNat:=by simp[GP,h]
 unfold Utf8.decode;simp only[Nc,Za,x,y,if_true]
def PH:List (Bs×Bs):=[([],[]),([115,116,97,116,117,115],[]),([117,110,115,101,97,108],[107]),([115,101,97,108],[116]),([114,111,116,97,116,101],[116]),([109,111,117,110,116],[116,112,110,102]),([117,110,109,111,117,110,116],[116,112]),([109,97,107,101],[116,109,114]),([114,101,118,111,107,101],[116,109]),([114,101,97,100],[116,112,110]),([119,114,105,116,101],[116,112,99,100]),([100,101,108,101,116,101],[116,112,108]),([117,110,100,101,108,101,116,101],[116,112,108]),([100,101,115,116,114,111,121],[116,112,108]),([109,101,116,97],[116,112]),([99,111,110,102,105,103],[116,112,110,102]),([112,117,114,103,101],[116,112]),([108,105,115,116],[116,112]),([99,111,112,121],[116,112,113])]
def Eh(op:Int):Bs:=(PH.getD op.toNat ([],[])).1
def Bu(op:Int):Bs:=(PH.getD op.toNat ([],[])).2
def aAN(p:Bs×Bs):Option D->Bool
 |some (.agg [.str a,.str b])=>Go.Ve.eqBs a p.1&&Go.Ve.eqBs b p.2
 |_=>false
def uU:List D->Option D:=Nf (λ_=>none) 30 aLT [.cell (some 2) 2] 60
def lR:Kq uU 44:=Nd A2 (Aj func44:Fn Qe 44 30 aLT [.cell (some 2) 2]) 60
def aDn:(ZD 256).all (λop=>aAN (PH.getD op ([],[])) (uU [.int .u8 (op:Nat)]))=true:=Z
def OP{op:Int}(f:0<=op)(h:op<256):uU [.int .u8 op]=some (.agg [.str (Eh op),.str (Bu op)]):=by
 have:=QT.1 aDn op.toNat Xb;rw[Qx f]at this;unfold Eh Bu;generalize uU [.int .u8 op]=r at this;unfold aAN at this;split at this
 ·rw[QY]at this;rw[Go.Ve.eqBs_eq this.1,Go.Ve.eqBs_eq this.2]
 ·cases this
structure G7 (a:Ak):Prop where
 op0:0<=a.op
 op:a.op<256
 tk:a.tk.length<=1000
 pa:a.pa.length<=1000
 ot:a.ot.length<=1000
 ns:a.ns.length<=1000
 da:a.da.length<=1000
 rl:a.rs.length<=1000
 rs:∀r∈a.rs,r.1.length<=1000∧0<=r.2
 key:a.key.length<=1000
def Bb(a:Ak)(c:Int):Int:=if c=116 then CQ (BI a.tk)else if c=109 then CQ (BI a.ot)else if c=112 then AQ a.pa else if c=113 then AQ a.ot else if c=110 then CQ (decide (0<=a.n∧a.n<=999))else if c=99 then CQ (decide (-1<=a.cas∧a.cas<=999))else if c=108 then CQ (countB a.ns)else if c=114 then Cp a.rs else if c=107 then CQ (decide ((a.key.length:Int)=16))else 0
def aEE:List D->Option D:=FX (λp:Ak×Int=>[GT p.1,.int .i32 p.2]) (λp=>G7 p.1) (λp=> .int .i64 (Bb p.1 p.2))
def Ha{a:Ak}{c:Int}(h:G7 a):aEE [GT a,.int .i32 c]=some (.int .i64 (Bb a c)):=
 BO (mk:=λp:Ak×Int=>[GT p.1,.int .i32 p.2]) (a:=(a,c)) (λx y e=>by
  simp only[Qc,D.int.injEq,true_and,and_true]at e;exact QU (Fe e.1) e.2) h
def aJq:Kq aEE 101:=by
 obtain⟨S,hS,hl⟩:=Bd (Aa aRP (Aa aJk (Aa lQ (Aa aJj (Aa aRO (Aa V7 Ad))))));have h:=hl 169 _ rfl;have f:=hl 97 _ rfl;have fa:=hl 107 _ rfl;have g:=hl 170 _ rfl;have i:=hl 171 _ rfl;have da:=hl 168 _ rfl;clear hl;refine CI hS (Aj func101:Fn Qe 101 58 aLS [.t 4]) (λ_=>U) (λp hp=>?_);obtain⟨a,c⟩:=p;simp only at hp;have hT:=pF (s:=a.tk) (by have:=hp.tk;omega);have hO:=pF (s:=a.ot) (by have:=hp.ot;omega);have hP:dX [.str a.pa]=some (.int .i64 (AQ a.pa)):=if_pos (by have:=hp.pa;omega);have hQ:dX [.str a.ot]=some (.int .i64 (AQ a.ot)):=if_pos (by have:=hp.ot;omega);have hN:vI [.int .i64 a.n,.int .i64 0,.int .i64 999]=some (.bool (decide (0<=a.n∧a.n<=999))):=rfl;have hC:vI [.int .i64 a.cas,.int .i64 (-1),.int .i64 999]=some (.bool (decide (-1<=a.cas∧a.cas<=999))):=rfl;have hL:=aIC (nl:=a.nln) (l:=a.ns) (by have:=hp.ns;omega);have hR:=Rm (nl:=a.nlr) (l:=a.rs) (by have:=hp.rl;omega) hp.rs;unfold Bb aLS GT GO;simp only;by_cases b:c=116
 ·subst b;simp only[↓C2,GJ,simprocAttr,Ab h,hT,Ab f,G8,Ah]
  all_goals exact YU
 have u:decide (c=116)=false:=XU
 by_cases z:c=109
 ·subst z;simp only[↓C2,GJ,simprocAttr,Ab h,hO,Ab f,G8,Ah]
  all_goals exact YU
 have v:decide (c=109)=false:=by simpa using z
 by_cases x:c=112
 ·subst x;simp only[↓C2,GJ,simprocAttr,Ab fa,hP,Ah]
  all_goals exact YU
 have r:decide (c=112)=false:=by simpa using x
 by_cases y:c=113
 ·subst y;simp only[↓C2,GJ,simprocAttr,Ab fa,hQ,Ah]
  all_goals exact YU
 have q:decide (c=113)=false:=by simpa using y
 by_cases d:c=110
 ·subst d;simp only[↓C2,GJ,simprocAttr,Ab g,hN,Ab f,G8,Ah]
  all_goals exact YU
 have o:decide (c=110)=false:=XK
 by_cases ga:c=99
 ·subst ga;simp only[↓C2,GJ,simprocAttr,Ab g,hC,Ab f,G8,Ah]
  all_goals exact YU
 have w:decide (c=99)=false:=by simpa using ga
 by_cases h108:c=108
 ·subst h108;simp only[↓C2,GJ,simprocAttr,Ab i,hL,Ab f,G8,Ah]
  all_goals exact YU
 have m:decide (c=108)=false:=by simpa using h108
 by_cases ca:c=114
 ·subst ca;simp only[↓C2,GJ,simprocAttr,Ab da,hR,Ah]
  all_goals exact YU
 have k:decide (c=114)=false:=by simpa using ca
 by_cases e:c=107
 ·subst e;simp only[↓C2,GJ,simprocAttr,Ab f,G8,Ah]
  all_goals exact YU
 have j:decide (c=107)=false:=by simpa using e
 simp only[↓C2,Gt,simprocAttr,b,z,x,y,d,ga,h108,ca,e,Qp,and_self]
 all_goals exact YU
def DR(a:Ak)(c:Int):Ak:=if c=116 then {a with tk:=[]}else if c=112 then {a with pa:=[]}else if c=109∨c=113 then {a with ot:=[]}else if c=110 then {a with n:=0}else if c=99 then {a with cas:=0}else if c=102 then {a with fl:=false}else if c=108 then {a with nln:=true,ns:=[]}else if c=100 then {a with da:=[]}else if c=114 then {a with nlr:=true,rs:=[]}else if c=107 then {a with key:=[]}else a
def aIV:List D->Option D:=FX (λp:Ak×Int=>[GT p.1,.int .i32 p.2]) (λp=>True) (λp=>GT (DR p.1 p.2))
def aIU{a:Ak}{c:Int}:aIV [GT a,.int .i32 c]=some (GT (DR a c)):=
 BO (mk:=λp:Ak×Int=>[GT p.1,.int .i32 p.2]) (a:=(a,c)) (λx y e=>by
  simp only[Qc,D.int.injEq,true_and,and_true]at e;exact QU (Fe e.1) e.2) trivial
def aR9:Kq aIV 259:=by
 refine CI (S:=λ_=>none) A2 (Aj func259:Fn Qe 259 38 aLR [.cell (some 11) 4]) (λ_=>U) (λp y=>?_);obtain⟨a,c⟩:=p;unfold DR aLR GT GO;simp only;by_cases b:c=116
 ·subst b;simp only[↓C2,GJ,simprocAttr,or_self,Ah,Au,Av,Qj,Qk,Qc,Qn,and_false,Qf,Be,AT]
  all_goals exact YU
 by_cases r:c=112
 ·subst r;simp only[↓C2,GJ,simprocAttr,or_self,Ah,Au,Av,Qj,Qk,Qc,Qn,and_false,Qf,Be,AT]
  all_goals exact YU
 by_cases z:c=109
 ·subst z;simp only[↓C2,GJ,simprocAttr,true_or,Ah,Au,Av,Qj,Qk,Qc,Qn,and_false,Qf,Be,AT]
  all_goals exact YU
 by_cases v:c=113
 ·subst v;simp only[↓C2,GJ,simprocAttr,or_true,Ah,Au,Av,Qj,Qk,Qc,Qn,and_false,Qf,Be,AT]
  all_goals exact YU
 by_cases d:c=110
 ·subst d;simp only[↓C2,GJ,simprocAttr,or_self,Ah,Au,Av,Qj,Qk,Qc,Qn,and_false,Qf,Be,AT]
  all_goals exact YU
 by_cases j:c=99
 ·subst j;simp only[↓C2,GJ,simprocAttr,or_self,Ah,Au,Av,Qj,Qk,Qc,Qn,and_false,Qf,Be,AT]
  all_goals exact YU
 by_cases f:c=102
 ·subst f;simp only[↓C2,GJ,simprocAttr,or_self,Ah,Au,Av,Qj,Qk,Qc,Qn,and_false,Qf,Be,AT]
  all_goals exact YU
 by_cases h108:c=108
 ·subst h108;simp only[↓C2,GJ,simprocAttr,or_self,Ah,Au,Av,Qj,Qk,Qc,Qn,and_false,Qf,Be,AT]
  all_goals exact YU
 by_cases g:c=100
 ·subst g;simp only[↓C2,GJ,simprocAttr,or_self,Ah,Au,Av,Qj,Qk,Qc,Qn,and_false,Qf,Be,AT]
  all_goals exact YU
 by_cases n:c=114
 ·subst n;simp only[↓C2,GJ,simprocAttr,or_self,Ah,Au,Av,Qj,Qk,Qc,Qn,and_false,Qf,Be,AT]
  all_goals exact YU
 by_cases e:c=107
 ·subst e;simp only[↓C2,GJ,simprocAttr,or_self,Ah,Au,Av,Qj,Qk,Qc,Qn,and_false,Qf,Be,AT]
  all_goals exact YU
 simp only[↓C2,GJ,simprocAttr,b,r,z,v,d,j,f,h108,g,n,e,or_self,Ah,Au,Av,Qj,Qk,Qc,Qn,Qf,Be,AT]
 all_goals exact YU
def orN(s:Bs):Bs:=if s=[]then [45]else s
def L5(a:Ak)(c:Int):Bs:=if c=116 then a.tk else if c=112 then a.pa else if c=109∨c=113 then a.ot else if c=110 then BT a.n.toNat else if c=99 then(if a.cas=-1 then [45]else BT a.cas.toNat)
 else if c=102 then(if a.fl=true then [49]else [48])else if c=108 then orN (Cw (FH a.ns))else if c=100 then orN (ER a.da)else if c=114 then orN (if Cp a.rs=0 then Cw (BH a.rs)else [])else ER a.key
structure S9 (a:Ak) (c:Int):Prop where
 n:c=110->0<=a.n∧a.n<1000
 cas:c=99->-1<=a.cas∧a.cas<1000
 ns:c=108->∀x∈a.ns,0<=x∧x<1000
def aIA:List D->Option D:=FX (λp:Ak×Int=>[GT p.1,.int .i32 p.2]) (λp=>G7 p.1∧S9 p.1 p.2) (λp=> .str (L5 p.1 p.2))
def aIz{a:Ak}{c:Int}(h:G7 a)(z:S9 a c):aIA [GT a,.int .i32 c]=some (.str (L5 a c)):=
 BO (mk:=λp:Ak×Int=>[GT p.1,.int .i32 p.2]) (a:=(a,c)) (λx y e=>by
  simp only[Qc,D.int.injEq,true_and,and_true]at e;exact QU (Fe e.1) e.2) ⟨h,z⟩
def aRL:Kq aIA 310:=by
 obtain⟨S,hS,hl⟩:=Bd (Aa aJd (Aa aRz (Aa aRy (Aa aJh (Aa aJl Ad)))));have e:=hl 330 _ rfl;have k:=hl 331 _ rfl;have o:=hl 332 _ rfl;have m:=hl 14 _ rfl;have r:=hl 136 _ rfl;clear hl;refine CI hS (Aj func310:Fn Qe 310 63 aKX [.t 4]) (λ_=>U) (λp hp=>?_);obtain⟨a,c⟩:=p;obtain⟨hp,hN,hC,hL⟩:=hp;simp only at hp hN hC hL;unfold L5 orN aKX GT GO;simp only;by_cases b:c=116
 ·subst b;simp only[↓C2,GJ,simprocAttr,or_self,Ah]
  all_goals exact YU
 by_cases x:c=112
 ·subst x;simp only[↓C2,GJ,simprocAttr,or_self,Ah]
  all_goals exact YU
 by_cases z:c=109
 ·subst z;simp only[↓C2,GJ,simprocAttr,true_or,Ah]
  all_goals exact YU
 by_cases v:c=113
 ·subst v;simp only[↓C2,GJ,simprocAttr,or_true,Ah]
  all_goals exact YU
 by_cases d:c=110
 ·subst d;have hn:=hN rfl;obtain⟨n,la⟩:∃n:Nat,a.n=(n:Int):=⟨a.n.toNat,O⟩;have h:=U4 (n:=n) O;rw[la];simp only[↓C2,GJ,simprocAttr,Ab e,h,Qh,or_self,Ah]
  all_goals exact YU
 by_cases ga:c=99
 ·subst ga;have y:=hC rfl;by_cases u:a.cas=-1
  ·rw[u];simp only[↓C2,GJ,simprocAttr,or_self,Ah]
   all_goals exact YU
  ·obtain⟨n,la⟩:∃n:Nat,a.cas=(n:Int):=⟨a.cas.toNat,O⟩;have h:=U4 (n:=n) O;rw[la]at u ⊢;simp only[↓C2,GJ,simprocAttr,u,Ab e,h,Qh,or_self,Ah]
   all_goals exact YU
 by_cases f:c=102
 ·subst f;cases a.fl<;>simp only[↓C2,GJ,simprocAttr,or_self,Ah]
  all_goals exact YU
 by_cases h108:c=108
 ·subst h108;have hl:=hL rfl;have q:=aIt (nl:=a.nln) (l:=a.ns) hp.ns hl;simp only[↓C2,GJ,simprocAttr,Ab o,q,Ab k,U3,or_self,Ah]
  all_goals exact YU
 by_cases g:c=100
 ·subst g;have i:=U5 (s:=a.da) (by have:=hp.da;omega);simp only[↓C2,GJ,simprocAttr,Ab m,i,Ab k,U3,or_self,Ah]
  all_goals exact YU
 by_cases w:c=114
 ·subst w;have j:=U9 (nl:=a.nlr) (l:=a.rs) (by have:=hp.rl;omega) hp.rs;simp only[↓C2,GJ,simprocAttr,Ab r,j,Ab k,U3,or_self,Ah]
  all_goals exact YU
 have i:=U5 (s:=a.key) (by have:=hp.key;omega);simp only[↓C2,GJ,simprocAttr,Ab m,i,b,x,z,v,d,ga,f,h108,g,w,or_self,Ah]
 all_goals exact YU
def RY(a:Ak):Bool:=a.ns.isEmpty&&(a.rs.isEmpty&&(decide (a.op=0)&&(decide (a.tk=[])&&(decide (a.pa=[])&&(decide (a.ot=[])&&(decide (a.n=0)&&(decide (a.cas=0)&&(!a.fl&&(decide (a.da=[])&&decide (a.key=[]))))))))))
def ak0:Ak:=⟨0,[],[],[],0,0,false,true,[],[],true,[],[]⟩
def aQx:List D->Option D:=FX (λa:Ak=>[GT a,GT ak0]) (λa=>G7 a) (λa=> .bool (RY a))
def aIT{a:Ak}(h:G7 a):aQx [GT a,GT ak0]=some (.bool (RY a)):=
 BO (mk:=λa:Ak=>[GT a,GT ak0]) (λx y e=>by
  simp only[Qc,and_true]at e;exact Fe e) h
def aRM:Kq aIB 132:=by
 obtain⟨S,j,hl⟩:=Bd (Aa aRA Ad);have b:=hl 197 _ rfl;clear hl;refine CI j aJ4 (λ_=>U) (λp g=>?_);have a:=U6 (nl:=p.1) (nl':=p.2.2) (l:=p.2.1) g;unfold nA;by_cases k:(([D.slice p.1 [] p.2.1,.slice p.2.2 [] []]:List D).map D.un).all D.calm=true
 ·simp only[↓C2,Gt,simprocAttr,Ab b,a,and_self]
  all_goals exact YU
 ·exact absurd rfl k
def aR8:Kq aQx 260:=by
 obtain⟨S,j,hl⟩:=Bd (Aa aRN (Aa aRM Ad));have d:=hl 309 _ rfl;have e:=hl 132 _ rfl;clear hl;refine CI j (Aj func260:Fn Qe 260 82 aLQ [.t 4]) (λ_=>U) (λa y=>?_);have c:=U6 (nl:=a.nln) (nl':=true) (l:=AF a.ns) (by rw[Es];have:=y.ns;omega);have b:=U6 (nl:=a.nlr) (nl':=true) (l:=Ar a.rs) (by rw[AW];have:=y.rl;omega);have w:(AF a.ns).isEmpty=a.ns.isEmpty:=by cases a.ns<;>rfl
 have f:(Ar a.rs).isEmpty=a.rs.isEmpty:=by cases a.rs<;>rfl
 rw[w]at c;rw[f]at b;unfold RY aLQ GT GO ak0;simp only;generalize a.ns.isEmpty=i at c;generalize a.rs.isEmpty=u at b;have n1:AF ([]:List Int)=[]:=rfl;have n2:Ar ([]:List Rl)=[]:=rfl;cases i with
 |false=>
  simp only[↓C2,GJ,simprocAttr,n1,n2,Ab d,c,QA,Ah,Qc,Qn,Qf]
  all_goals exact YU
 |true=>
  cases u with
  |false=>
   simp only[↓C2,GJ,simprocAttr,n1,n2,Ab d,c,Ab e,b,QA,QN,Ah,Qc,Qn,Qf]
   all_goals exact YU
  |true=>
   simp only[Zq];by_cases p:a.op=0
   ·by_cases k:a.tk=[]
    ·by_cases q:a.pa=[]
     ·by_cases v:a.ot=[]
      ·by_cases x:a.n=0
       ·by_cases s:a.cas=0
        ·cases g7:a.fl with
         |false=>
          by_cases m:a.da=[]
          ·simp only[↓C2,GJ,simprocAttr,n1,n2,Ab d,c,Ab e,b,Ah,Qc,Qn,Qf,p,k,q,v,x,s,m]
           trace_state
           all_goals exact YU
          ·simp only[↓C2,GJ,simprocAttr,n1,n2,Ab d,c,Ab e,b,QA,QN,Ah,Qc,Qn,Qf,p,k,q,v,x,s,m]
           all_goals exact YU
         |true=>
          simp only[↓C2,GJ,simprocAttr,n1,n2,Ab d,c,Ab e,b,QA,QN,Ah,Qc,Qn,Qf,p,k,q,v,x,s]
          all_goals exact YU
        ·simp only[↓C2,GJ,simprocAttr,n1,n2,Ab d,c,Ab e,b,QA,QN,Ah,Qc,Qn,Qf,p,k,q,v,x,s]
         all_goals exact YU
       ·simp only[↓C2,GJ,simprocAttr,n1,n2,Ab d,c,Ab e,b,QA,QN,Ah,Qc,Qn,Qf,p,k,q,v,x]
        all_goals exact YU
      ·simp only[↓C2,GJ,simprocAttr,n1,n2,Ab d,c,Ab e,b,QA,QN,Ah,Qc,Qn,Qf,p,k,q,v]
       all_goals exact YU
     ·simp only[↓C2,GJ,simprocAttr,n1,n2,Ab d,c,Ab e,b,QA,QN,Ah,Qc,Qn,Qf,p,k,q]
      all_goals exact YU
    ·simp only[↓C2,GJ,simprocAttr,n1,n2,Ab d,c,Ab e,b,QA,QN,Ah,Qc,Qn,Qf,p,k]
     all_goals exact YU
   ·simp only[↓C2,GJ,simprocAttr,n1,n2,Ab d,c,Ab e,b,QA,Ah,Qc,Qn,Qf,p]
    all_goals exact YU
theorem AE{m:Gu}{i j:Id}{o:Nat}{ds:List D}(h:j≠i):∀{n p:Nat},Ag (m.put i o ds) j p n=Ag m j p n
 |0,p=>rfl
 |n+1,p=>by
  simp only[Ag,aA h];rw[AE h]
theorem TH{i:Id}:∀{ds:List D} {m:Gu} {p:Nat},(∀k d,ds[k]?=some d->m i (p+k)=some d)->Ag m i p ds.length=some ds
 |[],m,p,_=>rfl
 |d::r,m,p,h=>by
  have f:=h 0 d rfl;rw[Za]at f;have n:=TH (ds:=r) (m:=m) (p:=p+1) λk x q=>by
   have:=h (k+1) x Xu;rw[show p+1+k=p+(k+1)by omega];exact this
  simp only[Qg,Ag,f,n,Qv]
theorem As{m:Gu}{i:Id}{ds:List D}{n:Nat}(h:ds.length=n):Ag (m.put i 0 ds) i 0 n=some ds:=by
 grind [TH,Ah]
def LT{m:Gu}{i:Id}{o:Nat}:Ag m i o 1=(m i o).map λd=>[d]:=by
 grind [Ag]
def BA(a:Ak):(GO a).map D.un1=GO a:=rfl
def BB(a:Ak):(GO a).all D.calm1=true:=rfl
def AL(a:Ak):D.cells (.agg (GO a))=GO a:=rfl
theorem AR(a:Ak):(GO a).length=11:=rfl
def WD{a:Ak}{c:Int}(h:G7 a):(L5 a c).length<=100000:=by
 obtain⟨_,_,u,z,i,o,m,e,j,k⟩:=h;have n1:=LY a.n.toNat;have n2:=LY a.cas.toNat;have oN:∀s:Bs,s.length<=100000->(orN s).length<=100000:=by
  grind [orN]
 have g:(Cw (FH a.ns)).length<=100000:=by
  have w:=FM (FH a.ns);have f:=LM (l:=FH a.ns) (b:=3) λx q=>by
   obtain⟨y,_,rfl⟩:=QL.1 q;exact LY _
  rw[DH]at w f;omega
 have j2:(if Cp a.rs=0 then Cw (BH a.rs)else []).length<=100000:=by
  split
  ·rename_i d;have p:=(MU d).1;have w:=FM (BH a.rs);have f:=LM (l:=BH a.rs) (b:=1007) λx q=>by
    obtain⟨y,r,rfl⟩:=QL.1 q;have u:=(j y r).1;have z:=E5 y.2.toNat;simp only[VM,Qq,Qg,Qm];omega
   rw[Ct]at w f;omega
  ·simp
 have v:=DY a.da;have t:=DY a.key;unfold L5;split
 ·omega
 ·grind
def NM(a:Ak):Bs:=Eh a.op++(Bu a.op).flatMap λc=>32::L5 a (c.toNat:Int)
theorem forms_ok:PH.all (λp=>decide (p.1.length<=20)&&(decide (p.2.length<=20)&&p.2.all λc=>decide (c.toNat<128)))=true:=Xl
def mL(op:Int):(Eh op).length<=20∧(Bu op).length<=20∧∀c∈Bu op,c.toNat<128:=by
 unfold Eh Bu;have:∀p:Bs×Bs,p=([],[])∨p∈PH->p.1.length<=20∧p.2.length<=20∧∀c∈p.2,c.toNat<128:=by
  grind [forms_ok]
 refine this _ ?_;by_cases h:op.toNat<PH.length
 ·simp_all
 ·simp_all
def aGe{S:Gq}{a:Ak}(ha:G7 a)(d:S 310=some (Ac aIA)){ls:Bs}(oa:ls.length<=20)(n:∀c∈ls,c.toNat<128)(b:∀c∈ls,S9 a (c.toNat:Int)){ki:Id}(j:([0]:Id)≠ki){w0:Bs}(k:w0.length<=20){Q:Ex->St->Prop}
  (w:∀y,y.s 4= .str (w0++ls.flatMap λc=>32::L5 a (c.toNat:Int))->Q (.exit 0) y):
  ∀(f p:Nat) y g,ls.length=p+f->y.s 1= .ptr [0] 0->y.s 4= .str (w0++(ls.take p).flatMap λc=>32::L5 a (c.toNat:Int))->y.s 14= .itp ki->Ag y.m [0] 0 11=some (GO a)->y.m ki 1=some (.it ls p)->
   A5 S [] OG Q y g:=by
 intro f;induction f with
 |zero=>
  intro p y g hf u o va hm ba;refine Af OG.eq_1 ?_;have t:¬(p<ls.length):=O
  simp only[↓C2,Gy,simprocAttr,va,t,ba,Qo];refine w _ ?_;simp only[↓C2,reduceIte,Qb,o];rw[QG O]
 |succ f ih=>
  intro p y g hf u o va hm ba;refine Af OG.eq_1 ?_;have t:p<ls.length:=O
  have ja:ls[p]?=some ls[p]:=Qi t;have qa:ls[p]∈ls:=QX t;have i:=Ns ja (n _ qa);have e:aIA [.agg (GO a),.int .i32 (ls[p].toNat:Int)]=some (.str (L5 a (ls[p].toNat:Int))):=aIz ha (b _ qa);have xa:=WD (c:=(ls[p].toNat:Int)) ha;have na:ls.take (p+1)=ls.take p++[ls[p]]:=by rw[Zg,ja];rfl
  have v:((ls.take p).flatMap λc=>32::L5 a (c.toNat:Int)).length<=100001*20:=by
   have:∀(l:Bs),((l.flatMap λc=>32::L5 a (c.toNat:Int))).length<=100001*l.length:=by
    intro l;induction l with
    |nil=>simp
    |cons x r ih=>
     have:=WD (c:=(x.toNat:Int)) ha;simp only[List.flatMap_cons,Qq,Qg,ZJ];omega
   have h:=this (ls.take p);have h':(ls.take p).length<=20:=XE
   omega
  have z:(1+(L5 a (ls[p].toNat:Int)).length<=9223372036854775807)=True:=eq_true O;have la:(w0.length+((ls.take p).flatMap λc=>32::L5 a (c.toNat:Int)).length+(1+(L5 a (ls[p].toNat:Int)).length)<=9223372036854775807)=True:=eq_true O;generalize ls[p]=c at i e na z la;obtain⟨ka,q,da⟩:=y;simp only at u o va hm ba;simp only[↓C2,Gt,simprocAttr,u,o,va,hm,i,AE j,Ab d,e,z,la,BA,BB,t,ba,Qq,Qg,Qm,Qp,Qo,Qw];refine ih (p+1) _ _ O ?_ ?_ ?_ ?_ ?_
  ·exact u
  ·simp only[↓C2,reduceIte,Qb];rw[na];simp
  ·exact va
  ·grind [AE]
  ·grind [Ah]
def aQw:List D->Option D:=FX (λa:Ak=>[GT a]) (λa=>G7 a∧∀c∈Bu a.op,S9 a (c.toNat:Int)) (λa=> .str (NM a))
def aIS{a:Ak}(h:G7 a)(z:∀c∈Bu a.op,S9 a (c.toNat:Int)):aQw [GT a]=some (.str (NM a)):=
 BO (mk:=λa:Ak=>[GT a]) (λx y e=>by
  simp only[Qc,and_true]at e;exact Fe e) ⟨h,z⟩
def aR7:Kq aQw 261:=by
 obtain⟨S,s,hl⟩:=Bd (Aa lR (Aa aRL Ad));have e:=hl 44 _ rfl;have d:=hl 310 _ rfl;clear hl;refine CI s (Aj func261:Fn Qe 261 25 aLP [.t 2]) (λ_=>U) (λa hp=>?_);obtain⟨x,b⟩:=hp;have n:=OP x.op0 x.op;obtain⟨q,p,v⟩:=mL a.op;have j:GO a= .int .u8 a.op::(GO a).tail:=rfl;unfold NM aLP GT;have na:∀m:Gu,m.put [0] 0 (GO a) [0] 0=some (.int .u8 a.op):=λm=>by
  rw[Ah,if_pos ⟨rfl,QB _,by rw[AR];omega⟩];rfl
 simp only[↓C2,GJ,simprocAttr,Ab e,n,na,AL,AR,Ah,Au,Av,Qj,Qk,Qc,Qf];refine aGe (ls:=Bu a.op) (w0:=Eh a.op) x d p v b (ki:=_) ?_ q (λy o=>?_) (Bu a.op).length 0 _ _ O rfl ?_ rfl ?_ ?_
 ·decide
 ·simp only[↓C2,Gt,simprocAttr,o]
  all_goals exact YU
 ·simp only[↓C2,Gy,reduceIte,Qb,QP,List.flatMap_nil,QI]
 ·simp only[AE (show([0]:Id)≠[12]by decide),AE (show([0]:Id)≠[5]by decide),As (AR a)]
 ·simp only[He,GI,simprocAttr,Ah,Qu,QM,Qg,Qm,Qp,Qo,Qw,and_self,Qc,false_and,Qf]
def Mv(a:Ak):Ak->Bs->Int×Ak
 |b,[]=>(0,b)
 |b,c::r=>if Bb a (c.toNat:Int)≠0 then(Bb a (c.toNat:Int),b)else Mv a (DR b (c.toNat:Int)) r
def Ip(a:Ak):Ak:={a with op:=0}
def B5(a:Ak):Int:=if Eh a.op=[]then 22 else if(Mv a (Ip a) (Bu a.op)).1≠0 then(Mv a (Ip a) (Bu a.op)).1 else if RY (Mv a (Ip a) (Bu a.op)).2=false then 2 else if 400<(NM a).length then 5 else 0
def G7.without{a:Ak}(h:G7 a)(c:Int):G7 (DR a c):=by
 unfold DR;obtain⟨f,u,z,i,o,m,e,j,k,x⟩:=h
 repeat' split
 all_goals exact⟨by first|exact f|simp,by first|exact u|simp,by first|exact z|simp,by first|exact i|simp,by first|exact o|simp,by first|exact m|simp,by first|exact e|simp,by first|exact j|simp,by first|exact k|simp,by first|exact x|simp⟩
def yK{m:Gu}{i:Id}(a:Ak):Ag ((m.put i 0 (GO a)).put i 0 [.int .u8 0]) i 0 11=some (GO (Ip a)):=by
 grind [TH,GO,Ip,AR,Ah]
def aNZ{S:Gq}{a:Ak}(ha:G7 a)(j:S 101=some (Ac aEE))(l:S 259=some (Ac aIV)){ls:Bs}(n:∀c∈ls,c.toNat<128){r:Int×Ak}{Q:Ex->St->Prop}
  (pa:∀y,r.1≠0->y.s 2= .int .i64 r.1->Q .ret y)
  (ga:∀y,r.1=0->(∀c∈ls,Bb a (c.toNat:Int)=0)->G7 r.2->y.s 1= .ptr [0] 0->y.s 4= .ptr [11] 0->Ag y.m [0] 0 11=some (GO a)->Ag y.m [11] 0 11=some (GO r.2)->Q (.exit 0) y):
  ∀(f p:Nat)(b:Ak) y g,ls.length=p+f->Mv a b (ls.drop p)=r->(∀c∈ls.take p,Bb a (c.toNat:Int)=0)->G7 b->y.s 1= .ptr [0] 0->y.s 4= .ptr [11] 0->y.s 18= .itp [17]->Ag y.m [0] 0 11=some (GO a)->Ag y.m [11] 0 11=some (GO b)->y.m [17] 1=some (.it ls p)->
   A5 S [] Uq Q y g:=by
 have ma:([0]:Id)≠[17]:=V
 have k:([11]:Id)≠[17]:=V
 have o:([0]:Id)≠[11]:=V
 have q:([17]:Id)≠[11]:=V
 intro f;induction f with
 |zero=>
  intro p b y g hf t hz hb u h4 z hm ra v;refine Af Uq.eq_1 ?_;have hp:¬(p<ls.length):=O
  simp only[↓C2,Gy,simprocAttr,z,hp,v,Qo];rw[List.drop_of_length_le O]at t;rw[QG O]at hz;simp only[Mv]at t;subst t;exact ga _ rfl hz hb u h4 hm ra
 |succ f ih=>
  intro p b y g hf t hz hb u h4 z hm ra v;refine Af Uq.eq_1 ?_;have hp:p<ls.length:=O
  have ja:ls[p]?=some ls[p]:=Qi hp;have qa:ls[p]∈ls:=QX hp;have i:=Ns ja (n _ qa);have d:aEE [.agg (GO a),.int .i32 (ls[p].toNat:Int)]=some (.int .i64 (Bb a (ls[p].toNat:Int))):=Ha ha;have e:aIV [.agg (GO b),.int .i32 (ls[p].toNat:Int)]=some (.agg (GO (DR b (ls[p].toNat:Int)))):=aIU;have na:ls.take (p+1)=ls.take p++[ls[p]]:=by rw[Zg,ja];rfl
  have wa:ls.drop p=ls[p]::ls.drop (p+1):=QJ hp;have ta:=hb.without (ls[p].toNat:Int);rw[wa]at t;unfold Mv at t;generalize ls[p]=c at i d e na t ta;obtain⟨ka,fa,da⟩:=y;simp only at u h4 z hm ra v;by_cases w:Bb a (c.toNat:Int)=0
  ·rw[if_neg (λh=>h w)]at t;rw[w]at d;simp only[↓C2,Gt,simprocAttr,u,h4,z,hm,ra,i,AE ma,AE k,Ab j,d,Ab l,e,BA,BB,AL,AR,hp,v,and_self,Qo,Qw,Qk];refine ih (p+1) _ _ _ O t (λx hx=>?_) ta ?_ ?_ ?_ ?_ ?_ ?_
   ·grind
   ·exact u
   ·exact h4
   ·exact z
   ·grind [AE]
   ·grind [As,AR]
   ·grind [aA,Ah]
  ·rw[if_pos w]at t;simp only[↓C2,Gt,simprocAttr,u,z,hm,i,AE ma,Ab j,d,w,BA,BB,hp,v,Qo,Qw];exact pa _ (by rw[←t];exact w) (by rw[←t];rfl)
def Lq{b:Bool}(h:CQ b=0):b=true:=by cases b with
 |true=>rfl
 |false=>cases h
def aAn{a:Ak}{c:Int}(h:Bb a c=0):S9 a c:=by
 refine⟨?_,?_,?_⟩
 ·rintro rfl;have e:Bb a 110=CQ (decide (0<=a.n∧a.n<=999)):=by simp[Bb]
  rw[e]at h;have:=of_decide_eq_true (Lq h);omega
 ·rintro rfl;have e:Bb a 99=CQ (decide (-1<=a.cas∧a.cas<=999)):=by simp[Bb]
  rw[e]at h;have:=of_decide_eq_true (Lq h);omega
 ·rintro rfl;have e:Bb a 108=CQ (countB a.ns):=by simp[Bb]
  rw[e]at h;have z:=Lq h;unfold countB at z;rw[QY]at z;intro x q;have i:(a.ns.any λx=>!decide (1<=x∧x<=999))=false:=by simpa using z.2
  rw[List.any_eq_false]at i;have o:=i x q;have m:1<=x∧x<=999:=by simpa using o
  omega
def F68:List D->Option D:=FX (λa:Ak=>[GT a]) (λa=>G7 a) (λa=> .int .i64 (B5 a))
def aQp{a:Ak}(h:G7 a):F68 [GT a]=some (.int .i64 (B5 a)):=
 BO (mk:=λa:Ak=>[GT a]) (λx y e=>by
  simp only[Qc,and_true]at e;exact Fe e) h
def aVO:Kq F68 207:=by
 obtain⟨S,s,hl⟩:=Bd (Aa lR (Aa aJq (Aa aR9 (Aa aR8 (Aa aR7 Ad)))));have e:=hl 44 _ rfl;have j:=hl 101 _ rfl;have l:=hl 259 _ rfl;have g:=hl 260 _ rfl;have n:=hl 261 _ rfl;clear hl;refine CI s (Aj func207:Fn Qe 207 39 aT9 [.t 2]) (λ_=>U) (λa x=>?_);have w:=OP x.op0 x.op;obtain⟨f1,f2,f3⟩:=mL a.op;have na:∀m:Gu,m.put [0] 0 (GO a) [0] 0=some (.int .u8 a.op):=λm=>by
  rw[Ah,if_pos ⟨rfl,QB _,by rw[AR];omega⟩];rfl
 have ma:([0]:Id)≠[17]:=V
 have k:([11]:Id)≠[17]:=V
 have o:([0]:Id)≠[11]:=V
 have q:([0]:Id)≠[5]:=V
 have qa:∀m:Gu,m.put [11] 0 (GO a) [11] 0=some (.int .u8 a.op):=λm=>by
  rw[Ah,if_pos ⟨rfl,QB _,by rw[AR];omega⟩];rfl
 have i:G7 (Ip a):=⟨by simp[Ip],by simp[Ip],x.tk,x.pa,x.ot,x.ns,x.da,x.rl,x.rs,x.key⟩;have b:(∀c∈Bu a.op,Bb a (c.toNat:Int)=0)->aQw [.agg (GO a)]=some (.str (NM a)):=λh=>aIS x λc hc=>aAn (h c hc)
 unfold B5 aT9 GT;by_cases hw:Eh a.op=[]
 ·have p:(Eh a.op==([]:Bs))=true:=by rw[hw];rfl
  simp only[↓C2,Gt,simprocAttr,AL,AR,Ab e,w,na,As,Ah,Qu,QM,Qg,Qm,Qp,Qo,and_self,Qk,Qc,Qf,hw]
  all_goals exact YU
 ·have p:(Eh a.op==([]:Bs))=false:=by simpa using hw
  simp only[↓C2,GJ,simprocAttr,AL,AR,Ab e,w,na,qa,LT,As,Ah,Qk,Qc,and_false,Qf,hw,AE q,As (AR a)];generalize hr:Mv a (Ip a) (Bu a.op)=r;refine aNZ (r:=r) x j l f3 (λy u v=>?_) (λy u hz hb ea h4 hm ra=>?_) (Bu a.op).length 0 (Ip a) _ _ O hr U i rfl rfl rfl ?_ ?_ ?_
  ·simp only[↓C2,Gt,reduceIte,u,v,ne_eq];rw[if_neg hw]
  ·have f:=b hz;have d:aQx [.agg (GO r.2),.agg [.int .u8 0,.str [],.str [],.str [],.int .i64 0,.int .i64 0,.bool false,.slice true [] [],.str [],.slice true [] [],.str []]]=some (.bool (RY r.2)):=aIT hb;cases hzb:RY r.2 with
   |false=>
    rw[hzb]at d;simp only[↓C2,Gt,simprocAttr,BA,BB,ne_eq,QD,Q2,Q7,Zb,Zh,u,h4,ra,Ab g,d,B7,D.un1,D.calm1,Zj];rw[if_neg hw]
   |true=>
    rw[hzb]at d;by_cases hl:400<(NM a).length
    ·have z:((400:Int)<((NM a).length:Int)):=by omega
     simp only[↓C2,Gt,simprocAttr,BA,BB,ne_eq,QD,Q2,Q7,Zb,Zh,u,ea,h4,hm,ra,Ab g,d,Ab n,f,B7,hl,z,D.un1,D.calm1,Zj];rw[if_neg hw]
    ·have z:¬((400:Int)<((NM a).length:Int)):=by omega
     simp only[↓C2,Gt,simprocAttr,BA,BB,ne_eq,QD,Q2,Q7,Zb,Zh,u,ea,h4,hm,ra,Ab g,d,Ab n,f,B7,hl,z,D.un1,D.calm1,Zj];rw[if_neg hw]
  ·grind [AE,As,AR]
  ·simp only[AE k];exact yK a
  ·grind [Ah]
def vQ:Ry->Prop
 | .names nl l=>nl=true->l=[]
 |_=>True
def fB:∀{l:List Rw} {a:Int},HP l a=true->∀x∈l,a<x.1∧x.1<=(l.getLast?.map (·.1)).getD 0
 |[],a,_,x,hx=>by cases hx
 |y::r,a,h,x,hx=>by
  simp only[HP,QY,decide_eq_true_eq]at h;cases r with
  |nil=>
   rw[Q4.1 hx];exact⟨h.1,U⟩
  |cons z q=>
   have ih:=fB h.2;have d:=ih z (Zs ..);rw[List.getLast?_cons_cons];rcases QO.1 hx with rfl|hx
   ·exact⟨h.1,O⟩
   ·grind
def zK(l:List Rw):Pc l=(l.getLast?.map (·.1)).getD 0:=by
 grind [Pc]
def SY{s:Sc}{q:Int}(h:DA s q=false)(j:q<=6):s.rs.length<=6∧∀x∈s.rs,1<=x.1∧x.1<=30:=by
 obtain⟨i,u,t,p,v,b⟩:=My h;have g:B_ s q<=6:=by unfold B_;split<;>omega
 refine⟨O,λx d=>?_⟩;have:=fB v x d;rw[←zK,b]at this;omega
theorem sum_64:∀l:List Bs,(l.any λs=>!T_ s)=false->Cr l<=64*l.length
 |[],_=>by simp[Cr]
 |x::r,h=>by
  simp only[ZE,Bool.or_eq_false_iff,Bool.not_eq_false']at h;have ih:=sum_64 r h.2;have q:x.length<=64:=by
   grind [T_]
  simp only[Cr,Qg];omega
def LO{y:Ry}(h:Hh y=0)(o:vQ y):ryG y:=by
 cases y with
 |fail e=>simp only[Hh]at h;split at h;(rename_i c;exact⟨O,O⟩);omega
 |done=>trivial
 |number n=>simp only[Hh]at h;split at h;(rename_i c;exact⟨O,O⟩);omega
 |found n d=>simp only[Hh]at h;split at h;(rename_i c;exact⟨O,O,O⟩);omega
 |about s=>
  simp only[Hh]at h;cases hb:DA s 6 with
  |true=>rw[hb]at h;simp at h
  |false=>
   obtain⟨i,u,g,_⟩:=My hb;obtain⟨t,k⟩:=SY hb O;exact⟨O,O,O,λx q=>by have:=k x q;omega⟩
 |names nl l=>
  simp only[Hh]at h;split at h
  ·rename_i c;have:=sum_64 l c.2;exact⟨O,o,O⟩
  ·omega
 |state b=>trivial
theorem Sz(l:List Bs):(CZ l).length<=1+Cr l+l.length:=by
 grind [CZ,DX]
def lE{y:Ry}(h:Hh y=0)(c:vQ y):(GZ y).length<=6∧Cr (GZ y)<=100000:=by
 cases y with
 |fail e=>have:=Dm e.toNat;simp only[GZ,Cr,Qg,Qm];omega
 |done=>simp[GZ,Cr]
 |number n=>have:=Dm n.toNat;simp only[GZ,Cr,Qg,Qm];omega
 |found n d=>
  have:=Dm n.toNat;simp only[Hh]at h;split at h
  ·grind [DY,GZ,Cr]
  ·omega
 |about s=>
  have g:=Dm s.mx.toNat;have k:=Dm s.la.toNat;obtain⟨p,_⟩:=LO h c;have:=Sz (s.rs.map rowW1);have:=LL s.rs;rw[Qy]at *;simp only[GZ,Cr,Qg,Qm];omega
 |names nl l=>
  simp only[Hh]at h;split at h
  ·grind [sum_64,Sz,GZ,Cr]
  ·omega
 |state b=>cases b<;>simp[GZ,Cr]
def aDd:=Ap [(67,Ac R92),(70,Ac aQf),(69,Ac WK)]
def aIh:=RF aDd aL9 [.t 2,.t 3] 13
def aJO:Kq aIh 30:=An (Aj func30) (Aa aOa (Aa aTx (Aa aJG Ad)))
def oP(y:Ry)(h:xJ y)(o:vQ y):aIh [.agg (GW y)]=some (.tup [.str (Hg y),.int .i64 (Hh y)]):=by
 refine Am (Qa rfl) ?_;unfold aL9;have z:=jX y h;have e0:∃a b c d e f g i j k,GW y=[a,b,c,d,e,f,g,i,j,k]:=YS
 have d0:∀x∈GW y,x.un1=x∧x.calm1=true:=by
  cases y<;>(intro x q;simp only[GW,QO,QV,or_false]at q;rcases q with rfl|rfl|rfl|rfl|rfl|rfl|rfl|rfl|rfl|rfl<;>exact⟨rfl,rfl⟩)
 unfold Hg;by_cases c:Hh y=0
 ·have n:=aHZ y (LO c o);obtain⟨w1,w2⟩:=lE c o;have m:=WI (l:=GZ y) (s:=[32]) ⟨eY y,O,O,U,by have:=DX (GZ y) [32];simp only[Qg,Qm]at this;omega⟩;obtain⟨a,b,cc,d,e,f,g,i,j,k,p⟩:=e0;have u:=λx q=>d0 x q
  rw[p]at z n d0 ⊢;rw[c]at z ⊢;simp only[QO,QV,or_false,forall_eq_or_imp,forall_eq]at d0;obtain⟨⟨a1,a2⟩,⟨t,b2⟩,⟨c1,r⟩,⟨d1,d2⟩,⟨w,e2⟩,⟨f1,f2⟩,⟨g1,g2⟩,⟨i1,i2⟩,⟨j1,j2⟩,k1,k2⟩:=d0;have v:((strsD (GZ y)).all D.calm)=true:=by simp[strsD,QT];intros;rfl
  simp only[Gv,↓C2,Gp,simprocAttr,Ae aDd 67,z,a1,a2,t,b2,c1,r,d1,d2,w,e2,f1,f2,g1,g2,i1,i2,j1,j2,k1,k2,Ae aDd 70,n,Ae aDd 69,m,spJ]
  all_goals exact YT
 ·have c':=eq_false c;obtain⟨a,b,cc,d,e,f,g,i,j,k,p⟩:=e0;rw[p]at z d0 ⊢;simp only[QO,QV,or_false,forall_eq_or_imp,forall_eq]at d0;obtain⟨⟨a1,a2⟩,⟨t,b2⟩,⟨c1,r⟩,⟨d1,d2⟩,⟨w,e2⟩,⟨f1,f2⟩,⟨g1,g2⟩,⟨i1,i2⟩,⟨j1,j2⟩,k1,k2⟩:=d0;simp only[Gv,↓C2,Gp,simprocAttr,Ae aDd 67,z,a1,a2,t,b2,c1,r,d1,d2,w,e2,f1,f2,g1,g2,i1,i2,j1,j2,k1,k2,c']
  all_goals exact YT
def aU3:=Ap [(30,Ac aIh)]
def aIi:=RF aU3 aMa [.t 2] 17
def aJP:Kq aIi 37:=An (Aj func37) (Aa aJO Ad)
def U1(e:Int)(h:1<=e∧e<=99):aIi [.int .i64 e]=some (.str (Hg (.fail e))):=by
 refine Am (Qa rfl) ?_;unfold aMa;have n:=oP (.fail e) trivial trivial;have r:Hh (.fail e)=0:=if_pos h;rw[r]at n;have c':(e=0)=False:=eq_false O;unfold GW at n;simp only[Gv,↓C2,Gp,simprocAttr,Ae aU3 30,n,c']
 all_goals exact YT
def aOZ{b:Bool}:decide (b=true)=b:=by cases b<;>rfl
def aLO:=y0 f262 [] []
def aLN:=y0 f263 [] []
def aT8:=y0 f208 [(4,[(6,0),(6,2)])] []
def aT7:=y0 f209 [] []
def aUn:=y0 f143 [] []
def aUo:=y0 f78 [] []
structure Vw where
 se:Bool
 te:Int
 key:Bs
 nlm:Bool
 ms:List Mt
 nlt:Bool
 ks:List Tk
def Hc(v:Vw):List D:=[.bool v.se,.int .i64 v.te,.str v.key,.slice v.nlm [] (AA v.ms),.slice v.nlt [] (AG v.ks)]
def Hv(v:Vw):D:= .agg (Hc v)
theorem Oa{a b:Vw}(h:Hv a=Hv b):a=b:=by
 cases a;cases b;simp only[Hv,Hc,D.agg.injEq,Qc,D.int.injEq,D.str.injEq,D.bool.injEq,D.slice.injEq,true_and,and_true]at h;obtain⟨u,z,i,⟨o,m⟩,e,j⟩:=h;have g:=Wd m;have w:=Vy j;subst u z i o e g w;rfl
def HG(v:Vw):(Hc v).map D.un1=Hc v:=rfl
def HH(v:Vw):(Hc v).all D.calm1=true:=rfl
def Bi(v:Vw):D.cells (.agg (Hc v))=Hc v:=rfl
theorem Ck(v:Vw):(Hc v).length=5:=rfl
structure P3 (v:Vw):Prop where
 ml:v.ms.length<=1000
 mp:∀m∈v.ms,m.1.length<=1000
 kl:v.ks.length<=1000
 kp:∀k∈v.ks,wW k∧LV k.2.2.2
theorem Vz{l:List Tk}{j:Nat}(h:j<l.length):Bc l j∈l:=by simp[Bc,Qi h]
def P3.set{v:Vw}(h:P3 v):EY (AG v.ks):=EA (by have:=h.kl;omega)
def Fr(v:List Tk)(n p:Bs)(c:Int):Bool:=A0 v n&&WP (C0 (Bc v (IQ v n)).2.2.2 p).toNat c.toNat
open Classical in
def aEs{nl:Bool}{l:List Tk}{s:Bs}(hl:l.length<=1000000)(g:∀k∈l,wW k):F35 [.agg [.slice nl [] (AG l)],.str s]=some (.tup (if A0 l s=true then [O0 (Bc l (IQ l s)),.bool true]else [.agg [.str [],.str [],.slice true [] []],.bool false])):=by
 have h:EY (AG l)∧∀k∈C8 (AG l),wW k:=⟨EA hl,by rw[Bx];exact g⟩;show(if _ then _ else _)=_;rw[if_pos h,Bx]
open Classical in
def aQr{nl:Bool}{l:List Tk}{s p:Bs}(hl:l.length<=1000000)(g:∀k∈l,k.2.2.2.length<=1000000):F36 [.agg [.slice nl [] (AG l)],.str s,.str p]=some (.int .u8 (if A0 l s=true then C0 (Bc l (IQ l s)).2.2.2 p else 0)):=by
 have h:EY (AG l)∧∀k∈C8 (AG l),k.2.2.2.length<=1000000:=⟨EA hl,by rw[Bx];exact g⟩;show(if _ then _ else _)=_;rw[if_pos h,Bx]
def aGV{l:List Rl}(h:FT l)(s:Bs):0<=C0 l s∧C0 l s<256:=by
 unfold C0;split
 ·omega
 ·generalize (Hr s (l.map (·.1))).toNat=j;by_cases q:j<l.length
  ·have:CB l j=l[j]:=by simp[CB,Qi q]
   rw[this];exact h _ (QX q)
  ·grind [CB]
def fU(p:Vw×Bs×Bs×Int):List D:=[Hv p.1,.str p.2.1,.str p.2.2.1,.int .u8 p.2.2.2]
def zP(x y:Vw×Bs×Bs×Int)(e:fU x=fU y):x=y:=by
 grind [fU,Oa]
def aIR:List D->Option D:=FX fU (λp=>P3 p.1∧0<=p.2.2.2∧p.2.2.2<256) (λp=> .bool (Fr p.1.ks p.2.1 p.2.2.1 p.2.2.2))
def pH{v:Vw}{n p:Bs}{c:Int}(h:P3 v)(u:0<=c∧c<256):aIR [Hv v,.str n,.str p,.int .u8 c]=some (.bool (Fr v.ks n p c)):=BO (mk:=fU) (a:=(v,n,p,c)) zP ⟨h,u⟩
def aR6:Kq aIR 263:=by
 obtain⟨S,j,hl⟩:=Bd (Aa aRx (Aa aVR Ad));have e:=hl 81 _ rfl;have f:=hl 13 _ rfl;clear hl;refine CI j (Aj func263:Fn Qe 263 29 aLN [.t 8]) (λ_=>by simp[fU]) (λp hp=>?_);obtain⟨v,n,q,c⟩:=p;obtain⟨m,y⟩:=hp;simp only at m y;have w:=m.kl;have z:=aEs (nl:=v.nlt) (l:=v.ks) (s:=n) O (λk g=>(m.kp k g).1);have d:=aQr (nl:=v.nlt) (l:=v.ks) (s:=n) (p:=q) O (λk g=>(m.kp k g).2.1);unfold aLN fU Hv Hc Fr;simp only;cases hf:A0 v.ks n with
 |false=>
  rw[hf]at z;simp only[Qs,if_false]at z;simp only[↓C2,GJ,simprocAttr,Ab e,z,QA,Ah,Au,Av,Qj,Qk,Qc,Qf]
  all_goals exact YU
 |true=>
  rw[hf]at z d;simp only[if_true]at z d;have o:IQ v.ks n<v.ks.length:=by
   grind [A0]
  have u:=(m.kp _ (Vz o)).2.2.2;generalize Bc v.ks (IQ v.ks n)=k at z d u;have tb:=aGV u q;generalize C0 k.2.2.2 q=x at d tb;have b:=P1 (a:=x.toNat) (c:=c.toNat) O O;rw[Qx y.1,Qx tb.1]at b;have hz:(((Nat.land c.toNat (255-x.toNat):Nat):Int)=0)=(WP x.toNat c.toNat=true):=by
   simp_all [WP]
  simp only[O0]at z;simp only[↓C2,GJ,simprocAttr,Ab e,z,Ab f,d,Vp,b,hz,aOZ,Ah,Au,Av,Qj,Qk,Qc,and_false,Qf]
  all_goals exact YU
def aFj:Bs:=[115,121,115]
def atA(a:Ak):Bs:=if a.op<=8 then aFj else a.pa
def Sr(v:Vw)(a:Ak):Bool:=Fr v.ks a.tk (atA a) (Io a.op)&&(decide (a.op≠18)||Fr v.ks a.tk a.ot 2)
def Li(p:Vw×Ak):List D:=[Hv p.1,GT p.2]
def Pg(x y:Vw×Ak)(e:Li x=Li y):x=y:=by
 grind [Li,Oa,Fe]
def aCx(op:Int):0<=Io op∧Io op<256:=by
 grind [Io]
def aED:List D->Option D
 |[.int .u8 op]=>some (.bool (decide (op<=8)))
 |_=>none
def aJp:Kq aED 262:=by
 refine AK (S:=λ_=>none) A2 (Aj func262:Fn Qe 262 5 aLO [.t 2]) (λds r h=>?_) (λds r h=>?_)
 ·unfold aED at h;split at h
  ·simp
  ·cases h
 ·unfold aED at h;split at h
  ·simp only[Ql]at h;subst h;unfold aLO;simp only[↓C2,Gt,simprocAttr]
   all_goals exact YU
  ·cases h
def F69:List D->Option D:=FX Li (λp=>P3 p.1) (λp=> .bool (Sr p.1 p.2))
def aQo{v:Vw}{a:Ak}(h:P3 v):F69 [Hv v,GT a]=some (.bool (Sr v a)):=BO (mk:=Li) (a:=(v,a)) Pg h
def aVN:Kq F69 208:=by
 obtain⟨S,s,hl⟩:=Bd (Aa aJp (Aa aVT (Aa aR6 Ad)));have c:=hl 262 _ rfl;have j:=hl 264 _ rfl;have h:=hl 263 _ rfl;clear hl;refine CI s (Aj func208:Fn Qe 208 32 aT8 [.t 4]) (λ_=>by simp[Li]) (λp hv=>?_);obtain⟨v,a⟩:=p;simp only at hv;have f:aED [.int .u8 a.op]=some (.bool (decide (a.op<=8))):=rfl;have x:F27 [.int .u8 a.op]=some (.int .u8 (Io a.op)):=rfl;have i:∀q,aIR [.agg (Hc v),.str a.tk,.str q,.int .u8 (Io a.op)]=some (.bool (Fr v.ks a.tk q (Io a.op))):=λq=>pH hv (aCx _)
 have e:aIR [.agg (Hc v),.str a.tk,.str a.ot,.int .u8 2]=some (.bool (Fr v.ks a.tk a.ot 2)):=pH hv O;have l:∀m:Gu,Ag (m.put [1] 0 (GO a)) [0] 0 5=Ag m [0] 0 5:=λm=>AE V
 have n:Ag (Gu.put (λ_ _=>none) [0] 0 (Hc v)) [0] 0 5=some (Hc v):=As (Ck v);have w:∀m:Gu,∀k d,(GO a)[k]?=some d->(m.put [1] 0 (GO a)) [1] k=some d:=λm k d r=>by
  have o:=(QQ.1 r).1;rw[Ah,if_pos ⟨rfl,Qu _,O⟩];exact r
 have m0:=λm=>w m 0 _ rfl
 have m1:=λm=>w m 1 _ rfl
 have m2:=λm=>w m 2 _ rfl
 have m3:=λm=>w m 3 _ rfl
 unfold aT8 Li Hv GT Sr atA;simp only;by_cases h8:a.op<=8
 ·have z:¬a.op=18:=by omega
  rw[decide_eq_true h8]at f;have y:=i aFj;simp only[h8,if_true];generalize Fr v.ks a.tk aFj (Io a.op)=b at y;unfold aFj at y;cases b<;>simp only[↓C2,Gt,simprocAttr,m0,m1,m2,l,n,HG,HH,Bi,AL,Qp,ne_eq,z,Ab c,f,Ab j,x,Ab h,y]<;>refine AS ?_<;>simp only[↓C2,Gt,reduceIte,Qb,ZH,z]
  all_goals exact YU
 ·rw[decide_eq_false h8]at f;have y:=i a.pa;simp only[h8,if_false];generalize Fr v.ks a.tk a.pa (Io a.op)=b at y;generalize Fr v.ks a.tk a.ot 2=u at e;by_cases z:a.op=18
  ·have g:(a.op=18)=True:=eq_true z;clear z;cases b<;>cases u<;>simp only[↓C2,Gt,simprocAttr,m0,m1,m2,m3,l,n,HG,HH,Bi,AL,Qp,ne_eq,Ab c,f,Ab j,x,Ab h,y,e,g]<;>refine AS ?_<;>simp only[↓C2,Gt,reduceIte,Qb,ZF,QN,g]
   all_goals exact YU
  ·cases b<;>simp only[↓C2,Gt,simprocAttr,m0,m1,m2,l,n,HG,HH,Bi,AL,Qp,ne_eq,z,Ab c,f,Ab j,x,Ab h,y]<;>refine AS ?_<;>simp only[↓C2,Gt,reduceIte,Qb,ZH,z]
   all_goals exact YU
abbrev Op1:=Int×Bs×Bs
def opD(x:Op1):D:= .agg [.int .u8 x.1,.str x.2.1,.str x.2.2]
def DU(l:List Op1):List D:=l.map opD
def aFP{x y:Op1}(h:opD x=opD y):x=y:=by
 grind [opD]
def yV{a b:List Op1}(h:DU a=DU b):a=b:=(Zd (λ_ _ e=>aFP e)).1 h
def yU(l:List Op1):(DU l).length=l.length:=Qy ..
structure Oc where
 need:Bs
 li:Bool
 rep:Bs
 nl:Bool
 ops:List Op1
 vw:Vw
structure Wb where
 v:Vw
 a:Ak
 k:Kn
def ocC(o:Oc)(t:Id):List D:=[.str o.need,.bool o.li,.str o.rep,.slice o.nl t (DU o.ops)]++Hc o.vw
def Hf(w:Wb)(o:Oc)(t:Id):List D:=Hc w.v++(GO w.a++(G6 w.k++ocC o t))
theorem Cy(w:Wb)(o:Oc)(t:Id):(Hf w o t).length=30:=rfl
def H4{α:Type}{f:α->Bs}{a b:List α}(h:a.map (λx=>D.str (f x))=b.map λx=>D.str (f x)):a.map f=b.map f:=by
 have:=congrArg (Zw λd=>match d with|D.str s=>s|_=>[]) h;simpa[QR,Function.comp_def]using this
def Ua{α:Type}{f:α->Bool}{a b:List α}(h:a.map (λx=>D.bool (f x))=b.map λx=>D.bool (f x)):a.map f=b.map f:=by
 have:=congrArg (Zw λd=>match d with|D.bool s=>s|_=>false) h;simpa[QR,Function.comp_def]using this
def aF1{a b:List (Bs×Bool×List Bs)}(h:a.map zX=b.map zX):a.map (·.2)=b.map (·.2):=by
 have:=congrArg (Zw λd=>match d with|D.slice nl _ xs=>(nl,xs.map λd=>match d with|D.str s=>s|_=>[])|_=>(false,[])) h;simpa[QR,Function.comp_def,zX,strsD]using this
def aMO{α β γ:Type}:∀{a b:List (α×β×γ)},a.map (·.1)=b.map (·.1)->a.map (·.2.1)=b.map (·.2.1)->a.map (·.2.2)=b.map (·.2.2)->a=b
 |[],[],_,_,_=>rfl
 |[],_::_,h,_,_=>Xd
 |_::_,[],h,_,_=>Xd
 |x::a,y::b,h1,h2,h3=>by
  simp only[QD,Qc]at h1 h2 h3;rw[aMO h1.2 h2.2 h3.2,QU h1.1 (QU h2.1 h3.1)]
def mA{a b:Kn}(h:G6 a=G6 b):a=b:=by
 cases a;cases b;simp only[G6,Qc,D.slice.injEq,true_and,and_true]at h;obtain⟨⟨_,u⟩,⟨_,z⟩,⟨_,i⟩,⟨_,o⟩,_,m⟩:=h;have w:=aMO (H4 u) (H4 z) (Ua i);have g:=aF1 m;have f:=aMO (H4 o) (by have:=congrArg (Zw Prod.fst) g;simpa[QR,Function.comp_def]using this) (by have:=congrArg (Zw Prod.snd) g;simpa[QR,Function.comp_def]using this);rw[w,f]
def LC{w s:Wb}{o o':Oc}{t x:Id}(h:Hf w o t=Hf s o' x):w=s∧o=o'∧t=x:=by
 unfold Hf at h;obtain⟨u,h⟩:=Q8 h rfl;obtain⟨z,h⟩:=Q8 h rfl;obtain⟨i,h⟩:=Q8 h rfl;have j:=Oa (congrArg D.agg u);have f:=Fe (congrArg D.agg z);have n:=mA i;unfold ocC at h;obtain⟨r,m⟩:=Q8 h rfl;have g:=Oa (congrArg D.agg m);simp only[Qc,D.str.injEq,D.bool.injEq,D.slice.injEq,and_true]at r;obtain⟨p,k,q,v,a,e⟩:=r;have b:=yV e;cases w;cases s;cases o;cases o';simp only at j f n g p k q v b;subst j f n g p k q v b a;exact⟨rfl,rfl,rfl⟩
abbrev WY:=D×Oc×Option (List Nat)
def Vq(i:Id)(w:Wb)(o:Oc)(t fr:Id)(y:WY):GA:=match y.2.2 with
 |none=>[(i,0,Hf w y.2.1 t)]
 |some l=>(i,0,Hf w y.2.1 (l++fr))::A6 167 (l++fr) (.slice o.nl t (DU o.ops))
def UN(m:Gu)(i:Id)(x:Wb×Oc×Id):Prop:=Ag m i 0 30=some (Hf x.1 x.2.1 x.2.2)∧BK m 167 x.2.1.nl x.2.2 x.2.1.ops.isEmpty=true∧(x.2.1.nl=true->x.2.2=[])
open Classical in
def Sp(p:Wb×Oc×Id->Prop):Option (Wb×Oc×Id):=if h:∃x,p x then some (Classical.choose h)else none
def V0{p:Wb×Oc×Id->Prop}{x:Wb×Oc×Id}(h:p x)(m:∀y,p y->y=x):Sp p=some x:=by
 have q:∃x,p x:=⟨x,h⟩;unfold Sp;rw[dif_pos q,m _ (Classical.choose_spec q)]
def So{p:Wb×Oc×Id->Prop}{x:Wb×Oc×Id}(h:Sp p=some x):p x:=by
 unfold Sp at h;split at h
 ·grind
 ·cases h
def wQ(F:Wb->Oc->List D->Option WY):G_ where
 rd:=λds m=>match ds with
  | .ptr i 0::_=>Ai i 0 30++(match m i 24 with|some (.slice _ t _)=>[(t,0)]|_=>[])
  |_=>[]
 ex:=λds m fr=>match ds with
  | .ptr i 0::rest=>(Sp (UN m i)).bind λx=>(F x.1 x.2.1 rest).map λy=>(y.1,Vq i x.1 x.2.1 x.2.2 fr y)
  |_=>none
def aCI{m:Gu}{i:Id}{w:Wb}{o:Oc}{t:Id}(h:Ag m i 0 30=some (Hf w o t)):m i 24=some (.slice o.nl t (DU o.ops)):=A7 h rfl
def aM2{F:Wb->Oc->List D->Option WY}(ds:List D)(m m':Gu)(fr:Id)(h:∀l∈(wQ F).rd ds m,m l.1 l.2=m' l.1 l.2):(wQ F).ex ds m fr=(wQ F).ex ds m' fr:=by
 simp only[wQ]at h ⊢;split
 ·rename_i i v;have n:Ag m i 0 30=Ag m' i 0 30:=Bo (λl hl=>h l (Zo _ hl));have d:UN m i=UN m' i:=by
   funext x;obtain⟨w,o,t⟩:=x;apply propext;unfold UN;rw[n];have z:Ag m' i 0 30=some (Hf w o t)->BK m 167 o.nl t o.ops.isEmpty=BK m' 167 o.nl t o.ops.isEmpty:=λy=>by
    refine DZ (h (t,0) (Zn _ ?_));have:=aCI (n.trans y);rw[this];simp
   constructor
   ·rintro⟨a,b,c⟩;exact⟨a,by rw[←z a];exact b,c⟩
   ·rintro⟨a,b,c⟩;exact⟨a,by rw[z a];exact b,c⟩
  rw[d]
 ·rfl
def cM{m:Gu}{i:Id}{x y:Wb×Oc×Id}(q:UN m i x)(s:UN m i y):y=x:=by
 have:=s.1.symm.trans q.1;simp only[Ql]at this;obtain⟨a,b,c⟩:=LC this;exact QU a (QU b c)
structure Wt (i fr:Id) (m0:Gu) (nl0:Bool) (t0:Id) (m:Gu) (w:Wb) (o:Oc) (t:Id):Prop where
 at_:UN m i (w,o,t)
 loc:∀q,t≠q::fr
 sub0:nl0=false->¬fr<:+t0
 ch:(t=t0∧o.nl=nl0∧∀j x d,(j≠i∨30<=x)->m0 j x=some d->m j x=some d)∨
  ((∃l k,t=l++k::fr)∧o.nl=false∧(nl0=false->m t0 0=some (.tok 0))∧∀j x d,(j≠i∨30<=x)->(nl0=true∨j≠t0∨x≠0)->m0 j x=some d->m j x=some d)
def WE(i fr:Id)(m0:Gu)(nl0:Bool)(t0:Id)(w:Wb)(y:WY)(d:D)(m':Gu):Prop:=d=y.1∧match y.2.2 with
 |none=>Ag m' i 0 30=some (Hf w y.2.1 t0)∧∀j x d,(j≠i∨30<=x)->m0 j x=some d->m' j x=some d
 |some l=>Ag m' i 0 30=some (Hf w y.2.1 (l++fr))∧m' (l++fr) 0=some (.tok 168)∧(nl0=false->m' t0 0=some (.tok 0))∧∀j x d,(j≠i∨30<=x)->(nl0=true∨j≠t0∨x≠0)->m0 j x=some d->m' j x=some d
section
variable{i fr t0 t:Id}{m0 m m':Gu}{nl0:Bool}{w:Wb}{o o':Oc}
def N8(h:Ag m i 0 30=some (Hf w o t)):m i 0=some (.bool w.v.se):=A7 h rfl
def eN(h:UN m i (w,o,t))(c:o.nl=false):i≠t:=by
 rintro rfl;have u:=N8 h.1;have z:=Et h.2.1 c;rw[u]at z;cases z
def kH(h:Ag m i 0 30=some (Hf w o t))(z:m t0 0=some (.tok 0)):t0≠i:=by
 rintro rfl;rw[N8 h]at z;cases z
def Wt.put(h:Wt i fr m0 nl0 t0 m w o t)(n:∀j x,fr<:+j->m0 j x=none:=by assumption)(z:∀k,(i=k::fr)=False:=by assumption){q p:Nat}{ys:List D}:Wt i fr m0 nl0 t0 (m.put (q::fr) p ys) w o t:=by
 obtain⟨⟨a1,s,r⟩,hl,g,y⟩:=h;have hi:i≠q::fr:=λe=>(z q).mp e
 have a:∀j x d,m0 j x=some d->j≠q::fr:=λj x d hm e=>by
  rw[e,n (q::fr) _ ⟨[q],rfl⟩]at hm;cases hm
 refine⟨⟨by rw[Oi hi];exact a1,?_,r⟩,hl,g,?_⟩
 ·grind [DZ,aA]
 ·grind [aA]
def Wt.cell(h:Wt i fr m0 nl0 t0 m w o t)(p:Ag m' i 0 30=some (Hf w o' t))(u:o'.nl=o.nl)(v:o'.ops=o.ops)(z:∀j x,(j≠i∨30<=x)->m' j x=m j x):Wt i fr m0 nl0 t0 m' w o' t:=by
 obtain⟨a,hl,g,y⟩:=h;refine⟨⟨p,?_,by show o'.nl=true->t=[];rw[u];exact a.2.2⟩,hl,g,?_⟩
 ·show BK m' 167 o'.nl t o'.ops.isEmpty=true;rw[u,v];have n:=a.2.1;cases hn:o.nl with
  |true=>simp only[hn,BK,if_true]at n ⊢;exact n
  |false=>
   have ga:=eN a hn;simp only[hn]at n;rw[←n];exact DZ (z t 0 (.inl (λe=>ga e.symm)))
 ·rcases y with ⟨c1,c,r⟩|⟨c1,r,s,c4⟩
  ·simp_all
  ·exact .inr ⟨c1,by rw[u];exact r,λf=>by rw[z t0 0 (.inl (kH a.1 (s f)))];exact s f,λj x d q b k=>by rw[z j x q];exact c4 j x d q b k⟩
theorem lL{cs:List D}(hl:cs.length=30):∀j x,(j≠i∨30<=x)->(m.put i 0 cs) j x=m j x:=λj x h=>by
 rcases h with h|h
 ·rw[aA h]
 ·grind [aD,aA]
def FV{nl:Bool}{xs:List D}{e:Nat}{f:Id}{j:Id}{x:Nat}:GA.app m (A6 e f (.slice nl t xs)) j x=if j=f∧x=0 then some (.tok (e+1))else if nl=false∧j=t∧x=0 then some (.tok 0)else m j x:=CP
def L2(t fr:Id):Option (List Nat)->Id
 |none=>t
 |some l=>l++fr
def Wt.call(h:Wt i fr m0 nl0 t0 m w o t)(n:∀j x,fr<:+j->m0 j x=none)(ia:∀k l,(i=l++k::fr)=False){k:Nat}{d:D}{ol:Option (List Nat)}
  (oa:ol=none->o'.nl=o.nl∧o'.ops=o.ops) (ra:∀l,ol=some l->o'.nl=false∧l≠[]):
  Wt i fr m0 nl0 t0 (GA.app m (Vq i w o t (k::fr) (d,o',ol))) w o' (L2 t (k::fr) ol)∧∀q x,GA.app m (Vq i w o t (k::fr) (d,o',ol)) (q::fr) x=m (q::fr) x:=by
 cases ol with
 |none=>
  obtain⟨u,v⟩:=oa rfl;refine⟨h.cell (GQ (Cy _ _ _)) u v (lL (Cy _ _ _)),λq x=>?_⟩;have e0:q::fr≠i:=λe=>(ia q []).mp e.symm
  show(m.put i 0 _) (q::fr) x=_;rw[aA e0]
 |some l=>
  obtain⟨hn,c⟩:=ra l rfl;obtain⟨a,hl,g,p⟩:=h;have y:i≠l++k::fr:=λe=>(ia k l).mp e
  have z:∀j x,GA.app m (Vq i w o t (k::fr) (d,o',some l)) j x=if j=l++k::fr∧x=0 then some (.tok 168)else if o.nl=false∧j=t∧x=0 then some (.tok 0)else(m.put i 0 (Hf w o' (l++k::fr))) j x:=λj x=>FV (m:=m.put i 0 (Hf w o' (l++k::fr)))
  have ma:∀q,q::fr≠l++k::fr:=λq e=>by
   have:=congrArg ZI e;simp only[Qq,Qg]at this;exact c (QW.1 O)
  have b:fr<:+l++k::fr:=⟨l++[k],U⟩;refine⟨⟨⟨?_,?_,λh=>absurd h (by rw[hn];simp)⟩,λq e=>ma q e.symm,g,.inr ⟨⟨l,k,rfl⟩,hn,λh0=>?_,λj x dd s la hm=>?_⟩⟩,λq x=>?_⟩
  ·show Ag _ i 0 30=some (Hf w o' (l++k::fr));rw[←GQ (m:=m) (i:=i) (Cy w o' (l++k::fr))];refine Bo (λq hq=>?_);have wa:q.1=i:=by
    grind [Ai]
   rw[z,wa,if_neg (λe=>y e.1),if_neg (λe=>eN a e.1 e.2.1)]
  ·show BK _ 167 o'.nl (l++k::fr) _=true;rw[hn];unfold BK;rw[if_neg QK];simp only[z,and_self,if_true];cases l<;>simp
  ·have ga:t0≠l++k::fr:=λe=>g h0 (e▸b)
   rw[z,if_neg (λe=>ga e.1)];rcases p with ⟨c1,c0,r⟩|⟨c1,r,c3,c4⟩
   ·simp_all
   ·split
    ·rfl
    ·rw[aA (kH a.1 (c3 h0))];exact c3 h0
  ·have ga:j≠l++k::fr:=λe=>by rw[e,n _ _ b]at hm;cases hm
   rw[z,if_neg (λe=>ga e.1)];have f:m j x=some dd:=by
    grind
   rw[if_neg]
   ·grind [lL,Cy]
   ·rintro⟨e1,e2,e3⟩;rcases p with ⟨c1,c0,r⟩|⟨⟨l',k',c1⟩,r,c3,c4⟩
    ·simp_all
    ·rw[e2,c1,n _ _ ⟨l'++[k'],U⟩]at hm;cases hm
  ·have e0:q::fr≠i:=λe=>(ia q []).mp e.symm
   rw[z,if_neg (λe=>ma q e.1),if_neg (λe=>hl q e.2.1.symm),aA e0]
def Wt.start(h:UN m i (w,o,t))(n:∀j x,fr<:+j->m j x=none):Wt i fr m o.nl t m w o t:=by
 have g:o.nl=false->¬fr<:+t:=λc g=>by
  have:=Et h.2.1 c;rw[n _ _ g]at this;cases this
 refine⟨h,λq e=>?_,g,.inl ⟨rfl,rfl,λ_ _ _ _ h=>h⟩⟩;cases c:o.nl with
 |true=>have:=h.2.2 c;simp only at this;rw[this]at e;cases e
 |false=>exact g c (by rw[e];exact⟨[q],rfl⟩)
def Wt.end0(h:Wt i fr m0 nl0 t0 m w o t0)(z:nl0=true->t0=[]){d:D}:WE i fr m0 nl0 t0 w (d,o,none) d m:=by
 refine⟨rfl,h.at_.1,?_⟩;rcases h.ch with ⟨c1,b,u⟩|⟨⟨l,k,c1⟩,u,t,n⟩
 ·exact u
 ·exfalso;cases hn:nl0 with
  |true=>rw[z hn]at c1;simp at c1
  |false=>exact h.sub0 hn (c1▸⟨l++[k],U⟩)
def Wt.endl{l:List Nat}(h:Wt i fr m0 nl0 t0 m w o (l++fr))(hl:l≠[]){d:D}:WE i fr m0 nl0 t0 w (d,o,some l) d m:=by
 refine⟨rfl,h.at_.1,?_⟩;rcases h.ch with ⟨c1,b,u⟩|⟨⟨q,k,c1⟩,u,t,n⟩
 ·exfalso;cases hn:nl0 with
  |true=>
   have:=h.at_.2.2 (b.trans hn);simp only[List.append_eq_nil_iff]at this;exact hl this.1
  |false=>exact h.sub0 hn (c1▸⟨l,rfl⟩)
 ·exact⟨Et h.at_.2.1 u,t,n⟩
end
def lF(S:Gq)(g:DC)(rs:List RV)(N:Nat)(w:Wb)(o:Oc)(v:List D)(y:WY):Prop:=v.length+1<=N∧(y.2.2=none->y.2.1.nl=o.nl∧y.2.1.ops=o.ops)∧(∀l,y.2.2=some l->y.2.1.nl=false∧l≠[])∧
 ∀(i:Id)(m:Gu)(fr t:Id),UN m i (w,o,t)->(∀j x,fr<:+j->m j x=none)->(∀k l,(i=l++k::fr)=False)->(∀k,(i=k::fr)=False)->
  g.wp S fr (DM rs (WE i fr m o.nl t w y)) ⟨Bv (.ptr i 0::v),m,0⟩
open Classical in
def RW(S:Gq)(g:DC)(rs:List RV)(N:Nat):Wb->Oc->List D->Option WY:=λw o v=>if h:∃y,lF S g rs N w o v y then some (Classical.choose h)else none
def EB{S:Gq}{g:DC}{rs:List RV}{N:Nat}{w:Wb}{o:Oc}{v:List D}{y:WY}(h:RW S g rs N w o v=some y):lF S g rs N w o v y:=by
 unfold RW at h;split at h
 ·grind
 ·cases h
def aRr(w:Wb)(o:Oc)(b:o.nl=true->o.ops=[]):∃(m:Gu)(t:Id),UN m [0] (w,o,t)∧(∀j x,[1]<:+j->m j x=none)∧¬[1]<:+t:=by
 have n1:¬[1]<:+[0]:=V
 have n2:¬[1]<:+[2]:=V
 cases hn:o.nl with
 |true=>
  refine⟨Gu.put (λ_ _=>none) [0] 0 (Hf w o []),[],⟨GQ (Cy _ _ _),?_,λ_=>rfl⟩,λj x q=>?_,V⟩
  ·grind [BK]
  ·rw[aA (λe=>n1 (by rw[←e];exact q))]
 |false=>
  refine⟨(Gu.put (λ_ _=>none) [0] 0 (Hf w o [2])).put [2] 0 [.tok 168],[2],⟨?_,?_,λh=>?_⟩,λj x q=>?_,n2⟩
  ·grind [Oi,GQ,Cy]
  ·grind [BK,Gu.put]
  ·simp only at h;rw[hn]at h;cases h
  ·rw[aA (λe=>n2 (by rw[←e];exact q)),aA (λe=>n1 (by rw[←e];exact q))]
def A3{S:Gq}{g:DC}{rs:List RV}{N:Nat}{w:Wb}{o:Oc}{j:List D}{y:WY}(s:o.nl=true->o.ops=[])(r:lF S g rs N w o j y):RW S g rs N w o j=some y:=by
 have q:∃y,lF S g rs N w o j y:=⟨y,r⟩;unfold RW;rw[dif_pos q];obtain⟨m,t,u,v,i⟩:=aRr w o s;have e1:∀k l,(([0]:Id)=l++k::[1])=False:=λk l=>eq_false (λe=>by
  have:=congrArg List.getLast? e;simp at this)
 have f:∀k,(([0]:Id)=k::[1])=False:=λk=>eq_false (λe=>by simp at e)
 obtain⟨d,m',a,b⟩:=PM ((Classical.choose_spec q).2.2.2 [0] m [1] t u v e1 f) (r.2.2.2 [0] m [1] t u v e1 f);generalize Classical.choose q=z at *;obtain⟨z1,z2,z3⟩:=z;obtain⟨y1,y2,y3⟩:=y;obtain⟨rfl,a⟩:=a;obtain⟨p,b⟩:=b;simp only at p;subst p;cases z3 with
 |none=>
  cases y3 with
  |none=>
   have:=a.1.symm.trans b.1;simp only[Ql]at this;rw[(LC this).2.1]
  |some l=>
   have:=a.1.symm.trans b.1;simp only[Ql]at this;exact absurd ⟨l,(LC this).2.2.symm⟩ i
 |some l=>
  cases y3 with
  |none=>
   have:=a.1.symm.trans b.1;simp only[Ql]at this;exact absurd ⟨l,(LC this).2.2⟩ i
  |some x=>
   have:=a.1.symm.trans b.1;simp only[Ql]at this;obtain⟨_,n,c⟩:=LC this;rw[n,List.append_cancel_right c]
def CW{S:Gq}{f:FuncId}{N:Nat}{dc:DC}{rs:List RV}(hf:Fn Qe f N dc rs)(hS:Gq.ok Qe S):(wQ (RW S dc rs N)).ok Qe f:=by
 refine IK hS hf aM2 (λds m fr r u z ca=>?_);simp only[wQ]at z;split at z
 ·rename_i i ba;rw[Q5]at z;obtain⟨⟨w,o,t⟩,hp,z⟩:=z;rw[QZ]at z;obtain⟨y,hF,z⟩:=z;simp only[QC]at z;obtain⟨rfl,rfl⟩:=z;have ja:=So hp;obtain⟨hN,oa,ra,ma⟩:=EB hF;have na:m i 0=some (.bool w.v.se):=N8 ja.1;have g:∀k l,(i=l++k::fr)=False:=λk l=>eq_false (λe=>by
   rw[e,ca _ _ ⟨l++[k],U⟩]at na;cases na)
  refine⟨hN,LB (ma i m fr t ja ca g (λk=>g k [])) (λe p he=>?_)⟩;obtain⟨b,d,fa,rfl,hE⟩:=he;refine⟨b,_,fa,rfl,λj x dd n=>?_⟩;obtain⟨y1,y2,y3⟩:=y;cases y3 with
  |none=>
   obtain⟨g1,g2⟩:=hE;have pa:(m.put i 0 (Hf w y2 t)) j x=some dd:=n;by_cases s:j≠i∨30<=x
   ·grind [lL,Cy]
   ·have cb:j=i:=Classical.byContradiction (λh=>s (.inl h));have a:x<30:=Zk (λh=>s (.inr h));subst cb;have da:=aE (m:=m) (i:=j) (o:=0) (j:=x) (ds:=Hf w y2 t) (by rw[Cy];exact a);rw[Qp]at da;rw[da]at pa;exact A7 g1 pa
  |some l=>
   obtain⟨g1,g2,g3,g4⟩:=hE;obtain⟨hn,c⟩:=ra l rfl;have pa:GA.app (m.put i 0 (Hf w y2 (l++fr))) (A6 167 (l++fr) (.slice o.nl t (DU o.ops))) j x=some dd:=n;rw[FV]at pa;split at pa
   ·simp_all
   ·split at pa
    ·simp_all
    ·rename_i e1 e2;by_cases s:j≠i∨30<=x
     ·rw[lL (Cy _ _ _) j x s]at pa;refine g4 j x dd s ?_ pa;cases ho:o.nl with
      |true=>exact .inl rfl
      |false=>
       by_cases q:j=t
       ·simp_all
       ·exact .inr (.inl q)
     ·have cb:j=i:=Classical.byContradiction (λh=>s (.inl h));have a:x<30:=Zk (λh=>s (.inr h));subst cb;have da:=aE (m:=m) (i:=j) (o:=0) (j:=x) (ds:=Hf w y2 (l++fr)) (by rw[Cy];exact a);rw[Qp]at da;rw[da]at pa;exact A7 g1 pa
 ·cases z
def mG{F:Wb->Oc->List D->Option WY}{w:Wb}{o:Oc}{t i fr:Id}{m:Gu}{v:List D}{y:WY}{K:D×GA->Prop}{g}(x:UN m i (w,o,t))(q:F w o v=some y)(h:K (y.1,Vq i w o t fr y)):GL ((wQ F).ex (.ptr i 0::v) m fr) K g:=by
 refine aI ?_ h;simp only[wQ,V0 x (λz d=>cM x d),Qj,q,Qv]
def aBB:=y0 f223 [] []
def aJ7:Fn Qe 223 19 aBB [.cell (some 2) 4]:=Aj func223
def aLb:=y0 Tryz.f276 [] []
def UA:=y1 Tryz.f277 1 [] []
def aLa:=y0 Tryz.f277 [] [(1,UA)]
def aBC:=y0 f221 [(1,[(3,0),(3,13),(7,13),(13,0),(13,3),(13,7)])] []
def aBA:=y0 f224 [] []
def UH:=y1 f225 3 [(6,[(8,5)])] []
def aLX:=y0 f225 [] [(3,UH)]
abbrev y2(f:Func)(ps:List (Nat×List (Nat×Nat)))(ls:List (Nat×DC)){c:DC}(_:tQ ps ls (bAt f)=c:=by exact Eq.trans (by conv=>lhs;whnf) (by simp only[tQ,rW,List.append_eq,tR,tO,tAt,tAi,tAb,tAs,tAf,tAl,tAp,tAn,tAu,tAg,zT,Tz.k,Tz.z,Tz.n,Tz.d,tL,tP,tB,tE,tX,tS,tI,tG,tC,tM,fAt,Su,lk,ofVal,List.getD_cons_zero,List.getD_cons_succ,List.map_cons,List.map_nil,List.length_cons,List.length_nil,List.headD_cons,List.cons_append,List.nil_append,Option.map_some,Option.map_none,Option.getD_some,Bool.false_eq_true,reduceIte,Nat.reduceAdd,Nat.reduceMul,Nat.reduceEqDiff]<;>rfl)):DC:=c
abbrev y3(f:Func)(k:Nat)(ps:List (Nat×List (Nat×Nat)))(ls:List (Nat×DC)){c:DC}(_:tQ ps ls ((Wm k (bAt f)).getD .skip)=c:=by exact Eq.trans (by conv=>lhs;whnf) (by simp only[tQ,rW,List.append_eq,tR,tO,tAt,tAi,tAb,tAs,tAf,tAl,tAp,tAn,tAu,tAg,zT,Tz.k,Tz.z,Tz.n,Tz.d,tL,tP,tB,tE,tX,tS,tI,tG,tC,tM,fAt,Su,lk,ofVal,List.getD_cons_zero,List.getD_cons_succ,List.map_cons,List.map_nil,List.length_cons,List.length_nil,List.headD_cons,List.cons_append,List.nil_append,Option.map_some,Option.map_none,Option.getD_some,Bool.false_eq_true,reduceIte,Nat.reduceAdd,Nat.reduceMul,Nat.reduceEqDiff]<;>rfl)):DC:=c
def aUc:=y0 f144 [(0,[(2,6)])] []
def aUb:=y0 f145 [] []
def aUa:=y0 f146 [] []
def aL1:=y0 f216 [] []
def bU:=y0 f218 [] []
def aO1:=y0 f148 [(0,[(22,26),(26,4),(26,9),(26,14),(26,19),(26,22)]),(4,[(1,2)])] []
def Nj:=y0 f153 [] []
def aGP:=y0 f87 [] []
def AI{m:Gu}{i:Id}{w:Wb}{o:Oc}{t:Id}(h:Ag m i 0 30=some (Hf w o t)):m i 0=some (.bool w.v.se)∧m i 1=some (.int .i64 w.v.te)∧m i 2=some (.str w.v.key)∧m i 3=some (.slice w.v.nlm [] (AA w.v.ms))∧m i 4=some (.slice w.v.nlt [] (AG w.v.ks))∧m i 5=some (.int .u8 w.a.op)∧m i 6=some (.str w.a.tk)∧m i 7=some (.str w.a.pa)∧m i 8=some (.str w.a.ot)∧m i 9=some (.int .i64 w.a.n)∧m i 10=some (.int .i64 w.a.cas)∧m i 11=some (.bool w.a.fl)∧m i 12=some (.slice w.a.nln [] (AF w.a.ns))∧m i 13=some (.str w.a.da)∧m i 14=some (.slice w.a.nlr [] (Ar w.a.rs))∧m i 15=some (.str w.a.key)∧m i 16=some (.slice w.k.es.isEmpty [] (w.k.es.map λx=> .str x.1))∧m i 17=some (.slice w.k.es.isEmpty [] (w.k.es.map λx=> .str x.2.1))∧m i 18=some (.slice w.k.es.isEmpty [] (w.k.es.map λx=> .bool x.2.2))∧m i 19=some (.slice w.k.ls.isEmpty [] (w.k.ls.map λx=> .str x.1))∧m i 20=some (.slice w.k.ls.isEmpty [] (w.k.ls.map zX))∧m i 21=some (.str o.need)∧m i 22=some (.bool o.li)∧m i 23=some (.str o.rep)∧m i 24=some (.slice o.nl t (DU o.ops))∧m i 25=some (.bool o.vw.se)∧m i 26=some (.int .i64 o.vw.te)∧m i 27=some (.str o.vw.key)∧m i 28=some (.slice o.vw.nlm [] (AA o.vw.ms))∧m i 29=some (.slice o.vw.nlt [] (AG o.vw.ks)):=
 ⟨A7 h rfl,A7 h rfl,A7 h rfl,A7 h rfl,A7 h rfl,A7 h rfl,A7 h rfl,A7 h rfl,A7 h rfl,A7 h rfl,A7 h rfl,A7 h rfl,A7 h rfl,A7 h rfl,A7 h rfl,A7 h rfl,A7 h rfl,A7 h rfl,A7 h rfl,A7 h rfl,A7 h rfl,A7 h rfl,A7 h rfl,A7 h rfl,A7 h rfl,A7 h rfl,A7 h rfl,A7 h rfl,A7 h rfl,A7 h rfl⟩
def Wt.cellp{i fr t0 t:Id}{m0 m:Gu}{nl0:Bool}{w:Wb}{o o':Oc}{p:Nat}{ys:List D}(h:Wt i fr m0 nl0 t0 m w o t)(hl:p+ys.length<=30)(y:(Hf w o t).take p++ys++(Hf w o t).drop (p+ys.length)=Hf w o' t)(u:o'.nl=o.nl)(z:o'.ops=o.ops):Wt i fr m0 nl0 t0 (m.put i p ys) w o' t:=by
 refine h.cell (by rw[fC h.at_.1 hl,y]) u z (λj x hj=>?_);rcases hj with hj|hj
 ·rw[aA hj]
 ·grind [aD,aA]
structure eF (o:Oc):Prop where
 nl:o.nl=true
 ops:o.ops=[]
def S54:=Ap [(37,Ac aIi)]
def NX:Wb->Oc->List D->Option WY:=RW S54 aUc [] 14
def Rz:(wQ NX).ok Qe 144:=CW (Aj func144) (Aa aJP Ad)
def jR(w:Wb)(o:Oc)(e:Int)(f:eF o)(r:1<=e∧e<=99):NX w o [.int .i64 e]=some (.tup [],⟨[],false,Hg (.fail e),true,[],w.v⟩,none):=by
 refine A3 (λ_=>f.ops) ⟨Qa rfl,λh=>⟨f.nl.symm,f.ops.symm⟩,λl h=>Xc,λi m fr t x n g n0=>?_⟩;have c:=Wt.start x n;unfold aUc;have y:=AI x.1;have b:=U1 e r;have u:t=[]:=x.2.2 f.nl;simp only[Gv,↓C2,Gp,simprocAttr,y,Ae S54 37,b];refine AS ?_;simp only[↓C2,Gy,He,simprocAttr];subst u;exact(c.cellp (o':=⟨[],false,Hg (.fail e),true,[],w.v⟩) (Qa rfl) rfl f.nl.symm f.ops.symm).end0 (λ_=>rfl)
def S55:=Ap [(30,Ac aIh)]
def cY:Wb->Oc->List D->Option WY:=RW S55 aUb [] 13
def gF:(wQ cY).ok Qe 145:=CW (Aj func145) (Aa aJO Ad)
def It(w:Wb)(o:Oc)(y:Ry)(s:o.nl=true->o.ops=[])(h:xJ y)(hn:vQ y):cY w o [.agg (GW y)]=some (.tup [],{o with rep:=Hg y},none):=by
 refine A3 s ⟨Qa rfl,λh=>⟨rfl,rfl⟩,λl h=>Xc,λi m fr t x ca z n0=>?_⟩;have hW:=Wt.start x ca;unfold aUb;have xx:=AI x.1;have n:=oP y h hn;have d0:((GW y).map D.un1=GW y∧(GW y).all D.calm1=true)∧D.data (.agg (GW y))=true∧(D.agg (GW y)).cells=GW y∧(GW y).length=10:=by cases y<;>exact⟨⟨rfl,rfl⟩,rfl,rfl,rfl⟩
 obtain⟨⟨q,r⟩,d3,d4,d5⟩:=d0;obtain⟨a,b,cc,d,e,f,g,v,j,k,p⟩:∃a b c d e f g i j k,GW y=[a,b,c,d,e,f,g,i,j,k]:=YS
 rw[p]at q r n ⊢;simp only[QD,Q2,Qc,and_true]at q;simp only[Q7,Zb,Bool.and_true,QY]at r;obtain⟨u0,u1,u2,u3,u4,u5,u6,u7,u8,u9⟩:=q;obtain⟨k0,u,k2,k3,k4,k5,k6,k7,k8,k9⟩:=r;simp only[Gv,↓C2,Gp,simprocAttr,xx.2.2.2.2.2.2.2.2.2.2.2.2.2.2.2.2.2.2.2.2.2.2.2.1,n0,Ae S55 30,n,u0,u1,u2,u3,u4,u5,u6,u7,u8,u9,k0,u,k2,k3,k4,k5,k6,k7,k8,k9];exact(hW.put.cellp (o':={o with rep:=Hg y}) (Qa rfl) rfl rfl rfl).end0 x.2.2
def S56:=Ap [(145,wQ cY)]
def vS:Wb->Oc->List D->Option WY:=RW S56 aUa [] 5
def gE:(wQ vS).ok Qe 146:=CW (Aj func146) (Aa gF Ad)
def Is(w:Wb)(o:Oc)(b:o.nl=true->o.ops=[]):vS w o []=some (.tup [],{o with rep:=Hg .done},none):=by
 refine A3 b ⟨Qa rfl,λh=>⟨rfl,rfl⟩,λl h=>Xc,λi m fr t x n g n0=>?_⟩;have c:=Wt.start x n;unfold aUa;have qa:=It w o .done b trivial trivial;unfold GW at qa;simp only[↓C2,Gt,Gp,simprocAttr,AC S56 145];refine mG x qa ?_;obtain⟨c1,u⟩:=c.call (o':={o with rep:=Hg .done}) (d:= .tup []) (ol:=none) (k:=2) n g (λ_=>⟨rfl,rfl⟩) (λl h=>Xc);simp only[↓C2,Gy,simprocAttr];exact c1.end0 x.2.2
def aWU:=Ap []
def UY:Wb->Oc->List D->Option WY:=RW aWU aL1 [] 16
def aAr:(wQ UY).ok Qe 216:=CW (Aj func216) Ad
def OO(w:Wb)(o:Oc)(q:Bs)(li:Bool)(f:eF o):UY w o [.str q,.bool li]=some (.tup [],⟨q,li,[],true,[],w.v⟩,none):=by
 refine A3 (λ_=>f.ops) ⟨Qa rfl,λh=>⟨f.nl.symm,f.ops.symm⟩,λl h=>Xc,λi m fr t x n g n0=>?_⟩;have c:=Wt.start x n;unfold aL1;have y:=AI x.1;have u:t=[]:=x.2.2 f.nl;simp only[Gv,↓C2,Gp,simprocAttr,y];subst u;exact(c.cellp (o':=⟨q,li,[],true,[],w.v⟩) (Qa rfl) rfl f.nl.symm f.ops.symm).end0 (λ_=>rfl)
def aWW:=Ap []
def Nu:Wb->Oc->List D->Option WY:=RW aWW aL8 [] 23
def L6:(wQ Nu).ok Qe 210:=CW (Aj func210) Ad
def aHa(w:Wb)(o:Oc)(k:Int)(z u:Bs)(ho:o.nl=true->o.ops=[])(hl:o.ops.length<=1000):Nu w o [.int .u8 k,.str z,.str u]=some (.tup [],{o with nl:=false,ops:=o.ops++[(k,z,u)]},some ([11])):=by
 refine A3 ho ⟨Qa rfl,λh=>Xc,λl h=>XC,λi m fr t r ca ia n0=>?_⟩;have hW:=Wt.start r ca;unfold aL8;have y:=AI r.1;have ga:o.nl=false->i≠t:=λh=>eN r h
 have f:o.nl=false->m t 0=some (.tok 168):=λh=>Et r.2.1 h
 have n:∀q,t≠q::fr:=hW.loc;have p:o.nl=true->DU o.ops=[]:=λh=>by rw[ho h];rfl
 have ea:DU (o.ops++[(k,z,u)])=DU o.ops++[.agg [.int .u8 k,.str z,.str u]]:=by simp[DU,opD]
 have v:(DU o.ops).length=o.ops.length:=yU _;simp only[↓C2,Gt,Gp,simprocAttr,y.2.2.2.2.2.2.2.2.2.2.2.2.2.2.2.2.2.2.2.2.2.2.2.2.1];refine aB ⟨by simp only[v];omega,rfl,?_⟩ ?_
 ·cases hn:o.nl with
  |true=>exact .inl rfl
  |false=>exact .inr ⟨by rw[aA (n _)];exact f hn,by
    have:=Et r.2.1 hn;unfold UN BK at r;simp only[hn,Qs,if_false,this,beq_self_eq_true,Zq]at r;intro e;rw[e]at r;simp at r⟩
 rw[BM p,MR];have a:∀j x,GA.app (m.put (10::fr) 0 [.tok 168]) (A6 167 (11::fr) (.slice o.nl t (DU o.ops))) j x=if j=11::fr∧x=0 then some (.tok 168)else if o.nl=false∧j=t∧x=0 then some (.tok 0)else(m.put (10::fr) 0 [.tok 168]) j x:=λj x=>FV
 generalize hM:GA.app (m.put (10::fr) 0 [.tok 168]) (A6 167 (11::fr) (.slice o.nl t (DU o.ops)))=M at *;have b:∀x,M i x=m i x:=λx=>by
  rw[a,if_neg (λe=>(n0 11).mp e.1),if_neg (λe=>ga e.1 e.2.1),aA (λe=>(n0 10).mp e)]
 have g:Ag M i 0 30=some (Hf w o t):=by
  rw[←r.1];exact Bo (λl hl=>by
   simp only[Ai,QL]at hl;obtain⟨_,_,rfl⟩:=hl;exact b _)
 simp only[Gv,↓C2,Gp,simprocAttr,y.2.2.2.2.2.2.2.2.2.2.2.2.2.2.2.2.2.2.2.2.2.2.2.2.1,b];refine⟨rfl,?_,?_,λh=>?_,λj x d s la hm=>?_⟩
 ·rw[fC g (Qa rfl),←ea];rfl
 ·grind [aA]
 ·grind [aA]
 ·have c:∀q,j≠q::fr:=λq e=>by rw[e,ca (q::fr) _ ⟨[q],rfl⟩]at hm;cases hm
  have e1:(M.put i 24 [.slice false (11::fr) (DU o.ops++[.agg [.int .u8 k,.str z,.str u]])]) j x=M j x:=by
   grind [aA,aD]
  refine(show _=_ from e1).trans ?_;rw[a,if_neg (λe=>c 11 e.1),if_neg,aA (c 10)]
  ·exact hm
  ·grind
def aO2:=y0 f147 [(3,[(1,7)])] []
def Ur:=y1 f149 6 [] []
def aO0:=y0 f149 [(0,[(10,14),(14,4),(14,9),(14,10)]),(4,[(1,2)])] [(6,Ur)]
def aGL:=y0 f150 [(0,[(16,4),(16,9),(16,14)]),(1,[(6,10),(10,4),(10,5),(10,6)])] []
def iR:=y1 f151 5 [] []
def aGK:=y0 f151 [(0,[(10,15),(15,4),(15,9),(15,10)])] [(5,iR)]
def Oc.op(o:Oc)(k:Int)(z u:Bs):Oc:={o with nl:=false,ops:=o.ops++[(k,z,u)]}
def Bh(o:Oc)(p:Bs)(ns:List Int):Oc:={o with nl:=o.nl&&ns.isEmpty,ops:=o.ops++ns.map λn=>(2,AX 2 p n,[])}
def aBi{o:Oc}{p:Bs}{ns:List Int}{n:Int}:(Bh o p ns).op 2 (AX 2 p n) []=Bh o p (ns++[n]):=by
 simp[Bh,Oc.op]
def SS{o:Oc}{p:Bs}:Bh o p []=o:=by simp[Bh]
def ST(ns:List Int):Option (List Nat):=if ns=[]then none else some [11,11*ns.length]
def BE(v:Vw)(p:Bs):Int×Bool:=if Ch v.ms p=-1 then(0,false)else(Cu v.ms (Ch v.ms p).toNat).2
def aNA(v:Vw)(p:Bs):Bs×Int:=if Ch v.ms p=-1 then([],14)else((Cu v.ms (Ch v.ms p).toNat).1,0)
def xV(v:Vw)(p:Bs):Lg v.ms p= .tup [.agg [.str (aNA v p).1,.int .i64 (BE v p).1,.bool (BE v p).2],.int .i64 (aNA v p).2]:=by
 unfold Lg BE aNA;split<;>rfl
def Aq{i fr t0 t:Id}{m0 m:Gu}{nl0:Bool}{w:Wb}{o o':Oc}{v:List D}{d:D}{ol:Option (List Nat)}{F:Wb->Oc->List D->Option WY}{S:Gq}{c k n:Nat}{ops l:List DOper}{s:Nat->D}{p:Option Nat}{K:Nat->(Nat->D)->Gu->Prop}{g}
  (b:Wt i fr m0 nl0 t0 m w o t) (y:F w o v=some (d,o',ol))
  (h:∀M,Wt i fr m0 nl0 t0 M w o' (L2 t (n::fr) ol)->(∀q x,M (q::fr) x=m (q::fr) x)->Fz S fr c ops l k (BG s p d) M K) (f:∀j x,fr<:+j->m0 j x=none:=by assumption) (z:∀k l,(i=l++k::fr)=False:=by assumption) (r:∃S e rs N,F=RW S e rs N:=by exact⟨_,_,_,_,rfl⟩):
  GL ((wQ F).ex (.ptr i 0::v) m (n::fr)) (λx=>VO S fr c ops l k s p m K x.1 x.2) g:=by
 obtain⟨S',e,rs,N,rfl⟩:=r;obtain⟨_,oa,a,_⟩:=EB y;refine mG b.at_ y ?_;obtain⟨c1,u⟩:=b.call (o':=o') (d:=d) (ol:=ol) (k:=n) f z oa a;exact h _ c1 u
def Cg{i fr t0 t:Id}{m0 m:Gu}{nl0:Bool}{w:Wb}{o o':Oc}{v:List D}{d:D}{ol:Option (List Nat)}{F:Wb->Oc->List D->Option WY}{S:Gq}{c k n:Nat}{ops l:List DOper}{s:Nat->D}{p:Option Nat}{op:DOp}{K:Nat->(Nat->D)->Gu->List LA->Prop}{g}
  (b:Wt i fr m0 nl0 t0 m w o t) (y:F w o v=some (d,o',ol))
  (h:∀M u,u=Vq i w o t (n::fr) (d,o',ol)->Wt i fr m0 nl0 t0 M w o' (L2 t (n::fr) ol)->(∀q x,M (q::fr) x=m (q::fr) x)->B2 S fr c ops l k (BG s p d) M λk' e m' f=>K k' e m' ((GK S s m op,Ay u)::f)) (ca:∀j x,fr<:+j->m0 j x=none:=by assumption) (z:∀k l,(i=l++k::fr)=False:=by assumption) (hR:∃S dc rs N,F=RW S dc rs N:=by exact⟨_,_,_,_,rfl⟩):
  GL ((wQ F).ex (.ptr i 0::v) m (n::fr)) (λx=>Ni S fr c ops l k s p m op K x.1 x.2) g:=by
 obtain⟨S',dc,rs,N,rfl⟩:=hR;obtain⟨_,oa,a,_⟩:=EB y;refine mG b.at_ y ?_;obtain⟨c1,r⟩:=b.call (o':=o') (d:=d) (ol:=ol) (k:=n) ca z oa a;exact h _ _ rfl c1 r
def Dw(w:Wb)(o:Oc)(k:Int)(z u:Bs)(b:o.nl=true->o.ops=[])(hl:o.ops.length<=1000):Nu w o [.int .u8 k,.str z,.str u]=some (.tup [],o.op k z u,some [11]):=aHa w o k z u b hl
def aU0:=Ap [(23,Ac aEw)]
def uN:Wb->Oc->List D->Option WY:=RW aU0 aBB [.cell (some 2) 4] 19
def aTI:(wQ uN).ok Qe 223:=CW aJ7 (Aa yZ Ad)
def UW(w:Wb)(o:Oc)(p:Bs)(b:o.nl=true->o.ops=[])(k:w.v.ms.length<=1000):uN w o [.str p]=some (.agg [.int .i64 (BE w.v p).1,.bool (BE w.v p).2],o,none):=by
 refine A3 b ⟨Qa rfl,λh=>⟨rfl,rfl⟩,λl h=>Xc,λi m fr t x n g n0=>?_⟩;have c:=Wt.start x n;unfold aBB;have y:=AI x.1;have a:=pG (nl:=w.v.nlm) (t:=[]) (l:=w.v.ms) (p:=p) O;rw[xV]at a;simp only[Gv,↓C2,Gp,simprocAttr,y,n0,Ae aU0 23,a];exact c.put.put.put.put.end0 x.2.2
def aHb:=Ap [(317,Ac aPX),(211,Ac ES),(210,wQ Nu)]
def aG4:Wb->Oc->List D->Option WY:=RW aHb aLb [] 18
def aJC:(wQ aG4).ok Qe 276:=CW (Aj func276) (Aa aS5 (Aa H9 (Aa L6 Ad)))
def nT(w:Wb)(o:Oc)(p:Bs)(s:Sc)(b:o.nl=true->o.ops=[])(hl:o.ops.length<=1000)(g:s.rs.length<=1000)(y:p.length<=1000000):aG4 w o [.str p,.agg (GB s)]=some (.tup [],o.op 1 (AX 1 p 0) (FF s),some ([11,12])):=by
 refine A3 b ⟨Qa rfl,λh=>Xc,λl h=>XC,λi m fr t x n z n0=>?_⟩;have c:=Wt.start x n;unfold aLb;have a:=aHs s g;have v:=CF 1 0 p y;have e:=Dw w o 1 (AX 1 p 0) (FF s) b hl;unfold GB at *;simp only[Gv,↓C2,Gp,simprocAttr,Ae aHb 317,a,Ae aHb 211,v,AC aHb 210];refine Aq c.put e (λM c1 u=>?_);simp only[↓C2,Gy,simprocAttr];exact c1.endl (l:=[11,12]) U
def aPz:=Ap [(211,Ac ES),(210,wQ Nu)]
def uL:Wb->Oc->List D->Option WY:=RW aPz aLa [] 20
def aAq:(wQ uL).ok Qe 277:=CW (Aj func277) (Aa H9 (Aa L6 Ad))
def UU(w:Wb)(o:Oc)(p:Bs)(nl:Bool)(tq:Id)(ns:List Int)(ho:o.nl=true->o.ops=[])(hl:o.ops.length+ns.length<=1000)(d:p.length<=1000000):uL w o [.str p,.slice nl tq (AF ns)]=some (.tup [],Bh o p ns,ST ns):=by
 refine A3 ho ⟨Qa rfl,λh=>(by unfold ST at h;split at h<;>simp_all [Bh]),λl h=>(by unfold ST at h;split at h<;>simp_all [Bh];subst h;simp),λi m fr t x ca ia n0=>?_⟩;have hW:=Wt.start x ca;unfold aLa;simp only[↓C2,Gy,simprocAttr,Es];refine Bf (n:=ns.length) (I:=λj y=>y.s 8= .slice nl tq (AF ns)∧y.s 9= .int .i64 ns.length∧y.s 10= .int .i64 (j:Int)∧y.s 0= .ptr i 0∧y.s 1= .str p∧y.c=3+11*j∧Wt i fr m o.nl t y.m w (Bh o p (ns.take j)) (if j=0 then t else [11,11*j]++fr)) (λj q ih y g hI=>?_) (λy g hI=>?_) 0 (Qu _) _ _ ⟨rfl,rfl,rfl,rfl,rfl,rfl,by simp only[QP,SS,if_true];exact hW⟩
 ·obtain⟨ka,fa,da⟩:=y;obtain⟨h8,h9,b,h0,u,hc,hw⟩:=hI;simp only at h8 h9 b h0 u hc hw;refine Af UA.eq_1 ?_;have k:((j:Int)<(ns.length:Int))=True:=eq_true O;have oa:=nJ (j:=j);have ja:=SH (l:=ns) (j:=j) q;have z:IntKind.i64.wrap ((j:Int)+1)=((j+1:Nat):Int):=by rw[GS O O];omega
  have v:=CF 2 ns[j] p d;have ta:(Bh o p (ns.take j)).nl=true->(Bh o p (ns.take j)).ops=[]:=λh=>by
   simp only[Bh,QY,List.isEmpty_iff]at h ⊢;rw[ho h.1,h.2];rfl
  have f:(Bh o p (ns.take j)).ops.length<=1000:=by simp[Bh];omega
  have sa:=Dw w (Bh o p (ns.take j)) 2 (AX 2 p ns[j]) [] ta f;rw[aBi,←QF q]at sa;simp only[↓C2,Gt,Gp,simprocAttr,h0,u,h8,h9,b,k,oa,Qh,ja,Ae aPz 211,v,AC aPz 210];refine Aq hw sa (λM c1 c2=>?_);have e:L2 (if j=0 then t else [11,11*j]++fr) ((da+1+3+4)::fr) (some [11])=(if j+1=0 then t else [11,11*(j+1)]++fr):=by
   rw[if_neg (Qf j)];show [11]++_::fr=_;rw[show da+1+3+4=11*(j+1)by omega];rfl
  rw[e]at c1;simp only[↓C2,Gy,simprocAttr,b,z];exact ih _ _ ⟨h8,h9,rfl,h0,u,Xa,c1⟩
 ·obtain⟨ka,fa,da⟩:=y;obtain⟨h8,h9,b,h0,u,hc,hw⟩:=hI;simp only at h8 h9 b h0 u hc hw;refine Af UA.eq_1 ?_;simp only[↓C2,Gy,GI,Gp,simprocAttr,h9,b,Qz];rw[Zi]at hw;unfold ST;cases ns with
  |nil=>exact hw.end0 x.2.2
  |cons a r=>exact hw.endl (l:=[11,11*(r.length+1)]) U
def zQ(w:Wb)(p:Bs):Bs×Bool×Bool:=Db w.k (AX 1 p 0)
def Nv:=Ap [(211,Ac ES),(220,Ac N6),(216,wQ UY),(24,Ac aQd)]
def CL:Wb->Oc->List D->Option WY:=RW Nv bU [.cell (some 4) 4,.t 5,.t 6] 42
def aJJ:(wQ CL).ok Qe 218:=CW (Aj func218:Fn Qe 218 42 bU [.cell (some 4) 4,.t 5,.t 6]) (Aa H9 (Aa aJI (Aa aAr (Aa aTs Ad))))
def uP(w:Wb)(o:Oc)(p:Bs)(f:eF o)(y:p.length<=1000000)(hk:w.k.es.length<=1000)(q:Bs×Bool×Bool)(z:zQ w p=q)(s:q.2.2=false):CL w o [.str p]=some (.tup [.agg (GB sc0),.bool false,.bool false],⟨AX 1 p 0,false,[],true,[],w.v⟩,none):=by
 refine A3 (λ_=>f.ops) ⟨Qa rfl,λh=>⟨f.nl.symm,f.ops.symm⟩,λl h=>Xc,λi m fr t x n g n0=>?_⟩;have hW:=Wt.start x n;unfold bU;obtain⟨r,d,b⟩:=q;simp only at s;have j:=CF 1 0 p y;have u:=OQ w.k (AX 1 p 0) hk;rw[show Db w.k (AX 1 p 0)=_ from z]at u;unfold G6 at u;have c:=AI x.1;subst s;have e:=OO w o (AX 1 p 0) false f;simp only[Gv,↓C2,Gp,simprocAttr,c,n0,Ae Nv 211,j,Ae Nv 220,u,AC Nv 216];refine Aq hW.put e (λM c1 c2=>?_);simp only[Gv,↓C2,Gp,simprocAttr,c2];exact c1.put.end0 x.2.2
def aG9(w:Wb)(o:Oc)(p:Bs)(q:eF o)(y:p.length<=1000000)(hk:w.k.es.length<=1000)(mt:Bs×Bool×Bool)(z:zQ w p=mt)(j:mt.2.2=true)(ht:mt.1.length<=1000000)(f:mt.2.1=false∨(B8 mt.1).2≠0):CL w o [.str p]=some (.tup [.agg (GB sc0),.bool false,.bool true],o,none):=by
 refine A3 (λ_=>q.ops) ⟨Qa rfl,λh=>⟨rfl,rfl⟩,λl h=>Xc,λi m fr t x n g n0=>?_⟩;have hW:=Wt.start x n;unfold bU;obtain⟨r,ja,b⟩:=mt;simp only at j;have v:=CF 1 0 p y;have u:=OQ w.k (AX 1 p 0) hk;rw[show Db w.k (AX 1 p 0)=_ from z]at u;unfold G6 at u;have a:=oI r ht;unfold GB at a;have c:=AI x.1;subst j;simp only at f;generalize B8 r=se at *;obtain⟨s,e⟩:=se;simp only at f a;cases ja with
 |false=>
  simp only[Gv,↓C2,Gp,simprocAttr,c,n0,Ae Nv 211,v,Ae Nv 220,u,Ae Nv 24,a];exact hW.put.put.put.end0 x.2.2
 |true=>
  have d:(e=0)=False:=eq_false (f.resolve_left U);simp only[Gv,↓C2,Gp,simprocAttr,c,n0,Ae Nv 211,v,Ae Nv 220,u,Ae Nv 24,a,d];exact hW.put.put.put.end0 x.2.2
def aC9(w:Wb)(o:Oc)(p:Bs)(q:eF o)(y:p.length<=1000000)(hk:w.k.es.length<=1000)(mt:Bs×Bool×Bool)(z:zQ w p=mt)(j:mt.2.2=true)(ht:mt.1.length<=1000000)(f:mt.2.1=true)(d:(B8 mt.1).2=0):CL w o [.str p]=some (.tup [.agg (GB (B8 mt.1).1),.bool true,.bool true],o,none):=by
 refine A3 (λ_=>q.ops) ⟨Qa rfl,λh=>⟨rfl,rfl⟩,λl h=>Xc,λi m fr t x n g n0=>?_⟩;have hW:=Wt.start x n;unfold bU;obtain⟨r,ja,b⟩:=mt;simp only at j;have v:=CF 1 0 p y;have u:=OQ w.k (AX 1 p 0) hk;rw[show Db w.k (AX 1 p 0)=_ from z]at u;unfold G6 at u;have a:=oI r ht;unfold GB at a;have c:=AI x.1;subst j;simp only at f d ⊢;generalize B8 r=se at *;obtain⟨s,e⟩:=se;simp only at d a;subst f d;simp only[Gv,↓C2,Gp,simprocAttr,c,n0,Ae Nv 211,v,Ae Nv 220,u,Ae Nv 24,a];exact hW.put.put.put.end0 x.2.2
def OY(o:Oc)(p:Bs)(s:Sc)(gone:List Int):Oc:={Bh (o.op 1 (AX 1 p 0) (FF s)) p gone with rep:=Hg .done}
def aDc:=Ap [(144,wQ NX),(276,wQ aG4),(277,wQ uL),(146,wQ vS)]
def UV:Wb->Oc->List D->Option WY:=RW aDc aBA [] 31
def aTH:(wQ UV).ok Qe 224:=CW (Aj func224) (Aa Rz (Aa aJC (Aa aAq (Aa gE Ad))))
def uM(w:Wb)(o:Oc)(s:Sc)(gnl:Bool)(gone:List Int)(e:Int)(f:eF o)(r:1<=e∧e<=99):UV w o [.agg (GB s),.slice gnl [] (AF gone),.int .i64 e]=some (.tup [],⟨[],false,Hg (.fail e),true,[],w.v⟩,none):=by
 refine A3 (λ_=>f.ops) ⟨Qa rfl,λh=>⟨f.nl.symm,f.ops.symm⟩,λl h=>Xc,λi m fr t x n g n0=>?_⟩;have c:=Wt.start x n;unfold aBA;unfold GB;have j:=jR w o e f r;have d:(e=0)=False:=eq_false O;simp only[↓C2,Gt,Gp,simprocAttr,d,AC aDc 144];refine Aq c.put j (λM c1 u=>?_);simp only[↓C2,Gy,simprocAttr];exact c1.end0 x.2.2
def aG7(w:Wb)(o:Oc)(s:Sc)(gnl:Bool)(gone:List Int)(f:eF o)(hg:gone.length<=900)(g:s.rs.length<=1000)(y:w.a.pa.length<=1000000):UV w o [.agg (GB s),.slice gnl [] (AF gone),.int .i64 0]=some (.tup [],OY o w.a.pa s gone,some (if gone=[]then [11,12,10]else [11,11*gone.length,18])):=by
 refine A3 (λ_=>f.ops) ⟨Qa rfl,λh=>Xc,λl h=>(by simp only[Ql]at h;subst h;exact⟨rfl,by split<;>simp⟩),λi m fr t x n z n0=>?_⟩;have hW:=Wt.start x n;unfold aBA;have c:=AI x.1;have b:=nT w o w.a.pa s (λ_=>f.ops) (by rw[f.ops];simp) g y;have d:=UU w (o.op 1 (AX 1 w.a.pa 0) (FF s)) w.a.pa gnl [] gone (λh=>Xc) (by simp[Oc.op,f.ops];omega) y;have va:=Is w (Bh (o.op 1 (AX 1 w.a.pa 0) (FF s)) w.a.pa gone) (λh=>by simp[Bh,Oc.op]at h);unfold GB at *;simp only[Gv,↓C2,Gp,simprocAttr,c.2.2.2.2.2.2.2.1,n0,AC aDc 276];refine Cg hW.put b (λM u k c1 r=>?_);have c:=AI c1.at_.1;simp only[↓C2,He,simprocAttr];refine aB (λp y=>Xr) ?_;simp only[↓C2,Gy,GI,Gp,simprocAttr,c.2.2.2.2.2.2.2.1,AC aDc 277];refine Aq c1 d (λe q d2=>?_);simp only[↓C2,Gy,GI,simprocAttr,AC aDc 146];refine Aq q va (λM3 j e2=>?_);simp only[↓C2,Gy,simprocAttr];unfold ST at j;split
 ·rename_i v;rw[if_pos v]at j;exact j.endl (l:=[11,12,10]) U
 ·rename_i v;rw[if_neg v]at j;exact j.endl (l:=[11,11*gone.length,18]) U
def EO(l:List Rw):List Int:=(l.filter λx=>!x.2.2).map (·.1)
def TL:List Rw->Nat->List Nat->List Nat
 |[],_,L=>L
 |x::r,c,L=>if x.2.2=true then TL r (c+10) L else TL r (c+20) [11,11,c+17]
def TK:∀{l:List Rw} {c:Nat} {L:List Nat},L≠[]->TL l c L≠[]
 |[],_,_,h=>h
 |x::r,c,L,h=>by
  unfold TL;split
  ·exact TK h
  ·exact TK U
def EP(o:Oc)(p:Bs)(l:List Rw):Oc:=Bh (o.op 2 (AX 1 p 0) []) p (EO l)
def sA{o:Oc}{p:Bs}{a b:List Int}:Bh (Bh o p a) p b=Bh o p (a++b):=by
 simp only[Bh,Bool.and_assoc,Q_,QH,Oc.mk.injEq,true_and,and_true];cases a<;>cases b<;>simp
def jL(l:List Rw):(EO l).length<=l.length:=by
 grind [EO]
def cS(l:List Rw)(x:Rw):EO (l++[x])=EO l++if x.2.2=true then []else [x.1]:=by
 grind [EO]
def TJ{o:Oc}{p:Bs}{l:List Rw}:(EP o p l).nl=false:=by simp[EP,Bh,Oc.op]
def yN{o:Oc}{p:Bs}{l:List Rw}:(EP o p l).ops.length=o.ops.length+1+(EO l).length:=by simp[EP,Bh,Oc.op];omega
def aDb:=Ap [(211,Ac ES),(210,wQ Nu),(277,wQ uL),(146,wQ vS)]
def aG6:Wb->Oc->List D->Option WY:=RW aDb aLX [] 37
def aTG:(wQ aG6).ok Qe 225:=CW (Aj func225) (Aa H9 (Aa L6 (Aa aAq (Aa gE Ad))))
def aG5(w:Wb)(o:Oc)(s:Sc)(h0:eF o)(hs:s.rs.length<=900)(hp:w.a.pa.length<=1000000):aG6 w o [.agg (GB s)]=some (.tup [],{EP o w.a.pa s.rs with rep:=Hg .done},some (TL s.rs 13 [11,8])):=by
 refine A3 (λ_=>h0.ops) ⟨Qa rfl,λh=>Xc,λl h=>(by simp only[Ql]at h;subst h;exact⟨TJ (o:=o) (p:=w.a.pa) (l:=s.rs),TK U⟩),λi m fr t r ca ia n0=>?_⟩;have hW:=Wt.start r ca;unfold aLX;have xx:=AI r.1;have v:=CF 1 0 w.a.pa hp;have sa:=Dw w o 2 (AX 1 w.a.pa 0) [] (λ_=>h0.ops) (by rw[h0.ops];simp);unfold GB;simp only[↓C2,Gt,Gp,simprocAttr,xx.2.2.2.2.2.2.2.1,n0,Ae aDb 211,v,AC aDb 210];refine Aq hW.put sa (λM c1 c2=>?_);simp only[↓C2,Gy,GI,Gp,simprocAttr,c2,AN];refine Bf (n:=s.rs.length) (I:=λj st=>st.s 15= .slice s.nl [] (A1 s.rs)∧st.s 16= .int .i64 s.rs.length∧st.s 17= .int .i64 (j:Int)∧st.s 0= .ptr i 0∧∃L,L≠[]∧TL (s.rs.drop j) st.c L=TL s.rs 13 [11,8]∧Wt i fr m o.nl t st.m w (EP o w.a.pa (s.rs.take j)) (L++fr)) (λj q ih st g hI=>?_) (λst g hI=>?_) 0 (Qu _) _ _ ⟨rfl,rfl,rfl,rfl,[11,8],U,rfl,by have c3:Wt i fr m o.nl t M w (o.op 2 (AX 1 w.a.pa 0) []) ([11,8]++fr):=c1;simpa[EP,EO,SS]using c3⟩
 ·obtain⟨ka,fa,da⟩:=st;obtain⟨qa,ua,la,y,L,hL,hn,hw⟩:=hI;simp only at qa ua la y hn hw;refine Af UH.eq_1 ?_;have k:((j:Int)<(s.rs.length:Int))=True:=eq_true O;have oa:=nJ (j:=j);have ja:=EZ (l:=s.rs) (j:=j) q;have z:IntKind.i64.wrap ((j:Int)+1)=((j+1:Nat):Int):=by rw[GS O O];omega
  have hd:s.rs.drop j=s.rs[j]::s.rs.drop (j+1):=QJ q;have na:s.rs.take (j+1)=s.rs.take j++[s.rs[j]]:=QF q;rw[hd]at hn;generalize s.rs[j]=x at *;obtain⟨n,b,f⟩:=x;have ra:=cS (s.rs.take j) (n,b,f);rw[←na]at ra;simp only at ra ja;have xx:=AI hw.at_.1;cases f with
  |true=>
   simp only[Gv,↓C2,Gp,simprocAttr,qa,ua,la,k,oa,Qh,ja,z];refine ih _ _ ⟨qa,ua,rfl,y,L,hL,by simpa[TL]using hn,?_⟩;have e:EP o w.a.pa (s.rs.take (j+1))=EP o w.a.pa (s.rs.take j):=by unfold EP;rw[ra];simp
   rw[e];exact(hw.put.put)
  |false=>
   have e:Bh (EP o w.a.pa (s.rs.take j)) w.a.pa [n]=EP o w.a.pa (s.rs.take (j+1)):=by unfold EP;rw[ra,sA];rfl
   have ga:(EP o w.a.pa (s.rs.take j)).ops.length+1<=1000:=by
    rw[yN,h0.ops];have:=jL (s.rs.take j);rw[Zy]at this;simp only[Qm];omega
   have d:=UU w (EP o w.a.pa (s.rs.take j)) w.a.pa false ((da+1+4+3+8)::fr) [n] (λh=>by rw[TJ]at h;cases h) ga hp;rw[e]at d;have d:uL w (EP o w.a.pa (s.rs.take j)) [.str w.a.pa,.slice false ((da+1+4+3+8)::fr) [.int .i64 n]]=some (.tup [],EP o w.a.pa (s.rs.take (j+1)),some [11,11]):=d;simp only[Gv,↓C2,Gp,simprocAttr,y,qa,ua,la,k,oa,Qh,ja,xx.2.2.2.2.2.2.2.1,n0,AC aDb 277];refine Cg hw.put.put.put d (λM u hu c1 c2=>?_);simp only[↓C2,He,GI,Gp,simprocAttr];refine aB (Al ?_) ?_
   ·simp[AH,Ay,GK,Ai];show ¬((da+1+4+3+8)::fr,0)∈[(i,7)];intro hm;simp only[Q4,QC]at hm;exact(n0 _).mp hm.1.symm
   simp only[↓C2,Gy,simprocAttr,la,z];refine ih _ _ ⟨qa,ua,rfl,y,[11,11,da+17],U,by simpa[TL]using hn,c1⟩
 ·obtain⟨ka,fa,da⟩:=st;obtain⟨qa,ua,la,y,L,hL,hn,hw⟩:=hI;simp only at qa ua la y hn hw;refine Af UH.eq_1 ?_;have va:=Is w (EP o w.a.pa s.rs) (λh=>by rw[TJ]at h;cases h);rw[Zi]at hw;rw[Q1]at hn;simp only[↓C2,Gy,GI,Gp,simprocAttr,y,ua,la,Qz,AC aDb 146];refine Aq hw va (λM c1 c2=>?_);simp only[↓C2,Gy,simprocAttr];rw[←hn];exact c1.endl hL
theorem Ed{l:Loc}{i:Id}{o n:Nat}(h:l∈Ai i o n):l.1=i:=by
 grind [Ai]
def Dc{l:Loc}{i:Id}{o:Nat}{ds:List D}(h:l∈Ay [(i,o,ds)]):l.1=i:=by
 grind [Ay,Ed]
def Dn{l:Loc}{P:Prop}(h:l∈([]:List Loc)):P:=Xc
def Vh{p K:Prop}{t:Tag K}(k:K) (h:p:=by
 intro pp hpp l hl;simp only[List.mem_cons,List.not_mem_nil,or_false]at hpp
 repeat (rcases hpp with rfl|hpp;· first|exact Dn hl|exact⟨λh=>Dn h,λh=>Dn h⟩|(have qa:=Dc hl;refine⟨λh=>?_,λh=>Dn h⟩;first|(change l∈Ai _ _ _ at h;first|exact(n0 _).mp ((Ed h).symm.trans qa)|(have:=qa.symm.trans (Ed h);simp at this;done))|(rcases List.mem_append.1 h with h|h;exact(n0 _).mp ((Ed h).symm.trans qa);rw[a1]at h;rw[List.mem_singleton.1 h]at qa;exact c1.loc _ qa)))):Ao p K t:=⟨h,k⟩
def pI(o:Oc)(p:Bs)(r:Sc×Int×List Int×Int)(data:Bs):Oc:={Bh ((o.op 1 (AX 1 p 0) (FF r.1)).op 1 (AX 2 p r.2.1) data) p r.2.2.1 with rep:=Hg (.number r.2.1)}
def P7:=Ap [(223,wQ uN),(275,Ac aQb),(144,wQ NX),(276,wQ aG4),(211,Ac ES),(210,wQ Nu),(277,wQ uL),(145,wQ cY)]
def UX:Wb->Oc->List D->Option WY:=RW P7 aBC [] 50
def aJH:(wQ UX).ok Qe 221:=CW (Aj func221) (Aa aTI (Aa aTq (Aa Rz (Aa aJC (Aa H9 (Aa L6 (Aa aAq (Aa gF Ad))))))))
def uO(w:Wb)(o:Oc)(p:Bs)(s:Sc)(cas:Int)(data:Bs)(h0:eF o)(g:s.rs.length<=800)(pa:s.nl=true->s.rs=[])(y:p.length<=1000000)(hd:data.length<=1000000)(k:w.v.ms.length<=1000)(r:Sc×Int×List Int×Int)(hr:Cj s (BE w.v p).1 (BE w.v p).2 cas data.length=r)(he:1<=r.2.2.2∧r.2.2.2<=99):UX w o [.str p,.agg (GB s),.int .i64 cas,.str data]=some (.tup [],⟨[],false,Hg (.fail r.2.2.2),true,[],w.v⟩,none):=by
 refine A3 (λ_=>h0.ops) ⟨Qa rfl,λh=>⟨h0.nl.symm,h0.ops.symm⟩,λl h=>Xc,λi m fr t x f ia n0=>?_⟩;have b:=Wt.start x f;unfold aBC;have a:=oG s (BE w.v p).1 (BE w.v p).2 cas data.length O pa;rw[hr]at a;obtain⟨s2,n,gone,e⟩:=r;simp only at he a ⊢;have c:=UW w o p (λ_=>h0.ops) k;generalize BE w.v p=qb at *;unfold GB at *;simp only[Gv,↓C2,Gp,simprocAttr,AC P7 223];refine Cg b.put c (λM u hu c1 c2=>?_);simp only[Gv,↓C2,Gp,simprocAttr,Ae P7 275,a];refine aB ?_ ?_
 ·subst hu;have a1:=aCI (b.put (q:=0) (p:=0) (ys:=[.int .i64 s.mx,.bool s.cas,.int .i64 s.la,.slice s.nl [] (A1 s.rs)])).at_.1;intro pp ga l hl;simp only[QO,Zz,or_false]at ga;rcases ga with rfl|rfl|rfl|rfl|rfl|rfl
  ·change l∈Ay [(i,0,Hf w o t)]at hl;refine⟨λh=>?_,λh=>Dn h⟩;change l∈Ai (0::fr) 0 4 at h;exact(n0 0).mp ((Dc hl).symm.trans (Ed h))
  ·change l∈Ay [(i,0,Hf w o t)]at hl;exact⟨λh=>Dn h,λh=>(n0 14).mp ((Dc hl).symm.trans (Dc h))⟩
  ·exact Dn hl
  ·have z:l.1=14::fr:=Dc hl;refine⟨λh=>?_,λh=>Dn h⟩;change l∈Ai (0::fr) 0 4 at h;have:=z.symm.trans (Ed h);simp at this
  ·have z:l.1=14::fr:=Dc hl;refine⟨λh=>?_,λh=>?_⟩
   ·rcases Zm.1 h with h|h
    ·grind [Ed]
    ·rw[a1]at h;rw[Q4.1 h]at z;exact b.loc 14 z
   ·change l∈Ay [(i,0,Hf w o t)]at h;exact(n0 14).mp ((Dc h).symm.trans z)
  ·exact⟨λh=>Dn h,λh=>Dn h⟩
 have j:=jR w o e h0 he;have d:(e=0)=False:=eq_false O;simp only[↓C2,Gt,Gp,simprocAttr,d,AC P7 144];refine Aq c1.put.put j (λM2 d1 d2=>?_);simp only[↓C2,Gy,simprocAttr];exact d1.end0 x.2.2
def aG8(w:Wb)(o:Oc)(p:Bs)(s:Sc)(cas:Int)(data:Bs)(h0:eF o)(g:s.rs.length<=800)(pa:s.nl=true->s.rs=[])(y:p.length<=1000000)(hd:data.length<=1000000)(k:w.v.ms.length<=1000)(r:Sc×Int×List Int×Int)(hr:Cj s (BE w.v p).1 (BE w.v p).2 cas data.length=r)(he:r.2.2.2=0)(ra:r.1.rs.length<=1000)(hg:r.2.2.1.length<=900):UX w o [.str p,.agg (GB s),.int .i64 cas,.str data]=some (.tup [],pI o p r data,some (if r.2.2.1=[]then [11,30]else [11,11*r.2.2.1.length,34])):=by
 refine A3 (λ_=>h0.ops) ⟨Qa rfl,λh=>Xc,λl h=>(by simp only[Ql]at h;subst h;exact⟨by simp[pI,Bh,Oc.op],by split<;>simp⟩),λi m fr t x f ia n0=>?_⟩;have hW:=Wt.start x f;unfold aBC;have a:=oG s (BE w.v p).1 (BE w.v p).2 cas data.length O pa;rw[hr]at a;obtain⟨s2,n,gone,e⟩:=r;simp only at he a ra hg ⊢;subst he;have c:=UW w o p (λ_=>h0.ops) k;generalize BE w.v p=qb at *;unfold GB at *;simp only[Gv,↓C2,Gp,simprocAttr,AC P7 223];refine Cg hW.put c (λM u hu c1 c2=>?_);simp only[Gv,↓C2,Gp,simprocAttr,Ae P7 275,a];refine aB ?_ ?_
 ·subst hu;have a1:=aCI (hW.put (q:=0) (p:=0) (ys:=[.int .i64 s.mx,.bool s.cas,.int .i64 s.la,.slice s.nl [] (A1 s.rs)])).at_.1;intro pp ga l hl;simp only[QO,Zz,or_false]at ga;rcases ga with rfl|rfl|rfl|rfl|rfl|rfl
  ·change l∈Ay [(i,0,Hf w o t)]at hl;refine⟨λh=>?_,λh=>Dn h⟩;change l∈Ai (0::fr) 0 4 at h;exact(n0 0).mp ((Dc hl).symm.trans (Ed h))
  ·change l∈Ay [(i,0,Hf w o t)]at hl;exact⟨λh=>Dn h,λh=>(n0 14).mp ((Dc hl).symm.trans (Dc h))⟩
  ·exact Dn hl
  ·have z:l.1=14::fr:=Dc hl;refine⟨λh=>?_,λh=>Dn h⟩;change l∈Ai (0::fr) 0 4 at h;have:=z.symm.trans (Ed h);simp at this
  ·have z:l.1=14::fr:=Dc hl;refine⟨λh=>?_,λh=>?_⟩
   ·rcases Zm.1 h with h|h
    ·grind [Ed]
    ·rw[a1]at h;rw[Q4.1 h]at z;exact hW.loc 14 z
   ·change l∈Ay [(i,0,Hf w o t)]at h;exact(n0 14).mp ((Dc h).symm.trans z)
  ·exact⟨λh=>Dn h,λh=>Dn h⟩
 have b:=nT w o p s2 (λ_=>h0.ops) (by rw[h0.ops];simp) ra y;have j:=CF 2 n p y;have sa:=Dw w (o.op 1 (AX 1 p 0) (FF s2)) 1 (AX 2 p n) data (λh=>Xc) (by simp[Oc.op,h0.ops]);have d:=UU w ((o.op 1 (AX 1 p 0) (FF s2)).op 1 (AX 2 p n) data) p (decide (gone=[])) [] gone (λh=>Xc) (by simp[Oc.op,h0.ops];omega) y;have qa:=It w (Bh ((o.op 1 (AX 1 p 0) (FF s2)).op 1 (AX 2 p n) data) p gone) (.number n) (λh=>by simp[Bh,Oc.op]at h) trivial trivial;unfold GB at b;unfold GW at qa;simp only[Gv,↓C2,Gp,simprocAttr,AC P7 276];refine Aq c1.put.put b (λM2 d1 d2=>?_);simp only[↓C2,Gt,simprocAttr,Ae P7 211,j,AC P7 210];refine Aq d1 sa (λM3 e1 e2=>?_);simp only[↓C2,Gy,GI,simprocAttr,AC P7 277];refine Aq e1 d (λM4 f1 f2=>?_);simp only[↓C2,Gt,Gp,simprocAttr,AC P7 145];refine Aq f1 qa (λM5 g1 g2=>?_);simp only[↓C2,Gy,simprocAttr];unfold ST at g1;split
 ·rename_i wa;rw[if_pos wa]at g1;exact g1.endl (l:=[11,30]) U
 ·rename_i wa;rw[if_neg wa]at g1;exact g1.endl (l:=[11,11*gone.length,34]) U
def RG:=y0 f154 [(7,[(7,0),(7,12),(7,17),(7,23),(18,23),(23,0),(23,6),(23,7),(23,12),(23,17),(23,18)]),(16,[(6,10),(10,0),(10,5),(10,6)]),(19,[(6,10),(10,0),(10,5),(10,6)]),(2,[(6,11),(11,0),(11,5),(11,6)])] []
def rdQ(F:Wb->Oc->List D->Option WY):G_ where
 rd:=(wQ F).rd
 ex:=λds m fr=>match ds with
  | .ptr i 0::rest=>(Sp (UN m i)).bind λx=>(F x.1 x.2.1 rest).bind λy=>open Classical in if y.2.1=x.2.1∧y.2.2=none then some (y.1,[])else none
  |_=>none
def aFF{F:Wb->Oc->List D->Option WY}(ds:List D)(m m':Gu)(fr:Id)(h:∀l∈(rdQ F).rd ds m,m l.1 l.2=m' l.1 l.2):(rdQ F).ex ds m fr=(rdQ F).ex ds m' fr:=by
 simp only[rdQ,wQ]at h ⊢;split
 ·rename_i i v;have n:Ag m i 0 30=Ag m' i 0 30:=Bo (λl hl=>h l (Zo _ hl));have d:UN m i=UN m' i:=by
   funext x;obtain⟨w,o,t⟩:=x;apply propext;unfold UN;rw[n];have z:Ag m' i 0 30=some (Hf w o t)->BK m 167 o.nl t o.ops.isEmpty=BK m' 167 o.nl t o.ops.isEmpty:=λy=>by
    refine DZ (h (t,0) (Zn _ ?_));have:=aCI (n.trans y);rw[this];simp
   constructor
   ·rintro⟨a,b,c⟩;exact⟨a,by rw[←z a];exact b,c⟩
   ·rintro⟨a,b,c⟩;exact⟨a,by rw[z a];exact b,c⟩
  rw[d]
 ·rfl
def aND{S:Gq}{f:FuncId}{N:Nat}{dc:DC}{rs:List RV}(hf:Fn Qe f N dc rs)(hS:Gq.ok Qe S):(rdQ (RW S dc rs N)).ok Qe f:=by
 refine IK hS hf aFF (λds m fr r u z n=>?_);simp only[rdQ]at z;split at z
 ·rename_i i y;rw[Q5]at z;obtain⟨⟨w,o,t⟩,hp,z⟩:=z;rw[Q5]at z;obtain⟨⟨y1,y2,y3⟩,hF,z⟩:=z;simp only at z;split at z
  ·rename_i hy;obtain⟨rfl,rfl⟩:=hy;simp only[Ql,QC]at z;obtain⟨rfl,rfl⟩:=z;have ja:=So hp;obtain⟨hN,oa,c,ma⟩:=EB hF;have na:m i 0=some (.bool w.v.se):=N8 ja.1;have g:∀k l,(i=l++k::fr)=False:=λk l=>eq_false (λe=>by
    rw[e,n _ _ ⟨l++[k],U⟩]at na;cases na)
   refine⟨hN,LB (ma i m fr t ja n g (λk=>g k [])) (λe p he=>?_)⟩;obtain⟨b,d,fa,rfl,hE⟩:=he;refine⟨b,_,fa,rfl,λj x dd q=>?_⟩;obtain⟨g1,g2⟩:=hE;have pa:m j x=some dd:=q;by_cases s:j≠i∨30<=x
   ·exact g2 j x dd s pa
   ·have cb:j=i:=Classical.byContradiction (λh=>s (.inl h));have a:x<30:=Zk (λh=>s (.inr h));subst cb;obtain⟨v,hv⟩:∃v,(Hf w y2 t)[x]?=some v:=⟨_,Qi (by rw[Cy];exact a)⟩;have e1:=A7 ja.1 hv;have e2:=A7 g1 hv;rw[e2,←e1,pa]
  ·cases z
 ·cases z
def aOQ{F:Wb->Oc->List D->Option WY}{w:Wb}{o:Oc}{t i fr:Id}{m:Gu}{v:List D}{d:D}{K:D×GA->Prop}{g}(x:UN m i (w,o,t))(q:F w o v=some (d,o,none))(h:K (d,[])):GL ((rdQ F).ex (.ptr i 0::v) m fr) K g:=by
 refine aI ?_ h;simp only[rdQ,V0 x (λz f=>cM x f),Qj,q,and_self,if_true]
def Wt.endc{i fr t0:Id}{m0 m:Gu}{nl0:Bool}{w:Wb}{o:Oc}{k:Nat}{d:D}{ol:Option (List Nat)}(h:Wt i fr m0 nl0 t0 m w o (L2 t0 (k::fr) ol))(z:nl0=true->t0=[]):WE i fr m0 nl0 t0 w (d,o,ol.map (·++[k])) d m:=by
 cases ol with
 |none=>exact h.end0 z
 |some l=>
  have t:Wt i fr m0 nl0 t0 m w o ((l++[k])++fr):=by simpa[L2]using h
  exact t.endl U
def Cm{S:Gq}{g:DC}{rs:List RV}{N:Nat}{w:Wb}{o o':Oc}{v:List D}{d:D}{ol:Option (List Nat)}{k:Nat}(z:RW S g rs N w o v=some (d,o',ol))(h:ol.map (·++[k])=none):o'.nl=o.nl∧o'.ops=o.ops:=(EB z).2.1 Xn
def Cl{S:Gq}{g:DC}{rs:List RV}{N:Nat}{w:Wb}{o o':Oc}{v:List D}{d:D}{ol:Option (List Nat)}{k:Nat}{l:List Nat}(z:RW S g rs N w o v=some (d,o',ol))(h:ol.map (·++[k])=some l):o'.nl=false∧l≠[]:=by
 cases ol with
 |none=>cases h
 |some q=>
  simp only[Qv,Ql]at h;subst h;exact⟨((EB z).2.2.1 q rfl).1,U⟩
def aRi:(rdQ uN).ok Qe 223:=aND aJ7 (Aa yZ Ad)
end Go.Vd
end
