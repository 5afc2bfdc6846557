/- A part of the proof; nothing in it is assumed. -/
import Derived.Test.YtpiplnfjodahpaaGreatDoorMReadsP2
import Derived.Shelf.Strings.BuilderRune

set_option linter.unusedSimpArgs false
set_option linter.unusedVariables false
set_option linter.defProp false
set_option maxHeartbeats 4000000
set_option maxRecDepth 100000
open Nat renaming le_of_ble_eq_true→Qa,reduceEqDiff→Qc,reduceAdd→Qe,succ_ne_zero→Qg,zero_ne_one→Qn,zero_add→Qp,reduceLT→Qs,reduceLeDiff→Qu,zero_le→Qy,le_refl→QB,reduceSub→QE,sub_zero→Q6,add_zero→Za,lt_of_not_le→Zk,sub_self→Zu,not_lt_zero→ZB,mul_add→ZJ
open List renaming getElem?_cons_succ→Qb,getElem?_eq_getElem→Qi,length_cons→Qk,length_nil→Qo,getElem?_cons_zero→Qq,length_append→Qr,length_map→Qx,map_cons→QD,take_succ_eq_append_getElem→QF,take_of_length_le→QG,append_assoc→QH,append_nil→QI,drop_eq_getElem_cons→QJ,mem_map→QL,mem_cons→QN,take_zero→QO,getElem?_eq_some_iff→QP,map_map→QQ,take_succ_cons→QR,all_eq_true→QS,mem_nil_iff→QU,length_eq_zero_iff→QV,getElem_mem→QW,map_append→QZ,cons_append→Q_,drop_length→Q0,map_nil→Q1,map_congr_left→Q2,mem_singleton→Q3,findIdx?_eq_some_iff_getElem→Q5,all_cons→Q7,append_inj→Q8,drop_succ_cons→Q9,all_nil→Zb,drop_zero→Zc,map_inj_right→Zd,getElem?_append_right→Ze,take_add_one→Zg,take_length→Zi,isEmpty_nil→Zj,nil_append→Zl,mem_append→Zm,mem_append_right→Zn,mem_append_left→Zo,getElem_of_mem→Zp,mem_cons_self→Zs,any_map→Zt,getElem?_map→Zv,map→Zw,getD→Zx,length_take→Zy,not_mem_nil→Zz,nil_suffix→ZC,range→ZD,any_cons→ZE,length→ZI
open List.cons renaming injEq→Qd
open Go.Proofs.Tryz renaming prog→Qf
open Int renaming toNat_natCast→Qh,toNat_of_nonneg→Qw,lt_irrefl→Qz,cast_ofNat_Int→Zr,le_refl→ZA,reduceNe→ZG
open Option renaming bind_some→Qj,isSome_some→Ql,map_some→Qv,map_eq_some_iff→QY,bind_eq_some_iff→Q4
open Option.some renaming injEq→Qm
open Bool renaming false_eq_true→Qt,false_and→QA,false_ne_true→QK,and_false→QM,and_eq_true→QX,and_self→Zh,true_and→Zq,false_or→ZF,true_or→ZH
open Prod.mk renaming injEq→QC
open Prod renaming ext→QT
open Array renaming size_append→Zf
open Go.Proofs.Tryz
noncomputable section
namespace Go.Vd
open Go.Proofs Go.RowKit
def aBM{S:GZ}{fr i:Id}{n:Nat}{m0:G6}{Q:Ex->St->Prop}(a:S 192=some (Ac zQ))(o:n<=1000){zs:List Mt}
  (q:∀y,N8 i m0 y.m zs->Q (.exit 0) y):
  ∀(f k:Nat)(xs:List Mt) y g,xs.length=n->k+f=n->Dr kG m0t f k xs=zs->y.s 0= .row i n->y.s 1= .int .i64 0->y.s 2= .int .i64 (n:Int)->y.s 3= .fn 192 []->y.s 8= .int .i64 (k:Int)->N8 i m0 y.m xs->
   Ba S fr Pc Q y g:=by
 intro f;induction f with
 |zero=>
  intro k xs y g hl v hz z u w j b I;refine Af Pc.eq_1 ?_;have:¬((k:Int)<n):=O
  simp only[↓C2,G8,Hj,simprocAttr,w,b,this];exact q _ (by rw[←hz];exact I)
 |succ f ih=>
  intro k xs y g hl v hz z u w j b I;refine Af Pc.eq_1 ?_;have ea:((k:Int)<n):=O
  have t:IntKind.i64.wrap ((k:Int)+1)=((k+1:Nat):Int):=Hu O O;simp only[↓C2,G8,Hj,simprocAttr,w,b,ea];refine aBN (i8:=k) (m0:=m0) a o k xs _ _ hl O z u w j b rfl I (λx e r p c d I'=>?_);simp only[↓C2,G8,simprocAttr,d,t];exact ih (k+1) _ _ _ (by rw[Rs];exact hl) O hz e r p c rfl I'
def ND(m:G6)(i:Id):Nat->Nat->Option (List Mt)
 |0,_=>some []
 |f+1,j=>match m i (j*3),m i (j*3+1),m i (j*3+2),ND m i f (j+1)with
  |some (.str p),some (.int .i64 q),some (.bool b),some l=>some ((p,q,b)::l)
  |_,_,_,_=>none
def Tf{m:G6}{i:Id}:∀{f j:Nat} {xs:List Mt},ND m i f j=some xs->xs.length=f∧∀k,k<f->m i ((j+k)*3)=some (.str (xs.getD k m0t).1)∧m i ((j+k)*3+1)=some (.int .i64 (xs.getD k m0t).2.1)∧m i ((j+k)*3+2)=some (.bool (xs.getD k m0t).2.2)
 |0,j,xs,h=>by
  simp only[ND,Qm]at h;subst h;exact⟨rfl,λk o=>absurd o (ZB _)⟩
 |f+1,j,xs,h=>by
  unfold ND at h;split at h
  ·rename_i p q b l n v d e;simp only[Qm]at h;subst h;obtain⟨t,r⟩:=Tf e;refine⟨by simp[t],λk o=>?_⟩;cases k with
   |zero=>exact⟨n,v,d⟩
   |succ k=>
    have:=r k O;rw[show j+1+k=j+(k+1)by omega]at this;exact this
  ·cases h
def W5{m m':G6}{i:Id}:∀{f j n:Nat},j+f<=n->(∀o,o<n*3->m i o=m' i o)->ND m i f j=ND m' i f j
 |0,j,n,_,_=>rfl
 |f+1,j,n,hn,h=>by
  unfold ND;rw[h (j*3) O,h (j*3+1) O,h (j*3+2) O,W5 (f:=f) (j:=j+1) O h]
def aHa{m:G6}{i:Id}{xs:List Mt}(h:∀j d,(flat (AA xs))[j]?=some d->m i j=some d):ND m i xs.length 0=some xs:=by
 have aa:∀(ys pre:List Mt),pre++ys=xs->ND m i ys.length pre.length=some ys:=by
  intro ys;induction ys with
  |nil=>intro pre _;rfl
  |cons y r ih=>
   intro pre c;have v:∀x∈AA xs,x.cells.length=3:=λx q=>YP
   have u:pre.length<(AA xs).length:=by rw[AU,←c];simp
   have a:(AA xs)[pre.length]=MF y:=by simp[AA,←c]
   have p:=h _ _ ((Et v u (j:=0) O).trans (by rw[a];rfl));have n:=h _ _ ((Et v u (j:=1) O).trans (by rw[a];rfl));have w:=h _ _ ((Et v u (j:=2) O).trans (by rw[a];rfl));have:=ih (pre++[y]) (by rw[←c];simp);rw[Qr]at this;rw[Za]at p;have this:ND m i r.length (pre.length+1)=some r:=this;simp only[Qk,ND,p,n,w,this]
 exact aa xs [] rfl
def S8(m:G6)(i:Id)(n:Nat):Option (D×Ha):=if n<=12∧1<=n then(ND m i n 0).map λxs=>(.tup [],[(i,0,flat (AA (Dr kG m0t (n-1) 1 xs)))])else none
def E0(a:List D->Option (Id×Nat)):HF where
 rd:=λds _=>match a ds with
  |some (i,n)=>(ZD (n*3)).map λo=>(i,o)
  |none=>[]
 ex:=λds m _=>match a ds with
  |some (i,n)=>S8 m i n
  |none=>none
def NA(a:List D->Option (Id×Nat)):∀ds m m' fr,(∀l∈(E0 a).rd ds m,m l.1 l.2=m' l.1 l.2)->(E0 a).ex ds m fr=(E0 a).ex ds m' fr:=by
 intro ds m m' fr h;simp only[E0]at h ⊢;cases hs:a ds with
 |none=>rfl
 |some p=>
  obtain⟨i,n⟩:=p;simp only[hs]at h ⊢;unfold S8;split
  ·rw[W5 (m:=m) (m':=m') (n:=n) O λo y=>h (i,o) (QL.2 ⟨o,XS,rfl⟩)]
  ·rfl
def LO{a:List D->Option (Id×Nat)}{ds:List D}{m:G6}{fr:Id}{r:D}{u:Ha}(h:(E0 a).ex ds m fr=some (r,u)):
  ∃i n xs,a ds=some (i,n)∧n<=12∧1<=n∧ND m i n 0=some xs∧xs.length=n∧N8 i m m xs∧r= .tup []∧u=[(i,0,flat (AA (Dr kG m0t (n-1) 1 xs)))]:=by
 simp only[E0]at h;cases hs:a ds with
 |none=>rw[hs]at h;cases h
 |some p=>
  obtain⟨i,n⟩:=p;simp only[hs]at h;unfold S8 at h;split at h
  ·rename_i w;rw[QY]at h;obtain⟨xs,q,h⟩:=h;simp only[QC]at h;obtain⟨rfl,rfl⟩:=h;obtain⟨t,z⟩:=Tf q;exact⟨i,n,xs,rfl,w.1,w.2,q,t,⟨λj d=>by have:=z j O;rwa [Qp]at this,λ_ _ _=>rfl⟩,rfl,rfl⟩
  ·cases h
def N8.fin{i:Id}{m0 m:G6}{xs:List Mt}(h:N8 i m0 m xs):∀v o x,(m0.put i 0 (flat (AA xs))) v o=some x->m v o=some x:=by
 intro v o x q;have j:∀x∈AA xs,x.cells.length=3:=λx q=>YP
 have b:=Cr j;rw[AU]at b;rw[Ah]at q;split at q
 ·rename_i w;obtain⟨rfl,_,y⟩:=w;rw[Q6]at q;have n:o / 3<xs.length:=by omega
  have u:o / 3<(AA xs).length:=by rw[AU];exact n
  have a:(AA xs)[o / 3]=MF (xs.getD (o / 3) m0t):=by simp[AA,Qi n]
  obtain⟨g,a1,s⟩:=h.row (o / 3) n;have d:o % 3<3:=Nat.mod_lt _ O;have e:o / 3*3+o % 3=o:=O
  have:=Et j u d;rw[e,q,a]at this;have h3:o % 3=0∨o % 3=1∨o % 3=2:=O
  rcases h3 with h3|h3|h3
  ·rw[h3]at this e;rw[Za]at e;rw[←e,g,this];rfl
  ·rw[h3]at this e;rw[←e,a1,this];rfl
  ·rw[h3]at this e;rw[←e,s,this];rfl
 ·rename_i w;rw[←q];refine h.out v o ?_;by_cases e:v=i
  ·simp_all
  ·exact .inl e
def oI:List D->Option (Id×Nat)
 |[.row i n,.int .i64 0,.int .i64 k,.fn 192 []]=>if k=(n:Int)then some (i,n)else none
 |_=>none
def aTE:(E0 oI).ok Qf 296:=by
 obtain⟨S,s,hl⟩:=Bp (Aa aUg Ad);have a:=hl 192 _ rfl;clear hl;refine NH s (Ai func296:Fn Qf 296 53 aMu []) (NA _) (λds m fr r u z v=>?_);obtain⟨i,n,xs,q,g,d,j,hl,I,rfl,rfl⟩:=LO z;unfold oI at q;split at q
 ·split at q
  ·rename_i o;simp only[Qm,QC]at q;obtain⟨rfl,rfl⟩:=q;subst o;refine⟨U,?_⟩;rename_i i n;have t:IntKind.i64.wrap ((0:Int)+1)=((1:Nat):Int):=rfl;unfold aMu;simp only[↓C2,G8,simprocAttr,t];refine aBM (m0:=m) (zs:=Dr kG m0t (n-1) 1 xs) a O (λx p=>?_) (n-1) 1 xs _ _ hl O rfl rfl rfl rfl rfl rfl I;simp only[↓C2,G8,Hj,reduceIte];exact p.fin
  ·cases q
 ·cases q
def oJ:List D->Option (Id×Nat)
 |[.row i n,.int .i64 0,.int .i64 k,.int .i64 _,.fn 192 []]=>if k=(n:Int)then some (i,n)else none
 |_=>none
def aTV:(E0 oJ).ok Qf 251:=by
 obtain⟨S,s,hl⟩:=Bp (Aa aTE Ad);have a:=hl 296 _ rfl;clear hl;refine NH s (Ai func251:Fn Qf 251 148 aNc []) (NA _) (λds m fr r u z v=>?_);obtain⟨i,n,xs,q,g,d,j,hl,I,rfl,rfl⟩:=LO z;unfold oJ at q;split at q
 ·split at q
  ·rename_i o;simp only[Qm,QC]at q;obtain⟨rfl,rfl⟩:=q;subst o;refine⟨U,?_⟩;rename_i i n _;have t:IntKind.i64.wrap ((n:Int)-0)=(n:Int):=by rw[Hu O O];omega
   have w:((n:Int)<=12):=O
   have x:∀fr,(E0 oI).ex ([.row i n,.int .i64 0,.int .i64 (n:Int),.fn 192 []]++[]) m fr=some (.tup [],[(i,0,flat (AA (Dr kG m0t (n-1) 1 xs)))]):=by
    grind [E0,oI,S8]
   unfold aNc;simp only[↓C2,G8,Qe];refine Af qT.eq_1 ?_;simp only[↓C2,G8,Hj,simprocAttr,t,w];rw[AG a];refine aH (x _) ?_;simp only[↓C2,G8,Hj];exact λ_ _ _ h=>h
  ·cases q
 ·cases q
def aXk:List D->Option D:=NS (λ_=>none) 25 aMt [.t 2] 60
def aTD:Kq aXk 305:=NR A6 (Ai func305:Fn Qf 305 25 aMt [.t 2]) 60
def aJG:List D->Option D:=NS (Ao [(305,Ac aXk)]) 8 aNb [.t 2] 60
def aTU:Kq aJG 252:=NR (Aa aTD Ad) (Ai func252:Fn Qf 252 8 aNb [.t 2]) 60
def isI:Option D->Bool
 |some (.int .i64 _)=>true
 |_=>false
def aEW:(ZD 13).all (λn=>isI (aJG [.int .u64 (n:Nat)]))=true:=Z
def aEV{n:Nat}(h:n<=12):∃k,aJG [.int .u64 (n:Nat)]=some (.int .i64 k):=by
 have:=QS.1 aEW n Xb;generalize aJG [.int .u64 (n:Nat)]=r at this;unfold isI at this;split at this
 ·exact⟨_,rfl⟩
 ·cases this
def oK:List D->Option (Id×Nat)
 |[.row i n,.fn 192 []]=>some (i,n)
 |_=>none
def aUh:(E0 oK).ok Qf 191:=by
 obtain⟨S,s,hl⟩:=Bp (Aa aTU (Aa aTV Ad));have b:=hl 252 _ rfl;have a:=hl 251 _ rfl;clear hl;refine NH s (Ai func191:Fn Qf 191 14 aN0 []) (NA _) (λds m fr r u z v=>?_);obtain⟨i,n,xs,q,g,d,j,hl,I,rfl,rfl⟩:=LO z;unfold oK at q;split at q
 ·simp only[Qm,QC]at q;obtain⟨rfl,rfl⟩:=q;refine⟨U,?_⟩;rename_i i n;have t:IntKind.u64.wrap ((n:Nat):Int)=((n:Nat):Int):=by simp only[IntKind.wrap,IntKind.signed,IntKind.bits,QA,Qt,if_false];omega
  obtain⟨k,o⟩:=aEV g;have x:∀fr,(E0 oJ).ex ([.row i n,.int .i64 0,.int .i64 (n:Int),.int .i64 k,.fn 192 []]++[]) m fr=some (.tup [],[(i,0,flat (AA (Dr kG m0t (n-1) 1 xs)))]):=by
   grind [E0,oJ,S8]
  unfold aN0;simp only[↓C2,G_,simprocAttr,t,Ab b,o];rw[AG a];refine aH (x _) ?_;simp only[↓C2,G8,Hj];exact λ_ _ _ h=>h
 ·cases q
def aCH:Fn Qf 190 36 (Gu 9 68 3 32 250) [.t 2]:=aLP
def aPu:(ID λds=>(Uo 3 ds).bind λys=>if(flat ys).all D.plain=true then some ys else none).ok Qf 190:=aIB aCH O aK4
def FC:List D->Option (List D):=λds=>(Uo 3 ds).bind λys=>if(flat ys).all D.plain=true then some ys else none
def jZ(l:List Mt):(flat (AA l)).all D.plain=true:=by
 induction l with
 |nil=>rfl
 |cons m r ih=>simp only[AA,QD,flat,MF,D.cells,List.all_append,Q7,Zb,D.plain,Zh,Zq];exact ih
def cJ(a b:List Mt):AA (a++b)=AA a++AA b:=QZ
theorem pK(l:List Mt):(AA l).all (iH 3)=true:=X9
def aXq{l:List Mt}{m:Mt}{nl:Bool}(hl:l.length<=1000):FC [.slice false [] [.slice nl [] (AA l),.slice false [] [MF m]]]=some (AA (l++[m])):=by
 have w:Fh [.slice nl [] (AA l),.slice false [] [MF m]]=some (AA (l++[m])):=by
  simp only[Fh,Qv,QI,cJ];rfl
 have r:(AA (l++[m])).length=l.length+1:=by rw[AU,Qr];rfl
 simp only[FC,Uo,w];rw[if_pos ⟨U,O,O,pK _⟩,Qj,if_pos (jZ _)]
def Io(l:List Mt)(m:Mt):Option (List Mt)×Int:=
 if EE m.1 m.2.1≠0 then(none,EE m.1 m.2.1)else if 0<=Cm l m.1 then(none,20)else if MB m.1 (l.map (·.1))=true then(none,15)else if 4<=l.length then(none,24)
 else(some (Dr kG m0t l.length 1 (l++[m])),0)
def aO2(nl:Bool)(l:List Mt)(o:Option (List Mt)):D:=match o with
 |none=> .agg [.slice nl [] (AA l)]
 |some t=> .agg [.slice false [] (AA t)]
open Classical in
def F45:List D->Option D
 |[.agg [.slice nl _ xs],.agg [.str p,.int .i64 q,.bool b]]=>if Tv nl xs∧xs.length<=1000∧p.length<=1000000 then some (.tup [aO2 nl (DD xs) (Io (DD xs) (p,q,b)).1,.int .i64 (Io (DD xs) (p,q,b)).2])else none
 |_=>none
open Classical in
def aF0{nl:Bool}{t:Id}{l:List Mt}{m:Mt}(hl:l.length<=1000)(g:nl=true->l=[])(c:m.1.length<=1000000):F45 [.agg [.slice nl t (AA l)],MF m]=some (.tup [aO2 nl l (Io l m).1,.int .i64 (Io l m).2]):=by
 have h:Tv nl (AA l)∧(AA l).length<=1000∧m.1.length<=1000000:=⟨P5 O g,by rw[AU];exact hl,c⟩;show(if _ then _ else _)=_;rw[if_pos h,BO]
def aAL{i:Id}{n:Nat}:(D.row i n).data=true:=rfl
def uN{i:Id}{n:Nat}:(D.row i n).cells=[.row i n]:=rfl
def kA(nl:Bool)(l:List Mt)(o:Option (List Mt))(e:Int):(D.tup [aO2 nl l o,.int .i64 e]).calmR=true:=by
 cases o<;>rfl
def aX2:Kq F45 129:=by
 obtain⟨S,hS,hl⟩:=Bp (Aa aUl (Aa aBo (Aa aUk (Aa aUj (Aa aPu (Aa aUh Ad))))));have g:=hl 186 _ rfl;have c:=hl 187 _ rfl;have k:=hl 188 _ rfl;have i:=hl 189 _ rfl;have u:=hl 190 _ rfl;have v:=hl 191 _ rfl;clear hl;refine qC hS (Ai func129:Fn Qf 129 44 aWg [.cell (some 1) 4,.t 5]) (λds r h=>?_) (λds r h=>?_)
 ·unfold F45 at h;split at h
  ·simp
  ·cases h
 ·unfold F45 at h;split at h
  ·rename_i nl t xs p q b;split at h
   ·rename_i hc;obtain⟨hc,ba,hp⟩:=hc;obtain⟨l,rfl,hl,hn,e⟩:=NK hc;rw[e]at h;rw[AU]at ba;simp only[Qm]at h;subst h;refine⟨kA ..,?_⟩;have f:aKO [.agg [.str p,.int .i64 q,.bool b]]=some (.int .i64 (EE p q)):=if_pos hp;have z:=Py (nl:=nl) (t:=[]) (p:=p) hl;have n:=aKL (nl:=nl) (t:=t) hl;have a:=aKN (s:=p) (nl:=false) (t:=[]) (l:=l.map (·.1)) Xk;have ja:∀mm fr,(ID FC).ex [D.slice false [30] [D.slice nl [] (AA l),D.slice false [] [D.agg [D.str p,D.int IntKind.i64 q,D.bool b]]]] mm fr=some (.row fr (l.length+1),[(fr,0,flat (AA (l++[(p,q,b)])))]):=by
     intro mm fr;have h1:FC ([D.slice false [30] [D.slice nl [] (AA l),D.slice false [] [D.agg [D.str p,D.int IntKind.i64 q,D.bool b]]]].map D.un)=some (AA (l++[(p,q,b)])):=aXq (m:=(p,q,b)) ba;simp only[ID,h1];refine(if_pos rfl).trans ?_;rw[Qv,AU,Qr];rfl
    have o:l.length<4->∀mm fr,(∀(j:Nat) d,(flat (AA (l++[(p,q,b)])))[j]?=some d->mm [31] j=some d)->(E0 oK).ex [.row [31] (l.length+1),.fn 192 []] mm fr=some (.tup [],[([31],0,flat (AA (Dr kG m0t l.length 1 (l++[(p,q,b)]))))]):=by
     intro w mm fr hm;have hr:=aHa hm;rw[Qr]at hr;simp only[E0,oK,S8];rw[if_pos ⟨O,O⟩,show l.length+1=l.length+[(p,q,b)].length from rfl,hr];rfl
    unfold aWg Io;simp only;generalize EE p q=e1 at *;generalize Cm l p=e2 at *;generalize MB p (l.map (·.1))=e3 at *;by_cases he:e1=0
    ·subst he;by_cases fa:0<=e2
     ·simp only[↓C2,Hf,simprocAttr,Ab g,f,Ab c,z,ne_eq,Ah,Au,Av,Qb,Qj,Ql,Qd,Qn,and_false,Qg,AW,Bb,fa];exact .inr ⟨_,_,rfl,rfl,.inl (.inl rfl),.inl (.inl rfl),trivial⟩
     ·cases e3 with
      |true=>
       simp only[↓C2,Hf,simprocAttr,Ab g,f,Ab c,z,Ab k,a,AG i,UL,n,ne_eq,Ah,Au,Av,Qb,Qj,Qd,Qn,and_false,Qg,fa];refine AV ?_;simp only[↓C2,Hf,simprocAttr,Ah,Au,Av,Qj,Ql,Qd,Qn,Qg,AW,Bb,fa];exact .inr ⟨_,_,rfl,rfl,.inl (.inl rfl),.inl (.inl rfl),trivial⟩
      |false=>
       by_cases h4:4<=l.length
       ·have ea:(4:Int)<=(l.length:Int):=by omega
        simp only[↓C2,Hf,simprocAttr,Ab g,f,Ab c,z,Ab k,a,AG i,UL,n,ne_eq,Ah,Au,Av,Qb,Qj,Qd,Qn,and_false,Qg,fa];refine AV ?_;simp only[↓C2,Hf,simprocAttr,AU,Ah,Au,Av,Qj,Ql,Qd,Qn,Qg,AW,Bb,fa,ea,h4];exact .inr ⟨_,_,rfl,rfl,.inl (.inl rfl),.inl (.inl rfl),trivial⟩
       ·have ea:¬(4:Int)<=(l.length:Int):=by omega
        simp only[↓C2,Hf,simprocAttr,Ab g,f,Ab c,z,Ab k,a,AG i,UL,n,ne_eq,Ah,Au,Av,Qb,Qj,Qd,Qn,and_false,Qg,fa];refine AV ?_;simp only[↓C2,Hf,simprocAttr,AG u,AU,Ah,Au,Av,Qb,Qj,Qd,Qn,and_false,Qg,ea];refine aH (ja _ _) ?_;simp only[↓C2,G_,simprocAttr,AG v];refine aH (o O _ _ (λj d hd=>?_)) ?_
        ·grind [Ah]
        simp only[↓C2,Hf,simprocAttr,aAL,uN,Cn,Fz,Ah,Au,Av,Qj,QO,Ql,Zc,Q9,Qd,false_and,Qg,AW,Bb,fa,h4];refine .inr ⟨_,_,rfl,rfl,.inr ⟨_,_,rfl,rfl,.inr (.inl ⟨[31],_,3,?_,rfl,?_,?_⟩),trivial⟩,.inl (.inl rfl),trivial⟩
        ·grind [AU,isortR_len]
        ·intro x hx;obtain⟨y,_,rfl⟩:=QL.1 hx;exact⟨rfl,rfl⟩
        ·grind [aA,Ah]
    ·simp only[↓C2,Hf,simprocAttr,Ab g,f,ne_eq,Ah,Au,Av,Qb,Qj,Ql,Qd,Qn,and_false,Qg,AW,Bb,he];exact .inr ⟨_,_,rfl,rfl,.inl (.inl rfl),.inl (.inl rfl),trivial⟩
   ·cases h
  ·cases h
def Pf:=y1 f23 2 [] []
def aMP:=y0 f23 [] [(2,Pf)]
def aC6:=y0 f266 [] []
def aHM{S:GZ}{l:List Mt}{p:Bs}{nl:Bool}{t:Id}{Q:Ex->St->Prop}(hb:l.length<=1000000)(d:S 54=some (Ac zI))
  (pa:∀y (m:Mt),Ct l p≠-1->m=Cw l (Ct l p).toNat->y.s 4= .ptr [1] 0->y.s 5= .int .i64 0->y.m [1] 0=some (.str m.1)->y.m [1] 1=some (.int .i64 m.2.1)->y.m [1] 2=some (.bool m.2.2)->Q .ret y)
  (o:∀y a b c,Ct l p=-1->y.s 4= .ptr [1] 0->y.m [1] 0=some a->y.m [1] 1=some b->y.m [1] 2=some c->Q (.exit 0) y):
  ∀(f j:Nat) y g a b c,l.length=j+f->(∀i,i<j->(l.map λm=>Cu p m.1)[i]?=some false)->2<=y.c->y.s 1= .str p->y.s 4= .ptr [1] 0->y.s 9= .slice nl t (AA l)->y.s 10= .int .i64 (l.length:Int)->y.s 11= .int .i64 (j:Int)->
   y.m [1] 0=some a->y.m [1] 1=some b->y.m [1] 2=some c->Ba S [] Pf Q y g:=by
 intro f;induction f with
 |zero=>
  intro j y g a b c hf ia w u h4 h9 n ma na qa ra;refine Af Pf.eq_1 ?_;have x:¬((j:Int)<l.length):=O
  simp only[↓C2,G8,Hj,reduceIte,Qe,n,ma,x];exact o _ a b c (eH (by rw[Qx];intro i hi;exact ia i O)) h4 na qa ra
 |succ f ih=>
  intro j y g a b c hf ia w u h4 h9 n ma na qa ra;refine Af Pf.eq_1 ?_;have hj:j<l.length:=O
  have x:((j:Int)<l.length):=O
  have oa:=nJ (j:=j);have hw:=wJ (j:=j) O;have v:(AA l)[j]?=some (.agg [.str (Cw l j).1,.int .i64 (Cw l j).2.1,.bool (Cw l j).2.2]):=ME hj;have h:(l.map λm=>Cu p m.1)[j]?=some (Cu p (Cw l j).1):=by simp[Cw,Qi hj]
  have r:([y.c+1+2]=([1]:Id))=False:=eq_false U;have z:(([1]:Id)=[y.c+1+2])=False:=eq_false U;obtain⟨m,k⟩:∃m,Cw l j=m:=⟨_,rfl⟩;rw[k]at v h;have e:zI [.str p,.str m.1]=some (.bool (Cu p m.1)):=rfl;obtain⟨ka,fa,q⟩:=y;simp only at u h4 h9 n ma na qa ra r z w;cases hq:Cu p m.1 with
  |true=>
   rw[hq]at h e;have hr:Ct l p=(j:Int):=eG h ia;simp only[↓C2,Hf,simprocAttr,u,h4,h9,n,ma,x,oa,Qh,v,z,na,qa,ra,Ab d,e,QB,Ah,Au,Av,Qb,Qj,QR,QO,Ql];refine pa _ m (by rw[hr];omega) (by rw[hr];exact k.symm) h4 rfl ?_ ?_ ?_<;>simp only[Hj,simprocAttr,z,na,qa,ra,QB,Ah,Qy,Q6,Qk,Qo,Qp,Qq,Qb,and_self]
  |false=>
   rw[hq]at h e;simp only[↓C2,Hf,simprocAttr,u,h9,n,ma,x,oa,hw,Qh,v,Ab d,e,QB,Ah,Au,Av,Qb,Qj,QR,QO,Ql];refine ih (j+1) _ _ a b c O (λi hi=>?_) Xa u h4 h9 n rfl ?_ ?_ ?_
   ·grind
   all_goals simp only[H_,Hj,simprocAttr,z,na,qa,ra,QB,Ah,Qy,Q6,Qk,Qo,Qp,Qq,Qb,and_self]
def LP(l:List Mt)(p:Bs):D:=if Ct l p=-1 then .tup [MF m0t,.int .i64 14]else .tup [MF (Cw l (Ct l p).toNat),.int .i64 0]
open Classical in
def aF8:List D->Option D
 |[.agg [.slice _ _ xs],.str p]=>if xs=AA (DD xs)∧xs.length<=1000000 then some (LP (DD xs) p)else none
 |_=>none
open Classical in
def sV{nl:Bool}{t:Id}{l:List Mt}{p:Bs}(hl:l.length<=1000000):aF8 [.agg [.slice nl t (AA l)],.str p]=some (LP l p):=by
 have h:AA l=AA (DD (AA l))∧(AA l).length<=1000000:=XP
 show(if _ then _ else _)=_;rw[if_pos h,BO]
def aBl:Kq aF8 23:=by
 obtain⟨S,g,hl⟩:=Bp (Aa aK0 Ad);have d:=hl 54 _ rfl;clear hl;refine AM (S:=S) g (Ai func23:Fn Qf 23 22 aMP [.cell (some 3) 4,.t 5]) (λds r h=>?_) (λds r h=>?_)
 ·unfold aF8 at h;split at h
  ·simp
  ·cases h
 ·unfold aF8 at h;split at h
  ·rename_i nl t xs p;split at h
   ·rename_i w;obtain⟨q,hl⟩:=w;simp only[Qm]at h;subst h;generalize DD xs=l at q;subst q;rw[AU]at hl;unfold aMP;simp only[↓C2,Hf,simprocAttr,AU,Ah,Qd,Qn];refine aHM (l:=l) (p:=p) (nl:=nl) (t:=t) hl d (λy m z u e n m0 s k=>?_) (λy a b c z e m0 s k=>?_) l.length 0 _ _ (.str []) (.int .i64 0) (.bool false) O U Xa rfl rfl rfl rfl rfl ?_ ?_ ?_
    ·unfold LP;rw[if_neg z,←u];simp only[↓C2,G_,Qe,e,n,m0,s,k,Au,Av,Qp,Qj,AW,Bb];exact⟨rfl,rfl⟩
    ·unfold LP;rw[if_pos z];simp only[↓C2,Hf,simprocAttr,e,m0,s,k,Cn,Ah,Au,Av,Qb,Qj,Ql,AW,Bb];exact⟨rfl,rfl⟩
    all_goals simp only[H_,Hj,simprocAttr,Ah,Qy,Q6,Qk,Qo,Qp,Qq,Qb,and_self,Qd,and_false,Qg]
   ·cases h
  ·cases h
open Classical in
def aGd:List D->Option D
 |[.agg [.bool se,.int .i64 te,.str key,.slice nlm tm xs,.slice nlt tt ys],.str p]=>if xs=AA (DD xs)∧xs.length<=1000000 then some (.bool (decide (Ct (DD xs) p≠-1)))else none
 |_=>none
def aT3:Kq aGd 266:=by
 obtain⟨S,g,hl⟩:=Bp (Aa aBl Ad);have b:=hl 23 _ rfl;clear hl;refine AM (S:=S) g (Ai func266:Fn Qf 266 16 aC6 [.t 4]) (λds r h=>?_) (λds r h=>?_)
 ·unfold aGd at h;split at h
  ·simp
  ·cases h
 ·unfold aGd at h;split at h
  ·rename_i n u z c o xs d v ys p;split at h
   ·rename_i w;obtain⟨q,hl⟩:=w;simp only[Qm]at h;subst h;generalize DD xs=l at q;subst q;rw[AU]at hl;have a:=sV (nl:=c) (t:=[]) (p:=p) hl;unfold LP at a;by_cases i:Ct l p=-1
    ·rw[if_pos i]at a;simp only[i,ne_eq,not_true_eq_false,decide_false];unfold aC6;simp only[↓C2,Hf,simprocAttr,Ab b,a,MF,Ah,Au,Av,Qb,Qj,Ql,Qd,Qg]
     all_goals rfl
    ·rw[if_neg i]at a;simp only[i,ne_eq,not_false_eq_true,decide_true];unfold aC6;simp only[↓C2,Hf,simprocAttr,Ab b,a,MF,Ah,Au,Av,Qb,Qj,Ql,Qd,Qg]
     all_goals rfl
   ·cases h
  ·cases h
def kT(l:List Mt)(p:Bs):Nat->Nat
 |0=>0
 |j+1=>if Op.bytesLess (Cw l j).1 p=true then j+1 else kT l p j
def aCd(l:List Mt)(p:Bs):∀j,kT l p j<=j
 |0=>QB _
 |j+1=>by
  unfold kT;split
  ·exact QB _
  ·exact Nat.le_succ_of_le (aCd l p j)
def aEv(l:List Mt)(m:Mt):Option (List Mt)×Int:=
 if EE m.1 m.2.1≠0 then(none,EE m.1 m.2.1)else if 0<=Cm l m.1 then(none,20)else if MB m.1 (l.map (·.1))=true then(none,15)else if 4<=l.length then(none,24)
 else(some (l.take (kT l m.1 l.length)++m::l.drop (kT l m.1 l.length)),0)
def aMJ:=y0 f97 [] []
def aMI:=y0 Tryz.f169 [] []
def aMG:=y0 f171 [] []
def qS:=y1 f309 4 [] []
def aMF:=y0 f309 [] [(4,qS)]
def aL9:=y0 f331 [] []
def H6:=y1 f330 3 [] []
def aMa:=y0 f330 [] [(3,H6)]
def qR:=y0 f132 [] []
def aLL:Fn Qf 132 8 qR [.t 4]:=Ai func132
def MS:=y1 f197 4 [] []
def qO:=y0 f197 [] [(4,MS)]
def aLH:Fn Qf 197 26 qO [.t 4]:=Ai func197
def Pa:=y1 f14 3 [] []
def aMq:=y0 f14 [] [(3,Pa)]
def O8:=y1 f332 3 [] []
def aL8:=y0 f332 [] [(3,O8)]
def Pg:=y1 f136 6 [(8,[(7,3)])] []
def aM2:=y0 f136 [] [(6,Pg)]
structure Ak where
 op:Int
 tk:Bs
 pa:Bs
 ot:Bs
 n:Int
 cas:Int
 fl:Bool
 nln:Bool
 ns:List Int
 da:Bs
 nlr:Bool
 rs:List Rl
 key:Bs
def AJ(l:List Int):List D:=l.map (.int .i64)
def EX(l:List Int):(AJ l).length=l.length:=Qx ..
def Ln:∀{a b:List Int},AJ a=AJ b->a=b
 |[],[],_=>rfl
 |[],_::_,h=>by simp[AJ]at h
 |_::_,[],h=>by simp[AJ]at h
 |x::a,y::b,h=>by
  simp only[AJ,QD,Qd,D.int.injEq,true_and]at h;rw[h.1,Ln (a:=a) (b:=b) h.2]
def aCp(l:List Int):(AJ l).all (qJ none)=true:=X9
def bK{a b:List Rl}(h:Ar a=Ar b):a=b:=by rw[←A2 a,h,A2]
theorem cI{a b:List Mt}(h:AA a=AA b):a=b:=by rw[←BO a,h,BO]
theorem WM{a b:List Tk}(h:AL a=AL b):a=b:=by rw[←BN a,h,BN]
def Hq(a:Ak):List D:=[.int .u8 a.op,.str a.tk,.str a.pa,.str a.ot,.int .i64 a.n,.int .i64 a.cas,.bool a.fl,.slice a.nln [] (AJ a.ns),.str a.da,.slice a.nlr [] (Ar a.rs),.str a.key]
def Hv(a:Ak):D:= .agg (Hq a)
theorem FK{a b:Ak}(h:Hv a=Hv b):a=b:=by
 cases a;cases b;simp only[Hv,Hq,D.agg.injEq,Qd,D.int.injEq,D.str.injEq,D.bool.injEq,D.slice.injEq,true_and,and_true]at h;obtain⟨u,f,i,p,m,r,k,⟨w,q⟩,n,⟨s,ia⟩,e⟩:=h;have z:=Ln q;have c:=bK ia;subst u f i p m r k w n s e z c;rfl
def BK(b:Bool):Int:=if b=true then 0 else 4
def aSj:List D->Option D:=FX (λb:Bool=>[.bool b]) (λ_=>True) (λb=> .int .i64 (BK b))
def HJ(b:Bool):aSj [.bool b]=some (.int .i64 (BK b)):=B5 (mk:=λb:Bool=>[.bool b]) (λa b h=>Xl) trivial
def aK2:Kq aSj 97:=by
 refine Da (S:=λ_=>none) A6 (Ai func97:Fn Qf 97 4 aMJ [.t 2]) (λ_=>U) (λb _=>?_);unfold aMJ;cases b<;>simp only[↓C2,G_,reduceIte,Qc,Qe]
 all_goals exact Y1
def aXu:List D->Option D:=FX (λs:Bs=>[.str s]) (λs=>s.length<=1000000) (λs=> .bool (BT s))
def sU{s:Bs}(h:s.length<=1000000):aXu [.str s]=some (.bool (BT s)):=B5 (mk:=λs:Bs=>[.str s]) (λa b h=>Xl) h
def aTN:Kq aXu 169:=by
 obtain⟨S,g,hl⟩:=Bp (Aa aHw Ad);have a:=hl 53 _ rfl;clear hl;refine Da g (Ai func169:Fn Qf 169 7 aMI [.t 2]) (λ_=>U) (λs j=>?_);have z:F98 [.agg [.int .u8 3,.str s,.int .i64 0]]=some (.int .i64 (Ca 3 s 0)):=if_pos j;have i:Ca 3 s 0=if BT s=true then 0 else 2:=by simp[Ca]
 rw[i]at z;unfold aMI;cases hn:BT s<;>rw[hn]at z<;>simp only[if_true,Qt,if_false]at z
 ·simp only[↓C2,G_,reduceIte,Qc,Qe,Ab a,z,Cn,Fz,Qu,Qk,Qo,Qp,and_self,QR,QO,Zc,Q9]
  all_goals exact Y1
 ·simp only[↓C2,G_,reduceIte,Qc,Qe,Ab a,z,Cn,Fz,Qu,Qk,Qo,Qp,and_self,QR,QO,Zc,Q9]
  all_goals exact Y1
def countB(l:List Int):Bool:=decide (l.length<=6)&&!(l.any λx=>!decide (1<=x∧x<=999))
def aXt:List D->Option D:=FX (λp:Bool×List Int=>[.slice p.1 [] (AJ p.2)]) (λp=>p.2.length<=1000000) (λp=> .bool (countB p.2))
def aKj{nl:Bool}{l:List Int}(h:l.length<=1000000):aXt [.slice nl [] (AJ l)]=some (.bool (countB l)):=
 B5 (mk:=λp:Bool×List Int=>[.slice p.1 [] (AJ p.2)]) (a:=(nl,l)) (λa b h=>by
  simp only[Qd,D.slice.injEq,true_and,and_true]at h;exact QT h.1 (Ln h.2)) h
def aD0{l:List Int}{nl:Bool}{t:Id}(hl:l.length<=1000000)(m:G6)(fr:Id):
  (iI 241 none zC).ex [.slice nl t (AJ l),.fn 241 []] m fr=some (.bool (l.any λx=>!decide (1<=x∧x<=999)),[]):=by
 have e:(AJ l).map (zC .junk)=(l.map λx=>!decide (1<=x∧x<=999)).map λb=>some (.bool b):=by
  simp only[AJ,QQ];exact Q2 λr _=>rfl
 simp only[iI,EX,hl,aCp,and_self,if_true,FS,Qj,e,Dx,Qv,Zt];rfl
def aTM:Kq aXt 171:=by
 obtain⟨S,g,hl⟩:=Bp (Aa aWv Ad);have d:=hl 240 _ rfl;clear hl;refine Da g (Ai func171:Fn Qf 171 11 aMG [.t 2]) (λ_=>U) (λp j=>?_);obtain⟨nl,l⟩:=p;have a:=aD0 (nl:=nl) (t:=[]) j;unfold aMG countB;simp only;generalize (l.any λx=>!decide (1<=x∧x<=999))=b at a;by_cases s:l.length<=6
 ·have c:((l.length:Int)<=6):=by omega
  simp only[↓C2,G_,reduceIte,Qc,Qe,AG d,a,s,c,EX]
  all_goals exact Y1
 ·have c:¬((l.length:Int)<=6):=by omega
  simp only[↓C2,G_,reduceIte,Qc,Qe,s,c,EX,QA,and_self]
  all_goals exact Y1
def aKi:List D->Option D:=FX (λp:Bool×List D×Bool=>[.slice p.1 [] p.2.1,.slice p.2.2 [] []]) (λp=>p.2.1.length<=1000000) (λp=> .bool p.2.1.isEmpty)
def Wj{nl nl':Bool}{l:List D}(h:l.length<=1000000):aKi [.slice nl [] l,.slice nl' [] []]=some (.bool l.isEmpty):=
 B5 (mk:=λp:Bool×List D×Bool=>[.slice p.1 [] p.2.1,.slice p.2.2 [] []]) (a:=(nl,l,nl')) (λa b h=>by
  simp only[Qd,D.slice.injEq,true_and,and_true]at h;exact QT h.1.1 (QT h.1.2 h.2)) h
def aTL:Kq aKi 309:=by
 refine Da (S:=λ_=>none) A6 (Ai func309:Fn Qf 309 26 aMF [.t 4]) (λ_=>U) (λp j=>?_);obtain⟨nl,l,nl'⟩:=p;unfold aMF;cases l with
 |nil=>
  simp only[↓C2,G8,Hj,reduceIte,Qc,Qe,Qo];have b:((0:Int)<((0:Nat):Int))=False:=U
  refine Af qS.eq_1 ?_;simp only[↓C2,G_,reduceIte,Qc,Qe,b]
  all_goals exact Y1
 |cons x r=>
  have q:(((r.length+1:Nat):Int)=((0:Nat):Int))=False:=eq_false O;simp only[↓C2,G_,reduceIte,Qc,Qe,Qk,Qo,q]
  all_goals exact Y1
def aTy:Kq aKi 197:=by
 refine Da (S:=λ_=>none) A6 aLH (λ_=>U) (λp j=>?_);obtain⟨nl,l,nl'⟩:=p;unfold qO;cases l with
 |nil=>
  simp only[↓C2,G8,Hj,reduceIte,Qc,Qe,Qo];have b:((0:Int)<((0:Nat):Int))=False:=U
  refine Af MS.eq_1 ?_;simp only[↓C2,G_,reduceIte,Qc,Qe,b]
  all_goals exact Y1
 |cons x r=>
  have q:(((r.length+1:Nat):Int)=((0:Nat):Int))=False:=eq_false O;simp only[↓C2,G_,reduceIte,Qc,Qe,Qk,Qo,q]
  all_goals exact Y1
structure LG (c0:Nat) (m0:G6) (e:Nat) (m:G6) (c:Nat) (nl:Bool) (t:Id):Prop where
 low:∀q o,q<c0->m [q] o=m0 [q] o
 tok:nl=true∨∃j,t=[j]∧c0<=j∧j<c∧m t 0=some (.tok (e+1))
 le:c0<=c
section
variable{c0 e c c' c2 o:Nat}{m0 m:G6}{nl:Bool}{t:Id}{ds xs:List D}
def LG.start(h:c0<=c):LG c0 m0 e m0 c true t:=⟨λ_ _ _=>rfl,.inl rfl,h⟩
def LG.put(h:LG c0 m0 e m c nl t)(w:c<=c':=by omega):LG c0 m0 e (m.put [c'] o ds) c nl t:=by
 obtain⟨u,f,i⟩:=h;refine⟨λq o' y=>?_,?_,i⟩
 ·grind [aA]
 ·grind [aA]
def LG.more(h:LG c0 m0 e m c nl t)(w:c<=c'):LG c0 m0 e m c' nl t:=by
 obtain⟨u,h2,i⟩:=h;refine⟨u,?_,O⟩;rcases h2 with h2|⟨j,a,b,p,d⟩
 ·exact .inl h2
 ·grind
def LG.grow(h:LG c0 m0 e m c nl t):I6 m e (.slice nl t xs):=by
 rcases h.tok with h|⟨j,rfl,_,_,d⟩
 ·exact .inl h
 ·exact .inr ⟨d,U⟩
def LG.app(h:LG c0 m0 e m c nl t)(w:c<=c')(f:c'<c2):LG c0 m0 e (Ha.app m (Be e [c'] (.slice nl t xs))) c2 false [c']:=by
 obtain⟨u,n,i⟩:=h;refine⟨λq o y=>?_,.inr ⟨c',rfl,O,f,?_⟩,O⟩
 ·grind [Dm]
 ·rw[Dm,if_pos ⟨rfl,rfl⟩]
def LG.appf(h:LG c0 m0 e m c false t)(w:c<=c')(f:c'<c2):LG c0 m0 e ((m.put t 0 [.tok 0]).put [c'] 0 [.tok (e+1)]) c2 false [c']:=LG.app (xs:=[]) h w f
def LG.nil(h:LG c0 m0 e m c nl t):LG c0 m0 e (Ha.app m []) c nl t:=h
def LG.rd(h:LG c0 m0 e m c nl t){q p n:Nat}(y:q<c0):Ag m [q] p n=Ag m0 [q] p n:=by
 have:∀n p,Ag m [q] p n=Ag m0 [q] p n:=by
  intro n;induction n with
  |zero=>intro p;rfl
  |succ n ih=>intro p;simp only[Ag,h.low q p y,ih]
 exact this n p
end
def Lg(l:List Rw):aD (A5 l) 3=3:=Xy
def HA(l:List Int):(AJ l).length=l.length:=Qx ..
def aD5{m:G6}{caps:List D}{k:IntKind}{n:Int}(h:FS m caps=some (.int k n)):∃i,caps=[.ptr i 0]∧m i 0=some (.int k n):=by
 unfold FS at h;split at h
 ·simp at h
 ·simp_all
 ·cases h
def zD:D->D->Option D
 | .int .i64 n,.agg [.int .i64 a,.bool _,.bool _]=>some (.bool (decide (a=n)))
 |_,_=>none
def aQX:(IY zD).ok Qf 314:=by
 refine N0 (S:=λ_=>none) A6 (Ai func314:Fn Qf 314 8 aMf [.t 3]) (λx caps m fr c d s z v hl=>⟨O,?_⟩);unfold zD at z;split at z
 ·simp only[Qm]at z;subst z;obtain⟨i,rfl,j⟩:=aD5 s;have hi:i≠0::fr:=by rintro rfl;have:=v 0 (0::fr) 0 (List.suffix_refl _);rw[j]at this;cases this
  unfold aMf;simp only[↓C2,G_,GY,simprocAttr,j,hi];intro i o y h;split
  ·grind
  ·exact h
 ·cases z
def aVV:Fn Qf 313 19 (dcI 3 (some 3)) [.t 4]:=⟨f313,_,func313,rfl,Z,rfl,Z,Z⟩
def aQC:(FQ 314 (some 3) zD).ok Qf 313:=NP O aVV rfl aQX
def UZ(l:List Rw)(n:Int):Int:=Bm (l.map λr=>decide (r.1=n))
def vN{l:List Rw}{nl:Bool}{t:Id}(hl:l.length<=1000000){n:Int}(m:G6)(fr i:Id)(j:m i 0=some (.int .i64 n)):
  (FQ 314 (some 3) zD).ex [.slice nl t (A5 l),.fn 314 [.ptr i 0]] m fr=some (.int .i64 (UZ l n),[]):=by
 have e:(A5 l).map (zD (.int .i64 n))=(l.map λr=>decide (r.1=n)).map λb=>some (.bool b):=by
  simp only[A5,QQ];exact Q2 λr _=>rfl
 have v:(A5 l).all (qJ (some 3))=true:=by
  rw[QS];intro x q;obtain⟨r,_,rfl⟩:=QL.1 q;rfl
 simp only[FQ,AQ,hl,v,and_self,if_true,FS,j,Qj,e,Dx,Qv];rfl
def Ff(s:Sc)(n:Int):Int:=if n=0 then(s.rs.length:Int)-1 else UZ s.rs n
def aWZ:=Ao [(313,FQ 314 (some 3) zD)]
def aR1:=RF aWZ aMV [.t 4] 15
def aVs:Kq aR1 274:=Am (Ai func274) (Aa aQC Ad)
def aJy(s:Sc)(n:Int)(hl:s.rs.length<=1000):aR1 [.agg (Hb s),.int .i64 n]=some (.int .i64 (Ff s n)):=by
 refine Al (Qa rfl) ?_;unfold aMV;have g:IntKind.i64.wrap ((s.rs.length:Int)-1)=(s.rs.length:Int)-1:=Hu O O;unfold Ff Hb;by_cases c1:n=0
 ·simp only[↓C2,G_,GY,simprocAttr,c1,g,AQ]
  all_goals exact Y0
 ·simp only[↓C2,G_,GY,simprocAttr,c1,AE aWZ 313,vN (n:=n) (show s.rs.length<=1000000 by omega)]
  all_goals exact Y0
def rw0:Rw:=(0,false,false)
def EK(s:Sc)(n:Int):Rw×Int:=if CV s 6=true then(rw0,2)else if Ff s n<0 then(rw0,6)else
 if((s.rs.getD (Ff s n).toNat rw0).2.1||(s.rs.getD (Ff s n).toNat rw0).2.2)=true then(s.rs.getD (Ff s n).toNat rw0,21)else(s.rs.getD (Ff s n).toNat rw0,0)
def Tl(l:List Rw)(n:Int):UZ l n<l.length:=by
 unfold UZ Bm;split
 ·rename_i k h;rw[Q5]at h;obtain⟨o,_⟩:=h;rw[Qx]at o;omega
 ·omega
def aCK(s:Sc)(n:Int):Ff s n<s.rs.length:=by
 unfold Ff;split
 ·omega
 ·exact Tl _ _
def Wc:=Ao [(25,Ac LB),(273,Ac Sb),(274,Ac aR1)]
def N9:=RF Wc aNJ [.cell (some 3) 4,.t 5] 32
def aVL:Kq N9 219:=Am (Ai func219) (Aa Ro (Aa aLl (Aa aVs Ad)))
def aJU(s:Sc)(n:Int)(hl:s.rs.length<=1000):N9 [.agg (Hb s),.int .i64 n]=some (.tup [rwD (EK s n).1,.int .i64 (EK s n).2]):=by
 refine Al (Qa rfl) ?_;unfold aNJ;have z:=GV s 6 false hl;have q:=sB;have b:=aJy s n hl;have u:=aCK s n;unfold EK;unfold UE at z;unfold Hb at z b ⊢;generalize Ff s n=i at b u;cases hb:CV s 6 with
 |true=>
  rw[hb]at z;simp only[if_true]at z;simp only[↓C2,G_,GY,simprocAttr,Ae Wc 25,z,Ae Wc 273,q];refine AV ?_;simp only[↓C2,G_,GY,simprocAttr]
  all_goals exact Y0
 |false=>
  rw[hb]at z;simp only[if_false,Qt]at z;simp only[↓C2,G_,GY,simprocAttr,Ae Wc 25,z,Ae Wc 273,q];refine AV ?_;by_cases c1:i<0
  ·simp only[↓C2,G_,GY,simprocAttr,Ae Wc 274,b,c1]
   all_goals exact Y0
  ·have v:0<=i:=by omega
   have e:i.toNat<s.rs.length:=O
   have j:=Fw e;have f:s.rs.getD i.toNat rw0=s.rs[i.toNat]:=by simp[Zx,Qi e]
   rw[f];generalize s.rs[i.toNat]=x at j;obtain⟨a,g,d⟩:=x;simp only at j;cases g with
   |true=>
    simp only[↓C2,G_,GY,simprocAttr,Ae Wc 274,b,c1,v,j]
    all_goals exact Y0
   |false=>
    cases d with
    |true=>
     simp only[↓C2,G_,GY,simprocAttr,Ae Wc 274,b,c1,v,j]
     all_goals exact Y0
    |false=>
     simp only[↓C2,G_,GY,simprocAttr,Ae Wc 274,b,c1,v,j]
     all_goals exact Y0
def Il(s:Sc)(q:Int)(b:Bool)(cas r:Int):Int:=if CV s q=true∨cas< -1∨r<0 then 2 else if 96<r then 18 else if cas=-1∧(s.cas=true∨b=true)then 17 else if cas≠-1∧cas≠s.la then 16 else if s.la=30 then 19 else 0
def OR:=Ao [(25,Ac LB)]
def aRO:=RF OR aMe [.t 8] 49
def aU8:Kq aRO 315:=Am (Ai func315) (Aa Ro Ad)
def aJa(s:Sc)(q:Int)(b:Bool)(cas r:Int)(hl:s.rs.length<=1000):aRO [.agg (Hb s),.agg [.int .i64 q,.bool b],.int .i64 cas,.int .i64 r]=some (.int .i64 (Il s q b cas r)):=by
 refine Al (Qa rfl) ?_;unfold aMe;have z:=GV s q b hl;unfold Il;unfold UE at z;unfold Hb at z ⊢;generalize CV s q=w at z;cases w with
 |true=>
  simp only[if_true]at z;simp only[↓C2,G_,GY,simprocAttr,Ae OR 25,z,ne_eq]
  all_goals exact Y0
 |false=>
  simp only[if_false,Qt]at z;by_cases c1:cas< -1
  ·simp only[↓C2,G_,GY,simprocAttr,Ae OR 25,z,ne_eq,c1]
   all_goals exact Y0
  by_cases p:r<0
  ·simp only[↓C2,G_,GY,simprocAttr,Ae OR 25,z,ne_eq,c1,p]
   all_goals exact Y0
  by_cases y:96<r
  ·simp only[↓C2,G_,GY,simprocAttr,Ae OR 25,z,ne_eq,c1,p,y]
   all_goals exact Y0
  by_cases t:cas=-1
  ·have g:(cas=-1)=True:=eq_true t;cases h1:s.cas with
   |true=>
    rw[h1]at z;simp only[↓C2,G_,GY,simprocAttr,Ae OR 25,z,ne_eq,c1,p,y,g]
    all_goals exact Y0
   |false=>
    rw[h1]at z;cases b with
    |true=>
     simp only[↓C2,G_,GY,simprocAttr,Ae OR 25,z,ne_eq,c1,p,y,g]
     all_goals exact Y0
    |false=>
     by_cases k:s.la=30
     ·have e:(s.la=30)=True:=eq_true k;simp only[↓C2,G_,GY,simprocAttr,Ae OR 25,z,ne_eq,c1,p,y,g,e]
      all_goals exact Y0
     ·have e:(s.la=30)=False:=eq_false k;simp only[↓C2,G_,GY,simprocAttr,Ae OR 25,z,ne_eq,c1,p,y,g,e]
      all_goals exact Y0
  ·have g:(cas=-1)=False:=eq_false t;by_cases m:cas=s.la
   ·have i:(cas=s.la)=True:=eq_true m;by_cases k:s.la=30
    ·have e:(s.la=30)=True:=eq_true k;simp only[↓C2,G_,GY,simprocAttr,Ae OR 25,z,ne_eq,c1,p,y,g,i,e]
     all_goals exact Y0
    ·have e:(s.la=30)=False:=eq_false k;simp only[↓C2,G_,GY,simprocAttr,Ae OR 25,z,ne_eq,c1,p,y,g,i,e]
     all_goals exact Y0
   ·have i:(cas=s.la)=False:=eq_false m;simp only[↓C2,G_,GY,simprocAttr,Ae OR 25,z,ne_eq,c1,p,y,g,i]
    all_goals exact Y0
def aYS:=Ao []
def aRN:=RF aYS eZ [.t 2] 8
def aU7:Kq aRN 316:=Am aCG Ad
def aI9{nl:Bool}{l:List Rw}(hl:l.length<=100000)(g:nl=true->l=[]):aRN [.slice nl [] (A5 l)]=some (.slice nl [] (A5 l)):=by
 refine Al (Qa rfl) ?_;unfold eZ;cases nl with
 |true=>
  rw[g rfl];simp only[↓C2,G8,H_,GY,simprocAttr]
  all_goals exact Y0
 |false=>
  simp only[↓C2,G8,Hj,GY,simprocAttr];refine As.intro ⟨XF,Lg l,.inr ⟨rfl,U⟩⟩ ?_;simp only[↓C2,G_,GY,simprocAttr]
def Ce(s:Sc)(q:Int):Nat:=s.rs.length-(Bc s q).toNat
def EG(s:Sc)(q:Int):Sc:={s with rs:=s.rs.drop (Ce s q)}
def Lz(s:Sc)(q:Int):List Int:=(s.rs.take (Ce s q)).map (·.1)
def aRn:=Ao [(59,Ac aJm),(316,Ac aRN)]
def aJx:=RF aRn aMQ [.cell (some 4) 4,.t 5] 41
def aLj:Kq aJx 278:=Am (Ai func278) (Aa aLh (Aa aU7 Ad))
def rZ(s:Sc)(q:Int)(b:Bool)(hl:s.rs.length<=1000)(hk:0<=Bc s q∧Bc s q<=1000)(qa:s.nl=true->s.rs=[]):aJx [.agg (Hb s),.agg [.int .i64 q,.bool b]]=some (.tup [.agg (Hb (EG s q)),.slice (decide (Ce s q=0)) [] (AJ (Lz s q))]):=by
 refine Al (Qa rfl) ?_;unfold aMQ;have d:=rY s q b;have a:=aI9 (nl:=s.nl) (l:=s.rs.drop (Ce s q)) XO (λh=>by rw[qa h,List.drop_nil]);have hw:IntKind.i64.wrap ((s.rs.length:Int)-Bc s q)=(s.rs.length:Int)-Bc s q:=Hu O O;have hm:max 0 ((s.rs.length:Int)-Bc s q)=(Ce s q:Int):=by unfold Ce;omega
 have hn:Ce s q<=s.rs.length:=by unfold Ce;omega
 have ia:(0:Int)<=(Ce s q:Int)∧(Ce s q:Int)<=((s.rs.length:Nat):Int):=⟨O,O⟩;have z:(A5 s.rs).take (Ce s q)=A5 (s.rs.take (Ce s q)):=List.map_take.symm;have sa:(A5 s.rs).drop (Ce s q)=A5 (s.rs.drop (Ce s q)):=List.map_drop.symm;have i:EG s q={s with rs:=s.rs.drop (Ce s q)}:=rfl;unfold Lz;rw[i];unfold Hb at d ⊢;generalize Ce s q=n at *;generalize Bc s q=kp at *;clear i;simp only[↓C2,G_,GY,simprocAttr,Ae aRn 59,d,AQ,hw,hm];refine AV ?_;simp only[↓C2,G_,GY,simprocAttr,AQ,Lg,ia,Qh,z,Q6,Zy,Nat.min_eq_left hn];refine Bv (n:=n) (I:=λj y=>y.s 21= .slice s.nl [] (A5 (s.rs.take n))∧y.s 22= .int .i64 (n:Int)∧y.s 23= .int .i64 (j:Int)∧y.s 2= .ptr [0] 0∧y.s 4= .ptr [2] 0∧y.s 6= .int .i64 (n:Int)∧∃nl t,y.s 7= .slice nl t (AJ (((s.rs.take n).take j).map (·.1)))∧nl=decide (j=0)∧LG 4 _ 3 y.m y.c nl t) (λj hj ih y g hI=>?_) (λy g hI=>?_) 0 (Qy _) _ _ ⟨(by show D.slice _ _ (List.take n (List.drop 0 (A5 s.rs)))=_;rw[Zc,z]),rfl,rfl,rfl,rfl,rfl,true,[],rfl,rfl,LG.start Xa⟩
 ·obtain⟨ka,fa,da⟩:=y;obtain⟨v,e,o,w,h4,h6,nl,t,h7,f,hG⟩:=hI;simp only at v e o w h4 h6 h7 hG;refine Af VK.eq_1 ?_;have ea:((j:Int)<n):=by omega
  have oa:=nJ (j:=j);have hw:=wJ (j:=j) O;have ba:(s.rs.take n).length=n:=XE
  generalize s.rs.take n=l at *;have ja:=Fw (l:=l) (j:=j) O;have z:AJ ((l.take (j+1)).map (·.1))=AJ ((l.take j).map (·.1))++[.int .i64 (l[j]' O).1]:=by
   rw[QF O,QZ];simp[AJ]
  have va:(AJ ((l.take j).map (·.1))).length=j:=by simp[AJ];omega
  have ma:nl=true->AJ ((l.take j).map (·.1))=[]:=by
   grind
  generalize AJ ((l.take j).map (·.1))=ca at h7 z va ma;generalize l[j]' O=x at ja z;simp only[↓C2,G_,GY,simprocAttr,v,e,o,h7,ea,oa,Qh,ja];refine As.intro ⟨O,rfl,YX⟩ ?_;rw[B0 ma,←z];simp only[↓C2,G8,simprocAttr,o,hw];exact ih _ _ ⟨v,e,rfl,w,h4,h6,false,_,rfl,U,YY⟩
 ·obtain⟨ka,fa,da⟩:=y;obtain⟨v,e,o,w,h4,h6,nl,t,h7,f,hG⟩:=hI;simp only at v e o w h4 h6 h7 hG;refine Af VK.eq_1 ?_;have m0:∀k,fa [0] k=_:=λk=>hG.low 0 k O
  have m2:∀k,fa [2] k=_:=λk=>hG.low 2 k O
  have p:(A5 s.rs).take s.rs.length=A5 s.rs:=QG XF;have r:(A5 (s.rs.drop n)).take (s.rs.length-n)=A5 (s.rs.drop n):=QG (by rw[AQ,List.length_drop];omega);have u:(s.rs.take n).take n=s.rs.take n:=QG XE;rw[u]at h7;simp only[↓C2,G_,GY,simprocAttr,e,o,w,h4,h6,h7,Qz,m0,m2,AQ,Lg,ia,Qh,r,sa,Ae aRn 316,a];subst f
  all_goals exact Y0
def clQ:HF where
 rd:=λ_ _=>[]
 ex:=λds _ fr=>match ds with
  |[.slice nl _ xs]=>if xs.length<=100000∧(nl=true->xs=[])∧aD xs 3=3 then(if nl=true then some (.slice true [] [],[])else some (.slice false (5::fr) xs,[(5::fr,0,[.tok 81])]))else none
  |_=>none
theorem fF{nl:Bool}{t:Id}{xs:List D}{m:G6}{fr:Id}(u:xs.length<=100000)(f:nl=true->xs=[])(i:aD xs 3=3)(S:GZ){R:D->G6->Prop}(c:if nl=true then R (.slice true [] []) m else R (.slice false (5::fr) xs) (((m.put (3::fr) 0 [.tok 81]).put (3::fr) 0 [.tok 0]).put (5::fr) 0 [.tok 81])):eZ.wp S fr (Ee [.t 2] R) ⟨BL [.slice nl t xs],m,0⟩:=by
 unfold eZ;cases nl with
 |true=>
  simp only[↓C2,G8,GY,reduceIte,Qc,Qe,reduceCtorEq];simpa using c
 |false=>
  simp only[↓C2,G8,Hj,GY,reduceIte,Qc,Qe,reduceCtorEq];refine As.intro ⟨O,i,.inr ⟨BC ..▸by simp,U⟩⟩ ?_;simp only[↓C2,G8,Hj,GY,reduceIte,Qc,Qe];simp only[Qt,if_false]at c;exact c
def aPw:clQ.ok Qf 316:=by
 refine Ll (S:=λ_=>none) A6 aCG (λds m m' fr _=>rfl) (λds m fr r u z v=>?_);simp only[clQ]at z;split at z
 ·rename_i nl t xs;split at z
  ·rename_i w;obtain⟨q,f,j⟩:=w;refine⟨U,fF q f j _ ?_⟩;cases nl with
   |true=>
    simp only[if_true,Qm,QC]at z ⊢;obtain⟨rfl,rfl⟩:=z;exact⟨rfl,λ_ _ _ h=>h⟩
   |false=>
    simp only[Qt,if_false,Qm,QC]at z ⊢;obtain⟨rfl,rfl⟩:=z;refine⟨rfl,λi o x h=>?_⟩;have p:(m.put (5::fr) 0 [.tok 81]) i o=some x:=h;rw[BC]at p ⊢;split at p
    ·simp_all
    ·grind [BC]
  ·cases z
 ·cases z
def aQ1{nl:Bool}{t:Id}{l:List Rw}{m:G6}{fr:Id}(u:l.length<=1000)(f:nl=true->l=[]):clQ.ex [.slice nl t (A5 l)] m fr=if nl=true then some (.slice true [] [],[])else some (.slice false (5::fr) (A5 l),[(5::fr,0,[.tok 81])]):=
 if_pos ⟨XF,λh=>by rw[f h];rfl,Lg l⟩
def Gz{s:Sc}{q:Int}(h:CV s q=false):(1<=q∧q<=6)∧(0<=s.mx∧s.mx<=6)∧(0<=s.la∧s.la<=30)∧(s.rs.length:Int)<=Bc s q∧CQ s.rs 0=true∧Ly s.rs=s.la:=by
 simpa[CV]using h
def bQ{s:Sc}{q:Int}{b:Bool}{cas r:Int}(h:Il s q b cas r=0):CV s q=false:=by
 grind [Il,CV]
def dP{s:Sc}{q:Int}(u:1<=q∧q<=6)(f:0<=s.mx∧s.mx<=6):0<=Bc s q∧Bc s q<=1000:=by
 grind [Bc]
def Bd(s:Sc):Sc:={s with la:=s.la+1,nl:=false,rs:=s.rs++[(s.la+1,false,false)]}
def B3(s:Sc)(q:Int)(b:Bool)(cas r:Int):Sc×Int×List Int×Int:=if Il s q b cas r≠0 then(s,0,[],Il s q b cas r)else(EG (Bd s) q,s.la+1,Lz (Bd s) q,0)
def eN{s:Sc}{q:Int}:(Lz s q=[])=(Ce s q=0):=by
 simp_all [Lz,Ce]
def gJ:=Ao [(315,Ac aRO),(278,Ac aJx),(316,clQ)]
def aR0:=RF gJ aMU [.cell (some 4) 8,.t 9,.t 10,.t 11] 47
def aVr:Kq aR0 275:=Am (Ai func275) (Aa aU8 (Aa aLj (Aa aPw Ad)))
def sA(s:Sc)(q:Int)(b:Bool)(cas r:Int)(hl:s.rs.length<=900)(w:s.nl=true->s.rs=[]):aR0 [.agg (Hb s),.agg [.int .i64 q,.bool b],.int .i64 cas,.int .i64 r]=some (.tup [.agg (Hb (B3 s q b cas r).1),.int .i64 (B3 s q b cas r).2.1,.slice (decide ((B3 s q b cas r).2.2.1=[])) [] (AJ (B3 s q b cas r).2.2.1),.int .i64 (B3 s q b cas r).2.2.2]):=by
 refine Al (Qa rfl) ?_;unfold aMU;have c:=aJa s q b cas r O;have a:=λ(m:G6)(fr:Id)=>aQ1 (nl:=s.nl) (t:=[]) (l:=s.rs) (m:=m) (fr:=fr) O w
 unfold B3;by_cases v:Il s q b cas r=0
 ·obtain⟨p,b2,g,_⟩:=Gz (bQ v);have o:Bc (Bd s) q=Bc s q:=rfl;have d:=rZ (Bd s) q b (by simp[Bd];omega) (by rw[o];exact dP p b2) (by simp[Bd]);have n:IntKind.i64.wrap (s.la+1)=s.la+1:=Hu O O;have j:(EG (Bd s) q).la=s.la+1:=rfl;have f:=eN (s:=Bd s) (q:=q);rw[v]at c;rw[v];simp only[ne_eq,not_true_eq_false,if_false,f];generalize decide (Ce (Bd s) q=0)=i at d ⊢;generalize Lz (Bd s) q=x at *;generalize EG (Bd s) q=s2 at *;have k:A5 (s.rs++[(s.la+1,false,false)])=A5 s.rs++[.agg [.int .i64 (s.la+1),.bool false,.bool false]]:=by simp[A5,rwD]
  unfold Bd Hb at d;simp only[k]at d;unfold Hb at c ⊢;rw[j]at d;clear o;have u:(A5 s.rs).length=s.rs.length:=AQ _;cases hn:s.nl with
  |true=>
   rw[hn]at c a;rw[w hn]at c d a u ⊢;simp only[if_true]at a;have y:A5 []=[]:=rfl;rw[y]at c d a u ⊢;rw[Zl]at d;simp only[↓C2,G_,GY,reduceIte,Qc,Qe,Qs,Qu,QE,reduceCtorEq,Ae gJ 315,c,AE gJ 316,a,n];refine As.intro ⟨U,rfl,.inl rfl⟩ ?_;simp only[↓C2,G_,GY,reduceIte,Qc,Qe,Qs,Qu,QE,reduceCtorEq];refine AV ?_;simp only[↓C2,G_,GY,reduceIte,Qc,Qe,Qs,Qu,QE,reduceCtorEq,Ae gJ 278,d];refine AV ?_;simp only[↓C2,G_,GY,reduceIte,Qc,Qe,Qs,Qu,QE,j]
   all_goals exact Y0
  |false=>
   rw[hn]at c a;simp only[if_false,Qt]at a;simp only[↓C2,G_,GY,reduceIte,Qc,Qe,Qs,Qu,QE,reduceCtorEq,Ae gJ 315,c,AE gJ 316,a,n];refine As.intro ⟨by simp only[u];omega,rfl,.inr ⟨XK,U⟩⟩ ?_;simp only[↓C2,G_,GY,reduceIte,Qc,Qe,Qs,Qu,QE,reduceCtorEq];refine AV ?_;simp only[↓C2,G_,GY,reduceIte,Qc,Qe,Qs,Qu,QE,reduceCtorEq,Ae gJ 278,d];refine AV ?_;simp only[↓C2,G_,GY,reduceIte,Qc,Qe,Qs,Qu,QE,reduceCtorEq,j]
   all_goals exact Y0
 ·have z:(Il s q b cas r=0)=False:=eq_false v;unfold Hb at c ⊢;simp only[ne_eq,z,not_false_eq_true,if_true];generalize Il s q b cas r=e at *;simp only[↓C2,G_,GY,reduceIte,Qc,Qe,Qs,reduceCtorEq,Ae gJ 315,c,z]
  all_goals exact Y0
def D4(s:Sc)(q:Int)(r:Int)(cas:Bool):Sc×List Int×Int:=if CV s q=true∨¬(0<=r∧r<=6)then(s,[],2)else(EG {s with mx:=r,cas:=cas} q,Lz {s with mx:=r,cas:=cas} q,0)
def nD:=Ao [(58,Ac iC),(25,Ac LB),(278,Ac aJx)]
def aJT:=RF nD aNH [.cell (some 4) 8,.t 9,.t 10] 35
def aVK:Kq aJT 222:=Am (Ai func222) (Aa aBm (Aa Ro (Aa aLj Ad)))
def aJS(s:Sc)(q:Int)(b:Bool)(r:Int)(cas:Bool)(hl:s.rs.length<=1000)(w:s.nl=true->s.rs=[]):aJT [.agg (Hb s),.agg [.int .i64 q,.bool b],.int .i64 r,.bool cas]=some (.tup [.agg (Hb (D4 s q r cas).1),.slice (decide ((D4 s q r cas).2.1=[])) [] (AJ (D4 s q r cas).2.1),.int .i64 (D4 s q r cas).2.2]):=by
 refine Al (Qa rfl) ?_;unfold aNH;have z:=GV s q b hl;have c:∀x a b:Int,iC [.int .i64 x,.int .i64 a,.int .i64 b]=some (.bool (decide (a<=x∧x<=b))):=λ_ _ _=>rfl
 unfold D4;unfold UE at z;cases hb:CV s q with
 |true=>
  rw[hb]at z;simp only[if_true]at z;unfold Hb at z ⊢;simp only[↓C2,G_,GY,reduceIte,Qc,Qe,Qs,reduceCtorEq,Int.reduceEq,Ae nD 25,z,true_or,if_true]
  all_goals exact Y0
 |false=>
  rw[hb]at z;simp only[if_false,Qt]at z;by_cases c1:0<=r∧r<=6
  ·obtain⟨u,m,j,_⟩:=Gz hb;have d:=rZ {s with mx:=r,cas:=cas} q b hl (dP u c1) w;have f:=eN (s:={s with mx:=r,cas:=cas}) (q:=q);simp only[c1,and_self,not_true_eq_false,or_self,if_false,Qt,f];generalize decide (Ce {s with mx:=r,cas:=cas} q=0)=i at d ⊢;generalize Lz {s with mx:=r,cas:=cas} q=l2 at *;generalize EG {s with mx:=r,cas:=cas} q=n at *;unfold Hb at z d ⊢;simp only[↓C2,G_,GY,reduceIte,Qc,Qe,Qs,Qu,QE,reduceCtorEq,Ae nD 25,z,Ae nD 58,c,Ae nD 278,d,c1]
   all_goals exact Y0
  ·unfold Hb at z ⊢;simp only[↓C2,G_,GY,reduceIte,Qc,Qe,Qs,reduceCtorEq,Ae nD 25,z,Ae nD 58,c,c1,or_true,if_true]
   all_goals exact Y0
def aCB{α:Type}{mk:α->List D}{ok:α->Prop}{res:α->D}{P:Program}{S:GZ}{f:FuncId}{N:Nat}{t:DC}{rs:List RV}(g:GZ.ok P S)(e:Fn P f N t rs)(b:∀a,(mk a).length<=N)
  (z:∀a,ok a->(res a).calmR=true∧t.wp S [] (Ee rs λd m'=>aWO m' d (res a)) ⟨BL (mk a),λ_ _=>none,0⟩):(Ac (FX mk ok res)).ok P f:=by
 refine qC g e (λds r h=>?_) (λds r h=>?_)
 ·obtain⟨a,_,rfl,_⟩:=Ds h;exact b a
 ·obtain⟨a,x,rfl,rfl⟩:=Ds h;exact z a x
def wC{l:List Int}{n:Int}{j:Nat}(d:j<l.length)(q:n=l[j])(ia:∀i (h:i<j),n≠l[i]'(by omega)):Bm (l.map λx=>decide (n=x))=j:=by
 unfold Bm;have:(l.map λx=>decide (n=x)).findIdx? id=some j:=by
  rw[Q5];refine⟨Xv,by simp[q],λi hi=>?_⟩;have:=ia i hi;simpa using this
 rw[this]
def wA{l:List Int}{n:Int}(ia:∀i (h:i<l.length),n≠l[i]):Bm (l.map λx=>decide (n=x))=-1:=by
 unfold Bm;have:(l.map λx=>decide (n=x)).findIdx? id=none:=by
  rw[List.findIdx?_eq_none_iff];intro b m;obtain⟨x,q,rfl⟩:=QL.1 m;obtain⟨i,hi,rfl⟩:=Zp q;simpa using ia i hi
 rw[this]
def TJ{l:List Int}{j:Nat}(h:j<l.length):(AJ l)[j]?=some (.int .i64 l[j]):=by simp[AJ,Qi h]
def vS(l:List Int)(n:Int):Bool:=l.any λx=>decide (n=x)
def lE(l:List Int)(n:Int):decide (0<=Bm (l.map λx=>decide (n=x)))=vS l n:=by
 rw[GQ,Zt];rfl
def aYL:=Ao []
def aRF:=RF aYL aLY [.t 4] 19
def aUW:Kq aRF 343:=Am (Ai func343) Ad
def aIY{nl:Bool}{l:List Int}(n:Int)(hl:l.length<=1000):aRF [.slice nl [] (AJ l),.int .i64 n]=some (.int .i64 (Bm (l.map λx=>decide (n=x)))):=by
 refine Al (Qa rfl) ?_;unfold aLY;simp only[↓C2,G8,simprocAttr,HA];refine Bv (n:=l.length) (I:=λj y=>y.s 0= .slice nl [] (AJ l)∧y.s 1= .int .i64 n∧y.s 7= .int .i64 l.length∧y.s 8= .int .i64 (j:Int)∧∀i (h:i<j) (f:i<l.length),n≠l[i]) (λj d ih y g p=>?_) (λy g p=>?_) 0 (Qy _) _ _ ⟨rfl,rfl,rfl,rfl,λi h=>absurd h (ZB _)⟩
 ·obtain⟨w,b,c⟩:=y;obtain⟨z,u,a,r,ia⟩:=p;simp only at z u a r;refine Af VD.eq_1 ?_;have k:((j:Int)<l.length):=by omega
  have m:=nJ (j:=j);have t:=wJ (j:=j) O;have v:=TJ d;by_cases q:n=l[j]
  ·have e:=wC d q (λi h=>ia i h O);have o:(n=l[j])=True:=eq_true q;simp only[↓C2,G_,GY,simprocAttr,z,u,a,r,k,m,Qh,v,o];rw[e]
   all_goals exact Y0
  ·have o:(n=l[j])=False:=eq_false q;simp only[↓C2,G_,GY,simprocAttr,z,u,a,r,k,m,Qh,v,o,t];refine ih _ _ ⟨z,u,a,rfl,λi h f=>?_⟩;rcases Nat.lt_or_eq_of_le (Nat.le_of_lt_succ h)with h|rfl
   ·exact ia i h f
   ·exact q
 ·obtain⟨z,u,a,r,ia⟩:=p;refine Af VD.eq_1 ?_;have e:=wA (λi h=>ia i h h);simp only[↓C2,G_,GY,simprocAttr,a,r,Qz];rw[e]
  all_goals exact Y0
def aWQ:=Ao [(343,Ac aRF)]
def SL:=RF aWQ aMc [.t 4] 9
def aU5:Kq SL 318:=Am (Ai func318) (Aa aUW Ad)
def aI7{nl:Bool}{l:List Int}(n:Int)(hl:l.length<=1000):SL [.slice nl [] (AJ l),.int .i64 n]=some (.bool (vS l n)):=by
 refine Al (Qa rfl) ?_;unfold aMc;have a:=aIY (nl:=nl) n hl;have e:=lE l n;generalize Bm (l.map λx=>decide (n=x))=i at *;simp only[↓C2,G_,GY,simprocAttr,Ae aWQ 343,a];rw[←e]
 all_goals exact Y0
def aY2:=Ao []
def SO:=RF aY2 aMN [.cell (some 3) 2] 6
def aVq:Kq SO 280:=Am (Ai func280) Ad
def aJw(r:Rw):SO [.agg [.int .i64 r.1,.bool r.2.1,.bool r.2.2]]=some (.agg [.int .i64 r.1,.bool true,.bool false]):=by
 refine Al (Qa rfl) ?_;unfold aMN;simp only[↓C2,G_,GY,simprocAttr]
 all_goals exact Y0
def aY1:=Ao []
def SN:=RF aY1 aMM [.cell (some 3) 2] 6
def aVp:Kq SN 281:=Am (Ai func281) Ad
def aJv(r:Rw):SN [.agg [.int .i64 r.1,.bool r.2.1,.bool r.2.2]]=some (.agg [.int .i64 r.1,.bool false,.bool false]):=by
 refine Al (Qa rfl) ?_;unfold aMM;simp only[↓C2,G_,GY,simprocAttr]
 all_goals exact Y0
def aY0:=Ao []
def SM:=RF aY0 aML [.cell (some 3) 2] 6
def aVo:Kq SM 282:=Am (Ai func282) Ad
def aJu(r:Rw):SM [.agg [.int .i64 r.1,.bool r.2.1,.bool r.2.2]]=some (.agg [.int .i64 r.1,.bool false,.bool true]):=by
 refine Al (Qa rfl) ?_;unfold aML;simp only[↓C2,G_,GY,simprocAttr]
 all_goals exact Y0
def Wu(k:Nat)(r:Rw):Rw:=if k=280 then(r.1,true,false)else if k=281 then(r.1,false,false)else(r.1,false,true)
def D_(ns:List Int)(n j:Nat)(x:Rw):Bool:=(vS ns x.1||(ns.isEmpty&&decide (j+1=n)))&&!x.2.2
def FY(ns:List Int)(k n:Nat):Nat->List Rw->List Rw
 |_,[]=>[]
 |j,x::r=>(if D_ ns n j x=true then Wu k x else x)::FY ns k n (j+1) r
def DH(ns:List Int)(n:Nat):Nat->List Rw->List Int
 |_,[]=>[]
 |j,x::r=>if D_ ns n j x=true then x.1::DH ns n (j+1) r else DH ns n (j+1) r
theorem Nw(ns:List Int)(k n:Nat):∀(l:List Rw)(j:Nat),(FY ns k n j l).length=l.length
 |[],_=>rfl
 |x::r,j=>by simp[FY,Nw ns k n r]
def Bg(s:Sc)(ns:List Int)(k:Nat):Sc×List Int×Int:=if CV s 6=true then(s,[],2)else if s.rs=[]then(s,[],6)else({s with rs:=FY ns k s.rs.length 0 s.rs},DH ns s.rs.length 0 s.rs,0)
def kB(p:Sc×Bool×List Int×Nat):List D:=[.agg (Hb p.1),.slice p.2.1 [] (AJ p.2.2.1),.fn p.2.2.2 []]
def aAE{a b:List Rw}(h:A5 a=A5 b):a=b:=(Zd (λx y e=>by
 simp only[rwD,D.agg.injEq,Qd,D.int.injEq,D.bool.injEq,true_and,and_true]at e;exact QT e.1 (QT e.2.1 e.2.2))).1 h
theorem aG2{a b:Sc}(h:Hb a=Hb b):a=b:=by
 cases a;cases b;simp only[Hb,Qd,D.int.injEq,D.bool.injEq,D.slice.injEq,true_and,and_true]at h;obtain⟨u,f,i,p,m⟩:=h;have:=aAE m;subst u f i p this;rfl
theorem kX{a b:List Int}(h:AJ a=AJ b):a=b:=(Zd (λx y e=>by simpa using e)).1 h
def aBA(x y:Sc×Bool×List Int×Nat)(e:kB x=kB y):x=y:=by
 grind [kB,aG2,kX]
def Ti(p:Sc×Bool×List Int×Nat):D:= .tup [.agg (Hb (Bg p.1 p.2.2.1 p.2.2.2).1),.slice (decide ((Bg p.1 p.2.2.1 p.2.2.2).2.1=[])) [] (AJ (Bg p.1 p.2.2.1 p.2.2.2).2.1),.int .i64 (Bg p.1 p.2.2.1 p.2.2.2).2.2]
structure aWN (p:Sc×Bool×List Int×Nat):Prop where
 hl:p.1.rs.length<=1000
 hn:p.1.nl=true->p.1.rs=[]
 hs:p.2.2.1.length<=1000
 hk:p.2.2.2=280∨p.2.2.2=281∨p.2.2.2=282
def aF7:List D->Option D:=FX kB aWN Ti
def OW:List D->Option (List D):=λds=>match ds with|[.slice false _ xs]=>if xs.length<=100000∧aD xs 3=3∧(flat xs).all D.plain=true then some xs else none|_=>none
def aPt:(ID OW).ok Qf 316:=by
 unfold OW;refine aBc (S:=λ_=>none) A6 aCG (λds r h=>?_) (λds xs h=>?_)
 ·grind
 ·grind [fF,G6.put]
def Tb(l:List Rw):(flat (A5 l)).all D.plain=true:=by
 rw[QS];induction l with
 |nil=>intro x q;cases q
 |cons y r ih=>
  intro x q;have o:x∈[D.int .i64 y.1,.bool y.2.1,.bool y.2.2]++flat (A5 r):=q;rcases Zm.1 o with h|h
  ·simp only[QN,QU,or_false]at h;rcases h with rfl|rfl|rfl<;>rfl
  ·exact ih x h
def aPs{l:List Rw}{t:Id}{m:G6}{fr:Id}(h:l.length<=1000):(ID OW).ex [.slice false t (A5 l)] m fr=some (.row fr l.length,[(fr,0,flat (A5 l))]):=by
 have e:OW [.slice false [] ((A5 l).map D.un)]=some (A5 l):=by
  have:(A5 l).map D.un=A5 l:=by rw[A5,QQ];exact Q2 λ_ _=>rfl
  rw[this];exact if_pos ⟨XF,Lg l,Tb l⟩
 have v:OW ([D.slice false t (A5 l)].map D.un)=some (A5 l):=if_pos ⟨XF,Lg l,Tb l⟩;simp only[ID];refine(if_pos rfl).trans ?_;rw[v,Qv,AQ]
def FV(m:G6)(i:Id)(l:List Rw):Prop:=∀k x,l[k]?=some x->Ag m i (k*3) 3=some [.int .i64 x.1,.bool x.2.1,.bool x.2.2]
def Sw{m:G6}{i:Id}{o:Nat}{a b c:D}:Ag m i o 3=some [a,b,c]↔(m i o=some a∧m i (o+1)=some b∧m i (o+2)=some c):=by
 simp only[Ag];cases m i o<;>cases m i (o+1)<;>cases m i (o+1+1)<;>simp
def bF{m:G6}{i:Id}:∀{l:List Rw} {p:Nat},(∀k x,l[k]?=some x->Ag m i (p+k*3) 3=some [.int .i64 x.1,.bool x.2.1,.bool x.2.2])->∀(j:Nat) d,(flat (A5 l))[j]?=some d->m i (p+j)=some d
 |[],p,_,j,d,h=>by simp[A5,Vd.flat]at h
 |x::r,p,hr,j,d,h=>by
  have z:([D.int .i64 x.1,.bool x.2.1,.bool x.2.2]++Vd.flat (A5 r))[j]?=some d:=h;obtain⟨a,a1,s⟩:=Sw.1 (hr 0 x rfl);simp only[Nat.zero_mul,Za]at a a1 s
  match j,z with
  |0,z=>simp only[Q_,Qq,Qm]at z;subst z;exact a
  |1,z=>simp only[Q_,Qb,Qq,Qm]at z;subst z;exact a1
  |2,z=>simp only[Q_,Qb,Qq,Qm]at z;subst z;exact s
  |j+3,z=>
   have:=bF (p:=p+3) (l:=r) (λk y o=>by
    have:=hr (k+1) y XX;rw[show p+(k+1)*3=p+3+k*3 by omega]at this;exact this) j d (by simpa using z)
   rw[show p+3+j=p+(j+3)by omega]at this;exact this
def FV.of{m:G6}{i:Id}:∀{l:List Rw} {p:Nat},(∀(j:Nat) d,(flat (A5 l))[j]?=some d->m i (p+j)=some d)->∀k x,l[k]?=some x->Ag m i (p+k*3) 3=some [.int .i64 x.1,.bool x.2.1,.bool x.2.2]
 |[],p,_,k,x,h=>Xd
 |y::r,p,hr,k,x,h=>by
  match k,h with
  |0,h=>
   simp only[Qq,Qm]at h;subst h;exact Sw.2 ⟨by simpa using hr 0 _ rfl,by simpa using hr 1 _ rfl,by simpa using hr 2 _ rfl⟩
  |k+1,h=>
   have:=FV.of (p:=p+3) (l:=r) (λj d e=>by
    have:=hr (j+3) d e;rw[show p+(j+3)=p+3+j by omega]at this;exact this) k x Xl
   rw[show p+3+k*3=p+(k+1)*3 by omega]at this;exact this
def FV.set{m:G6}{i:Id}{A B:List Rw}{x y:Rw}(h:FV m i (A++x::B)):FV (m.put i (A.length*3) [.int .i64 y.1,.bool y.2.1,.bool y.2.2]) i (A++y::B):=by
 intro k z f;by_cases n:k=A.length
 ·subst n;rw[Ze (QB _),Zu,Qq,Qm]at f;subst f;refine Sw.2 ⟨?_,?_,?_⟩<;>simp[G6.put]
 ·have ta:(A++x::B)[k]?=some z:=by
   rcases Nat.lt_or_gt_of_ne n with h1|h1
   ·grind
   ·grind
  obtain⟨a,a1,s⟩:=Sw.1 (h k z ta);have g:∀o,(o=k*3∨o=k*3+1∨o=k*3+2)->(m.put i (A.length*3) [.int .i64 y.1,.bool y.2.1,.bool y.2.2]) i o=m i o:=λo g=>by
   refine aC ?_;simp only[Qk,Qo];omega
  exact Sw.2 ⟨by rw[g _ (.inl rfl)];exact a,by rw[g _ (.inr (.inl rfl))];exact a1,by rw[g _ (.inr (.inr rfl))];exact s⟩
def FV.other{m:G6}{i j:Id}{o:Nat}{ds:List D}{l:List Rw}(h:FV m i l)(q:i≠j):FV (m.put j o ds) i l:=λk x n=>by
 obtain⟨a,a1,s⟩:=Sw.1 (h k x n);exact Sw.2 ⟨by rw[aA q];exact a,by rw[aA q];exact a1,by rw[aA q];exact s⟩
def FV.grow{m:G6}{i f t:Id}{e:Nat}{nl:Bool}{xs:List D}{l:List Rw}(h:FV m i l)(u:i≠f)(y:nl=false->i≠t):FV (Ha.app m (Be e f (.slice nl t xs))) i l:=by
 cases nl with
 |true=>exact h.other u
 |false=>exact(h.other (y rfl)).other u
def LG.row{b e c r o:Nat}{m0 m:G6}{nl:Bool}{t:Id}{ds:List D}(h:LG b m0 e m c nl t)(i:b<=r)(n:nl=false->t≠[r]):LG b m0 e (m.put [r] o ds) c nl t:=by
 obtain⟨u,f,x⟩:=h;refine⟨λq o' y=>?_,?_,x⟩
 ·grind [aA]
 ·grind [aA]
def jK{m:G6}{i:Id}{o:Nat}{a b c:D}(h:Ag m i o 3=some [a,b,c]):m i o=some a∧m i (o+1)=some b∧m i (o+1+1)=some c:=Sw.1 h
def aPf{i:Id}{n:Nat}:D.data (.row i n)=true:=rfl
def aPg{i:Id}{n:Nat}:D.cells (.row i n)=[.row i n]:=rfl
def aBk:Kq aF7 279:=by
 have hS:GZ.ok Qf (Ao [(25,Ac LB),(273,Ac Sb),(316,ID OW),(318,Ac SL),(280,Ac SO),(281,Ac SN),(282,Ac SM)]):=Aa Ro (Aa aLl (Aa aPt (Aa aU5 (Aa aVq (Aa aVp (Aa aVo Ad))))));have o:Ao [(25,Ac LB),(273,Ac Sb),(316,ID OW),(318,Ac SL),(280,Ac SO),(281,Ac SN),(282,Ac SM)] 25=some (Ac LB):=rfl;have u:Ao [(25,Ac LB),(273,Ac Sb),(316,ID OW),(318,Ac SL),(280,Ac SO),(281,Ac SN),(282,Ac SM)] 273=some (Ac Sb):=rfl;have va:Ao [(25,Ac LB),(273,Ac Sb),(316,ID OW),(318,Ac SL),(280,Ac SO),(281,Ac SN),(282,Ac SM)] 316=some (ID OW):=rfl;have b:Ao [(25,Ac LB),(273,Ac Sb),(316,ID OW),(318,Ac SL),(280,Ac SO),(281,Ac SN),(282,Ac SM)] 318=some (Ac SL):=rfl;have sk:∀k,k=280∨k=281∨k=282->∃F,Ao [(25,Ac LB),(273,Ac Sb),(316,ID OW),(318,Ac SL),(280,Ac SO),(281,Ac SN),(282,Ac SM)] k=some (Ac F)∧∀x:Rw,F [.agg [.int .i64 x.1,.bool x.2.1,.bool x.2.2]]=some (.agg [.int .i64 (Wu k x).1,.bool (Wu k x).2.1,.bool (Wu k x).2.2]):=λk hk=>by
  rcases hk with rfl|rfl|rfl
  ·exact⟨SO,rfl,aJw⟩
  ·exact⟨SN,rfl,aJv⟩
  ·exact⟨SM,rfl,aJu⟩
 generalize Ao [(25,Ac LB),(273,Ac Sb),(316,ID OW),(318,Ac SL),(280,Ac SO),(281,Ac SN),(282,Ac SM)]=S at hS o u va b sk;refine aCB hS (Ai func279:Fn Qf 279 72 aMO [.cell (some 4) 6,.t 7,.t 8]) (λ_=>by simp[kB]) (λp hp=>⟨by rfl,?_⟩);obtain⟨s,bn,ns,k⟩:=p;obtain⟨hl,hn,hs,hk⟩:=hp;simp only at hl hn hs hk;obtain⟨F,sF,hF⟩:=sk k hk;have aa:=GV s 6 false hl;have q:=sB;unfold aMO kB Ti Bg;simp only;unfold UE at aa;cases hb:CV s 6 with
 |true=>
  rw[hb]at aa;simp only[if_true]at aa ⊢;unfold Hb at aa ⊢;simp only[↓C2,G_,GY,simprocAttr,Ab o,aa,Ab u,q];refine AV ?_;simp only[↓C2,G_,GY,simprocAttr];exact .inr ⟨_,_,rfl,rfl,.inl (.inl rfl),.inl (.inl rfl),.inl (.inl rfl),trivial⟩
 |false=>
  rw[hb]at aa;simp only[if_false,Qt]at aa ⊢;by_cases hz:s.rs=[]
  ·have ta:((s.rs.length:Int)=0)=True:=eq_true (by rw[hz];rfl);simp only[if_pos hz];unfold Hb at aa ⊢;simp only[↓C2,G_,GY,simprocAttr,Ab o,aa,Ab u,q];refine AV ?_;simp only[↓C2,G_,GY,simprocAttr,AQ,ta];exact .inr ⟨_,_,rfl,rfl,.inl (.inl rfl),.inl (.inl rfl),.inl (.inl rfl),trivial⟩
  ·have pa:0<s.rs.length:=by
    rcases Nat.eq_zero_or_pos s.rs.length with h|h
    ·simp_all
    ·exact h
   have ta:((s.rs.length:Int)=0)=False:=eq_false O;have ga:s.nl=false:=by
    simp_all
   have ja:=λ(m:G6)(fr:Id)=>aPs (l:=s.rs) (t:=[]) (m:=m) (fr:=fr) hl
   simp only[if_neg hz];unfold Hb at aa ⊢;simp only[ga]at aa ⊢;simp only[↓C2,G_,GY,simprocAttr,Ab o,aa,Ab u,q];refine AV ?_;simp only[↓C2,G_,GY,simprocAttr,AQ,ta,AG va,ja];have ma:FV (G6.put (λ_ _=>none) [14] 0 (flat (A5 s.rs))) [14] s.rs:=λk x hk=>by
    have:=FV.of (m:=G6.put (λ_ _=>none) [14] 0 (flat (A5 s.rs))) (i:=[14]) (p:=0) (l:=s.rs) (λj d hj=>by
     have ra:=(QP.1 hj).1;rw[aE ra,hj]) k x hk
    rwa [Qp]at this
   refine Bv (n:=s.rs.length) (I:=λj st=>st.s 27= .row [14] s.rs.length∧st.s 28= .int .i64 s.rs.length∧st.s 29= .int .i64 (j:Int)∧st.s 9= .row [14] s.rs.length∧st.s 1= .slice bn [] (AJ ns)∧st.s 2= .fn k []∧st.s 3= .ptr [0] 0∧st.s 6= .ptr [1] 0∧∃A B nl t,A.length=j∧A++FY ns k s.rs.length j (s.rs.drop j)=FY ns k s.rs.length 0 s.rs∧B++DH ns s.rs.length j (s.rs.drop j)=DH ns s.rs.length 0 s.rs∧st.s 10= .slice nl t (AJ B)∧nl=decide (B=[])∧FV st.m [14] (A++s.rs.drop j)∧15<=st.c∧(nl=false->t≠[14])∧LG 14 _ 3 st.m st.c nl t) (λj hj ih st g hI=>?_) (λst g hI=>?_) 0 (Qy _) _ _ ⟨rfl,rfl,rfl,rfl,rfl,rfl,rfl,rfl,[],[],true,[],rfl,rfl,rfl,rfl,rfl,?_,Xa,U,LG.start Xa⟩
   rotate_left 2
   ·intro k x hk;obtain⟨a0,a1,a2⟩:=Sw.1 (ma k x hk);have ab:k*3+2<(flat (A5 s.rs)).length:=by
     grind [flat,A5,aC]
    refine Sw.2 ⟨?_,?_,?_⟩
    ·rw[←a0];simp[G6.put]
    ·rw[←a1];simp[G6.put]
    ·rw[←a2];simp[G6.put]
   ·obtain⟨ka,fa,da⟩:=st;obtain⟨ha,ba,f,h9,h1,h2,h3,h6,A,B,nl,t,v,hA,hB,la,qa,hR,hc,ht,hG⟩:=hI;simp only at ha ba f h9 h1 h2 h3 h6 la hR hc hG;refine Af VJ.eq_1 ?_;have ea:((j:Int)<s.rs.length):=by omega
    have oa:=nJ (j:=j);have z:((j:Int)<((s.rs.length:Nat):Int)):=O
    have hw:=wJ (j:=j) O;have ya:IntKind.i64.wrap ((s.rs.length:Int)-1)=(s.rs.length:Int)-1:=Hu O O;have hd:s.rs.drop j=s.rs[j]::s.rs.drop (j+1):=QJ hj;rw[hd]at hA hB hR;generalize s.rs[j]=x at hA hB hR;have ca:Ag fa [14] (j*3) 3=some [.int .i64 x.1,.bool x.2.1,.bool x.2.2]:=hR j x (by rw[Ze O,v,Zu];rfl);have a:=aI7 (nl:=bn) (l:=ns) x.1 hs;have sa:(AJ B).length<=100000:=by
     have h1:=congrArg ZI hB;have h2:∀(l:List Rw)(j:Nat),(DH ns s.rs.length j l).length<=l.length:=λl=>by
      induction l with
      |nil=>intro j;simp[DH]
      |cons y r ih=>intro j;unfold DH;split<;>have:=ih (j+1)<;>simp only[Qk]<;>omega
     have h3:=h2 s.rs 0;rw[Qr]at h1;rw[HA];omega
    have bb:B.length<=100000:=by rw[←HA];exact sa
    have na:nl=true->AJ B=[]:=by rw[qa];intro h;rw[of_decide_eq_true h];rfl
    have e1:FY ns k s.rs.length j (x::s.rs.drop (j+1))=(if D_ ns s.rs.length j x=true then Wu k x else x)::FY ns k s.rs.length (j+1) (s.rs.drop (j+1)):=rfl;have e2:DH ns s.rs.length j (x::s.rs.drop (j+1))=if D_ ns s.rs.length j x=true then x.1::DH ns s.rs.length (j+1) (s.rs.drop (j+1))else DH ns s.rs.length (j+1) (s.rs.drop (j+1)):=rfl
    have ia:AJ (B++[x.1])=AJ B++[.int .i64 x.1]:=by simp[AJ]
    have za:=hF x;subst v;generalize w:vS ns x.1=cb at a;have h0:((ns.length:Int)=0)=(ns.isEmpty=true):=by cases ns<;>simp<;>omega
    have wa:(14=da+1+3)=False:=eq_false O;have ua:(da=10)=False:=eq_false O;have xa:((A.length:Int)=(s.rs.length:Int)-1)=(A.length+1=s.rs.length):=propext O;cases cb with
    |true=>
     cases hxd:x.2.2 with
     |true=>
      rw[hxd]at ca;obtain⟨a0,a1,a2⟩:=jK ca;have hh:D_ ns s.rs.length A.length x=false:=by simp[D_,w,hxd]
      rw[hh,if_neg QK]at e1 e2;simp only[↓C2,G_,GY,simprocAttr,ha,ba,f,h1,ea,oa,Qh,a0,a1,a2,Ab b,a,hw];refine ih _ _ ⟨ha,ba,rfl,h9,h1,h2,h3,h6,A++[x],B,nl,t,U,XD,X4,la,qa,?_,Xa,ht,Ya⟩;rw[QH];exact(hR.other Xe).other Xe
     |false=>
      rw[hxd]at ca;obtain⟨a0,a1,a2⟩:=jK ca;rw[hxd]at za;have hh:D_ ns s.rs.length A.length x=true:=by simp[D_,w,hxd]
      rw[if_pos hh]at e1 e2;simp only[↓C2,G_,GY,simprocAttr,ha,ba,f,h9,h1,h2,la,ea,oa,Qh,a0,a1,a2,wa,ua,Ab b,a,HA,Ab sF,za];refine As.intro ⟨O,rfl,YU⟩ ?_;rw[B0 na,←ia];simp only[↓C2,G8,simprocAttr,f,hw];refine ih _ _ ⟨ha,ba,rfl,h9,h1,h2,h3,h6,A++[Wu k x],B++[x.1],false,_,U,XD,by rw[←hB,e2];simp,rfl,U,?_,Xa,Xe,YV⟩;rw[QH]
      first|exact(FV.set ((hR.other Xe).other Xe)).grow Xe (λh e=>ht h e.symm)|exact((FV.set ((hR.other Xe).other Xe)).other Xe).grow Xe (λh e=>ht h e.symm)
    |false=>
     cases hle:ns.isEmpty with
     |false=>
      rw[hle]at h0;obtain⟨a0,a1,a2⟩:=jK ca;have hh:D_ ns s.rs.length A.length x=false:=by simp[D_,w,hle]
      rw[hh,if_neg QK]at e1 e2;simp only[↓C2,G_,GY,simprocAttr,ha,ba,f,h1,ea,oa,Qh,a0,a1,a2,Ab b,a,HA,h0,hw];refine ih _ _ ⟨ha,ba,rfl,h9,h1,h2,h3,h6,A++[x],B,nl,t,U,XD,X4,la,qa,?_,Xa,ht,Ya⟩;rw[QH];exact(hR.other Xe).other Xe
     |true=>
      rw[hle]at h0;by_cases ra:A.length+1=s.rs.length
      ·rw[eq_true ra]at xa;cases hxd:x.2.2 with
       |true=>
        rw[hxd]at ca;obtain⟨a0,a1,a2⟩:=jK ca;have hh:D_ ns s.rs.length A.length x=false:=by simp[D_,w,hle,ra,hxd]
        rw[hh,if_neg QK]at e1 e2;simp only[↓C2,G_,GY,simprocAttr,ha,ba,f,h9,h1,ea,oa,Qh,a0,a1,a2,Ab b,a,HA,h0,ya,xa,hw];refine ih _ _ ⟨ha,ba,rfl,h9,h1,h2,h3,h6,A++[x],B,nl,t,U,XD,X4,la,qa,?_,Xa,ht,Ya⟩;rw[QH];exact(hR.other Xe).other Xe
       |false=>
        rw[hxd]at ca;obtain⟨a0,a1,a2⟩:=jK ca;rw[hxd]at za;have hh:D_ ns s.rs.length A.length x=true:=by simp[D_,w,hle,ra,hxd]
        rw[if_pos hh]at e1 e2;simp only[↓C2,G_,GY,simprocAttr,ha,ba,f,h9,h1,h2,la,ea,oa,Qh,a0,a1,a2,wa,ua,Ab b,a,HA,Ab sF,za,h0,ya,xa];refine As.intro ⟨O,rfl,YU⟩ ?_;rw[B0 na,←ia];simp only[↓C2,G8,simprocAttr,f,hw];refine ih _ _ ⟨ha,ba,rfl,h9,h1,h2,h3,h6,A++[Wu k x],B++[x.1],false,_,U,XD,by rw[←hB,e2];simp,rfl,U,?_,Xa,Xe,YV⟩;rw[QH]
        first|exact(FV.set ((hR.other Xe).other Xe)).grow Xe (λh e=>ht h e.symm)|exact((FV.set ((hR.other Xe).other Xe)).other Xe).grow Xe (λh e=>ht h e.symm)
      ·rw[eq_false ra]at xa;obtain⟨a0,a1,a2⟩:=jK ca;have hh:D_ ns s.rs.length A.length x=false:=by simp[D_,w,hle,ra]
       rw[hh,if_neg QK]at e1 e2;simp only[↓C2,G_,GY,simprocAttr,ha,ba,f,h9,h1,ea,oa,Qh,a0,a1,a2,Ab b,a,HA,h0,ya,xa,hw];refine ih _ _ ⟨ha,ba,rfl,h9,h1,h2,h3,h6,A++[x],B,nl,t,U,XD,X4,la,qa,?_,Xa,ht,Ya⟩;rw[QH];exact(hR.other Xe).other Xe
   ·obtain⟨ka,fa,da⟩:=st;obtain⟨ha,ba,f,h9,h1,h2,h3,h6,A,B,nl,t,v,hA,hB,la,qa,hR,hc,ht,hG⟩:=hI;simp only at ha ba f h9 h1 h2 h3 h6 la hR hc hG;refine Af VJ.eq_1 ?_;have m0:∀k,fa [0] k=_:=λk=>hG.low 0 k O
    have m1:∀k,fa [1] k=_:=λk=>hG.low 1 k O
    rw[Q0,FY,QI]at hA;rw[Q0,DH,QI]at hB;rw[Q0,QI,hA]at hR;subst qa hB;simp only[↓C2,G_,GY,simprocAttr,ba,f,h9,la,h3,h6,Qz,m0,m1,aPf,aPg];refine .inr ⟨_,_,rfl,rfl,.inr ⟨_,_,rfl,rfl,.inl rfl,.inl rfl,.inl rfl,.inr (.inl ⟨[14],A5 (FY ns k s.rs.length 0 s.rs),3,?_,rfl,?_,?_⟩),trivial⟩,.inl (.inl rfl),.inl (.inl rfl),trivial⟩
    ·rw[AQ,Nw]
    ·intro x hx;obtain⟨y,_,rfl⟩:=QL.1 hx;exact⟨rfl,rfl⟩
    ·intro j x hx;have:=bF (m:=fa) (i:=[14]) (p:=0) (l:=FY ns k s.rs.length 0 s.rs) (λk x hk=>by rw[Qp];exact hR k x hk) j x hx;rw[Qp]at this;rw[←this];simp[G6.put]
def Wk(s:Sc)(u:Bool)(ns:List Int)(k:Nat)(h:aWN (s,u,ns,k)):aF7 [.agg (Hb s),.slice u [] (AJ ns),.fn k []]=some (Ti (s,u,ns,k)):=B5 (mk:=kB) (a:=(s,u,ns,k)) aBA h
def aW4:=Ao [(279,Ac aF7)]
def aJR:=RF aW4 aNF [.cell (some 4) 4,.t 5] 18
def aVG:Kq aJR 226:=Am (Ai func226) (Aa aBk Ad)
def aJQ(s:Sc)(u:Bool)(ns:List Int)(hl:s.rs.length<=1000)(g:s.nl=true->s.rs=[])(j:ns.length<=1000):aJR [.agg (Hb s),.slice u [] (AJ ns)]=some (.tup [.agg (Hb (Bg s ns 280).1),.int .i64 (Bg s ns 280).2.2]):=by
 refine Al (Qa rfl) ?_;unfold aNF;have a:=Wk s u ns 280 ⟨hl,g,j,U⟩;unfold Ti at a;simp only at a;generalize Bg s ns 280=r at *;unfold Hb at *;simp only[↓C2,G_,GY,simprocAttr,Ae aW4 279,a]
 all_goals exact Y0
def aW3:=Ao [(279,Ac aF7)]
def aJP:=RF aW3 aNE [.cell (some 4) 4,.t 5] 18
def aVF:Kq aJP 227:=Am (Ai func227) (Aa aBk Ad)
def aJO(s:Sc)(u:Bool)(ns:List Int)(hl:s.rs.length<=1000)(g:s.nl=true->s.rs=[])(j:ns.length<=1000):aJP [.agg (Hb s),.slice u [] (AJ ns)]=some (.tup [.agg (Hb (Bg s ns 281).1),.int .i64 (Bg s ns 281).2.2]):=by
 refine Al (Qa rfl) ?_;unfold aNE;have a:=Wk s u ns 281 ⟨hl,g,j,U⟩;unfold Ti at a;simp only at a;generalize Bg s ns 281=r at *;unfold Hb at *;simp only[↓C2,G_,GY,simprocAttr,Ae aW3 279,a]
 all_goals exact Y0
def aW2:=Ao [(279,Ac aF7)]
def aJN:=RF aW2 aND [.cell (some 4) 4,.t 5,.t 6] 13
def aVE:Kq aJN 228:=Am (Ai func228) (Aa aBk Ad)
def aJM(s:Sc)(u:Bool)(ns:List Int)(hl:s.rs.length<=1000)(g:s.nl=true->s.rs=[])(j:ns.length<=1000):aJN [.agg (Hb s),.slice u [] (AJ ns)]=some (.tup [.agg (Hb (Bg s ns 282).1),.slice (decide ((Bg s ns 282).2.1=[])) [] (AJ (Bg s ns 282).2.1),.int .i64 (Bg s ns 282).2.2]):=by
 refine Al (Qa rfl) ?_;unfold aND;have a:=Wk s u ns 282 ⟨hl,g,j,U⟩;unfold Ti at a;simp only at a;generalize Bg s ns 282=r at *;unfold Hb at *;simp only[↓C2,G_,GY,simprocAttr,Ae aW2 279,a]
 all_goals exact Y0
def DX(b:Bool):Int:=if b=true then 1 else 0
def fP(l:List Int):List D:=l.map (.int .u8)
def N2(l:List Int):Bs:=l.map λn=>UInt8.ofNat n.toNat
def aEa(l:List Int):(fP l).length=l.length:=Qx ..
def rJ:∀l:List Int,BI (fP l)=some (N2 l)
 |[]=>rfl
 |n::r=>by
  show(BI (fP r)).map _=_;rw[rJ r];rfl
def jH(x:Rw):List Int:=[IntKind.u8.wrap x.1,bits .or .u8 (DX x.2.1) (IntKind.u8.wrap (DX x.2.2*2))]
def Fx:List Rw->List Int
 |[]=>[]
 |x::r=>jH x++Fx r
theorem F5:∀l:List Rw,(Fx l).length=2*l.length
 |[]=>rfl
 |x::r=>by simp[Fx,jH,F5 r];omega
def A9(s:Sc):Bs:=if CV s 6=true then []else N2 ([IntKind.u8.wrap s.mx,DX s.cas,IntKind.u8.wrap s.la,IntKind.u8.wrap s.rs.length]++Fx s.rs)
def aKU(s:Sc):Int:=if CV s 6=true then 2 else 0
def aYM:=Ao []
def aRG:=RF aYM aLZ [.t 2] 4
def aUX:Kq aRG 342:=Am (Ai func342) Ad
def aIZ(b:Bool):aRG [.bool b]=some (.int .u8 (DX b)):=by
 refine Al (Qa rfl) ?_;unfold aLZ;cases b with
 |true=>
  simp only[↓C2,G8,H_,GY,simprocAttr]
  all_goals exact Y0
 |false=>
  simp only[↓C2,G8,H_,GY,simprocAttr]
  all_goals exact Y0
def nA:=Ao [(25,Ac LB),(57,Ac aJb),(342,Ac aRG)]
def aRM:=RF nA aMd [.t 2,.t 3] 49
def aU6:Kq aRM 317:=Am (Ai func317) (Aa Ro (Aa aLe (Aa aUX Ad)))
def aI8(s:Sc)(hl:s.rs.length<=1000):aRM [.agg (Hb s)]=some (.tup [.str (A9 s),.int .i64 (aKU s)]):=by
 refine Al (Qa rfl) ?_;unfold aMd;have z:=GV s 6 false hl;have i:=rV;have d:=aIZ;unfold A9 aKU;unfold UE at z;unfold Hb at *;cases hb:CV s 6 with
 |true=>
  rw[hb]at z;simp only[if_true]at z;simp only[↓C2,G_,GY,simprocAttr,Ae nA 25,z,Ae nA 57,i];refine AV ?_;simp only[↓C2,G_,GY,simprocAttr]
  all_goals exact Y0
 |false=>
  rw[hb]at z;simp only[if_false,Qt]at z;simp only[↓C2,G_,GY,simprocAttr,Ae nA 25,z,Ae nA 57,i];refine AV ?_;simp only[↓C2,G_,GY,simprocAttr,Ae nA 342,d,AQ];refine AV ?_;simp only[↓C2,G_,GY,simprocAttr,AQ];refine Bv (n:=s.rs.length) (I:=λj y=>y.s 26= .slice s.nl [] (A5 s.rs)∧y.s 27= .int .i64 s.rs.length∧y.s 28= .int .i64 (j:Int)∧∃B t,B.length=4+2*j∧B++Fx (s.rs.drop j)=[IntKind.u8.wrap s.mx,DX s.cas,IntKind.u8.wrap s.la,IntKind.u8.wrap s.rs.length]++Fx s.rs∧y.s 4= .slice false t (fP B)∧LG 1 _ 5 y.m y.c false t) (λj e ih y g hI=>?_) (λy g hI=>?_) 0 (Qy _) _ _ ⟨rfl,rfl,rfl,_,_,rfl,rfl,rfl,⟨λ_ _ _=>rfl,.inr ⟨_,rfl,O,Xa,by simp[G6.put,Ha.app]⟩,Xa⟩⟩
  ·obtain⟨w,fa,q⟩:=y;obtain⟨b,p,r,B,t,sa,hB,h4,k⟩:=hI;simp only at b p r h4 k;refine Af VG.eq_1 ?_;have u:((j:Int)<s.rs.length):=by omega
   have oa:=nJ (j:=j);have f:=wJ (j:=j) O;have v:=Fw e;have hd:s.rs.drop j=s.rs[j]::s.rs.drop (j+1):=QJ e;rw[hd]at hB;generalize s.rs[j]=x at v hB;have ia:fP B++[.int .u8 (IntKind.u8.wrap x.1),.int .u8 (bits .or .u8 (DX x.2.1) (IntKind.u8.wrap (DX x.2.2*2)))]=fP (B++jH x):=by simp[fP,jH]
   have o:∀a:Int,AP .shl (.int .u8 a) (.int .u64 1)=some (.int .u8 (IntKind.u8.wrap (a*2))):=λa=>rfl
   have ma:(fP B).length=4+2*j:=by rw[aEa];exact sa
   simp only[↓C2,G_,GY,simprocAttr,b,p,r,h4,u,oa,Qh,v,Ae nA 342,d,o];refine As.intro ⟨by simp only[ma];omega,rfl,(by first|exact k.grow|exact k.put.grow|exact k.put.put.grow|exact k.put.put.put.grow|exact k.put.put.put.put.grow|exact k.put.put.put.put.put.grow)⟩ ?_;rw[ia];simp only[↓C2,G_,GY,simprocAttr];refine AV ?_;simp only[↓C2,G8,simprocAttr,r,f];exact ih _ _ ⟨b,p,rfl,_,_,by rw[Qr,sa];simp[jH];omega,by rw[←hB,Fx,QH],rfl,(by first|exact LG.nil (k.appf O Xa)|exact LG.nil (k.put.appf O Xa)|exact LG.nil (k.put.put.appf O Xa)|exact LG.nil (k.put.put.put.appf O Xa)|exact LG.nil (k.put.put.put.put.appf O Xa)|exact LG.nil (k.put.put.put.put.put.appf O Xa))⟩
  ·obtain⟨b,p,r,B,t,sa,hB,h4,k⟩:=hI;refine Af VG.eq_1 ?_;rw[Q0,Fx,QI]at hB;subst hB;simp only[↓C2,G_,GY,simprocAttr,p,r,h4,Qz,rJ]
   all_goals exact Y0
def aL1:=y0 f111 [] []
def aL0:=y0 f112 [] []
def aLV:=y0 f175 [] []
def aLU:=y0 f176 [] []
def VE:=y1 f110 9 [] []
def aL2:=y0 f110 [] [(9,VE)]
def aC4:=y0 f55 [] []
def aMh:=y0 f56 [] []
def VM:=y1 f24 7 [] []
def aMX:=y0 f24 [(15,[(7,6)])] [(7,VM)]
def VI:=y1 f179 4 [] []
def aMB:=y0 f179 [] [(4,VI)]
def VF:=y1 f244 4 [] []
def aL6:=y0 f244 [] [(4,VF)]
def aMA:=y0 f180 [] []
def aNr:=y0 f116 [] []
def aNq:=y0 f117 [] []
def O1(s:Bs)(p:Nat)(e:Int):List D:=[.str s,.int .i64 (p:Int),.int .i64 e]
def or0:∀n:Fin 256,bits .or .u64 0 ((n.val:Nat):Int)=n.val:=V
def aXX(x:UInt8):bits .or .u64 0 (x.toNat:Int)=x.toNat:=or0 ⟨x.toNat,x.toNat_lt⟩
def Bz(s:Bs)(p:Nat)(e:Int):Int×Nat×Int:=if e≠0 then(0,p,e)else if h:p<s.length then(s[p].toNat,p+1,0)else(0,p,3)
def aYO:=Ao []
def aI1:=RF aYO aL1 [.t 2] 14
def aLd:Kq aI1 111:=Am (Ai func111) Ad
def rS(s:Bs)(p:Nat)(e:Int)(c:p<=s.length):aI1 [.agg (O1 s p e)]=some (.bool true):=by
 refine Al (Qa rfl) ?_;unfold aL1;have u:(0:Int)<=(p:Int):=O
 have f:(p:Int)<=(s.length:Int):=O
 unfold O1;simp only[↓C2,G_,GY,reduceIte,Qc,Qe,Qs,u,f]
 all_goals exact Y0
def aYN:=Ao []
def aI0:=RF aYN aL0 [.t 2] 9
def aLc:Kq aI0 112:=Am (Ai func112) Ad
def rR(s:Bs)(p:Nat)(e:Int)(hl:s.length<=1000000)(c:p<=s.length):aI0 [.agg (O1 s p e)]=some (.int .i64 ((s.length-p:Nat):Int)):=by
 refine Al (Qa rfl) ?_;unfold aL0;have t:IntKind.i64.wrap ((s.length:Int)-(p:Int))=((s.length-p:Nat):Int):=Xh
 unfold O1;simp only[↓C2,G_,GY,reduceIte,Qc,Qe,Qs,t]
 all_goals exact Y0
def aYK:=Ao []
def aRC:=RF aYK aLV [.t 2] 9
def aUT:Kq aRC 175:=Am (Ai func175) Ad
def aIW:aRC [.int .i64 1]=some (.bool true):=by
 refine Al (Qa rfl) ?_;unfold aLV;simp only[↓C2,G_,GY,reduceIte,Qc,Qe,reduceCtorEq,Int.reduceLE]
 all_goals exact Y0
def aYJ:=Ao []
def aRB:=RF aYJ aLU [.cell (some 3) 4] 8
def aUS:Kq aRB 176:=Am (Ai func176) Ad
def aIV(s:Bs)(p:Nat)(e x:Int):aRB [.agg (O1 s p e),.int .i64 x]=some (.agg (O1 s p x)):=by
 refine Al (Qa rfl) ?_;unfold aLU;unfold O1;simp only[↓C2,G_,GY,reduceIte,Qc,Qe,Qs,Qu,QE]
 all_goals exact Y0
def gI:=Ao [(111,Ac aI1),(175,Ac aRC),(176,Ac aRB),(112,Ac aI0)]
def aRH:=RF gI aL2 [.t 4,.cell (some 3) 5] 60
def aUY:Kq aRH 110:=Am (Ai func110) (Aa aLd (Aa aUT (Aa aUS (Aa aLc Ad))))
def aI2(s:Bs)(p:Nat)(e:Int)(hl:s.length<=1000000)(k:p<=s.length):aRH [.agg (O1 s p e),.int .i64 1]=some (.tup [.int .u64 (Bz s p e).1,.agg (O1 s (Bz s p e).2.1 (Bz s p e).2.2)]):=by
 refine Al (Qa rfl) ?_;unfold aL2;have b:=rS s p e k;have a:=rR s p e hl k;have c:=aIW;have f:=λx=>aIV s p e x
 unfold Bz O1 at *;by_cases c1:e=0
 ·subst c1;by_cases w:p<s.length
  ·have y:(((s.length-p:Nat):Int)<1)=False:=eq_false O;have t:IntKind.i64.wrap ((p:Int)+1)=((p+1:Nat):Int):=Hu O O;have u:((0:Int)<=((p+1:Nat):Int)∧((p+1:Nat):Int)<=((s.length:Nat):Int))=True:=eq_true O;have b2:((0:Int)<=(p:Int)∧(p:Int)<=((p+1:Nat):Int))=True:=eq_true O;have d:(s.drop p).take (p+1-p)=[s[p]]:=by rw[QJ w,show p+1-p=1 by omega];rfl
   have j:Az [s[p]]=[.int .u8 (s[p].toNat:Int)]:=rfl;have q:AP .shl (.int .u64 0) (.int .u64 8)=some (.int .u64 0):=rfl;have m:=aXX s[p];have z:IntKind.u64.wrap (s[p].toNat:Int)=(s[p].toNat:Int):=SX O (by have:=s[p].toNat_lt;omega);have na:IntKind.i64.wrap ((0:Int)+1)=1:=rfl;simp only[ne_eq,not_true_eq_false,if_false,dif_pos w];generalize s[p]=x at *;simp only[↓C2,G_,GY,reduceIte,Qc,Qe,Qs,reduceCtorEq,Ae gI 111,b,Ae gI 112,a,Ae gI 175,c,y,t,u,b2,Qh,d,j];refine Af VE.eq_1 ?_;simp only[↓C2,G_,GY,reduceIte,Qc,Qe,q,m,z,na,Int.toNat_zero,d,Int.zero_lt_one,Zr,ZA];refine Af VE.eq_1 ?_;simp only[↓C2,G_,GY,simprocAttr,Qz,t]
   repeat refine AV ?_
   simp only[↓C2,G_,GY,reduceIte,Qc,Qe,Qs,Qu,QE]
   all_goals exact Y0
  ·have y:(((s.length-p:Nat):Int)<1)=True:=eq_true O;simp only[ne_eq,not_true_eq_false,if_false,dif_neg w];simp only[↓C2,G_,GY,reduceIte,Qc,Qe,Qs,reduceCtorEq,Ae gI 111,b,Ae gI 112,a,Ae gI 175,c,Ae gI 176,f,y]
   all_goals exact Y0
 ·have v:(e=0)=False:=eq_false c1;simp only[ne_eq,v,not_false_eq_true,if_true];simp only[↓C2,G_,GY,reduceIte,Qc,Qe,Qs,reduceCtorEq,v]
  repeat refine AV ?_
  simp only[↓C2,G_,GY,reduceIte,Qc,Qe,Qs]
  all_goals exact Y0
def aEK:=Ao [(111,Ac aI1),(112,Ac aI0)]
def aJd:=RF aEK aMh [.t 2] 17
def aU9:Kq aJd 56:=Am (Ai func56) (Aa aLd (Aa aLc Ad))
def aJc(s:Bs)(p:Nat)(e:Int)(hl:s.length<=1000000)(c:p<=s.length):aJd [.agg (O1 s p e)]=some (.int .i64 (if e≠0 then e else if p<s.length then 4 else 0)):=by
 refine Al (Qa rfl) ?_;unfold aMh;have b:=rS s p e c;have a:=rR s p e hl c;unfold O1 at *;by_cases c1:e=0
 ·subst c1;have y:((0:Int)<((s.length-p:Nat):Int))=(p<s.length):=propext O;by_cases d:p<s.length
  ·simp only[↓C2,G_,GY,reduceIte,Qc,Qe,Qs,ZG,Ae aEK 111,b,Ae aEK 112,a,y,d]
   all_goals exact Y0
  ·simp only[↓C2,G_,GY,reduceIte,Qc,Qe,Qs,ZG,Ae aEK 111,b,Ae aEK 112,a,y,d]
   all_goals exact Y0
 ·have v:(e=0)=False:=eq_false c1;simp only[↓C2,G_,GY,reduceIte,Qc,Qe,Qs,v];simp[c1]
def ER{s:Bs}{p:Nat}{e:Int}(c:p<=s.length):(Bz s p e).2.1<=s.length∧0<=(Bz s p e).1∧(Bz s p e).1<256:=by
 unfold Bz;split
 ·exact⟨c,U,U⟩
 ·split
  ·rename_i h;have:=s[p].toNat_lt;exact⟨h,Xe,Xe⟩
  ·exact⟨c,U,U⟩
def aWR:=Ao [(110,Ac aRH)]
def nM:List D->List D->Option (D×List D):=RM aWR aC4 [.t 2] 17 3
def aVa:(mQ 3 nM).ok Qf 55:=aTa (Ai func55:Fn Qf 55 17 aC4 [.t 2]) V (Aa aUY Ad)
theorem O3{m:G6}{i j:Id}{o:Nat}{ds:List D}(h:j≠i):∀{n p:Nat},Ag (m.put i o ds) j p n=Ag m j p n
 |0,p=>rfl
 |n+1,p=>by simp only[Ag,aA h,O3 h]
def aTk{i fr:Id}(h:∀k,(i=k::fr)=False)(m:G6)(k o:Nat)(ys:List D)(p n:Nat):Ag (m.put (k::fr) o ys) i p n=Ag m i p n:=O3 (λe=>(h k).mp e)
def Lu(s:Bs)(p:Nat)(e:Int)(hl:s.length<=1000000)(c:p<=s.length):nM (O1 s p e) []=some (.int .i64 (Bz s p e).1,O1 s (Bz s p e).2.1 (Bz s p e).2.2):=by
 refine aTb V rfl (Qa rfl) (λi m fr na v ia n0=>?_);have a:=aI2 s p e hl c;obtain⟨_,w,b⟩:=ER (e:=e) c;have t:IntKind.i64.wrap (Bz s p e).1=(Bz s p e).1:=Hu O O;generalize Bz s p e=r at *;unfold O1 at *;obtain⟨g,a1,z⟩:=jK na;unfold aC4;simp only[↓C2,G_,GY,reduceIte,Qc,Qe,Qs,reduceCtorEq,g,a1,z,aTk n0,n0,Ae aWR 110,a,t]
 first|exact Fp.own (bG v (bG v Fp.refl)) U|exact Fp.own (bG v Fp.refl) U
structure LX (ex:List Nat) (c0:Nat) (m0:G6) (e:Nat) (m:G6) (c:Nat) (nl:Bool) (t:Id):Prop where
 low:∀q o,q<c0->q∉ex->m [q] o=m0 [q] o
 tok:nl=true∨∃j,t=[j]∧c0<=j∧j<c∧m t 0=some (.tok (e+1))
 le:c0<=c
section
variable{ex:List Nat}{c0 e c c' c2 o q:Nat}{m0 m:G6}{nl:Bool}{t:Id}{ds xs:List D}
def LX.start(h:c0<=c):LX ex c0 m0 e m0 c true t:=⟨λ_ _ _ _=>rfl,.inl rfl,h⟩
def LX.put(h:LX ex c0 m0 e m c nl t)(w:c<=c':=by omega):LX ex c0 m0 e (m.put [c'] o ds) c nl t:=by
 obtain⟨u,f,i⟩:=h;refine⟨λq o' y d=>?_,?_,i⟩
 ·grind [aA]
 ·grind [aA]
def LX.putx(h:LX ex c0 m0 e m c nl t)(y:q∈ex)(hl:q<c0):LX ex c0 m0 e (m.put [q] o ds) c nl t:=by
 obtain⟨u,f,i⟩:=h;refine⟨λw o' b d=>?_,?_,i⟩
 ·grind [aA]
 ·grind [aA]
def LX.more(h:LX ex c0 m0 e m c nl t)(w:c<=c'):LX ex c0 m0 e m c' nl t:=by
 obtain⟨u,h2,i⟩:=h;refine⟨u,?_,O⟩;rcases h2 with h2|⟨j,a,b,p,d⟩
 ·exact .inl h2
 ·grind
def LX.grow(h:LX ex c0 m0 e m c nl t):I6 m e (.slice nl t xs):=by
 rcases h.tok with h|⟨j,rfl,_,_,d⟩
 ·exact .inl h
 ·exact .inr ⟨d,U⟩
def LX.app(h:LX ex c0 m0 e m c nl t)(w:c<=c')(f:c'<c2):LX ex c0 m0 e (Ha.app m (Be e [c'] (.slice nl t xs))) c2 false [c']:=by
 obtain⟨u,n,i⟩:=h;refine⟨λq o y d=>?_,.inr ⟨c',rfl,O,f,?_⟩,O⟩
 ·grind [Dm]
 ·rw[Dm,if_pos ⟨rfl,rfl⟩]
def aV(h:LX ex c0 m0 e m c nl t)(w:c<=c')(y:q<c0):Ha.app m (Be e [c'] (.slice nl t xs)) [q] o=m [q] o:=by
 obtain⟨u,n,i⟩:=h;rw[Dm,if_neg Xb];rcases n with rfl|⟨j,rfl,a,b,d⟩
 ·rw[if_neg U]
 ·rw[if_neg Xb]
end
def Mw{m:G6}{i:Id}{o:Nat}{d:D}:m.put i o [d] i o=some d:=XK
def Ij(s:Bs):Nat->Nat->Int->List Rw×Bool×Nat×Int
 |0,p,e=>([],false,p,e)
 |k+1,p,e=>(((Bz s p e).1,decide (bits .and .i64 (Bz s (Bz s p e).2.1 (Bz s p e).2.2).1 1≠0),decide (bits .and .i64 (Bz s (Bz s p e).2.1 (Bz s p e).2.2).1 2≠0))::(Ij s k (Bz s (Bz s p e).2.1 (Bz s p e).2.2).2.1 (Bz s (Bz s p e).2.1 (Bz s p e).2.2).2.2).1,
   decide (3<(Bz s (Bz s p e).2.1 (Bz s p e).2.2).1)||(Ij s k (Bz s (Bz s p e).2.1 (Bz s p e).2.2).2.1 (Bz s (Bz s p e).2.1 (Bz s p e).2.2).2.2).2.1,(Ij s k (Bz s (Bz s p e).2.1 (Bz s p e).2.2).2.1 (Bz s (Bz s p e).2.1 (Bz s p e).2.2).2.2).2.2)
def sc0:Sc:=⟨0,false,0,true,[]⟩
def LU(s:Bs):=Bz s 0 0
def Lx(s:Bs):=Bz s (LU s).2.1 (LU s).2.2
def LT(s:Bs):=Bz s (Lx s).2.1 (Lx s).2.2
def Ge(s:Bs):=Bz s (LT s).2.1 (LT s).2.2
def Fk(s:Bs):=Ij s (Ge s).1.toNat (Ge s).2.1 (Ge s).2.2
def Ut(s:Bs):Sc:=⟨(LU s).1,decide ((Lx s).1=1),(LT s).1,decide ((Ge s).1.toNat=0),(Fk s).1⟩
def wL(n p:Nat)(e:Int):Int:=if e≠0 then e else if p<n then 4 else 0
def BV(s:Bs):Sc×Int:=if wL s.length (Fk s).2.2.1 (Fk s).2.2.2=3 then(sc0,3)else if wL s.length (Fk s).2.2.1 (Fk s).2.2.2≠0∨(decide (1<(Lx s).1)||(Fk s).2.1)=true∨CV (Ut s) 6=true then(sc0,4)else(Ut s,0)
def nU{s:Bs}:∀{k p:Nat} {e:Int},p<=s.length->(Ij s k p e).2.2.1<=s.length
 |0,p,e,h=>h
 |k+1,p,e,h=>by
  show(Ij s k (Bz s (Bz s p e).2.1 (Bz s p e).2.2).2.1 (Bz s (Bz s p e).2.1 (Bz s p e).2.2).2.2).2.2.1<=_;exact nU (ER (ER h).1).1
def WH{s:Bs}:∀{k p:Nat} {e:Int},(Ij s k p e).1.length=k
 |0,p,e=>rfl
 |k+1,p,e=>by simp[Ij,WH]
def Nl:=Ao [(55,mQ 3 nM),(56,Ac aJd),(57,Ac aJb),(25,Ac LB)]
def aR2:=RF Nl aMX [.cell (some 4) 2,.t 3] 77
def aVt:Kq aR2 24:=Am (Ai func24) (Aa aVa (Aa aU9 (Aa aLe (Aa Ro Ad))))
def sC(s:Bs)(hl:s.length<=1000000):aR2 [.str s]=some (.tup [.agg (Hb (BV s).1),.int .i64 (BV s).2]):=by
 refine Al (Qa rfl) ?_;unfold aMX;have b1:(LU s).2.1<=s.length∧0<=(LU s).1∧(LU s).1<256:=ER (Qy _);have b2:(Lx s).2.1<=s.length∧0<=(Lx s).1∧(Lx s).1<256:=ER b1.1;have b3:(LT s).2.1<=s.length∧0<=(LT s).1∧(LT s).1<256:=ER b2.1;have b4:(Ge s).2.1<=s.length∧0<=(Ge s).1∧(Ge s).1<256:=ER b3.1;have g1:nM [.str s,.int .i64 0,.int .i64 0] []=some (.int .i64 (LU s).1,O1 s (LU s).2.1 (LU s).2.2):=Lu s 0 0 hl (Qy _);have g2:nM (O1 s (LU s).2.1 (LU s).2.2) []=some (.int .i64 (Lx s).1,O1 s (Lx s).2.1 (Lx s).2.2):=Lu s _ _ hl b1.1;have g3:nM (O1 s (Lx s).2.1 (Lx s).2.2) []=some (.int .i64 (LT s).1,O1 s (LT s).2.1 (LT s).2.2):=Lu s _ _ hl b2.1;have g4:nM (O1 s (LT s).2.1 (LT s).2.2) []=some (.int .i64 (Ge s).1,O1 s (Ge s).2.1 (Ge s).2.2):=Lu s _ _ hl b3.1;have hn:((Ge s).1.toNat:Int)=(Ge s).1:=Qw b4.2.1;have ja:(Fk s).2.2.1<=s.length:=nU b4.1;have ra:(Fk s).1.length=(Ge s).1.toNat:=WH;have d:aJd [.agg [.str s,.int .i64 ((Fk s).2.2.1:Int),.int .i64 (Fk s).2.2.2]]=some (.int .i64 (wL s.length (Fk s).2.2.1 (Fk s).2.2.2)):=aJc s _ _ hl ja;have i:=rV;have aa:=GV (Ut s) 6 false (by show(Fk s).1.length<=1000;omega);have hA:Fk s=Ij s (Ge s).1.toNat (Ge s).2.1 (Ge s).2.2:=rfl;unfold BV;unfold UE at aa;unfold O1 at g1 g2 g3 g4;have hS:Ut s=⟨(LU s).1,decide ((Lx s).1=1),(LT s).1,decide ((Ge s).1.toNat=0),(Fk s).1⟩:=rfl;unfold Hb at aa ⊢;generalize CV (Ut s) 6=w at *;generalize wL s.length (Fk s).2.2.1 (Fk s).2.2.2=en at *;rw[hS]at aa ⊢;clear hS;generalize Fk s=tot at *;generalize LU s=n1 at *;generalize Lx s=n2 at *;generalize LT s=n3 at *;generalize Ge s=n4 at *;obtain⟨v4,p4,e4⟩:=n4;simp only at *;generalize y:v4.toNat=n at *;rw[←hn]at g4;simp only[G7,↓C2,GY,simprocAttr,AE Nl 55,Vj,g1,g2,g3,g4];refine Bv (n:=n) (I:=λj st=>st.s 28= .int .i64 (n:Int)∧st.s 29= .int .i64 (j:Int)∧st.s 4= .ptr [4] 0∧st.s 5= .ptr [9] 0∧st.s 2= .ptr [0] 0∧∃A od p e nl t,A.length=j∧p<=s.length∧A++(Ij s (n-j) p e).1=tot.1∧(od||(Ij s (n-j) p e).2.1)=(decide (1<n2.1)||tot.2.1)∧(Ij s (n-j) p e).2.2=tot.2.2∧st.s 7= .bool od∧(st.m [4] 0=some (.str s)∧st.m [4] 1=some (.int .i64 (p:Int))∧st.m [4] 2=some (.int .i64 e))∧(st.m [9] 0=some (.int .i64 n1.1)∧st.m [9] 1=some (.bool (decide (n2.1=1)))∧st.m [9] 2=some (.int .i64 n3.1)∧st.m [9] 3=some (.slice nl t (A5 A)))∧nl=decide (j=0)∧LX [4,9] 10 _ 80 st.m st.c nl t) (λj hj ih st g hI=>?_) (λst g hI=>?_) 0 (Qy _) _ _ ⟨rfl,rfl,rfl,rfl,rfl,[],decide (1<n2.1),p4,e4,true,[],rfl,b4.1,by rw[hA];rfl,by rw[hA];rfl,by rw[hA];rfl,rfl,?_,?_,rfl,LX.start Xa⟩
 rotate_left 2
 ·grind [G6.put]
 ·simp_all [G6.put,A5]
 ·obtain⟨ka,fa,da⟩:=st;obtain⟨ba,f,h4,h5,h2,A,od,p,e,nl,t,v,hp,l,r,ga,h7,⟨x0,x1,x2⟩,⟨y0,y1,y2,y3⟩,qa,hG⟩:=hI;simp only at ba f h4 h5 h2 h7 x0 x1 x2 y0 y1 y2 y3 hG;refine Af VM.eq_1 ?_;have ea:((j:Int)<n):=by omega
  have oa:=nJ (j:=j);have hw:=wJ (j:=j) O;have q1:=ER (e:=e) hp;have k1:=Lu s p e hl hp;have k2:=Lu s _ (Bz s p e).2.2 hl q1.1;have q2:=ER (e:=(Bz s p e).2.2) q1.1;have ma:n-j=(n-(j+1))+1:=O
  rw[ma]at l r ga;unfold Ij at l r ga;simp only at l r ga;generalize Bz s p e=a at *;generalize Bz s a.2.1 a.2.2=b at *;unfold O1 at k1 k2;have u:=(hG.putx (q:=4) (o:=0) (ds:=[.str s,.int .i64 (a.2.1:Int),.int .i64 a.2.2]) U O).putx (q:=4) (o:=0) (ds:=[.str s,.int .i64 (b.2.1:Int),.int .i64 b.2.2]) U O;have na:nl=true->A5 A=[]:=by
   rw[qa];intro h;have:A=[]:=QV.1 (by rw[v];simpa using h);rw[this];rfl
  have ia:A5 A++[.agg [.int .i64 a.1,.bool (decide (bits .and .i64 b.1 1≠0)),.bool (decide (bits .and .i64 b.1 2≠0))]]=A5 (A++[(a.1,decide (bits .and .i64 b.1 1≠0),decide (bits .and .i64 b.1 2≠0))]):=by simp[A5,rwD]
  have sa:(A5 A).length<256:=XF
  have pa:(9=4)=False:=U
  have la:(4=9)=False:=U
  cases od with
  |true=>
   simp only[G7,↓C2,GY,simprocAttr,ba,f,ea,h4,h5,h7,AE Nl 55,Vj,x0,x1,x2,y3,k1,k2];refine As.intro ⟨O,rfl,(LX.put u O).grow⟩ ?_;rw[B0 na,ia];have z:∀(c1 c2 k:Nat)(ds:List D)(xs:List D),da<=c1->da<=c2->∀q,q<10->Ha.app ((((fa.put [4] 0 [.str s,.int .i64 (a.2.1:Int),.int .i64 a.2.2]).put [4] 0 [.str s,.int .i64 (b.2.1:Int),.int .i64 b.2.2]).put [c1] 0 ds)) (Be 80 [c2] (.slice nl t xs)) [q] k=((fa.put [4] 0 [.str s,.int .i64 (a.2.1:Int),.int .i64 a.2.2]).put [4] 0 [.str s,.int .i64 (b.2.1:Int),.int .i64 b.2.2]) [q] k:=λc1 c2 k ds xs e1 e2 q hq=>by
    have:=hG.le;rw[aV (LX.put u e1) e2 hq,aA Xb]
   have zz:=λ(c1 c2 k:Nat)(ds:List D)(xs:List D) e1 e2=>z c1 c2 k ds xs e1 e2 9 O
   have z4:=λ(c1 c2 k:Nat)(ds:List D)(xs:List D) e1 e2=>z c1 c2 k ds xs e1 e2 4 O
   have x:∀(c1 c2:Nat)(ds xs:List D),da<=c1->da<=c2->(Ag (Ha.app ((((fa.put [4] 0 [.str s,.int .i64 (a.2.1:Int),.int .i64 a.2.2]).put [4] 0 [.str s,.int .i64 (b.2.1:Int),.int .i64 b.2.2]).put [c1] 0 ds)) (Be 80 [c2] (.slice nl t xs))) [9] 3 1).isSome=true:=λc1 c2 ds xs e1 e2=>by
    simp only[Ag,zz c1 c2 3 ds xs e1 e2];simp[G6.put,y3]
   simp only[↓C2,G_,h5,simprocAttr,Qp];refine As.intro (x _ _ _ _ O O) ?_;simp only[↓C2,G8,simprocAttr,f,hw];refine ih _ _ ⟨ba,rfl,h4,h5,h2,A++[(a.1,decide (bits .and .i64 b.1 1≠0),decide (bits .and .i64 b.1 2≠0))],true,b.2.1,b.2.2,false,_,by simp[v],q2.1,by rw[←l];simp,by rw[←r];simp[],ga,rfl,⟨?_,?_,?_⟩,⟨?_,?_,?_,?_⟩,U,LX.putx (LX.app (LX.put u O) O Xa) U O⟩
   ·simp only;rw[aA U,z4 _ _ _ _ _ O O];simp[G6.put]
   ·simp only;rw[aA U,z4 _ _ _ _ _ O O];simp[G6.put]
   ·simp only;rw[aA U,z4 _ _ _ _ _ O O];simp[G6.put]
   ·simp only;rw[aC U,zz _ _ _ _ _ O O];simp[G6.put,y0]
   ·simp only;rw[aC U,zz _ _ _ _ _ O O];simp[G6.put,y1]
   ·simp only;rw[aC U,zz _ _ _ _ _ O O];simp[G6.put,y2]
   ·simp only;rw[FF];exact Mw
  |false=>
   by_cases c3:3<b.1
   ·simp only[G7,↓C2,GY,simprocAttr,ba,f,ea,h4,h5,h7,AE Nl 55,Vj,x0,x1,x2,y3,k1,k2,c3];refine As.intro ⟨O,rfl,(LX.put u O).grow⟩ ?_;rw[B0 na,ia];have z:∀(c1 c2 k:Nat)(ds:List D)(xs:List D),da<=c1->da<=c2->∀q,q<10->Ha.app ((((fa.put [4] 0 [.str s,.int .i64 (a.2.1:Int),.int .i64 a.2.2]).put [4] 0 [.str s,.int .i64 (b.2.1:Int),.int .i64 b.2.2]).put [c1] 0 ds)) (Be 80 [c2] (.slice nl t xs)) [q] k=((fa.put [4] 0 [.str s,.int .i64 (a.2.1:Int),.int .i64 a.2.2]).put [4] 0 [.str s,.int .i64 (b.2.1:Int),.int .i64 b.2.2]) [q] k:=λc1 c2 k ds xs e1 e2 q hq=>by
     have:=hG.le;rw[aV (LX.put u e1) e2 hq,aA Xb]
    have zz:=λ(c1 c2 k:Nat)(ds:List D)(xs:List D) e1 e2=>z c1 c2 k ds xs e1 e2 9 O
    have z4:=λ(c1 c2 k:Nat)(ds:List D)(xs:List D) e1 e2=>z c1 c2 k ds xs e1 e2 4 O
    have x:∀(c1 c2:Nat)(ds xs:List D),da<=c1->da<=c2->(Ag (Ha.app ((((fa.put [4] 0 [.str s,.int .i64 (a.2.1:Int),.int .i64 a.2.2]).put [4] 0 [.str s,.int .i64 (b.2.1:Int),.int .i64 b.2.2]).put [c1] 0 ds)) (Be 80 [c2] (.slice nl t xs))) [9] 3 1).isSome=true:=λc1 c2 ds xs e1 e2=>by
     simp only[Ag,zz c1 c2 3 ds xs e1 e2];simp[G6.put,y3]
    simp only[↓C2,G_,h5,simprocAttr,Qp];refine As.intro (x _ _ _ _ O O) ?_;simp only[↓C2,G8,simprocAttr,f,hw];refine ih _ _ ⟨ba,rfl,h4,h5,h2,A++[(a.1,decide (bits .and .i64 b.1 1≠0),decide (bits .and .i64 b.1 2≠0))],true,b.2.1,b.2.2,false,_,by simp[v],q2.1,by rw[←l];simp,by rw[←r];simp[c3],ga,rfl,⟨?_,?_,?_⟩,⟨?_,?_,?_,?_⟩,U,LX.putx (LX.app (LX.put u O) O Xa) U O⟩
    ·simp only;rw[aA U,z4 _ _ _ _ _ O O];simp[G6.put]
    ·simp only;rw[aA U,z4 _ _ _ _ _ O O];simp[G6.put]
    ·simp only;rw[aA U,z4 _ _ _ _ _ O O];simp[G6.put]
    ·simp only;rw[aC U,zz _ _ _ _ _ O O];simp[G6.put,y0]
    ·simp only;rw[aC U,zz _ _ _ _ _ O O];simp[G6.put,y1]
    ·simp only;rw[aC U,zz _ _ _ _ _ O O];simp[G6.put,y2]
    ·simp only;rw[FF];exact Mw
   ·simp only[G7,↓C2,GY,simprocAttr,ba,f,ea,h4,h5,h7,AE Nl 55,Vj,x0,x1,x2,y3,k1,k2,c3];refine As.intro ⟨O,rfl,(LX.put u O).grow⟩ ?_;rw[B0 na,ia];have z:∀(c1 c2 k:Nat)(ds:List D)(xs:List D),da<=c1->da<=c2->∀q,q<10->Ha.app ((((fa.put [4] 0 [.str s,.int .i64 (a.2.1:Int),.int .i64 a.2.2]).put [4] 0 [.str s,.int .i64 (b.2.1:Int),.int .i64 b.2.2]).put [c1] 0 ds)) (Be 80 [c2] (.slice nl t xs)) [q] k=((fa.put [4] 0 [.str s,.int .i64 (a.2.1:Int),.int .i64 a.2.2]).put [4] 0 [.str s,.int .i64 (b.2.1:Int),.int .i64 b.2.2]) [q] k:=λc1 c2 k ds xs e1 e2 q hq=>by
     have:=hG.le;rw[aV (LX.put u e1) e2 hq,aA Xb]
    have zz:=λ(c1 c2 k:Nat)(ds:List D)(xs:List D) e1 e2=>z c1 c2 k ds xs e1 e2 9 O
    have z4:=λ(c1 c2 k:Nat)(ds:List D)(xs:List D) e1 e2=>z c1 c2 k ds xs e1 e2 4 O
    have x:∀(c1 c2:Nat)(ds xs:List D),da<=c1->da<=c2->(Ag (Ha.app ((((fa.put [4] 0 [.str s,.int .i64 (a.2.1:Int),.int .i64 a.2.2]).put [4] 0 [.str s,.int .i64 (b.2.1:Int),.int .i64 b.2.2]).put [c1] 0 ds)) (Be 80 [c2] (.slice nl t xs))) [9] 3 1).isSome=true:=λc1 c2 ds xs e1 e2=>by
     simp only[Ag,zz c1 c2 3 ds xs e1 e2];simp[G6.put,y3]
    simp only[↓C2,G_,h5,simprocAttr,Qp];refine As.intro (x _ _ _ _ O O) ?_;simp only[↓C2,G8,simprocAttr,f,hw];refine ih _ _ ⟨ba,rfl,h4,h5,h2,A++[(a.1,decide (bits .and .i64 b.1 1≠0),decide (bits .and .i64 b.1 2≠0))],false,b.2.1,b.2.2,false,_,by simp[v],q2.1,by rw[←l];simp,by rw[←r];simp[c3],ga,rfl,⟨?_,?_,?_⟩,⟨?_,?_,?_,?_⟩,U,LX.putx (LX.app (LX.put u O) O Xa) U O⟩
    ·simp only;rw[aA U,z4 _ _ _ _ _ O O];simp[G6.put]
    ·simp only;rw[aA U,z4 _ _ _ _ _ O O];simp[G6.put]
    ·simp only;rw[aA U,z4 _ _ _ _ _ O O];simp[G6.put]
    ·simp only;rw[aC U,zz _ _ _ _ _ O O];simp[G6.put,y0]
    ·simp only;rw[aC U,zz _ _ _ _ _ O O];simp[G6.put,y1]
    ·simp only;rw[aC U,zz _ _ _ _ _ O O];simp[G6.put,y2]
    ·simp only;rw[FF];exact Mw
 ·obtain⟨ka,fa,da⟩:=st;obtain⟨ba,f,h4,h5,h2,A,od,p,e,nl,t,v,hp,l,r,ga,h7,⟨x0,x1,x2⟩,⟨y0,y1,y2,y3⟩,qa,hG⟩:=hI;simp only at ba f h4 h5 h2 h7 x0 x1 x2 y0 y1 y2 y3 hG;refine Af VM.eq_1 ?_;have m0:∀k,fa [0] k=_:=λk=>hG.low 0 k O U
  rw[Zu]at l r ga;unfold Ij at l r ga;simp only[QI,Bool.or_false]at l r ga;rw[←r];rw[←l]at aa ⊢;rw[←ga]at d;simp only at d;rw[←qa]at aa ⊢;by_cases c1:en=3
  ·simp only[G7,↓C2,GY,simprocAttr,ba,f,h4,h2,Qz,x0,x1,x2,m0,Ae Nl 56,d,c1]
   all_goals (first|rfl|exact⟨rfl,rfl⟩|(simp[*,sc0];done)|(simp[*,sc0];rfl))
  ·have ca:(en=3)=False:=eq_false c1;by_cases c2:en=0
   ·subst c2;cases od with
    |true=>
     simp only[G7,↓C2,GY,simprocAttr,ba,f,h4,h7,Qz,x0,x1,x2,Ae Nl 56,d];refine AV ?_;simp only[G7,↓C2,GY,simprocAttr,h2,m0]
     all_goals (first|rfl|exact⟨rfl,rfl⟩|(simp[*,sc0];done)|(simp[*,sc0];rfl))
    |false=>
     cases w with
     |true=>
      simp only[if_true]at aa;simp only[G7,↓C2,GY,simprocAttr,ba,f,h4,h5,h7,Qz,x0,x1,x2,y0,y1,y2,y3,Ae Nl 56,d,Ae Nl 57,i,Ae Nl 25,aa];refine AV ?_;simp only[G7,↓C2,GY,simprocAttr,h2,m0]
      all_goals (first|rfl|exact⟨rfl,rfl⟩|(simp[*,sc0];done)|(simp[*,sc0];rfl))
     |false=>
      simp only[if_false,Qt]at aa;simp only[G7,↓C2,GY,simprocAttr,ba,f,h4,h5,h7,Qz,x0,x1,x2,y0,y1,y2,y3,Ae Nl 56,d,Ae Nl 57,i,Ae Nl 25,aa];refine AV ?_;simp only[G7,↓C2,GY,simprocAttr,h2,h5,m0,y0,y1,y2,y3]
      all_goals (first|rfl|exact⟨rfl,rfl⟩|(simp[*,sc0];done)|(simp[*,sc0];rfl))
   ·have ha:(en=0)=False:=eq_false c2;simp only[G7,↓C2,GY,simprocAttr,ba,f,h4,Qz,x0,x1,x2,Ae Nl 56,d,ca,ha];refine AV ?_;simp only[G7,↓C2,GY,simprocAttr,h2,m0]
    all_goals (first|rfl|exact⟨rfl,rfl⟩|(simp[*,sc0];done)|(simp[*,sc0];rfl))
def aNO:=y0 f213 [] []
def aV0:=y0 f52 [] []
def aWj:=y0 f22 [] []
def aNL:=y0 f215 [] []
def aV4:=y0 f67 [(3,[(2,0)])] []
def Pb:=y1 f124 2 [] []
def aMr:=y0 f124 [] [(2,Pb)]
def VQ:=y1 f70 14 [] []
def aM6:=y0 f70 [(18,[(3,6),(3,10),(7,10)])] [(14,VQ)]
def aNS:=y0 f30 [] []
def aNT:=y0 f37 [] []
def aM5:=y0 f26 [] []
def aDe:=y0 f211 [] []
def aNR:=y0 f210 [] []
def VN:=y1 f270 2 [] []
def aMZ:=y0 f270 [] [(2,VN)]
def aNI:=y0 f220 [] []
def aWs:=y0 f155 [] []
def Aw(k:Int)(name:Bs)(n:Int):Bs:=if Ca k name n≠0 then []else if k=1 then [109,47]++name else if k=2 then [100,47]++name++[0,UInt8.ofNat (IntKind.u8.wrap n).toNat]else if k=3 then [116,47]++name else if k=4 then [115,47,109,111,117,110,116,115]else [115,47,114,105,110,103]
def aFY{k n:Int}{name:Bs}(h:name.length<=1000000):F98 [.agg [.int .u8 k,.str name,.int .i64 n]]=some (.int .i64 (Ca k name n)):=if_pos h
def I1{a b:Bs}(h:a.length+b.length<=9223372036854775807):AP .add (.str a) (.str b)=some (.str (a++b)):=by simp[AP,h]
def nB:=Ao [(53,Ac F98)]
def aJE:=RF nB aM5 [.t 2,.t 3] 35
def aLn:Kq aJE 26:=Am (Ai func26) (Aa aHw Ad)
def sE(k n:Int)(name:Bs)(hl:name.length<=1000000):aJE [.agg [.int .u8 k,.str name,.int .i64 n]]=some (.tup [.str (Aw k name n),.int .i64 (Ca k name n)]):=by
 refine Al (Qa rfl) ?_;unfold aM5;have r:=aFY (k:=k) (n:=n) hl;have a1:∀x y,AP .add (.str [x,y]) (.str name)=some (.str ([x,y]++name)):=λx y=>I1 YE
 have m:∀a,BI [.int .u8 0,.int .u8 a]=some [0,UInt8.ofNat a.toNat]:=λ_=>rfl
 unfold Aw;generalize Ca k name n=e at *;by_cases q:e=0
 ·subst q;by_cases c1:k=1
  ·have v:=eq_true c1;simp only[G7,↓C2,GY,simprocAttr,Ae nB 53,r,v,a1]
   all_goals exact Y0
  have v:=eq_false c1;by_cases w:k=2
  ·have p:=eq_true w;have j:=λz (o:z.length<=100)=>I1 (a:=[100,47]++name) (b:=z) YF
   have u:=λc d=>j [c,d] U
   simp only[G7,↓C2,GY,simprocAttr,Ae nB 53,r,v,p,a1,u,m]
   all_goals exact Y0
  have p:=eq_false w;by_cases t:k=3
  ·have f:=eq_true t;simp only[G7,↓C2,GY,simprocAttr,Ae nB 53,r,v,p,f,a1]
   all_goals exact Y0
  have f:=eq_false t;by_cases i:k=4
  ·have g:=eq_true i;simp only[G7,↓C2,GY,simprocAttr,Ae nB 53,r,v,p,f,g]
   all_goals exact Y0
  ·have g:=eq_false i;simp only[G7,↓C2,GY,simprocAttr,Ae nB 53,r,v,p,f,g]
   all_goals exact Y0
 ·have h:=eq_false q;simp only[G7,↓C2,GY,simprocAttr,Ae nB 53,r,h]
  all_goals exact Y0
def aW7:=Ao [(26,Ac aJE)]
def Fo:List D->Option D:=RF aW7 aDe [.t 6] 18
def IL:Kq Fo 211:=Am (Ai func211:Fn Qf 211 18 aDe [.t 6]) (Aa aLn Ad)
def C7(k n:Int)(name:Bs)(hl:name.length<=1000000):Fo [.int .u8 k,.str name,.int .i64 n]=some (.str (Aw k name n)):=by
 refine Al (Qa rfl) ?_;unfold aDe;have a:=sE k n name hl;simp only[↓C2,G_,GY,simprocAttr,Ae aW7 26,a]
 all_goals exact Y0
def aY8:=Ao []
def yX:=RF aY8 aNO [.t 2] 10
def aLt:Kq yX 213:=Am (Ai func213) Ad
def Wd(p:Bs)(hl:p.length<=1000000):yX [.str p]=some (.slice false [] [.str ([109,47]++p++[47]),.str ([100,47]++p++[47])]):=by
 refine Al (Qa rfl) ?_;unfold aNO;have a1:∀x y,AP .add (.str [x,y]) (.str p)=some (.str ([x,y]++p)):=λx y=>I1 YE
 have s:∀x y,AP .add (.str ([x,y]++p)) (.str [47])=some (.str ([x,y]++p++[47])):=λx y=>I1 YF
 simp only[↓C2,G_,GY,simprocAttr,a1,s]
 all_goals exact Y0
def BX(s:Bs):Int×Bs×Int:=if s=[115,47,109,111,117,110,116,115]then(4,[],0)else if s=[115,47,114,105,110,103]then(5,[],0)else if B7 s [109,47]=true then(1,s.drop 2,0)else if B7 s [116,47]=true then(3,s.drop 2,0)else
 if B7 s [100,47]=true∧2<(s.drop 2).length∧(s.drop 2).getD ((s.drop 2).length-2) 0=0 then(2,(s.drop 2).take ((s.drop 2).length-2),((s.drop 2).getD ((s.drop 2).length-1) 0).toNat)else(0,[],0)
def DN(s:Bs):(Int×Bs×Int)×Int:=if Ca (BX s).1 (BX s).2.1 (BX s).2.2≠0 then((0,[],0),4)else(BX s,0)
def kyD(k:Int×Bs×Int):D:= .agg [.int .u8 k.1,.str k.2.1,.int .i64 k.2.2]
def vT(s:Bs):(BX s).2.1.length<=s.length:=by
 grind [BX]
def S97:=Ao [(106,Ac zL)]
def R97:=RF S97 aV0 [.cell (some 3) 2] 64
def aYj:Kq R97 52:=Am (Ai func52) (Aa aK6 Ad)
def aRv(s:Bs)(hl:s.length<=1000000):R97 [.str s]=some (kyD (BX s)):=by
 refine Al (Qa rfl) ?_;unfold aV0;have c:∀a b:UInt8,zL [.str s,.str [a,b]]=some (.tup [.str (if B7 s [a,b]=true then s.drop 2 else s),.bool (B7 s [a,b])]):=λ_ _=>rfl
 unfold BX kyD;by_cases c1:s=[115,47,109,111,117,110,116,115]
 ·have v:=eq_true c1;simp only[G7,↓C2,GY,simprocAttr,v]
  all_goals exact Y0
 have v:=eq_false c1;by_cases w:s=[115,47,114,105,110,103]
 ·have p:=eq_true w;simp only[G7,↓C2,GY,simprocAttr,v,p]
  all_goals exact Y0
 have p:=eq_false w;cases c3:B7 s [109,47]with
 |true=>
  simp only[G7,↓C2,GY,simprocAttr,Ae S97 106,c,v,p,c3]
  all_goals exact Y0
 |false=>
  cases c4:B7 s [116,47]with
  |true=>
   simp only[G7,↓C2,GY,simprocAttr,Ae S97 106,c,v,p,c3,c4]
   all_goals exact Y0
  |false=>
   cases c5:B7 s [100,47]with
   |false=>
    simp only[G7,↓C2,GY,simprocAttr,Ae S97 106,c,v,p,c3,c4,c5]
    all_goals exact Y0
   |true=>
    have ia:(s.drop 2).length<=1000000:=XO
    generalize i:s.drop 2=r at *;by_cases c6:2<r.length
    ·have e:((2:Int)<(r.length:Int))=True:=eq_true O;have n:IntKind.i64.wrap ((r.length:Int)-2)=((r.length-2:Nat):Int):=by rw[Hu O O];omega
     have w2:IntKind.i64.wrap (((r.length-2:Nat):Int)+1)=((r.length-1:Nat):Int):=Xh
     have t:(0:Int)<=((r.length-2:Nat):Int):=O
     have f:(0:Int)<=((r.length-1:Nat):Int):=O
     have q:(((r.length-2:Nat):Int)<=((r.length:Nat):Int))=True:=eq_true O;have k:r[r.length-2]?=some (r.getD (r.length-2) 0):=by simp[Zx,Qi (show r.length-2<r.length by omega)]
     have j:r[r.length-1]?=some (r.getD (r.length-1) 0):=by simp[Zx,Qi (show r.length-1<r.length by omega)]
     have o:((r.getD (r.length-2) 0).toNat:Int)=0↔r.getD (r.length-2) 0=0:=by
      constructor
      ·intro h;exact UInt8.toNat_inj.1 (by
        have:(r.getD (r.length-2) 0).toNat=0:=O
        rw[this];rfl)
      ·intro h;rw[h];rfl
     have g:IntKind.i64.wrap ((r.getD (r.length-1) 0).toNat:Int)=((r.getD (r.length-1) 0).toNat:Int):=Hu O (by have:=(r.getD (r.length-1) 0).toNat_lt;omega);generalize r.getD (r.length-1) 0=y at *;generalize r.getD (r.length-2) 0=x at *;by_cases z:x=0
     ·have d:((x.toNat:Int)=0)=True:=eq_true (o.2 z);simp only[G7,↓C2,GY,simprocAttr,Ae S97 106,c,v,p,c3,c4,c5,e,n,w2,t,f,q,k,j,d,g,Qh];refine AV ?_;simp only[G7,↓C2,GY,simprocAttr]
      all_goals exact Y0
     ·have d:((x.toNat:Int)=0)=False:=eq_false (λh=>z (o.1 h));simp only[G7,↓C2,GY,simprocAttr,Ae S97 106,c,v,p,c3,c4,c5,e,n,t,k,d,Qh]
      all_goals exact Y0
    ·have e:((2:Int)<(r.length:Int))=False:=eq_false O;simp only[G7,↓C2,GY,simprocAttr,Ae S97 106,c,v,p,c3,c4,c5,e]
     all_goals exact Y0
def S38:=Ao [(52,Ac R97),(53,Ac F98)]
def R38:=RF S38 aWj [.cell (some 3) 2,.t 3] 12
def aYw:Kq R38 22:=Am (Ai func22) (Aa aYj (Aa aHw Ad))
def aRE(s:Bs)(hl:s.length<=1000000):R38 [.str s]=some (.tup [kyD (DN s).1,.int .i64 (DN s).2]):=by
 refine Al (Qa rfl) ?_;unfold aWj;have a:=aRv s hl;have z:=aFY (k:=(BX s).1) (n:=(BX s).2.2) (name:=(BX s).2.1) (by have:=vT s;omega);unfold DN;unfold kyD at *;generalize Ca (BX s).1 (BX s).2.1 (BX s).2.2=e at *;generalize BX s=g at *;by_cases b:e=0
 ·subst b;simp only[G7,↓C2,GY,simprocAttr,Ae S38 52,a,Ae S38 53,z]
  all_goals exact Y0
 ·have h:=eq_false b;simp only[G7,↓C2,GY,simprocAttr,Ae S38 52,a,Ae S38 53,z,h]
  all_goals exact Y0
def aWr:=y0 Tryz.f156 [(2,[(3,1),(4,1)])] []
def aWh:=y0 f232 [] []
def aGB(w:World)(k:Nat)(t:0<k)(o:k<=1000000):
  Calls Qf 283 #[.slice none 0 0,.int .i64 (k:Int)] w λe s=>e= .returned (.slice (some ⟨w.heap.size,0,none⟩) 0 (grownCap w k 0 9))∧s=w.drew.alloc (.cells (Builtin.zeroCells #[.string .empty] k++Builtin.zeroCells #[.string .empty] (grownCap w k 0 9-k)) 9):=by
 have z:=Lib.run_append_nil_zeros (P:=Qf) w 23 3 23 9 Tryz.t9 (.string .empty) .i64 .i64 underlying23 underlying3 Z Z k t V O (by show k*16<=_;omega)
 go_enter func283,ntmps283
 go_wp2_with (first|(at_builtin;refine Lib.wpList_append_run _ rfl _ _ _ _ rfl _ _ rfl rfl _ _ z ?_))
 all_goals go_ret
 all_goals exact Y5
def aYi:(DS 9).ok Qf 283:=by
 refine ML (sz:=1) ⟨_,func283,Z,Z⟩ V ⟨Tryz.t9,(.string .empty),Z,Z,Z,Z⟩ (λw k z o=>?_);refine(aGB w k z o).mono ?_;rintro e t ⟨rfl,rfl⟩;refine⟨_,_,grownCap_le_maxLen w k 0 9 Xp,?_,rfl,rfl⟩;have u:=grownCap_ge w k 0 9;simp only[Zf,size_zeroCells];simp;omega
def aAg(w:World)(k:Nat)(t:0<k)(o:k<=1000000):
  Calls Qf 284 #[.slice none 0 0,.int .i64 (k:Int)] w λe s=>e= .returned (.slice (some ⟨w.heap.size,0,none⟩) 0 (grownCap w k 0 4))∧s=w.drew.alloc (.cells (Builtin.zeroCells #[.bool false] k++Builtin.zeroCells #[.bool false] (grownCap w k 0 4-k)) 4):=by
 have z:=Lib.run_append_nil_zeros (P:=Qf) w 160 3 160 4 Tryz.t4 (.bool false) .i64 .i64 underlying160 underlying3 Z Z k t V O (by show k*1<=_;omega)
 go_enter func284,ntmps284
 go_wp2_with (first|(at_builtin;refine Lib.wpList_append_run _ rfl _ _ _ _ rfl _ _ rfl rfl _ _ z ?_))
 all_goals go_ret
 all_goals exact Y5
def aVP:(DS 4).ok Qf 284:=by
 refine ML (sz:=1) ⟨_,func284,Z,Z⟩ V ⟨Tryz.t4,(.bool false),Z,Z,Z,Z⟩ (λw k z o=>?_);refine(aAg w k z o).mono ?_;rintro e t ⟨rfl,rfl⟩;refine⟨_,_,grownCap_le_maxLen w k 0 4 Xp,?_,rfl,rfl⟩;have u:=grownCap_ge w k 0 4;simp only[Zf,size_zeroCells];simp;omega
def aAf(w:World)(k:Nat)(t:0<k)(o:k<=1000000):
  Calls Qf 285 #[.slice none 0 0,.int .i64 (k:Int)] w λe s=>e= .returned (.slice (some ⟨w.heap.size,0,none⟩) 0 (grownCap w k 0 23))∧s=w.drew.alloc (.cells (Builtin.zeroCells #[.slice none 0 0] k++Builtin.zeroCells #[.slice none 0 0] (grownCap w k 0 23-k)) 23):=by
 have z:=Lib.run_append_nil_zeros (P:=Qf) w 161 3 161 23 t23 (.slice none 0 0) .i64 .i64 underlying161 underlying3 Z Z k t V O (by show k*24<=_;omega)
 go_enter func285,ntmps285
 go_wp2_with (first|(at_builtin;refine Lib.wpList_append_run _ rfl _ _ _ _ rfl _ _ rfl rfl _ _ z ?_))
 all_goals go_ret
 all_goals exact Y5
def aVO:(DS 23).ok Qf 285:=by
 refine ML (sz:=1) ⟨_,func285,Z,Z⟩ V ⟨t23,(.slice none 0 0),Z,Z,Z,Z⟩ (λw k z o=>?_);refine(aAf w k z o).mono ?_;rintro e t ⟨rfl,rfl⟩;refine⟨_,_,grownCap_le_maxLen w k 0 23 Xp,?_,rfl,rfl⟩;have u:=grownCap_ge w k 0 23;simp only[Zf,size_zeroCells];simp;omega
def aVS:Fn Qf 229 36 (Gu 9 9 1 16 283) [.t 2]:=⟨f229,_,func229,rfl,Z,rfl,Z,Z⟩
def S39:=Ao [(283,DS 9)]
def R39:=RF S39 (Gu 9 9 1 16 283) [.t 2] 36
def aUV:Kq R39 229:=Am aVS (Aa aYi Ad)
def nH{nl:Bool}{xs:List D}{x:D}(hl:xs.length<=1000)(j:(xs++[x]).all (iH 1)=true):R39 [.slice false [] [.slice nl [] xs,.slice false [] [x]]]=some (.slice false [] (xs++[x])):=
 Al (Qa rfl) (RQ (P:=Qf) (f:=39) O rfl (by simp[Fh]) (Qa rfl) U Xb j λt m z=>⟨rfl,rfl⟩)
def aVR:Fn Qf 230 36 (Gu 9 4 1 1 284) [.t 2]:=⟨f230,_,func230,rfl,Z,rfl,Z,Z⟩
def S40:=Ao [(284,DS 4)]
def R40:=RF S40 (Gu 9 4 1 1 284) [.t 2] 36
def aYv:Kq R40 230:=Am aVR (Aa aVP Ad)
def aRz{nl:Bool}{xs:List D}{x:D}(hl:xs.length<=1000)(j:(xs++[x]).all (iH 1)=true):R40 [.slice false [] [.slice nl [] xs,.slice false [] [x]]]=some (.slice false [] (xs++[x])):=
 Al (Qa rfl) (RQ (P:=Qf) (f:=40) O rfl (by simp[Fh]) (Qa rfl) U Xb j λt m z=>⟨rfl,rfl⟩)
def aVQ:Fn Qf 231 36 (Gu 9 23 1 24 285) [.t 2]:=⟨f231,_,func231,rfl,Z,rfl,Z,Z⟩
def S41:=Ao [(285,DS 23)]
def R41:=RF S41 (Gu 9 23 1 24 285) [.t 2] 36
def aYu:Kq R41 231:=Am aVQ (Aa aVO Ad)
def aRy{nl:Bool}{xs:List D}{x:D}(hl:xs.length<=1000)(j:(xs++[x]).all (iH 1)=true):R41 [.slice false [] [.slice nl [] xs,.slice false [] [x]]]=some (.slice false [] (xs++[x])):=
 Al (Qa rfl) (RQ (P:=Qf) (f:=41) O rfl (by simp[Fh]) (Qa rfl) U Xb j λt m z=>⟨rfl,rfl⟩)
def strsD(l:List Bs):List D:=l.map .str
def aAw(l:List Bs):aD (strsD l) 1=1:=Xy
def AS(l:List Bs):(strsD l).length=l.length:=Qx ..
def DK{l:List Bs}{j:Nat}(h:j<l.length):(strsD l)[j]?=some (.str l[j]):=by simp[strsD,Qi h]
structure Kn where
 es:List (Bs×Bs×Bool)
 ls:List (Bs×Bool×List Bs)
def lsD(x:Bs×Bool×List Bs):D:= .slice x.2.1 [] (strsD x.2.2)
def HG(k:Kn):List D:=[.slice k.es.isEmpty [] (k.es.map λx=> .str x.1),.slice k.es.isEmpty [] (k.es.map λx=> .str x.2.1),.slice k.es.isEmpty [] (k.es.map λx=> .bool x.2.2),.slice k.ls.isEmpty [] (k.ls.map λx=> .str x.1),.slice k.ls.isEmpty [] (k.ls.map lsD)]
def aEp{α:Type}{f:α->D}(h:∀x,iH 1 (f x)=true)(l:List α)(y:α):(l.map f++[f y]).all (iH 1)=true:=by
 simp_all
def aWJ{α:Type}(l:List α)(x:α):(l++[x]).isEmpty=false:=Xy
def S42:=Ao []
def R42:=RF S42 aWh [.t 2] 8
def aYt:Kq R42 232:=Am (Ai func232) Ad
def aRx{nl:Bool}{l:List Bs}(hl:l.length<=100000)(g:nl=true->l=[]):R42 [.slice nl [] (strsD l)]=some (.slice nl [] (strsD l)):=by
 refine Al (Qa rfl) ?_;unfold aWh;cases nl with
 |true=>
  rw[g rfl];simp only[↓C2,G8,H_,GY,simprocAttr]
  all_goals exact Y0
 |false=>
  simp only[↓C2,G8,Hj,GY,simprocAttr];refine As.intro ⟨by rw[AS];omega,aAw l,.inr ⟨rfl,U⟩⟩ ?_;simp only[↓C2,G_,GY,simprocAttr]
def S12:=Ao [(229,Ac R39),(230,Ac R40)]
def R12:=RF S12 aWs [.cell (some 5) 8] 31
def aYz:Kq R12 155:=Am (Ai func155) (Aa aUV (Aa aYv Ad))
def aR9(k:Kn)(z ea:Bs)(j:Bool)(hl:k.es.length<=1000):R12 [.agg (HG k),.str z,.str ea,.bool j]=some (.agg (HG {k with es:=k.es++[(z,ea,j)]})):=by
 refine Al (Qa rfl) ?_;unfold aWs;have u:=nH (nl:=k.es.isEmpty) (xs:=k.es.map λx=> .str x.1) (x:= .str z) Xk (aEp (f:=λx:Bs×Bs×Bool=> .str x.1) (λ_=>rfl) k.es (z,ea,j));have y:=nH (nl:=k.es.isEmpty) (xs:=k.es.map λx=> .str x.2.1) (x:= .str ea) Xk (aEp (f:=λx:Bs×Bs×Bool=> .str x.2.1) (λ_=>rfl) k.es (z,ea,j));have i:=aRz (nl:=k.es.isEmpty) (xs:=k.es.map λx=> .bool x.2.2) (x:= .bool j) Xk (aEp (f:=λx:Bs×Bs×Bool=> .bool x.2.2) (λ_=>rfl) k.es (z,ea,j));unfold HG;simp only[QZ,QD,Q1,aWJ];simp only[G7,↓C2,GY,simprocAttr,Ae S12 229,u,y,Ae S12 230,i]
 all_goals exact Y0
def S13:=Ao [(229,Ac R39),(231,Ac R41),(232,Ac R42)]
def R13:=RF S13 aWr [.cell (some 5) 6] 23
def aYy:Kq R13 156:=Am (Ai func156) (Aa aUV (Aa aYu (Aa aYt Ad)))
def aR8(k:Kn)(p:Bs)(nl:Bool)(l:List Bs)(hl:k.ls.length<=1000)(o:l.length<=100000)(g:nl=true->l=[]):R13 [.agg (HG k),.str p,.slice nl [] (strsD l)]=some (.agg (HG {k with ls:=k.ls++[(p,nl,l)]})):=by
 refine Al (Qa rfl) ?_;unfold aWr;have u:=nH (nl:=k.ls.isEmpty) (xs:=k.ls.map λx=> .str x.1) (x:= .str p) Xk (aEp (f:=λx:Bs×Bool×List Bs=> .str x.1) (λ_=>rfl) k.ls (p,nl,l));have y:=aRx (nl:=nl) (l:=l) o g;have i:=aRy (nl:=k.ls.isEmpty) (xs:=k.ls.map lsD) (x:=lsD (p,nl,l)) Xk (aEp (f:=lsD) (λ_=>rfl) k.ls (p,nl,l));have n:lsD (p,nl,l)= .slice nl [] (strsD l):=rfl;rw[n]at i;unfold HG;simp only[QZ,QD,Q1,aWJ,n];simp only[G7,↓C2,GY,simprocAttr,Ae S13 229,u,Ae S13 232,y,Ae S13 231,i];refine AV ?_;simp only[G7,↓C2,GY,simprocAttr]
 all_goals exact Y0
def BU:List Bs->Bs->Int
 |[],_=>-1
 |x::r,s=>if 0<=BU r s then BU r s+1 else if x=s then 0 else-1
def Fd:∀(l:List Bs)(s:Bs),-1<=BU l s∧BU l s<l.length
 |[],s=>by simp[BU]
 |x::r,s=>by
  have:=Fd r s;unfold BU;simp only[Qk];split
  ·omega
  ·split<;>omega
def Rn:∀{l:List Bs} {s:Bs},(∀i (h:i<l.length),l[i]≠s)->BU l s=-1
 |[],s,_=>rfl
 |x::r,s,h=>by
  have ih:=Rn (l:=r) (s:=s) (λi hi=>h (i+1) XZ);have z:x≠s:=h 0 U;simp[BU,ih,z]
def dO:∀{l:List Bs} {s:Bs} {j:Nat} (d:j<l.length),l[j]=s->(∀i (h:i<l.length),j<i->l[i]≠s)->BU l s=j
 |x::r,s,0,d,hx,h=>by
  have ih:=Rn (l:=r) (s:=s) (λi hi=>h (i+1) XZ O);have z:x=s:=hx;simp[BU,ih,z]
 |x::r,s,j+1,d,hx,h=>by
  have ih:=dO (l:=r) (s:=s) (j:=j) Xv (by simpa using hx) (λi hi k=>h (i+1) XZ O);unfold BU;rw[if_pos O,ih];omega
def aY4:=Ao []
def yU:=RF aY4 aMZ [.t 4] 20
def aLm:Kq yU 270:=Am (Ai func270) Ad
def sD{nl:Bool}{l:List Bs}(q:Bs)(hl:l.length<=1000):yU [.slice nl [] (strsD l),.str q]=some (.int .i64 (BU l q)):=by
 refine Al (Qa rfl) ?_;unfold aMZ;have b:IntKind.i64.wrap ((l.length:Int)-1)=(l.length:Int)-1:=Hu O O;simp only[↓C2,G8,simprocAttr,AS,b];refine Bv (n:=l.length) (I:=λj y=>y.s 0= .slice nl [] (strsD l)∧y.s 1= .str q∧y.s 5= .int .i64 ((l.length:Int)-1-j)∧∀i (h:i<l.length),l.length<=i+j->l[i]≠q) (λj r ih y g p=>?_) (λy g p=>?_) 0 (Qy _) _ _ ⟨rfl,rfl,by rw[show((0:Nat):Int)=0 from rfl,Int.sub_zero];rfl,λi h f=>O⟩
 ·obtain⟨w,m,c⟩:=y;obtain⟨z,u,a,ia⟩:=p;simp only at z u a;refine Af VN.eq_1 ?_;have ab:(0:Int)<=(l.length:Int)-1-j:=by omega
  have t:IntKind.i64.wrap ((l.length:Int)-1-j-1)=(l.length:Int)-1-((j+1:Nat):Int):=Xh
  have hi:((l.length:Int)-1-j).toNat=l.length-1-j:=O
  have x:=DK (l:=l) (j:=l.length-1-j) O;by_cases d:l[l.length-1-j]' O=q
  ·have e:=dO O d (λi h f=>ia i h O);have o:=eq_true d;have v:((l.length-1-j:Nat):Int)=(l.length:Int)-1-j:=by omega
   simp only[↓C2,G_,GY,simprocAttr,z,u,a,ab,hi,x,o];rw[e,v]
   all_goals exact Y0
  ·have o:=eq_false d;simp only[↓C2,G_,GY,simprocAttr,z,u,a,ab,hi,x,o,t];refine ih _ _ ⟨z,u,rfl,λi h f=>?_⟩;by_cases k:l.length<=i+j
   ·exact ia i h k
   ·grind
 ·obtain⟨z,u,a,ia⟩:=p;refine Af VN.eq_1 ?_;have ab:¬(0:Int)<=(l.length:Int)-1-(l.length:Int):=by omega
  have e:=Rn (l:=l) (s:=q) (λi h=>ia i h O);simp only[↓C2,G_,GY,simprocAttr,a,ab];rw[e]
  all_goals exact Y0
def FB(k:Kn):List Bs:=k.es.map (·.1)
def C5(k:Kn)(q:Bs):Bs×Bool×Bool:=if BU (FB k) q<0 then([],false,false)else((k.es.getD (BU (FB k) q).toNat ([],[],false)).2.1,(k.es.getD (BU (FB k) q).toNat ([],[],false)).2.2,true)
def Fm(k:Kn)(q:Bs):Bool×List Bs×Bool:=if BU (k.ls.map (·.1)) q<0 then(true,[],false)else((k.ls.getD (BU (k.ls.map (·.1)) q).toNat ([],true,[])).2.1,(k.ls.getD (BU (k.ls.map (·.1)) q).toNat ([],true,[])).2.2,true)
def aRs:=Ao [(270,Ac yU)]
def OS:=RF aRs aNI [.t 4,.t 5,.t 6] 37
def aLq:Kq OS 220:=Am (Ai func220) (Aa aLm Ad)
def Pw(k:Kn)(q:Bs)(hl:k.es.length<=1000):OS [.agg (HG k),.str q]=some (.tup [.str (C5 k q).1,.bool (C5 k q).2.1,.bool (C5 k q).2.2]):=by
 refine Al (Qa rfl) ?_;unfold aNI;have a:yU [.slice k.es.isEmpty [] (k.es.map λx=> .str x.1),.str q]=some (.int .i64 (BU (FB k) q)):=by
  have e:=sD (nl:=k.es.isEmpty) (l:=FB k) q (by simpa[FB]using hl);simpa[strsD,FB,Function.comp_def]using e
 have m:=Fd (FB k) q;have na:(FB k).length=k.es.length:=Qx ..;rw[na]at m;unfold C5 HG;generalize BU (FB k) q=i at *;by_cases c:i<0
 ·simp only[↓C2,G_,GY,simprocAttr,Ae aRs 270,a,c]
  all_goals exact Y0
 ·have hi:i.toNat<k.es.length:=by omega
  have b:(0:Int)<=i:=O
  have c1:(i<(k.es.length:Int))=True:=eq_true O;have r:(k.es.map λx=>D.str x.2.1)[i.toNat]?=some (.str (k.es.getD i.toNat ([],[],false)).2.1):=by simp[Qi hi]
  have j:(k.es.map λx=>D.bool x.2.2)[i.toNat]?=some (.bool (k.es.getD i.toNat ([],[],false)).2.2):=by simp[Qi hi]
  generalize k.es.getD i.toNat ([],[],false)=x at *;simp only[↓C2,G_,GY,simprocAttr,Ae aRs 270,a,c,b,c1,r,j,Qx];refine AV ?_;simp only[↓C2,G_,GY,simprocAttr]
  all_goals exact Y0
def aRt:=Ao [(270,Ac yU)]
def nI:=RF aRt aNL [.t 4,.t 5] 27
def aVM:Kq nI 215:=Am (Ai func215) (Aa aLm Ad)
def aJV(k:Kn)(q:Bs)(hl:k.ls.length<=1000):nI [.agg (HG k),.str q]=some (.tup [.slice (Fm k q).1 [] (strsD (Fm k q).2.1),.bool (Fm k q).2.2]):=by
 refine Al (Qa rfl) ?_;unfold aNL;have a:yU [.slice k.ls.isEmpty [] (k.ls.map λx=> .str x.1),.str q]=some (.int .i64 (BU (k.ls.map (·.1)) q)):=by
  have e:=sD (nl:=k.ls.isEmpty) (l:=k.ls.map (·.1)) q Xk;simpa[strsD,Function.comp_def]using e
 have m:=Fd (k.ls.map (·.1)) q;have na:(k.ls.map (·.1)).length=k.ls.length:=Qx ..;rw[na]at m;unfold Fm HG;generalize BU (k.ls.map (·.1)) q=i at *;by_cases c:i<0
 ·have b:¬(0:Int)<=i:=by omega
  simp only[↓C2,G_,GY,simprocAttr,Ae aRt 270,a,c,b]
  all_goals exact Y0
 ·have hi:i.toNat<k.ls.length:=by omega
  have b:(0:Int)<=i:=O
  have c1:((k.ls.length:Int)<=i)=False:=eq_false O;have r:(k.ls.map lsD)[i.toNat]?=some (.slice (k.ls.getD i.toNat ([],true,[])).2.1 [] (strsD (k.ls.getD i.toNat ([],true,[])).2.2)):=by simp[Qi hi,lsD]
  generalize k.ls.getD i.toNat ([],true,[])=x at *;simp only[↓C2,G_,GY,simprocAttr,Ae aRt 270,a,c,b,c1,r,Qx]
  all_goals exact Y0
structure Dk where
 n1:Bool
 its:List (Bs×Bs×Bool)
 n2:Bool
 lss:List (Bs×Bool×List Bs)
def AY(k:Kn)(q:Bs)(li:Bool)(d:Dk):Kn:=
 if li=true then {k with ls:=k.ls++[(q,((d.lss.find? λx=>decide (x.1=q)).getD ([],true,[])).2)]}else {k with es:=k.es++[(q,((d.its.find? λx=>decide (x.1=q)).getD ([],[],false)).2)]}
def aMy:=y0 f182 [] []
def aNo:=y0 f120 [] []
def aNp:=y0 f119 [] []
def aMp:=y0 f125 [] []
def aMo:=y0 f126 [] []
def aMn:=y0 f127 [] []
def plV:D->Value
 | .str s=> .string ⟨s.toArray⟩
 | .int k n=> .int k n
 | .bool b=> .bool b
 |_=>undef
def aPj{w:World}{g:Gh}{d:D}{v:Value}(h:Rep w g d v)(c:d.plain=true):v=plV d:=by
 cases h with
 |bool b=>rfl
 |int k n=>rfl
 |str s=>rfl
 |_=>cases c
def UU {P:Program} {f:FuncId} {F:List D→Option D} (a:∃n,P.funcs[f]?=some n∧n.body.isSome=true∧(n.name== "runtime.NumGoroutine")=false)
  (h:∀ds r,F ds=some r->(∀d∈ds,d.plain=true)∧∃v,(∀w g,Rep w g r v)∧∀w:World,Calls P f (ds.map plV).toArray w λe w'=>e= .returned v∧Below w.heap.size w w'):(Ac F).ok P f:=by
 refine⟨a,λds m m' fr _=>rfl,?_⟩;intro B w0 w m g fr ds vs r u hi b hl y z;simp only[Ac]at z;split at z
 ·rename_i ia;rw[QY]at z;obtain⟨r',x,z⟩:=z;simp only[QC]at z;obtain⟨rfl,rfl⟩:=z;obtain⟨c,v,hv,s⟩:=h _ _ x;have q:vs=(ds.map D.un).map plV:=by
   apply List.ext_getElem?;intro j;by_cases hj:j<vs.length
   ·have k:j<ds.length:=by omega
    have e:=(y j _ _ (Qi k) (Qi hj)).un;have p:(ds.map D.un)[j]?=some ds[j].un:=by rw[Zv,Qi k];rfl
    rw[Qi hj,Zv,p,aPj e (c _ (List.mem_of_getElem? p))];rfl
   ·simp_all
  subst q;refine(s w).mono ?_;rintro ev w' ⟨rfl,t⟩;exact⟨_,g.over w w',rfl,hi.over t,Ht.over hi.gz t,hv _ _,λi o _=>o⟩
 ·cases z
def IX:List D->Option D
 |[.str s,.str [c]]=>some (.int .i64 (Lib.indexByte s c))
 |_=>none
def aVm:Kq IX 164:=UU ⟨_,func164,Z,Z⟩ λds r h=>by
 unfold IX at h;split at h
 ·rename_i s c;simp only[Qm]at h;subst h;refine⟨λd p=>?_,_,λw g=> .int _ _,λw=>?_⟩
  ·simp only[QN,QU,or_false]at p;rcases p with rfl|rfl<;>rfl
  ·refine(Go.Proofs.Any.strings_Index_one (P:=Qf) (ρ:=aL) {aN with} ⟨s.toArray⟩ c w).mono ?_;rintro e t ⟨rfl,rfl⟩;exact⟨rfl,Below.refl _ _⟩
 ·cases h
def aU3:Kq IX 237:=UU ⟨_,func237,Z,Z⟩ λds r h=>by
 unfold IX at h;split at h
 ·rename_i s c;simp only[Qm]at h;subst h;refine⟨λd p=>?_,_,λw g=> .int _ _,λw=>?_⟩
  ·simp only[QN,QU,or_false]at p;rcases p with rfl|rfl<;>rfl
  ·refine(Go.Proofs.Any.stringslite_Index_one (P:=Qf) (ρ:=aL) {aN with} ⟨s.toArray⟩ c w).mono ?_;rintro e t ⟨rfl,rfl⟩;exact⟨rfl,Below.refl _ _⟩
 ·cases h
def aCi:∀(s:Bs)(c:UInt8),decide (0<=Lib.indexByte s c)=s.any (·==c)
 |[],c=>rfl
 |b::l,c=>by
  have ih:=aCi l c;unfold Lib.indexByte;cases hb:b==c with
  |true=>simp[hb]
  |false=>
   simp only[ZE,hb,ZF,←ih];rw[if_neg QK];cases h1:Lib.indexByte l c==-1 with
   |true=>rw[if_pos rfl];have:=beq_iff_eq.1 h1;rw[this]
   |false=>
    rw[if_neg QK];have q:Lib.indexByte l c≠-1:=by intro e;rw[e]at h1;simp at h1
    have u:-1<=Lib.indexByte l c:=by
     clear ih hb h1 q;induction l with
     |nil=>simp[Lib.indexByte]
     |cons x r ih=>unfold Lib.indexByte;split<;>first|omega|(split<;>omega)
    congr 1;exact propext O
def Oo(s:Bs)(c:UInt8):Bool:=s.any (·==c)
def Vb(s:Bs):Bool:=decide (s≠[])&&(decide (s≠[45])&&(decide (s.length<=64)&&(!Oo s 32&&!Oo s 44)))
def aWV:=Ao [(164,Ac IX)]
def aRT:=RF aWV aMy [.t 4] 9
def aVf:Kq aRT 182:=Am (Ai func182) (Aa aVm Ad)
def aJj(s:Bs)(c:UInt8):aRT [.str s,.str [c]]=some (.bool (Oo s c)):=by
 refine Al (Qa rfl) ?_;unfold aMy;have a:IX [.str s,.str [c]]=some (.int .i64 (Lib.indexByte s c)):=rfl;have e:=aCi s c;simp only[↓C2,G_,GY,simprocAttr,Ae aWV 164,a];rw[e]
 all_goals exact Y0
def aRp:=Ao [(182,Ac aRT)]
def aXn:=RF aRp aNo [.t 2] 24
def aVz:Kq aXn 120:=Am (Ai func120) (Aa aVf Ad)
def aJH(s:Bs):aXn [.str s]=some (.bool (Vb s)):=by
 refine Al (Qa rfl) ?_;unfold aNo;have a:=aJj s;unfold Vb;by_cases c1:s=[]
 ·have v:=eq_true c1;simp only[↓C2,G_,GY,simprocAttr,v]
  all_goals exact Y0
 have v:=eq_false c1;by_cases p:s=[45]
 ·have x:=eq_true p;simp only[↓C2,G_,GY,simprocAttr,v,x]
  all_goals exact Y0
 have x:=eq_false p;by_cases y:s.length<=64
 ·have f:((s.length:Int)<=64)=True:=eq_true O;cases c4:Oo s 32 with
  |true=>
   simp only[↓C2,G_,GY,simprocAttr,v,x,f,c4,Ae aRp 182,a]
   all_goals exact Y0
  |false=>
   simp only[↓C2,G_,GY,simprocAttr,v,x,f,c4,Ae aRp 182,a]
   all_goals exact Y0
 ·have f:((s.length:Int)<=64)=False:=eq_false O;simp only[↓C2,G_,GY,simprocAttr,v,x,f]
  all_goals exact Y0
def aQ0:(IY λc x=>match x with| .str s=>some (.bool (!Vb s))|_=>none).ok Qf 119:=by
 obtain⟨S,g,hl⟩:=Bp (Aa aVz Ad);have b:=hl 120 _ rfl;clear hl;refine N0 (S:=S) g (Ai func119:Fn Qf 119 6 aNp [.t 2]) (λx caps m fr c d ma z v hl=>⟨O,?_⟩);split at z
 ·rename_i s;simp only[Qm]at z;subst z;have a:=aJH s;unfold aNp;simp only[↓C2,G_,GY,simprocAttr,Ab b,a]
  try exact λi o y h=>h
 ·cases z
def KN:D->D->Option D:=λc x=>match x with| .str s=>some (.bool (!Vb s))|_=>none
def aIc:(FQ 119 none KN).ok Qf 181:=NP O aLI rfl aQ0
def aQU:(iI 119 none KN).ok Qf 118:=qY O aLM aIc
def xI{l:List Bs}{nl:Bool}{t:Id}(hl:l.length<=1000000)(m:G6)(fr:Id):
  (iI 119 none KN).ex [.slice nl t (strsD l),.fn 119 []] m fr=some (.bool (l.any λs=>!Vb s),[]):=by
 have e:(strsD l).map (KN .junk)=(l.map λs=>!Vb s).map λb=>some (.bool b):=by
  simp only[strsD,QQ];exact Q2 λr _=>rfl
 have v:(strsD l).all (qJ none)=true:=by
  rw[QS];intro x q;obtain⟨r,_,rfl⟩:=QL.1 q;rfl
 simp only[iI,AS,hl,v,and_self,if_true,FS,Qj,e,Dx,Qv];simp only[Zt];rfl
def aYZ:=Ao []
def aRX:=RF aYZ aMB [.t 4] 26
def aVj:Kq aRX 179:=Am (Ai func179) Ad
def aJo{n1 n2:Bool}{l:List Bs}(hl:l.length<=100000):aRX [.slice n1 [] (strsD l),.slice n2 [] (strsD l)]=some (.bool true):=by
 refine Al (Qa rfl) ?_;unfold aMB;simp only[↓C2,G8,Hj,GY,simprocAttr,AS];refine Bv (n:=l.length) (I:=λj y=>y.s 0= .slice n1 [] (strsD l)∧y.s 1= .slice n2 [] (strsD l)∧y.s 12= .int .i64 l.length∧y.s 13= .int .i64 (j:Int)) (λj d ih y g q=>?_) (λy g q=>?_) 0 (Qy _) _ _ ⟨rfl,rfl,rfl,rfl⟩
 ·obtain⟨e,b,c⟩:=y;obtain⟨z,u,ia,p⟩:=q;simp only at z u ia p;refine Af VI.eq_1 ?_;have k:((j:Int)<l.length):=by omega
  have m:=nJ (j:=j);have t:=wJ (j:=j) O;have x:=DK d;simp only[↓C2,G_,GY,simprocAttr,z,u,ia,p,k,m,Qh,x];refine AV ?_;simp only[↓C2,G8,GY,simprocAttr,p,t];exact ih _ _ ⟨z,u,ia,rfl⟩
 ·obtain⟨z,u,ia,p⟩:=q;refine Af VI.eq_1 ?_;simp only[↓C2,G_,GY,simprocAttr,ia,p,Qz]
  all_goals exact Y0
def aYP:=Ao []
def aRJ:=RF aYP aL6 [.t 4] 26
def aU0:Kq aRJ 244:=Am (Ai func244) Ad
def aI4{n1 n2:Bool}{l:List Rw}(hl:l.length<=100000):aRJ [.slice n1 [] (A5 l),.slice n2 [] (A5 l)]=some (.bool true):=by
 refine Al (Qa rfl) ?_;unfold aL6;simp only[↓C2,G8,Hj,GY,simprocAttr,AQ];refine Bv (n:=l.length) (I:=λj y=>y.s 0= .slice n1 [] (A5 l)∧y.s 1= .slice n2 [] (A5 l)∧y.s 12= .int .i64 l.length∧y.s 13= .int .i64 (j:Int)) (λj d ih y g q=>?_) (λy g q=>?_) 0 (Qy _) _ _ ⟨rfl,rfl,rfl,rfl⟩
 ·obtain⟨e,b,c⟩:=y;obtain⟨z,u,ia,p⟩:=q;simp only at z u ia p;refine Af VF.eq_1 ?_;have k:((j:Int)<l.length):=by omega
  have m:=nJ (j:=j);have t:=wJ (j:=j) O;have x:=Fw d;have w:Bi [.int .i64 l[j].1,.bool l[j].2.1,.bool l[j].2.2] [.int .i64 l[j].1,.bool l[j].2.1,.bool l[j].2.2] [(0,0),(1,1),(1,2)]=some true:=by simp[Bi,LY]
  simp only[Qv,↓C2,G_,GY,simprocAttr,z,u,ia,p,k,m,Qh,x,w];refine AV ?_;simp only[↓C2,G8,GY,simprocAttr,p,t];exact ih _ _ ⟨z,u,ia,rfl⟩
 ·obtain⟨z,u,ia,p⟩:=q;refine Af VF.eq_1 ?_;simp only[↓C2,G_,GY,simprocAttr,ia,p,Qz]
  all_goals exact Y0
def aWW:=Ao [(244,Ac aRJ)]
def aRW:=RF aWW aMA [.t 4] 31
def aVi:Kq aRW 180:=Am (Ai func180) (Aa aU0 Ad)
def aJn(s:Sc)(hl:s.rs.length<=100000):aRW [.agg (Hb s),.agg (Hb s)]=some (.bool true):=by
 refine Al (Qa rfl) ?_;unfold aMA;have a:=aI4 (n1:=s.nl) (n2:=s.nl) hl;unfold Hb;simp only[↓C2,G_,GY,simprocAttr,Ae aWW 244,a]
 all_goals exact Y0
def aXs:List D->Option D:=FX (λs:Bs=>[.str s]) (λ_=>True) (λs=> .str (if s=[]then [45]else s))
def Wh(s:Bs):aXs [.str s]=some (.str (if s=[]then [45]else s)):=B5 (mk:=λs:Bs=>[.str s]) (λa b h=>Xl) trivial
def aTx:Kq aXs 331:=by
 refine Da (S:=λ_=>none) A6 (Ai func331:Fn Qf 331 6 aL9 [.t 2]) (λ_=>U) (λs _=>?_);unfold aL9;cases s with
 |nil=>
  simp only[↓C2,G_,reduceIte,Qc,Qe,and_self]
  all_goals exact Y1
 |cons x r=>
  have v:((x::r)==([]:Bs))=false:=rfl;simp only[↓C2,G_,reduceIte,Qc,Qe,reduceCtorEq]
  all_goals exact Y1
def BJ(n:Nat):Bs:=if n<10 then [Ep n]else if n<100 then [Ep (n / 10),Ep (n % 10)]else [Ep (n / 100),Ep (n / 10 % 10),Ep (n % 10)]
def aSi:List D->Option D:=FX (λn:Nat=>[.int .i64 (n:Int)]) (λn=>n<1000) (λn=> .str (BJ n))
def Wi{n:Nat}(h:n<1000):aSi [.int .i64 (n:Int)]=some (.str (BJ n)):=B5 (mk:=λn:Nat=>[.int .i64 (n:Int)]) (λa b h=>by simp only[Qd,D.int.injEq,true_and,and_true]at h;omega) h
def UA(n:Nat):(n:Int).tmod 10=((n % 10:Nat):Int):=YK
def UB(n:Nat)(h:n<1000):IntKind.i64.wrap ((n:Int).tdiv 10)=((n / 10:Nat):Int):=by
 grind [Hu]
def aKW:Kq aSi 330:=by
 refine Da (S:=λ_=>none) A6 (Ai func330:Fn Qf 330 23 aMa [.t 2]) (λ_=>U) (λn o=>?_);have t0:=Ru (n % 10) O;have q:=Ru (n / 10 % 10) O;have b:=Ru (n / 10 / 10 % 10) O;have m0:=UA n;have w:=UA (n / 10);have k:=UA (n / 10 / 10);have r:=UB n o;have j:=UB (n / 10) O;have z:=UB (n / 10 / 10) O;have z0:(0:Int)<=((n % 10:Nat):Int):=O
 have c:(0:Int)<=((n / 10 % 10:Nat):Int):=O
 have m:(0:Int)<=((n / 10 / 10 % 10:Nat):Int):=O
 have ten:((10:Int)=0)=False:=U
 unfold aMa BJ;by_cases u:n<10
 ·have g:¬((0:Int)<((n / 10:Nat):Int)):=by omega
  have e:n % 10=n:=O
  simp only[↓C2,G_,reduceIte,Qc,Qe,m0,z0,t0,r,ten,ne_eq,Qh,Qk,Qo,Qp];refine Af H6.eq_1 ?_;simp only[↓C2,G_,reduceIte,Qc,Qe,g,u];rw[e,UInt8.ofNat_toNat]
  all_goals exact Y1
 ·have g:((0:Int)<((n / 10:Nat):Int)):=by omega
  by_cases f:n<100
  ·have x:¬((0:Int)<((n / 10 / 10:Nat):Int)):=by omega
   have e:n / 10 % 10=n / 10:=O
   rw[e]at q w c;simp only[↓C2,G_,reduceIte,Qc,Qe,m0,z0,t0,r,ten,ne_eq,Qh,Qk,Qo,Qp];refine Af H6.eq_1 ?_;simp only[↓C2,G_,reduceIte,Qc,Qe,g,w,c,q,j,ten,ne_eq,Qh,Qu,Qk,Qo,Qp,Qg];refine Af H6.eq_1 ?_;simp only[↓C2,G_,reduceIte,Qc,Qe,x,u,f,UInt8.ofNat_toNat,Q_,Zl]
   all_goals exact Y1
  ·have x:((0:Int)<((n / 10 / 10:Nat):Int)):=by omega
   have p:¬((0:Int)<((n / 10 / 10 / 10:Nat):Int)):=O
   have e:n / 10 / 10 % 10=n / 100:=O
   rw[e]at b k m;simp only[↓C2,G_,reduceIte,Qc,Qe,m0,z0,t0,r,ten,ne_eq,Qh,Qk,Qo,Qp];refine Af H6.eq_1 ?_;simp only[↓C2,G_,reduceIte,Qc,Qe,g,w,c,q,j,ten,ne_eq,Qh,Qu,Qk,Qo,Qp,Qg];refine Af H6.eq_1 ?_;simp only[↓C2,G_,reduceIte,Qc,Qe,x,k,m,b,z,ten,ne_eq,Qh,Qr,Qu,Qk,Qo,Qp,Qg];refine Af H6.eq_1 ?_;simp only[↓C2,G_,reduceIte,Qc,Qe,p,u,f,UInt8.ofNat_toNat,Q_,Zl]
   all_goals exact Y1
def aKb:List D->Option D:=FX (λs:Bs=>[.str s]) (λs=>s.length<=1000000) (λs=> .str (Cl s))
def Px{s:Bs}(h:s.length<=1000000):aKb [.str s]=some (.str (Cl s)):=B5 (mk:=λs:Bs=>[.str s]) (λa b h=>Xl) h
def aHL{S:GZ}{l:Bs}{Q:Ex->St->Prop}(hb:l.length<=1000000)
  (p:∀y t,y.s 3= .slice false t (Az (Cl l))->Q (.exit 0) y):
  ∀(n k:Nat)(t:Id) y g,n=l.length-k->k<=l.length->y.s 13= .int .i64 (k:Int)->y.s 12= .int .i64 (l.length:Int)->y.s 11= .slice false [] (Az l)->y.s 3= .slice false t (Az (Cl (l.take k)))->Gw y.m y.c 5 false t->
   Ba S [] Pa Q y g:=by
 intro n;induction n with
 |zero=>
  intro k t y g o v e ia ma i x;refine Af Pa.eq_1 ?_;have:¬((k:Int)<l.length):=O
  simp only[↓C2,G8,Hj,reduceIte,Qe,e,ia,this];refine p _ t ?_;rw[QG O]at i;simp only[↓C2,reduceIte,Qc,i]
 |succ n ih=>
  intro k t y g o v e ia ma i x;refine Af Pa.eq_1 ?_;have u:((k:Int)<l.length):=O
  have d:(0:Int)<=(k:Int):=O
  have na:k<l.length:=O
  have q:(Az l)[(k:Int).toNat]?=some (.int .u8 (l[k].toNat:Int)):=by simp[Az,na]
  have f:IntKind.i64.wrap ((k:Int)+1)=(k:Int)+1:=IntWalk.i64_in _ ⟨O,O⟩;have w:=l[k].toNat_lt;have z:l.take (k+1)=l.take k++[l[k]]:=by rw[Zg,Qi na];rfl
  have r:(l.take k).length=k:=Xb
  have a:(0:Int)<=4:=V
  have a1:=aXJ l[k].toNat O;have a2:=aWK l[k].toNat O;have p1:(0:Int)<=((l[k].toNat / 16:Nat):Int):=O
  have p2:(0:Int)<=((l[k].toNat % 16:Nat):Int):=O
  have j:(((l[k].toNat / 16:Nat):Int)).toNat=l[k].toNat / 16:=Qh _;have q2:(((l[k].toNat % 16:Nat):Int)).toNat=l[k].toNat % 16:=Qh _;have t1:=Ru (l[k].toNat / 16) O;have b:=Ru (l[k].toNat % 16) O;simp only[↓C2,G_,reduceIte,Qc,Qe,Qk,Qo,e,ia,ma,i,u,d,q,a,a1,a2,p1,p2,j,q2,t1,b,false_and,reduceCtorEq];refine As.intro ⟨by rw[B_,Er,r];omega,rfl,x.grow O⟩ ?_;simp only[↓C2,G_,reduceIte,Qc,Qe];refine AV ?_;simp only[↓C2,G_,reduceIte,Qc,Qe,e,f];refine ih (k+1) [y.c+1+3+8] _ _ O O rfl ia ma ?_ ?_
  ·rw[z,vP,Ed];rfl
  ·grind [Gw.new]
def aBj:Kq aKb 14:=by
 refine Da (S:=λ_=>none) A6 (Ai func14:Fn Qf 14 29 aMq [.t 2]) (λ_=>U) (λs m=>?_);have f:IntKind.i64.wrap (2*(s.length:Int))=2*(s.length:Int):=IntWalk.i64_in _ ⟨O,O⟩;have w:(0:Int)<=0:=V
 have b:(0:Int)<=2*(s.length:Int):=O
 have j:2*(s.length:Int)*2<=140737488355328:=O
 have p:(0:Int).toNat=0:=rfl;unfold aMq;simp only[↓C2,G_,reduceIte,Qc,Qe,f,w,b];refine As.intro O ?_;simp only[↓C2,G8,reduceIte,Qc,Qe,p,List.replicate_zero,B_];refine aHL (l:=s) m (λy z u=>?_) s.length 0 [4] _ _ rfl O rfl rfl rfl rfl (.inr ⟨4,rfl,Xa,by simp[BC]⟩);simp only[↓C2,G_,reduceIte,Qc,Qe,u,Cz]
 all_goals exact Y1
end Go.Vd
namespace Go.Proofs
open Go.Shelf
def aP:Go.Shelf.Ren:=⟨λ|156=>69|165=>121|166=>122|169=>123|240=>183|241=>184|276=>245|277=>246|n=>n,λ|31=>23|9=>9|3=>3|4=>4|0=>0|20=>20|72=>196|76=>200|70=>194|37=>108|75=>199|127=>252|164=>309|5=>5|80=>159|n=>n,λ|n=>n⟩
def aX:Go.Proofs.Lays.n156 Qf aP:={
 mixed:=Z
 f156:=func69.trans (congrArg some Z)
 f165:=func121.trans (congrArg some Z)
 f166:=func122.trans (congrArg some Z)
 f169:=func123.trans (congrArg some Z)
 f240:=func183.trans (congrArg some Z)
 f241:=func184.trans (congrArg some Z)
 f276:=func245.trans (congrArg some Z)
 f277:=func246.trans (congrArg some Z)
 t0:=underlying0
 a0:=isAgg0
 z0:=sizeOf0
 v0:=zeroValue0
 t3:=underlying3
 a3:=isAgg3
 z3:=sizeOf3
 v3:=zeroValue3
 t4:=underlying4
 a4:=isAgg4
 z4:=sizeOf4
 v4:=zeroValue4
 t9:=underlying9
 a9:=isAgg9
 z9:=sizeOf9
 v9:=zeroValue9
 t20:=underlying20
 a20:=isAgg20
 z20:=sizeOf20
 v20:=zeroValue20
 t31:=underlying23
 a31:=isAgg23
 z31:=sizeOf23
 v31:=zeroValue23
 t37:=underlying108
 a37:=isAgg108
 z37:=sizeOf108
 v37:=zeroValue108
 t70:=underlying194
 a70:=isAgg194
 z70:=sizeOf194
 v70:=zeroValue194
 t72:=underlying196
 a72:=isAgg196
 z72:=sizeOf196
 v72:=zeroValue196
 t75:=underlying199
 a75:=isAgg199
 z75:=sizeOf199
 v75:=zeroValue199
 t76:=underlying200
 a76:=isAgg200
 z76:=sizeOf200
 v76:=zeroValue200
 t127:=underlying252
 a127:=isAgg252
 z127:=sizeOf252
 v127:=zeroValue252
 t164:=underlying309
 a164:=isAgg309
 z164:=sizeOf309
 v164:=zeroValue309}
def aK:Builder.Extra Qf aP:={
 sizeBuilder:=Z
 liesBuilder:=Z
 t5:=underlying5
 a5:=isAgg5
 z5:=sizeOf5
 v5:=zeroValue5
 infoByte:=Z
 cellsByte:=Z
 sizeByte:=Z
 neB5:=V}
end Go.Proofs
namespace Go.Vd
open Go.Proofs Go.RowKit
inductive Ry where
 |fail (e:Int)
 |done
 |number (n:Int)
 |found (n:Int) (d:Bs)
 |about (s:Sc)
 |names (nl:Bool) (l:List Bs)
 |state (b:Bool)
def z0:List D:=[.int .i64 0,.bool false,.int .i64 0,.slice true [] []]
def Hy:Ry->List D
 | .fail e=>[.int .u8 0,.int .i64 e,.int .i64 0,.str [],.slice true [] [],.int .i64 0,.bool false,.int .i64 0,.slice true [] [],.bool false]
 | .done=>[.int .u8 1,.int .i64 0,.int .i64 0,.str [],.slice true [] [],.int .i64 0,.bool false,.int .i64 0,.slice true [] [],.bool false]
 | .number n=>[.int .u8 2,.int .i64 0,.int .i64 n,.str [],.slice true [] [],.int .i64 0,.bool false,.int .i64 0,.slice true [] [],.bool false]
 | .found n d=>[.int .u8 3,.int .i64 0,.int .i64 n,.str d,.slice true [] [],.int .i64 0,.bool false,.int .i64 0,.slice true [] [],.bool false]
 | .about s=>[.int .u8 4,.int .i64 0,.int .i64 0,.str [],.slice true [] [],.int .i64 s.mx,.bool s.cas,.int .i64 s.la,.slice s.nl [] (A5 s.rs),.bool false]
 | .names nl l=>[.int .u8 5,.int .i64 0,.int .i64 0,.str [],.slice nl [] (strsD l),.int .i64 0,.bool false,.int .i64 0,.slice true [] [],.bool false]
 | .state b=>[.int .u8 6,.int .i64 0,.int .i64 0,.str [],.slice true [] [],.int .i64 0,.bool false,.int .i64 0,.slice true [] [],.bool b]
def aAD:Ry->Prop
 | .about s=>s.rs.length<=1000
 | .names _ l=>l.length<=1000
 |_=>True
def H3:Ry->Int
 | .fail e=>if 1<=e∧e<=99 then 0 else 2
 | .number n=>if 0<=n∧n<=999 then 0 else 2
 | .found n d=>if 0<=n∧n<=999∧d.length<=400 then 0 else 2
 | .about s=>if CV s 6=true then 2 else 0
 | .names _ l=>if l.length<=64∧(l.any λs=>!Vb s)=false then 0 else 2
 |_=>0
def aRq:=Ao [(179,Ac aRX),(180,Ac aRW)]
def aJJ:=RF aRq aNr [.t 4] 52
def aVB:Kq aJJ 116:=Am (Ai func116) (Aa aVj (Aa aVi Ad))
def GW(k e n:Int)(y:Bs)(nl:Bool)(l:List Bs)(s:Sc)(i:Bool)(hl:l.length<=1000)(j:s.rs.length<=1000):aJJ [.agg [.int .u8 k,.int .i64 e,.int .i64 n,.str y,.slice nl [] (strsD l),.int .i64 s.mx,.bool s.cas,.int .i64 s.la,.slice s.nl [] (A5 s.rs),.bool i],.agg [.int .u8 k,.int .i64 e,.int .i64 n,.str y,.slice nl [] (strsD l),.int .i64 s.mx,.bool s.cas,.int .i64 s.la,.slice s.nl [] (A5 s.rs),.bool i]]=some (.bool true):=by
 refine Al (Qa rfl) ?_;unfold aNr;have b:=aJo (n1:=nl) (n2:=nl) (l:=l) O;have a:=aJn s O;unfold Hb at a;simp only[G7,↓C2,GY,simprocAttr,Ae aRq 179,b,Ae aRq 180,a]
 all_goals exact Y0
def aG3(y:Ry)(h:aAD y):aJJ [.agg (Hy y),.agg (Hy y)]=some (.bool true):=by
 have p:strsD []=[]:=rfl;have g:A5 []=[]:=rfl;cases y with
 |fail e=>exact GW 0 e 0 [] true [] sc0 false U XA
 |done=>exact GW 1 0 0 [] true [] sc0 false U XA
 |number n=>exact GW 2 0 n [] true [] sc0 false U XA
 |found n d=>exact GW 3 0 n d true [] sc0 false U XA
 |about s=>exact GW 4 0 0 [] true [] s false U h
 |names nl l=>exact GW 5 0 0 [] nl l sc0 false h XA
 |state b=>exact GW 6 0 0 [] true [] sc0 b U XA
def aY6:=Ao []
def aR5:=RF aY6 aNq [.cell (some 10) 2] 52
def aVA:Kq aR5 117:=Am (Ai func117) Ad
def aJI(y:Ry):aR5 [.agg (Hy y)]=some (.agg (Hy y)):=by
 refine Al (Qa rfl) ?_;unfold aNq;cases y<;>unfold Hy
 all_goals
  simp only[G7,↓C2,GY,simprocAttr]
  all_goals exact Y0
def Wa:=Ao [(117,Ac aR5),(116,Ac aJJ),(25,Ac LB),(118,iI 119 none KN)]
def R92:=RF Wa aV4 [.t 2] 73
def aPX:Kq R92 67:=Am (Ai func67) (Aa aVA (Aa aVB (Aa Ro (Aa aQU Ad))))
def nF(y:Ry)(h:aAD y):R92 [.agg (Hy y)]=some (.int .i64 (H3 y)):=by
 refine Al (Qa rfl) ?_;unfold aV4;have c:=aJI y;have a:=aG3 y h;cases y with
 |fail e=>
  unfold Hy H3 at *;simp only[G7,↓C2,GY,simprocAttr,Ae Wa 117,c,Ae Wa 116,a];refine AV ?_;by_cases c1:1<=e
  ·by_cases p:e<=99
   ·simp only[↓C2,G_,GY,simprocAttr,c1,p]
    all_goals exact Y0
   ·simp only[↓C2,G_,GY,simprocAttr,c1,p]
    all_goals exact Y0
  ·simp only[↓C2,G_,GY,simprocAttr,c1]
   all_goals exact Y0
 |done=>
  unfold Hy H3 at *;simp only[G7,↓C2,GY,simprocAttr,Ae Wa 117,c,Ae Wa 116,a];refine AV ?_;simp only[↓C2,G_,GY,simprocAttr]
  all_goals exact Y0
 |number n=>
  unfold Hy H3 at *;simp only[G7,↓C2,GY,simprocAttr,Ae Wa 117,c,Ae Wa 116,a];refine AV ?_;by_cases c1:0<=n
  ·by_cases p:n<=999
   ·simp only[↓C2,G_,GY,simprocAttr,c1,p,Qo,Zr]
    all_goals exact Y0
   ·simp only[↓C2,G_,GY,simprocAttr,c1,p]
    all_goals exact Y0
  ·simp only[↓C2,G_,GY,simprocAttr,c1]
   all_goals exact Y0
 |found n d=>
  unfold Hy H3 at *;simp only[G7,↓C2,GY,simprocAttr,Ae Wa 117,c,Ae Wa 116,a];refine AV ?_;by_cases c1:0<=n
  ·by_cases p:n<=999
   ·by_cases o:d.length<=400
    ·have f:((d.length:Int)<=400)=True:=eq_true O;simp only[↓C2,G_,GY,simprocAttr,c1,p,f]
     all_goals exact Y0
    ·have f:((d.length:Int)<=400)=False:=eq_false O;simp only[↓C2,G_,GY,simprocAttr,c1,p,f]
     all_goals exact Y0
   ·simp only[↓C2,G_,GY,simprocAttr,c1,p]
    all_goals exact Y0
  ·simp only[↓C2,G_,GY,simprocAttr,c1]
   all_goals exact Y0
 |about s=>
  have z:=GV s 6 false h;unfold UE Hb at z;unfold Hy H3 at *;simp only[G7,↓C2,GY,simprocAttr,Ae Wa 117,c,Ae Wa 116,a];refine AV ?_;cases hb:CV s 6 with
  |true=>
   rw[hb]at z;simp only[if_true]at z;simp only[G7,↓C2,GY,simprocAttr,Ae Wa 25,z]
   all_goals exact Y0
  |false=>
   rw[hb]at z;simp only[if_false,Qt]at z;simp only[G7,↓C2,GY,simprocAttr,Ae Wa 25,z]
   all_goals exact Y0
 |names nl l=>
  have g:=λ(m:G6)(fr:Id)=>xI (l:=l) (nl:=nl) (t:=[]) (by have:l.length<=1000:=h;omega) m fr
  unfold Hy H3 at *;simp only[G7,↓C2,GY,simprocAttr,Ae Wa 117,c,Ae Wa 116,a];refine AV ?_;by_cases c1:l.length<=64
  ·have v:((l.length:Int)<=64)=True:=eq_true O;cases p:l.any λs=>!Vb s with
   |true=>
    rw[p]at g;simp only[↓C2,G_,GY,simprocAttr,v,AS,AE Wa 118,g]
    all_goals exact Y0
   |false=>
    rw[p]at g;simp only[↓C2,G_,GY,simprocAttr,v,AS,AE Wa 118,g]
    all_goals exact Y0
  ·have v:((l.length:Int)<=64)=False:=eq_false O;simp only[↓C2,G_,GY,simprocAttr,v,AS]
   all_goals exact Y0
 |state b=>
  unfold Hy H3 at *;simp only[G7,↓C2,GY,simprocAttr,Ae Wa 117,c,Ae Wa 116,a];refine AV ?_;simp only[↓C2,G_,GY,simprocAttr]
  all_goals exact Y0
def dgB:∀d:Fin 10,UInt8.ofNat (IntKind.u8.wrap (48+((d.val:Nat):Int))).toNat=Ep d.val:=V
def dgO(n:Nat):UInt8.ofNat (IntKind.u8.wrap (IntKind.i64.wrap (48+((n % 10:Nat):Int)))).toNat=Ep (n % 10):=by
 rw[Hu O O];exact dgB ⟨n % 10,O⟩
def un1(a:Int):BI [.int .u8 a]=some [UInt8.ofNat a.toNat]:=rfl
theorem DQ(n:Nat):(BJ n).length<=3:=by
 grind [BJ]
def aYW:=Ao []
def aJi:=RF aYW aMr [.t 2] 17
def aLg:Kq aJi 124:=Am (Ai func124) Ad
def Ls(n:Nat)(h:n<1000):aJi [.int .i64 (n:Int)]=some (.str (BJ n)):=by
 refine Al (Qa rfl) ?_;unfold aMr;have f:∀k:Nat,k<1000->IntKind.i64.wrap ((k:Int).tdiv 10)=((k / 10:Nat):Int):=UB;have q:=f n h;have o:=f (n / 10) O;have v:=f (n / 10 / 10) O;have a:∀c:UInt8,AP .add (.str [c]) (.str [])=some (.str [c]):=λc=>I1 U
 have a1:∀c d:UInt8,AP .add (.str [c]) (.str [d])=some (.str [c,d]):=λc d=>I1 U
 have s:∀c d e:UInt8,AP .add (.str [c]) (.str [d,e])=some (.str [c,d,e]):=λc d e=>I1 U
 have i:∀k:Nat,AP .rem (.int .i64 (k:Int)) (.int .i64 10)=some (.int .i64 ((k % 10:Nat):Int)):=λk=>by rw[←UA];rfl
 have y:∀k:Nat,AP .quo (.int .i64 (k:Int)) (.int .i64 10)=some (.int .i64 (IntKind.i64.wrap ((k:Int).tdiv 10))):=λk=>rfl
 unfold BJ;simp only[↓C2,G8,simprocAttr];refine Af Pb.eq_1 ?_;by_cases c1:n<10
 ·have z:(((n / 10:Nat):Int)=0)=True:=eq_true O;have m:n % 10=n:=by omega
  simp only[Qv,↓C2,G_,GY,simprocAttr,i,y,q,dgO,a,z];rw[m,if_pos c1]
 ·have z:(((n / 10:Nat):Int)=0)=False:=eq_false O;simp only[Qv,↓C2,G_,GY,simprocAttr,i,y,q,dgO,a,z];refine Af Pb.eq_1 ?_;by_cases p:n<100
  ·have m:(((n / 10 / 10:Nat):Int)=0)=True:=eq_true O;have u:n / 10 % 10=n / 10:=by omega
   simp only[Qv,↓C2,G_,GY,simprocAttr,i,y,o,dgO,a1,m];rw[u,if_neg c1,if_pos p]
  ·have m:(((n / 10 / 10:Nat):Int)=0)=False:=eq_false O;simp only[Qv,↓C2,G_,GY,simprocAttr,i,y,o,dgO,a1,m];refine Af Pb.eq_1 ?_;have g:(((n / 10 / 10 / 10:Nat):Int)=0)=True:=eq_true O;have z5:n / 10 / 10 % 10=n / 100:=by omega
   simp only[Qv,↓C2,G_,GY,simprocAttr,i,y,v,dgO,s,g];rw[z5,if_neg c1,if_neg p]
def rowW1(x:Rw):Bs:=BJ x.1.toNat++(if x.2.1=true then [33]else [])++(if x.2.2=true then [35]else [])
def aWU:=Ao [(124,Ac aJi)]
def aRS:=RF aWU aMp [.t 2] 16
def aVe:Kq aRS 125:=Am (Ai func125) (Aa aLg Ad)
def aJh(x:Rw)(h:0<=x.1∧x.1<1000):aRS [.agg [.int .i64 x.1,.bool x.2.1,.bool x.2.2]]=some (.str (rowW1 x)):=by
 refine Al (Qa rfl) ?_;unfold aMp;have a:=Ls x.1.toNat O;rw[Qw h.1]at a;have hl:=DQ x.1.toNat;unfold rowW1;generalize BJ x.1.toNat=s at *;have a1:∀c:UInt8,AP .add (.str s) (.str [c])=some (.str (s++[c])):=λc=>I1 Xb
 have r:∀c d:UInt8,AP .add (.str (s++[c])) (.str [d])=some (.str (s++[c]++[d])):=λc d=>I1 Xb
 obtain⟨n,g,d⟩:=x;simp only at *;cases g<;>cases d
 all_goals
  simp only[↓C2,G_,GY,simprocAttr,Ae aWU 124,a,a1,r]
  all_goals exact Y0
def aYV:=Ao []
def aRR:=RF aYV aMo [.t 2] 4
def aVd:Kq aRR 126:=Am (Ai func126) Ad
def aJg(b:Bool):aRR [.bool b]=some (.str [if b=true then 49 else 48]):=by
 refine Al (Qa rfl) ?_;unfold aMo;cases b
 all_goals
  simp only[↓C2,G8,H_,GY,simprocAttr]
  all_goals exact Y0
def Dv(l:List Bs):Bs:=if l=[]then [45]else Lib.join l [44]
def aLo:Kq dU 69:=aCh aX aK ⟨_,func69,Z,Z⟩
def dS{l:List Bs}{s:Bs}(h:l≠[]∧l.length<=1000∧CN l<=1000000∧s.length<=1000∧(Lib.join l s).length<=10000000):dU [.slice false [] (strsD l),.str s]=some (.str (Lib.join l s)):=B5 (mk:=mkJ) (a:=(l,s)) aHF h
def aWT:=Ao [(69,Ac dU)]
def aRQ:=RF aWT aMn [.t 2] 8
def aVc:Kq aRQ 127:=Am (Ai func127) (Aa aLo Ad)
def rX(nl:Bool)(l:List Bs)(g:nl=true->l=[])(h:l.length<=1000∧CN l<=1000000∧(Lib.join l [44]).length<=10000000):aRQ [.slice nl [] (strsD l)]=some (.str (Dv l)):=by
 refine Al (Qa rfl) ?_;unfold aMn;unfold Dv;by_cases c:l=[]
 ·have c':((l.length:Int)=0)=True:=eq_true (by rw[c];rfl);simp only[↓C2,G_,GY,simprocAttr,c',AS];simp[c]
 ·have c':((l.length:Int)=0)=False:=eq_false (by
   intro e;exact c (QV.1 O))
  have w:nl=false:=by
   simp_all
  subst w;have m:=dS (l:=l) (s:=[44]) ⟨c,h.1,h.2.1,U,h.2.2⟩;simp only[↓C2,G_,GY,simprocAttr,c',AS,Ae aWT 69,m];simp[c]
def HE:Ry->List Bs
 | .fail e=>[[101,114,114,111,114],BJ e.toNat]
 | .done=>[[111,107]]
 | .number n=>[[111,107],[110,117,109,98,101,114],BJ n.toNat]
 | .found n d=>[[111,107],[102,111,117,110,100],BJ n.toNat,if d=[]then [45]else Cl d]
 | .about s=>[[111,107],[97,98,111,117,116],BJ s.mx.toNat,[if s.cas=true then 49 else 48],BJ s.la.toNat,Dv (s.rs.map rowW1)]
 | .names _ l=>[[111,107],[110,97,109,101,115],Dv l]
 | .state b=>if b=true then [[111,107],[115,101,97,108,101,100]]else [[111,107],[111,112,101,110]]
def ryG:Ry->Prop
 | .fail e=>0<=e∧e<1000
 | .number n=>0<=n∧n<1000
 | .found n d=>0<=n∧n<1000∧d.length<=1000
 | .about s=>s.rs.length<=100∧(0<=s.mx∧s.mx<1000)∧(0<=s.la∧s.la<1000)∧∀x∈s.rs,0<=x.1∧x.1<1000
 | .names nl l=>l.length<=1000∧(nl=true->l=[])∧CN l<=1000000
 |_=>True
theorem Eo:∀(l:List Bs)(s:Bs),(Lib.join l s).length<=CN l+l.length*s.length
 |[],s=>XJ
 |[x],s=>by simp[Lib.join,CN]
 |x::y::r,s=>by
  have ih:=Eo (y::r) s;have e:Lib.join (x::y::r) s=x++s++Lib.join (y::r) s:=XJ
  rw[e,Qr,Qr];simp only[CN,Qk]at ih ⊢;rw[Nat.succ_mul];omega
def Te(x:Rw):(rowW1 x).length<=5:=by
 grind [DQ,rowW1]
def Ml:∀l:List Rw,CN (l.map rowW1)<=5*l.length
 |[]=>by simp[CN]
 |x::r=>by
  have:=Ml r;have:=Te x;simp only[QD,CN,Qk];omega
def R7:=Ao [(124,Ac aJi),(126,Ac aRR),(127,Ac aRQ),(125,Ac aRS),(14,Ac aKb)]
def aR4:=RF R7 aM6 [.t 2] 78
def aVy:Kq aR4 70:=Am (Ai func70) (Aa aLg (Aa aVd (Aa aVc (Aa aVe (Aa aBj Ad)))))
def aJF(y:Ry)(h:ryG y):aR4 [.agg (Hy y)]=some (.slice false [] (strsD (HE y))):=by
 refine Al (Qa rfl) ?_;unfold aM6;cases y with
 |fail e=>
  have a:=Ls e.toNat XQ;rw[Qw h.1]at a;unfold Hy HE strsD;simp only[↓C2,G_,GY,simprocAttr,Ae R7 124,a]
  all_goals exact Y0
 |done=>
  unfold Hy HE strsD;simp only[↓C2,G_,GY,simprocAttr]
  all_goals exact Y0
 |number n=>
  have a:=Ls n.toNat XQ;rw[Qw h.1]at a;unfold Hy HE strsD;simp only[↓C2,G_,GY,simprocAttr,Ae R7 124,a]
  all_goals exact Y0
 |found n d=>
  have a:=Ls n.toNat XQ;rw[Qw h.1]at a;have i:=Px (s:=d) (by have:=h.2.2;omega);unfold Hy HE strsD;by_cases c:d=[]
  ·have c':=eq_true c;simp only[↓C2,G_,GY,simprocAttr,Ae R7 124,a,c'];simp[]
  ·have c':=eq_false c;simp only[↓C2,G_,GY,simprocAttr,Ae R7 124,a,Ae R7 14,i,c'];simp[]
 |names nl l=>
  obtain⟨h1,w,h3⟩:=h;have p:=rX nl l w ⟨h1,h3,by have:=Eo l [44];simp at this;omega⟩;unfold Hy HE;simp only[↓C2,G_,GY,simprocAttr,Ae R7 127,p]
  all_goals exact Y0
 |state b=>
  unfold Hy HE strsD;cases b with
  |true=>
   simp only[↓C2,G_,GY,simprocAttr]
   all_goals exact Y0
  |false=>
   simp only[↓C2,G_,GY,simprocAttr]
   all_goals exact Y0
 |about s=>
  obtain⟨g1,g2,g3,g4⟩:=h;have h1:=Ls s.mx.toNat O;rw[Qw g2.1]at h1;have w:=Ls s.la.toNat O;rw[Qw g3.1]at w;have r:=aJg s.cas;have wa:=Ml s.rs;have p:=λnl hn=>rX nl (s.rs.map rowW1) hn ⟨Xb,O,by have:=Eo (s.rs.map rowW1) [44];simp at this;omega⟩
  unfold Hy HE;simp only[↓C2,G_,GY,simprocAttr,AQ];refine Bv (n:=s.rs.length) (I:=λj v=>v.s 38= .slice s.nl [] (A5 s.rs)∧v.s 39= .int .i64 s.rs.length∧v.s 40= .int .i64 (j:Int)∧v.s 1= .ptr [0] 0∧∃nl t,v.s 4= .slice nl t (strsD ((s.rs.take j).map rowW1))∧nl=decide (j=0)∧LG 1 _ 9 v.m v.c nl t) (λj hj ih v g hI=>?_) (λv g hI=>?_) 0 (Qy _) _ _ ⟨rfl,rfl,rfl,rfl,true,[],rfl,rfl,LG.start Xa⟩
  ·obtain⟨ka,fa,da⟩:=v;obtain⟨u,f,o,hp,nl,t,h4,qa,hG⟩:=hI;simp only at u f o hp h4 hG;refine Af VQ.eq_1 ?_;have ea:((j:Int)<s.rs.length):=by omega
   have oa:=nJ (j:=j);have hw:=wJ (j:=j) O;have ja:=Fw hj;have q:=aJh s.rs[j] (g4 _ (QW hj));have z:strsD ((s.rs.take (j+1)).map rowW1)=strsD ((s.rs.take j).map rowW1)++[.str (rowW1 s.rs[j])]:=by
    rw[QF hj,QZ];simp[strsD]
   have va:(strsD ((s.rs.take j).map rowW1)).length=j:=by simp[strsD];omega
   have ma:nl=true->strsD ((s.rs.take j).map rowW1)=[]:=by
    grind
   generalize strsD ((s.rs.take j).map rowW1)=ca at h4 z va ma;generalize s.rs[j]=x at ja z q;simp only[G7,↓C2,GY,simprocAttr,u,f,o,h4,ea,oa,Qh,ja,Ae R7 125,q];refine As.intro ⟨O,rfl,YX⟩ ?_;rw[B0 ma,←z];simp only[↓C2,G8,simprocAttr,o,hw];exact ih _ _ ⟨u,f,rfl,hp,false,_,rfl,U,YY⟩
  ·obtain⟨ka,fa,da⟩:=v;obtain⟨u,f,o,hp,nl,t,h4,qa,hG⟩:=hI;simp only at u f o hp h4 hG;refine Af VQ.eq_1 ?_;have m0:∀k,fa [0] k=_:=λk=>hG.low 0 k O
   rw[Zi]at h4;have hh:=p nl (by
    rw[qa];intro h;have:s.rs.length=0:=Xl
    simp[QV.1 this])
   unfold strsD at h4 hh ⊢;simp only[↓C2,G_,GY,simprocAttr,f,o,hp,h4,Qz,m0,Ae R7 124,h1,w,Ae R7 126,r,Ae R7 127,hh];refine AV ?_;simp only[↓C2,G8,H_,GY,simprocAttr]
   all_goals exact Y0
def spJ(l:List Bs):Bs:=Lib.join l [32]
def HD(y:Ry):Bs:=if H3 y=0 then spJ (HE y)else []
def jG(y:Ry):HE y≠[]:=by
 cases y<;>simp[HE];split<;>simp
end Go.Vd
namespace Go.Proofs
open Go.Shelf
def aO:Go.Shelf.Ren:=⟨λ|168=>255|169=>123|240=>183|242=>308|276=>245|278=>329|277=>246|n=>n,λ|31=>23|9=>9|3=>3|4=>4|0=>0|20=>20|21=>21|72=>196|76=>200|70=>194|37=>108|75=>199|127=>252|164=>309|5=>5|80=>159|46=>109|51=>268|n=>n,λ|n=>n⟩
def bD:Go.Proofs.Lays.n168 Qf aO:={
 mixed:=Z
 f168:=func255.trans (congrArg some Z)
 f240:=func183.trans (congrArg some Z)
 f242:=func308.trans (congrArg some Z)
 f276:=func245.trans (congrArg some Z)
 f278:=func329.trans (congrArg some Z)
 t0:=underlying0
 a0:=isAgg0
 z0:=sizeOf0
 v0:=zeroValue0
 t3:=underlying3
 a3:=isAgg3
 z3:=sizeOf3
 v3:=zeroValue3
 t4:=underlying4
 a4:=isAgg4
 z4:=sizeOf4
 v4:=zeroValue4
 t5:=underlying5
 a5:=isAgg5
 z5:=sizeOf5
 v5:=zeroValue5
 t9:=underlying9
 a9:=isAgg9
 z9:=sizeOf9
 v9:=zeroValue9
 t20:=underlying20
 a20:=isAgg20
 z20:=sizeOf20
 v20:=zeroValue20
 t21:=underlying21
 a21:=isAgg21
 z21:=sizeOf21
 v21:=zeroValue21
 t37:=underlying108
 a37:=isAgg108
 z37:=sizeOf108
 v37:=zeroValue108
 t46:=underlying109
 a46:=isAgg109
 z46:=sizeOf109
 v46:=zeroValue109
 t51:=underlying268
 a51:=isAgg268
 z51:=sizeOf268
 v51:=zeroValue268
 t70:=underlying194
 a70:=isAgg194
 z70:=sizeOf194
 v70:=zeroValue194
 t72:=underlying196
 a72:=isAgg196
 z72:=sizeOf196
 v72:=zeroValue196
 t75:=underlying199
 a75:=isAgg199
 z75:=sizeOf199
 v75:=zeroValue199
 t164:=underlying309
 a164:=isAgg309
 z164:=sizeOf309
 v164:=zeroValue309}
def bE:Go.Proofs.Lays.n169 Qf aO:={
 mixed:=Z
 f169:=func123.trans (congrArg some Z)
 t0:=underlying0
 a0:=isAgg0
 z0:=sizeOf0
 v0:=zeroValue0
 t3:=underlying3
 a3:=isAgg3
 z3:=sizeOf3
 v3:=zeroValue3
 t9:=underlying9
 a9:=isAgg9
 z9:=sizeOf9
 v9:=zeroValue9
 t37:=underlying108
 a37:=isAgg108
 z37:=sizeOf108
 v37:=zeroValue108
 t70:=underlying194
 a70:=isAgg194
 z70:=sizeOf194
 v70:=zeroValue194
 t72:=underlying196
 a72:=isAgg196
 z72:=sizeOf196
 v72:=zeroValue196
 t127:=underlying252
 a127:=isAgg252
 z127:=sizeOf252
 v127:=zeroValue252}
def bB:Builder.Extra Qf aO:={
 sizeBuilder:=Z
 liesBuilder:=Z
 t5:=underlying5
 a5:=isAgg5
 z5:=sizeOf5
 v5:=zeroValue5
 infoByte:=Z
 cellsByte:=Z
 sizeByte:=Z
 neB5:=V}
end Go.Proofs
namespace Go.Ve
open Go.Vd
open Go.Proofs Go.RowKit
def six:List UInt8:=[114,119,100,120,108,115]
def EL(c:Nat):Nat->List UInt8
 |0=>[]
 |k+1=>EL c k++(if c / 2 ^ k % 2=1 then [six.getD k 0]else [])
structure aZb (w0:World) (c k:Nat) (a:Act) (w:World):Prop where
 slots:∃x4 x5 x7 x8 x9 x10 x11 x12 x13 x14 x15 x16 x17:Value,a={tmps:=#[.int .u8 (c:Int),undef,.string ⟨#[]⟩,.pointer (some ⟨w0.heap.size,0,none⟩),x4,x5,.pointer (some ⟨w0.heap.size+1,0,none⟩),x7,x8,x9,x10,x11,x12,x13,x14,x15,x16,x17,undef],defers:=[]}
 iter:w.heap[w0.heap.size+1]?=some (.stringIter ⟨#[114,119,100,120,108,115]⟩ k)
 bld:Lib.IsBuilderF 196 5 w0.heap.size w0.heap.size (Lib.byteCells (EL c k)) w
 bel:Below w0.heap.size w0 w
def W_{P:Program}{w:World}{b:Nat}{s:ByteArray}{z:Nat}{ty:TypeId}(h:w.heap[b]?=some (.stringIter s z))(k:z<s.size):
  (Instr.next (.pointer (some ⟨b,0,none⟩)) true ty).run P w= .ok (.tuple #[.bool true,.int .i64 (z:Nat),.int .i32 (Utf8.decode s z).1]) {w with heap:=w.heap.setIfInBounds b (.stringIter s (z+(Utf8.decode s z).2))}:=by
 have m:(getObj b).run P w= .ok (.stringIter s z) w:=by simp[getObj,Sem.run,h]
 have x:∀o',(setObj b o').run P w= .ok () {w with heap:=w.heap.setIfInBounds b o'}:=by intro o';simp[setObj,Sem.run,h]
 simp only[Instr.next,Sem.run_bind,m,Result.andThen_ok,k,if_true];cases hd:Utf8.decode s z with
 |mk c u=>
  simp only[x,Result.andThen_ok,Sem.run_pure];rfl
def UF{P:Program}{w:World}{b:Nat}{s:ByteArray}{z:Nat}{ty:TypeId}(h:w.heap[b]?=some (.stringIter s z))(c:¬z<s.size):
  (Instr.next (.pointer (some ⟨b,0,none⟩)) true ty).run P w= .ok (.tuple #[.bool false]) w:=by
 have m:(getObj b).run P w= .ok (.stringIter s z) w:=by simp[getObj,Sem.run,h]
 simp only[Instr.next,Sem.run_bind,m,Result.andThen_ok,c,if_false,Sem.run_pure]
def aIl:∀k,k<6->Utf8.decode ⟨#[114,119,100,120,108,115]⟩ k=((six.getD k 0).toNat,1):=Xi
def aIF:∀c:Nat,c<64->∀k,k<6->(bits BinOp.and IntKind.u8 ((c:Int) / 2 ^ k) 1==1)=decide (c / 2 ^ k % 2=1):=Xi
def aAH:∀k,k<6->Lib.runeCells (((six[k]?.getD 0).toNat:Nat):Int)=Lib.byteCells [six.getD k 0]
 |0,_=>rfl
 |1,_=>rfl
 |2,_=>rfl
 |3,_=>rfl
 |4,_=>rfl
 |5,_=>rfl
 |k+6,h=>absurd h O
def To(c:Nat):∀k,(EL c k).length<=k
 |0=>QB _
 |k+1=>by
  have:=To c k;unfold EL;rw[Qr];split<;>simp<;>omega
def NB{w:World}{r j:Nat}{o:Obj}(h:j≠r):(w.heap.setIfInBounds r o)[j]?=w.heap[j]?:=by
 grind
def aEd{w:World}{B b r:Nat}{bs:List Value}{o:Obj}{s:ByteArray}{p:Nat}(h:Lib.IsBuilderF 196 5 B b bs w)(hi:w.heap[r]?=some (.stringIter s p)):Lib.IsBuilderF 196 5 B b bs {w with heap:=w.heap.setIfInBounds r o}:=by
 have z:∀q,Lib.BuilderAtF 196 5 B b q bs w->Lib.BuilderAtF 196 5 B b q bs {w with heap:=w.heap.setIfInBounds r o}:=by
  rintro q ⟨u,v,f,i,t⟩;have m:b≠r:=λe=>by rw[e,hi]at f;cases f
  refine⟨u,v,by show(w.heap.setIfInBounds r o)[b]?=_;rw[NB m];exact f,⟨i.1,?_⟩,t⟩;rcases i.2 with h|⟨g,cap,cur,fz,n,y,d,j⟩
  ·exact .inl h
  ·have a:g≠r:=λe=>by rw[e,hi]at d;cases d
   exact .inr ⟨g,cap,cur,fz,n,y,by show(w.heap.setIfInBounds r o)[g]?=_;rw[NB a];exact d,j⟩
 exact h.elim (λx=> .inl (z _ x)) (λx=> .inr (z _ x))
theorem yD {B r : Nat} {w s : World} {o : Obj} (h : Below B w s) (m : B ≤ r) : Below B w { s with heap := s.heap.setIfInBounds r o } :=
 ⟨h.os, h.tape, h.output, by show _ ≤ (s.heap.setIfInBounds r o).size; rw [Array.size_setIfInBounds]; exact h.size, fun k n => by
  show (s.heap.setIfInBounds r o)[k]? = _
  rw [NB O]
  exact h.block k n⟩
theorem aXE(w:World)(c:Nat)(hc:c<64):
  Calls Qf 200 #[.int .u8 (c:Int)] w λe t=>e= .returned (.string ⟨(EL c 6).toArray⟩)∧Below w.heap.size w t:=by
 have hz:(w.alloc (Obj.cells #[Value.pointer none,Value.slice none 0 0] 196)).heap.size=w.heap.size+1:=Array.size_push _
 go_enter func200,ntmps200
 go_wp2
 refine ST (λn a t=>∃k,k<=6∧n=6-k∧aZb w c k a t) ?_ (n:=6) ⟨0,O,rfl,⟨⟨_,_,_,_,_,_,_,_,_,_,_,_,_,rfl⟩,?_,?_,?_⟩⟩
 ·rintro n a w1 ⟨k,v,rfl,⟨x4,x5,x7,x8,x9,l,q,m,r,j,p,i,s,rfl⟩,hi,z,hB⟩
  go_wp2
  by_cases u:k<6
  ·rw[W_ hi (by show k<6;exact u),aIl k u];simp only[Result.andThen];rw[Oper.upon_value];have b:=aIF c hc k u;have ab:=To c k;have g:(w1.heap.setIfInBounds (w.heap.size+1) (.stringIter ⟨#[114,119,100,120,108,115]⟩ (k+1)))[w.heap.size+1]?=some (.stringIter ⟨#[114,119,100,120,108,115]⟩ (k+1)):=by
    grind
   have la:=aEd (o:= .stringIter ⟨#[114,119,100,120,108,115]⟩ (k+1)) z hi;have f:=yD (o:= .stringIter ⟨#[114,119,100,120,108,115]⟩ (k+1)) hB (Nat.le_succ w.heap.size);by_cases d:c / 2 ^ k % 2=1
   ·rw[decide_eq_true d]at b
    go_wp2_with fail
    refine(Go.Proofs.Any.Builder_WriteRune_k bD bB w.heap.size w.heap.size (Lib.byteCells (EL c k)) _ YT YT _ la (by simp[Lib.byteCells];omega) f.size).mono ?_;rintro e w3 ⟨rfl,x,y,h⟩;rw[aAH k u]at x
    go_wp2
    refine⟨6-(k+1),O,k+1,O,rfl,⟨⟨_,_,_,_,_,_,_,_,_,_,_,_,_,rfl⟩,?_,?_,f.trans y⟩⟩
    ·exact h _ _ g U (λ_ _=>U)
    ·refine .inr ?_;have e:EL c (k+1)=EL c k++[six.getD k 0]:=by simp only[EL,d,if_true]
     rw[e];have e2:Lib.byteCells (EL c k++[six.getD k 0])=Lib.byteCells (EL c k)++Lib.byteCells [six.getD k 0]:=by simp[Lib.byteCells]
     rw[e2];exact x
   ·rw[decide_eq_false d]at b
    go_wp2_with fail
    refine⟨6-(k+1),O,k+1,O,rfl,⟨⟨_,_,_,_,_,_,_,_,_,_,_,_,_,rfl⟩,g,?_,f⟩⟩;have e:EL c (k+1)=EL c k:=by simp only[EL,d,if_false,QI]
    rw[e];exact la
  ·rw[UF hi (by show ¬k<6;exact u)];simp only[Result.andThen];rw[Oper.upon_value];obtain rfl:k=6:=by omega
   go_wp2_with fail
   refine(Go.Proofs.Any.Builder_String_any_f bE bB w.heap.size w.heap.size (EL c 6) w1 z hB.size).mono ?_;rintro e w3 ⟨rfl,_,y⟩
   go_wp2
   go_ret
   exact⟨rfl,hB.trans y⟩
 ·have e:=heap_alloc_new (w.alloc (Obj.cells #[Value.pointer none,Value.slice none 0 0] 196)) (.stringIter ⟨#[114,119,100,120,108,115]⟩ 0);rw[hz]at e;exact e
 ·refine .inl ⟨QB _,.slice none 0 0,?_,World.ownsRowF_nil _ _ _ _,by simp[Value.ownBlock]⟩;have:=heap_alloc_new w (Obj.cells #[Value.pointer none,Value.slice none 0 0] 196);exact(Below.heap_alloc _ _ _ (by rw[hz];omega)).trans this
 ·exact((Below.refl _ w).alloc (QB _) _).alloc (by rw[hz];omega) _
def eqBs:List UInt8->List UInt8->Bool
 |[],[]=>true
 |a::r,b::s=>a==b&&eqBs r s
 |_,_=>false
def eqBs_eq:∀{a b:List UInt8},eqBs a b=true->a=b
 |[],[],_=>rfl
 |a::r,b::s,h=>by
  simp only[eqBs,QX,beq_iff_eq]at h;rw[h.1,eqBs_eq h.2]
 |[],_::_,h=>Xc
 |_::_,[],h=>Xc
def lettersN(c:Nat):List UInt8:=
 (if c % 2=1 then [114]else [])++((if c / 2 % 2=1 then [119]else [])++((if c / 4 % 2=1 then [100]else [])++((if c / 8 % 2=1 then [120]else [])++((if c / 16 % 2=1 then [108]else [])++(if c / 32 % 2=1 then [115]else [])))))
theorem pick_letters:∀c:Nat,c<64->EL c 6=lettersN c:=Xi
def lay_calls{c:Nat}(h:c<64)(w:World):Calls Qf 200 #[.int .u8 (c:Nat)] w λe t=>e= .returned (.string ⟨(lettersN c).toArray⟩)∧Below w.heap.size w t:=by
 grind [aXE,pick_letters]
end Go.Ve
namespace Go.Vd
open Go.Proofs Go.RowKit
def pW:TH.ok Qf 69:=aCg aX aK ⟨_,func69,Z,Z⟩
def dT{m:G6}{i fr:Id}{n:Nat}{l:List Bs}(g:n=l.length)(h:∀k x,l[k]?=some x->m i k=some (.str x))(u:l.length<=1000)(f:CN l<=1000000):
  TH.ex ([.row i n,.str [44]]++[]) m fr=some (.str (BA l),[]):=by
 subst g;simp only[TH,QI];rw[oD (j:=0) (λk x q=>by rw[Qp];exact h k x q),Qj,if_pos ⟨u,f⟩]
def RI.strs{r:Id}{m0 m:G6}{l:List Bs}(h:RI [] r m0 m l l.length):∀k x,l[k]?=some x->m r k=some (.str x):=by
 intro k x q;have o:=(QP.1 q).1;rw[h.row k o,if_pos o];simp[Zx,q]
def Mm{l:List Bs}{b:Nat}(h:∀x∈l,x.length<=b):CN l<=b*l.length:=by
 induction l with
 |nil=>simp[CN]
 |cons x r ih=>
  have u:=h x (Zs ..);have f:=ih λy j=>h y (List.mem_cons_of_mem _ j)
  simp only[CN,Qk,ZJ];omega
def Mz(n:Nat):(BJ n).length<=3:=by
 grind [BJ]
def CR(l:List Int):List Bs:=l.map λx=>BJ x.toNat
theorem D9(l:List Int):(CR l).length=l.length:=Qx ..
def aXr:List D->Option D:=FX (λp:Bool×List Int=>[.slice p.1 [] (AJ p.2)]) (λp=>p.2.length<=1000∧∀x∈p.2,0<=x∧x<1000) (λp=> .str (BA (CR p.2)))
def aJ9{nl:Bool}{l:List Int}(h:l.length<=1000)(f:∀x∈l,0<=x∧x<1000):aXr [.slice nl [] (AJ l)]=some (.str (BA (CR l))):=
 B5 (mk:=λp:Bool×List Int=>[.slice p.1 [] (AJ p.2)]) (a:=(nl,l)) (λa b h=>by
  simp only[Qd,D.slice.injEq,true_and,and_true]at h;exact QT h.1 (Ln h.2)) ⟨h,f⟩
def aHJ{S:GZ}{l:List Int}{nl:Bool}{m0:G6}{Q:Ex->St->Prop}(z:l.length<=1000)(q:∀x∈l,0<=x∧x<1000)(e:S 330=some (Ac aSi))
  (p:∀y,y.s 3= .row [3] l.length->RI [] [3] m0 y.m (CR l) l.length->Q (.exit 0) y):
  ∀(f j:Nat) y g,l.length=j+f->y.s 3= .row [3] l.length->y.s 9= .slice nl [] (AJ l)->y.s 10= .int .i64 (l.length:Int)->y.s 11= .int .i64 (j:Int)->RI [] [3] m0 y.m (CR l) j->Ba S [] O8 Q y g:=by
 intro f;induction f with
 |zero=>
  intro j y g hf i h9 r a I;refine Af O8.eq_1 ?_;have:¬((j:Int)<l.length):=O
  simp only[↓C2,G8,Hj,reduceIte,Qe,r,a,this];exact p _ i X5
 |succ f ih=>
  intro j y g hf i h9 r a I;refine Af O8.eq_1 ?_;have d:j<l.length:=O
  have u:((j:Int)<l.length):=O
  have k:=nJ (j:=j);have t:=wJ (j:=j) O;have na:=q l[j] (QW d);obtain⟨n,o⟩:∃n:Nat,l[j]=(n:Int):=⟨l[j].toNat,O⟩;have ja:(AJ l)[j]?=some (.int .i64 (n:Int)):=by simp[AJ,Qi d,o]
  have hg:(CR l).getD j []=BJ n:=by simp[CR,Qi d,o]
  have h:=Wi (n:=n) O;have v:=I.row j (by rw[D9];exact d);rw[if_neg O]at v;obtain⟨w,b,c⟩:=y;simp only at i h9 r a v I;simp only[↓C2,G_,reduceIte,Qc,Qe,i,h9,r,a,u,k,t,Qh,ja,v,Ab e,h,Au,Av,Qk,Qo,Qp,and_self,Qj,Ql,List.head?_cons];refine ih (j+1) _ _ O i h9 r rfl ?_;rw[←hg];exact I.fill (ZC)
def aTw:Kq aXr 332:=by
 obtain⟨S,g,hl⟩:=Bp (Aa aKW (Aa pW Ad));have e:=hl 330 _ rfl;have a:=hl 69 _ rfl;clear hl;refine Da g (Ai func332:Fn Qf 332 24 aL8 [.t 2]) (λ_=>U) (λp c=>?_);obtain⟨nl,l⟩:=p;obtain⟨hl,q⟩:=c;simp only at hl q;have ia:((0:Int)<=(l.length:Int)):=O
 have ta:((l.length:Int)*(((16:Nat):Int)+1)<=140737488355328)=True:=eq_true O;unfold aL8;simp only[↓C2,G8,H_,reduceIte,Qc,Qe,ia,ta,EX,Qh,ZA,Qk,Qo,Qp,and_self];refine aHJ (l:=l) (nl:=nl) (m0:=λ_ _=>none) hl q e (λv i I=>?_) l.length 0 _ _ O rfl rfl rfl rfl ?_
 ·simp only[↓C2,G8,Hj,reduceIte,Qe,i];rw[AG a];rw[←D9]at I;have j:CN (CR l)<=1000000:=by
   have:=Mm (l:=CR l) (b:=3) λx q=>by
    obtain⟨y,_,rfl⟩:=QL.1 q;exact Mz _
   rw[D9]at this;omega
  refine aH (dT (D9 l).symm I.strs (by rw[D9];exact hl) j) ?_;simp only[↓C2,G_,reduceIte,Qc,Qe]
  all_goals exact Y1
 ·grind [RI.start,D9]
open Classical in
def aKa:List D->Option D
 |[.int .u8 c]=>if 0<=c∧c<64 then some (.str (Go.Ve.lettersN c.toNat))else none
 |_=>none
def aTz:Kq aKa 200:=by
 refine⟨⟨_,func200,Z,Z⟩,λds m m' fr _=>rfl,?_⟩;intro B w0 w m g fr ds vs r u hi b hl y z;simp only[Ac]at z;split at z
 ·rw[QY]at z;obtain⟨q,j,z⟩:=z;simp only[QC]at z;obtain⟨rfl,rfl⟩:=z;unfold aKa at j;split at j
  ·rename_i c e;split at j
   ·rename_i s;simp only[Qm]at j;subst j
    match ds,vs,hl with
    |[d],[v],_=>
     have p:d= .int .u8 c:=by
      simp only[QD,Q1,Qd,and_true]at e;cases d<;>simp[D.un]at e;rw[e.1,e.2]
     subst p;have hv:=(y 0 _ v rfl rfl).int_inv;subst hv;have f:((c.toNat:Nat):Int)=c:=Qw s.1;have:=Go.Ve.lay_calls (c:=c.toNat) O w;rw[f]at this;refine this.mono ?_;rintro e k ⟨rfl,t⟩;exact⟨_,g.over w k,rfl,hi.over t,Ht.over hi.gz t,.str _,λi o _=>o⟩
    |[],_,_=>simp at e
    |_::_::_,_,_=>simp at e
   ·cases j
  ·cases j
 ·cases z
def Of{l:List Rl}:∀f j,D8 l f j=0->∀i,j<=i->i<j+f->i<l.length->(CZ l i).2<=63
 |0,j,_,i,h1,h2,_=>O
 |f+1,j,h,i,h1,h2,hi=>by
  unfold D8 at h;rw[if_pos O]at h;split at h
  ·omega
  ·rename_i w;rcases Nat.eq_or_lt_of_le h1 with rfl|h1
   ·grind [Ic,CZ]
   ·exact Of f (j+1) h i O O hi
def NF{l:List Rl}(h:Cg l=0):l.length<=4∧∀r∈l,r.2<=63:=by
 unfold Cg at h;split at h
 ·cases h
 ·refine⟨O,λr j=>?_⟩;obtain⟨i,hi,rfl⟩:=Zp j;have:=Of l.length 0 h i (Qy _) O hi;simpa[CZ,Qi hi]using this
def Og(r:Rl):Bs:=r.1++[58]++Go.Ve.lettersN r.2.toNat
def Bl(l:List Rl):List Bs:=l.map Og
theorem CP(l:List Rl):(Bl l).length=l.length:=Qx ..
def FA(n:Nat):(Go.Ve.lettersN n).length<=6:=by
 unfold Go.Ve.lettersN;have h:∀(c:Prop)[Decidable c](x:UInt8),(if c then [x]else []).length<=1:=by
  intro c _ x;split<;>simp
 simp only[Qr];have u:=h (n % 2=1) 114;have f:=h (n / 2 % 2=1) 119;have i:=h (n / 4 % 2=1) 100;have p:=h (n / 8 % 2=1) 120;have m:=h (n / 16 % 2=1) 108;have s:=h (n / 32 % 2=1) 115;omega
def aHN{S:GZ}{l:List Rl}{nl:Bool}{m0:G6}{Q:Ex->St->Prop}(t:l.length<=4)(q:∀r∈l,r.1.length<=1000∧0<=r.2∧r.2<64)(d:S 200=some (Ac aKa))
  (p:∀y,y.s 5= .row [9] l.length->RI [] [9] m0 y.m (Bl l) l.length->Q (.exit 0) y):
  ∀(f j:Nat) y g,l.length=j+f->10<=y.c->y.s 5= .row [9] l.length->y.s 16= .slice nl [] (Ar l)->y.s 17= .int .i64 (l.length:Int)->y.s 18= .int .i64 (j:Int)->RI [] [9] m0 y.m (Bl l) j->Ba S [] Pg Q y g:=by
 intro f;induction f with
 |zero=>
  intro j y g hf w h5 ta i n I;refine Af Pg.eq_1 ?_;have:¬((j:Int)<l.length):=O
  simp only[↓C2,G8,Hj,reduceIte,Qe,i,n,this];exact p _ h5 X5
 |succ f ih=>
  intro j y g hf w h5 ta i n I;refine Af Pg.eq_1 ?_;have e:j<l.length:=O
  have u:((j:Int)<l.length):=O
  have k:=nJ (j:=j);have hw:=wJ (j:=j) O;obtain⟨qa,ra,b⟩:=q l[j] (QW e);have x:(Ar l)[j]?=some (.agg [.str l[j].1,.int .u8 l[j].2]):=by simp[Ar,rlD,Qi e]
  have hg:(Bl l).getD j []=Og l[j]:=by simp[Bl,Qi e]
  generalize l[j]=r at qa ra b x hg;have a:aKa [.int .u8 r.2]=some (.str (Go.Ve.lettersN r.2.toNat)):=if_pos ⟨ra,b⟩;have v:=I.row j (by rw[CP];exact e);rw[if_neg O]at v;have xa:=FA r.2.toNat;have l1:(r.1.length+1<=9223372036854775807)=True:=eq_true O;have l2:(r.1.length+1+(Go.Ve.lettersN r.2.toNat).length<=9223372036854775807)=True:=eq_true O;have o:([y.c+1+3]=([9]:Id))=False:=eq_false Xb;have z:(([9]:Id)=[y.c+1+3])=False:=eq_false Xb;obtain⟨ka,fa,da⟩:=y;simp only at h5 ta i n v I w o z;simp only[↓C2,Hf,reduceIte,Qc,Qe,h5,ta,i,n,u,k,Qh,x,v,Ab d,a,z,l1,l2,QB,Qr,Ah,Au,Av,Qs,Qb,Qj,QR,QO,Ql,false_and];refine AV ?_;simp only[↓C2,G8,H_,reduceIte,Qc,Qe,n,hw];refine ih (j+1) _ _ O Xa h5 ta i rfl ?_;have va:r.1++[58]++Go.Ve.lettersN r.2.toNat=(Bl l).getD j []:=hg.symm;rw[va];exact((I.put Xb).put Xb).fill (ZC)
def aKm:List D->Option D:=FX (λp:Bool×List Rl=>[.slice p.1 [] (Ar p.2)]) (λp=>p.2.length<=1000000∧∀r∈p.2,r.1.length<=1000∧0<=r.2)
 (λp=> .tup [.str (if Cg p.2=0 then BA (Bl p.2)else []),.int .i64 (Cg p.2)])
def Wl{nl:Bool}{l:List Rl}(h:l.length<=1000000)(f:∀r∈l,r.1.length<=1000∧0<=r.2):aKm [.slice nl [] (Ar l)]=some (.tup [.str (if Cg l=0 then BA (Bl l)else []),.int .i64 (Cg l)]):=
 B5 (mk:=λp:Bool×List Rl=>[.slice p.1 [] (Ar p.2)]) (a:=(nl,l)) (λa b h=>by
  simp only[Qd,D.slice.injEq,true_and,and_true]at h;exact QT h.1 (bK h.2)) ⟨h,f⟩
open Classical in
def Sn{nl:Bool}{l:List Rl}(h:l.length<=1000000)(f:∀r∈l,r.1.length<=1000∧0<=r.2):zF [.slice nl [] (Ar l)]=some (.int .i64 (Cg l)):=by
 have w:Ar l=Ar (Br (Ar l))∧(Ar l).length<=1000000∧Cv (Br (Ar l)):=by
  rw[A2,A_];exact⟨rfl,h,λr i=>Nat.le_trans (f r i).1 O⟩
 show(if _ then _ else _)=_;rw[if_pos w,A2]
def aK3:Kq aKm 136:=by
 obtain⟨S,g,hl⟩:=Bp (Aa cD (Aa aTz (Aa pW Ad)));have c:=hl 168 _ rfl;have d:=hl 200 _ rfl;have a:=hl 69 _ rfl;clear hl;refine Da g (Ai func136:Fn Qf 136 36 aM2 [.t 2,.t 3]) (λ_=>U) (λp k=>?_);obtain⟨nl,l⟩:=p;obtain⟨hl,q⟩:=k;simp only at hl q;have f:=Sn (nl:=nl) hl q;have m:=NF (l:=l);simp only;unfold aM2;generalize Cg l=e at f m;by_cases s:e=0
 ·subst s;obtain⟨h4,o⟩:=m rfl;have ia:((0:Int)<=(l.length:Int)):=by omega
  have ta:((l.length:Int)*(((16:Nat):Int)+1)<=140737488355328)=True:=eq_true O;simp only[↓C2,G_,reduceIte,Qc,Qe,Ab c,f,ia,ta,A_,Qh,ZA,Qk,Qo,Qp,and_self];refine aHN (l:=l) (nl:=nl) (m0:=λ_ _=>none) h4 (λr i=>⟨(q r i).1,(q r i).2,by have:=o r i;omega⟩) d (λv n I=>?_) l.length 0 _ _ O Xa rfl rfl rfl rfl ?_
  ·simp only[↓C2,G8,Hj,reduceIte,Qe,n];rw[AG a];rw[←CP]at I;have j:CN (Bl l)<=1000000:=by
    have:=Mm (l:=Bl l) (b:=1007) λx pa=>by
     obtain⟨y,z,rfl⟩:=QL.1 pa;have u:=(q y z).1;have w:=FA y.2.toNat;simp only[Og,Qr,Qk,Qo];omega
    rw[CP]at this;omega
   refine aH (dT (CP l).symm I.strs (by rw[CP];omega) j) ?_;simp only[↓C2,G_,reduceIte,Qc,Qe]
   all_goals exact Y1
  ·grind [RI.start,CP]
 ·simp only[↓C2,G_,reduceIte,Qc,Qe,Ab c,f,s,and_self]
  all_goals exact Y1
def aNB:=y0 f44 [] []
def aNA:=y0 f101 [] []
def aNz:=y0 f259 [] []
def aNy:=y0 f260 [] []
def Pn:=y1 f261 4 [] []
def aNx:=y0 f261 [] [(4,Pn)]
def aME:=y0 f310 [] []
def VB:=y1 f207 7 [] []
def aWa:=y0 f207 [] [(7,VB)]
def N4{s:Bs}{p:Nat}{c:UInt8}(h:s[p]?=some c)(w:c.toNat<128):Utf8.decode ⟨s.toArray⟩ p=(c.toNat,1):=by
 have k:=(QP.1 h).1;have x:Ho s p=c.toNat:=by simp[Ho,h]
 unfold Utf8.decode;simp only[NQ,Za,x,w,if_true]
def RB:List (Bs×Bs):=[([],[]),([115,116,97,116,117,115],[]),([117,110,115,101,97,108],[107]),([115,101,97,108],[116]),([114,111,116,97,116,101],[116]),([109,111,117,110,116],[116,112,110,102]),([117,110,109,111,117,110,116],[116,112]),([109,97,107,101],[116,109,114]),([114,101,118,111,107,101],[116,109]),([114,101,97,100],[116,112,110]),([119,114,105,116,101],[116,112,99,100]),([100,101,108,101,116,101],[116,112,108]),([117,110,100,101,108,101,116,101],[116,112,108]),([100,101,115,116,114,111,121],[116,112,108]),([109,101,116,97],[116,112]),([99,111,110,102,105,103],[116,112,110,102]),([112,117,114,103,101],[116,112]),([108,105,115,116],[116,112]),([99,111,112,121],[116,112,113])]
def A4(op:Int):Bs:=(RB.getD op.toNat ([],[])).1
def Bk(op:Int):Bs:=(RB.getD op.toNat ([],[])).2
def aCm(p:Bs×Bs):Option D->Bool
 |some (.agg [.str a,.str b])=>Go.Ve.eqBs a p.1&&Go.Ve.eqBs b p.2
 |_=>false
def yV:List D->Option D:=NS (λ_=>none) 30 aNB [.cell (some 2) 2] 60
def pG:Kq yV 44:=NR A6 (Ai func44:Fn Qf 44 30 aNB [.cell (some 2) 2]) 60
def aEY:(ZD 256).all (λop=>aCm (RB.getD op ([],[])) (yV [.int .u8 (op:Nat)]))=true:=Z
def Pv{op:Int}(z:0<=op)(h:op<256):yV [.int .u8 op]=some (.agg [.str (A4 op),.str (Bk op)]):=by
 have:=QS.1 aEY op.toNat Xb;rw[Qw z]at this;unfold A4 Bk;generalize yV [.int .u8 op]=r at this;unfold aCm at this;split at this
 ·rw[QX]at this;rw[Go.Ve.eqBs_eq this.1,Go.Ve.eqBs_eq this.2]
 ·cases this
structure HH (a:Ak):Prop where
 op0:0<=a.op
 op:a.op<256
 tk:a.tk.length<=1000
 pa:a.pa.length<=1000
 ot:a.ot.length<=1000
 ns:a.ns.length<=1000
 da:a.da.length<=1000
 rl:a.rs.length<=1000
 rs:∀r∈a.rs,r.1.length<=1000∧0<=r.2
 key:a.key.length<=1000
def A7(a:Ak)(c:Int):Int:=if c=116 then BK (BT a.tk)else if c=109 then BK (BT a.ot)else if c=112 then AF a.pa else if c=113 then AF a.ot else if c=110 then BK (decide (0<=a.n∧a.n<=999))else if c=99 then BK (decide (-1<=a.cas∧a.cas<=999))else if c=108 then BK (countB a.ns)else if c=114 then Cg a.rs else if c=107 then BK (decide ((a.key.length:Int)=16))else 0
def aGg:List D->Option D:=FX (λp:Ak×Int=>[Hv p.1,.int .i32 p.2]) (λp=>HH p.1) (λp=> .int .i64 (A7 p.1 p.2))
def HP{a:Ak}{c:Int}(h:HH a):aGg [Hv a,.int .i32 c]=some (.int .i64 (A7 a c)):=
 B5 (mk:=λp:Ak×Int=>[Hv p.1,.int .i32 p.2]) (a:=(a,c)) (λx y e=>by
  simp only[Qd,D.int.injEq,true_and,and_true]at e;exact QT (FK e.1) e.2) h
def aK8:Kq aGg 101:=by
 obtain⟨S,hS,hl⟩:=Bp (Aa aTN (Aa aK2 (Aa pF (Aa aK1 (Aa aTM (Aa cD Ad))))));have g:=hl 169 _ rfl;have e:=hl 97 _ rfl;have fa:=hl 107 _ rfl;have f:=hl 170 _ rfl;have i:=hl 171 _ rfl;have da:=hl 168 _ rfl;clear hl;refine Da hS (Ai func101:Fn Qf 101 58 aNA [.t 4]) (λ_=>U) (λp hp=>?_);obtain⟨a,c⟩:=p;simp only at hp;have hT:=sU (s:=a.tk) (by have:=hp.tk;omega);have hO:=sU (s:=a.ot) (by have:=hp.ot;omega);have hP:iE [.str a.pa]=some (.int .i64 (AF a.pa)):=if_pos (by have:=hp.pa;omega);have hQ:iE [.str a.ot]=some (.int .i64 (AF a.ot)):=if_pos (by have:=hp.ot;omega);have hN:zJ [.int .i64 a.n,.int .i64 0,.int .i64 999]=some (.bool (decide (0<=a.n∧a.n<=999))):=rfl;have hC:zJ [.int .i64 a.cas,.int .i64 (-1),.int .i64 999]=some (.bool (decide (-1<=a.cas∧a.cas<=999))):=rfl;have hL:=aKj (nl:=a.nln) (l:=a.ns) (by have:=hp.ns;omega);have hR:=Sn (nl:=a.nlr) (l:=a.rs) (by have:=hp.rl;omega) hp.rs;unfold A7 aNA Hv Hq;simp only;by_cases b:c=116
 ·subst b;simp only[↓C2,Hf,simprocAttr,Ab g,hT,Ab e,HJ,Ah,Qb]
  all_goals exact Y1
 have j:decide (c=116)=false:=by simpa using b
 by_cases z:c=109
 ·subst z;simp only[↓C2,Hf,simprocAttr,Ab g,hO,Ab e,HJ,Ah,Qb]
  all_goals exact Y1
 have r:decide (c=109)=false:=by simpa using z
 by_cases x:c=112
 ·subst x;simp only[↓C2,Hf,simprocAttr,Ab fa,hP,Ah,Qb]
  all_goals exact Y1
 have q:decide (c=112)=false:=by simpa using x
 by_cases y:c=113
 ·subst y;simp only[↓C2,Hf,simprocAttr,Ab fa,hQ,Ah,Qb]
  all_goals exact Y1
 have k:decide (c=113)=false:=XS
 by_cases d:c=110
 ·subst d;simp only[↓C2,Hf,simprocAttr,Ab f,hN,Ab e,HJ,Ah,Qb]
  all_goals exact Y1
 have m:decide (c=110)=false:=Xv
 by_cases ga:c=99
 ·subst ga;simp only[↓C2,Hf,simprocAttr,Ab f,hC,Ab e,HJ,Ah,Qb]
  all_goals exact Y1
 have w:decide (c=99)=false:=by simpa using ga
 by_cases h108:c=108
 ·subst h108;simp only[↓C2,Hf,simprocAttr,Ab i,hL,Ab e,HJ,Ah,Qb]
  all_goals exact Y1
 have o:decide (c=108)=false:=by simpa using h108
 by_cases ca:c=114
 ·subst ca;simp only[↓C2,Hf,simprocAttr,Ab da,hR,Ah,Qb]
  all_goals exact Y1
 have v:decide (c=114)=false:=by simpa using ca
 by_cases h:c=107
 ·subst h;simp only[↓C2,Hf,simprocAttr,Ab e,HJ,Ah,Qb]
  all_goals exact Y1
 have u:decide (c=107)=false:=Xl
 simp only[↓C2,G_,simprocAttr,b,z,x,y,d,ga,h108,ca,h,Qp,and_self]
 all_goals exact Y1
def Dh(a:Ak)(c:Int):Ak:=if c=116 then {a with tk:=[]}else if c=112 then {a with pa:=[]}else if c=109∨c=113 then {a with ot:=[]}else if c=110 then {a with n:=0}else if c=99 then {a with cas:=0}else if c=102 then {a with fl:=false}else if c=108 then {a with nln:=true,ns:=[]}else if c=100 then {a with da:=[]}else if c=114 then {a with nlr:=true,rs:=[]}else if c=107 then {a with key:=[]}else a
def aKE:List D->Option D:=FX (λp:Ak×Int=>[Hv p.1,.int .i32 p.2]) (λp=>True) (λp=>Hv (Dh p.1 p.2))
def aKD{a:Ak}{c:Int}:aKE [Hv a,.int .i32 c]=some (Hv (Dh a c)):=
 B5 (mk:=λp:Ak×Int=>[Hv p.1,.int .i32 p.2]) (a:=(a,c)) (λx y e=>by
  simp only[Qd,D.int.injEq,true_and,and_true]at e;exact QT (FK e.1) e.2) trivial
def aT8:Kq aKE 259:=by
 refine Da (S:=λ_=>none) A6 (Ai func259:Fn Qf 259 38 aNz [.cell (some 11) 4]) (λ_=>U) (λp k=>?_);obtain⟨a,c⟩:=p;unfold Dh aNz Hv Hq;simp only;by_cases b:c=116
 ·subst b;simp only[↓C2,Hf,simprocAttr,or_self,Ah,Au,Av,Qb,Qj,Ql,Qd,Qn,and_false,Qg,Bu,AW]
  all_goals exact Y1
 by_cases u:c=112
 ·subst u;simp only[↓C2,Hf,simprocAttr,or_self,Ah,Au,Av,Qb,Qj,Ql,Qd,Qn,and_false,Qg,Bu,AW]
  all_goals exact Y1
 by_cases z:c=109
 ·subst z;simp only[↓C2,Hf,simprocAttr,true_or,Ah,Au,Av,Qb,Qj,Ql,Qd,Qn,and_false,Qg,Bu,AW]
  all_goals exact Y1
 by_cases r:c=113
 ·subst r;simp only[↓C2,Hf,simprocAttr,or_true,Ah,Au,Av,Qb,Qj,Ql,Qd,Qn,and_false,Qg,Bu,AW]
  all_goals exact Y1
 by_cases d:c=110
 ·subst d;simp only[↓C2,Hf,simprocAttr,or_self,Ah,Au,Av,Qb,Qj,Ql,Qd,Qn,and_false,Qg,Bu,AW]
  all_goals exact Y1
 by_cases q:c=99
 ·subst q;simp only[↓C2,Hf,simprocAttr,or_self,Ah,Au,Av,Qb,Qj,Ql,Qd,Qn,and_false,Qg,Bu,AW]
  all_goals exact Y1
 by_cases f:c=102
 ·subst f;simp only[↓C2,Hf,simprocAttr,or_self,Ah,Au,Av,Qb,Qj,Ql,Qd,Qn,and_false,Qg,Bu,AW]
  all_goals exact Y1
 by_cases h108:c=108
 ·subst h108;simp only[↓C2,Hf,simprocAttr,or_self,Ah,Au,Av,Qb,Qj,Ql,Qd,Qn,and_false,Qg,Bu,AW]
  all_goals exact Y1
 by_cases g:c=100
 ·subst g;simp only[↓C2,Hf,simprocAttr,or_self,Ah,Au,Av,Qb,Qj,Ql,Qd,Qn,and_false,Qg,Bu,AW]
  all_goals exact Y1
 by_cases v:c=114
 ·subst v;simp only[↓C2,Hf,simprocAttr,or_self,Ah,Au,Av,Qb,Qj,Ql,Qd,Qn,and_false,Qg,Bu,AW]
  all_goals exact Y1
 by_cases h:c=107
 ·subst h;simp only[↓C2,Hf,simprocAttr,or_self,Ah,Au,Av,Qb,Qj,Ql,Qd,Qn,and_false,Qg,Bu,AW]
  all_goals exact Y1
 simp only[↓C2,Hf,simprocAttr,b,u,z,r,d,q,f,h108,g,v,h,or_self,Ah,Au,Av,Qb,Qj,Ql,Qd,Qn,Qg,Bu,AW]
 all_goals exact Y1
def Wq(s:Bs):Bs:=if s=[]then [45]else s
def MI(a:Ak)(c:Int):Bs:=if c=116 then a.tk else if c=112 then a.pa else if c=109∨c=113 then a.ot else if c=110 then BJ a.n.toNat else if c=99 then(if a.cas=-1 then [45]else BJ a.cas.toNat)
 else if c=102 then(if a.fl=true then [49]else [48])else if c=108 then Wq (BA (CR a.ns))else if c=100 then Wq (Cl a.da)else if c=114 then Wq (if Cg a.rs=0 then BA (Bl a.rs)else [])else Cl a.key
structure Ul (a:Ak) (c:Int):Prop where
 n:c=110->0<=a.n∧a.n<1000
 cas:c=99->-1<=a.cas∧a.cas<1000
 ns:c=108->∀x∈a.ns,0<=x∧x<1000
def aKh:List D->Option D:=FX (λp:Ak×Int=>[Hv p.1,.int .i32 p.2]) (λp=>HH p.1∧Ul p.1 p.2) (λp=> .str (MI p.1 p.2))
def aKg{a:Ak}{c:Int}(h:HH a)(f:Ul a c):aKh [Hv a,.int .i32 c]=some (.str (MI a c)):=
 B5 (mk:=λp:Ak×Int=>[Hv p.1,.int .i32 p.2]) (a:=(a,c)) (λx y e=>by
  simp only[Qd,D.int.injEq,true_and,and_true]at e;exact QT (FK e.1) e.2) ⟨h,f⟩
def aTJ:Kq aKh 310:=by
 obtain⟨S,hS,hl⟩:=Bp (Aa aKW (Aa aTx (Aa aTw (Aa aBj (Aa aK3 Ad)))));have e:=hl 330 _ rfl;have k:=hl 331 _ rfl;have r:=hl 332 _ rfl;have m:=hl 14 _ rfl;have o:=hl 136 _ rfl;clear hl;refine Da hS (Ai func310:Fn Qf 310 63 aME [.t 4]) (λ_=>U) (λp hp=>?_);obtain⟨a,c⟩:=p;obtain⟨hp,hN,hC,hL⟩:=hp;simp only at hp hN hC hL;unfold MI Wq aME Hv Hq;simp only;by_cases b:c=116
 ·subst b;simp only[↓C2,Hf,simprocAttr,or_self,Ah,Qb]
  all_goals exact Y1
 by_cases x:c=112
 ·subst x;simp only[↓C2,Hf,simprocAttr,or_self,Ah,Qb]
  all_goals exact Y1
 by_cases z:c=109
 ·subst z;simp only[↓C2,Hf,simprocAttr,true_or,Ah,Qb]
  all_goals exact Y1
 by_cases y:c=113
 ·subst y;simp only[↓C2,Hf,simprocAttr,or_true,Ah,Qb]
  all_goals exact Y1
 by_cases d:c=110
 ·subst d;have hn:=hN rfl;obtain⟨n,la⟩:∃n:Nat,a.n=(n:Int):=⟨a.n.toNat,O⟩;have h:=Wi (n:=n) O;rw[la];simp only[↓C2,Hf,simprocAttr,Ab e,h,Qh,or_self,Ah,Qb]
  all_goals exact Y1
 by_cases ga:c=99
 ·subst ga;have w:=hC rfl;by_cases u:a.cas=-1
  ·rw[u];simp only[↓C2,Hf,simprocAttr,or_self,Ah,Qb]
   all_goals exact Y1
  ·obtain⟨n,la⟩:∃n:Nat,a.cas=(n:Int):=⟨a.cas.toNat,O⟩;have h:=Wi (n:=n) O;rw[la]at u ⊢;simp only[↓C2,Hf,simprocAttr,u,Ab e,h,Qh,or_self,Ah,Qb]
   all_goals exact Y1
 by_cases f:c=102
 ·subst f;cases a.fl<;>simp only[↓C2,Hf,simprocAttr,or_self,Ah,Qb]
  all_goals exact Y1
 by_cases h108:c=108
 ·subst h108;have hl:=hL rfl;have q:=aJ9 (nl:=a.nln) (l:=a.ns) hp.ns hl;simp only[↓C2,Hf,simprocAttr,Ab r,q,Ab k,Wh,or_self,Ah,Qb]
  all_goals exact Y1
 by_cases g:c=100
 ·subst g;have i:=Px (s:=a.da) (by have:=hp.da;omega);simp only[↓C2,Hf,simprocAttr,Ab m,i,Ab k,Wh,or_self,Ah,Qb]
  all_goals exact Y1
 by_cases v:c=114
 ·subst v;have j:=Wl (nl:=a.nlr) (l:=a.rs) (by have:=hp.rl;omega) hp.rs;simp only[↓C2,Hf,simprocAttr,Ab o,j,Ab k,Wh,or_self,Ah,Qb]
  all_goals exact Y1
 have i:=Px (s:=a.key) (by have:=hp.key;omega);simp only[↓C2,Hf,simprocAttr,Ab m,i,b,x,z,y,d,ga,f,h108,g,v,or_self,Ah,Qb]
 all_goals exact Y1
def Pz(a:Ak):Bool:=a.ns.isEmpty&&(a.rs.isEmpty&&(decide (a.op=0)&&(decide (a.tk=[])&&(decide (a.pa=[])&&(decide (a.ot=[])&&(decide (a.n=0)&&(decide (a.cas=0)&&(!a.fl&&(decide (a.da=[])&&decide (a.key=[]))))))))))
def ak0:Ak:=⟨0,[],[],[],0,0,false,true,[],[],true,[],[]⟩
def aSl:List D->Option D:=FX (λa:Ak=>[Hv a,Hv ak0]) (λa=>HH a) (λa=> .bool (Pz a))
def aKC{a:Ak}(h:HH a):aSl [Hv a,Hv ak0]=some (.bool (Pz a)):=
 B5 (mk:=λa:Ak=>[Hv a,Hv ak0]) (λx y e=>by
  simp only[Qd,and_true]at e;exact FK e) h
def aTK:Kq aKi 132:=by
 obtain⟨S,g,hl⟩:=Bp (Aa aTy Ad);have b:=hl 197 _ rfl;clear hl;refine Da g aLL (λ_=>U) (λp j=>?_);have a:=Wj (nl:=p.1) (nl':=p.2.2) (l:=p.2.1) j;unfold qR;by_cases m:(([D.slice p.1 [] p.2.1,.slice p.2.2 [] []]:List D).map D.un).all D.calm=true
 ·simp only[↓C2,G_,simprocAttr,Ab b,a,and_self]
  all_goals exact Y1
 ·exact absurd rfl m
def aT7:Kq aSl 260:=by
 obtain⟨S,s,hl⟩:=Bp (Aa aTL (Aa aTK Ad));have d:=hl 309 _ rfl;have e:=hl 132 _ rfl;clear hl;refine Da s (Ai func260:Fn Qf 260 82 aNy [.t 4]) (λ_=>U) (λa k=>?_);have c:=Wj (nl:=a.nln) (nl':=true) (l:=AJ a.ns) (by rw[EX];have:=k.ns;omega);have b:=Wj (nl:=a.nlr) (nl':=true) (l:=Ar a.rs) (by rw[A_];have:=k.rl;omega);have g:(AJ a.ns).isEmpty=a.ns.isEmpty:=by cases a.ns<;>rfl
 have v:(Ar a.rs).isEmpty=a.rs.isEmpty:=by cases a.rs<;>rfl
 rw[g]at c;rw[v]at b;unfold Pz aNy Hv Hq ak0;simp only;generalize a.ns.isEmpty=w at c;generalize a.rs.isEmpty=m at b;have n1:AJ ([]:List Int)=[]:=rfl;have n2:Ar ([]:List Rl)=[]:=rfl;cases w with
 |false=>
  simp only[↓C2,Hf,simprocAttr,n1,n2,Ab d,c,QA,Ah,Qb,Qd,Qn,Qg]
  all_goals exact Y1
 |true=>
  cases m with
  |false=>
   simp only[↓C2,Hf,simprocAttr,n1,n2,Ab d,c,Ab e,b,QA,QM,Ah,Qb,Qd,Qn,Qg]
   all_goals exact Y1
  |true=>
   simp only[Zq];by_cases r:a.op=0
   ·by_cases x:a.tk=[]
    ·by_cases p:a.pa=[]
     ·by_cases z:a.ot=[]
      ·by_cases q:a.n=0
       ·by_cases y:a.cas=0
        ·cases g7:a.fl with
         |false=>
          by_cases j:a.da=[]
          ·simp only[↓C2,Hf,simprocAttr,n1,n2,Ab d,c,Ab e,b,Ah,Qb,Qd,Qn,Qg,r,x,p,z,q,y,j]
           trace_state
           all_goals exact Y1
          ·simp only[↓C2,Hf,simprocAttr,n1,n2,Ab d,c,Ab e,b,QA,QM,Ah,Qb,Qd,Qn,Qg,r,x,p,z,q,y,j]
           all_goals exact Y1
         |true=>
          simp only[↓C2,Hf,simprocAttr,n1,n2,Ab d,c,Ab e,b,QA,QM,Ah,Qb,Qd,Qn,Qg,r,x,p,z,q,y]
          all_goals exact Y1
        ·simp only[↓C2,Hf,simprocAttr,n1,n2,Ab d,c,Ab e,b,QA,QM,Ah,Qb,Qd,Qn,Qg,r,x,p,z,q,y]
         all_goals exact Y1
       ·simp only[↓C2,Hf,simprocAttr,n1,n2,Ab d,c,Ab e,b,QA,QM,Ah,Qb,Qd,Qn,Qg,r,x,p,z,q]
        all_goals exact Y1
      ·simp only[↓C2,Hf,simprocAttr,n1,n2,Ab d,c,Ab e,b,QA,QM,Ah,Qb,Qd,Qn,Qg,r,x,p,z]
       all_goals exact Y1
     ·simp only[↓C2,Hf,simprocAttr,n1,n2,Ab d,c,Ab e,b,QA,QM,Ah,Qb,Qd,Qn,Qg,r,x,p]
      all_goals exact Y1
    ·simp only[↓C2,Hf,simprocAttr,n1,n2,Ab d,c,Ab e,b,QA,QM,Ah,Qb,Qd,Qn,Qg,r,x]
     all_goals exact Y1
   ·simp only[↓C2,Hf,simprocAttr,n1,n2,Ab d,c,Ab e,b,QA,Ah,Qb,Qd,Qn,Qg,r]
    all_goals exact Y1
theorem AH{m:G6}{i j:Id}{o:Nat}{ds:List D}(h:j≠i):∀{n p:Nat},Ag (m.put i o ds) j p n=Ag m j p n
 |0,p=>rfl
 |n+1,p=>by
  simp only[Ag,aA h];rw[AH h]
theorem UT{i:Id}:∀{ds:List D} {m:G6} {p:Nat},(∀k d,ds[k]?=some d->m i (p+k)=some d)->Ag m i p ds.length=some ds
 |[],m,p,_=>rfl
 |d::r,m,p,h=>by
  have z:=h 0 d rfl;rw[Za]at z;have j:=UT (ds:=r) (m:=m) (p:=p+1) λk x q=>by
   have:=h (k+1) x Xu;rw[show p+1+k=p+(k+1)by omega];exact this
  simp only[Qk,Ag,z,j,Qv]
theorem Ay{m:G6}{i:Id}{ds:List D}{n:Nat}(h:ds.length=n):Ag (m.put i 0 ds) i 0 n=some ds:=by
 grind [UT,Ah]
def Mv{m:G6}{i:Id}{o:Nat}:Ag m i o 1=(m i o).map λd=>[d]:=by
 grind [Ag]
def BR(a:Ak):(Hq a).map D.un1=Hq a:=rfl
def BS(a:Ak):(Hq a).all D.calm1=true:=rfl
def AO(a:Ak):D.cells (.agg (Hq a))=Hq a:=rfl
theorem AT(a:Ak):(Hq a).length=11:=rfl
def dL{a:Ak}{c:Int}(h:HH a):(MI a c).length<=100000:=by
 obtain⟨_,_,u,f,i,p,m,r,k,w⟩:=h;have n1:=Mz a.n.toNat;have n2:=Mz a.cas.toNat;have oN:∀s:Bs,s.length<=100000->(Wq s).length<=100000:=by
  grind [Wq]
 have e:(BA (CR a.ns)).length<=100000:=by
  have g:=Gl (CR a.ns);have v:=Mm (l:=CR a.ns) (b:=3) λx q=>by
   obtain⟨y,_,rfl⟩:=QL.1 q;exact Mz _
  rw[D9]at g v;omega
 have j2:(if Cg a.rs=0 then BA (Bl a.rs)else []).length<=100000:=by
  split
  ·rename_i o;have d:=(NF o).1;have g:=Gl (Bl a.rs);have v:=Mm (l:=Bl a.rs) (b:=1007) λx q=>by
    obtain⟨y,j,rfl⟩:=QL.1 q;have u:=(k y j).1;have f:=FA y.2.toNat;simp only[Og,Qr,Qk,Qo];omega
   rw[CP]at g v;omega
  ·simp
 have t:=Er a.da;have z:=Er a.key;unfold MI;split
 ·omega
 ·grind
def MG(a:Ak):Bs:=A4 a.op++(Bk a.op).flatMap λc=>32::MI a (c.toNat:Int)
theorem forms_ok:RB.all (λp=>decide (p.1.length<=20)&&(decide (p.2.length<=20)&&p.2.all λc=>decide (c.toNat<128)))=true:=Xi
def qE(op:Int):(A4 op).length<=20∧(Bk op).length<=20∧∀c∈Bk op,c.toNat<128:=by
 unfold A4 Bk;have:∀p:Bs×Bs,p=([],[])∨p∈RB->p.1.length<=20∧p.2.length<=20∧∀c∈p.2,c.toNat<128:=by
  grind [forms_ok]
 refine this _ ?_;by_cases h:op.toNat<RB.length
 ·simp_all
 ·simp_all
def aHT{S:GZ}{a:Ak}(ha:HH a)(j:S 310=some (Ac aKh)){ls:Bs}(ea:ls.length<=20)(n:∀c∈ls,c.toNat<128)(d:∀c∈ls,Ul a (c.toNat:Int)){ki:Id}(k:([0]:Id)≠ki){w0:Bs}(b:w0.length<=20){Q:Ex->St->Prop}
  (ga:∀y,y.s 4= .str (w0++ls.flatMap λc=>32::MI a (c.toNat:Int))->Q (.exit 0) y):
  ∀(f p:Nat) y g,ls.length=p+f->y.s 1= .ptr [0] 0->y.s 4= .str (w0++(ls.take p).flatMap λc=>32::MI a (c.toNat:Int))->y.s 14= .itp ki->Ag y.m [0] 0 11=some (Hq a)->y.m ki 1=some (.it ls p)->
   Ba S [] Pn Q y g:=by
 intro f;induction f with
 |zero=>
  intro p y g hf u t wa hm o;refine Af Pn.eq_1 ?_;have w:¬(p<ls.length):=O
  simp only[↓C2,G8,simprocAttr,wa,w,o,Qq];refine ga _ ?_;simp only[↓C2,reduceIte,Qc,t];rw[QG O]
 |succ f ih=>
  intro p y g hf u t wa hm o;refine Af Pn.eq_1 ?_;have w:p<ls.length:=O
  have ja:ls[p]?=some ls[p]:=Qi w;have na:ls[p]∈ls:=QW w;have i:=N4 ja (n _ na);have e:aKh [.agg (Hq a),.int .i32 (ls[p].toNat:Int)]=some (.str (MI a (ls[p].toNat:Int))):=aKg ha (d _ na);have xa:=dL (c:=(ls[p].toNat:Int)) ha;have z:ls.take (p+1)=ls.take p++[ls[p]]:=by rw[Zg,ja];rfl
  have v:((ls.take p).flatMap λc=>32::MI a (c.toNat:Int)).length<=100001*20:=by
   have:∀(l:Bs),((l.flatMap λc=>32::MI a (c.toNat:Int))).length<=100001*l.length:=by
    intro l;induction l with
    |nil=>simp
    |cons x r ih=>
     have:=dL (c:=(x.toNat:Int)) ha;simp only[List.flatMap_cons,Qr,Qk,ZJ];omega
   have h:=this (ls.take p);have h':(ls.take p).length<=20:=XE
   omega
  have ia:(1+(MI a (ls[p].toNat:Int)).length<=9223372036854775807)=True:=eq_true O;have la:(w0.length+((ls.take p).flatMap λc=>32::MI a (c.toNat:Int)).length+(1+(MI a (ls[p].toNat:Int)).length)<=9223372036854775807)=True:=eq_true O;generalize ls[p]=c at i e z ia la;obtain⟨ka,fa,q⟩:=y;simp only at u t wa hm o;simp only[↓C2,G_,simprocAttr,u,t,wa,hm,i,AH k,Ab j,e,ia,la,BR,BS,w,o,Qr,Qk,Qo,Qp,Qq,Qb];refine ih (p+1) _ _ O ?_ ?_ ?_ ?_ ?_
  ·exact u
  ·simp only[↓C2,reduceIte,Qc];rw[z];simp
  ·exact wa
  ·grind [AH]
  ·grind [Ah]
def aSk:List D->Option D:=FX (λa:Ak=>[Hv a]) (λa=>HH a∧∀c∈Bk a.op,Ul a (c.toNat:Int)) (λa=> .str (MG a))
def aKB{a:Ak}(h:HH a)(f:∀c∈Bk a.op,Ul a (c.toNat:Int)):aSk [Hv a]=some (.str (MG a)):=
 B5 (mk:=λa:Ak=>[Hv a]) (λx y e=>by
  simp only[Qd,and_true]at e;exact FK e) ⟨h,f⟩
def aT6:Kq aSk 261:=by
 obtain⟨S,g,hl⟩:=Bp (Aa pG (Aa aTJ Ad));have e:=hl 44 _ rfl;have j:=hl 310 _ rfl;clear hl;refine Da g (Ai func261:Fn Qf 261 25 aNx [.t 2]) (λ_=>U) (λa c=>?_);obtain⟨x,d⟩:=c;have v:=Pv x.op0 x.op;obtain⟨i,k,z⟩:=qE a.op;have q:Hq a= .int .u8 a.op::(Hq a).tail:=rfl;unfold MG aNx Hv;have na:∀m:G6,m.put [0] 0 (Hq a) [0] 0=some (.int .u8 a.op):=λm=>by
  rw[Ah,if_pos ⟨rfl,QB _,by rw[AT];omega⟩];rfl
 simp only[↓C2,Hf,simprocAttr,Ab e,v,na,AO,AT,Ah,Au,Av,Qb,Qj,Ql,Qd,Qg];refine aHT (ls:=Bk a.op) (w0:=A4 a.op) x j k z d (ki:=_) ?_ i (λy p=>?_) (Bk a.op).length 0 _ _ O rfl ?_ rfl ?_ ?_
 ·decide
 ·simp only[↓C2,G_,simprocAttr,p]
  all_goals exact Y1
 ·simp only[↓C2,G8,reduceIte,Qc,QO,List.flatMap_nil,QI]
 ·simp only[AH (show([0]:Id)≠[12]by decide),AH (show([0]:Id)≠[5]by decide),Ay (AT a)]
 ·simp only[H_,Hj,simprocAttr,Ah,Qy,Q6,Qk,Qo,Qp,Qq,Qb,and_self,Qd,false_and,Qg]
def LA(a:Ak):Ak->Bs->Int×Ak
 |b,[]=>(0,b)
 |b,c::r=>if A7 a (c.toNat:Int)≠0 then(A7 a (c.toNat:Int),b)else LA a (Dh b (c.toNat:Int)) r
def Ih(a:Ak):Ak:={a with op:=0}
def BQ(a:Ak):Int:=if A4 a.op=[]then 22 else if(LA a (Ih a) (Bk a.op)).1≠0 then(LA a (Ih a) (Bk a.op)).1 else if Pz (LA a (Ih a) (Bk a.op)).2=false then 2 else if 400<(MG a).length then 5 else 0
def HH.without{a:Ak}(h:HH a)(c:Int):HH (Dh a c):=by
 unfold Dh;obtain⟨z,u,f,i,p,m,s,k,w,q⟩:=h
 repeat' split
 all_goals exact⟨by first|exact z|simp,by first|exact u|simp,by first|exact f|simp,by first|exact i|simp,by first|exact p|simp,by first|exact m|simp,by first|exact s|simp,by first|exact k|simp,by first|exact w|simp,by first|exact q|simp⟩
def aA4{m:G6}{i:Id}(a:Ak):Ag ((m.put i 0 (Hq a)).put i 0 [.int .u8 0]) i 0 11=some (Hq (Ih a)):=by
 grind [UT,Hq,Ih,AT,Ah]
def aPL{S:GZ}{a:Ak}(ha:HH a)(j:S 101=some (Ac aGg))(l:S 259=some (Ac aKE)){ls:Bs}(n:∀c∈ls,c.toNat<128){r:Int×Ak}{Q:Ex->St->Prop}
  (pa:∀y,r.1≠0->y.s 2= .int .i64 r.1->Q .ret y)
  (ga:∀y,r.1=0->(∀c∈ls,A7 a (c.toNat:Int)=0)->HH r.2->y.s 1= .ptr [0] 0->y.s 4= .ptr [11] 0->Ag y.m [0] 0 11=some (Hq a)->Ag y.m [11] 0 11=some (Hq r.2)->Q (.exit 0) y):
  ∀(f p:Nat)(b:Ak) y g,ls.length=p+f->LA a b (ls.drop p)=r->(∀c∈ls.take p,A7 a (c.toNat:Int)=0)->HH b->y.s 1= .ptr [0] 0->y.s 4= .ptr [11] 0->y.s 18= .itp [17]->Ag y.m [0] 0 11=some (Hq a)->Ag y.m [11] 0 11=some (Hq b)->y.m [17] 1=some (.it ls p)->
   Ba S [] VB Q y g:=by
 have ma:([0]:Id)≠[17]:=V
 have k:([11]:Id)≠[17]:=V
 have o:([0]:Id)≠[11]:=V
 have q:([17]:Id)≠[11]:=V
 intro f;induction f with
 |zero=>
  intro p b y g hf hr hz t u h4 la hm ra ba;refine Af VB.eq_1 ?_;have w:¬(p<ls.length):=O
  simp only[↓C2,G8,simprocAttr,la,w,ba,Qq];rw[List.drop_of_length_le O]at hr;rw[QG O]at hz;simp only[LA]at hr;subst hr;exact ga _ rfl hz t u h4 hm ra
 |succ f ih=>
  intro p b y g hf hr hz t u h4 la hm ra ba;refine Af VB.eq_1 ?_;have w:p<ls.length:=O
  have ja:ls[p]?=some ls[p]:=Qi w;have na:ls[p]∈ls:=QW w;have i:=N4 ja (n _ na);have d:aGg [.agg (Hq a),.int .i32 (ls[p].toNat:Int)]=some (.int .i64 (A7 a (ls[p].toNat:Int))):=HP ha;have e:aKE [.agg (Hq b),.int .i32 (ls[p].toNat:Int)]=some (.agg (Hq (Dh b (ls[p].toNat:Int)))):=aKD;have z:ls.take (p+1)=ls.take p++[ls[p]]:=by rw[Zg,ja];rfl
  have sa:ls.drop p=ls[p]::ls.drop (p+1):=QJ w;have va:=t.without (ls[p].toNat:Int);rw[sa]at hr;unfold LA at hr;generalize ls[p]=c at i d e z hr va;obtain⟨ka,fa,da⟩:=y;simp only at u h4 la hm ra ba;by_cases v:A7 a (c.toNat:Int)=0
  ·rw[if_neg (λh=>h v)]at hr;rw[v]at d;simp only[↓C2,G_,simprocAttr,u,h4,la,hm,ra,i,AH ma,AH k,Ab j,d,Ab l,e,BR,BS,AO,AT,w,ba,and_self,Qq,Qb,Ql];refine ih (p+1) _ _ _ O hr (λx hx=>?_) va ?_ ?_ ?_ ?_ ?_ ?_
   ·grind
   ·exact u
   ·exact h4
   ·exact la
   ·grind [AH]
   ·grind [Ay,AT]
   ·grind [aA,Ah]
  ·rw[if_pos v]at hr;simp only[↓C2,G_,simprocAttr,u,la,hm,i,AH ma,Ab j,d,v,BR,BS,w,ba,Qq,Qb];exact pa _ (by rw[←hr];exact v) (by rw[←hr];rfl)
def L1{b:Bool}(h:BK b=0):b=true:=by cases b with
 |true=>rfl
 |false=>cases h
def aBX{a:Ak}{c:Int}(h:A7 a c=0):Ul a c:=by
 refine⟨?_,?_,?_⟩
 ·rintro rfl;have e:A7 a 110=BK (decide (0<=a.n∧a.n<=999)):=by simp[A7]
  rw[e]at h;have:=of_decide_eq_true (L1 h);omega
 ·rintro rfl;have e:A7 a 99=BK (decide (-1<=a.cas∧a.cas<=999)):=by simp[A7]
  rw[e]at h;have:=of_decide_eq_true (L1 h);omega
 ·rintro rfl;have e:A7 a 108=BK (countB a.ns):=by simp[A7]
  rw[e]at h;have f:=L1 h;unfold countB at f;rw[QX]at f;intro x q;have i:(a.ns.any λx=>!decide (1<=x∧x<=999))=false:=by simpa using f.2
  rw[List.any_eq_false]at i;have p:=i x q;have m:1<=x∧x<=999:=XV
  omega
def F68:List D->Option D:=FX (λa:Ak=>[Hv a]) (λa=>HH a) (λa=> .int .i64 (BQ a))
def aSe{a:Ak}(h:HH a):F68 [Hv a]=some (.int .i64 (BQ a)):=
 B5 (mk:=λa:Ak=>[Hv a]) (λx y e=>by
  simp only[Qd,and_true]at e;exact FK e) h
def aX0:Kq F68 207:=by
 obtain⟨S,hS,hl⟩:=Bp (Aa pG (Aa aK8 (Aa aT8 (Aa aT7 (Aa aT6 Ad)))));have e:=hl 44 _ rfl;have j:=hl 101 _ rfl;have l:=hl 259 _ rfl;have g:=hl 260 _ rfl;have n:=hl 261 _ rfl;clear hl;refine Da hS (Ai func207:Fn Qf 207 39 aWa [.t 2]) (λ_=>U) (λa x=>?_);have v:=Pv x.op0 x.op;obtain⟨f1,f2,f3⟩:=qE a.op;have na:∀m:G6,m.put [0] 0 (Hq a) [0] 0=some (.int .u8 a.op):=λm=>by
  rw[Ah,if_pos ⟨rfl,QB _,by rw[AT];omega⟩];rfl
 have ma:([0]:Id)≠[17]:=V
 have k:([11]:Id)≠[17]:=V
 have o:([0]:Id)≠[11]:=V
 have q:([0]:Id)≠[5]:=V
 have qa:∀m:G6,m.put [11] 0 (Hq a) [11] 0=some (.int .u8 a.op):=λm=>by
  rw[Ah,if_pos ⟨rfl,QB _,by rw[AT];omega⟩];rfl
 have i:HH (Ih a):=⟨by simp[Ih],by simp[Ih],x.tk,x.pa,x.ot,x.ns,x.da,x.rl,x.rs,x.key⟩;have d:(∀c∈Bk a.op,A7 a (c.toNat:Int)=0)->aSk [.agg (Hq a)]=some (.str (MG a)):=λh=>aKB x λc s=>aBX (h c s)
 unfold BQ aWa Hv;by_cases hw:A4 a.op=[]
 ·have p:(A4 a.op==([]:Bs))=true:=by rw[hw];rfl
  simp only[↓C2,Hf,simprocAttr,AO,AT,Ab e,v,na,Ay,Ah,Ql,Qd,Qg,hw]
  all_goals exact Y1
 ·have p:(A4 a.op==([]:Bs))=false:=by simpa using hw
  simp only[↓C2,Hf,simprocAttr,AO,AT,Ab e,v,na,qa,Mv,Ay,Ah,Qb,Ql,Qd,and_false,Qg,hw,AH q,Ay (AT a)];generalize hr:LA a (Ih a) (Bk a.op)=r;refine aPL (r:=r) x j l f3 (λy u w=>?_) (λy u hz hb z h4 hm ra=>?_) (Bk a.op).length 0 (Ih a) _ _ O hr U i rfl rfl rfl ?_ ?_ ?_
  ·simp only[↓C2,G_,reduceIte,u,w,ne_eq];rw[if_neg hw]
  ·have f:=d hz;have b:aSl [.agg (Hq r.2),.agg [.int .u8 0,.str [],.str [],.str [],.int .i64 0,.int .i64 0,.bool false,.slice true [] [],.str [],.slice true [] [],.str []]]=some (.bool (Pz r.2)):=aKC hb;cases hzb:Pz r.2 with
   |false=>
    rw[hzb]at b;simp only[↓C2,G_,simprocAttr,BR,BS,ne_eq,QD,Q1,Q7,Zb,Zh,u,h4,ra,Ab g,b,Cn,D.un1,D.calm1,Zj];rw[if_neg hw]
   |true=>
    rw[hzb]at b;by_cases hl:400<(MG a).length
    ·have fa:((400:Int)<((MG a).length:Int)):=by omega
     simp only[↓C2,G_,simprocAttr,BR,BS,ne_eq,QD,Q1,Q7,Zb,Zh,u,z,h4,hm,ra,Ab g,b,Ab n,f,Cn,hl,fa,D.un1,D.calm1,Zj];rw[if_neg hw]
    ·have fa:¬((400:Int)<((MG a).length:Int)):=by omega
     simp only[↓C2,G_,simprocAttr,BR,BS,ne_eq,QD,Q1,Q7,Zb,Zh,u,z,h4,hm,ra,Ab g,b,Ab n,f,Cn,hl,fa,D.un1,D.calm1,Zj];rw[if_neg hw]
  ·grind [AH,Ay,AT]
  ·simp only[AH k];exact aA4 a
  ·grind [Ah]
def oO:Ry->Prop
 | .names nl l=>nl=true->l=[]
 |_=>True
def PU:∀{l:List Rw} {a:Int},CQ l a=true->∀x∈l,a<x.1∧x.1<=(l.getLast?.map (·.1)).getD 0
 |[],a,_,x,hx=>by cases hx
 |y::r,a,h,x,hx=>by
  simp only[CQ,QX,decide_eq_true_eq]at h;cases r with
  |nil=>
   rw[Q3.1 hx];exact⟨h.1,U⟩
  |cons z q=>
   have ih:=PU h.2;have o:=ih z (Zs ..);rw[List.getLast?_cons_cons];rcases QN.1 hx with rfl|hx
   ·exact⟨h.1,O⟩
   ·grind
def Em(l:List Rw):Ly l=(l.getLast?.map (·.1)).getD 0:=by
 grind [Ly]
def Ua{s:Sc}{q:Int}(h:CV s q=false)(y:q<=6):s.rs.length<=6∧∀x∈s.rs,1<=x.1∧x.1<=30:=by
 obtain⟨w,m,j,f,i,k⟩:=Gz h;have o:Bc s q<=6:=by unfold Bc;split<;>omega
 refine⟨O,λx d=>?_⟩;have:=PU i x d;rw[←Em,k]at this;omega
theorem sum_64:∀l:List Bs,(l.any λs=>!Vb s)=false->CN l<=64*l.length
 |[],_=>by simp[CN]
 |x::r,h=>by
  simp only[ZE,Bool.or_eq_false_iff,Bool.not_eq_false']at h;have ih:=sum_64 r h.2;have q:x.length<=64:=by
   grind [Vb]
  simp only[CN,Qk];omega
def Mp{y:Ry}(h:H3 y=0)(g:oO y):ryG y:=by
 cases y with
 |fail e=>simp only[H3]at h;split at h;(rename_i c;exact⟨O,O⟩);omega
 |done=>trivial
 |number n=>simp only[H3]at h;split at h;(rename_i c;exact⟨O,O⟩);omega
 |found n d=>simp only[H3]at h;split at h;(rename_i c;exact⟨O,O,O⟩);omega
 |about s=>
  simp only[H3]at h;cases hb:CV s 6 with
  |true=>rw[hb]at h;simp at h
  |false=>
   obtain⟨w,m,j,_⟩:=Gz hb;obtain⟨t,r⟩:=Ua hb O;exact⟨O,O,O,λx q=>by have:=r x q;omega⟩
 |names nl l=>
  simp only[H3]at h;split at h
  ·rename_i c;have:=sum_64 l c.2;exact⟨O,g,O⟩
  ·omega
 |state b=>trivial
theorem TB(l:List Bs):(Dv l).length<=1+CN l+l.length:=by
 grind [Dv,Eo]
def oL{y:Ry}(h:H3 y=0)(g:oO y):(HE y).length<=6∧CN (HE y)<=100000:=by
 cases y with
 |fail e=>have:=DQ e.toNat;simp only[HE,CN,Qk,Qo];omega
 |done=>simp[HE,CN]
 |number n=>have:=DQ n.toNat;simp only[HE,CN,Qk,Qo];omega
 |found n d=>
  have:=DQ n.toNat;simp only[H3]at h;split at h
  ·grind [Er,HE,CN]
  ·omega
 |about s=>
  have k:=DQ s.mx.toNat;have o:=DQ s.la.toNat;obtain⟨r,_⟩:=Mp h g;have:=TB (s.rs.map rowW1);have:=Ml s.rs;rw[Qx]at *;simp only[HE,CN,Qk,Qo];omega
 |names nl l=>
  simp only[H3]at h;split at h
  ·grind [sum_64,TB,HE,CN]
  ·omega
 |state b=>cases b<;>simp[HE,CN]
def aEN:=Ao [(67,Ac R92),(70,Ac aR4),(69,Ac dU)]
def nK:=RF aEN aNS [.t 2,.t 3] 13
def aB3:Kq nK 30:=Am (Ai func30) (Aa aPX (Aa aVy (Aa aLo Ad)))
def We(y:Ry)(h:aAD y)(o:oO y):nK [.agg (Hy y)]=some (.tup [.str (HD y),.int .i64 (H3 y)]):=by
 refine Al (Qa rfl) ?_;unfold aNS;have z:=nF y h;have e0:∃a b c d e f g i j k,Hy y=[a,b,c,d,e,f,g,i,j,k]:=YZ
 have d0:∀x∈Hy y,x.un1=x∧x.calm1=true:=by
  cases y<;>(intro x q;simp only[Hy,QN,QU,or_false]at q;rcases q with rfl|rfl|rfl|rfl|rfl|rfl|rfl|rfl|rfl|rfl<;>exact⟨rfl,rfl⟩)
 unfold HD;by_cases c:H3 y=0
 ·have n:=aJF y (Mp c o);obtain⟨w1,r⟩:=oL c o;have m:=dS (l:=HE y) (s:=[32]) ⟨jG y,O,O,U,by have:=Eo (HE y) [32];simp only[Qk,Qo]at this;omega⟩;obtain⟨a,b,cc,d,e,f,g,i,j,k,w⟩:=e0;have u:=λx q=>d0 x q
  rw[w]at z n d0 ⊢;rw[c]at z ⊢;simp only[QN,QU,or_false,forall_eq_or_imp,forall_eq]at d0;obtain⟨⟨a1,a2⟩,⟨b1,b2⟩,⟨c1,p⟩,⟨t,d2⟩,⟨e1,v⟩,⟨f1,f2⟩,⟨g1,g2⟩,⟨i1,i2⟩,⟨j1,j2⟩,k1,k2⟩:=d0;have ia:((strsD (HE y)).all D.calm)=true:=by simp[strsD,QS];intros;rfl
  simp only[G7,↓C2,GY,simprocAttr,Ae aEN 67,z,a1,a2,b1,b2,c1,p,t,d2,e1,v,f1,f2,g1,g2,i1,i2,j1,j2,k1,k2,Ae aEN 70,n,Ae aEN 69,m,spJ]
  all_goals exact Y0
 ·have c':=eq_false c;obtain⟨a,b,cc,d,e,f,g,i,j,k,w⟩:=e0;rw[w]at z d0 ⊢;simp only[QN,QU,or_false,forall_eq_or_imp,forall_eq]at d0;obtain⟨⟨a1,a2⟩,⟨b1,b2⟩,⟨c1,p⟩,⟨t,d2⟩,⟨e1,v⟩,⟨f1,f2⟩,⟨g1,g2⟩,⟨i1,i2⟩,⟨j1,j2⟩,k1,k2⟩:=d0;simp only[G7,↓C2,GY,simprocAttr,Ae aEN 67,z,a1,a2,b1,b2,c1,p,t,d2,e1,v,f1,f2,g1,g2,i1,i2,j1,j2,k1,k2,c']
  all_goals exact Y0
def aW8:=Ao [(30,Ac nK)]
def aJX:=RF aW8 aNT [.t 2] 17
def aLw:Kq aJX 37:=Am (Ai func37) (Aa aB3 Ad)
def Wf(e:Int)(h:1<=e∧e<=99):aJX [.int .i64 e]=some (.str (HD (.fail e))):=by
 refine Al (Qa rfl) ?_;unfold aNT;have q:=We (.fail e) trivial trivial;have v:H3 (.fail e)=0:=if_pos h;rw[v]at q;have c':(e=0)=False:=eq_false O;unfold Hy at q;simp only[G7,↓C2,GY,simprocAttr,Ae aW8 30,q,c']
 all_goals exact Y0
def aQQ{b:Bool}:decide (b=true)=b:=by cases b<;>rfl
def aNw:=y0 f262 [] []
def aNv:=y0 f263 [] []
def aV9:=y0 f208 [(4,[(6,0),(6,2)])] []
def aV8:=y0 f209 [] []
def aWo:=y0 f143 [] []
def aWp:=y0 f78 [] []
structure Vw where
 se:Bool
 te:Int
 key:Bs
 nlm:Bool
 ms:List Mt
 nlt:Bool
 ks:List Tk
def HN(v:Vw):List D:=[.bool v.se,.int .i64 v.te,.str v.key,.slice v.nlm [] (AA v.ms),.slice v.nlt [] (AL v.ks)]
def H4(v:Vw):D:= .agg (HN v)
theorem OX{a b:Vw}(h:H4 a=H4 b):a=b:=by
 cases a;cases b;simp only[H4,HN,D.agg.injEq,Qd,D.int.injEq,D.str.injEq,D.bool.injEq,D.slice.injEq,true_and,and_true]at h;obtain⟨u,f,i,⟨p,m⟩,s,k⟩:=h;have j:=cI m;have o:=WM k;subst u f i p s j o;rfl
def Is(v:Vw):(HN v).map D.un1=HN v:=rfl
def It(v:Vw):(HN v).all D.calm1=true:=rfl
def Bx(v:Vw):D.cells (.agg (HN v))=HN v:=rfl
theorem CF(v:Vw):(HN v).length=5:=rfl
structure R4 (v:Vw):Prop where
 ml:v.ms.length<=1000
 mp:∀m∈v.ms,m.1.length<=1000
 kl:v.ks.length<=1000
 kp:∀k∈v.ks,aAt k∧Mx k.2.2.2
theorem PL{l:List Tk}{j:Nat}(h:j<l.length):Bo l j∈l:=by simp[Bo,Qi h]
def R4.set{v:Vw}(h:R4 v):Fu (AL v.ks):=E4 (by have:=h.kl;omega)
def EI(k:List Tk)(n p:Bs)(c:Int):Bool:=A0 k n&&eA (Db (Bo k (Ir k n)).2.2.2 p).toNat c.toNat
open Classical in
def aF4{nl:Bool}{l:List Tk}{s:Bs}(hl:l.length<=1000000)(o:∀k∈l,aAt k):F35 [.agg [.slice nl [] (AL l)],.str s]=some (.tup (if A0 l s=true then [PK (Bo l (Ir l s)),.bool true]else [.agg [.str [],.str [],.slice true [] []],.bool false])):=by
 have h:Fu (AL l)∧∀k∈DA (AL l),aAt k:=⟨E4 hl,by rw[BN];exact o⟩;show(if _ then _ else _)=_;rw[if_pos h,BN]
open Classical in
def aSg{nl:Bool}{l:List Tk}{s p:Bs}(hl:l.length<=1000000)(o:∀k∈l,k.2.2.2.length<=1000000):F36 [.agg [.slice nl [] (AL l)],.str s,.str p]=some (.int .u8 (if A0 l s=true then Db (Bo l (Ir l s)).2.2.2 p else 0)):=by
 have h:Fu (AL l)∧∀k∈DA (AL l),k.2.2.2.length<=1000000:=⟨E4 hl,by rw[BN];exact o⟩;show(if _ then _ else _)=_;rw[if_pos h,BN]
def aIC{l:List Rl}(h:Gv l)(s:Bs):0<=Db l s∧Db l s<256:=by
 unfold Db;split
 ·omega
 ·generalize (Gj s (l.map (·.1))).toNat=j;by_cases d:j<l.length
  ·have:CZ l j=l[j]:=by simp[CZ,Qi d]
   rw[this];exact h _ (QW d)
  ·grind [CZ]
def kC(p:Vw×Bs×Bs×Int):List D:=[H4 p.1,.str p.2.1,.str p.2.2.1,.int .u8 p.2.2.2]
def aBB(x y:Vw×Bs×Bs×Int)(e:kC x=kC y):x=y:=by
 grind [kC,OX]
def aKA:List D->Option D:=FX kC (λp=>R4 p.1∧0<=p.2.2.2∧p.2.2.2<256) (λp=> .bool (EI p.1.ks p.2.1 p.2.2.1 p.2.2.2))
def sW{v:Vw}{n p:Bs}{c:Int}(h:R4 v)(u:0<=c∧c<256):aKA [H4 v,.str n,.str p,.int .u8 c]=some (.bool (EI v.ks n p c)):=B5 (mk:=kC) (a:=(v,n,p,c)) aBB ⟨h,u⟩
def aT5:Kq aKA 263:=by
 obtain⟨S,g,hl⟩:=Bp (Aa aTv (Aa aX3 Ad));have e:=hl 81 _ rfl;have f:=hl 13 _ rfl;clear hl;refine Da g (Ai func263:Fn Qf 263 29 aNv [.t 8]) (λ_=>by simp[kC]) (λp hp=>?_);obtain⟨v,n,q,c⟩:=p;obtain⟨y,w⟩:=hp;simp only at y w;have na:=y.kl;have r:=aF4 (nl:=v.nlt) (l:=v.ks) (s:=n) O (λk o=>(y.kp k o).1);have d:=aSg (nl:=v.nlt) (l:=v.ks) (s:=n) (p:=q) O (λk o=>(y.kp k o).2.1);unfold aNv kC H4 HN EI;simp only;cases hf:A0 v.ks n with
 |false=>
  rw[hf]at r;simp only[Qt,if_false]at r;simp only[↓C2,Hf,simprocAttr,Ab e,r,QA,Ah,Au,Av,Qb,Qj,Ql,Qd,Qg]
  all_goals exact Y1
 |true=>
  rw[hf]at r d;simp only[if_true]at r d;have m:Ir v.ks n<v.ks.length:=by
   grind [A0]
  have i:=(y.kp _ (PL m)).2.2.2;generalize Bo v.ks (Ir v.ks n)=k at r d i;have z:=aIC i q;generalize Db k.2.2.2 q=u at d z;have b:=R2 (a:=u.toNat) (c:=c.toNat) O O;rw[Qw w.1,Qw z.1]at b;have hz:(((Nat.land c.toNat (255-u.toNat):Nat):Int)=0)=(eA u.toNat c.toNat=true):=by
   simp_all [eA]
  simp only[PK]at r;simp only[↓C2,Hf,simprocAttr,Ab e,r,Ab f,d,WF,b,hz,aQQ,Ah,Au,Av,Qb,Qj,Ql,Qd,and_false,Qg]
  all_goals exact Y1
def aGX:Bs:=[115,121,115]
def atA(a:Ak):Bs:=if a.op<=8 then aGX else a.pa
def IC(v:Vw)(a:Ak):Bool:=EI v.ks a.tk (atA a) (IZ a.op)&&(decide (a.op≠18)||EI v.ks a.tk a.ot 2)
def LV(p:Vw×Ak):List D:=[H4 p.1,Hv p.2]
def P8(x y:Vw×Ak)(e:LV x=LV y):x=y:=by
 grind [LV,OX,FK]
def aD4(op:Int):0<=IZ op∧IZ op<256:=by
 grind [IZ]
def aGf:List D->Option D
 |[.int .u8 op]=>some (.bool (decide (op<=8)))
 |_=>none
def aK7:Kq aGf 262:=by
 refine AM (S:=λ_=>none) A6 (Ai func262:Fn Qf 262 5 aNw [.t 2]) (λds r h=>?_) (λds r h=>?_)
 ·unfold aGf at h;split at h
  ·simp
  ·cases h
 ·unfold aGf at h;split at h
  ·simp only[Qm]at h;subst h;unfold aNw;simp only[↓C2,G_,simprocAttr]
   all_goals exact Y1
  ·cases h
def F69:List D->Option D:=FX LV (λp=>R4 p.1) (λp=> .bool (IC p.1 p.2))
def aSd{v:Vw}{a:Ak}(h:R4 v):F69 [H4 v,Hv a]=some (.bool (IC v a)):=B5 (mk:=LV) (a:=(v,a)) P8 h
def aXZ:Kq F69 208:=by
 obtain⟨S,s,hl⟩:=Bp (Aa aK7 (Aa aX5 (Aa aT5 Ad)));have g:=hl 262 _ rfl;have j:=hl 264 _ rfl;have h:=hl 263 _ rfl;clear hl;refine Da s (Ai func208:Fn Qf 208 32 aV9 [.t 4]) (λ_=>by simp[LV]) (λp y=>?_);obtain⟨v,a⟩:=p;simp only at y;have f:aGf [.int .u8 a.op]=some (.bool (decide (a.op<=8))):=rfl;have x:F27 [.int .u8 a.op]=some (.int .u8 (IZ a.op)):=rfl;have i:∀q,aKA [.agg (HN v),.str a.tk,.str q,.int .u8 (IZ a.op)]=some (.bool (EI v.ks a.tk q (IZ a.op))):=λq=>sW y (aD4 _)
 have e:aKA [.agg (HN v),.str a.tk,.str a.ot,.int .u8 2]=some (.bool (EI v.ks a.tk a.ot 2)):=sW y O;have l:∀m:G6,Ag (m.put [1] 0 (Hq a)) [0] 0 5=Ag m [0] 0 5:=λm=>AH V
 have n:Ag (G6.put (λ_ _=>none) [0] 0 (HN v)) [0] 0 5=some (HN v):=Ay (CF v);have hm:∀m:G6,∀k d,(Hq a)[k]?=some d->(m.put [1] 0 (Hq a)) [1] k=some d:=λm k d z=>by
  have o:=(QP.1 z).1;rw[Ah,if_pos ⟨rfl,Qy _,O⟩];exact z
 have m0:=λm=>hm m 0 _ rfl
 have m1:=λm=>hm m 1 _ rfl
 have m2:=λm=>hm m 2 _ rfl
 have m3:=λm=>hm m 3 _ rfl
 unfold aV9 LV H4 Hv IC atA;simp only;by_cases w:a.op<=8
 ·have r:¬a.op=18:=by omega
  rw[decide_eq_true w]at f;have u:=i aGX;simp only[w,if_true];generalize EI v.ks a.tk aGX (IZ a.op)=b at u;unfold aGX at u;cases b<;>simp only[↓C2,G_,simprocAttr,m0,m1,m2,l,n,Is,It,Bx,AO,Qp,ne_eq,r,Ab g,f,Ab j,x,Ab h,u]<;>refine AV ?_<;>simp only[↓C2,G_,reduceIte,Qc,ZH,r]
  all_goals exact Y1
 ·rw[decide_eq_false w]at f;have u:=i a.pa;simp only[w,if_false];generalize EI v.ks a.tk a.pa (IZ a.op)=b at u;generalize EI v.ks a.tk a.ot 2=b2 at e;by_cases r:a.op=18
  ·have c:(a.op=18)=True:=eq_true r;clear r;cases b<;>cases b2<;>simp only[↓C2,G_,simprocAttr,m0,m1,m2,m3,l,n,Is,It,Bx,AO,Qp,ne_eq,Ab g,f,Ab j,x,Ab h,u,e,c]<;>refine AV ?_<;>simp only[↓C2,G_,reduceIte,Qc,ZF,QM,c]
   all_goals exact Y1
  ·cases b<;>simp only[↓C2,G_,simprocAttr,m0,m1,m2,l,n,Is,It,Bx,AO,Qp,ne_eq,r,Ab g,f,Ab j,x,Ab h,u]<;>refine AV ?_<;>simp only[↓C2,G_,reduceIte,Qc,ZH,r]
   all_goals exact Y1
abbrev Op1:=Int×Bs×Bs
def opD(x:Op1):D:= .agg [.int .u8 x.1,.str x.2.1,.str x.2.2]
def Ek(l:List Op1):List D:=l.map opD
def aHu{x y:Op1}(h:opD x=opD y):x=y:=by
 grind [opD]
def aBf{a b:List Op1}(h:Ek a=Ek b):a=b:=(Zd (λ_ _ e=>aHu e)).1 h
def aBe(l:List Op1):(Ek l).length=l.length:=Qx ..
structure Oc where
 need:Bs
 li:Bool
 rep:Bs
 nl:Bool
 ops:List Op1
 vw:Vw
structure Wb where
 v:Vw
 a:Ak
 k:Kn
def ocC(o:Oc)(t:Id):List D:=[.str o.need,.bool o.li,.str o.rep,.slice o.nl t (Ek o.ops)]++HN o.vw
def H1(w:Wb)(o:Oc)(t:Id):List D:=HN w.v++(Hq w.a++(HG w.k++ocC o t))
theorem CW(w:Wb)(o:Oc)(t:Id):(H1 w o t).length=30:=rfl
def IG{α:Type}{f:α->Bs}{a b:List α}(h:a.map (λx=>D.str (f x))=b.map λx=>D.str (f x)):a.map f=b.map f:=by
 have:=congrArg (Zw λd=>match d with|D.str s=>s|_=>[]) h;simpa[QQ,Function.comp_def]using this
def Vi{α:Type}{f:α->Bool}{a b:List α}(h:a.map (λx=>D.bool (f x))=b.map λx=>D.bool (f x)):a.map f=b.map f:=by
 have:=congrArg (Zw λd=>match d with|D.bool s=>s|_=>false) h;simpa[QQ,Function.comp_def]using this
def aHG{a b:List (Bs×Bool×List Bs)}(h:a.map lsD=b.map lsD):a.map (·.2)=b.map (·.2):=by
 have:=congrArg (Zw λd=>match d with|D.slice nl _ xs=>(nl,xs.map λd=>match d with|D.str s=>s|_=>[])|_=>(false,[])) h;simpa[QQ,Function.comp_def,lsD,strsD]using this
def aOw{α β γ:Type}:∀{a b:List (α×β×γ)},a.map (·.1)=b.map (·.1)->a.map (·.2.1)=b.map (·.2.1)->a.map (·.2.2)=b.map (·.2.2)->a=b
 |[],[],_,_,_=>rfl
 |[],_::_,h,_,_=>Xd
 |_::_,[],h,_,_=>Xd
 |x::a,y::b,h1,h2,h3=>by
  simp only[QD,Qd]at h1 h2 h3;rw[aOw h1.2 h2.2 h3.2,QT h1.1 (QT h2.1 h3.1)]
def pR{a b:Kn}(h:HG a=HG b):a=b:=by
 cases a;cases b;simp only[HG,Qd,D.slice.injEq,true_and,and_true]at h;obtain⟨⟨_,u⟩,⟨_,f⟩,⟨_,i⟩,⟨_,p⟩,_,m⟩:=h;have n:=aOw (IG u) (IG f) (Vi i);have g:=aHG m;have v:=aOw (IG p) (by have:=congrArg (Zw Prod.fst) g;simpa[QQ,Function.comp_def]using this) (by have:=congrArg (Zw Prod.snd) g;simpa[QQ,Function.comp_def]using this);rw[n,v]
def Me{w s:Wb}{o o':Oc}{t z:Id}(h:H1 w o t=H1 s o' z):w=s∧o=o'∧t=z:=by
 unfold H1 at h;obtain⟨u,h⟩:=Q8 h rfl;obtain⟨f,h⟩:=Q8 h rfl;obtain⟨i,h⟩:=Q8 h rfl;have n:=OX (congrArg D.agg u);have v:=FK (congrArg D.agg f);have d:=pR i;unfold ocC at h;obtain⟨p,m⟩:=Q8 h rfl;have j:=OX (congrArg D.agg m);simp only[Qd,D.str.injEq,D.bool.injEq,D.slice.injEq,and_true]at p;obtain⟨r,x,c,e,q,y⟩:=p;have b:=aBf y;cases w;cases s;cases o;cases o';simp only at n v d j r x c e b;subst n v d j r x c e b q;exact⟨rfl,rfl,rfl⟩
abbrev WY:=D×Oc×Option (List Nat)
def WG(i:Id)(w:Wb)(o:Oc)(t fr:Id)(y:WY):Ha:=match y.2.2 with
 |none=>[(i,0,H1 w y.2.1 t)]
 |some l=>(i,0,H1 w y.2.1 (l++fr))::Be 167 (l++fr) (.slice o.nl t (Ek o.ops))
def VZ(m:G6)(i:Id)(x:Wb×Oc×Id):Prop:=Ag m i 0 30=some (H1 x.1 x.2.1 x.2.2)∧BY m 167 x.2.1.nl x.2.2 x.2.1.ops.isEmpty=true∧(x.2.1.nl=true->x.2.2=[])
open Classical in
def Tn(p:Wb×Oc×Id->Prop):Option (Wb×Oc×Id):=if h:∃x,p x then some (Classical.choose h)else none
def bX{p:Wb×Oc×Id->Prop}{x:Wb×Oc×Id}(h:p x)(z:∀y,p y->y=x):Tn p=some x:=by
 have q:∃x,p x:=⟨x,h⟩;unfold Tn;rw[dif_pos q,z _ (Classical.choose_spec q)]
def Tm{p:Wb×Oc×Id->Prop}{x:Wb×Oc×Id}(h:Tn p=some x):p x:=by
 unfold Tn at h;split at h
 ·grind
 ·cases h
def wQ(F:Wb->Oc->List D->Option WY):HF where
 rd:=λds m=>match ds with
  | .ptr i 0::_=>Aj i 0 30++(match m i 24 with|some (.slice _ t _)=>[(t,0)]|_=>[])
  |_=>[]
 ex:=λds m fr=>match ds with
  | .ptr i 0::rest=>(Tn (VZ m i)).bind λx=>(F x.1 x.2.1 rest).map λy=>(y.1,WG i x.1 x.2.1 x.2.2 fr y)
  |_=>none
def aEi{m:G6}{i:Id}{w:Wb}{o:Oc}{t:Id}(h:Ag m i 0 30=some (H1 w o t)):m i 24=some (.slice o.nl t (Ek o.ops)):=Bh h rfl
def aOK{F:Wb->Oc->List D->Option WY}(ds:List D)(m m':G6)(fr:Id)(h:∀l∈(wQ F).rd ds m,m l.1 l.2=m' l.1 l.2):(wQ F).ex ds m fr=(wQ F).ex ds m' fr:=by
 simp only[wQ]at h ⊢;split
 ·rename_i i r;have j:Ag m i 0 30=Ag m' i 0 30:=BH (λl hl=>h l (Zo _ hl));have k:VZ m i=VZ m' i:=by
   funext x;obtain⟨w,o,t⟩:=x;apply propext;unfold VZ;rw[j];have z:Ag m' i 0 30=some (H1 w o t)->BY m 167 o.nl t o.ops.isEmpty=BY m' 167 o.nl t o.ops.isEmpty:=λs=>by
    refine Es (h (t,0) (Zn _ ?_));have:=aEi (j.trans s);rw[this];simp
   constructor
   ·rintro⟨a,b,c⟩;exact⟨a,by rw[←z a];exact b,c⟩
   ·rintro⟨a,b,c⟩;exact⟨a,by rw[z a];exact b,c⟩
  rw[k]
 ·rfl
def fU{m:G6}{i:Id}{x y:Wb×Oc×Id}(q:VZ m i x)(j:VZ m i y):y=x:=by
 have:=j.1.symm.trans q.1;simp only[Qm]at this;obtain⟨a,b,c⟩:=Me this;exact QT a (QT b c)
structure Wt (i fr:Id) (m0:G6) (nl0:Bool) (t0:Id) (m:G6) (w:Wb) (o:Oc) (t:Id):Prop where
 at_:VZ m i (w,o,t)
 loc:∀q,t≠q::fr
 sub0:nl0=false->¬fr<:+t0
 ch:(t=t0∧o.nl=nl0∧∀j x d,(j≠i∨30<=x)->m0 j x=some d->m j x=some d)∨
  ((∃l k,t=l++k::fr)∧o.nl=false∧(nl0=false->m t0 0=some (.tok 0))∧∀j x d,(j≠i∨30<=x)->(nl0=true∨j≠t0∨x≠0)->m0 j x=some d->m j x=some d)
def WE(i fr:Id)(m0:G6)(nl0:Bool)(t0:Id)(w:Wb)(y:WY)(d:D)(m':G6):Prop:=d=y.1∧match y.2.2 with
 |none=>Ag m' i 0 30=some (H1 w y.2.1 t0)∧∀j x d,(j≠i∨30<=x)->m0 j x=some d->m' j x=some d
 |some l=>Ag m' i 0 30=some (H1 w y.2.1 (l++fr))∧m' (l++fr) 0=some (.tok 168)∧(nl0=false->m' t0 0=some (.tok 0))∧∀j x d,(j≠i∨30<=x)->(nl0=true∨j≠t0∨x≠0)->m0 j x=some d->m' j x=some d
section
variable{i fr t0 t:Id}{m0 m m':G6}{nl0:Bool}{w:Wb}{o o':Oc}
def OU(h:Ag m i 0 30=some (H1 w o t)):m i 0=some (.bool w.v.se):=Bh h rfl
def iU(h:VZ m i (w,o,t))(g:o.nl=false):i≠t:=by
 rintro rfl;have u:=OU h.1;have f:=EY h.2.1 g;rw[u]at f;cases f
def nP(h:Ag m i 0 30=some (H1 w o t))(f:m t0 0=some (.tok 0)):t0≠i:=by
 rintro rfl;rw[OU h]at f;cases f
def Wt.put(h:Wt i fr m0 nl0 t0 m w o t)(v:∀j x,fr<:+j->m0 j x=none:=by assumption)(ia:∀k,(i=k::fr)=False:=by assumption){q p:Nat}{ys:List D}:Wt i fr m0 nl0 t0 (m.put (q::fr) p ys) w o t:=by
 obtain⟨⟨a1,r,c⟩,hl,z,s⟩:=h;have hi:i≠q::fr:=λe=>(ia q).mp e
 have b:∀j x d,m0 j x=some d->j≠q::fr:=λj x d a e=>by
  rw[e,v (q::fr) _ ⟨[q],rfl⟩]at a;cases a
 refine⟨⟨by rw[O3 hi];exact a1,?_,c⟩,hl,z,?_⟩
 ·grind [Es,aA]
 ·grind [aA]
def Wt.cell(h:Wt i fr m0 nl0 t0 m w o t)(p:Ag m' i 0 30=some (H1 w o' t))(u:o'.nl=o.nl)(f:o'.ops=o.ops)(z:∀j x,(j≠i∨30<=x)->m' j x=m j x):Wt i fr m0 nl0 t0 m' w o' t:=by
 obtain⟨a,hl,hs,s⟩:=h;refine⟨⟨p,?_,by show o'.nl=true->t=[];rw[u];exact a.2.2⟩,hl,hs,?_⟩
 ·show BY m' 167 o'.nl t o'.ops.isEmpty=true;rw[u,f];have n:=a.2.1;cases hn:o.nl with
  |true=>simp only[hn,BY,if_true]at n ⊢;exact n
  |false=>
   have q:=iU a hn;simp only[hn]at n;rw[←n];exact Es (z t 0 (.inl (λe=>q e.symm)))
 ·rcases s with ⟨c1,b,c2⟩|⟨c1,c2,y,v⟩
  ·simp_all
  ·exact .inr ⟨c1,by rw[u];exact c2,λh0=>by rw[z t0 0 (.inl (nP a.1 (y h0)))];exact y h0,λj x d r k g=>by rw[z j x r];exact v j x d r k g⟩
theorem oX{cs:List D}(hl:cs.length=30):∀j x,(j≠i∨30<=x)->(m.put i 0 cs) j x=m j x:=λj x h=>by
 rcases h with h|h
 ·rw[aA h]
 ·grind [aC,aA]
def GA{nl:Bool}{xs:List D}{e:Nat}{f:Id}{j:Id}{x:Nat}:Ha.app m (Be e f (.slice nl t xs)) j x=if j=f∧x=0 then some (.tok (e+1))else if nl=false∧j=t∧x=0 then some (.tok 0)else m j x:=Dm
def MC(t fr:Id):Option (List Nat)->Id
 |none=>t
 |some l=>l++fr
def Wt.call(h:Wt i fr m0 nl0 t0 m w o t)(v:∀j x,fr<:+j->m0 j x=none)(ia:∀k l,(i=l++k::fr)=False){k:Nat}{d:D}{ol:Option (List Nat)}
  (n:ol=none->o'.nl=o.nl∧o'.ops=o.ops) (ua:∀l,ol=some l->o'.nl=false∧l≠[]):
  Wt i fr m0 nl0 t0 (Ha.app m (WG i w o t (k::fr) (d,o',ol))) w o' (MC t (k::fr) ol)∧∀q x,Ha.app m (WG i w o t (k::fr) (d,o',ol)) (q::fr) x=m (q::fr) x:=by
 cases ol with
 |none=>
  obtain⟨u,y⟩:=n rfl;refine⟨h.cell (Hs (CW _ _ _)) u y (oX (CW _ _ _)),λq x=>?_⟩;have e0:q::fr≠i:=λe=>(ia q []).mp e.symm
  show(m.put i 0 _) (q::fr) x=_;rw[aA e0]
 |some l=>
  obtain⟨g,c⟩:=ua l rfl;obtain⟨a,hl,hs,s⟩:=h;have r:i≠l++k::fr:=λe=>(ia k l).mp e
  have z:∀j x,Ha.app m (WG i w o t (k::fr) (d,o',some l)) j x=if j=l++k::fr∧x=0 then some (.tok 168)else if o.nl=false∧j=t∧x=0 then some (.tok 0)else(m.put i 0 (H1 w o' (l++k::fr))) j x:=λj x=>GA (m:=m.put i 0 (H1 w o' (l++k::fr)))
  have ma:∀q,q::fr≠l++k::fr:=λq e=>by
   have:=congrArg ZI e;simp only[Qr,Qk]at this;exact c (QV.1 O)
  have b:fr<:+l++k::fr:=⟨l++[k],U⟩;refine⟨⟨⟨?_,?_,λh=>absurd h (by rw[g];simp)⟩,λq e=>ma q e.symm,hs,.inr ⟨⟨l,k,rfl⟩,g,λh0=>?_,λj x dd hj ea hm=>?_⟩⟩,λq x=>?_⟩
  ·show Ag _ i 0 30=some (H1 w o' (l++k::fr));rw[←Hs (m:=m) (i:=i) (CW w o' (l++k::fr))];refine BH (λq hq=>?_);have wa:q.1=i:=by
    grind [Aj]
   rw[z,wa,if_neg (λe=>r e.1),if_neg (λe=>iU a e.1 e.2.1)]
  ·show BY _ 167 o'.nl (l++k::fr) _=true;rw[g];unfold BY;rw[if_neg QK];simp only[z,and_self,if_true];cases l<;>simp
  ·have p:t0≠l++k::fr:=λe=>hs h0 (e▸b)
   rw[z,if_neg (λe=>p e.1)];rcases s with ⟨c1,c0,c2⟩|⟨c1,c2,c3,c4⟩
   ·simp_all
   ·split
    ·rfl
    ·rw[aA (nP a.1 (c3 h0))];exact c3 h0
  ·have p:j≠l++k::fr:=λe=>by rw[e,v _ _ b]at hm;cases hm
   rw[z,if_neg (λe=>p e.1)];have f:m j x=some dd:=by
    grind
   rw[if_neg]
   ·grind [oX,CW]
   ·rintro⟨e1,e2,e3⟩;rcases s with ⟨c1,c0,c2⟩|⟨⟨l',k',c1⟩,c2,c3,c4⟩
    ·simp_all
    ·rw[e2,c1,v _ _ ⟨l'++[k'],U⟩]at hm;cases hm
  ·have e0:q::fr≠i:=λe=>(ia q []).mp e.symm
   rw[z,if_neg (λe=>ma q e.1),if_neg (λe=>hl q e.2.1.symm),aA e0]
def Wt.start(h:VZ m i (w,o,t))(v:∀j x,fr<:+j->m j x=none):Wt i fr m o.nl t m w o t:=by
 have z:o.nl=false->¬fr<:+t:=λg z=>by
  have:=EY h.2.1 g;rw[v _ _ z]at this;cases this
 refine⟨h,λq e=>?_,z,.inl ⟨rfl,rfl,λ_ _ _ _ h=>h⟩⟩;cases g:o.nl with
 |true=>have:=h.2.2 g;simp only at this;rw[this]at e;cases e
 |false=>exact z g (by rw[e];exact⟨[q],rfl⟩)
def Wt.end0(h:Wt i fr m0 nl0 t0 m w o t0)(ia:nl0=true->t0=[]){d:D}:WE i fr m0 nl0 t0 w (d,o,none) d m:=by
 refine⟨rfl,h.at_.1,?_⟩;rcases h.ch with ⟨c1,b,p⟩|⟨⟨l,k,c1⟩,p,y,t⟩
 ·exact p
 ·exfalso;cases hn:nl0 with
  |true=>rw[ia hn]at c1;simp at c1
  |false=>exact h.sub0 hn (c1▸⟨l++[k],U⟩)
def Wt.endl{l:List Nat}(h:Wt i fr m0 nl0 t0 m w o (l++fr))(hl:l≠[]){d:D}:WE i fr m0 nl0 t0 w (d,o,some l) d m:=by
 refine⟨rfl,h.at_.1,?_⟩;rcases h.ch with ⟨c1,b,p⟩|⟨⟨t,k,c1⟩,p,y,v⟩
 ·exfalso;cases hn:nl0 with
  |true=>
   have:=h.at_.2.2 (b.trans hn);simp only[List.append_eq_nil_iff]at this;exact hl this.1
  |false=>exact h.sub0 hn (c1▸⟨l,rfl⟩)
 ·exact⟨EY h.at_.2.1 p,y,v⟩
end
def oP(S:GZ)(s:DC)(rs:List RV)(N:Nat)(w:Wb)(o:Oc)(r:List D)(y:WY):Prop:=r.length+1<=N∧(y.2.2=none->y.2.1.nl=o.nl∧y.2.1.ops=o.ops)∧(∀l,y.2.2=some l->y.2.1.nl=false∧l≠[])∧
 ∀(i:Id)(m:G6)(fr t:Id),VZ m i (w,o,t)->(∀j x,fr<:+j->m j x=none)->(∀k l,(i=l++k::fr)=False)->(∀k,(i=k::fr)=False)->
  s.wp S fr (Ee rs (WE i fr m o.nl t w y)) ⟨BL (.ptr i 0::r),m,0⟩
open Classical in
def RW(S:GZ)(t:DC)(rs:List RV)(N:Nat):Wb->Oc->List D->Option WY:=λw o r=>if h:∃y,oP S t rs N w o r y then some (Classical.choose h)else none
def E5{S:GZ}{t:DC}{rs:List RV}{N:Nat}{w:Wb}{o:Oc}{r:List D}{y:WY}(h:RW S t rs N w o r=some y):oP S t rs N w o r y:=by
 unfold RW at h;split at h
 ·grind
 ·cases h
def aTp(w:Wb)(o:Oc)(y:o.nl=true->o.ops=[]):∃(m:G6)(t:Id),VZ m [0] (w,o,t)∧(∀j x,[1]<:+j->m j x=none)∧¬[1]<:+t:=by
 have n1:¬[1]<:+[0]:=V
 have n2:¬[1]<:+[2]:=V
 cases hn:o.nl with
 |true=>
  refine⟨G6.put (λ_ _=>none) [0] 0 (H1 w o []),[],⟨Hs (CW _ _ _),?_,λ_=>rfl⟩,λj x d=>?_,V⟩
  ·grind [BY]
  ·rw[aA (λe=>n1 (by rw[←e];exact d))]
 |false=>
  refine⟨(G6.put (λ_ _=>none) [0] 0 (H1 w o [2])).put [2] 0 [.tok 168],[2],⟨?_,?_,λh=>?_⟩,λj x d=>?_,n2⟩
  ·grind [O3,Hs,CW]
  ·grind [BY,G6.put]
  ·simp only at h;rw[hn]at h;cases h
  ·rw[aA (λe=>n2 (by rw[←e];exact d)),aA (λe=>n1 (by rw[←e];exact d))]
def A8{S:GZ}{s:DC}{rs:List RV}{N:Nat}{w:Wb}{o:Oc}{r:List D}{y:WY}(g:o.nl=true->o.ops=[])(j:oP S s rs N w o r y):RW S s rs N w o r=some y:=by
 have q:∃y,oP S s rs N w o r y:=⟨y,j⟩;unfold RW;rw[dif_pos q];obtain⟨m,t,u,f,i⟩:=aTp w o g;have n:∀k l,(([0]:Id)=l++k::[1])=False:=λk l=>eq_false (λe=>by
  have:=congrArg List.getLast? e;simp at this)
 have v:∀k,(([0]:Id)=k::[1])=False:=λk=>eq_false (λe=>by simp at e)
 obtain⟨d,m',a,b⟩:=RG ((Classical.choose_spec q).2.2.2 [0] m [1] t u f n v) (j.2.2.2 [0] m [1] t u f n v);generalize Classical.choose q=z at *;obtain⟨z1,z2,z3⟩:=z;obtain⟨y1,y2,y3⟩:=y;obtain⟨rfl,a⟩:=a;obtain⟨p,b⟩:=b;simp only at p;subst p;cases z3 with
 |none=>
  cases y3 with
  |none=>
   have:=a.1.symm.trans b.1;simp only[Qm]at this;rw[(Me this).2.1]
  |some l=>
   have:=a.1.symm.trans b.1;simp only[Qm]at this;exact absurd ⟨l,(Me this).2.2.symm⟩ i
 |some l=>
  cases y3 with
  |none=>
   have:=a.1.symm.trans b.1;simp only[Qm]at this;exact absurd ⟨l,(Me this).2.2⟩ i
  |some x=>
   have:=a.1.symm.trans b.1;simp only[Qm]at this;obtain⟨_,c,e4⟩:=Me this;rw[c,List.append_cancel_right e4]
def Dt{S:GZ}{f:FuncId}{N:Nat}{dc:DC}{rs:List RV}(hf:Fn Qf f N dc rs)(hS:GZ.ok Qf S):(wQ (RW S dc rs N)).ok Qf f:=by
 refine Ll hS hf aOK (λds m fr r u z ca=>?_);simp only[wQ]at z;split at z
 ·rename_i i ba;rw[Q4]at z;obtain⟨⟨w,o,t⟩,hp,z⟩:=z;rw[QY]at z;obtain⟨y,hF,z⟩:=z;simp only[QC]at z;obtain⟨rfl,rfl⟩:=z;have ja:=Tm hp;obtain⟨hN,la,ua,ma⟩:=E5 hF;have na:m i 0=some (.bool w.v.se):=OU ja.1;have ia:∀k l,(i=l++k::fr)=False:=λk l=>eq_false (λe=>by
   rw[e,ca _ _ ⟨l++[k],U⟩]at na;cases na)
  refine⟨hN,Mc (ma i m fr t ja ca ia (λk=>ia k [])) (λe p s=>?_)⟩;obtain⟨b,d,fa,rfl,hE⟩:=s;refine⟨b,_,fa,rfl,λj x dd n=>?_⟩;obtain⟨y1,y2,y3⟩:=y;cases y3 with
  |none=>
   obtain⟨g1,g2⟩:=hE;have pa:(m.put i 0 (H1 w y2 t)) j x=some dd:=n;by_cases hj:j≠i∨30<=x
   ·grind [oX,CW]
   ·have cb:j=i:=Classical.byContradiction (λh=>hj (.inl h));have a:x<30:=Zk (λh=>hj (.inr h));subst cb;have da:=aE (m:=m) (i:=j) (o:=0) (j:=x) (ds:=H1 w y2 t) (by rw[CW];exact a);rw[Qp]at da;rw[da]at pa;exact Bh g1 pa
  |some l=>
   obtain⟨g1,g2,g3,g4⟩:=hE;obtain⟨g,c⟩:=ua l rfl;have pa:Ha.app (m.put i 0 (H1 w y2 (l++fr))) (Be 167 (l++fr) (.slice o.nl t (Ek o.ops))) j x=some dd:=n;rw[GA]at pa;split at pa
   ·simp_all
   ·split at pa
    ·simp_all
    ·rename_i e1 e2;by_cases hj:j≠i∨30<=x
     ·rw[oX (CW _ _ _) j x hj]at pa;refine g4 j x dd hj ?_ pa;cases ho:o.nl with
      |true=>exact .inl rfl
      |false=>
       by_cases q:j=t
       ·simp_all
       ·exact .inr (.inl q)
     ·have cb:j=i:=Classical.byContradiction (λh=>hj (.inl h));have a:x<30:=Zk (λh=>hj (.inr h));subst cb;have da:=aE (m:=m) (i:=j) (o:=0) (j:=x) (ds:=H1 w y2 (l++fr)) (by rw[CW];exact a);rw[Qp]at da;rw[da]at pa;exact Bh g1 pa
 ·cases z
def pZ{F:Wb->Oc->List D->Option WY}{w:Wb}{o:Oc}{t i fr:Id}{m:G6}{r:List D}{y:WY}{K:D×Ha->Prop}{g}(x:VZ m i (w,o,t))(j:F w o r=some y)(h:K (y.1,WG i w o t fr y)):Hm ((wQ F).ex (.ptr i 0::r) m fr) K g:=by
 refine aH ?_ h;simp only[wQ,bX x (λz f=>fU x f),Qj,j,Qv]
def aC8:=y0 f223 [] []
def aLO:Fn Qf 223 19 aC8 [.cell (some 2) 4]:=Ai func223
def aMT:=y0 Tryz.f276 [] []
def VL:=y1 Tryz.f277 1 [] []
def aMS:=y0 Tryz.f277 [] [(1,VL)]
def aC9:=y0 f221 [(1,[(3,0),(3,13),(7,13),(13,0),(13,3),(13,7)])] []
def aC7:=y0 f224 [] []
def VS:=y1 f225 3 [(6,[(8,5)])] []
def aNG:=y0 f225 [] [(3,VS)]
abbrev y2(f:Func)(ps:List (Nat×List (Nat×Nat)))(ls:List (Nat×DC)){c:DC}(_:tQ ps ls (bAt f)=c:=by exact Eq.trans (by conv=>lhs;whnf) (by simp only[tQ,wF,List.append_eq,tR,tO,tAt,tAi,tAb,tAs,tAf,tAl,tAp,tAn,tAu,tAg,zT,Tz.k,Tz.z,Tz.n,Tz.d,tL,tP,tB,tE,tX,tS,tI,tG,tC,tM,fAt,Tt,lk,ofVal,List.getD_cons_zero,List.getD_cons_succ,List.map_cons,List.map_nil,List.length_cons,List.length_nil,List.headD_cons,List.cons_append,List.nil_append,Option.map_some,Option.map_none,Option.getD_some,Bool.false_eq_true,reduceIte,Nat.reduceAdd,Nat.reduceMul,Nat.reduceEqDiff]<;>rfl)):DC:=c
abbrev y3(f:Func)(k:Nat)(ps:List (Nat×List (Nat×Nat)))(ls:List (Nat×DC)){c:DC}(_:tQ ps ls ((cU k (bAt f)).getD .skip)=c:=by exact Eq.trans (by conv=>lhs;whnf) (by simp only[tQ,wF,List.append_eq,tR,tO,tAt,tAi,tAb,tAs,tAf,tAl,tAp,tAn,tAu,tAg,zT,Tz.k,Tz.z,Tz.n,Tz.d,tL,tP,tB,tE,tX,tS,tI,tG,tC,tM,fAt,Tt,lk,ofVal,List.getD_cons_zero,List.getD_cons_succ,List.map_cons,List.map_nil,List.length_cons,List.length_nil,List.headD_cons,List.cons_append,List.nil_append,Option.map_some,Option.map_none,Option.getD_some,Bool.false_eq_true,reduceIte,Nat.reduceAdd,Nat.reduceMul,Nat.reduceEqDiff]<;>rfl)):DC:=c
def aWd:=y0 f144 [(0,[(2,6)])] []
def aWc:=y0 f145 [] []
def aWb:=y0 f146 [] []
def aNK:=y0 f216 [] []
def fA:=y0 f218 [] []
def aQS:=y0 f148 [(0,[(22,26),(26,4),(26,9),(26,14),(26,19),(26,22)]),(4,[(1,2)])] []
def NV:=y0 f153 [] []
def aIv:=y0 f87 [] []
def AN{m:G6}{i:Id}{w:Wb}{o:Oc}{t:Id}(h:Ag m i 0 30=some (H1 w o t)):m i 0=some (.bool w.v.se)∧m i 1=some (.int .i64 w.v.te)∧m i 2=some (.str w.v.key)∧m i 3=some (.slice w.v.nlm [] (AA w.v.ms))∧m i 4=some (.slice w.v.nlt [] (AL w.v.ks))∧m i 5=some (.int .u8 w.a.op)∧m i 6=some (.str w.a.tk)∧m i 7=some (.str w.a.pa)∧m i 8=some (.str w.a.ot)∧m i 9=some (.int .i64 w.a.n)∧m i 10=some (.int .i64 w.a.cas)∧m i 11=some (.bool w.a.fl)∧m i 12=some (.slice w.a.nln [] (AJ w.a.ns))∧m i 13=some (.str w.a.da)∧m i 14=some (.slice w.a.nlr [] (Ar w.a.rs))∧m i 15=some (.str w.a.key)∧m i 16=some (.slice w.k.es.isEmpty [] (w.k.es.map λx=> .str x.1))∧m i 17=some (.slice w.k.es.isEmpty [] (w.k.es.map λx=> .str x.2.1))∧m i 18=some (.slice w.k.es.isEmpty [] (w.k.es.map λx=> .bool x.2.2))∧m i 19=some (.slice w.k.ls.isEmpty [] (w.k.ls.map λx=> .str x.1))∧m i 20=some (.slice w.k.ls.isEmpty [] (w.k.ls.map lsD))∧m i 21=some (.str o.need)∧m i 22=some (.bool o.li)∧m i 23=some (.str o.rep)∧m i 24=some (.slice o.nl t (Ek o.ops))∧m i 25=some (.bool o.vw.se)∧m i 26=some (.int .i64 o.vw.te)∧m i 27=some (.str o.vw.key)∧m i 28=some (.slice o.vw.nlm [] (AA o.vw.ms))∧m i 29=some (.slice o.vw.nlt [] (AL o.vw.ks)):=
 ⟨Bh h rfl,Bh h rfl,Bh h rfl,Bh h rfl,Bh h rfl,Bh h rfl,Bh h rfl,Bh h rfl,Bh h rfl,Bh h rfl,Bh h rfl,Bh h rfl,Bh h rfl,Bh h rfl,Bh h rfl,Bh h rfl,Bh h rfl,Bh h rfl,Bh h rfl,Bh h rfl,Bh h rfl,Bh h rfl,Bh h rfl,Bh h rfl,Bh h rfl,Bh h rfl,Bh h rfl,Bh h rfl,Bh h rfl,Bh h rfl⟩
def Wt.cellp{i fr t0 t:Id}{m0 m:G6}{nl0:Bool}{w:Wb}{o o':Oc}{p:Nat}{ys:List D}(h:Wt i fr m0 nl0 t0 m w o t)(hl:p+ys.length<=30)(s:(H1 w o t).take p++ys++(H1 w o t).drop (p+ys.length)=H1 w o' t)(u:o'.nl=o.nl)(f:o'.ops=o.ops):Wt i fr m0 nl0 t0 (m.put i p ys) w o' t:=by
 refine h.cell (by rw[jJ h.at_.1 hl,s]) u f (λj x hj=>?_);rcases hj with hj|hj
 ·rw[aA hj]
 ·grind [aC,aA]
structure iL (o:Oc):Prop where
 nl:o.nl=true
 ops:o.ops=[]
def S54:=Ao [(37,Ac aJX)]
def OD:Wb->Oc->List D->Option WY:=RW S54 aWd [] 14
def Sz:(wQ OD).ok Qf 144:=Dt (Ai func144) (Aa aLw Ad)
def mZ(w:Wb)(o:Oc)(e:Int)(z:iL o)(f:1<=e∧e<=99):OD w o [.int .i64 e]=some (.tup [],⟨[],false,HD (.fail e),true,[],w.v⟩,none):=by
 refine A8 (λ_=>z.ops) ⟨Qa rfl,λh=>⟨z.nl.symm,z.ops.symm⟩,λl h=>Xc,λi m fr t x j ia n0=>?_⟩;have k:=Wt.start x j;unfold aWd;have g:=AN x.1;have b:=Wf e f;have u:t=[]:=x.2.2 z.nl;simp only[G7,↓C2,GY,simprocAttr,g,Ae S54 37,b];refine AV ?_;simp only[↓C2,G8,H_,simprocAttr];subst u;exact(k.cellp (o':=⟨[],false,HD (.fail e),true,[],w.v⟩) (Qa rfl) rfl z.nl.symm z.ops.symm).end0 (λ_=>rfl)
def S55:=Ao [(30,Ac nK)]
def gG:Wb->Oc->List D->Option WY:=RW S55 aWc [] 13
def kN:(wQ gG).ok Qf 145:=Dt (Ai func145) (Aa aB3 Ad)
def I3(w:Wb)(o:Oc)(y:Ry)(r:o.nl=true->o.ops=[])(h:aAD y)(hn:oO y):gG w o [.agg (Hy y)]=some (.tup [],{o with rep:=HD y},none):=by
 refine A8 r ⟨Qa rfl,λh=>⟨rfl,rfl⟩,λl h=>Xc,λi m fr t x v ia n0=>?_⟩;have hW:=Wt.start x v;unfold aWc;have n:=AN x.1;have q:=We y h hn;have d0:((Hy y).map D.un1=Hy y∧(Hy y).all D.calm1=true)∧D.data (.agg (Hy y))=true∧(D.agg (Hy y)).cells=Hy y∧(Hy y).length=10:=by cases y<;>exact⟨⟨rfl,rfl⟩,rfl,rfl,rfl⟩
 obtain⟨⟨d1,d2⟩,d3,d4,d5⟩:=d0;obtain⟨a,b,cc,d,e,f,g,z,j,k,s⟩:∃a b c d e f g i j k,Hy y=[a,b,c,d,e,f,g,i,j,k]:=YZ
 rw[s]at d1 d2 q ⊢;simp only[QD,Q1,Qd,and_true]at d1;simp only[Q7,Zb,Bool.and_true,QX]at d2;obtain⟨u0,u,u2,u3,u4,u5,u6,u7,u8,u9⟩:=d1;obtain⟨k0,p,k2,k3,k4,k5,k6,k7,k8,k9⟩:=d2;simp only[G7,↓C2,GY,simprocAttr,n.2.2.2.2.2.2.2.2.2.2.2.2.2.2.2.2.2.2.2.2.2.2.2.1,n0,Ae S55 30,q,u0,u,u2,u3,u4,u5,u6,u7,u8,u9,k0,p,k2,k3,k4,k5,k6,k7,k8,k9];exact(hW.put.cellp (o':={o with rep:=HD y}) (Qa rfl) rfl rfl rfl).end0 x.2.2
def S56:=Ao [(145,wQ gG)]
def zU:Wb->Oc->List D->Option WY:=RW S56 aWb [] 5
def kM:(wQ zU).ok Qf 146:=Dt (Ai func146) (Aa kN Ad)
def I2(w:Wb)(o:Oc)(y:o.nl=true->o.ops=[]):zU w o []=some (.tup [],{o with rep:=HD .done},none):=by
 refine A8 y ⟨Qa rfl,λh=>⟨rfl,rfl⟩,λl h=>Xc,λi m fr t x v ia n0=>?_⟩;have q:=Wt.start x v;unfold aWb;have ta:=I3 w o .done y trivial trivial;unfold Hy at ta;simp only[↓C2,G_,GY,simprocAttr,AE S56 145];refine pZ x ta ?_;obtain⟨c1,p⟩:=q.call (o':={o with rep:=HD .done}) (d:= .tup []) (ol:=none) (k:=2) v ia (λ_=>⟨rfl,rfl⟩) (λl h=>Xc);simp only[↓C2,G8,simprocAttr];exact c1.end0 x.2.2
def aY7:=Ao []
def V9:Wb->Oc->List D->Option WY:=RW aY7 aNK [] 16
def aB1:(wQ V9).ok Qf 216:=Dt (Ai func216) Ad
def Pu(w:Wb)(o:Oc)(q:Bs)(li:Bool)(z:iL o):V9 w o [.str q,.bool li]=some (.tup [],⟨q,li,[],true,[],w.v⟩,none):=by
 refine A8 (λ_=>z.ops) ⟨Qa rfl,λh=>⟨z.nl.symm,z.ops.symm⟩,λl h=>Xc,λi m fr t x j ia n0=>?_⟩;have k:=Wt.start x j;unfold aNK;have g:=AN x.1;have u:t=[]:=x.2.2 z.nl;simp only[G7,↓C2,GY,simprocAttr,g];subst u;exact(k.cellp (o':=⟨q,li,[],true,[],w.v⟩) (Qa rfl) rfl z.nl.symm z.ops.symm).end0 (λ_=>rfl)
def aY9:=Ao []
def N6:Wb->Oc->List D->Option WY:=RW aY9 aNR [] 23
def MJ:(wQ N6).ok Qf 210:=Dt (Ai func210) Ad
def aIQ(w:Wb)(o:Oc)(k:Int)(z da:Bs)(ho:o.nl=true->o.ops=[])(hl:o.ops.length<=1000):N6 w o [.int .u8 k,.str z,.str da]=some (.tup [],{o with nl:=false,ops:=o.ops++[(k,z,da)]},some ([11])):=by
 refine A8 ho ⟨Qa rfl,λh=>Xc,λl h=>XC,λi m fr t r v ia n0=>?_⟩;have s:=Wt.start r v;unfold aNR;have xx:=AN r.1;have ga:o.nl=false->i≠t:=λh=>iU r h
 have g:o.nl=false->m t 0=some (.tok 168):=λh=>EY r.2.1 h
 have n:∀q,t≠q::fr:=s.loc;have p:o.nl=true->Ek o.ops=[]:=λh=>by rw[ho h];rfl
 have fa:Ek (o.ops++[(k,z,da)])=Ek o.ops++[.agg [.int .u8 k,.str z,.str da]]:=by simp[Ek,opD]
 have y:(Ek o.ops).length=o.ops.length:=aBe _;simp only[↓C2,G_,GY,simprocAttr,xx.2.2.2.2.2.2.2.2.2.2.2.2.2.2.2.2.2.2.2.2.2.2.2.2.1];refine As.intro ⟨by simp only[y];omega,rfl,?_⟩ ?_
 ·cases hn:o.nl with
  |true=>exact .inl rfl
  |false=>exact .inr ⟨by rw[aA (n _)];exact g hn,by
    have:=EY r.2.1 hn;unfold VZ BY at r;simp only[hn,Qt,if_false,this,beq_self_eq_true,Zq]at r;intro e;rw[e]at r;simp at r⟩
 rw[B0 p,NC];have a:∀j x,Ha.app (m.put (10::fr) 0 [.tok 168]) (Be 167 (11::fr) (.slice o.nl t (Ek o.ops))) j x=if j=11::fr∧x=0 then some (.tok 168)else if o.nl=false∧j=t∧x=0 then some (.tok 0)else(m.put (10::fr) 0 [.tok 168]) j x:=λj x=>GA
 generalize hM:Ha.app (m.put (10::fr) 0 [.tok 168]) (Be 167 (11::fr) (.slice o.nl t (Ek o.ops)))=M at *;have c:∀x,M i x=m i x:=λx=>by
  rw[a,if_neg (λe=>(n0 11).mp e.1),if_neg (λe=>ga e.1 e.2.1),aA (λe=>(n0 10).mp e)]
 have f:Ag M i 0 30=some (H1 w o t):=by
  rw[←r.1];exact BH (λl hl=>by
   simp only[Aj,QL]at hl;obtain⟨_,_,rfl⟩:=hl;exact c _)
 simp only[G7,↓C2,GY,simprocAttr,xx.2.2.2.2.2.2.2.2.2.2.2.2.2.2.2.2.2.2.2.2.2.2.2.2.1,c];refine⟨rfl,?_,?_,λh=>?_,λj x d hj u hm=>?_⟩
 ·rw[jJ f (Qa rfl),←fa];rfl
 ·grind [aA]
 ·grind [aA]
 ·have b:∀q,j≠q::fr:=λq e=>by rw[e,v (q::fr) _ ⟨[q],rfl⟩]at hm;cases hm
  have e1:(M.put i 24 [.slice false (11::fr) (Ek o.ops++[.agg [.int .u8 k,.str z,.str da]])]) j x=M j x:=by
   grind [aA,aC]
  refine(show _=_ from e1).trans ?_;rw[a,if_neg (λe=>b 11 e.1),if_neg,aA (b 10)]
  ·exact hm
  ·grind
def aQT:=y0 f147 [(3,[(1,7)])] []
def VC:=y1 f149 6 [] []
def aQR:=y0 f149 [(0,[(10,14),(14,4),(14,9),(14,10)]),(4,[(1,2)])] [(6,VC)]
def aIr:=y0 f150 [(0,[(16,4),(16,9),(16,14)]),(1,[(6,10),(10,4),(10,5),(10,6)])] []
def lZ:=y1 f151 5 [] []
def aIq:=y0 f151 [(0,[(10,15),(15,4),(15,9),(15,10)])] [(5,lZ)]
def Oc.op(o:Oc)(k:Int)(z y:Bs):Oc:={o with nl:=false,ops:=o.ops++[(k,z,y)]}
def Bn(o:Oc)(p:Bs)(ns:List Int):Oc:={o with nl:=o.nl&&ns.isEmpty,ops:=o.ops++ns.map λn=>(2,Aw 2 p n,[])}
def aCQ{o:Oc}{p:Bs}{ns:List Int}{n:Int}:(Bn o p ns).op 2 (Aw 2 p n) []=Bn o p (ns++[n]):=by
 simp[Bn,Oc.op]
def TW{o:Oc}{p:Bs}:Bn o p []=o:=by simp[Bn]
def TX(ns:List Int):Option (List Nat):=if ns=[]then none else some [11,11*ns.length]
def Bj(v:Vw)(p:Bs):Int×Bool:=if Ct v.ms p=-1 then(0,false)else(Cw v.ms (Ct v.ms p).toNat).2
def aPi(v:Vw)(p:Bs):Bs×Int:=if Ct v.ms p=-1 then([],14)else((Cw v.ms (Ct v.ms p).toNat).1,0)
def aAP(v:Vw)(p:Bs):LP v.ms p= .tup [.agg [.str (aPi v p).1,.int .i64 (Bj v p).1,.bool (Bj v p).2],.int .i64 (aPi v p).2]:=by
 unfold LP Bj aPi;split<;>rfl
def Aq{i fr t0 t:Id}{m0 m:G6}{nl0:Bool}{w:Wb}{o o':Oc}{r:List D}{d:D}{ol:Option (List Nat)}{F:Wb->Oc->List D->Option WY}{S:GZ}{c k n:Nat}{ops l:List DOper}{s:Nat->D}{b:Option Nat}{K:Nat->(Nat->D)->G6->Prop}{g}
  (hw:Wt i fr m0 nl0 t0 m w o t) (z:F w o r=some (d,o',ol))
  (h:∀M,Wt i fr m0 nl0 t0 M w o' (MC t (n::fr) ol)->(∀q x,M (q::fr) x=m (q::fr) x)->F6 S fr c ops l k (CL s b d) M K) (v:∀j x,fr<:+j->m0 j x=none:=by assumption) (ia:∀k l,(i=l++k::fr)=False:=by assumption) (u:∃S y rs N,F=RW S y rs N:=by exact⟨_,_,_,_,rfl⟩):
  Hm ((wQ F).ex (.ptr i 0::r) m (n::fr)) (λx=>W3 S fr c ops l k s b m K x.1 x.2) g:=by
 obtain⟨e,y,rs,N,rfl⟩:=u;obtain⟨_,f,a,_⟩:=E5 z;refine pZ hw.at_ z ?_;obtain⟨c1,p⟩:=hw.call (o':=o') (d:=d) (ol:=ol) (k:=n) v ia f a;exact h _ c1 p
def CC{i fr t0 t:Id}{m0 m:G6}{nl0:Bool}{w:Wb}{o o':Oc}{r:List D}{d:D}{ol:Option (List Nat)}{F:Wb->Oc->List D->Option WY}{S:GZ}{c k n:Nat}{ops l:List DOper}{s:Nat->D}{b:Option Nat}{op:DOp}{K:Nat->(Nat->D)->G6->List Mb->Prop}{g}
  (hw:Wt i fr m0 nl0 t0 m w o t) (z:F w o r=some (d,o',ol))
  (h:∀M u,u=WG i w o t (n::fr) (d,o',ol)->Wt i fr m0 nl0 t0 M w o' (MC t (n::fr) ol)->(∀q x,M (q::fr) x=m (q::fr) x)->Cp S fr c ops l k (CL s b d) M λk' e m' f=>K k' e m' ((Hr S s m op,AI u)::f)) (v:∀j x,fr<:+j->m0 j x=none:=by assumption) (ia:∀k l,(i=l++k::fr)=False:=by assumption) (hR:∃S y rs N,F=RW S y rs N:=by exact⟨_,_,_,_,rfl⟩):
  Hm ((wQ F).ex (.ptr i 0::r) m (n::fr)) (λx=>NU S fr c ops l k s b m op K x.1 x.2) g:=by
 obtain⟨S',y,rs,N,rfl⟩:=hR;obtain⟨_,la,a,_⟩:=E5 z;refine pZ hw.at_ z ?_;obtain⟨c1,p⟩:=hw.call (o':=o') (d:=d) (ol:=ol) (k:=n) v ia la a;exact h _ _ rfl c1 p
def DY(w:Wb)(o:Oc)(k:Int)(z y:Bs)(g:o.nl=true->o.ops=[])(hl:o.ops.length<=1000):N6 w o [.int .u8 k,.str z,.str y]=some (.tup [],o.op k z y,some [11]):=aIQ w o k z y g hl
def aW5:=Ao [(23,Ac aF8)]
def yO:Wb->Oc->List D->Option WY:=RW aW5 aC8 [.cell (some 2) 4] 19
def aVJ:(wQ yO).ok Qf 223:=Dt aLO (Aa aBl Ad)
def V7(w:Wb)(o:Oc)(p:Bs)(y:o.nl=true->o.ops=[])(g:w.v.ms.length<=1000):yO w o [.str p]=some (.agg [.int .i64 (Bj w.v p).1,.bool (Bj w.v p).2],o,none):=by
 refine A8 y ⟨Qa rfl,λh=>⟨rfl,rfl⟩,λl h=>Xc,λi m fr t x j ia n0=>?_⟩;have k:=Wt.start x j;unfold aC8;have n:=AN x.1;have a:=sV (nl:=w.v.nlm) (t:=[]) (l:=w.v.ms) (p:=p) O;rw[aAP]at a;simp only[G7,↓C2,GY,simprocAttr,n,n0,Ae aW5 23,a];exact k.put.put.put.put.end0 x.2.2
def aIR:=Ao [(317,Ac aRM),(211,Ac Fo),(210,wQ N6)]
def aIK:Wb->Oc->List D->Option WY:=RW aIR aMT [] 18
def aLk:(wQ aIK).ok Qf 276:=Dt (Ai func276) (Aa aU6 (Aa IL (Aa MJ Ad)))
def rM(w:Wb)(o:Oc)(p:Bs)(s:Sc)(y:o.nl=true->o.ops=[])(hl:o.ops.length<=1000)(j:s.rs.length<=1000)(c:p.length<=1000000):aIK w o [.str p,.agg (Hb s)]=some (.tup [],o.op 1 (Aw 1 p 0) (A9 s),some ([11,12])):=by
 refine A8 y ⟨Qa rfl,λh=>Xc,λl h=>XC,λi m fr t x v ia n0=>?_⟩;have k:=Wt.start x v;unfold aMT;have a:=aI8 s j;have r:=C7 1 0 p c;have e:=DY w o 1 (Aw 1 p 0) (A9 s) y hl;unfold Hb at *;simp only[G7,↓C2,GY,simprocAttr,Ae aIR 317,a,Ae aIR 211,r,AE aIR 210];refine Aq k.put e (λM c1 d=>?_);simp only[↓C2,G8,simprocAttr];exact c1.endl (l:=[11,12]) U
def aRo:=Ao [(211,Ac Fo),(210,wQ N6)]
def yM:Wb->Oc->List D->Option WY:=RW aRo aMS [] 20
def aB0:(wQ yM).ok Qf 277:=Dt (Ai func277) (Aa IL (Aa MJ Ad))
def V5(w:Wb)(o:Oc)(p:Bs)(nl:Bool)(tq:Id)(ns:List Int)(ho:o.nl=true->o.ops=[])(hl:o.ops.length+ns.length<=1000)(hp:p.length<=1000000):yM w o [.str p,.slice nl tq (AJ ns)]=some (.tup [],Bn o p ns,TX ns):=by
 refine A8 ho ⟨Qa rfl,λh=>(by unfold TX at h;split at h<;>simp_all [Bn]),λl h=>(by unfold TX at h;split at h<;>simp_all [Bn];subst h;simp),λi m fr t x v ia n0=>?_⟩;have hW:=Wt.start x v;unfold aMS;simp only[↓C2,G8,simprocAttr,EX];refine Bv (n:=ns.length) (I:=λj y=>y.s 8= .slice nl tq (AJ ns)∧y.s 9= .int .i64 ns.length∧y.s 10= .int .i64 (j:Int)∧y.s 0= .ptr i 0∧y.s 1= .str p∧y.c=3+11*j∧Wt i fr m o.nl t y.m w (Bn o p (ns.take j)) (if j=0 then t else [11,11*j]++fr)) (λj d ih y g hI=>?_) (λy g hI=>?_) 0 (Qy _) _ _ ⟨rfl,rfl,rfl,rfl,rfl,rfl,by simp only[QO,TW,if_true];exact hW⟩
 ·obtain⟨ka,b,q⟩:=y;obtain⟨h8,h9,la,z,u,hc,hw⟩:=hI;simp only at h8 h9 la z u hc hw;refine Af VL.eq_1 ?_;have k:((j:Int)<(ns.length:Int))=True:=eq_true O;have oa:=nJ (j:=j);have ja:=TJ (l:=ns) (j:=j) d;have na:IntKind.i64.wrap ((j:Int)+1)=((j+1:Nat):Int):=by rw[Hu O O];omega
  have ba:=C7 2 ns[j] p hp;have ua:(Bn o p (ns.take j)).nl=true->(Bn o p (ns.take j)).ops=[]:=λh=>by
   simp only[Bn,QX,List.isEmpty_iff]at h ⊢;rw[ho h.1,h.2];rfl
  have f:(Bn o p (ns.take j)).ops.length<=1000:=by simp[Bn];omega
  have ra:=DY w (Bn o p (ns.take j)) 2 (Aw 2 p ns[j]) [] ua f;rw[aCQ,←QF d]at ra;simp only[↓C2,G_,GY,simprocAttr,z,u,h8,h9,la,k,oa,Qh,ja,Ae aRo 211,ba,AE aRo 210];refine Aq hw ra (λM c1 c2=>?_);have e:MC (if j=0 then t else [11,11*j]++fr) ((q+1+3+4)::fr) (some [11])=(if j+1=0 then t else [11,11*(j+1)]++fr):=by
   rw[if_neg (Qg j)];show [11]++_::fr=_;rw[show q+1+3+4=11*(j+1)by omega];rfl
  rw[e]at c1;simp only[↓C2,G8,simprocAttr,la,na];exact ih _ _ ⟨h8,h9,rfl,z,u,Xa,c1⟩
 ·obtain⟨ka,b,q⟩:=y;obtain⟨h8,h9,la,z,u,hc,hw⟩:=hI;simp only at h8 h9 la z u hc hw;refine Af VL.eq_1 ?_;simp only[↓C2,G8,Hj,GY,simprocAttr,h9,la,Qz];rw[Zi]at hw;unfold TX;cases ns with
  |nil=>exact hw.end0 x.2.2
  |cons a r=>exact hw.endl (l:=[11,11*(r.length+1)]) U
def aBC(w:Wb)(p:Bs):Bs×Bool×Bool:=C5 w.k (Aw 1 p 0)
def N7:=Ao [(211,Ac Fo),(220,Ac OS),(216,wQ V9),(24,Ac aR2)]
def Df:Wb->Oc->List D->Option WY:=RW N7 fA [.cell (some 4) 4,.t 5,.t 6] 42
def aLr:(wQ Df).ok Qf 218:=Dt (Ai func218:Fn Qf 218 42 fA [.cell (some 4) 4,.t 5,.t 6]) (Aa IL (Aa aLq (Aa aB1 (Aa aVt Ad))))
def yQ(w:Wb)(o:Oc)(p:Bs)(z:iL o)(c:p.length<=1000000)(n:w.k.es.length<=1000)(f:Bs×Bool×Bool)(a:aBC w p=f)(s:f.2.2=false):Df w o [.str p]=some (.tup [.agg (Hb sc0),.bool false,.bool false],⟨Aw 1 p 0,false,[],true,[],w.v⟩,none):=by
 refine A8 (λ_=>z.ops) ⟨Qa rfl,λh=>⟨z.nl.symm,z.ops.symm⟩,λl h=>Xc,λi m fr t x j ia n0=>?_⟩;have q:=Wt.start x j;unfold fA;obtain⟨u,ja,b⟩:=f;simp only at s;have r:=C7 1 0 p c;have y:=Pw w.k (Aw 1 p 0) n;rw[show C5 w.k (Aw 1 p 0)=_ from a]at y;unfold HG at y;have g:=AN x.1;subst s;have e:=Pu w o (Aw 1 p 0) false z;simp only[G7,↓C2,GY,simprocAttr,g,n0,Ae N7 211,r,Ae N7 220,y,AE N7 216];refine Aq q.put e (λM c1 d=>?_);simp only[G7,↓C2,GY,simprocAttr,d];exact c1.put.end0 x.2.2
def aIP(w:Wb)(o:Oc)(p:Bs)(h0:iL o)(c:p.length<=1000000)(n:w.k.es.length<=1000)(mt:Bs×Bool×Bool)(j:aBC w p=mt)(d:mt.2.2=true)(q:mt.1.length<=1000000)(z:mt.2.1=false∨(BV mt.1).2≠0):Df w o [.str p]=some (.tup [.agg (Hb sc0),.bool false,.bool true],o,none):=by
 refine A8 (λ_=>h0.ops) ⟨Qa rfl,λh=>⟨rfl,rfl⟩,λl h=>Xc,λi m fr t x v ia n0=>?_⟩;have hW:=Wt.start x v;unfold fA;obtain⟨u,ja,b⟩:=mt;simp only at d;have r:=C7 1 0 p c;have y:=Pw w.k (Aw 1 p 0) n;rw[show C5 w.k (Aw 1 p 0)=_ from j]at y;unfold HG at y;have a:=sC u q;unfold Hb at a;have g:=AN x.1;subst d;simp only at z;generalize BV u=se at *;obtain⟨s,e⟩:=se;simp only at z a;cases ja with
 |false=>
  simp only[G7,↓C2,GY,simprocAttr,g,n0,Ae N7 211,r,Ae N7 220,y,Ae N7 24,a];exact hW.put.put.put.end0 x.2.2
 |true=>
  have f:(e=0)=False:=eq_false (z.resolve_left U);simp only[G7,↓C2,GY,simprocAttr,g,n0,Ae N7 211,r,Ae N7 220,y,Ae N7 24,a,f];exact hW.put.put.put.end0 x.2.2
def aEJ(w:Wb)(o:Oc)(p:Bs)(h0:iL o)(c:p.length<=1000000)(n:w.k.es.length<=1000)(mt:Bs×Bool×Bool)(j:aBC w p=mt)(d:mt.2.2=true)(q:mt.1.length<=1000000)(z:mt.2.1=true)(f:(BV mt.1).2=0):Df w o [.str p]=some (.tup [.agg (Hb (BV mt.1).1),.bool true,.bool true],o,none):=by
 refine A8 (λ_=>h0.ops) ⟨Qa rfl,λh=>⟨rfl,rfl⟩,λl h=>Xc,λi m fr t x v ia n0=>?_⟩;have hW:=Wt.start x v;unfold fA;obtain⟨u,ja,b⟩:=mt;simp only at d;have r:=C7 1 0 p c;have y:=Pw w.k (Aw 1 p 0) n;rw[show C5 w.k (Aw 1 p 0)=_ from j]at y;unfold HG at y;have a:=sC u q;unfold Hb at a;have g:=AN x.1;subst d;simp only at z f ⊢;generalize BV u=se at *;obtain⟨s,e⟩:=se;simp only at f a;subst z f;simp only[G7,↓C2,GY,simprocAttr,g,n0,Ae N7 211,r,Ae N7 220,y,Ae N7 24,a];exact hW.put.put.put.end0 x.2.2
def Ny(o:Oc)(p:Bs)(s:Sc)(gone:List Int):Oc:={Bn (o.op 1 (Aw 1 p 0) (A9 s)) p gone with rep:=HD .done}
def aEM:=Ao [(144,wQ OD),(276,wQ aIK),(277,wQ yM),(146,wQ zU)]
def V6:Wb->Oc->List D->Option WY:=RW aEM aC7 [] 31
def aVI:(wQ V6).ok Qf 224:=Dt (Ai func224) (Aa Sz (Aa aLk (Aa aB0 (Aa kM Ad))))
def yN(w:Wb)(o:Oc)(s:Sc)(gnl:Bool)(gone:List Int)(e:Int)(z:iL o)(f:1<=e∧e<=99):V6 w o [.agg (Hb s),.slice gnl [] (AJ gone),.int .i64 e]=some (.tup [],⟨[],false,HD (.fail e),true,[],w.v⟩,none):=by
 refine A8 (λ_=>z.ops) ⟨Qa rfl,λh=>⟨z.nl.symm,z.ops.symm⟩,λl h=>Xc,λi m fr t x j ia n0=>?_⟩;have k:=Wt.start x j;unfold aC7;unfold Hb;have r:=mZ w o e z f;have d:(e=0)=False:=eq_false O;simp only[↓C2,G_,GY,simprocAttr,d,AE aEM 144];refine Aq k.put r (λM c1 p=>?_);simp only[↓C2,G8,simprocAttr];exact c1.end0 x.2.2
def aIN(w:Wb)(o:Oc)(s:Sc)(gnl:Bool)(gone:List Int)(z:iL o)(f:gone.length<=900)(j:s.rs.length<=1000)(c:w.a.pa.length<=1000000):V6 w o [.agg (Hb s),.slice gnl [] (AJ gone),.int .i64 0]=some (.tup [],Ny o w.a.pa s gone,some (if gone=[]then [11,12,10]else [11,11*gone.length,18])):=by
 refine A8 (λ_=>z.ops) ⟨Qa rfl,λh=>Xc,λl h=>(by simp only[Qm]at h;subst h;exact⟨rfl,by split<;>simp⟩),λi m fr t x v ia n0=>?_⟩;have hW:=Wt.start x v;unfold aC7;have g:=AN x.1;have b:=rM w o w.a.pa s (λ_=>z.ops) (by rw[z.ops];simp) j c;have d:=V5 w (o.op 1 (Aw 1 w.a.pa 0) (A9 s)) w.a.pa gnl [] gone (λh=>Xc) (by simp[Oc.op,z.ops];omega) c;have r:=I2 w (Bn (o.op 1 (Aw 1 w.a.pa 0) (A9 s)) w.a.pa gone) (λh=>by simp[Bn,Oc.op]at h);unfold Hb at *;simp only[G7,↓C2,GY,simprocAttr,g.2.2.2.2.2.2.2.1,n0,AE aEM 276];refine CC hW.put b (λM u q c1 c2=>?_);have g:=AN c1.at_.1;simp only[↓C2,H_,simprocAttr];refine As.intro (λp c=>Xq) ?_;simp only[↓C2,G8,Hj,GY,simprocAttr,g.2.2.2.2.2.2.2.1,AE aEM 277];refine Aq c1 d (λe d1 d2=>?_);simp only[↓C2,G8,Hj,simprocAttr,AE aEM 146];refine Aq d1 r (λM3 n y=>?_);simp only[↓C2,G8,simprocAttr];unfold TX at n;split
 ·rename_i k;rw[if_pos k]at n;exact n.endl (l:=[11,12,10]) U
 ·rename_i k;rw[if_neg k]at n;exact n.endl (l:=[11,11*gone.length,18]) U
def Fj(l:List Rw):List Int:=(l.filter λx=>!x.2.2).map (·.1)
def UX:List Rw->Nat->List Nat->List Nat
 |[],_,L=>L
 |x::r,c,L=>if x.2.2=true then UX r (c+10) L else UX r (c+20) [11,11,c+17]
def UW:∀{l:List Rw} {c:Nat} {L:List Nat},L≠[]->UX l c L≠[]
 |[],_,_,h=>h
 |x::r,c,L,h=>by
  unfold UX;split
  ·exact UW h
  ·exact UW U
def Fl(o:Oc)(p:Bs)(l:List Rw):Oc:=Bn (o.op 2 (Aw 1 p 0) []) p (Fj l)
def wM{o:Oc}{p:Bs}{a b:List Int}:Bn (Bn o p a) p b=Bn o p (a++b):=by
 simp only[Bn,Bool.and_assoc,QZ,QH,Oc.mk.injEq,true_and,and_true];cases a<;>cases b<;>simp
def mT(l:List Rw):(Fj l).length<=l.length:=by
 grind [Fj]
def gA(l:List Rw)(x:Rw):Fj (l++[x])=Fj l++if x.2.2=true then []else [x.1]:=by
 grind [Fj]
def UV{o:Oc}{p:Bs}{l:List Rw}:(Fl o p l).nl=false:=by simp[Fl,Bn,Oc.op]
def aA7{o:Oc}{p:Bs}{l:List Rw}:(Fl o p l).ops.length=o.ops.length+1+(Fj l).length:=by simp[Fl,Bn,Oc.op];omega
def aEL:=Ao [(211,Ac Fo),(210,wQ N6),(277,wQ yM),(146,wQ zU)]
def aIM:Wb->Oc->List D->Option WY:=RW aEL aNG [] 37
def aVH:(wQ aIM).ok Qf 225:=Dt (Ai func225) (Aa IL (Aa MJ (Aa aB0 (Aa kM Ad))))
def aIL(w:Wb)(o:Oc)(s:Sc)(h0:iL o)(hs:s.rs.length<=900)(hp:w.a.pa.length<=1000000):aIM w o [.agg (Hb s)]=some (.tup [],{Fl o w.a.pa s.rs with rep:=HD .done},some (UX s.rs 13 [11,8])):=by
 refine A8 (λ_=>h0.ops) ⟨Qa rfl,λh=>Xc,λl h=>(by simp only[Qm]at h;subst h;exact⟨UV (o:=o) (p:=w.a.pa) (l:=s.rs),UW U⟩),λi m fr t r ca ia n0=>?_⟩;have hW:=Wt.start r ca;unfold aNG;have xx:=AN r.1;have ba:=C7 1 0 w.a.pa hp;have ra:=DY w o 2 (Aw 1 w.a.pa 0) [] (λ_=>h0.ops) (by rw[h0.ops];simp);unfold Hb;simp only[↓C2,G_,GY,simprocAttr,xx.2.2.2.2.2.2.2.1,n0,Ae aEL 211,ba,AE aEL 210];refine Aq hW.put ra (λM c1 c2=>?_);simp only[↓C2,G8,Hj,GY,simprocAttr,c2,AQ];refine Bv (n:=s.rs.length) (I:=λj v=>v.s 15= .slice s.nl [] (A5 s.rs)∧v.s 16= .int .i64 s.rs.length∧v.s 17= .int .i64 (j:Int)∧v.s 0= .ptr i 0∧∃L,L≠[]∧UX (s.rs.drop j) v.c L=UX s.rs 13 [11,8]∧Wt i fr m o.nl t v.m w (Fl o w.a.pa (s.rs.take j)) (L++fr)) (λj hj ih v g hI=>?_) (λv g hI=>?_) 0 (Qy _) _ _ ⟨rfl,rfl,rfl,rfl,[11,8],U,rfl,by have c3:Wt i fr m o.nl t M w (o.op 2 (Aw 1 w.a.pa 0) []) ([11,8]++fr):=c1;simpa[Fl,Fj,TW]using c3⟩
 ·obtain⟨ka,fa,q⟩:=v;obtain⟨ua,ta,sa,y,L,hL,hn,hw⟩:=hI;simp only at ua ta sa y hn hw;refine Af VS.eq_1 ?_;have k:((j:Int)<(s.rs.length:Int))=True:=eq_true O;have oa:=nJ (j:=j);have ja:=Fw (l:=s.rs) (j:=j) hj;have na:IntKind.i64.wrap ((j:Int)+1)=((j+1:Nat):Int):=by rw[Hu O O];omega
  have hd:s.rs.drop j=s.rs[j]::s.rs.drop (j+1):=QJ hj;have z:s.rs.take (j+1)=s.rs.take j++[s.rs[j]]:=QF hj;rw[hd]at hn;generalize s.rs[j]=x at *;obtain⟨n,b,f⟩:=x;have va:=gA (s.rs.take j) (n,b,f);rw[←z]at va;simp only at va ja;have xx:=AN hw.at_.1;cases f with
  |true=>
   simp only[G7,↓C2,GY,simprocAttr,ua,ta,sa,k,oa,Qh,ja,na];refine ih _ _ ⟨ua,ta,rfl,y,L,hL,by simpa[UX]using hn,?_⟩;have e:Fl o w.a.pa (s.rs.take (j+1))=Fl o w.a.pa (s.rs.take j):=by unfold Fl;rw[va];simp
   rw[e];exact(hw.put.put)
  |false=>
   have e:Bn (Fl o w.a.pa (s.rs.take j)) w.a.pa [n]=Fl o w.a.pa (s.rs.take (j+1)):=by unfold Fl;rw[va,wM];rfl
   have ga:(Fl o w.a.pa (s.rs.take j)).ops.length+1<=1000:=by
    rw[aA7,h0.ops];have:=mT (s.rs.take j);rw[Zy]at this;simp only[Qo];omega
   have d:=V5 w (Fl o w.a.pa (s.rs.take j)) w.a.pa false ((q+1+4+3+8)::fr) [n] (λh=>by rw[UV]at h;cases h) ga hp;rw[e]at d;have d:yM w (Fl o w.a.pa (s.rs.take j)) [.str w.a.pa,.slice false ((q+1+4+3+8)::fr) [.int .i64 n]]=some (.tup [],Fl o w.a.pa (s.rs.take (j+1)),some [11,11]):=d;simp only[G7,↓C2,GY,simprocAttr,y,ua,ta,sa,k,oa,Qh,ja,xx.2.2.2.2.2.2.2.1,n0,AE aEL 277];refine CC hw.put.put.put d (λM u hu c1 c2=>?_);simp only[↓C2,H_,Hj,GY,simprocAttr];refine As.intro (An ?_) ?_
   ·simp[AX,AI,Hr,Aj];show ¬((q+1+4+3+8)::fr,0)∈[(i,7)];intro hm;simp only[Q3,QC]at hm;exact(n0 _).mp hm.1.symm
   simp only[↓C2,G8,simprocAttr,sa,na];refine ih _ _ ⟨ua,ta,rfl,y,[11,11,q+17],U,by simpa[UX]using hn,c1⟩
 ·obtain⟨ka,fa,q⟩:=v;obtain⟨ua,ta,sa,y,L,hL,hn,hw⟩:=hI;simp only at ua ta sa y hn hw;refine Af VS.eq_1 ?_;have la:=I2 w (Fl o w.a.pa s.rs) (λh=>by rw[UV]at h;cases h);rw[Zi]at hw;rw[Q0]at hn;simp only[↓C2,G8,Hj,GY,simprocAttr,y,ta,sa,Qz,AE aEL 146];refine Aq hw la (λM c1 c2=>?_);simp only[↓C2,G8,simprocAttr];rw[←hn];exact c1.endl hL
theorem EH{l:Loc}{i:Id}{o n:Nat}(h:l∈Aj i o n):l.1=i:=by
 grind [Aj]
def DF{l:Loc}{i:Id}{o:Nat}{ds:List D}(h:l∈AI [(i,o,ds)]):l.1=i:=by
 grind [AI,EH]
def DR{l:Loc}{P:Prop}(h:l∈([]:List Loc)):P:=Xc
def Ws{p K:Prop}{t:Tag K}(k:K) (h:p:=by
 intro pp hpp l hl;simp only[List.mem_cons,List.not_mem_nil,or_false]at hpp
 repeat (rcases hpp with rfl|hpp;· first|exact DR hl|exact⟨λh=>DR h,λh=>DR h⟩|(have ia:=DF hl;refine⟨λh=>?_,λh=>DR h⟩;first|(change l∈Aj _ _ _ at h;first|exact(n0 _).mp ((EH h).symm.trans ia)|(have:=ia.symm.trans (EH h);simp at this;done))|(rcases List.mem_append.1 h with h|h;exact(n0 _).mp ((EH h).symm.trans ia);rw[a1]at h;rw[List.mem_singleton.1 h]at ia;exact c1.loc _ ia)))):As p K t:=⟨h,k⟩
def Uq(o:Oc)(p:Bs)(r:Sc×Int×List Int×Int)(data:Bs):Oc:={Bn ((o.op 1 (Aw 1 p 0) (A9 r.1)).op 1 (Aw 2 p r.2.1) data) p r.2.2.1 with rep:=HD (.number r.2.1)}
def R8:=Ao [(223,wQ yO),(275,Ac aR0),(144,wQ OD),(276,wQ aIK),(211,Ac Fo),(210,wQ N6),(277,wQ yM),(145,wQ gG)]
def V8:Wb->Oc->List D->Option WY:=RW R8 aC9 [] 50
def aLp:(wQ V8).ok Qf 221:=Dt (Ai func221) (Aa aVJ (Aa aVr (Aa Sz (Aa aLk (Aa IL (Aa MJ (Aa aB0 (Aa kN Ad))))))))
def yP(w:Wb)(o:Oc)(p:Bs)(s:Sc)(cas:Int)(data:Bs)(h0:iL o)(k:s.rs.length<=800)(qa:s.nl=true->s.rs=[])(hp:p.length<=1000000)(z:data.length<=1000000)(g:w.v.ms.length<=1000)(r:Sc×Int×List Int×Int)(hr:B3 s (Bj w.v p).1 (Bj w.v p).2 cas data.length=r)(f:1<=r.2.2.2∧r.2.2.2<=99):V8 w o [.str p,.agg (Hb s),.int .i64 cas,.str data]=some (.tup [],⟨[],false,HD (.fail r.2.2.2),true,[],w.v⟩,none):=by
 refine A8 (λ_=>h0.ops) ⟨Qa rfl,λh=>⟨h0.nl.symm,h0.ops.symm⟩,λl h=>Xc,λi m fr t x j ia n0=>?_⟩;have hW:=Wt.start x j;unfold aC9;have a:=sA s (Bj w.v p).1 (Bj w.v p).2 cas data.length O qa;rw[hr]at a;obtain⟨s2,n,gone,e⟩:=r;simp only at f a ⊢;have c:=V7 w o p (λ_=>h0.ops) g;generalize Bj w.v p=qb at *;unfold Hb at *;simp only[G7,↓C2,GY,simprocAttr,AE R8 223];refine CC hW.put c (λM u hu c1 c2=>?_);simp only[G7,↓C2,GY,simprocAttr,Ae R8 275,a];refine As.intro ?_ ?_
 ·subst hu;have a1:=aEi (hW.put (q:=0) (p:=0) (ys:=[.int .i64 s.mx,.bool s.cas,.int .i64 s.la,.slice s.nl [] (A5 s.rs)])).at_.1;intro pp ga l hl;simp only[QN,Zz,or_false]at ga;rcases ga with rfl|rfl|rfl|rfl|rfl|rfl
  ·change l∈AI [(i,0,H1 w o t)]at hl;refine⟨λh=>?_,λh=>DR h⟩;change l∈Aj (0::fr) 0 4 at h;exact(n0 0).mp ((DF hl).symm.trans (EH h))
  ·change l∈AI [(i,0,H1 w o t)]at hl;exact⟨λh=>DR h,λh=>(n0 14).mp ((DF hl).symm.trans (DF h))⟩
  ·exact DR hl
  ·have b:l.1=14::fr:=DF hl;refine⟨λh=>?_,λh=>DR h⟩;change l∈Aj (0::fr) 0 4 at h;have:=b.symm.trans (EH h);simp at this
  ·have b:l.1=14::fr:=DF hl;refine⟨λh=>?_,λh=>?_⟩
   ·rcases Zm.1 h with h|h
    ·grind [EH]
    ·rw[a1]at h;rw[Q3.1 h]at b;exact hW.loc 14 b
   ·change l∈AI [(i,0,H1 w o t)]at h;exact(n0 14).mp ((DF h).symm.trans b)
  ·exact⟨λh=>DR h,λh=>DR h⟩
 have y:=mZ w o e h0 f;have d:(e=0)=False:=eq_false O;simp only[↓C2,G_,GY,simprocAttr,d,AE R8 144];refine Aq c1.put.put y (λM2 d1 d2=>?_);simp only[↓C2,G8,simprocAttr];exact d1.end0 x.2.2
def aIO(w:Wb)(o:Oc)(p:Bs)(s:Sc)(cas:Int)(data:Bs)(h0:iL o)(k:s.rs.length<=800)(qa:s.nl=true->s.rs=[])(hp:p.length<=1000000)(z:data.length<=1000000)(hm:w.v.ms.length<=1000)(r:Sc×Int×List Int×Int)(hr:B3 s (Bj w.v p).1 (Bj w.v p).2 cas data.length=r)(f:r.2.2.2=0)(ua:r.1.rs.length<=1000)(hg:r.2.2.1.length<=900):V8 w o [.str p,.agg (Hb s),.int .i64 cas,.str data]=some (.tup [],Uq o p r data,some (if r.2.2.1=[]then [11,30]else [11,11*r.2.2.1.length,34])):=by
 refine A8 (λ_=>h0.ops) ⟨Qa rfl,λh=>Xc,λl h=>(by simp only[Qm]at h;subst h;exact⟨by simp[Uq,Bn,Oc.op],by split<;>simp⟩),λi m fr t x j ia n0=>?_⟩;have hW:=Wt.start x j;unfold aC9;have a:=sA s (Bj w.v p).1 (Bj w.v p).2 cas data.length O qa;rw[hr]at a;obtain⟨s2,n,gone,e⟩:=r;simp only at f a ua hg ⊢;subst f;have c:=V7 w o p (λ_=>h0.ops) hm;generalize Bj w.v p=qb at *;unfold Hb at *;simp only[G7,↓C2,GY,simprocAttr,AE R8 223];refine CC hW.put c (λM u hu c1 c2=>?_);simp only[G7,↓C2,GY,simprocAttr,Ae R8 275,a];refine As.intro ?_ ?_
 ·subst hu;have a1:=aEi (hW.put (q:=0) (p:=0) (ys:=[.int .i64 s.mx,.bool s.cas,.int .i64 s.la,.slice s.nl [] (A5 s.rs)])).at_.1;intro pp ga l hl;simp only[QN,Zz,or_false]at ga;rcases ga with rfl|rfl|rfl|rfl|rfl|rfl
  ·change l∈AI [(i,0,H1 w o t)]at hl;refine⟨λh=>?_,λh=>DR h⟩;change l∈Aj (0::fr) 0 4 at h;exact(n0 0).mp ((DF hl).symm.trans (EH h))
  ·change l∈AI [(i,0,H1 w o t)]at hl;exact⟨λh=>DR h,λh=>(n0 14).mp ((DF hl).symm.trans (DF h))⟩
  ·exact DR hl
  ·have fa:l.1=14::fr:=DF hl;refine⟨λh=>?_,λh=>DR h⟩;change l∈Aj (0::fr) 0 4 at h;have:=fa.symm.trans (EH h);simp at this
  ·have fa:l.1=14::fr:=DF hl;refine⟨λh=>?_,λh=>?_⟩
   ·rcases Zm.1 h with h|h
    ·grind [EH]
    ·rw[a1]at h;rw[Q3.1 h]at fa;exact hW.loc 14 fa
   ·change l∈AI [(i,0,H1 w o t)]at h;exact(n0 14).mp ((DF h).symm.trans fa)
  ·exact⟨λh=>DR h,λh=>DR h⟩
 have b:=rM w o p s2 (λ_=>h0.ops) (by rw[h0.ops];simp) ua hp;have y:=C7 2 n p hp;have ra:=DY w (o.op 1 (Aw 1 p 0) (A9 s2)) 1 (Aw 2 p n) data (λh=>Xc) (by simp[Oc.op,h0.ops]);have d:=V5 w ((o.op 1 (Aw 1 p 0) (A9 s2)).op 1 (Aw 2 p n) data) p (decide (gone=[])) [] gone (λh=>Xc) (by simp[Oc.op,h0.ops];omega) hp;have ta:=I3 w (Bn ((o.op 1 (Aw 1 p 0) (A9 s2)).op 1 (Aw 2 p n) data) p gone) (.number n) (λh=>by simp[Bn,Oc.op]at h) trivial trivial;unfold Hb at b;unfold Hy at ta;simp only[G7,↓C2,GY,simprocAttr,AE R8 276];refine Aq c1.put.put b (λM2 d1 d2=>?_);simp only[↓C2,G_,simprocAttr,Ae R8 211,y,AE R8 210];refine Aq d1 ra (λM3 g e2=>?_);simp only[↓C2,G8,Hj,simprocAttr,AE R8 277];refine Aq g d (λM4 f1 f2=>?_);simp only[↓C2,G_,GY,simprocAttr,AE R8 145];refine Aq f1 ta (λM5 g1 g2=>?_);simp only[↓C2,G8,simprocAttr];unfold TX at g1;split
 ·rename_i sa;rw[if_pos sa]at g1;exact g1.endl (l:=[11,30]) U
 ·rename_i sa;rw[if_neg sa]at g1;exact g1.endl (l:=[11,11*gone.length,34]) U
def SF:=y0 f154 [(7,[(7,0),(7,12),(7,17),(7,23),(18,23),(23,0),(23,6),(23,7),(23,12),(23,17),(23,18)]),(16,[(6,10),(10,0),(10,5),(10,6)]),(19,[(6,10),(10,0),(10,5),(10,6)]),(2,[(6,11),(11,0),(11,5),(11,6)])] []
def rdQ(F:Wb->Oc->List D->Option WY):HF where
 rd:=(wQ F).rd
 ex:=λds m fr=>match ds with
  | .ptr i 0::rest=>(Tn (VZ m i)).bind λx=>(F x.1 x.2.1 rest).bind λy=>open Classical in if y.2.1=x.2.1∧y.2.2=none then some (y.1,[])else none
  |_=>none
def aHk{F:Wb->Oc->List D->Option WY}(ds:List D)(m m':G6)(fr:Id)(h:∀l∈(rdQ F).rd ds m,m l.1 l.2=m' l.1 l.2):(rdQ F).ex ds m fr=(rdQ F).ex ds m' fr:=by
 simp only[rdQ,wQ]at h ⊢;split
 ·rename_i i r;have j:Ag m i 0 30=Ag m' i 0 30:=BH (λl hl=>h l (Zo _ hl));have k:VZ m i=VZ m' i:=by
   funext x;obtain⟨w,o,t⟩:=x;apply propext;unfold VZ;rw[j];have z:Ag m' i 0 30=some (H1 w o t)->BY m 167 o.nl t o.ops.isEmpty=BY m' 167 o.nl t o.ops.isEmpty:=λs=>by
    refine Es (h (t,0) (Zn _ ?_));have:=aEi (j.trans s);rw[this];simp
   constructor
   ·rintro⟨a,b,c⟩;exact⟨a,by rw[←z a];exact b,c⟩
   ·rintro⟨a,b,c⟩;exact⟨a,by rw[z a];exact b,c⟩
  rw[k]
 ·rfl
def aPl{S:GZ}{f:FuncId}{N:Nat}{dc:DC}{rs:List RV}(hf:Fn Qf f N dc rs)(hS:GZ.ok Qf S):(rdQ (RW S dc rs N)).ok Qf f:=by
 refine Ll hS hf aHk (λds m fr r u z n=>?_);simp only[rdQ]at z;split at z
 ·rename_i i y;rw[Q4]at z;obtain⟨⟨w,o,t⟩,c,z⟩:=z;rw[Q4]at z;obtain⟨⟨y1,y2,y3⟩,hF,z⟩:=z;simp only at z;split at z
  ·rename_i hy;obtain⟨rfl,rfl⟩:=hy;simp only[Qm,QC]at z;obtain⟨rfl,rfl⟩:=z;have ja:=Tm c;obtain⟨hN,la,ua,ma⟩:=E5 hF;have na:m i 0=some (.bool w.v.se):=OU ja.1;have ia:∀k l,(i=l++k::fr)=False:=λk l=>eq_false (λe=>by
    rw[e,n _ _ ⟨l++[k],U⟩]at na;cases na)
   refine⟨hN,Mc (ma i m fr t ja n ia (λk=>ia k [])) (λe p s=>?_)⟩;obtain⟨b,d,fa,rfl,hE⟩:=s;refine⟨b,_,fa,rfl,λj x dd q=>?_⟩;obtain⟨g1,g2⟩:=hE;have pa:m j x=some dd:=q;by_cases hj:j≠i∨30<=x
   ·exact g2 j x dd hj pa
   ·have cb:j=i:=Classical.byContradiction (λh=>hj (.inl h));have a:x<30:=Zk (λh=>hj (.inr h));subst cb;obtain⟨v,hv⟩:∃v,(H1 w y2 t)[x]?=some v:=⟨_,Qi (by rw[CW];exact a)⟩;have g:=Bh ja.1 hv;have e2:=Bh g1 hv;rw[e2,←g,pa]
  ·cases z
 ·cases z
def aQG{F:Wb->Oc->List D->Option WY}{w:Wb}{o:Oc}{t i fr:Id}{m:G6}{r:List D}{d:D}{K:D×Ha->Prop}{g}(x:VZ m i (w,o,t))(j:F w o r=some (d,o,none))(h:K (d,[])):Hm ((rdQ F).ex (.ptr i 0::r) m fr) K g:=by
 refine aH ?_ h;simp only[rdQ,bX x (λz f=>fU x f),Qj,j,and_self,if_true]
def Wt.endc{i fr t0:Id}{m0 m:G6}{nl0:Bool}{w:Wb}{o:Oc}{k:Nat}{d:D}{ol:Option (List Nat)}(h:Wt i fr m0 nl0 t0 m w o (MC t0 (k::fr) ol))(ia:nl0=true->t0=[]):WE i fr m0 nl0 t0 w (d,o,ol.map (·++[k])) d m:=by
 cases ol with
 |none=>exact h.end0 ia
 |some l=>
  have f:Wt i fr m0 nl0 t0 m w o ((l++[k])++fr):=by simpa[MC]using h
  exact f.endl U
def CH{S:GZ}{t:DC}{rs:List RV}{N:Nat}{w:Wb}{o o':Oc}{r:List D}{d:D}{ol:Option (List Nat)}{k:Nat}(z:RW S t rs N w o r=some (d,o',ol))(h:ol.map (·++[k])=none):o'.nl=o.nl∧o'.ops=o.ops:=(E5 z).2.1 Xl
def CG{S:GZ}{t:DC}{rs:List RV}{N:Nat}{w:Wb}{o o':Oc}{r:List D}{d:D}{ol:Option (List Nat)}{k:Nat}{l:List Nat}(z:RW S t rs N w o r=some (d,o',ol))(h:ol.map (·++[k])=some l):o'.nl=false∧l≠[]:=by
 cases ol with
 |none=>cases h
 |some s=>
  simp only[Qv,Qm]at h;subst h;exact⟨((E5 z).2.2.1 s rfl).1,U⟩
def aS9:(rdQ yO).ok Qf 223:=aPl aLO (Aa aBl Ad)
end Go.Vd
end
