/- A part of the proof; nothing in it is assumed. -/
import Derived.Test.YtpiplnfjodahpaaGreatDoorMSealsP2
import Derived.Shelf.Strings.BuilderRune

set_option linter.unusedSimpArgs false
set_option linter.unusedVariables false
set_option linter.defProp false
set_option maxHeartbeats 4000000
set_option maxRecDepth 100000
open Nat renaming le_of_ble_eq_true→Qa,reduceEqDiff→Qb,reduceAdd→Qd,succ_ne_zero→Qf,zero_ne_one→Qn,zero_add→Qp,reduceLT→Qr,reduceLeDiff→Qt,zero_le→Qu,le_refl→QC,reduceSub→QF,sub_zero→QM,add_zero→Za,lt_of_not_le→Zk,sub_self→Zu,not_lt_zero→ZB,mul_add→ZJ
open List.cons renaming injEq→Qc
open Go.Proofs.Tryz renaming prog→Qe
open List renaming length_cons→Qg,getElem?_eq_getElem→Qi,length_nil→Qm,getElem?_cons_zero→Qo,length_append→Qq,getElem?_cons_succ→Qw,length_map→Qy,mem_map→QB,map_cons→QE,take_succ_eq_append_getElem→QG,take_of_length_le→QH,append_assoc→QI,append_nil→QJ,drop_eq_getElem_cons→QK,mem_cons→QO,take_zero→QP,getElem?_eq_some_iff→QQ,map_map→QR,take_succ_cons→QS,all_eq_true→QT,mem_nil_iff→QV,length_eq_zero_iff→QW,getElem_mem→QX,map_append→Q_,cons_append→Q0,drop_length→Q1,map_nil→Q2,map_congr_left→Q3,mem_singleton→Q4,findIdx?_eq_some_iff_getElem→Q6,all_cons→Q7,append_inj→Q8,drop_succ_cons→Q9,all_nil→Zb,drop_zero→Zc,map_inj_right→Zd,getElem?_append_right→Ze,take_add_one→Zg,take_length→Zi,isEmpty_nil→Zj,nil_append→Zl,mem_append→Zm,mem_append_right→Zn,mem_append_left→Zo,getElem_of_mem→Zp,mem_cons_self→Zs,any_map→Zt,getElem?_map→Zv,map→Zw,getD→Zx,length_take→Zy,not_mem_nil→Zz,nil_suffix→ZC,range→ZD,any_cons→ZE,length→ZI
open Int renaming toNat_natCast→Qh,toNat_of_nonneg→Qx,lt_irrefl→Qz,cast_ofNat_Int→Zr,le_refl→ZA,reduceNe→ZG
open Option renaming bind_some→Qj,isSome_some→Qk,map_some→Qv,map_eq_some_iff→QZ,bind_eq_some_iff→Q5
open Option.some renaming injEq→Ql
open Bool renaming false_eq_true→Qs,false_and→QA,false_ne_true→QL,and_false→QN,and_eq_true→QY,and_self→Zh,true_and→Zq,false_or→ZF,true_or→ZH
open Prod.mk renaming injEq→QD
open Prod renaming ext→QU
open Array renaming size_append→Zf
open Go.Proofs.Tryz
noncomputable section
namespace Go.Vd
open Go.Proofs Go.RowKit
def zK{S:Gz}{fr i:Id}{n:Nat}{m0:GB}{Q:Ex->St->Prop}(a:S 192=some (Ac vD))(r:n<=1000){zs:List Mt}
  (c:∀v,Nv i m0 v.m zs->Q (.exit 0) v):
  ∀(f k:Nat)(xs:List Mt) v g,xs.length=n->k+f=n->Db fP m0t f k xs=zs->v.s 0= .row i n->v.s 1= .int .i64 0->v.s 2= .int .i64 (n:Int)->v.s 3= .fn 192 []->v.s 8= .int .i64 (k:Int)->Nv i m0 v.m xs->
   A9 S fr Oy Q v g:=by
 intro f;induction f with
 |zero=>
  intro k xs v g hl x j o u y p h8 I;refine Af Oy.eq_1 ?_;have:¬((k:Int)<n):=O
  simp only[↓C2,GD,GN,simprocAttr,y,h8,this];exact c _ (by rw[←j];exact I)
 |succ f ih=>
  intro k xs v g hl x j o u y p h8 I;refine Af Oy.eq_1 ?_;have w:((k:Int)<n):=O
  have b:IntKind.i64.wrap ((k:Int)+1)=((k+1:Nat):Int):=GZ O O;simp only[↓C2,GD,GN,simprocAttr,y,h8,w];refine zL (i8:=k) (m0:=m0) a r k xs _ _ hl O o u y p h8 rfl I (λq g0 z e t g8 I'=>?_);simp only[↓C2,GD,simprocAttr,g8,b];exact ih (k+1) _ _ _ (by rw[PB];exact hl) O j g0 z e t rfl I'
def MT(m:GB)(i:Id):Nat->Nat->Option (List Mt)
 |0,_=>some []
 |f+1,j=>match m i (j*3),m i (j*3+1),m i (j*3+2),MT m i f (j+1)with
  |some (.str p),some (.int .i64 q),some (.bool b),some l=>some ((p,q,b)::l)
  |_,_,_,_=>none
def Se{m:GB}{i:Id}:∀{f j:Nat} {xs:List Mt},MT m i f j=some xs->xs.length=f∧∀k,k<f->m i ((j+k)*3)=some (.str (xs.getD k m0t).1)∧m i ((j+k)*3+1)=some (.int .i64 (xs.getD k m0t).2.1)∧m i ((j+k)*3+2)=some (.bool (xs.getD k m0t).2.2)
 |0,j,xs,h=>by
  simp only[MT,Ql]at h;subst h;exact⟨rfl,λk s=>absurd s (ZB _)⟩
 |f+1,j,xs,h=>by
  unfold MT at h;split at h
  ·rename_i p q b l v z c w;simp only[Ql]at h;subst h;obtain⟨t,r⟩:=Se w;refine⟨by simp[t],λk s=>?_⟩;cases k with
   |zero=>exact⟨v,z,c⟩
   |succ k=>
    have:=r k O;rw[show j+1+k=j+(k+1)by omega]at this;exact this
  ·cases h
def VH{m m':GB}{i:Id}:∀{f j n:Nat},j+f<=n->(∀o,o<n*3->m i o=m' i o)->MT m i f j=MT m' i f j
 |0,j,n,_,_=>rfl
 |f+1,j,n,hn,h=>by
  unfold MT;rw[h (j*3) O,h (j*3+1) O,h (j*3+2) O,VH (f:=f) (j:=j+1) O h]
def aFh{m:GB}{i:Id}{xs:List Mt}(h:∀j d,(flat (AA xs))[j]?=some d->m i j=some d):MT m i xs.length 0=some xs:=by
 have q:∀(ys w:List Mt),w++ys=xs->MT m i ys.length w.length=some ys:=by
  intro ys;induction ys with
  |nil=>intro w _;rfl
  |cons y r ih=>
   intro w g;have n:∀x∈AA xs,x.cells.length=3:=λx p=>by obtain⟨z,_,rfl⟩:=QB.1 p;rfl
   have k:w.length<(AA xs).length:=by rw[AX,←g];simp
   have o:(AA xs)[w.length]=MJ y:=by simp[AA,←g]
   have a:=h _ _ ((Ea n k (j:=0) O).trans (by rw[o];rfl));have v:=h _ _ ((Ea n k (j:=1) O).trans (by rw[o];rfl));have b:=h _ _ ((Ea n k (j:=2) O).trans (by rw[o];rfl));have:=ih (w++[y]) (by rw[←g];simp);rw[Qq]at this;rw[Za]at a;have this:MT m i r.length (w.length+1)=some r:=this;simp only[Qg,MT,a,v,b,this]
 exact q xs [] rfl
def R7(m:GB)(i:Id)(n:Nat):Option (D×GF):=if n<=12∧1<=n then(MT m i n 0).map λxs=>(.tup [],[(i,0,flat (AA (Db fP m0t (n-1) 1 xs)))])else none
def ED(y:List D->Option (Id×Nat)):G8 where
 rd:=λds _=>match y ds with
  |some (i,n)=>(ZD (n*3)).map λo=>(i,o)
  |none=>[]
 ex:=λds m _=>match y ds with
  |some (i,n)=>R7 m i n
  |none=>none
def MQ(y:List D->Option (Id×Nat)):∀ds m m' fr,(∀l∈(ED y).rd ds m,m l.1 l.2=m' l.1 l.2)->(ED y).ex ds m fr=(ED y).ex ds m' fr:=by
 intro ds m m' fr h;simp only[ED]at h ⊢;cases hs:y ds with
 |none=>rfl
 |some p=>
  obtain⟨i,n⟩:=p;simp only[hs]at h ⊢;unfold R7;split
  ·rw[VH (m:=m) (m':=m') (n:=n) O λo f=>h (i,o) (QB.2 ⟨o,by simpa using f,rfl⟩)]
  ·rfl
def Lf{y:List D->Option (Id×Nat)}{ds:List D}{m:GB}{fr:Id}{r:D}{u:GF}(h:(ED y).ex ds m fr=some (r,u)):
  ∃i n xs,y ds=some (i,n)∧n<=12∧1<=n∧MT m i n 0=some xs∧xs.length=n∧Nv i m m xs∧r= .tup []∧u=[(i,0,flat (AA (Db fP m0t (n-1) 1 xs)))]:=by
 simp only[ED]at h;cases hs:y ds with
 |none=>rw[hs]at h;cases h
 |some p=>
  obtain⟨i,n⟩:=p;simp only[hs]at h;unfold R7 at h;split at h
  ·rename_i o;rw[QZ]at h;obtain⟨xs,q,h⟩:=h;simp only[QD]at h;obtain⟨rfl,rfl⟩:=h;obtain⟨t,c⟩:=Se q;exact⟨i,n,xs,rfl,o.1,o.2,q,t,⟨λj z=>by have:=c j O;rwa [Qp]at this,λ_ _ _=>rfl⟩,rfl,rfl⟩
  ·cases h
def Nv.fin{i:Id}{m0 m:GB}{xs:List Mt}(h:Nv i m0 m xs):∀g o x,(m0.put i 0 (flat (AA xs))) g o=some x->m g o=some x:=by
 intro g o x q;have n:∀x∈AA xs,x.cells.length=3:=λx q=>by obtain⟨z,_,rfl⟩:=QB.1 q;rfl
 have j:=Ce n;rw[AX]at j;rw[Ah]at q;split at q
 ·rename_i v;obtain⟨rfl,_,f⟩:=v;rw[QM]at q;have s:o / 3<xs.length:=by omega
  have y:o / 3<(AA xs).length:=by rw[AX];exact s
  have a:(AA xs)[o / 3]=MJ (xs.getD (o / 3) m0t):=by simp[AA,Qi s]
  obtain⟨b,a1,t⟩:=h.row (o / 3) s;have u:o % 3<3:=Nat.mod_lt _ O;have e:o / 3*3+o % 3=o:=O
  have:=Ea n y u;rw[e,q,a]at this;have h3:o % 3=0∨o % 3=1∨o % 3=2:=O
  rcases h3 with h3|h3|h3
  ·rw[h3]at this e;rw[Za]at e;rw[←e,b,this];rfl
  ·rw[h3]at this e;rw[←e,a1,this];rfl
  ·rw[h3]at this e;rw[←e,t,this];rfl
 ·rename_i v;rw[←q];refine h.out g o ?_;by_cases e:g=i
  ·simp_all
  ·exact .inl e
def kQ:List D->Option (Id×Nat)
 |[.row i n,.int .i64 0,.int .i64 k,.fn 192 []]=>if k=(n:Int)then some (i,n)else none
 |_=>none
def aQ1:(ED kQ).ok Qe 296:=by
 obtain⟨S,w,hl⟩:=Bl (Aa aRB Ad);have a:=hl 192 _ rfl;clear hl;refine MX w (Aj func296:Fn Qe 296 53 aKi []) (MQ _) (λds m fr r u z x=>?_);obtain⟨i,n,xs,c,g,na,y,hl,I,rfl,rfl⟩:=Lf z;unfold kQ at c;split at c
 ·split at c
  ·rename_i s;simp only[Ql,QD]at c;obtain⟨rfl,rfl⟩:=c;subst s;refine⟨U,?_⟩;rename_i i n;have k:IntKind.i64.wrap ((0:Int)+1)=((1:Nat):Int):=rfl;unfold aKi;simp only[↓C2,GD,simprocAttr,k];refine zK (m0:=m) (zs:=Db fP m0t (n-1) 1 xs) a O (λq e=>?_) (n-1) 1 xs _ _ hl O rfl rfl rfl rfl rfl rfl I;simp only[↓C2,GD,GN,reduceIte];exact e.fin
  ·cases c
 ·cases c
def kS:List D->Option (Id×Nat)
 |[.row i n,.int .i64 0,.int .i64 k,.int .i64 _,.fn 192 []]=>if k=(n:Int)then some (i,n)else none
 |_=>none
def aRh:(ED kS).ok Qe 251:=by
 obtain⟨S,w,hl⟩:=Bl (Aa aQ1 Ad);have a:=hl 296 _ rfl;clear hl;refine MX w (Aj func251:Fn Qe 251 148 aKY []) (MQ _) (λds m fr r u z x=>?_);obtain⟨i,n,xs,c,g,na,y,hl,I,rfl,rfl⟩:=Lf z;unfold kS at c;split at c
 ·split at c
  ·rename_i s;simp only[Ql,QD]at c;obtain⟨rfl,rfl⟩:=c;subst s;refine⟨U,?_⟩;rename_i i n _;have k:IntKind.i64.wrap ((n:Int)-0)=(n:Int):=by rw[GZ O O];omega
   have ta:((n:Int)<=12):=O
   have o:∀fr,(ED kQ).ex ([.row i n,.int .i64 0,.int .i64 (n:Int),.fn 192 []]++[]) m fr=some (.tup [],[(i,0,flat (AA (Db fP m0t (n-1) 1 xs)))]):=by
    grind [ED,kQ,R7]
   unfold aKY;simp only[↓C2,GD,Qd];refine Af mT.eq_1 ?_;simp only[↓C2,GD,GN,simprocAttr,k,ta];rw[AE a];refine aI (o _) ?_;simp only[↓C2,GD,GN];exact λ_ _ _ h=>h
  ·cases c
 ·cases c
def aUt:List D->Option D:=Nc (λ_=>none) 25 aKh [.t 2] 60
def aQ0:Kq aUt 305:=Nb A4 (Aj func305:Fn Qe 305 25 aKh [.t 2]) 60
def aHz:List D->Option D:=Nc (Aq [(305,Ac aUt)]) 8 aKX [.t 2] 60
def aRg:Kq aHz 252:=Nb (Aa aQ0 Ad) (Aj func252:Fn Qe 252 8 aKX [.t 2]) 60
def isI:Option D->Bool
 |some (.int .i64 _)=>true
 |_=>false
def aC5:(ZD 13).all (λn=>isI (aHz [.int .u64 (n:Nat)]))=true:=Xa
def aC4{n:Nat}(h:n<=12):∃k,aHz [.int .u64 (n:Nat)]=some (.int .i64 k):=by
 have:=QT.1 aC5 n Xc;generalize aHz [.int .u64 (n:Nat)]=r at this;unfold isI at this;split at this
 ·exact⟨_,rfl⟩
 ·cases this
def kT:List D->Option (Id×Nat)
 |[.row i n,.fn 192 []]=>some (i,n)
 |_=>none
def aRC:(ED kT).ok Qe 191:=by
 obtain⟨S,w,hl⟩:=Bl (Aa aRg (Aa aRh Ad));have b:=hl 252 _ rfl;have a:=hl 251 _ rfl;clear hl;refine MX w (Aj func191:Fn Qe 191 14 aLJ []) (MQ _) (λds m fr r u z x=>?_);obtain⟨i,n,xs,c,g,na,y,hl,I,rfl,rfl⟩:=Lf z;unfold kT at c;split at c
 ·simp only[Ql,QD]at c;obtain⟨rfl,rfl⟩:=c;refine⟨U,?_⟩;rename_i i n;have p:IntKind.u64.wrap ((n:Nat):Int)=((n:Nat):Int):=by simp only[IntKind.wrap,IntKind.signed,IntKind.bits,QA,Qs,if_false];omega
  obtain⟨k,s⟩:=aC4 g;have o:∀fr,(ED kS).ex ([.row i n,.int .i64 0,.int .i64 (n:Int),.int .i64 k,.fn 192 []]++[]) m fr=some (.tup [],[(i,0,flat (AA (Db fP m0t (n-1) 1 xs)))]):=by
   grind [ED,kS,R7]
  unfold aLJ;simp only[↓C2,GA,simprocAttr,p,Ab b,s];rw[AE a];refine aI (o _) ?_;simp only[↓C2,GD,GN];exact λ_ _ _ h=>h
 ·cases c
def aAU:Fn Qe 190 36 (F_ 9 68 3 32 250) [.t 2]:=aJF
def aM9:(H8 λds=>(S9 3 ds).bind λys=>if(flat ys).all D.plain=true then some ys else none).ok Qe 190:=aGA aAU O aIU
def FC:List D->Option (List D):=λds=>(S9 3 ds).bind λys=>if(flat ys).all D.plain=true then some ys else none
def fI(l:List Mt):(flat (AA l)).all D.plain=true:=by
 induction l with
 |nil=>rfl
 |cons m r ih=>simp only[AA,QE,flat,MJ,D.cells,List.all_append,Q7,Zb,D.plain,Zh,Zq];exact ih
def V4(a b:List Mt):AA (a++b)=AA a++AA b:=Q_
theorem lO(l:List Mt):(AA l).all (dP 3)=true:=X5
def aUz{l:List Mt}{m:Mt}{nl:Bool}(hl:l.length<=1000):FC [.slice false [] [.slice nl [] (AA l),.slice false [] [MJ m]]]=some (AA (l++[m])):=by
 have o:ES [.slice nl [] (AA l),.slice false [] [MJ m]]=some (AA (l++[m])):=by
  simp only[ES,Qv,QJ,V4];rfl
 have r:(AA (l++[m])).length=l.length+1:=by rw[AX,Qq];rfl
 simp only[FC,S9,o];rw[if_pos ⟨U,O,O,lO _⟩,Qj,if_pos (fI _)]
def HO(l:List Mt)(m:Mt):Option (List Mt)×Int:=
 if Eh m.1 m.2.1≠0 then(none,Eh m.1 m.2.1)else if 0<=B8 l m.1 then(none,20)else if L2 m.1 (l.map (·.1))=true then(none,15)else if 4<=l.length then(none,24)
 else(some (Db fP m0t l.length 1 (l++[m])),0)
def aML(nl:Bool)(l:List Mt)(o:Option (List Mt)):D:=match o with
 |none=> .agg [.slice nl [] (AA l)]
 |some q=> .agg [.slice false [] (AA q)]
open Classical in
def F45:List D->Option D
 |[.agg [.slice nl _ xs],.agg [.str p,.int .i64 q,.bool b]]=>if lN nl xs∧xs.length<=1000∧p.length<=1000000 then some (.tup [aML nl (Dp xs) (HO (Dp xs) (p,q,b)).1,.int .i64 (HO (Dp xs) (p,q,b)).2])else none
 |_=>none
open Classical in
def aD8{nl:Bool}{t:Id}{l:List Mt}{m:Mt}(hl:l.length<=1000)(g:nl=true->l=[])(y:m.1.length<=1000000):F45 [.agg [.slice nl t (AA l)],MJ m]=some (.tup [aML nl l (HO l m).1,.int .i64 (HO l m).2]):=by
 have h:lN nl (AA l)∧(AA l).length<=1000∧m.1.length<=1000000:=⟨yU O g,by rw[AX];exact hl,y⟩;show(if _ then _ else _)=_;rw[if_pos h,BH]
def xA{i:Id}{n:Nat}:(D.row i n).data=true:=rfl
def pX{i:Id}{n:Nat}:(D.row i n).cells=[.row i n]:=rfl
def fJ(nl:Bool)(l:List Mt)(o:Option (List Mt))(e:Int):(D.tup [aML nl l o,.int .i64 e]).calmR=true:=by
 cases o<;>rfl
def aU3:Kq F45 129:=by
 obtain⟨S,hS,hl⟩:=Bl (Aa aRG (Aa yM (Aa aRF (Aa aRE (Aa aM9 (Aa aRC Ad))))));have g:=hl 186 _ rfl;have c:=hl 187 _ rfl;have k:=hl 188 _ rfl;have i:=hl 189 _ rfl;have v:=hl 190 _ rfl;have u:=hl 191 _ rfl;clear hl;refine mA hS (Aj func129:Fn Qe 129 44 aTw [.cell (some 1) 4,.t 5]) (λds r h=>?_) (λds r h=>?_)
 ·unfold F45 at h;split at h
  ·simp
  ·cases h
 ·unfold F45 at h;split at h
  ·rename_i nl t xs p q b;split at h
   ·rename_i hc;obtain⟨hc,ba,hp⟩:=hc;obtain⟨l,rfl,hl,hn,e⟩:=qI hc;rw[e]at h;rw[AX]at ba;simp only[Ql]at h;subst h;refine⟨fJ ..,?_⟩;have f:aIE [.agg [.str p,.int .i64 q,.bool b]]=some (.int .i64 (Eh p q)):=if_pos hp;have z:=OT (nl:=nl) (t:=[]) (p:=p) hl;have n:=aIB (nl:=nl) (t:=t) hl;have a:=aID (s:=p) (nl:=false) (t:=[]) (l:=l.map (·.1)) Xl;have ha:∀mm fr,(H8 FC).ex [D.slice false [30] [D.slice nl [] (AA l),D.slice false [] [D.agg [D.str p,D.int IntKind.i64 q,D.bool b]]]] mm fr=some (.row fr (l.length+1),[(fr,0,flat (AA (l++[(p,q,b)])))]):=by
     intro mm fr;have h1:FC ([D.slice false [30] [D.slice nl [] (AA l),D.slice false [] [D.agg [D.str p,D.int IntKind.i64 q,D.bool b]]]].map D.un)=some (AA (l++[(p,q,b)])):=aUz (m:=(p,q,b)) ba;simp only[H8,h1];refine(if_pos rfl).trans ?_;rw[Qv,AX,Qq];rfl
    have o:l.length<4->∀mm fr,(∀(j:Nat) d,(flat (AA (l++[(p,q,b)])))[j]?=some d->mm [31] j=some d)->(ED kT).ex [.row [31] (l.length+1),.fn 192 []] mm fr=some (.tup [],[([31],0,flat (AA (Db fP m0t l.length 1 (l++[(p,q,b)]))))]):=by
     intro w mm fr hm;have hr:=aFh hm;rw[Qq]at hr;simp only[ED,kT,R7];rw[if_pos ⟨O,O⟩,show l.length+1=l.length+[(p,q,b)].length from rfl,hr];rfl
    unfold aTw HO;simp only;generalize Eh p q=e1 at *;generalize B8 l p=e2 at *;generalize L2 p (l.map (·.1))=e3 at *;by_cases he:e1=0
    ·subst he;by_cases fa:0<=e2
     ·simp only[↓C2,GO,simprocAttr,Ab g,f,Ab c,z,ne_eq,Ah,Au,Av,Qj,Qk,Qc,Qn,and_false,Qf,AU,A7,fa];exact .inr ⟨_,_,rfl,rfl,.inl (.inl rfl),.inl (.inl rfl),trivial⟩
     ·cases e3 with
      |true=>
       simp only[↓C2,GO,simprocAttr,Ab g,f,Ab c,z,Ab k,a,AE i,Tv,n,ne_eq,Ah,Au,Av,Qj,Qc,Qn,and_false,Qf,fa];refine AY ?_;simp only[↓C2,GA,simprocAttr,Ah,Au,Av,Qu,QM,Qg,Qm,Qp,Qo,and_self,Qj,Qk,Qc,Qn,Qf,AU,A7,fa];exact .inr ⟨_,_,rfl,rfl,.inl (.inl rfl),.inl (.inl rfl),trivial⟩
      |false=>
       by_cases h4:4<=l.length
       ·have da:(4:Int)<=(l.length:Int):=by omega
        simp only[↓C2,GO,simprocAttr,Ab g,f,Ab c,z,Ab k,a,AE i,Tv,n,ne_eq,Ah,Au,Av,Qj,Qc,Qn,and_false,Qf,fa];refine AY ?_;simp only[↓C2,GA,simprocAttr,AX,Ah,Au,Av,Qu,QM,Qg,Qm,Qp,Qo,and_self,Qj,Qk,Qc,Qn,Qf,AU,A7,fa,da,h4];exact .inr ⟨_,_,rfl,rfl,.inl (.inl rfl),.inl (.inl rfl),trivial⟩
       ·have da:¬(4:Int)<=(l.length:Int):=by omega
        simp only[↓C2,GO,simprocAttr,Ab g,f,Ab c,z,Ab k,a,AE i,Tv,n,ne_eq,Ah,Au,Av,Qj,Qc,Qn,and_false,Qf,fa];refine AY ?_;simp only[↓C2,GO,simprocAttr,AE v,AX,Ah,Au,Av,Qj,Qc,Qn,and_false,Qf,da];refine aI (ha _ _) ?_;simp only[↓C2,GA,simprocAttr,AE u];refine aI (o O _ _ (λj d hd=>?_)) ?_
        ·grind [Ah]
        simp only[↓C2,GA,simprocAttr,xA,pX,Cf,Fb,Ah,Au,Av,Qu,QM,Qg,Qm,Qp,Qo,and_self,Qj,QP,Qk,Zc,Q9,Qc,false_and,Qf,AU,A7,fa,h4];refine .inr ⟨_,_,rfl,rfl,.inr ⟨_,_,rfl,rfl,.inr (.inl ⟨[31],_,3,?_,rfl,?_,?_⟩),trivial⟩,.inl (.inl rfl),trivial⟩
        ·grind [AX,isortR_len]
        ·intro x hx;obtain⟨y,_,rfl⟩:=QB.1 hx;exact⟨rfl,rfl⟩
        ·grind [aA,Ah]
    ·simp only[↓C2,GO,simprocAttr,Ab g,f,ne_eq,Ah,Au,Av,Qj,Qk,Qc,Qn,and_false,Qf,AU,A7,he];exact .inr ⟨_,_,rfl,rfl,.inl (.inl rfl),.inl (.inl rfl),trivial⟩
   ·cases h
  ·cases h
def OB:=y1 f23 2 [] []
def aKB:=y0 f23 [] [(2,OB)]
def aBi:=y0 f266 [] []
def aFQ{S:Gz}{l:List Mt}{p:Bs}{nl:Bool}{t:Id}{Q:Ex->St->Prop}(w:l.length<=1000000)(d:S 54=some (Ac uV))
  (pa:∀v (m:Mt),Cq l p≠-1->m=CE l (Cq l p).toNat->v.s 4= .ptr [1] 0->v.s 5= .int .i64 0->v.m [1] 0=some (.str m.1)->v.m [1] 1=some (.int .i64 m.2.1)->v.m [1] 2=some (.bool m.2.2)->Q .ret v)
  (fa:∀v a b c,Cq l p=-1->v.s 4= .ptr [1] 0->v.m [1] 0=some a->v.m [1] 1=some b->v.m [1] 2=some c->Q (.exit 0) v):
  ∀(f j:Nat) v g a b c,l.length=j+f->(∀i,i<j->(l.map λm=>Cs p m.1)[i]?=some false)->2<=v.c->v.s 1= .str p->v.s 4= .ptr [1] 0->v.s 9= .slice nl t (AA l)->v.s 10= .int .i64 (l.length:Int)->v.s 11= .int .i64 (j:Int)->
   v.m [1] 0=some a->v.m [1] 1=some b->v.m [1] 2=some c->A9 S [] OB Q v g:=by
 intro f;induction f with
 |zero=>
  intro j v g a b c hf ja o u h4 h9 x qa ra q na;refine Af OB.eq_1 ?_;have y:¬((j:Int)<l.length):=O
  simp only[↓C2,GD,GN,reduceIte,Qd,x,qa,y];exact fa _ a b c (WL (by rw[Qy];intro i hi;exact ja i O)) h4 ra q na
 |succ f ih=>
  intro j v g a b c hf ja o u h4 h9 x qa ra q na;refine Af OB.eq_1 ?_;have hj:j<l.length:=O
  have y:((j:Int)<l.length):=O
  have oa:=nJ (j:=j);have hw:=wJ (j:=j) O;have ka:(AA l)[j]?=some (.agg [.str (CE l j).1,.int .i64 (CE l j).2.1,.bool (CE l j).2.2]):=Ol hj;have h:(l.map λm=>Cs p m.1)[j]?=some (Cs p (CE l j).1):=by simp[CE,Qi hj]
  have r:([v.c+1+2]=([1]:Id))=False:=eq_false U;have z:(([1]:Id)=[v.c+1+2])=False:=eq_false U;obtain⟨m,k⟩:∃m,CE l j=m:=⟨_,rfl⟩;rw[k]at ka h;have e:uV [.str p,.str m.1]=some (.bool (Cs p m.1)):=rfl;obtain⟨ma,ia,n⟩:=v;simp only at u h4 h9 x qa ra q na r z o;cases hq:Cs p m.1 with
  |true=>
   rw[hq]at h e;have hr:Cq l p=(j:Int):=WK h ja;simp only[↓C2,GO,simprocAttr,u,h4,h9,x,qa,y,oa,Qh,ka,z,ra,q,na,Ab d,e,QC,Ah,Au,Av,Qj,QS,QP,Qk];refine pa _ m (by rw[hr];omega) (by rw[hr];exact k.symm) h4 rfl ?_ ?_ ?_<;>simp only[GN,simprocAttr,z,ra,q,na,QC,Ah,Qu,QM,Qg,Qm,Qp,Qo,Qw,and_self]
  |false=>
   rw[hq]at h e;simp only[↓C2,GO,simprocAttr,u,h9,x,qa,y,oa,hw,Qh,ka,Ab d,e,QC,Ah,Au,Av,Qj,QS,QP,Qk];refine ih (j+1) _ _ a b c O (λi hi=>?_) Xb u h4 h9 x rfl ?_ ?_ ?_
   ·grind
   all_goals simp only[Hp,GN,simprocAttr,z,ra,q,na,QC,Ah,Qu,QM,Qg,Qm,Qp,Qo,Qw,and_self]
def Lh(l:List Mt)(p:Bs):D:=if Cq l p=-1 then .tup [MJ m0t,.int .i64 14]else .tup [MJ (CE l (Cq l p).toNat),.int .i64 0]
open Classical in
def aEh:List D->Option D
 |[.agg [.slice _ _ xs],.str p]=>if xs=AA (Dp xs)∧xs.length<=1000000 then some (Lh (Dp xs) p)else none
 |_=>none
open Classical in
def oT{nl:Bool}{t:Id}{l:List Mt}{p:Bs}(hl:l.length<=1000000):aEh [.agg [.slice nl t (AA l)],.str p]=some (Lh l p):=by
 have h:AA l=AA (Dp (AA l))∧(AA l).length<=1000000:=XJ
 show(if _ then _ else _)=_;rw[if_pos h,BH]
def yJ:Kq aEh 23:=by
 obtain⟨S,w,hl⟩:=Bl (Aa aIQ Ad);have d:=hl 54 _ rfl;clear hl;refine AL (S:=S) w (Aj func23:Fn Qe 23 22 aKB [.cell (some 3) 4,.t 5]) (λds r h=>?_) (λds r h=>?_)
 ·unfold aEh at h;split at h
  ·simp
  ·cases h
 ·unfold aEh at h;split at h
  ·rename_i nl t xs p;split at h
   ·rename_i o;obtain⟨q,hl⟩:=o;simp only[Ql]at h;subst h;generalize Dp xs=l at q;subst q;rw[AX]at hl;unfold aKB;simp only[↓C2,GA,simprocAttr,AX,Ah,Qu,QM,Qg,Qm,Qp,Qo,and_self,Qc,Qn];refine aFQ (l:=l) (p:=p) (nl:=nl) (t:=t) hl d (λv m f u n s m0 x e=>?_) (λv a b c f n m0 x e=>?_) l.length 0 _ _ (.str []) (.int .i64 0) (.bool false) O U Xb rfl rfl rfl rfl rfl ?_ ?_ ?_
    ·unfold Lh;rw[if_neg f,←u];simp only[↓C2,GA,Qd,n,s,m0,x,e,Au,Av,Qp,Qj,AU,A7];exact⟨rfl,rfl⟩
    ·unfold Lh;rw[if_pos f];simp only[↓C2,GO,simprocAttr,n,m0,x,e,Cf,Ah,Au,Av,Qj,Qk,AU,A7];exact⟨rfl,rfl⟩
    all_goals simp only[Hp,GN,simprocAttr,Ah,Qu,QM,Qg,Qm,Qp,Qo,Qw,and_self,Qc,and_false,Qf]
   ·cases h
  ·cases h
open Classical in
def aEm:List D->Option D
 |[.agg [.bool se,.int .i64 te,.str key,.slice nlm tm xs,.slice nlt tt ys],.str p]=>if xs=AA (Dp xs)∧xs.length<=1000000 then some (.bool (decide (Cq (Dp xs) p≠-1)))else none
 |_=>none
def aRp:Kq aEm 266:=by
 obtain⟨S,w,hl⟩:=Bl (Aa yJ Ad);have b:=hl 23 _ rfl;clear hl;refine AL (S:=S) w (Aj func266:Fn Qe 266 16 aBi [.t 4]) (λds r h=>?_) (λds r h=>?_)
 ·unfold aEm at h;split at h
  ·simp
  ·cases h
 ·unfold aEm at h;split at h
  ·rename_i i s z c m xs d u ys p;split at h
   ·rename_i o;obtain⟨q,hl⟩:=o;simp only[Ql]at h;subst h;generalize Dp xs=l at q;subst q;rw[AX]at hl;have a:=oT (nl:=c) (t:=[]) (p:=p) hl;unfold Lh at a;by_cases n:Cq l p=-1
    ·rw[if_pos n]at a;simp only[n,ne_eq,not_true_eq_false,decide_false];unfold aBi;simp only[↓C2,GO,simprocAttr,Ab b,a,MJ,Ah,Au,Av,Qj,Qk,Qc,Qf]
     all_goals rfl
    ·rw[if_neg n]at a;simp only[n,ne_eq,not_false_eq_true,decide_true];unfold aBi;simp only[↓C2,GO,simprocAttr,Ab b,a,MJ,Ah,Au,Av,Qj,Qk,Qc,Qf]
     all_goals rfl
   ·cases h
  ·cases h
def gB(l:List Mt)(p:Bs):Nat->Nat
 |0=>0
 |j+1=>if Op.bytesLess (CE l j).1 p=true then j+1 else gB l p j
def aAp(l:List Mt)(p:Bs):∀j,gB l p j<=j
 |0=>QC _
 |j+1=>by
  unfold gB;split
  ·exact QC _
  ·exact Nat.le_succ_of_le (aAp l p j)
def aCG(l:List Mt)(m:Mt):Option (List Mt)×Int:=
 if Eh m.1 m.2.1≠0 then(none,Eh m.1 m.2.1)else if 0<=B8 l m.1 then(none,20)else if L2 m.1 (l.map (·.1))=true then(none,15)else if 4<=l.length then(none,24)
 else(some (l.take (gB l m.1 l.length)++m::l.drop (gB l m.1 l.length)),0)
def aKw:=y0 f97 [] []
def aKv:=y0 Tryz.f169 [] []
def aKt:=y0 f171 [] []
def mS:=y1 f309 4 [] []
def aKs:=y0 f309 [] [(4,mS)]
def aJX:=y0 f331 [] []
def Hr:=y1 f330 3 [] []
def aJY:=y0 f330 [] [(3,Hr)]
def mR:=y0 f132 [] []
def aJB:Fn Qe 132 8 mR [.t 4]:=Aj func132
def Mc:=y1 f197 4 [] []
def mN:=y0 f197 [] [(4,Mc)]
def aJx:Fn Qe 197 26 mN [.t 4]:=Aj func197
def Ow:=y1 f14 3 [] []
def aKe:=y0 f14 [] [(3,Ow)]
def Ou:=y1 f332 3 [] []
def aJW:=y0 f332 [] [(3,Ou)]
def OC:=y1 f136 6 [(8,[(7,3)])] []
def aKO:=y0 f136 [] [(6,OC)]
structure Ak where
 op:Int
 tk:Bs
 pa:Bs
 ot:Bs
 n:Int
 cas:Int
 fl:Bool
 nln:Bool
 ns:List Int
 da:Bs
 nlr:Bool
 rs:List Rl
 key:Bs
def AH(l:List Int):List D:=l.map (.int .i64)
def Ez(l:List Int):(AH l).length=l.length:=Qy ..
def IQ:∀{a b:List Int},AH a=AH b->a=b
 |[],[],_=>rfl
 |[],_::_,h=>by simp[AH]at h
 |_::_,[],h=>by simp[AH]at h
 |x::a,y::b,h=>by
  simp only[AH,QE,Qc,D.int.injEq,true_and]at h;rw[h.1,IQ (a:=a) (b:=b) h.2]
def aAB(l:List Int):(AH l).all (mI none)=true:=X5
def VL{a b:List Rl}(h:Ar a=Ar b):a=b:=by rw[←A0 a,h,A0]
theorem V3{a b:List Mt}(h:AA a=AA b):a=b:=by rw[←BH a,h,BH]
theorem Vr{a b:List Tk}(h:AI a=AI b):a=b:=by rw[←BF a,h,BF]
def GV(a:Ak):List D:=[.int .u8 a.op,.str a.tk,.str a.pa,.str a.ot,.int .i64 a.n,.int .i64 a.cas,.bool a.fl,.slice a.nln [] (AH a.ns),.str a.da,.slice a.nlr [] (Ar a.rs),.str a.key]
def GW(a:Ak):D:= .agg (GV a)
theorem Fm{a b:Ak}(h:GW a=GW b):a=b:=by
 cases a;cases b;simp only[GW,GV,D.agg.injEq,Qc,D.int.injEq,D.str.injEq,D.bool.injEq,D.slice.injEq,true_and,and_true]at h;obtain⟨u,y,p,n,c,g,x,⟨o,r⟩,q,⟨j,e⟩,i⟩:=h;have w:=IQ r;have t:=VL e;subst u y p n c g x o q j i w t;rfl
def BD(b:Bool):Int:=if b=true then 0 else 4
def aPM:List D->Option D:=FX (λb:Bool=>[.bool b]) (λ_=>True) (λb=> .int .i64 (BD b))
def Hd(b:Bool):aPM [.bool b]=some (.int .i64 (BD b)):=BV (mk:=λb:Bool=>[.bool b]) (λa b h=>Xp) trivial
def aIS:Kq aPM 97:=by
 refine CS (S:=λ_=>none) A4 (Aj func97:Fn Qe 97 4 aKw [.t 2]) (λ_=>U) (λb _=>?_);unfold aKw;cases b<;>simp only[↓C2,GA,reduceIte,Qb,Qd]
 all_goals exact YS
def aUD:List D->Option D:=FX (λs:Bs=>[.str s]) (λs=>s.length<=1000000) (λs=> .bool (BM s))
def oS{s:Bs}(h:s.length<=1000000):aUD [.str s]=some (.bool (BM s)):=BV (mk:=λs:Bs=>[.str s]) (λa b h=>Xp) h
def aRa:Kq aUD 169:=by
 obtain⟨S,w,hl⟩:=Bl (Aa aFB Ad);have a:=hl 53 _ rfl;clear hl;refine CS w (Aj func169:Fn Qe 169 7 aKv [.t 2]) (λ_=>U) (λs r=>?_);have z:F98 [.agg [.int .u8 3,.str s,.int .i64 0]]=some (.int .i64 (B4 3 s 0)):=if_pos r;have n:B4 3 s 0=if BM s=true then 0 else 2:=by simp[B4]
 rw[n]at z;unfold aKv;cases hn:BM s<;>rw[hn]at z<;>simp only[if_true,Qs,if_false]at z
 ·simp only[↓C2,GA,reduceIte,Qb,Qd,Ab a,z,Cf,Fb,Qt,Qg,Qm,Qp,and_self,QS,QP,Zc,Q9]
  all_goals exact YS
 ·simp only[↓C2,GA,reduceIte,Qb,Qd,Ab a,z,Cf,Fb,Qt,Qg,Qm,Qp,and_self,QS,QP,Zc,Q9]
  all_goals exact YS
def countB(l:List Int):Bool:=decide (l.length<=6)&&!(l.any λx=>!decide (1<=x∧x<=999))
def aUC:List D->Option D:=FX (λp:Bool×List Int=>[.slice p.1 [] (AH p.2)]) (λp=>p.2.length<=1000000) (λp=> .bool (countB p.2))
def aIb{nl:Bool}{l:List Int}(h:l.length<=1000000):aUC [.slice nl [] (AH l)]=some (.bool (countB l)):=
 BV (mk:=λp:Bool×List Int=>[.slice p.1 [] (AH p.2)]) (a:=(nl,l)) (λa b h=>by
  simp only[Qc,D.slice.injEq,true_and,and_true]at h;exact QU h.1 (IQ h.2)) h
def aCd{l:List Int}{nl:Bool}{t:Id}(hl:l.length<=1000000)(m:GB)(fr:Id):
  (dQ 241 none uP).ex [.slice nl t (AH l),.fn 241 []] m fr=some (.bool (l.any λx=>!decide (1<=x∧x<=999)),[]):=by
 have e:(AH l).map (uP .junk)=(l.map λx=>!decide (1<=x∧x<=999)).map λb=>some (.bool b):=by
  simp only[AH,QR];exact Q3 λr _=>rfl
 simp only[dQ,Ez,hl,aAB,and_self,if_true,Fx,Qj,e,Di,Qv,Zt];rfl
def aQ9:Kq aUC 171:=by
 obtain⟨S,w,hl⟩:=Bl (Aa aTL Ad);have c:=hl 240 _ rfl;clear hl;refine CS w (Aj func171:Fn Qe 171 11 aKt [.t 2]) (λ_=>U) (λp r=>?_);obtain⟨nl,l⟩:=p;have a:=aCd (nl:=nl) (t:=[]) r;unfold aKt countB;simp only;generalize (l.any λx=>!decide (1<=x∧x<=999))=b at a;by_cases g:l.length<=6
 ·have d:((l.length:Int)<=6):=by omega
  simp only[↓C2,GA,reduceIte,Qb,Qd,AE c,a,g,d,Ez]
  all_goals exact YS
 ·have d:¬((l.length:Int)<=6):=by omega
  simp only[↓C2,GA,reduceIte,Qb,Qd,g,d,Ez,QA,and_self]
  all_goals exact YS
def aIa:List D->Option D:=FX (λp:Bool×List D×Bool=>[.slice p.1 [] p.2.1,.slice p.2.2 [] []]) (λp=>p.2.1.length<=1000000) (λp=> .bool p.2.1.isEmpty)
def U2{nl nl':Bool}{l:List D}(h:l.length<=1000000):aIa [.slice nl [] l,.slice nl' [] []]=some (.bool l.isEmpty):=
 BV (mk:=λp:Bool×List D×Bool=>[.slice p.1 [] p.2.1,.slice p.2.2 [] []]) (a:=(nl,l,nl')) (λa b h=>by
  simp only[Qc,D.slice.injEq,true_and,and_true]at h;exact QU h.1.1 (QU h.1.2 h.2)) h
def aQ8:Kq aIa 309:=by
 refine CS (S:=λ_=>none) A4 (Aj func309:Fn Qe 309 26 aKs [.t 4]) (λ_=>U) (λp i=>?_);obtain⟨nl,l,nl'⟩:=p;unfold aKs;cases l with
 |nil=>
  simp only[↓C2,GD,GN,reduceIte,Qb,Qd,Qm];have b:((0:Int)<((0:Nat):Int))=False:=U
  refine Af mS.eq_1 ?_;simp only[↓C2,GA,reduceIte,Qb,Qd,b]
  all_goals exact YS
 |cons x r=>
  have c:(((r.length+1:Nat):Int)=((0:Nat):Int))=False:=eq_false O;simp only[↓C2,GA,reduceIte,Qb,Qd,Qg,Qm,c]
  all_goals exact YS
def aQV:Kq aIa 197:=by
 refine CS (S:=λ_=>none) A4 aJx (λ_=>U) (λp i=>?_);obtain⟨nl,l,nl'⟩:=p;unfold mN;cases l with
 |nil=>
  simp only[↓C2,GD,GN,reduceIte,Qb,Qd,Qm];have b:((0:Int)<((0:Nat):Int))=False:=U
  refine Af Mc.eq_1 ?_;simp only[↓C2,GA,reduceIte,Qb,Qd,b]
  all_goals exact YS
 |cons x r=>
  have c:(((r.length+1:Nat):Int)=((0:Nat):Int))=False:=eq_false O;simp only[↓C2,GA,reduceIte,Qb,Qd,Qg,Qm,c]
  all_goals exact YS
structure LG (c0:Nat) (m0:GB) (e:Nat) (m:GB) (c:Nat) (nl:Bool) (t:Id):Prop where
 low:∀q o,q<c0->m [q] o=m0 [q] o
 tok:nl=true∨∃j,t=[j]∧c0<=j∧j<c∧m t 0=some (.tok (e+1))
 le:c0<=c
section
variable{c0 e c c' c2 o:Nat}{m0 m:GB}{nl:Bool}{t:Id}{ds xs:List D}
def LG.start(h:c0<=c):LG c0 m0 e m0 c true t:=⟨λ_ _ _=>rfl,.inl rfl,h⟩
def LG.put(h:LG c0 m0 e m c nl t)(v:c<=c':=by omega):LG c0 m0 e (m.put [c'] o ds) c nl t:=by
 obtain⟨u,y,p⟩:=h;refine⟨λq o' z=>?_,?_,p⟩
 ·grind [aA]
 ·grind [aA]
def LG.more(h:LG c0 m0 e m c nl t)(o:c<=c'):LG c0 m0 e m c' nl t:=by
 obtain⟨u,h2,p⟩:=h;refine⟨u,?_,O⟩;rcases h2 with h2|⟨j,a,b,v,d⟩
 ·exact .inl h2
 ·grind
def LG.grow(h:LG c0 m0 e m c nl t):I1 m e (.slice nl t xs):=by
 rcases h.tok with h|⟨j,rfl,_,_,d⟩
 ·exact .inl h
 ·exact .inr ⟨d,U⟩
def LG.app(h:LG c0 m0 e m c nl t)(v:c<=c')(y:c'<c2):LG c0 m0 e (GF.app m (Bc e [c'] (.slice nl t xs))) c2 false [c']:=by
 obtain⟨u,j,p⟩:=h;refine⟨λq o z=>?_,.inr ⟨c',rfl,O,y,?_⟩,O⟩
 ·grind [C7]
 ·rw[C7,if_pos ⟨rfl,rfl⟩]
def LG.appf(h:LG c0 m0 e m c false t)(o:c<=c')(y:c'<c2):LG c0 m0 e ((m.put t 0 [.tok 0]).put [c'] 0 [.tok (e+1)]) c2 false [c']:=LG.app (xs:=[]) h o y
def LG.nil(h:LG c0 m0 e m c nl t):LG c0 m0 e (GF.app m []) c nl t:=h
def LG.rd(h:LG c0 m0 e m c nl t){q p n:Nat}(v:q<c0):Ag m [q] p n=Ag m0 [q] p n:=by
 have:∀n p,Ag m [q] p n=Ag m0 [q] p n:=by
  intro n;induction n with
  |zero=>intro p;rfl
  |succ n ih=>intro p;simp only[Ag,h.low q p v,ih]
 exact this n p
end
def IH(l:List Rw):aF (A6 l) 3=3:=XF
def G7(l:List Int):(AH l).length=l.length:=Qy ..
def aCi{m:GB}{caps:List D}{k:IntKind}{n:Int}(h:Fx m caps=some (.int k n)):∃i,caps=[.ptr i 0]∧m i 0=some (.int k n):=by
 unfold Fx at h;split at h
 ·simp at h
 ·simp_all
 ·cases h
def uQ:D->D->Option D
 | .int .i64 n,.agg [.int .i64 a,.bool _,.bool _]=>some (.bool (decide (a=n)))
 |_,_=>none
def aOx:(It uQ).ok Qe 314:=by
 refine Nn (S:=λ_=>none) A4 (Aj func314:Fn Qe 314 8 aJ3 [.t 3]) (λx caps m fr c d j g n hl=>⟨O,?_⟩);unfold uQ at g;split at g
 ·simp only[Ql]at g;subst g;obtain⟨i,rfl,u⟩:=aCi j;have hi:i≠0::fr:=by rintro rfl;have:=n 0 (0::fr) 0 (List.suffix_refl _);rw[u]at this;cases this
  unfold aJ3;simp only[↓C2,GA,Gy,simprocAttr,u,hi];intro i o y h;split
  ·grind
  ·exact h
 ·cases g
def aTa:Fn Qe 313 19 (dcI 3 (some 3)) [.t 4]:=⟨f313,_,func313,rfl,Xa,rfl,Xa,Xa⟩
def aOd:(Fu 314 (some 3) uQ).ok Qe 313:=M9 O aTa rfl aOx
def TI(l:List Rw)(n:Int):Int:=Bh (l.map λr=>decide (r.1=n))
def qV{l:List Rw}{nl:Bool}{t:Id}(hl:l.length<=1000000){n:Int}(m:GB)(fr i:Id)(u:m i 0=some (.int .i64 n)):
  (Fu 314 (some 3) uQ).ex [.slice nl t (A6 l),.fn 314 [.ptr i 0]] m fr=some (.int .i64 (TI l n),[]):=by
 have e:(A6 l).map (uQ (.int .i64 n))=(l.map λr=>decide (r.1=n)).map λb=>some (.bool b):=by
  simp only[A6,QR];exact Q3 λr _=>rfl
 have z:(A6 l).all (mI (some 3))=true:=by
  rw[QT];intro x q;obtain⟨r,_,rfl⟩:=QB.1 q;rfl
 simp only[Fu,AQ,hl,z,and_self,if_true,Fx,u,Qj,e,Di,Qv];rfl
def FZ(s:Sc)(n:Int):Int:=if n=0 then(s.rs.length:Int)-1 else TI s.rs n
def aT8:=Aq [(313,Fu 314 (some 3) uQ)]
def aPy:=RF aT8 aKH [.t 4] 15
def aSJ:Kq aPy 274:=An (Aj func274) (Aa aOd Ad)
def aHr(s:Sc)(n:Int)(hl:s.rs.length<=1000):aPy [.agg (GG s),.int .i64 n]=some (.int .i64 (FZ s n)):=by
 refine Al (Qa rfl) ?_;unfold aKH;have g:IntKind.i64.wrap ((s.rs.length:Int)-1)=(s.rs.length:Int)-1:=GZ O O;unfold FZ GG;by_cases c1:n=0
 ·simp only[↓C2,GA,Gy,simprocAttr,c1,g,AQ]
  all_goals exact YR
 ·simp only[↓C2,GA,Gy,simprocAttr,c1,AD aT8 313,qV (n:=n) (show s.rs.length<=1000000 by omega)]
  all_goals exact YR
def rw0:Rw:=(0,false,false)
def Hx(s:Sc)(n:Int):Rw×Int:=if DL s 6=true then(rw0,2)else if FZ s n<0 then(rw0,6)else
 if((s.rs.getD (FZ s n).toNat rw0).2.1||(s.rs.getD (FZ s n).toNat rw0).2.2)=true then(s.rs.getD (FZ s n).toNat rw0,21)else(s.rs.getD (FZ s n).toNat rw0,0)
def Sj(l:List Rw)(n:Int):TI l n<l.length:=by
 unfold TI Bh;split
 ·rename_i k h;rw[Q6]at h;obtain⟨s,_⟩:=h;rw[Qy]at s;omega
 ·omega
def aAX(s:Sc)(n:Int):FZ s n<s.rs.length:=by
 unfold FZ;split
 ·omega
 ·exact Sj _ _
def UX:=Aq [(25,Ac I0),(273,Ac Rb),(274,Ac aPy)]
def Nw:=RF UX aLs [.cell (some 3) 4,.t 5] 32
def aS0:Kq Nw 219:=An (Aj func219) (Aa Pw (Aa aJa (Aa aSJ Ad)))
def aHL(s:Sc)(n:Int)(hl:s.rs.length<=1000):Nw [.agg (GG s),.int .i64 n]=some (.tup [rwD (Hx s n).1,.int .i64 (Hx s n).2]):=by
 refine Al (Qa rfl) ?_;unfold aLs;have z:=Gt s 6 false hl;have q:=nW;have b:=aHr s n hl;have y:=aAX s n;unfold Hx;unfold Tn at z;unfold GG at z b ⊢;generalize FZ s n=i at b y;cases hb:DL s 6 with
 |true=>
  rw[hb]at z;simp only[if_true]at z;simp only[↓C2,GA,Gy,simprocAttr,Ae UX 25,z,Ae UX 273,q];refine AY ?_;simp only[↓C2,GA,Gy,simprocAttr]
  all_goals exact YR
 |false=>
  rw[hb]at z;simp only[if_false,Qs]at z;simp only[↓C2,GA,Gy,simprocAttr,Ae UX 25,z,Ae UX 273,q];refine AY ?_;by_cases c1:i<0
  ·simp only[↓C2,GA,Gy,simprocAttr,Ae UX 274,b,c1]
   all_goals exact YR
  ·have r:0<=i:=by omega
   have u:i.toNat<s.rs.length:=O
   have m:=E9 u;have o:s.rs.getD i.toNat rw0=s.rs[i.toNat]:=by simp[Zx,Qi u]
   rw[o];generalize s.rs[i.toNat]=x at m;obtain⟨a,g,d⟩:=x;simp only at m;cases g with
   |true=>
    simp only[↓C2,GA,Gy,simprocAttr,Ae UX 274,b,c1,r,m]
    all_goals exact YR
   |false=>
    cases d with
    |true=>
     simp only[↓C2,GA,Gy,simprocAttr,Ae UX 274,b,c1,r,m]
     all_goals exact YR
    |false=>
     simp only[↓C2,GA,Gy,simprocAttr,Ae UX 274,b,c1,r,m]
     all_goals exact YR
def IW(s:Sc)(q:Int)(b:Bool)(cas r:Int):Int:=if DL s q=true∨cas< -1∨r<0 then 2 else if 96<r then 18 else if cas=-1∧(s.cas=true∨b=true)then 17 else if cas≠-1∧cas≠s.la then 16 else if s.la=30 then 19 else 0
def N6:=Aq [(25,Ac I0)]
def aPl:=RF N6 aJ2 [.t 8] 49
def aSq:Kq aPl 315:=An (Aj func315) (Aa Pw Ad)
def aG7(s:Sc)(q:Int)(b:Bool)(cas r:Int)(hl:s.rs.length<=1000):aPl [.agg (GG s),.agg [.int .i64 q,.bool b],.int .i64 cas,.int .i64 r]=some (.int .i64 (IW s q b cas r)):=by
 refine Al (Qa rfl) ?_;unfold aJ2;have z:=Gt s q b hl;unfold IW;unfold Tn at z;unfold GG at z ⊢;generalize DL s q=x at z;cases x with
 |true=>
  simp only[if_true]at z;simp only[↓C2,GA,Gy,simprocAttr,Ae N6 25,z,ne_eq]
  all_goals exact YR
 |false=>
  simp only[if_false,Qs]at z;by_cases c1:cas< -1
  ·simp only[↓C2,GA,Gy,simprocAttr,Ae N6 25,z,ne_eq,c1]
   all_goals exact YR
  by_cases p:r<0
  ·simp only[↓C2,GA,Gy,simprocAttr,Ae N6 25,z,ne_eq,c1,p]
   all_goals exact YR
  by_cases o:96<r
  ·simp only[↓C2,GA,Gy,simprocAttr,Ae N6 25,z,ne_eq,c1,p,o]
   all_goals exact YR
  by_cases u:cas=-1
  ·have g:(cas=-1)=True:=eq_true u;cases h1:s.cas with
   |true=>
    rw[h1]at z;simp only[↓C2,GA,Gy,simprocAttr,Ae N6 25,z,ne_eq,c1,p,o,g]
    all_goals exact YR
   |false=>
    rw[h1]at z;cases b with
    |true=>
     simp only[↓C2,GA,Gy,simprocAttr,Ae N6 25,z,ne_eq,c1,p,o,g]
     all_goals exact YR
    |false=>
     by_cases t:s.la=30
     ·have e:(s.la=30)=True:=eq_true t;simp only[↓C2,GA,Gy,simprocAttr,Ae N6 25,z,ne_eq,c1,p,o,g,e]
      all_goals exact YR
     ·have e:(s.la=30)=False:=eq_false t;simp only[↓C2,GA,Gy,simprocAttr,Ae N6 25,z,ne_eq,c1,p,o,g,e]
      all_goals exact YR
  ·have g:(cas=-1)=False:=eq_false u;by_cases k:cas=s.la
   ·have i:(cas=s.la)=True:=eq_true k;by_cases t:s.la=30
    ·have e:(s.la=30)=True:=eq_true t;simp only[↓C2,GA,Gy,simprocAttr,Ae N6 25,z,ne_eq,c1,p,o,g,i,e]
     all_goals exact YR
    ·have e:(s.la=30)=False:=eq_false t;simp only[↓C2,GA,Gy,simprocAttr,Ae N6 25,z,ne_eq,c1,p,o,g,i,e]
     all_goals exact YR
   ·have i:(cas=s.la)=False:=eq_false k;simp only[↓C2,GA,Gy,simprocAttr,Ae N6 25,z,ne_eq,c1,p,o,g,i]
    all_goals exact YR
def aVS:=Aq []
def aPk:=RF aVS W6 [.t 2] 8
def aSp:Kq aPk 316:=An aAT Ad
def aG6{nl:Bool}{l:List Rw}(hl:l.length<=100000)(g:nl=true->l=[]):aPk [.slice nl [] (A6 l)]=some (.slice nl [] (A6 l)):=by
 refine Al (Qa rfl) ?_;unfold W6;cases nl with
 |true=>
  rw[g rfl];simp only[↓C2,GD,Hp,Gy,simprocAttr]
  all_goals exact YR
 |false=>
  simp only[↓C2,GD,GN,Gy,simprocAttr];refine As.intro ⟨XD,IH l,.inr ⟨rfl,U⟩⟩ ?_;simp only[↓C2,GA,Gy,simprocAttr]
def Dg(s:Sc)(q:Int):Nat:=s.rs.length-(B7 s q).toNat
def PM(s:Sc)(q:Int):Sc:={s with rs:=s.rs.drop (Dg s q)}
def Nf(s:Sc)(q:Int):List Int:=(s.rs.take (Dg s q)).map (·.1)
def aOX:=Aq [(59,Ac aHj),(316,Ac aPk)]
def aHq:=RF aOX aKC [.cell (some 4) 4,.t 5] 41
def aI8:Kq aHq 278:=An (Aj func278) (Aa aI7 (Aa aSp Ad))
def nU(s:Sc)(q:Int)(b:Bool)(hl:s.rs.length<=1000)(hk:0<=B7 s q∧B7 s q<=1000)(pa:s.nl=true->s.rs=[]):aHq [.agg (GG s),.agg [.int .i64 q,.bool b]]=some (.tup [.agg (GG (PM s q)),.slice (decide (Dg s q=0)) [] (AH (Nf s q))]):=by
 refine Al (Qa rfl) ?_;unfold aKC;have d:=nT s q b;have a:=aG6 (nl:=s.nl) (l:=s.rs.drop (Dg s q)) X4 (λh=>by rw[pa h,List.drop_nil]);have hw:IntKind.i64.wrap ((s.rs.length:Int)-B7 s q)=(s.rs.length:Int)-B7 s q:=GZ O O;have hm:max 0 ((s.rs.length:Int)-B7 s q)=(Dg s q:Int):=by unfold Dg;omega
 have hn:Dg s q<=s.rs.length:=by unfold Dg;omega
 have la:(0:Int)<=(Dg s q:Int)∧(Dg s q:Int)<=((s.rs.length:Nat):Int):=⟨O,O⟩;have z:(A6 s.rs).take (Dg s q)=A6 (s.rs.take (Dg s q)):=List.map_take.symm;have sa:(A6 s.rs).drop (Dg s q)=A6 (s.rs.drop (Dg s q)):=List.map_drop.symm;have p:PM s q={s with rs:=s.rs.drop (Dg s q)}:=rfl;unfold Nf;rw[p];unfold GG at d ⊢;generalize Dg s q=n at *;generalize B7 s q=kp at *;clear p;simp only[↓C2,GA,Gy,simprocAttr,Ae aOX 59,d,AQ,hw,hm];refine AY ?_;simp only[↓C2,GA,Gy,simprocAttr,AQ,IH,la,Qh,z,QM,Zy,Nat.min_eq_left hn];refine BI (n:=n) (I:=λj w=>w.s 21= .slice s.nl [] (A6 (s.rs.take n))∧w.s 22= .int .i64 (n:Int)∧w.s 23= .int .i64 (j:Int)∧w.s 2= .ptr [0] 0∧w.s 4= .ptr [2] 0∧w.s 6= .int .i64 (n:Int)∧∃nl t,w.s 7= .slice nl t (AH (((s.rs.take n).take j).map (·.1)))∧nl=decide (j=0)∧LG 4 _ 3 w.m w.c nl t) (λj hj ih w g hI=>?_) (λw g hI=>?_) 0 (Qu _) _ _ ⟨(by show D.slice _ _ (List.take n (List.drop 0 (A6 s.rs)))=_;rw[Zc,z]),rfl,rfl,rfl,rfl,rfl,true,[],rfl,rfl,LG.start Xb⟩
 ·obtain⟨ma,ia,ea⟩:=w;obtain⟨i,e,o,y,h4,h6,nl,t,h7,f,hG⟩:=hI;simp only at i e o y h4 h6 h7 hG;refine Af Ux.eq_1 ?_;have da:((j:Int)<n):=by omega
  have oa:=nJ (j:=j);have hw:=wJ (j:=j) O;have ba:(s.rs.take n).length=n:=XC
  generalize s.rs.take n=l at *;have ka:=E9 (l:=l) (j:=j) O;have z:AH ((l.take (j+1)).map (·.1))=AH ((l.take j).map (·.1))++[.int .i64 (l[j]' O).1]:=by
   rw[QG O,Q_];simp[AH]
  have ra:(AH ((l.take j).map (·.1))).length=j:=by simp[AH];omega
  have na:nl=true->AH ((l.take j).map (·.1))=[]:=by
   grind
  generalize AH ((l.take j).map (·.1))=ca at h7 z ra na;generalize l[j]' O=x at ka z;simp only[↓C2,GA,Gy,simprocAttr,i,e,o,h7,da,oa,Qh,ka];refine As.intro ⟨O,rfl,Yr⟩ ?_;rw[B0 na,←z];simp only[↓C2,GD,simprocAttr,o,hw];exact ih _ _ ⟨i,e,rfl,y,h4,h6,false,_,rfl,U,YO⟩
 ·obtain⟨ma,ia,ea⟩:=w;obtain⟨i,e,o,y,h4,h6,nl,t,h7,f,hG⟩:=hI;simp only at i e o y h4 h6 h7 hG;refine Af Ux.eq_1 ?_;have m0:∀k,ia [0] k=_:=λk=>hG.low 0 k O
  have m2:∀k,ia [2] k=_:=λk=>hG.low 2 k O
  have r:(A6 s.rs).take s.rs.length=A6 s.rs:=QH XD;have v:(A6 (s.rs.drop n)).take (s.rs.length-n)=A6 (s.rs.drop n):=QH (by rw[AQ,List.length_drop];omega);have u:(s.rs.take n).take n=s.rs.take n:=QH XC;rw[u]at h7;simp only[↓C2,GA,Gy,simprocAttr,e,o,y,h4,h6,h7,Qz,m0,m2,AQ,IH,la,Qh,v,sa,Ae aOX 316,a];subst f
  all_goals exact YR
def clQ:G8 where
 rd:=λ_ _=>[]
 ex:=λds _ fr=>match ds with
  |[.slice nl _ xs]=>if xs.length<=100000∧(nl=true->xs=[])∧aF xs 3=3 then(if nl=true then some (.slice true [] [],[])else some (.slice false (5::fr) xs,[(5::fr,0,[.tok 81])]))else none
  |_=>none
theorem bQ{nl:Bool}{t:Id}{xs:List D}{m:GB}{fr:Id}(u:xs.length<=100000)(y:nl=true->xs=[])(p:aF xs 3=3)(S:Gz){R:D->GB->Prop}(w:if nl=true then R (.slice true [] []) m else R (.slice false (5::fr) xs) (((m.put (3::fr) 0 [.tok 81]).put (3::fr) 0 [.tok 0]).put (5::fr) 0 [.tok 81])):W6.wp S fr (DW [.t 2] R) ⟨BE [.slice nl t xs],m,0⟩:=by
 unfold W6;cases nl with
 |true=>
  simp only[↓C2,GD,Gy,reduceIte,Qb,Qd,reduceCtorEq];simpa using w
 |false=>
  simp only[↓C2,GD,GN,Gy,reduceIte,Qb,Qd,reduceCtorEq];refine As.intro ⟨O,p,.inr ⟨BG ..▸by simp,U⟩⟩ ?_;simp only[↓C2,GD,GN,Gy,reduceIte,Qb,Qd];simp only[Qs,if_false]at w;exact w
def aNb:clQ.ok Qe 316:=by
 refine IM (S:=λ_=>none) A4 aAT (λds m m' fr _=>rfl) (λds m fr r u z n=>?_);simp only[clQ]at z;split at z
 ·rename_i nl t xs;split at z
  ·rename_i v;obtain⟨q,y,p⟩:=v;refine⟨U,bQ q y p _ ?_⟩;cases nl with
   |true=>
    simp only[if_true,Ql,QD]at z ⊢;obtain⟨rfl,rfl⟩:=z;exact⟨rfl,λ_ _ _ h=>h⟩
   |false=>
    simp only[Qs,if_false,Ql,QD]at z ⊢;obtain⟨rfl,rfl⟩:=z;refine⟨rfl,λi o x h=>?_⟩;have g:(m.put (5::fr) 0 [.tok 81]) i o=some x:=h;rw[BG]at g ⊢;split at g
    ·simp_all
    ·grind [BG]
  ·cases z
 ·cases z
def aOB{nl:Bool}{t:Id}{l:List Rw}{m:GB}{fr:Id}(u:l.length<=1000)(y:nl=true->l=[]):clQ.ex [.slice nl t (A6 l)] m fr=if nl=true then some (.slice true [] [],[])else some (.slice false (5::fr) (A6 l),[(5::fr,0,[.tok 81])]):=
 if_pos ⟨XD,λh=>by rw[y h];rfl,IH l⟩
def My{s:Sc}{q:Int}(h:DL s q=false):(1<=q∧q<=6)∧(0<=s.mx∧s.mx<=6)∧(0<=s.la∧s.la<=30)∧(s.rs.length:Int)<=B7 s q∧H3 s.rs 0=true∧Pc s.rs=s.la:=by
 simpa[DL]using h
def xN{s:Sc}{q:Int}{b:Bool}{cas r:Int}(h:IW s q b cas r=0):DL s q=false:=by
 grind [IW,DL]
def Wv{s:Sc}{q:Int}(u:1<=q∧q<=6)(y:0<=s.mx∧s.mx<=6):0<=B7 s q∧B7 s q<=1000:=by
 grind [B7]
def D8(s:Sc):Sc:={s with la:=s.la+1,nl:=false,rs:=s.rs++[(s.la+1,false,false)]}
def Ct(s:Sc)(q:Int)(b:Bool)(cas r:Int):Sc×Int×List Int×Int:=if IW s q b cas r≠0 then(s,0,[],IW s q b cas r)else(PM (D8 s) q,s.la+1,Nf (D8 s) q,0)
def WR{s:Sc}{q:Int}:(Nf s q=[])=(Dg s q=0):=by
 simp_all [Nf,Dg]
def cS:=Aq [(315,Ac aPl),(278,Ac aHq),(316,clQ)]
def aPx:=RF cS aKG [.cell (some 4) 8,.t 9,.t 10,.t 11] 47
def aSI:Kq aPx 275:=An (Aj func275) (Aa aSq (Aa aI8 (Aa aNb Ad)))
def nV(s:Sc)(q:Int)(b:Bool)(cas r:Int)(hl:s.rs.length<=900)(u:s.nl=true->s.rs=[]):aPx [.agg (GG s),.agg [.int .i64 q,.bool b],.int .i64 cas,.int .i64 r]=some (.tup [.agg (GG (Ct s q b cas r).1),.int .i64 (Ct s q b cas r).2.1,.slice (decide ((Ct s q b cas r).2.2.1=[])) [] (AH (Ct s q b cas r).2.2.1),.int .i64 (Ct s q b cas r).2.2.2]):=by
 refine Al (Qa rfl) ?_;unfold aKG;have c:=aG7 s q b cas r O;have a:=λ(m:GB)(fr:Id)=>aOB (nl:=s.nl) (t:=[]) (l:=s.rs) (m:=m) (fr:=fr) O u
 unfold Ct;by_cases n:IW s q b cas r=0
 ·obtain⟨o,b2,b3,_⟩:=My (xN n);have w:B7 (D8 s) q=B7 s q:=rfl;have d:=nU (D8 s) q b (by simp[D8];omega) (by rw[w];exact Wv o b2) (by simp[D8]);have p:IntKind.i64.wrap (s.la+1)=s.la+1:=GZ O O;have j:(PM (D8 s) q).la=s.la+1:=rfl;have f:=WR (s:=D8 s) (q:=q);rw[n]at c;rw[n];simp only[ne_eq,not_true_eq_false,if_false,f];generalize decide (Dg (D8 s) q=0)=k at d ⊢;generalize Nf (D8 s) q=y at *;generalize PM (D8 s) q=x at *;have g:A6 (s.rs++[(s.la+1,false,false)])=A6 s.rs++[.agg [.int .i64 (s.la+1),.bool false,.bool false]]:=by simp[A6,rwD]
  unfold D8 GG at d;simp only[g]at d;unfold GG at c ⊢;rw[j]at d;clear w;have i:(A6 s.rs).length=s.rs.length:=AQ _;cases hn:s.nl with
  |true=>
   rw[hn]at c a;rw[u hn]at c d a i ⊢;simp only[if_true]at a;have v:A6 []=[]:=rfl;rw[v]at c d a i ⊢;rw[Zl]at d;simp only[↓C2,GA,Gy,reduceIte,Qb,Qd,Qr,Qt,QF,reduceCtorEq,Ae cS 315,c,AD cS 316,a,p];refine As.intro ⟨U,rfl,.inl rfl⟩ ?_;simp only[↓C2,GA,Gy,reduceIte,Qb,Qd,Qr,Qt,QF,reduceCtorEq];refine AY ?_;simp only[↓C2,GA,Gy,reduceIte,Qb,Qd,Qr,Qt,QF,reduceCtorEq,Ae cS 278,d];refine AY ?_;simp only[↓C2,GA,Gy,reduceIte,Qb,Qd,Qr,Qt,QF,j]
   all_goals exact YR
  |false=>
   rw[hn]at c a;simp only[if_false,Qs]at a;simp only[↓C2,GA,Gy,reduceIte,Qb,Qd,Qr,Qt,QF,reduceCtorEq,Ae cS 315,c,AD cS 316,a,p];refine As.intro ⟨by simp only[i];omega,rfl,.inr ⟨XT,U⟩⟩ ?_;simp only[↓C2,GA,Gy,reduceIte,Qb,Qd,Qr,Qt,QF,reduceCtorEq];refine AY ?_;simp only[↓C2,GA,Gy,reduceIte,Qb,Qd,Qr,Qt,QF,reduceCtorEq,Ae cS 278,d];refine AY ?_;simp only[↓C2,GA,Gy,reduceIte,Qb,Qd,Qr,Qt,QF,reduceCtorEq,j]
   all_goals exact YR
 ·have z:(IW s q b cas r=0)=False:=eq_false n;unfold GG at c ⊢;simp only[ne_eq,z,not_false_eq_true,if_true];generalize IW s q b cas r=e at *;simp only[↓C2,GA,Gy,reduceIte,Qb,Qd,Qr,reduceCtorEq,Ae cS 315,c,z]
  all_goals exact YR
def DM(s:Sc)(q:Int)(r:Int)(cas:Bool):Sc×List Int×Int:=if DL s q=true∨¬(0<=r∧r<=6)then(s,[],2)else(PM {s with mx:=r,cas:=cas} q,Nf {s with mx:=r,cas:=cas} q,0)
def jM:=Aq [(58,Ac dI),(25,Ac I0),(278,Ac aHq)]
def aHK:=RF jM aLq [.cell (some 4) 8,.t 9,.t 10] 35
def aSZ:Kq aHK 222:=An (Aj func222) (Aa yK (Aa Pw (Aa aI8 Ad)))
def aHJ(s:Sc)(q:Int)(b:Bool)(r:Int)(cas:Bool)(hl:s.rs.length<=1000)(t:s.nl=true->s.rs=[]):aHK [.agg (GG s),.agg [.int .i64 q,.bool b],.int .i64 r,.bool cas]=some (.tup [.agg (GG (DM s q r cas).1),.slice (decide ((DM s q r cas).2.1=[])) [] (AH (DM s q r cas).2.1),.int .i64 (DM s q r cas).2.2]):=by
 refine Al (Qa rfl) ?_;unfold aLq;have z:=Gt s q b hl;have c:∀x a b:Int,dI [.int .i64 x,.int .i64 a,.int .i64 b]=some (.bool (decide (a<=x∧x<=b))):=λ_ _ _=>rfl
 unfold DM;unfold Tn at z;cases hb:DL s q with
 |true=>
  rw[hb]at z;simp only[if_true]at z;unfold GG at z ⊢;simp only[↓C2,GA,Gy,reduceIte,Qb,Qd,Qr,reduceCtorEq,Int.reduceEq,Ae jM 25,z,true_or,if_true]
  all_goals exact YR
 |false=>
  rw[hb]at z;simp only[if_false,Qs]at z;by_cases c1:0<=r∧r<=6
  ·obtain⟨o,u,w,_⟩:=My hb;have d:=nU {s with mx:=r,cas:=cas} q b hl (Wv o c1) t;have f:=WR (s:={s with mx:=r,cas:=cas}) (q:=q);simp only[c1,and_self,not_true_eq_false,or_self,if_false,Qs,f];generalize decide (Dg {s with mx:=r,cas:=cas} q=0)=k at d ⊢;generalize Nf {s with mx:=r,cas:=cas} q=y at *;generalize PM {s with mx:=r,cas:=cas} q=n at *;unfold GG at z d ⊢;simp only[↓C2,GA,Gy,reduceIte,Qb,Qd,Qr,Qt,QF,reduceCtorEq,Ae jM 25,z,Ae jM 58,c,Ae jM 278,d,c1]
   all_goals exact YR
  ·unfold GG at z ⊢;simp only[↓C2,GA,Gy,reduceIte,Qb,Qd,Qr,reduceCtorEq,Ae jM 25,z,Ae jM 58,c,c1,or_true,if_true]
   all_goals exact YR
def aAO{α:Type}{mk:α->List D}{ok:α->Prop}{res:α->D}{P:Program}{S:Gz}{f:FuncId}{N:Nat}{x:DC}{rs:List RV}(w:Gz.ok P S)(s:Fn P f N x rs)(b:∀a,(mk a).length<=N)
  (g:∀a,ok a->(res a).calmR=true∧x.wp S [] (DW rs λd m'=>aTY m' d (res a)) ⟨BE (mk a),λ_ _=>none,0⟩):(Ac (FX mk ok res)).ok P f:=by
 refine mA w s (λds r h=>?_) (λds r h=>?_)
 ·obtain⟨a,_,rfl,_⟩:=Dc h;exact b a
 ·obtain⟨a,j,rfl,rfl⟩:=Dc h;exact g a j
def rI{l:List Int}{n:Int}{j:Nat}(u:j<l.length)(q:n=l[j])(e:∀i (h:i<j),n≠l[i]'(by omega)):Bh (l.map λx=>decide (n=x))=j:=by
 unfold Bh;have:(l.map λx=>decide (n=x)).findIdx? id=some j:=by
  rw[Q6];refine⟨Xu,by simp[q],λi hi=>?_⟩;have:=e i hi;simpa using this
 rw[this]
def rG{l:List Int}{n:Int}(e:∀i (h:i<l.length),n≠l[i]):Bh (l.map λx=>decide (n=x))=-1:=by
 unfold Bh;have:(l.map λx=>decide (n=x)).findIdx? id=none:=by
  rw[List.findIdx?_eq_none_iff];intro b m;obtain⟨x,q,rfl⟩:=QB.1 m;obtain⟨i,hi,rfl⟩:=Zp q;simpa using e i hi
 rw[this]
def SD{l:List Int}{j:Nat}(h:j<l.length):(AH l)[j]?=some (.int .i64 l[j]):=by simp[AH,Qi h]
def aGh(l:List Int)(n:Int):Bool:=l.any λx=>decide (n=x)
def gN(l:List Int)(n:Int):decide (0<=Bh (l.map λx=>decide (n=x)))=aGh l n:=by
 rw[Gl,Zt];rfl
def aVL:=Aq []
def aPc:=RF aVL aJM [.t 4] 19
def aSf:Kq aPc 343:=An (Aj func343) Ad
def aGW{nl:Bool}{l:List Int}(n:Int)(hl:l.length<=1000):aPc [.slice nl [] (AH l),.int .i64 n]=some (.int .i64 (Bh (l.map λx=>decide (n=x)))):=by
 refine Al (Qa rfl) ?_;unfold aJM;simp only[↓C2,GD,simprocAttr,G7];refine BI (n:=l.length) (I:=λj v=>v.s 0= .slice nl [] (AH l)∧v.s 1= .int .i64 n∧v.s 7= .int .i64 l.length∧v.s 8= .int .i64 (j:Int)∧∀i (h:i<j) (y:i<l.length),n≠l[i]) (λj z ih v g hI=>?_) (λv g hI=>?_) 0 (Qu _) _ _ ⟨rfl,rfl,rfl,rfl,λi h=>absurd h (ZB _)⟩
 ·obtain⟨p,t,b⟩:=v;obtain⟨f,u,h7,c,r⟩:=hI;simp only at f u h7 c;refine Af Up.eq_1 ?_;have w:((j:Int)<l.length):=by omega
  have o:=nJ (j:=j);have k:=wJ (j:=j) O;have m:=SD z;by_cases q:n=l[j]
  ·have e:=rI z q (λi h=>r i h O);have a:(n=l[j])=True:=eq_true q;simp only[↓C2,GA,Gy,simprocAttr,f,u,h7,c,w,o,Qh,m,a];rw[e]
   all_goals exact YR
  ·have a:(n=l[j])=False:=eq_false q;simp only[↓C2,GA,Gy,simprocAttr,f,u,h7,c,w,o,Qh,m,a,k];refine ih _ _ ⟨f,u,h7,rfl,λi h y=>?_⟩;rcases Nat.lt_or_eq_of_le (Nat.le_of_lt_succ h)with h|rfl
   ·exact r i h y
   ·exact q
 ·obtain⟨f,u,h7,c,r⟩:=hI;refine Af Up.eq_1 ?_;have e:=rG (λi h=>r i h h);simp only[↓C2,GA,Gy,simprocAttr,h7,c,Qz];rw[e]
  all_goals exact YR
def aTZ:=Aq [(343,Ac aPc)]
def RK:=RF aTZ aJ0 [.t 4] 9
def aSn:Kq RK 318:=An (Aj func318) (Aa aSf Ad)
def aG4{nl:Bool}{l:List Int}(n:Int)(hl:l.length<=1000):RK [.slice nl [] (AH l),.int .i64 n]=some (.bool (aGh l n)):=by
 refine Al (Qa rfl) ?_;unfold aJ0;have a:=aGW (nl:=nl) n hl;have e:=gN l n;generalize Bh (l.map λx=>decide (n=x))=i at *;simp only[↓C2,GA,Gy,simprocAttr,Ae aTZ 343,a];rw[←e]
 all_goals exact YR
def aV2:=Aq []
def RO:=RF aV2 aKz [.cell (some 3) 2] 6
def aSH:Kq RO 280:=An (Aj func280) Ad
def aHp(r:Rw):RO [.agg [.int .i64 r.1,.bool r.2.1,.bool r.2.2]]=some (.agg [.int .i64 r.1,.bool true,.bool false]):=by
 refine Al (Qa rfl) ?_;unfold aKz;simp only[↓C2,GA,Gy,simprocAttr]
 all_goals exact YR
def aV1:=Aq []
def RN:=RF aV1 aKy [.cell (some 3) 2] 6
def aSG:Kq RN 281:=An (Aj func281) Ad
def aHo(r:Rw):RN [.agg [.int .i64 r.1,.bool r.2.1,.bool r.2.2]]=some (.agg [.int .i64 r.1,.bool false,.bool false]):=by
 refine Al (Qa rfl) ?_;unfold aKy;simp only[↓C2,GA,Gy,simprocAttr]
 all_goals exact YR
def aV0:=Aq []
def RL:=RF aV0 aKx [.cell (some 3) 2] 6
def aSF:Kq RL 282:=An (Aj func282) Ad
def aHn(r:Rw):RL [.agg [.int .i64 r.1,.bool r.2.1,.bool r.2.2]]=some (.agg [.int .i64 r.1,.bool false,.bool true]):=by
 refine Al (Qa rfl) ?_;unfold aKx;simp only[↓C2,GA,Gy,simprocAttr]
 all_goals exact YR
def chR(k:Nat)(r:Rw):Rw:=if k=280 then(r.1,true,false)else if k=281 then(r.1,false,false)else(r.1,false,true)
def IZ(ns:List Int)(n j:Nat)(x:Rw):Bool:=(aGh ns x.1||(ns.isEmpty&&decide (j+1=n)))&&!x.2.2
def HY(ns:List Int)(k n:Nat):Nat->List Rw->List Rw
 |_,[]=>[]
 |j,x::r=>(if IZ ns n j x=true then chR k x else x)::HY ns k n (j+1) r
def Ek(ns:List Int)(n:Nat):Nat->List Rw->List Int
 |_,[]=>[]
 |j,x::r=>if IZ ns n j x=true then x.1::Ek ns n (j+1) r else Ek ns n (j+1) r
theorem MM(ns:List Int)(k n:Nat):∀(l:List Rw)(j:Nat),(HY ns k n j l).length=l.length
 |[],_=>rfl
 |x::r,j=>by simp[HY,MM ns k n r]
def BC(s:Sc)(ns:List Int)(k:Nat):Sc×List Int×Int:=if DL s 6=true then(s,[],2)else if s.rs=[]then(s,[],6)else({s with rs:=HY ns k s.rs.length 0 s.rs},Ek ns s.rs.length 0 s.rs,0)
def fK(p:Sc×Bool×List Int×Nat):List D:=[.agg (GG p.1),.slice p.2.1 [] (AH p.2.2.1),.fn p.2.2.2 []]
def wT{a b:List Rw}(h:A6 a=A6 b):a=b:=(Zd (λx y e=>by
 simp only[rwD,D.agg.injEq,Qc,D.int.injEq,D.bool.injEq,true_and,and_true]at e;exact QU e.1 (QU e.2.1 e.2.2))).1 h
theorem aE9{a b:Sc}(h:GG a=GG b):a=b:=by
 cases a;cases b;simp only[GG,Qc,D.int.injEq,D.bool.injEq,D.slice.injEq,true_and,and_true]at h;obtain⟨u,y,p,n,c⟩:=h;have:=wT c;subst u y p n this;rfl
theorem gF{a b:List Int}(h:AH a=AH b):a=b:=(Zd (λx y e=>by simpa using e)).1 h
def yX(x y:Sc×Bool×List Int×Nat)(e:fK x=fK y):x=y:=by
 grind [fK,aE9,gF]
def Sh(p:Sc×Bool×List Int×Nat):D:= .tup [.agg (GG (BC p.1 p.2.2.1 p.2.2.2).1),.slice (decide ((BC p.1 p.2.2.1 p.2.2.2).2.1=[])) [] (AH (BC p.1 p.2.2.1 p.2.2.2).2.1),.int .i64 (BC p.1 p.2.2.1 p.2.2.2).2.2]
structure aTX (p:Sc×Bool×List Int×Nat):Prop where
 hl:p.1.rs.length<=1000
 hn:p.1.nl=true->p.1.rs=[]
 hs:p.2.2.1.length<=1000
 hk:p.2.2.2=280∨p.2.2.2=281∨p.2.2.2=282
def aEg:List D->Option D:=FX fK aTX Sh
def OW:List D->Option (List D):=λds=>match ds with|[.slice false _ xs]=>if xs.length<=100000∧aF xs 3=3∧(flat xs).all D.plain=true then some xs else none|_=>none
def aM8:(H8 OW).ok Qe 316:=by
 unfold OW;refine xZ (S:=λ_=>none) A4 aAT (λds r h=>?_) (λds xs h=>?_)
 ·grind
 ·grind [bQ,GB.put]
def Sa(l:List Rw):(flat (A6 l)).all D.plain=true:=by
 rw[QT];induction l with
 |nil=>intro x q;cases q
 |cons y r ih=>
  intro x q;have a:x∈[D.int .i64 y.1,.bool y.2.1,.bool y.2.2]++flat (A6 r):=q;rcases Zm.1 a with h|h
  ·simp only[QO,QV,or_false]at h;rcases h with rfl|rfl|rfl<;>rfl
  ·exact ih x h
def aM7{l:List Rw}{t:Id}{m:GB}{fr:Id}(h:l.length<=1000):(H8 OW).ex [.slice false t (A6 l)] m fr=some (.row fr l.length,[(fr,0,flat (A6 l))]):=by
 have e:OW [.slice false [] ((A6 l).map D.un)]=some (A6 l):=by
  have:(A6 l).map D.un=A6 l:=by rw[A6,QR];exact Q3 λ_ _=>rfl
  rw[this];exact if_pos ⟨XD,IH l,Sa l⟩
 have z:OW ([D.slice false t (A6 l)].map D.un)=some (A6 l):=if_pos ⟨XD,IH l,Sa l⟩;simp only[H8];refine(if_pos rfl).trans ?_;rw[z,Qv,AQ]
def FB(m:GB)(i:Id)(l:List Rw):Prop:=∀k x,l[k]?=some x->Ag m i (k*3) 3=some [.int .i64 x.1,.bool x.2.1,.bool x.2.2]
def Rt{m:GB}{i:Id}{o:Nat}{a b c:D}:Ag m i o 3=some [a,b,c]↔(m i o=some a∧m i (o+1)=some b∧m i (o+2)=some c):=by
 simp only[Ag];cases m i o<;>cases m i (o+1)<;>cases m i (o+1+1)<;>simp
def bI{m:GB}{i:Id}:∀{l:List Rw} {p:Nat},(∀k x,l[k]?=some x->Ag m i (p+k*3) 3=some [.int .i64 x.1,.bool x.2.1,.bool x.2.2])->∀(j:Nat) d,(flat (A6 l))[j]?=some d->m i (p+j)=some d
 |[],p,_,j,d,h=>by simp[A6,Vd.flat]at h
 |x::r,p,hr,j,d,h=>by
  have g:([D.int .i64 x.1,.bool x.2.1,.bool x.2.2]++Vd.flat (A6 r))[j]?=some d:=h;obtain⟨b,a1,t⟩:=Rt.1 (hr 0 x rfl);simp only[Nat.zero_mul,Za]at b a1 t
  match j,g with
  |0,g=>simp only[Q0,Qo,Ql]at g;subst g;exact b
  |1,g=>simp only[Q0,Qw,Qo,Ql]at g;subst g;exact a1
  |2,g=>simp only[Q0,Qw,Qo,Ql]at g;subst g;exact t
  |j+3,g=>
   have:=bI (p:=p+3) (l:=r) (λk y s=>by
    have:=hr (k+1) y (by simpa using s);rw[show p+(k+1)*3=p+3+k*3 by omega]at this;exact this) j d (by simpa using g)
   rw[show p+3+j=p+(j+3)by omega]at this;exact this
def FB.of{m:GB}{i:Id}:∀{l:List Rw} {p:Nat},(∀(j:Nat) d,(flat (A6 l))[j]?=some d->m i (p+j)=some d)->∀k x,l[k]?=some x->Ag m i (p+k*3) 3=some [.int .i64 x.1,.bool x.2.1,.bool x.2.2]
 |[],p,_,k,x,h=>Xe
 |y::r,p,hr,k,x,h=>by
  match k,h with
  |0,h=>
   simp only[Qo,Ql]at h;subst h;exact Rt.2 ⟨by simpa using hr 0 _ rfl,by simpa using hr 1 _ rfl,by simpa using hr 2 _ rfl⟩
  |k+1,h=>
   have:=FB.of (p:=p+3) (l:=r) (λj d u=>by
    have:=hr (j+3) d u;rw[show p+(j+3)=p+3+j by omega]at this;exact this) k x Xp
   rw[show p+3+k*3=p+(k+1)*3 by omega]at this;exact this
def FB.set{m:GB}{i:Id}{A B:List Rw}{x y:Rw}(h:FB m i (A++x::B)):FB (m.put i (A.length*3) [.int .i64 y.1,.bool y.2.1,.bool y.2.2]) i (A++y::B):=by
 intro k z u;by_cases s:k=A.length
 ·subst s;rw[Ze (QC _),Zu,Qo,Ql]at u;subst u;refine Rt.2 ⟨?_,?_,?_⟩<;>simp[GB.put]
 ·have c:(A++x::B)[k]?=some z:=by
   rcases Nat.lt_or_gt_of_ne s with h1|h1
   ·grind
   ·grind
  obtain⟨b,a1,t⟩:=Rt.1 (h k z c);have f:∀o,(o=k*3∨o=k*3+1∨o=k*3+2)->(m.put i (A.length*3) [.int .i64 y.1,.bool y.2.1,.bool y.2.2]) i o=m i o:=λo f=>by
   refine aD ?_;simp only[Qg,Qm];omega
  exact Rt.2 ⟨by rw[f _ (.inl rfl)];exact b,by rw[f _ (.inr (.inl rfl))];exact a1,by rw[f _ (.inr (.inr rfl))];exact t⟩
def FB.other{m:GB}{i j:Id}{o:Nat}{ds:List D}{l:List Rw}(h:FB m i l)(c:i≠j):FB (m.put j o ds) i l:=λk x s=>by
 obtain⟨b,a1,t⟩:=Rt.1 (h k x s);exact Rt.2 ⟨by rw[aA c];exact b,by rw[aA c];exact a1,by rw[aA c];exact t⟩
def FB.grow{m:GB}{i f t:Id}{e:Nat}{nl:Bool}{xs:List D}{l:List Rw}(h:FB m i l)(u:i≠f)(y:nl=false->i≠t):FB (GF.app m (Bc e f (.slice nl t xs))) i l:=by
 cases nl with
 |true=>exact h.other u
 |false=>exact(h.other (y rfl)).other u
def LG.row{w e c r o:Nat}{m0 m:GB}{nl:Bool}{t:Id}{ds:List D}(h:LG w m0 e m c nl t)(n:w<=r)(j:nl=false->t≠[r]):LG w m0 e (m.put [r] o ds) c nl t:=by
 obtain⟨u,y,p⟩:=h;refine⟨λq o' v=>?_,?_,p⟩
 ·grind [aA]
 ·grind [aA]
def eT{m:GB}{i:Id}{o:Nat}{a b c:D}(h:Ag m i o 3=some [a,b,c]):m i o=some a∧m i (o+1)=some b∧m i (o+1+1)=some c:=Rt.1 h
def aMU{i:Id}{n:Nat}:D.data (.row i n)=true:=rfl
def aMV{i:Id}{n:Nat}:D.cells (.row i n)=[.row i n]:=rfl
def yI:Kq aEg 279:=by
 have hS:Gz.ok Qe (Aq [(25,Ac I0),(273,Ac Rb),(316,H8 OW),(318,Ac RK),(280,Ac RO),(281,Ac RN),(282,Ac RL)]):=Aa Pw (Aa aJa (Aa aM8 (Aa aSn (Aa aSH (Aa aSG (Aa aSF Ad))))));have o:Aq [(25,Ac I0),(273,Ac Rb),(316,H8 OW),(318,Ac RK),(280,Ac RO),(281,Ac RN),(282,Ac RL)] 25=some (Ac I0):=rfl;have v:Aq [(25,Ac I0),(273,Ac Rb),(316,H8 OW),(318,Ac RK),(280,Ac RO),(281,Ac RN),(282,Ac RL)] 273=some (Ac Rb):=rfl;have ya:Aq [(25,Ac I0),(273,Ac Rb),(316,H8 OW),(318,Ac RK),(280,Ac RO),(281,Ac RN),(282,Ac RL)] 316=some (H8 OW):=rfl;have a:Aq [(25,Ac I0),(273,Ac Rb),(316,H8 OW),(318,Ac RK),(280,Ac RO),(281,Ac RN),(282,Ac RL)] 318=some (Ac RK):=rfl;have sk:∀k,k=280∨k=281∨k=282->∃F,Aq [(25,Ac I0),(273,Ac Rb),(316,H8 OW),(318,Ac RK),(280,Ac RO),(281,Ac RN),(282,Ac RL)] k=some (Ac F)∧∀x:Rw,F [.agg [.int .i64 x.1,.bool x.2.1,.bool x.2.2]]=some (.agg [.int .i64 (chR k x).1,.bool (chR k x).2.1,.bool (chR k x).2.2]):=λk hk=>by
  rcases hk with rfl|rfl|rfl
  ·exact⟨RO,rfl,aHp⟩
  ·exact⟨RN,rfl,aHo⟩
  ·exact⟨RL,rfl,aHn⟩
 generalize Aq [(25,Ac I0),(273,Ac Rb),(316,H8 OW),(318,Ac RK),(280,Ac RO),(281,Ac RN),(282,Ac RL)]=S at hS o v ya a sk;refine aAO hS (Aj func279:Fn Qe 279 72 aKA [.cell (some 4) 6,.t 7,.t 8]) (λ_=>by simp[fK]) (λp hp=>⟨by rfl,?_⟩);obtain⟨s,bn,ns,k⟩:=p;obtain⟨hl,hn,hs,hk⟩:=hp;simp only at hl hn hs hk;obtain⟨F,sF,hF⟩:=sk k hk;have aa:=Gt s 6 false hl;have q:=nW;unfold aKA fK Sh BC;simp only;unfold Tn at aa;cases hb:DL s 6 with
 |true=>
  rw[hb]at aa;simp only[if_true]at aa ⊢;unfold GG at aa ⊢;simp only[↓C2,GA,Gy,simprocAttr,Ab o,aa,Ab v,q];refine AY ?_;simp only[↓C2,GA,Gy,simprocAttr];exact .inr ⟨_,_,rfl,rfl,.inl (.inl rfl),.inl (.inl rfl),.inl (.inl rfl),trivial⟩
 |false=>
  rw[hb]at aa;simp only[if_false,Qs]at aa ⊢;by_cases hz:s.rs=[]
  ·have ua:((s.rs.length:Int)=0)=True:=eq_true (by rw[hz];rfl);simp only[if_pos hz];unfold GG at aa ⊢;simp only[↓C2,GA,Gy,simprocAttr,Ab o,aa,Ab v,q];refine AY ?_;simp only[↓C2,GA,Gy,simprocAttr,AQ,ua];exact .inr ⟨_,_,rfl,rfl,.inl (.inl rfl),.inl (.inl rfl),.inl (.inl rfl),trivial⟩
  ·have qa:0<s.rs.length:=by
    rcases Nat.eq_zero_or_pos s.rs.length with h|h
    ·simp_all
    ·exact h
   have ua:((s.rs.length:Int)=0)=False:=eq_false O;have ba:s.nl=false:=by
    simp_all
   have ha:=λ(m:GB)(fr:Id)=>aM7 (l:=s.rs) (t:=[]) (m:=m) (fr:=fr) hl
   simp only[if_neg hz];unfold GG at aa ⊢;simp only[ba]at aa ⊢;simp only[↓C2,GA,Gy,simprocAttr,Ab o,aa,Ab v,q];refine AY ?_;simp only[↓C2,GA,Gy,simprocAttr,AQ,ua,AE ya,ha];have na:FB (GB.put (λ_ _=>none) [14] 0 (flat (A6 s.rs))) [14] s.rs:=λk x hk=>by
    have:=FB.of (m:=GB.put (λ_ _=>none) [14] 0 (flat (A6 s.rs))) (i:=[14]) (p:=0) (l:=s.rs) (λj d hj=>by
     have ra:=(QQ.1 hj).1;rw[aE ra,hj]) k x hk
    rwa [Qp]at this
   refine BI (n:=s.rs.length) (I:=λj st=>st.s 27= .row [14] s.rs.length∧st.s 28= .int .i64 s.rs.length∧st.s 29= .int .i64 (j:Int)∧st.s 9= .row [14] s.rs.length∧st.s 1= .slice bn [] (AH ns)∧st.s 2= .fn k []∧st.s 3= .ptr [0] 0∧st.s 6= .ptr [1] 0∧∃A B nl t,A.length=j∧A++HY ns k s.rs.length j (s.rs.drop j)=HY ns k s.rs.length 0 s.rs∧B++Ek ns s.rs.length j (s.rs.drop j)=Ek ns s.rs.length 0 s.rs∧st.s 10= .slice nl t (AH B)∧nl=decide (B=[])∧FB st.m [14] (A++s.rs.drop j)∧15<=st.c∧(nl=false->t≠[14])∧LG 14 _ 3 st.m st.c nl t) (λj hj ih st g hI=>?_) (λst g hI=>?_) 0 (Qu _) _ _ ⟨rfl,rfl,rfl,rfl,rfl,rfl,rfl,rfl,[],[],true,[],rfl,rfl,rfl,rfl,rfl,?_,Xb,U,LG.start Xb⟩
   rotate_left 2
   ·intro k x hk;obtain⟨a0,a1,a2⟩:=Rt.1 (na k x hk);have ab:k*3+2<(flat (A6 s.rs)).length:=by
     grind [flat,A6,aD]
    refine Rt.2 ⟨?_,?_,?_⟩
    ·rw[←a0];simp[GB.put]
    ·rw[←a1];simp[GB.put]
    ·rw[←a2];simp[GB.put]
   ·obtain⟨ma,ia,ea⟩:=st;obtain⟨ja,f,u,h9,h1,h2,h3,h6,A,B,nl,t,w,hA,hB,la,pa,hR,hc,ht,hG⟩:=hI;simp only at ja f u h9 h1 h2 h3 h6 la hR hc hG;refine Af Uw.eq_1 ?_;have da:((j:Int)<s.rs.length):=by omega
    have oa:=nJ (j:=j);have ka:((j:Int)<((s.rs.length:Nat):Int)):=O
    have hw:=wJ (j:=j) O;have ta:IntKind.i64.wrap ((s.rs.length:Int)-1)=(s.rs.length:Int)-1:=GZ O O;have hd:s.rs.drop j=s.rs[j]::s.rs.drop (j+1):=QK hj;rw[hd]at hA hB hR;generalize s.rs[j]=x at hA hB hR;have ca:Ag ia [14] (j*3) 3=some [.int .i64 x.1,.bool x.2.1,.bool x.2.2]:=hR j x (by rw[Ze O,w,Zu];rfl);have b:=aG4 (nl:=bn) (l:=ns) x.1 hs;have xa:(AH B).length<=100000:=by
     have h1:=congrArg ZI hB;have h2:∀(l:List Rw)(j:Nat),(Ek ns s.rs.length j l).length<=l.length:=λl=>by
      induction l with
      |nil=>intro j;simp[Ek]
      |cons y r ih=>intro j;unfold Ek;split<;>have:=ih (j+1)<;>simp only[Qg]<;>omega
     have h3:=h2 s.rs 0;rw[Qq]at h1;rw[G7];omega
    have bb:B.length<=100000:=by rw[←G7];exact xa
    have sa:nl=true->AH B=[]:=by rw[pa];intro h;rw[of_decide_eq_true h];rfl
    have e1:HY ns k s.rs.length j (x::s.rs.drop (j+1))=(if IZ ns s.rs.length j x=true then chR k x else x)::HY ns k s.rs.length (j+1) (s.rs.drop (j+1)):=rfl;have e2:Ek ns s.rs.length j (x::s.rs.drop (j+1))=if IZ ns s.rs.length j x=true then x.1::Ek ns s.rs.length (j+1) (s.rs.drop (j+1))else Ek ns s.rs.length (j+1) (s.rs.drop (j+1)):=rfl
    have ga:AH (B++[x.1])=AH B++[.int .i64 x.1]:=by simp[AH]
    have za:=hF x;subst w;generalize z:aGh ns x.1=cb at b;have h0:((ns.length:Int)=0)=(ns.isEmpty=true):=by cases ns<;>simp<;>omega
    have wa:(14=ea+1+3)=False:=eq_false O;have fa:(ea=10)=False:=eq_false O;have va:((A.length:Int)=(s.rs.length:Int)-1)=(A.length+1=s.rs.length):=propext O;cases cb with
    |true=>
     cases hxd:x.2.2 with
     |true=>
      rw[hxd]at ca;obtain⟨a0,a1,a2⟩:=eT ca;have hh:IZ ns s.rs.length A.length x=false:=by simp[IZ,z,hxd]
      rw[hh,if_neg QL]at e1 e2;simp only[↓C2,GA,Gy,simprocAttr,ja,f,u,h1,da,oa,Qh,a0,a1,a2,Ab a,b,hw];refine ih _ _ ⟨ja,f,rfl,h9,h1,h2,h3,h6,A++[x],B,nl,t,U,XB,X0,la,pa,?_,Xb,ht,X6⟩;rw[QI];exact(hR.other Xf).other Xf
     |false=>
      rw[hxd]at ca;obtain⟨a0,a1,a2⟩:=eT ca;rw[hxd]at za;have hh:IZ ns s.rs.length A.length x=true:=by simp[IZ,z,hxd]
      rw[if_pos hh]at e1 e2;simp only[↓C2,GA,Gy,simprocAttr,ja,f,u,h9,h1,h2,la,da,oa,Qh,a0,a1,a2,wa,fa,Ab a,b,G7,Ab sF,za];refine As.intro ⟨O,rfl,YL⟩ ?_;rw[B0 sa,←ga];simp only[↓C2,GD,simprocAttr,u,hw];refine ih _ _ ⟨ja,f,rfl,h9,h1,h2,h3,h6,A++[chR k x],B++[x.1],false,_,U,XB,by rw[←hB,e2];simp,rfl,U,?_,Xb,Xf,YM⟩;rw[QI]
      first|exact(FB.set ((hR.other Xf).other Xf)).grow Xf (λh e=>ht h e.symm)|exact((FB.set ((hR.other Xf).other Xf)).other Xf).grow Xf (λh e=>ht h e.symm)
    |false=>
     cases hle:ns.isEmpty with
     |false=>
      rw[hle]at h0;obtain⟨a0,a1,a2⟩:=eT ca;have hh:IZ ns s.rs.length A.length x=false:=by simp[IZ,z,hle]
      rw[hh,if_neg QL]at e1 e2;simp only[↓C2,GA,Gy,simprocAttr,ja,f,u,h1,da,oa,Qh,a0,a1,a2,Ab a,b,G7,h0,hw];refine ih _ _ ⟨ja,f,rfl,h9,h1,h2,h3,h6,A++[x],B,nl,t,U,XB,X0,la,pa,?_,Xb,ht,X6⟩;rw[QI];exact(hR.other Xf).other Xf
     |true=>
      rw[hle]at h0;by_cases ra:A.length+1=s.rs.length
      ·rw[eq_true ra]at va;cases hxd:x.2.2 with
       |true=>
        rw[hxd]at ca;obtain⟨a0,a1,a2⟩:=eT ca;have hh:IZ ns s.rs.length A.length x=false:=by simp[IZ,z,hle,ra,hxd]
        rw[hh,if_neg QL]at e1 e2;simp only[↓C2,GA,Gy,simprocAttr,ja,f,u,h9,h1,da,oa,Qh,a0,a1,a2,Ab a,b,G7,h0,ta,va,hw];refine ih _ _ ⟨ja,f,rfl,h9,h1,h2,h3,h6,A++[x],B,nl,t,U,XB,X0,la,pa,?_,Xb,ht,X6⟩;rw[QI];exact(hR.other Xf).other Xf
       |false=>
        rw[hxd]at ca;obtain⟨a0,a1,a2⟩:=eT ca;rw[hxd]at za;have hh:IZ ns s.rs.length A.length x=true:=by simp[IZ,z,hle,ra,hxd]
        rw[if_pos hh]at e1 e2;simp only[↓C2,GA,Gy,simprocAttr,ja,f,u,h9,h1,h2,la,da,oa,Qh,a0,a1,a2,wa,fa,Ab a,b,G7,Ab sF,za,h0,ta,va];refine As.intro ⟨O,rfl,YL⟩ ?_;rw[B0 sa,←ga];simp only[↓C2,GD,simprocAttr,u,hw];refine ih _ _ ⟨ja,f,rfl,h9,h1,h2,h3,h6,A++[chR k x],B++[x.1],false,_,U,XB,by rw[←hB,e2];simp,rfl,U,?_,Xb,Xf,YM⟩;rw[QI]
        first|exact(FB.set ((hR.other Xf).other Xf)).grow Xf (λh e=>ht h e.symm)|exact((FB.set ((hR.other Xf).other Xf)).other Xf).grow Xf (λh e=>ht h e.symm)
      ·rw[eq_false ra]at va;obtain⟨a0,a1,a2⟩:=eT ca;have hh:IZ ns s.rs.length A.length x=false:=by simp[IZ,z,hle,ra]
       rw[hh,if_neg QL]at e1 e2;simp only[↓C2,GA,Gy,simprocAttr,ja,f,u,h9,h1,da,oa,Qh,a0,a1,a2,Ab a,b,G7,h0,ta,va,hw];refine ih _ _ ⟨ja,f,rfl,h9,h1,h2,h3,h6,A++[x],B,nl,t,U,XB,X0,la,pa,?_,Xb,ht,X6⟩;rw[QI];exact(hR.other Xf).other Xf
   ·obtain⟨ma,ia,ea⟩:=st;obtain⟨ja,f,u,h9,h1,h2,h3,h6,A,B,nl,t,w,hA,hB,la,pa,hR,hc,ht,hG⟩:=hI;simp only at ja f u h9 h1 h2 h3 h6 la hR hc hG;refine Af Uw.eq_1 ?_;have m0:∀k,ia [0] k=_:=λk=>hG.low 0 k O
    have m1:∀k,ia [1] k=_:=λk=>hG.low 1 k O
    rw[Q1,HY,QJ]at hA;rw[Q1,Ek,QJ]at hB;rw[Q1,QJ,hA]at hR;subst pa hB;simp only[↓C2,GA,Gy,simprocAttr,f,u,h9,la,h3,h6,Qz,m0,m1,aMU,aMV];refine .inr ⟨_,_,rfl,rfl,.inr ⟨_,_,rfl,rfl,.inl rfl,.inl rfl,.inl rfl,.inr (.inl ⟨[14],A6 (HY ns k s.rs.length 0 s.rs),3,?_,rfl,?_,?_⟩),trivial⟩,.inl (.inl rfl),.inl (.inl rfl),trivial⟩
    ·rw[AQ,MM]
    ·intro x hx;obtain⟨y,_,rfl⟩:=QB.1 hx;exact⟨rfl,rfl⟩
    ·intro j x hx;have:=bI (m:=ia) (i:=[14]) (p:=0) (l:=HY ns k s.rs.length 0 s.rs) (λk x hk=>by rw[Qp];exact hR k x hk) j x hx;rw[Qp]at this;rw[←this];simp[GB.put]
def U3(s:Sc)(j:Bool)(ns:List Int)(k:Nat)(h:aTX (s,j,ns,k)):aEg [.agg (GG s),.slice j [] (AH ns),.fn k []]=some (Sh (s,j,ns,k)):=BV (mk:=fK) (a:=(s,j,ns,k)) yX h
def aUd:=Aq [(279,Ac aEg)]
def aHI:=RF aUd aLo [.cell (some 4) 4,.t 5] 18
def aSV:Kq aHI 226:=An (Aj func226) (Aa yI Ad)
def aHH(s:Sc)(j:Bool)(ns:List Int)(hl:s.rs.length<=1000)(g:s.nl=true->s.rs=[])(i:ns.length<=1000):aHI [.agg (GG s),.slice j [] (AH ns)]=some (.tup [.agg (GG (BC s ns 280).1),.int .i64 (BC s ns 280).2.2]):=by
 refine Al (Qa rfl) ?_;unfold aLo;have a:=U3 s j ns 280 ⟨hl,g,i,U⟩;unfold Sh at a;simp only at a;generalize BC s ns 280=r at *;unfold GG at *;simp only[↓C2,GA,Gy,simprocAttr,Ae aUd 279,a]
 all_goals exact YR
def aUc:=Aq [(279,Ac aEg)]
def aHG:=RF aUc aLn [.cell (some 4) 4,.t 5] 18
def aSU:Kq aHG 227:=An (Aj func227) (Aa yI Ad)
def aHF(s:Sc)(j:Bool)(ns:List Int)(hl:s.rs.length<=1000)(g:s.nl=true->s.rs=[])(i:ns.length<=1000):aHG [.agg (GG s),.slice j [] (AH ns)]=some (.tup [.agg (GG (BC s ns 281).1),.int .i64 (BC s ns 281).2.2]):=by
 refine Al (Qa rfl) ?_;unfold aLn;have a:=U3 s j ns 281 ⟨hl,g,i,U⟩;unfold Sh at a;simp only at a;generalize BC s ns 281=r at *;unfold GG at *;simp only[↓C2,GA,Gy,simprocAttr,Ae aUc 279,a]
 all_goals exact YR
def aUb:=Aq [(279,Ac aEg)]
def aHE:=RF aUb aLm [.cell (some 4) 4,.t 5,.t 6] 13
def aST:Kq aHE 228:=An (Aj func228) (Aa yI Ad)
def aHD(s:Sc)(j:Bool)(ns:List Int)(hl:s.rs.length<=1000)(g:s.nl=true->s.rs=[])(i:ns.length<=1000):aHE [.agg (GG s),.slice j [] (AH ns)]=some (.tup [.agg (GG (BC s ns 282).1),.slice (decide ((BC s ns 282).2.1=[])) [] (AH (BC s ns 282).2.1),.int .i64 (BC s ns 282).2.2]):=by
 refine Al (Qa rfl) ?_;unfold aLm;have a:=U3 s j ns 282 ⟨hl,g,i,U⟩;unfold Sh at a;simp only at a;generalize BC s ns 282=r at *;unfold GG at *;simp only[↓C2,GA,Gy,simprocAttr,Ae aUb 279,a]
 all_goals exact YR
def iY(b:Bool):Int:=if b=true then 1 else 0
def bY(l:List Int):List D:=l.map (.int .u8)
def aOG(l:List Int):Bs:=l.map λn=>UInt8.ofNat n.toNat
def aCn(l:List Int):(bY l).length=l.length:=Qy ..
def nH:∀l:List Int,BB (bY l)=some (aOG l)
 |[]=>rfl
 |n::r=>by
  show(BB (bY r)).map _=_;rw[nH r];rfl
def xD(x:Rw):List Int:=[IntKind.u8.wrap x.1,bits .or .u8 (iY x.2.1) (IntKind.u8.wrap (iY x.2.2*2))]
def NF:List Rw->List Int
 |[]=>[]
 |x::r=>xD x++NF r
theorem rowsI_len:∀l:List Rw,(NF l).length=2*l.length
 |[]=>rfl
 |x::r=>by simp[NF,xD,rowsI_len r];omega
def FO(s:Sc):Bs:=if DL s 6=true then []else aOG ([IntKind.u8.wrap s.mx,iY s.cas,IntKind.u8.wrap s.la,IntKind.u8.wrap s.rs.length]++NF s.rs)
def aIK(s:Sc):Int:=if DL s 6=true then 2 else 0
def aVM:=Aq []
def aPd:=RF aVM aJN [.t 2] 4
def aSg:Kq aPd 342:=An (Aj func342) Ad
def aGX(b:Bool):aPd [.bool b]=some (.int .u8 (iY b)):=by
 refine Al (Qa rfl) ?_;unfold aJN;cases b with
 |true=>
  simp only[↓C2,GD,Hp,Gy,simprocAttr]
  all_goals exact YR
 |false=>
  simp only[↓C2,GD,Hp,Gy,simprocAttr]
  all_goals exact YR
def jK:=Aq [(25,Ac I0),(57,Ac aG8),(342,Ac aPd)]
def aPj:=RF jK aJ1 [.t 2,.t 3] 49
def aSo:Kq aPj 317:=An (Aj func317) (Aa Pw (Aa aI4 (Aa aSg Ad)))
def aG5(s:Sc)(hl:s.rs.length<=1000):aPj [.agg (GG s)]=some (.tup [.str (FO s),.int .i64 (aIK s)]):=by
 refine Al (Qa rfl) ?_;unfold aJ1;have y:=Gt s 6 false hl;have i:=nQ;have d:=aGX;unfold FO aIK;unfold Tn at y;unfold GG at *;cases hb:DL s 6 with
 |true=>
  rw[hb]at y;simp only[if_true]at y;simp only[↓C2,GA,Gy,simprocAttr,Ae jK 25,y,Ae jK 57,i];refine AY ?_;simp only[↓C2,GA,Gy,simprocAttr]
  all_goals exact YR
 |false=>
  rw[hb]at y;simp only[if_false,Qs]at y;simp only[↓C2,GA,Gy,simprocAttr,Ae jK 25,y,Ae jK 57,i];refine AY ?_;simp only[↓C2,GA,Gy,simprocAttr,Ae jK 342,d,AQ];refine AY ?_;simp only[↓C2,GA,Gy,simprocAttr,AQ];refine BI (n:=s.rs.length) (I:=λj v=>v.s 26= .slice s.nl [] (A6 s.rs)∧v.s 27= .int .i64 s.rs.length∧v.s 28= .int .i64 (j:Int)∧∃B t,B.length=4+2*j∧B++NF (s.rs.drop j)=[IntKind.u8.wrap s.mx,iY s.cas,IntKind.u8.wrap s.la,IntKind.u8.wrap s.rs.length]++NF s.rs∧v.s 4= .slice false t (bY B)∧LG 1 _ 5 v.m v.c false t) (λj u ih v g hI=>?_) (λv g hI=>?_) 0 (Qu _) _ _ ⟨rfl,rfl,rfl,_,_,rfl,rfl,rfl,⟨λ_ _ _=>rfl,.inr ⟨_,rfl,O,Xb,by simp[GB.put,GF.app]⟩,Xb⟩⟩
  ·obtain⟨ma,ia,ea⟩:=v;obtain⟨b,e,f,B,t,xa,hB,r,hG⟩:=hI;simp only at b e f r hG;refine Af Us.eq_1 ?_;have w:((j:Int)<s.rs.length):=by omega
   have oa:=nJ (j:=j);have k:=wJ (j:=j) O;have o:=E9 u;have p:s.rs.drop j=s.rs[j]::s.rs.drop (j+1):=QK u;rw[p]at hB;generalize s.rs[j]=x at o hB;have q:bY B++[.int .u8 (IntKind.u8.wrap x.1),.int .u8 (bits .or .u8 (iY x.2.1) (IntKind.u8.wrap (iY x.2.2*2)))]=bY (B++xD x):=by simp[bY,xD]
   have fa:∀a:Int,AO .shl (.int .u8 a) (.int .u64 1)=some (.int .u8 (IntKind.u8.wrap (a*2))):=λa=>rfl
   have z:(bY B).length=4+2*j:=by rw[aCn];exact xa
   simp only[↓C2,GA,Gy,simprocAttr,b,e,f,r,w,oa,Qh,o,Ae jK 342,d,fa];refine As.intro ⟨by simp only[z];omega,rfl,Yr⟩ ?_;rw[q];simp only[↓C2,GA,Gy,simprocAttr];refine AY ?_;simp only[↓C2,GD,simprocAttr,f,k];exact ih _ _ ⟨b,e,rfl,_,_,by rw[Qq,xa];simp[xD];omega,by rw[←hB,NF,QI],rfl,(by first|exact LG.nil (hG.appf O Xb)|exact LG.nil (hG.put.appf O Xb)|exact LG.nil (hG.put.put.appf O Xb)|exact LG.nil (hG.put.put.put.appf O Xb)|exact LG.nil (hG.put.put.put.put.appf O Xb)|exact LG.nil (hG.put.put.put.put.put.appf O Xb))⟩
  ·obtain⟨b,e,f,B,t,xa,hB,r,hG⟩:=hI;refine Af Us.eq_1 ?_;rw[Q1,NF,QJ]at hB;subst hB;simp only[↓C2,GA,Gy,simprocAttr,e,f,r,Qz,nH]
   all_goals exact YR
def aJP:=y0 f111 [] []
def aJO:=y0 f112 [] []
def aJK:=y0 f175 [] []
def aJJ:=y0 f176 [] []
def Uq:=y1 f110 9 [] []
def aJQ:=y0 f110 [] [(9,Uq)]
def aBh:=y0 f55 [] []
def aJ5:=y0 f56 [] []
def Uz:=y1 f24 7 [] []
def aKJ:=y0 f24 [(15,[(7,6)])] [(7,Uz)]
def Uu:=y1 f179 4 [] []
def aKp:=y0 f179 [] [(4,Uu)]
def Ur:=y1 f244 4 [] []
def aJU:=y0 f244 [] [(4,Ur)]
def aKo:=y0 f180 [] []
def aLd:=y0 f116 [] []
def aLc:=y0 f117 [] []
def Oi(s:Bs)(p:Nat)(e:Int):List D:=[.str s,.int .i64 (p:Int),.int .i64 e]
def or0:∀n:Fin 256,bits .or .u64 0 ((n.val:Nat):Int)=n.val:=V
def aUY(x:UInt8):bits .or .u64 0 (x.toNat:Int)=x.toNat:=or0 ⟨x.toNat,x.toNat_lt⟩
def Bx(s:Bs)(p:Nat)(e:Int):Int×Nat×Int:=if e≠0 then(0,p,e)else if h:p<s.length then(s[p].toNat,p+1,0)else(0,p,3)
def aVO:=Aq []
def aGZ:=RF aVO aJP [.t 2] 14
def aI3:Kq aGZ 111:=An (Aj func111) Ad
def nP(s:Bs)(p:Nat)(e:Int)(g:p<=s.length):aGZ [.agg (Oi s p e)]=some (.bool true):=by
 refine Al (Qa rfl) ?_;unfold aJP;have u:(0:Int)<=(p:Int):=O
 have y:(p:Int)<=(s.length:Int):=O
 unfold Oi;simp only[↓C2,GA,Gy,reduceIte,Qb,Qd,Qr,u,y]
 all_goals exact YR
def aVN:=Aq []
def aGY:=RF aVN aJO [.t 2] 9
def aI2:Kq aGY 112:=An (Aj func112) Ad
def nO(s:Bs)(p:Nat)(e:Int)(hl:s.length<=1000000)(g:p<=s.length):aGY [.agg (Oi s p e)]=some (.int .i64 ((s.length-p:Nat):Int)):=by
 refine Al (Qa rfl) ?_;unfold aJO;have k:IntKind.i64.wrap ((s.length:Int)-(p:Int))=((s.length-p:Nat):Int):=Xi
 unfold Oi;simp only[↓C2,GA,Gy,reduceIte,Qb,Qd,Qr,k]
 all_goals exact YR
def aVK:=Aq []
def aPa:=RF aVK aJK [.t 2] 9
def aSd:Kq aPa 175:=An (Aj func175) Ad
def aGV:aPa [.int .i64 1]=some (.bool true):=by
 refine Al (Qa rfl) ?_;unfold aJK;simp only[↓C2,GA,Gy,reduceIte,Qb,Qd,reduceCtorEq,Int.reduceLE]
 all_goals exact YR
def aVJ:=Aq []
def aO9:=RF aVJ aJJ [.cell (some 3) 4] 8
def aSc:Kq aO9 176:=An (Aj func176) Ad
def aGU(s:Bs)(p:Nat)(e x:Int):aO9 [.agg (Oi s p e),.int .i64 x]=some (.agg (Oi s p x)):=by
 refine Al (Qa rfl) ?_;unfold aJJ;unfold Oi;simp only[↓C2,GA,Gy,reduceIte,Qb,Qd,Qr,Qt,QF]
 all_goals exact YR
def cR:=Aq [(111,Ac aGZ),(175,Ac aPa),(176,Ac aO9),(112,Ac aGY)]
def aPe:=RF cR aJQ [.t 4,.cell (some 3) 5] 60
def aSh:Kq aPe 110:=An (Aj func110) (Aa aI3 (Aa aSd (Aa aSc (Aa aI2 Ad))))
def aG0(s:Bs)(p:Nat)(e:Int)(hl:s.length<=1000000)(g:p<=s.length):aPe [.agg (Oi s p e),.int .i64 1]=some (.tup [.int .u64 (Bx s p e).1,.agg (Oi s (Bx s p e).2.1 (Bx s p e).2.2)]):=by
 refine Al (Qa rfl) ?_;unfold aJQ;have b:=nP s p e g;have a:=nO s p e hl g;have d:=aGV;have f:=λx=>aGU s p e x
 unfold Bx Oi at *;by_cases c1:e=0
 ·subst c1;by_cases n:p<s.length
  ·have o:(((s.length-p:Nat):Int)<1)=False:=eq_false O;have k:IntKind.i64.wrap ((p:Int)+1)=((p+1:Nat):Int):=GZ O O;have v:((0:Int)<=((p+1:Nat):Int)∧((p+1:Nat):Int)<=((s.length:Nat):Int))=True:=eq_true O;have q:((0:Int)<=(p:Int)∧(p:Int)<=((p+1:Nat):Int))=True:=eq_true O;have c:(s.drop p).take (p+1-p)=[s[p]]:=by rw[QK n,show p+1-p=1 by omega];rfl
   have m:AF [s[p]]=[.int .u8 (s[p].toNat:Int)]:=rfl;have i:AO .shl (.int .u64 0) (.int .u64 8)=some (.int .u64 0):=rfl;have u:=aUY s[p];have z:IntKind.u64.wrap (s[p].toNat:Int)=(s[p].toNat:Int):=RZ O (by have:=s[p].toNat_lt;omega);have y:IntKind.i64.wrap ((0:Int)+1)=1:=rfl;simp only[ne_eq,not_true_eq_false,if_false,dif_pos n];generalize s[p]=x at *;simp only[↓C2,GA,Gy,reduceIte,Qb,Qd,Qr,reduceCtorEq,Ae cR 111,b,Ae cR 112,a,Ae cR 175,d,o,k,v,q,Qh,c,m];refine Af Uq.eq_1 ?_;simp only[↓C2,GA,Gy,reduceIte,Qb,Qd,i,u,z,y,Int.toNat_zero,c,Int.zero_lt_one,Zr,ZA];refine Af Uq.eq_1 ?_;simp only[↓C2,GA,Gy,simprocAttr,Qz,k]
   repeat refine AY ?_
   simp only[↓C2,GA,Gy,reduceIte,Qb,Qd,Qr,Qt,QF]
   all_goals exact YR
  ·have o:(((s.length-p:Nat):Int)<1)=True:=eq_true O;simp only[ne_eq,not_true_eq_false,if_false,dif_neg n];simp only[↓C2,GA,Gy,reduceIte,Qb,Qd,Qr,reduceCtorEq,Ae cR 111,b,Ae cR 112,a,Ae cR 175,d,Ae cR 176,f,o]
   all_goals exact YR
 ·have r:(e=0)=False:=eq_false c1;simp only[ne_eq,r,not_false_eq_true,if_true];simp only[↓C2,GA,Gy,reduceIte,Qb,Qd,Qr,reduceCtorEq,r]
  repeat refine AY ?_
  simp only[↓C2,GA,Gy,reduceIte,Qb,Qd,Qr]
  all_goals exact YR
def aCV:=Aq [(111,Ac aGZ),(112,Ac aGY)]
def aHa:=RF aCV aJ5 [.t 2] 17
def aSr:Kq aHa 56:=An (Aj func56) (Aa aI3 (Aa aI2 Ad))
def aG9(s:Bs)(p:Nat)(e:Int)(hl:s.length<=1000000)(g:p<=s.length):aHa [.agg (Oi s p e)]=some (.int .i64 (if e≠0 then e else if p<s.length then 4 else 0)):=by
 refine Al (Qa rfl) ?_;unfold aJ5;have b:=nP s p e g;have a:=nO s p e hl g;unfold Oi at *;by_cases c1:e=0
 ·subst c1;have o:((0:Int)<((s.length-p:Nat):Int))=(p<s.length):=propext O;by_cases n:p<s.length
  ·simp only[↓C2,GA,Gy,reduceIte,Qb,Qd,Qr,ZG,Ae aCV 111,b,Ae aCV 112,a,o,n]
   all_goals exact YR
  ·simp only[↓C2,GA,Gy,reduceIte,Qb,Qd,Qr,ZG,Ae aCV 111,b,Ae aCV 112,a,o,n]
   all_goals exact YR
 ·have r:(e=0)=False:=eq_false c1;simp only[↓C2,GA,Gy,reduceIte,Qb,Qd,Qr,r];simp[c1]
def Er{s:Bs}{p:Nat}{e:Int}(g:p<=s.length):(Bx s p e).2.1<=s.length∧0<=(Bx s p e).1∧(Bx s p e).1<256:=by
 unfold Bx;split
 ·exact⟨g,U,U⟩
 ·split
  ·rename_i h;have:=s[p].toNat_lt;exact⟨h,Xf,Xf⟩
  ·exact⟨g,U,U⟩
def aT0:=Aq [(110,Ac aPe)]
def jR:List D->List D->Option (D×List D):=RM aT0 aBh [.t 2] 17 3
def aSs:(mQ 3 jR).ok Qe 55:=aQA (Aj func55:Fn Qe 55 17 aBh [.t 2]) V (Aa aSh Ad)
theorem Ok{m:GB}{i j:Id}{o:Nat}{ds:List D}(h:j≠i):∀{n p:Nat},Ag (m.put i o ds) j p n=Ag m j p n
 |0,p=>rfl
 |n+1,p=>by simp only[Ag,aA h,Ok h]
def aQG{i fr:Id}(h:∀k,(i=k::fr)=False)(m:GB)(k o:Nat)(ys:List D)(p n:Nat):Ag (m.put (k::fr) o ys) i p n=Ag m i p n:=Ok (λe=>(h k).mp e)
def IV(s:Bs)(p:Nat)(e:Int)(hl:s.length<=1000000)(g:p<=s.length):jR (Oi s p e) []=some (.int .i64 (Bx s p e).1,Oi s (Bx s p e).2.1 (Bx s p e).2.2):=by
 refine aQB V rfl (Qa rfl) (λi m fr q x u n0=>?_);have a:=aG0 s p e hl g;obtain⟨_,o,f⟩:=Er (e:=e) g;have k:IntKind.i64.wrap (Bx s p e).1=(Bx s p e).1:=GZ O O;generalize Bx s p e=r at *;unfold Oi at *;obtain⟨b,a1,t⟩:=eT q;unfold aBh;simp only[↓C2,GA,Gy,reduceIte,Qb,Qd,Qr,reduceCtorEq,b,a1,t,aQG n0,n0,Ae aT0 110,a,k]
 first|exact E_.own (bJ x (bJ x E_.refl)) U|exact E_.own (bJ x E_.refl) U
structure LX (ex:List Nat) (c0:Nat) (m0:GB) (e:Nat) (m:GB) (c:Nat) (nl:Bool) (t:Id):Prop where
 low:∀q o,q<c0->q∉ex->m [q] o=m0 [q] o
 tok:nl=true∨∃j,t=[j]∧c0<=j∧j<c∧m t 0=some (.tok (e+1))
 le:c0<=c
section
variable{ex:List Nat}{c0 e c c' c2 o q:Nat}{m0 m:GB}{nl:Bool}{t:Id}{ds xs:List D}
def LX.start(h:c0<=c):LX ex c0 m0 e m0 c true t:=⟨λ_ _ _ _=>rfl,.inl rfl,h⟩
def LX.put(h:LX ex c0 m0 e m c nl t)(v:c<=c':=by omega):LX ex c0 m0 e (m.put [c'] o ds) c nl t:=by
 obtain⟨u,y,x⟩:=h;refine⟨λq o' z p=>?_,?_,x⟩
 ·grind [aA]
 ·grind [aA]
def LX.putx(h:LX ex c0 m0 e m c nl t)(v:q∈ex)(hl:q<c0):LX ex c0 m0 e (m.put [q] o ds) c nl t:=by
 obtain⟨u,y,x⟩:=h;refine⟨λj o' b p=>?_,?_,x⟩
 ·grind [aA]
 ·grind [aA]
def LX.more(h:LX ex c0 m0 e m c nl t)(o:c<=c'):LX ex c0 m0 e m c' nl t:=by
 obtain⟨u,h2,p⟩:=h;refine⟨u,?_,O⟩;rcases h2 with h2|⟨j,a,b,v,d⟩
 ·exact .inl h2
 ·grind
def LX.grow(h:LX ex c0 m0 e m c nl t):I1 m e (.slice nl t xs):=by
 rcases h.tok with h|⟨j,rfl,_,_,d⟩
 ·exact .inl h
 ·exact .inr ⟨d,U⟩
def LX.app(h:LX ex c0 m0 e m c nl t)(v:c<=c')(y:c'<c2):LX ex c0 m0 e (GF.app m (Bc e [c'] (.slice nl t xs))) c2 false [c']:=by
 obtain⟨u,j,x⟩:=h;refine⟨λq o z p=>?_,.inr ⟨c',rfl,O,y,?_⟩,O⟩
 ·grind [C7]
 ·rw[C7,if_pos ⟨rfl,rfl⟩]
def aZ(h:LX ex c0 m0 e m c nl t)(v:c<=c')(z:q<c0):GF.app m (Bc e [c'] (.slice nl t xs)) [q] o=m [q] o:=by
 obtain⟨u,k,p⟩:=h;rw[C7,if_neg Xc];rcases k with rfl|⟨j,rfl,a,b,d⟩
 ·rw[if_neg U]
 ·rw[if_neg Xc]
end
def LW{m:GB}{i:Id}{o:Nat}{d:D}:m.put i o [d] i o=some d:=XT
def LJ(s:Bs):Nat->Nat->Int->List Rw×Bool×Nat×Int
 |0,p,e=>([],false,p,e)
 |k+1,p,e=>(((Bx s p e).1,decide (bits .and .i64 (Bx s (Bx s p e).2.1 (Bx s p e).2.2).1 1≠0),decide (bits .and .i64 (Bx s (Bx s p e).2.1 (Bx s p e).2.2).1 2≠0))::(LJ s k (Bx s (Bx s p e).2.1 (Bx s p e).2.2).2.1 (Bx s (Bx s p e).2.1 (Bx s p e).2.2).2.2).1,
   decide (3<(Bx s (Bx s p e).2.1 (Bx s p e).2.2).1)||(LJ s k (Bx s (Bx s p e).2.1 (Bx s p e).2.2).2.1 (Bx s (Bx s p e).2.1 (Bx s p e).2.2).2.2).2.1,(LJ s k (Bx s (Bx s p e).2.1 (Bx s p e).2.2).2.1 (Bx s (Bx s p e).2.1 (Bx s p e).2.2).2.2).2.2)
def sc0:Sc:=⟨0,false,0,true,[]⟩
def M0(s:Bs):=Bx s 0 0
def L0(s:Bs):=Bx s (M0 s).2.1 (M0 s).2.2
def M_(s:Bs):=Bx s (L0 s).2.1 (L0 s).2.2
def HN(s:Bs):=Bx s (M_ s).2.1 (M_ s).2.2
def FE(s:Bs):=LJ s (HN s).1.toNat (HN s).2.1 (HN s).2.2
def eC(s:Bs):Sc:=⟨(M0 s).1,decide ((L0 s).1=1),(M_ s).1,decide ((HN s).1.toNat=0),(FE s).1⟩
def aGk(n p:Nat)(e:Int):Int:=if e≠0 then e else if p<n then 4 else 0
def Cg(s:Bs):Sc×Int:=if aGk s.length (FE s).2.2.1 (FE s).2.2.2=3 then(sc0,3)else if aGk s.length (FE s).2.2.1 (FE s).2.2.2≠0∨(decide (1<(L0 s).1)||(FE s).2.1)=true∨DL (eC s) 6=true then(sc0,4)else(eC s,0)
def kC{s:Bs}:∀{k p:Nat} {e:Int},p<=s.length->(LJ s k p e).2.2.1<=s.length
 |0,p,e,h=>h
 |k+1,p,e,h=>by
  show(LJ s k (Bx s (Bx s p e).2.1 (Bx s p e).2.2).2.1 (Bx s (Bx s p e).2.1 (Bx s p e).2.2).2.2).2.2.1<=_;exact kC (Er (Er h).1).1
def Vm{s:Bs}:∀{k p:Nat} {e:Int},(LJ s k p e).1.length=k
 |0,p,e=>rfl
 |k+1,p,e=>by simp[LJ,Vm]
def MB:=Aq [(55,mQ 3 jR),(56,Ac aHa),(57,Ac aG8),(25,Ac I0)]
def aPz:=RF MB aKJ [.cell (some 4) 2,.t 3] 77
def aSK:Kq aPz 24:=An (Aj func24) (Aa aSs (Aa aSr (Aa aI4 (Aa Pw Ad))))
def nX(s:Bs)(hl:s.length<=1000000):aPz [.str s]=some (.tup [.agg (GG (Cg s).1),.int .i64 (Cg s).2]):=by
 refine Al (Qa rfl) ?_;unfold aKJ;have b1:(M0 s).2.1<=s.length∧0<=(M0 s).1∧(M0 s).1<256:=Er (Qu _);have b2:(L0 s).2.1<=s.length∧0<=(L0 s).1∧(L0 s).1<256:=Er b1.1;have b3:(M_ s).2.1<=s.length∧0<=(M_ s).1∧(M_ s).1<256:=Er b2.1;have b4:(HN s).2.1<=s.length∧0<=(HN s).1∧(HN s).1<256:=Er b3.1;have g1:jR [.str s,.int .i64 0,.int .i64 0] []=some (.int .i64 (M0 s).1,Oi s (M0 s).2.1 (M0 s).2.2):=IV s 0 0 hl (Qu _);have g2:jR (Oi s (M0 s).2.1 (M0 s).2.2) []=some (.int .i64 (L0 s).1,Oi s (L0 s).2.1 (L0 s).2.2):=IV s _ _ hl b1.1;have g3:jR (Oi s (L0 s).2.1 (L0 s).2.2) []=some (.int .i64 (M_ s).1,Oi s (M_ s).2.1 (M_ s).2.2):=IV s _ _ hl b2.1;have g4:jR (Oi s (M_ s).2.1 (M_ s).2.2) []=some (.int .i64 (HN s).1,Oi s (HN s).2.1 (HN s).2.2):=IV s _ _ hl b3.1;have hn:((HN s).1.toNat:Int)=(HN s).1:=Qx b4.2.1;have ha:(FE s).2.2.1<=s.length:=kC b4.1;have na:(FE s).1.length=(HN s).1.toNat:=Vm;have d:aHa [.agg [.str s,.int .i64 ((FE s).2.2.1:Int),.int .i64 (FE s).2.2.2]]=some (.int .i64 (aGk s.length (FE s).2.2.1 (FE s).2.2.2)):=aG9 s _ _ hl ha;have i:=nQ;have aa:=Gt (eC s) 6 false (by show(FE s).1.length<=1000;omega);have hA:FE s=LJ s (HN s).1.toNat (HN s).2.1 (HN s).2.2:=rfl;unfold Cg;unfold Tn at aa;unfold Oi at g1 g2 g3 g4;have hS:eC s=⟨(M0 s).1,decide ((L0 s).1=1),(M_ s).1,decide ((HN s).1.toNat=0),(FE s).1⟩:=rfl;unfold GG at aa ⊢;generalize DL (eC s) 6=x at *;generalize aGk s.length (FE s).2.2.1 (FE s).2.2.2=en at *;rw[hS]at aa ⊢;clear hS;generalize FE s=tot at *;generalize M0 s=n1 at *;generalize L0 s=n2 at *;generalize M_ s=n3 at *;generalize HN s=n4 at *;obtain⟨v4,p4,e4⟩:=n4;simp only at *;generalize ka:v4.toNat=n at *;rw[←hn]at g4;simp only[GC,↓C2,Gy,simprocAttr,AD MB 55,T8,g1,g2,g3,g4];refine BI (n:=n) (I:=λj st=>st.s 28= .int .i64 (n:Int)∧st.s 29= .int .i64 (j:Int)∧st.s 4= .ptr [4] 0∧st.s 5= .ptr [9] 0∧st.s 2= .ptr [0] 0∧∃A od p e nl t,A.length=j∧p<=s.length∧A++(LJ s (n-j) p e).1=tot.1∧(od||(LJ s (n-j) p e).2.1)=(decide (1<n2.1)||tot.2.1)∧(LJ s (n-j) p e).2.2=tot.2.2∧st.s 7= .bool od∧(st.m [4] 0=some (.str s)∧st.m [4] 1=some (.int .i64 (p:Int))∧st.m [4] 2=some (.int .i64 e))∧(st.m [9] 0=some (.int .i64 n1.1)∧st.m [9] 1=some (.bool (decide (n2.1=1)))∧st.m [9] 2=some (.int .i64 n3.1)∧st.m [9] 3=some (.slice nl t (A6 A)))∧nl=decide (j=0)∧LX [4,9] 10 _ 80 st.m st.c nl t) (λj hj ih st g hI=>?_) (λst g hI=>?_) 0 (Qu _) _ _ ⟨rfl,rfl,rfl,rfl,rfl,[],decide (1<n2.1),p4,e4,true,[],rfl,b4.1,by rw[hA];rfl,by rw[hA];rfl,by rw[hA];rfl,rfl,?_,?_,rfl,LX.start Xb⟩
 rotate_left 2
 ·grind [GB.put]
 ·simp_all [GB.put,A6]
 ·obtain⟨ma,ia,ea⟩:=st;obtain⟨f,u,h4,h5,h2,A,od,p,e,nl,t,w,hp,r,l,fa,h7,⟨x0,x1,x2⟩,⟨y0,y1,y2,y3⟩,pa,hG⟩:=hI;simp only at f u h4 h5 h2 h7 x0 x1 x2 y0 y1 y2 y3 hG;refine Af Uz.eq_1 ?_;have da:((j:Int)<n):=by omega
  have oa:=nJ (j:=j);have hw:=wJ (j:=j) O;have q1:=Er (e:=e) hp;have k1:=IV s p e hl hp;have k2:=IV s _ (Bx s p e).2.2 hl q1.1;have q2:=Er (e:=(Bx s p e).2.2) q1.1;have la:n-j=(n-(j+1))+1:=O
  rw[la]at r l fa;unfold LJ at r l fa;simp only at r l fa;generalize Bx s p e=a at *;generalize Bx s a.2.1 a.2.2=b at *;unfold Oi at k1 k2;have y:=(hG.putx (q:=4) (o:=0) (ds:=[.str s,.int .i64 (a.2.1:Int),.int .i64 a.2.2]) U O).putx (q:=4) (o:=0) (ds:=[.str s,.int .i64 (b.2.1:Int),.int .i64 b.2.2]) U O;have sa:nl=true->A6 A=[]:=by
   rw[pa];intro h;have:A=[]:=QW.1 (by rw[w];simpa using h);rw[this];rfl
  have ga:A6 A++[.agg [.int .i64 a.1,.bool (decide (bits .and .i64 b.1 1≠0)),.bool (decide (bits .and .i64 b.1 2≠0))]]=A6 (A++[(a.1,decide (bits .and .i64 b.1 1≠0),decide (bits .and .i64 b.1 2≠0))]):=by simp[A6,rwD]
  have xa:(A6 A).length<256:=XD
  have qa:(9=4)=False:=U
  have ja:(4=9)=False:=U
  cases od with
  |true=>
   simp only[GC,↓C2,Gy,simprocAttr,f,u,da,h4,h5,h7,AD MB 55,T8,x0,x1,x2,y3,k1,k2];refine As.intro ⟨O,rfl,(LX.put y O).grow⟩ ?_;rw[B0 sa,ga];have z:∀(c1 c2 k:Nat)(ds:List D)(xs:List D),ea<=c1->ea<=c2->∀q,q<10->GF.app ((((ia.put [4] 0 [.str s,.int .i64 (a.2.1:Int),.int .i64 a.2.2]).put [4] 0 [.str s,.int .i64 (b.2.1:Int),.int .i64 b.2.2]).put [c1] 0 ds)) (Bc 80 [c2] (.slice nl t xs)) [q] k=((ia.put [4] 0 [.str s,.int .i64 (a.2.1:Int),.int .i64 a.2.2]).put [4] 0 [.str s,.int .i64 (b.2.1:Int),.int .i64 b.2.2]) [q] k:=λc1 c2 k ds xs e1 e2 q hq=>by
    have:=hG.le;rw[aZ (LX.put y e1) e2 hq,aA Xc]
   have zz:=λ(c1 c2 k:Nat)(ds:List D)(xs:List D) e1 e2=>z c1 c2 k ds xs e1 e2 9 O
   have z4:=λ(c1 c2 k:Nat)(ds:List D)(xs:List D) e1 e2=>z c1 c2 k ds xs e1 e2 4 O
   have v:∀(c1 c2:Nat)(ds xs:List D),ea<=c1->ea<=c2->(Ag (GF.app ((((ia.put [4] 0 [.str s,.int .i64 (a.2.1:Int),.int .i64 a.2.2]).put [4] 0 [.str s,.int .i64 (b.2.1:Int),.int .i64 b.2.2]).put [c1] 0 ds)) (Bc 80 [c2] (.slice nl t xs))) [9] 3 1).isSome=true:=λc1 c2 ds xs e1 e2=>by
    simp only[Ag,zz c1 c2 3 ds xs e1 e2];simp[GB.put,y3]
   simp only[↓C2,GA,h5,simprocAttr,Qp];refine As.intro (v _ _ _ _ O O) ?_;simp only[↓C2,GD,simprocAttr,u,hw];refine ih _ _ ⟨f,rfl,h4,h5,h2,A++[(a.1,decide (bits .and .i64 b.1 1≠0),decide (bits .and .i64 b.1 2≠0))],true,b.2.1,b.2.2,false,_,by simp[w],q2.1,by rw[←r];simp,by rw[←l];simp[],fa,rfl,⟨?_,?_,?_⟩,⟨?_,?_,?_,?_⟩,U,LX.putx (LX.app (LX.put y O) O Xb) U O⟩
   ·simp only;rw[aA U,z4 _ _ _ _ _ O O];simp[GB.put]
   ·simp only;rw[aA U,z4 _ _ _ _ _ O O];simp[GB.put]
   ·simp only;rw[aA U,z4 _ _ _ _ _ O O];simp[GB.put]
   ·simp only;rw[aD U,zz _ _ _ _ _ O O];simp[GB.put,y0]
   ·simp only;rw[aD U,zz _ _ _ _ _ O O];simp[GB.put,y1]
   ·simp only;rw[aD U,zz _ _ _ _ _ O O];simp[GB.put,y2]
   ·simp only;rw[Fh];exact LW
  |false=>
   by_cases c3:3<b.1
   ·simp only[GC,↓C2,Gy,simprocAttr,f,u,da,h4,h5,h7,AD MB 55,T8,x0,x1,x2,y3,k1,k2,c3];refine As.intro ⟨O,rfl,(LX.put y O).grow⟩ ?_;rw[B0 sa,ga];have z:∀(c1 c2 k:Nat)(ds:List D)(xs:List D),ea<=c1->ea<=c2->∀q,q<10->GF.app ((((ia.put [4] 0 [.str s,.int .i64 (a.2.1:Int),.int .i64 a.2.2]).put [4] 0 [.str s,.int .i64 (b.2.1:Int),.int .i64 b.2.2]).put [c1] 0 ds)) (Bc 80 [c2] (.slice nl t xs)) [q] k=((ia.put [4] 0 [.str s,.int .i64 (a.2.1:Int),.int .i64 a.2.2]).put [4] 0 [.str s,.int .i64 (b.2.1:Int),.int .i64 b.2.2]) [q] k:=λc1 c2 k ds xs e1 e2 q hq=>by
     have:=hG.le;rw[aZ (LX.put y e1) e2 hq,aA Xc]
    have zz:=λ(c1 c2 k:Nat)(ds:List D)(xs:List D) e1 e2=>z c1 c2 k ds xs e1 e2 9 O
    have z4:=λ(c1 c2 k:Nat)(ds:List D)(xs:List D) e1 e2=>z c1 c2 k ds xs e1 e2 4 O
    have v:∀(c1 c2:Nat)(ds xs:List D),ea<=c1->ea<=c2->(Ag (GF.app ((((ia.put [4] 0 [.str s,.int .i64 (a.2.1:Int),.int .i64 a.2.2]).put [4] 0 [.str s,.int .i64 (b.2.1:Int),.int .i64 b.2.2]).put [c1] 0 ds)) (Bc 80 [c2] (.slice nl t xs))) [9] 3 1).isSome=true:=λc1 c2 ds xs e1 e2=>by
     simp only[Ag,zz c1 c2 3 ds xs e1 e2];simp[GB.put,y3]
    simp only[↓C2,GA,h5,simprocAttr,Qp];refine As.intro (v _ _ _ _ O O) ?_;simp only[↓C2,GD,simprocAttr,u,hw];refine ih _ _ ⟨f,rfl,h4,h5,h2,A++[(a.1,decide (bits .and .i64 b.1 1≠0),decide (bits .and .i64 b.1 2≠0))],true,b.2.1,b.2.2,false,_,by simp[w],q2.1,by rw[←r];simp,by rw[←l];simp[c3],fa,rfl,⟨?_,?_,?_⟩,⟨?_,?_,?_,?_⟩,U,LX.putx (LX.app (LX.put y O) O Xb) U O⟩
    ·simp only;rw[aA U,z4 _ _ _ _ _ O O];simp[GB.put]
    ·simp only;rw[aA U,z4 _ _ _ _ _ O O];simp[GB.put]
    ·simp only;rw[aA U,z4 _ _ _ _ _ O O];simp[GB.put]
    ·simp only;rw[aD U,zz _ _ _ _ _ O O];simp[GB.put,y0]
    ·simp only;rw[aD U,zz _ _ _ _ _ O O];simp[GB.put,y1]
    ·simp only;rw[aD U,zz _ _ _ _ _ O O];simp[GB.put,y2]
    ·simp only;rw[Fh];exact LW
   ·simp only[GC,↓C2,Gy,simprocAttr,f,u,da,h4,h5,h7,AD MB 55,T8,x0,x1,x2,y3,k1,k2,c3];refine As.intro ⟨O,rfl,(LX.put y O).grow⟩ ?_;rw[B0 sa,ga];have z:∀(c1 c2 k:Nat)(ds:List D)(xs:List D),ea<=c1->ea<=c2->∀q,q<10->GF.app ((((ia.put [4] 0 [.str s,.int .i64 (a.2.1:Int),.int .i64 a.2.2]).put [4] 0 [.str s,.int .i64 (b.2.1:Int),.int .i64 b.2.2]).put [c1] 0 ds)) (Bc 80 [c2] (.slice nl t xs)) [q] k=((ia.put [4] 0 [.str s,.int .i64 (a.2.1:Int),.int .i64 a.2.2]).put [4] 0 [.str s,.int .i64 (b.2.1:Int),.int .i64 b.2.2]) [q] k:=λc1 c2 k ds xs e1 e2 q hq=>by
     have:=hG.le;rw[aZ (LX.put y e1) e2 hq,aA Xc]
    have zz:=λ(c1 c2 k:Nat)(ds:List D)(xs:List D) e1 e2=>z c1 c2 k ds xs e1 e2 9 O
    have z4:=λ(c1 c2 k:Nat)(ds:List D)(xs:List D) e1 e2=>z c1 c2 k ds xs e1 e2 4 O
    have v:∀(c1 c2:Nat)(ds xs:List D),ea<=c1->ea<=c2->(Ag (GF.app ((((ia.put [4] 0 [.str s,.int .i64 (a.2.1:Int),.int .i64 a.2.2]).put [4] 0 [.str s,.int .i64 (b.2.1:Int),.int .i64 b.2.2]).put [c1] 0 ds)) (Bc 80 [c2] (.slice nl t xs))) [9] 3 1).isSome=true:=λc1 c2 ds xs e1 e2=>by
     simp only[Ag,zz c1 c2 3 ds xs e1 e2];simp[GB.put,y3]
    simp only[↓C2,GA,h5,simprocAttr,Qp];refine As.intro (v _ _ _ _ O O) ?_;simp only[↓C2,GD,simprocAttr,u,hw];refine ih _ _ ⟨f,rfl,h4,h5,h2,A++[(a.1,decide (bits .and .i64 b.1 1≠0),decide (bits .and .i64 b.1 2≠0))],false,b.2.1,b.2.2,false,_,by simp[w],q2.1,by rw[←r];simp,by rw[←l];simp[c3],fa,rfl,⟨?_,?_,?_⟩,⟨?_,?_,?_,?_⟩,U,LX.putx (LX.app (LX.put y O) O Xb) U O⟩
    ·simp only;rw[aA U,z4 _ _ _ _ _ O O];simp[GB.put]
    ·simp only;rw[aA U,z4 _ _ _ _ _ O O];simp[GB.put]
    ·simp only;rw[aA U,z4 _ _ _ _ _ O O];simp[GB.put]
    ·simp only;rw[aD U,zz _ _ _ _ _ O O];simp[GB.put,y0]
    ·simp only;rw[aD U,zz _ _ _ _ _ O O];simp[GB.put,y1]
    ·simp only;rw[aD U,zz _ _ _ _ _ O O];simp[GB.put,y2]
    ·simp only;rw[Fh];exact LW
 ·obtain⟨ma,ia,ea⟩:=st;obtain⟨f,u,h4,h5,h2,A,od,p,e,nl,t,w,hp,r,l,fa,h7,⟨x0,x1,x2⟩,⟨y0,y1,y2,y3⟩,pa,hG⟩:=hI;simp only at f u h4 h5 h2 h7 x0 x1 x2 y0 y1 y2 y3 hG;refine Af Uz.eq_1 ?_;have m0:∀k,ia [0] k=_:=λk=>hG.low 0 k O U
  rw[Zu]at r l fa;unfold LJ at r l fa;simp only[QJ,Bool.or_false]at r l fa;rw[←l];rw[←r]at aa ⊢;rw[←fa]at d;simp only at d;rw[←pa]at aa ⊢;by_cases c1:en=3
  ·simp only[GC,↓C2,Gy,simprocAttr,f,u,h4,h2,Qz,x0,x1,x2,m0,Ae MB 56,d,c1]
   all_goals (first|rfl|exact⟨rfl,rfl⟩|(simp[*,sc0];done)|(simp[*,sc0];rfl))
  ·have ba:(en=3)=False:=eq_false c1;by_cases c2:en=0
   ·subst c2;cases od with
    |true=>
     simp only[GC,↓C2,Gy,simprocAttr,f,u,h4,h7,Qz,x0,x1,x2,Ae MB 56,d];refine AY ?_;simp only[GC,↓C2,Gy,simprocAttr,h2,m0]
     all_goals (first|rfl|exact⟨rfl,rfl⟩|(simp[*,sc0];done)|(simp[*,sc0];rfl))
    |false=>
     cases x with
     |true=>
      simp only[if_true]at aa;simp only[GC,↓C2,Gy,simprocAttr,f,u,h4,h5,h7,Qz,x0,x1,x2,y0,y1,y2,y3,Ae MB 56,d,Ae MB 57,i,Ae MB 25,aa];refine AY ?_;simp only[GC,↓C2,Gy,simprocAttr,h2,m0]
      all_goals (first|rfl|exact⟨rfl,rfl⟩|(simp[*,sc0];done)|(simp[*,sc0];rfl))
     |false=>
      simp only[if_false,Qs]at aa;simp only[GC,↓C2,Gy,simprocAttr,f,u,h4,h5,h7,Qz,x0,x1,x2,y0,y1,y2,y3,Ae MB 56,d,Ae MB 57,i,Ae MB 25,aa];refine AY ?_;simp only[GC,↓C2,Gy,simprocAttr,h2,h5,m0,y0,y1,y2,y3]
      all_goals (first|rfl|exact⟨rfl,rfl⟩|(simp[*,sc0];done)|(simp[*,sc0];rfl))
   ·have ca:(en=0)=False:=eq_false c2;simp only[GC,↓C2,Gy,simprocAttr,f,u,h4,Qz,x0,x1,x2,Ae MB 56,d,ba,ca];refine AY ?_;simp only[GC,↓C2,Gy,simprocAttr,h2,m0]
    all_goals (first|rfl|exact⟨rfl,rfl⟩|(simp[*,sc0];done)|(simp[*,sc0];rfl))
def aLx:=y0 f213 [] []
def aTj:=y0 f52 [] []
def aTz:=y0 f22 [] []
def aLu:=y0 f215 [] []
def aTn:=y0 f67 [(3,[(2,0)])] []
def Ox:=y1 f124 2 [] []
def aKf:=y0 f124 [] [(2,Ox)]
def UD:=y1 f70 14 [] []
def aKS:=y0 f70 [(18,[(3,6),(3,10),(7,10)])] [(14,UD)]
def aLB:=y0 f30 [] []
def aLC:=y0 f37 [] []
def aKR:=y0 f26 [] []
def aBq:=y0 f211 [] []
def aLA:=y0 f210 [] []
def UA:=y1 f270 2 [] []
def aKL:=y0 f270 [] [(2,UA)]
def aLr:=y0 f220 [] []
def aTI:=y0 f155 [] []
def A_(k:Int)(name:Bs)(n:Int):Bs:=if B4 k name n≠0 then []else if k=1 then [109,47]++name else if k=2 then [100,47]++name++[0,UInt8.ofNat (IntKind.u8.wrap n).toNat]else if k=3 then [116,47]++name else if k=4 then [115,47,109,111,117,110,116,115]else [115,47,114,105,110,103]
def aD6{k n:Int}{name:Bs}(h:name.length<=1000000):F98 [.agg [.int .u8 k,.str name,.int .i64 n]]=some (.int .i64 (B4 k name n)):=if_pos h
def Iv{a b:Bs}(h:a.length+b.length<=9223372036854775807):AO .add (.str a) (.str b)=some (.str (a++b)):=by simp[AO,h]
def jL:=Aq [(53,Ac F98)]
def aHx:=RF jL aKR [.t 2,.t 3] 35
def aJc:Kq aHx 26:=An (Aj func26) (Aa aFB Ad)
def nZ(k n:Int)(name:Bs)(hl:name.length<=1000000):aHx [.agg [.int .u8 k,.str name,.int .i64 n]]=some (.tup [.str (A_ k name n),.int .i64 (B4 k name n)]):=by
 refine Al (Qa rfl) ?_;unfold aKR;have q:=aD6 (k:=k) (n:=n) hl;have a1:∀x y,AO .add (.str [x,y]) (.str name)=some (.str ([x,y]++name)):=λx y=>Iv Yz
 have m:∀a,BB [.int .u8 0,.int .u8 a]=some [0,UInt8.ofNat a.toNat]:=λ_=>rfl
 unfold A_;generalize B4 k name n=e at *;by_cases w:e=0
 ·subst w;by_cases c1:k=1
  ·have r:=eq_true c1;simp only[GC,↓C2,Gy,simprocAttr,Ae jL 53,q,r,a1]
   all_goals exact YR
  have r:=eq_false c1;by_cases v:k=2
  ·have p:=eq_true v;have s:=λz (i:z.length<=100)=>Iv (a:=[100,47]++name) (b:=z) YA
   have j:=λc d=>s [c,d] U
   simp only[GC,↓C2,Gy,simprocAttr,Ae jL 53,q,r,p,a1,j,m]
   all_goals exact YR
  have p:=eq_false v;by_cases o:k=3
  ·have f:=eq_true o;simp only[GC,↓C2,Gy,simprocAttr,Ae jL 53,q,r,p,f,a1]
   all_goals exact YR
  have f:=eq_false o;by_cases u:k=4
  ·have g:=eq_true u;simp only[GC,↓C2,Gy,simprocAttr,Ae jL 53,q,r,p,f,g]
   all_goals exact YR
  ·have g:=eq_false u;simp only[GC,↓C2,Gy,simprocAttr,Ae jL 53,q,r,p,f,g]
   all_goals exact YR
 ·have h:=eq_false w;simp only[GC,↓C2,Gy,simprocAttr,Ae jL 53,q,h]
  all_goals exact YR
def aUg:=Aq [(26,Ac aHx)]
def EZ:List D->Option D:=RF aUg aBq [.t 6] 18
def Ii:Kq EZ 211:=An (Aj func211:Fn Qe 211 18 aBq [.t 6]) (Aa aJc Ad)
def CP(k n:Int)(name:Bs)(hl:name.length<=1000000):EZ [.int .u8 k,.str name,.int .i64 n]=some (.str (A_ k name n)):=by
 refine Al (Qa rfl) ?_;unfold aBq;have a:=nZ k n name hl;simp only[↓C2,GA,Gy,simprocAttr,Ae aUg 26,a]
 all_goals exact YR
def aV8:=Aq []
def uK:=RF aV8 aLx [.t 2] 10
def aJi:Kq uK 213:=An (Aj func213) Ad
def UY(p:Bs)(hl:p.length<=1000000):uK [.str p]=some (.slice false [] [.str ([109,47]++p++[47]),.str ([100,47]++p++[47])]):=by
 refine Al (Qa rfl) ?_;unfold aLx;have a1:∀x y,AO .add (.str [x,y]) (.str p)=some (.str ([x,y]++p)):=λx y=>Iv Yz
 have t:∀x y,AO .add (.str ([x,y]++p)) (.str [47])=some (.str ([x,y]++p++[47])):=λx y=>Iv YA
 simp only[↓C2,GA,Gy,simprocAttr,a1,t]
 all_goals exact YR
def BS(s:Bs):Int×Bs×Int:=if s=[115,47,109,111,117,110,116,115]then(4,[],0)else if s=[115,47,114,105,110,103]then(5,[],0)else if BX s [109,47]=true then(1,s.drop 2,0)else if BX s [116,47]=true then(3,s.drop 2,0)else
 if BX s [100,47]=true∧2<(s.drop 2).length∧(s.drop 2).getD ((s.drop 2).length-2) 0=0 then(2,(s.drop 2).take ((s.drop 2).length-2),((s.drop 2).getD ((s.drop 2).length-1) 0).toNat)else(0,[],0)
def Dv(s:Bs):(Int×Bs×Int)×Int:=if B4 (BS s).1 (BS s).2.1 (BS s).2.2≠0 then((0,[],0),4)else(BS s,0)
def kyD(k:Int×Bs×Int):D:= .agg [.int .u8 k.1,.str k.2.1,.int .i64 k.2.2]
def qZ(s:Bs):(BS s).2.1.length<=s.length:=by
 grind [BS]
def S97:=Aq [(106,Ac uY)]
def R97:=RF S97 aTj [.cell (some 3) 2] 64
def aVi:Kq R97 52:=An (Aj func52) (Aa aIW Ad)
def aO4(s:Bs)(hl:s.length<=1000000):R97 [.str s]=some (kyD (BS s)):=by
 refine Al (Qa rfl) ?_;unfold aTj;have c:∀a b:UInt8,uY [.str s,.str [a,b]]=some (.tup [.str (if BX s [a,b]=true then s.drop 2 else s),.bool (BX s [a,b])]):=λ_ _=>rfl
 unfold BS kyD;by_cases c1:s=[115,47,109,111,117,110,116,115]
 ·have w:=eq_true c1;simp only[GC,↓C2,Gy,simprocAttr,w]
  all_goals exact YR
 have w:=eq_false c1;by_cases p:s=[115,47,114,105,110,103]
 ·have n:=eq_true p;simp only[GC,↓C2,Gy,simprocAttr,w,n]
  all_goals exact YR
 have n:=eq_false p;cases c3:BX s [109,47]with
 |true=>
  simp only[GC,↓C2,Gy,simprocAttr,Ae S97 106,c,w,n,c3]
  all_goals exact YR
 |false=>
  cases c4:BX s [116,47]with
  |true=>
   simp only[GC,↓C2,Gy,simprocAttr,Ae S97 106,c,w,n,c3,c4]
   all_goals exact YR
  |false=>
   cases c5:BX s [100,47]with
   |false=>
    simp only[GC,↓C2,Gy,simprocAttr,Ae S97 106,c,w,n,c3,c4,c5]
    all_goals exact YR
   |true=>
    have o:(s.drop 2).length<=1000000:=X4
    generalize hr:s.drop 2=r at *;by_cases m:2<r.length
    ·have e:((2:Int)<(r.length:Int))=True:=eq_true O;have t:IntKind.i64.wrap ((r.length:Int)-2)=((r.length-2:Nat):Int):=by rw[GZ O O];omega
     have z:IntKind.i64.wrap (((r.length-2:Nat):Int)+1)=((r.length-1:Nat):Int):=Xi
     have k:(0:Int)<=((r.length-2:Nat):Int):=O
     have g:(0:Int)<=((r.length-1:Nat):Int):=O
     have q:(((r.length-2:Nat):Int)<=((r.length:Nat):Int))=True:=eq_true O;have v:r[r.length-2]?=some (r.getD (r.length-2) 0):=by simp[Zx,Qi (show r.length-2<r.length by omega)]
     have u:r[r.length-1]?=some (r.getD (r.length-1) 0):=by simp[Zx,Qi (show r.length-1<r.length by omega)]
     have i:((r.getD (r.length-2) 0).toNat:Int)=0↔r.getD (r.length-2) 0=0:=by
      constructor
      ·intro h;exact UInt8.toNat_inj.1 (by
        have:(r.getD (r.length-2) 0).toNat=0:=O
        rw[this];rfl)
      ·intro h;rw[h];rfl
     have f:IntKind.i64.wrap ((r.getD (r.length-1) 0).toNat:Int)=((r.getD (r.length-1) 0).toNat:Int):=GZ O (by have:=(r.getD (r.length-1) 0).toNat_lt;omega);generalize r.getD (r.length-1) 0=y at *;generalize r.getD (r.length-2) 0=x at *;by_cases j:x=0
     ·have d:((x.toNat:Int)=0)=True:=eq_true (i.2 j);simp only[GC,↓C2,Gy,simprocAttr,Ae S97 106,c,w,n,c3,c4,c5,e,t,z,k,g,q,v,u,d,f,Qh];refine AY ?_;simp only[GC,↓C2,Gy,simprocAttr]
      all_goals exact YR
     ·have d:((x.toNat:Int)=0)=False:=eq_false (λh=>j (i.1 h));simp only[GC,↓C2,Gy,simprocAttr,Ae S97 106,c,w,n,c3,c4,c5,e,t,k,v,d,Qh]
      all_goals exact YR
    ·have e:((2:Int)<(r.length:Int))=False:=eq_false O;simp only[GC,↓C2,Gy,simprocAttr,Ae S97 106,c,w,n,c3,c4,c5,e]
     all_goals exact YR
def S38:=Aq [(52,Ac R97),(53,Ac F98)]
def R38:=RF S38 aTz [.cell (some 3) 2,.t 3] 12
def aVv:Kq R38 22:=An (Aj func22) (Aa aVi (Aa aFB Ad))
def aPb(s:Bs)(hl:s.length<=1000000):R38 [.str s]=some (.tup [kyD (Dv s).1,.int .i64 (Dv s).2]):=by
 refine Al (Qa rfl) ?_;unfold aTz;have a:=aO4 s hl;have z:=aD6 (k:=(BS s).1) (n:=(BS s).2.2) (name:=(BS s).2.1) (by have:=qZ s;omega);unfold Dv;unfold kyD at *;generalize B4 (BS s).1 (BS s).2.1 (BS s).2.2=e at *;generalize BS s=g at *;by_cases w:e=0
 ·subst w;simp only[GC,↓C2,Gy,simprocAttr,Ae S38 52,a,Ae S38 53,z]
  all_goals exact YR
 ·have h:=eq_false w;simp only[GC,↓C2,Gy,simprocAttr,Ae S38 52,a,Ae S38 53,z,h]
  all_goals exact YR
def aTH:=y0 Tryz.f156 [(2,[(3,1),(4,1)])] []
def aTx:=y0 f232 [] []
def aEJ(w:World)(k:Nat)(f:0<k)(s:k<=1000000):
  Calls Qe 283 #[.slice none 0 0,.int .i64 (k:Int)] w λe i=>e= .returned (.slice (some ⟨w.heap.size,0,none⟩) 0 (grownCap w k 0 9))∧i=w.drew.alloc (.cells (Builtin.zeroCells #[.string .empty] k++Builtin.zeroCells #[.string .empty] (grownCap w k 0 9-k)) 9):=by
 have z:=Lib.run_append_nil_zeros (P:=Qe) w 23 3 23 9 Tryz.t9 (.string .empty) .i64 .i64 underlying23 underlying3 Xa Xa k f V O (by show k*16<=_;omega)
 go_enter func283,ntmps283
 go_wp2_with (first|(at_builtin;refine Lib.wpList_append_run _ rfl _ _ _ _ rfl _ _ rfl rfl _ _ z ?_))
 all_goals go_ret
 all_goals exact⟨rfl,rfl⟩
def aVh:(Dz 9).ok Qe 283:=by
 refine L9 (sz:=1) ⟨_,func283,Xa,Xa⟩ V ⟨Tryz.t9,(.string .empty),Xa,Xa,Xa,Xa⟩ (λw k f s=>?_);refine(aEJ w k f s).mono ?_;rintro e i ⟨rfl,rfl⟩;refine⟨_,_,grownCap_le_maxLen w k 0 9 Xq,?_,rfl,rfl⟩;have q:=grownCap_ge w k 0 9;simp only[Zf,size_zeroCells];simp;omega
def vS(w:World)(k:Nat)(f:0<k)(s:k<=1000000):
  Calls Qe 284 #[.slice none 0 0,.int .i64 (k:Int)] w λe i=>e= .returned (.slice (some ⟨w.heap.size,0,none⟩) 0 (grownCap w k 0 4))∧i=w.drew.alloc (.cells (Builtin.zeroCells #[.bool false] k++Builtin.zeroCells #[.bool false] (grownCap w k 0 4-k)) 4):=by
 have z:=Lib.run_append_nil_zeros (P:=Qe) w 160 3 160 4 Tryz.t4 (.bool false) .i64 .i64 underlying160 underlying3 Xa Xa k f V O (by show k*1<=_;omega)
 go_enter func284,ntmps284
 go_wp2_with (first|(at_builtin;refine Lib.wpList_append_run _ rfl _ _ _ _ rfl _ _ rfl rfl _ _ z ?_))
 all_goals go_ret
 all_goals exact⟨rfl,rfl⟩
def aS4:(Dz 4).ok Qe 284:=by
 refine L9 (sz:=1) ⟨_,func284,Xa,Xa⟩ V ⟨Tryz.t4,(.bool false),Xa,Xa,Xa,Xa⟩ (λw k f s=>?_);refine(vS w k f s).mono ?_;rintro e i ⟨rfl,rfl⟩;refine⟨_,_,grownCap_le_maxLen w k 0 4 Xq,?_,rfl,rfl⟩;have q:=grownCap_ge w k 0 4;simp only[Zf,size_zeroCells];simp;omega
def vR(w:World)(k:Nat)(f:0<k)(s:k<=1000000):
  Calls Qe 285 #[.slice none 0 0,.int .i64 (k:Int)] w λe i=>e= .returned (.slice (some ⟨w.heap.size,0,none⟩) 0 (grownCap w k 0 23))∧i=w.drew.alloc (.cells (Builtin.zeroCells #[.slice none 0 0] k++Builtin.zeroCells #[.slice none 0 0] (grownCap w k 0 23-k)) 23):=by
 have z:=Lib.run_append_nil_zeros (P:=Qe) w 161 3 161 23 t23 (.slice none 0 0) .i64 .i64 underlying161 underlying3 Xa Xa k f V O (by show k*24<=_;omega)
 go_enter func285,ntmps285
 go_wp2_with (first|(at_builtin;refine Lib.wpList_append_run _ rfl _ _ _ _ rfl _ _ rfl rfl _ _ z ?_))
 all_goals go_ret
 all_goals exact⟨rfl,rfl⟩
def aS3:(Dz 23).ok Qe 285:=by
 refine L9 (sz:=1) ⟨_,func285,Xa,Xa⟩ V ⟨t23,(.slice none 0 0),Xa,Xa,Xa,Xa⟩ (λw k f s=>?_);refine(vR w k f s).mono ?_;rintro e i ⟨rfl,rfl⟩;refine⟨_,_,grownCap_le_maxLen w k 0 23 Xq,?_,rfl,rfl⟩;have q:=grownCap_ge w k 0 23;simp only[Zf,size_zeroCells];simp;omega
def aS7:Fn Qe 229 36 (F_ 9 9 1 16 283) [.t 2]:=⟨f229,_,func229,rfl,Xa,rfl,Xa,Xa⟩
def S39:=Aq [(283,Dz 9)]
def R39:=RF S39 (F_ 9 9 1 16 283) [.t 2] 36
def aSe:Kq R39 229:=An aS7 (Aa aVh Ad)
def jO{nl:Bool}{xs:List D}{x:D}(hl:xs.length<=1000)(r:(xs++[x]).all (dP 1)=true):R39 [.slice false [] [.slice nl [] xs,.slice false [] [x]]]=some (.slice false [] (xs++[x])):=
 Al (Qa rfl) (PU (P:=Qe) (f:=39) O rfl (by simp[ES]) (Qa rfl) U Xc r λt m z=>⟨rfl,rfl⟩)
def aS6:Fn Qe 230 36 (F_ 9 4 1 1 284) [.t 2]:=⟨f230,_,func230,rfl,Xa,rfl,Xa,Xa⟩
def S40:=Aq [(284,Dz 4)]
def R40:=RF S40 (F_ 9 4 1 1 284) [.t 2] 36
def aVu:Kq R40 230:=An aS6 (Aa aS4 Ad)
def aO8{nl:Bool}{xs:List D}{x:D}(hl:xs.length<=1000)(r:(xs++[x]).all (dP 1)=true):R40 [.slice false [] [.slice nl [] xs,.slice false [] [x]]]=some (.slice false [] (xs++[x])):=
 Al (Qa rfl) (PU (P:=Qe) (f:=40) O rfl (by simp[ES]) (Qa rfl) U Xc r λt m z=>⟨rfl,rfl⟩)
def aS5:Fn Qe 231 36 (F_ 9 23 1 24 285) [.t 2]:=⟨f231,_,func231,rfl,Xa,rfl,Xa,Xa⟩
def S41:=Aq [(285,Dz 23)]
def R41:=RF S41 (F_ 9 23 1 24 285) [.t 2] 36
def aVt:Kq R41 231:=An aS5 (Aa aS3 Ad)
def aO7{nl:Bool}{xs:List D}{x:D}(hl:xs.length<=1000)(r:(xs++[x]).all (dP 1)=true):R41 [.slice false [] [.slice nl [] xs,.slice false [] [x]]]=some (.slice false [] (xs++[x])):=
 Al (Qa rfl) (PU (P:=Qe) (f:=41) O rfl (by simp[ES]) (Qa rfl) U Xc r λt m z=>⟨rfl,rfl⟩)
def strsD(l:List Bs):List D:=l.map .str
def wK(l:List Bs):aF (strsD l) 1=1:=XF
def AM(l:List Bs):(strsD l).length=l.length:=Qy ..
def C_{l:List Bs}{j:Nat}(h:j<l.length):(strsD l)[j]?=some (.str l[j]):=by simp[strsD,Qi h]
structure Kn where
 es:List (Bs×Bs×Bool)
 ls:List (Bs×Bool×List Bs)
def zG(x:Bs×Bool×List Bs):D:= .slice x.2.1 [] (strsD x.2.2)
def Ha(k:Kn):List D:=[.slice k.es.isEmpty [] (k.es.map λx=> .str x.1),.slice k.es.isEmpty [] (k.es.map λx=> .str x.2.1),.slice k.es.isEmpty [] (k.es.map λx=> .bool x.2.2),.slice k.ls.isEmpty [] (k.ls.map λx=> .str x.1),.slice k.ls.isEmpty [] (k.ls.map zG)]
def aCA{α:Type}{f:α->D}(h:∀x,dP 1 (f x)=true)(l:List α)(y:α):(l.map f++[f y]).all (dP 1)=true:=by
 simp_all
def aTT{α:Type}(l:List α)(x:α):(l++[x]).isEmpty=false:=XF
def S42:=Aq []
def R42:=RF S42 aTx [.t 2] 8
def aVs:Kq R42 232:=An (Aj func232) Ad
def aO6{nl:Bool}{l:List Bs}(hl:l.length<=100000)(g:nl=true->l=[]):R42 [.slice nl [] (strsD l)]=some (.slice nl [] (strsD l)):=by
 refine Al (Qa rfl) ?_;unfold aTx;cases nl with
 |true=>
  rw[g rfl];simp only[↓C2,GD,Hp,Gy,simprocAttr]
  all_goals exact YR
 |false=>
  simp only[↓C2,GD,GN,Gy,simprocAttr];refine As.intro ⟨by rw[AM];omega,wK l,.inr ⟨rfl,U⟩⟩ ?_;simp only[↓C2,GA,Gy,simprocAttr]
def S12:=Aq [(229,Ac R39),(230,Ac R40)]
def R12:=RF S12 aTI [.cell (some 5) 8] 31
def aVy:Kq R12 155:=An (Aj func155) (Aa aSe (Aa aVu Ad))
def aPE(k:Kn)(z b:Bs)(q:Bool)(hl:k.es.length<=1000):R12 [.agg (Ha k),.str z,.str b,.bool q]=some (.agg (Ha {k with es:=k.es++[(z,b,q)]})):=by
 refine Al (Qa rfl) ?_;unfold aTI;have u:=jO (nl:=k.es.isEmpty) (xs:=k.es.map λx=> .str x.1) (x:= .str z) Xl (aCA (f:=λx:Bs×Bs×Bool=> .str x.1) (λ_=>rfl) k.es (z,b,q));have y:=jO (nl:=k.es.isEmpty) (xs:=k.es.map λx=> .str x.2.1) (x:= .str b) Xl (aCA (f:=λx:Bs×Bs×Bool=> .str x.2.1) (λ_=>rfl) k.es (z,b,q));have p:=aO8 (nl:=k.es.isEmpty) (xs:=k.es.map λx=> .bool x.2.2) (x:= .bool q) Xl (aCA (f:=λx:Bs×Bs×Bool=> .bool x.2.2) (λ_=>rfl) k.es (z,b,q));unfold Ha;simp only[Q_,QE,Q2,aTT];simp only[GC,↓C2,Gy,simprocAttr,Ae S12 229,u,y,Ae S12 230,p]
 all_goals exact YR
def S13:=Aq [(229,Ac R39),(231,Ac R41),(232,Ac R42)]
def R13:=RF S13 aTH [.cell (some 5) 6] 23
def aVx:Kq R13 156:=An (Aj func156) (Aa aSe (Aa aVt (Aa aVs Ad)))
def aPD(k:Kn)(p:Bs)(nl:Bool)(l:List Bs)(hl:k.ls.length<=1000)(a:l.length<=100000)(g:nl=true->l=[]):R13 [.agg (Ha k),.str p,.slice nl [] (strsD l)]=some (.agg (Ha {k with ls:=k.ls++[(p,nl,l)]})):=by
 refine Al (Qa rfl) ?_;unfold aTH;have u:=jO (nl:=k.ls.isEmpty) (xs:=k.ls.map λx=> .str x.1) (x:= .str p) Xl (aCA (f:=λx:Bs×Bool×List Bs=> .str x.1) (λ_=>rfl) k.ls (p,nl,l));have y:=aO6 (nl:=nl) (l:=l) a g;have o:=aO7 (nl:=k.ls.isEmpty) (xs:=k.ls.map zG) (x:=zG (p,nl,l)) Xl (aCA (f:=zG) (λ_=>rfl) k.ls (p,nl,l));have j:zG (p,nl,l)= .slice nl [] (strsD l):=rfl;rw[j]at o;unfold Ha;simp only[Q_,QE,Q2,aTT,j];simp only[GC,↓C2,Gy,simprocAttr,Ae S13 229,u,Ae S13 232,y,Ae S13 231,o];refine AY ?_;simp only[GC,↓C2,Gy,simprocAttr]
 all_goals exact YR
def BN:List Bs->Bs->Int
 |[],_=>-1
 |x::r,s=>if 0<=BN r s then BN r s+1 else if x=s then 0 else-1
def EO:∀(l:List Bs)(s:Bs),-1<=BN l s∧BN l s<l.length
 |[],s=>by simp[BN]
 |x::r,s=>by
  have:=EO r s;unfold BN;simp only[Qg];split
  ·omega
  ·split<;>omega
def Pv:∀{l:List Bs} {s:Bs},(∀i (h:i<l.length),l[i]≠s)->BN l s=-1
 |[],s,_=>rfl
 |x::r,s,h=>by
  have ih:=Pv (l:=r) (s:=s) (λi hi=>h (i+1) XO);have f:x≠s:=h 0 U;simp[BN,ih,f]
def Wu:∀{l:List Bs} {s:Bs} {j:Nat} (u:j<l.length),l[j]=s->(∀i (h:i<l.length),j<i->l[i]≠s)->BN l s=j
 |x::r,s,0,u,hx,h=>by
  have ih:=Pv (l:=r) (s:=s) (λi hi=>h (i+1) XO O);have f:x=s:=hx;simp[BN,ih,f]
 |x::r,s,j+1,u,hx,h=>by
  have ih:=Wu (l:=r) (s:=s) (j:=j) Xu (by simpa using hx) (λi hi m=>h (i+1) XO O);unfold BN;rw[if_pos O,ih];omega
def aV4:=Aq []
def uH:=RF aV4 aKL [.t 4] 20
def aJb:Kq uH 270:=An (Aj func270) Ad
def nY{nl:Bool}{l:List Bs}(q:Bs)(hl:l.length<=1000):uH [.slice nl [] (strsD l),.str q]=some (.int .i64 (BN l q)):=by
 refine Al (Qa rfl) ?_;unfold aKL;have b:IntKind.i64.wrap ((l.length:Int)-1)=(l.length:Int)-1:=GZ O O;simp only[↓C2,GD,simprocAttr,AM,b];refine BI (n:=l.length) (I:=λj v=>v.s 0= .slice nl [] (strsD l)∧v.s 1= .str q∧v.s 5= .int .i64 ((l.length:Int)-1-j)∧∀i (h:i<l.length),l.length<=i+j->l[i]≠q) (λj z ih v g hI=>?_) (λv g hI=>?_) 0 (Qu _) _ _ ⟨rfl,rfl,by rw[show((0:Nat):Int)=0 from rfl,Int.sub_zero];rfl,λi h y=>O⟩
 ·obtain⟨ma,t,ea⟩:=v;obtain⟨f,u,c,r⟩:=hI;simp only at f u c;refine Af UA.eq_1 ?_;have k:(0:Int)<=(l.length:Int)-1-j:=by omega
  have hw:IntKind.i64.wrap ((l.length:Int)-1-j-1)=(l.length:Int)-1-((j+1:Nat):Int):=Xi
  have hi:((l.length:Int)-1-j).toNat=l.length-1-j:=O
  have o:=C_ (l:=l) (j:=l.length-1-j) O;by_cases p:l[l.length-1-j]' O=q
  ·have e:=Wu O p (λi h y=>r i h O);have a:=eq_true p;have m:((l.length-1-j:Nat):Int)=(l.length:Int)-1-j:=by omega
   simp only[↓C2,GA,Gy,simprocAttr,f,u,c,k,hi,o,a];rw[e,m]
   all_goals exact YR
  ·have a:=eq_false p;simp only[↓C2,GA,Gy,simprocAttr,f,u,c,k,hi,o,a,hw];refine ih _ _ ⟨f,u,rfl,λi h y=>?_⟩;by_cases x:l.length<=i+j
   ·exact r i h x
   ·grind
 ·obtain⟨f,u,c,r⟩:=hI;refine Af UA.eq_1 ?_;have k:¬(0:Int)<=(l.length:Int)-1-(l.length:Int):=by omega
  have e:=Pv (l:=l) (s:=q) (λi h=>r i h O);simp only[↓C2,GA,Gy,simprocAttr,c,k];rw[e]
  all_goals exact YR
def Fd(k:Kn):List Bs:=k.es.map (·.1)
def Dq(k:Kn)(q:Bs):Bs×Bool×Bool:=if BN (Fd k) q<0 then([],false,false)else((k.es.getD (BN (Fd k) q).toNat ([],[],false)).2.1,(k.es.getD (BN (Fd k) q).toNat ([],[],false)).2.2,true)
def EY(k:Kn)(q:Bs):Bool×List Bs×Bool:=if BN (k.ls.map (·.1)) q<0 then(true,[],false)else((k.ls.getD (BN (k.ls.map (·.1)) q).toNat ([],true,[])).2.1,(k.ls.getD (BN (k.ls.map (·.1)) q).toNat ([],true,[])).2.2,true)
def aO1:=Aq [(270,Ac uH)]
def N7:=RF aO1 aLr [.t 4,.t 5,.t 6] 37
def aJf:Kq N7 220:=An (Aj func220) (Aa aJb Ad)
def OS(k:Kn)(q:Bs)(hl:k.es.length<=1000):N7 [.agg (Ha k),.str q]=some (.tup [.str (Dq k q).1,.bool (Dq k q).2.1,.bool (Dq k q).2.2]):=by
 refine Al (Qa rfl) ?_;unfold aLr;have a:uH [.slice k.es.isEmpty [] (k.es.map λx=> .str x.1),.str q]=some (.int .i64 (BN (Fd k) q)):=by
  have e:=nY (nl:=k.es.isEmpty) (l:=Fd k) q (by simpa[Fd]using hl);simpa[strsD,Fd,Function.comp_def]using e
 have m:=EO (Fd k) q;have p:(Fd k).length=k.es.length:=Qy ..;rw[p]at m;unfold Dq Ha;generalize BN (Fd k) q=i at *;by_cases c:i<0
 ·simp only[↓C2,GA,Gy,simprocAttr,Ae aO1 270,a,c]
  all_goals exact YR
 ·have hi:i.toNat<k.es.length:=by omega
  have w:(0:Int)<=i:=O
  have c1:(i<(k.es.length:Int))=True:=eq_true O;have v:(k.es.map λx=>D.str x.2.1)[i.toNat]?=some (.str (k.es.getD i.toNat ([],[],false)).2.1):=by simp[Qi hi]
  have u:(k.es.map λx=>D.bool x.2.2)[i.toNat]?=some (.bool (k.es.getD i.toNat ([],[],false)).2.2):=by simp[Qi hi]
  generalize k.es.getD i.toNat ([],[],false)=x at *;simp only[↓C2,GA,Gy,simprocAttr,Ae aO1 270,a,c,w,c1,v,u,Qy];refine AY ?_;simp only[↓C2,GA,Gy,simprocAttr]
  all_goals exact YR
def aO2:=Aq [(270,Ac uH)]
def jP:=RF aO2 aLu [.t 4,.t 5] 27
def aS1:Kq jP 215:=An (Aj func215) (Aa aJb Ad)
def aHM(k:Kn)(q:Bs)(hl:k.ls.length<=1000):jP [.agg (Ha k),.str q]=some (.tup [.slice (EY k q).1 [] (strsD (EY k q).2.1),.bool (EY k q).2.2]):=by
 refine Al (Qa rfl) ?_;unfold aLu;have a:uH [.slice k.ls.isEmpty [] (k.ls.map λx=> .str x.1),.str q]=some (.int .i64 (BN (k.ls.map (·.1)) q)):=by
  have e:=nY (nl:=k.ls.isEmpty) (l:=k.ls.map (·.1)) q Xl;simpa[strsD,Function.comp_def]using e
 have m:=EO (k.ls.map (·.1)) q;have p:(k.ls.map (·.1)).length=k.ls.length:=Qy ..;rw[p]at m;unfold EY Ha;generalize BN (k.ls.map (·.1)) q=i at *;by_cases c:i<0
 ·have w:¬(0:Int)<=i:=by omega
  simp only[↓C2,GA,Gy,simprocAttr,Ae aO2 270,a,c,w]
  all_goals exact YR
 ·have hi:i.toNat<k.ls.length:=by omega
  have w:(0:Int)<=i:=O
  have c1:((k.ls.length:Int)<=i)=False:=eq_false O;have v:(k.ls.map zG)[i.toNat]?=some (.slice (k.ls.getD i.toNat ([],true,[])).2.1 [] (strsD (k.ls.getD i.toNat ([],true,[])).2.2)):=by simp[Qi hi,zG]
  generalize k.ls.getD i.toNat ([],true,[])=x at *;simp only[↓C2,GA,Gy,simprocAttr,Ae aO2 270,a,c,w,c1,v,Qy]
  all_goals exact YR
structure Dk where
 n1:Bool
 its:List (Bs×Bs×Bool)
 n2:Bool
 lss:List (Bs×Bool×List Bs)
def A3(k:Kn)(q:Bs)(li:Bool)(d:Dk):Kn:=
 if li=true then {k with ls:=k.ls++[(q,((d.lss.find? λx=>decide (x.1=q)).getD ([],true,[])).2)]}else {k with es:=k.es++[(q,((d.its.find? λx=>decide (x.1=q)).getD ([],[],false)).2)]}
def aKm:=y0 f182 [] []
def aLa:=y0 f120 [] []
def aLb:=y0 f119 [] []
def aKd:=y0 f125 [] []
def aKc:=y0 f126 [] []
def aKb:=y0 f127 [] []
def plV:D->Value
 | .str s=> .string ⟨s.toArray⟩
 | .int k n=> .int k n
 | .bool b=> .bool b
 |_=>undef
def aMY{w:World}{g:Gh}{d:D}{v:Value}(h:Rep w g d v)(y:d.plain=true):v=plV d:=by
 cases h with
 |bool b=>rfl
 |int k n=>rfl
 |str s=>rfl
 |_=>cases y
def TD {P:Program} {f:FuncId} {F:List D→Option D} (c:∃fn,P.funcs[f]?=some fn∧fn.body.isSome=true∧(fn.name== "runtime.NumGoroutine")=false)
  (h:∀ds r,F ds=some r->(∀d∈ds,d.plain=true)∧∃v,(∀w g,Rep w g r v)∧∀w:World,Calls P f (ds.map plV).toArray w λe w'=>e= .returned v∧Below w.heap.size w w'):(Ac F).ok P f:=by
 refine⟨c,λds m m' fr _=>rfl,?_⟩;intro B w0 w m g fr ds vs r u hi a hl b z;simp only[Ac]at z;split at z
 ·rename_i q;rw[QZ]at z;obtain⟨r',n,z⟩:=z;simp only[QD]at z;obtain⟨rfl,rfl⟩:=z;obtain⟨y,v,x,o⟩:=h _ _ n;have t:vs=(ds.map D.un).map plV:=by
   apply List.ext_getElem?;intro j;by_cases hj:j<vs.length
   ·have k:j<ds.length:=by omega
    have e:=(b j _ _ (Qi k) (Qi hj)).un;have p:(ds.map D.un)[j]?=some ds[j].un:=by rw[Zv,Qi k];rfl
    rw[Qi hj,Zv,p,aMY e (y _ (List.mem_of_getElem? p))];rfl
   ·simp_all
  subst t;refine(o w).mono ?_;rintro ev w' ⟨rfl,hb⟩;exact⟨_,g.over w w',rfl,hi.over hb,GY.over hi.gz hb,x _ _,λi s _=>s⟩
 ·cases z
def IX:List D->Option D
 |[.str s,.str [c]]=>some (.int .i64 (Lib.indexByte s c))
 |_=>none
def aSD:Kq IX 164:=TD ⟨_,func164,Xa,Xa⟩ λds r h=>by
 unfold IX at h;split at h
 ·rename_i s c;simp only[Ql]at h;subst h;refine⟨λd p=>?_,_,λw g=> .int _ _,λw=>?_⟩
  ·simp only[QO,QV,or_false]at p;rcases p with rfl|rfl<;>rfl
  ·refine(Go.Proofs.Any.strings_Index_one (P:=Qe) (ρ:=aN) {aT with} ⟨s.toArray⟩ c w).mono ?_;rintro e i ⟨rfl,rfl⟩;exact⟨rfl,Below.refl _ _⟩
 ·cases h
def aSl:Kq IX 237:=TD ⟨_,func237,Xa,Xa⟩ λds r h=>by
 unfold IX at h;split at h
 ·rename_i s c;simp only[Ql]at h;subst h;refine⟨λd p=>?_,_,λw g=> .int _ _,λw=>?_⟩
  ·simp only[QO,QV,or_false]at p;rcases p with rfl|rfl<;>rfl
  ·refine(Go.Proofs.Any.stringslite_Index_one (P:=Qe) (ρ:=aN) {aT with} ⟨s.toArray⟩ c w).mono ?_;rintro e i ⟨rfl,rfl⟩;exact⟨rfl,Below.refl _ _⟩
 ·cases h
def aAu:∀(s:Bs)(c:UInt8),decide (0<=Lib.indexByte s c)=s.any (·==c)
 |[],c=>rfl
 |b::l,c=>by
  have ih:=aAu l c;unfold Lib.indexByte;cases hb:b==c with
  |true=>simp[hb]
  |false=>
   simp only[ZE,hb,ZF,←ih];rw[if_neg QL];cases h1:Lib.indexByte l c==-1 with
   |true=>rw[if_pos rfl];have:=beq_iff_eq.1 h1;rw[this]
   |false=>
    rw[if_neg QL];have i:Lib.indexByte l c≠-1:=by intro e;rw[e]at h1;simp at h1
    have q:-1<=Lib.indexByte l c:=by
     clear ih hb h1 i;induction l with
     |nil=>simp[Lib.indexByte]
     |cons x r ih=>unfold Lib.indexByte;split<;>first|omega|(split<;>omega)
    congr 1;exact propext O
def PF(s:Bs)(c:UInt8):Bool:=s.any (·==c)
def fF(s:Bs):Bool:=decide (s≠[])&&(decide (s≠[45])&&(decide (s.length<=64)&&(!PF s 32&&!PF s 44)))
def aT4:=Aq [(164,Ac IX)]
def aPq:=RF aT4 aKm [.t 4] 9
def aSx:Kq aPq 182:=An (Aj func182) (Aa aSD Ad)
def aHg(s:Bs)(c:UInt8):aPq [.str s,.str [c]]=some (.bool (PF s c)):=by
 refine Al (Qa rfl) ?_;unfold aKm;have a:IX [.str s,.str [c]]=some (.int .i64 (Lib.indexByte s c)):=rfl;have e:=aAu s c;simp only[↓C2,GA,Gy,simprocAttr,Ae aT4 164,a];rw[e]
 all_goals exact YR
def aOZ:=Aq [(182,Ac aPq)]
def aUw:=RF aOZ aLa [.t 2] 24
def aSQ:Kq aUw 120:=An (Aj func120) (Aa aSx Ad)
def aHA(s:Bs):aUw [.str s]=some (.bool (fF s)):=by
 refine Al (Qa rfl) ?_;unfold aLa;have a:=aHg s;unfold fF;by_cases c1:s=[]
 ·have r:=eq_true c1;simp only[↓C2,GA,Gy,simprocAttr,r]
  all_goals exact YR
 have r:=eq_false c1;by_cases p:s=[45]
 ·have x:=eq_true p;simp only[↓C2,GA,Gy,simprocAttr,r,x]
  all_goals exact YR
 have x:=eq_false p;by_cases o:s.length<=64
 ·have f:((s.length:Int)<=64)=True:=eq_true O;cases c4:PF s 32 with
  |true=>
   simp only[↓C2,GA,Gy,simprocAttr,r,x,f,c4,Ae aOZ 182,a]
   all_goals exact YR
  |false=>
   simp only[↓C2,GA,Gy,simprocAttr,r,x,f,c4,Ae aOZ 182,a]
   all_goals exact YR
 ·have f:((s.length:Int)<=64)=False:=eq_false O;simp only[↓C2,GA,Gy,simprocAttr,r,x,f]
  all_goals exact YR
def aOA:(It λc x=>match x with| .str s=>some (.bool (!fF s))|_=>none).ok Qe 119:=by
 obtain⟨S,w,hl⟩:=Bl (Aa aSQ Ad);have a:=hl 120 _ rfl;clear hl;refine Nn (S:=S) w (Aj func119:Fn Qe 119 6 aLb [.t 2]) (λx caps m fr c d j g n hl=>⟨O,?_⟩);split at g
 ·rename_i s;simp only[Ql]at g;subst g;have b:=aHA s;unfold aLb;simp only[↓C2,GA,Gy,simprocAttr,Ab a,b]
  try exact λi o y h=>h
 ·cases g
def KN:D->D->Option D:=λc x=>match x with| .str s=>some (.bool (!fF s))|_=>none
def aGd:(Fu 119 none KN).ok Qe 181:=M9 O aJy rfl aOA
def aOu:(dQ 119 none KN).ok Qe 118:=mY O aJC aGd
def sJ{l:List Bs}{nl:Bool}{t:Id}(hl:l.length<=1000000)(m:GB)(fr:Id):
  (dQ 119 none KN).ex [.slice nl t (strsD l),.fn 119 []] m fr=some (.bool (l.any λs=>!fF s),[]):=by
 have e:(strsD l).map (KN .junk)=(l.map λs=>!fF s).map λb=>some (.bool b):=by
  simp only[strsD,QR];exact Q3 λr _=>rfl
 have n:(strsD l).all (mI none)=true:=by
  rw[QT];intro x q;obtain⟨r,_,rfl⟩:=QB.1 q;rfl
 simp only[dQ,AM,hl,n,and_self,if_true,Fx,Qj,e,Di,Qv];simp only[Zt];rfl
def aVZ:=Aq []
def aPu:=RF aVZ aKp [.t 4] 26
def aSB:Kq aPu 179:=An (Aj func179) Ad
def aHl{n1 n2:Bool}{l:List Bs}(hl:l.length<=100000):aPu [.slice n1 [] (strsD l),.slice n2 [] (strsD l)]=some (.bool true):=by
 refine Al (Qa rfl) ?_;unfold aKp;simp only[↓C2,GD,GN,Gy,simprocAttr,AM];refine BI (n:=l.length) (I:=λj v=>v.s 0= .slice n1 [] (strsD l)∧v.s 1= .slice n2 [] (strsD l)∧v.s 12= .int .i64 l.length∧v.s 13= .int .i64 (j:Int)) (λj z ih v g x=>?_) (λv g x=>?_) 0 (Qu _) _ _ ⟨rfl,rfl,rfl,rfl⟩
 ·obtain⟨p,t,b⟩:=v;obtain⟨f,u,e,i⟩:=x;simp only at f u e i;refine Af Uu.eq_1 ?_;have y:((j:Int)<l.length):=by omega
  have w:=nJ (j:=j);have k:=wJ (j:=j) O;have m:=C_ z;simp only[↓C2,GA,Gy,simprocAttr,f,u,e,i,y,w,Qh,m];refine AY ?_;simp only[↓C2,GD,Gy,simprocAttr,i,k];exact ih _ _ ⟨f,u,e,rfl⟩
 ·obtain⟨f,u,e,i⟩:=x;refine Af Uu.eq_1 ?_;simp only[↓C2,GA,Gy,simprocAttr,e,i,Qz]
  all_goals exact YR
def aVP:=Aq []
def aPg:=RF aVP aJU [.t 4] 26
def aSj:Kq aPg 244:=An (Aj func244) Ad
def aG2{n1 n2:Bool}{l:List Rw}(hl:l.length<=100000):aPg [.slice n1 [] (A6 l),.slice n2 [] (A6 l)]=some (.bool true):=by
 refine Al (Qa rfl) ?_;unfold aJU;simp only[↓C2,GD,GN,Gy,simprocAttr,AQ];refine BI (n:=l.length) (I:=λj v=>v.s 0= .slice n1 [] (A6 l)∧v.s 1= .slice n2 [] (A6 l)∧v.s 12= .int .i64 l.length∧v.s 13= .int .i64 (j:Int)) (λj z ih v g x=>?_) (λv g x=>?_) 0 (Qu _) _ _ ⟨rfl,rfl,rfl,rfl⟩
 ·obtain⟨p,t,b⟩:=v;obtain⟨f,u,e,i⟩:=x;simp only at f u e i;refine Af Ur.eq_1 ?_;have y:((j:Int)<l.length):=by omega
  have w:=nJ (j:=j);have k:=wJ (j:=j) O;have m:=E9 z;have ta:Be [.int .i64 l[j].1,.bool l[j].2.1,.bool l[j].2.2] [.int .i64 l[j].1,.bool l[j].2.1,.bool l[j].2.2] [(0,0),(1,1),(1,2)]=some true:=by simp[Be,Lm]
  simp only[Qv,↓C2,GA,Gy,simprocAttr,f,u,e,i,y,w,Qh,m,ta];refine AY ?_;simp only[↓C2,GD,Gy,simprocAttr,i,k];exact ih _ _ ⟨f,u,e,rfl⟩
 ·obtain⟨f,u,e,i⟩:=x;refine Af Ur.eq_1 ?_;simp only[↓C2,GA,Gy,simprocAttr,e,i,Qz]
  all_goals exact YR
def aT5:=Aq [(244,Ac aPg)]
def aPt:=RF aT5 aKo [.t 4] 31
def aSA:Kq aPt 180:=An (Aj func180) (Aa aSj Ad)
def aHk(s:Sc)(hl:s.rs.length<=100000):aPt [.agg (GG s),.agg (GG s)]=some (.bool true):=by
 refine Al (Qa rfl) ?_;unfold aKo;have a:=aG2 (n1:=s.nl) (n2:=s.nl) hl;unfold GG;simp only[↓C2,GA,Gy,simprocAttr,Ae aT5 244,a]
 all_goals exact YR
def aUB:List D->Option D:=FX (λs:Bs=>[.str s]) (λ_=>True) (λs=> .str (if s=[]then [45]else s))
def U0(s:Bs):aUB [.str s]=some (.str (if s=[]then [45]else s)):=BV (mk:=λs:Bs=>[.str s]) (λa b h=>Xp) trivial
def aQU:Kq aUB 331:=by
 refine CS (S:=λ_=>none) A4 (Aj func331:Fn Qe 331 6 aJX [.t 2]) (λ_=>U) (λs _=>?_);unfold aJX;cases s with
 |nil=>
  simp only[↓C2,GA,reduceIte,Qb,Qd,and_self]
  all_goals exact YS
 |cons x r=>
  have z:((x::r)==([]:Bs))=false:=rfl;simp only[↓C2,GA,reduceIte,Qb,Qd,reduceCtorEq]
  all_goals exact YS
def Dx(n:Nat):Bs:=if n<10 then [Fv n]else if n<100 then [Fv (n / 10),Fv (n % 10)]else [Fv (n / 100),Fv (n / 10 % 10),Fv (n % 10)]
def aPL:List D->Option D:=FX (λn:Nat=>[.int .i64 (n:Int)]) (λn=>n<1000) (λn=> .str (Dx n))
def U1{n:Nat}(h:n<1000):aPL [.int .i64 (n:Int)]=some (.str (Dx n)):=BV (mk:=λn:Nat=>[.int .i64 (n:Int)]) (λa b h=>by simp only[Qc,D.int.injEq,true_and,and_true]at h;omega) h
def Ti(n:Nat):(n:Int).tmod 10=((n % 10:Nat):Int):=by rw[Int.tmod_eq_emod_of_nonneg O];omega
def Tj(n:Nat)(h:n<1000):IntKind.i64.wrap ((n:Int).tdiv 10)=((n / 10:Nat):Int):=by
 grind [GZ]
def aIM:Kq aPL 330:=by
 refine CS (S:=λ_=>none) A4 (Aj func330:Fn Qe 330 23 aJY [.t 2]) (λ_=>U) (λn r=>?_);have t0:=PD (n % 10) O;have j:=PD (n / 10 % 10) O;have k:=PD (n / 10 / 10 % 10) O;have m0:=Ti n;have a:=Ti (n / 10);have i:=Ti (n / 10 / 10);have m:=Tj n r;have q:=Tj (n / 10) O;have c:=Tj (n / 10 / 10) O;have z0:(0:Int)<=((n % 10:Nat):Int):=O
 have z:(0:Int)<=((n / 10 % 10:Nat):Int):=O
 have w:(0:Int)<=((n / 10 / 10 % 10:Nat):Int):=O
 have ten:((10:Int)=0)=False:=U
 unfold aJY Dx;by_cases u:n<10
 ·have g:¬((0:Int)<((n / 10:Nat):Int)):=by omega
  have e:n % 10=n:=O
  simp only[↓C2,GA,reduceIte,Qb,Qd,m0,z0,t0,m,ten,ne_eq,Qh,Qg,Qm,Qp];refine Af Hr.eq_1 ?_;simp only[↓C2,GA,reduceIte,Qb,Qd,g,u];rw[e,UInt8.ofNat_toNat]
  all_goals exact YS
 ·have g:((0:Int)<((n / 10:Nat):Int)):=by omega
  by_cases y:n<100
  ·have x:¬((0:Int)<((n / 10 / 10:Nat):Int)):=by omega
   have e:n / 10 % 10=n / 10:=O
   rw[e]at j a z;simp only[↓C2,GA,reduceIte,Qb,Qd,m0,z0,t0,m,ten,ne_eq,Qh,Qg,Qm,Qp];refine Af Hr.eq_1 ?_;simp only[↓C2,GA,reduceIte,Qb,Qd,g,a,z,j,q,ten,ne_eq,Qh,Qt,Qg,Qm,Qp,Qf];refine Af Hr.eq_1 ?_;simp only[↓C2,GA,reduceIte,Qb,Qd,x,u,y,UInt8.ofNat_toNat,Q0,Zl]
   all_goals exact YS
  ·have x:((0:Int)<((n / 10 / 10:Nat):Int)):=by omega
   have s:¬((0:Int)<((n / 10 / 10 / 10:Nat):Int)):=O
   have e:n / 10 / 10 % 10=n / 100:=O
   rw[e]at k i w;simp only[↓C2,GA,reduceIte,Qb,Qd,m0,z0,t0,m,ten,ne_eq,Qh,Qg,Qm,Qp];refine Af Hr.eq_1 ?_;simp only[↓C2,GA,reduceIte,Qb,Qd,g,a,z,j,q,ten,ne_eq,Qh,Qt,Qg,Qm,Qp,Qf];refine Af Hr.eq_1 ?_;simp only[↓C2,GA,reduceIte,Qb,Qd,x,i,w,k,c,ten,ne_eq,Qh,Qq,Qt,Qg,Qm,Qp,Qf];refine Af Hr.eq_1 ?_;simp only[↓C2,GA,reduceIte,Qb,Qd,s,u,y,UInt8.ofNat_toNat,Q0,Zl]
   all_goals exact YS
def aH3:List D->Option D:=FX (λs:Bs=>[.str s]) (λs=>s.length<=1000000) (λs=> .str (BQ s))
def MI{s:Bs}(h:s.length<=1000000):aH3 [.str s]=some (.str (BQ s)):=BV (mk:=λs:Bs=>[.str s]) (λa b h=>Xp) h
def aFP{S:Gz}{l:Bs}{Q:Ex->St->Prop}(f:l.length<=1000000)
  (i:∀v t,v.s 3= .slice false t (AF (BQ l))->Q (.exit 0) v):
  ∀(n k:Nat)(t:Id) v g,n=l.length-k->k<=l.length->v.s 13= .int .i64 (k:Int)->v.s 12= .int .i64 (l.length:Int)->v.s 11= .slice false [] (AF l)->v.s 3= .slice false t (AF (BQ (l.take k)))->Gw v.m v.c 5 false t->
   A9 S [] Ow Q v g:=by
 intro n;induction n with
 |zero=>
  intro k t v g hn w u e j p hg;refine Af Ow.eq_1 ?_;have:¬((k:Int)<l.length):=O
  simp only[↓C2,GD,GN,reduceIte,Qd,u,e,this];refine i _ t ?_;rw[QH O]at p;simp only[↓C2,reduceIte,Qb,p]
 |succ n ih=>
  intro k t v g hn w u e j p hg;refine Af Ow.eq_1 ?_;have y:((k:Int)<l.length):=O
  have oa:(0:Int)<=(k:Int):=O
  have x:k<l.length:=O
  have q:(AF l)[(k:Int).toNat]?=some (.int .u8 (l[k].toNat:Int)):=by simp[AF,x]
  have b:IntKind.i64.wrap ((k:Int)+1)=(k:Int)+1:=IntWalk.i64_in _ ⟨O,O⟩;have o:=l[k].toNat_lt;have z:l.take (k+1)=l.take k++[l[k]]:=by rw[Zg,Qi x];rfl
  have r:(l.take k).length=k:=Xc
  have a:(0:Int)<=4:=V
  have a1:=aUN l[k].toNat O;have a2:=aTU l[k].toNat O;have p1:(0:Int)<=((l[k].toNat / 16:Nat):Int):=O
  have p2:(0:Int)<=((l[k].toNat % 16:Nat):Int):=O
  have q1:(((l[k].toNat / 16:Nat):Int)).toNat=l[k].toNat / 16:=Qh _;have q2:(((l[k].toNat % 16:Nat):Int)).toNat=l[k].toNat % 16:=Qh _;have t1:=PD (l[k].toNat / 16) O;have t2:=PD (l[k].toNat % 16) O;simp only[↓C2,GA,reduceIte,Qb,Qd,Qg,Qm,u,e,j,p,y,oa,q,a,a1,a2,p1,p2,q1,q2,t1,t2,false_and,reduceCtorEq];refine As.intro ⟨by rw[Ci,hexB_len,r];omega,rfl,hg.grow O⟩ ?_;simp only[↓C2,GA,reduceIte,Qb,Qd];refine AY ?_;simp only[↓C2,GA,reduceIte,Qb,Qd,u,b];refine ih (k+1) [v.c+1+3+8] _ _ O O rfl e j ?_ ?_
  ·rw[z,qX,ET];rfl
  ·grind [Gw.new]
def yH:Kq aH3 14:=by
 refine CS (S:=λ_=>none) A4 (Aj func14:Fn Qe 14 29 aKe [.t 2]) (λ_=>U) (λs m=>?_);have k:IntKind.i64.wrap (2*(s.length:Int))=2*(s.length:Int):=IntWalk.i64_in _ ⟨O,O⟩;have o:(0:Int)<=0:=V
 have f:(0:Int)<=2*(s.length:Int):=O
 have w:2*(s.length:Int)*2<=140737488355328:=O
 have a:(0:Int).toNat=0:=rfl;unfold aKe;simp only[↓C2,GA,reduceIte,Qb,Qd,k,o,f];refine As.intro O ?_;simp only[↓C2,GD,reduceIte,Qb,Qd,a,List.replicate_zero,Ci];refine aFP (l:=s) m (λv z u=>?_) s.length 0 [4] _ _ rfl O rfl rfl rfl rfl (.inr ⟨4,rfl,Xb,by simp[BG]⟩);simp only[↓C2,GA,reduceIte,Qb,Qd,u,CZ]
 all_goals exact YS
end Go.Vd
namespace Go.Proofs
open Go.Shelf
def aP:Go.Shelf.Ren:=⟨λ|156=>69|165=>121|166=>122|169=>123|240=>183|241=>184|276=>245|277=>246|n=>n,λ|31=>23|9=>9|3=>3|4=>4|0=>0|20=>20|72=>196|76=>200|70=>194|37=>108|75=>199|127=>252|164=>309|5=>5|80=>159|n=>n,λ|n=>n⟩
def bA:Go.Proofs.Lays.n156 Qe aP:={
 mixed:=Xa
 f156:=func69.trans (congrArg some Xa)
 f165:=func121.trans (congrArg some Xa)
 f166:=func122.trans (congrArg some Xa)
 f169:=func123.trans (congrArg some Xa)
 f240:=func183.trans (congrArg some Xa)
 f241:=func184.trans (congrArg some Xa)
 f276:=func245.trans (congrArg some Xa)
 f277:=func246.trans (congrArg some Xa)
 t0:=underlying0
 a0:=isAgg0
 z0:=sizeOf0
 v0:=zeroValue0
 t3:=underlying3
 a3:=isAgg3
 z3:=sizeOf3
 v3:=zeroValue3
 t4:=underlying4
 a4:=isAgg4
 z4:=sizeOf4
 v4:=zeroValue4
 t9:=underlying9
 a9:=isAgg9
 z9:=sizeOf9
 v9:=zeroValue9
 t20:=underlying20
 a20:=isAgg20
 z20:=sizeOf20
 v20:=zeroValue20
 t31:=underlying23
 a31:=isAgg23
 z31:=sizeOf23
 v31:=zeroValue23
 t37:=underlying108
 a37:=isAgg108
 z37:=sizeOf108
 v37:=zeroValue108
 t70:=underlying194
 a70:=isAgg194
 z70:=sizeOf194
 v70:=zeroValue194
 t72:=underlying196
 a72:=isAgg196
 z72:=sizeOf196
 v72:=zeroValue196
 t75:=underlying199
 a75:=isAgg199
 z75:=sizeOf199
 v75:=zeroValue199
 t76:=underlying200
 a76:=isAgg200
 z76:=sizeOf200
 v76:=zeroValue200
 t127:=underlying252
 a127:=isAgg252
 z127:=sizeOf252
 v127:=zeroValue252
 t164:=underlying309
 a164:=isAgg309
 z164:=sizeOf309
 v164:=zeroValue309}
def aL:Builder.Extra Qe aP:={
 sizeBuilder:=Xa
 liesBuilder:=Xa
 t5:=underlying5
 a5:=isAgg5
 z5:=sizeOf5
 v5:=zeroValue5
 infoByte:=Xa
 cellsByte:=Xa
 sizeByte:=Xa
 neB5:=V}
end Go.Proofs
namespace Go.Vd
open Go.Proofs Go.RowKit
inductive Ry where
 |fail (e:Int)
 |done
 |number (n:Int)
 |found (n:Int) (d:Bs)
 |about (s:Sc)
 |names (nl:Bool) (l:List Bs)
 |state (b:Bool)
def z0:List D:=[.int .i64 0,.bool false,.int .i64 0,.slice true [] []]
def Hh:Ry->List D
 | .fail e=>[.int .u8 0,.int .i64 e,.int .i64 0,.str [],.slice true [] [],.int .i64 0,.bool false,.int .i64 0,.slice true [] [],.bool false]
 | .done=>[.int .u8 1,.int .i64 0,.int .i64 0,.str [],.slice true [] [],.int .i64 0,.bool false,.int .i64 0,.slice true [] [],.bool false]
 | .number n=>[.int .u8 2,.int .i64 0,.int .i64 n,.str [],.slice true [] [],.int .i64 0,.bool false,.int .i64 0,.slice true [] [],.bool false]
 | .found n d=>[.int .u8 3,.int .i64 0,.int .i64 n,.str d,.slice true [] [],.int .i64 0,.bool false,.int .i64 0,.slice true [] [],.bool false]
 | .about s=>[.int .u8 4,.int .i64 0,.int .i64 0,.str [],.slice true [] [],.int .i64 s.mx,.bool s.cas,.int .i64 s.la,.slice s.nl [] (A6 s.rs),.bool false]
 | .names nl l=>[.int .u8 5,.int .i64 0,.int .i64 0,.str [],.slice nl [] (strsD l),.int .i64 0,.bool false,.int .i64 0,.slice true [] [],.bool false]
 | .state b=>[.int .u8 6,.int .i64 0,.int .i64 0,.str [],.slice true [] [],.int .i64 0,.bool false,.int .i64 0,.slice true [] [],.bool b]
def aFc:Ry->Prop
 | .about s=>s.rs.length<=1000
 | .names _ l=>l.length<=1000
 |_=>True
def LE:Ry->Int
 | .fail e=>if 1<=e∧e<=99 then 0 else 2
 | .number n=>if 0<=n∧n<=999 then 0 else 2
 | .found n d=>if 0<=n∧n<=999∧d.length<=400 then 0 else 2
 | .about s=>if DL s 6=true then 2 else 0
 | .names _ l=>if l.length<=64∧(l.any λs=>!fF s)=false then 0 else 2
 |_=>0
def aO0:=Aq [(179,Ac aPu),(180,Ac aPt)]
def aHC:=RF aO0 aLd [.t 4] 52
def aSS:Kq aHC 116:=An (Aj func116) (Aa aSB (Aa aSA Ad))
def Gu(k e n:Int)(y:Bs)(nl:Bool)(l:List Bs)(s:Sc)(m:Bool)(hl:l.length<=1000)(r:s.rs.length<=1000):aHC [.agg [.int .u8 k,.int .i64 e,.int .i64 n,.str y,.slice nl [] (strsD l),.int .i64 s.mx,.bool s.cas,.int .i64 s.la,.slice s.nl [] (A6 s.rs),.bool m],.agg [.int .u8 k,.int .i64 e,.int .i64 n,.str y,.slice nl [] (strsD l),.int .i64 s.mx,.bool s.cas,.int .i64 s.la,.slice s.nl [] (A6 s.rs),.bool m]]=some (.bool true):=by
 refine Al (Qa rfl) ?_;unfold aLd;have b:=aHl (n1:=nl) (n2:=nl) (l:=l) O;have a:=aHk s O;unfold GG at a;simp only[GC,↓C2,Gy,simprocAttr,Ae aO0 179,b,Ae aO0 180,a]
 all_goals exact YR
def aFa(y:Ry)(h:aFc y):aHC [.agg (Hh y),.agg (Hh y)]=some (.bool true):=by
 have a:strsD []=[]:=rfl;have j:A6 []=[]:=rfl;cases y with
 |fail e=>exact Gu 0 e 0 [] true [] sc0 false U Xz
 |done=>exact Gu 1 0 0 [] true [] sc0 false U Xz
 |number n=>exact Gu 2 0 n [] true [] sc0 false U Xz
 |found n d=>exact Gu 3 0 n d true [] sc0 false U Xz
 |about s=>exact Gu 4 0 0 [] true [] s false U h
 |names nl l=>exact Gu 5 0 0 [] nl l sc0 false h Xz
 |state b=>exact Gu 6 0 0 [] true [] sc0 b U Xz
def aV6:=Aq []
def aPC:=RF aV6 aLc [.cell (some 10) 2] 52
def aSR:Kq aPC 117:=An (Aj func117) Ad
def aHB(y:Ry):aPC [.agg (Hh y)]=some (.agg (Hh y)):=by
 refine Al (Qa rfl) ?_;unfold aLc;cases y<;>unfold Hh
 all_goals
  simp only[GC,↓C2,Gy,simprocAttr]
  all_goals exact YR
def UW:=Aq [(117,Ac aPC),(116,Ac aHC),(25,Ac I0),(118,dQ 119 none KN)]
def R92:=RF UW aTn [.t 2] 73
def aVj:Kq R92 67:=An (Aj func67) (Aa aSR (Aa aSS (Aa Pw (Aa aOu Ad))))
def aO5(y:Ry)(h:aFc y):R92 [.agg (Hh y)]=some (.int .i64 (LE y)):=by
 refine Al (Qa rfl) ?_;unfold aTn;have a:=aHB y;have c:=aFa y h;cases y with
 |fail e=>
  unfold Hh LE at *;simp only[GC,↓C2,Gy,simprocAttr,Ae UW 117,a,Ae UW 116,c];refine AY ?_;by_cases c1:1<=e
  ·by_cases p:e<=99
   ·simp only[↓C2,GA,Gy,simprocAttr,c1,p]
    all_goals exact YR
   ·simp only[↓C2,GA,Gy,simprocAttr,c1,p]
    all_goals exact YR
  ·simp only[↓C2,GA,Gy,simprocAttr,c1]
   all_goals exact YR
 |done=>
  unfold Hh LE at *;simp only[GC,↓C2,Gy,simprocAttr,Ae UW 117,a,Ae UW 116,c];refine AY ?_;simp only[↓C2,GA,Gy,simprocAttr]
  all_goals exact YR
 |number n=>
  unfold Hh LE at *;simp only[GC,↓C2,Gy,simprocAttr,Ae UW 117,a,Ae UW 116,c];refine AY ?_;by_cases c1:0<=n
  ·by_cases p:n<=999
   ·simp only[↓C2,GA,Gy,simprocAttr,c1,p,Qm,Zr]
    all_goals exact YR
   ·simp only[↓C2,GA,Gy,simprocAttr,c1,p]
    all_goals exact YR
  ·simp only[↓C2,GA,Gy,simprocAttr,c1]
   all_goals exact YR
 |found n d=>
  unfold Hh LE at *;simp only[GC,↓C2,Gy,simprocAttr,Ae UW 117,a,Ae UW 116,c];refine AY ?_;by_cases c1:0<=n
  ·by_cases p:n<=999
   ·by_cases o:d.length<=400
    ·have f:((d.length:Int)<=400)=True:=eq_true O;simp only[↓C2,GA,Gy,simprocAttr,c1,p,f]
     all_goals exact YR
    ·have f:((d.length:Int)<=400)=False:=eq_false O;simp only[↓C2,GA,Gy,simprocAttr,c1,p,f]
     all_goals exact YR
   ·simp only[↓C2,GA,Gy,simprocAttr,c1,p]
    all_goals exact YR
  ·simp only[↓C2,GA,Gy,simprocAttr,c1]
   all_goals exact YR
 |about s=>
  have z:=Gt s 6 false h;unfold Tn GG at z;unfold Hh LE at *;simp only[GC,↓C2,Gy,simprocAttr,Ae UW 117,a,Ae UW 116,c];refine AY ?_;cases hb:DL s 6 with
  |true=>
   rw[hb]at z;simp only[if_true]at z;simp only[GC,↓C2,Gy,simprocAttr,Ae UW 25,z]
   all_goals exact YR
  |false=>
   rw[hb]at z;simp only[if_false,Qs]at z;simp only[GC,↓C2,Gy,simprocAttr,Ae UW 25,z]
   all_goals exact YR
 |names nl l=>
  have g:=λ(m:GB)(fr:Id)=>sJ (l:=l) (nl:=nl) (t:=[]) (by have:l.length<=1000:=h;omega) m fr
  unfold Hh LE at *;simp only[GC,↓C2,Gy,simprocAttr,Ae UW 117,a,Ae UW 116,c];refine AY ?_;by_cases c1:l.length<=64
  ·have r:((l.length:Int)<=64)=True:=eq_true O;cases p:l.any λs=>!fF s with
   |true=>
    rw[p]at g;simp only[↓C2,GA,Gy,simprocAttr,r,AM,AD UW 118,g]
    all_goals exact YR
   |false=>
    rw[p]at g;simp only[↓C2,GA,Gy,simprocAttr,r,AM,AD UW 118,g]
    all_goals exact YR
  ·have r:((l.length:Int)<=64)=False:=eq_false O;simp only[↓C2,GA,Gy,simprocAttr,r,AM]
   all_goals exact YR
 |state b=>
  unfold Hh LE at *;simp only[GC,↓C2,Gy,simprocAttr,Ae UW 117,a,Ae UW 116,c];refine AY ?_;simp only[↓C2,GA,Gy,simprocAttr]
  all_goals exact YR
def dgB:∀d:Fin 10,UInt8.ofNat (IntKind.u8.wrap (48+((d.val:Nat):Int))).toNat=Fv d.val:=V
def dgO(n:Nat):UInt8.ofNat (IntKind.u8.wrap (IntKind.i64.wrap (48+((n % 10:Nat):Int)))).toNat=Fv (n % 10):=by
 rw[GZ O O];exact dgB ⟨n % 10,O⟩
def un1(a:Int):BB [.int .u8 a]=some [UInt8.ofNat a.toNat]:=rfl
theorem EJ(n:Nat):(Dx n).length<=3:=by
 grind [Dx]
def aVW:=Aq []
def aHf:=RF aVW aKf [.t 2] 17
def aI6:Kq aHf 124:=An (Aj func124) Ad
def IT(n:Nat)(h:n<1000):aHf [.int .i64 (n:Int)]=some (.str (Dx n)):=by
 refine Al (Qa rfl) ?_;unfold aKf;have f:∀k:Nat,k<1000->IntKind.i64.wrap ((k:Int).tdiv 10)=((k / 10:Nat):Int):=Tj;have g:=f n h;have z:=f (n / 10) O;have m:=f (n / 10 / 10) O;have b:∀c:UInt8,AO .add (.str [c]) (.str [])=some (.str [c]):=λc=>Iv U
 have a1:∀c d:UInt8,AO .add (.str [c]) (.str [d])=some (.str [c,d]):=λc d=>Iv U
 have t:∀c d e:UInt8,AO .add (.str [c]) (.str [d,e])=some (.str [c,d,e]):=λc d e=>Iv U
 have y:∀k:Nat,AO .rem (.int .i64 (k:Int)) (.int .i64 10)=some (.int .i64 ((k % 10:Nat):Int)):=λk=>by rw[←Ti];rfl
 have v:∀k:Nat,AO .quo (.int .i64 (k:Int)) (.int .i64 10)=some (.int .i64 (IntKind.i64.wrap ((k:Int).tdiv 10))):=λk=>rfl
 unfold Dx;simp only[↓C2,GD,simprocAttr];refine Af Ox.eq_1 ?_;by_cases c1:n<10
 ·have i:(((n / 10:Nat):Int)=0)=True:=eq_true O;have w:n % 10=n:=by omega
  simp only[Qv,↓C2,GA,Gy,simprocAttr,y,v,g,dgO,b,i];rw[w,if_pos c1]
 ·have i:(((n / 10:Nat):Int)=0)=False:=eq_false O;simp only[Qv,↓C2,GA,Gy,simprocAttr,y,v,g,dgO,b,i];refine Af Ox.eq_1 ?_;by_cases p:n<100
  ·have w:(((n / 10 / 10:Nat):Int)=0)=True:=eq_true O;have x:n / 10 % 10=n / 10:=by omega
   simp only[Qv,↓C2,GA,Gy,simprocAttr,y,v,z,dgO,a1,w];rw[x,if_neg c1,if_pos p]
  ·have w:(((n / 10 / 10:Nat):Int)=0)=False:=eq_false O;simp only[Qv,↓C2,GA,Gy,simprocAttr,y,v,z,dgO,a1,w];refine Af Ox.eq_1 ?_;have a:(((n / 10 / 10 / 10:Nat):Int)=0)=True:=eq_true O;have z5:n / 10 / 10 % 10=n / 100:=by omega
   simp only[Qv,↓C2,GA,Gy,simprocAttr,y,v,m,dgO,t,a];rw[z5,if_neg c1,if_neg p]
def El(x:Rw):Bs:=Dx x.1.toNat++(if x.2.1=true then [33]else [])++(if x.2.2=true then [35]else [])
def aT3:=Aq [(124,Ac aHf)]
def aPp:=RF aT3 aKd [.t 2] 16
def aSw:Kq aPp 125:=An (Aj func125) (Aa aI6 Ad)
def aHe(x:Rw)(h:0<=x.1∧x.1<1000):aPp [.agg [.int .i64 x.1,.bool x.2.1,.bool x.2.2]]=some (.str (El x)):=by
 refine Al (Qa rfl) ?_;unfold aKd;have a:=IT x.1.toNat O;rw[Qx h.1]at a;have hl:=EJ x.1.toNat;unfold El;generalize Dx x.1.toNat=s at *;have a1:∀c:UInt8,AO .add (.str s) (.str [c])=some (.str (s++[c])):=λc=>Iv Xc
 have t:∀c d:UInt8,AO .add (.str (s++[c])) (.str [d])=some (.str (s++[c]++[d])):=λc d=>Iv Xc
 obtain⟨n,g,d⟩:=x;simp only at *;cases g<;>cases d
 all_goals
  simp only[↓C2,GA,Gy,simprocAttr,Ae aT3 124,a,a1,t]
  all_goals exact YR
def aVV:=Aq []
def aPo:=RF aVV aKc [.t 2] 4
def aSv:Kq aPo 126:=An (Aj func126) Ad
def aHd(b:Bool):aPo [.bool b]=some (.str [if b=true then 49 else 48]):=by
 refine Al (Qa rfl) ?_;unfold aKc;cases b
 all_goals
  simp only[↓C2,GD,Hp,Gy,simprocAttr]
  all_goals exact YR
def Sv(l:List Bs):Bs:=if l=[]then [45]else Lib.join l [44]
def aJd:Kq Wz 69:=aAt bA aL ⟨_,func69,Xa,Xa⟩
def Ww{l:List Bs}{s:Bs}(h:l≠[]∧l.length<=1000∧CA l<=1000000∧s.length<=1000∧(Lib.join l s).length<=10000000):Wz [.slice false [] (strsD l),.str s]=some (.str (Lib.join l s)):=BV (mk:=mkJ) (a:=(l,s)) aFJ h
def aT2:=Aq [(69,Ac Wz)]
def aPn:=RF aT2 aKb [.t 2] 8
def aSu:Kq aPn 127:=An (Aj func127) (Aa aJd Ad)
def nS(nl:Bool)(l:List Bs)(g:nl=true->l=[])(h:l.length<=1000∧CA l<=1000000∧(Lib.join l [44]).length<=10000000):aPn [.slice nl [] (strsD l)]=some (.str (Sv l)):=by
 refine Al (Qa rfl) ?_;unfold aKb;unfold Sv;by_cases c:l=[]
 ·have c':((l.length:Int)=0)=True:=eq_true (by rw[c];rfl);simp only[↓C2,GA,Gy,simprocAttr,c',AM];simp[c]
 ·have c':((l.length:Int)=0)=False:=eq_false (by
   intro e;exact c (QW.1 O))
  have a:nl=false:=by
   simp_all
  subst a;have m:=Ww (l:=l) (s:=[44]) ⟨c,h.1,h.2.1,U,h.2.2⟩;simp only[↓C2,GA,Gy,simprocAttr,c',AM,Ae aT2 69,m];simp[c]
def NB:Ry->List Bs
 | .fail e=>[[101,114,114,111,114],Dx e.toNat]
 | .done=>[[111,107]]
 | .number n=>[[111,107],[110,117,109,98,101,114],Dx n.toNat]
 | .found n d=>[[111,107],[102,111,117,110,100],Dx n.toNat,if d=[]then [45]else BQ d]
 | .about s=>[[111,107],[97,98,111,117,116],Dx s.mx.toNat,[if s.cas=true then 49 else 48],Dx s.la.toNat,Sv (s.rs.map El)]
 | .names _ l=>[[111,107],[110,97,109,101,115],Sv l]
 | .state b=>if b=true then [[111,107],[115,101,97,108,101,100]]else [[111,107],[111,112,101,110]]
def ryG:Ry->Prop
 | .fail e=>0<=e∧e<1000
 | .number n=>0<=n∧n<1000
 | .found n d=>0<=n∧n<1000∧d.length<=1000
 | .about s=>s.rs.length<=100∧(0<=s.mx∧s.mx<1000)∧(0<=s.la∧s.la<1000)∧∀x∈s.rs,0<=x.1∧x.1<1000
 | .names nl l=>l.length<=1000∧(nl=true->l=[])∧CA l<=1000000
 |_=>True
theorem join_len:∀(l:List Bs)(s:Bs),(Lib.join l s).length<=CA l+l.length*s.length
 |[],s=>XQ
 |[x],s=>by simp[Lib.join,CA]
 |x::y::r,s=>by
  have ih:=join_len (y::r) s;have e:Lib.join (x::y::r) s=x++s++Lib.join (y::r) s:=XQ
  rw[e,Qq,Qq];simp only[CA,Qg]at ih ⊢;rw[Nat.succ_mul];omega
def pY(x:Rw):(El x).length<=5:=by
 grind [EJ,El]
def O3:∀l:List Rw,CA (l.map El)<=5*l.length
 |[]=>by simp[CA]
 |x::r=>by
  have:=O3 r;have:=pY x;simp only[QE,CA,Qg];omega
def P8:=Aq [(124,Ac aHf),(126,Ac aPo),(127,Ac aPn),(125,Ac aPp),(14,Ac aH3)]
def aPB:=RF P8 aKS [.t 2] 78
def aSP:Kq aPB 70:=An (Aj func70) (Aa aI6 (Aa aSv (Aa aSu (Aa aSw (Aa yH Ad)))))
def aHy(y:Ry)(h:ryG y):aPB [.agg (Hh y)]=some (.slice false [] (strsD (NB y))):=by
 refine Al (Qa rfl) ?_;unfold aKS;cases y with
 |fail e=>
  have a:=IT e.toNat Yo;rw[Qx h.1]at a;unfold Hh NB strsD;simp only[↓C2,GA,Gy,simprocAttr,Ae P8 124,a]
  all_goals exact YR
 |done=>
  unfold Hh NB strsD;simp only[↓C2,GA,Gy,simprocAttr]
  all_goals exact YR
 |number n=>
  have a:=IT n.toNat Yo;rw[Qx h.1]at a;unfold Hh NB strsD;simp only[↓C2,GA,Gy,simprocAttr,Ae P8 124,a]
  all_goals exact YR
 |found n d=>
  have a:=IT n.toNat Yo;rw[Qx h.1]at a;have i:=MI (s:=d) (by have:=h.2.2;omega);unfold Hh NB strsD;by_cases c:d=[]
  ·have c':=eq_true c;simp only[↓C2,GA,Gy,simprocAttr,Ae P8 124,a,c'];simp[]
  ·have c':=eq_false c;simp only[↓C2,GA,Gy,simprocAttr,Ae P8 124,a,Ae P8 14,i,c'];simp[]
 |names nl l=>
  obtain⟨h1,h2,h3⟩:=h;have p:=nS nl l h2 ⟨h1,h3,by have:=join_len l [44];simp at this;omega⟩;unfold Hh NB;simp only[↓C2,GA,Gy,simprocAttr,Ae P8 127,p]
  all_goals exact YR
 |state b=>
  unfold Hh NB strsD;cases b with
  |true=>
   simp only[↓C2,GA,Gy,simprocAttr]
   all_goals exact YR
  |false=>
   simp only[↓C2,GA,Gy,simprocAttr]
   all_goals exact YR
 |about s=>
  obtain⟨g1,g2,g3,g4⟩:=h;have h1:=IT s.mx.toNat O;rw[Qx g2.1]at h1;have h2:=IT s.la.toNat O;rw[Qx g3.1]at h2;have r:=aHd s.cas;have u:=O3 s.rs;have p:=λnl hn=>nS nl (s.rs.map El) hn ⟨Xc,O,by have:=join_len (s.rs.map El) [44];simp at this;omega⟩
  unfold Hh NB;simp only[↓C2,GA,Gy,simprocAttr,AQ];refine BI (n:=s.rs.length) (I:=λj w=>w.s 38= .slice s.nl [] (A6 s.rs)∧w.s 39= .int .i64 s.rs.length∧w.s 40= .int .i64 (j:Int)∧w.s 1= .ptr [0] 0∧∃nl t,w.s 4= .slice nl t (strsD ((s.rs.take j).map El))∧nl=decide (j=0)∧LG 1 _ 9 w.m w.c nl t) (λj hj ih w g hI=>?_) (λw g hI=>?_) 0 (Qu _) _ _ ⟨rfl,rfl,rfl,rfl,true,[],rfl,rfl,LG.start Xb⟩
  ·obtain⟨ma,ia,ea⟩:=w;obtain⟨v,f,o,hp,nl,t,h4,pa,hG⟩:=hI;simp only at v f o hp h4 hG;refine Af UD.eq_1 ?_;have da:((j:Int)<s.rs.length):=by omega
   have oa:=nJ (j:=j);have hw:=wJ (j:=j) O;have ka:=E9 hj;have q:=aHe s.rs[j] (g4 _ (QX hj));have z:strsD ((s.rs.take (j+1)).map El)=strsD ((s.rs.take j).map El)++[.str (El s.rs[j])]:=by
    rw[QG hj,Q_];simp[strsD]
   have ra:(strsD ((s.rs.take j).map El)).length=j:=by simp[strsD];omega
   have na:nl=true->strsD ((s.rs.take j).map El)=[]:=by
    grind
   generalize strsD ((s.rs.take j).map El)=ca at h4 z ra na;generalize s.rs[j]=x at ka z q;simp only[GC,↓C2,Gy,simprocAttr,v,f,o,h4,da,oa,Qh,ka,Ae P8 125,q];refine As.intro ⟨O,rfl,Yr⟩ ?_;rw[B0 na,←z];simp only[↓C2,GD,simprocAttr,o,hw];exact ih _ _ ⟨v,f,rfl,hp,false,_,rfl,U,YO⟩
  ·obtain⟨ma,ia,ea⟩:=w;obtain⟨v,f,o,hp,nl,t,h4,pa,hG⟩:=hI;simp only at v f o hp h4 hG;refine Af UD.eq_1 ?_;have m0:∀k,ia [0] k=_:=λk=>hG.low 0 k O
   rw[Zi]at h4;have hh:=p nl (by
    rw[pa];intro h;have:s.rs.length=0:=Xp
    simp[QW.1 this])
   unfold strsD at h4 hh ⊢;simp only[↓C2,GA,Gy,simprocAttr,f,o,hp,h4,Qz,m0,Ae P8 124,h1,h2,Ae P8 126,r,Ae P8 127,hh];refine AY ?_;simp only[↓C2,GD,Hp,Gy,simprocAttr]
   all_goals exact YR
def spJ(l:List Bs):Bs:=Lib.join l [32]
def Hg(y:Ry):Bs:=if LE y=0 then spJ (NB y)else []
def wS(y:Ry):NB y≠[]:=by
 cases y<;>simp[NB];split<;>simp
end Go.Vd
namespace Go.Proofs
open Go.Shelf
def aO:Go.Shelf.Ren:=⟨λ|168=>255|169=>123|240=>183|242=>308|276=>245|278=>329|277=>246|n=>n,λ|31=>23|9=>9|3=>3|4=>4|0=>0|20=>20|21=>21|72=>196|76=>200|70=>194|37=>108|75=>199|127=>252|164=>309|5=>5|80=>159|46=>109|51=>268|n=>n,λ|n=>n⟩
def bG:Go.Proofs.Lays.n168 Qe aO:={
 mixed:=Xa
 f168:=func255.trans (congrArg some Xa)
 f240:=func183.trans (congrArg some Xa)
 f242:=func308.trans (congrArg some Xa)
 f276:=func245.trans (congrArg some Xa)
 f278:=func329.trans (congrArg some Xa)
 t0:=underlying0
 a0:=isAgg0
 z0:=sizeOf0
 v0:=zeroValue0
 t3:=underlying3
 a3:=isAgg3
 z3:=sizeOf3
 v3:=zeroValue3
 t4:=underlying4
 a4:=isAgg4
 z4:=sizeOf4
 v4:=zeroValue4
 t5:=underlying5
 a5:=isAgg5
 z5:=sizeOf5
 v5:=zeroValue5
 t9:=underlying9
 a9:=isAgg9
 z9:=sizeOf9
 v9:=zeroValue9
 t20:=underlying20
 a20:=isAgg20
 z20:=sizeOf20
 v20:=zeroValue20
 t21:=underlying21
 a21:=isAgg21
 z21:=sizeOf21
 v21:=zeroValue21
 t37:=underlying108
 a37:=isAgg108
 z37:=sizeOf108
 v37:=zeroValue108
 t46:=underlying109
 a46:=isAgg109
 z46:=sizeOf109
 v46:=zeroValue109
 t51:=underlying268
 a51:=isAgg268
 z51:=sizeOf268
 v51:=zeroValue268
 t70:=underlying194
 a70:=isAgg194
 z70:=sizeOf194
 v70:=zeroValue194
 t72:=underlying196
 a72:=isAgg196
 z72:=sizeOf196
 v72:=zeroValue196
 t75:=underlying199
 a75:=isAgg199
 z75:=sizeOf199
 v75:=zeroValue199
 t164:=underlying309
 a164:=isAgg309
 z164:=sizeOf309
 v164:=zeroValue309}
def bH:Go.Proofs.Lays.n169 Qe aO:={
 mixed:=Xa
 f169:=func123.trans (congrArg some Xa)
 t0:=underlying0
 a0:=isAgg0
 z0:=sizeOf0
 v0:=zeroValue0
 t3:=underlying3
 a3:=isAgg3
 z3:=sizeOf3
 v3:=zeroValue3
 t9:=underlying9
 a9:=isAgg9
 z9:=sizeOf9
 v9:=zeroValue9
 t37:=underlying108
 a37:=isAgg108
 z37:=sizeOf108
 v37:=zeroValue108
 t70:=underlying194
 a70:=isAgg194
 z70:=sizeOf194
 v70:=zeroValue194
 t72:=underlying196
 a72:=isAgg196
 z72:=sizeOf196
 v72:=zeroValue196
 t127:=underlying252
 a127:=isAgg252
 z127:=sizeOf252
 v127:=zeroValue252}
def bE:Builder.Extra Qe aO:={
 sizeBuilder:=Xa
 liesBuilder:=Xa
 t5:=underlying5
 a5:=isAgg5
 z5:=sizeOf5
 v5:=zeroValue5
 infoByte:=Xa
 cellsByte:=Xa
 sizeByte:=Xa
 neB5:=V}
end Go.Proofs
namespace Go.Ve
open Go.Vd
open Go.Proofs Go.RowKit
def six:List UInt8:=[114,119,100,120,108,115]
def Em(c:Nat):Nat->List UInt8
 |0=>[]
 |k+1=>Em c k++(if c / 2 ^ k % 2=1 then [six.getD k 0]else [])
structure aWb (w0:World) (c k:Nat) (a:Act) (w:World):Prop where
 slots:∃x4 x5 x7 x8 x9 x10 x11 x12 x13 x14 x15 x16 x17:Value,a={tmps:=#[.int .u8 (c:Int),undef,.string ⟨#[]⟩,.pointer (some ⟨w0.heap.size,0,none⟩),x4,x5,.pointer (some ⟨w0.heap.size+1,0,none⟩),x7,x8,x9,x10,x11,x12,x13,x14,x15,x16,x17,undef],defers:=[]}
 iter:w.heap[w0.heap.size+1]?=some (.stringIter ⟨#[114,119,100,120,108,115]⟩ k)
 bld:Lib.IsBuilderF 196 5 w0.heap.size w0.heap.size (Lib.byteCells (Em c k)) w
 bel:Below w0.heap.size w0 w
def VE{P:Program}{w:World}{b:Nat}{s:ByteArray}{z:Nat}{ty:TypeId}(h:w.heap[b]?=some (.stringIter s z))(g:z<s.size):
  (Instr.next (.pointer (some ⟨b,0,none⟩)) true ty).run P w= .ok (.tuple #[.bool true,.int .i64 (z:Nat),.int .i32 (Utf8.decode s z).1]) {w with heap:=w.heap.setIfInBounds b (.stringIter s (z+(Utf8.decode s z).2))}:=by
 have f:(getObj b).run P w= .ok (.stringIter s z) w:=by simp[getObj,Sem.run,h]
 have na:∀o',(setObj b o').run P w= .ok () {w with heap:=w.heap.setIfInBounds b o'}:=by intro o';simp[setObj,Sem.run,h]
 simp only[Instr.next,Sem.run_bind,f,Result.andThen_ok,g,if_true];cases hd:Utf8.decode s z with
 |mk c i=>
  simp only[na,Result.andThen_ok,Sem.run_pure];rfl
def To{P:Program}{w:World}{b:Nat}{s:ByteArray}{z:Nat}{ty:TypeId}(h:w.heap[b]?=some (.stringIter s z))(g:¬z<s.size):
  (Instr.next (.pointer (some ⟨b,0,none⟩)) true ty).run P w= .ok (.tuple #[.bool false]) w:=by
 have f:(getObj b).run P w= .ok (.stringIter s z) w:=by simp[getObj,Sem.run,h]
 simp only[Instr.next,Sem.run_bind,f,Result.andThen_ok,g,if_false,Sem.run_pure]
def aGm:∀k,k<6->Utf8.decode ⟨#[114,119,100,120,108,115]⟩ k=((six.getD k 0).toNat,1):=Xj
def aGE:∀c:Nat,c<64->∀k,k<6->(bits BinOp.and IntKind.u8 ((c:Int) / 2 ^ k) 1==1)=decide (c / 2 ^ k % 2=1):=Xj
def wW:∀k,k<6->Lib.runeCells (((six[k]?.getD 0).toNat:Nat):Int)=Lib.byteCells [six.getD k 0]
 |0,_=>rfl
 |1,_=>rfl
 |2,_=>rfl
 |3,_=>rfl
 |4,_=>rfl
 |5,_=>rfl
 |k+6,h=>absurd h O
def Sm(c:Nat):∀k,(Em c k).length<=k
 |0=>QC _
 |k+1=>by
  have:=Sm c k;unfold Em;rw[Qq];split<;>simp<;>omega
def MR{w:World}{i j:Nat}{o:Obj}(h:j≠i):(w.heap.setIfInBounds i o)[j]?=w.heap[j]?:=by
 grind
def aCp{w:World}{B b i:Nat}{bs:List Value}{o:Obj}{s:ByteArray}{p:Nat}(h:Lib.IsBuilderF 196 5 B b bs w)(hi:w.heap[i]?=some (.stringIter s p)):Lib.IsBuilderF 196 5 B b bs {w with heap:=w.heap.setIfInBounds i o}:=by
 have z:∀q,Lib.BuilderAtF 196 5 B b q bs w->Lib.BuilderAtF 196 5 B b q bs {w with heap:=w.heap.setIfInBounds i o}:=by
  rintro q ⟨u,v,y,h3,n⟩;have m:b≠i:=λe=>by rw[e,hi]at y;cases y
  refine⟨u,v,by show(w.heap.setIfInBounds i o)[b]?=_;rw[MR m];exact y,⟨h3.1,?_⟩,n⟩;rcases h3.2 with h|⟨g,cap,cur,fz,j,e2,f,t⟩
  ·exact .inl h
  ·have a:g≠i:=λe=>by rw[e,hi]at f;cases f
   exact .inr ⟨g,cap,cur,fz,j,e2,by show(w.heap.setIfInBounds i o)[g]?=_;rw[MR a];exact f,t⟩
 exact h.elim (λx=> .inl (z _ x)) (λx=> .inr (z _ x))
theorem tJ {B i : Nat} {w t : World} {o : Obj} (h : Below B w t) (m : B ≤ i) : Below B w { t with heap := t.heap.setIfInBounds i o } :=
 ⟨h.os, h.tape, h.output, by show _ ≤ (t.heap.setIfInBounds i o).size; rw [Array.size_setIfInBounds]; exact h.size, fun k s => by
  show (t.heap.setIfInBounds i o)[k]? = _
  rw [MR O]
  exact h.block k s⟩
theorem aUI(w:World)(c:Nat)(v:c<64):
  Calls Qe 200 #[.int .u8 (c:Int)] w λe w'=>e= .returned (.string ⟨(Em c 6).toArray⟩)∧Below w.heap.size w w':=by
 have u:(w.alloc (Obj.cells #[Value.pointer none,Value.slice none 0 0] 196)).heap.size=w.heap.size+1:=Array.size_push _
 go_enter func200,ntmps200
 go_wp2
 refine RX (λn a w'=>∃k,k<=6∧n=6-k∧aWb w c k a w') ?_ (n:=6) ⟨0,O,rfl,⟨⟨_,_,_,_,_,_,_,_,_,_,_,_,_,rfl⟩,?_,?_,?_⟩⟩
 ·rintro n a t ⟨k,hk,rfl,⟨x4,x5,x7,x8,x9,l,q,s,m,r,p,i,j,rfl⟩,hi,hb,hB⟩
  go_wp2
  by_cases y:k<6
  ·rw[VE hi (by show k<6;exact y),aGm k y];simp only[Result.andThen];rw[Oper.upon_value];have b:=aGE c v k y;have ab:=Sm c k;have g:(t.heap.setIfInBounds (w.heap.size+1) (.stringIter ⟨#[114,119,100,120,108,115]⟩ (k+1)))[w.heap.size+1]?=some (.stringIter ⟨#[114,119,100,120,108,115]⟩ (k+1)):=by
    grind
   have na:=aCp (o:= .stringIter ⟨#[114,119,100,120,108,115]⟩ (k+1)) hb hi;have f:=tJ (o:= .stringIter ⟨#[114,119,100,120,108,115]⟩ (k+1)) hB (Nat.le_succ w.heap.size);by_cases d:c / 2 ^ k % 2=1
   ·rw[decide_eq_true d]at b
    go_wp2_with fail
    refine(Go.Proofs.Any.Builder_WriteRune_k bG bE w.heap.size w.heap.size (Lib.byteCells (Em c k)) _ YK YK _ na (by simp[Lib.byteCells];omega) f.size).mono ?_;rintro e w3 ⟨rfl,x,ea,h⟩;rw[wW k y]at x
    go_wp2
    refine⟨6-(k+1),O,k+1,O,rfl,⟨⟨_,_,_,_,_,_,_,_,_,_,_,_,_,rfl⟩,?_,?_,f.trans ea⟩⟩
    ·exact h _ _ g U (λ_ _=>U)
    ·refine .inr ?_;have e:Em c (k+1)=Em c k++[six.getD k 0]:=by simp only[Em,d,if_true]
     rw[e];have z:Lib.byteCells (Em c k++[six.getD k 0])=Lib.byteCells (Em c k)++Lib.byteCells [six.getD k 0]:=by simp[Lib.byteCells]
     rw[z];exact x
   ·rw[decide_eq_false d]at b
    go_wp2_with fail
    refine⟨6-(k+1),O,k+1,O,rfl,⟨⟨_,_,_,_,_,_,_,_,_,_,_,_,_,rfl⟩,g,?_,f⟩⟩;have e:Em c (k+1)=Em c k:=by simp only[Em,d,if_false,QJ]
    rw[e];exact na
  ·rw[To hi (by show ¬k<6;exact y)];simp only[Result.andThen];rw[Oper.upon_value];obtain rfl:k=6:=by omega
   go_wp2_with fail
   refine(Go.Proofs.Any.Builder_String_any_f bH bE w.heap.size w.heap.size (Em c 6) t hb hB.size).mono ?_;rintro e w3 ⟨rfl,_,ea⟩
   go_wp2
   go_ret
   exact⟨rfl,hB.trans ea⟩
 ·have e:=heap_alloc_new (w.alloc (Obj.cells #[Value.pointer none,Value.slice none 0 0] 196)) (.stringIter ⟨#[114,119,100,120,108,115]⟩ 0);rw[u]at e;exact e
 ·refine .inl ⟨QC _,.slice none 0 0,?_,World.ownsRowF_nil _ _ _ _,by simp[Value.ownBlock]⟩;have:=heap_alloc_new w (Obj.cells #[Value.pointer none,Value.slice none 0 0] 196);exact(Below.heap_alloc _ _ _ (by rw[u];omega)).trans this
 ·exact((Below.refl _ w).alloc (QC _) _).alloc (by rw[u];omega) _
def eqBs:List UInt8->List UInt8->Bool
 |[],[]=>true
 |a::r,b::s=>a==b&&eqBs r s
 |_,_=>false
def eqBs_eq:∀{a b:List UInt8},eqBs a b=true->a=b
 |[],[],_=>rfl
 |a::r,b::s,h=>by
  simp only[eqBs,QY,beq_iff_eq]at h;rw[h.1,eqBs_eq h.2]
 |[],_::_,h=>Xd
 |_::_,[],h=>Xd
def lettersN(c:Nat):List UInt8:=
 (if c % 2=1 then [114]else [])++((if c / 2 % 2=1 then [119]else [])++((if c / 4 % 2=1 then [100]else [])++((if c / 8 % 2=1 then [120]else [])++((if c / 16 % 2=1 then [108]else [])++(if c / 32 % 2=1 then [115]else [])))))
theorem pick_letters:∀c:Nat,c<64->Em c 6=lettersN c:=Xj
def lay_calls{c:Nat}(h:c<64)(w:World):Calls Qe 200 #[.int .u8 (c:Nat)] w λe i=>e= .returned (.string ⟨(lettersN c).toArray⟩)∧Below w.heap.size w i:=by
 grind [aUI,pick_letters]
end Go.Ve
namespace Go.Vd
open Go.Proofs Go.RowKit
def lW:SB.ok Qe 69:=aAs bA aL ⟨_,func69,Xa,Xa⟩
def Wy{m:GB}{i fr:Id}{n:Nat}{l:List Bs}(g:n=l.length)(h:∀k x,l[k]?=some x->m i k=some (.str x))(u:l.length<=1000)(y:CA l<=1000000):
  SB.ex ([.row i n,.str [44]]++[]) m fr=some (.str (Bu l),[]):=by
 subst g;simp only[SB,QJ];rw[kL (j:=0) (λk x q=>by rw[Qp];exact h k x q),Qj,if_pos ⟨u,y⟩]
def RI.strs{r:Id}{m0 m:GB}{l:List Bs}(h:RI [] r m0 m l l.length):∀k x,l[k]?=some x->m r k=some (.str x):=by
 intro k x q;have s:=(QQ.1 q).1;rw[h.row k s,if_pos s];simp[Zx,q]
def LQ{l:List Bs}{b:Nat}(h:∀x∈l,x.length<=b):CA l<=b*l.length:=by
 induction l with
 |nil=>simp[CA]
 |cons x r ih=>
  have u:=h x (Zs ..);have f:=ih λy o=>h y (List.mem_cons_of_mem _ o)
  simp only[CA,Qg,ZJ];omega
def L_(n:Nat):(Dx n).length<=3:=by
 grind [Dx]
def CD(l:List Int):List Bs:=l.map λx=>Dx x.toNat
theorem DS(l:List Int):(CD l).length=l.length:=Qy ..
def aUA:List D->Option D:=FX (λp:Bool×List Int=>[.slice p.1 [] (AH p.2)]) (λp=>p.2.length<=1000∧∀x∈p.2,0<=x∧x<1000) (λp=> .str (Bu (CD p.2)))
def aH1{nl:Bool}{l:List Int}(h:l.length<=1000)(y:∀x∈l,0<=x∧x<1000):aUA [.slice nl [] (AH l)]=some (.str (Bu (CD l))):=
 BV (mk:=λp:Bool×List Int=>[.slice p.1 [] (AH p.2)]) (a:=(nl,l)) (λa b h=>by
  simp only[Qc,D.slice.injEq,true_and,and_true]at h;exact QU h.1 (IQ h.2)) ⟨h,y⟩
def aFN{S:Gz}{l:List Int}{nl:Bool}{m0:GB}{Q:Ex->St->Prop}(w:l.length<=1000)(q:∀x∈l,0<=x∧x<1000)(e:S 330=some (Ac aPL))
  (c:∀v,v.s 3= .row [3] l.length->RI [] [3] m0 v.m (CD l) l.length->Q (.exit 0) v):
  ∀(f j:Nat) v g,l.length=j+f->v.s 3= .row [3] l.length->v.s 9= .slice nl [] (AH l)->v.s 10= .int .i64 (l.length:Int)->v.s 11= .int .i64 (j:Int)->RI [] [3] m0 v.m (CD l) j->A9 S [] Ou Q v g:=by
 intro f;induction f with
 |zero=>
  intro j v g hf o i z qa I;refine Af Ou.eq_1 ?_;have:¬((j:Int)<l.length):=O
  simp only[↓C2,GD,GN,reduceIte,Qd,z,qa,this];exact c _ o X2
 |succ f ih=>
  intro j v g hf o i z qa I;refine Af Ou.eq_1 ?_;have u:j<l.length:=O
  have y:((j:Int)<l.length):=O
  have oa:=nJ (j:=j);have hw:=wJ (j:=j) O;have k:=q l[j] (QX u);obtain⟨n,r⟩:∃n:Nat,l[j]=(n:Int):=⟨l[j].toNat,O⟩;have ka:(AH l)[j]?=some (.int .i64 (n:Int)):=by simp[AH,Qi u,r]
  have a:(CD l).getD j []=Dx n:=by simp[CD,Qi u,r]
  have h:=U1 (n:=n) O;have p:=I.row j (by rw[DS];exact u);rw[if_neg O]at p;obtain⟨ma,t,b⟩:=v;simp only at o i z qa p I;simp only[↓C2,GA,reduceIte,Qb,Qd,o,i,z,qa,y,oa,hw,Qh,ka,p,Ab e,h,Au,Av,Qg,Qm,Qp,and_self,Qj,Qk,List.head?_cons];refine ih (j+1) _ _ O o i z rfl ?_;rw[←a];exact I.fill (ZC)
def aQT:Kq aUA 332:=by
 obtain⟨S,w,hl⟩:=Bl (Aa aIM (Aa lW Ad));have e:=hl 330 _ rfl;have a:=hl 69 _ rfl;clear hl;refine CS w (Aj func332:Fn Qe 332 24 aJW [.t 2]) (λ_=>U) (λp g=>?_);obtain⟨nl,l⟩:=p;obtain⟨hl,q⟩:=g;simp only at hl q;have j:((0:Int)<=(l.length:Int)):=O
 have k:((l.length:Int)*(((16:Nat):Int)+1)<=140737488355328)=True:=eq_true O;unfold aJW;simp only[↓C2,GD,Hp,reduceIte,Qb,Qd,j,k,Ez,Qh,ZA,Qg,Qm,Qp,and_self];refine aFN (l:=l) (nl:=nl) (m0:=λ_ _=>none) hl q e (λv o I=>?_) l.length 0 _ _ O rfl rfl rfl rfl ?_
 ·simp only[↓C2,GD,GN,reduceIte,Qd,o];rw[AE a];rw[←DS]at I;have r:CA (CD l)<=1000000:=by
   have:=LQ (l:=CD l) (b:=3) λx q=>by
    obtain⟨y,_,rfl⟩:=QB.1 q;exact L_ _
   rw[DS]at this;omega
  refine aI (Wy (DS l).symm I.strs (by rw[DS];exact hl) r) ?_;simp only[↓C2,GA,reduceIte,Qb,Qd]
  all_goals exact YS
 ·grind [RI.start,DS]
open Classical in
def aH2:List D->Option D
 |[.int .u8 c]=>if 0<=c∧c<64 then some (.str (Go.Ve.lettersN c.toNat))else none
 |_=>none
def aQW:Kq aH2 200:=by
 refine⟨⟨_,func200,Xa,Xa⟩,λds m m' fr _=>rfl,?_⟩;intro B w0 w m g fr ds vs r u hi t hl b z;simp only[Ac]at z;split at z
 ·rw[QZ]at z;obtain⟨y,n,z⟩:=z;simp only[QD]at z;obtain⟨rfl,rfl⟩:=z;unfold aH2 at n;split at n
  ·rename_i c e;split at n
   ·rename_i o;simp only[Ql]at n;subst n
    match ds,vs,hl with
    |[d],[v],_=>
     have p:d= .int .u8 c:=by
      simp only[QE,Q2,Qc,and_true]at e;cases d<;>simp[D.un]at e;rw[e.1,e.2]
     subst p;have x:=(b 0 _ v rfl rfl).int_inv;subst x;have a:((c.toNat:Nat):Int)=c:=Qx o.1;have:=Go.Ve.lay_calls (c:=c.toNat) O w;rw[a]at this;refine this.mono ?_;rintro e w' ⟨rfl,f⟩;exact⟨_,g.over w w',rfl,hi.over f,GY.over hi.gz f,.str _,λi s _=>s⟩
    |[],_,_=>simp at e
    |_::_::_,_,_=>simp at e
   ·cases n
  ·cases n
 ·cases z
def ND{l:List Rl}:∀f j,DR l f j=0->∀i,j<=i->i<j+f->i<l.length->(CL l i).2<=63
 |0,j,_,i,h1,h2,_=>O
 |f+1,j,h,i,h1,h2,hi=>by
  unfold DR at h;rw[if_pos O]at h;split at h
  ·omega
  ·rename_i o;rcases Nat.eq_or_lt_of_le h1 with rfl|h1
   ·grind [Hw,CL]
   ·exact ND f (j+1) h i O O hi
def MV{l:List Rl}(h:B3 l=0):l.length<=4∧∀r∈l,r.2<=63:=by
 unfold B3 at h;split at h
 ·cases h
 ·refine⟨O,λr n=>?_⟩;obtain⟨i,hi,rfl⟩:=Zp n;have:=ND l.length 0 h i (Qu _) O hi;simpa[CL,Qi hi]using this
def NE(r:Rl):Bs:=r.1++[58]++Go.Ve.lettersN r.2.toNat
def Bg(l:List Rl):List Bs:=l.map NE
theorem CC(l:List Rl):(Bg l).length=l.length:=Qy ..
def Fc(n:Nat):(Go.Ve.lettersN n).length<=6:=by
 unfold Go.Ve.lettersN;have h:∀(c:Prop)[Decidable c](x:UInt8),(if c then [x]else []).length<=1:=by
  intro c _ x;split<;>simp
 simp only[Qq];have u:=h (n % 2=1) 114;have y:=h (n / 2 % 2=1) 119;have p:=h (n / 4 % 2=1) 100;have r:=h (n / 8 % 2=1) 120;have s:=h (n / 16 % 2=1) 108;have g:=h (n / 32 % 2=1) 115;omega
def aFR{S:Gz}{l:List Rl}{nl:Bool}{m0:GB}{Q:Ex->St->Prop}(hb:l.length<=4)(q:∀r∈l,r.1.length<=1000∧0<=r.2∧r.2<64)(d:S 200=some (Ac aH2))
  (i:∀v,v.s 5= .row [9] l.length->RI [] [9] m0 v.m (Bg l) l.length->Q (.exit 0) v):
  ∀(f j:Nat) v g,l.length=j+f->10<=v.c->v.s 5= .row [9] l.length->v.s 16= .slice nl [] (Ar l)->v.s 17= .int .i64 (l.length:Int)->v.s 18= .int .i64 (j:Int)->RI [] [9] m0 v.m (Bg l) j->A9 S [] OC Q v g:=by
 intro f;induction f with
 |zero=>
  intro j v g e o h5 ua ta la I;refine Af OC.eq_1 ?_;have:¬((j:Int)<l.length):=O
  simp only[↓C2,GD,GN,reduceIte,Qd,ta,la,this];exact i _ h5 X2
 |succ f ih=>
  intro j v g e o h5 ua ta la I;refine Af OC.eq_1 ?_;have u:j<l.length:=O
  have y:((j:Int)<l.length):=O
  have oa:=nJ (j:=j);have p:=wJ (j:=j) O;obtain⟨k,na,b⟩:=q l[j] (QX u);have ka:(Ar l)[j]?=some (.agg [.str l[j].1,.int .u8 l[j].2]):=by simp[Ar,rlD,Qi u]
  have hg:(Bg l).getD j []=NE l[j]:=by simp[Bg,Qi u]
  generalize l[j]=r at k na b ka hg;have a:aH2 [.int .u8 r.2]=some (.str (Go.Ve.lettersN r.2.toNat)):=if_pos ⟨na,b⟩;have x:=I.row j (by rw[CC];exact u);rw[if_neg O]at x;have va:=Fc r.2.toNat;have l1:(r.1.length+1<=9223372036854775807)=True:=eq_true O;have l2:(r.1.length+1+(Go.Ve.lettersN r.2.toNat).length<=9223372036854775807)=True:=eq_true O;have w:([v.c+1+3]=([9]:Id))=False:=eq_false Xc;have z:(([9]:Id)=[v.c+1+3])=False:=eq_false Xc;obtain⟨ma,t,n⟩:=v;simp only at h5 ua ta la x I o w z;simp only[↓C2,GO,reduceIte,Qb,Qd,h5,ua,ta,la,y,oa,Qh,ka,x,Ab d,a,z,l1,l2,QC,Qq,Ah,Au,Av,Qr,Qj,QS,QP,Qk,false_and];refine AY ?_;simp only[↓C2,GD,Hp,reduceIte,Qb,Qd,la,p];refine ih (j+1) _ _ O Xb h5 ua ta rfl ?_;have wa:r.1++[58]++Go.Ve.lettersN r.2.toNat=(Bg l).getD j []:=hg.symm;rw[wa];exact((I.put Xc).put Xc).fill (ZC)
def aIc:List D->Option D:=FX (λp:Bool×List Rl=>[.slice p.1 [] (Ar p.2)]) (λp=>p.2.length<=1000000∧∀r∈p.2,r.1.length<=1000∧0<=r.2)
 (λp=> .tup [.str (if B3 p.2=0 then Bu (Bg p.2)else []),.int .i64 (B3 p.2)])
def U4{nl:Bool}{l:List Rl}(h:l.length<=1000000)(y:∀r∈l,r.1.length<=1000∧0<=r.2):aIc [.slice nl [] (Ar l)]=some (.tup [.str (if B3 l=0 then Bu (Bg l)else []),.int .i64 (B3 l)]):=
 BV (mk:=λp:Bool×List Rl=>[.slice p.1 [] (Ar p.2)]) (a:=(nl,l)) (λa b h=>by
  simp only[Qc,D.slice.injEq,true_and,and_true]at h;exact QU h.1 (VL h.2)) ⟨h,y⟩
open Classical in
def Rn{nl:Bool}{l:List Rl}(h:l.length<=1000000)(y:∀r∈l,r.1.length<=1000∧0<=r.2):uS [.slice nl [] (Ar l)]=some (.int .i64 (B3 l)):=by
 have o:Ar l=Ar (Bk (Ar l))∧(Ar l).length<=1000000∧Cj (Bk (Ar l)):=by
  rw[A0,AZ];exact⟨rfl,h,λr n=>Nat.le_trans (y r n).1 O⟩
 show(if _ then _ else _)=_;rw[if_pos o,A0]
def aIT:Kq aIc 136:=by
 obtain⟨S,o,hl⟩:=Bl (Aa V0 (Aa aQW (Aa lW Ad)));have w:=hl 168 _ rfl;have d:=hl 200 _ rfl;have a:=hl 69 _ rfl;clear hl;refine CS o (Aj func136:Fn Qe 136 36 aKO [.t 2,.t 3]) (λ_=>U) (λp hp=>?_);obtain⟨nl,l⟩:=p;obtain⟨hl,q⟩:=hp;simp only at hl q;have f:=Rn (nl:=nl) hl q;have hz:=MV (l:=l);simp only;unfold aKO;generalize B3 l=e at f hz;by_cases z:e=0
 ·subst z;obtain⟨m,g⟩:=hz rfl;have j:((0:Int)<=(l.length:Int)):=by omega
  have k:((l.length:Int)*(((16:Nat):Int)+1)<=140737488355328)=True:=eq_true O;simp only[↓C2,GA,reduceIte,Qb,Qd,Ab w,f,j,k,AZ,Qh,ZA,Qg,Qm,Qp,and_self];refine aFR (l:=l) (nl:=nl) (m0:=λ_ _=>none) m (λr n=>⟨(q r n).1,(q r n).2,by have:=g r n;omega⟩) d (λv c I=>?_) l.length 0 _ _ O Xb rfl rfl rfl rfl ?_
  ·simp only[↓C2,GD,GN,reduceIte,Qd,c];rw[AE a];rw[←CC]at I;have i:CA (Bg l)<=1000000:=by
    have:=LQ (l:=Bg l) (b:=1007) λx pa=>by
     obtain⟨y,hy,rfl⟩:=QB.1 pa;have u:=(q y hy).1;have h2:=Fc y.2.toNat;simp only[NE,Qq,Qg,Qm];omega
    rw[CC]at this;omega
   refine aI (Wy (CC l).symm I.strs (by rw[CC];omega) i) ?_;simp only[↓C2,GA,reduceIte,Qb,Qd]
   all_goals exact YS
  ·grind [RI.start,CC]
 ·simp only[↓C2,GA,reduceIte,Qb,Qd,Ab w,f,z,and_self]
  all_goals exact YS
def aLl:=y0 f44 [] []
def aLk:=y0 f101 [] []
def aLj:=y0 f259 [] []
def aLi:=y0 f260 [] []
def OI:=y1 f261 4 [] []
def aLh:=y0 f261 [] [(4,OI)]
def aKr:=y0 f310 [] []
def Un:=y1 f207 7 [] []
def aTq:=y0 f207 [] [(7,Un)]
def Nr{s:Bs}{p:Nat}{c:UInt8}(h:s[p]?=some c)(o:c.toNat<128):Utf8.decode ⟨s.toArray⟩ p=(c.toNat,1):=by
 have g:=(QQ.1 h).1;have j:GT s p=c.toNat:=by simp[GT,h]
 unfold Utf8.decode;simp only[Na,Za,j,o,if_true]
def PJ:List (Bs×Bs):=[([],[]),([115,116,97,116,117,115],[]),([117,110,115,101,97,108],[107]),([115,101,97,108],[116]),([114,111,116,97,116,101],[116]),([109,111,117,110,116],[116,112,110,102]),([117,110,109,111,117,110,116],[116,112]),([109,97,107,101],[116,109,114]),([114,101,118,111,107,101],[116,109]),([114,101,97,100],[116,112,110]),([119,114,105,116,101],[116,112,99,100]),([100,101,108,101,116,101],[116,112,108]),([117,110,100,101,108,101,116,101],[116,112,108]),([100,101,115,116,114,111,121],[116,112,108]),([109,101,116,97],[116,112]),([99,111,110,102,105,103],[116,112,110,102]),([112,117,114,103,101],[116,112]),([108,105,115,116],[116,112]),([99,111,112,121],[116,112,113])]
def A2(op:Int):Bs:=(PJ.getD op.toNat ([],[])).1
def Bj(op:Int):Bs:=(PJ.getD op.toNat ([],[])).2
def aAy(p:Bs×Bs):Option D->Bool
 |some (.agg [.str a,.str b])=>Go.Ve.eqBs a p.1&&Go.Ve.eqBs b p.2
 |_=>false
def uI:List D->Option D:=Nc (λ_=>none) 30 aLl [.cell (some 2) 2] 60
def lJ:Kq uI 44:=Nb A4 (Aj func44:Fn Qe 44 30 aLl [.cell (some 2) 2]) 60
def aC7:(ZD 256).all (λop=>aAy (PJ.getD op ([],[])) (uI [.int .u8 (op:Nat)]))=true:=Xa
def OR{op:Int}(f:0<=op)(h:op<256):uI [.int .u8 op]=some (.agg [.str (A2 op),.str (Bj op)]):=by
 have:=QT.1 aC7 op.toNat Xc;rw[Qx f]at this;unfold A2 Bj;generalize uI [.int .u8 op]=r at this;unfold aAy at this;split at this
 ·rw[QY]at this;rw[Go.Ve.eqBs_eq this.1,Go.Ve.eqBs_eq this.2]
 ·cases this
structure Hb (a:Ak):Prop where
 op0:0<=a.op
 op:a.op<256
 tk:a.tk.length<=1000
 pa:a.pa.length<=1000
 ot:a.ot.length<=1000
 ns:a.ns.length<=1000
 da:a.da.length<=1000
 rl:a.rs.length<=1000
 rs:∀r∈a.rs,r.1.length<=1000∧0<=r.2
 key:a.key.length<=1000
def Bb(a:Ak)(c:Int):Int:=if c=116 then BD (BM a.tk)else if c=109 then BD (BM a.ot)else if c=112 then AP a.pa else if c=113 then AP a.ot else if c=110 then BD (decide (0<=a.n∧a.n<=999))else if c=99 then BD (decide (-1<=a.cas∧a.cas<=999))else if c=108 then BD (countB a.ns)else if c=114 then B3 a.rs else if c=107 then BD (decide ((a.key.length:Int)=16))else 0
def aEp:List D->Option D:=FX (λp:Ak×Int=>[GW p.1,.int .i32 p.2]) (λp=>Hb p.1) (λp=> .int .i64 (Bb p.1 p.2))
def Hf{a:Ak}{c:Int}(h:Hb a):aEp [GW a,.int .i32 c]=some (.int .i64 (Bb a c)):=
 BV (mk:=λp:Ak×Int=>[GW p.1,.int .i32 p.2]) (a:=(a,c)) (λx y e=>by
  simp only[Qc,D.int.injEq,true_and,and_true]at e;exact QU (Fm e.1) e.2) h
def aIY:Kq aEp 101:=by
 obtain⟨S,hS,hl⟩:=Bl (Aa aRa (Aa aIS (Aa lI (Aa aIR (Aa aQ9 (Aa V0 Ad))))));have g:=hl 169 _ rfl;have e:=hl 97 _ rfl;have fa:=hl 107 _ rfl;have f:=hl 170 _ rfl;have i:=hl 171 _ rfl;have y:=hl 168 _ rfl;clear hl;refine CS hS (Aj func101:Fn Qe 101 58 aLk [.t 4]) (λ_=>U) (λp hp=>?_);obtain⟨a,c⟩:=p;simp only at hp;have hT:=oS (s:=a.tk) (by have:=hp.tk;omega);have hO:=oS (s:=a.ot) (by have:=hp.ot;omega);have hP:dK [.str a.pa]=some (.int .i64 (AP a.pa)):=if_pos (by have:=hp.pa;omega);have hQ:dK [.str a.ot]=some (.int .i64 (AP a.ot)):=if_pos (by have:=hp.ot;omega);have hN:uW [.int .i64 a.n,.int .i64 0,.int .i64 999]=some (.bool (decide (0<=a.n∧a.n<=999))):=rfl;have hC:uW [.int .i64 a.cas,.int .i64 (-1),.int .i64 999]=some (.bool (decide (-1<=a.cas∧a.cas<=999))):=rfl;have hL:=aIb (nl:=a.nln) (l:=a.ns) (by have:=hp.ns;omega);have hR:=Rn (nl:=a.nlr) (l:=a.rs) (by have:=hp.rl;omega) hp.rs;unfold Bb aLk GW GV;simp only;by_cases b:c=116
 ·subst b;simp only[↓C2,GO,simprocAttr,Ab g,hT,Ab e,Hd,Ah]
  all_goals exact YS
 have o:decide (c=116)=false:=by simpa using b
 by_cases z:c=109
 ·subst z;simp only[↓C2,GO,simprocAttr,Ab g,hO,Ab e,Hd,Ah]
  all_goals exact YS
 have v:decide (c=109)=false:=XK
 by_cases ea:c=112
 ·subst ea;simp only[↓C2,GO,simprocAttr,Ab fa,hP,Ah]
  all_goals exact YS
 have u:decide (c=112)=false:=by simpa using ea
 by_cases ba:c=113
 ·subst ba;simp only[↓C2,GO,simprocAttr,Ab fa,hQ,Ah]
  all_goals exact YS
 have r:decide (c=113)=false:=by simpa using ba
 by_cases d:c=110
 ·subst d;simp only[↓C2,GO,simprocAttr,Ab f,hN,Ab e,Hd,Ah]
  all_goals exact YS
 have k:decide (c=110)=false:=by simpa using d
 by_cases ga:c=99
 ·subst ga;simp only[↓C2,GO,simprocAttr,Ab f,hC,Ab e,Hd,Ah]
  all_goals exact YS
 have w:decide (c=99)=false:=by simpa using ga
 by_cases h108:c=108
 ·subst h108;simp only[↓C2,GO,simprocAttr,Ab i,hL,Ab e,Hd,Ah]
  all_goals exact YS
 have m:decide (c=108)=false:=by simpa using h108
 by_cases x:c=114
 ·subst x;simp only[↓C2,GO,simprocAttr,Ab y,hR,Ah]
  all_goals exact YS
 have q:decide (c=114)=false:=by simpa using x
 by_cases h:c=107
 ·subst h;simp only[↓C2,GO,simprocAttr,Ab e,Hd,Ah]
  all_goals exact YS
 have j:decide (c=107)=false:=Xp
 simp only[↓C2,GA,simprocAttr,b,z,ea,ba,d,ga,h108,x,h,Qp,and_self]
 all_goals exact YS
def CY(a:Ak)(c:Int):Ak:=if c=116 then {a with tk:=[]}else if c=112 then {a with pa:=[]}else if c=109∨c=113 then {a with ot:=[]}else if c=110 then {a with n:=0}else if c=99 then {a with cas:=0}else if c=102 then {a with fl:=false}else if c=108 then {a with nln:=true,ns:=[]}else if c=100 then {a with da:=[]}else if c=114 then {a with nlr:=true,rs:=[]}else if c=107 then {a with key:=[]}else a
def aIu:List D->Option D:=FX (λp:Ak×Int=>[GW p.1,.int .i32 p.2]) (λp=>True) (λp=>GW (CY p.1 p.2))
def aIt{a:Ak}{c:Int}:aIu [GW a,.int .i32 c]=some (GW (CY a c)):=
 BV (mk:=λp:Ak×Int=>[GW p.1,.int .i32 p.2]) (a:=(a,c)) (λx y e=>by
  simp only[Qc,D.int.injEq,true_and,and_true]at e;exact QU (Fm e.1) e.2) trivial
def aRu:Kq aIu 259:=by
 refine CS (S:=λ_=>none) A4 (Aj func259:Fn Qe 259 38 aLj [.cell (some 11) 4]) (λ_=>U) (λp y=>?_);obtain⟨a,c⟩:=p;unfold CY aLj GW GV;simp only;by_cases b:c=116
 ·subst b;simp only[↓C2,GO,simprocAttr,or_self,Ah,Au,Av,Qj,Qk,Qc,Qn,and_false,Qf,Bm,AU]
  all_goals exact YS
 by_cases n:c=112
 ·subst n;simp only[↓C2,GO,simprocAttr,or_self,Ah,Au,Av,Qj,Qk,Qc,Qn,and_false,Qf,Bm,AU]
  all_goals exact YS
 by_cases z:c=109
 ·subst z;simp only[↓C2,GO,simprocAttr,true_or,Ah,Au,Av,Qj,Qk,Qc,Qn,and_false,Qf,Bm,AU]
  all_goals exact YS
 by_cases r:c=113
 ·subst r;simp only[↓C2,GO,simprocAttr,or_true,Ah,Au,Av,Qj,Qk,Qc,Qn,and_false,Qf,Bm,AU]
  all_goals exact YS
 by_cases d:c=110
 ·subst d;simp only[↓C2,GO,simprocAttr,or_self,Ah,Au,Av,Qj,Qk,Qc,Qn,and_false,Qf,Bm,AU]
  all_goals exact YS
 by_cases q:c=99
 ·subst q;simp only[↓C2,GO,simprocAttr,or_self,Ah,Au,Av,Qj,Qk,Qc,Qn,and_false,Qf,Bm,AU]
  all_goals exact YS
 by_cases f:c=102
 ·subst f;simp only[↓C2,GO,simprocAttr,or_self,Ah,Au,Av,Qj,Qk,Qc,Qn,and_false,Qf,Bm,AU]
  all_goals exact YS
 by_cases h108:c=108
 ·subst h108;simp only[↓C2,GO,simprocAttr,or_self,Ah,Au,Av,Qj,Qk,Qc,Qn,and_false,Qf,Bm,AU]
  all_goals exact YS
 by_cases g:c=100
 ·subst g;simp only[↓C2,GO,simprocAttr,or_self,Ah,Au,Av,Qj,Qk,Qc,Qn,and_false,Qf,Bm,AU]
  all_goals exact YS
 by_cases x:c=114
 ·subst x;simp only[↓C2,GO,simprocAttr,or_self,Ah,Au,Av,Qj,Qk,Qc,Qn,and_false,Qf,Bm,AU]
  all_goals exact YS
 by_cases h:c=107
 ·subst h;simp only[↓C2,GO,simprocAttr,or_self,Ah,Au,Av,Qj,Qk,Qc,Qn,and_false,Qf,Bm,AU]
  all_goals exact YS
 simp only[↓C2,GO,simprocAttr,b,n,z,r,d,q,f,h108,g,x,h,or_self,Ah,Au,Av,Qj,Qk,Qc,Qn,Qf,Bm,AU]
 all_goals exact YS
def U8(s:Bs):Bs:=if s=[]then [45]else s
def L7(a:Ak)(c:Int):Bs:=if c=116 then a.tk else if c=112 then a.pa else if c=109∨c=113 then a.ot else if c=110 then Dx a.n.toNat else if c=99 then(if a.cas=-1 then [45]else Dx a.cas.toNat)
 else if c=102 then(if a.fl=true then [49]else [48])else if c=108 then U8 (Bu (CD a.ns))else if c=100 then U8 (BQ a.da)else if c=114 then U8 (if B3 a.rs=0 then Bu (Bg a.rs)else [])else BQ a.key
structure S6 (a:Ak) (c:Int):Prop where
 n:c=110->0<=a.n∧a.n<1000
 cas:c=99->-1<=a.cas∧a.cas<1000
 ns:c=108->∀x∈a.ns,0<=x∧x<1000
def aH9:List D->Option D:=FX (λp:Ak×Int=>[GW p.1,.int .i32 p.2]) (λp=>Hb p.1∧S6 p.1 p.2) (λp=> .str (L7 p.1 p.2))
def aH8{a:Ak}{c:Int}(h:Hb a)(f:S6 a c):aH9 [GW a,.int .i32 c]=some (.str (L7 a c)):=
 BV (mk:=λp:Ak×Int=>[GW p.1,.int .i32 p.2]) (a:=(a,c)) (λx y e=>by
  simp only[Qc,D.int.injEq,true_and,and_true]at e;exact QU (Fm e.1) e.2) ⟨h,f⟩
def aQ6:Kq aH9 310:=by
 obtain⟨S,hS,hl⟩:=Bl (Aa aIM (Aa aQU (Aa aQT (Aa yH (Aa aIT Ad)))));have e:=hl 330 _ rfl;have k:=hl 331 _ rfl;have q:=hl 332 _ rfl;have m:=hl 14 _ rfl;have r:=hl 136 _ rfl;clear hl;refine CS hS (Aj func310:Fn Qe 310 63 aKr [.t 4]) (λ_=>U) (λp y=>?_);obtain⟨a,c⟩:=p;obtain⟨y,hN,hC,hL⟩:=y;simp only at y hN hC hL;unfold L7 U8 aKr GW GV;simp only;by_cases b:c=116
 ·subst b;simp only[↓C2,GO,simprocAttr,or_self,Ah]
  all_goals exact YS
 by_cases ea:c=112
 ·subst ea;simp only[↓C2,GO,simprocAttr,or_self,Ah]
  all_goals exact YS
 by_cases z:c=109
 ·subst z;simp only[↓C2,GO,simprocAttr,true_or,Ah]
  all_goals exact YS
 by_cases w:c=113
 ·subst w;simp only[↓C2,GO,simprocAttr,or_true,Ah]
  all_goals exact YS
 by_cases d:c=110
 ·subst d;have hn:=hN rfl;obtain⟨n,ha⟩:∃n:Nat,a.n=(n:Int):=⟨a.n.toNat,O⟩;have h:=U1 (n:=n) O;rw[ha];simp only[↓C2,GO,simprocAttr,Ab e,h,Qh,or_self,Ah]
  all_goals exact YS
 by_cases ga:c=99
 ·subst ga;have v:=hC rfl;by_cases u:a.cas=-1
  ·rw[u];simp only[↓C2,GO,simprocAttr,or_self,Ah]
   all_goals exact YS
  ·obtain⟨n,ha⟩:∃n:Nat,a.cas=(n:Int):=⟨a.cas.toNat,O⟩;have h:=U1 (n:=n) O;rw[ha]at u ⊢;simp only[↓C2,GO,simprocAttr,u,Ab e,h,Qh,or_self,Ah]
   all_goals exact YS
 by_cases f:c=102
 ·subst f;cases a.fl<;>simp only[↓C2,GO,simprocAttr,or_self,Ah]
  all_goals exact YS
 by_cases h108:c=108
 ·subst h108;have hl:=hL rfl;have o:=aH1 (nl:=a.nln) (l:=a.ns) y.ns hl;simp only[↓C2,GO,simprocAttr,Ab q,o,Ab k,U0,or_self,Ah]
  all_goals exact YS
 by_cases g:c=100
 ·subst g;have i:=MI (s:=a.da) (by have:=y.da;omega);simp only[↓C2,GO,simprocAttr,Ab m,i,Ab k,U0,or_self,Ah]
  all_goals exact YS
 by_cases x:c=114
 ·subst x;have j:=U4 (nl:=a.nlr) (l:=a.rs) (by have:=y.rl;omega) y.rs;simp only[↓C2,GO,simprocAttr,Ab r,j,Ab k,U0,or_self,Ah]
  all_goals exact YS
 have i:=MI (s:=a.key) (by have:=y.key;omega);simp only[↓C2,GO,simprocAttr,Ab m,i,b,ea,z,w,d,ga,f,h108,g,x,or_self,Ah]
 all_goals exact YS
def OU(a:Ak):Bool:=a.ns.isEmpty&&(a.rs.isEmpty&&(decide (a.op=0)&&(decide (a.tk=[])&&(decide (a.pa=[])&&(decide (a.ot=[])&&(decide (a.n=0)&&(decide (a.cas=0)&&(!a.fl&&(decide (a.da=[])&&decide (a.key=[]))))))))))
def ak0:Ak:=⟨0,[],[],[],0,0,false,true,[],[],true,[],[]⟩
def aPO:List D->Option D:=FX (λa:Ak=>[GW a,GW ak0]) (λa=>Hb a) (λa=> .bool (OU a))
def aIs{a:Ak}(h:Hb a):aPO [GW a,GW ak0]=some (.bool (OU a)):=
 BV (mk:=λa:Ak=>[GW a,GW ak0]) (λx y e=>by
  simp only[Qc,and_true]at e;exact Fm e) h
def aQ7:Kq aIa 132:=by
 obtain⟨S,w,hl⟩:=Bl (Aa aQV Ad);have b:=hl 197 _ rfl;clear hl;refine CS w aJB (λ_=>U) (λp r=>?_);have a:=U2 (nl:=p.1) (nl':=p.2.2) (l:=p.2.1) r;unfold mR;by_cases e:(([D.slice p.1 [] p.2.1,.slice p.2.2 [] []]:List D).map D.un).all D.calm=true
 ·simp only[↓C2,GA,simprocAttr,Ab b,a,and_self]
  all_goals exact YS
 ·exact absurd rfl e
def aRt:Kq aPO 260:=by
 obtain⟨S,w,hl⟩:=Bl (Aa aQ8 (Aa aQ7 Ad));have d:=hl 309 _ rfl;have e:=hl 132 _ rfl;clear hl;refine CS w (Aj func260:Fn Qe 260 82 aLi [.t 4]) (λ_=>U) (λa g=>?_);have c:=U2 (nl:=a.nln) (nl':=true) (l:=AH a.ns) (by rw[Ez];have:=g.ns;omega);have b:=U2 (nl:=a.nlr) (nl':=true) (l:=Ar a.rs) (by rw[AZ];have:=g.rl;omega);have j:(AH a.ns).isEmpty=a.ns.isEmpty:=by cases a.ns<;>rfl
 have m:(Ar a.rs).isEmpty=a.rs.isEmpty:=by cases a.rs<;>rfl
 rw[j]at c;rw[m]at b;unfold OU aLi GW GV ak0;simp only;generalize a.ns.isEmpty=o at c;generalize a.rs.isEmpty=f at b;have n1:AH ([]:List Int)=[]:=rfl;have n2:Ar ([]:List Rl)=[]:=rfl;cases o with
 |false=>
  simp only[↓C2,GO,simprocAttr,n1,n2,Ab d,c,QA,Ah,Qc,Qn,Qf]
  all_goals exact YS
 |true=>
  cases f with
  |false=>
   simp only[↓C2,GO,simprocAttr,n1,n2,Ab d,c,Ab e,b,QA,QN,Ah,Qc,Qn,Qf]
   all_goals exact YS
  |true=>
   simp only[Zq];by_cases v:a.op=0
   ·by_cases x:a.tk=[]
    ·by_cases s:a.pa=[]
     ·by_cases r:a.ot=[]
      ·by_cases k:a.n=0
       ·by_cases i:a.cas=0
        ·cases g7:a.fl with
         |false=>
          by_cases u:a.da=[]
          ·simp only[↓C2,GO,simprocAttr,n1,n2,Ab d,c,Ab e,b,Ah,Qc,Qn,Qf,v,x,s,r,k,i,u]
           trace_state
           all_goals exact YS
          ·simp only[↓C2,GO,simprocAttr,n1,n2,Ab d,c,Ab e,b,QA,QN,Ah,Qc,Qn,Qf,v,x,s,r,k,i,u]
           all_goals exact YS
         |true=>
          simp only[↓C2,GO,simprocAttr,n1,n2,Ab d,c,Ab e,b,QA,QN,Ah,Qc,Qn,Qf,v,x,s,r,k,i]
          all_goals exact YS
        ·simp only[↓C2,GO,simprocAttr,n1,n2,Ab d,c,Ab e,b,QA,QN,Ah,Qc,Qn,Qf,v,x,s,r,k,i]
         all_goals exact YS
       ·simp only[↓C2,GO,simprocAttr,n1,n2,Ab d,c,Ab e,b,QA,QN,Ah,Qc,Qn,Qf,v,x,s,r,k]
        all_goals exact YS
      ·simp only[↓C2,GO,simprocAttr,n1,n2,Ab d,c,Ab e,b,QA,QN,Ah,Qc,Qn,Qf,v,x,s,r]
       all_goals exact YS
     ·simp only[↓C2,GO,simprocAttr,n1,n2,Ab d,c,Ab e,b,QA,QN,Ah,Qc,Qn,Qf,v,x,s]
      all_goals exact YS
    ·simp only[↓C2,GO,simprocAttr,n1,n2,Ab d,c,Ab e,b,QA,QN,Ah,Qc,Qn,Qf,v,x]
     all_goals exact YS
   ·simp only[↓C2,GO,simprocAttr,n1,n2,Ab d,c,Ab e,b,QA,Ah,Qc,Qn,Qf,v]
    all_goals exact YS
theorem Ay{m:GB}{i j:Id}{o:Nat}{ds:List D}(h:j≠i):∀{n p:Nat},Ag (m.put i o ds) j p n=Ag m j p n
 |0,p=>rfl
 |n+1,p=>by
  simp only[Ag,aA h];rw[Ay h]
theorem TC{i:Id}:∀{ds:List D} {m:GB} {p:Nat},(∀k d,ds[k]?=some d->m i (p+k)=some d)->Ag m i p ds.length=some ds
 |[],m,p,_=>rfl
 |d::r,m,p,h=>by
  have f:=h 0 d rfl;rw[Za]at f;have n:=TC (ds:=r) (m:=m) (p:=p+1) λk x q=>by
   have:=h (k+1) x Xw;rw[show p+1+k=p+(k+1)by omega];exact this
  simp only[Qg,Ag,f,n,Qv]
theorem Ax{m:GB}{i:Id}{ds:List D}{n:Nat}(h:ds.length=n):Ag (m.put i 0 ds) i 0 n=some ds:=by
 grind [TC,Ah]
def LV{m:GB}{i:Id}{o:Nat}:Ag m i o 1=(m i o).map λd=>[d]:=by
 grind [Ag]
def BK(a:Ak):(GV a).map D.un1=GV a:=rfl
def BL(a:Ak):(GV a).all D.calm1=true:=rfl
def AN(a:Ak):D.cells (.agg (GV a))=GV a:=rfl
theorem AT(a:Ak):(GV a).length=11:=rfl
def Ws{a:Ak}{c:Int}(h:Hb a):(L7 a c).length<=100000:=by
 obtain⟨_,_,u,f,p,r,h5,g,e,h8⟩:=h;have n1:=L_ a.n.toNat;have n2:=L_ a.cas.toNat;have oN:∀s:Bs,s.length<=100000->(U8 s).length<=100000:=by
  grind [U8]
 have t:(Bu (CD a.ns)).length<=100000:=by
  have j:=FU (CD a.ns);have m:=LQ (l:=CD a.ns) (b:=3) λx q=>by
   obtain⟨y,_,rfl⟩:=QB.1 q;exact L_ _
  rw[DS]at j m;omega
 have k:(if B3 a.rs=0 then Bu (Bg a.rs)else []).length<=100000:=by
  split
  ·rename_i i;have v:=(MV i).1;have j:=FU (Bg a.rs);have m:=LQ (l:=Bg a.rs) (b:=1007) λx q=>by
    obtain⟨y,o,rfl⟩:=QB.1 q;have u:=(e y o).1;have f:=Fc y.2.toNat;simp only[NE,Qq,Qg,Qm];omega
   rw[CC]at j m;omega
  ·simp
 have w:=hexB_len a.da;have z:=hexB_len a.key;unfold L7;split
 ·omega
 ·grind
def L5(a:Ak):Bs:=A2 a.op++(Bj a.op).flatMap λc=>32::L7 a (c.toNat:Int)
theorem forms_ok:PJ.all (λp=>decide (p.1.length<=20)&&(decide (p.2.length<=20)&&p.2.all λc=>decide (c.toNat<128)))=true:=Xj
def mC(op:Int):(A2 op).length<=20∧(Bj op).length<=20∧∀c∈Bj op,c.toNat<128:=by
 unfold A2 Bj;have:∀p:Bs×Bs,p=([],[])∨p∈PJ->p.1.length<=20∧p.2.length<=20∧∀c∈p.2,c.toNat<128:=by
  grind [forms_ok]
 refine this _ ?_;by_cases h:op.toNat<PJ.length
 ·simp_all
 ·simp_all
def aFX{S:Gz}{a:Ak}(t:Hb a)(j:S 310=some (Ac aH9)){ls:Bs}(ja:ls.length<=20)(o:∀c∈ls,c.toNat<128)(d:∀c∈ls,S6 a (c.toNat:Int)){ki:Id}(k:([0]:Id)≠ki){w0:Bs}(b:w0.length<=20){Q:Ex->St->Prop}
  (y:∀v,v.s 4= .str (w0++ls.flatMap λc=>32::L7 a (c.toNat:Int))->Q (.exit 0) v):
  ∀(f p:Nat) v g,ls.length=p+f->v.s 1= .ptr [0] 0->v.s 4= .str (w0++(ls.take p).flatMap λc=>32::L7 a (c.toNat:Int))->v.s 14= .itp ki->Ag v.m [0] 0 11=some (GV a)->v.m ki 1=some (.it ls p)->
   A9 S [] OI Q v g:=by
 intro f;induction f with
 |zero=>
  intro p v g hf u h4 wa hm w;refine Af OI.eq_1 ?_;have hp:¬(p<ls.length):=O
  simp only[↓C2,GD,simprocAttr,wa,hp,w,Qo];refine y _ ?_;simp only[↓C2,reduceIte,Qb,h4];rw[QH O]
 |succ f ih=>
  intro p v g hf u h4 wa hm w;refine Af OI.eq_1 ?_;have hp:p<ls.length:=O
  have ka:ls[p]?=some ls[p]:=Qi hp;have q:ls[p]∈ls:=QX hp;have i:=Nr ka (o _ q);have e:aH9 [.agg (GV a),.int .i32 (ls[p].toNat:Int)]=some (.str (L7 a (ls[p].toNat:Int))):=aH8 t (d _ q);have va:=Ws (c:=(ls[p].toNat:Int)) t;have z:ls.take (p+1)=ls.take p++[ls[p]]:=by rw[Zg,ka];rfl
  have n:((ls.take p).flatMap λc=>32::L7 a (c.toNat:Int)).length<=100001*20:=by
   have:∀(l:Bs),((l.flatMap λc=>32::L7 a (c.toNat:Int))).length<=100001*l.length:=by
    intro l;induction l with
    |nil=>simp
    |cons x r ih=>
     have:=Ws (c:=(x.toNat:Int)) t;simp only[List.flatMap_cons,Qq,Qg,ZJ];omega
   have h:=this (ls.take p);have h':(ls.take p).length<=20:=XC
   omega
  have la:(1+(L7 a (ls[p].toNat:Int)).length<=9223372036854775807)=True:=eq_true O;have na:(w0.length+((ls.take p).flatMap λc=>32::L7 a (c.toNat:Int)).length+(1+(L7 a (ls[p].toNat:Int)).length)<=9223372036854775807)=True:=eq_true O;generalize ls[p]=c at i e z la na;obtain⟨ma,ia,ea⟩:=v;simp only at u h4 wa hm w;simp only[↓C2,GA,simprocAttr,u,h4,wa,hm,i,Ay k,Ab j,e,la,na,BK,BL,hp,w,Qq,Qg,Qm,Qp,Qo,Qw];refine ih (p+1) _ _ O ?_ ?_ ?_ ?_ ?_
  ·exact u
  ·simp only[↓C2,reduceIte,Qb];rw[z];simp
  ·exact wa
  ·grind [Ay]
  ·grind [Ah]
def aPN:List D->Option D:=FX (λa:Ak=>[GW a]) (λa=>Hb a∧∀c∈Bj a.op,S6 a (c.toNat:Int)) (λa=> .str (L5 a))
def aIr{a:Ak}(h:Hb a)(f:∀c∈Bj a.op,S6 a (c.toNat:Int)):aPN [GW a]=some (.str (L5 a)):=
 BV (mk:=λa:Ak=>[GW a]) (λx y e=>by
  simp only[Qc,and_true]at e;exact Fm e) ⟨h,f⟩
def aRs:Kq aPN 261:=by
 obtain⟨S,w,hl⟩:=Bl (Aa lJ (Aa aQ6 Ad));have e:=hl 44 _ rfl;have j:=hl 310 _ rfl;clear hl;refine CS w (Aj func261:Fn Qe 261 25 aLh [.t 2]) (λ_=>U) (λa g=>?_);obtain⟨s,d⟩:=g;have x:=OR s.op0 s.op;obtain⟨q,c,u⟩:=mC a.op;have na:GV a= .int .u8 a.op::(GV a).tail:=rfl;unfold L5 aLh GW;have i:∀m:GB,m.put [0] 0 (GV a) [0] 0=some (.int .u8 a.op):=λm=>by
  rw[Ah,if_pos ⟨rfl,QC _,by rw[AT];omega⟩];rfl
 simp only[↓C2,GO,simprocAttr,Ab e,x,i,AN,AT,Ah,Au,Av,Qj,Qk,Qc,Qf];refine aFX (ls:=Bj a.op) (w0:=A2 a.op) s j c u d (ki:=_) ?_ q (λv n=>?_) (Bj a.op).length 0 _ _ O rfl ?_ rfl ?_ ?_
 ·decide
 ·simp only[↓C2,GA,simprocAttr,n]
  all_goals exact YS
 ·simp only[↓C2,GD,reduceIte,Qb,QP,List.flatMap_nil,QJ]
 ·simp only[Ay (show([0]:Id)≠[12]by decide),Ay (show([0]:Id)≠[5]by decide),Ax (AT a)]
 ·simp only[Hp,GN,simprocAttr,Ah,Qu,QM,Qg,Qm,Qp,Qo,Qw,and_self,Qc,false_and,Qf]
def I_(a:Ak):Ak->Bs->Int×Ak
 |b,[]=>(0,b)
 |b,c::r=>if Bb a (c.toNat:Int)≠0 then(Bb a (c.toNat:Int),b)else I_ a (CY b (c.toNat:Int)) r
def HH(a:Ak):Ak:={a with op:=0}
def BO(a:Ak):Int:=if A2 a.op=[]then 22 else if(I_ a (HH a) (Bj a.op)).1≠0 then(I_ a (HH a) (Bj a.op)).1 else if OU (I_ a (HH a) (Bj a.op)).2=false then 2 else if 400<(L5 a).length then 5 else 0
def Hb.without{a:Ak}(h:Hb a)(c:Int):Hb (CY a c):=by
 unfold CY;obtain⟨f,u,y,p,n,s,g,x,o,i⟩:=h
 repeat' split
 all_goals exact⟨by first|exact f|simp,by first|exact u|simp,by first|exact y|simp,by first|exact p|simp,by first|exact n|simp,by first|exact s|simp,by first|exact g|simp,by first|exact x|simp,by first|exact o|simp,by first|exact i|simp⟩
def xR{m:GB}{i:Id}(a:Ak):Ag ((m.put i 0 (GV a)).put i 0 [.int .u8 0]) i 0 11=some (GV (HH a)):=by
 grind [TC,GV,HH,AT,Ah]
def aNp{S:Gz}{a:Ak}(t:Hb a)(j:S 101=some (Ac aEp))(k:S 259=some (Ac aIu)){ls:Bs}(o:∀c∈ls,c.toNat<128){r:Int×Ak}{Q:Ex->St->Prop}
  (pa:∀v,r.1≠0->v.s 2= .int .i64 r.1->Q .ret v)
  (y:∀v,r.1=0->(∀c∈ls,Bb a (c.toNat:Int)=0)->Hb r.2->v.s 1= .ptr [0] 0->v.s 4= .ptr [11] 0->Ag v.m [0] 0 11=some (GV a)->Ag v.m [11] 0 11=some (GV r.2)->Q (.exit 0) v):
  ∀(f p:Nat)(b:Ak) v g,ls.length=p+f->I_ a b (ls.drop p)=r->(∀c∈ls.take p,Bb a (c.toNat:Int)=0)->Hb b->v.s 1= .ptr [0] 0->v.s 4= .ptr [11] 0->v.s 18= .itp [17]->Ag v.m [0] 0 11=some (GV a)->Ag v.m [11] 0 11=some (GV b)->v.m [17] 1=some (.it ls p)->
   A9 S [] Un Q v g:=by
 have oa:([0]:Id)≠[17]:=V
 have l:([11]:Id)≠[17]:=V
 have n:([0]:Id)≠[11]:=V
 have q:([17]:Id)≠[11]:=V
 intro f;induction f with
 |zero=>
  intro p b v g hf hr hz hb u h4 la hm na w;refine Af Un.eq_1 ?_;have hp:¬(p<ls.length):=O
  simp only[↓C2,GD,simprocAttr,la,hp,w,Qo];rw[List.drop_of_length_le O]at hr;rw[QH O]at hz;simp only[I_]at hr;subst hr;exact y _ rfl hz hb u h4 hm na
 |succ f ih=>
  intro p b v g hf hr hz hb u h4 la hm na w;refine Af Un.eq_1 ?_;have hp:p<ls.length:=O
  have ka:ls[p]?=some ls[p]:=Qi hp;have ga:ls[p]∈ls:=QX hp;have i:=Nr ka (o _ ga);have d:aEp [.agg (GV a),.int .i32 (ls[p].toNat:Int)]=some (.int .i64 (Bb a (ls[p].toNat:Int))):=Hf t;have e:aIu [.agg (GV b),.int .i32 (ls[p].toNat:Int)]=some (.agg (GV (CY b (ls[p].toNat:Int)))):=aIt;have z:ls.take (p+1)=ls.take p++[ls[p]]:=by rw[Zg,ka];rfl
  have sa:ls.drop p=ls[p]::ls.drop (p+1):=QK hp;have wa:=hb.without (ls[p].toNat:Int);rw[sa]at hr;unfold I_ at hr;generalize ls[p]=c at i d e z hr wa;obtain⟨ma,ia,ea⟩:=v;simp only at u h4 la hm na w;by_cases he:Bb a (c.toNat:Int)=0
  ·rw[if_neg (λh=>h he)]at hr;rw[he]at d;simp only[↓C2,GA,simprocAttr,u,h4,la,hm,na,i,Ay oa,Ay l,Ab j,d,Ab k,e,BK,BL,AN,AT,hp,w,and_self,Qo,Qw,Qk];refine ih (p+1) _ _ _ O hr (λx hx=>?_) wa ?_ ?_ ?_ ?_ ?_ ?_
   ·grind
   ·exact u
   ·exact h4
   ·exact la
   ·grind [Ay]
   ·grind [Ax,AT]
   ·grind [aA,Ah]
  ·rw[if_pos he]at hr;simp only[↓C2,GA,simprocAttr,u,la,hm,i,Ay oa,Ab j,d,he,BK,BL,hp,w,Qo,Qw];exact pa _ (by rw[←hr];exact he) (by rw[←hr];rfl)
def Ls{b:Bool}(h:BD b=0):b=true:=by cases b with
 |true=>rfl
 |false=>cases h
def zY{a:Ak}{c:Int}(h:Bb a c=0):S6 a c:=by
 refine⟨?_,?_,?_⟩
 ·rintro rfl;have e:Bb a 110=BD (decide (0<=a.n∧a.n<=999)):=by simp[Bb]
  rw[e]at h;have:=of_decide_eq_true (Ls h);omega
 ·rintro rfl;have e:Bb a 99=BD (decide (-1<=a.cas∧a.cas<=999)):=by simp[Bb]
  rw[e]at h;have:=of_decide_eq_true (Ls h);omega
 ·rintro rfl;have e:Bb a 108=BD (countB a.ns):=by simp[Bb]
  rw[e]at h;have y:=Ls h;unfold countB at y;rw[QY]at y;intro x q;have p:(a.ns.any λx=>!decide (1<=x∧x<=999))=false:=by simpa using y.2
  rw[List.any_eq_false]at p;have r:=p x q;have s:1<=x∧x<=999:=by simpa using r
  omega
def F68:List D->Option D:=FX (λa:Ak=>[GW a]) (λa=>Hb a) (λa=> .int .i64 (BO a))
def aPJ{a:Ak}(h:Hb a):F68 [GW a]=some (.int .i64 (BO a)):=
 BV (mk:=λa:Ak=>[GW a]) (λx y e=>by
  simp only[Qc,and_true]at e;exact Fm e) h
def aU1:Kq F68 207:=by
 obtain⟨S,hS,hl⟩:=Bl (Aa lJ (Aa aIY (Aa aRu (Aa aRt (Aa aRs Ad)))));have e:=hl 44 _ rfl;have j:=hl 101 _ rfl;have k:=hl 259 _ rfl;have g:=hl 260 _ rfl;have o:=hl 261 _ rfl;clear hl;refine CS hS (Aj func207:Fn Qe 207 39 aTq [.t 2]) (λ_=>U) (λa s=>?_);have x:=OR s.op0 s.op;obtain⟨f1,f2,f3⟩:=mC a.op;have ra:∀m:GB,m.put [0] 0 (GV a) [0] 0=some (.int .u8 a.op):=λm=>by
  rw[Ah,if_pos ⟨rfl,QC _,by rw[AT];omega⟩];rfl
 have oa:([0]:Id)≠[17]:=V
 have l:([11]:Id)≠[17]:=V
 have n:([0]:Id)≠[11]:=V
 have q:([0]:Id)≠[5]:=V
 have ga:∀m:GB,m.put [11] 0 (GV a) [11] 0=some (.int .u8 a.op):=λm=>by
  rw[Ah,if_pos ⟨rfl,QC _,by rw[AT];omega⟩];rfl
 have i:Hb (HH a):=⟨by simp[HH],by simp[HH],s.tk,s.pa,s.ot,s.ns,s.da,s.rl,s.rs,s.key⟩;have d:(∀c∈Bj a.op,Bb a (c.toNat:Int)=0)->aPN [.agg (GV a)]=some (.str (L5 a)):=λh=>aIr s λc hc=>zY (h c hc)
 unfold BO aTq GW;by_cases hw:A2 a.op=[]
 ·have p:(A2 a.op==([]:Bs))=true:=by rw[hw];rfl
  simp only[↓C2,GA,simprocAttr,AN,AT,Ab e,x,ra,Ax,Ah,Qu,QM,Qg,Qm,Qp,Qo,and_self,Qk,Qc,Qf,hw]
  all_goals exact YS
 ·have p:(A2 a.op==([]:Bs))=false:=by simpa using hw
  simp only[↓C2,GO,simprocAttr,AN,AT,Ab e,x,ra,ga,LV,Ax,Ah,Qk,Qc,and_false,Qf,hw,Ay q,Ax (AT a)];generalize hr:I_ a (HH a) (Bj a.op)=r;refine aNp (r:=r) s j k f3 (λv u y=>?_) (λv u hz w z h4 hm na=>?_) (Bj a.op).length 0 (HH a) _ _ O hr U i rfl rfl rfl ?_ ?_ ?_
  ·simp only[↓C2,GA,reduceIte,u,y,ne_eq];rw[if_neg hw]
  ·have f:=d hz;have b:aPO [.agg (GV r.2),.agg [.int .u8 0,.str [],.str [],.str [],.int .i64 0,.int .i64 0,.bool false,.slice true [] [],.str [],.slice true [] [],.str []]]=some (.bool (OU r.2)):=aIs w;cases hzb:OU r.2 with
   |false=>
    rw[hzb]at b;simp only[↓C2,GA,simprocAttr,BK,BL,ne_eq,QE,Q2,Q7,Zb,Zh,u,h4,na,Ab g,b,Cf,D.un1,D.calm1,Zj];rw[if_neg hw]
   |true=>
    rw[hzb]at b;by_cases hl:400<(L5 a).length
    ·have ea:((400:Int)<((L5 a).length:Int)):=by omega
     simp only[↓C2,GA,simprocAttr,BK,BL,ne_eq,QE,Q2,Q7,Zb,Zh,u,z,h4,hm,na,Ab g,b,Ab o,f,Cf,hl,ea,D.un1,D.calm1,Zj];rw[if_neg hw]
    ·have ea:¬((400:Int)<((L5 a).length:Int)):=by omega
     simp only[↓C2,GA,simprocAttr,BK,BL,ne_eq,QE,Q2,Q7,Zb,Zh,u,z,h4,hm,na,Ab g,b,Ab o,f,Cf,hl,ea,D.un1,D.calm1,Zj];rw[if_neg hw]
  ·grind [Ay,Ax,AT]
  ·simp only[Ay l];exact xR a
  ·grind [Ah]
def ryN:Ry->Prop
 | .names nl l=>nl=true->l=[]
 |_=>True
def eR:∀{l:List Rw} {a:Int},H3 l a=true->∀x∈l,a<x.1∧x.1<=(l.getLast?.map (·.1)).getD 0
 |[],a,_,x,hx=>by cases hx
 |y::r,a,h,x,hx=>by
  simp only[H3,QY,decide_eq_true_eq]at h;cases r with
  |nil=>
   rw[Q4.1 hx];exact⟨h.1,U⟩
  |cons z q=>
   have ih:=eR h.2;have i:=ih z (Zs ..);rw[List.getLast?_cons_cons];rcases QO.1 hx with rfl|hx
   ·exact⟨h.1,O⟩
   ·grind
def yT(l:List Rw):Pc l=(l.getLast?.map (·.1)).getD 0:=by
 grind [Pc]
def SV{s:Sc}{q:Int}(h:DL s q=false)(v:q<=6):s.rs.length<=6∧∀x∈s.rs,1<=x.1∧x.1<=30:=by
 obtain⟨o,f,r,i,t,j⟩:=My h;have w:B7 s q<=6:=by unfold B7;split<;>omega
 refine⟨O,λx p=>?_⟩;have:=eR t x p;rw[←yT,j]at this;omega
theorem sum_64:∀l:List Bs,(l.any λs=>!fF s)=false->CA l<=64*l.length
 |[],_=>by simp[CA]
 |x::r,h=>by
  simp only[ZE,Bool.or_eq_false_iff,Bool.not_eq_false']at h;have ih:=sum_64 r h.2;have q:x.length<=64:=by
   grind [fF]
  simp only[CA,Qg];omega
def kV{y:Ry}(h:LE y=0)(g:ryN y):ryG y:=by
 cases y with
 |fail e=>simp only[LE]at h;split at h;(rename_i c;exact⟨O,O⟩);omega
 |done=>trivial
 |number n=>simp only[LE]at h;split at h;(rename_i c;exact⟨O,O⟩);omega
 |found n d=>simp only[LE]at h;split at h;(rename_i c;exact⟨O,O,O⟩);omega
 |about s=>
  simp only[LE]at h;cases hb:DL s 6 with
  |true=>rw[hb]at h;simp at h
  |false=>
   obtain⟨o,f,w,_⟩:=My hb;obtain⟨t,r⟩:=SV hb O;exact⟨O,O,O,λx q=>by have:=r x q;omega⟩
 |names nl l=>
  simp only[LE]at h;split at h
  ·rename_i c;have:=sum_64 l c.2;exact⟨O,g,O⟩
  ·omega
 |state b=>trivial
theorem Su(l:List Bs):(Sv l).length<=1+CA l+l.length:=by
 grind [Sv,join_len]
def aFb{y:Ry}(h:LE y=0)(g:ryN y):(NB y).length<=6∧CA (NB y)<=100000:=by
 cases y with
 |fail e=>have:=EJ e.toNat;simp only[NB,CA,Qg,Qm];omega
 |done=>simp[NB,CA]
 |number n=>have:=EJ n.toNat;simp only[NB,CA,Qg,Qm];omega
 |found n d=>
  have:=EJ n.toNat;simp only[LE]at h;split at h
  ·grind [hexB_len,NB,CA]
  ·omega
 |about s=>
  have w:=EJ s.mx.toNat;have o:=EJ s.la.toNat;obtain⟨v,_⟩:=kV h g;have:=Su (s.rs.map El);have:=O3 s.rs;rw[Qy]at *;simp only[NB,CA,Qg,Qm];omega
 |names nl l=>
  simp only[LE]at h;split at h
  ·grind [sum_64,Su,NB,CA]
  ·omega
 |state b=>cases b<;>simp[NB,CA]
def aCY:=Aq [(67,Ac R92),(70,Ac aPB),(69,Ac Wz)]
def aHO:=RF aCY aLB [.t 2,.t 3] 13
def aJl:Kq aHO 30:=An (Aj func30) (Aa aVj (Aa aSP (Aa aJd Ad)))
def oC(y:Ry)(h:aFc y)(r:ryN y):aHO [.agg (Hh y)]=some (.tup [.str (Hg y),.int .i64 (LE y)]):=by
 refine Al (Qa rfl) ?_;unfold aLB;have o:=aO5 y h;have e0:∃a b c d e f g i j k,Hh y=[a,b,c,d,e,f,g,i,j,k]:=YP
 have d0:∀x∈Hh y,x.un1=x∧x.calm1=true:=by
  cases y<;>(intro x q;simp only[Hh,QO,QV,or_false]at q;rcases q with rfl|rfl|rfl|rfl|rfl|rfl|rfl|rfl|rfl|rfl<;>exact⟨rfl,rfl⟩)
 unfold Hg;by_cases c:LE y=0
 ·have n:=aHy y (kV c r);obtain⟨t,w2⟩:=aFb c r;have m:=Ww (l:=NB y) (s:=[32]) ⟨wS y,O,O,U,by have:=join_len (NB y) [32];simp only[Qg,Qm]at this;omega⟩;obtain⟨a,b,cc,d,e,f,g,i,j,k,v⟩:=e0;have u:=λx q=>d0 x q
  rw[v]at o n d0 ⊢;rw[c]at o ⊢;simp only[QO,QV,or_false,forall_eq_or_imp,forall_eq]at d0;obtain⟨⟨a1,a2⟩,⟨b1,b2⟩,⟨c1,p⟩,⟨d1,d2⟩,⟨z,e2⟩,⟨f1,f2⟩,⟨w,g2⟩,⟨i1,i2⟩,⟨j1,j2⟩,k1,k2⟩:=d0;have la:((strsD (NB y)).all D.calm)=true:=by simp[strsD,QT];intros;rfl
  simp only[GC,↓C2,Gy,simprocAttr,Ae aCY 67,o,a1,a2,b1,b2,c1,p,d1,d2,z,e2,f1,f2,w,g2,i1,i2,j1,j2,k1,k2,Ae aCY 70,n,Ae aCY 69,m,spJ]
  all_goals exact YR
 ·have c':=eq_false c;obtain⟨a,b,cc,d,e,f,g,i,j,k,v⟩:=e0;rw[v]at o d0 ⊢;simp only[QO,QV,or_false,forall_eq_or_imp,forall_eq]at d0;obtain⟨⟨a1,a2⟩,⟨b1,b2⟩,⟨c1,p⟩,⟨d1,d2⟩,⟨z,e2⟩,⟨f1,f2⟩,⟨w,g2⟩,⟨i1,i2⟩,⟨j1,j2⟩,k1,k2⟩:=d0;simp only[GC,↓C2,Gy,simprocAttr,Ae aCY 67,o,a1,a2,b1,b2,c1,p,d1,d2,z,e2,f1,f2,w,g2,i1,i2,j1,j2,k1,k2,c']
  all_goals exact YR
def aUh:=Aq [(30,Ac aHO)]
def aHP:=RF aUh aLC [.t 2] 17
def aJm:Kq aHP 37:=An (Aj func37) (Aa aJl Ad)
def UZ(e:Int)(h:1<=e∧e<=99):aHP [.int .i64 e]=some (.str (Hg (.fail e))):=by
 refine Al (Qa rfl) ?_;unfold aLC;have n:=oC (.fail e) trivial trivial;have z:LE (.fail e)=0:=if_pos h;rw[z]at n;have c':(e=0)=False:=eq_false O;unfold Hh at n;simp only[GC,↓C2,Gy,simprocAttr,Ae aUh 30,n,c']
 all_goals exact YR
def aOq{b:Bool}:decide (b=true)=b:=by cases b<;>rfl
def aLg:=y0 f262 [] []
def aLf:=y0 f263 [] []
def aTp:=y0 f208 [(4,[(6,0),(6,2)])] []
def aTo:=y0 f209 [] []
def aTE:=y0 f143 [] []
def aTF:=y0 f78 [] []
structure Vw where
 se:Bool
 te:Int
 key:Bs
 nlm:Bool
 ms:List Mt
 nlt:Bool
 ks:List Tk
def Hc(v:Vw):List D:=[.bool v.se,.int .i64 v.te,.str v.key,.slice v.nlm [] (AA v.ms),.slice v.nlt [] (AI v.ks)]
def Hj(v:Vw):D:= .agg (Hc v)
theorem Ob{a b:Vw}(h:Hj a=Hj b):a=b:=by
 cases a;cases b;simp only[Hj,Hc,D.agg.injEq,Qc,D.int.injEq,D.str.injEq,D.bool.injEq,D.slice.injEq,true_and,and_true]at h;obtain⟨u,y,p,⟨n,c⟩,g,x⟩:=h;have q:=V3 c;have w:=Vr x;subst u y p n g q w;rfl
def HU(v:Vw):(Hc v).map D.un1=Hc v:=rfl
def HV(v:Vw):(Hc v).all D.calm1=true:=rfl
def Br(v:Vw):D.cells (.agg (Hc v))=Hc v:=rfl
theorem Cu(v:Vw):(Hc v).length=5:=rfl
structure P5 (v:Vw):Prop where
 ml:v.ms.length<=1000
 mp:∀m∈v.ms,m.1.length<=1000
 kl:v.ks.length<=1000
 kp:∀k∈v.ks,wF k∧LY k.2.2.2
theorem O2{l:List Tk}{j:Nat}(h:j<l.length):Bf l j∈l:=by simp[Bf,Qi h]
def P5.set{v:Vw}(h:P5 v):E8 (AI v.ks):=EE (by have:=h.kl;omega)
def EV(i:List Tk)(n p:Bs)(c:Int):Bool:=AV i n&&Ui (CT (Bf i (HG i n)).2.2.2 p).toNat c.toNat
open Classical in
def aEd{nl:Bool}{l:List Tk}{s:Bs}(hl:l.length<=1000000)(w:∀k∈l,wF k):F35 [.agg [.slice nl [] (AI l)],.str s]=some (.tup (if AV l s=true then [O1 (Bf l (HG l s)),.bool true]else [.agg [.str [],.str [],.slice true [] []],.bool false])):=by
 have h:E8 (AI l)∧∀k∈Dm (AI l),wF k:=⟨EE hl,by rw[BF];exact w⟩;show(if _ then _ else _)=_;rw[if_pos h,BF]
open Classical in
def aEb{nl:Bool}{l:List Tk}{s p:Bs}(hl:l.length<=1000000)(w:∀k∈l,k.2.2.2.length<=1000000):F36 [.agg [.slice nl [] (AI l)],.str s,.str p]=some (.int .u8 (if AV l s=true then CT (Bf l (HG l s)).2.2.2 p else 0)):=by
 have h:E8 (AI l)∧∀k∈Dm (AI l),k.2.2.2.length<=1000000:=⟨EE hl,by rw[BF];exact w⟩;show(if _ then _ else _)=_;rw[if_pos h,BF]
def aGB{l:List Rl}(h:F4 l)(s:Bs):0<=CT l s∧CT l s<256:=by
 unfold CT;split
 ·omega
 ·generalize (HB s (l.map (·.1))).toNat=j;by_cases u:j<l.length
  ·have:CL l j=l[j]:=by simp[CL,Qi u]
   rw[this];exact h _ (QX u)
  ·grind [CL]
def fL(p:Vw×Bs×Bs×Int):List D:=[Hj p.1,.str p.2.1,.str p.2.2.1,.int .u8 p.2.2.2]
def yY(x y:Vw×Bs×Bs×Int)(e:fL x=fL y):x=y:=by
 grind [fL,Ob]
def aIq:List D->Option D:=FX fL (λp=>P5 p.1∧0<=p.2.2.2∧p.2.2.2<256) (λp=> .bool (EV p.1.ks p.2.1 p.2.2.1 p.2.2.2))
def oU{v:Vw}{n p:Bs}{c:Int}(h:P5 v)(u:0<=c∧c<256):aIq [Hj v,.str n,.str p,.int .u8 c]=some (.bool (EV v.ks n p c)):=BV (mk:=fL) (a:=(v,n,p,c)) yY ⟨h,u⟩
def aRr:Kq aIq 263:=by
 obtain⟨S,hS,hl⟩:=Bl (Aa aQS (Aa aQR Ad));have d:=hl 81 _ rfl;have e:=hl 13 _ rfl;clear hl;refine CS hS (Aj func263:Fn Qe 263 29 aLf [.t 8]) (λ_=>by simp[fL]) (λp g=>?_);obtain⟨v,n,q,c⟩:=p;obtain⟨x,o⟩:=g;simp only at x o;have ma:=x.kl;have z:=aEd (nl:=v.nlt) (l:=v.ks) (s:=n) O (λk w=>(x.kp k w).1);have r:=aEb (nl:=v.nlt) (l:=v.ks) (s:=n) (p:=q) O (λk w=>(x.kp k w).2.1);unfold aLf fL Hj Hc EV;simp only;cases hf:AV v.ks n with
 |false=>
  rw[hf]at z;simp only[Qs,if_false]at z;simp only[↓C2,GO,simprocAttr,Ab d,z,QA,Ah,Au,Av,Qj,Qk,Qc,Qf]
  all_goals exact YS
 |true=>
  rw[hf]at z r;simp only[if_true]at z r;have m:HG v.ks n<v.ks.length:=by
   grind [AV]
  have j:=(x.kp _ (O2 m)).2.2.2;generalize Bf v.ks (HG v.ks n)=k at z r j;have y:=aGB j q;generalize CT k.2.2.2 q=u at r y;have b:=P3 (a:=u.toNat) (c:=c.toNat) O O;rw[Qx o.1,Qx y.1]at b;have i:(((Nat.land c.toNat (255-u.toNat):Nat):Int)=0)=(Ui u.toNat c.toNat=true):=by
   simp_all [Ui]
  simp only[O1]at z;simp only[↓C2,GO,simprocAttr,Ab d,z,Ab e,r,Vk,b,i,aOq,Ah,Au,Av,Qj,Qk,Qc,and_false,Qf]
  all_goals exact YS
def Vt:Bs:=[115,121,115]
def atA(a:Ak):Bs:=if a.op<=8 then Vt else a.pa
def Hy(v:Vw)(a:Ak):Bool:=EV v.ks a.tk (atA a) (HF a.op)&&(decide (a.op≠18)||EV v.ks a.tk a.ot 2)
def Lk(p:Vw×Ak):List D:=[Hj p.1,GW p.2]
def Pg(x y:Vw×Ak)(e:Lk x=Lk y):x=y:=by
 grind [Lk,Ob,Fm]
def aCh(op:Int):0<=HF op∧HF op<256:=by
 grind [HF]
def aEo:List D->Option D
 |[.int .u8 op]=>some (.bool (decide (op<=8)))
 |_=>none
def aIX:Kq aEo 262:=by
 refine AL (S:=λ_=>none) A4 (Aj func262:Fn Qe 262 5 aLg [.t 2]) (λds r h=>?_) (λds r h=>?_)
 ·unfold aEo at h;split at h
  ·simp
  ·cases h
 ·unfold aEo at h;split at h
  ·simp only[Ql]at h;subst h;unfold aLg;simp only[↓C2,GA,simprocAttr]
   all_goals exact YS
  ·cases h
def F69:List D->Option D:=FX Lk (λp=>P5 p.1) (λp=> .bool (Hy p.1 p.2))
def aPI{v:Vw}{a:Ak}(h:P5 v):F69 [Hj v,GW a]=some (.bool (Hy v a)):=BV (mk:=Lk) (a:=(v,a)) Pg h
def aU0:Kq F69 208:=by
 obtain⟨S,w,hl⟩:=Bl (Aa aIX (Aa aU4 (Aa aRr Ad)));have c:=hl 262 _ rfl;have j:=hl 264 _ rfl;have h:=hl 263 _ rfl;clear hl;refine CS w (Aj func208:Fn Qe 208 32 aTp [.t 4]) (λ_=>by simp[Lk]) (λp x=>?_);obtain⟨v,a⟩:=p;simp only at x;have f:aEo [.int .u8 a.op]=some (.bool (decide (a.op<=8))):=rfl;have ja:F27 [.int .u8 a.op]=some (.int .u8 (HF a.op)):=rfl;have i:∀q,aIq [.agg (Hc v),.str a.tk,.str q,.int .u8 (HF a.op)]=some (.bool (EV v.ks a.tk q (HF a.op))):=λq=>oU x (aCh _)
 have e:aIq [.agg (Hc v),.str a.tk,.str a.ot,.int .u8 2]=some (.bool (EV v.ks a.tk a.ot 2)):=oU x O;have n:∀m:GB,Ag (m.put [1] 0 (GV a)) [0] 0 5=Ag m [0] 0 5:=λm=>Ay V
 have l:Ag (GB.put (λ_ _=>none) [0] 0 (Hc v)) [0] 0 5=some (Hc v):=Ax (Cu v);have u:∀m:GB,∀k d,(GV a)[k]?=some d->(m.put [1] 0 (GV a)) [1] k=some d:=λm k d r=>by
  have s:=(QQ.1 r).1;rw[Ah,if_pos ⟨rfl,Qu _,O⟩];exact r
 have m0:=λm=>u m 0 _ rfl
 have m1:=λm=>u m 1 _ rfl
 have m2:=λm=>u m 2 _ rfl
 have m3:=λm=>u m 3 _ rfl
 unfold aTp Lk Hj GW Hy atA;simp only;by_cases o:a.op<=8
 ·have z:¬a.op=18:=by omega
  rw[decide_eq_true o]at f;have y:=i Vt;simp only[o,if_true];generalize EV v.ks a.tk Vt (HF a.op)=b at y;unfold Vt at y;cases b<;>simp only[↓C2,GA,simprocAttr,m0,m1,m2,n,l,HU,HV,Br,AN,Qp,ne_eq,z,Ab c,f,Ab j,ja,Ab h,y]<;>refine AY ?_<;>simp only[↓C2,GA,reduceIte,Qb,ZH,z]
  all_goals exact YS
 ·rw[decide_eq_false o]at f;have y:=i a.pa;simp only[o,if_false];generalize EV v.ks a.tk a.pa (HF a.op)=b at y;generalize EV v.ks a.tk a.ot 2=b2 at e;by_cases z:a.op=18
  ·have g:(a.op=18)=True:=eq_true z;clear z;cases b<;>cases b2<;>simp only[↓C2,GA,simprocAttr,m0,m1,m2,m3,n,l,HU,HV,Br,AN,Qp,ne_eq,Ab c,f,Ab j,ja,Ab h,y,e,g]<;>refine AY ?_<;>simp only[↓C2,GA,reduceIte,Qb,ZF,QN,g]
   all_goals exact YS
  ·cases b<;>simp only[↓C2,GA,simprocAttr,m0,m1,m2,n,l,HU,HV,Br,AN,Qp,ne_eq,z,Ab c,f,Ab j,ja,Ab h,y]<;>refine AY ?_<;>simp only[↓C2,GA,reduceIte,Qb,ZH,z]
   all_goals exact YS
abbrev Op1:=Int×Bs×Bs
def opD(x:Op1):D:= .agg [.int .u8 x.1,.str x.2.1,.str x.2.2]
def D5(l:List Op1):List D:=l.map opD
def aFz{x y:Op1}(h:opD x=opD y):x=y:=by
 grind [opD]
def yC{a b:List Op1}(h:D5 a=D5 b):a=b:=(Zd (λ_ _ e=>aFz e)).1 h
def yB(l:List Op1):(D5 l).length=l.length:=Qy ..
structure Oc where
 need:Bs
 li:Bool
 rep:Bs
 nl:Bool
 ops:List Op1
 vw:Vw
structure Wb where
 v:Vw
 a:Ak
 k:Kn
def ocC(o:Oc)(t:Id):List D:=[.str o.need,.bool o.li,.str o.rep,.slice o.nl t (D5 o.ops)]++Hc o.vw
def Hn(w:Wb)(o:Oc)(t:Id):List D:=Hc w.v++(GV w.a++(Ha w.k++ocC o t))
theorem CI(w:Wb)(o:Oc)(t:Id):(Hn w o t).length=30:=rfl
def Ib{α:Type}{f:α->Bs}{a b:List α}(h:a.map (λx=>D.str (f x))=b.map λx=>D.str (f x)):a.map f=b.map f:=by
 have:=congrArg (Zw λd=>match d with|D.str s=>s|_=>[]) h;simpa[QR,Function.comp_def]using this
def T7{α:Type}{f:α->Bool}{a b:List α}(h:a.map (λx=>D.bool (f x))=b.map λx=>D.bool (f x)):a.map f=b.map f:=by
 have:=congrArg (Zw λd=>match d with|D.bool s=>s|_=>false) h;simpa[QR,Function.comp_def]using this
def aFK{a b:List (Bs×Bool×List Bs)}(h:a.map zG=b.map zG):a.map (·.2)=b.map (·.2):=by
 have:=congrArg (Zw λd=>match d with|D.slice nl _ xs=>(nl,xs.map λd=>match d with|D.str s=>s|_=>[])|_=>(false,[])) h;simpa[QR,Function.comp_def,zG,strsD]using this
def aMg{α β γ:Type}:∀{a b:List (α×β×γ)},a.map (·.1)=b.map (·.1)->a.map (·.2.1)=b.map (·.2.1)->a.map (·.2.2)=b.map (·.2.2)->a=b
 |[],[],_,_,_=>rfl
 |[],_::_,h,_,_=>Xe
 |_::_,[],h,_,_=>Xe
 |x::a,y::b,h1,h2,h3=>by
  simp only[QE,Qc]at h1 h2 h3;rw[aMg h1.2 h2.2 h3.2,QU h1.1 (QU h2.1 h3.1)]
def lS{a b:Kn}(h:Ha a=Ha b):a=b:=by
 cases a;cases b;simp only[Ha,Qc,D.slice.injEq,true_and,and_true]at h;obtain⟨⟨_,u⟩,⟨_,y⟩,⟨_,p⟩,⟨_,n⟩,_,c⟩:=h;have j:=aMg (Ib u) (Ib y) (T7 p);have g:=aFK c;have m:=aMg (Ib n) (by have:=congrArg (Zw Prod.fst) g;simpa[QR,Function.comp_def]using this) (by have:=congrArg (Zw Prod.snd) g;simpa[QR,Function.comp_def]using this);rw[j,m]
def LH{w i:Wb}{o o':Oc}{t z:Id}(h:Hn w o t=Hn i o' z):w=i∧o=o'∧t=z:=by
 unfold Hn at h;obtain⟨u,h⟩:=Q8 h rfl;obtain⟨y,h⟩:=Q8 h rfl;obtain⟨p,h⟩:=Q8 h rfl;have j:=Ob (congrArg D.agg u);have m:=Fm (congrArg D.agg y);have f:=lS p;unfold ocC at h;obtain⟨n,c⟩:=Q8 h rfl;have q:=Ob (congrArg D.agg c);simp only[Qc,D.str.injEq,D.bool.injEq,D.slice.injEq,and_true]at n;obtain⟨v,x,s,r,k,e⟩:=n;have b:=yC e;cases w;cases i;cases o;cases o';simp only at j m f q v x s r b;subst j m f q v x s r b k;exact⟨rfl,rfl,rfl⟩
abbrev WY:=D×Oc×Option (List Nat)
def Vl(i:Id)(w:Wb)(o:Oc)(t fr:Id)(y:WY):GF:=match y.2.2 with
 |none=>[(i,0,Hn w y.2.1 t)]
 |some l=>(i,0,Hn w y.2.1 (l++fr))::Bc 167 (l++fr) (.slice o.nl t (D5 o.ops))
def UK(m:GB)(i:Id)(x:Wb×Oc×Id):Prop:=Ag m i 0 30=some (Hn x.1 x.2.1 x.2.2)∧BT m 167 x.2.1.nl x.2.2 x.2.1.ops.isEmpty=true∧(x.2.1.nl=true->x.2.2=[])
open Classical in
def Sl(p:Wb×Oc×Id->Prop):Option (Wb×Oc×Id):=if h:∃x,p x then some (Classical.choose h)else none
def VT{p:Wb×Oc×Id->Prop}{x:Wb×Oc×Id}(h:p x)(z:∀y,p y->y=x):Sl p=some x:=by
 have q:∃x,p x:=⟨x,h⟩;unfold Sl;rw[dif_pos q,z _ (Classical.choose_spec q)]
def Sk{p:Wb×Oc×Id->Prop}{x:Wb×Oc×Id}(h:Sl p=some x):p x:=by
 unfold Sl at h;split at h
 ·grind
 ·cases h
def wQ(F:Wb->Oc->List D->Option WY):G8 where
 rd:=λds m=>match ds with
  | .ptr i 0::_=>Ai i 0 30++(match m i 24 with|some (.slice _ t _)=>[(t,0)]|_=>[])
  |_=>[]
 ex:=λds m fr=>match ds with
  | .ptr i 0::rest=>(Sl (UK m i)).bind λx=>(F x.1 x.2.1 rest).map λy=>(y.1,Vl i x.1 x.2.1 x.2.2 fr y)
  |_=>none
def aCt{m:GB}{i:Id}{w:Wb}{o:Oc}{t:Id}(h:Ag m i 0 30=some (Hn w o t)):m i 24=some (.slice o.nl t (D5 o.ops)):=Bi h rfl
def aMu{F:Wb->Oc->List D->Option WY}(ds:List D)(m m':GB)(fr:Id)(h:∀l∈(wQ F).rd ds m,m l.1 l.2=m' l.1 l.2):(wQ F).ex ds m fr=(wQ F).ex ds m' fr:=by
 simp only[wQ]at h ⊢;split
 ·rename_i i r;have n:Ag m i 0 30=Ag m' i 0 30:=BA (λl hl=>h l (Zo _ hl));have g:UK m i=UK m' i:=by
   funext x;obtain⟨w,o,t⟩:=x;apply propext;unfold UK;rw[n];have z:Ag m' i 0 30=some (Hn w o t)->BT m 167 o.nl t o.ops.isEmpty=BT m' 167 o.nl t o.ops.isEmpty:=λv=>by
    refine D9 (h (t,0) (Zn _ ?_));have:=aCt (n.trans v);rw[this];simp
   constructor
   ·rintro⟨a,b,c⟩;exact⟨a,by rw[←z a];exact b,c⟩
   ·rintro⟨a,b,c⟩;exact⟨a,by rw[z a];exact b,c⟩
  rw[g]
 ·rfl
def cD{m:GB}{i:Id}{x y:Wb×Oc×Id}(q:UK m i x)(o:UK m i y):y=x:=by
 have:=o.1.symm.trans q.1;simp only[Ql]at this;obtain⟨a,b,c⟩:=LH this;exact QU a (QU b c)
structure Wt (i fr:Id) (m0:GB) (nl0:Bool) (t0:Id) (m:GB) (w:Wb) (o:Oc) (t:Id):Prop where
 at_:UK m i (w,o,t)
 loc:∀q,t≠q::fr
 sub0:nl0=false->¬fr<:+t0
 ch:(t=t0∧o.nl=nl0∧∀j x d,(j≠i∨30<=x)->m0 j x=some d->m j x=some d)∨
  ((∃l k,t=l++k::fr)∧o.nl=false∧(nl0=false->m t0 0=some (.tok 0))∧∀j x d,(j≠i∨30<=x)->(nl0=true∨j≠t0∨x≠0)->m0 j x=some d->m j x=some d)
def WE(i fr:Id)(m0:GB)(nl0:Bool)(t0:Id)(w:Wb)(y:WY)(d:D)(m':GB):Prop:=d=y.1∧match y.2.2 with
 |none=>Ag m' i 0 30=some (Hn w y.2.1 t0)∧∀j x d,(j≠i∨30<=x)->m0 j x=some d->m' j x=some d
 |some l=>Ag m' i 0 30=some (Hn w y.2.1 (l++fr))∧m' (l++fr) 0=some (.tok 168)∧(nl0=false->m' t0 0=some (.tok 0))∧∀j x d,(j≠i∨30<=x)->(nl0=true∨j≠t0∨x≠0)->m0 j x=some d->m' j x=some d
section
variable{i fr t0 t:Id}{m0 m m':GB}{nl0:Bool}{w:Wb}{o o':Oc}
def Oa(h:Ag m i 0 30=some (Hn w o t)):m i 0=some (.bool w.v.se):=Bi h rfl
def eE(h:UK m i (w,o,t))(g:o.nl=false):i≠t:=by
 rintro rfl;have u:=Oa h.1;have y:=EB h.2.1 g;rw[u]at y;cases y
def jV(h:Ag m i 0 30=some (Hn w o t))(y:m t0 0=some (.tok 0)):t0≠i:=by
 rintro rfl;rw[Oa h]at y;cases y
def Wt.put(h:Wt i fr m0 nl0 t0 m w o t)(n:∀j x,fr<:+j->m0 j x=none:=by assumption)(ja:∀k,(i=k::fr)=False:=by assumption){q p:Nat}{ys:List D}:Wt i fr m0 nl0 t0 (m.put (q::fr) p ys) w o t:=by
 obtain⟨⟨a1,g,z⟩,hl,r,v⟩:=h;have hi:i≠q::fr:=λe=>(ja q).mp e
 have a:∀j x d,m0 j x=some d->j≠q::fr:=λj x d u e=>by
  rw[e,n (q::fr) _ ⟨[q],rfl⟩]at u;cases u
 refine⟨⟨by rw[Ok hi];exact a1,?_,z⟩,hl,r,?_⟩
 ·grind [D9,aA]
 ·grind [aA]
def Wt.cell(h:Wt i fr m0 nl0 t0 m w o t)(q:Ag m' i 0 30=some (Hn w o' t))(u:o'.nl=o.nl)(y:o'.ops=o.ops)(z:∀j x,(j≠i∨30<=x)->m' j x=m j x):Wt i fr m0 nl0 t0 m' w o' t:=by
 obtain⟨a,hl,r,v⟩:=h;refine⟨⟨q,?_,by show o'.nl=true->t=[];rw[u];exact a.2.2⟩,hl,r,?_⟩
 ·show BT m' 167 o'.nl t o'.ops.isEmpty=true;rw[u,y];have k:=a.2.1;cases hn:o.nl with
  |true=>simp only[hn,BT,if_true]at k ⊢;exact k
  |false=>
   have c:=eE a hn;simp only[hn]at k;rw[←k];exact D9 (z t 0 (.inl (λe=>c e.symm)))
 ·rcases v with ⟨c1,g,n⟩|⟨c1,n,b,s⟩
  ·simp_all
  ·exact .inr ⟨c1,by rw[u];exact n,λf=>by rw[z t0 0 (.inl (jV a.1 (b f)))];exact b f,λj x d p qa hm=>by rw[z j x p];exact s j x d p qa hm⟩
theorem lD{cs:List D}(hl:cs.length=30):∀j x,(j≠i∨30<=x)->(m.put i 0 cs) j x=m j x:=λj x h=>by
 rcases h with h|h
 ·rw[aA h]
 ·grind [aD,aA]
def F6{nl:Bool}{xs:List D}{e:Nat}{f:Id}{j:Id}{x:Nat}:GF.app m (Bc e f (.slice nl t xs)) j x=if j=f∧x=0 then some (.tok (e+1))else if nl=false∧j=t∧x=0 then some (.tok 0)else m j x:=C7
def L3(t fr:Id):Option (List Nat)->Id
 |none=>t
 |some l=>l++fr
def Wt.call(h:Wt i fr m0 nl0 t0 m w o t)(n:∀j x,fr<:+j->m0 j x=none)(ja:∀k l,(i=l++k::fr)=False){k:Nat}{d:D}{ol:Option (List Nat)}
  (s:ol=none->o'.nl=o.nl∧o'.ops=o.ops) (sa:∀l,ol=some l->o'.nl=false∧l≠[]):
  Wt i fr m0 nl0 t0 (GF.app m (Vl i w o t (k::fr) (d,o',ol))) w o' (L3 t (k::fr) ol)∧∀q x,GF.app m (Vl i w o t (k::fr) (d,o',ol)) (q::fr) x=m (q::fr) x:=by
 cases ol with
 |none=>
  obtain⟨u,y⟩:=s rfl;refine⟨h.cell (GX (CI _ _ _)) u y (lD (CI _ _ _)),λq x=>?_⟩;have e0:q::fr≠i:=λe=>(ja q []).mp e.symm
  show(m.put i 0 _) (q::fr) x=_;rw[aA e0]
 |some l=>
  obtain⟨g,c⟩:=sa l rfl;obtain⟨a,hl,hs,v⟩:=h;have r:i≠l++k::fr:=λe=>(ja k l).mp e
  have z:∀j x,GF.app m (Vl i w o t (k::fr) (d,o',some l)) j x=if j=l++k::fr∧x=0 then some (.tok 168)else if o.nl=false∧j=t∧x=0 then some (.tok 0)else(m.put i 0 (Hn w o' (l++k::fr))) j x:=λj x=>F6 (m:=m.put i 0 (Hn w o' (l++k::fr)))
  have oa:∀q,q::fr≠l++k::fr:=λq e=>by
   have:=congrArg ZI e;simp only[Qq,Qg]at this;exact c (QW.1 O)
  have b:fr<:+l++k::fr:=⟨l++[k],U⟩;refine⟨⟨⟨?_,?_,λh=>absurd h (by rw[g];simp)⟩,λq e=>oa q e.symm,hs,.inr ⟨⟨l,k,rfl⟩,g,λh0=>?_,λj x dd p qa hm=>?_⟩⟩,λq x=>?_⟩
  ·show Ag _ i 0 30=some (Hn w o' (l++k::fr));rw[←GX (m:=m) (i:=i) (CI w o' (l++k::fr))];refine BA (λq hq=>?_);have na:q.1=i:=by
    grind [Ai]
   rw[z,na,if_neg (λe=>r e.1),if_neg (λe=>eE a e.1 e.2.1)]
  ·show BT _ 167 o'.nl (l++k::fr) _=true;rw[g];unfold BT;rw[if_neg QL];simp only[z,and_self,if_true];cases l<;>simp
  ·have fa:t0≠l++k::fr:=λe=>hs h0 (e▸b)
   rw[z,if_neg (λe=>fa e.1)];rcases v with ⟨c1,c0,c2⟩|⟨c1,c2,c3,c4⟩
   ·simp_all
   ·split
    ·rfl
    ·rw[aA (jV a.1 (c3 h0))];exact c3 h0
  ·have fa:j≠l++k::fr:=λe=>by rw[e,n _ _ b]at hm;cases hm
   rw[z,if_neg (λe=>fa e.1)];have f:m j x=some dd:=by
    grind
   rw[if_neg]
   ·grind [lD,CI]
   ·rintro⟨e1,e2,e3⟩;rcases v with ⟨c1,c0,c2⟩|⟨⟨l',k',c1⟩,c2,c3,c4⟩
    ·simp_all
    ·rw[e2,c1,n _ _ ⟨l'++[k'],U⟩]at hm;cases hm
  ·have e0:q::fr≠i:=λe=>(ja q []).mp e.symm
   rw[z,if_neg (λe=>oa q e.1),if_neg (λe=>hl q e.2.1.symm),aA e0]
def Wt.start(h:UK m i (w,o,t))(n:∀j x,fr<:+j->m j x=none):Wt i fr m o.nl t m w o t:=by
 have r:o.nl=false->¬fr<:+t:=λg r=>by
  have:=EB h.2.1 g;rw[n _ _ r]at this;cases this
 refine⟨h,λq e=>?_,r,.inl ⟨rfl,rfl,λ_ _ _ _ h=>h⟩⟩;cases g:o.nl with
 |true=>have:=h.2.2 g;simp only at this;rw[this]at e;cases e
 |false=>exact r g (by rw[e];exact⟨[q],rfl⟩)
def Wt.end0(h:Wt i fr m0 nl0 t0 m w o t0)(j:nl0=true->t0=[]){d:D}:WE i fr m0 nl0 t0 w (d,o,none) d m:=by
 refine⟨rfl,h.at_.1,?_⟩;rcases h.ch with ⟨c1,e,p⟩|⟨⟨l,k,c1⟩,p,b,u⟩
 ·exact p
 ·exfalso;cases hn:nl0 with
  |true=>rw[j hn]at c1;simp at c1
  |false=>exact h.sub0 hn (c1▸⟨l++[k],U⟩)
def Wt.endl{l:List Nat}(h:Wt i fr m0 nl0 t0 m w o (l++fr))(hl:l≠[]){d:D}:WE i fr m0 nl0 t0 w (d,o,some l) d m:=by
 refine⟨rfl,h.at_.1,?_⟩;rcases h.ch with ⟨c1,e,p⟩|⟨⟨q,k,c1⟩,p,b,u⟩
 ·exfalso;cases hn:nl0 with
  |true=>
   have:=h.at_.2.2 (e.trans hn);simp only[List.append_eq_nil_iff]at this;exact hl this.1
  |false=>exact h.sub0 hn (c1▸⟨l,rfl⟩)
 ·exact⟨EB h.at_.2.1 p,b,u⟩
end
def kW(S:Gz)(g:DC)(rs:List RV)(N:Nat)(w:Wb)(o:Oc)(r:List D)(y:WY):Prop:=r.length+1<=N∧(y.2.2=none->y.2.1.nl=o.nl∧y.2.1.ops=o.ops)∧(∀l,y.2.2=some l->y.2.1.nl=false∧l≠[])∧
 ∀(i:Id)(m:GB)(fr t:Id),UK m i (w,o,t)->(∀j x,fr<:+j->m j x=none)->(∀k l,(i=l++k::fr)=False)->(∀k,(i=k::fr)=False)->
  g.wp S fr (DW rs (WE i fr m o.nl t w y)) ⟨BE (.ptr i 0::r),m,0⟩
open Classical in
def RW(S:Gz)(x:DC)(rs:List RV)(N:Nat):Wb->Oc->List D->Option WY:=λw o r=>if h:∃y,kW S x rs N w o r y then some (Classical.choose h)else none
def EF{S:Gz}{x:DC}{rs:List RV}{N:Nat}{w:Wb}{o:Oc}{r:List D}{y:WY}(h:RW S x rs N w o r=some y):kW S x rs N w o r y:=by
 unfold RW at h;split at h
 ·grind
 ·cases h
def aQL(w:Wb)(o:Oc)(f:o.nl=true->o.ops=[]):∃(m:GB)(t:Id),UK m [0] (w,o,t)∧(∀j x,[1]<:+j->m j x=none)∧¬[1]<:+t:=by
 have n1:¬[1]<:+[0]:=V
 have n2:¬[1]<:+[2]:=V
 cases hn:o.nl with
 |true=>
  refine⟨GB.put (λ_ _=>none) [0] 0 (Hn w o []),[],⟨GX (CI _ _ _),?_,λ_=>rfl⟩,λj x u=>?_,V⟩
  ·grind [BT]
  ·rw[aA (λe=>n1 (by rw[←e];exact u))]
 |false=>
  refine⟨(GB.put (λ_ _=>none) [0] 0 (Hn w o [2])).put [2] 0 [.tok 168],[2],⟨?_,?_,λh=>?_⟩,λj x u=>?_,n2⟩
  ·grind [Ok,GX,CI]
  ·grind [BT,GB.put]
  ·simp only at h;rw[hn]at h;cases h
  ·rw[aA (λe=>n2 (by rw[←e];exact u)),aA (λe=>n1 (by rw[←e];exact u))]
def A5{S:Gz}{g:DC}{rs:List RV}{N:Nat}{w:Wb}{o:Oc}{r:List D}{y:WY}(ho:o.nl=true->o.ops=[])(i:kW S g rs N w o r y):RW S g rs N w o r=some y:=by
 have q:∃y,kW S g rs N w o r y:=⟨y,i⟩;unfold RW;rw[dif_pos q];obtain⟨m,t,u,f,x⟩:=aQL w o ho;have j:∀k l,(([0]:Id)=l++k::[1])=False:=λk l=>eq_false (λe=>by
  have:=congrArg List.getLast? e;simp at this)
 have e2:∀k,(([0]:Id)=k::[1])=False:=λk=>eq_false (λe=>by simp at e)
 obtain⟨d,m',a,b⟩:=PO ((Classical.choose_spec q).2.2.2 [0] m [1] t u f j e2) (i.2.2.2 [0] m [1] t u f j e2);generalize Classical.choose q=z at *;obtain⟨z1,v,n⟩:=z;obtain⟨y1,y2,y3⟩:=y;obtain⟨rfl,a⟩:=a;obtain⟨p,b⟩:=b;simp only at p;subst p;cases n with
 |none=>
  cases y3 with
  |none=>
   have:=a.1.symm.trans b.1;simp only[Ql]at this;rw[(LH this).2.1]
  |some l=>
   have:=a.1.symm.trans b.1;simp only[Ql]at this;exact absurd ⟨l,(LH this).2.2.symm⟩ x
 |some l=>
  cases y3 with
  |none=>
   have:=a.1.symm.trans b.1;simp only[Ql]at this;exact absurd ⟨l,(LH this).2.2⟩ x
  |some s=>
   have:=a.1.symm.trans b.1;simp only[Ql]at this;obtain⟨_,c,e4⟩:=LH this;rw[c,List.append_cancel_right e4]
def De{S:Gz}{f:FuncId}{N:Nat}{dc:DC}{rs:List RV}(hf:Fn Qe f N dc rs)(hS:Gz.ok Qe S):(wQ (RW S dc rs N)).ok Qe f:=by
 refine IM hS hf aMu (λds m fr r u z n=>?_);simp only[wQ]at z;split at z
 ·rename_i i ba;rw[Q5]at z;obtain⟨⟨w,o,t⟩,hp,z⟩:=z;rw[QZ]at z;obtain⟨y,hF,z⟩:=z;simp only[QD]at z;obtain⟨rfl,rfl⟩:=z;have ka:=Sk hp;obtain⟨hN,s,sa,la⟩:=EF hF;have ra:m i 0=some (.bool w.v.se):=Oa ka.1;have ja:∀k l,(i=l++k::fr)=False:=λk l=>eq_false (λe=>by
   rw[e,n _ _ ⟨l++[k],U⟩]at ra;cases ra)
  refine⟨hN,LF (la i m fr t ka n ja (λk=>ja k [])) (λe ga he=>?_)⟩;obtain⟨b,d,fa,rfl,hE⟩:=he;refine⟨b,_,fa,rfl,λj x dd p=>?_⟩;obtain⟨y1,y2,y3⟩:=y;cases y3 with
  |none=>
   obtain⟨g1,g2⟩:=hE;have pa:(m.put i 0 (Hn w y2 t)) j x=some dd:=p;by_cases hj:j≠i∨30<=x
   ·grind [lD,CI]
   ·have cb:j=i:=Classical.byContradiction (λh=>hj (.inl h));have a:x<30:=Zk (λh=>hj (.inr h));subst cb;have ea:=aE (m:=m) (i:=j) (o:=0) (j:=x) (ds:=Hn w y2 t) (by rw[CI];exact a);rw[Qp]at ea;rw[ea]at pa;exact Bi g1 pa
  |some l=>
   obtain⟨g1,g2,g3,g4⟩:=hE;obtain⟨g,c⟩:=sa l rfl;have pa:GF.app (m.put i 0 (Hn w y2 (l++fr))) (Bc 167 (l++fr) (.slice o.nl t (D5 o.ops))) j x=some dd:=p;rw[F6]at pa;split at pa
   ·simp_all
   ·split at pa
    ·simp_all
    ·rename_i e1 e2;by_cases hj:j≠i∨30<=x
     ·rw[lD (CI _ _ _) j x hj]at pa;refine g4 j x dd hj ?_ pa;cases ho:o.nl with
      |true=>exact .inl rfl
      |false=>
       by_cases q:j=t
       ·simp_all
       ·exact .inr (.inl q)
     ·have cb:j=i:=Classical.byContradiction (λh=>hj (.inl h));have a:x<30:=Zk (λh=>hj (.inr h));subst cb;have ea:=aE (m:=m) (i:=j) (o:=0) (j:=x) (ds:=Hn w y2 (l++fr)) (by rw[CI];exact a);rw[Qp]at ea;rw[ea]at pa;exact Bi g1 pa
 ·cases z
def lX{F:Wb->Oc->List D->Option WY}{w:Wb}{o:Oc}{t i fr:Id}{m:GB}{r:List D}{y:WY}{K:D×GF->Prop}{g}(j:UK m i (w,o,t))(n:F w o r=some y)(h:K (y.1,Vl i w o t fr y)):GQ ((wQ F).ex (.ptr i 0::r) m fr) K g:=by
 refine aI ?_ h;simp only[wQ,VT j (λz u=>cD j u),Qj,n,Qv]
def aBk:=y0 f223 [] []
def aJE:Fn Qe 223 19 aBk [.cell (some 2) 4]:=Aj func223
def aKF:=y0 Tryz.f276 [] []
def Uy:=y1 Tryz.f277 1 [] []
def aKE:=y0 Tryz.f277 [] [(1,Uy)]
def aBl:=y0 f221 [(1,[(3,0),(3,13),(7,13),(13,0),(13,3),(13,7)])] []
def aBj:=y0 f224 [] []
def UE:=y1 f225 3 [(6,[(8,5)])] []
def aLp:=y0 f225 [] [(3,UE)]
abbrev y2(f:Func)(ps:List (Nat×List (Nat×Nat)))(ls:List (Nat×DC)){c:DC}(_:tQ ps ls (bAt f)=c:=by exact Eq.trans (by conv=>lhs;whnf) (by simp only[tQ,rL,List.append_eq,tR,tO,tAt,tAi,tAb,tAs,tAf,tAl,tAp,tAn,tAu,tAg,zT,Tz.k,Tz.z,Tz.n,Tz.d,tL,tP,tB,tE,tX,tS,tI,tG,tC,tM,fAt,So,lk,ofVal,List.getD_cons_zero,List.getD_cons_succ,List.map_cons,List.map_nil,List.length_cons,List.length_nil,List.headD_cons,List.cons_append,List.nil_append,Option.map_some,Option.map_none,Option.getD_some,Bool.false_eq_true,reduceIte,Nat.reduceAdd,Nat.reduceMul,Nat.reduceEqDiff]<;>rfl)):DC:=c
abbrev y3(f:Func)(k:Nat)(ps:List (Nat×List (Nat×Nat)))(ls:List (Nat×DC)){c:DC}(_:tQ ps ls ((We k (bAt f)).getD .skip)=c:=by exact Eq.trans (by conv=>lhs;whnf) (by simp only[tQ,rL,List.append_eq,tR,tO,tAt,tAi,tAb,tAs,tAf,tAl,tAp,tAn,tAu,tAg,zT,Tz.k,Tz.z,Tz.n,Tz.d,tL,tP,tB,tE,tX,tS,tI,tG,tC,tM,fAt,So,lk,ofVal,List.getD_cons_zero,List.getD_cons_succ,List.map_cons,List.map_nil,List.length_cons,List.length_nil,List.headD_cons,List.cons_append,List.nil_append,Option.map_some,Option.map_none,Option.getD_some,Bool.false_eq_true,reduceIte,Nat.reduceAdd,Nat.reduceMul,Nat.reduceEqDiff]<;>rfl)):DC:=c
def aTt:=y0 f144 [(0,[(2,6)])] []
def aTs:=y0 f145 [] []
def aTr:=y0 f146 [] []
def aLt:=y0 f216 [] []
def W7:=y0 f218 [] []
def aOs:=y0 f148 [(0,[(22,26),(26,4),(26,9),(26,14),(26,19),(26,22)]),(4,[(1,2)])] []
def Nh:=y0 f153 [] []
def aGw:=y0 f87 [] []
def AJ{m:GB}{i:Id}{w:Wb}{o:Oc}{t:Id}(h:Ag m i 0 30=some (Hn w o t)):m i 0=some (.bool w.v.se)∧m i 1=some (.int .i64 w.v.te)∧m i 2=some (.str w.v.key)∧m i 3=some (.slice w.v.nlm [] (AA w.v.ms))∧m i 4=some (.slice w.v.nlt [] (AI w.v.ks))∧m i 5=some (.int .u8 w.a.op)∧m i 6=some (.str w.a.tk)∧m i 7=some (.str w.a.pa)∧m i 8=some (.str w.a.ot)∧m i 9=some (.int .i64 w.a.n)∧m i 10=some (.int .i64 w.a.cas)∧m i 11=some (.bool w.a.fl)∧m i 12=some (.slice w.a.nln [] (AH w.a.ns))∧m i 13=some (.str w.a.da)∧m i 14=some (.slice w.a.nlr [] (Ar w.a.rs))∧m i 15=some (.str w.a.key)∧m i 16=some (.slice w.k.es.isEmpty [] (w.k.es.map λx=> .str x.1))∧m i 17=some (.slice w.k.es.isEmpty [] (w.k.es.map λx=> .str x.2.1))∧m i 18=some (.slice w.k.es.isEmpty [] (w.k.es.map λx=> .bool x.2.2))∧m i 19=some (.slice w.k.ls.isEmpty [] (w.k.ls.map λx=> .str x.1))∧m i 20=some (.slice w.k.ls.isEmpty [] (w.k.ls.map zG))∧m i 21=some (.str o.need)∧m i 22=some (.bool o.li)∧m i 23=some (.str o.rep)∧m i 24=some (.slice o.nl t (D5 o.ops))∧m i 25=some (.bool o.vw.se)∧m i 26=some (.int .i64 o.vw.te)∧m i 27=some (.str o.vw.key)∧m i 28=some (.slice o.vw.nlm [] (AA o.vw.ms))∧m i 29=some (.slice o.vw.nlt [] (AI o.vw.ks)):=
 ⟨Bi h rfl,Bi h rfl,Bi h rfl,Bi h rfl,Bi h rfl,Bi h rfl,Bi h rfl,Bi h rfl,Bi h rfl,Bi h rfl,Bi h rfl,Bi h rfl,Bi h rfl,Bi h rfl,Bi h rfl,Bi h rfl,Bi h rfl,Bi h rfl,Bi h rfl,Bi h rfl,Bi h rfl,Bi h rfl,Bi h rfl,Bi h rfl,Bi h rfl,Bi h rfl,Bi h rfl,Bi h rfl,Bi h rfl,Bi h rfl⟩
def Wt.cellp{i fr t0 t:Id}{m0 m:GB}{nl0:Bool}{w:Wb}{o o':Oc}{p:Nat}{ys:List D}(h:Wt i fr m0 nl0 t0 m w o t)(hl:p+ys.length<=30)(v:(Hn w o t).take p++ys++(Hn w o t).drop (p+ys.length)=Hn w o' t)(u:o'.nl=o.nl)(y:o'.ops=o.ops):Wt i fr m0 nl0 t0 (m.put i p ys) w o' t:=by
 refine h.cell (by rw[eS h.at_.1 hl,v]) u y (λj x hj=>?_);rcases hj with hj|hj
 ·rw[aA hj]
 ·grind [aD,aA]
structure dU (o:Oc):Prop where
 nl:o.nl=true
 ops:o.ops=[]
def S54:=Aq [(37,Ac aHP)]
def NX:Wb->Oc->List D->Option WY:=RW S54 aTt [] 14
def Rx:(wQ NX).ok Qe 144:=De (Aj func144) (Aa aJm Ad)
def jJ(w:Wb)(o:Oc)(e:Int)(f:dU o)(z:1<=e∧e<=99):NX w o [.int .i64 e]=some (.tup [],⟨[],false,Hg (.fail e),true,[],w.v⟩,none):=by
 refine A5 (λ_=>f.ops) ⟨Qa rfl,λh=>⟨f.nl.symm,f.ops.symm⟩,λl h=>Xd,λi m fr t j x u n0=>?_⟩;have g:=Wt.start j x;unfold aTt;have y:=AJ j.1;have b:=UZ e z;have k:t=[]:=j.2.2 f.nl;simp only[GC,↓C2,Gy,simprocAttr,y,Ae S54 37,b];refine AY ?_;simp only[↓C2,GD,Hp,simprocAttr];subst k;exact(g.cellp (o':=⟨[],false,Hg (.fail e),true,[],w.v⟩) (Qa rfl) rfl f.nl.symm f.ops.symm).end0 (λ_=>rfl)
def S55:=Aq [(30,Ac aHO)]
def cO:Wb->Oc->List D->Option WY:=RW S55 aTs [] 13
def fW:(wQ cO).ok Qe 145:=De (Aj func145) (Aa aJl Ad)
def Gq(w:Wb)(o:Oc)(y:Ry)(p:o.nl=true->o.ops=[])(h:aFc y)(r:ryN y):cO w o [.agg (Hh y)]=some (.tup [],{o with rep:=Hg y},none):=by
 refine A5 p ⟨Qa rfl,λh=>⟨rfl,rfl⟩,λl h=>Xd,λi m fr t s x u n0=>?_⟩;have hW:=Wt.start s x;unfold aTs;have xx:=AJ s.1;have n:=oC y h r;have d0:((Hh y).map D.un1=Hh y∧(Hh y).all D.calm1=true)∧D.data (.agg (Hh y))=true∧(D.agg (Hh y)).cells=Hh y∧(Hh y).length=10:=by cases y<;>exact⟨⟨rfl,rfl⟩,rfl,rfl,rfl⟩
 obtain⟨⟨q,d2⟩,d3,d4,d5⟩:=d0;obtain⟨a,b,cc,d,e,f,g,z,j,k,v⟩:∃a b c d e f g i j k,Hh y=[a,b,c,d,e,f,g,i,j,k]:=YP
 rw[v]at q d2 n ⊢;simp only[QE,Q2,Qc,and_true]at q;simp only[Q7,Zb,Bool.and_true,QY]at d2;obtain⟨u0,u1,u2,u3,u4,u5,u6,u7,u8,u9⟩:=q;obtain⟨k0,k1,k2,k3,k4,k5,k6,k7,k8,k9⟩:=d2;simp only[GC,↓C2,Gy,simprocAttr,xx.2.2.2.2.2.2.2.2.2.2.2.2.2.2.2.2.2.2.2.2.2.2.2.1,n0,Ae S55 30,n,u0,u1,u2,u3,u4,u5,u6,u7,u8,u9,k0,k1,k2,k3,k4,k5,k6,k7,k8,k9];exact(hW.put.cellp (o':={o with rep:=Hg y}) (Qa rfl) rfl rfl rfl).end0 s.2.2
def S56:=Aq [(145,wQ cO)]
def vG:Wb->Oc->List D->Option WY:=RW S56 aTr [] 5
def fV:(wQ vG).ok Qe 146:=De (Aj func146) (Aa fW Ad)
def Fz(w:Wb)(o:Oc)(f:o.nl=true->o.ops=[]):vG w o []=some (.tup [],{o with rep:=Hg .done},none):=by
 refine A5 f ⟨Qa rfl,λh=>⟨rfl,rfl⟩,λl h=>Xd,λi m fr t j x e n0=>?_⟩;have g:=Wt.start j x;unfold aTr;have c:=Gq w o .done f trivial trivial;unfold Hh at c;simp only[↓C2,GA,Gy,simprocAttr,AD S56 145];refine lX j c ?_;obtain⟨c1,p⟩:=g.call (o':={o with rep:=Hg .done}) (d:= .tup []) (ol:=none) (k:=2) x e (λ_=>⟨rfl,rfl⟩) (λl h=>Xd);simp only[↓C2,GD,simprocAttr];exact c1.end0 j.2.2
def aV7:=Aq []
def UV:Wb->Oc->List D->Option WY:=RW aV7 aLt [] 16
def aAc:(wQ UV).ok Qe 216:=De (Aj func216) Ad
def OQ(w:Wb)(o:Oc)(q:Bs)(li:Bool)(f:dU o):UV w o [.str q,.bool li]=some (.tup [],⟨q,li,[],true,[],w.v⟩,none):=by
 refine A5 (λ_=>f.ops) ⟨Qa rfl,λh=>⟨f.nl.symm,f.ops.symm⟩,λl h=>Xd,λi m fr t j x e n0=>?_⟩;have g:=Wt.start j x;unfold aLt;have y:=AJ j.1;have k:t=[]:=j.2.2 f.nl;simp only[GC,↓C2,Gy,simprocAttr,y];subst k;exact(g.cellp (o':=⟨q,li,[],true,[],w.v⟩) (Qa rfl) rfl f.nl.symm f.ops.symm).end0 (λ_=>rfl)
def aV9:=Aq []
def Nt:Wb->Oc->List D->Option WY:=RW aV9 aLA [] 23
def L8:(wQ Nt).ok Qe 210:=De (Aj func210) Ad
def aGQ(w:Wb)(o:Oc)(k:Int)(z y:Bs)(ho:o.nl=true->o.ops=[])(hl:o.ops.length<=1000):Nt w o [.int .u8 k,.str z,.str y]=some (.tup [],{o with nl:=false,ops:=o.ops++[(k,z,y)]},some ([11])):=by
 refine A5 ho ⟨Qa rfl,λh=>Xd,λl h=>XA,λi m fr t s ca ja n0=>?_⟩;have hW:=Wt.start s ca;unfold aLA;have xx:=AJ s.1;have fa:o.nl=false->i≠t:=λh=>eE s h
 have f:o.nl=false->m t 0=some (.tok 168):=λh=>EB s.2.1 h
 have g:∀q,t≠q::fr:=hW.loc;have p:o.nl=true->D5 o.ops=[]:=λh=>by rw[ho h];rfl
 have ea:D5 (o.ops++[(k,z,y)])=D5 o.ops++[.agg [.int .u8 k,.str z,.str y]]:=by simp[D5,opD]
 have r:(D5 o.ops).length=o.ops.length:=yB _;simp only[↓C2,GA,Gy,simprocAttr,xx.2.2.2.2.2.2.2.2.2.2.2.2.2.2.2.2.2.2.2.2.2.2.2.2.1];refine As.intro ⟨Xt,rfl,?_⟩ ?_
 ·cases hn:o.nl with
  |true=>exact .inl rfl
  |false=>exact .inr ⟨by rw[aA (g _)];exact f hn,by
    have:=EB s.2.1 hn;unfold UK BT at s;simp only[hn,Qs,if_false,this,beq_self_eq_true,Zq]at s;intro e;rw[e]at s;simp at s⟩
 rw[B0 p,MS];have a:∀j x,GF.app (m.put (10::fr) 0 [.tok 168]) (Bc 167 (11::fr) (.slice o.nl t (D5 o.ops))) j x=if j=11::fr∧x=0 then some (.tok 168)else if o.nl=false∧j=t∧x=0 then some (.tok 0)else(m.put (10::fr) 0 [.tok 168]) j x:=λj x=>F6
 generalize hM:GF.app (m.put (10::fr) 0 [.tok 168]) (Bc 167 (11::fr) (.slice o.nl t (D5 o.ops)))=M at *;have b:∀x,M i x=m i x:=λx=>by
  rw[a,if_neg (λe=>(n0 11).mp e.1),if_neg (λe=>fa e.1 e.2.1),aA (λe=>(n0 10).mp e)]
 have n:Ag M i 0 30=some (Hn w o t):=by
  rw[←s.1];exact BA (λl hl=>by
   simp only[Ai,QB]at hl;obtain⟨_,_,rfl⟩:=hl;exact b _)
 simp only[GC,↓C2,Gy,simprocAttr,xx.2.2.2.2.2.2.2.2.2.2.2.2.2.2.2.2.2.2.2.2.2.2.2.2.1,b];refine⟨rfl,?_,?_,λh=>?_,λj x d u qa hm=>?_⟩
 ·rw[eS n (Qa rfl),←ea];rfl
 ·grind [aA]
 ·grind [aA]
 ·have c:∀q,j≠q::fr:=λq e=>by rw[e,ca (q::fr) _ ⟨[q],rfl⟩]at hm;cases hm
  have v:(M.put i 24 [.slice false (11::fr) (D5 o.ops++[.agg [.int .u8 k,.str z,.str y]])]) j x=M j x:=by
   grind [aA,aD]
  refine(show _=_ from v).trans ?_;rw[a,if_neg (λe=>c 11 e.1),if_neg,aA (c 10)]
  ·exact hm
  ·grind
def aOt:=y0 f147 [(3,[(1,7)])] []
def Uo:=y1 f149 6 [] []
def aOr:=y0 f149 [(0,[(10,14),(14,4),(14,9),(14,10)]),(4,[(1,2)])] [(6,Uo)]
def aGs:=y0 f150 [(0,[(16,4),(16,9),(16,14)]),(1,[(6,10),(10,4),(10,5),(10,6)])] []
def iK:=y1 f151 5 [] []
def aGr:=y0 f151 [(0,[(10,15),(15,4),(15,9),(15,10)])] [(5,iK)]
def Oc.op(o:Oc)(k:Int)(z y:Bs):Oc:={o with nl:=false,ops:=o.ops++[(k,z,y)]}
def Bo(o:Oc)(p:Bs)(ns:List Int):Oc:={o with nl:=o.nl&&ns.isEmpty,ops:=o.ops++ns.map λn=>(2,A_ 2 p n,[])}
def aA4{o:Oc}{p:Bs}{ns:List Int}{n:Int}:(Bo o p ns).op 2 (A_ 2 p n) []=Bo o p (ns++[n]):=by
 simp[Bo,Oc.op]
def SP{o:Oc}{p:Bs}:Bo o p []=o:=by simp[Bo]
def SQ(ns:List Int):Option (List Nat):=if ns=[]then none else some [11,11*ns.length]
def BP(v:Vw)(p:Bs):Int×Bool:=if Cq v.ms p=-1 then(0,false)else(CE v.ms (Cq v.ms p).toNat).2
def aMX(v:Vw)(p:Bs):Bs×Int:=if Cq v.ms p=-1 then([],14)else((CE v.ms (Cq v.ms p).toNat).1,0)
def xE(v:Vw)(p:Bs):Lh v.ms p= .tup [.agg [.str (aMX v p).1,.int .i64 (BP v p).1,.bool (BP v p).2],.int .i64 (aMX v p).2]:=by
 unfold Lh BP aMX;split<;>rfl
def Ap{i fr t0 t:Id}{m0 m:GB}{nl0:Bool}{w:Wb}{o o':Oc}{r:List D}{d:D}{ol:Option (List Nat)}{F:Wb->Oc->List D->Option WY}{S:Gz}{c k n:Nat}{ops l:List DOper}{s:Nat->D}{f:Option Nat}{K:Nat->(Nat->D)->GB->Prop}{g}
  (b:Wt i fr m0 nl0 t0 m w o t) (y:F w o r=some (d,o',ol))
  (h:∀M,Wt i fr m0 nl0 t0 M w o' (L3 t (n::fr) ol)->(∀q x,M (q::fr) x=m (q::fr) x)->FJ S fr c ops l k (Cp s f d) M K) (p:∀j x,fr<:+j->m0 j x=none:=by assumption) (e:∀k l,(i=l++k::fr)=False:=by assumption) (hR:∃S a rs N,F=RW S a rs N:=by exact⟨_,_,_,_,rfl⟩):
  GQ ((wQ F).ex (.ptr i 0::r) m (n::fr)) (λx=>VG S fr c ops l k s f m K x.1 x.2) g:=by
 obtain⟨u,a,rs,N,rfl⟩:=hR;obtain⟨_,ha,z,_⟩:=EF y;refine lX b.at_ y ?_;obtain⟨c1,v⟩:=b.call (o':=o') (d:=d) (ol:=ol) (k:=n) p e ha z;exact h _ c1 v
def Co{i fr t0 t:Id}{m0 m:GB}{nl0:Bool}{w:Wb}{o o':Oc}{r:List D}{d:D}{ol:Option (List Nat)}{F:Wb->Oc->List D->Option WY}{S:Gz}{c k n:Nat}{ops l:List DOper}{s:Nat->D}{a:Option Nat}{op:DOp}{K:Nat->(Nat->D)->GB->List LD->Prop}{g}
  (b:Wt i fr m0 nl0 t0 m w o t) (y:F w o r=some (d,o',ol))
  (h:∀M u,u=Vl i w o t (n::fr) (d,o',ol)->Wt i fr m0 nl0 t0 M w o' (L3 t (n::fr) ol)->(∀q x,M (q::fr) x=m (q::fr) x)->Ca S fr c ops l k (Cp s a d) M λk' s' m' f=>K k' s' m' ((GS S s m op,AB u)::f)) (p:∀j x,fr<:+j->m0 j x=none:=by assumption) (e:∀k l,(i=l++k::fr)=False:=by assumption) (hR:∃S dc rs N,F=RW S dc rs N:=by exact⟨_,_,_,_,rfl⟩):
  GQ ((wQ F).ex (.ptr i 0::r) m (n::fr)) (λx=>Ng S fr c ops l k s a m op K x.1 x.2) g:=by
 obtain⟨S',dc,rs,N,rfl⟩:=hR;obtain⟨_,ha,z,_⟩:=EF y;refine lX b.at_ y ?_;obtain⟨c1,v⟩:=b.call (o':=o') (d:=d) (ol:=ol) (k:=n) p e ha z;exact h _ _ rfl c1 v
def DH(w:Wb)(o:Oc)(k:Int)(z y:Bs)(f:o.nl=true->o.ops=[])(hl:o.ops.length<=1000):Nt w o [.int .u8 k,.str z,.str y]=some (.tup [],o.op k z y,some [11]):=aGQ w o k z y f hl
def aUe:=Aq [(23,Ac aEh)]
def uB:Wb->Oc->List D->Option WY:=RW aUe aBk [.cell (some 2) 4] 19
def aSY:(wQ uB).ok Qe 223:=De aJE (Aa yJ Ad)
def UT(w:Wb)(o:Oc)(p:Bs)(f:o.nl=true->o.ops=[])(u:w.v.ms.length<=1000):uB w o [.str p]=some (.agg [.int .i64 (BP w.v p).1,.bool (BP w.v p).2],o,none):=by
 refine A5 f ⟨Qa rfl,λh=>⟨rfl,rfl⟩,λl h=>Xd,λi m fr t j x e n0=>?_⟩;have g:=Wt.start j x;unfold aBk;have y:=AJ j.1;have a:=oT (nl:=w.v.nlm) (t:=[]) (l:=w.v.ms) (p:=p) O;rw[xE]at a;simp only[GC,↓C2,Gy,simprocAttr,y,n0,Ae aUe 23,a];exact g.put.put.put.put.end0 j.2.2
def aGR:=Aq [(317,Ac aPj),(211,Ac EZ),(210,wQ Nt)]
def aGK:Wb->Oc->List D->Option WY:=RW aGR aKF [] 18
def aI9:(wQ aGK).ok Qe 276:=De (Aj func276) (Aa aSo (Aa Ii (Aa L8 Ad)))
def nK(w:Wb)(o:Oc)(p:Bs)(s:Sc)(f:o.nl=true->o.ops=[])(hl:o.ops.length<=1000)(k:s.rs.length<=1000)(g:p.length<=1000000):aGK w o [.str p,.agg (GG s)]=some (.tup [],o.op 1 (A_ 1 p 0) (FO s),some ([11,12])):=by
 refine A5 f ⟨Qa rfl,λh=>Xd,λl h=>XA,λi m fr t j x e n0=>?_⟩;have b:=Wt.start j x;unfold aKF;have a:=aG5 s k;have r:=CP 1 0 p g;have qa:=DH w o 1 (A_ 1 p 0) (FO s) f hl;unfold GG at *;simp only[GC,↓C2,Gy,simprocAttr,Ae aGR 317,a,Ae aGR 211,r,AD aGR 210];refine Ap b.put qa (λM c1 n=>?_);simp only[↓C2,GD,simprocAttr];exact c1.endl (l:=[11,12]) U
def aOY:=Aq [(211,Ac EZ),(210,wQ Nt)]
def tZ:Wb->Oc->List D->Option WY:=RW aOY aKE [] 20
def aAb:(wQ tZ).ok Qe 277:=De (Aj func277) (Aa Ii (Aa L8 Ad))
def UR(w:Wb)(o:Oc)(p:Bs)(nl:Bool)(tq:Id)(ns:List Int)(ho:o.nl=true->o.ops=[])(hl:o.ops.length+ns.length<=1000)(k:p.length<=1000000):tZ w o [.str p,.slice nl tq (AH ns)]=some (.tup [],Bo o p ns,SQ ns):=by
 refine A5 ho ⟨Qa rfl,λh=>(by unfold SQ at h;split at h<;>simp_all [Bo]),λl h=>(by unfold SQ at h;split at h<;>simp_all [Bo];subst h;simp),λi m fr t ha x ja n0=>?_⟩;have hW:=Wt.start ha x;unfold aKE;simp only[↓C2,GD,simprocAttr,Ez];refine BI (n:=ns.length) (I:=λj v=>v.s 8= .slice nl tq (AH ns)∧v.s 9= .int .i64 ns.length∧v.s 10= .int .i64 (j:Int)∧v.s 0= .ptr i 0∧v.s 1= .str p∧v.c=3+11*j∧Wt i fr m o.nl t v.m w (Bo o p (ns.take j)) (if j=0 then t else [11,11*j]++fr)) (λj z ih v g hI=>?_) (λv g hI=>?_) 0 (Qu _) _ _ ⟨rfl,rfl,rfl,rfl,rfl,rfl,by simp only[QP,SP,if_true];exact hW⟩
 ·obtain⟨ma,ia,b⟩:=v;obtain⟨h8,h9,q,h0,u,hc,hw⟩:=hI;simp only at h8 h9 q h0 u hc hw;refine Af Uy.eq_1 ?_;have y:((j:Int)<(ns.length:Int))=True:=eq_true O;have oa:=nJ (j:=j);have ka:=SD (l:=ns) (j:=j) z;have sa:IntKind.i64.wrap ((j:Int)+1)=((j+1:Nat):Int):=by rw[GZ O O];omega
  have ba:=CP 2 ns[j] p k;have na:(Bo o p (ns.take j)).nl=true->(Bo o p (ns.take j)).ops=[]:=λh=>by
   simp only[Bo,QY,List.isEmpty_iff]at h ⊢;rw[ho h.1,h.2];rfl
  have f:(Bo o p (ns.take j)).ops.length<=1000:=by simp[Bo];omega
  have qa:=DH w (Bo o p (ns.take j)) 2 (A_ 2 p ns[j]) [] na f;rw[aA4,←QG z]at qa;simp only[↓C2,GA,Gy,simprocAttr,h0,u,h8,h9,q,y,oa,Qh,ka,Ae aOY 211,ba,AD aOY 210];refine Ap hw qa (λM c1 c2=>?_);have e:L3 (if j=0 then t else [11,11*j]++fr) ((b+1+3+4)::fr) (some [11])=(if j+1=0 then t else [11,11*(j+1)]++fr):=by
   rw[if_neg (Qf j)];show [11]++_::fr=_;rw[show b+1+3+4=11*(j+1)by omega];rfl
  rw[e]at c1;simp only[↓C2,GD,simprocAttr,q,sa];exact ih _ _ ⟨h8,h9,rfl,h0,u,Xb,c1⟩
 ·obtain⟨ma,ia,b⟩:=v;obtain⟨h8,h9,q,h0,u,hc,hw⟩:=hI;simp only at h8 h9 q h0 u hc hw;refine Af Uy.eq_1 ?_;simp only[↓C2,GD,GN,Gy,simprocAttr,h9,q,Qz];rw[Zi]at hw;unfold SQ;cases ns with
  |nil=>exact hw.end0 ha.2.2
  |cons a r=>exact hw.endl (l:=[11,11*(r.length+1)]) U
def yZ(w:Wb)(p:Bs):Bs×Bool×Bool:=Dq w.k (A_ 1 p 0)
def Nu:=Aq [(211,Ac EZ),(220,Ac N7),(216,wQ UV),(24,Ac aPz)]
def CX:Wb->Oc->List D->Option WY:=RW Nu W7 [.cell (some 4) 4,.t 5,.t 6] 42
def aJg:(wQ CX).ok Qe 218:=De (Aj func218:Fn Qe 218 42 W7 [.cell (some 4) 4,.t 5,.t 6]) (Aa Ii (Aa aJf (Aa aAc (Aa aSK Ad))))
def uD(w:Wb)(o:Oc)(p:Bs)(f:dU o)(g:p.length<=1000000)(s:w.k.es.length<=1000)(mt:Bs×Bool×Bool)(u:yZ w p=mt)(z:mt.2.2=false):CX w o [.str p]=some (.tup [.agg (GG sc0),.bool false,.bool false],⟨A_ 1 p 0,false,[],true,[],w.v⟩,none):=by
 refine A5 (λ_=>f.ops) ⟨Qa rfl,λh=>⟨f.nl.symm,f.ops.symm⟩,λl h=>Xd,λi m fr t j x e n0=>?_⟩;have hW:=Wt.start j x;unfold W7;obtain⟨n,q,b⟩:=mt;simp only at z;have r:=CP 1 0 p g;have y:=OS w.k (A_ 1 p 0) s;rw[show Dq w.k (A_ 1 p 0)=_ from u]at y;unfold Ha at y;have c:=AJ j.1;subst z;have a:=OQ w o (A_ 1 p 0) false f;simp only[GC,↓C2,Gy,simprocAttr,c,n0,Ae Nu 211,r,Ae Nu 220,y,AD Nu 216];refine Ap hW.put a (λM c1 c2=>?_);simp only[GC,↓C2,Gy,simprocAttr,c2];exact c1.put.end0 j.2.2
def aGP(w:Wb)(o:Oc)(p:Bs)(h0:dU o)(g:p.length<=1000000)(hk:w.k.es.length<=1000)(mt:Bs×Bool×Bool)(u:yZ w p=mt)(v:mt.2.2=true)(ht:mt.1.length<=1000000)(f:mt.2.1=false∨(Cg mt.1).2≠0):CX w o [.str p]=some (.tup [.agg (GG sc0),.bool false,.bool true],o,none):=by
 refine A5 (λ_=>h0.ops) ⟨Qa rfl,λh=>⟨rfl,rfl⟩,λl h=>Xd,λi m fr t j x ja n0=>?_⟩;have hW:=Wt.start j x;unfold W7;obtain⟨n,q,b⟩:=mt;simp only at v;have r:=CP 1 0 p g;have y:=OS w.k (A_ 1 p 0) hk;rw[show Dq w.k (A_ 1 p 0)=_ from u]at y;unfold Ha at y;have a:=nX n ht;unfold GG at a;have c:=AJ j.1;subst v;simp only at f;generalize Cg n=se at *;obtain⟨s,e⟩:=se;simp only at f a;cases q with
 |false=>
  simp only[GC,↓C2,Gy,simprocAttr,c,n0,Ae Nu 211,r,Ae Nu 220,y,Ae Nu 24,a];exact hW.put.put.put.end0 j.2.2
 |true=>
  have z:(e=0)=False:=eq_false (f.resolve_left U);simp only[GC,↓C2,Gy,simprocAttr,c,n0,Ae Nu 211,r,Ae Nu 220,y,Ae Nu 24,a,z];exact hW.put.put.put.end0 j.2.2
def aCU(w:Wb)(o:Oc)(p:Bs)(h0:dU o)(g:p.length<=1000000)(hk:w.k.es.length<=1000)(mt:Bs×Bool×Bool)(u:yZ w p=mt)(v:mt.2.2=true)(ht:mt.1.length<=1000000)(f:mt.2.1=true)(z:(Cg mt.1).2=0):CX w o [.str p]=some (.tup [.agg (GG (Cg mt.1).1),.bool true,.bool true],o,none):=by
 refine A5 (λ_=>h0.ops) ⟨Qa rfl,λh=>⟨rfl,rfl⟩,λl h=>Xd,λi m fr t j x ja n0=>?_⟩;have hW:=Wt.start j x;unfold W7;obtain⟨n,q,b⟩:=mt;simp only at v;have r:=CP 1 0 p g;have y:=OS w.k (A_ 1 p 0) hk;rw[show Dq w.k (A_ 1 p 0)=_ from u]at y;unfold Ha at y;have a:=nX n ht;unfold GG at a;have c:=AJ j.1;subst v;simp only at f z ⊢;generalize Cg n=se at *;obtain⟨s,e⟩:=se;simp only at z a;subst f z;simp only[GC,↓C2,Gy,simprocAttr,c,n0,Ae Nu 211,r,Ae Nu 220,y,Ae Nu 24,a];exact hW.put.put.put.end0 j.2.2
def OZ(o:Oc)(p:Bs)(s:Sc)(gone:List Int):Oc:={Bo (o.op 1 (A_ 1 p 0) (FO s)) p gone with rep:=Hg .done}
def aCX:=Aq [(144,wQ NX),(276,wQ aGK),(277,wQ tZ),(146,wQ vG)]
def US:Wb->Oc->List D->Option WY:=RW aCX aBj [] 31
def aSX:(wQ US).ok Qe 224:=De (Aj func224) (Aa Rx (Aa aI9 (Aa aAb (Aa fV Ad))))
def uA(w:Wb)(o:Oc)(s:Sc)(gnl:Bool)(gone:List Int)(e:Int)(f:dU o)(z:1<=e∧e<=99):US w o [.agg (GG s),.slice gnl [] (AH gone),.int .i64 e]=some (.tup [],⟨[],false,Hg (.fail e),true,[],w.v⟩,none):=by
 refine A5 (λ_=>f.ops) ⟨Qa rfl,λh=>⟨f.nl.symm,f.ops.symm⟩,λl h=>Xd,λi m fr t j x u n0=>?_⟩;have g:=Wt.start j x;unfold aBj;unfold GG;have r:=jJ w o e f z;have d:(e=0)=False:=eq_false O;simp only[↓C2,GA,Gy,simprocAttr,d,AD aCX 144];refine Ap g.put r (λM c1 p=>?_);simp only[↓C2,GD,simprocAttr];exact c1.end0 j.2.2
def aGN(w:Wb)(o:Oc)(s:Sc)(gnl:Bool)(gone:List Int)(f:dU o)(hg:gone.length<=900)(r:s.rs.length<=1000)(g:w.a.pa.length<=1000000):US w o [.agg (GG s),.slice gnl [] (AH gone),.int .i64 0]=some (.tup [],OZ o w.a.pa s gone,some (if gone=[]then [11,12,10]else [11,11*gone.length,18])):=by
 refine A5 (λ_=>f.ops) ⟨Qa rfl,λh=>Xd,λl h=>(by simp only[Ql]at h;subst h;exact⟨rfl,by split<;>simp⟩),λi m fr t j x e n0=>?_⟩;have hW:=Wt.start j x;unfold aBj;have y:=AJ j.1;have b:=nK w o w.a.pa s (λ_=>f.ops) (by rw[f.ops];simp) r g;have d:=UR w (o.op 1 (A_ 1 w.a.pa 0) (FO s)) w.a.pa gnl [] gone (λh=>Xd) (by simp[Oc.op,f.ops];omega) g;have q:=Fz w (Bo (o.op 1 (A_ 1 w.a.pa 0) (FO s)) w.a.pa gone) (λh=>by simp[Bo,Oc.op]at h);unfold GG at *;simp only[GC,↓C2,Gy,simprocAttr,y.2.2.2.2.2.2.2.1,n0,AD aCX 276];refine Co hW.put b (λM u k c1 n=>?_);have y:=AJ c1.at_.1;simp only[↓C2,Hp,simprocAttr];refine As.intro (λp g=>Xr) ?_;simp only[↓C2,GD,GN,Gy,simprocAttr,y.2.2.2.2.2.2.2.1,AD aCX 277];refine Ap c1 d (λM2 d1 c=>?_);simp only[↓C2,GD,GN,simprocAttr,AD aCX 146];refine Ap d1 q (λM3 v z=>?_);simp only[↓C2,GD,simprocAttr];unfold SQ at v;split
 ·rename_i ya;rw[if_pos ya]at v;exact v.endl (l:=[11,12,10]) U
 ·rename_i ya;rw[if_neg ya]at v;exact v.endl (l:=[11,11*gone.length,18]) U
def EW(l:List Rw):List Int:=(l.filter λx=>!x.2.2).map (·.1)
def TG:List Rw->Nat->List Nat->List Nat
 |[],_,L=>L
 |x::r,c,L=>if x.2.2=true then TG r (c+10) L else TG r (c+20) [11,11,c+17]
def TF:∀{l:List Rw} {c:Nat} {L:List Nat},L≠[]->TG l c L≠[]
 |[],_,_,h=>h
 |x::r,c,L,h=>by
  unfold TG;split
  ·exact TF h
  ·exact TF U
def EX(o:Oc)(p:Bs)(l:List Rw):Oc:=Bo (o.op 2 (A_ 1 p 0) []) p (EW l)
def rP{o:Oc}{p:Bs}{a b:List Int}:Bo (Bo o p a) p b=Bo o p (a++b):=by
 simp only[Bo,Bool.and_assoc,Q_,QI,Oc.mk.injEq,true_and,and_true];cases a<;>cases b<;>simp
def jD(l:List Rw):(EW l).length<=l.length:=by
 grind [EW]
def cI(l:List Rw)(x:Rw):EW (l++[x])=EW l++if x.2.2=true then []else [x.1]:=by
 grind [EW]
def TE{o:Oc}{p:Bs}{l:List Rw}:(EX o p l).nl=false:=by simp[EX,Bo,Oc.op]
def xU{o:Oc}{p:Bs}{l:List Rw}:(EX o p l).ops.length=o.ops.length+1+(EW l).length:=by simp[EX,Bo,Oc.op];omega
def aCW:=Aq [(211,Ac EZ),(210,wQ Nt),(277,wQ tZ),(146,wQ vG)]
def aGM:Wb->Oc->List D->Option WY:=RW aCW aLp [] 37
def aSW:(wQ aGM).ok Qe 225:=De (Aj func225) (Aa Ii (Aa L8 (Aa aAb (Aa fV Ad))))
def aGL(w:Wb)(o:Oc)(s:Sc)(h0:dU o)(hs:s.rs.length<=900)(hp:w.a.pa.length<=1000000):aGM w o [.agg (GG s)]=some (.tup [],{EX o w.a.pa s.rs with rep:=Hg .done},some (TG s.rs 13 [11,8])):=by
 refine A5 (λ_=>h0.ops) ⟨Qa rfl,λh=>Xd,λl h=>(by simp only[Ql]at h;subst h;exact⟨TE (o:=o) (p:=w.a.pa) (l:=s.rs),TF U⟩),λi m fr t ha ca ja n0=>?_⟩;have hW:=Wt.start ha ca;unfold aLp;have xx:=AJ ha.1;have r:=CP 1 0 w.a.pa hp;have qa:=DH w o 2 (A_ 1 w.a.pa 0) [] (λ_=>h0.ops) (by rw[h0.ops];simp);unfold GG;simp only[↓C2,GA,Gy,simprocAttr,xx.2.2.2.2.2.2.2.1,n0,Ae aCW 211,r,AD aCW 210];refine Ap hW.put qa (λM c1 c2=>?_);simp only[↓C2,GD,GN,Gy,simprocAttr,c2,AQ];refine BI (n:=s.rs.length) (I:=λj v=>v.s 15= .slice s.nl [] (A6 s.rs)∧v.s 16= .int .i64 s.rs.length∧v.s 17= .int .i64 (j:Int)∧v.s 0= .ptr i 0∧∃L,L≠[]∧TG (s.rs.drop j) v.c L=TG s.rs 13 [11,8]∧Wt i fr m o.nl t v.m w (EX o w.a.pa (s.rs.take j)) (L++fr)) (λj hj ih v g hI=>?_) (λv g hI=>?_) 0 (Qu _) _ _ ⟨rfl,rfl,rfl,rfl,[11,8],U,rfl,by have c3:Wt i fr m o.nl t M w (o.op 2 (A_ 1 w.a.pa 0) []) ([11,8]++fr):=c1;simpa[EX,EW,SP]using c3⟩
 ·obtain⟨ma,ia,ea⟩:=v;obtain⟨fa,ua,ta,y,L,hL,hn,hw⟩:=hI;simp only at fa ua ta y hn hw;refine Af UE.eq_1 ?_;have k:((j:Int)<(s.rs.length:Int))=True:=eq_true O;have oa:=nJ (j:=j);have ka:=E9 (l:=s.rs) (j:=j) hj;have sa:IntKind.i64.wrap ((j:Int)+1)=((j+1:Nat):Int):=by rw[GZ O O];omega
  have hd:s.rs.drop j=s.rs[j]::s.rs.drop (j+1):=QK hj;have z:s.rs.take (j+1)=s.rs.take j++[s.rs[j]]:=QG hj;rw[hd]at hn;generalize s.rs[j]=x at *;obtain⟨n,b,f⟩:=x;have ra:=cI (s.rs.take j) (n,b,f);rw[←z]at ra;simp only at ra ka;have xx:=AJ hw.at_.1;cases f with
  |true=>
   simp only[GC,↓C2,Gy,simprocAttr,fa,ua,ta,k,oa,Qh,ka,sa];refine ih _ _ ⟨fa,ua,rfl,y,L,hL,by simpa[TG]using hn,?_⟩;have e:EX o w.a.pa (s.rs.take (j+1))=EX o w.a.pa (s.rs.take j):=by unfold EX;rw[ra];simp
   rw[e];exact(hw.put.put)
  |false=>
   have e:Bo (EX o w.a.pa (s.rs.take j)) w.a.pa [n]=EX o w.a.pa (s.rs.take (j+1)):=by unfold EX;rw[ra,rP];rfl
   have na:(EX o w.a.pa (s.rs.take j)).ops.length+1<=1000:=by
    rw[xU,h0.ops];have:=jD (s.rs.take j);rw[Zy]at this;simp only[Qm];omega
   have d:=UR w (EX o w.a.pa (s.rs.take j)) w.a.pa false ((ea+1+4+3+8)::fr) [n] (λh=>by rw[TE]at h;cases h) na hp;rw[e]at d;have d:tZ w (EX o w.a.pa (s.rs.take j)) [.str w.a.pa,.slice false ((ea+1+4+3+8)::fr) [.int .i64 n]]=some (.tup [],EX o w.a.pa (s.rs.take (j+1)),some [11,11]):=d;simp only[GC,↓C2,Gy,simprocAttr,y,fa,ua,ta,k,oa,Qh,ka,xx.2.2.2.2.2.2.2.1,n0,AD aCW 277];refine Co hw.put.put.put d (λM u hu c1 c2=>?_);simp only[↓C2,Hp,GN,Gy,simprocAttr];refine As.intro (Am ?_) ?_
   ·simp[AR,AB,GS,Ai];show ¬((ea+1+4+3+8)::fr,0)∈[(i,7)];intro hm;simp only[Q4,QD]at hm;exact(n0 _).mp hm.1.symm
   simp only[↓C2,GD,simprocAttr,ta,sa];refine ih _ _ ⟨fa,ua,rfl,y,[11,11,ea+17],U,by simpa[TG]using hn,c1⟩
 ·obtain⟨ma,ia,ea⟩:=v;obtain⟨fa,ua,ta,y,L,hL,hn,hw⟩:=hI;simp only at fa ua ta y hn hw;refine Af UE.eq_1 ?_;have q:=Fz w (EX o w.a.pa s.rs) (λh=>by rw[TE]at h;cases h);rw[Zi]at hw;rw[Q1]at hn;simp only[↓C2,GD,GN,Gy,simprocAttr,y,ua,ta,Qz,AD aCW 146];refine Ap hw q (λM c1 c2=>?_);simp only[↓C2,GD,simprocAttr];rw[←hn];exact c1.endl hL
theorem ER{l:Loc}{i:Id}{o n:Nat}(h:l∈Ai i o n):l.1=i:=by
 grind [Ai]
def DO{l:Loc}{i:Id}{o:Nat}{ds:List D}(h:l∈AB [(i,o,ds)]):l.1=i:=by
 grind [AB,ER]
def D7{l:Loc}{P:Prop}(h:l∈([]:List Loc)):P:=Xd
def Va{p K:Prop}{t:Tag K}(k:K) (h:p:=by
 intro pp hpp l hl;simp only[List.mem_cons,List.not_mem_nil,or_false]at hpp
 repeat (rcases hpp with rfl|hpp;· first|exact D7 hl|exact⟨λh=>D7 h,λh=>D7 h⟩|(have d:=DO hl;refine⟨λh=>?_,λh=>D7 h⟩;first|(change l∈Ai _ _ _ at h;first|exact(n0 _).mp ((ER h).symm.trans d)|(have:=d.symm.trans (ER h);simp at this;done))|(rcases List.mem_append.1 h with h|h;exact(n0 _).mp ((ER h).symm.trans d);rw[a1]at h;rw[List.mem_singleton.1 h]at d;exact c1.loc _ d)))):As p K t:=⟨h,k⟩
def oX(o:Oc)(p:Bs)(r:Sc×Int×List Int×Int)(data:Bs):Oc:={Bo ((o.op 1 (A_ 1 p 0) (FO r.1)).op 1 (A_ 2 p r.2.1) data) p r.2.2.1 with rep:=Hg (.number r.2.1)}
def P9:=Aq [(223,wQ uB),(275,Ac aPx),(144,wQ NX),(276,wQ aGK),(211,Ac EZ),(210,wQ Nt),(277,wQ tZ),(145,wQ cO)]
def UU:Wb->Oc->List D->Option WY:=RW P9 aBl [] 50
def aJe:(wQ UU).ok Qe 221:=De (Aj func221) (Aa aSY (Aa aSI (Aa Rx (Aa aI9 (Aa Ii (Aa L8 (Aa aAb (Aa fW Ad))))))))
def uC(w:Wb)(o:Oc)(p:Bs)(s:Sc)(cas:Int)(data:Bs)(f:dU o)(k:s.rs.length<=800)(pa:s.nl=true->s.rs=[])(g:p.length<=1000000)(hd:data.length<=1000000)(hm:w.v.ms.length<=1000)(r:Sc×Int×List Int×Int)(hr:Ct s (BP w.v p).1 (BP w.v p).2 cas data.length=r)(z:1<=r.2.2.2∧r.2.2.2<=99):UU w o [.str p,.agg (GG s),.int .i64 cas,.str data]=some (.tup [],⟨[],false,Hg (.fail r.2.2.2),true,[],w.v⟩,none):=by
 refine A5 (λ_=>f.ops) ⟨Qa rfl,λh=>⟨f.nl.symm,f.ops.symm⟩,λl h=>Xd,λi m fr t ha x ja n0=>?_⟩;have hW:=Wt.start ha x;unfold aBl;have a:=nV s (BP w.v p).1 (BP w.v p).2 cas data.length O pa;rw[hr]at a;obtain⟨s2,n,gone,e⟩:=r;simp only at z a ⊢;have c:=UT w o p (λ_=>f.ops) hm;generalize BP w.v p=qb at *;unfold GG at *;simp only[GC,↓C2,Gy,simprocAttr,AD P9 223];refine Co hW.put c (λM u hu c1 c2=>?_);simp only[GC,↓C2,Gy,simprocAttr,Ae P9 275,a];refine As.intro ?_ ?_
 ·subst hu;have a1:=aCt (hW.put (q:=0) (p:=0) (ys:=[.int .i64 s.mx,.bool s.cas,.int .i64 s.la,.slice s.nl [] (A6 s.rs)])).at_.1;intro pp y l hl;simp only[QO,Zz,or_false]at y;rcases y with rfl|rfl|rfl|rfl|rfl|rfl
  ·change l∈AB [(i,0,Hn w o t)]at hl;refine⟨λh=>?_,λh=>D7 h⟩;change l∈Ai (0::fr) 0 4 at h;exact(n0 0).mp ((DO hl).symm.trans (ER h))
  ·change l∈AB [(i,0,Hn w o t)]at hl;exact⟨λh=>D7 h,λh=>(n0 14).mp ((DO hl).symm.trans (DO h))⟩
  ·exact D7 hl
  ·have b:l.1=14::fr:=DO hl;refine⟨λh=>?_,λh=>D7 h⟩;change l∈Ai (0::fr) 0 4 at h;have:=b.symm.trans (ER h);simp at this
  ·have b:l.1=14::fr:=DO hl;refine⟨λh=>?_,λh=>?_⟩
   ·rcases Zm.1 h with h|h
    ·grind [ER]
    ·rw[a1]at h;rw[Q4.1 h]at b;exact hW.loc 14 b
   ·change l∈AB [(i,0,Hn w o t)]at h;exact(n0 14).mp ((DO h).symm.trans b)
  ·exact⟨λh=>D7 h,λh=>D7 h⟩
 have j:=jJ w o e f z;have d:(e=0)=False:=eq_false O;simp only[↓C2,GA,Gy,simprocAttr,d,AD P9 144];refine Ap c1.put.put j (λM2 d1 d2=>?_);simp only[↓C2,GD,simprocAttr];exact d1.end0 ha.2.2
def aGO(w:Wb)(o:Oc)(p:Bs)(s:Sc)(cas:Int)(data:Bs)(f:dU o)(k:s.rs.length<=800)(pa:s.nl=true->s.rs=[])(g:p.length<=1000000)(hd:data.length<=1000000)(hm:w.v.ms.length<=1000)(r:Sc×Int×List Int×Int)(hr:Ct s (BP w.v p).1 (BP w.v p).2 cas data.length=r)(z:r.2.2.2=0)(sa:r.1.rs.length<=1000)(hg:r.2.2.1.length<=900):UU w o [.str p,.agg (GG s),.int .i64 cas,.str data]=some (.tup [],oX o p r data,some (if r.2.2.1=[]then [11,30]else [11,11*r.2.2.1.length,34])):=by
 refine A5 (λ_=>f.ops) ⟨Qa rfl,λh=>Xd,λl h=>(by simp only[Ql]at h;subst h;exact⟨by simp[oX,Bo,Oc.op],by split<;>simp⟩),λi m fr t ha x ja n0=>?_⟩;have hW:=Wt.start ha x;unfold aBl;have a:=nV s (BP w.v p).1 (BP w.v p).2 cas data.length O pa;rw[hr]at a;obtain⟨s2,n,gone,e⟩:=r;simp only at z a sa hg ⊢;subst z;have c:=UT w o p (λ_=>f.ops) hm;generalize BP w.v p=qb at *;unfold GG at *;simp only[GC,↓C2,Gy,simprocAttr,AD P9 223];refine Co hW.put c (λM u hu c1 c2=>?_);simp only[GC,↓C2,Gy,simprocAttr,Ae P9 275,a];refine As.intro ?_ ?_
 ·subst hu;have a1:=aCt (hW.put (q:=0) (p:=0) (ys:=[.int .i64 s.mx,.bool s.cas,.int .i64 s.la,.slice s.nl [] (A6 s.rs)])).at_.1;intro pp y l hl;simp only[QO,Zz,or_false]at y;rcases y with rfl|rfl|rfl|rfl|rfl|rfl
  ·change l∈AB [(i,0,Hn w o t)]at hl;refine⟨λh=>?_,λh=>D7 h⟩;change l∈Ai (0::fr) 0 4 at h;exact(n0 0).mp ((DO hl).symm.trans (ER h))
  ·change l∈AB [(i,0,Hn w o t)]at hl;exact⟨λh=>D7 h,λh=>(n0 14).mp ((DO hl).symm.trans (DO h))⟩
  ·exact D7 hl
  ·have ea:l.1=14::fr:=DO hl;refine⟨λh=>?_,λh=>D7 h⟩;change l∈Ai (0::fr) 0 4 at h;have:=ea.symm.trans (ER h);simp at this
  ·have ea:l.1=14::fr:=DO hl;refine⟨λh=>?_,λh=>?_⟩
   ·rcases Zm.1 h with h|h
    ·grind [ER]
    ·rw[a1]at h;rw[Q4.1 h]at ea;exact hW.loc 14 ea
   ·change l∈AB [(i,0,Hn w o t)]at h;exact(n0 14).mp ((DO h).symm.trans ea)
  ·exact⟨λh=>D7 h,λh=>D7 h⟩
 have b:=nK w o p s2 (λ_=>f.ops) (by rw[f.ops];simp) sa g;have j:=CP 2 n p g;have qa:=DH w (o.op 1 (A_ 1 p 0) (FO s2)) 1 (A_ 2 p n) data (λh=>Xd) (by simp[Oc.op,f.ops]);have d:=UR w ((o.op 1 (A_ 1 p 0) (FO s2)).op 1 (A_ 2 p n) data) p (decide (gone=[])) [] gone (λh=>Xd) (by simp[Oc.op,f.ops];omega) g;have ua:=Gq w (Bo ((o.op 1 (A_ 1 p 0) (FO s2)).op 1 (A_ 2 p n) data) p gone) (.number n) (λh=>by simp[Bo,Oc.op]at h) trivial trivial;unfold GG at b;unfold Hh at ua;simp only[GC,↓C2,Gy,simprocAttr,AD P9 276];refine Ap c1.put.put b (λM2 d1 d2=>?_);simp only[↓C2,GA,simprocAttr,Ae P9 211,j,AD P9 210];refine Ap d1 qa (λM3 e1 e2=>?_);simp only[↓C2,GD,GN,simprocAttr,AD P9 277];refine Ap e1 d (λM4 f1 f2=>?_);simp only[↓C2,GA,Gy,simprocAttr,AD P9 145];refine Ap f1 ua (λM5 g1 g2=>?_);simp only[↓C2,GD,simprocAttr];unfold SQ at g1;split
 ·rename_i ya;rw[if_pos ya]at g1;exact g1.endl (l:=[11,30]) U
 ·rename_i ya;rw[if_neg ya]at g1;exact g1.endl (l:=[11,11*gone.length,34]) U
def RD:=y0 f154 [(7,[(7,0),(7,12),(7,17),(7,23),(18,23),(23,0),(23,6),(23,7),(23,12),(23,17),(23,18)]),(16,[(6,10),(10,0),(10,5),(10,6)]),(19,[(6,10),(10,0),(10,5),(10,6)]),(2,[(6,11),(11,0),(11,5),(11,6)])] []
def rdQ(F:Wb->Oc->List D->Option WY):G8 where
 rd:=(wQ F).rd
 ex:=λds m fr=>match ds with
  | .ptr i 0::rest=>(Sl (UK m i)).bind λx=>(F x.1 x.2.1 rest).bind λy=>open Classical in if y.2.1=x.2.1∧y.2.2=none then some (y.1,[])else none
  |_=>none
def aFp{F:Wb->Oc->List D->Option WY}(ds:List D)(m m':GB)(fr:Id)(h:∀l∈(rdQ F).rd ds m,m l.1 l.2=m' l.1 l.2):(rdQ F).ex ds m fr=(rdQ F).ex ds m' fr:=by
 simp only[rdQ,wQ]at h ⊢;split
 ·rename_i i r;have n:Ag m i 0 30=Ag m' i 0 30:=BA (λl hl=>h l (Zo _ hl));have g:UK m i=UK m' i:=by
   funext x;obtain⟨w,o,t⟩:=x;apply propext;unfold UK;rw[n];have z:Ag m' i 0 30=some (Hn w o t)->BT m 167 o.nl t o.ops.isEmpty=BT m' 167 o.nl t o.ops.isEmpty:=λv=>by
    refine D9 (h (t,0) (Zn _ ?_));have:=aCt (n.trans v);rw[this];simp
   constructor
   ·rintro⟨a,b,c⟩;exact⟨a,by rw[←z a];exact b,c⟩
   ·rintro⟨a,b,c⟩;exact⟨a,by rw[z a];exact b,c⟩
  rw[g]
 ·rfl
def aM0{S:Gz}{f:FuncId}{N:Nat}{dc:DC}{rs:List RV}(hf:Fn Qe f N dc rs)(hS:Gz.ok Qe S):(rdQ (RW S dc rs N)).ok Qe f:=by
 refine IM hS hf aFp (λds m fr r u z n=>?_);simp only[rdQ]at z;split at z
 ·rename_i i ba;rw[Q5]at z;obtain⟨⟨w,o,t⟩,g,z⟩:=z;rw[Q5]at z;obtain⟨⟨y1,y2,y3⟩,hF,z⟩:=z;simp only at z;split at z
  ·rename_i hy;obtain⟨rfl,rfl⟩:=hy;simp only[Ql,QD]at z;obtain⟨rfl,rfl⟩:=z;have ka:=Sk g;obtain⟨hN,s,y,la⟩:=EF hF;have ra:m i 0=some (.bool w.v.se):=Oa ka.1;have ja:∀k l,(i=l++k::fr)=False:=λk l=>eq_false (λe=>by
    rw[e,n _ _ ⟨l++[k],U⟩]at ra;cases ra)
   refine⟨hN,LF (la i m fr t ka n ja (λk=>ja k [])) (λe ga he=>?_)⟩;obtain⟨b,d,c,rfl,hE⟩:=he;refine⟨b,_,c,rfl,λj x dd q=>?_⟩;obtain⟨g1,g2⟩:=hE;have pa:m j x=some dd:=q;by_cases p:j≠i∨30<=x
   ·exact g2 j x dd p pa
   ·have cb:j=i:=Classical.byContradiction (λh=>p (.inl h));have a:x<30:=Zk (λh=>p (.inr h));subst cb;obtain⟨v,hv⟩:∃v,(Hn w y2 t)[x]?=some v:=⟨_,Qi (by rw[CI];exact a)⟩;have e1:=Bi ka.1 hv;have e2:=Bi g1 hv;rw[e2,←e1,pa]
  ·cases z
 ·cases z
def aOh{F:Wb->Oc->List D->Option WY}{w:Wb}{o:Oc}{t i fr:Id}{m:GB}{r:List D}{d:D}{K:D×GF->Prop}{g}(j:UK m i (w,o,t))(n:F w o r=some (d,o,none))(h:K (d,[])):GQ ((rdQ F).ex (.ptr i 0::r) m fr) K g:=by
 refine aI ?_ h;simp only[rdQ,VT j (λz u=>cD j u),Qj,n,and_self,if_true]
def Wt.endc{i fr t0:Id}{m0 m:GB}{nl0:Bool}{w:Wb}{o:Oc}{k:Nat}{d:D}{ol:Option (List Nat)}(h:Wt i fr m0 nl0 t0 m w o (L3 t0 (k::fr) ol))(j:nl0=true->t0=[]):WE i fr m0 nl0 t0 w (d,o,ol.map (·++[k])) d m:=by
 cases ol with
 |none=>exact h.end0 j
 |some l=>
  have y:Wt i fr m0 nl0 t0 m w o ((l++[k])++fr):=by simpa[L3]using h
  exact y.endl U
def Cw{S:Gz}{x:DC}{rs:List RV}{N:Nat}{w:Wb}{o o':Oc}{r:List D}{d:D}{ol:Option (List Nat)}{k:Nat}(g:RW S x rs N w o r=some (d,o',ol))(h:ol.map (·++[k])=none):o'.nl=o.nl∧o'.ops=o.ops:=(EF g).2.1 Xp
def Cv{S:Gz}{x:DC}{rs:List RV}{N:Nat}{w:Wb}{o o':Oc}{r:List D}{d:D}{ol:Option (List Nat)}{k:Nat}{l:List Nat}(g:RW S x rs N w o r=some (d,o',ol))(h:ol.map (·++[k])=some l):o'.nl=false∧l≠[]:=by
 cases ol with
 |none=>cases h
 |some q=>
  simp only[Qv,Ql]at h;subst h;exact⟨((EF g).2.2.1 q rfl).1,U⟩
def aQz:(rdQ uB).ok Qe 223:=aM0 aJE (Aa yJ Ad)
end Go.Vd
end
