/- A part of the proof; nothing in it is assumed. -/
import Derived.Test.YtpiplnfjodahpaaGreatDoorMKnowsP2
import Derived.Shelf.Strings.BuilderRune

set_option linter.unusedSimpArgs false
set_option linter.unusedVariables false
set_option linter.defProp false
set_option maxHeartbeats 4000000
set_option maxRecDepth 100000
open Nat renaming le_of_ble_eq_true→Qa,reduceEqDiff→Qb,reduceAdd→Qd,succ_ne_zero→Qf,zero_ne_one→Qn,zero_add→Qp,reduceLT→Qr,reduceLeDiff→Qt,zero_le→Qu,le_refl→QB,reduceSub→QE,sub_zero→QM,add_zero→Za,lt_of_not_le→Zk,sub_self→Zu,not_lt_zero→ZB,mul_add→ZJ
open List.cons renaming injEq→Qc
open Go.Proofs.Tryz renaming prog→Qe
open List renaming length_cons→Qg,getElem?_eq_getElem→Qi,length_nil→Qm,getElem?_cons_zero→Qo,length_append→Qq,getElem?_cons_succ→Qw,length_map→Qy,map_cons→QD,take_succ_eq_append_getElem→QF,take_of_length_le→QG,append_assoc→QH,append_nil→QI,drop_eq_getElem_cons→QJ,mem_map→QL,mem_cons→QO,take_zero→QP,getElem?_eq_some_iff→QQ,map_map→QR,take_succ_cons→QS,all_eq_true→QT,mem_nil_iff→QV,length_eq_zero_iff→QW,getElem_mem→QX,map_append→Q_,cons_append→Q0,drop_length→Q1,map_nil→Q2,map_congr_left→Q3,mem_singleton→Q4,findIdx?_eq_some_iff_getElem→Q6,all_cons→Q7,append_inj→Q8,drop_succ_cons→Q9,all_nil→Zb,drop_zero→Zc,map_inj_right→Zd,getElem?_append_right→Ze,take_add_one→Zg,take_length→Zi,isEmpty_nil→Zj,nil_append→Zl,mem_append→Zm,mem_append_right→Zn,mem_append_left→Zo,getElem_of_mem→Zp,mem_cons_self→Zs,any_map→Zt,getElem?_map→Zv,map→Zw,getD→Zx,length_take→Zy,not_mem_nil→Zz,nil_suffix→ZC,range→ZD,any_cons→ZE,length→ZI
open Int renaming toNat_natCast→Qh,toNat_of_nonneg→Qx,lt_irrefl→Qz,cast_ofNat_Int→Zr,le_refl→ZA,reduceNe→ZG
open Option renaming bind_some→Qj,isSome_some→Qk,map_some→Qv,map_eq_some_iff→QZ,bind_eq_some_iff→Q5
open Option.some renaming injEq→Ql
open Bool renaming false_eq_true→Qs,false_and→QA,false_ne_true→QK,and_false→QN,and_eq_true→QY,and_self→Zh,true_and→Zq,false_or→ZF,true_or→ZH
open Prod.mk renaming injEq→QC
open Prod renaming ext→QU
open Array renaming size_append→Zf
open Go.Proofs.Tryz
noncomputable section
namespace Go.Vd
open Go.Proofs Go.RowKit
def aCU{S:HD}{fr i:Id}{n:Nat}{m0:HF}{Q:Ex->St->Prop}(a:S 192=some (Ac aBj))(w:n<=1000){zs:List Mt}
  (p:∀v,O3 i m0 v.m zs->Q (.exit 0) v):
  ∀(f k:Nat)(xs:List Mt) v g,xs.length=n->k+f=n->Du mS m0t f k xs=zs->v.s 0= .row i n->v.s 1= .int .i64 0->v.s 2= .int .i64 (n:Int)->v.s 3= .fn 192 []->v.s 8= .int .i64 (k:Int)->O3 i m0 v.m xs->
   A9 S fr P7 Q v g:=by
 intro f;induction f with
 |zero=>
  intro k xs v g hl hk t b u y o j I;refine Af P7.eq_1 ?_;have:¬((k:Int)<n):=O
  simp only[↓C2,HH,HZ,simprocAttr,y,j,this];exact p _ (by rw[←t];exact I)
 |succ f ih=>
  intro k xs v g hl hk t b u y o j I;refine Af P7.eq_1 ?_;have d:((k:Int)<n):=O
  have hw:IntKind.i64.wrap ((k:Int)+1)=((k+1:Nat):Int):=H9 O O;simp only[↓C2,HH,HZ,simprocAttr,y,j,d];refine aCV (i8:=k) (m0:=m0) a w k xs _ _ hl O b u y o j rfl I (λq c z x e r I'=>?_);simp only[↓C2,HH,simprocAttr,r,hw];exact ih (k+1) _ _ _ (by rw[Sp];exact hl) O t c z x e rfl I'
def On(m:HF)(i:Id):Nat->Nat->Option (List Mt)
 |0,_=>some []
 |f+1,j=>match m i (j*3),m i (j*3+1),m i (j*3+2),On m i f (j+1)with
  |some (.str p),some (.int .i64 q),some (.bool b),some l=>some ((p,q,b)::l)
  |_,_,_,_=>none
def Ub{m:HF}{i:Id}:∀{f j:Nat} {xs:List Mt},On m i f j=some xs->xs.length=f∧∀k,k<f->m i ((j+k)*3)=some (.str (xs.getD k m0t).1)∧m i ((j+k)*3+1)=some (.int .i64 (xs.getD k m0t).2.1)∧m i ((j+k)*3+2)=some (.bool (xs.getD k m0t).2.2)
 |0,j,xs,h=>by
  simp only[On,Ql]at h;subst h;exact⟨rfl,λk g=>absurd g (ZB _)⟩
 |f+1,j,xs,h=>by
  unfold On at h;split at h
  ·rename_i p q b l v n t x;simp only[Ql]at h;subst h;obtain⟨e,y⟩:=Ub x;refine⟨by simp[e],λk g=>?_⟩;cases k with
   |zero=>exact⟨v,n,t⟩
   |succ k=>
    have:=y k O;rw[show j+1+k=j+(k+1)by omega]at this;exact this
  ·cases h
def dF{m m':HF}{i:Id}:∀{f j n:Nat},j+f<=n->(∀o,o<n*3->m i o=m' i o)->On m i f j=On m' i f j
 |0,j,n,_,_=>rfl
 |f+1,j,n,hn,h=>by
  unfold On;rw[h (j*3) O,h (j*3+1) O,h (j*3+2) O,dF (f:=f) (j:=j+1) O h]
def aIB{m:HF}{i:Id}{xs:List Mt}(h:∀j d,(flat (Az xs))[j]?=some d->m i j=some d):On m i xs.length 0=some xs:=by
 have t:∀(ys pre:List Mt),pre++ys=xs->On m i ys.length pre.length=some ys:=by
  intro ys;induction ys with
  |nil=>intro pre _;rfl
  |cons y r ih=>
   intro pre g;have o:∀x∈Az xs,x.cells.length=3:=λx p=>YT
   have k:pre.length<(Az xs).length:=by rw[AX,←g];simp
   have a:(Az xs)[pre.length]=Ml y:=by simp[Az,←g]
   have b:=h _ _ ((EJ o k (j:=0) O).trans (by rw[a];rfl));have v:=h _ _ ((EJ o k (j:=1) O).trans (by rw[a];rfl));have n:=h _ _ ((EJ o k (j:=2) O).trans (by rw[a];rfl));have:=ih (pre++[y]) (by rw[←g];simp);rw[Qq]at this;rw[Za]at b;have this:On m i r.length (pre.length+1)=some r:=this;simp only[Qg,On,b,v,n,this]
 exact t xs [] rfl
def TX(m:HF)(i:Id)(n:Nat):Option (D×HN):=if n<=12∧1<=n then(On m i n 0).map λxs=>(.tup [],[(i,0,flat (Az (Du mS m0t (n-1) 1 xs)))])else none
def Fi(a:List D->Option (Id×Nat)):Il where
 rd:=λds _=>match a ds with
  |some (i,n)=>(ZD (n*3)).map λo=>(i,o)
  |none=>[]
 ex:=λds m _=>match a ds with
  |some (i,n)=>TX m i n
  |none=>none
def Oi(a:List D->Option (Id×Nat)):∀ds m m' fr,(∀l∈(Fi a).rd ds m,m l.1 l.2=m' l.1 l.2)->(Fi a).ex ds m fr=(Fi a).ex ds m' fr:=by
 intro ds m m' fr h;simp only[Fi]at h ⊢;cases hs:a ds with
 |none=>rfl
 |some p=>
  obtain⟨i,n⟩:=p;simp only[hs]at h ⊢;unfold TX;split
  ·rw[dF (m:=m) (m':=m') (n:=n) O λo v=>h (i,o) (QL.2 ⟨o,by simpa using v,rfl⟩)]
  ·rfl
def Mu{a:List D->Option (Id×Nat)}{ds:List D}{m:HF}{fr:Id}{r:D}{u:HN}(h:(Fi a).ex ds m fr=some (r,u)):
  ∃i n xs,a ds=some (i,n)∧n<=12∧1<=n∧On m i n 0=some xs∧xs.length=n∧O3 i m m xs∧r= .tup []∧u=[(i,0,flat (Az (Du mS m0t (n-1) 1 xs)))]:=by
 simp only[Fi]at h;cases hs:a ds with
 |none=>rw[hs]at h;cases h
 |some p=>
  obtain⟨i,n⟩:=p;simp only[hs]at h;unfold TX at h;split at h
  ·rename_i d;rw[QZ]at h;obtain⟨xs,w,h⟩:=h;simp only[QC]at h;obtain⟨rfl,rfl⟩:=h;obtain⟨e,k⟩:=Ub w;exact⟨i,n,xs,rfl,d.1,d.2,w,e,⟨λj z=>by have:=k j O;rwa [Qp]at this,λ_ _ _=>rfl⟩,rfl,rfl⟩
  ·cases h
def O3.fin{i:Id}{m0 m:HF}{xs:List Mt}(h:O3 i m0 m xs):∀y o x,(m0.put i 0 (flat (Az xs))) y o=some x->m y o=some x:=by
 intro y o x p;have ka:∀x∈Az xs,x.cells.length=3:=λx p=>YT
 have q:=Cx ka;rw[AX]at q;rw[Ah]at p;split at p
 ·rename_i d;obtain⟨rfl,_,v⟩:=d;rw[QM]at p;have g:o / 3<xs.length:=by omega
  have k:o / 3<(Az xs).length:=by rw[AX];exact g
  have a:(Az xs)[o / 3]=Ml (xs.getD (o / 3) m0t):=by simp[Az,Qi g]
  obtain⟨c,a1,f⟩:=h.row (o / 3) g;have u:o % 3<3:=Nat.mod_lt _ O;have e:o / 3*3+o % 3=o:=O
  have:=EJ ka k u;rw[e,p,a]at this;have h3:o % 3=0∨o % 3=1∨o % 3=2:=O
  rcases h3 with h3|h3|h3
  ·rw[h3]at this e;rw[Za]at e;rw[←e,c,this];rfl
  ·rw[h3]at this e;rw[←e,a1,this];rfl
  ·rw[h3]at this e;rw[←e,f,this];rfl
 ·rename_i d;rw[←p];refine h.out y o ?_;by_cases e:y=i
  ·simp_all
  ·exact .inl e
def rH:List D->Option (Id×Nat)
 |[.row i n,.int .i64 0,.int .i64 k,.fn 192 []]=>if k=(n:Int)then some (i,n)else none
 |_=>none
def aUF:(Fi rH).ok Qe 296:=by
 obtain⟨S,s,hl⟩:=By (Aa aVd Ad);have a:=hl 192 _ rfl;clear hl;refine Ox s (Aj func296:Fn Qe 296 53 aNM []) (Oi _) (λds m fr r u z j=>?_);obtain⟨i,n,xs,w,v,c,k,hl,I,rfl,rfl⟩:=Mu z;unfold rH at w;split at w
 ·split at w
  ·rename_i g;simp only[Ql,QC]at w;obtain⟨rfl,rfl⟩:=w;subst g;refine⟨U,?_⟩;rename_i i n;have p:IntKind.i64.wrap ((0:Int)+1)=((1:Nat):Int):=rfl;unfold aNM;simp only[↓C2,HH,simprocAttr,p];refine aCU (m0:=m) (zs:=Du mS m0t (n-1) 1 xs) a O (λq d=>?_) (n-1) 1 xs _ _ hl O rfl rfl rfl rfl rfl rfl I;simp only[↓C2,HH,HZ,reduceIte];exact d.fin
  ·cases w
 ·cases w
def rI:List D->Option (Id×Nat)
 |[.row i n,.int .i64 0,.int .i64 k,.int .i64 _,.fn 192 []]=>if k=(n:Int)then some (i,n)else none
 |_=>none
def aUV:(Fi rI).ok Qe 251:=by
 obtain⟨S,s,hl⟩:=By (Aa aUF Ad);have a:=hl 296 _ rfl;clear hl;refine Ox s (Aj func251:Fn Qe 251 148 aOs []) (Oi _) (λds m fr r u z j=>?_);obtain⟨i,n,xs,w,v,c,q,hl,I,rfl,rfl⟩:=Mu z;unfold rI at w;split at w
 ·split at w
  ·rename_i g;simp only[Ql,QC]at w;obtain⟨rfl,rfl⟩:=w;subst g;refine⟨U,?_⟩;rename_i i n _;have k:IntKind.i64.wrap ((n:Int)-0)=(n:Int):=by rw[H9 O O];omega
   have t:((n:Int)<=12):=O
   have x:∀fr,(Fi rH).ex ([.row i n,.int .i64 0,.int .i64 (n:Int),.fn 192 []]++[]) m fr=some (.tup [],[(i,0,flat (Az (Du mS m0t (n-1) 1 xs)))]):=by
    grind [Fi,rH,TX]
   unfold aOs;simp only[↓C2,HH,Qd];refine Af uF.eq_1 ?_;simp only[↓C2,HH,HZ,simprocAttr,k,t];rw[AH a];refine aI (x _) ?_;simp only[↓C2,HH,HZ];exact λ_ _ _ h=>h
  ·cases w
 ·cases w
def aX7:List D->Option D:=OK (λ_=>none) 25 aNL [.t 2] 60
def aUE:Kq aX7 305:=OJ Ba (Aj func305:Fn Qe 305 25 aNL [.t 2]) 60
def aK9:List D->Option D:=OK (Aq [(305,Ac aX7)]) 8 aOr [.t 2] 60
def aUU:Kq aK9 252:=OJ (Aa aUE Ad) (Aj func252:Fn Qe 252 8 aOr [.t 2]) 60
def isI:Option D->Bool
 |some (.int .i64 _)=>true
 |_=>false
def aGm:(ZD 13).all (λn=>isI (aK9 [.int .u64 (n:Nat)]))=true:=Z
def aGl{n:Nat}(h:n<=12):∃k,aK9 [.int .u64 (n:Nat)]=some (.int .i64 k):=by
 have:=QT.1 aGm n Xb;generalize aK9 [.int .u64 (n:Nat)]=r at this;unfold isI at this;split at this
 ·exact⟨_,rfl⟩
 ·cases this
def rJ:List D->Option (Id×Nat)
 |[.row i n,.fn 192 []]=>some (i,n)
 |_=>none
def aVe:(Fi rJ).ok Qe 191:=by
 obtain⟨S,s,hl⟩:=By (Aa aUU (Aa aUV Ad));have b:=hl 252 _ rfl;have a:=hl 251 _ rfl;clear hl;refine Ox s (Aj func191:Fn Qe 191 14 aPd []) (Oi _) (λds m fr r u z j=>?_);obtain⟨i,n,xs,w,v,c,q,hl,I,rfl,rfl⟩:=Mu z;unfold rJ at w;split at w
 ·simp only[Ql,QC]at w;obtain⟨rfl,rfl⟩:=w;refine⟨U,?_⟩;rename_i i n;have p:IntKind.u64.wrap ((n:Nat):Int)=((n:Nat):Int):=by simp only[IntKind.wrap,IntKind.signed,IntKind.bits,QA,Qs,if_false];omega
  obtain⟨k,g⟩:=aGl v;have x:∀fr,(Fi rI).ex ([.row i n,.int .i64 0,.int .i64 (n:Int),.int .i64 k,.fn 192 []]++[]) m fr=some (.tup [],[(i,0,flat (Az (Du mS m0t (n-1) 1 xs)))]):=by
   grind [Fi,rI,TX]
  unfold aPd;simp only[↓C2,HE,simprocAttr,p,Ab b,g];rw[AH a];refine aI (x _) ?_;simp only[↓C2,HH,HZ];exact λ_ _ _ h=>h
 ·cases w
def aD0:Fn Qe 190 36 (G7 9 68 3 32 250) [.t 2]:=aNb
def aQA:(La λds=>(Va 3 ds).bind λys=>if(flat ys).all D.plain=true then some ys else none).ok Qe 190:=aJ8 aD0 O aMp
def FC:List D->Option (List D):=λds=>(Va 3 ds).bind λys=>if(flat ys).all D.plain=true then some ys else none
def mK(l:List Mt):(flat (Az l)).all D.plain=true:=by
 induction l with
 |nil=>rfl
 |cons m r ih=>simp only[Az,QD,flat,Ml,D.cells,List.all_append,Q7,Zb,D.plain,Zh,Zq];exact ih
def eN(a b:List Mt):Az (a++b)=Az a++Az b:=Q_
theorem sH(l:List Mt):(Az l).all (kP 3)=true:=X5
def aYe{l:List Mt}{m:Mt}{nl:Bool}(hl:l.length<=1000):FC [.slice false [] [.slice nl [] (Az l),.slice false [] [Ml m]]]=some (Az (l++[m])):=by
 have d:FD [.slice nl [] (Az l),.slice false [] [Ml m]]=some (Az (l++[m])):=by
  simp only[FD,Qv,QI,eN];rfl
 have r:(Az (l++[m])).length=l.length+1:=by rw[AX,Qq];rfl
 simp only[FC,Va,d];rw[if_pos ⟨U,O,O,sH _⟩,Qj,if_pos (mK _)]
def FH(l:List Mt)(m:Mt):Option (List Mt)×Int:=
 if Db m.1 m.2.1≠0 then(none,Db m.1 m.2.1)else if 0<=BE l m.1 then(none,20)else if GO m.1 (l.map (·.1))=true then(none,15)else if 4<=l.length then(none,24)
 else(some (Du mS m0t l.length 1 (l++[m])),0)
def aIl(nl:Bool)(l:List Mt)(o:Option (List Mt)):D:=match o with
 |none=> .agg [.slice nl [] (Az l)]
 |some f=> .agg [.slice false [] (Az f)]
open Classical in
def F45:List D->Option D
 |[.agg [.slice nl _ xs],.agg [.str p,.int .i64 q,.bool b]]=>if sG nl xs∧xs.length<=1000∧p.length<=1000000 then some (.tup [aIl nl (DI xs) (FH (DI xs) (p,q,b)).1,.int .i64 (FH (DI xs) (p,q,b)).2])else none
 |_=>none
open Classical in
def qG{nl:Bool}{t:Id}{l:List Mt}{m:Mt}(hl:l.length<=1000)(w:nl=true->l=[])(g:m.1.length<=1000000):F45 [.agg [.slice nl t (Az l)],Ml m]=some (.tup [aIl nl l (FH l m).1,.int .i64 (FH l m).2]):=by
 have h:sG nl (Az l)∧(Az l).length<=1000∧m.1.length<=1000000:=⟨aCH O w,by rw[AX];exact hl,g⟩;show(if _ then _ else _)=_;rw[if_pos h,BW]
def aB1{i:Id}{n:Nat}:(D.row i n).data=true:=rfl
def xQ{i:Id}{n:Nat}:(D.row i n).cells=[.row i n]:=rfl
def mL(nl:Bool)(l:List Mt)(o:Option (List Mt))(e:Int):(D.tup [aIl nl l o,.int .i64 e]).calmR=true:=by
 cases o<;>rfl
def aUs:Kq F45 129:=by
 obtain⟨S,hS,hl⟩:=By (Aa aVi (Aa aCz (Aa aVh (Aa aVg (Aa aQA (Aa aVe Ad))))));have g:=hl 186 _ rfl;have c:=hl 187 _ rfl;have k:=hl 188 _ rfl;have i:=hl 189 _ rfl;have u:=hl 190 _ rfl;have v:=hl 191 _ rfl;clear hl;refine sY hS (Aj func129:Fn Qe 129 44 aW5 [.cell (some 1) 4,.t 5]) (λds r h=>?_) (λds r h=>?_)
 ·unfold F45 at h;split at h
  ·simp
  ·cases h
 ·unfold F45 at h;split at h
  ·rename_i nl t xs p q b;split at h
   ·rename_i hc;obtain⟨hc,ca,hp⟩:=hc;obtain⟨l,rfl,hl,hn,e⟩:=yH hc;rw[e]at h;rw[AX]at ca;simp only[Ql]at h;subst h;refine⟨mL ..,?_⟩;have f:aL9 [.agg [.str p,.int .i64 q,.bool b]]=some (.int .i64 (Db p q)):=if_pos hp;have z:=Rv (nl:=nl) (t:=[]) (p:=p) hl;have n:=aL6 (nl:=nl) (t:=t) hl;have a:=aL8 (s:=p) (nl:=false) (t:=[]) (l:=l.map (·.1)) Xk;have ka:∀mm fr,(La FC).ex [D.slice false [30] [D.slice nl [] (Az l),D.slice false [] [D.agg [D.str p,D.int IntKind.i64 q,D.bool b]]]] mm fr=some (.row fr (l.length+1),[(fr,0,flat (Az (l++[(p,q,b)])))]):=by
     intro mm fr;have h1:FC ([D.slice false [30] [D.slice nl [] (Az l),D.slice false [] [D.agg [D.str p,D.int IntKind.i64 q,D.bool b]]]].map D.un)=some (Az (l++[(p,q,b)])):=aYe (m:=(p,q,b)) ca;simp only[La,h1];refine(if_pos rfl).trans ?_;rw[Qv,AX,Qq];rfl
    have o:l.length<4->∀mm fr,(∀(j:Nat) d,(flat (Az (l++[(p,q,b)])))[j]?=some d->mm [31] j=some d)->(Fi rJ).ex [.row [31] (l.length+1),.fn 192 []] mm fr=some (.tup [],[([31],0,flat (Az (Du mS m0t l.length 1 (l++[(p,q,b)]))))]):=by
     intro w mm fr hm;have hr:=aIB hm;rw[Qq]at hr;simp only[Fi,rJ,TX];rw[if_pos ⟨O,O⟩,show l.length+1=l.length+[(p,q,b)].length from rfl,hr];rfl
    unfold aW5 FH;simp only;generalize Db p q=e1 at *;generalize BE l p=e2 at *;generalize GO p (l.map (·.1))=e3 at *;by_cases he:e1=0
    ·subst he;by_cases ga:0<=e2
     ·simp only[↓C2,H1,simprocAttr,Ab g,f,Ab c,z,ne_eq,Ah,Av,Aw,Qj,Qk,Qc,Qn,and_false,Qf,AW,Be,ga];exact .inr ⟨_,_,rfl,rfl,.inl (.inl rfl),.inl (.inl rfl),trivial⟩
     ·cases e3 with
      |true=>
       simp only[↓C2,H1,simprocAttr,Ab g,f,Ab c,z,Ab k,a,AH i,Vy,n,ne_eq,Ah,Av,Aw,Qj,Qc,Qn,and_false,Qf,ga];refine A0 ?_;simp only[↓C2,HE,simprocAttr,Ah,Av,Aw,Qu,QM,Qg,Qm,Qp,Qo,and_self,Qj,Qk,Qc,Qn,Qf,AW,Be,ga];exact .inr ⟨_,_,rfl,rfl,.inl (.inl rfl),.inl (.inl rfl),trivial⟩
      |false=>
       by_cases h4:4<=l.length
       ·have ba:(4:Int)<=(l.length:Int):=by omega
        simp only[↓C2,H1,simprocAttr,Ab g,f,Ab c,z,Ab k,a,AH i,Vy,n,ne_eq,Ah,Av,Aw,Qj,Qc,Qn,and_false,Qf,ga];refine A0 ?_;simp only[↓C2,HE,simprocAttr,AX,Ah,Av,Aw,Qu,QM,Qg,Qm,Qp,Qo,and_self,Qj,Qk,Qc,Qn,Qf,AW,Be,ga,ba,h4];exact .inr ⟨_,_,rfl,rfl,.inl (.inl rfl),.inl (.inl rfl),trivial⟩
       ·have ba:¬(4:Int)<=(l.length:Int):=by omega
        simp only[↓C2,H1,simprocAttr,Ab g,f,Ab c,z,Ab k,a,AH i,Vy,n,ne_eq,Ah,Av,Aw,Qj,Qc,Qn,and_false,Qf,ga];refine A0 ?_;simp only[↓C2,H1,simprocAttr,AH u,AX,Ah,Av,Aw,Qj,Qc,Qn,and_false,Qf,ba];refine aI (ka _ _) ?_;simp only[↓C2,HE,simprocAttr,AH v];refine aI (o O _ _ (λj d hd=>?_)) ?_
        ·grind [Ah]
        simp only[↓C2,HE,simprocAttr,aB1,xQ,Cj,F_,Ah,Av,Aw,Qu,QM,Qg,Qm,Qp,Qo,and_self,Qj,QP,Qk,Zc,Q9,Qc,false_and,Qf,AW,Be,ga,h4];refine .inr ⟨_,_,rfl,rfl,.inr ⟨_,_,rfl,rfl,.inr (.inl ⟨[31],_,3,?_,rfl,?_,?_⟩),trivial⟩,.inl (.inl rfl),trivial⟩
        ·grind [AX,isortR_len]
        ·intro x hx;obtain⟨y,_,rfl⟩:=QL.1 hx;exact⟨rfl,rfl⟩
        ·grind [aA,Ah]
    ·simp only[↓C2,H1,simprocAttr,Ab g,f,ne_eq,Ah,Av,Aw,Qj,Qk,Qc,Qn,and_false,Qf,AW,Be,he];exact .inr ⟨_,_,rfl,rfl,.inl (.inl rfl),.inl (.inl rfl),trivial⟩
   ·cases h
  ·cases h
def Ra:=y1 f23 2 [] []
def aN5:=y0 f23 [] [(2,Ra)]
def aEs:=y0 f266 [] []
def aJj{S:HD}{l:List Mt}{p:Bs}{nl:Bool}{t:Id}{Q:Ex->St->Prop}(x:l.length<=1000000)(d:S 54=some (Ac aBb))
  (w:∀v (m:Mt),A5 l p≠-1->m=BS l (A5 l p).toNat->v.s 4= .ptr [1] 0->v.s 5= .int .i64 0->v.m [1] 0=some (.str m.1)->v.m [1] 1=some (.int .i64 m.2.1)->v.m [1] 2=some (.bool m.2.2)->Q .ret v)
  (ga:∀v a b c,A5 l p=-1->v.s 4= .ptr [1] 0->v.m [1] 0=some a->v.m [1] 1=some b->v.m [1] 2=some c->Q (.exit 0) v):
  ∀(f j:Nat) v g a b c,l.length=j+f->(∀i,i<j->(l.map λm=>Bo p m.1)[i]?=some false)->2<=v.c->v.s 1= .str p->v.s 4= .ptr [1] 0->v.s 9= .slice nl t (Az l)->v.s 10= .int .i64 (l.length:Int)->v.s 11= .int .i64 (j:Int)->
   v.m [1] 0=some a->v.m [1] 1=some b->v.m [1] 2=some c->A9 S [] Ra Q v g:=by
 intro f;induction f with
 |zero=>
  intro j v g a b c hf ja hc u h4 h9 n na qa ua q;refine Af Ra.eq_1 ?_;have ea:¬((j:Int)<l.length):=O
  simp only[↓C2,HH,HZ,reduceIte,Qd,n,na,ea];exact ga _ a b c (gA (by rw[Qy];intro i hi;exact ja i O)) h4 qa ua q
 |succ f ih=>
  intro j v g a b c hf ja hc u h4 h9 n na qa ua q;refine Af Ra.eq_1 ?_;have hj:j<l.length:=O
  have ea:((j:Int)<l.length):=O
  have oa:=nJ (j:=j);have hw:=wJ (j:=j) O;have o:(Az l)[j]?=some (.agg [.str (BS l j).1,.int .i64 (BS l j).2.1,.bool (BS l j).2.2]):=Np hj;have h:(l.map λm=>Bo p m.1)[j]?=some (Bo p (BS l j).1):=by simp[BS,Qi hj]
  have r:([v.c+1+2]=([1]:Id))=False:=eq_false U;have z:(([1]:Id)=[v.c+1+2])=False:=eq_false U;obtain⟨m,k⟩:∃m,BS l j=m:=⟨_,rfl⟩;rw[k]at o h;have e:aBb [.str p,.str m.1]=some (.bool (Bo p m.1)):=rfl;obtain⟨ma,y,da⟩:=v;simp only at u h4 h9 n na qa ua q r z hc;cases hq:Bo p m.1 with
  |true=>
   rw[hq]at h e;have hr:A5 l p=(j:Int):=fZ h ja;simp only[↓C2,H1,simprocAttr,u,h4,h9,n,na,ea,oa,Qh,o,z,qa,ua,q,Ab d,e,QB,Ah,Av,Aw,Qj,QS,QP,Qk];refine w _ m (by rw[hr];omega) (by rw[hr];exact k.symm) h4 rfl ?_ ?_ ?_<;>simp only[HZ,simprocAttr,z,qa,ua,q,QB,Ah,Qu,QM,Qg,Qm,Qp,Qo,Qw,and_self]
  |false=>
   rw[hq]at h e;simp only[↓C2,H1,simprocAttr,u,h9,n,na,ea,oa,hw,Qh,o,Ab d,e,QB,Ah,Av,Aw,Qj,QS,QP,Qk];refine ih (j+1) _ _ a b c O (λi hi=>?_) Xa u h4 h9 n rfl ?_ ?_ ?_
   ·grind
   all_goals simp only[Iz,HZ,simprocAttr,z,qa,ua,q,QB,Ah,Qu,QM,Qg,Qm,Qp,Qo,Qw,and_self]
def Mv(l:List Mt)(p:Bs):D:=if A5 l p=-1 then .tup [Ml m0t,.int .i64 14]else .tup [Ml (BS l (A5 l p).toNat),.int .i64 0]
open Classical in
def aHw:List D->Option D
 |[.agg [.slice _ _ xs],.str p]=>if xs=Az (DI xs)∧xs.length<=1000000 then some (Mv (DI xs) p)else none
 |_=>none
open Classical in
def wP{nl:Bool}{t:Id}{l:List Mt}{p:Bs}(hl:l.length<=1000000):aHw [.agg [.slice nl t (Az l)],.str p]=some (Mv l p):=by
 have h:Az l=Az (DI (Az l))∧(Az l).length<=1000000:=XS
 show(if _ then _ else _)=_;rw[if_pos h,BW]
def aCv:Kq aHw 23:=by
 obtain⟨S,g,hl⟩:=By (Aa aMl Ad);have d:=hl 54 _ rfl;clear hl;refine AO (S:=S) g (Aj func23:Fn Qe 23 22 aN5 [.cell (some 3) 4,.t 5]) (λds r h=>?_) (λds r h=>?_)
 ·unfold aHw at h;split at h
  ·simp
  ·cases h
 ·unfold aHw at h;split at h
  ·rename_i nl t xs p;split at h
   ·rename_i s;obtain⟨w,hl⟩:=s;simp only[Ql]at h;subst h;generalize DI xs=l at w;subst w;rw[AX]at hl;unfold aN5;simp only[↓C2,HE,simprocAttr,AX,Ah,Qu,QM,Qg,Qm,Qp,Qo,and_self,Qc,Qn];refine aJj (l:=l) (p:=p) (nl:=nl) (t:=t) hl d (λv m o u j e m0 n i=>?_) (λv a b c o j m0 n i=>?_) l.length 0 _ _ (.str []) (.int .i64 0) (.bool false) O U Xa rfl rfl rfl rfl rfl ?_ ?_ ?_
    ·unfold Mv;rw[if_neg o,←u];simp only[↓C2,HE,Qd,j,e,m0,n,i,Av,Aw,Qp,Qj,AW,Be];exact⟨rfl,rfl⟩
    ·unfold Mv;rw[if_pos o];simp only[↓C2,H1,simprocAttr,j,m0,n,i,Cj,Ah,Av,Aw,Qj,Qk,AW,Be];exact⟨rfl,rfl⟩
    all_goals simp only[Iz,HZ,simprocAttr,Ah,Qu,QM,Qg,Qm,Qp,Qo,Qw,and_self,Qc,and_false,Qf]
   ·cases h
  ·cases h
open Classical in
def aHB:List D->Option D
 |[.agg [.bool se,.int .i64 te,.str key,.slice nlm tm xs,.slice nlt tt ys],.str p]=>if xs=Az (DI xs)∧xs.length<=1000000 then some (.bool (decide (A5 (DI xs) p≠-1)))else none
 |_=>none
def aU3:Kq aHB 266:=by
 obtain⟨S,g,hl⟩:=By (Aa aCv Ad);have b:=hl 23 _ rfl;clear hl;refine AO (S:=S) g (Aj func266:Fn Qe 266 16 aEs [.t 4]) (λds r h=>?_) (λds r h=>?_)
 ·unfold aHB at h;split at h
  ·simp
  ·cases h
 ·unfold aHB at h;split at h
  ·rename_i q f y c z xs d e ys p;split at h
   ·rename_i s;obtain⟨w,hl⟩:=s;simp only[Ql]at h;subst h;generalize DI xs=l at w;subst w;rw[AX]at hl;have a:=wP (nl:=c) (t:=[]) (p:=p) hl;unfold Mv at a;by_cases i:A5 l p=-1
    ·rw[if_pos i]at a;simp only[i,ne_eq,not_true_eq_false,decide_false];unfold aEs;simp only[↓C2,H1,simprocAttr,Ab b,a,Ml,Ah,Av,Aw,Qj,Qk,Qc,Qf]
     all_goals rfl
    ·rw[if_neg i]at a;simp only[i,ne_eq,not_false_eq_true,decide_true];unfold aEs;simp only[↓C2,H1,simprocAttr,Ab b,a,Ml,Ah,Av,Aw,Qj,Qk,Qc,Qf]
     all_goals rfl
   ·cases h
  ·cases h
def bV(l:List Mt)(p:Bs):Nat->Nat
 |0=>0
 |j+1=>if Op.bytesLess (BS l j).1 p=true then j+1 else bV l p j
def aDu(l:List Mt)(p:Bs):∀j,bV l p j<=j
 |0=>QB _
 |j+1=>by
  unfold bV;split
  ·exact QB _
  ·exact Nat.le_succ_of_le (aDu l p j)
def pR(l:List Mt)(m:Mt):Option (List Mt)×Int:=
 if Db m.1 m.2.1≠0 then(none,Db m.1 m.2.1)else if 0<=BE l m.1 then(none,20)else if GO m.1 (l.map (·.1))=true then(none,15)else if 4<=l.length then(none,24)
 else(some (l.take (bV l m.1 l.length)++m::l.drop (bV l m.1 l.length)),0)
def aN0:=y0 f97 [] []
def aNZ:=y0 Tryz.f169 [] []
def aNX:=y0 f171 [] []
def uE:=y1 f309 4 [] []
def aNW:=y0 f309 [] [(4,uE)]
def aNr:=y0 f331 [] []
def IE:=y1 f330 3 [] []
def aNs:=y0 f330 [] [(3,IE)]
def uD:=y0 f132 [] []
def aM7:Fn Qe 132 8 uD [.t 4]:=Aj func132
def NC:=y1 f197 4 [] []
def uA:=y0 f197 [] [(4,NC)]
def aM3:Fn Qe 197 26 uA [.t 4]:=Aj func197
def P5:=y1 f14 3 [] []
def aNI:=y0 f14 [] [(3,P5)]
def P3:=y1 f332 3 [] []
def aNq:=y0 f332 [] [(3,P3)]
def Rb:=y1 f136 6 [(8,[(7,3)])] []
def aOi:=y0 f136 [] [(6,Rb)]
structure Ak where
 op:Int
 tk:Bs
 pa:Bs
 ot:Bs
 n:Int
 cas:Int
 fl:Bool
 nln:Bool
 ns:List Int
 da:Bs
 nlr:Bool
 rs:List Rl
 key:Bs
def AI(l:List Int):List D:=l.map (.int .i64)
def Fa(l:List Int):(AI l).length=l.length:=Qy ..
def L_:∀{a b:List Int},AI a=AI b->a=b
 |[],[],_=>rfl
 |[],_::_,h=>by simp[AI]at h
 |_::_,[],h=>by simp[AI]at h
 |x::a,y::b,h=>by
  simp only[AI,QD,Qc,D.int.injEq,true_and]at h;rw[h.1,L_ (a:=a) (b:=b) h.2]
def aDI(l:List Int):(AI l).all (tW none)=true:=X5
def dJ{a b:List Rl}(h:As a=As b):a=b:=by rw[←A3 a,h,A3]
theorem eM{a b:List Mt}(h:Az a=Az b):a=b:=by rw[←BW a,h,BW]
theorem cO{a b:List Tk}(h:Ar a=Ar b):a=b:=by rw[←BU a,h,BU]
def Ia(a:Ak):List D:=[.int .u8 a.op,.str a.tk,.str a.pa,.str a.ot,.int .i64 a.n,.int .i64 a.cas,.bool a.fl,.slice a.nln [] (AI a.ns),.str a.da,.slice a.nlr [] (As a.rs),.str a.key]
def Ic(a:Ak):D:= .agg (Ia a)
theorem Gf{a b:Ak}(h:Ic a=Ic b):a=b:=by
 cases a;cases b;simp only[Ic,Ia,D.agg.injEq,Qc,D.int.injEq,D.str.injEq,D.bool.injEq,D.slice.injEq,true_and,and_true]at h;obtain⟨u,y,o,j,p,v,m,⟨w,x⟩,n,⟨na,f⟩,q⟩:=h;have e:=L_ x;have c:=dJ f;subst u y o j p v m w n na q e c;rfl
def Dm(b:Bool):Int:=if b=true then 0 else 4
def aTq:List D->Option D:=FX (λb:Bool=>[.bool b]) (λ_=>True) (λb=> .int .i64 (Dm b))
def Ir(b:Bool):aTq [.bool b]=some (.int .i64 (Dm b)):=Ca (mk:=λb:Bool=>[.bool b]) (λa b h=>Xr) trivial
def aMn:Kq aTq 97:=by
 refine C8 (S:=λ_=>none) Ba (Aj func97:Fn Qe 97 4 aN0 [.t 2]) (λ_=>U) (λb _=>?_);unfold aN0;cases b<;>simp only[↓C2,HE,reduceIte,Qb,Qd]
 all_goals exact Y3
def aYi:List D->Option D:=FX (λs:Bs=>[.str s]) (λs=>s.length<=1000000) (λs=> .bool (BJ s))
def wO{s:Bs}(h:s.length<=1000000):aYi [.str s]=some (.bool (BJ s)):=Ca (mk:=λs:Bs=>[.str s]) (λa b h=>Xr) h
def aUO:Kq aYi 169:=by
 obtain⟨S,g,hl⟩:=By (Aa aI0 Ad);have a:=hl 53 _ rfl;clear hl;refine C8 g (Aj func169:Fn Qe 169 7 aNZ [.t 2]) (λ_=>U) (λs j=>?_);have z:F98 [.agg [.int .u8 3,.str s,.int .i64 0]]=some (.int .i64 (Bx 3 s 0)):=if_pos j;have i:Bx 3 s 0=if BJ s=true then 0 else 2:=by simp[Bx]
 rw[i]at z;unfold aNZ;cases hn:BJ s<;>rw[hn]at z<;>simp only[if_true,Qs,if_false]at z
 ·simp only[↓C2,HE,reduceIte,Qb,Qd,Ab a,z,Cj,F_,Qt,Qg,Qm,Qp,and_self,QS,QP,Zc,Q9]
  all_goals exact Y3
 ·simp only[↓C2,HE,reduceIte,Qb,Qd,Ab a,z,Cj,F_,Qt,Qg,Qm,Qp,and_self,QS,QP,Zc,Q9]
  all_goals exact Y3
def countB(l:List Int):Bool:=decide (l.length<=6)&&!(l.any λx=>!decide (1<=x∧x<=999))
def aYh:List D->Option D:=FX (λp:Bool×List Int=>[.slice p.1 [] (AI p.2)]) (λp=>p.2.length<=1000000) (λp=> .bool (countB p.2))
def aLJ{nl:Bool}{l:List Int}(h:l.length<=1000000):aYh [.slice nl [] (AI l)]=some (.bool (countB l)):=
 Ca (mk:=λp:Bool×List Int=>[.slice p.1 [] (AI p.2)]) (a:=(nl,l)) (λa b h=>by
  simp only[Qc,D.slice.injEq,true_and,and_true]at h;exact QU h.1 (L_ h.2)) h
def aFt{l:List Int}{nl:Bool}{t:Id}(hl:l.length<=1000000)(m:HF)(fr:Id):
  (kS 241 none aA5).ex [.slice nl t (AI l),.fn 241 []] m fr=some (.bool (l.any λx=>!decide (1<=x∧x<=999)),[]):=by
 have e:(AI l).map (aA5 .junk)=(l.map λx=>!decide (1<=x∧x<=999)).map λb=>some (.bool b):=by
  simp only[AI,QR];exact Q3 λr _=>rfl
 simp only[kS,Fa,hl,aDI,and_self,if_true,Gt,Qj,e,DD,Qv,Zt];rfl
def aUN:Kq aYh 171:=by
 obtain⟨S,g,hl⟩:=By (Aa aXk Ad);have c:=hl 240 _ rfl;clear hl;refine C8 g (Aj func171:Fn Qe 171 11 aNX [.t 2]) (λ_=>U) (λp j=>?_);obtain⟨nl,l⟩:=p;have a:=aFt (nl:=nl) (t:=[]) j;unfold aNX countB;simp only;generalize (l.any λx=>!decide (1<=x∧x<=999))=b at a;by_cases v:l.length<=6
 ·have h:((l.length:Int)<=6):=by omega
  simp only[↓C2,HE,reduceIte,Qb,Qd,AH c,a,v,h,Fa]
  all_goals exact Y3
 ·have h:¬((l.length:Int)<=6):=by omega
  simp only[↓C2,HE,reduceIte,Qb,Qd,v,h,Fa,QA,and_self]
  all_goals exact Y3
def aLI:List D->Option D:=FX (λp:Bool×List D×Bool=>[.slice p.1 [] p.2.1,.slice p.2.2 [] []]) (λp=>p.2.1.length<=1000000) (λp=> .bool p.2.1.isEmpty)
def W9{nl nl':Bool}{l:List D}(h:l.length<=1000000):aLI [.slice nl [] l,.slice nl' [] []]=some (.bool l.isEmpty):=
 Ca (mk:=λp:Bool×List D×Bool=>[.slice p.1 [] p.2.1,.slice p.2.2 [] []]) (a:=(nl,l,nl')) (λa b h=>by
  simp only[Qc,D.slice.injEq,true_and,and_true]at h;exact QU h.1.1 (QU h.1.2 h.2)) h
def aUM:Kq aLI 309:=by
 refine C8 (S:=λ_=>none) Ba (Aj func309:Fn Qe 309 26 aNW [.t 4]) (λ_=>U) (λp j=>?_);obtain⟨nl,l,nl'⟩:=p;unfold aNW;cases l with
 |nil=>
  simp only[↓C2,HH,HZ,reduceIte,Qb,Qd,Qm];have b:((0:Int)<((0:Nat):Int))=False:=U
  refine Af uE.eq_1 ?_;simp only[↓C2,HE,reduceIte,Qb,Qd,b]
  all_goals exact Y3
 |cons x r=>
  have ga:(((r.length+1:Nat):Int)=((0:Nat):Int))=False:=eq_false O;simp only[↓C2,HE,reduceIte,Qb,Qd,Qg,Qm,ga]
  all_goals exact Y3
def aUz:Kq aLI 197:=by
 refine C8 (S:=λ_=>none) Ba aM3 (λ_=>U) (λp j=>?_);obtain⟨nl,l,nl'⟩:=p;unfold uA;cases l with
 |nil=>
  simp only[↓C2,HH,HZ,reduceIte,Qb,Qd,Qm];have b:((0:Int)<((0:Nat):Int))=False:=U
  refine Af NC.eq_1 ?_;simp only[↓C2,HE,reduceIte,Qb,Qd,b]
  all_goals exact Y3
 |cons x r=>
  have t:(((r.length+1:Nat):Int)=((0:Nat):Int))=False:=eq_false O;simp only[↓C2,HE,reduceIte,Qb,Qd,Qg,Qm,t]
  all_goals exact Y3
structure LG (c0:Nat) (m0:HF) (e:Nat) (m:HF) (c:Nat) (nl:Bool) (t:Id):Prop where
 low:∀q o,q<c0->m [q] o=m0 [q] o
 tok:nl=true∨∃j,t=[j]∧c0<=j∧j<c∧m t 0=some (.tok (e+1))
 le:c0<=c
section
variable{c0 e c c' c2 o:Nat}{m0 m:HF}{nl:Bool}{t:Id}{ds xs:List D}
def LG.start(h:c0<=c):LG c0 m0 e m0 c true t:=⟨λ_ _ _=>rfl,.inl rfl,h⟩
def LG.put(h:LG c0 m0 e m c nl t)(d:c<=c':=by omega):LG c0 m0 e (m.put [c'] o ds) c nl t:=by
 obtain⟨u,y,r⟩:=h;refine⟨λq o' z=>?_,?_,r⟩
 ·grind [aA]
 ·grind [aA]
def LG.more(h:LG c0 m0 e m c nl t)(s:c<=c'):LG c0 m0 e m c' nl t:=by
 obtain⟨u,h2,o⟩:=h;refine⟨u,?_,O⟩;rcases h2 with h2|⟨j,a,b,z,d⟩
 ·exact .inl h2
 ·grind
def LG.grow(h:LG c0 m0 e m c nl t):Mf m e (.slice nl t xs):=by
 rcases h.tok with h|⟨j,rfl,_,_,d⟩
 ·exact .inl h
 ·exact .inr ⟨d,U⟩
def LG.app(h:LG c0 m0 e m c nl t)(d:c<=c')(y:c'<c2):LG c0 m0 e (HN.app m (Bm e [c'] (.slice nl t xs))) c2 false [c']:=by
 obtain⟨u,v,r⟩:=h;refine⟨λq o z=>?_,.inr ⟨c',rfl,O,y,?_⟩,O⟩
 ·grind [Dj]
 ·rw[Dj,if_pos ⟨rfl,rfl⟩]
def LG.appf(h:LG c0 m0 e m c false t)(d:c<=c')(y:c'<c2):LG c0 m0 e ((m.put t 0 [.tok 0]).put [c'] 0 [.tok (e+1)]) c2 false [c']:=LG.app (xs:=[]) h d y
def LG.nil(h:LG c0 m0 e m c nl t):LG c0 m0 e (HN.app m []) c nl t:=h
def LG.rd(h:LG c0 m0 e m c nl t){q p n:Nat}(z:q<c0):Ag m [q] p n=Ag m0 [q] p n:=by
 have:∀n p,Ag m [q] p n=Ag m0 [q] p n:=by
  intro n;induction n with
  |zero=>intro p;rfl
  |succ n ih=>intro p;simp only[Ag,h.low q p z,ih]
 exact this n p
end
def LQ(l:List Rw):aF (Bd l) 3=3:=XB
def Ii(l:List Int):(AI l).length=l.length:=Qy ..
def aFy{m:HF}{caps:List D}{k:IntKind}{n:Int}(h:Gt m caps=some (.int k n)):∃i,caps=[.ptr i 0]∧m i 0=some (.int k n):=by
 unfold Gt at h;split at h
 ·simp at h
 ·simp_all
 ·cases h
def aA6:D->D->Option D
 | .int .i64 n,.agg [.int .i64 a,.bool _,.bool _]=>some (.bool (decide (a=n)))
 |_,_=>none
def aSe:(Lv aA6).ok Qe 314:=by
 refine OT (S:=λ_=>none) Ba (Aj func314:Fn Qe 314 8 aNx [.t 3]) (λx caps m fr c d p z j hl=>⟨O,?_⟩);unfold aA6 at z;split at z
 ·simp only[Ql]at z;subst z;obtain⟨i,rfl,n⟩:=aFy p;have hi:i≠0::fr:=by rintro rfl;have:=j 0 (0::fr) 0 (List.suffix_refl _);rw[n]at this;cases this
  unfold aNx;simp only[↓C2,HE,HB,simprocAttr,n,hi];intro i o y h;split
  ·grind
  ·exact h
 ·cases z
def aWM:Fn Qe 313 19 (dcI 3 (some 3)) [.t 4]:=⟨f313,_,func313,rfl,Z,rfl,Z,Z⟩
def aRQ:(Gp 314 (some 3) aA6).ok Qe 313:=OF O aWM rfl aSe
def VK(l:List Rw)(n:Int):Int:=Bc (l.map λr=>decide (r.1=n))
def yV{l:List Rw}{nl:Bool}{t:Id}(hl:l.length<=1000000){n:Int}(m:HF)(fr i:Id)(j:m i 0=some (.int .i64 n)):
  (Gp 314 (some 3) aA6).ex [.slice nl t (Bd l),.fn 314 [.ptr i 0]] m fr=some (.int .i64 (VK l n),[]):=by
 have e:(Bd l).map (aA6 (.int .i64 n))=(l.map λr=>decide (r.1=n)).map λb=>some (.bool b):=by
  simp only[Bd,QR];exact Q3 λr _=>rfl
 have c:(Bd l).all (tW (some 3))=true:=by
  rw[QT];intro x p;obtain⟨r,_,rfl⟩:=QL.1 p;rfl
 simp only[Gp,AS,hl,c,and_self,if_true,Gt,j,Qj,e,DD,Qv];rfl
def G6(s:Sc)(n:Int):Int:=if n=0 then(s.rs.length:Int)-1 else VK s.rs n
def aXJ:=Aq [(313,Gp 314 (some 3) aA6)]
def aTb:=RF aXJ aOb [.t 4] 15
def aWj:Kq aTb 274:=An (Aj func274) (Aa aRQ Ad)
def aK1(s:Sc)(n:Int)(hl:s.rs.length<=1000):aTb [.agg (HO s),.int .i64 n]=some (.int .i64 (G6 s n)):=by
 refine Am (Qa rfl) ?_;unfold aOb;have w:IntKind.i64.wrap ((s.rs.length:Int)-1)=(s.rs.length:Int)-1:=H9 O O;unfold G6 HO;by_cases c1:n=0
 ·simp only[↓C2,HE,HB,simprocAttr,c1,w,AS]
  all_goals exact Y2
 ·simp only[↓C2,HE,HB,simprocAttr,c1,AE aXJ 313,yV (n:=n) (show s.rs.length<=1000000 by omega)]
  all_goals exact Y2
def rw0:Rw:=(0,false,false)
def IK(s:Sc)(n:Int):Rw×Int:=if B5 s 6=true then(rw0,2)else if G6 s n<0 then(rw0,6)else
 if((s.rs.getD (G6 s n).toNat rw0).2.1||(s.rs.getD (G6 s n).toNat rw0).2.2)=true then(s.rs.getD (G6 s n).toNat rw0,21)else(s.rs.getD (G6 s n).toNat rw0,0)
def Ui(l:List Rw)(n:Int):VK l n<l.length:=by
 unfold VK Bc;split
 ·rename_i k h;rw[Q6]at h;obtain⟨g,_⟩:=h;rw[Qy]at g;omega
 ·omega
def aD4(s:Sc)(n:Int):G6 s n<s.rs.length:=by
 unfold G6;split
 ·omega
 ·exact Ui _ _
def WW:=Aq [(25,Ac Mc),(273,Ac S0),(274,Ac aTb)]
def O4:=RF WW aOW [.cell (some 3) 4,.t 5] 32
def aWA:Kq O4 219:=An (Aj func219) (Aa Sm (Aa aMI (Aa aWj Ad)))
def aLl(s:Sc)(n:Int)(hl:s.rs.length<=1000):O4 [.agg (HO s),.int .i64 n]=some (.tup [rwD (IK s n).1,.int .i64 (IK s n).2]):=by
 refine Am (Qa rfl) ?_;unfold aOW;have z:=Hy s 6 false hl;have q:=vL;have b:=aK1 s n hl;have k:=aD4 s n;unfold IK;unfold Vp at z;unfold HO at z b ⊢;generalize G6 s n=i at b k;cases hb:B5 s 6 with
 |true=>
  rw[hb]at z;simp only[if_true]at z;simp only[↓C2,HE,HB,simprocAttr,Ae WW 25,z,Ae WW 273,q];refine A0 ?_;simp only[↓C2,HE,HB,simprocAttr]
  all_goals exact Y2
 |false=>
  rw[hb]at z;simp only[if_false,Qs]at z;simp only[↓C2,HE,HB,simprocAttr,Ae WW 25,z,Ae WW 273,q];refine A0 ?_;by_cases c1:i<0
  ·simp only[↓C2,HE,HB,simprocAttr,Ae WW 274,b,c1]
   all_goals exact Y2
  ·have j:0<=i:=by omega
   have u:i.toNat<s.rs.length:=O
   have o:=FV u;have hg:s.rs.getD i.toNat rw0=s.rs[i.toNat]:=by simp[Zx,Qi u]
   rw[hg];generalize s.rs[i.toNat]=x at o;obtain⟨a,g,d⟩:=x;simp only at o;cases g with
   |true=>
    simp only[↓C2,HE,HB,simprocAttr,Ae WW 274,b,c1,j,o]
    all_goals exact Y2
   |false=>
    cases d with
    |true=>
     simp only[↓C2,HE,HB,simprocAttr,Ae WW 274,b,c1,j,o]
     all_goals exact Y2
    |false=>
     simp only[↓C2,HE,HB,simprocAttr,Ae WW 274,b,c1,j,o]
     all_goals exact Y2
def IS(s:Sc)(q:Int)(b:Bool)(cas j:Int):Int:=if B5 s q=true∨cas< -1∨j<0 then 2 else if 96<j then 18 else if cas=-1∧(s.cas=true∨b=true)then 17 else if cas≠-1∧cas≠s.la then 16 else if s.la=30 then 19 else 0
def PK:=Aq [(25,Ac Mc)]
def aSY:=RF PK aNw [.t 8] 49
def aV0:Kq aSY 315:=An (Aj func315) (Aa Sm Ad)
def aKH(s:Sc)(q:Int)(b:Bool)(cas j:Int)(hl:s.rs.length<=1000):aSY [.agg (HO s),.agg [.int .i64 q,.bool b],.int .i64 cas,.int .i64 j]=some (.int .i64 (IS s q b cas j)):=by
 refine Am (Qa rfl) ?_;unfold aNw;have z:=Hy s q b hl;unfold IS;unfold Vp at z;unfold HO at z ⊢;generalize B5 s q=x at z;cases x with
 |true=>
  simp only[if_true]at z;simp only[↓C2,HE,HB,simprocAttr,Ae PK 25,z,ne_eq]
  all_goals exact Y2
 |false=>
  simp only[if_false,Qs]at z;by_cases c1:cas< -1
  ·simp only[↓C2,HE,HB,simprocAttr,Ae PK 25,z,ne_eq,c1]
   all_goals exact Y2
  by_cases c2:j<0
  ·simp only[↓C2,HE,HB,simprocAttr,Ae PK 25,z,ne_eq,c1,c2]
   all_goals exact Y2
  by_cases t:96<j
  ·simp only[↓C2,HE,HB,simprocAttr,Ae PK 25,z,ne_eq,c1,c2,t]
   all_goals exact Y2
  by_cases p:cas=-1
  ·have g:(cas=-1)=True:=eq_true p;cases h1:s.cas with
   |true=>
    rw[h1]at z;simp only[↓C2,HE,HB,simprocAttr,Ae PK 25,z,ne_eq,c1,c2,t,g]
    all_goals exact Y2
   |false=>
    rw[h1]at z;cases b with
    |true=>
     simp only[↓C2,HE,HB,simprocAttr,Ae PK 25,z,ne_eq,c1,c2,t,g]
     all_goals exact Y2
    |false=>
     by_cases o:s.la=30
     ·have e:(s.la=30)=True:=eq_true o;simp only[↓C2,HE,HB,simprocAttr,Ae PK 25,z,ne_eq,c1,c2,t,g,e]
      all_goals exact Y2
     ·have e:(s.la=30)=False:=eq_false o;simp only[↓C2,HE,HB,simprocAttr,Ae PK 25,z,ne_eq,c1,c2,t,g,e]
      all_goals exact Y2
  ·have g:(cas=-1)=False:=eq_false p;by_cases y:cas=s.la
   ·have i:(cas=s.la)=True:=eq_true y;by_cases o:s.la=30
    ·have e:(s.la=30)=True:=eq_true o;simp only[↓C2,HE,HB,simprocAttr,Ae PK 25,z,ne_eq,c1,c2,t,g,i,e]
     all_goals exact Y2
    ·have e:(s.la=30)=False:=eq_false o;simp only[↓C2,HE,HB,simprocAttr,Ae PK 25,z,ne_eq,c1,c2,t,g,i,e]
     all_goals exact Y2
   ·have i:(cas=s.la)=False:=eq_false y;simp only[↓C2,HE,HB,simprocAttr,Ae PK 25,z,ne_eq,c1,c2,t,g,i]
    all_goals exact Y2
def aZr:=Aq []
def aSX:=RF aZr gT [.t 2] 8
def aVZ:Kq aSX 316:=An aDZ Ad
def aKG{nl:Bool}{l:List Rw}(hl:l.length<=100000)(w:nl=true->l=[]):aSX [.slice nl [] (Bd l)]=some (.slice nl [] (Bd l)):=by
 refine Am (Qa rfl) ?_;unfold gT;cases nl with
 |true=>
  rw[w rfl];simp only[↓C2,HH,Iz,HB,simprocAttr]
  all_goals exact Y2
 |false=>
  simp only[↓C2,HH,HZ,HB,simprocAttr];refine aB ⟨XJ,LQ l,.inr ⟨rfl,U⟩⟩ ?_;simp only[↓C2,HE,HB,simprocAttr]
def Br(s:Sc)(q:Int):Nat:=s.rs.length-(AT s q).toNat
def B9(s:Sc)(q:Int):Sc:={s with rs:=s.rs.drop (Br s q)}
def FM(s:Sc)(q:Int):List Int:=(s.rs.take (Br s q)).map (·.1)
def aSE:=Aq [(59,Ac aKT),(316,Ac aSX)]
def aK0:=RF aSE aN6 [.cell (some 4) 4,.t 5] 41
def aMG:Kq aK0 278:=An (Aj func278) (Aa aMF (Aa aVZ Ad))
def vJ(s:Sc)(q:Int)(b:Bool)(hl:s.rs.length<=1000)(hk:0<=AT s q∧AT s q<=1000)(pa:s.nl=true->s.rs=[]):aK0 [.agg (HO s),.agg [.int .i64 q,.bool b]]=some (.tup [.agg (HO (B9 s q)),.slice (decide (Br s q=0)) [] (AI (FM s q))]):=by
 refine Am (Qa rfl) ?_;unfold aN6;have d:=vI s q b;have a:=aKG (nl:=s.nl) (l:=s.rs.drop (Br s q)) X4 (λh=>by rw[pa h,List.drop_nil]);have hw:IntKind.i64.wrap ((s.rs.length:Int)-AT s q)=(s.rs.length:Int)-AT s q:=H9 O O;have hm:max 0 ((s.rs.length:Int)-AT s q)=(Br s q:Int):=by unfold Br;omega
 have hn:Br s q<=s.rs.length:=by unfold Br;omega
 have fa:(0:Int)<=(Br s q:Int)∧(Br s q:Int)<=((s.rs.length:Nat):Int):=⟨O,O⟩;have qa:(Bd s.rs).take (Br s q)=Bd (s.rs.take (Br s q)):=List.map_take.symm;have ba:(Bd s.rs).drop (Br s q)=Bd (s.rs.drop (Br s q)):=List.map_drop.symm;have f:B9 s q={s with rs:=s.rs.drop (Br s q)}:=rfl;unfold FM;rw[f];unfold HO at d ⊢;generalize Br s q=n at *;generalize AT s q=kp at *;clear f;simp only[↓C2,HE,HB,simprocAttr,Ae aSE 59,d,AS,hw,hm];refine A0 ?_;simp only[↓C2,HE,HB,simprocAttr,AS,LQ,fa,Qh,qa,QM,Zy,Nat.min_eq_left hn];refine BX (n:=n) (I:=λj v=>v.s 21= .slice s.nl [] (Bd (s.rs.take n))∧v.s 22= .int .i64 (n:Int)∧v.s 23= .int .i64 (j:Int)∧v.s 2= .ptr [0] 0∧v.s 4= .ptr [2] 0∧v.s 6= .int .i64 (n:Int)∧∃nl t,v.s 7= .slice nl t (AI (((s.rs.take n).take j).map (·.1)))∧nl=decide (j=0)∧LG 4 _ 3 v.m v.c nl t) (λj hj ih v g hI=>?_) (λv g hI=>?_) 0 (Qu _) _ _ ⟨(by show D.slice _ _ (List.take n (List.drop 0 (Bd s.rs)))=_;rw[Zc,qa]),rfl,rfl,rfl,rfl,rfl,true,[],rfl,rfl,LG.start Xa⟩
 ·obtain⟨ma,ia,da⟩:=v;obtain⟨i,e,o,y,h4,h6,nl,t,h7,u,hG⟩:=hI;simp only at i e o y h4 h6 h7 hG;refine Af Wq.eq_1 ?_;have ea:((j:Int)<n):=by omega
  have oa:=nJ (j:=j);have hw:=wJ (j:=j) O;have w:(s.rs.take n).length=n:=Xu
  generalize s.rs.take n=l at *;have ka:=FV (l:=l) (j:=j) O;have qa:AI ((l.take (j+1)).map (·.1))=AI ((l.take j).map (·.1))++[.int .i64 (l[j]' O).1]:=by
   rw[QF O,Q_];simp[AI]
  have va:(AI ((l.take j).map (·.1))).length=j:=by simp[AI];omega
  have na:nl=true->AI ((l.take j).map (·.1))=[]:=by
   grind
  generalize AI ((l.take j).map (·.1))=z at h7 qa va na;generalize l[j]' O=x at ka qa;simp only[↓C2,HE,HB,simprocAttr,i,e,o,h7,ea,oa,Qh,ka];refine aB ⟨O,rfl,YZ⟩ ?_;rw[BF na,←qa];simp only[↓C2,HH,simprocAttr,o,hw];exact ih _ _ ⟨i,e,rfl,y,h4,h6,false,_,rfl,U,Y0⟩
 ·obtain⟨ma,ia,da⟩:=v;obtain⟨i,e,o,y,h4,h6,nl,t,h7,u,hG⟩:=hI;simp only at i e o y h4 h6 h7 hG;refine Af Wq.eq_1 ?_;have m0:∀k,ia [0] k=_:=λk=>hG.low 0 k O
  have m2:∀k,ia [2] k=_:=λk=>hG.low 2 k O
  have ga:(Bd s.rs).take s.rs.length=Bd s.rs:=QG XJ;have r:(Bd (s.rs.drop n)).take (s.rs.length-n)=Bd (s.rs.drop n):=QG (by rw[AS,List.length_drop];omega);have p:(s.rs.take n).take n=s.rs.take n:=QG Xu;rw[p]at h7;simp only[↓C2,HE,HB,simprocAttr,e,o,y,h4,h6,h7,Qz,m0,m2,AS,LQ,fa,Qh,r,ba,Ae aSE 316,a];subst u
  all_goals exact Y2
def clQ:Il where
 rd:=λ_ _=>[]
 ex:=λds _ fr=>match ds with
  |[.slice nl _ xs]=>if xs.length<=100000∧(nl=true->xs=[])∧aF xs 3=3 then(if nl=true then some (.slice true [] [],[])else some (.slice false (5::fr) xs,[(5::fr,0,[.tok 81])]))else none
  |_=>none
theorem gZ{nl:Bool}{t:Id}{xs:List D}{m:HF}{fr:Id}(u:xs.length<=100000)(y:nl=true->xs=[])(o:aF xs 3=3)(S:HD){R:D->HF->Prop}(x:if nl=true then R (.slice true [] []) m else R (.slice false (5::fr) xs) (((m.put (3::fr) 0 [.tok 81]).put (3::fr) 0 [.tok 0]).put (5::fr) 0 [.tok 81])):gT.wp S fr (Eo [.t 2] R) ⟨BQ [.slice nl t xs],m,0⟩:=by
 unfold gT;cases nl with
 |true=>
  simp only[↓C2,HH,HB,reduceIte,Qb,Qd,reduceCtorEq];simpa using x
 |false=>
  simp only[↓C2,HH,HZ,HB,reduceIte,Qb,Qd,reduceCtorEq];refine aB ⟨O,o,.inr ⟨BV ..▸by simp,U⟩⟩ ?_;simp only[↓C2,HH,HZ,HB,reduceIte,Qb,Qd];simp only[Qs,if_false]at x;exact x
def aQC:clQ.ok Qe 316:=by
 refine LW (S:=λ_=>none) Ba aDZ (λds m m' fr _=>rfl) (λds m fr r u z j=>?_);simp only[clQ]at z;split at z
 ·rename_i nl t xs;split at z
  ·rename_i d;obtain⟨q,y,v⟩:=d;refine⟨U,gZ q y v _ ?_⟩;cases nl with
   |true=>
    simp only[if_true,Ql,QC]at z ⊢;obtain⟨rfl,rfl⟩:=z;exact⟨rfl,λ_ _ _ h=>h⟩
   |false=>
    simp only[Qs,if_false,Ql,QC]at z ⊢;obtain⟨rfl,rfl⟩:=z;refine⟨rfl,λi o x h=>?_⟩;have c:(m.put (5::fr) 0 [.tok 81]) i o=some x:=h;rw[BV]at c ⊢;split at c
    ·simp_all
    ·grind [BV]
  ·cases z
 ·cases z
def aSi{nl:Bool}{t:Id}{l:List Rw}{m:HF}{fr:Id}(u:l.length<=1000)(y:nl=true->l=[]):clQ.ex [.slice nl t (Bd l)] m fr=if nl=true then some (.slice true [] [],[])else some (.slice false (5::fr) (Bd l),[(5::fr,0,[.tok 81])]):=
 if_pos ⟨XJ,λh=>by rw[y h];rfl,LQ l⟩
def EM{s:Sc}{q:Int}(h:B5 s q=false):(1<=q∧q<=6)∧(0<=s.mx∧s.mx<=6)∧(0<=s.la∧s.la<=30)∧(s.rs.length:Int)<=AT s q∧Cz s.rs 0=true∧GN s.rs=s.la:=by
 simpa[B5]using h
def dP{s:Sc}{q:Int}{b:Bool}{cas j:Int}(h:IS s q b cas j=0):B5 s q=false:=by
 grind [IS,B5]
def fJ{s:Sc}{q:Int}(u:1<=q∧q<=6)(y:0<=s.mx∧s.mx<=6):0<=AT s q∧AT s q<=1000:=by
 grind [AT]
def A_(s:Sc):Sc:={s with la:=s.la+1,nl:=false,rs:=s.rs++[(s.la+1,false,false)]}
def Cd(s:Sc)(q:Int)(b:Bool)(cas j:Int):Sc×Int×List Int×Int:=if IS s q b cas j≠0 then(s,0,[],IS s q b cas j)else(B9 (A_ s) q,s.la+1,FM (A_ s) q,0)
def gF{s:Sc}{q:Int}:(FM s q=[])=(Br s q=0):=by
 simp_all [FM,Br]
def jB:=Aq [(315,Ac aSY),(278,Ac aK0),(316,clQ)]
def aTa:=RF jB aOa [.cell (some 4) 8,.t 9,.t 10,.t 11] 47
def aWi:Kq aTa 275:=An (Aj func275) (Aa aV0 (Aa aMG (Aa aQC Ad)))
def vK(s:Sc)(q:Int)(b:Bool)(cas j:Int)(hl:s.rs.length<=900)(r:s.nl=true->s.rs=[]):aTa [.agg (HO s),.agg [.int .i64 q,.bool b],.int .i64 cas,.int .i64 j]=some (.tup [.agg (HO (Cd s q b cas j).1),.int .i64 (Cd s q b cas j).2.1,.slice (decide ((Cd s q b cas j).2.2.1=[])) [] (AI (Cd s q b cas j).2.2.1),.int .i64 (Cd s q b cas j).2.2.2]):=by
 refine Am (Qa rfl) ?_;unfold aOa;have c:=aKH s q b cas j O;have a:=λ(m:HF)(fr:Id)=>aSi (nl:=s.nl) (t:=[]) (l:=s.rs) (m:=m) (fr:=fr) O r
 unfold Cd;by_cases y:IS s q b cas j=0
 ·obtain⟨u,v,b3,_⟩:=EM (dP y);have g:AT (A_ s) q=AT s q:=rfl;have d:=vJ (A_ s) q b (by simp[A_];omega) (by rw[g];exact fJ u v) (by simp[A_]);have k:IntKind.i64.wrap (s.la+1)=s.la+1:=H9 O O;have o:(B9 (A_ s) q).la=s.la+1:=rfl;have f:=gF (s:=A_ s) (q:=q);rw[y]at c;rw[y];simp only[ne_eq,not_true_eq_false,if_false,f];generalize decide (Br (A_ s) q=0)=n at d ⊢;generalize FM (A_ s) q=l2 at *;generalize B9 (A_ s) q=p at *;have x:Bd (s.rs++[(s.la+1,false,false)])=Bd s.rs++[.agg [.int .i64 (s.la+1),.bool false,.bool false]]:=by simp[Bd,rwD]
  unfold A_ HO at d;simp only[x]at d;unfold HO at c ⊢;rw[o]at d;clear g;have i:(Bd s.rs).length=s.rs.length:=AS _;cases hn:s.nl with
  |true=>
   rw[hn]at c a;rw[r hn]at c d a i ⊢;simp only[if_true]at a;have w:Bd []=[]:=rfl;rw[w]at c d a i ⊢;rw[Zl]at d;simp only[↓C2,HE,HB,reduceIte,Qb,Qd,Qr,Qt,QE,reduceCtorEq,Ae jB 315,c,AE jB 316,a,k];refine aB ⟨U,rfl,.inl rfl⟩ ?_;simp only[↓C2,HE,HB,reduceIte,Qb,Qd,Qr,Qt,QE,reduceCtorEq];refine A0 ?_;simp only[↓C2,HE,HB,reduceIte,Qb,Qd,Qr,Qt,QE,reduceCtorEq,Ae jB 278,d];refine A0 ?_;simp only[↓C2,HE,HB,reduceIte,Qb,Qd,Qr,Qt,QE,o]
   all_goals exact Y2
  |false=>
   rw[hn]at c a;simp only[if_false,Qs]at a;simp only[↓C2,HE,HB,reduceIte,Qb,Qd,Qr,Qt,QE,reduceCtorEq,Ae jB 315,c,AE jB 316,a,k];refine aB ⟨by simp only[i];omega,rfl,.inr ⟨XU,U⟩⟩ ?_;simp only[↓C2,HE,HB,reduceIte,Qb,Qd,Qr,Qt,QE,reduceCtorEq];refine A0 ?_;simp only[↓C2,HE,HB,reduceIte,Qb,Qd,Qr,Qt,QE,reduceCtorEq,Ae jB 278,d];refine A0 ?_;simp only[↓C2,HE,HB,reduceIte,Qb,Qd,Qr,Qt,QE,reduceCtorEq,o]
   all_goals exact Y2
 ·have z:(IS s q b cas j=0)=False:=eq_false y;unfold HO at c ⊢;simp only[ne_eq,z,not_false_eq_true,if_true];generalize IS s q b cas j=e at *;simp only[↓C2,HE,HB,reduceIte,Qb,Qd,Qr,reduceCtorEq,Ae jB 315,c,z]
  all_goals exact Y2
def Cy(s:Sc)(q:Int)(j:Int)(cas:Bool):Sc×List Int×Int:=if B5 s q=true∨¬(0<=j∧j<=6)then(s,[],2)else(B9 {s with mx:=j,cas:=cas} q,FM {s with mx:=j,cas:=cas} q,0)
def pZ:=Aq [(58,Ac kJ),(25,Ac Mc),(278,Ac aK0)]
def aLk:=RF pZ aOU [.cell (some 4) 8,.t 9,.t 10] 35
def aWz:Kq aLk 222:=An (Aj func222) (Aa aCw (Aa Sm (Aa aMG Ad)))
def aLj(s:Sc)(q:Int)(b:Bool)(j:Int)(cas:Bool)(hl:s.rs.length<=1000)(r:s.nl=true->s.rs=[]):aLk [.agg (HO s),.agg [.int .i64 q,.bool b],.int .i64 j,.bool cas]=some (.tup [.agg (HO (Cy s q j cas).1),.slice (decide ((Cy s q j cas).2.1=[])) [] (AI (Cy s q j cas).2.1),.int .i64 (Cy s q j cas).2.2]):=by
 refine Am (Qa rfl) ?_;unfold aOU;have z:=Hy s q b hl;have c:∀x a b:Int,kJ [.int .i64 x,.int .i64 a,.int .i64 b]=some (.bool (decide (a<=x∧x<=b))):=λ_ _ _=>rfl
 unfold Cy;unfold Vp at z;cases hb:B5 s q with
 |true=>
  rw[hb]at z;simp only[if_true]at z;unfold HO at z ⊢;simp only[↓C2,HE,HB,reduceIte,Qb,Qd,Qr,reduceCtorEq,Int.reduceEq,Ae pZ 25,z,true_or,if_true]
  all_goals exact Y2
 |false=>
  rw[hb]at z;simp only[if_false,Qs]at z;by_cases c1:0<=j∧j<=6
  ·obtain⟨u,v,y,_⟩:=EM hb;have d:=vJ {s with mx:=j,cas:=cas} q b hl (fJ u c1) r;have f:=gF (s:={s with mx:=j,cas:=cas}) (q:=q);simp only[c1,and_self,not_true_eq_false,or_self,if_false,Qs,f];generalize decide (Br {s with mx:=j,cas:=cas} q=0)=n at d ⊢;generalize FM {s with mx:=j,cas:=cas} q=e at *;generalize B9 {s with mx:=j,cas:=cas} q=g at *;unfold HO at z d ⊢;simp only[↓C2,HE,HB,reduceIte,Qb,Qd,Qr,Qt,QE,reduceCtorEq,Ae pZ 25,z,Ae pZ 58,c,Ae pZ 278,d,c1]
   all_goals exact Y2
  ·unfold HO at z ⊢;simp only[↓C2,HE,HB,reduceIte,Qb,Qd,Qr,reduceCtorEq,Ae pZ 25,z,Ae pZ 58,c,c1,or_true,if_true]
   all_goals exact Y2
def aDV{α:Type}{mk:α->List D}{ok:α->Prop}{res:α->D}{P:Program}{S:HD}{f:FuncId}{N:Nat}{b:DC}{rs:List RV}(g:HD.ok P S)(k:Fn P f N b rs)(q:∀a,(mk a).length<=N)
  (z:∀a,ok a->(res a).calmR=true∧b.wp S [] (Eo rs λd m'=>aXz m' d (res a)) ⟨BQ (mk a),λ_ _=>none,0⟩):(Ac (FX mk ok res)).ok P f:=by
 refine sY g k (λds r h=>?_) (λds r h=>?_)
 ·obtain⟨a,_,rfl,_⟩:=CV h;exact q a
 ·obtain⟨a,x,rfl,rfl⟩:=CV h;exact z a x
def zI{l:List Int}{n:Int}{j:Nat}(z:j<l.length)(p:n=l[j])(f:∀i (h:i<j),n≠l[i]'(by omega)):Bc (l.map λx=>decide (n=x))=j:=by
 unfold Bc;have:(l.map λx=>decide (n=x)).findIdx? id=some j:=by
  rw[Q6];refine⟨Xw,by simp[p],λi hi=>?_⟩;have:=f i hi;simpa using this
 rw[this]
def zG{l:List Int}{n:Int}(s:∀i (h:i<l.length),n≠l[i]):Bc (l.map λx=>decide (n=x))=-1:=by
 unfold Bc;have:(l.map λx=>decide (n=x)).findIdx? id=none:=by
  rw[List.findIdx?_eq_none_iff];intro b f;obtain⟨x,p,rfl⟩:=QL.1 f;obtain⟨i,hi,rfl⟩:=Zp p;simpa using s i hi
 rw[this]
def UB{l:List Int}{j:Nat}(h:j<l.length):(AI l)[j]?=some (.int .i64 l[j]):=by simp[AI,Qi h]
def aJK(l:List Int)(n:Int):Bool:=l.any λx=>decide (n=x)
def nP(l:List Int)(n:Int):decide (0<=Bc (l.map λx=>decide (n=x)))=aJK l n:=by
 rw[Hs,Zt];rfl
def aZk:=Aq []
def aSQ:=RF aZk aNh [.t 4] 19
def aVP:Kq aSQ 343:=An (Aj func343) Ad
def aKy{nl:Bool}{l:List Int}(n:Int)(hl:l.length<=1000):aSQ [.slice nl [] (AI l),.int .i64 n]=some (.int .i64 (Bc (l.map λx=>decide (n=x)))):=by
 refine Am (Qa rfl) ?_;unfold aNh;simp only[↓C2,HH,simprocAttr,Ii];refine BX (n:=l.length) (I:=λj v=>v.s 0= .slice nl [] (AI l)∧v.s 1= .int .i64 n∧v.s 7= .int .i64 l.length∧v.s 8= .int .i64 (j:Int)∧∀i (h:i<j) (y:i<l.length),n≠l[i]) (λj z ih v g hI=>?_) (λv g hI=>?_) 0 (Qu _) _ _ ⟨rfl,rfl,rfl,rfl,λi h=>absurd h (ZB _)⟩
 ·obtain⟨w,t,c⟩:=v;obtain⟨b,u,m,q,f⟩:=hI;simp only at b u m q;refine Af Wj.eq_1 ?_;have d:((j:Int)<l.length):=by omega
  have a:=nJ (j:=j);have k:=wJ (j:=j) O;have o:=UB z;by_cases p:n=l[j]
  ·have e:=zI z p (λi h=>f i h O);have r:(n=l[j])=True:=eq_true p;simp only[↓C2,HE,HB,simprocAttr,b,u,m,q,d,a,Qh,o,r];rw[e]
   all_goals exact Y2
  ·have r:(n=l[j])=False:=eq_false p;simp only[↓C2,HE,HB,simprocAttr,b,u,m,q,d,a,Qh,o,r,k];refine ih _ _ ⟨b,u,m,rfl,λi h y=>?_⟩;rcases Nat.lt_or_eq_of_le (Nat.le_of_lt_succ h)with h|rfl
   ·exact f i h y
   ·exact p
 ·obtain⟨b,u,m,q,f⟩:=hI;refine Af Wj.eq_1 ?_;have e:=zG (λi h=>f i h h);simp only[↓C2,HE,HB,simprocAttr,m,q,Qz];rw[e]
  all_goals exact Y2
def aXA:=Aq [(343,Ac aSQ)]
def TA:=RF aXA aNu [.t 4] 9
def aVX:Kq TA 318:=An (Aj func318) (Aa aVP Ad)
def aKE{nl:Bool}{l:List Int}(n:Int)(hl:l.length<=1000):TA [.slice nl [] (AI l),.int .i64 n]=some (.bool (aJK l n)):=by
 refine Am (Qa rfl) ?_;unfold aNu;have a:=aKy (nl:=nl) n hl;have e:=nP l n;generalize Bc (l.map λx=>decide (n=x))=i at *;simp only[↓C2,HE,HB,simprocAttr,Ae aXA 343,a];rw[←e]
 all_goals exact Y2
def aZB:=Aq []
def TD:=RF aZB aN3 [.cell (some 3) 2] 6
def aWh:Kq TD 280:=An (Aj func280) Ad
def aKZ(r:Rw):TD [.agg [.int .i64 r.1,.bool r.2.1,.bool r.2.2]]=some (.agg [.int .i64 r.1,.bool true,.bool false]):=by
 refine Am (Qa rfl) ?_;unfold aN3;simp only[↓C2,HE,HB,simprocAttr]
 all_goals exact Y2
def aZA:=Aq []
def TC:=RF aZA aN2 [.cell (some 3) 2] 6
def aWg:Kq TC 281:=An (Aj func281) Ad
def aKY(r:Rw):TC [.agg [.int .i64 r.1,.bool r.2.1,.bool r.2.2]]=some (.agg [.int .i64 r.1,.bool false,.bool false]):=by
 refine Am (Qa rfl) ?_;unfold aN2;simp only[↓C2,HE,HB,simprocAttr]
 all_goals exact Y2
def aZz:=Aq []
def TB:=RF aZz aN1 [.cell (some 3) 2] 6
def aWf:Kq TB 282:=An (Aj func282) Ad
def aKX(r:Rw):TB [.agg [.int .i64 r.1,.bool r.2.1,.bool r.2.2]]=some (.agg [.int .i64 r.1,.bool false,.bool true]):=by
 refine Am (Qa rfl) ?_;unfold aN1;simp only[↓C2,HE,HB,simprocAttr]
 all_goals exact Y2
def oY(k:Nat)(r:Rw):Rw:=if k=280 then(r.1,true,false)else if k=281 then(r.1,false,false)else(r.1,false,true)
def Hp(ns:List Int)(n j:Nat)(x:Rw):Bool:=(aJK ns x.1||(ns.isEmpty&&decide (j+1=n)))&&!x.2.2
def D9(ns:List Int)(k n:Nat):Nat->List Rw->List Rw
 |_,[]=>[]
 |j,x::r=>(if Hp ns n j x=true then oY k x else x)::D9 ns k n (j+1) r
def CM(ns:List Int)(n:Nat):Nat->List Rw->List Int
 |_,[]=>[]
 |j,x::r=>if Hp ns n j x=true then x.1::CM ns n (j+1) r else CM ns n (j+1) r
theorem Of(ns:List Int)(k n:Nat):∀(l:List Rw)(j:Nat),(D9 ns k n j l).length=l.length
 |[],_=>rfl
 |x::r,j=>by simp[D9,Of ns k n r]
def Bj(s:Sc)(ns:List Int)(k:Nat):Sc×List Int×Int:=if B5 s 6=true then(s,[],2)else if s.rs=[]then(s,[],6)else({s with rs:=D9 ns k s.rs.length 0 s.rs},CM ns s.rs.length 0 s.rs,0)
def mM(p:Sc×Bool×List Int×Nat):List D:=[.agg (HO p.1),.slice p.2.1 [] (AI p.2.2.1),.fn p.2.2.2 []]
def aBT{a b:List Rw}(h:Bd a=Bd b):a=b:=(Zd (λx y e=>by
 simp only[rwD,D.agg.injEq,Qc,D.int.injEq,D.bool.injEq,true_and,and_true]at e;exact QU e.1 (QU e.2.1 e.2.2))).1 h
theorem aIt{a b:Sc}(h:HO a=HO b):a=b:=by
 cases a;cases b;simp only[HO,Qc,D.int.injEq,D.bool.injEq,D.slice.injEq,true_and,and_true]at h;obtain⟨u,y,o,j,p⟩:=h;have:=aBT p;subst u y o j this;rfl
theorem nH{a b:List Int}(h:AI a=AI b):a=b:=(Zd (λx y e=>by simpa using e)).1 h
def aCK(x y:Sc×Bool×List Int×Nat)(e:mM x=mM y):x=y:=by
 grind [mM,aIt,nH]
def Uf(p:Sc×Bool×List Int×Nat):D:= .tup [.agg (HO (Bj p.1 p.2.2.1 p.2.2.2).1),.slice (decide ((Bj p.1 p.2.2.1 p.2.2.2).2.1=[])) [] (AI (Bj p.1 p.2.2.1 p.2.2.2).2.1),.int .i64 (Bj p.1 p.2.2.1 p.2.2.2).2.2]
structure aXy (p:Sc×Bool×List Int×Nat):Prop where
 hl:p.1.rs.length<=1000
 hn:p.1.nl=true->p.1.rs=[]
 hs:p.2.2.1.length<=1000
 hk:p.2.2.2=280∨p.2.2.2=281∨p.2.2.2=282
def aHv:List D->Option D:=FX mM aXy Uf
def OW:List D->Option (List D):=λds=>match ds with|[.slice false _ xs]=>if xs.length<=100000∧aF xs 3=3∧(flat xs).all D.plain=true then some xs else none|_=>none
def aQz:(La OW).ok Qe 316:=by
 unfold OW;refine aCo (S:=λ_=>none) Ba aDZ (λds r h=>?_) (λds xs h=>?_)
 ·grind
 ·grind [gZ,HF.put]
def T8(l:List Rw):(flat (Bd l)).all D.plain=true:=by
 rw[QT];induction l with
 |nil=>intro x p;cases p
 |cons y r ih=>
  intro x p;have w:x∈[D.int .i64 y.1,.bool y.2.1,.bool y.2.2]++flat (Bd r):=p;rcases Zm.1 w with h|h
  ·simp only[QO,QV,or_false]at h;rcases h with rfl|rfl|rfl<;>rfl
  ·exact ih x h
def aQy{l:List Rw}{t:Id}{m:HF}{fr:Id}(h:l.length<=1000):(La OW).ex [.slice false t (Bd l)] m fr=some (.row fr l.length,[(fr,0,flat (Bd l))]):=by
 have e:OW [.slice false [] ((Bd l).map D.un)]=some (Bd l):=by
  have:(Bd l).map D.un=Bd l:=by rw[Bd,QR];exact Q3 λ_ _=>rfl
  rw[this];exact if_pos ⟨XJ,LQ l,T8 l⟩
 have n:OW ([D.slice false t (Bd l)].map D.un)=some (Bd l):=if_pos ⟨XJ,LQ l,T8 l⟩;simp only[La];refine(if_pos rfl).trans ?_;rw[n,Qv,AS]
def Gz(m:HF)(i:Id)(l:List Rw):Prop:=∀k x,l[k]?=some x->Ag m i (k*3) 3=some [.int .i64 x.1,.bool x.2.1,.bool x.2.2]
def Ti{m:HF}{i:Id}{o:Nat}{a b c:D}:Ag m i o 3=some [a,b,c]↔(m i o=some a∧m i (o+1)=some b∧m i (o+2)=some c):=by
 simp only[Ag];cases m i o<;>cases m i (o+1)<;>cases m i (o+1+1)<;>simp
def bG{m:HF}{i:Id}:∀{l:List Rw} {p:Nat},(∀k x,l[k]?=some x->Ag m i (p+k*3) 3=some [.int .i64 x.1,.bool x.2.1,.bool x.2.2])->∀(j:Nat) d,(flat (Bd l))[j]?=some d->m i (p+j)=some d
 |[],p,_,j,d,h=>by simp[Bd,Vd.flat]at h
 |x::r,p,hr,j,d,h=>by
  have c:([D.int .i64 x.1,.bool x.2.1,.bool x.2.2]++Vd.flat (Bd r))[j]?=some d:=h;obtain⟨a,a1,f⟩:=Ti.1 (hr 0 x rfl);simp only[Nat.zero_mul,Za]at a a1 f
  match j,c with
  |0,c=>simp only[Q0,Qo,Ql]at c;subst c;exact a
  |1,c=>simp only[Q0,Qw,Qo,Ql]at c;subst c;exact a1
  |2,c=>simp only[Q0,Qw,Qo,Ql]at c;subst c;exact f
  |j+3,c=>
   have:=bG (p:=p+3) (l:=r) (λk y g=>by
    have:=hr (k+1) y XN;rw[show p+(k+1)*3=p+3+k*3 by omega]at this;exact this) j d XO
   rw[show p+3+j=p+(j+3)by omega]at this;exact this
def Gz.of{m:HF}{i:Id}:∀{l:List Rw} {p:Nat},(∀(j:Nat) d,(flat (Bd l))[j]?=some d->m i (p+j)=some d)->∀k x,l[k]?=some x->Ag m i (p+k*3) 3=some [.int .i64 x.1,.bool x.2.1,.bool x.2.2]
 |[],p,_,k,x,h=>Xd
 |y::r,p,hr,k,x,h=>by
  match k,h with
  |0,h=>
   simp only[Qo,Ql]at h;subst h;exact Ti.2 ⟨by simpa using hr 0 _ rfl,by simpa using hr 1 _ rfl,by simpa using hr 2 _ rfl⟩
  |k+1,h=>
   have:=Gz.of (p:=p+3) (l:=r) (λj d z=>by
    have:=hr (j+3) d z;rw[show p+(j+3)=p+3+j by omega]at this;exact this) k x Xr
   rw[show p+3+k*3=p+(k+1)*3 by omega]at this;exact this
def Gz.set{m:HF}{i:Id}{A B:List Rw}{x y:Rw}(h:Gz m i (A++x::B)):Gz (m.put i (A.length*3) [.int .i64 y.1,.bool y.2.1,.bool y.2.2]) i (A++y::B):=by
 intro k z d;by_cases g:k=A.length
 ·subst g;rw[Ze (QB _),Zu,Qo,Ql]at d;subst d;refine Ti.2 ⟨?_,?_,?_⟩<;>simp[HF.put]
 ·have t:(A++x::B)[k]?=some z:=by
   rcases Nat.lt_or_gt_of_ne g with h1|h1
   ·grind
   ·grind
  obtain⟨a,a1,f⟩:=Ti.1 (h k z t);have v:∀o,(o=k*3∨o=k*3+1∨o=k*3+2)->(m.put i (A.length*3) [.int .i64 y.1,.bool y.2.1,.bool y.2.2]) i o=m i o:=λo v=>by
   refine aD ?_;simp only[Qg,Qm];omega
  exact Ti.2 ⟨by rw[v _ (.inl rfl)];exact a,by rw[v _ (.inr (.inl rfl))];exact a1,by rw[v _ (.inr (.inr rfl))];exact f⟩
def Gz.other{m:HF}{i j:Id}{o:Nat}{ds:List D}{l:List Rw}(h:Gz m i l)(p:i≠j):Gz (m.put j o ds) i l:=λk x g=>by
 obtain⟨a,a1,f⟩:=Ti.1 (h k x g);exact Ti.2 ⟨by rw[aA p];exact a,by rw[aA p];exact a1,by rw[aA p];exact f⟩
def Gz.grow{m:HF}{i f t:Id}{e:Nat}{nl:Bool}{xs:List D}{l:List Rw}(h:Gz m i l)(u:i≠f)(y:nl=false->i≠t):Gz (HN.app m (Bm e f (.slice nl t xs))) i l:=by
 cases nl with
 |true=>exact h.other u
 |false=>exact(h.other (y rfl)).other u
def LG.row{b e c r o:Nat}{m0 m:HF}{nl:Bool}{t:Id}{ds:List D}(h:LG b m0 e m c nl t)(i:b<=r)(s:nl=false->t≠[r]):LG b m0 e (m.put [r] o ds) c nl t:=by
 obtain⟨u,y,v⟩:=h;refine⟨λq o' z=>?_,?_,v⟩
 ·grind [aA]
 ·grind [aA]
def lV{m:HF}{i:Id}{o:Nat}{a b c:D}(h:Ag m i o 3=some [a,b,c]):m i o=some a∧m i (o+1)=some b∧m i (o+1+1)=some c:=Ti.1 h
def aQn{i:Id}{n:Nat}:D.data (.row i n)=true:=rfl
def aQo{i:Id}{n:Nat}:D.cells (.row i n)=[.row i n]:=rfl
def aCu:Kq aHv 279:=by
 have hS:HD.ok Qe (Aq [(25,Ac Mc),(273,Ac S0),(316,La OW),(318,Ac TA),(280,Ac TD),(281,Ac TC),(282,Ac TB)]):=Aa Sm (Aa aMI (Aa aQz (Aa aVX (Aa aWh (Aa aWg (Aa aWf Ad))))));have o:Aq [(25,Ac Mc),(273,Ac S0),(316,La OW),(318,Ac TA),(280,Ac TD),(281,Ac TC),(282,Ac TB)] 25=some (Ac Mc):=rfl;have v:Aq [(25,Ac Mc),(273,Ac S0),(316,La OW),(318,Ac TA),(280,Ac TD),(281,Ac TC),(282,Ac TB)] 273=some (Ac S0):=rfl;have ca:Aq [(25,Ac Mc),(273,Ac S0),(316,La OW),(318,Ac TA),(280,Ac TD),(281,Ac TC),(282,Ac TB)] 316=some (La OW):=rfl;have b:Aq [(25,Ac Mc),(273,Ac S0),(316,La OW),(318,Ac TA),(280,Ac TD),(281,Ac TC),(282,Ac TB)] 318=some (Ac TA):=rfl;have sk:∀k,k=280∨k=281∨k=282->∃F,Aq [(25,Ac Mc),(273,Ac S0),(316,La OW),(318,Ac TA),(280,Ac TD),(281,Ac TC),(282,Ac TB)] k=some (Ac F)∧∀x:Rw,F [.agg [.int .i64 x.1,.bool x.2.1,.bool x.2.2]]=some (.agg [.int .i64 (oY k x).1,.bool (oY k x).2.1,.bool (oY k x).2.2]):=λk hk=>by
  rcases hk with rfl|rfl|rfl
  ·exact⟨TD,rfl,aKZ⟩
  ·exact⟨TC,rfl,aKY⟩
  ·exact⟨TB,rfl,aKX⟩
 generalize Aq [(25,Ac Mc),(273,Ac S0),(316,La OW),(318,Ac TA),(280,Ac TD),(281,Ac TC),(282,Ac TB)]=S at hS o v ca b sk;refine aDV hS (Aj func279:Fn Qe 279 72 aN4 [.cell (some 4) 6,.t 7,.t 8]) (λ_=>by simp[mM]) (λp hp=>⟨by rfl,?_⟩);obtain⟨s,bn,ns,k⟩:=p;obtain⟨hl,hn,hs,hk⟩:=hp;simp only at hl hn hs hk;obtain⟨F,sF,hF⟩:=sk k hk;have aa:=Hy s 6 false hl;have q:=vL;unfold aN4 mM Uf Bj;simp only;unfold Vp at aa;cases hb:B5 s 6 with
 |true=>
  rw[hb]at aa;simp only[if_true]at aa ⊢;unfold HO at aa ⊢;simp only[↓C2,HE,HB,simprocAttr,Ab o,aa,Ab v,q];refine A0 ?_;simp only[↓C2,HE,HB,simprocAttr];exact .inr ⟨_,_,rfl,rfl,.inl (.inl rfl),.inl (.inl rfl),.inl (.inl rfl),trivial⟩
 |false=>
  rw[hb]at aa;simp only[if_false,Qs]at aa ⊢;by_cases hz:s.rs=[]
  ·have sa:((s.rs.length:Int)=0)=True:=eq_true (by rw[hz];rfl);simp only[if_pos hz];unfold HO at aa ⊢;simp only[↓C2,HE,HB,simprocAttr,Ab o,aa,Ab v,q];refine A0 ?_;simp only[↓C2,HE,HB,simprocAttr,AS,sa];exact .inr ⟨_,_,rfl,rfl,.inl (.inl rfl),.inl (.inl rfl),.inl (.inl rfl),trivial⟩
  ·have va:0<s.rs.length:=by
    rcases Nat.eq_zero_or_pos s.rs.length with h|h
    ·simp_all
    ·exact h
   have sa:((s.rs.length:Int)=0)=False:=eq_false O;have xa:s.nl=false:=by
    simp_all
   have ka:=λ(m:HF)(fr:Id)=>aQy (l:=s.rs) (t:=[]) (m:=m) (fr:=fr) hl
   simp only[if_neg hz];unfold HO at aa ⊢;simp only[xa]at aa ⊢;simp only[↓C2,HE,HB,simprocAttr,Ab o,aa,Ab v,q];refine A0 ?_;simp only[↓C2,HE,HB,simprocAttr,AS,sa,AH ca,ka];have na:Gz (HF.put (λ_ _=>none) [14] 0 (flat (Bd s.rs))) [14] s.rs:=λk x hk=>by
    have:=Gz.of (m:=HF.put (λ_ _=>none) [14] 0 (flat (Bd s.rs))) (i:=[14]) (p:=0) (l:=s.rs) (λj d hj=>by
     have fa:=(QQ.1 hj).1;rw[aE fa,hj]) k x hk
    rwa [Qp]at this
   refine BX (n:=s.rs.length) (I:=λj st=>st.s 27= .row [14] s.rs.length∧st.s 28= .int .i64 s.rs.length∧st.s 29= .int .i64 (j:Int)∧st.s 9= .row [14] s.rs.length∧st.s 1= .slice bn [] (AI ns)∧st.s 2= .fn k []∧st.s 3= .ptr [0] 0∧st.s 6= .ptr [1] 0∧∃A B nl t,A.length=j∧A++D9 ns k s.rs.length j (s.rs.drop j)=D9 ns k s.rs.length 0 s.rs∧B++CM ns s.rs.length j (s.rs.drop j)=CM ns s.rs.length 0 s.rs∧st.s 10= .slice nl t (AI B)∧nl=decide (B=[])∧Gz st.m [14] (A++s.rs.drop j)∧15<=st.c∧(nl=false->t≠[14])∧LG 14 _ 3 st.m st.c nl t) (λj hj ih st g hI=>?_) (λst g hI=>?_) 0 (Qu _) _ _ ⟨rfl,rfl,rfl,rfl,rfl,rfl,rfl,rfl,[],[],true,[],rfl,rfl,rfl,rfl,rfl,?_,Xa,U,LG.start Xa⟩
   rotate_left 2
   ·intro k x hk;obtain⟨a0,a1,a2⟩:=Ti.1 (na k x hk);have ua:k*3+2<(flat (Bd s.rs)).length:=by
     grind [flat,Bd,aD]
    refine Ti.2 ⟨?_,?_,?_⟩
    ·rw[←a0];simp[HF.put]
    ·rw[←a1];simp[HF.put]
    ·rw[←a2];simp[HF.put]
   ·obtain⟨ma,ia,da⟩:=st;obtain⟨ha,f,u,h9,h1,h2,h3,h6,A,B,nl,t,w,hA,hB,la,pa,hR,hc,ht,hG⟩:=hI;simp only at ha f u h9 h1 h2 h3 h6 la hR hc hG;refine Af Wp.eq_1 ?_;have ea:((j:Int)<s.rs.length):=by omega
    have oa:=nJ (j:=j);have ra:((j:Int)<((s.rs.length:Nat):Int)):=O
    have hw:=wJ (j:=j) O;have ta:IntKind.i64.wrap ((s.rs.length:Int)-1)=(s.rs.length:Int)-1:=H9 O O;have hd:s.rs.drop j=s.rs[j]::s.rs.drop (j+1):=QJ hj;rw[hd]at hA hB hR;generalize s.rs[j]=x at hA hB hR;have ba:Ag ia [14] (j*3) 3=some [.int .i64 x.1,.bool x.2.1,.bool x.2.2]:=hR j x (by rw[Ze O,w,Zu];rfl);have a:=aKE (nl:=bn) (l:=ns) x.1 hs;have za:(AI B).length<=100000:=by
     have h1:=congrArg ZI hB;have h2:∀(l:List Rw)(j:Nat),(CM ns s.rs.length j l).length<=l.length:=λl=>by
      induction l with
      |nil=>intro j;simp[CM]
      |cons y r ih=>intro j;unfold CM;split<;>have:=ih (j+1)<;>simp only[Qg]<;>omega
     have h3:=h2 s.rs 0;rw[Qq]at h1;rw[Ii];omega
    have bb:B.length<=100000:=by rw[←Ii];exact za
    have ja:nl=true->AI B=[]:=by rw[pa];intro h;rw[of_decide_eq_true h];rfl
    have e1:D9 ns k s.rs.length j (x::s.rs.drop (j+1))=(if Hp ns s.rs.length j x=true then oY k x else x)::D9 ns k s.rs.length (j+1) (s.rs.drop (j+1)):=rfl;have e2:CM ns s.rs.length j (x::s.rs.drop (j+1))=if Hp ns s.rs.length j x=true then x.1::CM ns s.rs.length (j+1) (s.rs.drop (j+1))else CM ns s.rs.length (j+1) (s.rs.drop (j+1)):=rfl
    have qa:AI (B++[x.1])=AI B++[.int .i64 x.1]:=by simp[AI]
    have ab:=hF x;subst w;generalize z:aJK ns x.1=cb at a;have h0:((ns.length:Int)=0)=(ns.isEmpty=true):=by cases ns<;>simp<;>omega
    have wa:(14=da+1+3)=False:=eq_false O;have ga:(da=10)=False:=eq_false O;have ya:((A.length:Int)=(s.rs.length:Int)-1)=(A.length+1=s.rs.length):=propext O;cases cb with
    |true=>
     cases hxd:x.2.2 with
     |true=>
      rw[hxd]at ba;obtain⟨a0,a1,a2⟩:=lV ba;have hh:Hp ns s.rs.length A.length x=false:=by simp[Hp,z,hxd]
      rw[hh,if_neg QK]at e1 e2;simp only[↓C2,HE,HB,simprocAttr,ha,f,u,h1,ea,oa,Qh,a0,a1,a2,Ab b,a,hw];refine ih _ _ ⟨ha,f,rfl,h9,h1,h2,h3,h6,A++[x],B,nl,t,U,XH,X1,la,pa,?_,Xa,ht,X8⟩;rw[QH];exact(hR.other Xe).other Xe
     |false=>
      rw[hxd]at ba;obtain⟨a0,a1,a2⟩:=lV ba;rw[hxd]at ab;have hh:Hp ns s.rs.length A.length x=true:=by simp[Hp,z,hxd]
      rw[if_pos hh]at e1 e2;simp only[↓C2,HE,HB,simprocAttr,ha,f,u,h9,h1,h2,la,ea,oa,Qh,a0,a1,a2,wa,ga,Ab b,a,Ii,Ab sF,ab];refine aB ⟨O,rfl,YW⟩ ?_;rw[BF ja,←qa];simp only[↓C2,HH,simprocAttr,u,hw];refine ih _ _ ⟨ha,f,rfl,h9,h1,h2,h3,h6,A++[oY k x],B++[x.1],false,_,U,XH,by rw[←hB,e2];simp,rfl,U,?_,Xa,Xe,YX⟩;rw[QH]
      first|exact(Gz.set ((hR.other Xe).other Xe)).grow Xe (λh e=>ht h e.symm)|exact((Gz.set ((hR.other Xe).other Xe)).other Xe).grow Xe (λh e=>ht h e.symm)
    |false=>
     cases hle:ns.isEmpty with
     |false=>
      rw[hle]at h0;obtain⟨a0,a1,a2⟩:=lV ba;have hh:Hp ns s.rs.length A.length x=false:=by simp[Hp,z,hle]
      rw[hh,if_neg QK]at e1 e2;simp only[↓C2,HE,HB,simprocAttr,ha,f,u,h1,ea,oa,Qh,a0,a1,a2,Ab b,a,Ii,h0,hw];refine ih _ _ ⟨ha,f,rfl,h9,h1,h2,h3,h6,A++[x],B,nl,t,U,XH,X1,la,pa,?_,Xa,ht,X8⟩;rw[QH];exact(hR.other Xe).other Xe
     |true=>
      rw[hle]at h0;by_cases fa:A.length+1=s.rs.length
      ·rw[eq_true fa]at ya;cases hxd:x.2.2 with
       |true=>
        rw[hxd]at ba;obtain⟨a0,a1,a2⟩:=lV ba;have hh:Hp ns s.rs.length A.length x=false:=by simp[Hp,z,hle,fa,hxd]
        rw[hh,if_neg QK]at e1 e2;simp only[↓C2,HE,HB,simprocAttr,ha,f,u,h9,h1,ea,oa,Qh,a0,a1,a2,Ab b,a,Ii,h0,ta,ya,hw];refine ih _ _ ⟨ha,f,rfl,h9,h1,h2,h3,h6,A++[x],B,nl,t,U,XH,X1,la,pa,?_,Xa,ht,X8⟩;rw[QH];exact(hR.other Xe).other Xe
       |false=>
        rw[hxd]at ba;obtain⟨a0,a1,a2⟩:=lV ba;rw[hxd]at ab;have hh:Hp ns s.rs.length A.length x=true:=by simp[Hp,z,hle,fa,hxd]
        rw[if_pos hh]at e1 e2;simp only[↓C2,HE,HB,simprocAttr,ha,f,u,h9,h1,h2,la,ea,oa,Qh,a0,a1,a2,wa,ga,Ab b,a,Ii,Ab sF,ab,h0,ta,ya];refine aB ⟨O,rfl,YW⟩ ?_;rw[BF ja,←qa];simp only[↓C2,HH,simprocAttr,u,hw];refine ih _ _ ⟨ha,f,rfl,h9,h1,h2,h3,h6,A++[oY k x],B++[x.1],false,_,U,XH,by rw[←hB,e2];simp,rfl,U,?_,Xa,Xe,YX⟩;rw[QH]
        first|exact(Gz.set ((hR.other Xe).other Xe)).grow Xe (λh e=>ht h e.symm)|exact((Gz.set ((hR.other Xe).other Xe)).other Xe).grow Xe (λh e=>ht h e.symm)
      ·rw[eq_false fa]at ya;obtain⟨a0,a1,a2⟩:=lV ba;have hh:Hp ns s.rs.length A.length x=false:=by simp[Hp,z,hle,fa]
       rw[hh,if_neg QK]at e1 e2;simp only[↓C2,HE,HB,simprocAttr,ha,f,u,h9,h1,ea,oa,Qh,a0,a1,a2,Ab b,a,Ii,h0,ta,ya,hw];refine ih _ _ ⟨ha,f,rfl,h9,h1,h2,h3,h6,A++[x],B,nl,t,U,XH,X1,la,pa,?_,Xa,ht,X8⟩;rw[QH];exact(hR.other Xe).other Xe
   ·obtain⟨ma,ia,da⟩:=st;obtain⟨ha,f,u,h9,h1,h2,h3,h6,A,B,nl,t,w,hA,hB,la,pa,hR,hc,ht,hG⟩:=hI;simp only at ha f u h9 h1 h2 h3 h6 la hR hc hG;refine Af Wp.eq_1 ?_;have m0:∀k,ia [0] k=_:=λk=>hG.low 0 k O
    have m1:∀k,ia [1] k=_:=λk=>hG.low 1 k O
    rw[Q1,D9,QI]at hA;rw[Q1,CM,QI]at hB;rw[Q1,QI,hA]at hR;subst pa hB;simp only[↓C2,HE,HB,simprocAttr,f,u,h9,la,h3,h6,Qz,m0,m1,aQn,aQo];refine .inr ⟨_,_,rfl,rfl,.inr ⟨_,_,rfl,rfl,.inl rfl,.inl rfl,.inl rfl,.inr (.inl ⟨[14],Bd (D9 ns k s.rs.length 0 s.rs),3,?_,rfl,?_,?_⟩),trivial⟩,.inl (.inl rfl),.inl (.inl rfl),trivial⟩
    ·rw[AS,Of]
    ·intro x hx;obtain⟨y,_,rfl⟩:=QL.1 hx;exact⟨rfl,rfl⟩
    ·intro j x hx;have:=bG (m:=ia) (i:=[14]) (p:=0) (l:=D9 ns k s.rs.length 0 s.rs) (λk x hk=>by rw[Qp];exact hR k x hk) j x hx;rw[Qp]at this;rw[←this];simp[HF.put]
def bO(s:Sc)(y:Bool)(ns:List Int)(k:Nat)(h:aXy (s,y,ns,k)):aHv [.agg (HO s),.slice y [] (AI ns),.fn k []]=some (Uf (s,y,ns,k)):=Ca (mk:=mM) (a:=(s,y,ns,k)) aCK h
def aXO:=Aq [(279,Ac aHv)]
def aLi:=RF aXO aOS [.cell (some 4) 4,.t 5] 18
def aWv:Kq aLi 226:=An (Aj func226) (Aa aCu Ad)
def aLh(s:Sc)(y:Bool)(ns:List Int)(hl:s.rs.length<=1000)(w:s.nl=true->s.rs=[])(j:ns.length<=1000):aLi [.agg (HO s),.slice y [] (AI ns)]=some (.tup [.agg (HO (Bj s ns 280).1),.int .i64 (Bj s ns 280).2.2]):=by
 refine Am (Qa rfl) ?_;unfold aOS;have a:=bO s y ns 280 ⟨hl,w,j,U⟩;unfold Uf at a;simp only at a;generalize Bj s ns 280=r at *;unfold HO at *;simp only[↓C2,HE,HB,simprocAttr,Ae aXO 279,a]
 all_goals exact Y2
def aXN:=Aq [(279,Ac aHv)]
def aLg:=RF aXN aOR [.cell (some 4) 4,.t 5] 18
def aWu:Kq aLg 227:=An (Aj func227) (Aa aCu Ad)
def aLf(s:Sc)(y:Bool)(ns:List Int)(hl:s.rs.length<=1000)(w:s.nl=true->s.rs=[])(j:ns.length<=1000):aLg [.agg (HO s),.slice y [] (AI ns)]=some (.tup [.agg (HO (Bj s ns 281).1),.int .i64 (Bj s ns 281).2.2]):=by
 refine Am (Qa rfl) ?_;unfold aOR;have a:=bO s y ns 281 ⟨hl,w,j,U⟩;unfold Uf at a;simp only at a;generalize Bj s ns 281=r at *;unfold HO at *;simp only[↓C2,HE,HB,simprocAttr,Ae aXN 279,a]
 all_goals exact Y2
def aXM:=Aq [(279,Ac aHv)]
def aLe:=RF aXM aOQ [.cell (some 4) 4,.t 5,.t 6] 13
def aWt:Kq aLe 228:=An (Aj func228) (Aa aCu Ad)
def aLd(s:Sc)(y:Bool)(ns:List Int)(hl:s.rs.length<=1000)(w:s.nl=true->s.rs=[])(j:ns.length<=1000):aLe [.agg (HO s),.slice y [] (AI ns)]=some (.tup [.agg (HO (Bj s ns 282).1),.slice (decide ((Bj s ns 282).2.1=[])) [] (AI (Bj s ns 282).2.1),.int .i64 (Bj s ns 282).2.2]):=by
 refine Am (Qa rfl) ?_;unfold aOQ;have a:=bO s y ns 282 ⟨hl,w,j,U⟩;unfold Uf at a;simp only at a;generalize Bj s ns 282=r at *;unfold HO at *;simp only[↓C2,HE,HB,simprocAttr,Ae aXM 279,a]
 all_goals exact Y2
def D_(b:Bool):Int:=if b=true then 1 else 0
def iG(l:List Int):List D:=l.map (.int .u8)
def OV(l:List Int):Bs:=l.map λn=>UInt8.ofNat n.toNat
def aFC(l:List Int):(iG l).length=l.length:=Qy ..
def uU:∀l:List Int,BO (iG l)=some (OV l)
 |[]=>rfl
 |n::r=>by
  show(BO (iG r)).map _=_;rw[uU r];rfl
def lQ(x:Rw):List Int:=[IntKind.u8.wrap x.1,bits .or .u8 (D_ x.2.1) (IntKind.u8.wrap (D_ x.2.2*2))]
def FY:List Rw->List Int
 |[]=>[]
 |x::r=>lQ x++FY r
theorem rowsI_len:∀l:List Rw,(FY l).length=2*l.length
 |[]=>rfl
 |x::r=>by simp[FY,lQ,rowsI_len r];omega
def B1(s:Sc):Bs:=if B5 s 6=true then []else OV ([IntKind.u8.wrap s.mx,D_ s.cas,IntKind.u8.wrap s.la,IntKind.u8.wrap s.rs.length]++FY s.rs)
def aMd(s:Sc):Int:=if B5 s 6=true then 2 else 0
def aZl:=Aq []
def aSR:=RF aZl aNi [.t 2] 4
def aVQ:Kq aSR 342:=An (Aj func342) Ad
def aKz(b:Bool):aSR [.bool b]=some (.int .u8 (D_ b)):=by
 refine Am (Qa rfl) ?_;unfold aNi;cases b with
 |true=>
  simp only[↓C2,HH,Iz,HB,simprocAttr]
  all_goals exact Y2
 |false=>
  simp only[↓C2,HH,Iz,HB,simprocAttr]
  all_goals exact Y2
def pX:=Aq [(25,Ac Mc),(57,Ac aKI),(342,Ac aSR)]
def aSW:=RF pX aNv [.t 2,.t 3] 49
def aVY:Kq aSW 317:=An (Aj func317) (Aa Sm (Aa aMC (Aa aVQ Ad)))
def aKF(s:Sc)(hl:s.rs.length<=1000):aSW [.agg (HO s)]=some (.tup [.str (B1 s),.int .i64 (aMd s)]):=by
 refine Am (Qa rfl) ?_;unfold aNv;have z:=Hy s 6 false hl;have i:=vF;have d:=aKz;unfold B1 aMd;unfold Vp at z;unfold HO at *;cases hb:B5 s 6 with
 |true=>
  rw[hb]at z;simp only[if_true]at z;simp only[↓C2,HE,HB,simprocAttr,Ae pX 25,z,Ae pX 57,i];refine A0 ?_;simp only[↓C2,HE,HB,simprocAttr]
  all_goals exact Y2
 |false=>
  rw[hb]at z;simp only[if_false,Qs]at z;simp only[↓C2,HE,HB,simprocAttr,Ae pX 25,z,Ae pX 57,i];refine A0 ?_;simp only[↓C2,HE,HB,simprocAttr,Ae pX 342,d,AS];refine A0 ?_;simp only[↓C2,HE,HB,simprocAttr,AS];refine BX (n:=s.rs.length) (I:=λj v=>v.s 26= .slice s.nl [] (Bd s.rs)∧v.s 27= .int .i64 s.rs.length∧v.s 28= .int .i64 (j:Int)∧∃B t,B.length=4+2*j∧B++FY (s.rs.drop j)=[IntKind.u8.wrap s.mx,D_ s.cas,IntKind.u8.wrap s.la,IntKind.u8.wrap s.rs.length]++FY s.rs∧v.s 4= .slice false t (iG B)∧LG 1 _ 5 v.m v.c false t) (λj u ih v g hI=>?_) (λv g hI=>?_) 0 (Qu _) _ _ ⟨rfl,rfl,rfl,_,_,rfl,rfl,rfl,⟨λ_ _ _=>rfl,.inr ⟨_,rfl,O,Xa,by simp[HF.put,HN.app]⟩,Xa⟩⟩
  ·obtain⟨ma,y,da⟩:=v;obtain⟨b,r,f,B,t,za,hB,h4,q⟩:=hI;simp only at b r f h4 q;refine Af Wl.eq_1 ?_;have k:((j:Int)<s.rs.length):=by omega
   have oa:=nJ (j:=j);have p:=wJ (j:=j) O;have e:=FV u;have o:s.rs.drop j=s.rs[j]::s.rs.drop (j+1):=QJ u;rw[o]at hB;generalize s.rs[j]=x at e hB;have qa:iG B++[.int .u8 (IntKind.u8.wrap x.1),.int .u8 (bits .or .u8 (D_ x.2.1) (IntKind.u8.wrap (D_ x.2.2*2)))]=iG (B++lQ x):=by simp[iG,lQ]
   have w:∀a:Int,AP .shl (.int .u8 a) (.int .u64 1)=some (.int .u8 (IntKind.u8.wrap (a*2))):=λa=>rfl
   have ja:(iG B).length=4+2*j:=by rw[aFC];exact za
   simp only[↓C2,HE,HB,simprocAttr,b,r,f,h4,k,oa,Qh,e,Ae pX 342,d,w];refine aB ⟨by simp only[ja];omega,rfl,(by first|exact q.grow|exact q.put.grow|exact q.put.put.grow|exact q.put.put.put.grow|exact q.put.put.put.put.grow|exact q.put.put.put.put.put.grow)⟩ ?_;rw[qa];simp only[↓C2,HE,HB,simprocAttr];refine A0 ?_;simp only[↓C2,HH,simprocAttr,f,p];exact ih _ _ ⟨b,r,rfl,_,_,by rw[Qq,za];simp[lQ];omega,by rw[←hB,FY,QH],rfl,(by first|exact LG.nil (q.appf O Xa)|exact LG.nil (q.put.appf O Xa)|exact LG.nil (q.put.put.appf O Xa)|exact LG.nil (q.put.put.put.appf O Xa)|exact LG.nil (q.put.put.put.put.appf O Xa)|exact LG.nil (q.put.put.put.put.put.appf O Xa))⟩
  ·obtain⟨b,r,f,B,t,za,hB,h4,q⟩:=hI;refine Af Wl.eq_1 ?_;rw[Q1,FY,QI]at hB;subst hB;simp only[↓C2,HE,HB,simprocAttr,r,f,h4,Qz,uU]
   all_goals exact Y2
def aNk:=y0 f111 [] []
def aNj:=y0 f112 [] []
def aEp:=y0 f175 [] []
def aNf:=y0 f176 [] []
def L3:=y1 f110 9 [] []
def aEq:=y0 f110 [] [(9,L3)]
def aEr:=y0 f55 [] []
def aNz:=y0 f56 [] []
def Ws:=y1 f24 7 [] []
def aOd:=y0 f24 [(15,[(7,6)])] [(7,Ws)]
def Wn:=y1 f179 4 [] []
def aNT:=y0 f179 [] [(4,Wn)]
def Wk:=y1 f244 4 [] []
def aNo:=y0 f244 [] [(4,Wk)]
def aNS:=y0 f180 [] []
def aOH:=y0 f116 [] []
def aOG:=y0 f117 [] []
def II(s:Bs)(p:Nat)(e:Int):List D:=[.str s,.int .i64 (p:Int),.int .i64 e]
def or0:∀n:Fin 256,bits .or .u64 0 ((n.val:Nat):Int)=n.val:=V
def aYz(x:UInt8):bits .or .u64 0 (x.toNat:Int)=x.toNat:=or0 ⟨x.toNat,x.toNat_lt⟩
def Bz(s:Bs)(p:Nat)(e:Int):Int×Nat×Int:=if e≠0 then(0,p,e)else if h:p<s.length then(s[p].toNat,p+1,0)else(0,p,3)
def aZn:=Aq []
def aKA:=RF aZn aNk [.t 2] 14
def aMB:Kq aKA 111:=An (Aj func111) Ad
def WX(s:Bs)(p:Nat)(e:Int)(g:p<=s.length):aKA [.agg (II s p e)]=some (.bool true):=by
 refine Am (Qa rfl) ?_;unfold aNk;have u:(0:Int)<=(p:Int):=O
 have y:(p:Int)<=(s.length:Int):=O
 unfold II;simp only[↓C2,HE,HB,reduceIte,Qb,Qd,Qr,u,y]
 all_goals exact Y2
def aZm:=Aq []
def jF:=RF aZm aNj [.t 2] 9
def sP:Kq jF 112:=An (Aj func112) Ad
def L6(s:Bs)(p:Nat)(e:Int)(hl:s.length<=1000000)(g:p<=s.length):jF [.agg (II s p e)]=some (.int .i64 ((s.length-p:Nat):Int)):=by
 refine Am (Qa rfl) ?_;unfold aNj;have k:IntKind.i64.wrap ((s.length:Int)-(p:Int))=((s.length-p:Nat):Int):=Xi
 unfold II;simp only[↓C2,HE,HB,reduceIte,Qb,Qd,Qr,k]
 all_goals exact Y2
def aZj:=Aq []
def aKx:=RF aZj aEp [.t 2] 9
def aVN:Kq aKx 175:=An (Aj func175) Ad
def aKw:aKx [.int .i64 1]=some (.bool true):=by
 refine Am (Qa rfl) ?_;unfold aEp;simp only[↓C2,HE,HB,reduceIte,Qb,Qd,reduceCtorEq,Int.reduceLE]
 all_goals exact Y2
def aZi:=Aq []
def aKv:=RF aZi aNf [.cell (some 3) 4] 8
def aMA:Kq aKv 176:=An (Aj func176) Ad
def aKu(s:Bs)(p:Nat)(e x:Int):aKv [.agg (II s p e),.int .i64 x]=some (.agg (II s p x)):=by
 refine Am (Qa rfl) ?_;unfold aNf;unfold II;simp only[↓C2,HE,HB,reduceIte,Qb,Qd,Qr,Qt,QE]
 all_goals exact Y2
def SW:=Aq [(111,Ac aKA),(175,Ac aKx),(176,Ac aKv),(112,Ac jF)]
def aAV:=RF SW aEq [.t 4,.cell (some 3) 5] 60
def aC9:Kq aAV 110:=An (Aj func110) (Aa aMB (Aa aVN (Aa aMA (Aa sP Ad))))
def WZ(s:Bs)(p:Nat)(e:Int)(hl:s.length<=1000000)(g:p<=s.length):aAV [.agg (II s p e),.int .i64 1]=some (.tup [.int .u64 (Bz s p e).1,.agg (II s (Bz s p e).2.1 (Bz s p e).2.2)]):=by
 refine Am (Qa rfl) ?_;unfold aEq;have d:=WX s p e g;have z:=L6 s p e hl g;have f:=aKw;have a:=λx=>aKu s p e x
 unfold Bz II at *;by_cases c1:e=0
 ·subst c1;by_cases c2:p<s.length
  ·have t:(((s.length-p:Nat):Int)<1)=False:=eq_false O;have k:IntKind.i64.wrap ((p:Int)+1)=((p+1:Nat):Int):=H9 O O;have u:((0:Int)<=((p+1:Nat):Int)∧((p+1:Nat):Int)<=((s.length:Nat):Int))=True:=eq_true O;have v:((0:Int)<=(p:Int)∧(p:Int)<=((p+1:Nat):Int))=True:=eq_true O;have c:(s.drop p).take (p+1-p)=[s[p]]:=by rw[QJ c2,show p+1-p=1 by omega];rfl
   have o:AF [s[p]]=[.int .u8 (s[p].toNat:Int)]:=rfl;have r:AP .shl (.int .u64 0) (.int .u64 8)=some (.int .u64 0):=rfl;have na:=aYz s[p];have m:IntKind.u64.wrap (s[p].toNat:Int)=(s[p].toNat:Int):=E4 O (by have:=s[p].toNat_lt;omega);have y:IntKind.i64.wrap ((0:Int)+1)=1:=rfl;simp only[ne_eq,not_true_eq_false,if_false,dif_pos c2];generalize s[p]=x at *;simp only[↓C2,HE,HB,reduceIte,Qb,Qd,Qr,reduceCtorEq,Ae SW 111,d,Ae SW 112,z,Ae SW 175,f,t,k,u,v,Qh,c,o];refine Af L3.eq_1 ?_;simp only[↓C2,HE,HB,reduceIte,Qb,Qd,r,na,m,y,Int.toNat_zero,c,Int.zero_lt_one,Zr,ZA];refine Af L3.eq_1 ?_;simp only[↓C2,HE,HB,simprocAttr,Qz,k]
   repeat refine A0 ?_
   simp only[↓C2,HE,HB,reduceIte,Qb,Qd,Qr,Qt,QE]
   all_goals exact Y2
  ·have t:(((s.length-p:Nat):Int)<1)=True:=eq_true O;simp only[ne_eq,not_true_eq_false,if_false,dif_neg c2];simp only[↓C2,HE,HB,reduceIte,Qb,Qd,Qr,reduceCtorEq,Ae SW 111,d,Ae SW 112,z,Ae SW 175,f,Ae SW 176,a,t]
   all_goals exact Y2
 ·have j:(e=0)=False:=eq_false c1;simp only[ne_eq,j,not_false_eq_true,if_true];simp only[↓C2,HE,HB,reduceIte,Qb,Qd,Qr,reduceCtorEq,j]
  repeat refine A0 ?_
  simp only[↓C2,HE,HB,reduceIte,Qb,Qd,Qr]
  all_goals exact Y2
def aF7:=Aq [(111,Ac aKA),(112,Ac jF)]
def aKK:=RF aF7 aNz [.t 2] 17
def aV1:Kq aKK 56:=An (Aj func56) (Aa aMB (Aa sP Ad))
def aKJ(s:Bs)(p:Nat)(e:Int)(hl:s.length<=1000000)(g:p<=s.length):aKK [.agg (II s p e)]=some (.int .i64 (if e≠0 then e else if p<s.length then 4 else 0)):=by
 refine Am (Qa rfl) ?_;unfold aNz;have d:=WX s p e g;have z:=L6 s p e hl g;unfold II at *;by_cases c1:e=0
 ·subst c1;have t:((0:Int)<((s.length-p:Nat):Int))=(p<s.length):=propext O;by_cases c2:p<s.length
  ·simp only[↓C2,HE,HB,reduceIte,Qb,Qd,Qr,ZG,Ae aF7 111,d,Ae aF7 112,z,t,c2]
   all_goals exact Y2
  ·simp only[↓C2,HE,HB,reduceIte,Qb,Qd,Qr,ZG,Ae aF7 111,d,Ae aF7 112,z,t,c2]
   all_goals exact Y2
 ·have j:(e=0)=False:=eq_false c1;simp only[↓C2,HE,HB,reduceIte,Qb,Qd,Qr,j];simp[c1]
def EX{s:Bs}{p:Nat}{e:Int}(g:p<=s.length):(Bz s p e).2.1<=s.length∧0<=(Bz s p e).1∧(Bz s p e).1<256:=by
 unfold Bz;split
 ·exact⟨g,U,U⟩
 ·split
  ·rename_i h;have:=s[p].toNat_lt;exact⟨h,Xe,Xe⟩
  ·exact⟨g,U,U⟩
def aXB:=Aq [(110,Ac aAV)]
def qE:List D->List D->Option (D×List D):=RM aXB aEr [.t 2] 17 3
def aV2:(mQ 3 qE).ok Qe 55:=aUe (Aj func55:Fn Qe 55 17 aEr [.t 2]) V (Aa aC9 Ad)
theorem PT{m:HF}{i j:Id}{o:Nat}{ds:List D}(h:j≠i):∀{n p:Nat},Ag (m.put i o ds) j p n=Ag m j p n
 |0,p=>rfl
 |n+1,p=>by simp only[Ag,aA h,PT h]
def aUh{i fr:Id}(h:∀k,(i=k::fr)=False)(m:HF)(k o:Nat)(ys:List D)(p n:Nat):Ag (m.put (k::fr) o ys) i p n=Ag m i p n:=PT (λe=>(h k).mp e)
def L8(s:Bs)(p:Nat)(e:Int)(hl:s.length<=1000000)(g:p<=s.length):qE (II s p e) []=some (.int .i64 (Bz s p e).1,II s (Bz s p e).2.1 (Bz s p e).2.2):=by
 refine aUf V rfl (Qa rfl) (λi m fr o j f n0=>?_);have b:=WZ s p e hl g;obtain⟨_,u,v⟩:=EX (e:=e) g;have k:IntKind.i64.wrap (Bz s p e).1=(Bz s p e).1:=H9 O O;generalize Bz s p e=r at *;unfold II at *;obtain⟨a,a1,y⟩:=lV o;unfold aEr;simp only[↓C2,HE,HB,reduceIte,Qb,Qd,Qr,reduceCtorEq,a,a1,y,aUh n0,n0,Ae aXB 110,b,k]
 first|exact FO.own (bH j (bH j FO.refl)) U|exact FO.own (bH j FO.refl) U
structure LX (ex:List Nat) (c0:Nat) (m0:HF) (e:Nat) (m:HF) (c:Nat) (nl:Bool) (t:Id):Prop where
 low:∀q o,q<c0->q∉ex->m [q] o=m0 [q] o
 tok:nl=true∨∃j,t=[j]∧c0<=j∧j<c∧m t 0=some (.tok (e+1))
 le:c0<=c
section
variable{ex:List Nat}{c0 e c c' c2 o q:Nat}{m0 m:HF}{nl:Bool}{t:Id}{ds xs:List D}
def LX.start(h:c0<=c):LX ex c0 m0 e m0 c true t:=⟨λ_ _ _ _=>rfl,.inl rfl,h⟩
def LX.put(h:LX ex c0 m0 e m c nl t)(d:c<=c':=by omega):LX ex c0 m0 e (m.put [c'] o ds) c nl t:=by
 obtain⟨u,y,r⟩:=h;refine⟨λq o' z p=>?_,?_,r⟩
 ·grind [aA]
 ·grind [aA]
def LX.putx(h:LX ex c0 m0 e m c nl t)(z:q∈ex)(hl:q<c0):LX ex c0 m0 e (m.put [q] o ds) c nl t:=by
 obtain⟨u,y,r⟩:=h;refine⟨λj o' b p=>?_,?_,r⟩
 ·grind [aA]
 ·grind [aA]
def LX.more(h:LX ex c0 m0 e m c nl t)(s:c<=c'):LX ex c0 m0 e m c' nl t:=by
 obtain⟨u,h2,o⟩:=h;refine⟨u,?_,O⟩;rcases h2 with h2|⟨j,a,b,z,d⟩
 ·exact .inl h2
 ·grind
def LX.grow(h:LX ex c0 m0 e m c nl t):Mf m e (.slice nl t xs):=by
 rcases h.tok with h|⟨j,rfl,_,_,d⟩
 ·exact .inl h
 ·exact .inr ⟨d,U⟩
def LX.app(h:LX ex c0 m0 e m c nl t)(d:c<=c')(y:c'<c2):LX ex c0 m0 e (HN.app m (Bm e [c'] (.slice nl t xs))) c2 false [c']:=by
 obtain⟨u,v,r⟩:=h;refine⟨λq o z p=>?_,.inr ⟨c',rfl,O,y,?_⟩,O⟩
 ·grind [Dj]
 ·rw[Dj,if_pos ⟨rfl,rfl⟩]
def aX(h:LX ex c0 m0 e m c nl t)(s:c<=c')(z:q<c0):HN.app m (Bm e [c'] (.slice nl t xs)) [q] o=m [q] o:=by
 obtain⟨u,v,r⟩:=h;rw[Dj,if_neg Xb];rcases v with rfl|⟨j,rfl,a,b,d⟩
 ·rw[if_neg U]
 ·rw[if_neg Xb]
end
def DQ{m:HF}{i:Id}{o:Nat}{d:D}:m.put i o [d] i o=some d:=XU
def IQ(s:Bs):Nat->Nat->Int->List Rw×Bool×Nat×Int
 |0,p,e=>([],false,p,e)
 |k+1,p,e=>(((Bz s p e).1,decide (bits .and .i64 (Bz s (Bz s p e).2.1 (Bz s p e).2.2).1 1≠0),decide (bits .and .i64 (Bz s (Bz s p e).2.1 (Bz s p e).2.2).1 2≠0))::(IQ s k (Bz s (Bz s p e).2.1 (Bz s p e).2.2).2.1 (Bz s (Bz s p e).2.1 (Bz s p e).2.2).2.2).1,
   decide (3<(Bz s (Bz s p e).2.1 (Bz s p e).2.2).1)||(IQ s k (Bz s (Bz s p e).2.1 (Bz s p e).2.2).2.1 (Bz s (Bz s p e).2.1 (Bz s p e).2.2).2.2).2.1,(IQ s k (Bz s (Bz s p e).2.1 (Bz s p e).2.2).2.1 (Bz s (Bz s p e).2.1 (Bz s p e).2.2).2.2).2.2)
def sc0:Sc:=⟨0,false,0,true,[]⟩
def MA(s:Bs):=Bz s 0 0
def Ma(s:Bs):=Bz s (MA s).2.1 (MA s).2.2
def Mz(s:Bs):=Bz s (Ma s).2.1 (Ma s).2.2
def GM(s:Bs):=Bz s (Mz s).2.1 (Mz s).2.2
def FI(s:Bs):=IQ s (GM s).1.toNat (GM s).2.1 (GM s).2.2
def Vc(s:Bs):Sc:=⟨(MA s).1,decide ((Ma s).1=1),(Mz s).1,decide ((GM s).1.toNat=0),(FI s).1⟩
def zP(n p:Nat)(e:Int):Int:=if e≠0 then e else if p<n then 4 else 0
def BB(s:Bs):Sc×Int:=if zP s.length (FI s).2.2.1 (FI s).2.2.2=3 then(sc0,3)else if zP s.length (FI s).2.2.1 (FI s).2.2.2≠0∨(decide (1<(Ma s).1)||(FI s).2.1)=true∨B5 (Vc s) 6=true then(sc0,4)else(Vc s,0)
def qS{s:Bs}:∀{k p:Nat} {e:Int},p<=s.length->(IQ s k p e).2.2.1<=s.length
 |0,p,e,h=>h
 |k+1,p,e,h=>by
  show(IQ s k (Bz s (Bz s p e).2.1 (Bz s p e).2.2).2.1 (Bz s (Bz s p e).2.1 (Bz s p e).2.2).2.2).2.2.1<=_;exact qS (EX (EX h).1).1
def cH{s:Bs}:∀{k p:Nat} {e:Int},(IQ s k p e).1.length=k
 |0,p,e=>rfl
 |k+1,p,e=>by simp[IQ,cH]
def N2:=Aq [(55,mQ 3 qE),(56,Ac aKK),(57,Ac aKI),(25,Ac Mc)]
def aTc:=RF N2 aOd [.cell (some 4) 2,.t 3] 77
def aWk:Kq aTc 24:=An (Aj func24) (Aa aV2 (Aa aV1 (Aa aMC (Aa Sm Ad))))
def vM(s:Bs)(hl:s.length<=1000000):aTc [.str s]=some (.tup [.agg (HO (BB s).1),.int .i64 (BB s).2]):=by
 refine Am (Qa rfl) ?_;unfold aOd;have b1:(MA s).2.1<=s.length∧0<=(MA s).1∧(MA s).1<256:=EX (Qu _);have b2:(Ma s).2.1<=s.length∧0<=(Ma s).1∧(Ma s).1<256:=EX b1.1;have b3:(Mz s).2.1<=s.length∧0<=(Mz s).1∧(Mz s).1<256:=EX b2.1;have b4:(GM s).2.1<=s.length∧0<=(GM s).1∧(GM s).1<256:=EX b3.1;have g1:qE [.str s,.int .i64 0,.int .i64 0] []=some (.int .i64 (MA s).1,II s (MA s).2.1 (MA s).2.2):=L8 s 0 0 hl (Qu _);have g2:qE (II s (MA s).2.1 (MA s).2.2) []=some (.int .i64 (Ma s).1,II s (Ma s).2.1 (Ma s).2.2):=L8 s _ _ hl b1.1;have g3:qE (II s (Ma s).2.1 (Ma s).2.2) []=some (.int .i64 (Mz s).1,II s (Mz s).2.1 (Mz s).2.2):=L8 s _ _ hl b2.1;have g4:qE (II s (Mz s).2.1 (Mz s).2.2) []=some (.int .i64 (GM s).1,II s (GM s).2.1 (GM s).2.2):=L8 s _ _ hl b3.1;have hn:((GM s).1.toNat:Int)=(GM s).1:=Qx b4.2.1;have ga:(FI s).2.2.1<=s.length:=qS b4.1;have ob:(FI s).1.length=(GM s).1.toNat:=cH;have d:aKK [.agg [.str s,.int .i64 ((FI s).2.2.1:Int),.int .i64 (FI s).2.2.2]]=some (.int .i64 (zP s.length (FI s).2.2.1 (FI s).2.2.2)):=aKJ s _ _ hl ga;have i:=vF;have aa:=Hy (Vc s) 6 false (by show(FI s).1.length<=1000;omega);have hA:FI s=IQ s (GM s).1.toNat (GM s).2.1 (GM s).2.2:=rfl;unfold BB;unfold Vp at aa;unfold II at g1 g2 g3 g4;have hS:Vc s=⟨(MA s).1,decide ((Ma s).1=1),(Mz s).1,decide ((GM s).1.toNat=0),(FI s).1⟩:=rfl;unfold HO at aa ⊢;generalize B5 (Vc s) 6=x at *;generalize zP s.length (FI s).2.2.1 (FI s).2.2.2=en at *;rw[hS]at aa ⊢;clear hS;generalize FI s=tot at *;generalize MA s=n1 at *;generalize Ma s=n2 at *;generalize Mz s=n3 at *;generalize GM s=n4 at *;obtain⟨v4,p4,e4⟩:=n4;simp only at *;generalize ra:v4.toNat=n at *;rw[←hn]at g4;simp only[HG,↓C2,HB,simprocAttr,AE N2 55,VY,g1,g2,g3,g4];refine BX (n:=n) (I:=λj st=>st.s 28= .int .i64 (n:Int)∧st.s 29= .int .i64 (j:Int)∧st.s 4= .ptr [4] 0∧st.s 5= .ptr [9] 0∧st.s 2= .ptr [0] 0∧∃A od p e nl t,A.length=j∧p<=s.length∧A++(IQ s (n-j) p e).1=tot.1∧(od||(IQ s (n-j) p e).2.1)=(decide (1<n2.1)||tot.2.1)∧(IQ s (n-j) p e).2.2=tot.2.2∧st.s 7= .bool od∧(st.m [4] 0=some (.str s)∧st.m [4] 1=some (.int .i64 (p:Int))∧st.m [4] 2=some (.int .i64 e))∧(st.m [9] 0=some (.int .i64 n1.1)∧st.m [9] 1=some (.bool (decide (n2.1=1)))∧st.m [9] 2=some (.int .i64 n3.1)∧st.m [9] 3=some (.slice nl t (Bd A)))∧nl=decide (j=0)∧LX [4,9] 10 _ 80 st.m st.c nl t) (λj hj ih st g hI=>?_) (λst g hI=>?_) 0 (Qu _) _ _ ⟨rfl,rfl,rfl,rfl,rfl,[],decide (1<n2.1),p4,e4,true,[],rfl,b4.1,by rw[hA];rfl,by rw[hA];rfl,by rw[hA];rfl,rfl,?_,?_,rfl,LX.start Xa⟩
 rotate_left 2
 ·grind [HF.put]
 ·simp_all [HF.put,Bd]
 ·obtain⟨ma,ia,da⟩:=st;obtain⟨f,u,h4,h5,h2,A,od,p,e,nl,t,w,hp,r,l,fa,h7,⟨x0,x1,x2⟩,⟨y0,y1,y2,y3⟩,pa,hG⟩:=hI;simp only at f u h4 h5 h2 h7 x0 x1 x2 y0 y1 y2 y3 hG;refine Af Ws.eq_1 ?_;have ea:((j:Int)<n):=by omega
  have oa:=nJ (j:=j);have hw:=wJ (j:=j) O;have q1:=EX (e:=e) hp;have k1:=L8 s p e hl hp;have k2:=L8 s _ (Bz s p e).2.2 hl q1.1;have q2:=EX (e:=(Bz s p e).2.2) q1.1;have ka:n-j=(n-(j+1))+1:=O
  rw[ka]at r l fa;unfold IQ at r l fa;simp only at r l fa;generalize Bz s p e=a at *;generalize Bz s a.2.1 a.2.2=b at *;unfold II at k1 k2;have y:=(hG.putx (q:=4) (o:=0) (ds:=[.str s,.int .i64 (a.2.1:Int),.int .i64 a.2.2]) U O).putx (q:=4) (o:=0) (ds:=[.str s,.int .i64 (b.2.1:Int),.int .i64 b.2.2]) U O;have ja:nl=true->Bd A=[]:=by
   rw[pa];intro h;have:A=[]:=QW.1 (by rw[w];simpa using h);rw[this];rfl
  have qa:Bd A++[.agg [.int .i64 a.1,.bool (decide (bits .and .i64 b.1 1≠0)),.bool (decide (bits .and .i64 b.1 2≠0))]]=Bd (A++[(a.1,decide (bits .and .i64 b.1 1≠0),decide (bits .and .i64 b.1 2≠0))]):=by simp[Bd,rwD]
  have za:(Bd A).length<256:=XJ
  have la:(9=4)=False:=U
  have ha:(4=9)=False:=U
  cases od with
  |true=>
   simp only[HG,↓C2,HB,simprocAttr,f,u,ea,h4,h5,h7,AE N2 55,VY,x0,x1,x2,y3,k1,k2];refine aB ⟨O,rfl,(LX.put y O).grow⟩ ?_;rw[BF ja,qa];have z:∀(c1 c2 k:Nat)(ds:List D)(xs:List D),da<=c1->da<=c2->∀q,q<10->HN.app ((((ia.put [4] 0 [.str s,.int .i64 (a.2.1:Int),.int .i64 a.2.2]).put [4] 0 [.str s,.int .i64 (b.2.1:Int),.int .i64 b.2.2]).put [c1] 0 ds)) (Bm 80 [c2] (.slice nl t xs)) [q] k=((ia.put [4] 0 [.str s,.int .i64 (a.2.1:Int),.int .i64 a.2.2]).put [4] 0 [.str s,.int .i64 (b.2.1:Int),.int .i64 b.2.2]) [q] k:=λc1 c2 k ds xs e1 e2 q hq=>by
    have:=hG.le;rw[aX (LX.put y e1) e2 hq,aA Xb]
   have zz:=λ(c1 c2 k:Nat)(ds:List D)(xs:List D) e1 e2=>z c1 c2 k ds xs e1 e2 9 O
   have z4:=λ(c1 c2 k:Nat)(ds:List D)(xs:List D) e1 e2=>z c1 c2 k ds xs e1 e2 4 O
   have v:∀(c1 c2:Nat)(ds xs:List D),da<=c1->da<=c2->(Ag (HN.app ((((ia.put [4] 0 [.str s,.int .i64 (a.2.1:Int),.int .i64 a.2.2]).put [4] 0 [.str s,.int .i64 (b.2.1:Int),.int .i64 b.2.2]).put [c1] 0 ds)) (Bm 80 [c2] (.slice nl t xs))) [9] 3 1).isSome=true:=λc1 c2 ds xs e1 e2=>by
    simp only[Ag,zz c1 c2 3 ds xs e1 e2];simp[HF.put,y3]
   simp only[↓C2,HE,h5,simprocAttr,Qp];refine aB (v _ _ _ _ O O) ?_;simp only[↓C2,HH,simprocAttr,u,hw];refine ih _ _ ⟨f,rfl,h4,h5,h2,A++[(a.1,decide (bits .and .i64 b.1 1≠0),decide (bits .and .i64 b.1 2≠0))],true,b.2.1,b.2.2,false,_,by simp[w],q2.1,by rw[←r];simp,by rw[←l];simp[],fa,rfl,⟨?_,?_,?_⟩,⟨?_,?_,?_,?_⟩,U,LX.putx (LX.app (LX.put y O) O Xa) U O⟩
   ·simp only;rw[aA U,z4 _ _ _ _ _ O O];simp[HF.put]
   ·simp only;rw[aA U,z4 _ _ _ _ _ O O];simp[HF.put]
   ·simp only;rw[aA U,z4 _ _ _ _ _ O O];simp[HF.put]
   ·simp only;rw[aD U,zz _ _ _ _ _ O O];simp[HF.put,y0]
   ·simp only;rw[aD U,zz _ _ _ _ _ O O];simp[HF.put,y1]
   ·simp only;rw[aD U,zz _ _ _ _ _ O O];simp[HF.put,y2]
   ·simp only;rw[F9];exact DQ
  |false=>
   by_cases c3:3<b.1
   ·simp only[HG,↓C2,HB,simprocAttr,f,u,ea,h4,h5,h7,AE N2 55,VY,x0,x1,x2,y3,k1,k2,c3];refine aB ⟨O,rfl,(LX.put y O).grow⟩ ?_;rw[BF ja,qa];have z:∀(c1 c2 k:Nat)(ds:List D)(xs:List D),da<=c1->da<=c2->∀q,q<10->HN.app ((((ia.put [4] 0 [.str s,.int .i64 (a.2.1:Int),.int .i64 a.2.2]).put [4] 0 [.str s,.int .i64 (b.2.1:Int),.int .i64 b.2.2]).put [c1] 0 ds)) (Bm 80 [c2] (.slice nl t xs)) [q] k=((ia.put [4] 0 [.str s,.int .i64 (a.2.1:Int),.int .i64 a.2.2]).put [4] 0 [.str s,.int .i64 (b.2.1:Int),.int .i64 b.2.2]) [q] k:=λc1 c2 k ds xs e1 e2 q hq=>by
     have:=hG.le;rw[aX (LX.put y e1) e2 hq,aA Xb]
    have zz:=λ(c1 c2 k:Nat)(ds:List D)(xs:List D) e1 e2=>z c1 c2 k ds xs e1 e2 9 O
    have z4:=λ(c1 c2 k:Nat)(ds:List D)(xs:List D) e1 e2=>z c1 c2 k ds xs e1 e2 4 O
    have v:∀(c1 c2:Nat)(ds xs:List D),da<=c1->da<=c2->(Ag (HN.app ((((ia.put [4] 0 [.str s,.int .i64 (a.2.1:Int),.int .i64 a.2.2]).put [4] 0 [.str s,.int .i64 (b.2.1:Int),.int .i64 b.2.2]).put [c1] 0 ds)) (Bm 80 [c2] (.slice nl t xs))) [9] 3 1).isSome=true:=λc1 c2 ds xs e1 e2=>by
     simp only[Ag,zz c1 c2 3 ds xs e1 e2];simp[HF.put,y3]
    simp only[↓C2,HE,h5,simprocAttr,Qp];refine aB (v _ _ _ _ O O) ?_;simp only[↓C2,HH,simprocAttr,u,hw];refine ih _ _ ⟨f,rfl,h4,h5,h2,A++[(a.1,decide (bits .and .i64 b.1 1≠0),decide (bits .and .i64 b.1 2≠0))],true,b.2.1,b.2.2,false,_,by simp[w],q2.1,by rw[←r];simp,by rw[←l];simp[c3],fa,rfl,⟨?_,?_,?_⟩,⟨?_,?_,?_,?_⟩,U,LX.putx (LX.app (LX.put y O) O Xa) U O⟩
    ·simp only;rw[aA U,z4 _ _ _ _ _ O O];simp[HF.put]
    ·simp only;rw[aA U,z4 _ _ _ _ _ O O];simp[HF.put]
    ·simp only;rw[aA U,z4 _ _ _ _ _ O O];simp[HF.put]
    ·simp only;rw[aD U,zz _ _ _ _ _ O O];simp[HF.put,y0]
    ·simp only;rw[aD U,zz _ _ _ _ _ O O];simp[HF.put,y1]
    ·simp only;rw[aD U,zz _ _ _ _ _ O O];simp[HF.put,y2]
    ·simp only;rw[F9];exact DQ
   ·simp only[HG,↓C2,HB,simprocAttr,f,u,ea,h4,h5,h7,AE N2 55,VY,x0,x1,x2,y3,k1,k2,c3];refine aB ⟨O,rfl,(LX.put y O).grow⟩ ?_;rw[BF ja,qa];have z:∀(c1 c2 k:Nat)(ds:List D)(xs:List D),da<=c1->da<=c2->∀q,q<10->HN.app ((((ia.put [4] 0 [.str s,.int .i64 (a.2.1:Int),.int .i64 a.2.2]).put [4] 0 [.str s,.int .i64 (b.2.1:Int),.int .i64 b.2.2]).put [c1] 0 ds)) (Bm 80 [c2] (.slice nl t xs)) [q] k=((ia.put [4] 0 [.str s,.int .i64 (a.2.1:Int),.int .i64 a.2.2]).put [4] 0 [.str s,.int .i64 (b.2.1:Int),.int .i64 b.2.2]) [q] k:=λc1 c2 k ds xs e1 e2 q hq=>by
     have:=hG.le;rw[aX (LX.put y e1) e2 hq,aA Xb]
    have zz:=λ(c1 c2 k:Nat)(ds:List D)(xs:List D) e1 e2=>z c1 c2 k ds xs e1 e2 9 O
    have z4:=λ(c1 c2 k:Nat)(ds:List D)(xs:List D) e1 e2=>z c1 c2 k ds xs e1 e2 4 O
    have v:∀(c1 c2:Nat)(ds xs:List D),da<=c1->da<=c2->(Ag (HN.app ((((ia.put [4] 0 [.str s,.int .i64 (a.2.1:Int),.int .i64 a.2.2]).put [4] 0 [.str s,.int .i64 (b.2.1:Int),.int .i64 b.2.2]).put [c1] 0 ds)) (Bm 80 [c2] (.slice nl t xs))) [9] 3 1).isSome=true:=λc1 c2 ds xs e1 e2=>by
     simp only[Ag,zz c1 c2 3 ds xs e1 e2];simp[HF.put,y3]
    simp only[↓C2,HE,h5,simprocAttr,Qp];refine aB (v _ _ _ _ O O) ?_;simp only[↓C2,HH,simprocAttr,u,hw];refine ih _ _ ⟨f,rfl,h4,h5,h2,A++[(a.1,decide (bits .and .i64 b.1 1≠0),decide (bits .and .i64 b.1 2≠0))],false,b.2.1,b.2.2,false,_,by simp[w],q2.1,by rw[←r];simp,by rw[←l];simp[c3],fa,rfl,⟨?_,?_,?_⟩,⟨?_,?_,?_,?_⟩,U,LX.putx (LX.app (LX.put y O) O Xa) U O⟩
    ·simp only;rw[aA U,z4 _ _ _ _ _ O O];simp[HF.put]
    ·simp only;rw[aA U,z4 _ _ _ _ _ O O];simp[HF.put]
    ·simp only;rw[aA U,z4 _ _ _ _ _ O O];simp[HF.put]
    ·simp only;rw[aD U,zz _ _ _ _ _ O O];simp[HF.put,y0]
    ·simp only;rw[aD U,zz _ _ _ _ _ O O];simp[HF.put,y1]
    ·simp only;rw[aD U,zz _ _ _ _ _ O O];simp[HF.put,y2]
    ·simp only;rw[F9];exact DQ
 ·obtain⟨ma,ia,da⟩:=st;obtain⟨f,u,h4,h5,h2,A,od,p,e,nl,t,w,hp,r,l,fa,h7,⟨x0,x1,x2⟩,⟨y0,y1,y2,y3⟩,pa,hG⟩:=hI;simp only at f u h4 h5 h2 h7 x0 x1 x2 y0 y1 y2 y3 hG;refine Af Ws.eq_1 ?_;have m0:∀k,ia [0] k=_:=λk=>hG.low 0 k O U
  rw[Zu]at r l fa;unfold IQ at r l fa;simp only[QI,Bool.or_false]at r l fa;rw[←l];rw[←r]at aa ⊢;rw[←fa]at d;simp only at d;rw[←pa]at aa ⊢;by_cases c1:en=3
  ·simp only[HG,↓C2,HB,simprocAttr,f,u,h4,h2,Qz,x0,x1,x2,m0,Ae N2 56,d,c1]
   all_goals (first|rfl|exact⟨rfl,rfl⟩|(simp[*,sc0];done)|(simp[*,sc0];rfl))
  ·have ba:(en=3)=False:=eq_false c1;by_cases c2:en=0
   ·subst c2;cases od with
    |true=>
     simp only[HG,↓C2,HB,simprocAttr,f,u,h4,h7,Qz,x0,x1,x2,Ae N2 56,d];refine A0 ?_;simp only[HG,↓C2,HB,simprocAttr,h2,m0]
     all_goals (first|rfl|exact⟨rfl,rfl⟩|(simp[*,sc0];done)|(simp[*,sc0];rfl))
    |false=>
     cases x with
     |true=>
      simp only[if_true]at aa;simp only[HG,↓C2,HB,simprocAttr,f,u,h4,h5,h7,Qz,x0,x1,x2,y0,y1,y2,y3,Ae N2 56,d,Ae N2 57,i,Ae N2 25,aa];refine A0 ?_;simp only[HG,↓C2,HB,simprocAttr,h2,m0]
      all_goals (first|rfl|exact⟨rfl,rfl⟩|(simp[*,sc0];done)|(simp[*,sc0];rfl))
     |false=>
      simp only[if_false,Qs]at aa;simp only[HG,↓C2,HB,simprocAttr,f,u,h4,h5,h7,Qz,x0,x1,x2,y0,y1,y2,y3,Ae N2 56,d,Ae N2 57,i,Ae N2 25,aa];refine A0 ?_;simp only[HG,↓C2,HB,simprocAttr,h2,h5,m0,y0,y1,y2,y3]
      all_goals (first|rfl|exact⟨rfl,rfl⟩|(simp[*,sc0];done)|(simp[*,sc0];rfl))
   ·have ca:(en=0)=False:=eq_false c2;simp only[HG,↓C2,HB,simprocAttr,f,u,h4,Qz,x0,x1,x2,Ae N2 56,d,ba,ca];refine A0 ?_;simp only[HG,↓C2,HB,simprocAttr,h2,m0]
    all_goals (first|rfl|exact⟨rfl,rfl⟩|(simp[*,sc0];done)|(simp[*,sc0];rfl))
def aO1:=y0 f213 [] []
def aWS:=y0 f52 [] []
def aW8:=y0 f22 [] []
def aOY:=y0 f215 [] []
def aWW:=y0 f67 [(3,[(2,0)])] []
def P6:=y1 f124 2 [] []
def aNJ:=y0 f124 [] [(2,P6)]
def Wy:=y1 f70 14 [] []
def aOm:=y0 f70 [(18,[(3,6),(3,10),(7,10)])] [(14,Wy)]
def aO5:=y0 f30 [] []
def aO6:=y0 f37 [] []
def aOl:=y0 f26 [] []
def aEA:=y0 f211 [] []
def aO4:=y0 f210 [] []
def Wu:=y1 f270 2 [] []
def aOf:=y0 f270 [] [(2,Wu)]
def aOV:=y0 f220 [] []
def aXh:=y0 f155 [] []
def Ao(k:Int)(name:Bs)(n:Int):Bs:=if Bx k name n≠0 then []else if k=1 then [109,47]++name else if k=2 then [100,47]++name++[0,UInt8.ofNat (IntKind.u8.wrap n).toNat]else if k=3 then [116,47]++name else if k=4 then [115,47,109,111,117,110,116,115]else [115,47,114,105,110,103]
def aHm{k n:Int}{name:Bs}(h:name.length<=1000000):F98 [.agg [.int .u8 k,.str name,.int .i64 n]]=some (.int .i64 (Bx k name n)):=if_pos h
def LA{a b:Bs}(h:a.length+b.length<=9223372036854775807):AP .add (.str a) (.str b)=some (.str (a++b)):=by simp[AP,h]
def pY:=Aq [(53,Ac F98)]
def aK7:=RF pY aOl [.t 2,.t 3] 35
def aMK:Kq aK7 26:=An (Aj func26) (Aa aI0 Ad)
def vO(k n:Int)(name:Bs)(hl:name.length<=1000000):aK7 [.agg [.int .u8 k,.str name,.int .i64 n]]=some (.tup [.str (Ao k name n),.int .i64 (Bx k name n)]):=by
 refine Am (Qa rfl) ?_;unfold aOl;have u:=aHm (k:=k) (n:=n) hl;have a1:∀x y,AP .add (.str [x,y]) (.str name)=some (.str ([x,y]++name)):=λx y=>LA YH
 have q:∀a,BO [.int .u8 0,.int .u8 a]=some [0,UInt8.ofNat a.toNat]:=λ_=>rfl
 unfold Ao;generalize Bx k name n=e at *;by_cases s:e=0
 ·subst s;by_cases c1:k=1
  ·have j:=eq_true c1;simp only[HG,↓C2,HB,simprocAttr,Ae pY 53,u,j,a1]
   all_goals exact Y2
  have j:=eq_false c1;by_cases c2:k=2
  ·have r:=eq_true c2;have o:=λz (t:z.length<=100)=>LA (a:=[100,47]++name) (b:=z) YI
   have i:=λc d=>o [c,d] U
   simp only[HG,↓C2,HB,simprocAttr,Ae pY 53,u,j,r,a1,i,q]
   all_goals exact Y2
  have r:=eq_false c2;by_cases w:k=3
  ·have f:=eq_true w;simp only[HG,↓C2,HB,simprocAttr,Ae pY 53,u,j,r,f,a1]
   all_goals exact Y2
  have f:=eq_false w;by_cases p:k=4
  ·have g:=eq_true p;simp only[HG,↓C2,HB,simprocAttr,Ae pY 53,u,j,r,f,g]
   all_goals exact Y2
  ·have g:=eq_false p;simp only[HG,↓C2,HB,simprocAttr,Ae pY 53,u,j,r,f,g]
   all_goals exact Y2
 ·have h:=eq_false s;simp only[HG,↓C2,HB,simprocAttr,Ae pY 53,u,h]
  all_goals exact Y2
def aXR:=Aq [(26,Ac aK7)]
def FN:List D->Option D:=RF aXR aEA [.t 6] 18
def Lh:Kq FN 211:=An (Aj func211:Fn Qe 211 18 aEA [.t 6]) (Aa aMK Ad)
def C5(k n:Int)(name:Bs)(hl:name.length<=1000000):FN [.int .u8 k,.str name,.int .i64 n]=some (.str (Ao k name n)):=by
 refine Am (Qa rfl) ?_;unfold aEA;have a:=vO k n name hl;simp only[↓C2,HE,HB,simprocAttr,Ae aXR 26,a]
 all_goals exact Y2
def aZH:=Aq []
def aAZ:=RF aZH aO1 [.t 2] 10
def aMQ:Kq aAZ 213:=An (Aj func213) Ad
def W_(p:Bs)(hl:p.length<=1000000):aAZ [.str p]=some (.slice false [] [.str ([109,47]++p++[47]),.str ([100,47]++p++[47])]):=by
 refine Am (Qa rfl) ?_;unfold aO1;have a1:∀x y,AP .add (.str [x,y]) (.str p)=some (.str ([x,y]++p)):=λx y=>LA YH
 have f:∀x y,AP .add (.str ([x,y]++p)) (.str [47])=some (.str ([x,y]++p++[47])):=λx y=>LA YI
 simp only[↓C2,HE,HB,simprocAttr,a1,f]
 all_goals exact Y2
def Ax(s:Bs):Int×Bs×Int:=if s=[115,47,109,111,117,110,116,115]then(4,[],0)else if s=[115,47,114,105,110,103]then(5,[],0)else if A7 s [109,47]=true then(1,s.drop 2,0)else if A7 s [116,47]=true then(3,s.drop 2,0)else
 if A7 s [100,47]=true∧2<(s.drop 2).length∧(s.drop 2).getD ((s.drop 2).length-2) 0=0 then(2,(s.drop 2).take ((s.drop 2).length-2),((s.drop 2).getD ((s.drop 2).length-1) 0).toNat)else(0,[],0)
def Da(s:Bs):(Int×Bs×Int)×Int:=if Bx (Ax s).1 (Ax s).2.1 (Ax s).2.2≠0 then((0,[],0),4)else(Ax s,0)
def kyD(k:Int×Bs×Int):D:= .agg [.int .u8 k.1,.str k.2.1,.int .i64 k.2.2]
def yZ(s:Bs):(Ax s).2.1.length<=s.length:=by
 grind [Ax]
def S97:=Aq [(106,Ac aBe)]
def R97:=RF S97 aWS [.cell (some 3) 2] 64
def aYT:Kq R97 52:=An (Aj func52) (Aa aMr Ad)
def aSL(s:Bs)(hl:s.length<=1000000):R97 [.str s]=some (kyD (Ax s)):=by
 refine Am (Qa rfl) ?_;unfold aWS;have c:∀a b:UInt8,aBe [.str s,.str [a,b]]=some (.tup [.str (if A7 s [a,b]=true then s.drop 2 else s),.bool (A7 s [a,b])]):=λ_ _=>rfl
 unfold Ax kyD;by_cases c1:s=[115,47,109,111,117,110,116,115]
 ·have j:=eq_true c1;simp only[HG,↓C2,HB,simprocAttr,j]
  all_goals exact Y2
 have j:=eq_false c1;by_cases c2:s=[115,47,114,105,110,103]
 ·have w:=eq_true c2;simp only[HG,↓C2,HB,simprocAttr,j,w]
  all_goals exact Y2
 have w:=eq_false c2;cases c3:A7 s [109,47]with
 |true=>
  simp only[HG,↓C2,HB,simprocAttr,Ae S97 106,c,j,w,c3]
  all_goals exact Y2
 |false=>
  cases c4:A7 s [116,47]with
  |true=>
   simp only[HG,↓C2,HB,simprocAttr,Ae S97 106,c,j,w,c3,c4]
   all_goals exact Y2
  |false=>
   cases c5:A7 s [100,47]with
   |false=>
    simp only[HG,↓C2,HB,simprocAttr,Ae S97 106,c,j,w,c3,c4,c5]
    all_goals exact Y2
   |true=>
    have ta:(s.drop 2).length<=1000000:=X4
    generalize i:s.drop 2=r at *;by_cases o:2<r.length
    ·have e:((2:Int)<(r.length:Int))=True:=eq_true O;have z:IntKind.i64.wrap ((r.length:Int)-2)=((r.length-2:Nat):Int):=by rw[H9 O O];omega
     have p:IntKind.i64.wrap (((r.length-2:Nat):Int)+1)=((r.length-1:Nat):Int):=Xi
     have m:(0:Int)<=((r.length-2:Nat):Int):=O
     have f:(0:Int)<=((r.length-1:Nat):Int):=O
     have k:(((r.length-2:Nat):Int)<=((r.length:Nat):Int))=True:=eq_true O;have q:r[r.length-2]?=some (r.getD (r.length-2) 0):=by simp[Zx,Qi (show r.length-2<r.length by omega)]
     have u:r[r.length-1]?=some (r.getD (r.length-1) 0):=by simp[Zx,Qi (show r.length-1<r.length by omega)]
     have n:((r.getD (r.length-2) 0).toNat:Int)=0↔r.getD (r.length-2) 0=0:=by
      constructor
      ·intro h;exact UInt8.toNat_inj.1 (by
        have:(r.getD (r.length-2) 0).toNat=0:=O
        rw[this];rfl)
      ·intro h;rw[h];rfl
     have g:IntKind.i64.wrap ((r.getD (r.length-1) 0).toNat:Int)=((r.getD (r.length-1) 0).toNat:Int):=H9 O (by have:=(r.getD (r.length-1) 0).toNat_lt;omega);generalize r.getD (r.length-1) 0=y at *;generalize r.getD (r.length-2) 0=x at *;by_cases v:x=0
     ·have d:((x.toNat:Int)=0)=True:=eq_true (n.2 v);simp only[HG,↓C2,HB,simprocAttr,Ae S97 106,c,j,w,c3,c4,c5,e,z,p,m,f,k,q,u,d,g,Qh];refine A0 ?_;simp only[HG,↓C2,HB,simprocAttr]
      all_goals exact Y2
     ·have d:((x.toNat:Int)=0)=False:=eq_false (λh=>v (n.1 h));simp only[HG,↓C2,HB,simprocAttr,Ae S97 106,c,j,w,c3,c4,c5,e,z,m,q,d,Qh]
      all_goals exact Y2
    ·have e:((2:Int)<(r.length:Int))=False:=eq_false O;simp only[HG,↓C2,HB,simprocAttr,Ae S97 106,c,j,w,c3,c4,c5,e]
     all_goals exact Y2
def S38:=Aq [(52,Ac R97),(53,Ac F98)]
def R38:=RF S38 aW8 [.cell (some 3) 2,.t 3] 12
def aVS:Kq R38 22:=An (Aj func22) (Aa aYT (Aa aI0 Ad))
def aGi(s:Bs)(hl:s.length<=1000000):R38 [.str s]=some (.tup [kyD (Da s).1,.int .i64 (Da s).2]):=by
 refine Am (Qa rfl) ?_;unfold aW8;have a:=aSL s hl;have z:=aHm (k:=(Ax s).1) (n:=(Ax s).2.2) (name:=(Ax s).2.1) (by have:=yZ s;omega);unfold Da;unfold kyD at *;generalize Bx (Ax s).1 (Ax s).2.1 (Ax s).2.2=e at *;generalize Ax s=g at *;by_cases b:e=0
 ·subst b;simp only[HG,↓C2,HB,simprocAttr,Ae S38 52,a,Ae S38 53,z]
  all_goals exact Y2
 ·have h:=eq_false b;simp only[HG,↓C2,HB,simprocAttr,Ae S38 52,a,Ae S38 53,z,h]
  all_goals exact Y2
def aXg:=y0 Tryz.f156 [(2,[(3,1),(4,1)])] []
def aW6:=y0 f232 [] []
def aHY(w:World)(k:Nat)(b:0<k)(g:k<=1000000):
  Calls Qe 283 #[.slice none 0 0,.int .i64 (k:Int)] w λe w'=>e= .returned (.slice (some ⟨w.heap.size,0,none⟩) 0 (grownCap w k 0 9))∧w'=w.drew.alloc (.cells (Builtin.zeroCells #[.string .empty] k++Builtin.zeroCells #[.string .empty] (grownCap w k 0 9-k)) 9):=by
 have z:=Lib.run_append_nil_zeros (P:=Qe) w 23 3 23 9 Tryz.t9 (.string .empty) .i64 .i64 underlying23 underlying3 Z Z k b V O (by show k*16<=_;omega)
 go_enter func283,ntmps283
 go_wp2_with (first|(at_builtin;refine Lib.wpList_append_run _ rfl _ _ _ _ rfl _ _ rfl rfl _ _ z ?_))
 all_goals go_ret
 all_goals exact⟨rfl,rfl⟩
def aYS:(DV 9).ok Qe 283:=by
 refine Ny (sz:=1) ⟨_,func283,Z,Z⟩ V ⟨Tryz.t9,(.string .empty),Z,Z,Z,Z⟩ (λw k b g=>?_);refine(aHY w k b g).mono ?_;rintro e w' ⟨rfl,rfl⟩;refine⟨_,_,grownCap_le_maxLen w k 0 9 Xq,?_,rfl,rfl⟩;have x:=grownCap_ge w k 0 9;simp only[Zf,size_zeroCells];simp;omega
def aBu(w:World)(k:Nat)(b:0<k)(g:k<=1000000):
  Calls Qe 284 #[.slice none 0 0,.int .i64 (k:Int)] w λe w'=>e= .returned (.slice (some ⟨w.heap.size,0,none⟩) 0 (grownCap w k 0 4))∧w'=w.drew.alloc (.cells (Builtin.zeroCells #[.bool false] k++Builtin.zeroCells #[.bool false] (grownCap w k 0 4-k)) 4):=by
 have z:=Lib.run_append_nil_zeros (P:=Qe) w 160 3 160 4 Tryz.t4 (.bool false) .i64 .i64 underlying160 underlying3 Z Z k b V O (by show k*1<=_;omega)
 go_enter func284,ntmps284
 go_wp2_with (first|(at_builtin;refine Lib.wpList_append_run _ rfl _ _ _ _ rfl _ _ rfl rfl _ _ z ?_))
 all_goals go_ret
 all_goals exact⟨rfl,rfl⟩
def aWE:(DV 4).ok Qe 284:=by
 refine Ny (sz:=1) ⟨_,func284,Z,Z⟩ V ⟨Tryz.t4,(.bool false),Z,Z,Z,Z⟩ (λw k b g=>?_);refine(aBu w k b g).mono ?_;rintro e w' ⟨rfl,rfl⟩;refine⟨_,_,grownCap_le_maxLen w k 0 4 Xq,?_,rfl,rfl⟩;have x:=grownCap_ge w k 0 4;simp only[Zf,size_zeroCells];simp;omega
def aBt(w:World)(k:Nat)(b:0<k)(g:k<=1000000):
  Calls Qe 285 #[.slice none 0 0,.int .i64 (k:Int)] w λe w'=>e= .returned (.slice (some ⟨w.heap.size,0,none⟩) 0 (grownCap w k 0 23))∧w'=w.drew.alloc (.cells (Builtin.zeroCells #[.slice none 0 0] k++Builtin.zeroCells #[.slice none 0 0] (grownCap w k 0 23-k)) 23):=by
 have z:=Lib.run_append_nil_zeros (P:=Qe) w 161 3 161 23 t23 (.slice none 0 0) .i64 .i64 underlying161 underlying3 Z Z k b V O (by show k*24<=_;omega)
 go_enter func285,ntmps285
 go_wp2_with (first|(at_builtin;refine Lib.wpList_append_run _ rfl _ _ _ _ rfl _ _ rfl rfl _ _ z ?_))
 all_goals go_ret
 all_goals exact⟨rfl,rfl⟩
def aWD:(DV 23).ok Qe 285:=by
 refine Ny (sz:=1) ⟨_,func285,Z,Z⟩ V ⟨t23,(.slice none 0 0),Z,Z,Z,Z⟩ (λw k b g=>?_);refine(aBt w k b g).mono ?_;rintro e w' ⟨rfl,rfl⟩;refine⟨_,_,grownCap_le_maxLen w k 0 23 Xq,?_,rfl,rfl⟩;have x:=grownCap_ge w k 0 23;simp only[Zf,size_zeroCells];simp;omega
def aWJ:Fn Qe 229 36 (G7 9 9 1 16 283) [.t 2]:=⟨f229,_,func229,rfl,Z,rfl,Z,Z⟩
def S39:=Aq [(283,DV 9)]
def R39:=RF S39 (G7 9 9 1 16 283) [.t 2] 36
def aVO:Kq R39 229:=An aWJ (Aa aYS Ad)
def qB{nl:Bool}{xs:List D}{x:D}(hl:xs.length<=1000)(j:(xs++[x]).all (kP 1)=true):R39 [.slice false [] [.slice nl [] xs,.slice false [] [x]]]=some (.slice false [] (xs++[x])):=
 Am (Qa rfl) (SL (P:=Qe) (f:=39) O rfl (by simp[FD]) (Qa rfl) U Xb j λt m z=>⟨rfl,rfl⟩)
def aWI:Fn Qe 230 36 (G7 9 4 1 1 284) [.t 2]:=⟨f230,_,func230,rfl,Z,rfl,Z,Z⟩
def S40:=Aq [(284,DV 4)]
def R40:=RF S40 (G7 9 4 1 1 284) [.t 2] 36
def aY5:Kq R40 230:=An aWI (Aa aWE Ad)
def aSP{nl:Bool}{xs:List D}{x:D}(hl:xs.length<=1000)(j:(xs++[x]).all (kP 1)=true):R40 [.slice false [] [.slice nl [] xs,.slice false [] [x]]]=some (.slice false [] (xs++[x])):=
 Am (Qa rfl) (SL (P:=Qe) (f:=40) O rfl (by simp[FD]) (Qa rfl) U Xb j λt m z=>⟨rfl,rfl⟩)
def aWH:Fn Qe 231 36 (G7 9 23 1 24 285) [.t 2]:=⟨f231,_,func231,rfl,Z,rfl,Z,Z⟩
def S41:=Aq [(285,DV 23)]
def R41:=RF S41 (G7 9 23 1 24 285) [.t 2] 36
def aY4:Kq R41 231:=An aWH (Aa aWD Ad)
def aSO{nl:Bool}{xs:List D}{x:D}(hl:xs.length<=1000)(j:(xs++[x]).all (kP 1)=true):R41 [.slice false [] [.slice nl [] xs,.slice false [] [x]]]=some (.slice false [] (xs++[x])):=
 Am (Qa rfl) (SL (P:=Qe) (f:=41) O rfl (by simp[FD]) (Qa rfl) U Xb j λt m z=>⟨rfl,rfl⟩)
def strsD(l:List Bs):List D:=l.map .str
def aBK(l:List Bs):aF (strsD l) 1=1:=XB
def AR(l:List Bs):(strsD l).length=l.length:=Qy ..
def DK{l:List Bs}{j:Nat}(h:j<l.length):(strsD l)[j]?=some (.str l[j]):=by simp[strsD,Qi h]
structure Kn where
 es:List (Bs×Bs×Bool)
 ls:List (Bs×Bool×List Bs)
def lsD(x:Bs×Bool×List Bs):D:= .slice x.2.1 [] (strsD x.2.2)
def Im(k:Kn):List D:=[.slice k.es.isEmpty [] (k.es.map λx=> .str x.1),.slice k.es.isEmpty [] (k.es.map λx=> .str x.2.1),.slice k.es.isEmpty [] (k.es.map λx=> .bool x.2.2),.slice k.ls.isEmpty [] (k.ls.map λx=> .str x.1),.slice k.ls.isEmpty [] (k.ls.map lsD)]
def aFN{α:Type}{f:α->D}(h:∀x,kP 1 (f x)=true)(l:List α)(y:α):(l.map f++[f y]).all (kP 1)=true:=by
 simp_all
def aXu{α:Type}(l:List α)(x:α):(l++[x]).isEmpty=false:=XB
def S42:=Aq []
def R42:=RF S42 aW6 [.t 2] 8
def aY3:Kq R42 232:=An (Aj func232) Ad
def aSN{nl:Bool}{l:List Bs}(hl:l.length<=100000)(w:nl=true->l=[]):R42 [.slice nl [] (strsD l)]=some (.slice nl [] (strsD l)):=by
 refine Am (Qa rfl) ?_;unfold aW6;cases nl with
 |true=>
  rw[w rfl];simp only[↓C2,HH,Iz,HB,simprocAttr]
  all_goals exact Y2
 |false=>
  simp only[↓C2,HH,HZ,HB,simprocAttr];refine aB ⟨by rw[AR];omega,aBK l,.inr ⟨rfl,U⟩⟩ ?_;simp only[↓C2,HE,HB,simprocAttr]
def S12:=Aq [(229,Ac R39),(230,Ac R40)]
def R12:=RF S12 aXh [.cell (some 5) 8] 31
def aY8:Kq R12 155:=An (Aj func155) (Aa aVO (Aa aY5 Ad))
def aTh(k:Kn)(t d:Bs)(i:Bool)(hl:k.es.length<=1000):R12 [.agg (Im k),.str t,.str d,.bool i]=some (.agg (Im {k with es:=k.es++[(t,d,i)]})):=by
 refine Am (Qa rfl) ?_;unfold aXh;have u:=qB (nl:=k.es.isEmpty) (xs:=k.es.map λx=> .str x.1) (x:= .str t) Xk (aFN (f:=λx:Bs×Bs×Bool=> .str x.1) (λ_=>rfl) k.es (t,d,i));have y:=qB (nl:=k.es.isEmpty) (xs:=k.es.map λx=> .str x.2.1) (x:= .str d) Xk (aFN (f:=λx:Bs×Bs×Bool=> .str x.2.1) (λ_=>rfl) k.es (t,d,i));have o:=aSP (nl:=k.es.isEmpty) (xs:=k.es.map λx=> .bool x.2.2) (x:= .bool i) Xk (aFN (f:=λx:Bs×Bs×Bool=> .bool x.2.2) (λ_=>rfl) k.es (t,d,i));unfold Im;simp only[Q_,QD,Q2,aXu];simp only[HG,↓C2,HB,simprocAttr,Ae S12 229,u,y,Ae S12 230,o]
 all_goals exact Y2
def S13:=Aq [(229,Ac R39),(231,Ac R41),(232,Ac R42)]
def R13:=RF S13 aXg [.cell (some 5) 6] 23
def aY7:Kq R13 156:=An (Aj func156) (Aa aVO (Aa aY4 (Aa aY3 Ad)))
def aTg(k:Kn)(p:Bs)(nl:Bool)(l:List Bs)(hl:k.ls.length<=1000)(i:l.length<=100000)(w:nl=true->l=[]):R13 [.agg (Im k),.str p,.slice nl [] (strsD l)]=some (.agg (Im {k with ls:=k.ls++[(p,nl,l)]})):=by
 refine Am (Qa rfl) ?_;unfold aXg;have u:=qB (nl:=k.ls.isEmpty) (xs:=k.ls.map λx=> .str x.1) (x:= .str p) Xk (aFN (f:=λx:Bs×Bool×List Bs=> .str x.1) (λ_=>rfl) k.ls (p,nl,l));have y:=aSN (nl:=nl) (l:=l) i w;have o:=aSO (nl:=k.ls.isEmpty) (xs:=k.ls.map lsD) (x:=lsD (p,nl,l)) Xk (aFN (f:=lsD) (λ_=>rfl) k.ls (p,nl,l));have m:lsD (p,nl,l)= .slice nl [] (strsD l):=rfl;rw[m]at o;unfold Im;simp only[Q_,QD,Q2,aXu,m];simp only[HG,↓C2,HB,simprocAttr,Ae S13 229,u,Ae S13 232,y,Ae S13 231,o];refine A0 ?_;simp only[HG,↓C2,HB,simprocAttr]
 all_goals exact Y2
def B2:List Bs->Bs->Int
 |[],_=>-1
 |x::r,s=>if 0<=B2 r s then B2 r s+1 else if x=s then 0 else-1
def Fx:∀(l:List Bs)(s:Bs),-1<=B2 l s∧B2 l s<l.length
 |[],s=>by simp[B2]
 |x::r,s=>by
  have:=Fx r s;unfold B2;simp only[Qg];split
  ·omega
  ·split<;>omega
def Sl:∀{l:List Bs} {s:Bs},(∀i (h:i<l.length),l[i]≠s)->B2 l s=-1
 |[],s,_=>rfl
 |x::r,s,h=>by
  have ih:=Sl (l:=r) (s:=s) (λi hi=>h (i+1) (by simpa using hi));have b:x≠s:=h 0 U;simp[B2,ih,b]
def fI:∀{l:List Bs} {s:Bs} {j:Nat} (z:j<l.length),l[j]=s->(∀i (h:i<l.length),j<i->l[i]≠s)->B2 l s=j
 |x::r,s,0,z,hx,h=>by
  have ih:=Sl (l:=r) (s:=s) (λi hi=>h (i+1) (by simpa using hi) O);have b:x=s:=hx;simp[B2,ih,b]
 |x::r,s,j+1,z,hx,h=>by
  have ih:=fI (l:=r) (s:=s) (j:=j) Xw (by simpa using hx) (λi hi e=>h (i+1) (by simpa using hi) O);unfold B2;rw[if_pos O,ih];omega
def aZD:=Aq []
def aAW:=RF aZD aOf [.t 4] 20
def aMJ:Kq aAW 270:=An (Aj func270) Ad
def vN{nl:Bool}{l:List Bs}(q:Bs)(hl:l.length<=1000):aAW [.slice nl [] (strsD l),.str q]=some (.int .i64 (B2 l q)):=by
 refine Am (Qa rfl) ?_;unfold aOf;have k:IntKind.i64.wrap ((l.length:Int)-1)=(l.length:Int)-1:=H9 O O;simp only[↓C2,HH,simprocAttr,AR,k];refine BX (n:=l.length) (I:=λj v=>v.s 0= .slice nl [] (strsD l)∧v.s 1= .str q∧v.s 5= .int .i64 ((l.length:Int)-1-j)∧∀i (h:i<l.length),l.length<=i+j->l[i]≠q) (λj z ih v g d=>?_) (λv g d=>?_) 0 (Qu _) _ _ ⟨rfl,rfl,by rw[show((0:Nat):Int)=0 from rfl,Int.sub_zero];rfl,λi h y=>O⟩
 ·obtain⟨ma,t,c⟩:=v;obtain⟨b,u,h5,f⟩:=d;simp only at b u h5;refine Af Wu.eq_1 ?_;have x:(0:Int)<=(l.length:Int)-1-j:=by omega
  have hw:IntKind.i64.wrap ((l.length:Int)-1-j-1)=(l.length:Int)-1-((j+1:Nat):Int):=Xi
  have hi:((l.length:Int)-1-j).toNat=l.length-1-j:=O
  have o:=DK (l:=l) (j:=l.length-1-j) O;by_cases p:l[l.length-1-j]' O=q
  ·have e:=fI O p (λi h y=>f i h O);have r:=eq_true p;have w:((l.length-1-j:Nat):Int)=(l.length:Int)-1-j:=by omega
   simp only[↓C2,HE,HB,simprocAttr,b,u,h5,x,hi,o,r];rw[e,w]
   all_goals exact Y2
  ·have r:=eq_false p;simp only[↓C2,HE,HB,simprocAttr,b,u,h5,x,hi,o,r,hw];refine ih _ _ ⟨b,u,rfl,λi h y=>?_⟩;by_cases qa:l.length<=i+j
   ·exact f i h qa
   ·grind
 ·obtain⟨b,u,h5,f⟩:=d;refine Af Wu.eq_1 ?_;have x:¬(0:Int)<=(l.length:Int)-1-(l.length:Int):=by omega
  have e:=Sl (l:=l) (s:=q) (λi h=>f i h O);simp only[↓C2,HE,HB,simprocAttr,h5,x];rw[e]
  all_goals exact Y2
def F5(k:Kn):List Bs:=k.es.map (·.1)
def CU(k:Kn)(q:Bs):Bs×Bool×Bool:=if B2 (F5 k) q<0 then([],false,false)else((k.es.getD (B2 (F5 k) q).toNat ([],[],false)).2.1,(k.es.getD (B2 (F5 k) q).toNat ([],[],false)).2.2,true)
def FL(k:Kn)(q:Bs):Bool×List Bs×Bool:=if B2 (k.ls.map (·.1)) q<0 then(true,[],false)else((k.ls.getD (B2 (k.ls.map (·.1)) q).toNat ([],true,[])).2.1,(k.ls.getD (B2 (k.ls.map (·.1)) q).toNat ([],true,[])).2.2,true)
def aSI:=Aq [(270,Ac aAW)]
def PL:=RF aSI aOV [.t 4,.t 5,.t 6] 37
def aMN:Kq PL 220:=An (Aj func220) (Aa aMJ Ad)
def Rr(k:Kn)(q:Bs)(hl:k.es.length<=1000):PL [.agg (Im k),.str q]=some (.tup [.str (CU k q).1,.bool (CU k q).2.1,.bool (CU k q).2.2]):=by
 refine Am (Qa rfl) ?_;unfold aOV;have a:aAW [.slice k.es.isEmpty [] (k.es.map λx=> .str x.1),.str q]=some (.int .i64 (B2 (F5 k) q)):=by
  have e:=vN (nl:=k.es.isEmpty) (l:=F5 k) q (by simpa[F5]using hl);simpa[strsD,F5,Function.comp_def]using e
 have f:=Fx (F5 k) q;have o:(F5 k).length=k.es.length:=Qy ..;rw[o]at f;unfold CU Im;generalize B2 (F5 k) q=i at *;by_cases c:i<0
 ·simp only[↓C2,HE,HB,simprocAttr,Ae aSI 270,a,c]
  all_goals exact Y2
 ·have hi:i.toNat<k.es.length:=by omega
  have b:(0:Int)<=i:=O
  have c1:(i<(k.es.length:Int))=True:=eq_true O;have z:(k.es.map λx=>D.str x.2.1)[i.toNat]?=some (.str (k.es.getD i.toNat ([],[],false)).2.1):=by simp[Qi hi]
  have u:(k.es.map λx=>D.bool x.2.2)[i.toNat]?=some (.bool (k.es.getD i.toNat ([],[],false)).2.2):=by simp[Qi hi]
  generalize k.es.getD i.toNat ([],[],false)=x at *;simp only[↓C2,HE,HB,simprocAttr,Ae aSI 270,a,c,b,c1,z,u,Qy];refine A0 ?_;simp only[↓C2,HE,HB,simprocAttr]
  all_goals exact Y2
def aSJ:=Aq [(270,Ac aAW)]
def qC:=RF aSJ aOY [.t 4,.t 5] 27
def aWB:Kq qC 215:=An (Aj func215) (Aa aMJ Ad)
def aLm(k:Kn)(q:Bs)(hl:k.ls.length<=1000):qC [.agg (Im k),.str q]=some (.tup [.slice (FL k q).1 [] (strsD (FL k q).2.1),.bool (FL k q).2.2]):=by
 refine Am (Qa rfl) ?_;unfold aOY;have a:aAW [.slice k.ls.isEmpty [] (k.ls.map λx=> .str x.1),.str q]=some (.int .i64 (B2 (k.ls.map (·.1)) q)):=by
  have e:=vN (nl:=k.ls.isEmpty) (l:=k.ls.map (·.1)) q Xk;simpa[strsD,Function.comp_def]using e
 have f:=Fx (k.ls.map (·.1)) q;have o:(k.ls.map (·.1)).length=k.ls.length:=Qy ..;rw[o]at f;unfold FL Im;generalize B2 (k.ls.map (·.1)) q=i at *;by_cases c:i<0
 ·have b:¬(0:Int)<=i:=by omega
  simp only[↓C2,HE,HB,simprocAttr,Ae aSJ 270,a,c,b]
  all_goals exact Y2
 ·have hi:i.toNat<k.ls.length:=by omega
  have b:(0:Int)<=i:=O
  have c1:((k.ls.length:Int)<=i)=False:=eq_false O;have z:(k.ls.map lsD)[i.toNat]?=some (.slice (k.ls.getD i.toNat ([],true,[])).2.1 [] (strsD (k.ls.getD i.toNat ([],true,[])).2.2)):=by simp[Qi hi,lsD]
  generalize k.ls.getD i.toNat ([],true,[])=x at *;simp only[↓C2,HE,HB,simprocAttr,Ae aSJ 270,a,c,b,c1,z,Qy]
  all_goals exact Y2
structure Dk where
 n1:Bool
 its:List (Bs×Bs×Bool)
 n2:Bool
 lss:List (Bs×Bool×List Bs)
def A2(k:Kn)(q:Bs)(li:Bool)(d:Dk):Kn:=
 if li=true then {k with ls:=k.ls++[(q,((d.lss.find? λx=>decide (x.1=q)).getD ([],true,[])).2)]}else {k with es:=k.es++[(q,((d.its.find? λx=>decide (x.1=q)).getD ([],[],false)).2)]}
def aNQ:=y0 f182 [] []
def aOE:=y0 f120 [] []
def aOF:=y0 f119 [] []
def aNH:=y0 f125 [] []
def aNG:=y0 f126 [] []
def aNF:=y0 f127 [] []
def plV:D->Value
 | .str s=> .string ⟨s.toArray⟩
 | .int k n=> .int k n
 | .bool b=> .bool b
 |_=>undef
def aQq{w:World}{g:Gh}{d:D}{v:Value}(h:Rep w g d v)(y:d.plain=true):v=plV d:=by
 cases h with
 |bool b=>rfl
 |int k n=>rfl
 |str s=>rfl
 |_=>cases y
def VF {P:Program} {f:FuncId} {F:List D→Option D} (b:∃a,P.funcs[f]?=some a∧a.body.isSome=true∧(a.name== "runtime.NumGoroutine")=false)
  (h:∀ds r,F ds=some r->(∀d∈ds,d.plain=true)∧∃v,(∀w g,Rep w g r v)∧∀w:World,Calls P f (ds.map plV).toArray w λe w'=>e= .returned v∧Below w.heap.size w w'):(Ac F).ok P f:=by
 refine⟨b,λds m m' fr _=>rfl,?_⟩;intro B w0 w m g fr ds vs r u hi n hl c z;simp only[Ac]at z;split at z
 ·rename_i la;rw[QZ]at z;obtain⟨r',k,z⟩:=z;simp only[QC]at z;obtain⟨rfl,rfl⟩:=z;obtain⟨y,v,hv,s⟩:=h _ _ k;have t:vs=(ds.map D.un).map plV:=by
   apply List.ext_getElem?;intro j;by_cases p:j<vs.length
   ·have x:j<ds.length:=by omega
    have e:=(c j _ _ (Qi x) (Qi p)).un;have o:(ds.map D.un)[j]?=some ds[j].un:=by rw[Zv,Qi x];rfl
    rw[Qi p,Zv,o,aQq e (y _ (List.mem_of_getElem? o))];rfl
   ·simp_all
  subst t;refine(s w).mono ?_;rintro ev w' ⟨rfl,q⟩;exact⟨_,g.over w w',rfl,hi.over q,H5.over hi.gz q,hv _ _,λi hf _=>hf⟩
 ·cases z
def IX:List D->Option D
 |[.str s,.str [c]]=>some (.int .i64 (Lib.indexByte s c))
 |_=>none
def aWd:Kq IX 164:=VF ⟨_,func164,Z,Z⟩ λds r h=>by
 unfold IX at h;split at h
 ·rename_i s c;simp only[Ql]at h;subst h;refine⟨λd z=>?_,_,λw g=> .int _ _,λw=>?_⟩
  ·simp only[QO,QV,or_false]at z;rcases z with rfl|rfl<;>rfl
  ·refine(Go.Proofs.Any.strings_Index_one (P:=Qe) (ρ:=aN) {aS with} ⟨s.toArray⟩ c w).mono ?_;rintro e w' ⟨rfl,rfl⟩;exact⟨rfl,Below.refl _ _⟩
 ·cases h
def aVV:Kq IX 237:=VF ⟨_,func237,Z,Z⟩ λds r h=>by
 unfold IX at h;split at h
 ·rename_i s c;simp only[Ql]at h;subst h;refine⟨λd z=>?_,_,λw g=> .int _ _,λw=>?_⟩
  ·simp only[QO,QV,or_false]at z;rcases z with rfl|rfl<;>rfl
  ·refine(Go.Proofs.Any.stringslite_Index_one (P:=Qe) (ρ:=aN) {aS with} ⟨s.toArray⟩ c w).mono ?_;rintro e w' ⟨rfl,rfl⟩;exact⟨rfl,Below.refl _ _⟩
 ·cases h
def aDz:∀(s:Bs)(c:UInt8),decide (0<=Lib.indexByte s c)=s.any (·==c)
 |[],c=>rfl
 |b::l,c=>by
  have ih:=aDz l c;unfold Lib.indexByte;cases hb:b==c with
  |true=>simp[hb]
  |false=>
   simp only[ZE,hb,ZF,←ih];rw[if_neg QK];cases h1:Lib.indexByte l c==-1 with
   |true=>rw[if_pos rfl];have:=beq_iff_eq.1 h1;rw[this]
   |false=>
    rw[if_neg QK];have p:Lib.indexByte l c≠-1:=by intro e;rw[e]at h1;simp at h1
    have t:-1<=Lib.indexByte l c:=by
     clear ih hb h1 p;induction l with
     |nil=>simp[Lib.indexByte]
     |cons x r ih=>unfold Lib.indexByte;split<;>first|omega|(split<;>omega)
    congr 1;exact propext O
def Su(s:Bs)(c:UInt8):Bool:=s.any (·==c)
def mH(s:Bs):Bool:=decide (s≠[])&&(decide (s≠[45])&&(decide (s.length<=64)&&(!Su s 32&&!Su s 44)))
def aXF:=Aq [(164,Ac IX)]
def aS3:=RF aXF aNQ [.t 4] 9
def aV7:Kq aS3 182:=An (Aj func182) (Aa aWd Ad)
def aKQ(s:Bs)(c:UInt8):aS3 [.str s,.str [c]]=some (.bool (Su s c)):=by
 refine Am (Qa rfl) ?_;unfold aNQ;have a:IX [.str s,.str [c]]=some (.int .i64 (Lib.indexByte s c)):=rfl;have e:=aDz s c;simp only[↓C2,HE,HB,simprocAttr,Ae aXF 164,a];rw[e]
 all_goals exact Y2
def aSG:=Aq [(182,Ac aS3)]
def aYa:=RF aSG aOE [.t 2] 24
def aWq:Kq aYa 120:=An (Aj func120) (Aa aV7 Ad)
def aLa(s:Bs):aYa [.str s]=some (.bool (mH s)):=by
 refine Am (Qa rfl) ?_;unfold aOE;have a:=aKQ s;unfold mH;by_cases c1:s=[]
 ·have j:=eq_true c1;simp only[↓C2,HE,HB,simprocAttr,j]
  all_goals exact Y2
 have j:=eq_false c1;by_cases c2:s=[45]
 ·have r:=eq_true c2;simp only[↓C2,HE,HB,simprocAttr,j,r]
  all_goals exact Y2
 have r:=eq_false c2;by_cases t:s.length<=64
 ·have f:((s.length:Int)<=64)=True:=eq_true O;cases c4:Su s 32 with
  |true=>
   simp only[↓C2,HE,HB,simprocAttr,j,r,f,c4,Ae aSG 182,a]
   all_goals exact Y2
  |false=>
   simp only[↓C2,HE,HB,simprocAttr,j,r,f,c4,Ae aSG 182,a]
   all_goals exact Y2
 ·have f:((s.length:Int)<=64)=False:=eq_false O;simp only[↓C2,HE,HB,simprocAttr,j,r,f]
  all_goals exact Y2
def aSh:(Lv λc x=>match x with| .str s=>some (.bool (!mH s))|_=>none).ok Qe 119:=by
 obtain⟨S,g,hl⟩:=By (Aa aWq Ad);have b:=hl 120 _ rfl;clear hl;refine OT (S:=S) g (Aj func119:Fn Qe 119 6 aOF [.t 2]) (λx caps m fr c d p z j hl=>⟨O,?_⟩);split at z
 ·rename_i s;simp only[Ql]at z;subst z;have a:=aLa s;unfold aOF;simp only[↓C2,HE,HB,simprocAttr,Ab b,a]
  try exact λi o y h=>h
 ·cases z
def KN:D->D->Option D:=λc x=>match x with| .str s=>some (.bool (!mH s))|_=>none
def aJJ:(Gp 119 none KN).ok Qe 181:=OF O aM4 rfl aSh
def aSb:(kS 119 none KN).ok Qe 118:=uK O aM8 aJJ
def aAl{l:List Bs}{nl:Bool}{t:Id}(hl:l.length<=1000000)(m:HF)(fr:Id):
  (kS 119 none KN).ex [.slice nl t (strsD l),.fn 119 []] m fr=some (.bool (l.any λs=>!mH s),[]):=by
 have e:(strsD l).map (KN .junk)=(l.map λs=>!mH s).map λb=>some (.bool b):=by
  simp only[strsD,QR];exact Q3 λr _=>rfl
 have j:(strsD l).all (tW none)=true:=by
  rw[QT];intro x p;obtain⟨r,_,rfl⟩:=QL.1 p;rfl
 simp only[kS,AR,hl,j,and_self,if_true,Gt,Qj,e,DD,Qv];simp only[Zt];rfl
def aZy:=Aq []
def aS7:=RF aZy aNT [.t 4] 26
def aWb:Kq aS7 179:=An (Aj func179) Ad
def aKV{n1 n2:Bool}{l:List Bs}(hl:l.length<=100000):aS7 [.slice n1 [] (strsD l),.slice n2 [] (strsD l)]=some (.bool true):=by
 refine Am (Qa rfl) ?_;unfold aNT;simp only[↓C2,HH,HZ,HB,simprocAttr,AR];refine BX (n:=l.length) (I:=λj v=>v.s 0= .slice n1 [] (strsD l)∧v.s 1= .slice n2 [] (strsD l)∧v.s 12= .int .i64 l.length∧v.s 13= .int .i64 (j:Int)) (λj z ih v g e=>?_) (λv g e=>?_) 0 (Qu _) _ _ ⟨rfl,rfl,rfl,rfl⟩
 ·obtain⟨i,y,c⟩:=v;obtain⟨b,u,f,q⟩:=e;simp only at b u f q;refine Af Wn.eq_1 ?_;have d:((j:Int)<l.length):=by omega
  have a:=nJ (j:=j);have k:=wJ (j:=j) O;have o:=DK z;simp only[↓C2,HE,HB,simprocAttr,b,u,f,q,d,a,Qh,o];refine A0 ?_;simp only[↓C2,HH,HB,simprocAttr,q,k];exact ih _ _ ⟨b,u,f,rfl⟩
 ·obtain⟨b,u,f,q⟩:=e;refine Af Wn.eq_1 ?_;simp only[↓C2,HE,HB,simprocAttr,f,q,Qz]
  all_goals exact Y2
def aZo:=Aq []
def aST:=RF aZo aNo [.t 4] 26
def aVT:Kq aST 244:=An (Aj func244) Ad
def aKC{n1 n2:Bool}{l:List Rw}(hl:l.length<=100000):aST [.slice n1 [] (Bd l),.slice n2 [] (Bd l)]=some (.bool true):=by
 refine Am (Qa rfl) ?_;unfold aNo;simp only[↓C2,HH,HZ,HB,simprocAttr,AS];refine BX (n:=l.length) (I:=λj v=>v.s 0= .slice n1 [] (Bd l)∧v.s 1= .slice n2 [] (Bd l)∧v.s 12= .int .i64 l.length∧v.s 13= .int .i64 (j:Int)) (λj z ih v g e=>?_) (λv g e=>?_) 0 (Qu _) _ _ ⟨rfl,rfl,rfl,rfl⟩
 ·obtain⟨i,y,c⟩:=v;obtain⟨b,u,f,q⟩:=e;simp only at b u f q;refine Af Wk.eq_1 ?_;have d:((j:Int)<l.length):=by omega
  have a:=nJ (j:=j);have k:=wJ (j:=j) O;have o:=FV z;have t:Bn [.int .i64 l[j].1,.bool l[j].2.1,.bool l[j].2.2] [.int .i64 l[j].1,.bool l[j].2.1,.bool l[j].2.2] [(0,0),(1,1),(1,2)]=some true:=by simp[Bn,ME]
  simp only[Qv,↓C2,HE,HB,simprocAttr,b,u,f,q,d,a,Qh,o,t];refine A0 ?_;simp only[↓C2,HH,HB,simprocAttr,q,k];exact ih _ _ ⟨b,u,f,rfl⟩
 ·obtain⟨b,u,f,q⟩:=e;refine Af Wk.eq_1 ?_;simp only[↓C2,HE,HB,simprocAttr,f,q,Qz]
  all_goals exact Y2
def aXG:=Aq [(244,Ac aST)]
def aS6:=RF aXG aNS [.t 4] 31
def aWa:Kq aS6 180:=An (Aj func180) (Aa aVT Ad)
def aKU(s:Sc)(hl:s.rs.length<=100000):aS6 [.agg (HO s),.agg (HO s)]=some (.bool true):=by
 refine Am (Qa rfl) ?_;unfold aNS;have a:=aKC (n1:=s.nl) (n2:=s.nl) hl;unfold HO;simp only[↓C2,HE,HB,simprocAttr,Ae aXG 244,a]
 all_goals exact Y2
def aYg:List D->Option D:=FX (λs:Bs=>[.str s]) (λ_=>True) (λs=> .str (if s=[]then [45]else s))
def W6(s:Bs):aYg [.str s]=some (.str (if s=[]then [45]else s)):=Ca (mk:=λs:Bs=>[.str s]) (λa b h=>Xr) trivial
def aUy:Kq aYg 331:=by
 refine C8 (S:=λ_=>none) Ba (Aj func331:Fn Qe 331 6 aNr [.t 2]) (λ_=>U) (λs _=>?_);unfold aNr;cases s with
 |nil=>
  simp only[↓C2,HE,reduceIte,Qb,Qd,and_self]
  all_goals exact Y3
 |cons x r=>
  have c:((x::r)==([]:Bs))=false:=rfl;simp only[↓C2,HE,reduceIte,Qb,Qd,reduceCtorEq]
  all_goals exact Y3
def GL(n:Nat):Bs:=if n<10 then [OG n]else if n<100 then [OG (n / 10),OG (n % 10)]else [OG (n / 100),OG (n / 10 % 10),OG (n % 10)]
def aTo:List D->Option D:=FX (λn:Nat=>[.int .i64 (n:Int)]) (λn=>n<1000) (λn=> .str (GL n))
def W7{n:Nat}(h:n<1000):aTo [.int .i64 (n:Int)]=some (.str (GL n)):=Ca (mk:=λn:Nat=>[.int .i64 (n:Int)]) (λa b h=>by simp only[Qc,D.int.injEq,true_and,and_true]at h;omega) h
def Vk(n:Nat):(n:Int).tmod 10=((n % 10:Nat):Int):=by rw[Int.tmod_eq_emod_of_nonneg O];omega
def Vl(n:Nat)(h:n<1000):IntKind.i64.wrap ((n:Int).tdiv 10)=((n / 10:Nat):Int):=by
 grind [H9]
def aMg:Kq aTo 330:=by
 refine C8 (S:=λ_=>none) Ba (Aj func330:Fn Qe 330 23 aNs [.t 2]) (λ_=>U) (λn w=>?_);have t0:=Sr (n % 10) O;have q:=Sr (n / 10 % 10) O;have f:=Sr (n / 10 / 10 % 10) O;have m0:=Vk n;have a:=Vk (n / 10);have i:=Vk (n / 10 / 10);have z:=Vl n w;have o:=Vl (n / 10) O;have p:=Vl (n / 10 / 10) O;have z0:(0:Int)<=((n % 10:Nat):Int):=O
 have j:(0:Int)<=((n / 10 % 10:Nat):Int):=O
 have r:(0:Int)<=((n / 10 / 10 % 10:Nat):Int):=O
 have ten:((10:Int)=0)=False:=U
 unfold aNs GL;by_cases u:n<10
 ·have g:¬((0:Int)<((n / 10:Nat):Int)):=by omega
  have e:n % 10=n:=O
  simp only[↓C2,HE,reduceIte,Qb,Qd,m0,z0,t0,z,ten,ne_eq,Qh,Qg,Qm,Qp];refine Af IE.eq_1 ?_;simp only[↓C2,HE,reduceIte,Qb,Qd,g,u];rw[e,UInt8.ofNat_toNat]
  all_goals exact Y3
 ·have g:((0:Int)<((n / 10:Nat):Int)):=by omega
  by_cases y:n<100
  ·have x:¬((0:Int)<((n / 10 / 10:Nat):Int)):=by omega
   have e:n / 10 % 10=n / 10:=O
   rw[e]at q a j;simp only[↓C2,HE,reduceIte,Qb,Qd,m0,z0,t0,z,ten,ne_eq,Qh,Qg,Qm,Qp];refine Af IE.eq_1 ?_;simp only[↓C2,HE,reduceIte,Qb,Qd,g,a,j,q,o,ten,ne_eq,Qh,Qt,Qg,Qm,Qp,Qf];refine Af IE.eq_1 ?_;simp only[↓C2,HE,reduceIte,Qb,Qd,x,u,y,UInt8.ofNat_toNat,Q0,Zl]
   all_goals exact Y3
  ·have x:((0:Int)<((n / 10 / 10:Nat):Int)):=by omega
   have m:¬((0:Int)<((n / 10 / 10 / 10:Nat):Int)):=O
   have e:n / 10 / 10 % 10=n / 100:=O
   rw[e]at f i r;simp only[↓C2,HE,reduceIte,Qb,Qd,m0,z0,t0,z,ten,ne_eq,Qh,Qg,Qm,Qp];refine Af IE.eq_1 ?_;simp only[↓C2,HE,reduceIte,Qb,Qd,g,a,j,q,o,ten,ne_eq,Qh,Qt,Qg,Qm,Qp,Qf];refine Af IE.eq_1 ?_;simp only[↓C2,HE,reduceIte,Qb,Qd,x,i,r,f,p,ten,ne_eq,Qh,Qq,Qt,Qg,Qm,Qp,Qf];refine Af IE.eq_1 ?_;simp only[↓C2,HE,reduceIte,Qb,Qd,m,u,y,UInt8.ofNat_toNat,Q0,Zl]
   all_goals exact Y3
def aTp:List D->Option D:=FX (λs:Bs=>[.str s]) (λs=>s.length<=1000000) (λs=> .str (PH s))
def W8{s:Bs}(h:s.length<=1000000):aTp [.str s]=some (.str (PH s)):=Ca (mk:=λs:Bs=>[.str s]) (λa b h=>Xr) h
def aJi{S:HD}{l:Bs}{Q:Ex->St->Prop}(f:l.length<=1000000)
  (b:∀v t,v.s 3= .slice false t (AF (PH l))->Q (.exit 0) v):
  ∀(n k:Nat)(t:Id) v g,n=l.length-k->k<=l.length->v.s 13= .int .i64 (k:Int)->v.s 12= .int .i64 (l.length:Int)->v.s 11= .slice false [] (AF l)->v.s 3= .slice false t (AF (PH (l.take k)))->Gw v.m v.c 5 false t->
   A9 S [] P5 Q v g:=by
 intro n;induction n with
 |zero=>
  intro k t v g w u q i na o z;refine Af P5.eq_1 ?_;have:¬((k:Int)<l.length):=O
  simp only[↓C2,HH,HZ,reduceIte,Qd,q,i,this];refine b _ t ?_;rw[QG O]at o;simp only[↓C2,reduceIte,Qb,o]
 |succ n ih=>
  intro k t v g w u q i na o z;refine Af P5.eq_1 ?_;have x:((k:Int)<l.length):=O
  have va:(0:Int)<=(k:Int):=O
  have y:k<l.length:=O
  have p:(AF l)[(k:Int).toNat]?=some (.int .u8 (l[k].toNat:Int)):=by simp[AF,y]
  have hw:IntKind.i64.wrap ((k:Int)+1)=(k:Int)+1:=IntWalk.i64_in _ ⟨O,O⟩;have d:=l[k].toNat_lt;have qa:l.take (k+1)=l.take k++[l[k]]:=by rw[Zg,Qi y];rfl
  have r:(l.take k).length=k:=Xb
  have a:(0:Int)<=4:=V
  have a1:=aYt l[k].toNat O;have a2:=aXv l[k].toNat O;have p1:(0:Int)<=((l[k].toNat / 16:Nat):Int):=O
  have p2:(0:Int)<=((l[k].toNat % 16:Nat):Int):=O
  have j:(((l[k].toNat / 16:Nat):Int)).toNat=l[k].toNat / 16:=Qh _;have q2:(((l[k].toNat % 16:Nat):Int)).toNat=l[k].toNat % 16:=Qh _;have t1:=Sr (l[k].toNat / 16) O;have e:=Sr (l[k].toNat % 16) O;simp only[↓C2,HE,reduceIte,Qb,Qd,Qg,Qm,q,i,na,o,x,va,p,a,a1,a2,p1,p2,j,q2,t1,e,false_and,reduceCtorEq];refine aB ⟨by rw[CA,hexB_len,r];omega,rfl,z.grow O⟩ ?_;simp only[↓C2,HE,reduceIte,Qb,Qd];refine A0 ?_;simp only[↓C2,HE,reduceIte,Qb,Qd,q,hw];refine ih (k+1) [v.c+1+3+8] _ _ O O rfl i na ?_ ?_
  ·rw[qa,yX,FE];rfl
  ·grind [Gw.new]
def aMk:Kq aTp 14:=by
 refine C8 (S:=λ_=>none) Ba (Aj func14:Fn Qe 14 29 aNI [.t 2]) (λ_=>U) (λs f=>?_);have k:IntKind.i64.wrap (2*(s.length:Int))=2*(s.length:Int):=IntWalk.i64_in _ ⟨O,O⟩;have x:(0:Int)<=0:=V
 have j:(0:Int)<=2*(s.length:Int):=O
 have y:2*(s.length:Int)*2<=140737488355328:=O
 have b:(0:Int).toNat=0:=rfl;unfold aNI;simp only[↓C2,HE,reduceIte,Qb,Qd,k,x,j];refine aB O ?_;simp only[↓C2,HH,reduceIte,Qb,Qd,b,List.replicate_zero,CA];refine aJi (l:=s) f (λv c u=>?_) s.length 0 [4] _ _ rfl O rfl rfl rfl rfl (.inr ⟨4,rfl,Xa,by simp[BV]⟩);simp only[↓C2,HE,reduceIte,Qb,Qd,u,Df]
 all_goals exact Y3
end Go.Vd
namespace Go.Proofs
open Go.Shelf
def aP:Go.Shelf.Ren:=⟨λ|156=>69|165=>121|166=>122|169=>123|240=>183|241=>184|276=>245|277=>246|n=>n,λ|31=>23|9=>9|3=>3|4=>4|0=>0|20=>20|72=>196|76=>200|70=>194|37=>108|75=>199|127=>252|164=>309|5=>5|80=>159|n=>n,λ|n=>n⟩
def aY:Go.Proofs.Lays.n156 Qe aP:={
 mixed:=Z
 f156:=func69.trans (congrArg some Z)
 f165:=func121.trans (congrArg some Z)
 f166:=func122.trans (congrArg some Z)
 f169:=func123.trans (congrArg some Z)
 f240:=func183.trans (congrArg some Z)
 f241:=func184.trans (congrArg some Z)
 f276:=func245.trans (congrArg some Z)
 f277:=func246.trans (congrArg some Z)
 t0:=underlying0
 a0:=isAgg0
 z0:=sizeOf0
 v0:=zeroValue0
 t3:=underlying3
 a3:=isAgg3
 z3:=sizeOf3
 v3:=zeroValue3
 t4:=underlying4
 a4:=isAgg4
 z4:=sizeOf4
 v4:=zeroValue4
 t9:=underlying9
 a9:=isAgg9
 z9:=sizeOf9
 v9:=zeroValue9
 t20:=underlying20
 a20:=isAgg20
 z20:=sizeOf20
 v20:=zeroValue20
 t31:=underlying23
 a31:=isAgg23
 z31:=sizeOf23
 v31:=zeroValue23
 t37:=underlying108
 a37:=isAgg108
 z37:=sizeOf108
 v37:=zeroValue108
 t70:=underlying194
 a70:=isAgg194
 z70:=sizeOf194
 v70:=zeroValue194
 t72:=underlying196
 a72:=isAgg196
 z72:=sizeOf196
 v72:=zeroValue196
 t75:=underlying199
 a75:=isAgg199
 z75:=sizeOf199
 v75:=zeroValue199
 t76:=underlying200
 a76:=isAgg200
 z76:=sizeOf200
 v76:=zeroValue200
 t127:=underlying252
 a127:=isAgg252
 z127:=sizeOf252
 v127:=zeroValue252
 t164:=underlying309
 a164:=isAgg309
 z164:=sizeOf309
 v164:=zeroValue309}
def aL:Builder.Extra Qe aP:={
 sizeBuilder:=Z
 liesBuilder:=Z
 t5:=underlying5
 a5:=isAgg5
 z5:=sizeOf5
 v5:=zeroValue5
 infoByte:=Z
 cellsByte:=Z
 sizeByte:=Z
 neB5:=V}
end Go.Proofs
namespace Go.Vd
open Go.Proofs Go.RowKit
inductive Ry where
 |fail (e:Int)
 |done
 |number (n:Int)
 |found (n:Int) (d:Bs)
 |about (s:Sc)
 |names (nl:Bool) (l:List Bs)
 |state (b:Bool)
def z0:List D:=[.int .i64 0,.bool false,.int .i64 0,.slice true [] []]
def Iv:Ry->List D
 | .fail e=>[.int .u8 0,.int .i64 e,.int .i64 0,.str [],.slice true [] [],.int .i64 0,.bool false,.int .i64 0,.slice true [] [],.bool false]
 | .done=>[.int .u8 1,.int .i64 0,.int .i64 0,.str [],.slice true [] [],.int .i64 0,.bool false,.int .i64 0,.slice true [] [],.bool false]
 | .number n=>[.int .u8 2,.int .i64 0,.int .i64 n,.str [],.slice true [] [],.int .i64 0,.bool false,.int .i64 0,.slice true [] [],.bool false]
 | .found n d=>[.int .u8 3,.int .i64 0,.int .i64 n,.str d,.slice true [] [],.int .i64 0,.bool false,.int .i64 0,.slice true [] [],.bool false]
 | .about s=>[.int .u8 4,.int .i64 0,.int .i64 0,.str [],.slice true [] [],.int .i64 s.mx,.bool s.cas,.int .i64 s.la,.slice s.nl [] (Bd s.rs),.bool false]
 | .names nl l=>[.int .u8 5,.int .i64 0,.int .i64 0,.str [],.slice nl [] (strsD l),.int .i64 0,.bool false,.int .i64 0,.slice true [] [],.bool false]
 | .state b=>[.int .u8 6,.int .i64 0,.int .i64 0,.str [],.slice true [] [],.int .i64 0,.bool false,.int .i64 0,.slice true [] [],.bool b]
def aIw:Ry->Prop
 | .about s=>s.rs.length<=1000
 | .names _ l=>l.length<=1000
 |_=>True
def MY:Ry->Int
 | .fail e=>if 1<=e∧e<=99 then 0 else 2
 | .number n=>if 0<=n∧n<=999 then 0 else 2
 | .found n d=>if 0<=n∧n<=999∧d.length<=400 then 0 else 2
 | .about s=>if B5 s 6=true then 2 else 0
 | .names _ l=>if l.length<=64∧(l.any λs=>!mH s)=false then 0 else 2
 |_=>0
def aSH:=Aq [(179,Ac aS7),(180,Ac aS6)]
def aLc:=RF aSH aOH [.t 4] 52
def aWs:Kq aLc 116:=An (Aj func116) (Aa aWb (Aa aWa Ad))
def HA(k e n:Int)(c:Bs)(nl:Bool)(l:List Bs)(s:Sc)(z:Bool)(hl:l.length<=1000)(j:s.rs.length<=1000):aLc [.agg [.int .u8 k,.int .i64 e,.int .i64 n,.str c,.slice nl [] (strsD l),.int .i64 s.mx,.bool s.cas,.int .i64 s.la,.slice s.nl [] (Bd s.rs),.bool z],.agg [.int .u8 k,.int .i64 e,.int .i64 n,.str c,.slice nl [] (strsD l),.int .i64 s.mx,.bool s.cas,.int .i64 s.la,.slice s.nl [] (Bd s.rs),.bool z]]=some (.bool true):=by
 refine Am (Qa rfl) ?_;unfold aOH;have b:=aKV (n1:=nl) (n2:=nl) (l:=l) O;have a:=aKU s O;unfold HO at a;simp only[HG,↓C2,HB,simprocAttr,Ae aSH 179,b,Ae aSH 180,a]
 all_goals exact Y2
def aIu(y:Ry)(h:aIw y):aLc [.agg (Iv y),.agg (Iv y)]=some (.bool true):=by
 have u:strsD []=[]:=rfl;have m:Bd []=[]:=rfl;cases y with
 |fail e=>exact HA 0 e 0 [] true [] sc0 false U XC
 |done=>exact HA 1 0 0 [] true [] sc0 false U XC
 |number n=>exact HA 2 0 n [] true [] sc0 false U XC
 |found n d=>exact HA 3 0 n d true [] sc0 false U XC
 |about s=>exact HA 4 0 0 [] true [] s false U h
 |names nl l=>exact HA 5 0 0 [] nl l sc0 false h XC
 |state b=>exact HA 6 0 0 [] true [] sc0 b U XC
def aZF:=Aq []
def aTf:=RF aZF aOG [.cell (some 10) 2] 52
def aWr:Kq aTf 117:=An (Aj func117) Ad
def aLb(y:Ry):aTf [.agg (Iv y)]=some (.agg (Iv y)):=by
 refine Am (Qa rfl) ?_;unfold aOG;cases y<;>unfold Iv
 all_goals
  simp only[HG,↓C2,HB,simprocAttr]
  all_goals exact Y2
def WV:=Aq [(117,Ac aTf),(116,Ac aLc),(25,Ac Mc),(118,kS 119 none KN)]
def R92:=RF WV aWW [.t 2] 73
def aYU:Kq R92 67:=An (Aj func67) (Aa aWr (Aa aWs (Aa Sm (Aa aSb Ad))))
def aSM(y:Ry)(h:aIw y):R92 [.agg (Iv y)]=some (.int .i64 (MY y)):=by
 refine Am (Qa rfl) ?_;unfold aWW;have a:=aLb y;have c:=aIu y h;cases y with
 |fail e=>
  unfold Iv MY at *;simp only[HG,↓C2,HB,simprocAttr,Ae WV 117,a,Ae WV 116,c];refine A0 ?_;by_cases c1:1<=e
  ·by_cases c2:e<=99
   ·simp only[↓C2,HE,HB,simprocAttr,c1,c2]
    all_goals exact Y2
   ·simp only[↓C2,HE,HB,simprocAttr,c1,c2]
    all_goals exact Y2
  ·simp only[↓C2,HE,HB,simprocAttr,c1]
   all_goals exact Y2
 |done=>
  unfold Iv MY at *;simp only[HG,↓C2,HB,simprocAttr,Ae WV 117,a,Ae WV 116,c];refine A0 ?_;simp only[↓C2,HE,HB,simprocAttr]
  all_goals exact Y2
 |number n=>
  unfold Iv MY at *;simp only[HG,↓C2,HB,simprocAttr,Ae WV 117,a,Ae WV 116,c];refine A0 ?_;by_cases c1:0<=n
  ·by_cases c2:n<=999
   ·simp only[↓C2,HE,HB,simprocAttr,c1,c2,Qm,Zr]
    all_goals exact Y2
   ·simp only[↓C2,HE,HB,simprocAttr,c1,c2]
    all_goals exact Y2
  ·simp only[↓C2,HE,HB,simprocAttr,c1]
   all_goals exact Y2
 |found n d=>
  unfold Iv MY at *;simp only[HG,↓C2,HB,simprocAttr,Ae WV 117,a,Ae WV 116,c];refine A0 ?_;by_cases c1:0<=n
  ·by_cases c2:n<=999
   ·by_cases w:d.length<=400
    ·have f:((d.length:Int)<=400)=True:=eq_true O;simp only[↓C2,HE,HB,simprocAttr,c1,c2,f]
     all_goals exact Y2
    ·have f:((d.length:Int)<=400)=False:=eq_false O;simp only[↓C2,HE,HB,simprocAttr,c1,c2,f]
     all_goals exact Y2
   ·simp only[↓C2,HE,HB,simprocAttr,c1,c2]
    all_goals exact Y2
  ·simp only[↓C2,HE,HB,simprocAttr,c1]
   all_goals exact Y2
 |about s=>
  have z:=Hy s 6 false h;unfold Vp HO at z;unfold Iv MY at *;simp only[HG,↓C2,HB,simprocAttr,Ae WV 117,a,Ae WV 116,c];refine A0 ?_;cases hb:B5 s 6 with
  |true=>
   rw[hb]at z;simp only[if_true]at z;simp only[HG,↓C2,HB,simprocAttr,Ae WV 25,z]
   all_goals exact Y2
  |false=>
   rw[hb]at z;simp only[if_false,Qs]at z;simp only[HG,↓C2,HB,simprocAttr,Ae WV 25,z]
   all_goals exact Y2
 |names nl l=>
  have g:=λ(m:HF)(fr:Id)=>aAl (l:=l) (nl:=nl) (t:=[]) (by have:l.length<=1000:=h;omega) m fr
  unfold Iv MY at *;simp only[HG,↓C2,HB,simprocAttr,Ae WV 117,a,Ae WV 116,c];refine A0 ?_;by_cases c1:l.length<=64
  ·have j:((l.length:Int)<=64)=True:=eq_true O;cases c2:l.any λs=>!mH s with
   |true=>
    rw[c2]at g;simp only[↓C2,HE,HB,simprocAttr,j,AR,AE WV 118,g]
    all_goals exact Y2
   |false=>
    rw[c2]at g;simp only[↓C2,HE,HB,simprocAttr,j,AR,AE WV 118,g]
    all_goals exact Y2
  ·have j:((l.length:Int)<=64)=False:=eq_false O;simp only[↓C2,HE,HB,simprocAttr,j,AR]
   all_goals exact Y2
 |state b=>
  unfold Iv MY at *;simp only[HG,↓C2,HB,simprocAttr,Ae WV 117,a,Ae WV 116,c];refine A0 ?_;simp only[↓C2,HE,HB,simprocAttr]
  all_goals exact Y2
def dgB:∀d:Fin 10,UInt8.ofNat (IntKind.u8.wrap (48+((d.val:Nat):Int))).toNat=OG d.val:=V
def dgO(n:Nat):UInt8.ofNat (IntKind.u8.wrap (IntKind.i64.wrap (48+((n % 10:Nat):Int)))).toNat=OG (n % 10):=by
 rw[H9 O O];exact dgB ⟨n % 10,O⟩
def un1(a:Int):BO [.int .u8 a]=some [UInt8.ofNat a.toNat]:=rfl
theorem Fr(n:Nat):(GL n).length<=3:=by
 grind [GL]
def aZv:=Aq []
def aKP:=RF aZv aNJ [.t 2] 17
def aME:Kq aKP 124:=An (Aj func124) Ad
def L7(n:Nat)(h:n<1000):aKP [.int .i64 (n:Int)]=some (.str (GL n)):=by
 refine Am (Qa rfl) ?_;unfold aNJ;have o:∀k:Nat,k<1000->IntKind.i64.wrap ((k:Int).tdiv 10)=((k / 10:Nat):Int):=Vl;have q:=o n h;have f:=o (n / 10) O;have v:=o (n / 10 / 10) O;have a:∀c:UInt8,AP .add (.str [c]) (.str [])=some (.str [c]):=λc=>LA U
 have a1:∀c d:UInt8,AP .add (.str [c]) (.str [d])=some (.str [c,d]):=λc d=>LA U
 have y:∀c d e:UInt8,AP .add (.str [c]) (.str [d,e])=some (.str [c,d,e]):=λc d e=>LA U
 have i:∀k:Nat,AP .rem (.int .i64 (k:Int)) (.int .i64 10)=some (.int .i64 ((k % 10:Nat):Int)):=λk=>by rw[←Vk];rfl
 have z:∀k:Nat,AP .quo (.int .i64 (k:Int)) (.int .i64 10)=some (.int .i64 (IntKind.i64.wrap ((k:Int).tdiv 10))):=λk=>rfl
 unfold GL;simp only[↓C2,HH,simprocAttr];refine Af P6.eq_1 ?_;by_cases c1:n<10
 ·have j:(((n / 10:Nat):Int)=0)=True:=eq_true O;have r:n % 10=n:=by omega
  simp only[Qv,↓C2,HE,HB,simprocAttr,i,z,q,dgO,a,j];rw[r,if_pos c1]
 ·have j:(((n / 10:Nat):Int)=0)=False:=eq_false O;simp only[Qv,↓C2,HE,HB,simprocAttr,i,z,q,dgO,a,j];refine Af P6.eq_1 ?_;by_cases c2:n<100
  ·have r:(((n / 10 / 10:Nat):Int)=0)=True:=eq_true O;have m:n / 10 % 10=n / 10:=by omega
   simp only[Qv,↓C2,HE,HB,simprocAttr,i,z,f,dgO,a1,r];rw[m,if_neg c1,if_pos c2]
  ·have r:(((n / 10 / 10:Nat):Int)=0)=False:=eq_false O;simp only[Qv,↓C2,HE,HB,simprocAttr,i,z,f,dgO,a1,r];refine Af P6.eq_1 ?_;have s:(((n / 10 / 10 / 10:Nat):Int)=0)=True:=eq_true O;have z5:n / 10 / 10 % 10=n / 100:=by omega
   simp only[Qv,↓C2,HE,HB,simprocAttr,i,z,v,dgO,y,s];rw[z5,if_neg c1,if_neg c2]
def ER(x:Rw):Bs:=GL x.1.toNat++(if x.2.1=true then [33]else [])++(if x.2.2=true then [35]else [])
def aXE:=Aq [(124,Ac aKP)]
def aS2:=RF aXE aNH [.t 2] 16
def aV6:Kq aS2 125:=An (Aj func125) (Aa aME Ad)
def aKO(x:Rw)(h:0<=x.1∧x.1<1000):aS2 [.agg [.int .i64 x.1,.bool x.2.1,.bool x.2.2]]=some (.str (ER x)):=by
 refine Am (Qa rfl) ?_;unfold aNH;have a:=L7 x.1.toNat O;rw[Qx h.1]at a;have hl:=Fr x.1.toNat;unfold ER;generalize GL x.1.toNat=s at *;have a1:∀c:UInt8,AP .add (.str s) (.str [c])=some (.str (s++[c])):=λc=>LA Xb
 have f:∀c d:UInt8,AP .add (.str (s++[c])) (.str [d])=some (.str (s++[c]++[d])):=λc d=>LA Xb
 obtain⟨n,g,d⟩:=x;simp only at *;cases g<;>cases d
 all_goals
  simp only[↓C2,HE,HB,simprocAttr,Ae aXE 124,a,a1,f]
  all_goals exact Y2
def aZu:=Aq []
def aS1:=RF aZu aNG [.t 2] 4
def aV5:Kq aS1 126:=An (Aj func126) Ad
def aKN(b:Bool):aS1 [.bool b]=some (.str [if b=true then 49 else 48]):=by
 refine Am (Qa rfl) ?_;unfold aNG;cases b
 all_goals
  simp only[↓C2,HH,Iz,HB,simprocAttr]
  all_goals exact Y2
def Ut(l:List Bs):Bs:=if l=[]then [45]else Lib.join l [44]
def aML:Kq fM 69:=aDy aY aL ⟨_,func69,Z,Z⟩
def fK{l:List Bs}{s:Bs}(h:l≠[]∧l.length<=1000∧CN l<=1000000∧s.length<=1000∧(Lib.join l s).length<=10000000):fM [.slice false [] (strsD l),.str s]=some (.str (Lib.join l s)):=Ca (mk:=mkJ) (a:=(l,s)) aJc h
def aXD:=Aq [(69,Ac fM)]
def aS0:=RF aXD aNF [.t 2] 8
def aV4:Kq aS0 127:=An (Aj func127) (Aa aML Ad)
def vH(nl:Bool)(l:List Bs)(w:nl=true->l=[])(h:l.length<=1000∧CN l<=1000000∧(Lib.join l [44]).length<=10000000):aS0 [.slice nl [] (strsD l)]=some (.str (Ut l)):=by
 refine Am (Qa rfl) ?_;unfold aNF;unfold Ut;by_cases c:l=[]
 ·have c':((l.length:Int)=0)=True:=eq_true (by rw[c];rfl);simp only[↓C2,HE,HB,simprocAttr,c',AR];simp[c]
 ·have c':((l.length:Int)=0)=False:=eq_false (by
   intro e;exact c (QW.1 O))
  have r:nl=false:=by
   simp_all
  subst r;have m:=fK (l:=l) (s:=[44]) ⟨c,h.1,h.2.1,U,h.2.2⟩;simp only[↓C2,HE,HB,simprocAttr,c',AR,Ae aXD 69,m];simp[c]
def Pc:Ry->List Bs
 | .fail e=>[[101,114,114,111,114],GL e.toNat]
 | .done=>[[111,107]]
 | .number n=>[[111,107],[110,117,109,98,101,114],GL n.toNat]
 | .found n d=>[[111,107],[102,111,117,110,100],GL n.toNat,if d=[]then [45]else PH d]
 | .about s=>[[111,107],[97,98,111,117,116],GL s.mx.toNat,[if s.cas=true then 49 else 48],GL s.la.toNat,Ut (s.rs.map ER)]
 | .names _ l=>[[111,107],[110,97,109,101,115],Ut l]
 | .state b=>if b=true then [[111,107],[115,101,97,108,101,100]]else [[111,107],[111,112,101,110]]
def ryG:Ry->Prop
 | .fail e=>0<=e∧e<1000
 | .number n=>0<=n∧n<1000
 | .found n d=>0<=n∧n<1000∧d.length<=1000
 | .about s=>s.rs.length<=100∧(0<=s.mx∧s.mx<1000)∧(0<=s.la∧s.la<1000)∧∀x∈s.rs,0<=x.1∧x.1<1000
 | .names nl l=>l.length<=1000∧(nl=true->l=[])∧CN l<=1000000
 |_=>True
theorem join_len:∀(l:List Bs)(s:Bs),(Lib.join l s).length<=CN l+l.length*s.length
 |[],s=>XT
 |[x],s=>by simp[Lib.join,CN]
 |x::y::r,s=>by
  have ih:=join_len (y::r) s;have e:Lib.join (x::y::r) s=x++s++Lib.join (y::r) s:=XT
  rw[e,Qq,Qq];simp only[CN,Qg]at ih ⊢;rw[Nat.succ_mul];omega
def xR(x:Rw):(ER x).length<=5:=by
 grind [Fr,ER]
def RJ:∀l:List Rw,CN (l.map ER)<=5*l.length
 |[]=>by simp[CN]
 |x::r=>by
  have:=RJ r;have:=xR x;simp only[QD,CN,Qg];omega
def SX:=Aq [(124,Ac aKP),(126,Ac aS1),(127,Ac aS0),(125,Ac aS2),(14,Ac aTp)]
def aTe:=RF SX aOm [.t 2] 78
def aWp:Kq aTe 70:=An (Aj func70) (Aa aME (Aa aV5 (Aa aV4 (Aa aV6 (Aa aMk Ad)))))
def aK8(y:Ry)(h:ryG y):aTe [.agg (Iv y)]=some (.slice false [] (strsD (Pc y))):=by
 refine Am (Qa rfl) ?_;unfold aOm;cases y with
 |fail e=>
  have a:=L7 e.toNat Yx;rw[Qx h.1]at a;unfold Iv Pc strsD;simp only[↓C2,HE,HB,simprocAttr,Ae SX 124,a]
  all_goals exact Y2
 |done=>
  unfold Iv Pc strsD;simp only[↓C2,HE,HB,simprocAttr]
  all_goals exact Y2
 |number n=>
  have a:=L7 n.toNat Yx;rw[Qx h.1]at a;unfold Iv Pc strsD;simp only[↓C2,HE,HB,simprocAttr,Ae SX 124,a]
  all_goals exact Y2
 |found n d=>
  have a:=L7 n.toNat Yx;rw[Qx h.1]at a;have i:=W8 (s:=d) (by have:=h.2.2;omega);unfold Iv Pc strsD;by_cases c:d=[]
  ·have c':=eq_true c;simp only[↓C2,HE,HB,simprocAttr,Ae SX 124,a,c'];simp[]
  ·have c':=eq_false c;simp only[↓C2,HE,HB,simprocAttr,Ae SX 124,a,Ae SX 14,i,c'];simp[]
 |names nl l=>
  obtain⟨h1,v,h3⟩:=h;have p:=vH nl l v ⟨h1,h3,by have:=join_len l [44];simp at this;omega⟩;unfold Iv Pc;simp only[↓C2,HE,HB,simprocAttr,Ae SX 127,p]
  all_goals exact Y2
 |state b=>
  unfold Iv Pc strsD;cases b with
  |true=>
   simp only[↓C2,HE,HB,simprocAttr]
   all_goals exact Y2
  |false=>
   simp only[↓C2,HE,HB,simprocAttr]
   all_goals exact Y2
 |about s=>
  obtain⟨g1,g2,g3,g4⟩:=h;have h1:=L7 s.mx.toNat O;rw[Qx g2.1]at h1;have v:=L7 s.la.toNat O;rw[Qx g3.1]at v;have r:=aKN s.cas;have u:=RJ s.rs;have p:=λnl hn=>vH nl (s.rs.map ER) hn ⟨Xb,O,by have:=join_len (s.rs.map ER) [44];simp at this;omega⟩
  unfold Iv Pc;simp only[↓C2,HE,HB,simprocAttr,AS];refine BX (n:=s.rs.length) (I:=λj w=>w.s 38= .slice s.nl [] (Bd s.rs)∧w.s 39= .int .i64 s.rs.length∧w.s 40= .int .i64 (j:Int)∧w.s 1= .ptr [0] 0∧∃nl t,w.s 4= .slice nl t (strsD ((s.rs.take j).map ER))∧nl=decide (j=0)∧LG 1 _ 9 w.m w.c nl t) (λj hj ih w g hI=>?_) (λw g hI=>?_) 0 (Qu _) _ _ ⟨rfl,rfl,rfl,rfl,true,[],rfl,rfl,LG.start Xa⟩
  ·obtain⟨ma,ia,da⟩:=w;obtain⟨ua,f,o,hp,nl,t,h4,pa,hG⟩:=hI;simp only at ua f o hp h4 hG;refine Af Wy.eq_1 ?_;have ea:((j:Int)<s.rs.length):=by omega
   have oa:=nJ (j:=j);have hw:=wJ (j:=j) O;have ka:=FV hj;have q:=aKO s.rs[j] (g4 _ (QX hj));have qa:strsD ((s.rs.take (j+1)).map ER)=strsD ((s.rs.take j).map ER)++[.str (ER s.rs[j])]:=by
    rw[QF hj,Q_];simp[strsD]
   have va:(strsD ((s.rs.take j).map ER)).length=j:=by simp[strsD];omega
   have na:nl=true->strsD ((s.rs.take j).map ER)=[]:=by
    grind
   generalize strsD ((s.rs.take j).map ER)=z at h4 qa va na;generalize s.rs[j]=x at ka qa q;simp only[HG,↓C2,HB,simprocAttr,ua,f,o,h4,ea,oa,Qh,ka,Ae SX 125,q];refine aB ⟨O,rfl,YZ⟩ ?_;rw[BF na,←qa];simp only[↓C2,HH,simprocAttr,o,hw];exact ih _ _ ⟨ua,f,rfl,hp,false,_,rfl,U,Y0⟩
  ·obtain⟨ma,ia,da⟩:=w;obtain⟨ua,f,o,hp,nl,t,h4,pa,hG⟩:=hI;simp only at ua f o hp h4 hG;refine Af Wy.eq_1 ?_;have m0:∀k,ia [0] k=_:=λk=>hG.low 0 k O
   rw[Zi]at h4;have hh:=p nl (by
    rw[pa];intro h;have:s.rs.length=0:=Xr
    simp[QW.1 this])
   unfold strsD at h4 hh ⊢;simp only[↓C2,HE,HB,simprocAttr,f,o,hp,h4,Qz,m0,Ae SX 124,h1,v,Ae SX 126,r,Ae SX 127,hh];refine A0 ?_;simp only[↓C2,HH,Iz,HB,simprocAttr]
   all_goals exact Y2
def spJ(l:List Bs):Bs:=Lib.join l [32]
def IY(y:Ry):Bs:=if MY y=0 then spJ (Pc y)else []
def aBS(y:Ry):Pc y≠[]:=by
 cases y<;>simp[Pc];split<;>simp
end Go.Vd
namespace Go.Proofs
open Go.Shelf
def aO:Go.Shelf.Ren:=⟨λ|168=>255|169=>123|240=>183|242=>308|276=>245|278=>329|277=>246|n=>n,λ|31=>23|9=>9|3=>3|4=>4|0=>0|20=>20|21=>21|72=>196|76=>200|70=>194|37=>108|75=>199|127=>252|164=>309|5=>5|80=>159|46=>109|51=>268|n=>n,λ|n=>n⟩
def bE:Go.Proofs.Lays.n168 Qe aO:={
 mixed:=Z
 f168:=func255.trans (congrArg some Z)
 f240:=func183.trans (congrArg some Z)
 f242:=func308.trans (congrArg some Z)
 f276:=func245.trans (congrArg some Z)
 f278:=func329.trans (congrArg some Z)
 t0:=underlying0
 a0:=isAgg0
 z0:=sizeOf0
 v0:=zeroValue0
 t3:=underlying3
 a3:=isAgg3
 z3:=sizeOf3
 v3:=zeroValue3
 t4:=underlying4
 a4:=isAgg4
 z4:=sizeOf4
 v4:=zeroValue4
 t5:=underlying5
 a5:=isAgg5
 z5:=sizeOf5
 v5:=zeroValue5
 t9:=underlying9
 a9:=isAgg9
 z9:=sizeOf9
 v9:=zeroValue9
 t20:=underlying20
 a20:=isAgg20
 z20:=sizeOf20
 v20:=zeroValue20
 t21:=underlying21
 a21:=isAgg21
 z21:=sizeOf21
 v21:=zeroValue21
 t37:=underlying108
 a37:=isAgg108
 z37:=sizeOf108
 v37:=zeroValue108
 t46:=underlying109
 a46:=isAgg109
 z46:=sizeOf109
 v46:=zeroValue109
 t51:=underlying268
 a51:=isAgg268
 z51:=sizeOf268
 v51:=zeroValue268
 t70:=underlying194
 a70:=isAgg194
 z70:=sizeOf194
 v70:=zeroValue194
 t72:=underlying196
 a72:=isAgg196
 z72:=sizeOf196
 v72:=zeroValue196
 t75:=underlying199
 a75:=isAgg199
 z75:=sizeOf199
 v75:=zeroValue199
 t164:=underlying309
 a164:=isAgg309
 z164:=sizeOf309
 v164:=zeroValue309}
def bF:Go.Proofs.Lays.n169 Qe aO:={
 mixed:=Z
 f169:=func123.trans (congrArg some Z)
 t0:=underlying0
 a0:=isAgg0
 z0:=sizeOf0
 v0:=zeroValue0
 t3:=underlying3
 a3:=isAgg3
 z3:=sizeOf3
 v3:=zeroValue3
 t9:=underlying9
 a9:=isAgg9
 z9:=sizeOf9
 v9:=zeroValue9
 t37:=underlying108
 a37:=isAgg108
 z37:=sizeOf108
 v37:=zeroValue108
 t70:=underlying194
 a70:=isAgg194
 z70:=sizeOf194
 v70:=zeroValue194
 t72:=underlying196
 a72:=isAgg196
 z72:=sizeOf196
 v72:=zeroValue196
 t127:=underlying252
 a127:=isAgg252
 z127:=sizeOf252
 v127:=zeroValue252}
def bC:Builder.Extra Qe aO:={
 sizeBuilder:=Z
 liesBuilder:=Z
 t5:=underlying5
 a5:=isAgg5
 z5:=sizeOf5
 v5:=zeroValue5
 infoByte:=Z
 cellsByte:=Z
 sizeByte:=Z
 neB5:=V}
end Go.Proofs
namespace Go.Ve
open Go.Vd
open Go.Proofs Go.RowKit
def six:List UInt8:=[114,119,100,120,108,115]
def ES(c:Nat):Nat->List UInt8
 |0=>[]
 |k+1=>ES c k++(if c / 2 ^ k % 2=1 then [six.getD k 0]else [])
structure aZK (w0:World) (c k:Nat) (a:Act) (w:World):Prop where
 slots:∃x4 x5 x7 x8 x9 x10 x11 x12 x13 x14 x15 x16 x17:Value,a={tmps:=#[.int .u8 (c:Int),undef,.string ⟨#[]⟩,.pointer (some ⟨w0.heap.size,0,none⟩),x4,x5,.pointer (some ⟨w0.heap.size+1,0,none⟩),x7,x8,x9,x10,x11,x12,x13,x14,x15,x16,x17,undef],defers:=[]}
 iter:w.heap[w0.heap.size+1]?=some (.stringIter ⟨#[114,119,100,120,108,115]⟩ k)
 bld:Lib.IsBuilderF 196 5 w0.heap.size w0.heap.size (Lib.byteCells (ES c k)) w
 bel:Below w0.heap.size w0 w
def dC{P:Program}{w:World}{b:Nat}{s:ByteArray}{z:Nat}{ty:TypeId}(h:w.heap[b]?=some (.stringIter s z))(g:z<s.size):
  (Instr.next (.pointer (some ⟨b,0,none⟩)) true ty).run P w= .ok (.tuple #[.bool true,.int .i64 (z:Nat),.int .i32 (Utf8.decode s z).1]) {w with heap:=w.heap.setIfInBounds b (.stringIter s (z+(Utf8.decode s z).2))}:=by
 have y:(getObj b).run P w= .ok (.stringIter s z) w:=by simp[getObj,Sem.run,h]
 have na:∀o',(setObj b o').run P w= .ok () {w with heap:=w.heap.setIfInBounds b o'}:=by intro o';simp[setObj,Sem.run,h]
 simp only[Instr.next,Sem.run_bind,y,Result.andThen_ok,g,if_true];cases hd:Utf8.decode s z with
 |mk c e=>
  simp only[na,Result.andThen_ok,Sem.run_pure];rfl
def Vq{P:Program}{w:World}{b:Nat}{s:ByteArray}{z:Nat}{ty:TypeId}(h:w.heap[b]?=some (.stringIter s z))(g:¬z<s.size):
  (Instr.next (.pointer (some ⟨b,0,none⟩)) true ty).run P w= .ok (.tuple #[.bool false]) w:=by
 have y:(getObj b).run P w= .ok (.stringIter s z) w:=by simp[getObj,Sem.run,h]
 simp only[Instr.next,Sem.run_bind,y,Result.andThen_ok,g,if_false,Sem.run_pure]
def aJU:∀k,k<6->Utf8.decode ⟨#[114,119,100,120,108,115]⟩ k=((six.getD k 0).toNat,1):=Xf
def aKd:∀c:Nat,c<64->∀k,k<6->(bits BinOp.and IntKind.u8 ((c:Int) / 2 ^ k) 1==1)=decide (c / 2 ^ k % 2=1):=Xf
def aBW:∀k,k<6->Lib.runeCells (((six[k]?.getD 0).toNat:Nat):Int)=Lib.byteCells [six.getD k 0]
 |0,_=>rfl
 |1,_=>rfl
 |2,_=>rfl
 |3,_=>rfl
 |4,_=>rfl
 |5,_=>rfl
 |k+6,h=>absurd h O
def Ul(c:Nat):∀k,(ES c k).length<=k
 |0=>QB _
 |k+1=>by
  have:=Ul c k;unfold ES;rw[Qq];split<;>simp<;>omega
def Oj{w:World}{c j:Nat}{o:Obj}(h:j≠c):(w.heap.setIfInBounds c o)[j]?=w.heap[j]?:=by
 grind
def aFF{w:World}{B b c:Nat}{bs:List Value}{o:Obj}{s:ByteArray}{p:Nat}(h:Lib.IsBuilderF 196 5 B b bs w)(hi:w.heap[c]?=some (.stringIter s p)):Lib.IsBuilderF 196 5 B b bs {w with heap:=w.heap.setIfInBounds c o}:=by
 have t:∀q,Lib.BuilderAtF 196 5 B b q bs w->Lib.BuilderAtF 196 5 B b q bs {w with heap:=w.heap.setIfInBounds c o}:=by
  rintro q ⟨u,v,y,r,j⟩;have f:b≠c:=λe=>by rw[e,hi]at y;cases y
  refine⟨u,v,by show(w.heap.setIfInBounds c o)[b]?=_;rw[Oj f];exact y,⟨r.1,?_⟩,j⟩;rcases r.2 with h|⟨g,cap,cur,fz,m,n,k,i⟩
  ·exact .inl h
  ·have a:g≠c:=λe=>by rw[e,hi]at k;cases k
   exact .inr ⟨g,cap,cur,fz,m,n,by show(w.heap.setIfInBounds c o)[g]?=_;rw[Oj a];exact k,i⟩
 exact h.elim (λx=> .inl (t _ x)) (λx=> .inr (t _ x))
theorem aAG {B c : Nat} {w s : World} {o : Obj} (h : Below B w s) (f : B ≤ c) : Below B w { s with heap := s.heap.setIfInBounds c o } :=
 ⟨h.os, h.tape, h.output, by show _ ≤ (s.heap.setIfInBounds c o).size; rw [Array.size_setIfInBounds]; exact h.size, fun k g => by
  show (s.heap.setIfInBounds c o)[k]? = _
  rw [Oj O]
  exact h.block k g⟩
theorem aYn(w:World)(c:Nat)(hc:c<64):
  Calls Qe 200 #[.int .u8 (c:Int)] w λe w'=>e= .returned (.string ⟨(ES c 6).toArray⟩)∧Below w.heap.size w w':=by
 have hz:(w.alloc (Obj.cells #[Value.pointer none,Value.slice none 0 0] 196)).heap.size=w.heap.size+1:=Array.size_push _
 go_enter func200,ntmps200
 go_wp2
 refine TK (λn a w'=>∃k,k<=6∧n=6-k∧aZK w c k a w') ?_ (n:=6) ⟨0,O,rfl,⟨⟨_,_,_,_,_,_,_,_,_,_,_,_,_,rfl⟩,?_,?_,?_⟩⟩
 ·rintro n a w1 ⟨k,u,rfl,⟨x4,x5,x7,x8,x9,q,j,r,l,p,i,s,m,rfl⟩,hi,x,hB⟩
  go_wp2
  by_cases y:k<6
  ·rw[dC hi (by show k<6;exact y),aJU k y];simp only[Result.andThen];rw[Oper.upon_value];have b:=aKd c hc k y;have ua:=Ul c k;have h:(w1.heap.setIfInBounds (w.heap.size+1) (.stringIter ⟨#[114,119,100,120,108,115]⟩ (k+1)))[w.heap.size+1]?=some (.stringIter ⟨#[114,119,100,120,108,115]⟩ (k+1)):=by
    grind
   have na:=aFF (o:= .stringIter ⟨#[114,119,100,120,108,115]⟩ (k+1)) x hi;have g:=aAG (o:= .stringIter ⟨#[114,119,100,120,108,115]⟩ (k+1)) hB (Nat.le_succ w.heap.size);by_cases d:c / 2 ^ k % 2=1
   ·rw[decide_eq_true d]at b
    go_wp2_with fail
    refine(Go.Proofs.Any.Builder_WriteRune_k bE bC w.heap.size w.heap.size (Lib.byteCells (ES c k)) _ YV YV _ na (by simp[Lib.byteCells];omega) g.size).mono ?_;rintro e w3 ⟨rfl,v,t,f⟩;rw[aBW k y]at v
    go_wp2
    refine⟨6-(k+1),O,k+1,O,rfl,⟨⟨_,_,_,_,_,_,_,_,_,_,_,_,_,rfl⟩,?_,?_,g.trans t⟩⟩
    ·exact f _ _ h U (λ_ _=>U)
    ·refine .inr ?_;have e:ES c (k+1)=ES c k++[six.getD k 0]:=by simp only[ES,d,if_true]
     rw[e];have z:Lib.byteCells (ES c k++[six.getD k 0])=Lib.byteCells (ES c k)++Lib.byteCells [six.getD k 0]:=by simp[Lib.byteCells]
     rw[z];exact v
   ·rw[decide_eq_false d]at b
    go_wp2_with fail
    refine⟨6-(k+1),O,k+1,O,rfl,⟨⟨_,_,_,_,_,_,_,_,_,_,_,_,_,rfl⟩,h,?_,g⟩⟩;have e:ES c (k+1)=ES c k:=by simp only[ES,d,if_false,QI]
    rw[e];exact na
  ·rw[Vq hi (by show ¬k<6;exact y)];simp only[Result.andThen];rw[Oper.upon_value];obtain rfl:k=6:=by omega
   go_wp2_with fail
   refine(Go.Proofs.Any.Builder_String_any_f bF bC w.heap.size w.heap.size (ES c 6) w1 x hB.size).mono ?_;rintro e w3 ⟨rfl,_,t⟩
   go_wp2
   go_ret
   exact⟨rfl,hB.trans t⟩
 ·have e:=heap_alloc_new (w.alloc (Obj.cells #[Value.pointer none,Value.slice none 0 0] 196)) (.stringIter ⟨#[114,119,100,120,108,115]⟩ 0);rw[hz]at e;exact e
 ·refine .inl ⟨QB _,.slice none 0 0,?_,World.ownsRowF_nil _ _ _ _,by simp[Value.ownBlock]⟩;have:=heap_alloc_new w (Obj.cells #[Value.pointer none,Value.slice none 0 0] 196);exact(Below.heap_alloc _ _ _ (by rw[hz];omega)).trans this
 ·exact((Below.refl _ w).alloc (QB _) _).alloc (by rw[hz];omega) _
def eqBs:List UInt8->List UInt8->Bool
 |[],[]=>true
 |a::r,b::s=>a==b&&eqBs r s
 |_,_=>false
def eqBs_eq:∀{a b:List UInt8},eqBs a b=true->a=b
 |[],[],_=>rfl
 |a::r,b::s,h=>by
  simp only[eqBs,QY,beq_iff_eq]at h;rw[h.1,eqBs_eq h.2]
 |[],_::_,h=>Xc
 |_::_,[],h=>Xc
def lettersN(c:Nat):List UInt8:=
 (if c % 2=1 then [114]else [])++((if c / 2 % 2=1 then [119]else [])++((if c / 4 % 2=1 then [100]else [])++((if c / 8 % 2=1 then [120]else [])++((if c / 16 % 2=1 then [108]else [])++(if c / 32 % 2=1 then [115]else [])))))
theorem pick_letters:∀c:Nat,c<64->ES c 6=lettersN c:=Xf
def lay_calls{c:Nat}(h:c<64)(w:World):Calls Qe 200 #[.int .u8 (c:Nat)] w λe w'=>e= .returned (.string ⟨(lettersN c).toArray⟩)∧Below w.heap.size w w':=by
 grind [aYn,pick_letters]
end Go.Ve
namespace Go.Vd
open Go.Proofs Go.RowKit
def sU:Uz.ok Qe 69:=aDx aY aL ⟨_,func69,Z,Z⟩
def fL{m:HF}{i fr:Id}{n:Nat}{l:List Bs}(w:n=l.length)(h:∀k x,l[k]?=some x->m i k=some (.str x))(u:l.length<=1000)(y:CN l<=1000000):
  Uz.ex ([.row i n,.str [44]]++[]) m fr=some (.str (B7 l),[]):=by
 subst w;simp only[Uz,QI];rw[rC (j:=0) (λk x p=>by rw[Qp];exact h k x p),Qj,if_pos ⟨u,y⟩]
def RI.strs{r:Id}{m0 m:HF}{l:List Bs}(h:RI [] r m0 m l l.length):∀k x,l[k]?=some x->m r k=some (.str x):=by
 intro k x p;have g:=(QQ.1 p).1;rw[h.row k g,if_pos g];simp[Zx,p]
def M8{l:List Bs}{b:Nat}(h:∀x∈l,x.length<=b):CN l<=b*l.length:=by
 induction l with
 |nil=>simp[CN]
 |cons x r ih=>
  have u:=h x (Zs ..);have f:=ih λy s=>h y (List.mem_cons_of_mem _ s)
  simp only[CN,Qg,ZJ];omega
def Nk(n:Nat):(GL n).length<=3:=by
 grind [GL]
def GJ(l:List Int):List Bs:=l.map λx=>GL x.toNat
theorem Ek(l:List Int):(GJ l).length=l.length:=Qy ..
def aYf:List D->Option D:=FX (λp:Bool×List Int=>[.slice p.1 [] (AI p.2)]) (λp=>p.2.length<=1000∧∀x∈p.2,0<=x∧x<1000) (λp=> .str (B7 (GJ p.2)))
def aLA{nl:Bool}{l:List Int}(h:l.length<=1000)(y:∀x∈l,0<=x∧x<1000):aYf [.slice nl [] (AI l)]=some (.str (B7 (GJ l))):=
 Ca (mk:=λp:Bool×List Int=>[.slice p.1 [] (AI p.2)]) (a:=(nl,l)) (λa b h=>by
  simp only[Qc,D.slice.injEq,true_and,and_true]at h;exact QU h.1 (L_ h.2)) ⟨h,y⟩
def aJg{S:HD}{l:List Int}{nl:Bool}{m0:HF}{Q:Ex->St->Prop}(q:l.length<=1000)(p:∀x∈l,0<=x∧x<1000)(e:S 330=some (Ac aTo))
  (t:∀v,v.s 3= .row [3] l.length->RI [] [3] m0 v.m (GJ l) l.length->Q (.exit 0) v):
  ∀(f j:Nat) v g,l.length=j+f->v.s 3= .row [3] l.length->v.s 9= .slice nl [] (AI l)->v.s 10= .int .i64 (l.length:Int)->v.s 11= .int .i64 (j:Int)->RI [] [3] m0 v.m (GJ l) j->A9 S [] P3 Q v g:=by
 intro f;induction f with
 |zero=>
  intro j v g k o b la na I;refine Af P3.eq_1 ?_;have:¬((j:Int)<l.length):=O
  simp only[↓C2,HH,HZ,reduceIte,Qd,la,na,this];exact t _ o X3
 |succ f ih=>
  intro j v g k o b la na I;refine Af P3.eq_1 ?_;have z:j<l.length:=O
  have d:((j:Int)<l.length):=O
  have a:=nJ (j:=j);have u:=wJ (j:=j) O;have ua:=p l[j] (QX z);obtain⟨n,w⟩:∃n:Nat,l[j]=(n:Int):=⟨l[j].toNat,O⟩;have i:(AI l)[j]?=some (.int .i64 (n:Int)):=by simp[AI,Qi z,w]
  have hg:(GJ l).getD j []=GL n:=by simp[GJ,Qi z,w]
  have h:=W7 (n:=n) O;have y:=I.row j (by rw[Ek];exact z);rw[if_neg O]at y;obtain⟨ma,ia,c⟩:=v;simp only at o b la na y I;simp only[↓C2,HE,reduceIte,Qb,Qd,o,b,la,na,d,a,u,Qh,i,y,Ab e,h,Av,Aw,Qg,Qm,Qp,and_self,Qj,Qk,List.head?_cons];refine ih (j+1) _ _ O o b la rfl ?_;rw[←hg];exact I.fill (ZC)
def aUx:Kq aYf 332:=by
 obtain⟨S,s,hl⟩:=By (Aa aMg (Aa sU Ad));have e:=hl 330 _ rfl;have a:=hl 69 _ rfl;clear hl;refine C8 s (Aj func332:Fn Qe 332 24 aNq [.t 2]) (λ_=>U) (λp g=>?_);obtain⟨nl,l⟩:=p;obtain⟨hl,w⟩:=g;simp only at hl w;have z:((0:Int)<=(l.length:Int)):=O
 have d:((l.length:Int)*(((16:Nat):Int)+1)<=140737488355328)=True:=eq_true O;unfold aNq;simp only[↓C2,HH,Iz,reduceIte,Qb,Qd,z,d,Fa,Qh,ZA,Qg,Qm,Qp,and_self];refine aJg (l:=l) (nl:=nl) (m0:=λ_ _=>none) hl w e (λv o I=>?_) l.length 0 _ _ O rfl rfl rfl rfl ?_
 ·simp only[↓C2,HH,HZ,reduceIte,Qd,o];rw[AH a];rw[←Ek]at I;have j:CN (GJ l)<=1000000:=by
   have:=M8 (l:=GJ l) (b:=3) λx w=>by
    obtain⟨y,_,rfl⟩:=QL.1 w;exact Nk _
   rw[Ek]at this;omega
  refine aI (fL (Ek l).symm I.strs (by rw[Ek];exact hl) j) ?_;simp only[↓C2,HE,reduceIte,Qb,Qd]
  all_goals exact Y3
 ·grind [RI.start,Ek]
open Classical in
def aLB:List D->Option D
 |[.int .u8 c]=>if 0<=c∧c<64 then some (.str (Go.Ve.lettersN c.toNat))else none
 |_=>none
def aUA:Kq aLB 200:=by
 refine⟨⟨_,func200,Z,Z⟩,λds m m' fr _=>rfl,?_⟩;intro B w0 w m g fr ds vs r u hi y hl t z;simp only[Ac]at z;split at z
 ·rw[QZ]at z;obtain⟨a,q,z⟩:=z;simp only[QC]at z;obtain⟨rfl,rfl⟩:=z;unfold aLB at q;split at q
  ·rename_i c e;split at q
   ·rename_i s;simp only[Ql]at q;subst q
    match ds,vs,hl with
    |[d],[v],_=>
     have o:d= .int .u8 c:=by
      simp only[QD,Q2,Qc,and_true]at e;cases d<;>simp[D.un]at e;rw[e.1,e.2]
     subst o;have hv:=(t 0 _ v rfl rfl).int_inv;subst hv;have p:((c.toNat:Nat):Int)=c:=Qx s.1;have:=Go.Ve.lay_calls (c:=c.toNat) O w;rw[p]at this;refine this.mono ?_;rintro e w' ⟨rfl,f⟩;exact⟨_,g.over w w',rfl,hi.over f,H5.over hi.gz f,.str _,λi k _=>k⟩
    |[],_,_=>simp at e
    |_::_::_,_,_=>simp at e
   ·cases q
  ·cases q
 ·cases z
def Pe{l:List Rl}:∀f j,Eh l f j=0->∀i,j<=i->i<j+f->i<l.length->(CK l i).2<=63
 |0,j,_,i,h1,h2,_=>O
 |f+1,j,h,i,h1,h2,hi=>by
  unfold Eh at h;rw[if_pos O]at h;split at h
  ·omega
  ·rename_i d;rcases Nat.eq_or_lt_of_le h1 with rfl|h1
   ·grind [GE,CK]
   ·exact Pe f (j+1) h i O O hi
def Ou{l:List Rl}(h:Cg l=0):l.length<=4∧∀r∈l,r.2<=63:=by
 unfold Cg at h;split at h
 ·cases h
 ·refine⟨O,λr q=>?_⟩;obtain⟨i,hi,rfl⟩:=Zp q;have:=Pe l.length 0 h i (Qu _) O hi;simpa[CK,Qi hi]using this
def FW(r:Rl):Bs:=r.1++[58]++Go.Ve.lettersN r.2.toNat
def A6(l:List Rl):List Bs:=l.map FW
theorem CP(l:List Rl):(A6 l).length=l.length:=Qy ..
def F4(n:Nat):(Go.Ve.lettersN n).length<=6:=by
 unfold Go.Ve.lettersN;have h:∀(c:Prop)[Decidable c](x:UInt8),(if c then [x]else []).length<=1:=by
  intro c _ x;split<;>simp
 simp only[Qq];have u:=h (n % 2=1) 114;have y:=h (n / 2 % 2=1) 119;have o:=h (n / 4 % 2=1) 100;have j:=h (n / 8 % 2=1) 120;have p:=h (n / 16 % 2=1) 108;have v:=h (n / 32 % 2=1) 115;omega
def aJk{S:HD}{l:List Rl}{nl:Bool}{m0:HF}{Q:Ex->St->Prop}(x:l.length<=4)(p:∀r∈l,r.1.length<=1000∧0<=r.2∧r.2<64)(d:S 200=some (Ac aLB))
  (ga:∀v,v.s 5= .row [9] l.length->RI [] [9] m0 v.m (A6 l) l.length->Q (.exit 0) v):
  ∀(f j:Nat) v g,l.length=j+f->10<=v.c->v.s 5= .row [9] l.length->v.s 16= .slice nl [] (As l)->v.s 17= .int .i64 (l.length:Int)->v.s 18= .int .i64 (j:Int)->RI [] [9] m0 v.m (A6 l) j->A9 S [] Rb Q v g:=by
 intro f;induction f with
 |zero=>
  intro j v g hf hc e ta sa ra I;refine Af Rb.eq_1 ?_;have:¬((j:Int)<l.length):=O
  simp only[↓C2,HH,HZ,reduceIte,Qd,sa,ra,this];exact ga _ e X3
 |succ f ih=>
  intro j v g hf hc e ta sa ra I;refine Af Rb.eq_1 ?_;have u:j<l.length:=O
  have k:((j:Int)<l.length):=O
  have oa:=nJ (j:=j);have hw:=wJ (j:=j) O;obtain⟨ua,q,b⟩:=p l[j] (QX u);have o:(As l)[j]?=some (.agg [.str l[j].1,.int .u8 l[j].2]):=by simp[As,rlD,Qi u]
  have hg:(A6 l).getD j []=FW l[j]:=by simp[A6,Qi u]
  generalize l[j]=r at ua q b o hg;have a:aLB [.int .u8 r.2]=some (.str (Go.Ve.lettersN r.2.toNat)):=if_pos ⟨q,b⟩;have y:=I.row j (by rw[CP];exact u);rw[if_neg O]at y;have xa:=F4 r.2.toNat;have l1:(r.1.length+1<=9223372036854775807)=True:=eq_true O;have l2:(r.1.length+1+(Go.Ve.lettersN r.2.toNat).length<=9223372036854775807)=True:=eq_true O;have w:([v.c+1+3]=([9]:Id))=False:=eq_false Xb;have z:(([9]:Id)=[v.c+1+3])=False:=eq_false Xb;obtain⟨i,n,t⟩:=v;simp only at e ta sa ra y I hc w z;simp only[↓C2,H1,reduceIte,Qb,Qd,e,ta,sa,ra,k,oa,Qh,o,y,Ab d,a,z,l1,l2,QB,Qq,Ah,Av,Aw,Qr,Qj,QS,QP,Qk,false_and];refine A0 ?_;simp only[↓C2,HH,Iz,reduceIte,Qb,Qd,ra,hw];refine ih (j+1) _ _ O Xa e ta sa rfl ?_;have wa:r.1++[58]++Go.Ve.lettersN r.2.toNat=(A6 l).getD j []:=hg.symm;rw[wa];exact((I.put Xb).put Xb).fill (ZC)
def aLK:List D->Option D:=FX (λp:Bool×List Rl=>[.slice p.1 [] (As p.2)]) (λp=>p.2.length<=1000000∧∀r∈p.2,r.1.length<=1000∧0<=r.2)
 (λp=> .tup [.str (if Cg p.2=0 then B7 (A6 p.2)else []),.int .i64 (Cg p.2)])
def bP{nl:Bool}{l:List Rl}(h:l.length<=1000000)(y:∀r∈l,r.1.length<=1000∧0<=r.2):aLK [.slice nl [] (As l)]=some (.tup [.str (if Cg l=0 then B7 (A6 l)else []),.int .i64 (Cg l)]):=
 Ca (mk:=λp:Bool×List Rl=>[.slice p.1 [] (As p.2)]) (a:=(nl,l)) (λa b h=>by
  simp only[Qc,D.slice.injEq,true_and,and_true]at h;exact QU h.1 (dJ h.2)) ⟨h,y⟩
open Classical in
def Tb{nl:Bool}{l:List Rl}(h:l.length<=1000000)(y:∀r∈l,r.1.length<=1000∧0<=r.2):aA8 [.slice nl [] (As l)]=some (.int .i64 (Cg l)):=by
 have d:As l=As (Bv (As l))∧(As l).length<=1000000∧Cw (Bv (As l)):=by
  rw[A3,A1];exact⟨rfl,h,λr i=>Nat.le_trans (y r i).1 O⟩
 show(if _ then _ else _)=_;rw[if_pos d,A3]
def aMo:Kq aLK 136:=by
 obtain⟨S,hS,hl⟩:=By (Aa eJ (Aa aUA (Aa sU Ad)));have da:=hl 168 _ rfl;have d:=hl 200 _ rfl;have a:=hl 69 _ rfl;clear hl;refine C8 hS (Aj func136:Fn Qe 136 36 aOi [.t 2,.t 3]) (λ_=>U) (λp s=>?_);obtain⟨nl,l⟩:=p;obtain⟨hl,m⟩:=s;simp only at hl m;have f:=Tb (nl:=nl) hl m;have n:=Ou (l:=l);simp only;unfold aOi;generalize Cg l=e at f n;by_cases c:e=0
 ·subst c;obtain⟨h4,g⟩:=n rfl;have z:((0:Int)<=(l.length:Int)):=by omega
  have k:((l.length:Int)*(((16:Nat):Int)+1)<=140737488355328)=True:=eq_true O;simp only[↓C2,HE,reduceIte,Qb,Qd,Ab da,f,z,k,A1,Qh,ZA,Qg,Qm,Qp,and_self];refine aJk (l:=l) (nl:=nl) (m0:=λ_ _=>none) h4 (λr i=>⟨(m r i).1,(m r i).2,by have:=g r i;omega⟩) d (λw h5 I=>?_) l.length 0 _ _ O Xa rfl rfl rfl rfl ?_
  ·simp only[↓C2,HH,HZ,reduceIte,Qd,h5];rw[AH a];rw[←CP]at I;have j:CN (A6 l)<=1000000:=by
    have:=M8 (l:=A6 l) (b:=1007) λx q=>by
     obtain⟨y,o,rfl⟩:=QL.1 q;have u:=(m y o).1;have v:=F4 y.2.toNat;simp only[FW,Qq,Qg,Qm];omega
    rw[CP]at this;omega
   refine aI (fL (CP l).symm I.strs (by rw[CP];omega) j) ?_;simp only[↓C2,HE,reduceIte,Qb,Qd]
   all_goals exact Y3
  ·grind [RI.start,CP]
 ·simp only[↓C2,HE,reduceIte,Qb,Qd,Ab da,f,c,and_self]
  all_goals exact Y3
def aOP:=y0 f44 [] []
def aOO:=y0 f101 [] []
def aON:=y0 f259 [] []
def aOM:=y0 f260 [] []
def Rh:=y1 f261 4 [] []
def aOL:=y0 f261 [] [(4,Rh)]
def aNV:=y0 f310 [] []
def Wh:=y1 f207 7 [] []
def aWZ:=y0 f207 [] [(7,Wh)]
def OY{s:Bs}{p:Nat}{c:UInt8}(h:s[p]?=some c)(d:c.toNat<128):Utf8.decode ⟨s.toArray⟩ p=(c.toNat,1):=by
 have g:=(QQ.1 h).1;have x:H6 s p=c.toNat:=by simp[H6,h]
 unfold Utf8.decode;simp only[OI,Za,x,d,if_true]
def Sy:List (Bs×Bs):=[([],[]),([115,116,97,116,117,115],[]),([117,110,115,101,97,108],[107]),([115,101,97,108],[116]),([114,111,116,97,116,101],[116]),([109,111,117,110,116],[116,112,110,102]),([117,110,109,111,117,110,116],[116,112]),([109,97,107,101],[116,109,114]),([114,101,118,111,107,101],[116,109]),([114,101,97,100],[116,112,110]),([119,114,105,116,101],[116,112,99,100]),([100,101,108,101,116,101],[116,112,108]),([117,110,100,101,108,101,116,101],[116,112,108]),([100,101,115,116,114,111,121],[116,112,108]),([109,101,116,97],[116,112]),([99,111,110,102,105,103],[116,112,110,102]),([112,117,114,103,101],[116,112]),([108,105,115,116],[116,112]),([99,111,112,121],[116,112,113])]
def EU(op:Int):Bs:=(Sy.getD op.toNat ([],[])).1
def BP(op:Int):Bs:=(Sy.getD op.toNat ([],[])).2
def aDE(p:Bs×Bs):Option D->Bool
 |some (.agg [.str a,.str b])=>Go.Ve.eqBs a p.1&&Go.Ve.eqBs b p.2
 |_=>false
def aAX:List D->Option D:=OK (λ_=>none) 30 aOP [.cell (some 2) 2] 60
def sB:Kq aAX 44:=OJ Ba (Aj func44:Fn Qe 44 30 aOP [.cell (some 2) 2]) 60
def aGo:(ZD 256).all (λop=>aDE (Sy.getD op ([],[])) (aAX [.int .u8 (op:Nat)]))=true:=Z
def Rq{op:Int}(b:0<=op)(h:op<256):aAX [.int .u8 op]=some (.agg [.str (EU op),.str (BP op)]):=by
 have:=QT.1 aGo op.toNat Xb;rw[Qx b]at this;unfold EU BP;generalize aAX [.int .u8 op]=r at this;unfold aDE at this;split at this
 ·rw[QY]at this;rw[Go.Ve.eqBs_eq this.1,Go.Ve.eqBs_eq this.2]
 ·cases this
structure Iq (a:Ak):Prop where
 op0:0<=a.op
 op:a.op<256
 tk:a.tk.length<=1000
 pa:a.pa.length<=1000
 ot:a.ot.length<=1000
 ns:a.ns.length<=1000
 da:a.da.length<=1000
 rl:a.rs.length<=1000
 rs:∀r∈a.rs,r.1.length<=1000∧0<=r.2
 key:a.key.length<=1000
def Bw(a:Ak)(c:Int):Int:=if c=116 then Dm (BJ a.tk)else if c=109 then Dm (BJ a.ot)else if c=112 then Ay a.pa else if c=113 then Ay a.ot else if c=110 then Dm (decide (0<=a.n∧a.n<=999))else if c=99 then Dm (decide (-1<=a.cas∧a.cas<=999))else if c=108 then Dm (countB a.ns)else if c=114 then Cg a.rs else if c=107 then Dm (decide ((a.key.length:Int)=16))else 0
def aHE:List D->Option D:=FX (λp:Ak×Int=>[Ic p.1,.int .i32 p.2]) (λp=>Iq p.1) (λp=> .int .i64 (Bw p.1 p.2))
def Iu{a:Ak}{c:Int}(h:Iq a):aHE [Ic a,.int .i32 c]=some (.int .i64 (Bw a c)):=
 Ca (mk:=λp:Ak×Int=>[Ic p.1,.int .i32 p.2]) (a:=(a,c)) (λx y e=>by
  simp only[Qc,D.int.injEq,true_and,and_true]at e;exact QU (Gf e.1) e.2) h
def aMt:Kq aHE 101:=by
 obtain⟨S,hS,hl⟩:=By (Aa aUO (Aa aMn (Aa sA (Aa aMm (Aa aUN (Aa eJ Ad))))));have h:=hl 169 _ rfl;have e:=hl 97 _ rfl;have fa:=hl 107 _ rfl;have f:=hl 170 _ rfl;have i:=hl 171 _ rfl;have da:=hl 168 _ rfl;clear hl;refine C8 hS (Aj func101:Fn Qe 101 58 aOO [.t 4]) (λ_=>U) (λp hp=>?_);obtain⟨a,c⟩:=p;simp only at hp;have hT:=wO (s:=a.tk) (by have:=hp.tk;omega);have hO:=wO (s:=a.ot) (by have:=hp.ot;omega);have hP:kL [.str a.pa]=some (.int .i64 (Ay a.pa)):=if_pos (by have:=hp.pa;omega);have hQ:kL [.str a.ot]=some (.int .i64 (Ay a.ot)):=if_pos (by have:=hp.ot;omega);have hN:aBc [.int .i64 a.n,.int .i64 0,.int .i64 999]=some (.bool (decide (0<=a.n∧a.n<=999))):=rfl;have hC:aBc [.int .i64 a.cas,.int .i64 (-1),.int .i64 999]=some (.bool (decide (-1<=a.cas∧a.cas<=999))):=rfl;have hL:=aLJ (nl:=a.nln) (l:=a.ns) (by have:=hp.ns;omega);have hR:=Tb (nl:=a.nlr) (l:=a.rs) (by have:=hp.rl;omega) hp.rs;unfold Bw aOO Ic Ia;simp only;by_cases b:c=116
 ·subst b;simp only[↓C2,H1,simprocAttr,Ab h,hT,Ab e,Ir,Ah]
  all_goals exact Y3
 have k:decide (c=116)=false:=by simpa using b
 by_cases y:c=109
 ·subst y;simp only[↓C2,H1,simprocAttr,Ab h,hO,Ab e,Ir,Ah]
  all_goals exact Y3
 have j:decide (c=109)=false:=by simpa using y
 by_cases ca:c=112
 ·subst ca;simp only[↓C2,H1,simprocAttr,Ab fa,hP,Ah]
  all_goals exact Y3
 have u:decide (c=112)=false:=by simpa using ca
 by_cases z:c=113
 ·subst z;simp only[↓C2,H1,simprocAttr,Ab fa,hQ,Ah]
  all_goals exact Y3
 have r:decide (c=113)=false:=Xw
 by_cases d:c=110
 ·subst d;simp only[↓C2,H1,simprocAttr,Ab f,hN,Ab e,Ir,Ah]
  all_goals exact Y3
 have o:decide (c=110)=false:=by simpa using d
 by_cases ga:c=99
 ·subst ga;simp only[↓C2,H1,simprocAttr,Ab f,hC,Ab e,Ir,Ah]
  all_goals exact Y3
 have w:decide (c=99)=false:=by simpa using ga
 by_cases h108:c=108
 ·subst h108;simp only[↓C2,H1,simprocAttr,Ab i,hL,Ab e,Ir,Ah]
  all_goals exact Y3
 have q:decide (c=108)=false:=by simpa using h108
 by_cases x:c=114
 ·subst x;simp only[↓C2,H1,simprocAttr,Ab da,hR,Ah]
  all_goals exact Y3
 have m:decide (c=114)=false:=by simpa using x
 by_cases g:c=107
 ·subst g;simp only[↓C2,H1,simprocAttr,Ab e,Ir,Ah]
  all_goals exact Y3
 have v:decide (c=107)=false:=XN
 simp only[↓C2,HE,simprocAttr,b,y,ca,z,d,ga,h108,x,g,Qp,and_self]
 all_goals exact Y3
def Ey(a:Ak)(c:Int):Ak:=if c=116 then {a with tk:=[]}else if c=112 then {a with pa:=[]}else if c=109∨c=113 then {a with ot:=[]}else if c=110 then {a with n:=0}else if c=99 then {a with cas:=0}else if c=102 then {a with fl:=false}else if c=108 then {a with nln:=true,ns:=[]}else if c=100 then {a with da:=[]}else if c=114 then {a with nlr:=true,rs:=[]}else if c=107 then {a with key:=[]}else a
def aL2:List D->Option D:=FX (λp:Ak×Int=>[Ic p.1,.int .i32 p.2]) (λp=>True) (λp=>Ic (Ey p.1 p.2))
def aL1{a:Ak}{c:Int}:aL2 [Ic a,.int .i32 c]=some (Ic (Ey a c)):=
 Ca (mk:=λp:Ak×Int=>[Ic p.1,.int .i32 p.2]) (a:=(a,c)) (λx y e=>by
  simp only[Qc,D.int.injEq,true_and,and_true]at e;exact QU (Gf e.1) e.2) trivial
def aU8:Kq aL2 259:=by
 refine C8 (S:=λ_=>none) Ba (Aj func259:Fn Qe 259 38 aON [.cell (some 11) 4]) (λ_=>U) (λp y=>?_);obtain⟨a,c⟩:=p;unfold Ey aON Ic Ia;simp only;by_cases b:c=116
 ·subst b;simp only[↓C2,H1,simprocAttr,or_self,Ah,Av,Aw,Qj,Qk,Qc,Qn,and_false,Qf,BC,AW]
  all_goals exact Y3
 by_cases r:c=112
 ·subst r;simp only[↓C2,H1,simprocAttr,or_self,Ah,Av,Aw,Qj,Qk,Qc,Qn,and_false,Qf,BC,AW]
  all_goals exact Y3
 by_cases j:c=109
 ·subst j;simp only[↓C2,H1,simprocAttr,true_or,Ah,Av,Aw,Qj,Qk,Qc,Qn,and_false,Qf,BC,AW]
  all_goals exact Y3
 by_cases z:c=113
 ·subst z;simp only[↓C2,H1,simprocAttr,or_true,Ah,Av,Aw,Qj,Qk,Qc,Qn,and_false,Qf,BC,AW]
  all_goals exact Y3
 by_cases d:c=110
 ·subst d;simp only[↓C2,H1,simprocAttr,or_self,Ah,Av,Aw,Qj,Qk,Qc,Qn,and_false,Qf,BC,AW]
  all_goals exact Y3
 by_cases t:c=99
 ·subst t;simp only[↓C2,H1,simprocAttr,or_self,Ah,Av,Aw,Qj,Qk,Qc,Qn,and_false,Qf,BC,AW]
  all_goals exact Y3
 by_cases f:c=102
 ·subst f;simp only[↓C2,H1,simprocAttr,or_self,Ah,Av,Aw,Qj,Qk,Qc,Qn,and_false,Qf,BC,AW]
  all_goals exact Y3
 by_cases h108:c=108
 ·subst h108;simp only[↓C2,H1,simprocAttr,or_self,Ah,Av,Aw,Qj,Qk,Qc,Qn,and_false,Qf,BC,AW]
  all_goals exact Y3
 by_cases q:c=100
 ·subst q;simp only[↓C2,H1,simprocAttr,or_self,Ah,Av,Aw,Qj,Qk,Qc,Qn,and_false,Qf,BC,AW]
  all_goals exact Y3
 by_cases k:c=114
 ·subst k;simp only[↓C2,H1,simprocAttr,or_self,Ah,Av,Aw,Qj,Qk,Qc,Qn,and_false,Qf,BC,AW]
  all_goals exact Y3
 by_cases g:c=107
 ·subst g;simp only[↓C2,H1,simprocAttr,or_self,Ah,Av,Aw,Qj,Qk,Qc,Qn,and_false,Qf,BC,AW]
  all_goals exact Y3
 simp only[↓C2,H1,simprocAttr,b,r,j,z,d,t,f,h108,q,k,g,or_self,Ah,Av,Aw,Qj,Qk,Qc,Qn,Qf,BC,AW]
 all_goals exact Y3
def orN(s:Bs):Bs:=if s=[]then [45]else s
def Nu(a:Ak)(c:Int):Bs:=if c=116 then a.tk else if c=112 then a.pa else if c=109∨c=113 then a.ot else if c=110 then GL a.n.toNat else if c=99 then(if a.cas=-1 then [45]else GL a.cas.toNat)
 else if c=102 then(if a.fl=true then [49]else [48])else if c=108 then orN (B7 (GJ a.ns))else if c=100 then orN (PH a.da)else if c=114 then orN (if Cg a.rs=0 then B7 (A6 a.rs)else [])else PH a.key
structure U7 (a:Ak) (c:Int):Prop where
 n:c=110->0<=a.n∧a.n<1000
 cas:c=99->-1<=a.cas∧a.cas<1000
 ns:c=108->∀x∈a.ns,0<=x∧x<1000
def aLH:List D->Option D:=FX (λp:Ak×Int=>[Ic p.1,.int .i32 p.2]) (λp=>Iq p.1∧U7 p.1 p.2) (λp=> .str (Nu p.1 p.2))
def aLG{a:Ak}{c:Int}(h:Iq a)(f:U7 a c):aLH [Ic a,.int .i32 c]=some (.str (Nu a c)):=
 Ca (mk:=λp:Ak×Int=>[Ic p.1,.int .i32 p.2]) (a:=(a,c)) (λx y e=>by
  simp only[Qc,D.int.injEq,true_and,and_true]at e;exact QU (Gf e.1) e.2) ⟨h,f⟩
def aUK:Kq aLH 310:=by
 obtain⟨S,v,hl⟩:=By (Aa aMg (Aa aUy (Aa aUx (Aa aMk (Aa aMo Ad)))));have e:=hl 330 _ rfl;have g:=hl 331 _ rfl;have o:=hl 332 _ rfl;have j:=hl 14 _ rfl;have m:=hl 136 _ rfl;clear hl;refine C8 v (Aj func310:Fn Qe 310 63 aNV [.t 4]) (λ_=>U) (λp hp=>?_);obtain⟨a,c⟩:=p;obtain⟨hp,hN,hC,hL⟩:=hp;simp only at hp hN hC hL;unfold Nu orN aNV Ic Ia;simp only;by_cases b:c=116
 ·subst b;simp only[↓C2,H1,simprocAttr,or_self,Ah]
  all_goals exact Y3
 by_cases r:c=112
 ·subst r;simp only[↓C2,H1,simprocAttr,or_self,Ah]
  all_goals exact Y3
 by_cases y:c=109
 ·subst y;simp only[↓C2,H1,simprocAttr,true_or,Ah]
  all_goals exact Y3
 by_cases z:c=113
 ·subst z;simp only[↓C2,H1,simprocAttr,or_true,Ah]
  all_goals exact Y3
 by_cases d:c=110
 ·subst d;have w:=hN rfl;obtain⟨n,ja⟩:∃n:Nat,a.n=(n:Int):=⟨a.n.toNat,O⟩;have h:=W7 (n:=n) O;rw[ja];simp only[↓C2,H1,simprocAttr,Ab e,h,Qh,or_self,Ah]
  all_goals exact Y3
 by_cases ga:c=99
 ·subst ga;have hc:=hC rfl;by_cases u:a.cas=-1
  ·rw[u];simp only[↓C2,H1,simprocAttr,or_self,Ah]
   all_goals exact Y3
  ·obtain⟨n,ja⟩:∃n:Nat,a.cas=(n:Int):=⟨a.cas.toNat,O⟩;have h:=W7 (n:=n) O;rw[ja]at u ⊢;simp only[↓C2,H1,simprocAttr,u,Ab e,h,Qh,or_self,Ah]
   all_goals exact Y3
 by_cases f:c=102
 ·subst f;cases a.fl<;>simp only[↓C2,H1,simprocAttr,or_self,Ah]
  all_goals exact Y3
 by_cases h108:c=108
 ·subst h108;have hl:=hL rfl;have k:=aLA (nl:=a.nln) (l:=a.ns) hp.ns hl;simp only[↓C2,H1,simprocAttr,Ab o,k,Ab g,W6,or_self,Ah]
  all_goals exact Y3
 by_cases fa:c=100
 ·subst fa;have i:=W8 (s:=a.da) (by have:=hp.da;omega);simp only[↓C2,H1,simprocAttr,Ab j,i,Ab g,W6,or_self,Ah]
  all_goals exact Y3
 by_cases x:c=114
 ·subst x;have q:=bP (nl:=a.nlr) (l:=a.rs) (by have:=hp.rl;omega) hp.rs;simp only[↓C2,H1,simprocAttr,Ab m,q,Ab g,W6,or_self,Ah]
  all_goals exact Y3
 have i:=W8 (s:=a.key) (by have:=hp.key;omega);simp only[↓C2,H1,simprocAttr,Ab j,i,b,r,y,z,d,ga,f,h108,fa,x,or_self,Ah]
 all_goals exact Y3
def TI(a:Ak):Bool:=a.ns.isEmpty&&(a.rs.isEmpty&&(decide (a.op=0)&&(decide (a.tk=[])&&(decide (a.pa=[])&&(decide (a.ot=[])&&(decide (a.n=0)&&(decide (a.cas=0)&&(!a.fl&&(decide (a.da=[])&&decide (a.key=[]))))))))))
def ak0:Ak:=⟨0,[],[],[],0,0,false,true,[],[],true,[],[]⟩
def aTs:List D->Option D:=FX (λa:Ak=>[Ic a,Ic ak0]) (λa=>Iq a) (λa=> .bool (TI a))
def aL0{a:Ak}(h:Iq a):aTs [Ic a,Ic ak0]=some (.bool (TI a)):=
 Ca (mk:=λa:Ak=>[Ic a,Ic ak0]) (λx y e=>by
  simp only[Qc,and_true]at e;exact Gf e) h
def aUL:Kq aLI 132:=by
 obtain⟨S,g,hl⟩:=By (Aa aUz Ad);have b:=hl 197 _ rfl;clear hl;refine C8 g aM7 (λ_=>U) (λp j=>?_);have a:=W9 (nl:=p.1) (nl':=p.2.2) (l:=p.2.1) j;unfold uD;by_cases e:(([D.slice p.1 [] p.2.1,.slice p.2.2 [] []]:List D).map D.un).all D.calm=true
 ·simp only[↓C2,HE,simprocAttr,Ab b,a,and_self]
  all_goals exact Y3
 ·exact absurd rfl e
def aU7:Kq aTs 260:=by
 obtain⟨S,s,hl⟩:=By (Aa aUM (Aa aUL Ad));have d:=hl 309 _ rfl;have e:=hl 132 _ rfl;clear hl;refine C8 s (Aj func260:Fn Qe 260 82 aOM [.t 4]) (λ_=>U) (λa g=>?_);have c:=W9 (nl:=a.nln) (nl':=true) (l:=AI a.ns) (by rw[Fa];have:=g.ns;omega);have b:=W9 (nl:=a.nlr) (nl':=true) (l:=As a.rs) (by rw[A1];have:=g.rl;omega);have m:(AI a.ns).isEmpty=a.ns.isEmpty:=by cases a.ns<;>rfl
 have z:(As a.rs).isEmpty=a.rs.isEmpty:=by cases a.rs<;>rfl
 rw[m]at c;rw[z]at b;unfold TI aOM Ic Ia ak0;simp only;generalize a.ns.isEmpty=u at c;generalize a.rs.isEmpty=v at b;have n1:AI ([]:List Int)=[]:=rfl;have n2:As ([]:List Rl)=[]:=rfl;cases u with
 |false=>
  simp only[↓C2,H1,simprocAttr,n1,n2,Ab d,c,QA,Ah,Qc,Qn,Qf]
  all_goals exact Y3
 |true=>
  cases v with
  |false=>
   simp only[↓C2,H1,simprocAttr,n1,n2,Ab d,c,Ab e,b,QA,QN,Ah,Qc,Qn,Qf]
   all_goals exact Y3
  |true=>
   simp only[Zq];by_cases q:a.op=0
   ·by_cases x:a.tk=[]
    ·by_cases i:a.pa=[]
     ·by_cases g4:a.ot=[]
      ·by_cases g5:a.n=0
       ·by_cases y:a.cas=0
        ·cases g7:a.fl with
         |false=>
          by_cases r:a.da=[]
          ·simp only[↓C2,H1,simprocAttr,n1,n2,Ab d,c,Ab e,b,Ah,Qc,Qn,Qf,q,x,i,g4,g5,y,r]
           trace_state
           all_goals exact Y3
          ·simp only[↓C2,H1,simprocAttr,n1,n2,Ab d,c,Ab e,b,QA,QN,Ah,Qc,Qn,Qf,q,x,i,g4,g5,y,r]
           all_goals exact Y3
         |true=>
          simp only[↓C2,H1,simprocAttr,n1,n2,Ab d,c,Ab e,b,QA,QN,Ah,Qc,Qn,Qf,q,x,i,g4,g5,y]
          all_goals exact Y3
        ·simp only[↓C2,H1,simprocAttr,n1,n2,Ab d,c,Ab e,b,QA,QN,Ah,Qc,Qn,Qf,q,x,i,g4,g5,y]
         all_goals exact Y3
       ·simp only[↓C2,H1,simprocAttr,n1,n2,Ab d,c,Ab e,b,QA,QN,Ah,Qc,Qn,Qf,q,x,i,g4,g5]
        all_goals exact Y3
      ·simp only[↓C2,H1,simprocAttr,n1,n2,Ab d,c,Ab e,b,QA,QN,Ah,Qc,Qn,Qf,q,x,i,g4]
       all_goals exact Y3
     ·simp only[↓C2,H1,simprocAttr,n1,n2,Ab d,c,Ab e,b,QA,QN,Ah,Qc,Qn,Qf,q,x,i]
      all_goals exact Y3
    ·simp only[↓C2,H1,simprocAttr,n1,n2,Ab d,c,Ab e,b,QA,QN,Ah,Qc,Qn,Qf,q,x]
     all_goals exact Y3
   ·simp only[↓C2,H1,simprocAttr,n1,n2,Ab d,c,Ab e,b,QA,Ah,Qc,Qn,Qf,q]
    all_goals exact Y3
theorem AG{m:HF}{i j:Id}{o:Nat}{ds:List D}(h:j≠i):∀{n p:Nat},Ag (m.put i o ds) j p n=Ag m j p n
 |0,p=>rfl
 |n+1,p=>by
  simp only[Ag,aA h];rw[AG h]
theorem VE{i:Id}:∀{ds:List D} {m:HF} {p:Nat},(∀k d,ds[k]?=some d->m i (p+k)=some d)->Ag m i p ds.length=some ds
 |[],m,p,_=>rfl
 |d::r,m,p,h=>by
  have b:=h 0 d rfl;rw[Za]at b;have q:=VE (ds:=r) (m:=m) (p:=p+1) λk x w=>by
   have:=h (k+1) x Xx;rw[show p+1+k=p+(k+1)by omega];exact this
  simp only[Qg,Ag,b,q,Qv]
theorem AB{m:HF}{i:Id}{ds:List D}{n:Nat}(h:ds.length=n):Ag (m.put i 0 ds) i 0 n=some ds:=by
 grind [VE,Ah]
def Nf{m:HF}{i:Id}{o:Nat}:Ag m i o 1=(m i o).map λd=>[d]:=by
 grind [Ag]
def B_(a:Ak):(Ia a).map D.un1=Ia a:=rfl
def B0(a:Ak):(Ia a).all D.calm1=true:=rfl
def AQ(a:Ak):D.cells (.agg (Ia a))=Ia a:=rfl
theorem AV(a:Ak):(Ia a).length=11:=rfl
def fH{a:Ak}{c:Int}(h:Iq a):(Nu a c).length<=100000:=by
 obtain⟨_,_,u,f,o,j,e,v,h7,q⟩:=h;have n1:=Nk a.n.toNat;have n2:=Nk a.cas.toNat;have t:∀s:Bs,s.length<=100000->(orN s).length<=100000:=by
  grind [orN]
 have g:(B7 (GJ a.ns)).length<=100000:=by
  have m:=GU (GJ a.ns);have z:=M8 (l:=GJ a.ns) (b:=3) λx p=>by
   obtain⟨y,_,rfl⟩:=QL.1 p;exact Nk _
  rw[Ek]at m z;omega
 have k:(if Cg a.rs=0 then B7 (A6 a.rs)else []).length<=100000:=by
  split
  ·rename_i d;have w:=(Ou d).1;have m:=GU (A6 a.rs);have z:=M8 (l:=A6 a.rs) (b:=1007) λx p=>by
    obtain⟨y,hy,rfl⟩:=QL.1 p;have u:=(h7 y hy).1;have f:=F4 y.2.toNat;simp only[FW,Qq,Qg,Qm];omega
   rw[CP]at m z;omega
  ·simp
 have r:=hexB_len a.da;have i:=hexB_len a.key;unfold Nu;split
 ·omega
 ·grind
def Pp(a:Ak):Bs:=EU a.op++(BP a.op).flatMap λc=>32::Nu a (c.toNat:Int)
theorem forms_ok:Sy.all (λp=>decide (p.1.length<=20)&&(decide (p.2.length<=20)&&p.2.all λc=>decide (c.toNat<128)))=true:=Xf
def tF(op:Int):(EU op).length<=20∧(BP op).length<=20∧∀c∈BP op,c.toNat<128:=by
 unfold EU BP;have:∀p:Bs×Bs,p=([],[])∨p∈Sy->p.1.length<=20∧p.2.length<=20∧∀c∈p.2,c.toNat<128:=by
  grind [forms_ok]
 refine this _ ?_;by_cases h:op.toNat<Sy.length
 ·simp_all
 ·simp_all
def aJq{S:HD}{a:Ak}(t:Iq a)(d:S 310=some (Ac aLH)){ls:Bs}(ja:ls.length<=20)(n:∀c∈ls,c.toNat<128)(b:∀c∈ls,U7 a (c.toNat:Int)){ki:Id}(o:([0]:Id)≠ki){w0:Bs}(k:w0.length<=20){Q:Ex->St->Prop}
  (ga:∀v,v.s 4= .str (w0++ls.flatMap λc=>32::Nu a (c.toNat:Int))->Q (.exit 0) v):
  ∀(f p:Nat) v g,ls.length=p+f->v.s 1= .ptr [0] 0->v.s 4= .str (w0++(ls.take p).flatMap λc=>32::Nu a (c.toNat:Int))->v.s 14= .itp ki->Ag v.m [0] 0 11=some (Ia a)->v.m ki 1=some (.it ls p)->
   A9 S [] Rh Q v g:=by
 intro f;induction f with
 |zero=>
  intro p v g hf u h4 wa hm w;refine Af Rh.eq_1 ?_;have y:¬(p<ls.length):=O
  simp only[↓C2,HH,simprocAttr,wa,y,w,Qo];refine ga _ ?_;simp only[↓C2,reduceIte,Qb,h4];rw[QG O]
 |succ f ih=>
  intro p v g hf u h4 wa hm w;refine Af Rh.eq_1 ?_;have y:p<ls.length:=O
  have ka:ls[p]?=some ls[p]:=Qi y;have z:ls[p]∈ls:=QX y;have i:=OY ka (n _ z);have e:aLH [.agg (Ia a),.int .i32 (ls[p].toNat:Int)]=some (.str (Nu a (ls[p].toNat:Int))):=aLG t (b _ z);have xa:=fH (c:=(ls[p].toNat:Int)) t;have qa:ls.take (p+1)=ls.take p++[ls[p]]:=by rw[Zg,ka];rfl
  have j:((ls.take p).flatMap λc=>32::Nu a (c.toNat:Int)).length<=100001*20:=by
   have:∀(l:Bs),((l.flatMap λc=>32::Nu a (c.toNat:Int))).length<=100001*l.length:=by
    intro l;induction l with
    |nil=>simp
    |cons x r ih=>
     have:=fH (c:=(x.toNat:Int)) t;simp only[List.flatMap_cons,Qq,Qg,ZJ];omega
   have h:=this (ls.take p);have h':(ls.take p).length<=20:=Xu
   omega
  have q:(1+(Nu a (ls[p].toNat:Int)).length<=9223372036854775807)=True:=eq_true O;have na:(w0.length+((ls.take p).flatMap λc=>32::Nu a (c.toNat:Int)).length+(1+(Nu a (ls[p].toNat:Int)).length)<=9223372036854775807)=True:=eq_true O;generalize ls[p]=c at i e qa q na;obtain⟨ma,ia,da⟩:=v;simp only at u h4 wa hm w;simp only[↓C2,HE,simprocAttr,u,h4,wa,hm,i,AG o,Ab d,e,q,na,B_,B0,y,w,Qq,Qg,Qm,Qp,Qo,Qw];refine ih (p+1) _ _ O ?_ ?_ ?_ ?_ ?_
  ·exact u
  ·simp only[↓C2,reduceIte,Qb];rw[qa];simp
  ·exact wa
  ·grind [AG]
  ·grind [Ah]
def aTr:List D->Option D:=FX (λa:Ak=>[Ic a]) (λa=>Iq a∧∀c∈BP a.op,U7 a (c.toNat:Int)) (λa=> .str (Pp a))
def aLZ{a:Ak}(h:Iq a)(f:∀c∈BP a.op,U7 a (c.toNat:Int)):aTr [Ic a]=some (.str (Pp a)):=
 Ca (mk:=λa:Ak=>[Ic a]) (λx y e=>by
  simp only[Qc,and_true]at e;exact Gf e) ⟨h,f⟩
def aU6:Kq aTr 261:=by
 obtain⟨S,s,hl⟩:=By (Aa sB (Aa aUK Ad));have e:=hl 44 _ rfl;have d:=hl 310 _ rfl;clear hl;refine C8 s (Aj func261:Fn Qe 261 25 aOL [.t 2]) (λ_=>U) (λa g=>?_);obtain⟨x,b⟩:=g;have n:=Rq x.op0 x.op;obtain⟨w,c,f⟩:=tF a.op;have q:Ia a= .int .u8 a.op::(Ia a).tail:=rfl;unfold Pp aOL Ic;have p:∀m:HF,m.put [0] 0 (Ia a) [0] 0=some (.int .u8 a.op):=λm=>by
  rw[Ah,if_pos ⟨rfl,QB _,by rw[AV];omega⟩];rfl
 simp only[↓C2,H1,simprocAttr,Ab e,n,p,AQ,AV,Ah,Av,Aw,Qj,Qk,Qc,Qf];refine aJq (ls:=BP a.op) (w0:=EU a.op) x d c f b (ki:=_) ?_ w (λv j=>?_) (BP a.op).length 0 _ _ O rfl ?_ rfl ?_ ?_
 ·decide
 ·simp only[↓C2,HE,simprocAttr,j]
  all_goals exact Y3
 ·simp only[↓C2,HH,reduceIte,Qb,QP,List.flatMap_nil,QI]
 ·simp only[AG (show([0]:Id)≠[12]by decide),AG (show([0]:Id)≠[5]by decide),AB (AV a)]
 ·simp only[Iz,HZ,simprocAttr,Ah,Qu,QM,Qg,Qm,Qp,Qo,Qw,and_self,Qc,false_and,Qf]
def NX(a:Ak):Ak->Bs->Int×Ak
 |b,[]=>(0,b)
 |b,c::r=>if Bw a (c.toNat:Int)≠0 then(Bw a (c.toNat:Int),b)else NX a (Ey b (c.toNat:Int)) r
def Ly(a:Ak):Ak:={a with op:=0}
def Cl(a:Ak):Int:=if EU a.op=[]then 22 else if(NX a (Ly a) (BP a.op)).1≠0 then(NX a (Ly a) (BP a.op)).1 else if TI (NX a (Ly a) (BP a.op)).2=false then 2 else if 400<(Pp a).length then 5 else 0
def Iq.without{a:Ak}(h:Iq a)(c:Int):Iq (Ey a c):=by
 unfold Ey;obtain⟨b,u,y,o,j,p,v,m,q,x⟩:=h
 repeat' split
 all_goals exact⟨by first|exact b|simp,by first|exact u|simp,by first|exact y|simp,by first|exact o|simp,by first|exact j|simp,by first|exact p|simp,by first|exact v|simp,by first|exact m|simp,by first|exact q|simp,by first|exact x|simp⟩
def aCe{m:HF}{i:Id}(a:Ak):Ag ((m.put i 0 (Ia a)).put i 0 [.int .u8 0]) i 0 11=some (Ia (Ly a)):=by
 grind [VE,Ia,Ly,AV,Ah]
def aQT{S:HD}{a:Ak}(t:Iq a)(j:S 101=some (Ac aHE))(l:S 259=some (Ac aL2)){ls:Bs}(n:∀c∈ls,c.toNat<128){r:Int×Ak}{Q:Ex->St->Prop}
  (pa:∀v,r.1≠0->v.s 2= .int .i64 r.1->Q .ret v)
  (ga:∀v,r.1=0->(∀c∈ls,Bw a (c.toNat:Int)=0)->Iq r.2->v.s 1= .ptr [0] 0->v.s 4= .ptr [11] 0->Ag v.m [0] 0 11=some (Ia a)->Ag v.m [11] 0 11=some (Ia r.2)->Q (.exit 0) v):
  ∀(f p:Nat)(b:Ak) v g,ls.length=p+f->NX a b (ls.drop p)=r->(∀c∈ls.take p,Bw a (c.toNat:Int)=0)->Iq b->v.s 1= .ptr [0] 0->v.s 4= .ptr [11] 0->v.s 18= .itp [17]->Ag v.m [0] 0 11=some (Ia a)->Ag v.m [11] 0 11=some (Ia b)->v.m [17] 1=some (.it ls p)->
   A9 S [] Wh Q v g:=by
 have va:([0]:Id)≠[17]:=V
 have k:([11]:Id)≠[17]:=V
 have o:([0]:Id)≠[11]:=V
 have q:([17]:Id)≠[11]:=V
 intro f;induction f with
 |zero=>
  intro p b v g hf hr hz hb u h4 ra hm fa ca;refine Af Wh.eq_1 ?_;have hp:¬(p<ls.length):=O
  simp only[↓C2,HH,simprocAttr,ra,hp,ca,Qo];rw[List.drop_of_length_le O]at hr;rw[QG O]at hz;simp only[NX]at hr;subst hr;exact ga _ rfl hz hb u h4 hm fa
 |succ f ih=>
  intro p b v g hf hr hz hb u h4 ra hm fa ca;refine Af Wh.eq_1 ?_;have hp:p<ls.length:=O
  have ka:ls[p]?=some ls[p]:=Qi hp;have z:ls[p]∈ls:=QX hp;have i:=OY ka (n _ z);have d:aHE [.agg (Ia a),.int .i32 (ls[p].toNat:Int)]=some (.int .i64 (Bw a (ls[p].toNat:Int))):=Iu t;have e:aL2 [.agg (Ia b),.int .i32 (ls[p].toNat:Int)]=some (.agg (Ia (Ey b (ls[p].toNat:Int)))):=aL1;have qa:ls.take (p+1)=ls.take p++[ls[p]]:=by rw[Zg,ka];rfl
  have y:ls.drop p=ls[p]::ls.drop (p+1):=QJ hp;have wa:=hb.without (ls[p].toNat:Int);rw[y]at hr;unfold NX at hr;generalize ls[p]=c at i d e qa hr wa;obtain⟨ma,ia,da⟩:=v;simp only at u h4 ra hm fa ca;by_cases he:Bw a (c.toNat:Int)=0
  ·rw[if_neg (λh=>h he)]at hr;rw[he]at d;simp only[↓C2,HE,simprocAttr,u,h4,ra,hm,fa,i,AG va,AG k,Ab j,d,Ab l,e,B_,B0,AQ,AV,hp,ca,and_self,Qo,Qw,Qk];refine ih (p+1) _ _ _ O hr (λx w=>?_) wa ?_ ?_ ?_ ?_ ?_ ?_
   ·grind
   ·exact u
   ·exact h4
   ·exact ra
   ·grind [AG]
   ·grind [AB,AV]
   ·grind [aA,Ah]
  ·rw[if_pos he]at hr;simp only[↓C2,HE,simprocAttr,u,ra,hm,i,AG va,Ab j,d,he,B_,B0,hp,ca,Qo,Qw];exact pa _ (by rw[←hr];exact he) (by rw[←hr];rfl)
def ML{b:Bool}(h:Dm b=0):b=true:=by cases b with
 |true=>rfl
 |false=>cases h
def aC7{a:Ak}{c:Int}(h:Bw a c=0):U7 a c:=by
 refine⟨?_,?_,?_⟩
 ·rintro rfl;have e:Bw a 110=Dm (decide (0<=a.n∧a.n<=999)):=by simp[Bw]
  rw[e]at h;have:=of_decide_eq_true (ML h);omega
 ·rintro rfl;have e:Bw a 99=Dm (decide (-1<=a.cas∧a.cas<=999)):=by simp[Bw]
  rw[e]at h;have:=of_decide_eq_true (ML h);omega
 ·rintro rfl;have e:Bw a 108=Dm (countB a.ns):=by simp[Bw]
  rw[e]at h;have y:=ML h;unfold countB at y;rw[QY]at y;intro x p;have o:(a.ns.any λx=>!decide (1<=x∧x<=999))=false:=by simpa using y.2
  rw[List.any_eq_false]at o;have j:=o x p;have w:1<=x∧x<=999:=by simpa using j
  omega
def F68:List D->Option D:=FX (λa:Ak=>[Ic a]) (λa=>Iq a) (λa=> .int .i64 (Cl a))
def aTm{a:Ak}(h:Iq a):F68 [Ic a]=some (.int .i64 (Cl a)):=
 Ca (mk:=λa:Ak=>[Ic a]) (λx y e=>by
  simp only[Qc,and_true]at e;exact Gf e) h
def aYC:Kq F68 207:=by
 obtain⟨S,hS,hl⟩:=By (Aa sB (Aa aMt (Aa aU8 (Aa aU7 (Aa aU6 Ad)))));have e:=hl 44 _ rfl;have j:=hl 101 _ rfl;have l:=hl 259 _ rfl;have g:=hl 260 _ rfl;have i:=hl 261 _ rfl;clear hl;refine C8 hS (Aj func207:Fn Qe 207 39 aWZ [.t 2]) (λ_=>U) (λa x=>?_);have la:=Rq x.op0 x.op;obtain⟨f1,f2,f3⟩:=tF a.op;have qa:∀m:HF,m.put [0] 0 (Ia a) [0] 0=some (.int .u8 a.op):=λm=>by
  rw[Ah,if_pos ⟨rfl,QB _,by rw[AV];omega⟩];rfl
 have va:([0]:Id)≠[17]:=V
 have k:([11]:Id)≠[17]:=V
 have o:([0]:Id)≠[11]:=V
 have q:([0]:Id)≠[5]:=V
 have ua:∀m:HF,m.put [11] 0 (Ia a) [11] 0=some (.int .u8 a.op):=λm=>by
  rw[Ah,if_pos ⟨rfl,QB _,by rw[AV];omega⟩];rfl
 have w:Iq (Ly a):=⟨by simp[Ly],by simp[Ly],x.tk,x.pa,x.ot,x.ns,x.da,x.rl,x.rs,x.key⟩;have b:(∀c∈BP a.op,Bw a (c.toNat:Int)=0)->aTr [.agg (Ia a)]=some (.str (Pp a)):=λh=>aLZ x λc s=>aC7 (h c s)
 unfold Cl aWZ Ic;by_cases p:EU a.op=[]
 ·have n:(EU a.op==([]:Bs))=true:=by rw[p];rfl
  simp only[↓C2,HE,simprocAttr,AQ,AV,Ab e,la,qa,AB,Ah,Qu,QM,Qg,Qm,Qp,Qo,and_self,Qk,Qc,Qf,p]
  all_goals exact Y3
 ·have n:(EU a.op==([]:Bs))=false:=by simpa using p
  simp only[↓C2,H1,simprocAttr,AQ,AV,Ab e,la,qa,ua,Nf,AB,Ah,Qk,Qc,and_false,Qf,p,AG q,AB (AV a)];generalize hr:NX a (Ly a) (BP a.op)=r;refine aQT (r:=r) x j l f3 (λv u y=>?_) (λv u hz hb z h4 hm fa=>?_) (BP a.op).length 0 (Ly a) _ _ O hr U w rfl rfl rfl ?_ ?_ ?_
  ·simp only[↓C2,HE,reduceIte,u,y,ne_eq];rw[if_neg p]
  ·have f:=b hz;have d:aTs [.agg (Ia r.2),.agg [.int .u8 0,.str [],.str [],.str [],.int .i64 0,.int .i64 0,.bool false,.slice true [] [],.str [],.slice true [] [],.str []]]=some (.bool (TI r.2)):=aL0 hb;cases hzb:TI r.2 with
   |false=>
    rw[hzb]at d;simp only[↓C2,HE,simprocAttr,B_,B0,ne_eq,QD,Q2,Q7,Zb,Zh,u,h4,fa,Ab g,d,Cj,D.un1,D.calm1,Zj];rw[if_neg p]
   |true=>
    rw[hzb]at d;by_cases hl:400<(Pp a).length
    ·have ea:((400:Int)<((Pp a).length:Int)):=by omega
     simp only[↓C2,HE,simprocAttr,B_,B0,ne_eq,QD,Q2,Q7,Zb,Zh,u,z,h4,hm,fa,Ab g,d,Ab i,f,Cj,hl,ea,D.un1,D.calm1,Zj];rw[if_neg p]
    ·have ea:¬((400:Int)<((Pp a).length:Int)):=by omega
     simp only[↓C2,HE,simprocAttr,B_,B0,ne_eq,QD,Q2,Q7,Zb,Zh,u,z,h4,hm,fa,Ab g,d,Ab i,f,Cj,hl,ea,D.un1,D.calm1,Zj];rw[if_neg p]
  ·grind [AG,AB,AV]
  ·simp only[AG k];exact aCe a
  ·grind [Ah]
def ryN:Ry->Prop
 | .names nl l=>nl=true->l=[]
 |_=>True
def Ot:∀{l:List Rw} {a:Int},Cz l a=true->∀x∈l,a<x.1∧x.1<=(l.getLast?.map (·.1)).getD 0
 |[],a,_,x,hx=>by cases hx
 |y::r,a,h,x,hx=>by
  simp only[Cz,QY,decide_eq_true_eq]at h;cases r with
  |nil=>
   rw[Q4.1 hx];exact⟨h.1,U⟩
  |cons z q=>
   have ih:=Ot h.2;have d:=ih z (Zs ..);rw[List.getLast?_cons_cons];rcases QO.1 hx with rfl|hx
   ·exact⟨h.1,O⟩
   ·grind
def CQ(l:List Rw):GN l=(l.getLast?.map (·.1)).getD 0:=by
 grind [GN]
def UX{s:Sc}{q:Int}(h:B5 s q=false)(z:q<=6):s.rs.length<=6∧∀x∈s.rs,1<=x.1∧x.1<=30:=by
 obtain⟨u,v,y,e,f,c⟩:=EM h;have g:AT s q<=6:=X9
 refine⟨O,λx p=>?_⟩;have:=Ot f x p;rw[←CQ,c]at this;omega
theorem sum_64:∀l:List Bs,(l.any λs=>!mH s)=false->CN l<=64*l.length
 |[],_=>by simp[CN]
 |x::r,h=>by
  simp only[ZE,Bool.or_eq_false_iff,Bool.not_eq_false']at h;have ih:=sum_64 r h.2;have p:x.length<=64:=by
   grind [mH]
  simp only[CN,Qg];omega
def rK{y:Ry}(h:MY y=0)(w:ryN y):ryG y:=by
 cases y with
 |fail e=>simp only[MY]at h;split at h;(rename_i c;exact⟨O,O⟩);omega
 |done=>trivial
 |number n=>simp only[MY]at h;split at h;(rename_i c;exact⟨O,O⟩);omega
 |found n d=>simp only[MY]at h;split at h;(rename_i c;exact⟨O,O,O⟩);omega
 |about s=>
  simp only[MY]at h;cases hb:B5 s 6 with
  |true=>rw[hb]at h;simp at h
  |false=>
   obtain⟨u,v,q,_⟩:=EM hb;obtain⟨j,k⟩:=UX hb O;exact⟨O,O,O,λx p=>by have:=k x p;omega⟩
 |names nl l=>
  simp only[MY]at h;split at h
  ·rename_i c;have:=sum_64 l c.2;exact⟨O,w,O⟩
  ·omega
 |state b=>trivial
theorem Us(l:List Bs):(Ut l).length<=1+CN l+l.length:=by
 grind [Ut,join_len]
def aIv{y:Ry}(h:MY y=0)(w:ryN y):(Pc y).length<=6∧CN (Pc y)<=100000:=by
 cases y with
 |fail e=>have:=Fr e.toNat;simp only[Pc,CN,Qg,Qm];omega
 |done=>simp[Pc,CN]
 |number n=>have:=Fr n.toNat;simp only[Pc,CN,Qg,Qm];omega
 |found n d=>
  have:=Fr n.toNat;simp only[MY]at h;split at h
  ·grind [hexB_len,Pc,CN]
  ·omega
 |about s=>
  have j:=Fr s.mx.toNat;have z:=Fr s.la.toNat;obtain⟨q,_⟩:=rK h w;have:=Us (s.rs.map ER);have:=RJ s.rs;rw[Qy]at *;simp only[Pc,CN,Qg,Qm];omega
 |names nl l=>
  simp only[MY]at h;split at h
  ·grind [sum_64,Us,Pc,CN]
  ·omega
 |state b=>cases b<;>simp[Pc,CN]
def aGa:=Aq [(67,Ac R92),(70,Ac aTe),(69,Ac fM)]
def aLo:=RF aGa aO5 [.t 2,.t 3] 13
def aMS:Kq aLo 30:=An (Aj func30) (Aa aYU (Aa aWp (Aa aML Ad)))
def vQ(y:Ry)(h:aIw y)(w:ryN y):aLo [.agg (Iv y)]=some (.tup [.str (IY y),.int .i64 (MY y)]):=by
 refine Am (Qa rfl) ?_;unfold aO5;have o:=aSM y h;have e0:∃a b c d e f g i j k,Iv y=[a,b,c,d,e,f,g,i,j,k]:=Y1
 have d0:∀x∈Iv y,x.un1=x∧x.calm1=true:=by
  cases y<;>(intro x p;simp only[Iv,QO,QV,or_false]at p;rcases p with rfl|rfl|rfl|rfl|rfl|rfl|rfl|rfl|rfl|rfl<;>exact⟨rfl,rfl⟩)
 unfold IY;by_cases c:MY y=0
 ·have n:=aK8 y (rK c w);obtain⟨w1,w2⟩:=aIv c w;have m:=fK (l:=Pc y) (s:=[32]) ⟨aBS y,O,O,U,by have:=join_len (Pc y) [32];simp only[Qg,Qm]at this;omega⟩;obtain⟨a,b,cc,d,e,f,g,i,j,k,r⟩:=e0;have u:=λx p=>d0 x p
  rw[r]at o n d0 ⊢;rw[c]at o ⊢;simp only[QO,QV,or_false,forall_eq_or_imp,forall_eq]at d0;obtain⟨⟨a1,a2⟩,⟨q,b2⟩,⟨c1,c2⟩,⟨d1,d2⟩,⟨v,z⟩,⟨f1,f2⟩,⟨t,g2⟩,⟨i1,i2⟩,⟨j1,j2⟩,k1,k2⟩:=d0;have la:((strsD (Pc y)).all D.calm)=true:=by simp[strsD,QT];intros;rfl
  simp only[HG,↓C2,HB,simprocAttr,Ae aGa 67,o,a1,a2,q,b2,c1,c2,d1,d2,v,z,f1,f2,t,g2,i1,i2,j1,j2,k1,k2,Ae aGa 70,n,Ae aGa 69,m,spJ]
  all_goals exact Y2
 ·have c':=eq_false c;obtain⟨a,b,cc,d,e,f,g,i,j,k,r⟩:=e0;rw[r]at o d0 ⊢;simp only[QO,QV,or_false,forall_eq_or_imp,forall_eq]at d0;obtain⟨⟨a1,a2⟩,⟨q,b2⟩,⟨c1,c2⟩,⟨d1,d2⟩,⟨v,z⟩,⟨f1,f2⟩,⟨t,g2⟩,⟨i1,i2⟩,⟨j1,j2⟩,k1,k2⟩:=d0;simp only[HG,↓C2,HB,simprocAttr,Ae aGa 67,o,a1,a2,q,b2,c1,c2,d1,d2,v,z,f1,f2,t,g2,i1,i2,j1,j2,k1,k2,c']
  all_goals exact Y2
def aXS:=Aq [(30,Ac aLo)]
def aLp:=RF aXS aO6 [.t 2] 17
def aMT:Kq aLp 37:=An (Aj func37) (Aa aMS Ad)
def W3(e:Int)(h:1<=e∧e<=99):aLp [.int .i64 e]=some (.str (IY (.fail e))):=by
 refine Am (Qa rfl) ?_;unfold aO6;have n:=vQ (.fail e) trivial trivial;have c:MY (.fail e)=0:=if_pos h;rw[c]at n;have c':(e=0)=False:=eq_false O;unfold Iv at n;simp only[HG,↓C2,HB,simprocAttr,Ae aXS 30,n,c']
 all_goals exact Y2
def aR6{b:Bool}:decide (b=true)=b:=by cases b<;>rfl
def aOK:=y0 f262 [] []
def aOJ:=y0 f263 [] []
def aWY:=y0 f208 [(4,[(6,0),(6,2)])] []
def aWX:=y0 f209 [] []
def aXd:=y0 f143 [] []
def aXe:=y0 f78 [] []
structure Vw where
 se:Bool
 te:Int
 key:Bs
 nlm:Bool
 ms:List Mt
 nlt:Bool
 ks:List Tk
def It(v:Vw):List D:=[.bool v.se,.int .i64 v.te,.str v.key,.slice v.nlm [] (Az v.ms),.slice v.nlt [] (Ar v.ks)]
def IB(v:Vw):D:= .agg (It v)
theorem PO{a b:Vw}(h:IB a=IB b):a=b:=by
 cases a;cases b;simp only[IB,It,D.agg.injEq,Qc,D.int.injEq,D.str.injEq,D.bool.injEq,D.slice.injEq,true_and,and_true]at h;obtain⟨u,y,o,⟨j,p⟩,v,m⟩:=h;have f:=eM p;have k:=cO m;subst u y o j v f k;rfl
def I_(v:Vw):(It v).map D.un1=It v:=rfl
def I0(v:Vw):(It v).all D.calm1=true:=rfl
def BG(v:Vw):D.cells (.agg (It v))=It v:=rfl
theorem CG(v:Vw):(It v).length=5:=rfl
structure SU (v:Vw):Prop where
 ml:v.ms.length<=1000
 mp:∀m∈v.ms,m.1.length<=1000
 kl:v.ks.length<=1000
 kp:∀k∈v.ks,aBH k∧I6 k.2.2.2
theorem cP{l:List Tk}{j:Nat}(h:j<l.length):Bk l j∈l:=by simp[Bk,Qi h]
def SU.set{v:Vw}(h:SU v):FU (Ar v.ks):=Fj (by have:=h.kl;omega)
def Gv(ks:List Tk)(n p:Bs)(c:Int):Bool:=AY ks n&&fR (DB (Bk ks (IZ ks n)).2.2.2 p).toNat c.toNat
open Classical in
def aHs{nl:Bool}{l:List Tk}{s:Bs}(hl:l.length<=1000000)(g:∀k∈l,aBH k):F35 [.agg [.slice nl [] (Ar l)],.str s]=some (.tup (if AY l s=true then [IW (Bk l (IZ l s)),.bool true]else [.agg [.str [],.str [],.slice true [] []],.bool false])):=by
 have h:FU (Ar l)∧∀k∈DG (Ar l),aBH k:=⟨Fj hl,by rw[BU];exact g⟩;show(if _ then _ else _)=_;rw[if_pos h,BU]
open Classical in
def aTn{nl:Bool}{l:List Tk}{s p:Bs}(hl:l.length<=1000000)(g:∀k∈l,k.2.2.2.length<=1000000):F36 [.agg [.slice nl [] (Ar l)],.str s,.str p]=some (.int .u8 (if AY l s=true then DB (Bk l (IZ l s)).2.2.2 p else 0)):=by
 have h:FU (Ar l)∧∀k∈DG (Ar l),k.2.2.2.length<=1000000:=⟨Fj hl,by rw[BU];exact g⟩;show(if _ then _ else _)=_;rw[if_pos h,BU]
def aJ9{l:List Rl}(h:G8 l)(s:Bs):0<=DB l s∧DB l s<256:=by
 unfold DB;split
 ·omega
 ·generalize (IM s (l.map (·.1))).toNat=j;by_cases z:j<l.length
  ·have:CK l j=l[j]:=by simp[CK,Qi z]
   rw[this];exact h _ (QX z)
  ·grind [CK]
def mN(p:Vw×Bs×Bs×Int):List D:=[IB p.1,.str p.2.1,.str p.2.2.1,.int .u8 p.2.2.2]
def aCL(x y:Vw×Bs×Bs×Int)(e:mN x=mN y):x=y:=by
 grind [mN,PO]
def aLY:List D->Option D:=FX mN (λp=>SU p.1∧0<=p.2.2.2∧p.2.2.2<256) (λp=> .bool (Gv p.1.ks p.2.1 p.2.2.1 p.2.2.2))
def wR{v:Vw}{n p:Bs}{c:Int}(h:SU v)(u:0<=c∧c<256):aLY [IB v,.str n,.str p,.int .u8 c]=some (.bool (Gv v.ks n p c)):=Ca (mk:=mN) (a:=(v,n,p,c)) aCL ⟨h,u⟩
def aU5:Kq aLY 263:=by
 obtain⟨S,hS,hl⟩:=By (Aa aUw (Aa aYD Ad));have e:=hl 81 _ rfl;have f:=hl 13 _ rfl;clear hl;refine C8 hS (Aj func263:Fn Qe 263 29 aOJ [.t 8]) (λ_=>by simp[mN]) (λp y=>?_);obtain⟨v,n,q,c⟩:=p;obtain⟨i,r⟩:=y;simp only at i r;have o:=i.kl;have z:=aHs (nl:=v.nlt) (l:=v.ks) (s:=n) O (λk g=>(i.kp k g).1);have d:=aTn (nl:=v.nlt) (l:=v.ks) (s:=n) (p:=q) O (λk g=>(i.kp k g).2.1);unfold aOJ mN IB It Gv;simp only;cases hf:AY v.ks n with
 |false=>
  rw[hf]at z;simp only[Qs,if_false]at z;simp only[↓C2,H1,simprocAttr,Ab e,z,QA,Ah,Av,Aw,Qj,Qk,Qc,Qf]
  all_goals exact Y3
 |true=>
  rw[hf]at z d;simp only[if_true]at z d;have x:IZ v.ks n<v.ks.length:=by
   grind [AY]
  have qa:=(i.kp _ (cP x)).2.2.2;generalize Bk v.ks (IZ v.ks n)=k at z d qa;have u:=aJ9 qa q;generalize DB k.2.2.2 q=w at d u;have b:=ST (a:=w.toNat) (c:=c.toNat) O O;rw[Qx r.1,Qx u.1]at b;have hz:(((Nat.land c.toNat (255-w.toNat):Nat):Int)=0)=(fR w.toNat c.toNat=true):=by
   simp_all [fR]
  simp only[IW]at z;simp only[↓C2,H1,simprocAttr,Ab e,z,Ab f,d,cE,b,hz,aR6,Ah,Av,Aw,Qj,Qk,Qc,and_false,Qf]
  all_goals exact Y3
def aIm:Bs:=[115,121,115]
def atA(a:Ak):Bs:=if a.op<=8 then aIm else a.pa
def R2(v:Vw)(a:Ak):Bool:=Gv v.ks a.tk (atA a) (Lw a.op)&&(decide (a.op≠18)||Gv v.ks a.tk a.ot 2)
def MB(p:Vw×Ak):List D:=[IB p.1,Ic p.2]
def R7(x y:Vw×Ak)(e:MB x=MB y):x=y:=by
 grind [MB,PO,Gf]
def aFx(op:Int):0<=Lw op∧Lw op<256:=by
 grind [Lw]
def aHD:List D->Option D
 |[.int .u8 op]=>some (.bool (decide (op<=8)))
 |_=>none
def aMs:Kq aHD 262:=by
 refine AO (S:=λ_=>none) Ba (Aj func262:Fn Qe 262 5 aOK [.t 2]) (λds r h=>?_) (λds r h=>?_)
 ·unfold aHD at h;split at h
  ·simp
  ·cases h
 ·unfold aHD at h;split at h
  ·simp only[Ql]at h;subst h;unfold aOK;simp only[↓C2,HE,simprocAttr]
   all_goals exact Y3
  ·cases h
def F69:List D->Option D:=FX MB (λp=>SU p.1) (λp=> .bool (R2 p.1 p.2))
def aTl{v:Vw}{a:Ak}(h:SU v):F69 [IB v,Ic a]=some (.bool (R2 v a)):=Ca (mk:=MB) (a:=(v,a)) R7 h
def aYB:Kq F69 208:=by
 obtain⟨S,s,hl⟩:=By (Aa aMs (Aa aYE (Aa aU5 Ad)));have c:=hl 262 _ rfl;have i:=hl 264 _ rfl;have h:=hl 263 _ rfl;clear hl;refine C8 s (Aj func208:Fn Qe 208 32 aWY [.t 4]) (λ_=>by simp[MB]) (λp r=>?_);obtain⟨v,a⟩:=p;simp only at r;have f:aHD [.int .u8 a.op]=some (.bool (decide (a.op<=8))):=rfl;have x:F27 [.int .u8 a.op]=some (.int .u8 (Lw a.op)):=rfl;have j:∀q,aLY [.agg (It v),.str a.tk,.str q,.int .u8 (Lw a.op)]=some (.bool (Gv v.ks a.tk q (Lw a.op))):=λq=>wR r (aFx _)
 have e:aLY [.agg (It v),.str a.tk,.str a.ot,.int .u8 2]=some (.bool (Gv v.ks a.tk a.ot 2)):=wR r O;have l:∀m:HF,Ag (m.put [1] 0 (Ia a)) [0] 0 5=Ag m [0] 0 5:=λm=>AG V
 have la:Ag (HF.put (λ_ _=>none) [0] 0 (It v)) [0] 0 5=some (It v):=AB (CG v);have n:∀m:HF,∀k d,(Ia a)[k]?=some d->(m.put [1] 0 (Ia a)) [1] k=some d:=λm k d z=>by
  have u:=(QQ.1 z).1;rw[Ah,if_pos ⟨rfl,Qu _,O⟩];exact z
 have m0:=λm=>n m 0 _ rfl
 have m1:=λm=>n m 1 _ rfl
 have m2:=λm=>n m 2 _ rfl
 have m3:=λm=>n m 3 _ rfl
 unfold aWY MB IB Ic R2 atA;simp only;by_cases w:a.op<=8
 ·have o:¬a.op=18:=by omega
  rw[decide_eq_true w]at f;have y:=j aIm;simp only[w,if_true];generalize Gv v.ks a.tk aIm (Lw a.op)=b at y;unfold aIm at y;cases b<;>simp only[↓C2,HE,simprocAttr,m0,m1,m2,l,la,I_,I0,BG,AQ,Qp,ne_eq,o,Ab c,f,Ab i,x,Ab h,y]<;>refine A0 ?_<;>simp only[↓C2,HE,reduceIte,Qb,ZH,o]
  all_goals exact Y3
 ·rw[decide_eq_false w]at f;have y:=j a.pa;simp only[w,if_false];generalize Gv v.ks a.tk a.pa (Lw a.op)=b at y;generalize Gv v.ks a.tk a.ot 2=b2 at e;by_cases o:a.op=18
  ·have g:(a.op=18)=True:=eq_true o;clear o;cases b<;>cases b2<;>simp only[↓C2,HE,simprocAttr,m0,m1,m2,m3,l,la,I_,I0,BG,AQ,Qp,ne_eq,Ab c,f,Ab i,x,Ab h,y,e,g]<;>refine A0 ?_<;>simp only[↓C2,HE,reduceIte,Qb,ZF,QN,g]
   all_goals exact Y3
  ·cases b<;>simp only[↓C2,HE,simprocAttr,m0,m1,m2,l,la,I_,I0,BG,AQ,Qp,ne_eq,o,Ab c,f,Ab i,x,Ab h,y]<;>refine A0 ?_<;>simp only[↓C2,HE,reduceIte,Qb,ZH,o]
   all_goals exact Y3
abbrev Op1:=Int×Bs×Bs
def opD(x:Op1):D:= .agg [.int .u8 x.1,.str x.2.1,.str x.2.2]
def ED(l:List Op1):List D:=l.map opD
def aIY{x y:Op1}(h:opD x=opD y):x=y:=by
 grind [opD]
def aCr{a b:List Op1}(h:ED a=ED b):a=b:=(Zd (λ_ _ e=>aIY e)).1 h
def aCq(l:List Op1):(ED l).length=l.length:=Qy ..
structure Oc where
 need:Bs
 li:Bool
 rep:Bs
 nl:Bool
 ops:List Op1
 vw:Vw
structure Wb where
 v:Vw
 a:Ak
 k:Kn
def ocC(o:Oc)(t:Id):List D:=[.str o.need,.bool o.li,.str o.rep,.slice o.nl t (ED o.ops)]++It o.vw
def Iy(w:Wb)(o:Oc)(t:Id):List D:=It w.v++(Ia w.a++(Im w.k++ocC o t))
theorem CW(w:Wb)(o:Oc)(t:Id):(Iy w o t).length=30:=rfl
def Ld{α:Type}{f:α->Bs}{a b:List α}(h:a.map (λx=>D.str (f x))=b.map λx=>D.str (f x)):a.map f=b.map f:=by
 have:=congrArg (Zw λd=>match d with|D.str s=>s|_=>[]) h;simpa[QR,Function.comp_def]using this
def VX{α:Type}{f:α->Bool}{a b:List α}(h:a.map (λx=>D.bool (f x))=b.map λx=>D.bool (f x)):a.map f=b.map f:=by
 have:=congrArg (Zw λd=>match d with|D.bool s=>s|_=>false) h;simpa[QR,Function.comp_def]using this
def aJd{a b:List (Bs×Bool×List Bs)}(h:a.map lsD=b.map lsD):a.map (·.2)=b.map (·.2):=by
 have:=congrArg (Zw λd=>match d with|D.slice nl _ xs=>(nl,xs.map λd=>match d with|D.str s=>s|_=>[])|_=>(false,[])) h;simpa[QR,Function.comp_def,lsD,strsD]using this
def aPK{α β γ:Type}:∀{a b:List (α×β×γ)},a.map (·.1)=b.map (·.1)->a.map (·.2.1)=b.map (·.2.1)->a.map (·.2.2)=b.map (·.2.2)->a=b
 |[],[],_,_,_=>rfl
 |[],_::_,h,_,_=>Xd
 |_::_,[],h,_,_=>Xd
 |x::a,y::b,h1,h2,h3=>by
  simp only[QD,Qc]at h1 h2 h3;rw[aPK h1.2 h2.2 h3.2,QU h1.1 (QU h2.1 h3.1)]
def sN{a b:Kn}(h:Im a=Im b):a=b:=by
 cases a;cases b;simp only[Im,Qc,D.slice.injEq,true_and,and_true]at h;obtain⟨⟨_,u⟩,⟨_,y⟩,⟨_,o⟩,⟨_,j⟩,_,p⟩:=h;have m:=aPK (Ld u) (Ld y) (VX o);have g:=aJd p;have n:=aPK (Ld j) (by have:=congrArg (Zw Prod.fst) g;simpa[QR,Function.comp_def]using this) (by have:=congrArg (Zw Prod.snd) g;simpa[QR,Function.comp_def]using this);rw[m,n]
def M0{w w':Wb}{o o':Oc}{t c:Id}(h:Iy w o t=Iy w' o' c):w=w'∧o=o'∧t=c:=by
 unfold Iy at h;obtain⟨u,h⟩:=Q8 h rfl;obtain⟨y,h⟩:=Q8 h rfl;obtain⟨r,h⟩:=Q8 h rfl;have m:=PO (congrArg D.agg u);have n:=Gf (congrArg D.agg y);have k:=sN r;unfold ocC at h;obtain⟨j,p⟩:=Q8 h rfl;have f:=PO (congrArg D.agg p);simp only[Qc,D.str.injEq,D.bool.injEq,D.slice.injEq,and_true]at j;obtain⟨q,x,i,g4,g5,e⟩:=j;have g:=aCr e;cases w;cases w';cases o;cases o';simp only at m n k f q x i g4 g;subst m n k f q x i g4 g g5;exact⟨rfl,rfl,rfl⟩
abbrev WY:=D×Oc×Option (List Nat)
def cF(i:Id)(w:Wb)(o:Oc)(t fr:Id)(y:WY):HN:=match y.2.2 with
 |none=>[(i,0,Iy w y.2.1 t)]
 |some l=>(i,0,Iy w y.2.1 (l++fr))::Bm 167 (l++fr) (.slice o.nl t (ED o.ops))
def WJ(m:HF)(i:Id)(x:Wb×Oc×Id):Prop:=Ag m i 0 30=some (Iy x.1 x.2.1 x.2.2)∧B8 m 167 x.2.1.nl x.2.2 x.2.1.ops.isEmpty=true∧(x.2.1.nl=true->x.2.2=[])
open Classical in
def Uk(p:Wb×Oc×Id->Prop):Option (Wb×Oc×Id):=if h:∃x,p x then some (Classical.choose h)else none
def eA{p:Wb×Oc×Id->Prop}{x:Wb×Oc×Id}(h:p x)(m:∀y,p y->y=x):Uk p=some x:=by
 have w:∃x,p x:=⟨x,h⟩;unfold Uk;rw[dif_pos w,m _ (Classical.choose_spec w)]
def Uj{p:Wb×Oc×Id->Prop}{x:Wb×Oc×Id}(h:Uk p=some x):p x:=by
 unfold Uk at h;split at h
 ·grind
 ·cases h
def wQ(F:Wb->Oc->List D->Option WY):Il where
 rd:=λds m=>match ds with
  | .ptr i 0::_=>Ai i 0 30++(match m i 24 with|some (.slice _ t _)=>[(t,0)]|_=>[])
  |_=>[]
 ex:=λds m fr=>match ds with
  | .ptr i 0::rest=>(Uk (WJ m i)).bind λx=>(F x.1 x.2.1 rest).map λy=>(y.1,cF i x.1 x.2.1 x.2.2 fr y)
  |_=>none
def aFI{m:HF}{i:Id}{w:Wb}{o:Oc}{t:Id}(h:Ag m i 0 30=some (Iy w o t)):m i 24=some (.slice o.nl t (ED o.ops)):=Bf h rfl
def aPY{F:Wb->Oc->List D->Option WY}(ds:List D)(m m':HF)(fr:Id)(h:∀l∈(wQ F).rd ds m,m l.1 l.2=m' l.1 l.2):(wQ F).ex ds m fr=(wQ F).ex ds m' fr:=by
 simp only[wQ]at h ⊢;split
 ·rename_i i r;have q:Ag m i 0 30=Ag m' i 0 30:=BN (λl hl=>h l (Zo _ hl));have g:WJ m i=WJ m' i:=by
   funext x;obtain⟨w,o,t⟩:=x;apply propext;unfold WJ;rw[q];have y:Ag m' i 0 30=some (Iy w o t)->B8 m 167 o.nl t o.ops.isEmpty=B8 m' 167 o.nl t o.ops.isEmpty:=λd=>by
    refine EH (h (t,0) (Zn _ ?_));have:=aFI (q.trans d);rw[this];simp
   constructor
   ·rintro⟨a,b,c⟩;exact⟨a,by rw[←y a];exact b,c⟩
   ·rintro⟨a,b,c⟩;exact⟨a,by rw[y a];exact b,c⟩
  rw[g]
 ·rfl
def iN{m:HF}{i:Id}{x y:Wb×Oc×Id}(p:WJ m i x)(s:WJ m i y):y=x:=by
 have:=s.1.symm.trans p.1;simp only[Ql]at this;obtain⟨a,b,c⟩:=M0 this;exact QU a (QU b c)
structure Wt (i fr:Id) (m0:HF) (nl0:Bool) (t0:Id) (m:HF) (w:Wb) (o:Oc) (t:Id):Prop where
 at_:WJ m i (w,o,t)
 loc:∀q,t≠q::fr
 sub0:nl0=false->¬fr<:+t0
 ch:(t=t0∧o.nl=nl0∧∀j x d,(j≠i∨30<=x)->m0 j x=some d->m j x=some d)∨
  ((∃l k,t=l++k::fr)∧o.nl=false∧(nl0=false->m t0 0=some (.tok 0))∧∀j x d,(j≠i∨30<=x)->(nl0=true∨j≠t0∨x≠0)->m0 j x=some d->m j x=some d)
def WE(i fr:Id)(m0:HF)(nl0:Bool)(t0:Id)(w:Wb)(y:WY)(d:D)(m':HF):Prop:=d=y.1∧match y.2.2 with
 |none=>Ag m' i 0 30=some (Iy w y.2.1 t0)∧∀j x d,(j≠i∨30<=x)->m0 j x=some d->m' j x=some d
 |some l=>Ag m' i 0 30=some (Iy w y.2.1 (l++fr))∧m' (l++fr) 0=some (.tok 168)∧(nl0=false->m' t0 0=some (.tok 0))∧∀j x d,(j≠i∨30<=x)->(nl0=true∨j≠t0∨x≠0)->m0 j x=some d->m' j x=some d
section
variable{i fr t0 t:Id}{m0 m m':HF}{nl0:Bool}{w:Wb}{o o':Oc}
def PN(h:Ag m i 0 30=some (Iy w o t)):m i 0=some (.bool w.v.se):=Bf h rfl
def lE(h:WJ m i (w,o,t))(v:o.nl=false):i≠t:=by
 rintro rfl;have u:=PN h.1;have y:=Fb h.2.1 v;rw[u]at y;cases y
def qL(h:Ag m i 0 30=some (Iy w o t))(y:m t0 0=some (.tok 0)):t0≠i:=by
 rintro rfl;rw[PN h]at y;cases y
def Wt.put(h:Wt i fr m0 nl0 t0 m w o t)(y:∀j x,fr<:+j->m0 j x=none:=by assumption)(f:∀k,(i=k::fr)=False:=by assumption){q p:Nat}{ys:List D}:Wt i fr m0 nl0 t0 (m.put (q::fr) p ys) w o t:=by
 obtain⟨⟨a1,a2,c⟩,hl,n,s⟩:=h;have hi:i≠q::fr:=λe=>(f q).mp e
 have a:∀j x d,m0 j x=some d->j≠q::fr:=λj x d u e=>by
  rw[e,y (q::fr) _ ⟨[q],rfl⟩]at u;cases u
 refine⟨⟨by rw[PT hi];exact a1,?_,c⟩,hl,n,?_⟩
 ·grind [EH,aA]
 ·grind [aA]
def Wt.cell(h:Wt i fr m0 nl0 t0 m w o t)(r:Ag m' i 0 30=some (Iy w o' t))(u:o'.nl=o.nl)(y:o'.ops=o.ops)(s:∀j x,(j≠i∨30<=x)->m' j x=m j x):Wt i fr m0 nl0 t0 m' w o' t:=by
 obtain⟨a,hl,k,hc⟩:=h;refine⟨⟨r,?_,by show o'.nl=true->t=[];rw[u];exact a.2.2⟩,hl,k,?_⟩
 ·show B8 m' 167 o'.nl t o'.ops.isEmpty=true;rw[u,y];have v:=a.2.1;cases hn:o.nl with
  |true=>simp only[hn,B8,if_true]at v ⊢;exact v
  |false=>
   have p:=lE a hn;simp only[hn]at v;rw[←v];exact EH (s t 0 (.inl (λe=>p e.symm)))
 ·rcases hc with ⟨c1,q,c2⟩|⟨c1,c2,c3,c⟩
  ·simp_all
  ·exact .inr ⟨c1,by rw[u];exact c2,λb=>by rw[s t0 0 (.inl (qL a.1 (c3 b)))];exact c3 b,λj x d z f n=>by rw[s j x z];exact c j x d z f n⟩
theorem rT{cs:List D}(hl:cs.length=30):∀j x,(j≠i∨30<=x)->(m.put i 0 cs) j x=m j x:=λj x h=>by
 rcases h with h|h
 ·rw[aA h]
 ·grind [aD,aA]
def Hb{nl:Bool}{xs:List D}{e:Nat}{f:Id}{j:Id}{x:Nat}:HN.app m (Bm e f (.slice nl t xs)) j x=if j=f∧x=0 then some (.tok (e+1))else if nl=false∧j=t∧x=0 then some (.tok 0)else m j x:=Dj
def Nm(t fr:Id):Option (List Nat)->Id
 |none=>t
 |some l=>l++fr
def Wt.call(h:Wt i fr m0 nl0 t0 m w o t)(s:∀j x,fr<:+j->m0 j x=none)(f:∀k l,(i=l++k::fr)=False){k:Nat}{d:D}{ol:Option (List Nat)}
  (oa:ol=none->o'.nl=o.nl∧o'.ops=o.ops) (sa:∀l,ol=some l->o'.nl=false∧l≠[]):
  Wt i fr m0 nl0 t0 (HN.app m (cF i w o t (k::fr) (d,o',ol))) w o' (Nm t (k::fr) ol)∧∀q x,HN.app m (cF i w o t (k::fr) (d,o',ol)) (q::fr) x=m (q::fr) x:=by
 cases ol with
 |none=>
  obtain⟨u,y⟩:=oa rfl;refine⟨h.cell (Ib (CW _ _ _)) u y (rT (CW _ _ _)),λq x=>?_⟩;have e0:q::fr≠i:=λe=>(f q []).mp e.symm
  show(m.put i 0 _) (q::fr) x=_;rw[aA e0]
 |some l=>
  obtain⟨v,ua⟩:=sa l rfl;obtain⟨a,hl,n,hc⟩:=h;have r:i≠l++k::fr:=λe=>(f k l).mp e
  have ia:∀j x,HN.app m (cF i w o t (k::fr) (d,o',some l)) j x=if j=l++k::fr∧x=0 then some (.tok 168)else if o.nl=false∧j=t∧x=0 then some (.tok 0)else(m.put i 0 (Iy w o' (l++k::fr))) j x:=λj x=>Hb (m:=m.put i 0 (Iy w o' (l++k::fr)))
  have g:∀q,q::fr≠l++k::fr:=λq e=>by
   have:=congrArg ZI e;simp only[Qq,Qg]at this;exact ua (QW.1 O)
  have b:fr<:+l++k::fr:=⟨l++[k],U⟩;refine⟨⟨⟨?_,?_,λh=>absurd h (by rw[v];simp)⟩,λq e=>g q e.symm,n,.inr ⟨⟨l,k,rfl⟩,v,λh0=>?_,λj x dd z qa hm=>?_⟩⟩,λq x=>?_⟩
  ·show Ag _ i 0 30=some (Iy w o' (l++k::fr));rw[←Ib (m:=m) (i:=i) (CW w o' (l++k::fr))];refine BN (λq hq=>?_);have wa:q.1=i:=by
    grind [Ai]
   rw[ia,wa,if_neg (λe=>r e.1),if_neg (λe=>lE a e.1 e.2.1)]
  ·show B8 _ 167 o'.nl (l++k::fr) _=true;rw[v];unfold B8;rw[if_neg QK];simp only[ia,and_self,if_true];cases l<;>simp
  ·have p:t0≠l++k::fr:=λe=>n h0 (e▸b)
   rw[ia,if_neg (λe=>p e.1)];rcases hc with ⟨c1,c0,c2⟩|⟨c1,c2,c3,c4⟩
   ·simp_all
   ·split
    ·rfl
    ·rw[aA (qL a.1 (c3 h0))];exact c3 h0
  ·have p:j≠l++k::fr:=λe=>by rw[e,s _ _ b]at hm;cases hm
   rw[ia,if_neg (λe=>p e.1)];have c:m j x=some dd:=by
    grind
   rw[if_neg]
   ·grind [rT,CW]
   ·rintro⟨e1,e2,e3⟩;rcases hc with ⟨c1,c0,c2⟩|⟨⟨l',k',c1⟩,c2,c3,c4⟩
    ·simp_all
    ·rw[e2,c1,s _ _ ⟨l'++[k'],U⟩]at hm;cases hm
  ·have e0:q::fr≠i:=λe=>(f q []).mp e.symm
   rw[ia,if_neg (λe=>g q e.1),if_neg (λe=>hl q e.2.1.symm),aA e0]
def Wt.start(h:WJ m i (w,o,t))(y:∀j x,fr<:+j->m j x=none):Wt i fr m o.nl t m w o t:=by
 have k:o.nl=false->¬fr<:+t:=λv k=>by
  have:=Fb h.2.1 v;rw[y _ _ k]at this;cases this
 refine⟨h,λq e=>?_,k,.inl ⟨rfl,rfl,λ_ _ _ _ h=>h⟩⟩;cases v:o.nl with
 |true=>have:=h.2.2 v;simp only at this;rw[this]at e;cases e
 |false=>exact k v (by rw[e];exact⟨[q],rfl⟩)
def Wt.end0(h:Wt i fr m0 nl0 t0 m w o t0)(z:nl0=true->t0=[]){d:D}:WE i fr m0 nl0 t0 w (d,o,none) d m:=by
 refine⟨rfl,h.at_.1,?_⟩;rcases h.ch with ⟨c1,b,c2⟩|⟨⟨l,k,c1⟩,c2,t,p⟩
 ·exact c2
 ·exfalso;cases hn:nl0 with
  |true=>rw[z hn]at c1;simp at c1
  |false=>exact h.sub0 hn (c1▸⟨l++[k],U⟩)
def Wt.endl{l:List Nat}(h:Wt i fr m0 nl0 t0 m w o (l++fr))(hl:l≠[]){d:D}:WE i fr m0 nl0 t0 w (d,o,some l) d m:=by
 refine⟨rfl,h.at_.1,?_⟩;rcases h.ch with ⟨c1,b,c2⟩|⟨⟨f,k,c1⟩,c2,t,p⟩
 ·exfalso;cases hn:nl0 with
  |true=>
   have:=h.at_.2.2 (b.trans hn);simp only[List.append_eq_nil_iff]at this;exact hl this.1
  |false=>exact h.sub0 hn (c1▸⟨l,rfl⟩)
 ·exact⟨Fb h.at_.2.1 c2,t,p⟩
end
def rL(S:HD)(b:DC)(rs:List RV)(N:Nat)(w:Wb)(o:Oc)(r:List D)(y:WY):Prop:=r.length+1<=N∧(y.2.2=none->y.2.1.nl=o.nl∧y.2.1.ops=o.ops)∧(∀l,y.2.2=some l->y.2.1.nl=false∧l≠[])∧
 ∀(i:Id)(m:HF)(fr t:Id),WJ m i (w,o,t)->(∀j x,fr<:+j->m j x=none)->(∀k l,(i=l++k::fr)=False)->(∀k,(i=k::fr)=False)->
  b.wp S fr (Eo rs (WE i fr m o.nl t w y)) ⟨BQ (.ptr i 0::r),m,0⟩
open Classical in
def RW(S:HD)(b:DC)(rs:List RV)(N:Nat):Wb->Oc->List D->Option WY:=λw o r=>if h:∃y,rL S b rs N w o r y then some (Classical.choose h)else none
def Fl{S:HD}{b:DC}{rs:List RV}{N:Nat}{w:Wb}{o:Oc}{r:List D}{y:WY}(h:RW S b rs N w o r=some y):rL S b rs N w o r y:=by
 unfold RW at h;split at h
 ·grind
 ·cases h
def aUo(w:Wb)(o:Oc)(v:o.nl=true->o.ops=[]):∃(m:HF)(t:Id),WJ m [0] (w,o,t)∧(∀j x,[1]<:+j->m j x=none)∧¬[1]<:+t:=by
 have n1:¬[1]<:+[0]:=V
 have n2:¬[1]<:+[2]:=V
 cases hn:o.nl with
 |true=>
  refine⟨HF.put (λ_ _=>none) [0] 0 (Iy w o []),[],⟨Ib (CW _ _ _),?_,λ_=>rfl⟩,λj x z=>?_,V⟩
  ·grind [B8]
  ·rw[aA (λe=>n1 (by rw[←e];exact z))]
 |false=>
  refine⟨(HF.put (λ_ _=>none) [0] 0 (Iy w o [2])).put [2] 0 [.tok 168],[2],⟨?_,?_,λh=>?_⟩,λj x z=>?_,n2⟩
  ·grind [PT,Ib,CW]
  ·grind [B8,HF.put]
  ·simp only at h;rw[hn]at h;cases h
  ·rw[aA (λe=>n2 (by rw[←e];exact z)),aA (λe=>n1 (by rw[←e];exact z))]
def Bb{S:HD}{i:DC}{rs:List RV}{N:Nat}{w:Wb}{o:Oc}{r:List D}{y:WY}(q:o.nl=true->o.ops=[])(s:rL S i rs N w o r y):RW S i rs N w o r=some y:=by
 have p:∃y,rL S i rs N w o r y:=⟨y,s⟩;unfold RW;rw[dif_pos p];obtain⟨m,t,u,f,v⟩:=aUo w o q;have c:∀k l,(([0]:Id)=l++k::[1])=False:=λk l=>eq_false (λe=>by
  have:=congrArg List.getLast? e;simp at this)
 have n:∀k,(([0]:Id)=k::[1])=False:=λk=>eq_false (λe=>by simp at e)
 obtain⟨d,m',a,b⟩:=SF ((Classical.choose_spec p).2.2.2 [0] m [1] t u f c n) (s.2.2.2 [0] m [1] t u f c n);generalize Classical.choose p=z at *;obtain⟨z1,j,z3⟩:=z;obtain⟨y1,y2,y3⟩:=y;obtain⟨rfl,a⟩:=a;obtain⟨hd,b⟩:=b;simp only at hd;subst hd;cases z3 with
 |none=>
  cases y3 with
  |none=>
   have:=a.1.symm.trans b.1;simp only[Ql]at this;rw[(M0 this).2.1]
  |some l=>
   have:=a.1.symm.trans b.1;simp only[Ql]at this;exact absurd ⟨l,(M0 this).2.2.symm⟩ v
 |some l=>
  cases y3 with
  |none=>
   have:=a.1.symm.trans b.1;simp only[Ql]at this;exact absurd ⟨l,(M0 this).2.2⟩ v
  |some g=>
   have:=a.1.symm.trans b.1;simp only[Ql]at this;obtain⟨_,e3,x⟩:=M0 this;rw[e3,List.append_cancel_right x]
def Dw{S:HD}{f:FuncId}{N:Nat}{dc:DC}{rs:List RV}(hf:Fn Qe f N dc rs)(hS:HD.ok Qe S):(wQ (RW S dc rs N)).ok Qe f:=by
 refine LW hS hf aPY (λds m fr r u z s=>?_);simp only[wQ]at z;split at z
 ·rename_i i ca;rw[Q5]at z;obtain⟨⟨w,o,t⟩,g,z⟩:=z;rw[QZ]at z;obtain⟨y,hF,z⟩:=z;simp only[QC]at z;obtain⟨rfl,rfl⟩:=z;have ka:=Uj g;obtain⟨hN,oa,sa,la⟩:=Fl hF;have qa:m i 0=some (.bool w.v.se):=PN ka.1;have ja:∀k l,(i=l++k::fr)=False:=λk l=>eq_false (λe=>by
   rw[e,s _ _ ⟨l++[k],U⟩]at qa;cases qa)
  refine⟨hN,M_ (la i m fr t ka s ja (λk=>ja k [])) (λe n he=>?_)⟩;obtain⟨c,d,b,rfl,hE⟩:=he;refine⟨c,_,b,rfl,λj x dd p=>?_⟩;obtain⟨y1,y2,y3⟩:=y;cases y3 with
  |none=>
   obtain⟨g1,g2⟩:=hE;have pa:(m.put i 0 (Iy w y2 t)) j x=some dd:=p;by_cases hj:j≠i∨30<=x
   ·grind [rT,CW]
   ·have jb:j=i:=Classical.byContradiction (λh=>hj (.inl h));have a:x<30:=Zk (λh=>hj (.inr h));subst jb;have da:=aE (m:=m) (i:=j) (o:=0) (j:=x) (ds:=Iy w y2 t) (by rw[CW];exact a);rw[Qp]at da;rw[da]at pa;exact Bf g1 pa
  |some l=>
   obtain⟨g1,g2,g3,g4⟩:=hE;obtain⟨hn,ua⟩:=sa l rfl;have pa:HN.app (m.put i 0 (Iy w y2 (l++fr))) (Bm 167 (l++fr) (.slice o.nl t (ED o.ops))) j x=some dd:=p;rw[Hb]at pa;split at pa
   ·simp_all
   ·split at pa
    ·simp_all
    ·rename_i e1 e2;by_cases hj:j≠i∨30<=x
     ·rw[rT (CW _ _ _) j x hj]at pa;refine g4 j x dd hj ?_ pa;cases ho:o.nl with
      |true=>exact .inl rfl
      |false=>
       by_cases q:j=t
       ·simp_all
       ·exact .inr (.inl q)
     ·have jb:j=i:=Classical.byContradiction (λh=>hj (.inl h));have a:x<30:=Zk (λh=>hj (.inr h));subst jb;have da:=aE (m:=m) (i:=j) (o:=0) (j:=x) (ds:=Iy w y2 (l++fr)) (by rw[CW];exact a);rw[Qp]at da;rw[da]at pa;exact Bf g1 pa
 ·cases z
def sV{F:Wb->Oc->List D->Option WY}{w:Wb}{o:Oc}{t i fr:Id}{m:HF}{r:List D}{y:WY}{K:D×HN->Prop}{g}(x:WJ m i (w,o,t))(j:F w o r=some y)(h:K (y.1,cF i w o t fr y)):H4 ((wQ F).ex (.ptr i 0::r) m fr) K g:=by
 refine aI ?_ h;simp only[wQ,eA x (λz d=>iN x d),Qj,j,Qv]
def aEu:=y0 f223 [] []
def aNa:Fn Qe 223 19 aEu [.cell (some 2) 4]:=Aj func223
def aN9:=y0 Tryz.f276 [] []
def Wr:=y1 Tryz.f277 1 [] []
def aN8:=y0 Tryz.f277 [] [(1,Wr)]
def aEv:=y0 f221 [(1,[(3,0),(3,13),(7,13),(13,0),(13,3),(13,7)])] []
def aEt:=y0 f224 [] []
def Wz:=y1 f225 3 [(6,[(8,5)])] []
def aOT:=y0 f225 [] [(3,Wz)]
abbrev y2(f:Func)(ps:List (Nat×List (Nat×Nat)))(ls:List (Nat×DC)){c:DC}(_:tQ ps ls (bAt f)=c:=by exact Eq.trans (by conv=>lhs;whnf) (by simp only[tQ,nW,List.append_eq,tR,tO,tAt,tAi,tAb,tAs,tAf,tAl,tAp,tAn,tAu,tAg,zT,Tz.k,Tz.z,Tz.n,Tz.d,tL,tP,tB,tE,tX,tS,tI,tG,tC,tM,fAt,Pm,lk,ofVal,List.getD_cons_zero,List.getD_cons_succ,List.map_cons,List.map_nil,List.length_cons,List.length_nil,List.headD_cons,List.cons_append,List.nil_append,Option.map_some,Option.map_none,Option.getD_some,Bool.false_eq_true,reduceIte,Nat.reduceAdd,Nat.reduceMul,Nat.reduceEqDiff]<;>rfl)):DC:=c
abbrev y3(f:Func)(k:Nat)(ps:List (Nat×List (Nat×Nat)))(ls:List (Nat×DC)){c:DC}(_:tQ ps ls ((V0 k (bAt f)).getD .skip)=c:=by exact Eq.trans (by conv=>lhs;whnf) (by simp only[tQ,nW,List.append_eq,tR,tO,tAt,tAi,tAb,tAs,tAf,tAl,tAp,tAn,tAu,tAg,zT,Tz.k,Tz.z,Tz.n,Tz.d,tL,tP,tB,tE,tX,tS,tI,tG,tC,tM,fAt,Pm,lk,ofVal,List.getD_cons_zero,List.getD_cons_succ,List.map_cons,List.map_nil,List.length_cons,List.length_nil,List.headD_cons,List.cons_append,List.nil_append,Option.map_some,Option.map_none,Option.getD_some,Bool.false_eq_true,reduceIte,Nat.reduceAdd,Nat.reduceMul,Nat.reduceEqDiff]<;>rfl)):DC:=c
def aW2:=y0 f144 [(0,[(2,6)])] []
def aW1:=y0 f145 [] []
def aW0:=y0 f146 [] []
def aOX:=y0 f216 [] []
def gU:=y0 f218 [] []
def aR8:=y0 f148 [(0,[(22,26),(26,4),(26,9),(26,14),(26,19),(26,22)]),(4,[(1,2)])] []
def OO:=y0 f153 [] []
def aJ4:=y0 f87 [] []
def AM{m:HF}{i:Id}{w:Wb}{o:Oc}{t:Id}(h:Ag m i 0 30=some (Iy w o t)):m i 0=some (.bool w.v.se)∧m i 1=some (.int .i64 w.v.te)∧m i 2=some (.str w.v.key)∧m i 3=some (.slice w.v.nlm [] (Az w.v.ms))∧m i 4=some (.slice w.v.nlt [] (Ar w.v.ks))∧m i 5=some (.int .u8 w.a.op)∧m i 6=some (.str w.a.tk)∧m i 7=some (.str w.a.pa)∧m i 8=some (.str w.a.ot)∧m i 9=some (.int .i64 w.a.n)∧m i 10=some (.int .i64 w.a.cas)∧m i 11=some (.bool w.a.fl)∧m i 12=some (.slice w.a.nln [] (AI w.a.ns))∧m i 13=some (.str w.a.da)∧m i 14=some (.slice w.a.nlr [] (As w.a.rs))∧m i 15=some (.str w.a.key)∧m i 16=some (.slice w.k.es.isEmpty [] (w.k.es.map λx=> .str x.1))∧m i 17=some (.slice w.k.es.isEmpty [] (w.k.es.map λx=> .str x.2.1))∧m i 18=some (.slice w.k.es.isEmpty [] (w.k.es.map λx=> .bool x.2.2))∧m i 19=some (.slice w.k.ls.isEmpty [] (w.k.ls.map λx=> .str x.1))∧m i 20=some (.slice w.k.ls.isEmpty [] (w.k.ls.map lsD))∧m i 21=some (.str o.need)∧m i 22=some (.bool o.li)∧m i 23=some (.str o.rep)∧m i 24=some (.slice o.nl t (ED o.ops))∧m i 25=some (.bool o.vw.se)∧m i 26=some (.int .i64 o.vw.te)∧m i 27=some (.str o.vw.key)∧m i 28=some (.slice o.vw.nlm [] (Az o.vw.ms))∧m i 29=some (.slice o.vw.nlt [] (Ar o.vw.ks)):=
 ⟨Bf h rfl,Bf h rfl,Bf h rfl,Bf h rfl,Bf h rfl,Bf h rfl,Bf h rfl,Bf h rfl,Bf h rfl,Bf h rfl,Bf h rfl,Bf h rfl,Bf h rfl,Bf h rfl,Bf h rfl,Bf h rfl,Bf h rfl,Bf h rfl,Bf h rfl,Bf h rfl,Bf h rfl,Bf h rfl,Bf h rfl,Bf h rfl,Bf h rfl,Bf h rfl,Bf h rfl,Bf h rfl,Bf h rfl,Bf h rfl⟩
def Wt.cellp{i fr t0 t:Id}{m0 m:HF}{nl0:Bool}{w:Wb}{o o':Oc}{p:Nat}{ys:List D}(h:Wt i fr m0 nl0 t0 m w o t)(hl:p+ys.length<=30)(d:(Iy w o t).take p++ys++(Iy w o t).drop (p+ys.length)=Iy w o' t)(u:o'.nl=o.nl)(y:o'.ops=o.ops):Wt i fr m0 nl0 t0 (m.put i p ys) w o' t:=by
 refine h.cell (by rw[lU h.at_.1 hl,d]) u y (λj x hj=>?_);rcases hj with hj|hj
 ·rw[aA hj]
 ·grind [aD,aA]
structure kV (o:Oc):Prop where
 nl:o.nl=true
 ops:o.ops=[]
def S54:=Aq [(37,Ac aLp)]
def Pz:Wb->Oc->List D->Option WY:=RW S54 aW2 [] 14
def Tm:(wQ Pz).ok Qe 144:=Dw (Aj func144) (Aa aMT Ad)
def pW(w:Wb)(o:Oc)(e:Int)(q:kV o)(c:1<=e∧e<=99):Pz w o [.int .i64 e]=some (.tup [],⟨[],false,IY (.fail e),true,[],w.v⟩,none):=by
 refine Bb (λ_=>q.ops) ⟨Qa rfl,λh=>⟨q.nl.symm,q.ops.symm⟩,λl h=>Xc,λi m fr t x j f n0=>?_⟩;have d:=Wt.start x j;unfold aW2;have y:=AM x.1;have b:=W3 e c;have s:t=[]:=x.2.2 q.nl;simp only[HG,↓C2,HB,simprocAttr,y,Ae S54 37,b];refine A0 ?_;simp only[↓C2,HH,Iz,simprocAttr];subst s;exact(d.cellp (o':=⟨[],false,IY (.fail e),true,[],w.v⟩) (Qa rfl) rfl q.nl.symm q.ops.symm).end0 (λ_=>rfl)
def S55:=Aq [(30,Ac aLo)]
def iY:Wb->Oc->List D->Option WY:=RW S55 aW1 [] 13
def mZ:(wQ iY).ok Qe 145:=Dw (Aj func145) (Aa aMS Ad)
def LC(w:Wb)(o:Oc)(y:Ry)(q:o.nl=true->o.ops=[])(h:aIw y)(v:ryN y):iY w o [.agg (Iv y)]=some (.tup [],{o with rep:=IY y},none):=by
 refine Bb q ⟨Qa rfl,λh=>⟨rfl,rfl⟩,λl h=>Xc,λi m fr t x s ja n0=>?_⟩;have hW:=Wt.start x s;unfold aW1;have xx:=AM x.1;have n:=vQ y h v;have d0:((Iv y).map D.un1=Iv y∧(Iv y).all D.calm1=true)∧D.data (.agg (Iv y))=true∧(D.agg (Iv y)).cells=Iv y∧(Iv y).length=10:=by cases y<;>exact⟨⟨rfl,rfl⟩,rfl,rfl,rfl⟩
 obtain⟨⟨u,p⟩,d3,d4,d5⟩:=d0;obtain⟨a,b,cc,d,e,f,g,i',j,k,r⟩:∃a b c d e f g i j k,Iv y=[a,b,c,d,e,f,g,i,j,k]:=Y1
 rw[r]at u p n ⊢;simp only[QD,Q2,Qc,and_true]at u;simp only[Q7,Zb,Bool.and_true,QY]at p;obtain⟨u0,u1,u2,u3,u4,u5,u6,u7,u8,u9⟩:=u;obtain⟨k0,z,k2,k3,k4,k5,k6,k7,k8,k9⟩:=p;simp only[HG,↓C2,HB,simprocAttr,xx.2.2.2.2.2.2.2.2.2.2.2.2.2.2.2.2.2.2.2.2.2.2.2.1,n0,Ae S55 30,n,u0,u1,u2,u3,u4,u5,u6,u7,u8,u9,k0,z,k2,k3,k4,k5,k6,k7,k8,k9];exact(hW.put.cellp (o':={o with rep:=IY y}) (Qa rfl) rfl rfl rfl).end0 x.2.2
def S56:=Aq [(145,wQ iY)]
def W56:Wb->Oc->List D->Option WY:=RW S56 aW0 [] 5
def mY:(wQ W56).ok Qe 146:=Dw (Aj func146) (Aa mZ Ad)
def LB(w:Wb)(o:Oc)(v:o.nl=true->o.ops=[]):W56 w o []=some (.tup [],{o with rep:=IY .done},none):=by
 refine Bb v ⟨Qa rfl,λh=>⟨rfl,rfl⟩,λl h=>Xc,λi m fr t x j f n0=>?_⟩;have c:=Wt.start x j;unfold aW0;have ta:=LC w o .done v trivial trivial;unfold Iv at ta;simp only[↓C2,HE,HB,simprocAttr,AE S56 145];refine sV x ta ?_;obtain⟨c1,c2⟩:=c.call (o':={o with rep:=IY .done}) (d:= .tup []) (ol:=none) (k:=2) j f (λ_=>⟨rfl,rfl⟩) (λl h=>Xc);simp only[↓C2,HH,simprocAttr];exact c1.end0 x.2.2
def aZG:=Aq []
def WU:Wb->Oc->List D->Option WY:=RW aZG aOX [] 16
def aDb:(wQ WU).ok Qe 216:=Dw (Aj func216) Ad
def Rp(w:Wb)(o:Oc)(q:Bs)(li:Bool)(b:kV o):WU w o [.str q,.bool li]=some (.tup [],⟨q,li,[],true,[],w.v⟩,none):=by
 refine Bb (λ_=>b.ops) ⟨Qa rfl,λh=>⟨b.nl.symm,b.ops.symm⟩,λl h=>Xc,λi m fr t x j f n0=>?_⟩;have d:=Wt.start x j;unfold aOX;have y:=AM x.1;have s:t=[]:=x.2.2 b.nl;simp only[HG,↓C2,HB,simprocAttr,y];subst s;exact(d.cellp (o':=⟨q,li,[],true,[],w.v⟩) (Qa rfl) rfl b.nl.symm b.ops.symm).end0 (λ_=>rfl)
def aZI:=Aq []
def O0:Wb->Oc->List D->Option WY:=RW aZI aO4 [] 23
def Nv:(wQ O0).ok Qe 210:=Dw (Aj func210) Ad
def aKq(w:Wb)(o:Oc)(k:Int)(ia z:Bs)(ho:o.nl=true->o.ops=[])(hl:o.ops.length<=1000):O0 w o [.int .u8 k,.str ia,.str z]=some (.tup [],{o with nl:=false,ops:=o.ops++[(k,ia,z)]},some ([11])):=by
 refine Bb ho ⟨Qa rfl,λh=>Xc,λl h=>XF,λi m fr t r y s n0=>?_⟩;have hW:=Wt.start r y;unfold aO4;have xx:=AM r.1;have p:o.nl=false->i≠t:=λh=>lE r h
 have c:o.nl=false->m t 0=some (.tok 168):=λh=>Fb r.2.1 h
 have f:∀q,t≠q::fr:=hW.loc;have g:o.nl=true->ED o.ops=[]:=λh=>by rw[ho h];rfl
 have ea:ED (o.ops++[(k,ia,z)])=ED o.ops++[.agg [.int .u8 k,.str ia,.str z]]:=by simp[ED,opD]
 have ca:(ED o.ops).length=o.ops.length:=aCq _;simp only[↓C2,HE,HB,simprocAttr,xx.2.2.2.2.2.2.2.2.2.2.2.2.2.2.2.2.2.2.2.2.2.2.2.2.1];refine aB ⟨by simp only[ca];omega,rfl,?_⟩ ?_
 ·cases hn:o.nl with
  |true=>exact .inl rfl
  |false=>exact .inr ⟨by rw[aA (f _)];exact c hn,by
    have:=Fb r.2.1 hn;unfold WJ B8 at r;simp only[hn,Qs,if_false,this,beq_self_eq_true,Zq]at r;intro e;rw[e]at r;simp at r⟩
 rw[BF g,Om];have key1:∀j x,HN.app (m.put (10::fr) 0 [.tok 168]) (Bm 167 (11::fr) (.slice o.nl t (ED o.ops))) j x=if j=11::fr∧x=0 then some (.tok 168)else if o.nl=false∧j=t∧x=0 then some (.tok 0)else(m.put (10::fr) 0 [.tok 168]) j x:=λj x=>Hb
 generalize hM:HN.app (m.put (10::fr) 0 [.tok 168]) (Bm 167 (11::fr) (.slice o.nl t (ED o.ops)))=M at *;have a:∀x,M i x=m i x:=λx=>by
  rw[key1,if_neg (λe=>(n0 11).mp e.1),if_neg (λe=>p e.1 e.2.1),aA (λe=>(n0 10).mp e)]
 have n:Ag M i 0 30=some (Iy w o t):=by
  rw[←r.1];exact BN (λl hl=>by
   simp only[Ai,QL]at hl;obtain⟨_,_,rfl⟩:=hl;exact a _)
 simp only[HG,↓C2,HB,simprocAttr,xx.2.2.2.2.2.2.2.2.2.2.2.2.2.2.2.2.2.2.2.2.2.2.2.2.1,a];refine⟨rfl,?_,?_,λh=>?_,λj x d u qa hm=>?_⟩
 ·rw[lU n (Qa rfl),←ea];rfl
 ·grind [aA]
 ·grind [aA]
 ·have b:∀q,j≠q::fr:=λq e=>by rw[e,y (q::fr) _ ⟨[q],rfl⟩]at hm;cases hm
  have v:(M.put i 24 [.slice false (11::fr) (ED o.ops++[.agg [.int .u8 k,.str ia,.str z]])]) j x=M j x:=by
   grind [aA,aD]
  refine(show _=_ from v).trans ?_;rw[key1,if_neg (λe=>b 11 e.1),if_neg,aA (b 10)]
  ·exact hm
  ·grind
def aR9:=y0 f147 [(3,[(1,7)])] []
def Wi:=y1 f149 6 [] []
def aR7:=y0 f149 [(0,[(10,14),(14,4),(14,9),(14,10)]),(4,[(1,2)])] [(6,Wi)]
def aJ0:=y0 f150 [(0,[(16,4),(16,9),(16,14)]),(1,[(6,10),(10,4),(10,5),(10,6)])] []
def oO:=y1 f151 5 [] []
def aJZ:=y0 f151 [(0,[(10,15),(15,4),(15,9),(15,10)])] [(5,oO)]
def Oc.op(o:Oc)(k:Int)(y z:Bs):Oc:={o with nl:=false,ops:=o.ops++[(k,y,z)]}
def Bl(o:Oc)(p:Bs)(ns:List Int):Oc:={o with nl:=o.nl&&ns.isEmpty,ops:=o.ops++ns.map λn=>(2,Ao 2 p n,[])}
def aEb{o:Oc}{p:Bs}{ns:List Int}{n:Int}:(Bl o p ns).op 2 (Ao 2 p n) []=Bl o p (ns++[n]):=by
 simp[Bl,Oc.op]
def UQ{o:Oc}{p:Bs}:Bl o p []=o:=by simp[Bl]
def UR(ns:List Int):Option (List Nat):=if ns=[]then none else some [11,11*ns.length]
def AN(v:Vw)(p:Bs):Int×Bool:=if A5 v.ms p=-1 then(0,false)else(BS v.ms (A5 v.ms p).toNat).2
def aQp(v:Vw)(p:Bs):Bs×Int:=if A5 v.ms p=-1 then([],14)else((BS v.ms (A5 v.ms p).toNat).1,0)
def aB4(v:Vw)(p:Bs):Mv v.ms p= .tup [.agg [.str (aQp v p).1,.int .i64 (AN v p).1,.bool (AN v p).2],.int .i64 (aQp v p).2]:=by
 unfold Mv AN aQp;split<;>rfl
def Au{i fr t0 t:Id}{m0 m:HF}{nl0:Bool}{w:Wb}{o o':Oc}{r:List D}{d:D}{ol:Option (List Nat)}{F:Wb->Oc->List D->Option WY}{S:HD}{c k n:Nat}{ops l:List DOper}{s:Nat->D}{fa:Option Nat}{K:Nat->(Nat->D)->HF->Prop}{g}
  (p:Wt i fr m0 nl0 t0 m w o t) (z:F w o r=some (d,o',ol))
  (h:∀M,Wt i fr m0 nl0 t0 M w o' (Nm t (n::fr) ol)->(∀q x,M (q::fr) x=m (q::fr) x)->GF S fr c ops l k (Cb s fa d) M K) (y:∀j x,fr<:+j->m0 j x=none:=by assumption) (f:∀k l,(i=l++k::fr)=False:=by assumption) (v:∃S b rs N,F=RW S b rs N:=by exact⟨_,_,_,_,rfl⟩):
  H4 ((wQ F).ex (.ptr i 0::r) m (n::fr)) (λx=>dE S fr c ops l k s fa m K x.1 x.2) g:=by
 obtain⟨e,b,rs,N,rfl⟩:=v;obtain⟨_,a,u,_⟩:=Fl z;refine sV p.at_ z ?_;obtain⟨c1,c2⟩:=p.call (o':=o') (d:=d) (ol:=ol) (k:=n) y f a u;exact h _ c1 c2
def CF{i fr t0 t:Id}{m0 m:HF}{nl0:Bool}{w:Wb}{o o':Oc}{r:List D}{d:D}{ol:Option (List Nat)}{F:Wb->Oc->List D->Option WY}{S:HD}{c k n:Nat}{ops l:List DOper}{s:Nat->D}{fa:Option Nat}{op:DOp}{K:Nat->(Nat->D)->HF->List MX->Prop}{g}
  (p:Wt i fr m0 nl0 t0 m w o t) (z:F w o r=some (d,o',ol))
  (h:∀M u,u=cF i w o t (n::fr) (d,o',ol)->Wt i fr m0 nl0 t0 M w o' (Nm t (n::fr) ol)->(∀q x,M (q::fr) x=m (q::fr) x)->Ct S fr c ops l k (Cb s fa d) M λk' e m' f=>K k' e m' ((H3 S s m op,AA u)::f)) (y:∀j x,fr<:+j->m0 j x=none:=by assumption) (ja:∀k l,(i=l++k::fr)=False:=by assumption) (v:∃S b rs N,F=RW S b rs N:=by exact⟨_,_,_,_,rfl⟩):
  H4 ((wQ F).ex (.ptr i 0::r) m (n::fr)) (λx=>ON S fr c ops l k s fa m op K x.1 x.2) g:=by
 obtain⟨S',b,rs,N,rfl⟩:=v;obtain⟨_,a,sa,_⟩:=Fl z;refine sV p.at_ z ?_;obtain⟨c1,c2⟩:=p.call (o':=o') (d:=d) (ol:=ol) (k:=n) y ja a sa;exact h _ _ rfl c1 c2
def D4(w:Wb)(o:Oc)(k:Int)(y z:Bs)(v:o.nl=true->o.ops=[])(hl:o.ops.length<=1000):O0 w o [.int .u8 k,.str y,.str z]=some (.tup [],o.op k y z,some [11]):=aKq w o k y z v hl
def aXP:=Aq [(23,Ac aHw)]
def aAP:Wb->Oc->List D->Option WY:=RW aXP aEu [.cell (some 2) 4] 19
def aWy:(wQ aAP).ok Qe 223:=Dw aNa (Aa aCv Ad)
def WS(w:Wb)(o:Oc)(p:Bs)(k:o.nl=true->o.ops=[])(n:w.v.ms.length<=1000):aAP w o [.str p]=some (.agg [.int .i64 (AN w.v p).1,.bool (AN w.v p).2],o,none):=by
 refine Bb k ⟨Qa rfl,λh=>⟨rfl,rfl⟩,λl h=>Xc,λi m fr t x j f n0=>?_⟩;have d:=Wt.start x j;unfold aEu;have y:=AM x.1;have a:=wP (nl:=w.v.nlm) (t:=[]) (l:=w.v.ms) (p:=p) O;rw[aB4]at a;simp only[HG,↓C2,HB,simprocAttr,y,n0,Ae aXP 23,a];exact d.put.put.put.put.end0 x.2.2
def aKr:=Aq [(317,Ac aSW),(211,Ac FN),(210,wQ O0)]
def aKk:Wb->Oc->List D->Option WY:=RW aKr aN9 [] 18
def aMH:(wQ aKk).ok Qe 276:=Dw (Aj func276) (Aa aVY (Aa Lh (Aa Nv Ad)))
def uY(w:Wb)(o:Oc)(p:Bs)(s:Sc)(v:o.nl=true->o.ops=[])(hl:o.ops.length<=1000)(k:s.rs.length<=1000)(g:p.length<=1000000):aKk w o [.str p,.agg (HO s)]=some (.tup [],o.op 1 (Ao 1 p 0) (B1 s),some ([11,12])):=by
 refine Bb v ⟨Qa rfl,λh=>Xc,λl h=>XF,λi m fr t x j f n0=>?_⟩;have d:=Wt.start x j;unfold aN9;have a:=aKF s k;have r:=C5 1 0 p g;have na:=D4 w o 1 (Ao 1 p 0) (B1 s) v hl;unfold HO at *;simp only[HG,↓C2,HB,simprocAttr,Ae aKr 317,a,Ae aKr 211,r,AE aKr 210];refine Au d.put na (λM c1 c2=>?_);simp only[↓C2,HH,simprocAttr];exact c1.endl (l:=[11,12]) U
def aSF:=Aq [(211,Ac FN),(210,wQ O0)]
def aAN:Wb->Oc->List D->Option WY:=RW aSF aN8 [] 20
def aDa:(wQ aAN).ok Qe 277:=Dw (Aj func277) (Aa Lh (Aa Nv Ad))
def WQ(w:Wb)(o:Oc)(p:Bs)(nl:Bool)(tq:Id)(ns:List Int)(q:o.nl=true->o.ops=[])(hl:o.ops.length+ns.length<=1000)(hp:p.length<=1000000):aAN w o [.str p,.slice nl tq (AI ns)]=some (.tup [],Bl o p ns,UR ns):=by
 refine Bb q ⟨Qa rfl,λh=>(by unfold UR at h;split at h<;>simp_all [Bl]),λl h=>(by unfold UR at h;split at h<;>simp_all [Bl];subst h;simp),λi m fr t x y f n0=>?_⟩;have hW:=Wt.start x y;unfold aN8;simp only[↓C2,HH,simprocAttr,Fa];refine BX (n:=ns.length) (I:=λj v=>v.s 8= .slice nl tq (AI ns)∧v.s 9= .int .i64 ns.length∧v.s 10= .int .i64 (j:Int)∧v.s 0= .ptr i 0∧v.s 1= .str p∧v.c=3+11*j∧Wt i fr m o.nl t v.m w (Bl o p (ns.take j)) (if j=0 then t else [11,11*j]++fr)) (λj z ih v g hI=>?_) (λv g hI=>?_) 0 (Qu _) _ _ ⟨rfl,rfl,rfl,rfl,rfl,rfl,by simp only[QP,UQ,if_true];exact hW⟩
 ·obtain⟨ma,ia,da⟩:=v;obtain⟨h8,h9,la,b,u,d,hw⟩:=hI;simp only at h8 h9 la b u d hw;refine Af Wr.eq_1 ?_;have ea:((j:Int)<(ns.length:Int))=True:=eq_true O;have oa:=nJ (j:=j);have ka:=UB (l:=ns) (j:=j) z;have ra:IntKind.i64.wrap ((j:Int)+1)=((j+1:Nat):Int):=by rw[H9 O O];omega
  have k:=C5 2 ns[j] p hp;have wa:(Bl o p (ns.take j)).nl=true->(Bl o p (ns.take j)).ops=[]:=λh=>by
   simp only[Bl,QY,List.isEmpty_iff]at h ⊢;rw[q h.1,h.2];rfl
  have qa:(Bl o p (ns.take j)).ops.length<=1000:=by simp[Bl];omega
  have na:=D4 w (Bl o p (ns.take j)) 2 (Ao 2 p ns[j]) [] wa qa;rw[aEb,←QF z]at na;simp only[↓C2,HE,HB,simprocAttr,b,u,h8,h9,la,ea,oa,Qh,ka,Ae aSF 211,k,AE aSF 210];refine Au hw na (λM c1 c2=>?_);have e:Nm (if j=0 then t else [11,11*j]++fr) ((da+1+3+4)::fr) (some [11])=(if j+1=0 then t else [11,11*(j+1)]++fr):=by
   rw[if_neg (Qf j)];show [11]++_::fr=_;rw[show da+1+3+4=11*(j+1)by omega];rfl
  rw[e]at c1;simp only[↓C2,HH,simprocAttr,la,ra];exact ih _ _ ⟨h8,h9,rfl,b,u,Xa,c1⟩
 ·obtain⟨ma,ia,da⟩:=v;obtain⟨h8,h9,la,b,u,d,hw⟩:=hI;simp only at h8 h9 la b u d hw;refine Af Wr.eq_1 ?_;simp only[↓C2,HH,HZ,HB,simprocAttr,h9,la,Qz];rw[Zi]at hw;unfold UR;cases ns with
  |nil=>exact hw.end0 x.2.2
  |cons a r=>exact hw.endl (l:=[11,11*(r.length+1)]) U
def aCM(w:Wb)(p:Bs):Bs×Bool×Bool:=CU w.k (Ao 1 p 0)
def O2:=Aq [(211,Ac FN),(220,Ac PL),(216,wQ WU),(24,Ac aTc)]
def De:Wb->Oc->List D->Option WY:=RW O2 gU [.cell (some 4) 4,.t 5,.t 6] 42
def aMO:(wQ De).ok Qe 218:=Dw (Aj func218:Fn Qe 218 42 gU [.cell (some 4) 4,.t 5,.t 6]) (Aa Lh (Aa aMN (Aa aDb (Aa aWk Ad))))
def aAR(w:Wb)(o:Oc)(p:Bs)(q:kV o)(y:p.length<=1000000)(g:w.k.es.length<=1000)(a:Bs×Bool×Bool)(n:aCM w p=a)(z:a.2.2=false):De w o [.str p]=some (.tup [.agg (HO sc0),.bool false,.bool false],⟨Ao 1 p 0,false,[],true,[],w.v⟩,none):=by
 refine Bb (λ_=>q.ops) ⟨Qa rfl,λh=>⟨q.nl.symm,q.ops.symm⟩,λl h=>Xc,λi m fr t x j f n0=>?_⟩;have hW:=Wt.start x j;unfold gU;obtain⟨d,e,b⟩:=a;simp only at z;have r:=C5 1 0 p y;have c:=Rr w.k (Ao 1 p 0) g;rw[show CU w.k (Ao 1 p 0)=_ from n]at c;unfold Im at c;have xx:=AM x.1;subst z;have la:=Rp w o (Ao 1 p 0) false q;simp only[HG,↓C2,HB,simprocAttr,xx,n0,Ae O2 211,r,Ae O2 220,c,AE O2 216];refine Au hW.put la (λM c1 c2=>?_);simp only[HG,↓C2,HB,simprocAttr,c2];exact c1.put.end0 x.2.2
def aKp(w:Wb)(o:Oc)(p:Bs)(q:kV o)(y:p.length<=1000000)(g:w.k.es.length<=1000)(mt:Bs×Bool×Bool)(n:aCM w p=mt)(z:mt.2.2=true)(v:mt.1.length<=1000000)(f:mt.2.1=false∨(BB mt.1).2≠0):De w o [.str p]=some (.tup [.agg (HO sc0),.bool false,.bool true],o,none):=by
 refine Bb (λ_=>q.ops) ⟨Qa rfl,λh=>⟨rfl,rfl⟩,λl h=>Xc,λi m fr t x j ja n0=>?_⟩;have hW:=Wt.start x j;unfold gU;obtain⟨d,ka,b⟩:=mt;simp only at z;have r:=C5 1 0 p y;have u:=Rr w.k (Ao 1 p 0) g;rw[show CU w.k (Ao 1 p 0)=_ from n]at u;unfold Im at u;have a:=vM d v;unfold HO at a;have xx:=AM x.1;subst z;simp only at f;generalize BB d=se at *;obtain⟨s,e⟩:=se;simp only at f a;cases ka with
 |false=>
  simp only[HG,↓C2,HB,simprocAttr,xx,n0,Ae O2 211,r,Ae O2 220,u,Ae O2 24,a];exact hW.put.put.put.end0 x.2.2
 |true=>
  have c:(e=0)=False:=eq_false (f.resolve_left U);simp only[HG,↓C2,HB,simprocAttr,xx,n0,Ae O2 211,r,Ae O2 220,u,Ae O2 24,a,c];exact hW.put.put.put.end0 x.2.2
def aF6(w:Wb)(o:Oc)(p:Bs)(q:kV o)(y:p.length<=1000000)(g:w.k.es.length<=1000)(mt:Bs×Bool×Bool)(n:aCM w p=mt)(z:mt.2.2=true)(v:mt.1.length<=1000000)(f:mt.2.1=true)(c:(BB mt.1).2=0):De w o [.str p]=some (.tup [.agg (HO (BB mt.1).1),.bool true,.bool true],o,none):=by
 refine Bb (λ_=>q.ops) ⟨Qa rfl,λh=>⟨rfl,rfl⟩,λl h=>Xc,λi m fr t x j ja n0=>?_⟩;have hW:=Wt.start x j;unfold gU;obtain⟨d,ka,b⟩:=mt;simp only at z;have r:=C5 1 0 p y;have u:=Rr w.k (Ao 1 p 0) g;rw[show CU w.k (Ao 1 p 0)=_ from n]at u;unfold Im at u;have a:=vM d v;unfold HO at a;have xx:=AM x.1;subst z;simp only at f c ⊢;generalize BB d=se at *;obtain⟨s,e⟩:=se;simp only at c a;subst f c;simp only[HG,↓C2,HB,simprocAttr,xx,n0,Ae O2 211,r,Ae O2 220,u,Ae O2 24,a];exact hW.put.put.put.end0 x.2.2
def IC(o:Oc)(p:Bs)(s:Sc)(gone:List Int):Oc:={Bl (o.op 1 (Ao 1 p 0) (B1 s)) p gone with rep:=IY .done}
def aF9:=Aq [(144,wQ Pz),(276,wQ aKk),(277,wQ aAN),(146,wQ W56)]
def WR:Wb->Oc->List D->Option WY:=RW aF9 aEt [] 31
def aWx:(wQ WR).ok Qe 224:=Dw (Aj func224) (Aa Tm (Aa aMH (Aa aDa (Aa mY Ad))))
def aAO(w:Wb)(o:Oc)(s:Sc)(gnl:Bool)(gone:List Int)(e:Int)(b:kV o)(c:1<=e∧e<=99):WR w o [.agg (HO s),.slice gnl [] (AI gone),.int .i64 e]=some (.tup [],⟨[],false,IY (.fail e),true,[],w.v⟩,none):=by
 refine Bb (λ_=>b.ops) ⟨Qa rfl,λh=>⟨b.nl.symm,b.ops.symm⟩,λl h=>Xc,λi m fr t x j f n0=>?_⟩;have k:=Wt.start x j;unfold aEt;unfold HO;have r:=pW w o e b c;have d:(e=0)=False:=eq_false O;simp only[↓C2,HE,HB,simprocAttr,d,AE aF9 144];refine Au k.put r (λM c1 c2=>?_);simp only[↓C2,HH,simprocAttr];exact c1.end0 x.2.2
def aKn(w:Wb)(o:Oc)(s:Sc)(gnl:Bool)(gone:List Int)(q:kV o)(hg:gone.length<=900)(k:s.rs.length<=1000)(g:w.a.pa.length<=1000000):WR w o [.agg (HO s),.slice gnl [] (AI gone),.int .i64 0]=some (.tup [],IC o w.a.pa s gone,some (if gone=[]then [11,12,10]else [11,11*gone.length,18])):=by
 refine Bb (λ_=>q.ops) ⟨Qa rfl,λh=>Xc,λl h=>(by simp only[Ql]at h;subst h;exact⟨rfl,by split<;>simp⟩),λi m fr t x j f n0=>?_⟩;have c:=Wt.start x j;unfold aEt;have y:=AM x.1;have b:=uY w o w.a.pa s (λ_=>q.ops) (by rw[q.ops];simp) k g;have d:=WQ w (o.op 1 (Ao 1 w.a.pa 0) (B1 s)) w.a.pa gnl [] gone (λh=>Xc) (by simp[Oc.op,q.ops];omega) g;have z:=LB w (Bl (o.op 1 (Ao 1 w.a.pa 0) (B1 s)) w.a.pa gone) (λh=>by simp[Bl,Oc.op]at h);unfold HO at *;simp only[HG,↓C2,HB,simprocAttr,y.2.2.2.2.2.2.2.1,n0,AE aF9 276];refine CF c.put b (λM u hu c1 c2=>?_);have y:=AM c1.at_.1;simp only[↓C2,Iz,simprocAttr];refine aB (λp g=>Xm) ?_;simp only[↓C2,HH,HZ,HB,simprocAttr,y.2.2.2.2.2.2.2.1,AE aF9 277];refine Au c1 d (λM2 r d2=>?_);simp only[↓C2,HH,HZ,simprocAttr,AE aF9 146];refine Au r z (λM3 v n=>?_);simp only[↓C2,HH,simprocAttr];unfold UR at v;split
 ·rename_i e;rw[if_pos e]at v;exact v.endl (l:=[11,12,10]) U
 ·rename_i e;rw[if_neg e]at v;exact v.endl (l:=[11,11*gone.length,18]) U
def Dd(l:List Rw):List Int:=(l.filter λx=>!x.2.2).map (·.1)
def VI:List Rw->Nat->List Nat->List Nat
 |[],_,L=>L
 |x::r,c,L=>if x.2.2=true then VI r (c+10) L else VI r (c+20) [11,11,c+17]
def VH:∀{l:List Rw} {c:Nat} {L:List Nat},L≠[]->VI l c L≠[]
 |[],_,_,h=>h
 |x::r,c,L,h=>by
  unfold VI;split
  ·exact VH h
  ·exact VH U
def D6(o:Oc)(p:Bs)(l:List Rw):Oc:=Bl (o.op 2 (Ao 1 p 0) []) p (Dd l)
def zQ{o:Oc}{p:Bs}{a b:List Int}:Bl (Bl o p a) p b=Bl o p (a++b):=by
 simp only[Bl,Bool.and_assoc,Q_,QH,Oc.mk.injEq,true_and,and_true];cases a<;>cases b<;>simp
def pP(l:List Rw):(Dd l).length<=l.length:=by
 grind [Dd]
def iS(l:List Rw)(x:Rw):Dd (l++[x])=Dd l++if x.2.2=true then []else [x.1]:=by
 grind [Dd]
def VG{o:Oc}{p:Bs}{l:List Rw}:(D6 o p l).nl=false:=by simp[D6,Bl,Oc.op]
def aCj{o:Oc}{p:Bs}{l:List Rw}:(D6 o p l).ops.length=o.ops.length+1+(Dd l).length:=by simp[D6,Bl,Oc.op];omega
def aF8:=Aq [(211,Ac FN),(210,wQ O0),(277,wQ aAN),(146,wQ W56)]
def aKm:Wb->Oc->List D->Option WY:=RW aF8 aOT [] 37
def aWw:(wQ aKm).ok Qe 225:=Dw (Aj func225) (Aa Lh (Aa Nv (Aa aDa (Aa mY Ad))))
def aKl(w:Wb)(o:Oc)(s:Sc)(h0:kV o)(hs:s.rs.length<=900)(hp:w.a.pa.length<=1000000):aKm w o [.agg (HO s)]=some (.tup [],{D6 o w.a.pa s.rs with rep:=IY .done},some (VI s.rs 13 [11,8])):=by
 refine Bb (λ_=>h0.ops) ⟨Qa rfl,λh=>Xc,λl h=>(by simp only[Ql]at h;subst h;exact⟨VG (o:=o) (p:=w.a.pa) (l:=s.rs),VH U⟩),λi m fr t r ba ja n0=>?_⟩;have hW:=Wt.start r ba;unfold aOT;have xx:=AM r.1;have k:=C5 1 0 w.a.pa hp;have na:=D4 w o 2 (Ao 1 w.a.pa 0) [] (λ_=>h0.ops) (by rw[h0.ops];simp);unfold HO;simp only[↓C2,HE,HB,simprocAttr,xx.2.2.2.2.2.2.2.1,n0,Ae aF8 211,k,AE aF8 210];refine Au hW.put na (λM c1 c2=>?_);simp only[↓C2,HH,HZ,HB,simprocAttr,c2,AS];refine BX (n:=s.rs.length) (I:=λj v=>v.s 15= .slice s.nl [] (Bd s.rs)∧v.s 16= .int .i64 s.rs.length∧v.s 17= .int .i64 (j:Int)∧v.s 0= .ptr i 0∧∃L,L≠[]∧VI (s.rs.drop j) v.c L=VI s.rs 13 [11,8]∧Wt i fr m o.nl t v.m w (D6 o w.a.pa (s.rs.take j)) (L++fr)) (λj hj ih v g hI=>?_) (λv g hI=>?_) 0 (Qu _) _ _ ⟨rfl,rfl,rfl,rfl,[11,8],U,rfl,by have c3:Wt i fr m o.nl t M w (o.op 2 (Ao 1 w.a.pa 0) []) ([11,8]++fr):=c1;simpa[D6,Dd,UQ]using c3⟩
 ·obtain⟨ma,ia,da⟩:=v;obtain⟨ga,ta,sa,y,L,hL,hn,hw⟩:=hI;simp only at ga ta sa y hn hw;refine Af Wz.eq_1 ?_;have ea:((j:Int)<(s.rs.length:Int))=True:=eq_true O;have oa:=nJ (j:=j);have ka:=FV (l:=s.rs) (j:=j) hj;have ra:IntKind.i64.wrap ((j:Int)+1)=((j+1:Nat):Int):=by rw[H9 O O];omega
  have hd:s.rs.drop j=s.rs[j]::s.rs.drop (j+1):=QJ hj;have qa:s.rs.take (j+1)=s.rs.take j++[s.rs[j]]:=QF hj;rw[hd]at hn;generalize s.rs[j]=x at *;obtain⟨n,b,f⟩:=x;have va:=iS (s.rs.take j) (n,b,f);rw[←qa]at va;simp only at va ka;have xx:=AM hw.at_.1;cases f with
  |true=>
   simp only[HG,↓C2,HB,simprocAttr,ga,ta,sa,ea,oa,Qh,ka,ra];refine ih _ _ ⟨ga,ta,rfl,y,L,hL,by simpa[VI]using hn,?_⟩;have e:D6 o w.a.pa (s.rs.take (j+1))=D6 o w.a.pa (s.rs.take j):=by unfold D6;rw[va];simp
   rw[e];exact(hw.put.put)
  |false=>
   have e:Bl (D6 o w.a.pa (s.rs.take j)) w.a.pa [n]=D6 o w.a.pa (s.rs.take (j+1)):=by unfold D6;rw[va,zQ];rfl
   have q:(D6 o w.a.pa (s.rs.take j)).ops.length+1<=1000:=by
    rw[aCj,h0.ops];have:=pP (s.rs.take j);rw[Zy]at this;simp only[Qm];omega
   have d:=WQ w (D6 o w.a.pa (s.rs.take j)) w.a.pa false ((da+1+4+3+8)::fr) [n] (λh=>by rw[VG]at h;cases h) q hp;rw[e]at d;have d:aAN w (D6 o w.a.pa (s.rs.take j)) [.str w.a.pa,.slice false ((da+1+4+3+8)::fr) [.int .i64 n]]=some (.tup [],D6 o w.a.pa (s.rs.take (j+1)),some [11,11]):=d;simp only[HG,↓C2,HB,simprocAttr,y,ga,ta,sa,ea,oa,Qh,ka,xx.2.2.2.2.2.2.2.1,n0,AE aF8 277];refine CF hw.put.put.put d (λM u hu c1 c2=>?_);simp only[↓C2,Iz,HZ,HB,simprocAttr];refine aB (Al ?_) ?_
   ·simp[AK,AA,H3,Ai];show ¬((da+1+4+3+8)::fr,0)∈[(i,7)];intro hm;simp only[Q4,QC]at hm;exact(n0 _).mp hm.1.symm
   simp only[↓C2,HH,simprocAttr,sa,ra];refine ih _ _ ⟨ga,ta,rfl,y,[11,11,da+17],U,by simpa[VI]using hn,c1⟩
 ·obtain⟨ma,ia,da⟩:=v;obtain⟨ga,ta,sa,y,L,hL,hn,hw⟩:=hI;simp only at ga ta sa y hn hw;refine Af Wz.eq_1 ?_;have z:=LB w (D6 o w.a.pa s.rs) (λh=>by rw[VG]at h;cases h);rw[Zi]at hw;rw[Q1]at hn;simp only[↓C2,HH,HZ,HB,simprocAttr,y,ta,sa,Qz,AE aF8 146];refine Au hw z (λM c1 c2=>?_);simp only[↓C2,HH,simprocAttr];rw[←hn];exact c1.endl hL
theorem FB{l:Loc}{i:Id}{o n:Nat}(h:l∈Ai i o n):l.1=i:=by
 grind [Ai]
def Ee{l:Loc}{i:Id}{o:Nat}{ds:List D}(h:l∈AA [(i,o,ds)]):l.1=i:=by
 grind [AA,FB]
def EF{l:Loc}{P:Prop}(h:l∈([]:List Loc)):P:=Xc
def bW{p K:Prop}{t:Tag K}(k:K) (h:p:=by
 intro pp hpp l hl;simp only[List.mem_cons,List.not_mem_nil,or_false]at hpp
 repeat (rcases hpp with rfl|hpp;· first|exact EF hl|exact⟨λh=>EF h,λh=>EF h⟩|(have db:=Ee hl;refine⟨λh=>?_,λh=>EF h⟩;first|(change l∈Ai _ _ _ at h;first|exact(n0 _).mp ((FB h).symm.trans db)|(have:=db.symm.trans (FB h);simp at this;done))|(rcases List.mem_append.1 h with h|h;exact(n0 _).mp ((FB h).symm.trans db);rw[a1]at h;rw[List.mem_singleton.1 h]at db;exact c1.loc _ db)))):Ap p K t:=⟨h,k⟩
def Rx(o:Oc)(p:Bs)(r:Sc×Int×List Int×Int)(data:Bs):Oc:={Bl ((o.op 1 (Ao 1 p 0) (B1 r.1)).op 1 (Ao 2 p r.2.1) data) p r.2.2.1 with rep:=IY (.number r.2.1)}
def SY:=Aq [(223,wQ aAP),(275,Ac aTa),(144,wQ Pz),(276,wQ aKk),(211,Ac FN),(210,wQ O0),(277,wQ aAN),(145,wQ iY)]
def WT:Wb->Oc->List D->Option WY:=RW SY aEv [] 50
def aMM:(wQ WT).ok Qe 221:=Dw (Aj func221) (Aa aWy (Aa aWi (Aa Tm (Aa aMH (Aa Lh (Aa Nv (Aa aDa (Aa mZ Ad))))))))
def aAQ(w:Wb)(o:Oc)(p:Bs)(s:Sc)(cas:Int)(data:Bs)(b:kV o)(hs:s.rs.length<=800)(pa:s.nl=true->s.rs=[])(hp:p.length<=1000000)(z:data.length<=1000000)(hm:w.v.ms.length<=1000)(r:Sc×Int×List Int×Int)(hr:Cd s (AN w.v p).1 (AN w.v p).2 cas data.length=r)(y:1<=r.2.2.2∧r.2.2.2<=99):WT w o [.str p,.agg (HO s),.int .i64 cas,.str data]=some (.tup [],⟨[],false,IY (.fail r.2.2.2),true,[],w.v⟩,none):=by
 refine Bb (λ_=>b.ops) ⟨Qa rfl,λh=>⟨b.nl.symm,b.ops.symm⟩,λl h=>Xc,λi m fr t x j f n0=>?_⟩;have hW:=Wt.start x j;unfold aEv;have a:=vK s (AN w.v p).1 (AN w.v p).2 cas data.length O pa;rw[hr]at a;obtain⟨s2,n,gone,e⟩:=r;simp only at y a ⊢;have c:=WS w o p (λ_=>b.ops) hm;generalize AN w.v p=qb at *;unfold HO at *;simp only[HG,↓C2,HB,simprocAttr,AE SY 223];refine CF hW.put c (λM u hu c1 c2=>?_);simp only[HG,↓C2,HB,simprocAttr,Ae SY 275,a];refine aB ?_ ?_
 ·subst hu;have a1:=aFI (hW.put (q:=0) (p:=0) (ys:=[.int .i64 s.mx,.bool s.cas,.int .i64 s.la,.slice s.nl [] (Bd s.rs)])).at_.1;intro pp g l hl;simp only[QO,Zz,or_false]at g;rcases g with rfl|rfl|rfl|rfl|rfl|rfl
  ·change l∈AA [(i,0,Iy w o t)]at hl;refine⟨λh=>?_,λh=>EF h⟩;change l∈Ai (0::fr) 0 4 at h;exact(n0 0).mp ((Ee hl).symm.trans (FB h))
  ·change l∈AA [(i,0,Iy w o t)]at hl;exact⟨λh=>EF h,λh=>(n0 14).mp ((Ee hl).symm.trans (Ee h))⟩
  ·exact EF hl
  ·have ea:l.1=14::fr:=Ee hl;refine⟨λh=>?_,λh=>EF h⟩;change l∈Ai (0::fr) 0 4 at h;have:=ea.symm.trans (FB h);simp at this
  ·have ea:l.1=14::fr:=Ee hl;refine⟨λh=>?_,λh=>?_⟩
   ·rcases Zm.1 h with h|h
    ·grind [FB]
    ·rw[a1]at h;rw[Q4.1 h]at ea;exact hW.loc 14 ea
   ·change l∈AA [(i,0,Iy w o t)]at h;exact(n0 14).mp ((Ee h).symm.trans ea)
  ·exact⟨λh=>EF h,λh=>EF h⟩
 have k:=pW w o e b y;have d:(e=0)=False:=eq_false O;simp only[↓C2,HE,HB,simprocAttr,d,AE SY 144];refine Au c1.put.put k (λM2 d1 d2=>?_);simp only[↓C2,HH,simprocAttr];exact d1.end0 x.2.2
def aKo(w:Wb)(o:Oc)(p:Bs)(s:Sc)(cas:Int)(data:Bs)(h0:kV o)(hs:s.rs.length<=800)(pa:s.nl=true->s.rs=[])(hp:p.length<=1000000)(z:data.length<=1000000)(hm:w.v.ms.length<=1000)(r:Sc×Int×List Int×Int)(hr:Cd s (AN w.v p).1 (AN w.v p).2 cas data.length=r)(y:r.2.2.2=0)(sa:r.1.rs.length<=1000)(hg:r.2.2.1.length<=900):WT w o [.str p,.agg (HO s),.int .i64 cas,.str data]=some (.tup [],Rx o p r data,some (if r.2.2.1=[]then [11,30]else [11,11*r.2.2.1.length,34])):=by
 refine Bb (λ_=>h0.ops) ⟨Qa rfl,λh=>Xc,λl h=>(by simp only[Ql]at h;subst h;exact⟨by simp[Rx,Bl,Oc.op],by split<;>simp⟩),λi m fr t x j f n0=>?_⟩;have hW:=Wt.start x j;unfold aEv;have a:=vK s (AN w.v p).1 (AN w.v p).2 cas data.length O pa;rw[hr]at a;obtain⟨s2,n,gone,e⟩:=r;simp only at y a sa hg ⊢;subst y;have c:=WS w o p (λ_=>h0.ops) hm;generalize AN w.v p=qb at *;unfold HO at *;simp only[HG,↓C2,HB,simprocAttr,AE SY 223];refine CF hW.put c (λM u hu c1 c2=>?_);simp only[HG,↓C2,HB,simprocAttr,Ae SY 275,a];refine aB ?_ ?_
 ·subst hu;have a1:=aFI (hW.put (q:=0) (p:=0) (ys:=[.int .i64 s.mx,.bool s.cas,.int .i64 s.la,.slice s.nl [] (Bd s.rs)])).at_.1;intro pp g l hl;simp only[QO,Zz,or_false]at g;rcases g with rfl|rfl|rfl|rfl|rfl|rfl
  ·change l∈AA [(i,0,Iy w o t)]at hl;refine⟨λh=>?_,λh=>EF h⟩;change l∈Ai (0::fr) 0 4 at h;exact(n0 0).mp ((Ee hl).symm.trans (FB h))
  ·change l∈AA [(i,0,Iy w o t)]at hl;exact⟨λh=>EF h,λh=>(n0 14).mp ((Ee hl).symm.trans (Ee h))⟩
  ·exact EF hl
  ·have ea:l.1=14::fr:=Ee hl;refine⟨λh=>?_,λh=>EF h⟩;change l∈Ai (0::fr) 0 4 at h;have:=ea.symm.trans (FB h);simp at this
  ·have ea:l.1=14::fr:=Ee hl;refine⟨λh=>?_,λh=>?_⟩
   ·rcases Zm.1 h with h|h
    ·grind [FB]
    ·rw[a1]at h;rw[Q4.1 h]at ea;exact hW.loc 14 ea
   ·change l∈AA [(i,0,Iy w o t)]at h;exact(n0 14).mp ((Ee h).symm.trans ea)
  ·exact⟨λh=>EF h,λh=>EF h⟩
 have b:=uY w o p s2 (λ_=>h0.ops) (by rw[h0.ops];simp) sa hp;have k:=C5 2 n p hp;have na:=D4 w (o.op 1 (Ao 1 p 0) (B1 s2)) 1 (Ao 2 p n) data (λh=>Xc) (by simp[Oc.op,h0.ops]);have d:=WQ w ((o.op 1 (Ao 1 p 0) (B1 s2)).op 1 (Ao 2 p n) data) p (decide (gone=[])) [] gone (λh=>Xc) (by simp[Oc.op,h0.ops];omega) hp;have ta:=LC w (Bl ((o.op 1 (Ao 1 p 0) (B1 s2)).op 1 (Ao 2 p n) data) p gone) (.number n) (λh=>by simp[Bl,Oc.op]at h) trivial trivial;unfold HO at b;unfold Iv at ta;simp only[HG,↓C2,HB,simprocAttr,AE SY 276];refine Au c1.put.put b (λM2 d1 d2=>?_);simp only[↓C2,HE,simprocAttr,Ae SY 211,k,AE SY 210];refine Au d1 na (λM3 e1 e2=>?_);simp only[↓C2,HH,HZ,simprocAttr,AE SY 277];refine Au e1 d (λM4 f1 f2=>?_);simp only[↓C2,HE,HB,simprocAttr,AE SY 145];refine Au f1 ta (λM5 g1 g2=>?_);simp only[↓C2,HH,simprocAttr];unfold UR at g1;split
 ·rename_i ya;rw[if_pos ya]at g1;exact g1.endl (l:=[11,30]) U
 ·rename_i ya;rw[if_neg ya]at g1;exact g1.endl (l:=[11,11*gone.length,34]) U
def Ts:=y0 f154 [(7,[(7,0),(7,12),(7,17),(7,23),(18,23),(23,0),(23,6),(23,7),(23,12),(23,17),(23,18)]),(16,[(6,10),(10,0),(10,5),(10,6)]),(19,[(6,10),(10,0),(10,5),(10,6)]),(2,[(6,11),(11,0),(11,5),(11,6)])] []
def rdQ(F:Wb->Oc->List D->Option WY):Il where
 rd:=(wQ F).rd
 ex:=λds m fr=>match ds with
  | .ptr i 0::rest=>(Uk (WJ m i)).bind λx=>(F x.1 x.2.1 rest).bind λy=>open Classical in if y.2.1=x.2.1∧y.2.2=none then some (y.1,[])else none
  |_=>none
def aIM{F:Wb->Oc->List D->Option WY}(ds:List D)(m m':HF)(fr:Id)(h:∀l∈(rdQ F).rd ds m,m l.1 l.2=m' l.1 l.2):(rdQ F).ex ds m fr=(rdQ F).ex ds m' fr:=by
 simp only[rdQ,wQ]at h ⊢;split
 ·rename_i i r;have q:Ag m i 0 30=Ag m' i 0 30:=BN (λl hl=>h l (Zo _ hl));have g:WJ m i=WJ m' i:=by
   funext x;obtain⟨w,o,t⟩:=x;apply propext;unfold WJ;rw[q];have y:Ag m' i 0 30=some (Iy w o t)->B8 m 167 o.nl t o.ops.isEmpty=B8 m' 167 o.nl t o.ops.isEmpty:=λd=>by
    refine EH (h (t,0) (Zn _ ?_));have:=aFI (q.trans d);rw[this];simp
   constructor
   ·rintro⟨a,b,c⟩;exact⟨a,by rw[←y a];exact b,c⟩
   ·rintro⟨a,b,c⟩;exact⟨a,by rw[y a];exact b,c⟩
  rw[g]
 ·rfl
def aQs{S:HD}{f:FuncId}{N:Nat}{dc:DC}{rs:List RV}(hf:Fn Qe f N dc rs)(hS:HD.ok Qe S):(rdQ (RW S dc rs N)).ok Qe f:=by
 refine LW hS hf aIM (λds m fr r u z y=>?_);simp only[rdQ]at z;split at z
 ·rename_i i ca;rw[Q5]at z;obtain⟨⟨w,o,t⟩,g,z⟩:=z;rw[Q5]at z;obtain⟨⟨y1,y2,y3⟩,hF,z⟩:=z;simp only at z;split at z
  ·rename_i hy;obtain⟨rfl,rfl⟩:=hy;simp only[Ql,QC]at z;obtain⟨rfl,rfl⟩:=z;have ka:=Uj g;obtain⟨hN,oa,sa,la⟩:=Fl hF;have qa:m i 0=some (.bool w.v.se):=PN ka.1;have s:∀k l,(i=l++k::fr)=False:=λk l=>eq_false (λe=>by
    rw[e,y _ _ ⟨l++[k],U⟩]at qa;cases qa)
   refine⟨hN,M_ (la i m fr t ka y s (λk=>s k [])) (λe q he=>?_)⟩;obtain⟨c,d,b,rfl,hE⟩:=he;refine⟨c,_,b,rfl,λj x dd p=>?_⟩;obtain⟨g1,g2⟩:=hE;have pa:m j x=some dd:=p;by_cases hj:j≠i∨30<=x
   ·exact g2 j x dd hj pa
   ·have jb:j=i:=Classical.byContradiction (λh=>hj (.inl h));have a:x<30:=Zk (λh=>hj (.inr h));subst jb;obtain⟨v,hv⟩:∃v,(Iy w y2 t)[x]?=some v:=⟨_,Qi (by rw[CW];exact a)⟩;have e1:=Bf ka.1 hv;have n:=Bf g1 hv;rw[n,←e1,pa]
  ·cases z
 ·cases z
def aRU{F:Wb->Oc->List D->Option WY}{w:Wb}{o:Oc}{t i fr:Id}{m:HF}{r:List D}{d:D}{K:D×HN->Prop}{g}(x:WJ m i (w,o,t))(y:F w o r=some (d,o,none))(h:K (d,[])):H4 ((rdQ F).ex (.ptr i 0::r) m fr) K g:=by
 refine aI ?_ h;simp only[rdQ,eA x (λz n=>iN x n),Qj,y,and_self,if_true]
def Wt.endc{i fr t0:Id}{m0 m:HF}{nl0:Bool}{w:Wb}{o:Oc}{k:Nat}{d:D}{ol:Option (List Nat)}(h:Wt i fr m0 nl0 t0 m w o (Nm t0 (k::fr) ol))(z:nl0=true->t0=[]):WE i fr m0 nl0 t0 w (d,o,ol.map (·++[k])) d m:=by
 cases ol with
 |none=>exact h.end0 z
 |some l=>
  have y:Wt i fr m0 nl0 t0 m w o ((l++[k])++fr):=by simpa[Nm]using h
  exact y.endl U
def CI{S:HD}{b:DC}{rs:List RV}{N:Nat}{w:Wb}{o o':Oc}{r:List D}{d:D}{ol:Option (List Nat)}{k:Nat}(z:RW S b rs N w o r=some (d,o',ol))(h:ol.map (·++[k])=none):o'.nl=o.nl∧o'.ops=o.ops:=(Fl z).2.1 Xr
def CH{S:HD}{b:DC}{rs:List RV}{N:Nat}{w:Wb}{o o':Oc}{r:List D}{d:D}{ol:Option (List Nat)}{k:Nat}{l:List Nat}(z:RW S b rs N w o r=some (d,o',ol))(h:ol.map (·++[k])=some l):o'.nl=false∧l≠[]:=by
 cases ol with
 |none=>cases h
 |some f=>
  simp only[Qv,Ql]at h;subst h;exact⟨((Fl z).2.2.1 f rfl).1,U⟩
def aUd:(rdQ aAP).ok Qe 223:=aQs aNa (Aa aCv Ad)
end Go.Vd
end
