/- A part of the proof; nothing in it is assumed. -/
import Derived.Test.YtpiplnfjodahpaaGreatDoorMFitsP2
import Derived.Shelf.Strings.BuilderRune

set_option linter.unusedSimpArgs false
set_option linter.unusedVariables false
set_option linter.defProp false
set_option maxHeartbeats 4000000
set_option maxRecDepth 100000
open Nat renaming le_of_ble_eq_true→Qa,reduceEqDiff→Qb,reduceAdd→Qd,succ_ne_zero→Qf,zero_ne_one→Qn,zero_add→Qp,reduceLT→Qr,reduceLeDiff→Qt,zero_le→Qu,le_refl→QB,reduceSub→QE,sub_zero→QM,add_zero→Za,lt_of_not_le→Zk,sub_self→Zu,not_lt_zero→ZB,mul_add→ZJ
open List.cons renaming injEq→Qc
open Go.Proofs.Tryz renaming prog→Qe
open List renaming length_cons→Qg,getElem?_eq_getElem→Qi,length_nil→Qm,getElem?_cons_zero→Qo,length_append→Qq,getElem?_cons_succ→Qw,length_map→Qy,map_cons→QD,take_succ_eq_append_getElem→QF,take_of_length_le→QG,append_assoc→QH,append_nil→QI,drop_eq_getElem_cons→QJ,mem_map→QL,mem_cons→QO,take_zero→QP,getElem?_eq_some_iff→QQ,map_map→QR,take_succ_cons→QS,all_eq_true→QT,mem_nil_iff→QV,length_eq_zero_iff→QW,getElem_mem→QX,map_append→Q_,cons_append→Q0,drop_length→Q1,map_nil→Q2,map_congr_left→Q3,mem_singleton→Q4,findIdx?_eq_some_iff_getElem→Q6,all_cons→Q7,append_inj→Q8,drop_succ_cons→Q9,all_nil→Zb,drop_zero→Zc,map_inj_right→Zd,getElem?_append_right→Ze,take_add_one→Zg,take_length→Zi,isEmpty_nil→Zj,nil_append→Zl,mem_append→Zm,mem_append_right→Zn,mem_append_left→Zo,getElem_of_mem→Zp,mem_cons_self→Zs,any_map→Zt,getElem?_map→Zv,map→Zw,getD→Zx,length_take→Zy,not_mem_nil→Zz,nil_suffix→ZC,range→ZD,any_cons→ZE,length→ZI
open Int renaming toNat_natCast→Qh,toNat_of_nonneg→Qx,lt_irrefl→Qz,cast_ofNat_Int→Zr,le_refl→ZA,reduceNe→ZG
open Option renaming bind_some→Qj,isSome_some→Qk,map_some→Qv,map_eq_some_iff→QZ,bind_eq_some_iff→Q5
open Option.some renaming injEq→Ql
open Bool renaming false_eq_true→Qs,false_and→QA,false_ne_true→QK,and_false→QN,and_eq_true→QY,and_self→Zh,true_and→Zq,false_or→ZF,true_or→ZH
open Prod.mk renaming injEq→QC
open Prod renaming ext→QU
open Array renaming size_append→Zf
open Go.Proofs.Tryz
noncomputable section
namespace Go.Vd
open Go.Proofs Go.RowKit
def aBm{S:G8}{fr i:Id}{n:Nat}{m0:Ha}{Q:Ex->St->Prop}(a:S 192=some (Ac zD))(c:n<=1000){zs:List Mt}
  (e:∀v,Oe i m0 v.m zs->Q (.exit 0) v):
  ∀(f k:Nat)(xs:List Mt) v g,xs.length=n->k+f=n->Dj jU m0t f k xs=zs->v.s 0= .row i n->v.s 1= .int .i64 0->v.s 2= .int .i64 (n:Int)->v.s 3= .fn 192 []->v.s 8= .int .i64 (k:Int)->Oe i m0 v.m xs->
   Be S fr Po Q v g:=by
 intro f;induction f with
 |zero=>
  intro k xs v g hl t j q u y x o I;refine Af Po.eq_1 ?_;have:¬((k:Int)<n):=O
  simp only[↓C2,Hc,Hl,simprocAttr,y,o,this];exact e _ (by rw[←j];exact I)
 |succ f ih=>
  intro k xs v g hl t j q u y x o I;refine Af Po.eq_1 ?_;have w:((k:Int)<n):=O
  have p:IntKind.i64.wrap ((k:Int)+1)=((k+1:Nat):Int):=Hy O O;simp only[↓C2,Hc,Hl,simprocAttr,y,o,w];refine aBn (i8:=k) (m0:=m0) a c k xs _ _ hl O q u y x o rfl I (λr g0 z b g3 g8 I'=>?_);simp only[↓C2,Hc,simprocAttr,g8,p];exact ih (k+1) _ _ _ (by rw[Rp];exact hl) O j g0 z b g3 rfl I'
def ND(m:Ha)(i:Id):Nat->Nat->Option (List Mt)
 |0,_=>some []
 |f+1,j=>match m i (j*3),m i (j*3+1),m i (j*3+2),ND m i f (j+1)with
  |some (.str p),some (.int .i64 q),some (.bool b),some l=>some ((p,q,b)::l)
  |_,_,_,_=>none
def S8{m:Ha}{i:Id}:∀{f j:Nat} {xs:List Mt},ND m i f j=some xs->xs.length=f∧∀k,k<f->m i ((j+k)*3)=some (.str (xs.getD k m0t).1)∧m i ((j+k)*3+1)=some (.int .i64 (xs.getD k m0t).2.1)∧m i ((j+k)*3+2)=some (.bool (xs.getD k m0t).2.2)
 |0,j,xs,h=>by
  simp only[ND,Ql]at h;subst h;exact⟨rfl,λk s=>absurd s (ZB _)⟩
 |f+1,j,xs,h=>by
  unfold ND at h;split at h
  ·rename_i p q b l w v a x;simp only[Ql]at h;subst h;obtain⟨c,e⟩:=S8 x;refine⟨by simp[c],λk s=>?_⟩;cases k with
   |zero=>exact⟨w,v,a⟩
   |succ k=>
    have:=e k O;rw[show j+1+k=j+(k+1)by omega]at this;exact this
  ·cases h
def WR{m m':Ha}{i:Id}:∀{f j n:Nat},j+f<=n->(∀o,o<n*3->m i o=m' i o)->ND m i f j=ND m' i f j
 |0,j,n,_,_=>rfl
 |f+1,j,n,hn,h=>by
  unfold ND;rw[h (j*3) O,h (j*3+1) O,h (j*3+2) O,WR (f:=f) (j:=j+1) O h]
def aGx{m:Ha}{i:Id}{xs:List Mt}(h:∀j d,(flat (AB xs))[j]?=some d->m i j=some d):ND m i xs.length 0=some xs:=by
 have p:∀(ys pre:List Mt),pre++ys=xs->ND m i ys.length pre.length=some ys:=by
  intro ys;induction ys with
  |nil=>intro pre _;rfl
  |cons y r ih=>
   intro pre c;have k:∀x∈AB xs,x.cells.length=3:=λx q=>YX
   have u:pre.length<(AB xs).length:=by rw[AY,←c];simp
   have a:(AB xs)[pre.length]=ML y:=by simp[AB,←c]
   have o:=h _ _ ((Er k u (j:=0) O).trans (by rw[a];rfl));have w:=h _ _ ((Er k u (j:=1) O).trans (by rw[a];rfl));have v:=h _ _ ((Er k u (j:=2) O).trans (by rw[a];rfl));have:=ih (pre++[y]) (by rw[←c];simp);rw[Qq]at this;rw[Za]at o;have this:ND m i r.length (pre.length+1)=some r:=this;simp only[Qg,ND,o,w,v,this]
 exact p xs [] rfl
def S2(m:Ha)(i:Id)(n:Nat):Option (D×Hf):=if n<=12∧1<=n then(ND m i n 0).map λxs=>(.tup [],[(i,0,flat (AB (Dj jU m0t (n-1) 1 xs)))])else none
def EZ(v:List D->Option (Id×Nat)):HF where
 rd:=λds _=>match v ds with
  |some (i,n)=>(ZD (n*3)).map λo=>(i,o)
  |none=>[]
 ex:=λds m _=>match v ds with
  |some (i,n)=>S2 m i n
  |none=>none
def NA(v:List D->Option (Id×Nat)):∀ds m m' fr,(∀l∈(EZ v).rd ds m,m l.1 l.2=m' l.1 l.2)->(EZ v).ex ds m fr=(EZ v).ex ds m' fr:=by
 intro ds m m' fr h;simp only[EZ]at h ⊢;cases hs:v ds with
 |none=>rfl
 |some p=>
  obtain⟨i,n⟩:=p;simp only[hs]at h ⊢;unfold S2;split
  ·rw[WR (m:=m) (m':=m') (n:=n) O λo g=>h (i,o) (QL.2 ⟨o,by simpa using g,rfl⟩)]
  ·rfl
def LW{v:List D->Option (Id×Nat)}{ds:List D}{m:Ha}{fr:Id}{r:D}{u:Hf}(h:(EZ v).ex ds m fr=some (r,u)):
  ∃i n xs,v ds=some (i,n)∧n<=12∧1<=n∧ND m i n 0=some xs∧xs.length=n∧Oe i m m xs∧r= .tup []∧u=[(i,0,flat (AB (Dj jU m0t (n-1) 1 xs)))]:=by
 simp only[EZ]at h;cases hs:v ds with
 |none=>rw[hs]at h;cases h
 |some p=>
  obtain⟨i,n⟩:=p;simp only[hs]at h;unfold S2 at h;split at h
  ·rename_i z;rw[QZ]at h;obtain⟨xs,q,h⟩:=h;simp only[QC]at h;obtain⟨rfl,rfl⟩:=h;obtain⟨c,e⟩:=S8 q;exact⟨i,n,xs,rfl,z.1,z.2,q,c,⟨λj b=>by have:=e j O;rwa [Qp]at this,λ_ _ _=>rfl⟩,rfl,rfl⟩
  ·cases h
def Oe.fin{i:Id}{m0 m:Ha}{xs:List Mt}(h:Oe i m0 m xs):∀f o x,(m0.put i 0 (flat (AB xs))) f o=some x->m f o=some x:=by
 intro f o x q;have w:∀x∈AB xs,x.cells.length=3:=λx q=>YX
 have p:=Cl w;rw[AY]at p;rw[Ah]at q;split at q
 ·rename_i n;obtain⟨rfl,_,g⟩:=n;rw[QM]at q;have s:o / 3<xs.length:=by omega
  have u:o / 3<(AB xs).length:=by rw[AY];exact s
  have a:(AB xs)[o / 3]=ML (xs.getD (o / 3) m0t):=by simp[AB,Qi s]
  obtain⟨k,a1,a2⟩:=h.row (o / 3) s;have b:o % 3<3:=Nat.mod_lt _ O;have e:o / 3*3+o % 3=o:=O
  have:=Er w u b;rw[e,q,a]at this;have h3:o % 3=0∨o % 3=1∨o % 3=2:=O
  rcases h3 with h3|h3|h3
  ·rw[h3]at this e;rw[Za]at e;rw[←e,k,this];rfl
  ·rw[h3]at this e;rw[←e,a1,this];rfl
  ·rw[h3]at this e;rw[←e,a2,this];rfl
 ·rename_i n;rw[←q];refine h.out f o ?_;by_cases e:f=i
  ·simp_all
  ·exact .inl e
def nY:List D->Option (Id×Nat)
 |[.row i n,.int .i64 0,.int .i64 k,.fn 192 []]=>if k=(n:Int)then some (i,n)else none
 |_=>none
def aSn:(EZ nY).ok Qe 296:=by
 obtain⟨S,w,hl⟩:=Bv (Aa aSW Ad);have a:=hl 192 _ rfl;clear hl;refine NK w (Aj func296:Fn Qe 296 53 aLF []) (NA _) (λds m fr r u z j=>?_);obtain⟨i,n,xs,v,g,y,x,hl,I,rfl,rfl⟩:=LW z;unfold nY at v;split at v
 ·split at v
  ·rename_i s;simp only[Ql,QC]at v;obtain⟨rfl,rfl⟩:=v;subst s;refine⟨U,?_⟩;rename_i i n;have f:IntKind.i64.wrap ((0:Int)+1)=((1:Nat):Int):=rfl;unfold aLF;simp only[↓C2,Hc,simprocAttr,f];refine aBm (m0:=m) (zs:=Dj jU m0t (n-1) 1 xs) a O (λo k=>?_) (n-1) 1 xs _ _ hl O rfl rfl rfl rfl rfl rfl I;simp only[↓C2,Hc,Hl,reduceIte];exact k.fin
  ·cases v
 ·cases v
def nZ:List D->Option (Id×Nat)
 |[.row i n,.int .i64 0,.int .i64 k,.int .i64 _,.fn 192 []]=>if k=(n:Int)then some (i,n)else none
 |_=>none
def aSD:(EZ nZ).ok Qe 251:=by
 obtain⟨S,w,hl⟩:=Bv (Aa aSn Ad);have a:=hl 296 _ rfl;clear hl;refine NK w (Aj func251:Fn Qe 251 148 aMl []) (NA _) (λds m fr r u z j=>?_);obtain⟨i,n,xs,v,g,y,x,hl,I,rfl,rfl⟩:=LW z;unfold nZ at v;split at v
 ·split at v
  ·rename_i s;simp only[Ql,QC]at v;obtain⟨rfl,rfl⟩:=v;subst s;refine⟨U,?_⟩;rename_i i n _;have f:IntKind.i64.wrap ((n:Int)-0)=(n:Int):=by rw[Hy O O];omega
   have ta:((n:Int)<=12):=O
   have q:∀fr,(EZ nY).ex ([.row i n,.int .i64 0,.int .i64 (n:Int),.fn 192 []]++[]) m fr=some (.tup [],[(i,0,flat (AB (Dj jU m0t (n-1) 1 xs)))]):=by
    grind [EZ,nY,S2]
   unfold aMl;simp only[↓C2,Hc,Qd];refine Af qK.eq_1 ?_;simp only[↓C2,Hc,Hl,simprocAttr,f,ta];rw[AE a];refine aH (q _) ?_;simp only[↓C2,Hc,Hl];exact λ_ _ _ h=>h
  ·cases v
 ·cases v
def aV0:List D->Option D:=NX (λ_=>none) 25 aLE [.t 2] 60
def aSm:Kq aV0 305:=NW A8 (Aj func305:Fn Qe 305 25 aLE [.t 2]) 60
def aIY:List D->Option D:=NX (Ar [(305,Ac aV0)]) 8 aMk [.t 2] 60
def aSC:Kq aIY 252:=NW (Aa aSm Ad) (Aj func252:Fn Qe 252 8 aMk [.t 2]) 60
def isI:Option D->Bool
 |some (.int .i64 _)=>true
 |_=>false
def aEs:(ZD 13).all (λn=>isI (aIY [.int .u64 (n:Nat)]))=true:=Z
def aEr{n:Nat}(h:n<=12):∃k,aIY [.int .u64 (n:Nat)]=some (.int .i64 k):=by
 have:=QT.1 aEs n Xb;generalize aIY [.int .u64 (n:Nat)]=r at this;unfold isI at this;split at this
 ·exact⟨_,rfl⟩
 ·cases this
def oA:List D->Option (Id×Nat)
 |[.row i n,.fn 192 []]=>some (i,n)
 |_=>none
def aSX:(EZ oA).ok Qe 191:=by
 obtain⟨S,w,hl⟩:=Bv (Aa aSC (Aa aSD Ad));have b:=hl 252 _ rfl;have a:=hl 251 _ rfl;clear hl;refine NK w (Aj func191:Fn Qe 191 14 aM6 []) (NA _) (λds m fr r u z j=>?_);obtain⟨i,n,xs,v,g,y,x,hl,I,rfl,rfl⟩:=LW z;unfold oA at v;split at v
 ·simp only[Ql,QC]at v;obtain⟨rfl,rfl⟩:=v;refine⟨U,?_⟩;rename_i i n;have f:IntKind.u64.wrap ((n:Nat):Int)=((n:Nat):Int):=by simp only[IntKind.wrap,IntKind.signed,IntKind.bits,QA,Qs,if_false];omega
  obtain⟨k,s⟩:=aEr g;have q:∀fr,(EZ nZ).ex ([.row i n,.int .i64 0,.int .i64 (n:Int),.int .i64 k,.fn 192 []]++[]) m fr=some (.tup [],[(i,0,flat (AB (Dj jU m0t (n-1) 1 xs)))]):=by
   grind [EZ,nZ,S2]
  unfold aM6;simp only[↓C2,G9,simprocAttr,f,Ab b,s];rw[AE a];refine aH (q _) ?_;simp only[↓C2,Hc,Hl];exact λ_ _ _ h=>h
 ·cases v
def aCh:Fn Qe 190 36 (GC 9 68 3 32 250) [.t 2]:=aK2
def aOy:(IG λds=>(Uk 3 ds).bind λys=>if(flat ys).all D.plain=true then some ys else none).ok Qe 190:=aHZ aCh O aKg
def FC:List D->Option (List D):=λds=>(Uk 3 ds).bind λys=>if(flat ys).all D.plain=true then some ys else none
def jN(l:List Mt):(flat (AB l)).all D.plain=true:=by
 induction l with
 |nil=>rfl
 |cons m r ih=>simp only[AB,QD,flat,ML,D.cells,List.all_append,Q7,Zb,D.plain,Zh,Zq];exact ih
def cB(a b:List Mt):AB (a++b)=AB a++AB b:=Q_
theorem pC(l:List Mt):(AB l).all (gZ 3)=true:=X8
def aV8{l:List Mt}{m:Mt}{nl:Bool}(hl:l.length<=1000):FC [.slice false [] [.slice nl [] (AB l),.slice false [] [ML m]]]=some (AB (l++[m])):=by
 have z:Fi [.slice nl [] (AB l),.slice false [] [ML m]]=some (AB (l++[m])):=by
  simp only[Fi,Qv,QI,cB];rfl
 have v:(AB (l++[m])).length=l.length+1:=by rw[AY,Qq];rfl
 simp only[FC,Uk,z];rw[if_pos ⟨U,O,O,pC _⟩,Qj,if_pos (jN _)]
def Fr(l:List Mt)(m:Mt):Option (List Mt)×Int:=
 if C7 m.1 m.2.1≠0 then(none,C7 m.1 m.2.1)else if 0<=BC l m.1 then(none,20)else if II m.1 (l.map (·.1))=true then(none,15)else if 4<=l.length then(none,24)
 else(some (Dj jU m0t l.length 1 (l++[m])),0)
def aOe(nl:Bool)(l:List Mt)(o:Option (List Mt)):D:=match o with
 |none=> .agg [.slice nl [] (AB l)]
 |some z=> .agg [.slice false [] (AB z)]
open Classical in
def F45:List D->Option D
 |[.agg [.slice nl _ xs],.agg [.str p,.int .i64 q,.bool b]]=>if pA nl xs∧xs.length<=1000∧p.length<=1000000 then some (.tup [aOe nl (Dx xs) (Fr (Dx xs) (p,q,b)).1,.int .i64 (Fr (Dx xs) (p,q,b)).2])else none
 |_=>none
open Classical in
def aFo{nl:Bool}{t:Id}{l:List Mt}{m:Mt}(hl:l.length<=1000)(g:nl=true->l=[])(c:m.1.length<=1000000):F45 [.agg [.slice nl t (AB l)],ML m]=some (.tup [aOe nl l (Fr l m).1,.int .i64 (Fr l m).2]):=by
 have h:pA nl (AB l)∧(AB l).length<=1000∧m.1.length<=1000000:=⟨aA7 O g,by rw[AY];exact hl,c⟩;show(if _ then _ else _)=_;rw[if_pos h,BN]
def aAw{i:Id}{n:Nat}:(D.row i n).data=true:=rfl
def uA{i:Id}{n:Nat}:(D.row i n).cells=[.row i n]:=rfl
def jO(nl:Bool)(l:List Mt)(o:Option (List Mt))(e:Int):(D.tup [aOe nl l o,.int .i64 e]).calmR=true:=by
 cases o<;>rfl
def aWA:Kq F45 129:=by
 obtain⟨S,hS,hl⟩:=Bv (Aa aS1 (Aa aAZ (Aa aS0 (Aa aSZ (Aa aOy (Aa aSX Ad))))));have g:=hl 186 _ rfl;have c:=hl 187 _ rfl;have n:=hl 188 _ rfl;have k:=hl 189 _ rfl;have v:=hl 190 _ rfl;have u:=hl 191 _ rfl;clear hl;refine pS hS (Aj func129:Fn Qe 129 44 aUS [.cell (some 1) 4,.t 5]) (λds r h=>?_) (λds r h=>?_)
 ·unfold F45 at h;split at h
  ·simp
  ·cases h
 ·unfold F45 at h;split at h
  ·rename_i nl t xs p q b;split at h
   ·rename_i hc;obtain⟨hc,ca,hp⟩:=hc;obtain⟨l,rfl,hl,hn,e⟩:=uN hc;rw[e]at h;rw[AY]at ca;simp only[Ql]at h;subst h;refine⟨jO ..,?_⟩;have f:aJ0 [.agg [.str p,.int .i64 q,.bool b]]=some (.int .i64 (C7 p q)):=if_pos hp;have z:=PJ (nl:=nl) (t:=[]) (p:=p) hl;have i:=aJX (nl:=nl) (t:=t) hl;have a:=aJZ (s:=p) (nl:=false) (t:=[]) (l:=l.map (·.1)) Xj;have ra:∀mm fr,(IG FC).ex [D.slice false [30] [D.slice nl [] (AB l),D.slice false [] [D.agg [D.str p,D.int IntKind.i64 q,D.bool b]]]] mm fr=some (.row fr (l.length+1),[(fr,0,flat (AB (l++[(p,q,b)])))]):=by
     intro mm fr;have h1:FC ([D.slice false [30] [D.slice nl [] (AB l),D.slice false [] [D.agg [D.str p,D.int IntKind.i64 q,D.bool b]]]].map D.un)=some (AB (l++[(p,q,b)])):=aV8 (m:=(p,q,b)) ca;simp only[IG,h1];refine(if_pos rfl).trans ?_;rw[Qv,AY,Qq];rfl
    have o:l.length<4->∀mm fr,(∀(j:Nat) d,(flat (AB (l++[(p,q,b)])))[j]?=some d->mm [31] j=some d)->(EZ oA).ex [.row [31] (l.length+1),.fn 192 []] mm fr=some (.tup [],[([31],0,flat (AB (Dj jU m0t l.length 1 (l++[(p,q,b)]))))]):=by
     intro w mm fr hm;have hr:=aGx hm;rw[Qq]at hr;simp only[EZ,oA,S2];rw[if_pos ⟨O,O⟩,show l.length+1=l.length+[(p,q,b)].length from rfl,hr];rfl
    unfold aUS Fr;simp only;generalize C7 p q=e1 at *;generalize BC l p=e2 at *;generalize II p (l.map (·.1))=e3 at *;by_cases he:e1=0
    ·subst he;by_cases ga:0<=e2
     ·simp only[↓C2,Ho,simprocAttr,Ab g,f,Ab c,z,ne_eq,Ah,Av,Aw,Qj,Qk,Qc,Qn,and_false,Qf,AW,Bd,ga];exact .inr ⟨_,_,rfl,rfl,.inl (.inl rfl),.inl (.inl rfl),trivial⟩
     ·cases e3 with
      |true=>
       simp only[↓C2,Ho,simprocAttr,Ab g,f,Ab c,z,Ab n,a,AE k,UF,i,ne_eq,Ah,Av,Aw,Qj,Qc,Qn,and_false,Qf,ga];refine A1 ?_;simp only[↓C2,G9,simprocAttr,Ah,Av,Aw,Qu,QM,Qg,Qm,Qp,Qo,and_self,Qj,Qk,Qc,Qn,Qf,AW,Bd,ga];exact .inr ⟨_,_,rfl,rfl,.inl (.inl rfl),.inl (.inl rfl),trivial⟩
      |false=>
       by_cases h4:4<=l.length
       ·have da:(4:Int)<=(l.length:Int):=by omega
        simp only[↓C2,Ho,simprocAttr,Ab g,f,Ab c,z,Ab n,a,AE k,UF,i,ne_eq,Ah,Av,Aw,Qj,Qc,Qn,and_false,Qf,ga];refine A1 ?_;simp only[↓C2,G9,simprocAttr,AY,Ah,Av,Aw,Qu,QM,Qg,Qm,Qp,Qo,and_self,Qj,Qk,Qc,Qn,Qf,AW,Bd,ga,da,h4];exact .inr ⟨_,_,rfl,rfl,.inl (.inl rfl),.inl (.inl rfl),trivial⟩
       ·have da:¬(4:Int)<=(l.length:Int):=by omega
        simp only[↓C2,Ho,simprocAttr,Ab g,f,Ab c,z,Ab n,a,AE k,UF,i,ne_eq,Ah,Av,Aw,Qj,Qc,Qn,and_false,Qf,ga];refine A1 ?_;simp only[↓C2,Ho,simprocAttr,AE v,AY,Ah,Av,Aw,Qj,Qc,Qn,and_false,Qf,da];refine aH (ra _ _) ?_;simp only[↓C2,G9,simprocAttr,AE u];refine aH (o O _ _ (λj d hd=>?_)) ?_
        ·grind [Ah]
        simp only[↓C2,G9,simprocAttr,aAw,uA,Cg,FE,Ah,Av,Aw,Qu,QM,Qg,Qm,Qp,Qo,and_self,Qj,QP,Qk,Zc,Q9,Qc,false_and,Qf,AW,Bd,ga,h4];refine .inr ⟨_,_,rfl,rfl,.inr ⟨_,_,rfl,rfl,.inr (.inl ⟨[31],_,3,?_,rfl,?_,?_⟩),trivial⟩,.inl (.inl rfl),trivial⟩
        ·grind [AY,isortR_len]
        ·intro x hx;obtain⟨y,_,rfl⟩:=QL.1 hx;exact⟨rfl,rfl⟩
        ·grind [aA,Ah]
    ·simp only[↓C2,Ho,simprocAttr,Ab g,f,ne_eq,Ah,Av,Aw,Qj,Qk,Qc,Qn,and_false,Qf,AW,Bd,he];exact .inr ⟨_,_,rfl,rfl,.inl (.inl rfl),.inl (.inl rfl),trivial⟩
   ·cases h
  ·cases h
def Pr:=y1 f23 2 [] []
def aLY:=y0 f23 [] [(2,Pr)]
def aCH:=y0 f266 [] []
def aHc{S:G8}{l:List Mt}{p:Bs}{nl:Bool}{t:Id}{Q:Ex->St->Prop}(o:l.length<=1000000)(d:S 54=some (Ac yV))
  (pa:∀v (m:Mt),A0 l p≠-1->m=Cd l (A0 l p).toNat->v.s 4= .ptr [1] 0->v.s 5= .int .i64 0->v.m [1] 0=some (.str m.1)->v.m [1] 1=some (.int .i64 m.2.1)->v.m [1] 2=some (.bool m.2.2)->Q .ret v)
  (ga:∀v a b c,A0 l p=-1->v.s 4= .ptr [1] 0->v.m [1] 0=some a->v.m [1] 1=some b->v.m [1] 2=some c->Q (.exit 0) v):
  ∀(f j:Nat) v g a b c,l.length=j+f->(∀i,i<j->(l.map λm=>Bj p m.1)[i]?=some false)->2<=v.c->v.s 1= .str p->v.s 4= .ptr [1] 0->v.s 9= .slice nl t (AB l)->v.s 10= .int .i64 (l.length:Int)->v.s 11= .int .i64 (j:Int)->
   v.m [1] 0=some a->v.m [1] 1=some b->v.m [1] 2=some c->Be S [] Pr Q v g:=by
 intro f;induction f with
 |zero=>
  intro j v g a b c hf ja n u h4 h9 la na ra qa r;refine Af Pr.eq_1 ?_;have w:¬((j:Int)<l.length):=O
  simp only[↓C2,Hc,Hl,reduceIte,Qd,la,na,w];exact ga _ a b c (dT (by rw[Qy];intro i hi;exact ja i O)) h4 ra qa r
 |succ f ih=>
  intro j v g a b c hf ja n u h4 h9 la na ra qa r;refine Af Pr.eq_1 ?_;have q:j<l.length:=O
  have w:((j:Int)<l.length):=O
  have oa:=nJ (j:=j);have hw:=wJ (j:=j) O;have ka:(AB l)[j]?=some (.agg [.str (Cd l j).1,.int .i64 (Cd l j).2.1,.bool (Cd l j).2.2]):=Pb q;have h:(l.map λm=>Bj p m.1)[j]?=some (Bj p (Cd l j).1):=by simp[Cd,Qi q]
  have y:([v.c+1+2]=([1]:Id))=False:=eq_false U;have z:(([1]:Id)=[v.c+1+2])=False:=eq_false U;obtain⟨m,k⟩:∃m,Cd l j=m:=⟨_,rfl⟩;rw[k]at ka h;have e:yV [.str p,.str m.1]=some (.bool (Bj p m.1)):=rfl;obtain⟨ma,ia,ea⟩:=v;simp only at u h4 h9 la na ra qa r y z n;cases hq:Bj p m.1 with
  |true=>
   rw[hq]at h e;have x:A0 l p=(j:Int):=dS h ja;simp only[↓C2,Ho,simprocAttr,u,h4,h9,la,na,w,oa,Qh,ka,z,ra,qa,r,Ab d,e,QB,Ah,Av,Aw,Qj,QS,QP,Qk];refine pa _ m (by rw[x];omega) (by rw[x];exact k.symm) h4 rfl ?_ ?_ ?_<;>simp only[Hl,simprocAttr,z,ra,qa,r,QB,Ah,Qu,QM,Qg,Qm,Qp,Qo,Qw,and_self]
  |false=>
   rw[hq]at h e;simp only[↓C2,Ho,simprocAttr,u,h9,la,na,w,oa,hw,Qh,ka,Ab d,e,QB,Ah,Av,Aw,Qj,QS,QP,Qk];refine ih (j+1) _ _ a b c O (λi hi=>?_) Xa u h4 h9 la rfl ?_ ?_ ?_
   ·grind
   all_goals simp only[H_,Hl,simprocAttr,z,ra,qa,r,QB,Ah,Qu,QM,Qg,Qm,Qp,Qo,Qw,and_self]
def IC(l:List Mt)(p:Bs):D:=if A0 l p=-1 then .tup [ML m0t,.int .i64 14]else .tup [ML (Cd l (A0 l p).toNat),.int .i64 0]
open Classical in
def nB:List D->Option D
 |[.agg [.slice _ _ xs],.str p]=>if xs=AB (Dx xs)∧xs.length<=1000000 then some (IC (Dx xs) p)else none
 |_=>none
open Classical in
def Wa{nl:Bool}{t:Id}{l:List Mt}{p:Bs}(hl:l.length<=1000000):nB [.agg [.slice nl t (AB l)],.str p]=some (IC l p):=by
 have h:AB l=AB (Dx (AB l))∧(AB l).length<=1000000:=XN
 show(if _ then _ else _)=_;rw[if_pos h,BN]
def oU:Kq nB 23:=by
 obtain⟨S,w,hl⟩:=Bv (Aa aKc Ad);have d:=hl 54 _ rfl;clear hl;refine AN (S:=S) w (Aj func23:Fn Qe 23 22 aLY [.cell (some 3) 4,.t 5]) (λds r h=>?_) (λds r h=>?_)
 ·unfold nB at h;split at h
  ·simp
  ·cases h
 ·unfold nB at h;split at h
  ·rename_i nl t xs p;split at h
   ·rename_i z;obtain⟨q,hl⟩:=z;simp only[Ql]at h;subst h;generalize Dx xs=l at q;subst q;rw[AY]at hl;unfold aLY;simp only[↓C2,G9,simprocAttr,AY,Ah,Qu,QM,Qg,Qm,Qp,Qo,and_self,Qc,Qn];refine aHc (l:=l) (p:=p) (nl:=nl) (t:=t) hl d (λv m f u e x m0 o k=>?_) (λv a b c f e m0 o k=>?_) l.length 0 _ _ (.str []) (.int .i64 0) (.bool false) O U Xa rfl rfl rfl rfl rfl ?_ ?_ ?_
    ·unfold IC;rw[if_neg f,←u];simp only[↓C2,G9,Qd,e,x,m0,o,k,Av,Aw,Qp,Qj,AW,Bd];exact⟨rfl,rfl⟩
    ·unfold IC;rw[if_pos f];simp only[↓C2,Ho,simprocAttr,e,m0,o,k,Cg,Ah,Av,Aw,Qj,Qk,AW,Bd];exact⟨rfl,rfl⟩
    all_goals simp only[H_,Hl,simprocAttr,Ah,Qu,QM,Qg,Qm,Qp,Qo,Qw,and_self,Qc,and_false,Qf]
   ·cases h
  ·cases h
open Classical in
def aFA:List D->Option D
 |[.agg [.bool se,.int .i64 te,.str key,.slice nlm tm xs,.slice nlt tt ys],.str p]=>if xs=AB (Dx xs)∧xs.length<=1000000 then some (.bool (decide (A0 (Dx xs) p≠-1)))else none
 |_=>none
def aSL:Kq aFA 266:=by
 obtain⟨S,w,hl⟩:=Bv (Aa oU Ad);have b:=hl 23 _ rfl;clear hl;refine AN (S:=S) w (Aj func266:Fn Qe 266 16 aCH [.t 4]) (λds r h=>?_) (λds r h=>?_)
 ·unfold aFA at h;split at h
  ·simp
  ·cases h
 ·unfold aFA at h;split at h
  ·rename_i k u z c m xs d y ys p;split at h
   ·rename_i n;obtain⟨q,hl⟩:=n;simp only[Ql]at h;subst h;generalize Dx xs=l at q;subst q;rw[AY]at hl;have a:=Wa (nl:=c) (t:=[]) (p:=p) hl;unfold IC at a;by_cases j:A0 l p=-1
    ·rw[if_pos j]at a;simp only[j,ne_eq,not_true_eq_false,decide_false];unfold aCH;simp only[↓C2,Ho,simprocAttr,Ab b,a,ML,Ah,Av,Aw,Qj,Qk,Qc,Qf]
     all_goals rfl
    ·rw[if_neg j]at a;simp only[j,ne_eq,not_false_eq_true,decide_true];unfold aCH;simp only[↓C2,Ho,simprocAttr,Ab b,a,ML,Ah,Av,Aw,Qj,Qk,Qc,Qf]
     all_goals rfl
   ·cases h
  ·cases h
def hZ(l:List Mt)(p:Bs):Nat->Nat
 |0=>0
 |j+1=>if Op.bytesLess (Cd l j).1 p=true then j+1 else hZ l p j
def aBN(l:List Mt)(p:Bs):∀j,hZ l p j<=j
 |0=>QB _
 |j+1=>by
  unfold hZ;split
  ·exact QB _
  ·exact Nat.le_succ_of_le (aBN l p j)
def xR(l:List Mt)(m:Mt):Option (List Mt)×Int:=
 if C7 m.1 m.2.1≠0 then(none,C7 m.1 m.2.1)else if 0<=BC l m.1 then(none,20)else if II m.1 (l.map (·.1))=true then(none,15)else if 4<=l.length then(none,24)
 else(some (l.take (hZ l m.1 l.length)++m::l.drop (hZ l m.1 l.length)),0)
def aLT:=y0 f97 [] []
def aLS:=y0 Tryz.f169 [] []
def aLQ:=y0 f171 [] []
def qJ:=y1 f309 4 [] []
def aLP:=y0 f309 [] [(4,qJ)]
def aLk:=y0 f331 [] []
def H5:=y1 f330 3 [] []
def aLl:=y0 f330 [] [(3,H5)]
def qI:=y0 f132 [] []
def aKY:Fn Qe 132 8 qI [.t 4]:=Aj func132
def MV:=y1 f197 4 [] []
def qF:=y0 f197 [] [(4,MV)]
def aKU:Fn Qe 197 26 qF [.t 4]:=Aj func197
def Pm:=y1 f14 3 [] []
def aLB:=y0 f14 [] [(3,Pm)]
def Pk:=y1 f332 3 [] []
def aLj:=y0 f332 [] [(3,Pk)]
def Ps:=y1 f136 6 [(8,[(7,3)])] []
def aMb:=y0 f136 [] [(6,Ps)]
structure Ak where
 op:Int
 tk:Bs
 pa:Bs
 ot:Bs
 n:Int
 cas:Int
 fl:Bool
 nln:Bool
 ns:List Int
 da:Bs
 nlr:Bool
 rs:List Rl
 key:Bs
def AI(l:List Int):List D:=l.map (.int .i64)
def ES(l:List Int):(AI l).length=l.length:=Qy ..
def Lv:∀{a b:List Int},AI a=AI b->a=b
 |[],[],_=>rfl
 |[],_::_,h=>by simp[AI]at h
 |_::_,[],h=>by simp[AI]at h
 |x::a,y::b,h=>by
  simp only[AI,QD,Qc,D.int.injEq,true_and]at h;rw[h.1,Lv (a:=a) (b:=b) h.2]
def aBZ(l:List Int):(AI l).all (qC none)=true:=X8
def WU{a b:List Rl}(h:As a=As b):a=b:=by rw[←A5 a,h,A5]
theorem cA{a b:List Mt}(h:AB a=AB b):a=b:=by rw[←BN a,h,BN]
theorem WA{a b:List Tk}(h:AJ a=AJ b):a=b:=by rw[←BL a,h,BL]
def Hw(a:Ak):List D:=[.int .u8 a.op,.str a.tk,.str a.pa,.str a.ot,.int .i64 a.n,.int .i64 a.cas,.bool a.fl,.slice a.nln [] (AI a.ns),.str a.da,.slice a.nlr [] (As a.rs),.str a.key]
def HA(a:Ak):D:= .agg (Hw a)
theorem FQ{a b:Ak}(h:HA a=HA b):a=b:=by
 cases a;cases b;simp only[HA,Hw,D.agg.injEq,Qc,D.int.injEq,D.str.injEq,D.bool.injEq,D.slice.injEq,true_and,and_true]at h;obtain⟨u,y,i,e,m,n,k,⟨o,z⟩,w,⟨na,s⟩,p⟩:=h;have f:=Lv z;have c:=WU s;subst u y i e m n k o w na p f c;rfl
def Df(b:Bool):Int:=if b=true then 0 else 4
def aRa:List D->Option D:=FX (λb:Bool=>[.bool b]) (λ_=>True) (λb=> .int .i64 (Df b))
def HM(b:Bool):aRa [.bool b]=some (.int .i64 (Df b)):=B3 (mk:=λb:Bool=>[.bool b]) (λa b h=>Xo) trivial
def aKe:Kq aRa 97:=by
 refine C0 (S:=λ_=>none) A8 (Aj func97:Fn Qe 97 4 aLT [.t 2]) (λ_=>U) (λb _=>?_);unfold aLT;cases b<;>simp only[↓C2,G9,reduceIte,Qb,Qd]
 all_goals exact Y7
def aWc:List D->Option D:=FX (λs:Bs=>[.str s]) (λs=>s.length<=1000000) (λs=> .bool (BX s))
def sL{s:Bs}(h:s.length<=1000000):aWc [.str s]=some (.bool (BX s)):=B3 (mk:=λs:Bs=>[.str s]) (λa b h=>Xo) h
def aSw:Kq aWc 169:=by
 obtain⟨S,w,hl⟩:=Bv (Aa aGU Ad);have a:=hl 53 _ rfl;clear hl;refine C0 w (Aj func169:Fn Qe 169 7 aLS [.t 2]) (λ_=>U) (λs g=>?_);have z:F98 [.agg [.int .u8 3,.str s,.int .i64 0]]=some (.int .i64 (Bl 3 s 0)):=if_pos g;have j:Bl 3 s 0=if BX s=true then 0 else 2:=by simp[Bl]
 rw[j]at z;unfold aLS;cases hn:BX s<;>rw[hn]at z<;>simp only[if_true,Qs,if_false]at z
 ·simp only[↓C2,G9,reduceIte,Qb,Qd,Ab a,z,Cg,FE,Qt,Qg,Qm,Qp,and_self,QS,QP,Zc,Q9]
  all_goals exact Y7
 ·simp only[↓C2,G9,reduceIte,Qb,Qd,Ab a,z,Cg,FE,Qt,Qg,Qm,Qp,and_self,QS,QP,Zc,Q9]
  all_goals exact Y7
def countB(l:List Int):Bool:=decide (l.length<=6)&&!(l.any λx=>!decide (1<=x∧x<=999))
def aWb:List D->Option D:=FX (λp:Bool×List Int=>[.slice p.1 [] (AI p.2)]) (λp=>p.2.length<=1000000) (λp=> .bool (countB p.2))
def aJy{nl:Bool}{l:List Int}(h:l.length<=1000000):aWb [.slice nl [] (AI l)]=some (.bool (countB l)):=
 B3 (mk:=λp:Bool×List Int=>[.slice p.1 [] (AI p.2)]) (a:=(nl,l)) (λa b h=>by
  simp only[Qc,D.slice.injEq,true_and,and_true]at h;exact QU h.1 (Lv h.2)) h
def aDC{l:List Int}{nl:Bool}{t:Id}(hl:l.length<=1000000)(m:Ha)(fr:Id):
  (iA 241 none yP).ex [.slice nl t (AI l),.fn 241 []] m fr=some (.bool (l.any λx=>!decide (1<=x∧x<=999)),[]):=by
 have e:(AI l).map (yP .junk)=(l.map λx=>!decide (1<=x∧x<=999)).map λb=>some (.bool b):=by
  simp only[AI,QR];exact Q3 λr _=>rfl
 simp only[iA,ES,hl,aBZ,and_self,if_true,F_,Qj,e,Dt,Qv,Zt];rfl
def aSv:Kq aWb 171:=by
 obtain⟨S,w,hl⟩:=Bv (Aa aU7 Ad);have c:=hl 240 _ rfl;clear hl;refine C0 w (Aj func171:Fn Qe 171 11 aLQ [.t 2]) (λ_=>U) (λp g=>?_);obtain⟨nl,l⟩:=p;have a:=aDC (nl:=nl) (t:=[]) g;unfold aLQ countB;simp only;generalize (l.any λx=>!decide (1<=x∧x<=999))=b at a;by_cases n:l.length<=6
 ·have d:((l.length:Int)<=6):=by omega
  simp only[↓C2,G9,reduceIte,Qb,Qd,AE c,a,n,d,ES]
  all_goals exact Y7
 ·have d:¬((l.length:Int)<=6):=by omega
  simp only[↓C2,G9,reduceIte,Qb,Qd,n,d,ES,QA,and_self]
  all_goals exact Y7
def aJx:List D->Option D:=FX (λp:Bool×List D×Bool=>[.slice p.1 [] p.2.1,.slice p.2.2 [] []]) (λp=>p.2.1.length<=1000000) (λp=> .bool p.2.1.isEmpty)
def V7{nl nl':Bool}{l:List D}(h:l.length<=1000000):aJx [.slice nl [] l,.slice nl' [] []]=some (.bool l.isEmpty):=
 B3 (mk:=λp:Bool×List D×Bool=>[.slice p.1 [] p.2.1,.slice p.2.2 [] []]) (a:=(nl,l,nl')) (λa b h=>by
  simp only[Qc,D.slice.injEq,true_and,and_true]at h;exact QU h.1.1 (QU h.1.2 h.2)) h
def aSu:Kq aJx 309:=by
 refine C0 (S:=λ_=>none) A8 (Aj func309:Fn Qe 309 26 aLP [.t 4]) (λ_=>U) (λp g=>?_);obtain⟨nl,l,nl'⟩:=p;unfold aLP;cases l with
 |nil=>
  simp only[↓C2,Hc,Hl,reduceIte,Qb,Qd,Qm];have b:((0:Int)<((0:Nat):Int))=False:=U
  refine Af qJ.eq_1 ?_;simp only[↓C2,G9,reduceIte,Qb,Qd,b]
  all_goals exact Y7
 |cons x r=>
  have e:(((r.length+1:Nat):Int)=((0:Nat):Int))=False:=eq_false O;simp only[↓C2,G9,reduceIte,Qb,Qd,Qg,Qm,e]
  all_goals exact Y7
def aSh:Kq aJx 197:=by
 refine C0 (S:=λ_=>none) A8 aKU (λ_=>U) (λp g=>?_);obtain⟨nl,l,nl'⟩:=p;unfold qF;cases l with
 |nil=>
  simp only[↓C2,Hc,Hl,reduceIte,Qb,Qd,Qm];have b:((0:Int)<((0:Nat):Int))=False:=U
  refine Af MV.eq_1 ?_;simp only[↓C2,G9,reduceIte,Qb,Qd,b]
  all_goals exact Y7
 |cons x r=>
  have t:(((r.length+1:Nat):Int)=((0:Nat):Int))=False:=eq_false O;simp only[↓C2,G9,reduceIte,Qb,Qd,Qg,Qm,t]
  all_goals exact Y7
structure LG (c0:Nat) (m0:Ha) (e:Nat) (m:Ha) (c:Nat) (nl:Bool) (t:Id):Prop where
 low:∀q o,q<c0->m [q] o=m0 [q] o
 tok:nl=true∨∃j,t=[j]∧c0<=j∧j<c∧m t 0=some (.tok (e+1))
 le:c0<=c
section
variable{c0 e c c' c2 o:Nat}{m0 m:Ha}{nl:Bool}{t:Id}{ds xs:List D}
def LG.start(h:c0<=c):LG c0 m0 e m0 c true t:=⟨λ_ _ _=>rfl,.inl rfl,h⟩
def LG.put(h:LG c0 m0 e m c nl t)(z:c<=c':=by omega):LG c0 m0 e (m.put [c'] o ds) c nl t:=by
 obtain⟨u,y,i⟩:=h;refine⟨λq o' v=>?_,?_,i⟩
 ·grind [aA]
 ·grind [aA]
def LG.more(h:LG c0 m0 e m c nl t)(z:c<=c'):LG c0 m0 e m c' nl t:=by
 obtain⟨u,h2,i⟩:=h;refine⟨u,?_,O⟩;rcases h2 with h2|⟨j,a,b,r,d⟩
 ·exact .inl h2
 ·grind
def LG.grow(h:LG c0 m0 e m c nl t):LK m e (.slice nl t xs):=by
 rcases h.tok with h|⟨j,rfl,_,_,d⟩
 ·exact .inl h
 ·exact .inr ⟨d,U⟩
def LG.app(h:LG c0 m0 e m c nl t)(z:c<=c')(y:c'<c2):LG c0 m0 e (Hf.app m (Bh e [c'] (.slice nl t xs))) c2 false [c']:=by
 obtain⟨u,p,i⟩:=h;refine⟨λq o v=>?_,.inr ⟨c',rfl,O,y,?_⟩,O⟩
 ·grind [De]
 ·rw[De,if_pos ⟨rfl,rfl⟩]
def LG.appf(h:LG c0 m0 e m c false t)(z:c<=c')(y:c'<c2):LG c0 m0 e ((m.put t 0 [.tok 0]).put [c'] 0 [.tok (e+1)]) c2 false [c']:=LG.app (xs:=[]) h z y
def LG.nil(h:LG c0 m0 e m c nl t):LG c0 m0 e (Hf.app m []) c nl t:=h
def LG.rd(h:LG c0 m0 e m c nl t){q p n:Nat}(v:q<c0):Ag m [q] p n=Ag m0 [q] p n:=by
 have:∀n p,Ag m [q] p n=Ag m0 [q] p n:=by
  intro n;induction n with
  |zero=>intro p;rfl
  |succ n ih=>intro p;simp only[Ag,h.low q p v,ih]
 exact this n p
end
def Ll(l:List Rw):aE (A9 l) 3=3:=XH
def HE(l:List Int):(AI l).length=l.length:=Qy ..
def aDI{m:Ha}{caps:List D}{k:IntKind}{n:Int}(h:F_ m caps=some (.int k n)):∃i,caps=[.ptr i 0]∧m i 0=some (.int k n):=by
 unfold F_ at h;split at h
 ·simp at h
 ·simp_all
 ·cases h
def yQ:D->D->Option D
 | .int .i64 n,.agg [.int .i64 a,.bool _,.bool _]=>some (.bool (decide (a=n)))
 |_,_=>none
def aPY:(I1 yQ).ok Qe 314:=by
 refine N4 (S:=λ_=>none) A8 (Aj func314:Fn Qe 314 8 aLq [.t 3]) (λx caps m fr c d s f j hl=>⟨O,?_⟩);unfold yQ at f;split at f
 ·simp only[Ql]at f;subst f;obtain⟨i,rfl,n⟩:=aDI s;have hi:i≠0::fr:=by rintro rfl;have:=j 0 (0::fr) 0 (List.suffix_refl _);rw[n]at this;cases this
  unfold aLq;simp only[↓C2,G9,G7,simprocAttr,n,hi];intro i o y h;split
  ·grind
  ·exact h
 ·cases f
def aUy:Fn Qe 313 19 (dcI 3 (some 3)) [.t 4]:=⟨f313,_,func313,rfl,Z,rfl,Z,Z⟩
def aPB:(FY 314 (some 3) yQ).ok Qe 313:=NS O aUy rfl aPY
def UQ(l:List Rw)(n:Int):Int:=Bc (l.map λr=>decide (r.1=n))
def vA{l:List Rw}{nl:Bool}{t:Id}(hl:l.length<=1000000){n:Int}(m:Ha)(fr i:Id)(j:m i 0=some (.int .i64 n)):
  (FY 314 (some 3) yQ).ex [.slice nl t (A9 l),.fn 314 [.ptr i 0]] m fr=some (.int .i64 (UQ l n),[]):=by
 have e:(A9 l).map (yQ (.int .i64 n))=(l.map λr=>decide (r.1=n)).map λb=>some (.bool b):=by
  simp only[A9,QR];exact Q3 λr _=>rfl
 have z:(A9 l).all (qC (some 3))=true:=by
  rw[QT];intro x q;obtain⟨r,_,rfl⟩:=QL.1 q;rfl
 simp only[FY,AP,hl,z,and_self,if_true,F_,j,Qj,e,Dt,Qv];rfl
def GB(s:Sc)(n:Int):Int:=if n=0 then(s.rs.length:Int)-1 else UQ s.rs n
def aVD:=Ar [(313,FY 314 (some 3) yQ)]
def aQW:=RF aVD aL4 [.t 4] 15
def aT6:Kq aQW 274:=Ap (Aj func274) (Aa aPB Ad)
def aIR(s:Sc)(n:Int)(hl:s.rs.length<=1000):aQW [.agg (Hg s),.int .i64 n]=some (.int .i64 (GB s n)):=by
 refine Al (Qa rfl) ?_;unfold aL4;have g:IntKind.i64.wrap ((s.rs.length:Int)-1)=(s.rs.length:Int)-1:=Hy O O;unfold GB Hg;by_cases c1:n=0
 ·simp only[↓C2,G9,G7,simprocAttr,c1,g,AP]
  all_goals exact Y6
 ·simp only[↓C2,G9,G7,simprocAttr,c1,AD aVD 313,vA (n:=n) (show s.rs.length<=1000000 by omega)]
  all_goals exact Y6
def rw0:Rw:=(0,false,false)
def Ic(s:Sc)(n:Int):Rw×Int:=if BU s 6=true then(rw0,2)else if GB s n<0 then(rw0,6)else
 if((s.rs.getD (GB s n).toNat rw0).2.1||(s.rs.getD (GB s n).toNat rw0).2.2)=true then(s.rs.getD (GB s n).toNat rw0,21)else(s.rs.getD (GB s n).toNat rw0,0)
def Tf(l:List Rw)(n:Int):UQ l n<l.length:=by
 unfold UQ Bc;split
 ·rename_i k h;rw[Q6]at h;obtain⟨s,_⟩:=h;rw[Qy]at s;omega
 ·omega
def aCl(s:Sc)(n:Int):GB s n<s.rs.length:=by
 unfold GB;split
 ·omega
 ·exact Tf _ _
def VY:=Ar [(25,Ac Iq),(273,Ac R8),(274,Ac aQW)]
def Of:=RF VY aMP [.cell (some 3) 4,.t 5] 32
def aUm:Kq Of 219:=Ap (Aj func219) (Aa OE (Aa aKx (Aa aT6 Ad)))
def aJa(s:Sc)(n:Int)(hl:s.rs.length<=1000):Of [.agg (Hg s),.int .i64 n]=some (.tup [rwD (Ic s n).1,.int .i64 (Ic s n).2]):=by
 refine Al (Qa rfl) ?_;unfold aMP;have z:=FR s 6 false hl;have q:=rR;have b:=aIR s n hl;have u:=aCl s n;unfold Ic;unfold Ss at z;unfold Hg at z b ⊢;generalize GB s n=i at b u;cases hb:BU s 6 with
 |true=>
  rw[hb]at z;simp only[if_true]at z;simp only[↓C2,G9,G7,simprocAttr,Ae VY 25,z,Ae VY 273,q];refine A1 ?_;simp only[↓C2,G9,G7,simprocAttr]
  all_goals exact Y6
 |false=>
  rw[hb]at z;simp only[if_false,Qs]at z;simp only[↓C2,G9,G7,simprocAttr,Ae VY 25,z,Ae VY 273,q];refine A1 ?_;by_cases c1:i<0
  ·simp only[↓C2,G9,G7,simprocAttr,Ae VY 274,b,c1]
   all_goals exact Y6
  ·have j:0<=i:=by omega
   have p:i.toNat<s.rs.length:=O
   have c:=EF p;have e:s.rs.getD i.toNat rw0=s.rs[i.toNat]:=by simp[Zx,Qi p]
   rw[e];generalize s.rs[i.toNat]=x at c;obtain⟨a,g,d⟩:=x;simp only at c;cases g with
   |true=>
    simp only[↓C2,G9,G7,simprocAttr,Ae VY 274,b,c1,j,c]
    all_goals exact Y6
   |false=>
    cases d with
    |true=>
     simp only[↓C2,G9,G7,simprocAttr,Ae VY 274,b,c1,j,c]
     all_goals exact Y6
    |false=>
     simp only[↓C2,G9,G7,simprocAttr,Ae VY 274,b,c1,j,c]
     all_goals exact Y6
def Il(s:Sc)(q:Int)(b:Bool)(cas j:Int):Int:=if BU s q=true∨cas< -1∨j<0 then 2 else if 96<j then 18 else if cas=-1∧(s.cas=true∨b=true)then 17 else if cas≠-1∧cas≠s.la then 16 else if s.la=30 then 19 else 0
def OY:=Ar [(25,Ac Iq)]
def aQJ:=RF OY aLp [.t 8] 49
def aTN:Kq aQJ 315:=Ap (Aj func315) (Aa OE Ad)
def aIx(s:Sc)(q:Int)(b:Bool)(cas j:Int)(hl:s.rs.length<=1000):aQJ [.agg (Hg s),.agg [.int .i64 q,.bool b],.int .i64 cas,.int .i64 j]=some (.int .i64 (Il s q b cas j)):=by
 refine Al (Qa rfl) ?_;unfold aLp;have z:=FR s q b hl;unfold Il;unfold Ss at z;unfold Hg at z ⊢;generalize BU s q=w at z;cases w with
 |true=>
  simp only[if_true]at z;simp only[↓C2,G9,G7,simprocAttr,Ae OY 25,z,ne_eq]
  all_goals exact Y6
 |false=>
  simp only[if_false,Qs]at z;by_cases c1:cas< -1
  ·simp only[↓C2,G9,G7,simprocAttr,Ae OY 25,z,ne_eq,c1]
   all_goals exact Y6
  by_cases n:j<0
  ·simp only[↓C2,G9,G7,simprocAttr,Ae OY 25,z,ne_eq,c1,n]
   all_goals exact Y6
  by_cases o:96<j
  ·simp only[↓C2,G9,G7,simprocAttr,Ae OY 25,z,ne_eq,c1,n,o]
   all_goals exact Y6
  by_cases v:cas=-1
  ·have g:(cas=-1)=True:=eq_true v;cases h1:s.cas with
   |true=>
    rw[h1]at z;simp only[↓C2,G9,G7,simprocAttr,Ae OY 25,z,ne_eq,c1,n,o,g]
    all_goals exact Y6
   |false=>
    rw[h1]at z;cases b with
    |true=>
     simp only[↓C2,G9,G7,simprocAttr,Ae OY 25,z,ne_eq,c1,n,o,g]
     all_goals exact Y6
    |false=>
     by_cases p:s.la=30
     ·have e:(s.la=30)=True:=eq_true p;simp only[↓C2,G9,G7,simprocAttr,Ae OY 25,z,ne_eq,c1,n,o,g,e]
      all_goals exact Y6
     ·have e:(s.la=30)=False:=eq_false p;simp only[↓C2,G9,G7,simprocAttr,Ae OY 25,z,ne_eq,c1,n,o,g,e]
      all_goals exact Y6
  ·have g:(cas=-1)=False:=eq_false v;by_cases k:cas=s.la
   ·have i:(cas=s.la)=True:=eq_true k;by_cases p:s.la=30
    ·have e:(s.la=30)=True:=eq_true p;simp only[↓C2,G9,G7,simprocAttr,Ae OY 25,z,ne_eq,c1,n,o,g,i,e]
     all_goals exact Y6
    ·have e:(s.la=30)=False:=eq_false p;simp only[↓C2,G9,G7,simprocAttr,Ae OY 25,z,ne_eq,c1,n,o,g,i,e]
     all_goals exact Y6
   ·have i:(cas=s.la)=False:=eq_false k;simp only[↓C2,G9,G7,simprocAttr,Ae OY 25,z,ne_eq,c1,n,o,g,i]
    all_goals exact Y6
def aXq:=Ar []
def aQI:=RF aXq eL [.t 2] 8
def aTM:Kq aQI 316:=Ap aCg Ad
def aIw{nl:Bool}{l:List Rw}(hl:l.length<=100000)(g:nl=true->l=[]):aQI [.slice nl [] (A9 l)]=some (.slice nl [] (A9 l)):=by
 refine Al (Qa rfl) ?_;unfold eL;cases nl with
 |true=>
  rw[g rfl];simp only[↓C2,Hc,H_,G7,simprocAttr]
  all_goals exact Y6
 |false=>
  simp only[↓C2,Hc,Hl,G7,simprocAttr];refine Au.intro ⟨XF,Ll l,.inr ⟨rfl,U⟩⟩ ?_;simp only[↓C2,G9,G7,simprocAttr]
def Bm(s:Sc)(q:Int):Nat:=s.rs.length-(AR s q).toNat
def B_(s:Sc)(q:Int):Sc:={s with rs:=s.rs.drop (Bm s q)}
def Fq(s:Sc)(q:Int):List Int:=(s.rs.take (Bm s q)).map (·.1)
def aQm:=Ar [(59,Ac aIJ),(316,Ac aQI)]
def aIQ:=RF aQm aLZ [.cell (some 4) 4,.t 5] 41
def aKv:Kq aIQ 278:=Ap (Aj func278) (Aa aKu (Aa aTM Ad))
def rP(s:Sc)(q:Int)(b:Bool)(hl:s.rs.length<=1000)(hk:0<=AR s q∧AR s q<=1000)(pa:s.nl=true->s.rs=[]):aIQ [.agg (Hg s),.agg [.int .i64 q,.bool b]]=some (.tup [.agg (Hg (B_ s q)),.slice (decide (Bm s q=0)) [] (AI (Fq s q))]):=by
 refine Al (Qa rfl) ?_;unfold aLZ;have d:=rO s q b;have a:=aIw (nl:=s.nl) (l:=s.rs.drop (Bm s q)) X7 (λh=>by rw[pa h,List.drop_nil]);have hw:IntKind.i64.wrap ((s.rs.length:Int)-AR s q)=(s.rs.length:Int)-AR s q:=Hy O O;have hm:max 0 ((s.rs.length:Int)-AR s q)=(Bm s q:Int):=by unfold Bm;omega
 have hn:Bm s q<=s.rs.length:=by unfold Bm;omega
 have fa:(0:Int)<=(Bm s q:Int)∧(Bm s q:Int)<=((s.rs.length:Nat):Int):=⟨O,O⟩;have z:(A9 s.rs).take (Bm s q)=A9 (s.rs.take (Bm s q)):=List.map_take.symm;have za:(A9 s.rs).drop (Bm s q)=A9 (s.rs.drop (Bm s q)):=List.map_drop.symm;have i:B_ s q={s with rs:=s.rs.drop (Bm s q)}:=rfl;unfold Fq;rw[i];unfold Hg at d ⊢;generalize Bm s q=n at *;generalize AR s q=kp at *;clear i;simp only[↓C2,G9,G7,simprocAttr,Ae aQm 59,d,AP,hw,hm];refine A1 ?_;simp only[↓C2,G9,G7,simprocAttr,AP,Ll,fa,Qh,z,QM,Zy,Nat.min_eq_left hn];refine BO (n:=n) (I:=λj v=>v.s 21= .slice s.nl [] (A9 (s.rs.take n))∧v.s 22= .int .i64 (n:Int)∧v.s 23= .int .i64 (j:Int)∧v.s 2= .ptr [0] 0∧v.s 4= .ptr [2] 0∧v.s 6= .int .i64 (n:Int)∧∃nl t,v.s 7= .slice nl t (AI (((s.rs.take n).take j).map (·.1)))∧nl=decide (j=0)∧LG 4 _ 3 v.m v.c nl t) (λj hj ih v g hI=>?_) (λv g hI=>?_) 0 (Qu _) _ _ ⟨(by show D.slice _ _ (List.take n (List.drop 0 (A9 s.rs)))=_;rw[Zc,z]),rfl,rfl,rfl,rfl,rfl,true,[],rfl,rfl,LG.start Xa⟩
 ·obtain⟨ma,ia,ea⟩:=v;obtain⟨o,e,ha,y,h4,h6,nl,t,h7,f,hG⟩:=hI;simp only at o e ha y h4 h6 h7 hG;refine Af Vy.eq_1 ?_;have u:((j:Int)<n):=by omega
  have oa:=nJ (j:=j);have hw:=wJ (j:=j) O;have w:(s.rs.take n).length=n:=XE
  generalize s.rs.take n=l at *;have ka:=EF (l:=l) (j:=j) O;have z:AI ((l.take (j+1)).map (·.1))=AI ((l.take j).map (·.1))++[.int .i64 (l[j]' O).1]:=by
   rw[QF O,Q_];simp[AI]
  have va:(AI ((l.take j).map (·.1))).length=j:=by simp[AI];omega
  have na:nl=true->AI ((l.take j).map (·.1))=[]:=by
   grind
  generalize AI ((l.take j).map (·.1))=ba at h7 z va na;generalize l[j]' O=x at ka z;simp only[↓C2,G9,G7,simprocAttr,o,e,ha,h7,u,oa,Qh,ka];refine Au.intro ⟨O,rfl,Yy⟩ ?_;rw[B8 na,←z];simp only[↓C2,Hc,simprocAttr,ha,hw];exact ih _ _ ⟨o,e,rfl,y,h4,h6,false,_,rfl,U,Y3⟩
 ·obtain⟨ma,ia,ea⟩:=v;obtain⟨o,e,ha,y,h4,h6,nl,t,h7,f,hG⟩:=hI;simp only at o e ha y h4 h6 h7 hG;refine Af Vy.eq_1 ?_;have m0:∀k,ia [0] k=_:=λk=>hG.low 0 k O
  have m2:∀k,ia [2] k=_:=λk=>hG.low 2 k O
  have ga:(A9 s.rs).take s.rs.length=A9 s.rs:=QG XF;have p:(A9 (s.rs.drop n)).take (s.rs.length-n)=A9 (s.rs.drop n):=QG (by rw[AP,List.length_drop];omega);have r:(s.rs.take n).take n=s.rs.take n:=QG XE;rw[r]at h7;simp only[↓C2,G9,G7,simprocAttr,e,ha,y,h4,h6,h7,Qz,m0,m2,AP,Ll,fa,Qh,p,za,Ae aQm 316,a];subst f
  all_goals exact Y6
def clQ:HF where
 rd:=λ_ _=>[]
 ex:=λds _ fr=>match ds with
  |[.slice nl _ xs]=>if xs.length<=100000∧(nl=true->xs=[])∧aE xs 3=3 then(if nl=true then some (.slice true [] [],[])else some (.slice false (5::fr) xs,[(5::fr,0,[.tok 81])]))else none
  |_=>none
theorem eS{nl:Bool}{t:Id}{xs:List D}{m:Ha}{fr:Id}(u:xs.length<=100000)(y:nl=true->xs=[])(i:aE xs 3=3)(S:G8){R:D->Ha->Prop}(r:if nl=true then R (.slice true [] []) m else R (.slice false (5::fr) xs) (((m.put (3::fr) 0 [.tok 81]).put (3::fr) 0 [.tok 0]).put (5::fr) 0 [.tok 81])):eL.wp S fr (Ea [.t 2] R) ⟨BI [.slice nl t xs],m,0⟩:=by
 unfold eL;cases nl with
 |true=>
  simp only[↓C2,Hc,G7,reduceIte,Qb,Qd,reduceCtorEq];simpa using r
 |false=>
  simp only[↓C2,Hc,Hl,G7,reduceIte,Qb,Qd,reduceCtorEq];refine Au.intro ⟨O,i,.inr ⟨BM ..▸by simp,U⟩⟩ ?_;simp only[↓C2,Hc,Hl,G7,reduceIte,Qb,Qd];simp only[Qs,if_false]at r;exact r
def aOB:clQ.ok Qe 316:=by
 refine Ls (S:=λ_=>none) A8 aCg (λds m m' fr _=>rfl) (λds m fr r u z j=>?_);simp only[clQ]at z;split at z
 ·rename_i nl t xs;split at z
  ·rename_i n;obtain⟨q,y,a⟩:=n;refine⟨U,eS q y a _ ?_⟩;cases nl with
   |true=>
    simp only[if_true,Ql,QC]at z ⊢;obtain⟨rfl,rfl⟩:=z;exact⟨rfl,λ_ _ _ h=>h⟩
   |false=>
    simp only[Qs,if_false,Ql,QC]at z ⊢;obtain⟨rfl,rfl⟩:=z;refine⟨rfl,λi o x h=>?_⟩;have f:(m.put (5::fr) 0 [.tok 81]) i o=some x:=h;rw[BM]at f ⊢;split at f
    ·simp_all
    ·grind [BM]
  ·cases z
 ·cases z
def aP2{nl:Bool}{t:Id}{l:List Rw}{m:Ha}{fr:Id}(u:l.length<=1000)(y:nl=true->l=[]):clQ.ex [.slice nl t (A9 l)] m fr=if nl=true then some (.slice true [] [],[])else some (.slice false (5::fr) (A9 l),[(5::fr,0,[.tok 81])]):=
 if_pos ⟨XF,λh=>by rw[y h];rfl,Ll l⟩
def Eu{s:Sc}{q:Int}(h:BU s q=false):(1<=q∧q<=6)∧(0<=s.mx∧s.mx<=6)∧(0<=s.la∧s.la<=30)∧(s.rs.length:Int)<=AR s q∧Cn s.rs 0=true∧Gl s.rs=s.la:=by
 simpa[BU]using h
def W_{s:Sc}{q:Int}{b:Bool}{cas j:Int}(h:Il s q b cas j=0):BU s q=false:=by
 grind [Il,BU]
def dA{s:Sc}{q:Int}(u:1<=q∧q<=6)(y:0<=s.mx∧s.mx<=6):0<=AR s q∧AR s q<=1000:=by
 grind [AR]
def AZ(s:Sc):Sc:={s with la:=s.la+1,nl:=false,rs:=s.rs++[(s.la+1,false,false)]}
def B2(s:Sc)(q:Int)(b:Bool)(cas j:Int):Sc×Int×List Int×Int:=if Il s q b cas j≠0 then(s,0,[],Il s q b cas j)else(B_ (AZ s) q,s.la+1,Fq (AZ s) q,0)
def dZ{s:Sc}{q:Int}:(Fq s q=[])=(Bm s q=0):=by
 simp_all [Fq,Bm]
def fW:=Ar [(315,Ac aQJ),(278,Ac aIQ),(316,clQ)]
def aQV:=RF fW aL3 [.cell (some 4) 8,.t 9,.t 10,.t 11] 47
def aT5:Kq aQV 275:=Ap (Aj func275) (Aa aTN (Aa aKv (Aa aOB Ad)))
def rQ(s:Sc)(q:Int)(b:Bool)(cas j:Int)(hl:s.rs.length<=900)(k:s.nl=true->s.rs=[]):aQV [.agg (Hg s),.agg [.int .i64 q,.bool b],.int .i64 cas,.int .i64 j]=some (.tup [.agg (Hg (B2 s q b cas j).1),.int .i64 (B2 s q b cas j).2.1,.slice (decide ((B2 s q b cas j).2.2.1=[])) [] (AI (B2 s q b cas j).2.2.1),.int .i64 (B2 s q b cas j).2.2.2]):=by
 refine Al (Qa rfl) ?_;unfold aL3;have c:=aIx s q b cas j O;have a:=λ(m:Ha)(fr:Id)=>aP2 (nl:=s.nl) (t:=[]) (l:=s.rs) (m:=m) (fr:=fr) O k
 unfold B2;by_cases p:Il s q b cas j=0
 ·obtain⟨u,w,b3,_⟩:=Eu (W_ p);have y:AR (AZ s) q=AR s q:=rfl;have d:=rP (AZ s) q b (by simp[AZ];omega) (by rw[y];exact dA u w) (by simp[AZ]);have hw:IntKind.i64.wrap (s.la+1)=s.la+1:=Hy O O;have o:(B_ (AZ s) q).la=s.la+1:=rfl;have f:=dZ (s:=AZ s) (q:=q);rw[p]at c;rw[p];simp only[ne_eq,not_true_eq_false,if_false,f];generalize decide (Bm (AZ s) q=0)=r at d ⊢;generalize Fq (AZ s) q=n at *;generalize B_ (AZ s) q=g at *;have x:A9 (s.rs++[(s.la+1,false,false)])=A9 s.rs++[.agg [.int .i64 (s.la+1),.bool false,.bool false]]:=by simp[A9,rwD]
  unfold AZ Hg at d;simp only[x]at d;unfold Hg at c ⊢;rw[o]at d;clear y;have i:(A9 s.rs).length=s.rs.length:=AP _;cases hn:s.nl with
  |true=>
   rw[hn]at c a;rw[k hn]at c d a i ⊢;simp only[if_true]at a;have v:A9 []=[]:=rfl;rw[v]at c d a i ⊢;rw[Zl]at d;simp only[↓C2,G9,G7,reduceIte,Qb,Qd,Qr,Qt,QE,reduceCtorEq,Ae fW 315,c,AD fW 316,a,hw];refine Au.intro ⟨U,rfl,.inl rfl⟩ ?_;simp only[↓C2,G9,G7,reduceIte,Qb,Qd,Qr,Qt,QE,reduceCtorEq];refine A1 ?_;simp only[↓C2,G9,G7,reduceIte,Qb,Qd,Qr,Qt,QE,reduceCtorEq,Ae fW 278,d];refine A1 ?_;simp only[↓C2,G9,G7,reduceIte,Qb,Qd,Qr,Qt,QE,o]
   all_goals exact Y6
  |false=>
   rw[hn]at c a;simp only[if_false,Qs]at a;simp only[↓C2,G9,G7,reduceIte,Qb,Qd,Qr,Qt,QE,reduceCtorEq,Ae fW 315,c,AD fW 316,a,hw];refine Au.intro ⟨Xs,rfl,.inr ⟨XV,U⟩⟩ ?_;simp only[↓C2,G9,G7,reduceIte,Qb,Qd,Qr,Qt,QE,reduceCtorEq];refine A1 ?_;simp only[↓C2,G9,G7,reduceIte,Qb,Qd,Qr,Qt,QE,reduceCtorEq,Ae fW 278,d];refine A1 ?_;simp only[↓C2,G9,G7,reduceIte,Qb,Qd,Qr,Qt,QE,reduceCtorEq,o]
   all_goals exact Y6
 ·have z:(Il s q b cas j=0)=False:=eq_false p;unfold Hg at c ⊢;simp only[ne_eq,z,not_false_eq_true,if_true];generalize Il s q b cas j=e at *;simp only[↓C2,G9,G7,reduceIte,Qb,Qd,Qr,reduceCtorEq,Ae fW 315,c,z]
  all_goals exact Y6
def Cm(s:Sc)(q:Int)(j:Int)(cas:Bool):Sc×List Int×Int:=if BU s q=true∨¬(0<=j∧j<=6)then(s,[],2)else(B_ {s with mx:=j,cas:=cas} q,Fq {s with mx:=j,cas:=cas} q,0)
def mT:=Ar [(58,Ac gT),(25,Ac Iq),(278,Ac aIQ)]
def aI9:=RF mT aMN [.cell (some 4) 8,.t 9,.t 10] 35
def aUl:Kq aI9 222:=Ap (Aj func222) (Aa aAX (Aa OE (Aa aKv Ad)))
def aI8(s:Sc)(q:Int)(b:Bool)(j:Int)(cas:Bool)(hl:s.rs.length<=1000)(k:s.nl=true->s.rs=[]):aI9 [.agg (Hg s),.agg [.int .i64 q,.bool b],.int .i64 j,.bool cas]=some (.tup [.agg (Hg (Cm s q j cas).1),.slice (decide ((Cm s q j cas).2.1=[])) [] (AI (Cm s q j cas).2.1),.int .i64 (Cm s q j cas).2.2]):=by
 refine Al (Qa rfl) ?_;unfold aMN;have z:=FR s q b hl;have c:∀x a b:Int,gT [.int .i64 x,.int .i64 a,.int .i64 b]=some (.bool (decide (a<=x∧x<=b))):=λ_ _ _=>rfl
 unfold Cm;unfold Ss at z;cases hb:BU s q with
 |true=>
  rw[hb]at z;simp only[if_true]at z;unfold Hg at z ⊢;simp only[↓C2,G9,G7,reduceIte,Qb,Qd,Qr,reduceCtorEq,Int.reduceEq,Ae mT 25,z,true_or,if_true]
  all_goals exact Y6
 |false=>
  rw[hb]at z;simp only[if_false,Qs]at z;by_cases c1:0<=j∧j<=6
  ·obtain⟨u,w,p,_⟩:=Eu hb;have d:=rP {s with mx:=j,cas:=cas} q b hl (dA u c1) k;have f:=dZ (s:={s with mx:=j,cas:=cas}) (q:=q);simp only[c1,and_self,not_true_eq_false,or_self,if_false,Qs,f];generalize decide (Bm {s with mx:=j,cas:=cas} q=0)=r at d ⊢;generalize Fq {s with mx:=j,cas:=cas} q=n at *;generalize B_ {s with mx:=j,cas:=cas} q=g at *;unfold Hg at z d ⊢;simp only[↓C2,G9,G7,reduceIte,Qb,Qd,Qr,Qt,QE,reduceCtorEq,Ae mT 25,z,Ae mT 58,c,Ae mT 278,d,c1]
   all_goals exact Y6
  ·unfold Hg at z ⊢;simp only[↓C2,G9,G7,reduceIte,Qb,Qd,Qr,reduceCtorEq,Ae mT 25,z,Ae mT 58,c,c1,or_true,if_true]
   all_goals exact Y6
def aCb{α:Type}{mk:α->List D}{ok:α->Prop}{res:α->D}{P:Program}{S:G8}{f:FuncId}{N:Nat}{s:DC}{rs:List RV}(w:G8.ok P S)(k:Fn P f N s rs)(b:∀a,(mk a).length<=N)
  (t:∀a,ok a->(res a).calmR=true∧s.wp S [] (Ea rs λd m'=>aVs m' d (res a)) ⟨BI (mk a),λ_ _=>none,0⟩):(Ac (FX mk ok res)).ok P f:=by
 refine pS w k (λds r h=>?_) (λds r h=>?_)
 ·obtain⟨a,_,rfl,_⟩:=Dl h;exact b a
 ·obtain⟨a,x,rfl,rfl⟩:=Dl h;exact t a x
def vM{l:List Int}{n:Int}{j:Nat}(b:j<l.length)(q:n=l[j])(p:∀i (h:i<j),n≠l[i]'(by omega)):Bc (l.map λx=>decide (n=x))=j:=by
 unfold Bc;have:(l.map λx=>decide (n=x)).findIdx? id=some j:=by
  rw[Q6];refine⟨XU,by simp[q],λi hi=>?_⟩;have:=p i hi;simpa using this
 rw[this]
def vK{l:List Int}{n:Int}(p:∀i (h:i<l.length),n≠l[i]):Bc (l.map λx=>decide (n=x))=-1:=by
 unfold Bc;have:(l.map λx=>decide (n=x)).findIdx? id=none:=by
  rw[List.findIdx?_eq_none_iff];intro b o;obtain⟨x,q,rfl⟩:=QL.1 o;obtain⟨i,hi,rfl⟩:=Zp q;simpa using p i hi
 rw[this]
def TA{l:List Int}{j:Nat}(h:j<l.length):(AI l)[j]?=some (.int .i64 l[j]):=by simp[AI,Qi h]
def aHC(l:List Int)(n:Int):Bool:=l.any λx=>decide (n=x)
def kQ(l:List Int)(n:Int):decide (0<=Bc (l.map λx=>decide (n=x)))=aHC l n:=by
 rw[GU,Zt];rfl
def aXj:=Ar []
def aQA:=RF aXj aK9 [.t 4] 19
def aTB:Kq aQA 343:=Ap (Aj func343) Ad
def aIm{nl:Bool}{l:List Int}(n:Int)(hl:l.length<=1000):aQA [.slice nl [] (AI l),.int .i64 n]=some (.int .i64 (Bc (l.map λx=>decide (n=x)))):=by
 refine Al (Qa rfl) ?_;unfold aK9;simp only[↓C2,Hc,simprocAttr,HE];refine BO (n:=l.length) (I:=λj v=>v.s 0= .slice nl [] (AI l)∧v.s 1= .int .i64 n∧v.s 7= .int .i64 l.length∧v.s 8= .int .i64 (j:Int)∧∀i (h:i<j) (y:i<l.length),n≠l[i]) (λj b ih v g hI=>?_) (λv g hI=>?_) 0 (Qu _) _ _ ⟨rfl,rfl,rfl,rfl,λi h=>absurd h (ZB _)⟩
 ·obtain⟨m,o,r⟩:=v;obtain⟨f,u,k,h8,p⟩:=hI;simp only at f u k h8;refine Af Vp.eq_1 ?_;have w:((j:Int)<l.length):=by omega
  have z:=nJ (j:=j);have t:=wJ (j:=j) O;have c:=TA b;by_cases q:n=l[j]
  ·have e:=vM b q (λi h=>p i h O);have a:(n=l[j])=True:=eq_true q;simp only[↓C2,G9,G7,simprocAttr,f,u,k,h8,w,z,Qh,c,a];rw[e]
   all_goals exact Y6
  ·have a:(n=l[j])=False:=eq_false q;simp only[↓C2,G9,G7,simprocAttr,f,u,k,h8,w,z,Qh,c,a,t];refine ih _ _ ⟨f,u,k,rfl,λi h y=>?_⟩;rcases Nat.lt_or_eq_of_le (Nat.le_of_lt_succ h)with h|rfl
   ·exact p i h y
   ·exact q
 ·obtain⟨f,u,k,h8,p⟩:=hI;refine Af Vp.eq_1 ?_;have e:=vK (λi h=>p i h h);simp only[↓C2,G9,G7,simprocAttr,k,h8,Qz];rw[e]
  all_goals exact Y6
def aVu:=Ar [(343,Ac aQA)]
def SJ:=RF aVu aLn [.t 4] 9
def aTK:Kq SJ 318:=Ap (Aj func318) (Aa aTB Ad)
def aIu{nl:Bool}{l:List Int}(n:Int)(hl:l.length<=1000):SJ [.slice nl [] (AI l),.int .i64 n]=some (.bool (aHC l n)):=by
 refine Al (Qa rfl) ?_;unfold aLn;have a:=aIm (nl:=nl) n hl;have e:=kQ l n;generalize Bc (l.map λx=>decide (n=x))=i at *;simp only[↓C2,G9,G7,simprocAttr,Ae aVu 343,a];rw[←e]
 all_goals exact Y6
def aXA:=Ar []
def SM:=RF aXA aLW [.cell (some 3) 2] 6
def aT4:Kq SM 280:=Ap (Aj func280) Ad
def aIP(r:Rw):SM [.agg [.int .i64 r.1,.bool r.2.1,.bool r.2.2]]=some (.agg [.int .i64 r.1,.bool true,.bool false]):=by
 refine Al (Qa rfl) ?_;unfold aLW;simp only[↓C2,G9,G7,simprocAttr]
 all_goals exact Y6
def aXz:=Ar []
def SL:=RF aXz aLV [.cell (some 3) 2] 6
def aT3:Kq SL 281:=Ap (Aj func281) Ad
def aIO(r:Rw):SL [.agg [.int .i64 r.1,.bool r.2.1,.bool r.2.2]]=some (.agg [.int .i64 r.1,.bool false,.bool false]):=by
 refine Al (Qa rfl) ?_;unfold aLV;simp only[↓C2,G9,G7,simprocAttr]
 all_goals exact Y6
def aXy:=Ar []
def SK:=RF aXy aLU [.cell (some 3) 2] 6
def aT2:Kq SK 282:=Ap (Aj func282) Ad
def aIN(r:Rw):SK [.agg [.int .i64 r.1,.bool r.2.1,.bool r.2.2]]=some (.agg [.int .i64 r.1,.bool false,.bool true]):=by
 refine Al (Qa rfl) ?_;unfold aLU;simp only[↓C2,G9,G7,simprocAttr]
 all_goals exact Y6
def lS(k:Nat)(r:Rw):Rw:=if k=280 then(r.1,true,false)else if k=281 then(r.1,false,false)else(r.1,false,true)
def GS(ns:List Int)(n j:Nat)(x:Rw):Bool:=(aHC ns x.1||(ns.isEmpty&&decide (j+1=n)))&&!x.2.2
def DT(ns:List Int)(k n:Nat):Nat->List Rw->List Rw
 |_,[]=>[]
 |j,x::r=>(if GS ns n j x=true then lS k x else x)::DT ns k n (j+1) r
def CG(ns:List Int)(n:Nat):Nat->List Rw->List Int
 |_,[]=>[]
 |j,x::r=>if GS ns n j x=true then x.1::CG ns n (j+1) r else CG ns n (j+1) r
theorem Nw(ns:List Int)(k n:Nat):∀(l:List Rw)(j:Nat),(DT ns k n j l).length=l.length
 |[],_=>rfl
 |x::r,j=>by simp[DT,Nw ns k n r]
def Bf(s:Sc)(ns:List Int)(k:Nat):Sc×List Int×Int:=if BU s 6=true then(s,[],2)else if s.rs=[]then(s,[],6)else({s with rs:=DT ns k s.rs.length 0 s.rs},CG ns s.rs.length 0 s.rs,0)
def jP(p:Sc×Bool×List Int×Nat):List D:=[.agg (Hg p.1),.slice p.2.1 [] (AI p.2.2.1),.fn p.2.2.2 []]
def aAq{a b:List Rw}(h:A9 a=A9 b):a=b:=(Zd (λx y e=>by
 simp only[rwD,D.agg.injEq,Qc,D.int.injEq,D.bool.injEq,true_and,and_true]at e;exact QU e.1 (QU e.2.1 e.2.2))).1 h
theorem aGp{a b:Sc}(h:Hg a=Hg b):a=b:=by
 cases a;cases b;simp only[Hg,Qc,D.int.injEq,D.bool.injEq,D.slice.injEq,true_and,and_true]at h;obtain⟨u,y,i,p,m⟩:=h;have:=aAq m;subst u y i p this;rfl
theorem kJ{a b:List Int}(h:AI a=AI b):a=b:=(Zd (λx y e=>by simpa using e)).1 h
def aBa(x y:Sc×Bool×List Int×Nat)(e:jP x=jP y):x=y:=by
 grind [jP,aGp,kJ]
def Tc(p:Sc×Bool×List Int×Nat):D:= .tup [.agg (Hg (Bf p.1 p.2.2.1 p.2.2.2).1),.slice (decide ((Bf p.1 p.2.2.1 p.2.2.2).2.1=[])) [] (AI (Bf p.1 p.2.2.1 p.2.2.2).2.1),.int .i64 (Bf p.1 p.2.2.1 p.2.2.2).2.2]
structure aVr (p:Sc×Bool×List Int×Nat):Prop where
 hl:p.1.rs.length<=1000
 hn:p.1.nl=true->p.1.rs=[]
 hs:p.2.2.1.length<=1000
 hk:p.2.2.2=280∨p.2.2.2=281∨p.2.2.2=282
def aFv:List D->Option D:=FX jP aVr Tc
def OW:List D->Option (List D):=λds=>match ds with|[.slice false _ xs]=>if xs.length<=100000∧aE xs 3=3∧(flat xs).all D.plain=true then some xs else none|_=>none
def aOx:(IG OW).ok Qe 316:=by
 unfold OW;refine aAR (S:=λ_=>none) A8 aCg (λds r h=>?_) (λds xs h=>?_)
 ·grind
 ·grind [eS,Ha.put]
def S5(l:List Rw):(flat (A9 l)).all D.plain=true:=by
 rw[QT];induction l with
 |nil=>intro x q;cases q
 |cons y r ih=>
  intro x q;have a:x∈[D.int .i64 y.1,.bool y.2.1,.bool y.2.2]++flat (A9 r):=q;rcases Zm.1 a with h|h
  ·simp only[QO,QV,or_false]at h;rcases h with rfl|rfl|rfl<;>rfl
  ·exact ih x h
def aOw{l:List Rw}{t:Id}{m:Ha}{fr:Id}(h:l.length<=1000):(IG OW).ex [.slice false t (A9 l)] m fr=some (.row fr l.length,[(fr,0,flat (A9 l))]):=by
 have e:OW [.slice false [] ((A9 l).map D.un)]=some (A9 l):=by
  have:(A9 l).map D.un=A9 l:=by rw[A9,QR];exact Q3 λ_ _=>rfl
  rw[this];exact if_pos ⟨XF,Ll l,S5 l⟩
 have v:OW ([D.slice false t (A9 l)].map D.un)=some (A9 l):=if_pos ⟨XF,Ll l,S5 l⟩;simp only[IG];refine(if_pos rfl).trans ?_;rw[v,Qv,AP]
def F7(m:Ha)(i:Id)(l:List Rw):Prop:=∀k x,l[k]?=some x->Ag m i (k*3) 3=some [.int .i64 x.1,.bool x.2.1,.bool x.2.2]
def Sv{m:Ha}{i:Id}{o:Nat}{a b c:D}:Ag m i o 3=some [a,b,c]↔(m i o=some a∧m i (o+1)=some b∧m i (o+2)=some c):=by
 simp only[Ag];cases m i o<;>cases m i (o+1)<;>cases m i (o+1+1)<;>simp
def bF{m:Ha}{i:Id}:∀{l:List Rw} {p:Nat},(∀k x,l[k]?=some x->Ag m i (p+k*3) 3=some [.int .i64 x.1,.bool x.2.1,.bool x.2.2])->∀(j:Nat) d,(flat (A9 l))[j]?=some d->m i (p+j)=some d
 |[],p,_,j,d,h=>by simp[A9,Vd.flat]at h
 |x::r,p,hr,j,d,h=>by
  have f:([D.int .i64 x.1,.bool x.2.1,.bool x.2.2]++Vd.flat (A9 r))[j]?=some d:=h;obtain⟨a,a1,b⟩:=Sv.1 (hr 0 x rfl);simp only[Nat.zero_mul,Za]at a a1 b
  match j,f with
  |0,f=>simp only[Q0,Qo,Ql]at f;subst f;exact a
  |1,f=>simp only[Q0,Qw,Qo,Ql]at f;subst f;exact a1
  |2,f=>simp only[Q0,Qw,Qo,Ql]at f;subst f;exact b
  |j+3,f=>
   have:=bF (p:=p+3) (l:=r) (λk y s=>by
    have:=hr (k+1) y XT;rw[show p+(k+1)*3=p+3+k*3 by omega]at this;exact this) j d (by simpa using f)
   rw[show p+3+j=p+(j+3)by omega]at this;exact this
def F7.of{m:Ha}{i:Id}:∀{l:List Rw} {p:Nat},(∀(j:Nat) d,(flat (A9 l))[j]?=some d->m i (p+j)=some d)->∀k x,l[k]?=some x->Ag m i (p+k*3) 3=some [.int .i64 x.1,.bool x.2.1,.bool x.2.2]
 |[],p,_,k,x,h=>Xd
 |y::r,p,hr,k,x,h=>by
  match k,h with
  |0,h=>
   simp only[Qo,Ql]at h;subst h;exact Sv.2 ⟨by simpa using hr 0 _ rfl,by simpa using hr 1 _ rfl,by simpa using hr 2 _ rfl⟩
  |k+1,h=>
   have:=F7.of (p:=p+3) (l:=r) (λj d q=>by
    have:=hr (j+3) d q;rw[show p+(j+3)=p+3+j by omega]at this;exact this) k x Xo
   rw[show p+3+k*3=p+(k+1)*3 by omega]at this;exact this
def F7.set{m:Ha}{i:Id}{A B:List Rw}{x y:Rw}(h:F7 m i (A++x::B)):F7 (m.put i (A.length*3) [.int .i64 y.1,.bool y.2.1,.bool y.2.2]) i (A++y::B):=by
 intro k z j;by_cases s:k=A.length
 ·subst s;rw[Ze (QB _),Zu,Qo,Ql]at j;subst j;refine Sv.2 ⟨?_,?_,?_⟩<;>simp[Ha.put]
 ·have ta:(A++x::B)[k]?=some z:=by
   rcases Nat.lt_or_gt_of_ne s with h1|h1
   ·grind
   ·grind
  obtain⟨a,a1,b⟩:=Sv.1 (h k z ta);have g:∀o,(o=k*3∨o=k*3+1∨o=k*3+2)->(m.put i (A.length*3) [.int .i64 y.1,.bool y.2.1,.bool y.2.2]) i o=m i o:=λo g=>by
   refine aC ?_;simp only[Qg,Qm];omega
  exact Sv.2 ⟨by rw[g _ (.inl rfl)];exact a,by rw[g _ (.inr (.inl rfl))];exact a1,by rw[g _ (.inr (.inr rfl))];exact b⟩
def F7.other{m:Ha}{i j:Id}{o:Nat}{ds:List D}{l:List Rw}(h:F7 m i l)(t:i≠j):F7 (m.put j o ds) i l:=λk x s=>by
 obtain⟨a,a1,b⟩:=Sv.1 (h k x s);exact Sv.2 ⟨by rw[aA t];exact a,by rw[aA t];exact a1,by rw[aA t];exact b⟩
def F7.grow{m:Ha}{i f t:Id}{e:Nat}{nl:Bool}{xs:List D}{l:List Rw}(h:F7 m i l)(u:i≠f)(y:nl=false->i≠t):F7 (Hf.app m (Bh e f (.slice nl t xs))) i l:=by
 cases nl with
 |true=>exact h.other u
 |false=>exact(h.other (y rfl)).other u
def LG.row{b e c r o:Nat}{m0 m:Ha}{nl:Bool}{t:Id}{ds:List D}(h:LG b m0 e m c nl t)(j:b<=r)(p:nl=false->t≠[r]):LG b m0 e (m.put [r] o ds) c nl t:=by
 obtain⟨u,y,i⟩:=h;refine⟨λq o' v=>?_,?_,i⟩
 ·grind [aA]
 ·grind [aA]
def iY{m:Ha}{i:Id}{o:Nat}{a b c:D}(h:Ag m i o 3=some [a,b,c]):m i o=some a∧m i (o+1)=some b∧m i (o+1+1)=some c:=Sv.1 h
def aOn{i:Id}{n:Nat}:D.data (.row i n)=true:=rfl
def aOo{i:Id}{n:Nat}:D.cells (.row i n)=[.row i n]:=rfl
def aAW:Kq aFv 279:=by
 have hS:G8.ok Qe (Ar [(25,Ac Iq),(273,Ac R8),(316,IG OW),(318,Ac SJ),(280,Ac SM),(281,Ac SL),(282,Ac SK)]):=Aa OE (Aa aKx (Aa aOx (Aa aTK (Aa aT4 (Aa aT3 (Aa aT2 Ad))))));have o:Ar [(25,Ac Iq),(273,Ac R8),(316,IG OW),(318,Ac SJ),(280,Ac SM),(281,Ac SL),(282,Ac SK)] 25=some (Ac Iq):=rfl;have w:Ar [(25,Ac Iq),(273,Ac R8),(316,IG OW),(318,Ac SJ),(280,Ac SM),(281,Ac SL),(282,Ac SK)] 273=some (Ac R8):=rfl;have ca:Ar [(25,Ac Iq),(273,Ac R8),(316,IG OW),(318,Ac SJ),(280,Ac SM),(281,Ac SL),(282,Ac SK)] 316=some (IG OW):=rfl;have b:Ar [(25,Ac Iq),(273,Ac R8),(316,IG OW),(318,Ac SJ),(280,Ac SM),(281,Ac SL),(282,Ac SK)] 318=some (Ac SJ):=rfl;have sk:∀k,k=280∨k=281∨k=282->∃F,Ar [(25,Ac Iq),(273,Ac R8),(316,IG OW),(318,Ac SJ),(280,Ac SM),(281,Ac SL),(282,Ac SK)] k=some (Ac F)∧∀x:Rw,F [.agg [.int .i64 x.1,.bool x.2.1,.bool x.2.2]]=some (.agg [.int .i64 (lS k x).1,.bool (lS k x).2.1,.bool (lS k x).2.2]):=λk hk=>by
  rcases hk with rfl|rfl|rfl
  ·exact⟨SM,rfl,aIP⟩
  ·exact⟨SL,rfl,aIO⟩
  ·exact⟨SK,rfl,aIN⟩
 generalize Ar [(25,Ac Iq),(273,Ac R8),(316,IG OW),(318,Ac SJ),(280,Ac SM),(281,Ac SL),(282,Ac SK)]=S at hS o w ca b sk;refine aCb hS (Aj func279:Fn Qe 279 72 aLX [.cell (some 4) 6,.t 7,.t 8]) (λ_=>by simp[jP]) (λp hp=>⟨by rfl,?_⟩);obtain⟨s,bn,ns,k⟩:=p;obtain⟨hl,hn,hs,hk⟩:=hp;simp only at hl hn hs hk;obtain⟨F,sF,hF⟩:=sk k hk;have aa:=FR s 6 false hl;have q:=rR;unfold aLX jP Tc Bf;simp only;unfold Ss at aa;cases hb:BU s 6 with
 |true=>
  rw[hb]at aa;simp only[if_true]at aa ⊢;unfold Hg at aa ⊢;simp only[↓C2,G9,G7,simprocAttr,Ab o,aa,Ab w,q];refine A1 ?_;simp only[↓C2,G9,G7,simprocAttr];exact .inr ⟨_,_,rfl,rfl,.inl (.inl rfl),.inl (.inl rfl),.inl (.inl rfl),trivial⟩
 |false=>
  rw[hb]at aa;simp only[if_false,Qs]at aa ⊢;by_cases hz:s.rs=[]
  ·have ta:((s.rs.length:Int)=0)=True:=eq_true (by rw[hz];rfl);simp only[if_pos hz];unfold Hg at aa ⊢;simp only[↓C2,G9,G7,simprocAttr,Ab o,aa,Ab w,q];refine A1 ?_;simp only[↓C2,G9,G7,simprocAttr,AP,ta];exact .inr ⟨_,_,rfl,rfl,.inl (.inl rfl),.inl (.inl rfl),.inl (.inl rfl),trivial⟩
  ·have ua:0<s.rs.length:=by
    rcases Nat.eq_zero_or_pos s.rs.length with h|h
    ·simp_all
    ·exact h
   have ta:((s.rs.length:Int)=0)=False:=eq_false O;have va:s.nl=false:=by
    simp_all
   have ra:=λ(m:Ha)(fr:Id)=>aOw (l:=s.rs) (t:=[]) (m:=m) (fr:=fr) hl
   simp only[if_neg hz];unfold Hg at aa ⊢;simp only[va]at aa ⊢;simp only[↓C2,G9,G7,simprocAttr,Ab o,aa,Ab w,q];refine A1 ?_;simp only[↓C2,G9,G7,simprocAttr,AP,ta,AE ca,ra];have ya:F7 (Ha.put (λ_ _=>none) [14] 0 (flat (A9 s.rs))) [14] s.rs:=λk x hk=>by
    have:=F7.of (m:=Ha.put (λ_ _=>none) [14] 0 (flat (A9 s.rs))) (i:=[14]) (p:=0) (l:=s.rs) (λj d hj=>by
     have fa:=(QQ.1 hj).1;rw[aD fa,hj]) k x hk
    rwa [Qp]at this
   refine BO (n:=s.rs.length) (I:=λj st=>st.s 27= .row [14] s.rs.length∧st.s 28= .int .i64 s.rs.length∧st.s 29= .int .i64 (j:Int)∧st.s 9= .row [14] s.rs.length∧st.s 1= .slice bn [] (AI ns)∧st.s 2= .fn k []∧st.s 3= .ptr [0] 0∧st.s 6= .ptr [1] 0∧∃A B nl t,A.length=j∧A++DT ns k s.rs.length j (s.rs.drop j)=DT ns k s.rs.length 0 s.rs∧B++CG ns s.rs.length j (s.rs.drop j)=CG ns s.rs.length 0 s.rs∧st.s 10= .slice nl t (AI B)∧nl=decide (B=[])∧F7 st.m [14] (A++s.rs.drop j)∧15<=st.c∧(nl=false->t≠[14])∧LG 14 _ 3 st.m st.c nl t) (λj hj ih st g hI=>?_) (λst g hI=>?_) 0 (Qu _) _ _ ⟨rfl,rfl,rfl,rfl,rfl,rfl,rfl,rfl,[],[],true,[],rfl,rfl,rfl,rfl,rfl,?_,Xa,U,LG.start Xa⟩
   rotate_left 2
   ·intro k x hk;obtain⟨a0,a1,a2⟩:=Sv.1 (ya k x hk);have sa:k*3+2<(flat (A9 s.rs)).length:=by
     grind [flat,A9,aC]
    refine Sv.2 ⟨?_,?_,?_⟩
    ·rw[←a0];simp[Ha.put]
    ·rw[←a1];simp[Ha.put]
    ·rw[←a2];simp[Ha.put]
   ·obtain⟨ma,ia,ea⟩:=st;obtain⟨ha,f,u,h9,h1,h2,h3,h6,A,B,nl,t,v,hA,hB,la,pa,hR,hc,ht,hG⟩:=hI;simp only at ha f u h9 h1 h2 h3 h6 la hR hc hG;refine Af Vx.eq_1 ?_;have da:((j:Int)<s.rs.length):=by omega
    have oa:=nJ (j:=j);have za:((j:Int)<((s.rs.length:Nat):Int)):=O
    have hw:=wJ (j:=j) O;have xa:IntKind.i64.wrap ((s.rs.length:Int)-1)=(s.rs.length:Int)-1:=Hy O O;have hd:s.rs.drop j=s.rs[j]::s.rs.drop (j+1):=QJ hj;rw[hd]at hA hB hR;generalize s.rs[j]=x at hA hB hR;have ba:Ag ia [14] (j*3) 3=some [.int .i64 x.1,.bool x.2.1,.bool x.2.2]:=hR j x (by rw[Ze O,v,Zu];rfl);have a:=aIu (nl:=bn) (l:=ns) x.1 hs;have qa:(AI B).length<=100000:=by
     have h1:=congrArg ZI hB;have h2:∀(l:List Rw)(j:Nat),(CG ns s.rs.length j l).length<=l.length:=λl=>by
      induction l with
      |nil=>intro j;simp[CG]
      |cons y r ih=>intro j;unfold CG;split<;>have:=ih (j+1)<;>simp only[Qg]<;>omega
     have h3:=h2 s.rs 0;rw[Qq]at h1;rw[HE];omega
    have bb:B.length<=100000:=by rw[←HE];exact qa
    have ja:nl=true->AI B=[]:=by rw[pa];intro h;rw[of_decide_eq_true h];rfl
    have e1:DT ns k s.rs.length j (x::s.rs.drop (j+1))=(if GS ns s.rs.length j x=true then lS k x else x)::DT ns k s.rs.length (j+1) (s.rs.drop (j+1)):=rfl;have e2:CG ns s.rs.length j (x::s.rs.drop (j+1))=if GS ns s.rs.length j x=true then x.1::CG ns s.rs.length (j+1) (s.rs.drop (j+1))else CG ns s.rs.length (j+1) (s.rs.drop (j+1)):=rfl
    have na:AI (B++[x.1])=AI B++[.int .i64 x.1]:=by simp[AI]
    have ab:=hF x;subst v;generalize z:aHC ns x.1=cb at a;have h0:((ns.length:Int)=0)=(ns.isEmpty=true):=by cases ns<;>simp<;>omega
    have wa:(14=ea+1+3)=False:=eq_false O;have ga:(ea=10)=False:=eq_false O;have ka:((A.length:Int)=(s.rs.length:Int)-1)=(A.length+1=s.rs.length):=propext O;cases cb with
    |true=>
     cases hxd:x.2.2 with
     |true=>
      rw[hxd]at ba;obtain⟨a0,a1,a2⟩:=iY ba;have hh:GS ns s.rs.length A.length x=false:=by simp[GS,z,hxd]
      rw[hh,if_neg QK]at e1 e2;simp only[↓C2,G9,G7,simprocAttr,ha,f,u,h1,da,oa,Qh,a0,a1,a2,Ab b,a,hw];refine ih _ _ ⟨ha,f,rfl,h9,h1,h2,h3,h6,A++[x],B,nl,t,U,XD,X4,la,pa,?_,Xa,ht,X_⟩;rw[QH];exact(hR.other Xe).other Xe
     |false=>
      rw[hxd]at ba;obtain⟨a0,a1,a2⟩:=iY ba;rw[hxd]at ab;have hh:GS ns s.rs.length A.length x=true:=by simp[GS,z,hxd]
      rw[if_pos hh]at e1 e2;simp only[↓C2,G9,G7,simprocAttr,ha,f,u,h9,h1,h2,la,da,oa,Qh,a0,a1,a2,wa,ga,Ab b,a,HE,Ab sF,ab];refine Au.intro ⟨O,rfl,Y0⟩ ?_;rw[B8 ja,←na];simp only[↓C2,Hc,simprocAttr,u,hw];refine ih _ _ ⟨ha,f,rfl,h9,h1,h2,h3,h6,A++[lS k x],B++[x.1],false,_,U,XD,by rw[←hB,e2];simp,rfl,U,?_,Xa,Xe,Y1⟩;rw[QH]
      first|exact(F7.set ((hR.other Xe).other Xe)).grow Xe (λh e=>ht h e.symm)|exact((F7.set ((hR.other Xe).other Xe)).other Xe).grow Xe (λh e=>ht h e.symm)
    |false=>
     cases hle:ns.isEmpty with
     |false=>
      rw[hle]at h0;obtain⟨a0,a1,a2⟩:=iY ba;have hh:GS ns s.rs.length A.length x=false:=by simp[GS,z,hle]
      rw[hh,if_neg QK]at e1 e2;simp only[↓C2,G9,G7,simprocAttr,ha,f,u,h1,da,oa,Qh,a0,a1,a2,Ab b,a,HE,h0,hw];refine ih _ _ ⟨ha,f,rfl,h9,h1,h2,h3,h6,A++[x],B,nl,t,U,XD,X4,la,pa,?_,Xa,ht,X_⟩;rw[QH];exact(hR.other Xe).other Xe
     |true=>
      rw[hle]at h0;by_cases fa:A.length+1=s.rs.length
      ·rw[eq_true fa]at ka;cases hxd:x.2.2 with
       |true=>
        rw[hxd]at ba;obtain⟨a0,a1,a2⟩:=iY ba;have hh:GS ns s.rs.length A.length x=false:=by simp[GS,z,hle,fa,hxd]
        rw[hh,if_neg QK]at e1 e2;simp only[↓C2,G9,G7,simprocAttr,ha,f,u,h9,h1,da,oa,Qh,a0,a1,a2,Ab b,a,HE,h0,xa,ka,hw];refine ih _ _ ⟨ha,f,rfl,h9,h1,h2,h3,h6,A++[x],B,nl,t,U,XD,X4,la,pa,?_,Xa,ht,X_⟩;rw[QH];exact(hR.other Xe).other Xe
       |false=>
        rw[hxd]at ba;obtain⟨a0,a1,a2⟩:=iY ba;rw[hxd]at ab;have hh:GS ns s.rs.length A.length x=true:=by simp[GS,z,hle,fa,hxd]
        rw[if_pos hh]at e1 e2;simp only[↓C2,G9,G7,simprocAttr,ha,f,u,h9,h1,h2,la,da,oa,Qh,a0,a1,a2,wa,ga,Ab b,a,HE,Ab sF,ab,h0,xa,ka];refine Au.intro ⟨O,rfl,Y0⟩ ?_;rw[B8 ja,←na];simp only[↓C2,Hc,simprocAttr,u,hw];refine ih _ _ ⟨ha,f,rfl,h9,h1,h2,h3,h6,A++[lS k x],B++[x.1],false,_,U,XD,by rw[←hB,e2];simp,rfl,U,?_,Xa,Xe,Y1⟩;rw[QH]
        first|exact(F7.set ((hR.other Xe).other Xe)).grow Xe (λh e=>ht h e.symm)|exact((F7.set ((hR.other Xe).other Xe)).other Xe).grow Xe (λh e=>ht h e.symm)
      ·rw[eq_false fa]at ka;obtain⟨a0,a1,a2⟩:=iY ba;have hh:GS ns s.rs.length A.length x=false:=by simp[GS,z,hle,fa]
       rw[hh,if_neg QK]at e1 e2;simp only[↓C2,G9,G7,simprocAttr,ha,f,u,h9,h1,da,oa,Qh,a0,a1,a2,Ab b,a,HE,h0,xa,ka,hw];refine ih _ _ ⟨ha,f,rfl,h9,h1,h2,h3,h6,A++[x],B,nl,t,U,XD,X4,la,pa,?_,Xa,ht,X_⟩;rw[QH];exact(hR.other Xe).other Xe
   ·obtain⟨ma,ia,ea⟩:=st;obtain⟨ha,f,u,h9,h1,h2,h3,h6,A,B,nl,t,v,hA,hB,la,pa,hR,hc,ht,hG⟩:=hI;simp only at ha f u h9 h1 h2 h3 h6 la hR hc hG;refine Af Vx.eq_1 ?_;have m0:∀k,ia [0] k=_:=λk=>hG.low 0 k O
    have m1:∀k,ia [1] k=_:=λk=>hG.low 1 k O
    rw[Q1,DT,QI]at hA;rw[Q1,CG,QI]at hB;rw[Q1,QI,hA]at hR;subst pa hB;simp only[↓C2,G9,G7,simprocAttr,f,u,h9,la,h3,h6,Qz,m0,m1,aOn,aOo];refine .inr ⟨_,_,rfl,rfl,.inr ⟨_,_,rfl,rfl,.inl rfl,.inl rfl,.inl rfl,.inr (.inl ⟨[14],A9 (DT ns k s.rs.length 0 s.rs),3,?_,rfl,?_,?_⟩),trivial⟩,.inl (.inl rfl),.inl (.inl rfl),trivial⟩
    ·rw[AP,Nw]
    ·intro x hx;obtain⟨y,_,rfl⟩:=QL.1 hx;exact⟨rfl,rfl⟩
    ·intro j x hx;have:=bF (m:=ia) (i:=[14]) (p:=0) (l:=DT ns k s.rs.length 0 s.rs) (λk x hk=>by rw[Qp];exact hR k x hk) j x hx;rw[Qp]at this;rw[←this];simp[Ha.put]
def V9(s:Sc)(y:Bool)(ns:List Int)(k:Nat)(h:aVr (s,y,ns,k)):aFv [.agg (Hg s),.slice y [] (AI ns),.fn k []]=some (Tc (s,y,ns,k)):=B3 (mk:=jP) (a:=(s,y,ns,k)) aBa h
def aVI:=Ar [(279,Ac aFv)]
def aI7:=RF aVI aML [.cell (some 4) 4,.t 5] 18
def aUh:Kq aI7 226:=Ap (Aj func226) (Aa aAW Ad)
def aI6(s:Sc)(y:Bool)(ns:List Int)(hl:s.rs.length<=1000)(g:s.nl=true->s.rs=[])(i:ns.length<=1000):aI7 [.agg (Hg s),.slice y [] (AI ns)]=some (.tup [.agg (Hg (Bf s ns 280).1),.int .i64 (Bf s ns 280).2.2]):=by
 refine Al (Qa rfl) ?_;unfold aML;have a:=V9 s y ns 280 ⟨hl,g,i,U⟩;unfold Tc at a;simp only at a;generalize Bf s ns 280=r at *;unfold Hg at *;simp only[↓C2,G9,G7,simprocAttr,Ae aVI 279,a]
 all_goals exact Y6
def aVH:=Ar [(279,Ac aFv)]
def aI5:=RF aVH aMK [.cell (some 4) 4,.t 5] 18
def aUg:Kq aI5 227:=Ap (Aj func227) (Aa aAW Ad)
def aI4(s:Sc)(y:Bool)(ns:List Int)(hl:s.rs.length<=1000)(g:s.nl=true->s.rs=[])(i:ns.length<=1000):aI5 [.agg (Hg s),.slice y [] (AI ns)]=some (.tup [.agg (Hg (Bf s ns 281).1),.int .i64 (Bf s ns 281).2.2]):=by
 refine Al (Qa rfl) ?_;unfold aMK;have a:=V9 s y ns 281 ⟨hl,g,i,U⟩;unfold Tc at a;simp only at a;generalize Bf s ns 281=r at *;unfold Hg at *;simp only[↓C2,G9,G7,simprocAttr,Ae aVH 279,a]
 all_goals exact Y6
def aVG:=Ar [(279,Ac aFv)]
def aI3:=RF aVG aMJ [.cell (some 4) 4,.t 5,.t 6] 13
def aUf:Kq aI3 228:=Ap (Aj func228) (Aa aAW Ad)
def aI2(s:Sc)(y:Bool)(ns:List Int)(hl:s.rs.length<=1000)(g:s.nl=true->s.rs=[])(i:ns.length<=1000):aI3 [.agg (Hg s),.slice y [] (AI ns)]=some (.tup [.agg (Hg (Bf s ns 282).1),.slice (decide ((Bf s ns 282).2.1=[])) [] (AI (Bf s ns 282).2.1),.int .i64 (Bf s ns 282).2.2]):=by
 refine Al (Qa rfl) ?_;unfold aMJ;have a:=V9 s y ns 282 ⟨hl,g,i,U⟩;unfold Tc at a;simp only at a;generalize Bf s ns 282=r at *;unfold Hg at *;simp only[↓C2,G9,G7,simprocAttr,Ae aVG 279,a]
 all_goals exact Y6
def DP(b:Bool):Int:=if b=true then 1 else 0
def eY(l:List Int):List D:=l.map (.int .u8)
def N5(l:List Int):Bs:=l.map λn=>UInt8.ofNat n.toNat
def aDM(l:List Int):(eY l).length=l.length:=Qy ..
def rB:∀l:List Int,BG (eY l)=some (N5 l)
 |[]=>rfl
 |n::r=>by
  show(BG (eY r)).map _=_;rw[rB r];rfl
def iU(x:Rw):List Int:=[IntKind.u8.wrap x.1,bits .or .u8 (DP x.2.1) (IntKind.u8.wrap (DP x.2.2*2))]
def FA:List Rw->List Int
 |[]=>[]
 |x::r=>iU x++FA r
theorem rowsI_len:∀l:List Rw,(FA l).length=2*l.length
 |[]=>rfl
 |x::r=>by simp[FA,iU,rowsI_len r];omega
def BS(s:Sc):Bs:=if BU s 6=true then []else N5 ([IntKind.u8.wrap s.mx,DP s.cas,IntKind.u8.wrap s.la,IntKind.u8.wrap s.rs.length]++FA s.rs)
def aJ4(s:Sc):Int:=if BU s 6=true then 2 else 0
def aXk:=Ar []
def aQB:=RF aXk aLa [.t 2] 4
def aTC:Kq aQB 342:=Ap (Aj func342) Ad
def aIn(b:Bool):aQB [.bool b]=some (.int .u8 (DP b)):=by
 refine Al (Qa rfl) ?_;unfold aLa;cases b with
 |true=>
  simp only[↓C2,Hc,H_,G7,simprocAttr]
  all_goals exact Y6
 |false=>
  simp only[↓C2,Hc,H_,G7,simprocAttr]
  all_goals exact Y6
def mR:=Ar [(25,Ac Iq),(57,Ac aIy),(342,Ac aQB)]
def aQH:=RF mR aLo [.t 2,.t 3] 49
def aTL:Kq aQH 317:=Ap (Aj func317) (Aa OE (Aa aKr (Aa aTC Ad)))
def aIv(s:Sc)(hl:s.rs.length<=1000):aQH [.agg (Hg s)]=some (.tup [.str (BS s),.int .i64 (aJ4 s)]):=by
 refine Al (Qa rfl) ?_;unfold aLo;have z:=FR s 6 false hl;have i:=rL;have b:=aIn;unfold BS aJ4;unfold Ss at z;unfold Hg at *;cases hb:BU s 6 with
 |true=>
  rw[hb]at z;simp only[if_true]at z;simp only[↓C2,G9,G7,simprocAttr,Ae mR 25,z,Ae mR 57,i];refine A1 ?_;simp only[↓C2,G9,G7,simprocAttr]
  all_goals exact Y6
 |false=>
  rw[hb]at z;simp only[if_false,Qs]at z;simp only[↓C2,G9,G7,simprocAttr,Ae mR 25,z,Ae mR 57,i];refine A1 ?_;simp only[↓C2,G9,G7,simprocAttr,Ae mR 342,b,AP];refine A1 ?_;simp only[↓C2,G9,G7,simprocAttr,AP];refine BO (n:=s.rs.length) (I:=λj v=>v.s 26= .slice s.nl [] (A9 s.rs)∧v.s 27= .int .i64 s.rs.length∧v.s 28= .int .i64 (j:Int)∧∃B t,B.length=4+2*j∧B++FA (s.rs.drop j)=[IntKind.u8.wrap s.mx,DP s.cas,IntKind.u8.wrap s.la,IntKind.u8.wrap s.rs.length]++FA s.rs∧v.s 4= .slice false t (eY B)∧LG 1 _ 5 v.m v.c false t) (λj q ih v g hI=>?_) (λv g hI=>?_) 0 (Qu _) _ _ ⟨rfl,rfl,rfl,_,_,rfl,rfl,rfl,⟨λ_ _ _=>rfl,.inr ⟨_,rfl,O,Xa,by simp[Ha.put,Hf.app]⟩,Xa⟩⟩
  ·obtain⟨ma,o,k⟩:=v;obtain⟨d,r,f,B,t,w,hB,e,hG⟩:=hI;simp only at d r f e hG;refine Af Vs.eq_1 ?_;have u:((j:Int)<s.rs.length):=by omega
   have oa:=nJ (j:=j);have hw:=wJ (j:=j) O;have ka:=EF q;have p:s.rs.drop j=s.rs[j]::s.rs.drop (j+1):=QJ q;rw[p]at hB;generalize s.rs[j]=x at ka hB;have na:eY B++[.int .u8 (IntKind.u8.wrap x.1),.int .u8 (bits .or .u8 (DP x.2.1) (IntKind.u8.wrap (DP x.2.2*2)))]=eY (B++iU x):=by simp[eY,iU]
   have y:∀a:Int,AQ .shl (.int .u8 a) (.int .u64 1)=some (.int .u8 (IntKind.u8.wrap (a*2))):=λa=>rfl
   have ja:(eY B).length=4+2*j:=by rw[aDM];exact w
   simp only[↓C2,G9,G7,simprocAttr,d,r,f,e,u,oa,Qh,ka,Ae mR 342,b,y];refine Au.intro ⟨by simp only[ja];omega,rfl,Yy⟩ ?_;rw[na];simp only[↓C2,G9,G7,simprocAttr];refine A1 ?_;simp only[↓C2,Hc,simprocAttr,f,hw];exact ih _ _ ⟨d,r,rfl,_,_,by rw[Qq,w];simp[iU];omega,by rw[←hB,FA,QH],rfl,(by first|exact LG.nil (hG.appf O Xa)|exact LG.nil (hG.put.appf O Xa)|exact LG.nil (hG.put.put.appf O Xa)|exact LG.nil (hG.put.put.put.appf O Xa)|exact LG.nil (hG.put.put.put.put.appf O Xa)|exact LG.nil (hG.put.put.put.put.put.appf O Xa))⟩
  ·obtain⟨d,r,f,B,t,w,hB,e,hG⟩:=hI;refine Af Vs.eq_1 ?_;rw[Q1,FA,QI]at hB;subst hB;simp only[↓C2,G9,G7,simprocAttr,r,f,e,Qz,rB]
   all_goals exact Y6
def aLc:=y0 f111 [] []
def aLb:=y0 f112 [] []
def aK7:=y0 f175 [] []
def aK6:=y0 f176 [] []
def Vq:=y1 f110 9 [] []
def aLd:=y0 f110 [] [(9,Vq)]
def aCG:=y0 f55 [] []
def aLs:=y0 f56 [] []
def VA:=y1 f24 7 [] []
def aL6:=y0 f24 [(15,[(7,6)])] [(7,VA)]
def Vu:=y1 f179 4 [] []
def aLM:=y0 f179 [] [(4,Vu)]
def Vr:=y1 f244 4 [] []
def aLh:=y0 f244 [] [(4,Vr)]
def aLL:=y0 f180 [] []
def aMA:=y0 f116 [] []
def aMz:=y0 f117 [] []
def O6(s:Bs)(p:Nat)(e:Int):List D:=[.str s,.int .i64 (p:Int),.int .i64 e]
def or0:∀n:Fin 256,bits .or .u64 0 ((n.val:Nat):Int)=n.val:=V
def aWv(x:UInt8):bits .or .u64 0 (x.toNat:Int)=x.toNat:=or0 ⟨x.toNat,x.toNat_lt⟩
def BB(s:Bs)(p:Nat)(e:Int):Int×Nat×Int:=if e≠0 then(0,p,e)else if h:p<s.length then(s[p].toNat,p+1,0)else(0,p,3)
def aXm:=Ar []
def aIp:=RF aXm aLc [.t 2] 14
def aKq:Kq aIp 111:=Ap (Aj func111) Ad
def rK(s:Bs)(p:Nat)(e:Int)(c:p<=s.length):aIp [.agg (O6 s p e)]=some (.bool true):=by
 refine Al (Qa rfl) ?_;unfold aLc;have u:(0:Int)<=(p:Int):=O
 have y:(p:Int)<=(s.length:Int):=O
 unfold O6;simp only[↓C2,G9,G7,reduceIte,Qb,Qd,Qr,u,y]
 all_goals exact Y6
def aXl:=Ar []
def aIo:=RF aXl aLb [.t 2] 9
def aKp:Kq aIo 112:=Ap (Aj func112) Ad
def rJ(s:Bs)(p:Nat)(e:Int)(hl:s.length<=1000000)(c:p<=s.length):aIo [.agg (O6 s p e)]=some (.int .i64 ((s.length-p:Nat):Int)):=by
 refine Al (Qa rfl) ?_;unfold aLb;have f:IntKind.i64.wrap ((s.length:Int)-(p:Int))=((s.length-p:Nat):Int):=Xh
 unfold O6;simp only[↓C2,G9,G7,reduceIte,Qb,Qd,Qr,f]
 all_goals exact Y6
def aXi:=Ar []
def aQz:=RF aXi aK7 [.t 2] 9
def aTz:Kq aQz 175:=Ap (Aj func175) Ad
def aIl:aQz [.int .i64 1]=some (.bool true):=by
 refine Al (Qa rfl) ?_;unfold aK7;simp only[↓C2,G9,G7,reduceIte,Qb,Qd,reduceCtorEq,Int.reduceLE]
 all_goals exact Y6
def aXh:=Ar []
def aQy:=RF aXh aK6 [.cell (some 3) 4] 8
def aTy:Kq aQy 176:=Ap (Aj func176) Ad
def aIk(s:Bs)(p:Nat)(e x:Int):aQy [.agg (O6 s p e),.int .i64 x]=some (.agg (O6 s p x)):=by
 refine Al (Qa rfl) ?_;unfold aK6;unfold O6;simp only[↓C2,G9,G7,reduceIte,Qb,Qd,Qr,Qt,QE]
 all_goals exact Y6
def fV:=Ar [(111,Ac aIp),(175,Ac aQz),(176,Ac aQy),(112,Ac aIo)]
def aQC:=RF fV aLd [.t 4,.cell (some 3) 5] 60
def aTD:Kq aQC 110:=Ap (Aj func110) (Aa aKq (Aa aTz (Aa aTy (Aa aKp Ad))))
def aIq(s:Bs)(p:Nat)(e:Int)(hl:s.length<=1000000)(k:p<=s.length):aQC [.agg (O6 s p e),.int .i64 1]=some (.tup [.int .u64 (BB s p e).1,.agg (O6 s (BB s p e).2.1 (BB s p e).2.2)]):=by
 refine Al (Qa rfl) ?_;unfold aLd;have a:=rK s p e k;have b:=rJ s p e hl k;have d:=aIl;have f:=λx=>aIk s p e x
 unfold BB O6 at *;by_cases c1:e=0
 ·subst c1;by_cases n:p<s.length
  ·have r:(((s.length-p:Nat):Int)<1)=False:=eq_false O;have t:IntKind.i64.wrap ((p:Int)+1)=((p+1:Nat):Int):=Hy O O;have u:((0:Int)<=((p+1:Nat):Int)∧((p+1:Nat):Int)<=((s.length:Nat):Int))=True:=eq_true O;have w:((0:Int)<=(p:Int)∧(p:Int)<=((p+1:Nat):Int))=True:=eq_true O;have c:(s.drop p).take (p+1-p)=[s[p]]:=by rw[QJ n,show p+1-p=1 by omega];rfl
   have y:AH [s[p]]=[.int .u8 (s[p].toNat:Int)]:=rfl;have v:AQ .shl (.int .u64 0) (.int .u64 8)=some (.int .u64 0):=rfl;have q:=aWv s[p];have z:IntKind.u64.wrap (s[p].toNat:Int)=(s[p].toNat:Int):=SU O (by have:=s[p].toNat_lt;omega);have o:IntKind.i64.wrap ((0:Int)+1)=1:=rfl;simp only[ne_eq,not_true_eq_false,if_false,dif_pos n];generalize s[p]=x at *;simp only[↓C2,G9,G7,reduceIte,Qb,Qd,Qr,reduceCtorEq,Ae fV 111,a,Ae fV 112,b,Ae fV 175,d,r,t,u,w,Qh,c,y];refine Af Vq.eq_1 ?_;simp only[↓C2,G9,G7,reduceIte,Qb,Qd,v,q,z,o,Int.toNat_zero,c,Int.zero_lt_one,Zr,ZA];refine Af Vq.eq_1 ?_;simp only[↓C2,G9,G7,simprocAttr,Qz,t]
   repeat refine A1 ?_
   simp only[↓C2,G9,G7,reduceIte,Qb,Qd,Qr,Qt,QE]
   all_goals exact Y6
  ·have r:(((s.length-p:Nat):Int)<1)=True:=eq_true O;simp only[ne_eq,not_true_eq_false,if_false,dif_neg n];simp only[↓C2,G9,G7,reduceIte,Qb,Qd,Qr,reduceCtorEq,Ae fV 111,a,Ae fV 112,b,Ae fV 175,d,Ae fV 176,f,r]
   all_goals exact Y6
 ·have j:(e=0)=False:=eq_false c1;simp only[ne_eq,j,not_false_eq_true,if_true];simp only[↓C2,G9,G7,reduceIte,Qb,Qd,Qr,reduceCtorEq,j]
  repeat refine A1 ?_
  simp only[↓C2,G9,G7,reduceIte,Qb,Qd,Qr]
  all_goals exact Y6
def aEh:=Ar [(111,Ac aIp),(112,Ac aIo)]
def aIA:=RF aEh aLs [.t 2] 17
def aTO:Kq aIA 56:=Ap (Aj func56) (Aa aKq (Aa aKp Ad))
def aIz(s:Bs)(p:Nat)(e:Int)(hl:s.length<=1000000)(c:p<=s.length):aIA [.agg (O6 s p e)]=some (.int .i64 (if e≠0 then e else if p<s.length then 4 else 0)):=by
 refine Al (Qa rfl) ?_;unfold aLs;have a:=rK s p e c;have b:=rJ s p e hl c;unfold O6 at *;by_cases c1:e=0
 ·subst c1;have o:((0:Int)<((s.length-p:Nat):Int))=(p<s.length):=propext O;by_cases n:p<s.length
  ·simp only[↓C2,G9,G7,reduceIte,Qb,Qd,Qr,ZG,Ae aEh 111,a,Ae aEh 112,b,o,n]
   all_goals exact Y6
  ·simp only[↓C2,G9,G7,reduceIte,Qb,Qd,Qr,ZG,Ae aEh 111,a,Ae aEh 112,b,o,n]
   all_goals exact Y6
 ·have j:(e=0)=False:=eq_false c1;simp only[↓C2,G9,G7,reduceIte,Qb,Qd,Qr,j];simp[c1]
def EJ{s:Bs}{p:Nat}{e:Int}(c:p<=s.length):(BB s p e).2.1<=s.length∧0<=(BB s p e).1∧(BB s p e).1<256:=by
 unfold BB;split
 ·exact⟨c,U,U⟩
 ·split
  ·rename_i h;have:=s[p].toNat_lt;exact⟨h,Xe,Xe⟩
  ·exact⟨c,U,U⟩
def aVv:=Ar [(110,Ac aQC)]
def mZ:List D->List D->Option (D×List D):=RM aVv aCG [.t 2] 17 3
def aTP:(mQ 3 mZ).ok Qe 55:=aRZ (Aj func55:Fn Qe 55 17 aCG [.t 2]) V (Aa aTD Ad)
theorem O8{m:Ha}{i j:Id}{o:Nat}{ds:List D}(h:j≠i):∀{n p:Nat},Ag (m.put i o ds) j p n=Ag m j p n
 |0,p=>rfl
 |n+1,p=>by simp only[Ag,aA h,O8 h]
def aR2{i fr:Id}(h:∀k,(i=k::fr)=False)(m:Ha)(k o:Nat)(ys:List D)(p n:Nat):Ag (m.put (k::fr) o ys) i p n=Ag m i p n:=O8 (λe=>(h k).mp e)
def LE(s:Bs)(p:Nat)(e:Int)(hl:s.length<=1000000)(c:p<=s.length):mZ (O6 s p e) []=some (.int .i64 (BB s p e).1,O6 s (BB s p e).2.1 (BB s p e).2.2):=by
 refine aR0 V rfl (Qa rfl) (λi m fr na j f n0=>?_);have a:=aIq s p e hl c;obtain⟨_,u,w⟩:=EJ (e:=e) c;have t:IntKind.i64.wrap (BB s p e).1=(BB s p e).1:=Hy O O;generalize BB s p e=r at *;unfold O6 at *;obtain⟨k,a1,b⟩:=iY na;unfold aCG;simp only[↓C2,G9,G7,reduceIte,Qb,Qd,Qr,reduceCtorEq,k,a1,b,aR2 n0,n0,Ae aVv 110,a,t]
 first|exact Ft.own (bG j (bG j Ft.refl)) U|exact Ft.own (bG j Ft.refl) U
structure LX (ex:List Nat) (c0:Nat) (m0:Ha) (e:Nat) (m:Ha) (c:Nat) (nl:Bool) (t:Id):Prop where
 low:∀q o,q<c0->q∉ex->m [q] o=m0 [q] o
 tok:nl=true∨∃j,t=[j]∧c0<=j∧j<c∧m t 0=some (.tok (e+1))
 le:c0<=c
section
variable{ex:List Nat}{c0 e c c' c2 o q:Nat}{m0 m:Ha}{nl:Bool}{t:Id}{ds xs:List D}
def LX.start(h:c0<=c):LX ex c0 m0 e m0 c true t:=⟨λ_ _ _ _=>rfl,.inl rfl,h⟩
def LX.put(h:LX ex c0 m0 e m c nl t)(z:c<=c':=by omega):LX ex c0 m0 e (m.put [c'] o ds) c nl t:=by
 obtain⟨u,y,i⟩:=h;refine⟨λq o' v w=>?_,?_,i⟩
 ·grind [aA]
 ·grind [aA]
def LX.putx(h:LX ex c0 m0 e m c nl t)(v:q∈ex)(hl:q<c0):LX ex c0 m0 e (m.put [q] o ds) c nl t:=by
 obtain⟨u,y,i⟩:=h;refine⟨λg o' b w=>?_,?_,i⟩
 ·grind [aA]
 ·grind [aA]
def LX.more(h:LX ex c0 m0 e m c nl t)(z:c<=c'):LX ex c0 m0 e m c' nl t:=by
 obtain⟨u,h2,i⟩:=h;refine⟨u,?_,O⟩;rcases h2 with h2|⟨j,a,b,r,d⟩
 ·exact .inl h2
 ·grind
def LX.grow(h:LX ex c0 m0 e m c nl t):LK m e (.slice nl t xs):=by
 rcases h.tok with h|⟨j,rfl,_,_,d⟩
 ·exact .inl h
 ·exact .inr ⟨d,U⟩
def LX.app(h:LX ex c0 m0 e m c nl t)(z:c<=c')(y:c'<c2):LX ex c0 m0 e (Hf.app m (Bh e [c'] (.slice nl t xs))) c2 false [c']:=by
 obtain⟨u,p,i⟩:=h;refine⟨λq o v w=>?_,.inr ⟨c',rfl,O,y,?_⟩,O⟩
 ·grind [De]
 ·rw[De,if_pos ⟨rfl,rfl⟩]
def aV(h:LX ex c0 m0 e m c nl t)(z:c<=c')(v:q<c0):Hf.app m (Bh e [c'] (.slice nl t xs)) [q] o=m [q] o:=by
 obtain⟨u,p,i⟩:=h;rw[De,if_neg Xb];rcases p with rfl|⟨j,rfl,a,b,d⟩
 ·rw[if_neg U]
 ·rw[if_neg Xb]
end
def DG{m:Ha}{i:Id}{o:Nat}{d:D}:m.put i o [d] i o=some d:=XV
def Ik(s:Bs):Nat->Nat->Int->List Rw×Bool×Nat×Int
 |0,p,e=>([],false,p,e)
 |k+1,p,e=>(((BB s p e).1,decide (bits .and .i64 (BB s (BB s p e).2.1 (BB s p e).2.2).1 1≠0),decide (bits .and .i64 (BB s (BB s p e).2.1 (BB s p e).2.2).1 2≠0))::(Ik s k (BB s (BB s p e).2.1 (BB s p e).2.2).2.1 (BB s (BB s p e).2.1 (BB s p e).2.2).2.2).1,
   decide (3<(BB s (BB s p e).2.1 (BB s p e).2.2).1)||(Ik s k (BB s (BB s p e).2.1 (BB s p e).2.2).2.1 (BB s (BB s p e).2.1 (BB s p e).2.2).2.2).2.1,(Ik s k (BB s (BB s p e).2.1 (BB s p e).2.2).2.1 (BB s (BB s p e).2.1 (BB s p e).2.2).2.2).2.2)
def sc0:Sc:=⟨0,false,0,true,[]⟩
def L0(s:Bs):=BB s 0 0
def LI(s:Bs):=BB s (L0 s).2.1 (L0 s).2.2
def L_(s:Bs):=BB s (LI s).2.1 (LI s).2.2
def Gk(s:Bs):=BB s (L_ s).2.1 (L_ s).2.2
def Fm(s:Bs):=Ik s (Gk s).1.toNat (Gk s).2.1 (Gk s).2.2
def Um(s:Bs):Sc:=⟨(L0 s).1,decide ((LI s).1=1),(L_ s).1,decide ((Gk s).1.toNat=0),(Fm s).1⟩
def vT(n p:Nat)(e:Int):Int:=if e≠0 then e else if p<n then 4 else 0
def A_(s:Bs):Sc×Int:=if vT s.length (Fm s).2.2.1 (Fm s).2.2.2=3 then(sc0,3)else if vT s.length (Fm s).2.2.1 (Fm s).2.2.2≠0∨(decide (1<(LI s).1)||(Fm s).2.1)=true∨BU (Um s) 6=true then(sc0,4)else(Um s,0)
def nL{s:Bs}:∀{k p:Nat} {e:Int},p<=s.length->(Ik s k p e).2.2.1<=s.length
 |0,p,e,h=>h
 |k+1,p,e,h=>by
  show(Ik s k (BB s (BB s p e).2.1 (BB s p e).2.2).2.1 (BB s (BB s p e).2.1 (BB s p e).2.2).2.2).2.2.1<=_;exact nL (EJ (EJ h).1).1
def Ws{s:Bs}:∀{k p:Nat} {e:Int},(Ik s k p e).1.length=k
 |0,p,e=>rfl
 |k+1,p,e=>by simp[Ik,Ws]
def Nn:=Ar [(55,mQ 3 mZ),(56,Ac aIA),(57,Ac aIy),(25,Ac Iq)]
def aEq:=RF Nn aL6 [.cell (some 4) 2,.t 3] 77
def aKy:Kq aEq 24:=Ap (Aj func24) (Aa aTP (Aa aTO (Aa aKr (Aa OE Ad))))
def VZ(s:Bs)(hl:s.length<=1000000):aEq [.str s]=some (.tup [.agg (Hg (A_ s).1),.int .i64 (A_ s).2]):=by
 refine Al (Qa rfl) ?_;unfold aL6;have b1:(L0 s).2.1<=s.length∧0<=(L0 s).1∧(L0 s).1<256:=EJ (Qu _);have b2:(LI s).2.1<=s.length∧0<=(LI s).1∧(LI s).1<256:=EJ b1.1;have b3:(L_ s).2.1<=s.length∧0<=(L_ s).1∧(L_ s).1<256:=EJ b2.1;have b4:(Gk s).2.1<=s.length∧0<=(Gk s).1∧(Gk s).1<256:=EJ b3.1;have g1:mZ [.str s,.int .i64 0,.int .i64 0] []=some (.int .i64 (L0 s).1,O6 s (L0 s).2.1 (L0 s).2.2):=LE s 0 0 hl (Qu _);have g2:mZ (O6 s (L0 s).2.1 (L0 s).2.2) []=some (.int .i64 (LI s).1,O6 s (LI s).2.1 (LI s).2.2):=LE s _ _ hl b1.1;have g3:mZ (O6 s (LI s).2.1 (LI s).2.2) []=some (.int .i64 (L_ s).1,O6 s (L_ s).2.1 (L_ s).2.2):=LE s _ _ hl b2.1;have g4:mZ (O6 s (L_ s).2.1 (L_ s).2.2) []=some (.int .i64 (Gk s).1,O6 s (Gk s).2.1 (Gk s).2.2):=LE s _ _ hl b3.1;have hn:((Gk s).1.toNat:Int)=(Gk s).1:=Qx b4.2.1;have ga:(Fm s).2.2.1<=s.length:=nL b4.1;have sa:(Fm s).1.length=(Gk s).1.toNat:=Ws;have d:aIA [.agg [.str s,.int .i64 ((Fm s).2.2.1:Int),.int .i64 (Fm s).2.2.2]]=some (.int .i64 (vT s.length (Fm s).2.2.1 (Fm s).2.2.2)):=aIz s _ _ hl ga;have i:=rL;have aa:=FR (Um s) 6 false (by show(Fm s).1.length<=1000;omega);have hA:Fm s=Ik s (Gk s).1.toNat (Gk s).2.1 (Gk s).2.2:=rfl;unfold A_;unfold Ss at aa;unfold O6 at g1 g2 g3 g4;have hS:Um s=⟨(L0 s).1,decide ((LI s).1=1),(L_ s).1,decide ((Gk s).1.toNat=0),(Fm s).1⟩:=rfl;unfold Hg at aa ⊢;generalize BU (Um s) 6=w at *;generalize vT s.length (Fm s).2.2.1 (Fm s).2.2.2=en at *;rw[hS]at aa ⊢;clear hS;generalize Fm s=tot at *;generalize L0 s=n1 at *;generalize LI s=n2 at *;generalize L_ s=n3 at *;generalize Gk s=n4 at *;obtain⟨v4,p4,e4⟩:=n4;simp only at *;generalize ka:v4.toNat=n at *;rw[←hn]at g4;simp only[Hb,↓C2,G7,simprocAttr,AD Nn 55,U2,g1,g2,g3,g4];refine BO (n:=n) (I:=λj st=>st.s 28= .int .i64 (n:Int)∧st.s 29= .int .i64 (j:Int)∧st.s 4= .ptr [4] 0∧st.s 5= .ptr [9] 0∧st.s 2= .ptr [0] 0∧∃A od p e nl t,A.length=j∧p<=s.length∧A++(Ik s (n-j) p e).1=tot.1∧(od||(Ik s (n-j) p e).2.1)=(decide (1<n2.1)||tot.2.1)∧(Ik s (n-j) p e).2.2=tot.2.2∧st.s 7= .bool od∧(st.m [4] 0=some (.str s)∧st.m [4] 1=some (.int .i64 (p:Int))∧st.m [4] 2=some (.int .i64 e))∧(st.m [9] 0=some (.int .i64 n1.1)∧st.m [9] 1=some (.bool (decide (n2.1=1)))∧st.m [9] 2=some (.int .i64 n3.1)∧st.m [9] 3=some (.slice nl t (A9 A)))∧nl=decide (j=0)∧LX [4,9] 10 _ 80 st.m st.c nl t) (λj hj ih st g hI=>?_) (λst g hI=>?_) 0 (Qu _) _ _ ⟨rfl,rfl,rfl,rfl,rfl,[],decide (1<n2.1),p4,e4,true,[],rfl,b4.1,by rw[hA];rfl,by rw[hA];rfl,by rw[hA];rfl,rfl,?_,?_,rfl,LX.start Xa⟩
 rotate_left 2
 ·grind [Ha.put]
 ·simp_all [Ha.put,A9]
 ·obtain⟨ma,ia,ea⟩:=st;obtain⟨f,u,h4,h5,h2,A,od,p,e,nl,t,v,hp,l,r,fa,h7,⟨x0,x1,x2⟩,⟨y0,y1,y2,y3⟩,pa,hG⟩:=hI;simp only at f u h4 h5 h2 h7 x0 x1 x2 y0 y1 y2 y3 hG;refine Af VA.eq_1 ?_;have da:((j:Int)<n):=by omega
  have oa:=nJ (j:=j);have hw:=wJ (j:=j) O;have q1:=EJ (e:=e) hp;have k1:=LE s p e hl hp;have k2:=LE s _ (BB s p e).2.2 hl q1.1;have q2:=EJ (e:=(BB s p e).2.2) q1.1;have la:n-j=(n-(j+1))+1:=O
  rw[la]at l r fa;unfold Ik at l r fa;simp only at l r fa;generalize BB s p e=a at *;generalize BB s a.2.1 a.2.2=b at *;unfold O6 at k1 k2;have y:=(hG.putx (q:=4) (o:=0) (ds:=[.str s,.int .i64 (a.2.1:Int),.int .i64 a.2.2]) U O).putx (q:=4) (o:=0) (ds:=[.str s,.int .i64 (b.2.1:Int),.int .i64 b.2.2]) U O;have ja:nl=true->A9 A=[]:=by
   rw[pa];intro h;have:A=[]:=QW.1 (by rw[v];simpa using h);rw[this];rfl
  have na:A9 A++[.agg [.int .i64 a.1,.bool (decide (bits .and .i64 b.1 1≠0)),.bool (decide (bits .and .i64 b.1 2≠0))]]=A9 (A++[(a.1,decide (bits .and .i64 b.1 1≠0),decide (bits .and .i64 b.1 2≠0))]):=by simp[A9,rwD]
  have qa:(A9 A).length<256:=XF
  have ra:(9=4)=False:=U
  have ha:(4=9)=False:=U
  cases od with
  |true=>
   simp only[Hb,↓C2,G7,simprocAttr,f,u,da,h4,h5,h7,AD Nn 55,U2,x0,x1,x2,y3,k1,k2];refine Au.intro ⟨O,rfl,(LX.put y O).grow⟩ ?_;rw[B8 ja,na];have z:∀(c1 c2 k:Nat)(ds:List D)(xs:List D),ea<=c1->ea<=c2->∀q,q<10->Hf.app ((((ia.put [4] 0 [.str s,.int .i64 (a.2.1:Int),.int .i64 a.2.2]).put [4] 0 [.str s,.int .i64 (b.2.1:Int),.int .i64 b.2.2]).put [c1] 0 ds)) (Bh 80 [c2] (.slice nl t xs)) [q] k=((ia.put [4] 0 [.str s,.int .i64 (a.2.1:Int),.int .i64 a.2.2]).put [4] 0 [.str s,.int .i64 (b.2.1:Int),.int .i64 b.2.2]) [q] k:=λc1 c2 k ds xs e1 e2 q hq=>by
    have:=hG.le;rw[aV (LX.put y e1) e2 hq,aA Xb]
   have zz:=λ(c1 c2 k:Nat)(ds:List D)(xs:List D) e1 e2=>z c1 c2 k ds xs e1 e2 9 O
   have z4:=λ(c1 c2 k:Nat)(ds:List D)(xs:List D) e1 e2=>z c1 c2 k ds xs e1 e2 4 O
   have x:∀(c1 c2:Nat)(ds xs:List D),ea<=c1->ea<=c2->(Ag (Hf.app ((((ia.put [4] 0 [.str s,.int .i64 (a.2.1:Int),.int .i64 a.2.2]).put [4] 0 [.str s,.int .i64 (b.2.1:Int),.int .i64 b.2.2]).put [c1] 0 ds)) (Bh 80 [c2] (.slice nl t xs))) [9] 3 1).isSome=true:=λc1 c2 ds xs e1 e2=>by
    simp only[Ag,zz c1 c2 3 ds xs e1 e2];simp[Ha.put,y3]
   simp only[↓C2,G9,h5,simprocAttr,Qp];refine Au.intro (x _ _ _ _ O O) ?_;simp only[↓C2,Hc,simprocAttr,u,hw];refine ih _ _ ⟨f,rfl,h4,h5,h2,A++[(a.1,decide (bits .and .i64 b.1 1≠0),decide (bits .and .i64 b.1 2≠0))],true,b.2.1,b.2.2,false,_,by simp[v],q2.1,by rw[←l];simp,by rw[←r];simp[],fa,rfl,⟨?_,?_,?_⟩,⟨?_,?_,?_,?_⟩,U,LX.putx (LX.app (LX.put y O) O Xa) U O⟩
   ·simp only;rw[aA U,z4 _ _ _ _ _ O O];simp[Ha.put]
   ·simp only;rw[aA U,z4 _ _ _ _ _ O O];simp[Ha.put]
   ·simp only;rw[aA U,z4 _ _ _ _ _ O O];simp[Ha.put]
   ·simp only;rw[aC U,zz _ _ _ _ _ O O];simp[Ha.put,y0]
   ·simp only;rw[aC U,zz _ _ _ _ _ O O];simp[Ha.put,y1]
   ·simp only;rw[aC U,zz _ _ _ _ _ O O];simp[Ha.put,y2]
   ·simp only;rw[FL];exact DG
  |false=>
   by_cases c3:3<b.1
   ·simp only[Hb,↓C2,G7,simprocAttr,f,u,da,h4,h5,h7,AD Nn 55,U2,x0,x1,x2,y3,k1,k2,c3];refine Au.intro ⟨O,rfl,(LX.put y O).grow⟩ ?_;rw[B8 ja,na];have z:∀(c1 c2 k:Nat)(ds:List D)(xs:List D),ea<=c1->ea<=c2->∀q,q<10->Hf.app ((((ia.put [4] 0 [.str s,.int .i64 (a.2.1:Int),.int .i64 a.2.2]).put [4] 0 [.str s,.int .i64 (b.2.1:Int),.int .i64 b.2.2]).put [c1] 0 ds)) (Bh 80 [c2] (.slice nl t xs)) [q] k=((ia.put [4] 0 [.str s,.int .i64 (a.2.1:Int),.int .i64 a.2.2]).put [4] 0 [.str s,.int .i64 (b.2.1:Int),.int .i64 b.2.2]) [q] k:=λc1 c2 k ds xs e1 e2 q hq=>by
     have:=hG.le;rw[aV (LX.put y e1) e2 hq,aA Xb]
    have zz:=λ(c1 c2 k:Nat)(ds:List D)(xs:List D) e1 e2=>z c1 c2 k ds xs e1 e2 9 O
    have z4:=λ(c1 c2 k:Nat)(ds:List D)(xs:List D) e1 e2=>z c1 c2 k ds xs e1 e2 4 O
    have x:∀(c1 c2:Nat)(ds xs:List D),ea<=c1->ea<=c2->(Ag (Hf.app ((((ia.put [4] 0 [.str s,.int .i64 (a.2.1:Int),.int .i64 a.2.2]).put [4] 0 [.str s,.int .i64 (b.2.1:Int),.int .i64 b.2.2]).put [c1] 0 ds)) (Bh 80 [c2] (.slice nl t xs))) [9] 3 1).isSome=true:=λc1 c2 ds xs e1 e2=>by
     simp only[Ag,zz c1 c2 3 ds xs e1 e2];simp[Ha.put,y3]
    simp only[↓C2,G9,h5,simprocAttr,Qp];refine Au.intro (x _ _ _ _ O O) ?_;simp only[↓C2,Hc,simprocAttr,u,hw];refine ih _ _ ⟨f,rfl,h4,h5,h2,A++[(a.1,decide (bits .and .i64 b.1 1≠0),decide (bits .and .i64 b.1 2≠0))],true,b.2.1,b.2.2,false,_,by simp[v],q2.1,by rw[←l];simp,by rw[←r];simp[c3],fa,rfl,⟨?_,?_,?_⟩,⟨?_,?_,?_,?_⟩,U,LX.putx (LX.app (LX.put y O) O Xa) U O⟩
    ·simp only;rw[aA U,z4 _ _ _ _ _ O O];simp[Ha.put]
    ·simp only;rw[aA U,z4 _ _ _ _ _ O O];simp[Ha.put]
    ·simp only;rw[aA U,z4 _ _ _ _ _ O O];simp[Ha.put]
    ·simp only;rw[aC U,zz _ _ _ _ _ O O];simp[Ha.put,y0]
    ·simp only;rw[aC U,zz _ _ _ _ _ O O];simp[Ha.put,y1]
    ·simp only;rw[aC U,zz _ _ _ _ _ O O];simp[Ha.put,y2]
    ·simp only;rw[FL];exact DG
   ·simp only[Hb,↓C2,G7,simprocAttr,f,u,da,h4,h5,h7,AD Nn 55,U2,x0,x1,x2,y3,k1,k2,c3];refine Au.intro ⟨O,rfl,(LX.put y O).grow⟩ ?_;rw[B8 ja,na];have z:∀(c1 c2 k:Nat)(ds:List D)(xs:List D),ea<=c1->ea<=c2->∀q,q<10->Hf.app ((((ia.put [4] 0 [.str s,.int .i64 (a.2.1:Int),.int .i64 a.2.2]).put [4] 0 [.str s,.int .i64 (b.2.1:Int),.int .i64 b.2.2]).put [c1] 0 ds)) (Bh 80 [c2] (.slice nl t xs)) [q] k=((ia.put [4] 0 [.str s,.int .i64 (a.2.1:Int),.int .i64 a.2.2]).put [4] 0 [.str s,.int .i64 (b.2.1:Int),.int .i64 b.2.2]) [q] k:=λc1 c2 k ds xs e1 e2 q hq=>by
     have:=hG.le;rw[aV (LX.put y e1) e2 hq,aA Xb]
    have zz:=λ(c1 c2 k:Nat)(ds:List D)(xs:List D) e1 e2=>z c1 c2 k ds xs e1 e2 9 O
    have z4:=λ(c1 c2 k:Nat)(ds:List D)(xs:List D) e1 e2=>z c1 c2 k ds xs e1 e2 4 O
    have x:∀(c1 c2:Nat)(ds xs:List D),ea<=c1->ea<=c2->(Ag (Hf.app ((((ia.put [4] 0 [.str s,.int .i64 (a.2.1:Int),.int .i64 a.2.2]).put [4] 0 [.str s,.int .i64 (b.2.1:Int),.int .i64 b.2.2]).put [c1] 0 ds)) (Bh 80 [c2] (.slice nl t xs))) [9] 3 1).isSome=true:=λc1 c2 ds xs e1 e2=>by
     simp only[Ag,zz c1 c2 3 ds xs e1 e2];simp[Ha.put,y3]
    simp only[↓C2,G9,h5,simprocAttr,Qp];refine Au.intro (x _ _ _ _ O O) ?_;simp only[↓C2,Hc,simprocAttr,u,hw];refine ih _ _ ⟨f,rfl,h4,h5,h2,A++[(a.1,decide (bits .and .i64 b.1 1≠0),decide (bits .and .i64 b.1 2≠0))],false,b.2.1,b.2.2,false,_,by simp[v],q2.1,by rw[←l];simp,by rw[←r];simp[c3],fa,rfl,⟨?_,?_,?_⟩,⟨?_,?_,?_,?_⟩,U,LX.putx (LX.app (LX.put y O) O Xa) U O⟩
    ·simp only;rw[aA U,z4 _ _ _ _ _ O O];simp[Ha.put]
    ·simp only;rw[aA U,z4 _ _ _ _ _ O O];simp[Ha.put]
    ·simp only;rw[aA U,z4 _ _ _ _ _ O O];simp[Ha.put]
    ·simp only;rw[aC U,zz _ _ _ _ _ O O];simp[Ha.put,y0]
    ·simp only;rw[aC U,zz _ _ _ _ _ O O];simp[Ha.put,y1]
    ·simp only;rw[aC U,zz _ _ _ _ _ O O];simp[Ha.put,y2]
    ·simp only;rw[FL];exact DG
 ·obtain⟨ma,ia,ea⟩:=st;obtain⟨f,u,h4,h5,h2,A,od,p,e,nl,t,v,hp,l,r,fa,h7,⟨x0,x1,x2⟩,⟨y0,y1,y2,y3⟩,pa,hG⟩:=hI;simp only at f u h4 h5 h2 h7 x0 x1 x2 y0 y1 y2 y3 hG;refine Af VA.eq_1 ?_;have m0:∀k,ia [0] k=_:=λk=>hG.low 0 k O U
  rw[Zu]at l r fa;unfold Ik at l r fa;simp only[QI,Bool.or_false]at l r fa;rw[←r];rw[←l]at aa ⊢;rw[←fa]at d;simp only at d;rw[←pa]at aa ⊢;by_cases c1:en=3
  ·simp only[Hb,↓C2,G7,simprocAttr,f,u,h4,h2,Qz,x0,x1,x2,m0,Ae Nn 56,d,c1]
   all_goals (first|rfl|exact⟨rfl,rfl⟩|(simp[*,sc0];done)|(simp[*,sc0];rfl))
  ·have ba:(en=3)=False:=eq_false c1;by_cases c2:en=0
   ·subst c2;cases od with
    |true=>
     simp only[Hb,↓C2,G7,simprocAttr,f,u,h4,h7,Qz,x0,x1,x2,Ae Nn 56,d];refine A1 ?_;simp only[Hb,↓C2,G7,simprocAttr,h2,m0]
     all_goals (first|rfl|exact⟨rfl,rfl⟩|(simp[*,sc0];done)|(simp[*,sc0];rfl))
    |false=>
     cases w with
     |true=>
      simp only[if_true]at aa;simp only[Hb,↓C2,G7,simprocAttr,f,u,h4,h5,h7,Qz,x0,x1,x2,y0,y1,y2,y3,Ae Nn 56,d,Ae Nn 57,i,Ae Nn 25,aa];refine A1 ?_;simp only[Hb,↓C2,G7,simprocAttr,h2,m0]
      all_goals (first|rfl|exact⟨rfl,rfl⟩|(simp[*,sc0];done)|(simp[*,sc0];rfl))
     |false=>
      simp only[if_false,Qs]at aa;simp only[Hb,↓C2,G7,simprocAttr,f,u,h4,h5,h7,Qz,x0,x1,x2,y0,y1,y2,y3,Ae Nn 56,d,Ae Nn 57,i,Ae Nn 25,aa];refine A1 ?_;simp only[Hb,↓C2,G7,simprocAttr,h2,h5,m0,y0,y1,y2,y3]
      all_goals (first|rfl|exact⟨rfl,rfl⟩|(simp[*,sc0];done)|(simp[*,sc0];rfl))
   ·have ca:(en=0)=False:=eq_false c2;simp only[Hb,↓C2,G7,simprocAttr,f,u,h4,Qz,x0,x1,x2,Ae Nn 56,d,ba,ca];refine A1 ?_;simp only[Hb,↓C2,G7,simprocAttr,h2,m0]
    all_goals (first|rfl|exact⟨rfl,rfl⟩|(simp[*,sc0];done)|(simp[*,sc0];rfl))
def aMU:=y0 f213 [] []
def aUF:=y0 f52 [] []
def aUV:=y0 f22 [] []
def aMR:=y0 f215 [] []
def aUJ:=y0 f67 [(3,[(2,0)])] []
def Pn:=y1 f124 2 [] []
def aLC:=y0 f124 [] [(2,Pn)]
def VE:=y1 f70 14 [] []
def aMf:=y0 f70 [(18,[(3,6),(3,10),(7,10)])] [(14,VE)]
def aMY:=y0 f30 [] []
def aMZ:=y0 f37 [] []
def aMe:=y0 f26 [] []
def aCP:=y0 f211 [] []
def aMX:=y0 f210 [] []
def VB:=y1 f270 2 [] []
def aL8:=y0 f270 [] [(2,VB)]
def aMO:=y0 f220 [] []
def aU4:=y0 f155 [] []
def An(k:Int)(name:Bs)(n:Int):Bs:=if Bl k name n≠0 then []else if k=1 then [109,47]++name else if k=2 then [100,47]++name++[0,UInt8.ofNat (IntKind.u8.wrap n).toNat]else if k=3 then [116,47]++name else if k=4 then [115,47,109,111,117,110,116,115]else [115,47,114,105,110,103]
def aFm{k n:Int}{name:Bs}(h:name.length<=1000000):F98 [.agg [.int .u8 k,.str name,.int .i64 n]]=some (.int .i64 (Bl k name n)):=if_pos h
def I6{a b:Bs}(h:a.length+b.length<=9223372036854775807):AQ .add (.str a) (.str b)=some (.str (a++b)):=by simp[AQ,h]
def mS:=Ar [(53,Ac F98)]
def yH:=RF mS aMe [.t 2,.t 3] 35
def aBy:Kq yH 26:=Ap (Aj func26) (Aa aGU Ad)
def V_(k n:Int)(name:Bs)(hl:name.length<=1000000):yH [.agg [.int .u8 k,.str name,.int .i64 n]]=some (.tup [.str (An k name n),.int .i64 (Bl k name n)]):=by
 refine Al (Qa rfl) ?_;unfold aMe;have p:=aFm (k:=k) (n:=n) hl;have a1:∀x y,AQ .add (.str [x,y]) (.str name)=some (.str ([x,y]++name)):=λx y=>I6 YI
 have o:∀a,BG [.int .u8 0,.int .u8 a]=some [0,UInt8.ofNat a.toNat]:=λ_=>rfl
 unfold An;generalize Bl k name n=e at *;by_cases i:e=0
 ·subst i;by_cases c1:k=1
  ·have j:=eq_true c1;simp only[Hb,↓C2,G7,simprocAttr,Ae mS 53,p,j,a1]
   all_goals exact Y6
  have j:=eq_false c1;by_cases q:k=2
  ·have v:=eq_true q;have m:=λz (u:z.length<=100)=>I6 (a:=[100,47]++name) (b:=z) YJ
   have t:=λc d=>m [c,d] U
   simp only[Hb,↓C2,G7,simprocAttr,Ae mS 53,p,j,v,a1,t,o]
   all_goals exact Y6
  have v:=eq_false q;by_cases r:k=3
  ·have f:=eq_true r;simp only[Hb,↓C2,G7,simprocAttr,Ae mS 53,p,j,v,f,a1]
   all_goals exact Y6
  have f:=eq_false r;by_cases s:k=4
  ·have g:=eq_true s;simp only[Hb,↓C2,G7,simprocAttr,Ae mS 53,p,j,v,f,g]
   all_goals exact Y6
  ·have g:=eq_false s;simp only[Hb,↓C2,G7,simprocAttr,Ae mS 53,p,j,v,f,g]
   all_goals exact Y6
 ·have h:=eq_false i;simp only[Hb,↓C2,G7,simprocAttr,Ae mS 53,p,h]
  all_goals exact Y6
def aVL:=Ar [(26,Ac yH)]
def Fs:List D->Option D:=RF aVL aCP [.t 6] 18
def IP:Kq Fs 211:=Ap (Aj func211:Fn Qe 211 18 aCP [.t 6]) (Aa aBy Ad)
def CY(k n:Int)(name:Bs)(hl:name.length<=1000000):Fs [.int .u8 k,.str name,.int .i64 n]=some (.str (An k name n)):=by
 refine Al (Qa rfl) ?_;unfold aCP;have a:=V_ k n name hl;simp only[↓C2,G9,G7,simprocAttr,Ae aVL 26,a]
 all_goals exact Y6
def aXG:=Ar []
def yK:=RF aXG aMU [.t 2] 10
def aKF:Kq yK 213:=Ap (Aj func213) Ad
def V0(p:Bs)(hl:p.length<=1000000):yK [.str p]=some (.slice false [] [.str ([109,47]++p++[47]),.str ([100,47]++p++[47])]):=by
 refine Al (Qa rfl) ?_;unfold aMU;have a1:∀x y,AQ .add (.str [x,y]) (.str p)=some (.str ([x,y]++p)):=λx y=>I6 YI
 have b:∀x y,AQ .add (.str ([x,y]++p)) (.str [47])=some (.str ([x,y]++p++[47])):=λx y=>I6 YJ
 simp only[↓C2,G9,G7,simprocAttr,a1,b]
 all_goals exact Y6
def Ao(s:Bs):Int×Bs×Int:=if s=[115,47,109,111,117,110,116,115]then(4,[],0)else if s=[115,47,114,105,110,103]then(5,[],0)else if A7 s [109,47]=true then(1,s.drop 2,0)else if A7 s [116,47]=true then(3,s.drop 2,0)else
 if A7 s [100,47]=true∧2<(s.drop 2).length∧(s.drop 2).getD ((s.drop 2).length-2) 0=0 then(2,(s.drop 2).take ((s.drop 2).length-2),((s.drop 2).getD ((s.drop 2).length-1) 0).toNat)else(0,[],0)
def Cx(s:Bs):(Int×Bs×Int)×Int:=if Bl (Ao s).1 (Ao s).2.1 (Ao s).2.2≠0 then((0,[],0),4)else(Ao s,0)
def kyD(k:Int×Bs×Int):D:= .agg [.int .u8 k.1,.str k.2.1,.int .i64 k.2.2]
def TD(s:Bs):(Ao s).2.1.length<=s.length:=by
 grind [Ao]
def S97:=Ar [(106,Ac yY)]
def R97:=RF S97 aUF [.cell (some 3) 2] 64
def aWR:Kq R97 52:=Ap (Aj func52) (Aa aKi Ad)
def aQt(s:Bs)(hl:s.length<=1000000):R97 [.str s]=some (kyD (Ao s)):=by
 refine Al (Qa rfl) ?_;unfold aUF;have c:∀a b:UInt8,yY [.str s,.str [a,b]]=some (.tup [.str (if A7 s [a,b]=true then s.drop 2 else s),.bool (A7 s [a,b])]):=λ_ _=>rfl
 unfold Ao kyD;by_cases c1:s=[115,47,109,111,117,110,116,115]
 ·have j:=eq_true c1;simp only[Hb,↓C2,G7,simprocAttr,j]
  all_goals exact Y6
 have j:=eq_false c1;by_cases n:s=[115,47,114,105,110,103]
 ·have v:=eq_true n;simp only[Hb,↓C2,G7,simprocAttr,j,v]
  all_goals exact Y6
 have v:=eq_false n;cases c3:A7 s [109,47]with
 |true=>
  simp only[Hb,↓C2,G7,simprocAttr,Ae S97 106,c,j,v,c3]
  all_goals exact Y6
 |false=>
  cases c4:A7 s [116,47]with
  |true=>
   simp only[Hb,↓C2,G7,simprocAttr,Ae S97 106,c,j,v,c3,c4]
   all_goals exact Y6
  |false=>
   cases c5:A7 s [100,47]with
   |false=>
    simp only[Hb,↓C2,G7,simprocAttr,Ae S97 106,c,j,v,c3,c4,c5]
    all_goals exact Y6
   |true=>
    have m:(s.drop 2).length<=1000000:=X7
    generalize z:s.drop 2=r at *;by_cases o:2<r.length
    ·have e:((2:Int)<(r.length:Int))=True:=eq_true O;have w:IntKind.i64.wrap ((r.length:Int)-2)=((r.length-2:Nat):Int):=by rw[Hy O O];omega
     have i:IntKind.i64.wrap (((r.length-2:Nat):Int)+1)=((r.length-1:Nat):Int):=Xh
     have t:(0:Int)<=((r.length-2:Nat):Int):=O
     have f:(0:Int)<=((r.length-1:Nat):Int):=O
     have q:(((r.length-2:Nat):Int)<=((r.length:Nat):Int))=True:=eq_true O;have p:r[r.length-2]?=some (r.getD (r.length-2) 0):=by simp[Zx,Qi (show r.length-2<r.length by omega)]
     have k:r[r.length-1]?=some (r.getD (r.length-1) 0):=by simp[Zx,Qi (show r.length-1<r.length by omega)]
     have u:((r.getD (r.length-2) 0).toNat:Int)=0↔r.getD (r.length-2) 0=0:=by
      constructor
      ·intro h;exact UInt8.toNat_inj.1 (by
        have:(r.getD (r.length-2) 0).toNat=0:=O
        rw[this];rfl)
      ·intro h;rw[h];rfl
     have g:IntKind.i64.wrap ((r.getD (r.length-1) 0).toNat:Int)=((r.getD (r.length-1) 0).toNat:Int):=Hy O (by have:=(r.getD (r.length-1) 0).toNat_lt;omega);generalize r.getD (r.length-1) 0=y at *;generalize r.getD (r.length-2) 0=x at *;by_cases c7:x=0
     ·have d:((x.toNat:Int)=0)=True:=eq_true (u.2 c7);simp only[Hb,↓C2,G7,simprocAttr,Ae S97 106,c,j,v,c3,c4,c5,e,w,i,t,f,q,p,k,d,g,Qh];refine A1 ?_;simp only[Hb,↓C2,G7,simprocAttr]
      all_goals exact Y6
     ·have d:((x.toNat:Int)=0)=False:=eq_false (λh=>c7 (u.1 h));simp only[Hb,↓C2,G7,simprocAttr,Ae S97 106,c,j,v,c3,c4,c5,e,w,t,p,d,Qh]
      all_goals exact Y6
    ·have e:((2:Int)<(r.length:Int))=False:=eq_false O;simp only[Hb,↓C2,G7,simprocAttr,Ae S97 106,c,j,v,c3,c4,c5,e]
     all_goals exact Y6
def S38:=Ar [(52,Ac R97),(53,Ac F98)]
def R38:=RF S38 aUV [.cell (some 3) 2,.t 3] 12
def aTF:Kq R38 22:=Ap (Aj func22) (Aa aWR (Aa aGU Ad))
def mW(s:Bs)(hl:s.length<=1000000):R38 [.str s]=some (.tup [kyD (Cx s).1,.int .i64 (Cx s).2]):=by
 refine Al (Qa rfl) ?_;unfold aUV;have a:=aQt s hl;have z:=aFm (k:=(Ao s).1) (n:=(Ao s).2.2) (name:=(Ao s).2.1) (by have:=TD s;omega);unfold Cx;unfold kyD at *;generalize Bl (Ao s).1 (Ao s).2.1 (Ao s).2.2=e at *;generalize Ao s=g at *;by_cases b:e=0
 ·subst b;simp only[Hb,↓C2,G7,simprocAttr,Ae S38 52,a,Ae S38 53,z]
  all_goals exact Y6
 ·have h:=eq_false b;simp only[Hb,↓C2,G7,simprocAttr,Ae S38 52,a,Ae S38 53,z,h]
  all_goals exact Y6
def aU3:=y0 Tryz.f156 [(2,[(3,1),(4,1)])] []
def aUT:=y0 f232 [] []
def aFW(w:World)(k:Nat)(f:0<k)(s:k<=1000000):
  Calls Qe 283 #[.slice none 0 0,.int .i64 (k:Int)] w λe m=>e= .returned (.slice (some ⟨w.heap.size,0,none⟩) 0 (grownCap w k 0 9))∧m=w.drew.alloc (.cells (Builtin.zeroCells #[.string .empty] k++Builtin.zeroCells #[.string .empty] (grownCap w k 0 9-k)) 9):=by
 have z:=Lib.run_append_nil_zeros (P:=Qe) w 23 3 23 9 Tryz.t9 (.string .empty) .i64 .i64 underlying23 underlying3 Z Z k f V O (by show k*16<=_;omega)
 go_enter func283,ntmps283
 go_wp2_with (first|(at_builtin;refine Lib.wpList_append_run _ rfl _ _ _ _ rfl _ _ rfl rfl _ _ z ?_))
 all_goals go_ret
 all_goals exact⟨rfl,rfl⟩
def aWQ:(DK 9).ok Qe 283:=by
 refine MT (sz:=1) ⟨_,func283,Z,Z⟩ V ⟨Tryz.t9,(.string .empty),Z,Z,Z,Z⟩ (λw k f s=>?_);refine(aFW w k f s).mono ?_;rintro e m ⟨rfl,rfl⟩;refine⟨_,_,grownCap_le_maxLen w k 0 9 Xp,?_,rfl,rfl⟩;have o:=grownCap_ge w k 0 9;simp only[Zf,size_zeroCells];simp;omega
def zR(w:World)(k:Nat)(f:0<k)(s:k<=1000000):
  Calls Qe 284 #[.slice none 0 0,.int .i64 (k:Int)] w λe m=>e= .returned (.slice (some ⟨w.heap.size,0,none⟩) 0 (grownCap w k 0 4))∧m=w.drew.alloc (.cells (Builtin.zeroCells #[.bool false] k++Builtin.zeroCells #[.bool false] (grownCap w k 0 4-k)) 4):=by
 have z:=Lib.run_append_nil_zeros (P:=Qe) w 160 3 160 4 Tryz.t4 (.bool false) .i64 .i64 underlying160 underlying3 Z Z k f V O (by show k*1<=_;omega)
 go_enter func284,ntmps284
 go_wp2_with (first|(at_builtin;refine Lib.wpList_append_run _ rfl _ _ _ _ rfl _ _ rfl rfl _ _ z ?_))
 all_goals go_ret
 all_goals exact⟨rfl,rfl⟩
def aUq:(DK 4).ok Qe 284:=by
 refine MT (sz:=1) ⟨_,func284,Z,Z⟩ V ⟨Tryz.t4,(.bool false),Z,Z,Z,Z⟩ (λw k f s=>?_);refine(zR w k f s).mono ?_;rintro e m ⟨rfl,rfl⟩;refine⟨_,_,grownCap_le_maxLen w k 0 4 Xp,?_,rfl,rfl⟩;have o:=grownCap_ge w k 0 4;simp only[Zf,size_zeroCells];simp;omega
def zQ(w:World)(k:Nat)(f:0<k)(s:k<=1000000):
  Calls Qe 285 #[.slice none 0 0,.int .i64 (k:Int)] w λe m=>e= .returned (.slice (some ⟨w.heap.size,0,none⟩) 0 (grownCap w k 0 23))∧m=w.drew.alloc (.cells (Builtin.zeroCells #[.slice none 0 0] k++Builtin.zeroCells #[.slice none 0 0] (grownCap w k 0 23-k)) 23):=by
 have z:=Lib.run_append_nil_zeros (P:=Qe) w 161 3 161 23 t23 (.slice none 0 0) .i64 .i64 underlying161 underlying3 Z Z k f V O (by show k*24<=_;omega)
 go_enter func285,ntmps285
 go_wp2_with (first|(at_builtin;refine Lib.wpList_append_run _ rfl _ _ _ _ rfl _ _ rfl rfl _ _ z ?_))
 all_goals go_ret
 all_goals exact⟨rfl,rfl⟩
def aUp:(DK 23).ok Qe 285:=by
 refine MT (sz:=1) ⟨_,func285,Z,Z⟩ V ⟨t23,(.slice none 0 0),Z,Z,Z,Z⟩ (λw k f s=>?_);refine(zQ w k f s).mono ?_;rintro e m ⟨rfl,rfl⟩;refine⟨_,_,grownCap_le_maxLen w k 0 23 Xp,?_,rfl,rfl⟩;have o:=grownCap_ge w k 0 23;simp only[Zf,size_zeroCells];simp;omega
def aUv:Fn Qe 229 36 (GC 9 9 1 16 283) [.t 2]:=⟨f229,_,func229,rfl,Z,rfl,Z,Z⟩
def S39:=Ar [(283,DK 9)]
def R39:=RF S39 (GC 9 9 1 16 283) [.t 2] 36
def aTA:Kq R39 229:=Ap aUv (Aa aWQ Ad)
def mV{nl:Bool}{xs:List D}{x:D}(hl:xs.length<=1000)(g:(xs++[x]).all (gZ 1)=true):R39 [.slice false [] [.slice nl [] xs,.slice false [] [x]]]=some (.slice false [] (xs++[x])):=
 Al (Qa rfl) (RO (P:=Qe) (f:=39) O rfl (by simp[Fi]) (Qa rfl) U Xb g λt m z=>⟨rfl,rfl⟩)
def aUu:Fn Qe 230 36 (GC 9 4 1 1 284) [.t 2]:=⟨f230,_,func230,rfl,Z,rfl,Z,Z⟩
def S40:=Ar [(284,DK 4)]
def R40:=RF S40 (GC 9 4 1 1 284) [.t 2] 36
def aW3:Kq R40 230:=Ap aUu (Aa aUq Ad)
def aQx{nl:Bool}{xs:List D}{x:D}(hl:xs.length<=1000)(g:(xs++[x]).all (gZ 1)=true):R40 [.slice false [] [.slice nl [] xs,.slice false [] [x]]]=some (.slice false [] (xs++[x])):=
 Al (Qa rfl) (RO (P:=Qe) (f:=40) O rfl (by simp[Fi]) (Qa rfl) U Xb g λt m z=>⟨rfl,rfl⟩)
def aUt:Fn Qe 231 36 (GC 9 23 1 24 285) [.t 2]:=⟨f231,_,func231,rfl,Z,rfl,Z,Z⟩
def S41:=Ar [(285,DK 23)]
def R41:=RF S41 (GC 9 23 1 24 285) [.t 2] 36
def aW2:Kq R41 231:=Ap aUt (Aa aUp Ad)
def aQw{nl:Bool}{xs:List D}{x:D}(hl:xs.length<=1000)(g:(xs++[x]).all (gZ 1)=true):R41 [.slice false [] [.slice nl [] xs,.slice false [] [x]]]=some (.slice false [] (xs++[x])):=
 Al (Qa rfl) (RO (P:=Qe) (f:=41) O rfl (by simp[Fi]) (Qa rfl) U Xb g λt m z=>⟨rfl,rfl⟩)
def strsD(l:List Bs):List D:=l.map .str
def aAh(l:List Bs):aE (strsD l) 1=1:=XH
def AT(l:List Bs):(strsD l).length=l.length:=Qy ..
def DB{l:List Bs}{j:Nat}(h:j<l.length):(strsD l)[j]?=some (.str l[j]):=by simp[strsD,Qi h]
structure Kn where
 es:List (Bs×Bs×Bool)
 ls:List (Bs×Bool×List Bs)
def lsD(x:Bs×Bool×List Bs):D:= .slice x.2.1 [] (strsD x.2.2)
def HG(k:Kn):List D:=[.slice k.es.isEmpty [] (k.es.map λx=> .str x.1),.slice k.es.isEmpty [] (k.es.map λx=> .str x.2.1),.slice k.es.isEmpty [] (k.es.map λx=> .bool x.2.2),.slice k.ls.isEmpty [] (k.ls.map λx=> .str x.1),.slice k.ls.isEmpty [] (k.ls.map lsD)]
def aDX{α:Type}{f:α->D}(h:∀x,gZ 1 (f x)=true)(l:List α)(y:α):(l.map f++[f y]).all (gZ 1)=true:=by
 simp_all
def aVn{α:Type}(l:List α)(x:α):(l++[x]).isEmpty=false:=XH
def S42:=Ar []
def R42:=RF S42 aUT [.t 2] 8
def aW1:Kq R42 232:=Ap (Aj func232) Ad
def aQv{nl:Bool}{l:List Bs}(hl:l.length<=100000)(g:nl=true->l=[]):R42 [.slice nl [] (strsD l)]=some (.slice nl [] (strsD l)):=by
 refine Al (Qa rfl) ?_;unfold aUT;cases nl with
 |true=>
  rw[g rfl];simp only[↓C2,Hc,H_,G7,simprocAttr]
  all_goals exact Y6
 |false=>
  simp only[↓C2,Hc,Hl,G7,simprocAttr];refine Au.intro ⟨by rw[AT];omega,aAh l,.inr ⟨rfl,U⟩⟩ ?_;simp only[↓C2,G9,G7,simprocAttr]
def S12:=Ar [(229,Ac R39),(230,Ac R40)]
def R12:=RF S12 aU4 [.cell (some 5) 8] 31
def aW6:Kq R12 155:=Ap (Aj func155) (Aa aTA (Aa aW3 Ad))
def aQ1(k:Kn)(z b:Bs)(o:Bool)(hl:k.es.length<=1000):R12 [.agg (HG k),.str z,.str b,.bool o]=some (.agg (HG {k with es:=k.es++[(z,b,o)]})):=by
 refine Al (Qa rfl) ?_;unfold aU4;have u:=mV (nl:=k.es.isEmpty) (xs:=k.es.map λx=> .str x.1) (x:= .str z) Xj (aDX (f:=λx:Bs×Bs×Bool=> .str x.1) (λ_=>rfl) k.es (z,b,o));have y:=mV (nl:=k.es.isEmpty) (xs:=k.es.map λx=> .str x.2.1) (x:= .str b) Xj (aDX (f:=λx:Bs×Bs×Bool=> .str x.2.1) (λ_=>rfl) k.es (z,b,o));have i:=aQx (nl:=k.es.isEmpty) (xs:=k.es.map λx=> .bool x.2.2) (x:= .bool o) Xj (aDX (f:=λx:Bs×Bs×Bool=> .bool x.2.2) (λ_=>rfl) k.es (z,b,o));unfold HG;simp only[Q_,QD,Q2,aVn];simp only[Hb,↓C2,G7,simprocAttr,Ae S12 229,u,y,Ae S12 230,i]
 all_goals exact Y6
def S13:=Ar [(229,Ac R39),(231,Ac R41),(232,Ac R42)]
def R13:=RF S13 aU3 [.cell (some 5) 6] 23
def aW5:Kq R13 156:=Ap (Aj func156) (Aa aTA (Aa aW2 (Aa aW1 Ad)))
def aQ0(k:Kn)(p:Bs)(nl:Bool)(l:List Bs)(hl:k.ls.length<=1000)(a:l.length<=100000)(g:nl=true->l=[]):R13 [.agg (HG k),.str p,.slice nl [] (strsD l)]=some (.agg (HG {k with ls:=k.ls++[(p,nl,l)]})):=by
 refine Al (Qa rfl) ?_;unfold aU3;have u:=mV (nl:=k.ls.isEmpty) (xs:=k.ls.map λx=> .str x.1) (x:= .str p) Xj (aDX (f:=λx:Bs×Bool×List Bs=> .str x.1) (λ_=>rfl) k.ls (p,nl,l));have y:=aQv (nl:=nl) (l:=l) a g;have i:=aQw (nl:=k.ls.isEmpty) (xs:=k.ls.map lsD) (x:=lsD (p,nl,l)) Xj (aDX (f:=lsD) (λ_=>rfl) k.ls (p,nl,l));have w:lsD (p,nl,l)= .slice nl [] (strsD l):=rfl;rw[w]at i;unfold HG;simp only[Q_,QD,Q2,aVn,w];simp only[Hb,↓C2,G7,simprocAttr,Ae S13 229,u,Ae S13 232,y,Ae S13 231,i];refine A1 ?_;simp only[Hb,↓C2,G7,simprocAttr]
 all_goals exact Y6
def BT:List Bs->Bs->Int
 |[],_=>-1
 |x::r,s=>if 0<=BT r s then BT r s+1 else if x=s then 0 else-1
def Fe:∀(l:List Bs)(s:Bs),-1<=BT l s∧BT l s<l.length
 |[],s=>by simp[BT]
 |x::r,s=>by
  have:=Fe r s;unfold BT;simp only[Qg];split
  ·omega
  ·split<;>omega
def Rk:∀{l:List Bs} {s:Bs},(∀i (h:i<l.length),l[i]≠s)->BT l s=-1
 |[],s,_=>rfl
 |x::r,s,h=>by
  have ih:=Rk (l:=r) (s:=s) (λi hi=>h (i+1) (by simpa using hi));have f:x≠s:=h 0 U;simp[BT,ih,f]
def cZ:∀{l:List Bs} {s:Bs} {j:Nat} (q:j<l.length),l[j]=s->(∀i (h:i<l.length),j<i->l[i]≠s)->BT l s=j
 |x::r,s,0,q,hx,h=>by
  have ih:=Rk (l:=r) (s:=s) (λi hi=>h (i+1) (by simpa using hi) O);have f:x=s:=hx;simp[BT,ih,f]
 |x::r,s,j+1,q,hx,h=>by
  have ih:=cZ (l:=r) (s:=s) (j:=j) Xt (by simpa using hx) (λi hi u=>h (i+1) (by simpa using hi) O);unfold BT;rw[if_pos O,ih];omega
def aXC:=Ar []
def yG:=RF aXC aL8 [.t 4] 20
def aKz:Kq yG 270:=Ap (Aj func270) Ad
def rS{nl:Bool}{l:List Bs}(q:Bs)(hl:l.length<=1000):yG [.slice nl [] (strsD l),.str q]=some (.int .i64 (BT l q)):=by
 refine Al (Qa rfl) ?_;unfold aL8;have k:IntKind.i64.wrap ((l.length:Int)-1)=(l.length:Int)-1:=Hy O O;simp only[↓C2,Hc,simprocAttr,AT,k];refine BO (n:=l.length) (I:=λj v=>v.s 0= .slice nl [] (strsD l)∧v.s 1= .str q∧v.s 5= .int .i64 ((l.length:Int)-1-j)∧∀i (h:i<l.length),l.length<=i+j->l[i]≠q) (λj b ih v g hI=>?_) (λv g hI=>?_) 0 (Qu _) _ _ ⟨rfl,rfl,by rw[show((0:Nat):Int)=0 from rfl,Int.sub_zero];rfl,λi h y=>O⟩
 ·obtain⟨ma,o,r⟩:=v;obtain⟨f,u,x,p⟩:=hI;simp only at f u x;refine Af VB.eq_1 ?_;have wa:(0:Int)<=(l.length:Int)-1-j:=by omega
  have t:IntKind.i64.wrap ((l.length:Int)-1-j-1)=(l.length:Int)-1-((j+1:Nat):Int):=Xh
  have hi:((l.length:Int)-1-j).toNat=l.length-1-j:=O
  have c:=DB (l:=l) (j:=l.length-1-j) O;by_cases w:l[l.length-1-j]' O=q
  ·have e:=cZ O w (λi h y=>p i h O);have a:=eq_true w;have m:((l.length-1-j:Nat):Int)=(l.length:Int)-1-j:=by omega
   simp only[↓C2,G9,G7,simprocAttr,f,u,x,wa,hi,c,a];rw[e,m]
   all_goals exact Y6
  ·have a:=eq_false w;simp only[↓C2,G9,G7,simprocAttr,f,u,x,wa,hi,c,a,t];refine ih _ _ ⟨f,u,rfl,λi h y=>?_⟩;by_cases z:l.length<=i+j
   ·exact p i h z
   ·grind
 ·obtain⟨f,u,x,p⟩:=hI;refine Af VB.eq_1 ?_;have wa:¬(0:Int)<=(l.length:Int)-1-(l.length:Int):=by omega
  have e:=Rk (l:=l) (s:=q) (λi h=>p i h O);simp only[↓C2,G9,G7,simprocAttr,x,wa];rw[e]
  all_goals exact Y6
def FG(k:Kn):List Bs:=k.es.map (·.1)
def CN(k:Kn)(q:Bs):Bs×Bool×Bool:=if BT (FG k) q<0 then([],false,false)else((k.es.getD (BT (FG k) q).toNat ([],[],false)).2.1,(k.es.getD (BT (FG k) q).toNat ([],[],false)).2.2,true)
def Fp(k:Kn)(q:Bs):Bool×List Bs×Bool:=if BT (k.ls.map (·.1)) q<0 then(true,[],false)else((k.ls.getD (BT (k.ls.map (·.1)) q).toNat ([],true,[])).2.1,(k.ls.getD (BT (k.ls.map (·.1)) q).toNat ([],true,[])).2.2,true)
def aQq:=Ar [(270,Ac yG)]
def OZ:=RF aQq aMO [.t 4,.t 5,.t 6] 37
def aKC:Kq OZ 220:=Ap (Aj func220) (Aa aKz Ad)
def PH(k:Kn)(q:Bs)(hl:k.es.length<=1000):OZ [.agg (HG k),.str q]=some (.tup [.str (CN k q).1,.bool (CN k q).2.1,.bool (CN k q).2.2]):=by
 refine Al (Qa rfl) ?_;unfold aMO;have a:yG [.slice k.es.isEmpty [] (k.es.map λx=> .str x.1),.str q]=some (.int .i64 (BT (FG k) q)):=by
  have e:=rS (nl:=k.es.isEmpty) (l:=FG k) q (by simpa[FG]using hl);simpa[strsD,FG,Function.comp_def]using e
 have o:=Fe (FG k) q;have j:(FG k).length=k.es.length:=Qy ..;rw[j]at o;unfold CN HG;generalize BT (FG k) q=i at *;by_cases c:i<0
 ·simp only[↓C2,G9,G7,simprocAttr,Ae aQq 270,a,c]
  all_goals exact Y6
 ·have hi:i.toNat<k.es.length:=by omega
  have b:(0:Int)<=i:=O
  have c1:(i<(k.es.length:Int))=True:=eq_true O;have z:(k.es.map λx=>D.str x.2.1)[i.toNat]?=some (.str (k.es.getD i.toNat ([],[],false)).2.1):=by simp[Qi hi]
  have s:(k.es.map λx=>D.bool x.2.2)[i.toNat]?=some (.bool (k.es.getD i.toNat ([],[],false)).2.2):=by simp[Qi hi]
  generalize k.es.getD i.toNat ([],[],false)=x at *;simp only[↓C2,G9,G7,simprocAttr,Ae aQq 270,a,c,b,c1,z,s,Qy];refine A1 ?_;simp only[↓C2,G9,G7,simprocAttr]
  all_goals exact Y6
def aQr:=Ar [(270,Ac yG)]
def mX:=RF aQr aMR [.t 4,.t 5] 27
def aUn:Kq mX 215:=Ap (Aj func215) (Aa aKz Ad)
def aJb(k:Kn)(q:Bs)(hl:k.ls.length<=1000):mX [.agg (HG k),.str q]=some (.tup [.slice (Fp k q).1 [] (strsD (Fp k q).2.1),.bool (Fp k q).2.2]):=by
 refine Al (Qa rfl) ?_;unfold aMR;have a:yG [.slice k.ls.isEmpty [] (k.ls.map λx=> .str x.1),.str q]=some (.int .i64 (BT (k.ls.map (·.1)) q)):=by
  have e:=rS (nl:=k.ls.isEmpty) (l:=k.ls.map (·.1)) q Xj;simpa[strsD,Function.comp_def]using e
 have o:=Fe (k.ls.map (·.1)) q;have j:(k.ls.map (·.1)).length=k.ls.length:=Qy ..;rw[j]at o;unfold Fp HG;generalize BT (k.ls.map (·.1)) q=i at *;by_cases c:i<0
 ·have b:¬(0:Int)<=i:=by omega
  simp only[↓C2,G9,G7,simprocAttr,Ae aQr 270,a,c,b]
  all_goals exact Y6
 ·have hi:i.toNat<k.ls.length:=by omega
  have b:(0:Int)<=i:=O
  have c1:((k.ls.length:Int)<=i)=False:=eq_false O;have z:(k.ls.map lsD)[i.toNat]?=some (.slice (k.ls.getD i.toNat ([],true,[])).2.1 [] (strsD (k.ls.getD i.toNat ([],true,[])).2.2)):=by simp[Qi hi,lsD]
  generalize k.ls.getD i.toNat ([],true,[])=x at *;simp only[↓C2,G9,G7,simprocAttr,Ae aQr 270,a,c,b,c1,z,Qy]
  all_goals exact Y6
structure Dk where
 n1:Bool
 its:List (Bs×Bs×Bool)
 n2:Bool
 lss:List (Bs×Bool×List Bs)
def A3(k:Kn)(q:Bs)(li:Bool)(d:Dk):Kn:=
 if li=true then {k with ls:=k.ls++[(q,((d.lss.find? λx=>decide (x.1=q)).getD ([],true,[])).2)]}else {k with es:=k.es++[(q,((d.its.find? λx=>decide (x.1=q)).getD ([],[],false)).2)]}
def aLJ:=y0 f182 [] []
def aMx:=y0 f120 [] []
def aMy:=y0 f119 [] []
def aLA:=y0 f125 [] []
def aLz:=y0 f126 [] []
def aLy:=y0 f127 [] []
def plV:D->Value
 | .str s=> .string ⟨s.toArray⟩
 | .int k n=> .int k n
 | .bool b=> .bool b
 |_=>undef
def aOq{w:World}{g:Gh}{d:D}{v:Value}(h:Rep w g d v)(c:d.plain=true):v=plV d:=by
 cases h with
 |bool b=>rfl
 |int k n=>rfl
 |str s=>rfl
 |_=>cases c
def UL {P:Program} {f:FuncId} {F:List D→Option D} (ga:∃y,P.funcs[f]?=some y∧y.body.isSome=true∧(y.name== "runtime.NumGoroutine")=false)
  (h:∀ds r,F ds=some r->(∀d∈ds,d.plain=true)∧∃v,(∀w g,Rep w g r v)∧∀w:World,Calls P f (ds.map plV).toArray w λe k=>e= .returned v∧Below w.heap.size w k):(Ac F).ok P f:=by
 refine⟨ga,λds m m' fr _=>rfl,?_⟩;intro B w0 w m g fr ds vs r u hi ia hl b z;simp only[Ac]at z;split at z
 ·rename_i x;rw[QZ]at z;obtain⟨r',hr,z⟩:=z;simp only[QC]at z;obtain⟨rfl,rfl⟩:=z;obtain⟨c,v,hv,n⟩:=h _ _ hr;have t:vs=(ds.map D.un).map plV:=by
   apply List.ext_getElem?;intro j;by_cases q:j<vs.length
   ·have s:j<ds.length:=by omega
    have e:=(b j _ _ (Qi s) (Qi q)).un;have p:(ds.map D.un)[j]?=some ds[j].un:=by rw[Zv,Qi s];rfl
    rw[Qi q,Zv,p,aOq e (c _ (List.mem_of_getElem? p))];rfl
   ·simp_all
  subst t;refine(n w).mono ?_;rintro ev k ⟨rfl,o⟩;exact⟨_,g.over w k,rfl,hi.over o,Hr.over hi.gz o,hv _ _,λi a _=>a⟩
 ·cases z
def IX:List D->Option D
 |[.str s,.str [c]]=>some (.int .i64 (Lib.indexByte s c))
 |_=>none
def aT0:Kq IX 164:=UL ⟨_,func164,Z,Z⟩ λds r h=>by
 unfold IX at h;split at h
 ·rename_i s c;simp only[Ql]at h;subst h;refine⟨λd p=>?_,_,λw g=> .int _ _,λw=>?_⟩
  ·simp only[QO,QV,or_false]at p;rcases p with rfl|rfl<;>rfl
  ·refine(Go.Proofs.Any.strings_Index_one (P:=Qe) (ρ:=aL) {aQ with} ⟨s.toArray⟩ c w).mono ?_;rintro e m ⟨rfl,rfl⟩;exact⟨rfl,Below.refl _ _⟩
 ·cases h
def aTI:Kq IX 237:=UL ⟨_,func237,Z,Z⟩ λds r h=>by
 unfold IX at h;split at h
 ·rename_i s c;simp only[Ql]at h;subst h;refine⟨λd p=>?_,_,λw g=> .int _ _,λw=>?_⟩
  ·simp only[QO,QV,or_false]at p;rcases p with rfl|rfl<;>rfl
  ·refine(Go.Proofs.Any.stringslite_Index_one (P:=Qe) (ρ:=aL) {aQ with} ⟨s.toArray⟩ c w).mono ?_;rintro e m ⟨rfl,rfl⟩;exact⟨rfl,Below.refl _ _⟩
 ·cases h
def aBS:∀(s:Bs)(c:UInt8),decide (0<=Lib.indexByte s c)=s.any (·==c)
 |[],c=>rfl
 |b::l,c=>by
  have ih:=aBS l c;unfold Lib.indexByte;cases hb:b==c with
  |true=>simp[hb]
  |false=>
   simp only[ZE,hb,ZF,←ih];rw[if_neg QK];cases h1:Lib.indexByte l c==-1 with
   |true=>rw[if_pos rfl];have:=beq_iff_eq.1 h1;rw[this]
   |false=>
    rw[if_neg QK];have t:Lib.indexByte l c≠-1:=by intro e;rw[e]at h1;simp at h1
    have o:-1<=Lib.indexByte l c:=by
     clear ih hb h1 t;induction l with
     |nil=>simp[Lib.indexByte]
     |cons x r ih=>unfold Lib.indexByte;split<;>first|omega|(split<;>omega)
    congr 1;exact propext O
def Rt(s:Bs)(c:UInt8):Bool:=s.any (·==c)
def jK(s:Bs):Bool:=decide (s≠[])&&(decide (s≠[45])&&(decide (s.length<=64)&&(!Rt s 32&&!Rt s 44)))
def aVz:=Ar [(164,Ac IX)]
def aQO:=RF aVz aLJ [.t 4] 9
def aTU:Kq aQO 182:=Ap (Aj func182) (Aa aT0 Ad)
def aIG(s:Bs)(c:UInt8):aQO [.str s,.str [c]]=some (.bool (Rt s c)):=by
 refine Al (Qa rfl) ?_;unfold aLJ;have a:IX [.str s,.str [c]]=some (.int .i64 (Lib.indexByte s c)):=rfl;have e:=aBS s c;simp only[↓C2,G9,G7,simprocAttr,Ae aVz 164,a];rw[e]
 all_goals exact Y6
def aQo:=Ar [(182,Ac aQO)]
def aV3:=RF aQo aMx [.t 2] 24
def aUc:Kq aV3 120:=Ap (Aj func120) (Aa aTU Ad)
def aIZ(s:Bs):aV3 [.str s]=some (.bool (jK s)):=by
 refine Al (Qa rfl) ?_;unfold aMx;have a:=aIG s;unfold jK;by_cases c1:s=[]
 ·have j:=eq_true c1;simp only[↓C2,G9,G7,simprocAttr,j]
  all_goals exact Y6
 have j:=eq_false c1;by_cases n:s=[45]
 ·have v:=eq_true n;simp only[↓C2,G9,G7,simprocAttr,j,v]
  all_goals exact Y6
 have v:=eq_false n;by_cases o:s.length<=64
 ·have f:((s.length:Int)<=64)=True:=eq_true O;cases c4:Rt s 32 with
  |true=>
   simp only[↓C2,G9,G7,simprocAttr,j,v,f,c4,Ae aQo 182,a]
   all_goals exact Y6
  |false=>
   simp only[↓C2,G9,G7,simprocAttr,j,v,f,c4,Ae aQo 182,a]
   all_goals exact Y6
 ·have f:((s.length:Int)<=64)=False:=eq_false O;simp only[↓C2,G9,G7,simprocAttr,j,v,f]
  all_goals exact Y6
def aP1:(I1 λc x=>match x with| .str s=>some (.bool (!jK s))|_=>none).ok Qe 119:=by
 obtain⟨S,g,hl⟩:=Bv (Aa aUc Ad);have b:=hl 120 _ rfl;clear hl;refine N4 (S:=S) g (Aj func119:Fn Qe 119 6 aMy [.t 2]) (λx caps m fr c d w f j hl=>⟨O,?_⟩);split at f
 ·rename_i s;simp only[Ql]at f;subst f;have a:=aIZ s;unfold aMy;simp only[↓C2,G9,G7,simprocAttr,Ab b,a]
  try exact λi o y h=>h
 ·cases f
def KN:D->D->Option D:=λc x=>match x with| .str s=>some (.bool (!jK s))|_=>none
def aHB:(FY 119 none KN).ok Qe 181:=NS O aKV rfl aP1
def aPV:(iA 119 none KN).ok Qe 118:=qQ O aKZ aHB
def wU{l:List Bs}{nl:Bool}{t:Id}(hl:l.length<=1000000)(m:Ha)(fr:Id):
  (iA 119 none KN).ex [.slice nl t (strsD l),.fn 119 []] m fr=some (.bool (l.any λs=>!jK s),[]):=by
 have e:(strsD l).map (KN .junk)=(l.map λs=>!jK s).map λb=>some (.bool b):=by
  simp only[strsD,QR];exact Q3 λr _=>rfl
 have j:(strsD l).all (qC none)=true:=by
  rw[QT];intro x q;obtain⟨r,_,rfl⟩:=QL.1 q;rfl
 simp only[iA,AT,hl,j,and_self,if_true,F_,Qj,e,Dt,Qv];simp only[Zt];rfl
def aXx:=Ar []
def aQS:=RF aXx aLM [.t 4] 26
def aTY:Kq aQS 179:=Ap (Aj func179) Ad
def aIL{n1 n2:Bool}{l:List Bs}(hl:l.length<=100000):aQS [.slice n1 [] (strsD l),.slice n2 [] (strsD l)]=some (.bool true):=by
 refine Al (Qa rfl) ?_;unfold aLM;simp only[↓C2,Hc,Hl,G7,simprocAttr,AT];refine BO (n:=l.length) (I:=λj v=>v.s 0= .slice n1 [] (strsD l)∧v.s 1= .slice n2 [] (strsD l)∧v.s 12= .int .i64 l.length∧v.s 13= .int .i64 (j:Int)) (λj q ih v g e=>?_) (λv g e=>?_) 0 (Qu _) _ _ ⟨rfl,rfl,rfl,rfl⟩
 ·obtain⟨m,o,b⟩:=v;obtain⟨f,u,y,p⟩:=e;simp only at f u y p;refine Af Vu.eq_1 ?_;have w:((j:Int)<l.length):=by omega
  have i:=nJ (j:=j);have t:=wJ (j:=j) O;have c:=DB q;simp only[↓C2,G9,G7,simprocAttr,f,u,y,p,w,i,Qh,c];refine A1 ?_;simp only[↓C2,Hc,G7,simprocAttr,p,t];exact ih _ _ ⟨f,u,y,rfl⟩
 ·obtain⟨f,u,y,p⟩:=e;refine Af Vu.eq_1 ?_;simp only[↓C2,G9,G7,simprocAttr,y,p,Qz]
  all_goals exact Y6
def aXn:=Ar []
def aQE:=RF aXn aLh [.t 4] 26
def aTG:Kq aQE 244:=Ap (Aj func244) Ad
def aIs{n1 n2:Bool}{l:List Rw}(hl:l.length<=100000):aQE [.slice n1 [] (A9 l),.slice n2 [] (A9 l)]=some (.bool true):=by
 refine Al (Qa rfl) ?_;unfold aLh;simp only[↓C2,Hc,Hl,G7,simprocAttr,AP];refine BO (n:=l.length) (I:=λj v=>v.s 0= .slice n1 [] (A9 l)∧v.s 1= .slice n2 [] (A9 l)∧v.s 12= .int .i64 l.length∧v.s 13= .int .i64 (j:Int)) (λj q ih v g e=>?_) (λv g e=>?_) 0 (Qu _) _ _ ⟨rfl,rfl,rfl,rfl⟩
 ·obtain⟨m,o,b⟩:=v;obtain⟨f,u,y,p⟩:=e;simp only at f u y p;refine Af Vr.eq_1 ?_;have w:((j:Int)<l.length):=by omega
  have i:=nJ (j:=j);have t:=wJ (j:=j) O;have c:=EF q;have ta:Bi [.int .i64 l[j].1,.bool l[j].2.1,.bool l[j].2.2] [.int .i64 l[j].1,.bool l[j].2.1,.bool l[j].2.2] [(0,0),(1,1),(1,2)]=some true:=by simp[Bi,L3]
  simp only[Qv,↓C2,G9,G7,simprocAttr,f,u,y,p,w,i,Qh,c,ta];refine A1 ?_;simp only[↓C2,Hc,G7,simprocAttr,p,t];exact ih _ _ ⟨f,u,y,rfl⟩
 ·obtain⟨f,u,y,p⟩:=e;refine Af Vr.eq_1 ?_;simp only[↓C2,G9,G7,simprocAttr,y,p,Qz]
  all_goals exact Y6
def aVA:=Ar [(244,Ac aQE)]
def aQR:=RF aVA aLL [.t 4] 31
def aTX:Kq aQR 180:=Ap (Aj func180) (Aa aTG Ad)
def aIK(s:Sc)(hl:s.rs.length<=100000):aQR [.agg (Hg s),.agg (Hg s)]=some (.bool true):=by
 refine Al (Qa rfl) ?_;unfold aLL;have a:=aIs (n1:=s.nl) (n2:=s.nl) hl;unfold Hg;simp only[↓C2,G9,G7,simprocAttr,Ae aVA 244,a]
 all_goals exact Y6
def aWa:List D->Option D:=FX (λs:Bs=>[.str s]) (λ_=>True) (λs=> .str (if s=[]then [45]else s))
def V4(s:Bs):aWa [.str s]=some (.str (if s=[]then [45]else s)):=B3 (mk:=λs:Bs=>[.str s]) (λa b h=>Xo) trivial
def aSg:Kq aWa 331:=by
 refine C0 (S:=λ_=>none) A8 (Aj func331:Fn Qe 331 6 aLk [.t 2]) (λ_=>U) (λs _=>?_);unfold aLk;cases s with
 |nil=>
  simp only[↓C2,G9,reduceIte,Qb,Qd,and_self]
  all_goals exact Y7
 |cons x r=>
  have z:((x::r)==([]:Bs))=false:=rfl;simp only[↓C2,G9,reduceIte,Qb,Qd,reduceCtorEq]
  all_goals exact Y7
def Gj(n:Nat):Bs:=if n<10 then [NT n]else if n<100 then [NT (n / 10),NT (n % 10)]else [NT (n / 100),NT (n / 10 % 10),NT (n % 10)]
def aQ8:List D->Option D:=FX (λn:Nat=>[.int .i64 (n:Int)]) (λn=>n<1000) (λn=> .str (Gj n))
def V5{n:Nat}(h:n<1000):aQ8 [.int .i64 (n:Int)]=some (.str (Gj n)):=B3 (mk:=λn:Nat=>[.int .i64 (n:Int)]) (λa b h=>by simp only[Qc,D.int.injEq,true_and,and_true]at h;omega) h
def Uu(n:Nat):(n:Int).tmod 10=((n % 10:Nat):Int):=by rw[Int.tmod_eq_emod_of_nonneg O];omega
def Uv(n:Nat)(h:n<1000):IntKind.i64.wrap ((n:Int).tdiv 10)=((n / 10:Nat):Int):=by
 grind [Hy]
def aJ7:Kq aQ8 330:=by
 refine C0 (S:=λ_=>none) A8 (Aj func330:Fn Qe 330 23 aLl [.t 2]) (λ_=>U) (λn r=>?_);have t0:=Rr (n % 10) O;have z:=Rr (n / 10 % 10) O;have f:=Rr (n / 10 / 10 % 10) O;have m0:=Uu n;have o:=Uu (n / 10);have k:=Uu (n / 10 / 10);have a:=Uv n r;have b:=Uv (n / 10) O;have i:=Uv (n / 10 / 10) O;have z0:(0:Int)<=((n % 10:Nat):Int):=O
 have m:(0:Int)<=((n / 10 % 10:Nat):Int):=O
 have w:(0:Int)<=((n / 10 / 10 % 10:Nat):Int):=O
 have ten:((10:Int)=0)=False:=U
 unfold aLl Gj;by_cases u:n<10
 ·have g:¬((0:Int)<((n / 10:Nat):Int)):=by omega
  have e:n % 10=n:=O
  simp only[↓C2,G9,reduceIte,Qb,Qd,m0,z0,t0,a,ten,ne_eq,Qh,Qg,Qm,Qp];refine Af H5.eq_1 ?_;simp only[↓C2,G9,reduceIte,Qb,Qd,g,u];rw[e,UInt8.ofNat_toNat]
  all_goals exact Y7
 ·have g:((0:Int)<((n / 10:Nat):Int)):=by omega
  by_cases y:n<100
  ·have s:¬((0:Int)<((n / 10 / 10:Nat):Int)):=by omega
   have e:n / 10 % 10=n / 10:=O
   rw[e]at z o m;simp only[↓C2,G9,reduceIte,Qb,Qd,m0,z0,t0,a,ten,ne_eq,Qh,Qg,Qm,Qp];refine Af H5.eq_1 ?_;simp only[↓C2,G9,reduceIte,Qb,Qd,g,o,m,z,b,ten,ne_eq,Qh,Qt,Qg,Qm,Qp,Qf];refine Af H5.eq_1 ?_;simp only[↓C2,G9,reduceIte,Qb,Qd,s,u,y,UInt8.ofNat_toNat,Q0,Zl]
   all_goals exact Y7
  ·have s:((0:Int)<((n / 10 / 10:Nat):Int)):=by omega
   have x:¬((0:Int)<((n / 10 / 10 / 10:Nat):Int)):=O
   have e:n / 10 / 10 % 10=n / 100:=O
   rw[e]at f k w;simp only[↓C2,G9,reduceIte,Qb,Qd,m0,z0,t0,a,ten,ne_eq,Qh,Qg,Qm,Qp];refine Af H5.eq_1 ?_;simp only[↓C2,G9,reduceIte,Qb,Qd,g,o,m,z,b,ten,ne_eq,Qh,Qt,Qg,Qm,Qp,Qf];refine Af H5.eq_1 ?_;simp only[↓C2,G9,reduceIte,Qb,Qd,s,k,w,f,i,ten,ne_eq,Qh,Qq,Qt,Qg,Qm,Qp,Qf];refine Af H5.eq_1 ?_;simp only[↓C2,G9,reduceIte,Qb,Qd,x,u,y,UInt8.ofNat_toNat,Q0,Zl]
   all_goals exact Y7
def aQ9:List D->Option D:=FX (λs:Bs=>[.str s]) (λs=>s.length<=1000000) (λs=> .str (OU s))
def V6{s:Bs}(h:s.length<=1000000):aQ9 [.str s]=some (.str (OU s)):=B3 (mk:=λs:Bs=>[.str s]) (λa b h=>Xo) h
def aHb{S:G8}{l:Bs}{Q:Ex->St->Prop}(o:l.length<=1000000)
  (e:∀v t,v.s 3= .slice false t (AH (OU l))->Q (.exit 0) v):
  ∀(n k:Nat)(t:Id) v g,n=l.length-k->k<=l.length->v.s 13= .int .i64 (k:Int)->v.s 12= .int .i64 (l.length:Int)->v.s 11= .slice false [] (AH l)->v.s 3= .slice false t (AH (OU (l.take k)))->Gw v.m v.c 5 false t->
   Be S [] Pm Q v g:=by
 intro n;induction n with
 |zero=>
  intro k t v g r hk p w na i hg;refine Af Pm.eq_1 ?_;have:¬((k:Int)<l.length):=O
  simp only[↓C2,Hc,Hl,reduceIte,Qd,p,w,this];refine e _ t ?_;rw[QG O]at i;simp only[↓C2,reduceIte,Qb,i]
 |succ n ih=>
  intro k t v g r hk p w na i hg;refine Af Pm.eq_1 ?_;have u:((k:Int)<l.length):=O
  have ya:(0:Int)<=(k:Int):=O
  have j:k<l.length:=O
  have q:(AH l)[(k:Int).toNat]?=some (.int .u8 (l[k].toNat:Int)):=by simp[AH,j]
  have f:IntKind.i64.wrap ((k:Int)+1)=(k:Int)+1:=IntWalk.i64_in _ ⟨O,O⟩;have hc:=l[k].toNat_lt;have z:l.take (k+1)=l.take k++[l[k]]:=by rw[Zg,Qi j];rfl
  have y:(l.take k).length=k:=Xb
  have a:(0:Int)<=4:=V
  have a1:=aWp l[k].toNat O;have x:=aVo l[k].toNat O;have p1:(0:Int)<=((l[k].toNat / 16:Nat):Int):=O
  have p2:(0:Int)<=((l[k].toNat % 16:Nat):Int):=O
  have q1:(((l[k].toNat / 16:Nat):Int)).toNat=l[k].toNat / 16:=Qh _;have q2:(((l[k].toNat % 16:Nat):Int)).toNat=l[k].toNat % 16:=Qh _;have b:=Rr (l[k].toNat / 16) O;have t2:=Rr (l[k].toNat % 16) O;simp only[↓C2,G9,reduceIte,Qb,Qd,Qg,Qm,p,w,na,i,u,ya,q,a,a1,x,p1,p2,q1,q2,b,t2,false_and,reduceCtorEq];refine Au.intro ⟨by rw[Cp,hexB_len,y];omega,rfl,hg.grow O⟩ ?_;simp only[↓C2,G9,reduceIte,Qb,Qd];refine A1 ?_;simp only[↓C2,G9,reduceIte,Qb,Qd,p,f];refine ih (k+1) [v.c+1+3+8] _ _ O O rfl w na ?_ ?_
  ·rw[z,vC,Fj];rfl
  ·grind [Gw.new]
def aKb:Kq aQ9 14:=by
 refine C0 (S:=λ_=>none) A8 (Aj func14:Fn Qe 14 29 aLB [.t 2]) (λ_=>U) (λs o=>?_);have f:IntKind.i64.wrap (2*(s.length:Int))=2*(s.length:Int):=IntWalk.i64_in _ ⟨O,O⟩;have x:(0:Int)<=0:=V
 have w:(0:Int)<=2*(s.length:Int):=O
 have j:2*(s.length:Int)*2<=140737488355328:=O
 have y:(0:Int).toNat=0:=rfl;unfold aLB;simp only[↓C2,G9,reduceIte,Qb,Qd,f,x,w];refine Au.intro O ?_;simp only[↓C2,Hc,reduceIte,Qb,Qd,y,List.replicate_zero,Cp];refine aHb (l:=s) o (λv b u=>?_) s.length 0 [4] _ _ rfl O rfl rfl rfl rfl (.inr ⟨4,rfl,Xa,by simp[BM]⟩);simp only[↓C2,G9,reduceIte,Qb,Qd,u,Da]
 all_goals exact Y7
end Go.Vd
namespace Go.Proofs
open Go.Shelf
def aO:Go.Shelf.Ren:=⟨λ|156=>69|165=>121|166=>122|169=>123|240=>183|241=>184|276=>245|277=>246|n=>n,λ|31=>23|9=>9|3=>3|4=>4|0=>0|20=>20|72=>196|76=>200|70=>194|37=>108|75=>199|127=>252|164=>309|5=>5|80=>159|n=>n,λ|n=>n⟩
def aX:Go.Proofs.Lays.n156 Qe aO:={
 mixed:=Z
 f156:=func69.trans (congrArg some Z)
 f165:=func121.trans (congrArg some Z)
 f166:=func122.trans (congrArg some Z)
 f169:=func123.trans (congrArg some Z)
 f240:=func183.trans (congrArg some Z)
 f241:=func184.trans (congrArg some Z)
 f276:=func245.trans (congrArg some Z)
 f277:=func246.trans (congrArg some Z)
 t0:=underlying0
 a0:=isAgg0
 z0:=sizeOf0
 v0:=zeroValue0
 t3:=underlying3
 a3:=isAgg3
 z3:=sizeOf3
 v3:=zeroValue3
 t4:=underlying4
 a4:=isAgg4
 z4:=sizeOf4
 v4:=zeroValue4
 t9:=underlying9
 a9:=isAgg9
 z9:=sizeOf9
 v9:=zeroValue9
 t20:=underlying20
 a20:=isAgg20
 z20:=sizeOf20
 v20:=zeroValue20
 t31:=underlying23
 a31:=isAgg23
 z31:=sizeOf23
 v31:=zeroValue23
 t37:=underlying108
 a37:=isAgg108
 z37:=sizeOf108
 v37:=zeroValue108
 t70:=underlying194
 a70:=isAgg194
 z70:=sizeOf194
 v70:=zeroValue194
 t72:=underlying196
 a72:=isAgg196
 z72:=sizeOf196
 v72:=zeroValue196
 t75:=underlying199
 a75:=isAgg199
 z75:=sizeOf199
 v75:=zeroValue199
 t76:=underlying200
 a76:=isAgg200
 z76:=sizeOf200
 v76:=zeroValue200
 t127:=underlying252
 a127:=isAgg252
 z127:=sizeOf252
 v127:=zeroValue252
 t164:=underlying309
 a164:=isAgg309
 z164:=sizeOf309
 v164:=zeroValue309}
def aK:Builder.Extra Qe aO:={
 sizeBuilder:=Z
 liesBuilder:=Z
 t5:=underlying5
 a5:=isAgg5
 z5:=sizeOf5
 v5:=zeroValue5
 infoByte:=Z
 cellsByte:=Z
 sizeByte:=Z
 neB5:=V}
end Go.Proofs
namespace Go.Vd
open Go.Proofs Go.RowKit
inductive Ry where
 |fail (e:Int)
 |done
 |number (n:Int)
 |found (n:Int) (d:Bs)
 |about (s:Sc)
 |names (nl:Bool) (l:List Bs)
 |state (b:Bool)
def z0:List D:=[.int .i64 0,.bool false,.int .i64 0,.slice true [] []]
def HQ:Ry->List D
 | .fail e=>[.int .u8 0,.int .i64 e,.int .i64 0,.str [],.slice true [] [],.int .i64 0,.bool false,.int .i64 0,.slice true [] [],.bool false]
 | .done=>[.int .u8 1,.int .i64 0,.int .i64 0,.str [],.slice true [] [],.int .i64 0,.bool false,.int .i64 0,.slice true [] [],.bool false]
 | .number n=>[.int .u8 2,.int .i64 0,.int .i64 n,.str [],.slice true [] [],.int .i64 0,.bool false,.int .i64 0,.slice true [] [],.bool false]
 | .found n d=>[.int .u8 3,.int .i64 0,.int .i64 n,.str d,.slice true [] [],.int .i64 0,.bool false,.int .i64 0,.slice true [] [],.bool false]
 | .about s=>[.int .u8 4,.int .i64 0,.int .i64 0,.str [],.slice true [] [],.int .i64 s.mx,.bool s.cas,.int .i64 s.la,.slice s.nl [] (A9 s.rs),.bool false]
 | .names nl l=>[.int .u8 5,.int .i64 0,.int .i64 0,.str [],.slice nl [] (strsD l),.int .i64 0,.bool false,.int .i64 0,.slice true [] [],.bool false]
 | .state b=>[.int .u8 6,.int .i64 0,.int .i64 0,.str [],.slice true [] [],.int .i64 0,.bool false,.int .i64 0,.slice true [] [],.bool b]
def aGs:Ry->Prop
 | .about s=>s.rs.length<=1000
 | .names _ l=>l.length<=1000
 |_=>True
def Mo:Ry->Int
 | .fail e=>if 1<=e∧e<=99 then 0 else 2
 | .number n=>if 0<=n∧n<=999 then 0 else 2
 | .found n d=>if 0<=n∧n<=999∧d.length<=400 then 0 else 2
 | .about s=>if BU s 6=true then 2 else 0
 | .names _ l=>if l.length<=64∧(l.any λs=>!jK s)=false then 0 else 2
 |_=>0
def aQp:=Ar [(179,Ac aQS),(180,Ac aQR)]
def aI1:=RF aQp aMA [.t 4] 52
def aUe:Kq aI1 116:=Ap (Aj func116) (Aa aTY (Aa aTX Ad))
def G6(k e n:Int)(u:Bs)(nl:Bool)(l:List Bs)(s:Sc)(i:Bool)(hl:l.length<=1000)(g:s.rs.length<=1000):aI1 [.agg [.int .u8 k,.int .i64 e,.int .i64 n,.str u,.slice nl [] (strsD l),.int .i64 s.mx,.bool s.cas,.int .i64 s.la,.slice s.nl [] (A9 s.rs),.bool i],.agg [.int .u8 k,.int .i64 e,.int .i64 n,.str u,.slice nl [] (strsD l),.int .i64 s.mx,.bool s.cas,.int .i64 s.la,.slice s.nl [] (A9 s.rs),.bool i]]=some (.bool true):=by
 refine Al (Qa rfl) ?_;unfold aMA;have b:=aIL (n1:=nl) (n2:=nl) (l:=l) O;have a:=aIK s O;unfold Hg at a;simp only[Hb,↓C2,G7,simprocAttr,Ae aQp 179,b,Ae aQp 180,a]
 all_goals exact Y6
def aGq(y:Ry)(h:aGs y):aI1 [.agg (HQ y),.agg (HQ y)]=some (.bool true):=by
 have o:strsD []=[]:=rfl;have w:A9 []=[]:=rfl;cases y with
 |fail e=>exact G6 0 e 0 [] true [] sc0 false U XA
 |done=>exact G6 1 0 0 [] true [] sc0 false U XA
 |number n=>exact G6 2 0 n [] true [] sc0 false U XA
 |found n d=>exact G6 3 0 n d true [] sc0 false U XA
 |about s=>exact G6 4 0 0 [] true [] s false U h
 |names nl l=>exact G6 5 0 0 [] nl l sc0 false h XA
 |state b=>exact G6 6 0 0 [] true [] sc0 b U XA
def aXE:=Ar []
def aQZ:=RF aXE aMz [.cell (some 10) 2] 52
def aUd:Kq aQZ 117:=Ap (Aj func117) Ad
def aI0(y:Ry):aQZ [.agg (HQ y)]=some (.agg (HQ y)):=by
 refine Al (Qa rfl) ?_;unfold aMz;cases y<;>unfold HQ
 all_goals
  simp only[Hb,↓C2,G7,simprocAttr]
  all_goals exact Y6
def VX:=Ar [(117,Ac aQZ),(116,Ac aI1),(25,Ac Iq),(118,iA 119 none KN)]
def R92:=RF VX aUJ [.t 2] 73
def aWS:Kq R92 67:=Ap (Aj func67) (Aa aUd (Aa aUe (Aa OE (Aa aPV Ad))))
def aQu(y:Ry)(h:aGs y):R92 [.agg (HQ y)]=some (.int .i64 (Mo y)):=by
 refine Al (Qa rfl) ?_;unfold aUJ;have c:=aI0 y;have a:=aGq y h;cases y with
 |fail e=>
  unfold HQ Mo at *;simp only[Hb,↓C2,G7,simprocAttr,Ae VX 117,c,Ae VX 116,a];refine A1 ?_;by_cases c1:1<=e
  ·by_cases q:e<=99
   ·simp only[↓C2,G9,G7,simprocAttr,c1,q]
    all_goals exact Y6
   ·simp only[↓C2,G9,G7,simprocAttr,c1,q]
    all_goals exact Y6
  ·simp only[↓C2,G9,G7,simprocAttr,c1]
   all_goals exact Y6
 |done=>
  unfold HQ Mo at *;simp only[Hb,↓C2,G7,simprocAttr,Ae VX 117,c,Ae VX 116,a];refine A1 ?_;simp only[↓C2,G9,G7,simprocAttr]
  all_goals exact Y6
 |number n=>
  unfold HQ Mo at *;simp only[Hb,↓C2,G7,simprocAttr,Ae VX 117,c,Ae VX 116,a];refine A1 ?_;by_cases c1:0<=n
  ·by_cases q:n<=999
   ·simp only[↓C2,G9,G7,simprocAttr,c1,q,Qm,Zr]
    all_goals exact Y6
   ·simp only[↓C2,G9,G7,simprocAttr,c1,q]
    all_goals exact Y6
  ·simp only[↓C2,G9,G7,simprocAttr,c1]
   all_goals exact Y6
 |found n d=>
  unfold HQ Mo at *;simp only[Hb,↓C2,G7,simprocAttr,Ae VX 117,c,Ae VX 116,a];refine A1 ?_;by_cases c1:0<=n
  ·by_cases q:n<=999
   ·by_cases o:d.length<=400
    ·have f:((d.length:Int)<=400)=True:=eq_true O;simp only[↓C2,G9,G7,simprocAttr,c1,q,f]
     all_goals exact Y6
    ·have f:((d.length:Int)<=400)=False:=eq_false O;simp only[↓C2,G9,G7,simprocAttr,c1,q,f]
     all_goals exact Y6
   ·simp only[↓C2,G9,G7,simprocAttr,c1,q]
    all_goals exact Y6
  ·simp only[↓C2,G9,G7,simprocAttr,c1]
   all_goals exact Y6
 |about s=>
  have z:=FR s 6 false h;unfold Ss Hg at z;unfold HQ Mo at *;simp only[Hb,↓C2,G7,simprocAttr,Ae VX 117,c,Ae VX 116,a];refine A1 ?_;cases hb:BU s 6 with
  |true=>
   rw[hb]at z;simp only[if_true]at z;simp only[Hb,↓C2,G7,simprocAttr,Ae VX 25,z]
   all_goals exact Y6
  |false=>
   rw[hb]at z;simp only[if_false,Qs]at z;simp only[Hb,↓C2,G7,simprocAttr,Ae VX 25,z]
   all_goals exact Y6
 |names nl l=>
  have g:=λ(m:Ha)(fr:Id)=>wU (l:=l) (nl:=nl) (t:=[]) (by have:l.length<=1000:=h;omega) m fr
  unfold HQ Mo at *;simp only[Hb,↓C2,G7,simprocAttr,Ae VX 117,c,Ae VX 116,a];refine A1 ?_;by_cases c1:l.length<=64
  ·have j:((l.length:Int)<=64)=True:=eq_true O;cases q:l.any λs=>!jK s with
   |true=>
    rw[q]at g;simp only[↓C2,G9,G7,simprocAttr,j,AT,AD VX 118,g]
    all_goals exact Y6
   |false=>
    rw[q]at g;simp only[↓C2,G9,G7,simprocAttr,j,AT,AD VX 118,g]
    all_goals exact Y6
  ·have j:((l.length:Int)<=64)=False:=eq_false O;simp only[↓C2,G9,G7,simprocAttr,j,AT]
   all_goals exact Y6
 |state b=>
  unfold HQ Mo at *;simp only[Hb,↓C2,G7,simprocAttr,Ae VX 117,c,Ae VX 116,a];refine A1 ?_;simp only[↓C2,G9,G7,simprocAttr]
  all_goals exact Y6
def dgB:∀d:Fin 10,UInt8.ofNat (IntKind.u8.wrap (48+((d.val:Nat):Int))).toNat=NT d.val:=V
def dgO(n:Nat):UInt8.ofNat (IntKind.u8.wrap (IntKind.i64.wrap (48+((n % 10:Nat):Int)))).toNat=NT (n % 10):=by
 rw[Hy O O];exact dgB ⟨n % 10,O⟩
def un1(a:Int):BG [.int .u8 a]=some [UInt8.ofNat a.toNat]:=rfl
theorem E8(n:Nat):(Gj n).length<=3:=by
 grind [Gj]
def aXu:=Ar []
def aIF:=RF aXu aLC [.t 2] 17
def aKt:Kq aIF 124:=Ap (Aj func124) Ad
def LD(n:Nat)(h:n<1000):aIF [.int .i64 (n:Int)]=some (.str (Gj n)):=by
 refine Al (Qa rfl) ?_;unfold aLC;have i:∀k:Nat,k<1000->IntKind.i64.wrap ((k:Int).tdiv 10)=((k / 10:Nat):Int):=Uv;have z:=i n h;have t:=i (n / 10) O;have y:=i (n / 10 / 10) O;have a:∀c:UInt8,AQ .add (.str [c]) (.str [])=some (.str [c]):=λc=>I6 U
 have a1:∀c d:UInt8,AQ .add (.str [c]) (.str [d])=some (.str [c,d]):=λc d=>I6 U
 have b:∀c d e:UInt8,AQ .add (.str [c]) (.str [d,e])=some (.str [c,d,e]):=λc d e=>I6 U
 have j:∀k:Nat,AQ .rem (.int .i64 (k:Int)) (.int .i64 10)=some (.int .i64 ((k % 10:Nat):Int)):=λk=>by rw[←Uu];rfl
 have v:∀k:Nat,AQ .quo (.int .i64 (k:Int)) (.int .i64 10)=some (.int .i64 (IntKind.i64.wrap ((k:Int).tdiv 10))):=λk=>rfl
 unfold Gj;simp only[↓C2,Hc,simprocAttr];refine Af Pn.eq_1 ?_;by_cases c1:n<10
 ·have m:(((n / 10:Nat):Int)=0)=True:=eq_true O;have w:n % 10=n:=by omega
  simp only[Qv,↓C2,G9,G7,simprocAttr,j,v,z,dgO,a,m];rw[w,if_pos c1]
 ·have m:(((n / 10:Nat):Int)=0)=False:=eq_false O;simp only[Qv,↓C2,G9,G7,simprocAttr,j,v,z,dgO,a,m];refine Af Pn.eq_1 ?_;by_cases q:n<100
  ·have w:(((n / 10 / 10:Nat):Int)=0)=True:=eq_true O;have o:n / 10 % 10=n / 10:=by omega
   simp only[Qv,↓C2,G9,G7,simprocAttr,j,v,t,dgO,a1,w];rw[o,if_neg c1,if_pos q]
  ·have w:(((n / 10 / 10:Nat):Int)=0)=False:=eq_false O;simp only[Qv,↓C2,G9,G7,simprocAttr,j,v,t,dgO,a1,w];refine Af Pn.eq_1 ?_;have s:(((n / 10 / 10 / 10:Nat):Int)=0)=True:=eq_true O;have z5:n / 10 / 10 % 10=n / 100:=by omega
   simp only[Qv,↓C2,G9,G7,simprocAttr,j,v,y,dgO,b,s];rw[z5,if_neg c1,if_neg q]
def EC(x:Rw):Bs:=Gj x.1.toNat++(if x.2.1=true then [33]else [])++(if x.2.2=true then [35]else [])
def aVy:=Ar [(124,Ac aIF)]
def aQN:=RF aVy aLA [.t 2] 16
def aTT:Kq aQN 125:=Ap (Aj func125) (Aa aKt Ad)
def aIE(x:Rw)(h:0<=x.1∧x.1<1000):aQN [.agg [.int .i64 x.1,.bool x.2.1,.bool x.2.2]]=some (.str (EC x)):=by
 refine Al (Qa rfl) ?_;unfold aLA;have a:=LD x.1.toNat O;rw[Qx h.1]at a;have hl:=E8 x.1.toNat;unfold EC;generalize Gj x.1.toNat=s at *;have a1:∀c:UInt8,AQ .add (.str s) (.str [c])=some (.str (s++[c])):=λc=>I6 Xb
 have b:∀c d:UInt8,AQ .add (.str (s++[c])) (.str [d])=some (.str (s++[c]++[d])):=λc d=>I6 Xb
 obtain⟨n,g,d⟩:=x;simp only at *;cases g<;>cases d
 all_goals
  simp only[↓C2,G9,G7,simprocAttr,Ae aVy 124,a,a1,b]
  all_goals exact Y6
def aXt:=Ar []
def aQM:=RF aXt aLz [.t 2] 4
def aTS:Kq aQM 126:=Ap (Aj func126) Ad
def aID(b:Bool):aQM [.bool b]=some (.str [if b=true then 49 else 48]):=by
 refine Al (Qa rfl) ?_;unfold aLz;cases b
 all_goals
  simp only[↓C2,Hc,H_,G7,simprocAttr]
  all_goals exact Y6
def Tq(l:List Bs):Bs:=if l=[]then [45]else Lib.join l [44]
def aKA:Kq dD 69:=aBR aX aK ⟨_,func69,Z,Z⟩
def dB{l:List Bs}{s:Bs}(h:l≠[]∧l.length<=1000∧CH l<=1000000∧s.length<=1000∧(Lib.join l s).length<=10000000):dD [.slice false [] (strsD l),.str s]=some (.str (Lib.join l s)):=B3 (mk:=mkJ) (a:=(l,s)) aG5 h
def aVx:=Ar [(69,Ac dD)]
def aQL:=RF aVx aLy [.t 2] 8
def aTR:Kq aQL 127:=Ap (Aj func127) (Aa aKA Ad)
def rN(nl:Bool)(l:List Bs)(g:nl=true->l=[])(h:l.length<=1000∧CH l<=1000000∧(Lib.join l [44]).length<=10000000):aQL [.slice nl [] (strsD l)]=some (.str (Tq l)):=by
 refine Al (Qa rfl) ?_;unfold aLy;unfold Tq;by_cases c:l=[]
 ·have c':((l.length:Int)=0)=True:=eq_true (by rw[c];rfl);simp only[↓C2,G9,G7,simprocAttr,c',AT];simp[c]
 ·have c':((l.length:Int)=0)=False:=eq_false (by
   intro e;exact c (QW.1 O))
  have a:nl=false:=by
   simp_all
  subst a;have m:=dB (l:=l) (s:=[44]) ⟨c,h.1,h.2.1,U,h.2.2⟩;simp only[↓C2,G9,G7,simprocAttr,c',AT,Ae aVx 69,m];simp[c]
def Om:Ry->List Bs
 | .fail e=>[[101,114,114,111,114],Gj e.toNat]
 | .done=>[[111,107]]
 | .number n=>[[111,107],[110,117,109,98,101,114],Gj n.toNat]
 | .found n d=>[[111,107],[102,111,117,110,100],Gj n.toNat,if d=[]then [45]else OU d]
 | .about s=>[[111,107],[97,98,111,117,116],Gj s.mx.toNat,[if s.cas=true then 49 else 48],Gj s.la.toNat,Tq (s.rs.map EC)]
 | .names _ l=>[[111,107],[110,97,109,101,115],Tq l]
 | .state b=>if b=true then [[111,107],[115,101,97,108,101,100]]else [[111,107],[111,112,101,110]]
def ryG:Ry->Prop
 | .fail e=>0<=e∧e<1000
 | .number n=>0<=n∧n<1000
 | .found n d=>0<=n∧n<1000∧d.length<=1000
 | .about s=>s.rs.length<=100∧(0<=s.mx∧s.mx<1000)∧(0<=s.la∧s.la<1000)∧∀x∈s.rs,0<=x.1∧x.1<1000
 | .names nl l=>l.length<=1000∧(nl=true->l=[])∧CH l<=1000000
 |_=>True
theorem join_len:∀(l:List Bs)(s:Bs),(Lib.join l s).length<=CH l+l.length*s.length
 |[],s=>by simp[Lib.join]
 |[x],s=>by simp[Lib.join,CH]
 |x::y::r,s=>by
  have ih:=join_len (y::r) s;have e:Lib.join (x::y::r) s=x++s++Lib.join (y::r) s:=by simp[Lib.join]
  rw[e,Qq,Qq];simp only[CH,Qg]at ih ⊢;rw[Nat.succ_mul];omega
def uB(x:Rw):(EC x).length<=5:=by
 grind [E8,EC]
def PR:∀l:List Rw,CH (l.map EC)<=5*l.length
 |[]=>by simp[CH]
 |x::r=>by
  have:=PR r;have:=uB x;simp only[QD,CH,Qg];omega
def R5:=Ar [(124,Ac aIF),(126,Ac aQM),(127,Ac aQL),(125,Ac aQN),(14,Ac aQ9)]
def aQY:=RF R5 aMf [.t 2] 78
def aUb:Kq aQY 70:=Ap (Aj func70) (Aa aKt (Aa aTS (Aa aTR (Aa aTT (Aa aKb Ad)))))
def aIX(y:Ry)(h:ryG y):aQY [.agg (HQ y)]=some (.slice false [] (strsD (Om y))):=by
 refine Al (Qa rfl) ?_;unfold aMf;cases y with
 |fail e=>
  have a:=LD e.toNat Yw;rw[Qx h.1]at a;unfold HQ Om strsD;simp only[↓C2,G9,G7,simprocAttr,Ae R5 124,a]
  all_goals exact Y6
 |done=>
  unfold HQ Om strsD;simp only[↓C2,G9,G7,simprocAttr]
  all_goals exact Y6
 |number n=>
  have a:=LD n.toNat Yw;rw[Qx h.1]at a;unfold HQ Om strsD;simp only[↓C2,G9,G7,simprocAttr,Ae R5 124,a]
  all_goals exact Y6
 |found n d=>
  have a:=LD n.toNat Yw;rw[Qx h.1]at a;have i:=V6 (s:=d) (by have:=h.2.2;omega);unfold HQ Om strsD;by_cases c:d=[]
  ·have c':=eq_true c;simp only[↓C2,G9,G7,simprocAttr,Ae R5 124,a,c'];simp[]
  ·have c':=eq_false c;simp only[↓C2,G9,G7,simprocAttr,Ae R5 124,a,Ae R5 14,i,c'];simp[]
 |names nl l=>
  obtain⟨h1,w,h3⟩:=h;have p:=rN nl l w ⟨h1,h3,by have:=join_len l [44];simp at this;omega⟩;unfold HQ Om;simp only[↓C2,G9,G7,simprocAttr,Ae R5 127,p]
  all_goals exact Y6
 |state b=>
  unfold HQ Om strsD;cases b with
  |true=>
   simp only[↓C2,G9,G7,simprocAttr]
   all_goals exact Y6
  |false=>
   simp only[↓C2,G9,G7,simprocAttr]
   all_goals exact Y6
 |about s=>
  obtain⟨g1,g2,g3,g4⟩:=h;have h1:=LD s.mx.toNat O;rw[Qx g2.1]at h1;have w:=LD s.la.toNat O;rw[Qx g3.1]at w;have r:=aID s.cas;have u:=PR s.rs;have p:=λnl hn=>rN nl (s.rs.map EC) hn ⟨Xb,O,by have:=join_len (s.rs.map EC) [44];simp at this;omega⟩
  unfold HQ Om;simp only[↓C2,G9,G7,simprocAttr,AP];refine BO (n:=s.rs.length) (I:=λj v=>v.s 38= .slice s.nl [] (A9 s.rs)∧v.s 39= .int .i64 s.rs.length∧v.s 40= .int .i64 (j:Int)∧v.s 1= .ptr [0] 0∧∃nl t,v.s 4= .slice nl t (strsD ((s.rs.take j).map EC))∧nl=decide (j=0)∧LG 1 _ 9 v.m v.c nl t) (λj hj ih v g hI=>?_) (λv g hI=>?_) 0 (Qu _) _ _ ⟨rfl,rfl,rfl,rfl,true,[],rfl,rfl,LG.start Xa⟩
  ·obtain⟨ma,ia,ea⟩:=v;obtain⟨ca,f,o,hp,nl,t,h4,pa,hG⟩:=hI;simp only at ca f o hp h4 hG;refine Af VE.eq_1 ?_;have da:((j:Int)<s.rs.length):=by omega
   have oa:=nJ (j:=j);have hw:=wJ (j:=j) O;have ka:=EF hj;have q:=aIE s.rs[j] (g4 _ (QX hj));have z:strsD ((s.rs.take (j+1)).map EC)=strsD ((s.rs.take j).map EC)++[.str (EC s.rs[j])]:=by
    rw[QF hj,Q_];simp[strsD]
   have va:(strsD ((s.rs.take j).map EC)).length=j:=by simp[strsD];omega
   have na:nl=true->strsD ((s.rs.take j).map EC)=[]:=by
    grind
   generalize strsD ((s.rs.take j).map EC)=ba at h4 z va na;generalize s.rs[j]=x at ka z q;simp only[Hb,↓C2,G7,simprocAttr,ca,f,o,h4,da,oa,Qh,ka,Ae R5 125,q];refine Au.intro ⟨O,rfl,Yy⟩ ?_;rw[B8 na,←z];simp only[↓C2,Hc,simprocAttr,o,hw];exact ih _ _ ⟨ca,f,rfl,hp,false,_,rfl,U,Y3⟩
  ·obtain⟨ma,ia,ea⟩:=v;obtain⟨ca,f,o,hp,nl,t,h4,pa,hG⟩:=hI;simp only at ca f o hp h4 hG;refine Af VE.eq_1 ?_;have m0:∀k,ia [0] k=_:=λk=>hG.low 0 k O
   rw[Zi]at h4;have hh:=p nl (by
    rw[pa];intro h;have:s.rs.length=0:=Xo
    simp[QW.1 this])
   unfold strsD at h4 hh ⊢;simp only[↓C2,G9,G7,simprocAttr,f,o,hp,h4,Qz,m0,Ae R5 124,h1,w,Ae R5 126,r,Ae R5 127,hh];refine A1 ?_;simp only[↓C2,Hc,H_,G7,simprocAttr]
   all_goals exact Y6
def spJ(l:List Bs):Bs:=Lib.join l [32]
def Is(y:Ry):Bs:=if Mo y=0 then spJ (Om y)else []
def aAp(y:Ry):Om y≠[]:=by
 cases y<;>simp[Om];split<;>simp
end Go.Vd
namespace Go.Proofs
open Go.Shelf
def aN:Go.Shelf.Ren:=⟨λ|168=>255|169=>123|240=>183|242=>308|276=>245|278=>329|277=>246|n=>n,λ|31=>23|9=>9|3=>3|4=>4|0=>0|20=>20|21=>21|72=>196|76=>200|70=>194|37=>108|75=>199|127=>252|164=>309|5=>5|80=>159|46=>109|51=>268|n=>n,λ|n=>n⟩
def bD:Go.Proofs.Lays.n168 Qe aN:={
 mixed:=Z
 f168:=func255.trans (congrArg some Z)
 f240:=func183.trans (congrArg some Z)
 f242:=func308.trans (congrArg some Z)
 f276:=func245.trans (congrArg some Z)
 f278:=func329.trans (congrArg some Z)
 t0:=underlying0
 a0:=isAgg0
 z0:=sizeOf0
 v0:=zeroValue0
 t3:=underlying3
 a3:=isAgg3
 z3:=sizeOf3
 v3:=zeroValue3
 t4:=underlying4
 a4:=isAgg4
 z4:=sizeOf4
 v4:=zeroValue4
 t5:=underlying5
 a5:=isAgg5
 z5:=sizeOf5
 v5:=zeroValue5
 t9:=underlying9
 a9:=isAgg9
 z9:=sizeOf9
 v9:=zeroValue9
 t20:=underlying20
 a20:=isAgg20
 z20:=sizeOf20
 v20:=zeroValue20
 t21:=underlying21
 a21:=isAgg21
 z21:=sizeOf21
 v21:=zeroValue21
 t37:=underlying108
 a37:=isAgg108
 z37:=sizeOf108
 v37:=zeroValue108
 t46:=underlying109
 a46:=isAgg109
 z46:=sizeOf109
 v46:=zeroValue109
 t51:=underlying268
 a51:=isAgg268
 z51:=sizeOf268
 v51:=zeroValue268
 t70:=underlying194
 a70:=isAgg194
 z70:=sizeOf194
 v70:=zeroValue194
 t72:=underlying196
 a72:=isAgg196
 z72:=sizeOf196
 v72:=zeroValue196
 t75:=underlying199
 a75:=isAgg199
 z75:=sizeOf199
 v75:=zeroValue199
 t164:=underlying309
 a164:=isAgg309
 z164:=sizeOf309
 v164:=zeroValue309}
def bE:Go.Proofs.Lays.n169 Qe aN:={
 mixed:=Z
 f169:=func123.trans (congrArg some Z)
 t0:=underlying0
 a0:=isAgg0
 z0:=sizeOf0
 v0:=zeroValue0
 t3:=underlying3
 a3:=isAgg3
 z3:=sizeOf3
 v3:=zeroValue3
 t9:=underlying9
 a9:=isAgg9
 z9:=sizeOf9
 v9:=zeroValue9
 t37:=underlying108
 a37:=isAgg108
 z37:=sizeOf108
 v37:=zeroValue108
 t70:=underlying194
 a70:=isAgg194
 z70:=sizeOf194
 v70:=zeroValue194
 t72:=underlying196
 a72:=isAgg196
 z72:=sizeOf196
 v72:=zeroValue196
 t127:=underlying252
 a127:=isAgg252
 z127:=sizeOf252
 v127:=zeroValue252}
def bB:Builder.Extra Qe aN:={
 sizeBuilder:=Z
 liesBuilder:=Z
 t5:=underlying5
 a5:=isAgg5
 z5:=sizeOf5
 v5:=zeroValue5
 infoByte:=Z
 cellsByte:=Z
 sizeByte:=Z
 neB5:=V}
end Go.Proofs
namespace Go.Ve
open Go.Vd
open Go.Proofs Go.RowKit
def six:List UInt8:=[114,119,100,120,108,115]
def ED(c:Nat):Nat->List UInt8
 |0=>[]
 |k+1=>ED c k++(if c / 2 ^ k % 2=1 then [six.getD k 0]else [])
structure aXJ (w0:World) (c k:Nat) (a:Act) (w:World):Prop where
 slots:∃x4 x5 x7 x8 x9 x10 x11 x12 x13 x14 x15 x16 x17:Value,a={tmps:=#[.int .u8 (c:Int),undef,.string ⟨#[]⟩,.pointer (some ⟨w0.heap.size,0,none⟩),x4,x5,.pointer (some ⟨w0.heap.size+1,0,none⟩),x7,x8,x9,x10,x11,x12,x13,x14,x15,x16,x17,undef],defers:=[]}
 iter:w.heap[w0.heap.size+1]?=some (.stringIter ⟨#[114,119,100,120,108,115]⟩ k)
 bld:Lib.IsBuilderF 196 5 w0.heap.size w0.heap.size (Lib.byteCells (ED c k)) w
 bel:Below w0.heap.size w0 w
def WM{P:Program}{w:World}{b:Nat}{s:ByteArray}{z:Nat}{ty:TypeId}(h:w.heap[b]?=some (.stringIter s z))(k:z<s.size):
  (Instr.next (.pointer (some ⟨b,0,none⟩)) true ty).run P w= .ok (.tuple #[.bool true,.int .i64 (z:Nat),.int .i32 (Utf8.decode s z).1]) {w with heap:=w.heap.setIfInBounds b (.stringIter s (z+(Utf8.decode s z).2))}:=by
 have x:(getObj b).run P w= .ok (.stringIter s z) w:=by simp[getObj,Sem.run,h]
 have na:∀o',(setObj b o').run P w= .ok () {w with heap:=w.heap.setIfInBounds b o'}:=by intro o';simp[setObj,Sem.run,h]
 simp only[Instr.next,Sem.run_bind,x,Result.andThen_ok,k,if_true];cases hd:Utf8.decode s z with
 |mk c y=>
  simp only[na,Result.andThen_ok,Sem.run_pure];rfl
def Uy{P:Program}{w:World}{b:Nat}{s:ByteArray}{z:Nat}{ty:TypeId}(h:w.heap[b]?=some (.stringIter s z))(c:¬z<s.size):
  (Instr.next (.pointer (some ⟨b,0,none⟩)) true ty).run P w= .ok (.tuple #[.bool false]) w:=by
 have x:(getObj b).run P w= .ok (.stringIter s z) w:=by simp[getObj,Sem.run,h]
 simp only[Instr.next,Sem.run_bind,x,Result.andThen_ok,c,if_false,Sem.run_pure]
def aHK:∀k,k<6->Utf8.decode ⟨#[114,119,100,120,108,115]⟩ k=((six.getD k 0).toNat,1):=Xk
def aH4:∀c:Nat,c<64->∀k,k<6->(bits BinOp.and IntKind.u8 ((c:Int) / 2 ^ k) 1==1)=decide (c / 2 ^ k % 2=1):=Xk
def aAt:∀k,k<6->Lib.runeCells (((six[k]?.getD 0).toNat:Nat):Int)=Lib.byteCells [six.getD k 0]
 |0,_=>rfl
 |1,_=>rfl
 |2,_=>rfl
 |3,_=>rfl
 |4,_=>rfl
 |5,_=>rfl
 |k+6,h=>absurd h O
def Ti(c:Nat):∀k,(ED c k).length<=k
 |0=>QB _
 |k+1=>by
  have:=Ti c k;unfold ED;rw[Qq];split<;>simp<;>omega
def NB{w:World}{r j:Nat}{o:Obj}(h:j≠r):(w.heap.setIfInBounds r o)[j]?=w.heap[j]?:=by
 grind
def aDO{w:World}{B b r:Nat}{bs:List Value}{o:Obj}{s:ByteArray}{p:Nat}(h:Lib.IsBuilderF 196 5 B b bs w)(hi:w.heap[r]?=some (.stringIter s p)):Lib.IsBuilderF 196 5 B b bs {w with heap:=w.heap.setIfInBounds r o}:=by
 have z:∀q,Lib.BuilderAtF 196 5 B b q bs w->Lib.BuilderAtF 196 5 B b q bs {w with heap:=w.heap.setIfInBounds r o}:=by
  rintro q ⟨u,v,y,i,h4⟩;have f:b≠r:=λe=>by rw[e,hi]at y;cases y
  refine⟨u,v,by show(w.heap.setIfInBounds r o)[b]?=_;rw[NB f];exact y,⟨i.1,?_⟩,h4⟩;rcases i.2 with h|⟨g,cap,cur,fz,n,m,j,t⟩
  ·exact .inl h
  ·have a:g≠r:=λe=>by rw[e,hi]at j;cases j
   exact .inr ⟨g,cap,cur,fz,n,m,by show(w.heap.setIfInBounds r o)[g]?=_;rw[NB a];exact j,t⟩
 exact h.elim (λx=> .inl (z _ x)) (λx=> .inr (z _ x))
theorem xO {B r : Nat} {w j : World} {o : Obj} (h : Below B w j) (f : B ≤ r) : Below B w { j with heap := j.heap.setIfInBounds r o } :=
 ⟨h.os, h.tape, h.output, by show _ ≤ (j.heap.setIfInBounds r o).size; rw [Array.size_setIfInBounds]; exact h.size, fun k s => by
  show (j.heap.setIfInBounds r o)[k]? = _
  rw [NB O]
  exact h.block k s⟩
theorem aWk(w:World)(c:Nat)(z:c<64):
  Calls Qe 200 #[.int .u8 (c:Int)] w λe w'=>e= .returned (.string ⟨(ED c 6).toArray⟩)∧Below w.heap.size w w':=by
 have u:(w.alloc (Obj.cells #[Value.pointer none,Value.slice none 0 0] 196)).heap.size=w.heap.size+1:=Array.size_push _
 go_enter func200,ntmps200
 go_wp2
 refine SR (λn a w'=>∃k,k<=6∧n=6-k∧aXJ w c k a w') ?_ (n:=6) ⟨0,O,rfl,⟨⟨_,_,_,_,_,_,_,_,_,_,_,_,_,rfl⟩,?_,?_,?_⟩⟩
 ·rintro n a w1 ⟨k,y,rfl,⟨x4,x5,x7,x8,x9,i,q,l,j,p,m,s,r,rfl⟩,hi,hb,hB⟩
  go_wp2
  by_cases t:k<6
  ·rw[WM hi (by show k<6;exact t),aHK k t];simp only[Result.andThen];rw[Oper.upon_value];have b:=aH4 c z k t;have sa:=Ti c k;have g:(w1.heap.setIfInBounds (w.heap.size+1) (.stringIter ⟨#[114,119,100,120,108,115]⟩ (k+1)))[w.heap.size+1]?=some (.stringIter ⟨#[114,119,100,120,108,115]⟩ (k+1)):=by
    grind
   have na:=aDO (o:= .stringIter ⟨#[114,119,100,120,108,115]⟩ (k+1)) hb hi;have f:=xO (o:= .stringIter ⟨#[114,119,100,120,108,115]⟩ (k+1)) hB (Nat.le_succ w.heap.size);by_cases d:c / 2 ^ k % 2=1
   ·rw[decide_eq_true d]at b
    go_wp2_with fail
    refine(Go.Proofs.Any.Builder_WriteRune_k bD bB w.heap.size w.heap.size (Lib.byteCells (ED c k)) _ YZ YZ _ na (by simp[Lib.byteCells];omega) f.size).mono ?_;rintro e w3 ⟨rfl,x,ea,h⟩;rw[aAt k t]at x
    go_wp2
    refine⟨6-(k+1),O,k+1,O,rfl,⟨⟨_,_,_,_,_,_,_,_,_,_,_,_,_,rfl⟩,?_,?_,f.trans ea⟩⟩
    ·exact h _ _ g U (λ_ _=>U)
    ·refine .inr ?_;have e:ED c (k+1)=ED c k++[six.getD k 0]:=by simp only[ED,d,if_true]
     rw[e];have v:Lib.byteCells (ED c k++[six.getD k 0])=Lib.byteCells (ED c k)++Lib.byteCells [six.getD k 0]:=by simp[Lib.byteCells]
     rw[v];exact x
   ·rw[decide_eq_false d]at b
    go_wp2_with fail
    refine⟨6-(k+1),O,k+1,O,rfl,⟨⟨_,_,_,_,_,_,_,_,_,_,_,_,_,rfl⟩,g,?_,f⟩⟩;have e:ED c (k+1)=ED c k:=by simp only[ED,d,if_false,QI]
    rw[e];exact na
  ·rw[Uy hi (by show ¬k<6;exact t)];simp only[Result.andThen];rw[Oper.upon_value];obtain rfl:k=6:=by omega
   go_wp2_with fail
   refine(Go.Proofs.Any.Builder_String_any_f bE bB w.heap.size w.heap.size (ED c 6) w1 hb hB.size).mono ?_;rintro e w3 ⟨rfl,_,ea⟩
   go_wp2
   go_ret
   exact⟨rfl,hB.trans ea⟩
 ·have e:=heap_alloc_new (w.alloc (Obj.cells #[Value.pointer none,Value.slice none 0 0] 196)) (.stringIter ⟨#[114,119,100,120,108,115]⟩ 0);rw[u]at e;exact e
 ·refine .inl ⟨QB _,.slice none 0 0,?_,World.ownsRowF_nil _ _ _ _,by simp[Value.ownBlock]⟩;have:=heap_alloc_new w (Obj.cells #[Value.pointer none,Value.slice none 0 0] 196);exact(Below.heap_alloc _ _ _ (by rw[u];omega)).trans this
 ·exact((Below.refl _ w).alloc (QB _) _).alloc (by rw[u];omega) _
def eqBs:List UInt8->List UInt8->Bool
 |[],[]=>true
 |a::r,b::s=>a==b&&eqBs r s
 |_,_=>false
def eqBs_eq:∀{a b:List UInt8},eqBs a b=true->a=b
 |[],[],_=>rfl
 |a::r,b::s,h=>by
  simp only[eqBs,QY,beq_iff_eq]at h;rw[h.1,eqBs_eq h.2]
 |[],_::_,h=>Xc
 |_::_,[],h=>Xc
def lettersN(c:Nat):List UInt8:=
 (if c % 2=1 then [114]else [])++((if c / 2 % 2=1 then [119]else [])++((if c / 4 % 2=1 then [100]else [])++((if c / 8 % 2=1 then [120]else [])++((if c / 16 % 2=1 then [108]else [])++(if c / 32 % 2=1 then [115]else [])))))
theorem pick_letters:∀c:Nat,c<64->ED c 6=lettersN c:=Xk
def lay_calls{c:Nat}(h:c<64)(w:World):Calls Qe 200 #[.int .u8 (c:Nat)] w λe m=>e= .returned (.string ⟨(lettersN c).toArray⟩)∧Below w.heap.size w m:=by
 grind [aWk,pick_letters]
end Go.Ve
namespace Go.Vd
open Go.Proofs Go.RowKit
def pN:Tw.ok Qe 69:=aBQ aX aK ⟨_,func69,Z,Z⟩
def dC{m:Ha}{i fr:Id}{n:Nat}{l:List Bs}(g:n=l.length)(h:∀k x,l[k]?=some x->m i k=some (.str x))(u:l.length<=1000)(y:CH l<=1000000):
  Tw.ex ([.row i n,.str [44]]++[]) m fr=some (.str (CC l),[]):=by
 subst g;simp only[Tw,QI];rw[nT (j:=0) (λk x q=>by rw[Qp];exact h k x q),Qj,if_pos ⟨u,y⟩]
def RI.strs{r:Id}{m0 m:Ha}{l:List Bs}(h:RI [] r m0 m l l.length):∀k x,l[k]?=some x->m r k=some (.str x):=by
 intro k x q;have s:=(QQ.1 q).1;rw[h.row k s,if_pos s];simp[Zx,q]
def Mv{l:List Bs}{b:Nat}(h:∀x∈l,x.length<=b):CH l<=b*l.length:=by
 induction l with
 |nil=>simp[CH]
 |cons x r ih=>
  have u:=h x (Zs ..);have f:=ih λy o=>h y (List.mem_cons_of_mem _ o)
  simp only[CH,Qg,ZJ];omega
def MH(n:Nat):(Gj n).length<=3:=by
 grind [Gj]
def Gg(l:List Int):List Bs:=l.map λx=>Gj x.toNat
theorem D6(l:List Int):(Gg l).length=l.length:=Qy ..
def aV9:List D->Option D:=FX (λp:Bool×List Int=>[.slice p.1 [] (AI p.2)]) (λp=>p.2.length<=1000∧∀x∈p.2,0<=x∧x<1000) (λp=> .str (CC (Gg p.2)))
def aJp{nl:Bool}{l:List Int}(h:l.length<=1000)(y:∀x∈l,0<=x∧x<1000):aV9 [.slice nl [] (AI l)]=some (.str (CC (Gg l))):=
 B3 (mk:=λp:Bool×List Int=>[.slice p.1 [] (AI p.2)]) (a:=(nl,l)) (λa b h=>by
  simp only[Qc,D.slice.injEq,true_and,and_true]at h;exact QU h.1 (Lv h.2)) ⟨h,y⟩
def aG9{S:G8}{l:List Int}{nl:Bool}{m0:Ha}{Q:Ex->St->Prop}(o:l.length<=1000)(q:∀x∈l,0<=x∧x<1000)(e:S 330=some (Ac aQ8))
  (t:∀v,v.s 3= .row [3] l.length->RI [] [3] m0 v.m (Gg l) l.length->Q (.exit 0) v):
  ∀(f j:Nat) v g,l.length=j+f->v.s 3= .row [3] l.length->v.s 9= .slice nl [] (AI l)->v.s 10= .int .i64 (l.length:Int)->v.s 11= .int .i64 (j:Int)->RI [] [3] m0 v.m (Gg l) j->Be S [] Pk Q v g:=by
 intro f;induction f with
 |zero=>
  intro j v g a i h9 w na I;refine Af Pk.eq_1 ?_;have:¬((j:Int)<l.length):=O
  simp only[↓C2,Hc,Hl,reduceIte,Qd,w,na,this];exact t _ i X5
 |succ f ih=>
  intro j v g a i h9 w na I;refine Af Pk.eq_1 ?_;have b:j<l.length:=O
  have u:((j:Int)<l.length):=O
  have z:=nJ (j:=j);have p:=wJ (j:=j) O;have qa:=q l[j] (QX b);obtain⟨n,r⟩:∃n:Nat,l[j]=(n:Int):=⟨l[j].toNat,O⟩;have c:(AI l)[j]?=some (.int .i64 (n:Int)):=by simp[AI,Qi b,r]
  have hg:(Gg l).getD j []=Gj n:=by simp[Gg,Qi b,r]
  have h:=V5 (n:=n) O;have y:=I.row j (by rw[D6];exact b);rw[if_neg O]at y;obtain⟨ma,ia,k⟩:=v;simp only at i h9 w na y I;simp only[↓C2,G9,reduceIte,Qb,Qd,i,h9,w,na,u,z,p,Qh,c,y,Ab e,h,Av,Aw,Qg,Qm,Qp,and_self,Qj,Qk,List.head?_cons];refine ih (j+1) _ _ O i h9 w rfl ?_;rw[←hg];exact I.fill (ZC)
def aSf:Kq aV9 332:=by
 obtain⟨S,w,hl⟩:=Bv (Aa aJ7 (Aa pN Ad));have e:=hl 330 _ rfl;have a:=hl 69 _ rfl;clear hl;refine C0 w (Aj func332:Fn Qe 332 24 aLj [.t 2]) (λ_=>U) (λp c=>?_);obtain⟨nl,l⟩:=p;obtain⟨hl,q⟩:=c;simp only at hl q;have z:((0:Int)<=(l.length:Int)):=O
 have o:((l.length:Int)*(((16:Nat):Int)+1)<=140737488355328)=True:=eq_true O;unfold aLj;simp only[↓C2,Hc,H_,reduceIte,Qb,Qd,z,o,ES,Qh,ZA,Qg,Qm,Qp,and_self];refine aG9 (l:=l) (nl:=nl) (m0:=λ_ _=>none) hl q e (λv i I=>?_) l.length 0 _ _ O rfl rfl rfl rfl ?_
 ·simp only[↓C2,Hc,Hl,reduceIte,Qd,i];rw[AE a];rw[←D6]at I;have g:CH (Gg l)<=1000000:=by
   have:=Mv (l:=Gg l) (b:=3) λx q=>by
    obtain⟨y,_,rfl⟩:=QL.1 q;exact MH _
   rw[D6]at this;omega
  refine aH (dC (D6 l).symm I.strs (by rw[D6];exact hl) g) ?_;simp only[↓C2,G9,reduceIte,Qb,Qd]
  all_goals exact Y7
 ·grind [RI.start,D6]
open Classical in
def aJq:List D->Option D
 |[.int .u8 c]=>if 0<=c∧c<64 then some (.str (Go.Ve.lettersN c.toNat))else none
 |_=>none
def aSi:Kq aJq 200:=by
 refine⟨⟨_,func200,Z,Z⟩,λds m m' fr _=>rfl,?_⟩;intro B w0 w m g fr ds vs r u hi q hl b z;simp only[Ac]at z;split at z
 ·rw[QZ]at z;obtain⟨f,j,z⟩:=z;simp only[QC]at z;obtain⟨rfl,rfl⟩:=z;unfold aJq at j;split at j
  ·rename_i c e;split at j
   ·rename_i n;simp only[Ql]at j;subst j
    match ds,vs,hl with
    |[d],[v],_=>
     have p:d= .int .u8 c:=by
      simp only[QD,Q2,Qc,and_true]at e;cases d<;>simp[D.un]at e;rw[e.1,e.2]
     subst p;have t:=(b 0 _ v rfl rfl).int_inv;subst t;have y:((c.toNat:Nat):Int)=c:=Qx n.1;have:=Go.Ve.lay_calls (c:=c.toNat) O w;rw[y]at this;refine this.mono ?_;rintro e k ⟨rfl,o⟩;exact⟨_,g.over w k,rfl,hi.over o,Hr.over hi.gz o,.str _,λi a _=>a⟩
    |[],_,_=>simp at e
    |_::_::_,_,_=>simp at e
   ·cases j
  ·cases j
 ·cases z
def Oo{l:List Rl}:∀f j,D4 l f j=0->∀i,j<=i->i<j+f->i<l.length->(CS l i).2<=63
 |0,j,_,i,h1,h2,_=>O
 |f+1,j,h,i,h1,h2,hi=>by
  unfold D4 at h;rw[if_pos O]at h;split at h
  ·omega
  ·rename_i z;rcases Nat.eq_or_lt_of_le h1 with rfl|h1
   ·grind [Ib,CS]
   ·exact Oo f (j+1) h i O O hi
def NG{l:List Rl}(h:Cw l=0):l.length<=4∧∀r∈l,r.2<=63:=by
 unfold Cw at h;split at h
 ·cases h
 ·refine⟨O,λr j=>?_⟩;obtain⟨i,hi,rfl⟩:=Zp j;have:=Oo l.length 0 h i (Qu _) O hi;simpa[CS,Qi hi]using this
def WO(r:Rl):Bs:=r.1++[58]++Go.Ve.lettersN r.2.toNat
def BV(l:List Rl):List Bs:=l.map WO
theorem CJ(l:List Rl):(BV l).length=l.length:=Qy ..
def FF(n:Nat):(Go.Ve.lettersN n).length<=6:=by
 unfold Go.Ve.lettersN;have h:∀(c:Prop)[Decidable c](x:UInt8),(if c then [x]else []).length<=1:=by
  intro c _ x;split<;>simp
 simp only[Qq];have u:=h (n % 2=1) 114;have y:=h (n / 2 % 2=1) 119;have i:=h (n / 4 % 2=1) 100;have p:=h (n / 8 % 2=1) 120;have m:=h (n / 16 % 2=1) 108;have o:=h (n / 32 % 2=1) 115;omega
def aHd{S:G8}{l:List Rl}{nl:Bool}{m0:Ha}{Q:Ex->St->Prop}(k:l.length<=4)(q:∀r∈l,r.1.length<=1000∧0<=r.2∧r.2<64)(d:S 200=some (Ac aJq))
  (t:∀v,v.s 5= .row [9] l.length->RI [] [9] m0 v.m (BV l) l.length->Q (.exit 0) v):
  ∀(f j:Nat) v g,l.length=j+f->10<=v.c->v.s 5= .row [9] l.length->v.s 16= .slice nl [] (As l)->v.s 17= .int .i64 (l.length:Int)->v.s 18= .int .i64 (j:Int)->RI [] [9] m0 v.m (BV l) j->Be S [] Ps Q v g:=by
 intro f;induction f with
 |zero=>
  intro j v g hf n h5 ta e sa I;refine Af Ps.eq_1 ?_;have:¬((j:Int)<l.length):=O
  simp only[↓C2,Hc,Hl,reduceIte,Qd,e,sa,this];exact t _ h5 X5
 |succ f ih=>
  intro j v g hf n h5 ta e sa I;refine Af Ps.eq_1 ?_;have p:j<l.length:=O
  have u:((j:Int)<l.length):=O
  have i:=nJ (j:=j);have hw:=wJ (j:=j) O;obtain⟨qa,o,b⟩:=q l[j] (QX p);have x:(As l)[j]?=some (.agg [.str l[j].1,.int .u8 l[j].2]):=by simp[As,rlD,Qi p]
  have hg:(BV l).getD j []=WO l[j]:=by simp[BV,Qi p]
  generalize l[j]=r at qa o b x hg;have a:aJq [.int .u8 r.2]=some (.str (Go.Ve.lettersN r.2.toNat)):=if_pos ⟨o,b⟩;have y:=I.row j (by rw[CJ];exact p);rw[if_neg O]at y;have ya:=FF r.2.toNat;have l1:(r.1.length+1<=9223372036854775807)=True:=eq_true O;have l2:(r.1.length+1+(Go.Ve.lettersN r.2.toNat).length<=9223372036854775807)=True:=eq_true O;have w:([v.c+1+3]=([9]:Id))=False:=eq_false Xb;have z:(([9]:Id)=[v.c+1+3])=False:=eq_false Xb;obtain⟨ma,ia,ea⟩:=v;simp only at h5 ta e sa y I n w z;simp only[↓C2,Ho,reduceIte,Qb,Qd,h5,ta,e,sa,u,i,Qh,x,y,Ab d,a,z,l1,l2,QB,Qq,Ah,Av,Aw,Qr,Qj,QS,QP,Qk,false_and];refine A1 ?_;simp only[↓C2,Hc,H_,reduceIte,Qb,Qd,sa,hw];refine ih (j+1) _ _ O Xa h5 ta e rfl ?_;have ua:r.1++[58]++Go.Ve.lettersN r.2.toNat=(BV l).getD j []:=hg.symm;rw[ua];exact((I.put Xb).put Xb).fill (ZC)
def aJz:List D->Option D:=FX (λp:Bool×List Rl=>[.slice p.1 [] (As p.2)]) (λp=>p.2.length<=1000000∧∀r∈p.2,r.1.length<=1000∧0<=r.2)
 (λp=> .tup [.str (if Cw p.2=0 then CC (BV p.2)else []),.int .i64 (Cw p.2)])
def Wc{nl:Bool}{l:List Rl}(h:l.length<=1000000)(y:∀r∈l,r.1.length<=1000∧0<=r.2):aJz [.slice nl [] (As l)]=some (.tup [.str (if Cw l=0 then CC (BV l)else []),.int .i64 (Cw l)]):=
 B3 (mk:=λp:Bool×List Rl=>[.slice p.1 [] (As p.2)]) (a:=(nl,l)) (λa b h=>by
  simp only[Qc,D.slice.injEq,true_and,and_true]at h;exact QU h.1 (WU h.2)) ⟨h,y⟩
open Classical in
def Sm{nl:Bool}{l:List Rl}(h:l.length<=1000000)(y:∀r∈l,r.1.length<=1000∧0<=r.2):yS [.slice nl [] (As l)]=some (.int .i64 (Cw l)):=by
 have z:As l=As (Bo (As l))∧(As l).length<=1000000∧Cr (Bo (As l)):=by
  rw[A5,A2];exact⟨rfl,h,λr j=>Nat.le_trans (y r j).1 O⟩
 show(if _ then _ else _)=_;rw[if_pos z,A5]
def aKf:Kq aJz 136:=by
 obtain⟨S,hS,hl⟩:=Bv (Aa bV (Aa aSi (Aa pN Ad)));have n:=hl 168 _ rfl;have d:=hl 200 _ rfl;have a:=hl 69 _ rfl;clear hl;refine C0 hS (Aj func136:Fn Qe 136 36 aMb [.t 2,.t 3]) (λ_=>U) (λp c=>?_);obtain⟨nl,l⟩:=p;obtain⟨hl,q⟩:=c;simp only at hl q;have f:=Sm (nl:=nl) hl q;have hz:=NG (l:=l);simp only;unfold aMb;generalize Cw l=e at f hz;by_cases he:e=0
 ·subst he;obtain⟨h4,g⟩:=hz rfl;have z:((0:Int)<=(l.length:Int)):=by omega
  have o:((l.length:Int)*(((16:Nat):Int)+1)<=140737488355328)=True:=eq_true O;simp only[↓C2,G9,reduceIte,Qb,Qd,Ab n,f,z,o,A2,Qh,ZA,Qg,Qm,Qp,and_self];refine aHd (l:=l) (nl:=nl) (m0:=λ_ _=>none) h4 (λr j=>⟨(q r j).1,(q r j).2,by have:=g r j;omega⟩) d (λv m I=>?_) l.length 0 _ _ O Xa rfl rfl rfl rfl ?_
  ·simp only[↓C2,Hc,Hl,reduceIte,Qd,m];rw[AE a];rw[←CJ]at I;have i:CH (BV l)<=1000000:=by
    have:=Mv (l:=BV l) (b:=1007) λx k=>by
     obtain⟨y,hy,rfl⟩:=QL.1 k;have u:=(q y hy).1;have w:=FF y.2.toNat;simp only[WO,Qq,Qg,Qm];omega
    rw[CJ]at this;omega
   refine aH (dC (CJ l).symm I.strs (by rw[CJ];omega) i) ?_;simp only[↓C2,G9,reduceIte,Qb,Qd]
   all_goals exact Y7
  ·grind [RI.start,CJ]
 ·simp only[↓C2,G9,reduceIte,Qb,Qd,Ab n,f,he,and_self]
  all_goals exact Y7
def aMI:=y0 f44 [] []
def aMH:=y0 f101 [] []
def aMG:=y0 f259 [] []
def aMF:=y0 f260 [] []
def Py:=y1 f261 4 [] []
def aME:=y0 f261 [] [(4,Py)]
def aLO:=y0 f310 [] []
def Vn:=y1 f207 7 [] []
def aUM:=y0 f207 [] [(7,Vn)]
def N7{s:Bs}{p:Nat}{c:UInt8}(h:s[p]?=some c)(z:c.toNat<128):Utf8.decode ⟨s.toArray⟩ p=(c.toNat,1):=by
 have k:=(QQ.1 h).1;have x:Hs s p=c.toNat:=by simp[Hs,h]
 unfold Utf8.decode;simp only[NV,Za,x,z,if_true]
def Rx:List (Bs×Bs):=[([],[]),([115,116,97,116,117,115],[]),([117,110,115,101,97,108],[107]),([115,101,97,108],[116]),([114,111,116,97,116,101],[116]),([109,111,117,110,116],[116,112,110,102]),([117,110,109,111,117,110,116],[116,112]),([109,97,107,101],[116,109,114]),([114,101,118,111,107,101],[116,109]),([114,101,97,100],[116,112,110]),([119,114,105,116,101],[116,112,99,100]),([100,101,108,101,116,101],[116,112,108]),([117,110,100,101,108,101,116,101],[116,112,108]),([100,101,115,116,114,111,121],[116,112,108]),([109,101,116,97],[116,112]),([99,111,110,102,105,103],[116,112,110,102]),([112,117,114,103,101],[116,112]),([108,105,115,116],[116,112]),([99,111,112,121],[116,112,113])]
def EE(op:Int):Bs:=(Rx.getD op.toNat ([],[])).1
def BH(op:Int):Bs:=(Rx.getD op.toNat ([],[])).2
def aBW(p:Bs×Bs):Option D->Bool
 |some (.agg [.str a,.str b])=>Go.Ve.eqBs a p.1&&Go.Ve.eqBs b p.2
 |_=>false
def yI:List D->Option D:=NX (λ_=>none) 30 aMI [.cell (some 2) 2] 60
def oX:Kq yI 44:=NW A8 (Aj func44:Fn Qe 44 30 aMI [.cell (some 2) 2]) 60
def aEu:(ZD 256).all (λop=>aBW (Rx.getD op ([],[])) (yI [.int .u8 (op:Nat)]))=true:=Z
def PG{op:Int}(f:0<=op)(h:op<256):yI [.int .u8 op]=some (.agg [.str (EE op),.str (BH op)]):=by
 have:=QT.1 aEu op.toNat Xb;rw[Qx f]at this;unfold EE BH;generalize yI [.int .u8 op]=r at this;unfold aBW at this;split at this
 ·rw[QY]at this;rw[Go.Ve.eqBs_eq this.1,Go.Ve.eqBs_eq this.2]
 ·cases this
structure HJ (a:Ak):Prop where
 op0:0<=a.op
 op:a.op<256
 tk:a.tk.length<=1000
 pa:a.pa.length<=1000
 ot:a.ot.length<=1000
 ns:a.ns.length<=1000
 da:a.da.length<=1000
 rl:a.rs.length<=1000
 rs:∀r∈a.rs,r.1.length<=1000∧0<=r.2
 key:a.key.length<=1000
def Bp(a:Ak)(c:Int):Int:=if c=116 then Df (BX a.tk)else if c=109 then Df (BX a.ot)else if c=112 then Ay a.pa else if c=113 then Ay a.ot else if c=110 then Df (decide (0<=a.n∧a.n<=999))else if c=99 then Df (decide (-1<=a.cas∧a.cas<=999))else if c=108 then Df (countB a.ns)else if c=114 then Cw a.rs else if c=107 then Df (decide ((a.key.length:Int)=16))else 0
def aFD:List D->Option D:=FX (λp:Ak×Int=>[HA p.1,.int .i32 p.2]) (λp=>HJ p.1) (λp=> .int .i64 (Bp p.1 p.2))
def HP{a:Ak}{c:Int}(h:HJ a):aFD [HA a,.int .i32 c]=some (.int .i64 (Bp a c)):=
 B3 (mk:=λp:Ak×Int=>[HA p.1,.int .i32 p.2]) (a:=(a,c)) (λx y e=>by
  simp only[Qc,D.int.injEq,true_and,and_true]at e;exact QU (FQ e.1) e.2) h
def aKk:Kq aFD 101:=by
 obtain⟨S,hS,hl⟩:=Bv (Aa aSw (Aa aKe (Aa oV (Aa aKd (Aa aSv (Aa bV Ad))))));have g:=hl 169 _ rfl;have e:=hl 97 _ rfl;have fa:=hl 107 _ rfl;have f:=hl 170 _ rfl;have i:=hl 171 _ rfl;have da:=hl 168 _ rfl;clear hl;refine C0 hS (Aj func101:Fn Qe 101 58 aMH [.t 4]) (λ_=>U) (λp hp=>?_);obtain⟨a,c⟩:=p;simp only at hp;have hT:=sL (s:=a.tk) (by have:=hp.tk;omega);have hO:=sL (s:=a.ot) (by have:=hp.ot;omega);have hP:gV [.str a.pa]=some (.int .i64 (Ay a.pa)):=if_pos (by have:=hp.pa;omega);have hQ:gV [.str a.ot]=some (.int .i64 (Ay a.ot)):=if_pos (by have:=hp.ot;omega);have hN:yW [.int .i64 a.n,.int .i64 0,.int .i64 999]=some (.bool (decide (0<=a.n∧a.n<=999))):=rfl;have hC:yW [.int .i64 a.cas,.int .i64 (-1),.int .i64 999]=some (.bool (decide (-1<=a.cas∧a.cas<=999))):=rfl;have hL:=aJy (nl:=a.nln) (l:=a.ns) (by have:=hp.ns;omega);have hR:=Sm (nl:=a.nlr) (l:=a.rs) (by have:=hp.rl;omega) hp.rs;unfold Bp aMH HA Hw;simp only;by_cases b:c=116
 ·subst b;simp only[↓C2,Ho,simprocAttr,Ab g,hT,Ab e,HM,Ah]
  all_goals exact Y7
 have m:decide (c=116)=false:=XU
 by_cases z:c=109
 ·subst z;simp only[↓C2,Ho,simprocAttr,Ab g,hO,Ab e,HM,Ah]
  all_goals exact Y7
 have q:decide (c=109)=false:=XP
 by_cases ea:c=112
 ·subst ea;simp only[↓C2,Ho,simprocAttr,Ab fa,hP,Ah]
  all_goals exact Y7
 have k:decide (c=112)=false:=by simpa using ea
 by_cases y:c=113
 ·subst y;simp only[↓C2,Ho,simprocAttr,Ab fa,hQ,Ah]
  all_goals exact Y7
 have o:decide (c=113)=false:=XQ
 by_cases d:c=110
 ·subst d;simp only[↓C2,Ho,simprocAttr,Ab f,hN,Ab e,HM,Ah]
  all_goals exact Y7
 have u:decide (c=110)=false:=by simpa using d
 by_cases x:c=99
 ·subst x;simp only[↓C2,Ho,simprocAttr,Ab f,hC,Ab e,HM,Ah]
  all_goals exact Y7
 have w:decide (c=99)=false:=by simpa using x
 by_cases h108:c=108
 ·subst h108;simp only[↓C2,Ho,simprocAttr,Ab i,hL,Ab e,HM,Ah]
  all_goals exact Y7
 have j:decide (c=108)=false:=by simpa using h108
 by_cases ca:c=114
 ·subst ca;simp only[↓C2,Ho,simprocAttr,Ab da,hR,Ah]
  all_goals exact Y7
 have r:decide (c=114)=false:=by simpa using ca
 by_cases h:c=107
 ·subst h;simp only[↓C2,Ho,simprocAttr,Ab e,HM,Ah]
  all_goals exact Y7
 have v:decide (c=107)=false:=Xo
 simp only[↓C2,G9,simprocAttr,b,z,ea,y,d,x,h108,ca,h,Qp,and_self]
 all_goals exact Y7
def Eg(a:Ak)(c:Int):Ak:=if c=116 then {a with tk:=[]}else if c=112 then {a with pa:=[]}else if c=109∨c=113 then {a with ot:=[]}else if c=110 then {a with n:=0}else if c=99 then {a with cas:=0}else if c=102 then {a with fl:=false}else if c=108 then {a with nln:=true,ns:=[]}else if c=100 then {a with da:=[]}else if c=114 then {a with nlr:=true,rs:=[]}else if c=107 then {a with key:=[]}else a
def aJR:List D->Option D:=FX (λp:Ak×Int=>[HA p.1,.int .i32 p.2]) (λp=>True) (λp=>HA (Eg p.1 p.2))
def aJQ{a:Ak}{c:Int}:aJR [HA a,.int .i32 c]=some (HA (Eg a c)):=
 B3 (mk:=λp:Ak×Int=>[HA p.1,.int .i32 p.2]) (a:=(a,c)) (λx y e=>by
  simp only[Qc,D.int.injEq,true_and,and_true]at e;exact QU (FQ e.1) e.2) trivial
def aSQ:Kq aJR 259:=by
 refine C0 (S:=λ_=>none) A8 (Aj func259:Fn Qe 259 38 aMG [.cell (some 11) 4]) (λ_=>U) (λp k=>?_);obtain⟨a,c⟩:=p;unfold Eg aMG HA Hw;simp only;by_cases b:c=116
 ·subst b;simp only[↓C2,Ho,simprocAttr,or_self,Ah,Av,Aw,Qj,Qk,Qc,Qn,and_false,Qf,Bx,AW]
  all_goals exact Y7
 by_cases r:c=112
 ·subst r;simp only[↓C2,Ho,simprocAttr,or_self,Ah,Av,Aw,Qj,Qk,Qc,Qn,and_false,Qf,Bx,AW]
  all_goals exact Y7
 by_cases z:c=109
 ·subst z;simp only[↓C2,Ho,simprocAttr,true_or,Ah,Av,Aw,Qj,Qk,Qc,Qn,and_false,Qf,Bx,AW]
  all_goals exact Y7
 by_cases j:c=113
 ·subst j;simp only[↓C2,Ho,simprocAttr,or_true,Ah,Av,Aw,Qj,Qk,Qc,Qn,and_false,Qf,Bx,AW]
  all_goals exact Y7
 by_cases d:c=110
 ·subst d;simp only[↓C2,Ho,simprocAttr,or_self,Ah,Av,Aw,Qj,Qk,Qc,Qn,and_false,Qf,Bx,AW]
  all_goals exact Y7
 by_cases t:c=99
 ·subst t;simp only[↓C2,Ho,simprocAttr,or_self,Ah,Av,Aw,Qj,Qk,Qc,Qn,and_false,Qf,Bx,AW]
  all_goals exact Y7
 by_cases f:c=102
 ·subst f;simp only[↓C2,Ho,simprocAttr,or_self,Ah,Av,Aw,Qj,Qk,Qc,Qn,and_false,Qf,Bx,AW]
  all_goals exact Y7
 by_cases h108:c=108
 ·subst h108;simp only[↓C2,Ho,simprocAttr,or_self,Ah,Av,Aw,Qj,Qk,Qc,Qn,and_false,Qf,Bx,AW]
  all_goals exact Y7
 by_cases g:c=100
 ·subst g;simp only[↓C2,Ho,simprocAttr,or_self,Ah,Av,Aw,Qj,Qk,Qc,Qn,and_false,Qf,Bx,AW]
  all_goals exact Y7
 by_cases v:c=114
 ·subst v;simp only[↓C2,Ho,simprocAttr,or_self,Ah,Av,Aw,Qj,Qk,Qc,Qn,and_false,Qf,Bx,AW]
  all_goals exact Y7
 by_cases h:c=107
 ·subst h;simp only[↓C2,Ho,simprocAttr,or_self,Ah,Av,Aw,Qj,Qk,Qc,Qn,and_false,Qf,Bx,AW]
  all_goals exact Y7
 simp only[↓C2,Ho,simprocAttr,b,r,z,j,d,t,f,h108,g,v,h,or_self,Ah,Av,Aw,Qj,Qk,Qc,Qn,Qf,Bx,AW]
 all_goals exact Y7
def orN(s:Bs):Bs:=if s=[]then [45]else s
def MR(a:Ak)(c:Int):Bs:=if c=116 then a.tk else if c=112 then a.pa else if c=109∨c=113 then a.ot else if c=110 then Gj a.n.toNat else if c=99 then(if a.cas=-1 then [45]else Gj a.cas.toNat)
 else if c=102 then(if a.fl=true then [49]else [48])else if c=108 then orN (CC (Gg a.ns))else if c=100 then orN (OU a.da)else if c=114 then orN (if Cw a.rs=0 then CC (BV a.rs)else [])else OU a.key
structure Uh (a:Ak) (c:Int):Prop where
 n:c=110->0<=a.n∧a.n<1000
 cas:c=99->-1<=a.cas∧a.cas<1000
 ns:c=108->∀x∈a.ns,0<=x∧x<1000
def aJw:List D->Option D:=FX (λp:Ak×Int=>[HA p.1,.int .i32 p.2]) (λp=>HJ p.1∧Uh p.1 p.2) (λp=> .str (MR p.1 p.2))
def aJv{a:Ak}{c:Int}(h:HJ a)(f:Uh a c):aJw [HA a,.int .i32 c]=some (.str (MR a c)):=
 B3 (mk:=λp:Ak×Int=>[HA p.1,.int .i32 p.2]) (a:=(a,c)) (λx y e=>by
  simp only[Qc,D.int.injEq,true_and,and_true]at e;exact QU (FQ e.1) e.2) ⟨h,f⟩
def aSs:Kq aJw 310:=by
 obtain⟨S,hS,hl⟩:=Bv (Aa aJ7 (Aa aSg (Aa aSf (Aa aKb (Aa aKf Ad)))));have e:=hl 330 _ rfl;have k:=hl 331 _ rfl;have o:=hl 332 _ rfl;have m:=hl 14 _ rfl;have r:=hl 136 _ rfl;clear hl;refine C0 hS (Aj func310:Fn Qe 310 63 aLO [.t 4]) (λ_=>U) (λp w=>?_);obtain⟨a,c⟩:=p;obtain⟨w,hN,hC,hL⟩:=w;simp only at w hN hC hL;unfold MR orN aLO HA Hw;simp only;by_cases b:c=116
 ·subst b;simp only[↓C2,Ho,simprocAttr,or_self,Ah]
  all_goals exact Y7
 by_cases ea:c=112
 ·subst ea;simp only[↓C2,Ho,simprocAttr,or_self,Ah]
  all_goals exact Y7
 by_cases z:c=109
 ·subst z;simp only[↓C2,Ho,simprocAttr,true_or,Ah]
  all_goals exact Y7
 by_cases y:c=113
 ·subst y;simp only[↓C2,Ho,simprocAttr,or_true,Ah]
  all_goals exact Y7
 by_cases d:c=110
 ·subst d;have hn:=hN rfl;obtain⟨n,ja⟩:∃n:Nat,a.n=(n:Int):=⟨a.n.toNat,O⟩;have h:=V5 (n:=n) O;rw[ja];simp only[↓C2,Ho,simprocAttr,Ab e,h,Qh,or_self,Ah]
  all_goals exact Y7
 by_cases x:c=99
 ·subst x;have hc:=hC rfl;by_cases u:a.cas=-1
  ·rw[u];simp only[↓C2,Ho,simprocAttr,or_self,Ah]
   all_goals exact Y7
  ·obtain⟨n,ja⟩:∃n:Nat,a.cas=(n:Int):=⟨a.cas.toNat,O⟩;have h:=V5 (n:=n) O;rw[ja]at u ⊢;simp only[↓C2,Ho,simprocAttr,u,Ab e,h,Qh,or_self,Ah]
   all_goals exact Y7
 by_cases f:c=102
 ·subst f;cases a.fl<;>simp only[↓C2,Ho,simprocAttr,or_self,Ah]
  all_goals exact Y7
 by_cases h108:c=108
 ·subst h108;have hl:=hL rfl;have q:=aJp (nl:=a.nln) (l:=a.ns) w.ns hl;simp only[↓C2,Ho,simprocAttr,Ab o,q,Ab k,V4,or_self,Ah]
  all_goals exact Y7
 by_cases g:c=100
 ·subst g;have i:=V6 (s:=a.da) (by have:=w.da;omega);simp only[↓C2,Ho,simprocAttr,Ab m,i,Ab k,V4,or_self,Ah]
  all_goals exact Y7
 by_cases v:c=114
 ·subst v;have j:=Wc (nl:=a.nlr) (l:=a.rs) (by have:=w.rl;omega) w.rs;simp only[↓C2,Ho,simprocAttr,Ab r,j,Ab k,V4,or_self,Ah]
  all_goals exact Y7
 have i:=V6 (s:=a.key) (by have:=w.key;omega);simp only[↓C2,Ho,simprocAttr,Ab m,i,b,ea,z,y,d,x,f,h108,g,v,or_self,Ah]
 all_goals exact Y7
def SP(a:Ak):Bool:=a.ns.isEmpty&&(a.rs.isEmpty&&(decide (a.op=0)&&(decide (a.tk=[])&&(decide (a.pa=[])&&(decide (a.ot=[])&&(decide (a.n=0)&&(decide (a.cas=0)&&(!a.fl&&(decide (a.da=[])&&decide (a.key=[]))))))))))
def ak0:Ak:=⟨0,[],[],[],0,0,false,true,[],[],true,[],[]⟩
def aRc:List D->Option D:=FX (λa:Ak=>[HA a,HA ak0]) (λa=>HJ a) (λa=> .bool (SP a))
def aJP{a:Ak}(h:HJ a):aRc [HA a,HA ak0]=some (.bool (SP a)):=
 B3 (mk:=λa:Ak=>[HA a,HA ak0]) (λx y e=>by
  simp only[Qc,and_true]at e;exact FQ e) h
def aSt:Kq aJx 132:=by
 obtain⟨S,w,hl⟩:=Bv (Aa aSh Ad);have b:=hl 197 _ rfl;clear hl;refine C0 w aKY (λ_=>U) (λp g=>?_);have a:=V7 (nl:=p.1) (nl':=p.2.2) (l:=p.2.1) g;unfold qI;by_cases y:(([D.slice p.1 [] p.2.1,.slice p.2.2 [] []]:List D).map D.un).all D.calm=true
 ·simp only[↓C2,G9,simprocAttr,Ab b,a,and_self]
  all_goals exact Y7
 ·exact absurd rfl y
def aSP:Kq aRc 260:=by
 obtain⟨S,g,hl⟩:=Bv (Aa aSu (Aa aSt Ad));have d:=hl 309 _ rfl;have e:=hl 132 _ rfl;clear hl;refine C0 g (Aj func260:Fn Qe 260 82 aMF [.t 4]) (λ_=>U) (λa k=>?_);have c:=V7 (nl:=a.nln) (nl':=true) (l:=AI a.ns) (by rw[ES];have:=k.ns;omega);have b:=V7 (nl:=a.nlr) (nl':=true) (l:=As a.rs) (by rw[A2];have:=k.rl;omega);have w:(AI a.ns).isEmpty=a.ns.isEmpty:=by cases a.ns<;>rfl
 have m:(As a.rs).isEmpty=a.rs.isEmpty:=by cases a.rs<;>rfl
 rw[w]at c;rw[m]at b;unfold SP aMF HA Hw ak0;simp only;generalize a.ns.isEmpty=u at c;generalize a.rs.isEmpty=f at b;have n1:AI ([]:List Int)=[]:=rfl;have n2:As ([]:List Rl)=[]:=rfl;cases u with
 |false=>
  simp only[↓C2,Ho,simprocAttr,n1,n2,Ab d,c,QA,Ah,Qc,Qn,Qf]
  all_goals exact Y7
 |true=>
  cases f with
  |false=>
   simp only[↓C2,Ho,simprocAttr,n1,n2,Ab d,c,Ab e,b,QA,QN,Ah,Qc,Qn,Qf]
   all_goals exact Y7
  |true=>
   simp only[Zq];by_cases z:a.op=0
   ·by_cases s:a.tk=[]
    ·by_cases x:a.pa=[]
     ·by_cases g4:a.ot=[]
      ·by_cases g5:a.n=0
       ·by_cases r:a.cas=0
        ·cases g7:a.fl with
         |false=>
          by_cases q:a.da=[]
          ·simp only[↓C2,Ho,simprocAttr,n1,n2,Ab d,c,Ab e,b,Ah,Qc,Qn,Qf,z,s,x,g4,g5,r,q]
           trace_state
           all_goals exact Y7
          ·simp only[↓C2,Ho,simprocAttr,n1,n2,Ab d,c,Ab e,b,QA,QN,Ah,Qc,Qn,Qf,z,s,x,g4,g5,r,q]
           all_goals exact Y7
         |true=>
          simp only[↓C2,Ho,simprocAttr,n1,n2,Ab d,c,Ab e,b,QA,QN,Ah,Qc,Qn,Qf,z,s,x,g4,g5,r]
          all_goals exact Y7
        ·simp only[↓C2,Ho,simprocAttr,n1,n2,Ab d,c,Ab e,b,QA,QN,Ah,Qc,Qn,Qf,z,s,x,g4,g5,r]
         all_goals exact Y7
       ·simp only[↓C2,Ho,simprocAttr,n1,n2,Ab d,c,Ab e,b,QA,QN,Ah,Qc,Qn,Qf,z,s,x,g4,g5]
        all_goals exact Y7
      ·simp only[↓C2,Ho,simprocAttr,n1,n2,Ab d,c,Ab e,b,QA,QN,Ah,Qc,Qn,Qf,z,s,x,g4]
       all_goals exact Y7
     ·simp only[↓C2,Ho,simprocAttr,n1,n2,Ab d,c,Ab e,b,QA,QN,Ah,Qc,Qn,Qf,z,s,x]
      all_goals exact Y7
    ·simp only[↓C2,Ho,simprocAttr,n1,n2,Ab d,c,Ab e,b,QA,QN,Ah,Qc,Qn,Qf,z,s]
     all_goals exact Y7
   ·simp only[↓C2,Ho,simprocAttr,n1,n2,Ab d,c,Ab e,b,QA,Ah,Qc,Qn,Qf,z]
    all_goals exact Y7
theorem AG{m:Ha}{i j:Id}{o:Nat}{ds:List D}(h:j≠i):∀{n p:Nat},Ag (m.put i o ds) j p n=Ag m j p n
 |0,p=>rfl
 |n+1,p=>by
  simp only[Ag,aA h];rw[AG h]
theorem UK{i:Id}:∀{ds:List D} {m:Ha} {p:Nat},(∀k d,ds[k]?=some d->m i (p+k)=some d)->Ag m i p ds.length=some ds
 |[],m,p,_=>rfl
 |d::r,m,p,h=>by
  have f:=h 0 d rfl;rw[Za]at f;have j:=UK (ds:=r) (m:=m) (p:=p+1) λk x q=>by
   have:=h (k+1) x Xt;rw[show p+1+k=p+(k+1)by omega];exact this
  simp only[Qg,Ag,f,j,Qv]
theorem Az{m:Ha}{i:Id}{ds:List D}{n:Nat}(h:ds.length=n):Ag (m.put i 0 ds) i 0 n=some ds:=by
 grind [UK,Ah]
def MB{m:Ha}{i:Id}{o:Nat}:Ag m i o 1=(m i o).map λd=>[d]:=by
 grind [Ag]
def BQ(a:Ak):(Hw a).map D.un1=Hw a:=rfl
def BR(a:Ak):(Hw a).all D.calm1=true:=rfl
def AO(a:Ak):D.cells (.agg (Hw a))=Hw a:=rfl
theorem AU(a:Ak):(Hw a).length=11:=rfl
def cY{a:Ak}{c:Int}(h:HJ a):(MR a c).length<=100000:=by
 obtain⟨_,_,u,f,i,p,h5,t,k,h8⟩:=h;have n1:=MH a.n.toNat;have n2:=MH a.cas.toNat;have oN:∀s:Bs,s.length<=100000->(orN s).length<=100000:=by
  grind [orN]
 have e:(CC (Gg a.ns)).length<=100000:=by
  have w:=Gp (Gg a.ns);have m:=Mv (l:=Gg a.ns) (b:=3) λx q=>by
   obtain⟨y,_,rfl⟩:=QL.1 q;exact MH _
  rw[D6]at w m;omega
 have r:(if Cw a.rs=0 then CC (BV a.rs)else []).length<=100000:=by
  split
  ·rename_i j;have v:=(NG j).1;have w:=Gp (BV a.rs);have m:=Mv (l:=BV a.rs) (b:=1007) λx q=>by
    obtain⟨y,o,rfl⟩:=QL.1 q;have u:=(k y o).1;have f:=FF y.2.toNat;simp only[WO,Qq,Qg,Qm];omega
   rw[CJ]at w m;omega
  ·simp
 have g:=hexB_len a.da;have z:=hexB_len a.key;unfold MR;split
 ·omega
 ·grind
def OD(a:Ak):Bs:=EE a.op++(BH a.op).flatMap λc=>32::MR a (c.toNat:Int)
theorem forms_ok:Rx.all (λp=>decide (p.1.length<=20)&&(decide (p.2.length<=20)&&p.2.all λc=>decide (c.toNat<128)))=true:=Xk
def pU(op:Int):(EE op).length<=20∧(BH op).length<=20∧∀c∈BH op,c.toNat<128:=by
 unfold EE BH;have:∀p:Bs×Bs,p=([],[])∨p∈Rx->p.1.length<=20∧p.2.length<=20∧∀c∈p.2,c.toNat<128:=by
  grind [forms_ok]
 refine this _ ?_;by_cases h:op.toNat<Rx.length
 ·simp_all
 ·simp_all
def aHj{S:G8}{a:Ak}(t:HJ a)(d:S 310=some (Ac aJw)){ls:Bs}(ja:ls.length<=20)(n:∀c∈ls,c.toNat<128)(b:∀c∈ls,Uh a (c.toNat:Int)){ki:Id}(o:([0]:Id)≠ki){w0:Bs}(k:w0.length<=20){Q:Ex->St->Prop}
  (ga:∀v,v.s 4= .str (w0++ls.flatMap λc=>32::MR a (c.toNat:Int))->Q (.exit 0) v):
  ∀(f p:Nat) v g,ls.length=p+f->v.s 1= .ptr [0] 0->v.s 4= .str (w0++(ls.take p).flatMap λc=>32::MR a (c.toNat:Int))->v.s 14= .itp ki->Ag v.m [0] 0 11=some (Hw a)->v.m ki 1=some (.it ls p)->
   Be S [] Py Q v g:=by
 intro f;induction f with
 |zero=>
  intro p v g hf u q wa hm y;refine Af Py.eq_1 ?_;have w:¬(p<ls.length):=O
  simp only[↓C2,Hc,simprocAttr,wa,w,y,Qo];refine ga _ ?_;simp only[↓C2,reduceIte,Qb,q];rw[QG O]
 |succ f ih=>
  intro p v g hf u q wa hm y;refine Af Py.eq_1 ?_;have w:p<ls.length:=O
  have ka:ls[p]?=some ls[p]:=Qi w;have qa:ls[p]∈ls:=QX w;have i:=N7 ka (n _ qa);have e:aJw [.agg (Hw a),.int .i32 (ls[p].toNat:Int)]=some (.str (MR a (ls[p].toNat:Int))):=aJv t (b _ qa);have ya:=cY (c:=(ls[p].toNat:Int)) t;have z:ls.take (p+1)=ls.take p++[ls[p]]:=by rw[Zg,ka];rfl
  have j:((ls.take p).flatMap λc=>32::MR a (c.toNat:Int)).length<=100001*20:=by
   have:∀(l:Bs),((l.flatMap λc=>32::MR a (c.toNat:Int))).length<=100001*l.length:=by
    intro l;induction l with
    |nil=>simp
    |cons x r ih=>
     have:=cY (c:=(x.toNat:Int)) t;simp only[List.flatMap_cons,Qq,Qg,ZJ];omega
   have h:=this (ls.take p);have h':(ls.take p).length<=20:=XE
   omega
  have fa:(1+(MR a (ls[p].toNat:Int)).length<=9223372036854775807)=True:=eq_true O;have na:(w0.length+((ls.take p).flatMap λc=>32::MR a (c.toNat:Int)).length+(1+(MR a (ls[p].toNat:Int)).length)<=9223372036854775807)=True:=eq_true O;generalize ls[p]=c at i e z fa na;obtain⟨ma,ia,ea⟩:=v;simp only at u q wa hm y;simp only[↓C2,G9,simprocAttr,u,q,wa,hm,i,AG o,Ab d,e,fa,na,BQ,BR,w,y,Qq,Qg,Qm,Qp,Qo,Qw];refine ih (p+1) _ _ O ?_ ?_ ?_ ?_ ?_
  ·exact u
  ·simp only[↓C2,reduceIte,Qb];rw[z];simp
  ·exact wa
  ·grind [AG]
  ·grind [Ah]
def aRb:List D->Option D:=FX (λa:Ak=>[HA a]) (λa=>HJ a∧∀c∈BH a.op,Uh a (c.toNat:Int)) (λa=> .str (OD a))
def aJO{a:Ak}(h:HJ a)(f:∀c∈BH a.op,Uh a (c.toNat:Int)):aRb [HA a]=some (.str (OD a)):=
 B3 (mk:=λa:Ak=>[HA a]) (λx y e=>by
  simp only[Qc,and_true]at e;exact FQ e) ⟨h,f⟩
def aSO:Kq aRb 261:=by
 obtain⟨S,w,hl⟩:=Bv (Aa oX (Aa aSs Ad));have e:=hl 44 _ rfl;have d:=hl 310 _ rfl;clear hl;refine C0 w (Aj func261:Fn Qe 261 25 aME [.t 2]) (λ_=>U) (λa c=>?_);obtain⟨x,b⟩:=c;have j:=PG x.op0 x.op;obtain⟨q,u,f⟩:=pU a.op;have r:Hw a= .int .u8 a.op::(Hw a).tail:=rfl;unfold OD aME HA;have y:∀m:Ha,m.put [0] 0 (Hw a) [0] 0=some (.int .u8 a.op):=λm=>by
  rw[Ah,if_pos ⟨rfl,QB _,by rw[AU];omega⟩];rfl
 simp only[↓C2,Ho,simprocAttr,Ab e,j,y,AO,AU,Ah,Av,Aw,Qj,Qk,Qc,Qf];refine aHj (ls:=BH a.op) (w0:=EE a.op) x d u f b (ki:=_) ?_ q (λv p=>?_) (BH a.op).length 0 _ _ O rfl ?_ rfl ?_ ?_
 ·decide
 ·simp only[↓C2,G9,simprocAttr,p]
  all_goals exact Y7
 ·simp only[↓C2,Hc,reduceIte,Qb,QP,List.flatMap_nil,QI]
 ·simp only[AG (show([0]:Id)≠[12]by decide),AG (show([0]:Id)≠[5]by decide),Az (AU a)]
 ·simp only[H_,Hl,simprocAttr,Ah,Qu,QM,Qg,Qm,Qp,Qo,Qw,and_self,Qc,false_and,Qf]
def Ng(a:Ak):Ak->Bs->Int×Ak
 |b,[]=>(0,b)
 |b,c::r=>if Bp a (c.toNat:Int)≠0 then(Bp a (c.toNat:Int),b)else Ng a (Eg b (c.toNat:Int)) r
def I4(a:Ak):Ak:={a with op:=0}
def Ca(a:Ak):Int:=if EE a.op=[]then 22 else if(Ng a (I4 a) (BH a.op)).1≠0 then(Ng a (I4 a) (BH a.op)).1 else if SP (Ng a (I4 a) (BH a.op)).2=false then 2 else if 400<(OD a).length then 5 else 0
def HJ.without{a:Ak}(h:HJ a)(c:Int):HJ (Eg a c):=by
 unfold Eg;obtain⟨f,u,y,i,p,m,n,k,s,z⟩:=h
 repeat' split
 all_goals exact⟨by first|exact f|simp,by first|exact u|simp,by first|exact y|simp,by first|exact i|simp,by first|exact p|simp,by first|exact m|simp,by first|exact n|simp,by first|exact k|simp,by first|exact s|simp,by first|exact z|simp⟩
def aAJ{m:Ha}{i:Id}(a:Ak):Ag ((m.put i 0 (Hw a)).put i 0 [.int .u8 0]) i 0 11=some (Hw (I4 a)):=by
 grind [UK,Hw,I4,AU,Ah]
def aOP{S:G8}{a:Ak}(t:HJ a)(j:S 101=some (Ac aFD))(k:S 259=some (Ac aJR)){ls:Bs}(n:∀c∈ls,c.toNat<128){r:Int×Ak}{Q:Ex->St->Prop}
  (pa:∀v,r.1≠0->v.s 2= .int .i64 r.1->Q .ret v)
  (ga:∀v,r.1=0->(∀c∈ls,Bp a (c.toNat:Int)=0)->HJ r.2->v.s 1= .ptr [0] 0->v.s 4= .ptr [11] 0->Ag v.m [0] 0 11=some (Hw a)->Ag v.m [11] 0 11=some (Hw r.2)->Q (.exit 0) v):
  ∀(f p:Nat)(b:Ak) v g,ls.length=p+f->Ng a b (ls.drop p)=r->(∀c∈ls.take p,Bp a (c.toNat:Int)=0)->HJ b->v.s 1= .ptr [0] 0->v.s 4= .ptr [11] 0->v.s 18= .itp [17]->Ag v.m [0] 0 11=some (Hw a)->Ag v.m [11] 0 11=some (Hw b)->v.m [17] 1=some (.it ls p)->
   Be S [] Vn Q v g:=by
 have la:([0]:Id)≠[17]:=V
 have l:([11]:Id)≠[17]:=V
 have o:([0]:Id)≠[11]:=V
 have q:([17]:Id)≠[11]:=V
 intro f;induction f with
 |zero=>
  intro p b v g hf hr hz hb u h4 sa hm fa y;refine Af Vn.eq_1 ?_;have hp:¬(p<ls.length):=O
  simp only[↓C2,Hc,simprocAttr,sa,hp,y,Qo];rw[List.drop_of_length_le O]at hr;rw[QG O]at hz;simp only[Ng]at hr;subst hr;exact ga _ rfl hz hb u h4 hm fa
 |succ f ih=>
  intro p b v g hf hr hz hb u h4 sa hm fa y;refine Af Vn.eq_1 ?_;have hp:p<ls.length:=O
  have ka:ls[p]?=some ls[p]:=Qi hp;have qa:ls[p]∈ls:=QX hp;have i:=N7 ka (n _ qa);have d:aFD [.agg (Hw a),.int .i32 (ls[p].toNat:Int)]=some (.int .i64 (Bp a (ls[p].toNat:Int))):=HP t;have e:aJR [.agg (Hw b),.int .i32 (ls[p].toNat:Int)]=some (.agg (Hw (Eg b (ls[p].toNat:Int)))):=aJQ;have z:ls.take (p+1)=ls.take p++[ls[p]]:=by rw[Zg,ka];rfl
  have za:ls.drop p=ls[p]::ls.drop (p+1):=QJ hp;have ua:=hb.without (ls[p].toNat:Int);rw[za]at hr;unfold Ng at hr;generalize ls[p]=c at i d e z hr ua;obtain⟨ma,ia,ea⟩:=v;simp only at u h4 sa hm fa y;by_cases he:Bp a (c.toNat:Int)=0
  ·rw[if_neg (λh=>h he)]at hr;rw[he]at d;simp only[↓C2,G9,simprocAttr,u,h4,sa,hm,fa,i,AG la,AG l,Ab j,d,Ab k,e,BQ,BR,AO,AU,hp,y,and_self,Qo,Qw,Qk];refine ih (p+1) _ _ _ O hr (λx w=>?_) ua ?_ ?_ ?_ ?_ ?_ ?_
   ·grind
   ·exact u
   ·exact h4
   ·exact sa
   ·grind [AG]
   ·grind [Az,AU]
   ·grind [aA,Ah]
  ·rw[if_pos he]at hr;simp only[↓C2,G9,simprocAttr,u,sa,hm,i,AG la,Ab j,d,he,BQ,BR,hp,y,Qo,Qw];exact pa _ (by rw[←hr];exact he) (by rw[←hr];rfl)
def L9{b:Bool}(h:Df b=0):b=true:=by cases b with
 |true=>rfl
 |false=>cases h
def aBv{a:Ak}{c:Int}(h:Bp a c=0):Uh a c:=by
 refine⟨?_,?_,?_⟩
 ·rintro rfl;have e:Bp a 110=Df (decide (0<=a.n∧a.n<=999)):=by simp[Bp]
  rw[e]at h;have:=of_decide_eq_true (L9 h);omega
 ·rintro rfl;have e:Bp a 99=Df (decide (-1<=a.cas∧a.cas<=999)):=by simp[Bp]
  rw[e]at h;have:=of_decide_eq_true (L9 h);omega
 ·rintro rfl;have e:Bp a 108=Df (countB a.ns):=by simp[Bp]
  rw[e]at h;have y:=L9 h;unfold countB at y;rw[QY]at y;intro x q;have i:(a.ns.any λx=>!decide (1<=x∧x<=999))=false:=by simpa using y.2
  rw[List.any_eq_false]at i;have p:=i x q;have m:1<=x∧x<=999:=Xw
  omega
def F68:List D->Option D:=FX (λa:Ak=>[HA a]) (λa=>HJ a) (λa=> .int .i64 (Ca a))
def aQ5{a:Ak}(h:HJ a):F68 [HA a]=some (.int .i64 (Ca a)):=
 B3 (mk:=λa:Ak=>[HA a]) (λx y e=>by
  simp only[Qc,and_true]at e;exact FQ e) h
def aWy:Kq F68 207:=by
 obtain⟨S,hS,hl⟩:=Bv (Aa oX (Aa aKk (Aa aSQ (Aa aSP (Aa aSO Ad)))));have e:=hl 44 _ rfl;have j:=hl 101 _ rfl;have k:=hl 259 _ rfl;have g:=hl 260 _ rfl;have i:=hl 261 _ rfl;clear hl;refine C0 hS (Aj func207:Fn Qe 207 39 aUM [.t 2]) (λ_=>U) (λa x=>?_);have ba:=PG x.op0 x.op;obtain⟨f1,f2,f3⟩:=pU a.op;have ra:∀m:Ha,m.put [0] 0 (Hw a) [0] 0=some (.int .u8 a.op):=λm=>by
  rw[Ah,if_pos ⟨rfl,QB _,by rw[AU];omega⟩];rfl
 have la:([0]:Id)≠[17]:=V
 have l:([11]:Id)≠[17]:=V
 have o:([0]:Id)≠[11]:=V
 have q:([0]:Id)≠[5]:=V
 have s:∀m:Ha,m.put [11] 0 (Hw a) [11] 0=some (.int .u8 a.op):=λm=>by
  rw[Ah,if_pos ⟨rfl,QB _,by rw[AU];omega⟩];rfl
 have ia:HJ (I4 a):=⟨by simp[I4],by simp[I4],x.tk,x.pa,x.ot,x.ns,x.da,x.rl,x.rs,x.key⟩;have b:(∀c∈BH a.op,Bp a (c.toNat:Int)=0)->aRb [.agg (Hw a)]=some (.str (OD a)):=λh=>aJO x λc hc=>aBv (h c hc)
 unfold Ca aUM HA;by_cases hw:EE a.op=[]
 ·have n:(EE a.op==([]:Bs))=true:=by rw[hw];rfl
  simp only[↓C2,G9,simprocAttr,AO,AU,Ab e,ba,ra,Az,Ah,Qu,QM,Qg,Qm,Qp,Qo,and_self,Qk,Qc,Qf,hw]
  all_goals exact Y7
 ·have n:(EE a.op==([]:Bs))=false:=by simpa using hw
  simp only[↓C2,Ho,simprocAttr,AO,AU,Ab e,ba,ra,s,MB,Az,Ah,Qk,Qc,and_false,Qf,hw,AG q,Az (AU a)];generalize hr:Ng a (I4 a) (BH a.op)=r;refine aOP (r:=r) x j k f3 (λv u y=>?_) (λv u hz hb z p w fa=>?_) (BH a.op).length 0 (I4 a) _ _ O hr U ia rfl rfl rfl ?_ ?_ ?_
  ·simp only[↓C2,G9,reduceIte,u,y,ne_eq];rw[if_neg hw]
  ·have f:=b hz;have d:aRc [.agg (Hw r.2),.agg [.int .u8 0,.str [],.str [],.str [],.int .i64 0,.int .i64 0,.bool false,.slice true [] [],.str [],.slice true [] [],.str []]]=some (.bool (SP r.2)):=aJP hb;cases hzb:SP r.2 with
   |false=>
    rw[hzb]at d;simp only[↓C2,G9,simprocAttr,BQ,BR,ne_eq,QD,Q2,Q7,Zb,Zh,u,p,fa,Ab g,d,Cg,D.un1,D.calm1,Zj];rw[if_neg hw]
   |true=>
    rw[hzb]at d;by_cases hl:400<(OD a).length
    ·have ea:((400:Int)<((OD a).length:Int)):=by omega
     simp only[↓C2,G9,simprocAttr,BQ,BR,ne_eq,QD,Q2,Q7,Zb,Zh,u,z,p,w,fa,Ab g,d,Ab i,f,Cg,hl,ea,D.un1,D.calm1,Zj];rw[if_neg hw]
    ·have ea:¬((400:Int)<((OD a).length:Int)):=by omega
     simp only[↓C2,G9,simprocAttr,BQ,BR,ne_eq,QD,Q2,Q7,Zb,Zh,u,z,p,w,fa,Ab g,d,Ab i,f,Cg,hl,ea,D.un1,D.calm1,Zj];rw[if_neg hw]
  ·grind [AG,Az,AU]
  ·simp only[AG l];exact aAJ a
  ·grind [Ah]
def ryN:Ry->Prop
 | .names nl l=>nl=true->l=[]
 |_=>True
def NF:∀{l:List Rw} {a:Int},Cn l a=true->∀x∈l,a<x.1∧x.1<=(l.getLast?.map (·.1)).getD 0
 |[],a,_,x,hx=>by cases hx
 |y::r,a,h,x,hx=>by
  simp only[Cn,QY,decide_eq_true_eq]at h;cases r with
  |nil=>
   rw[Q4.1 hx];exact⟨h.1,U⟩
  |cons z q=>
   have ih:=NF h.2;have j:=ih z (Zs ..);rw[List.getLast?_cons_cons];rcases QO.1 hx with rfl|hx
   ·exact⟨h.1,O⟩
   ·grind
def CK(l:List Rw):Gl l=(l.getLast?.map (·.1)).getD 0:=by
 grind [Gl]
def T7{s:Sc}{q:Int}(h:BU s q=false)(v:q<=6):s.rs.length<=6∧∀x∈s.rs,1<=x.1∧x.1<=30:=by
 obtain⟨u,f,j,r,z,k⟩:=Eu h;have y:AR s q<=6:=Ya
 refine⟨O,λx w=>?_⟩;have:=NF z x w;rw[←CK,k]at this;omega
theorem sum_64:∀l:List Bs,(l.any λs=>!jK s)=false->CH l<=64*l.length
 |[],_=>by simp[CH]
 |x::r,h=>by
  simp only[ZE,Bool.or_eq_false_iff,Bool.not_eq_false']at h;have ih:=sum_64 r h.2;have q:x.length<=64:=by
   grind [jK]
  simp only[CH,Qg];omega
def oB{y:Ry}(h:Mo y=0)(g:ryN y):ryG y:=by
 cases y with
 |fail e=>simp only[Mo]at h;split at h;(rename_i c;exact⟨O,O⟩);omega
 |done=>trivial
 |number n=>simp only[Mo]at h;split at h;(rename_i c;exact⟨O,O⟩);omega
 |found n d=>simp only[Mo]at h;split at h;(rename_i c;exact⟨O,O,O⟩);omega
 |about s=>
  simp only[Mo]at h;cases hb:BU s 6 with
  |true=>rw[hb]at h;simp at h
  |false=>
   obtain⟨u,w,j,_⟩:=Eu hb;obtain⟨f,k⟩:=T7 hb O;exact⟨O,O,O,λx q=>by have:=k x q;omega⟩
 |names nl l=>
  simp only[Mo]at h;split at h
  ·rename_i c;have:=sum_64 l c.2;exact⟨O,g,O⟩
  ·omega
 |state b=>trivial
theorem Tp(l:List Bs):(Tq l).length<=1+CH l+l.length:=by
 grind [Tq,join_len]
def aGr{y:Ry}(h:Mo y=0)(g:ryN y):(Om y).length<=6∧CH (Om y)<=100000:=by
 cases y with
 |fail e=>have:=E8 e.toNat;simp only[Om,CH,Qg,Qm];omega
 |done=>simp[Om,CH]
 |number n=>have:=E8 n.toNat;simp only[Om,CH,Qg,Qm];omega
 |found n d=>
  have:=E8 n.toNat;simp only[Mo]at h;split at h
  ·grind [hexB_len,Om,CH]
  ·omega
 |about s=>
  have k:=E8 s.mx.toNat;have o:=E8 s.la.toNat;obtain⟨z,_⟩:=oB h g;have:=Tp (s.rs.map EC);have:=PR s.rs;rw[Qy]at *;simp only[Om,CH,Qg,Qm];omega
 |names nl l=>
  simp only[Mo]at h;split at h
  ·grind [sum_64,Tp,Om,CH]
  ·omega
 |state b=>cases b<;>simp[Om,CH]
def aEk:=Ar [(67,Ac R92),(70,Ac aQY),(69,Ac dD)]
def aJd:=RF aEk aMY [.t 2,.t 3] 13
def aKI:Kq aJd 30:=Ap (Aj func30) (Aa aWS (Aa aUb (Aa aKA Ad)))
def rV(y:Ry)(h:aGs y)(hn:ryN y):aJd [.agg (HQ y)]=some (.tup [.str (Is y),.int .i64 (Mo y)]):=by
 refine Al (Qa rfl) ?_;unfold aMY;have o:=aQu y h;have e0:∃a b c d e f g i j k,HQ y=[a,b,c,d,e,f,g,i,j,k]:=Y4
 have d0:∀x∈HQ y,x.un1=x∧x.calm1=true:=by
  cases y<;>(intro x q;simp only[HQ,QO,QV,or_false]at q;rcases q with rfl|rfl|rfl|rfl|rfl|rfl|rfl|rfl|rfl|rfl<;>exact⟨rfl,rfl⟩)
 unfold Is;by_cases c:Mo y=0
 ·have n:=aIX y (oB c hn);obtain⟨w1,w2⟩:=aGr c hn;have m:=dB (l:=Om y) (s:=[32]) ⟨aAp y,O,O,U,by have:=join_len (Om y) [32];simp only[Qg,Qm]at this;omega⟩;obtain⟨a,b,cc,d,e,f,g,i,j,k,z⟩:=e0;have u:=λx q=>d0 x q
  rw[z]at o n d0 ⊢;rw[c]at o ⊢;simp only[QO,QV,or_false,forall_eq_or_imp,forall_eq]at d0;obtain⟨⟨a1,a2⟩,⟨b1,b2⟩,⟨c1,p⟩,⟨t,d2⟩,⟨w,v⟩,⟨f1,f2⟩,⟨g1,g2⟩,⟨i1,i2⟩,⟨j1,j2⟩,k1,k2⟩:=d0;have r:((strsD (Om y)).all D.calm)=true:=by simp[strsD,QT];intros;rfl
  simp only[Hb,↓C2,G7,simprocAttr,Ae aEk 67,o,a1,a2,b1,b2,c1,p,t,d2,w,v,f1,f2,g1,g2,i1,i2,j1,j2,k1,k2,Ae aEk 70,n,Ae aEk 69,m,spJ]
  all_goals exact Y6
 ·have c':=eq_false c;obtain⟨a,b,cc,d,e,f,g,i,j,k,z⟩:=e0;rw[z]at o d0 ⊢;simp only[QO,QV,or_false,forall_eq_or_imp,forall_eq]at d0;obtain⟨⟨a1,a2⟩,⟨b1,b2⟩,⟨c1,p⟩,⟨t,d2⟩,⟨w,v⟩,⟨f1,f2⟩,⟨g1,g2⟩,⟨i1,i2⟩,⟨j1,j2⟩,k1,k2⟩:=d0;simp only[Hb,↓C2,G7,simprocAttr,Ae aEk 67,o,a1,a2,b1,b2,c1,p,t,d2,w,v,f1,f2,g1,g2,i1,i2,j1,j2,k1,k2,c']
  all_goals exact Y6
def aVM:=Ar [(30,Ac aJd)]
def aJe:=RF aVM aMZ [.t 2] 17
def aKJ:Kq aJe 37:=Ap (Aj func37) (Aa aKI Ad)
def V1(e:Int)(h:1<=e∧e<=99):aJe [.int .i64 e]=some (.str (Is (.fail e))):=by
 refine Al (Qa rfl) ?_;unfold aMZ;have n:=rV (.fail e) trivial trivial;have z:Mo (.fail e)=0:=if_pos h;rw[z]at n;have c':(e=0)=False:=eq_false O;unfold HQ at n;simp only[Hb,↓C2,G7,simprocAttr,Ae aVM 30,n,c']
 all_goals exact Y6
def aPQ{b:Bool}:decide (b=true)=b:=by cases b<;>rfl
def aMD:=y0 f262 [] []
def aMC:=y0 f263 [] []
def aUL:=y0 f208 [(4,[(6,0),(6,2)])] []
def aUK:=y0 f209 [] []
def aU0:=y0 f143 [] []
def aU1:=y0 f78 [] []
structure Vw where
 se:Bool
 te:Int
 key:Bs
 nlm:Bool
 ms:List Mt
 nlt:Bool
 ks:List Tk
def HH(v:Vw):List D:=[.bool v.se,.int .i64 v.te,.str v.key,.slice v.nlm [] (AB v.ms),.slice v.nlt [] (AJ v.ks)]
def HZ(v:Vw):D:= .agg (HH v)
theorem O1{a b:Vw}(h:HZ a=HZ b):a=b:=by
 cases a;cases b;simp only[HZ,HH,D.agg.injEq,Qc,D.int.injEq,D.str.injEq,D.bool.injEq,D.slice.injEq,true_and,and_true]at h;obtain⟨u,y,i,⟨p,m⟩,n,k⟩:=h;have f:=cA m;have z:=WA k;subst u y i p n f z;rfl
def Iu(v:Vw):(HH v).map D.un1=HH v:=rfl
def Iv(v:Vw):(HH v).all D.calm1=true:=rfl
def Bz(v:Vw):D.cells (.agg (HH v))=HH v:=rfl
theorem Cy(v:Vw):(HH v).length=5:=rfl
structure R3 (v:Vw):Prop where
 ml:v.ms.length<=1000
 mp:∀m∈v.ms,m.1.length<=1000
 kl:v.ks.length<=1000
 kp:∀k∈v.ks,aAf k∧MC k.2.2.2
theorem WB{l:List Tk}{j:Nat}(h:j<l.length):Bu l j∈l:=by simp[Bu,Qi h]
def R3.set{v:Vw}(h:R3 v):Fz (AJ v.ks):=E_ (by have:=h.kl;omega)
def F5(k:List Tk)(n p:Bs)(c:Int):Bool:=A4 k n&&dI (Ds (Bu k (LB k n)).2.2.2 p).toNat c.toNat
open Classical in
def aFs{nl:Bool}{l:List Tk}{s:Bs}(hl:l.length<=1000000)(y:∀k∈l,aAf k):F35 [.agg [.slice nl [] (AJ l)],.str s]=some (.tup (if A4 l s=true then [PP (Bu l (LB l s)),.bool true]else [.agg [.str [],.str [],.slice true [] []],.bool false])):=by
 have h:Fz (AJ l)∧∀k∈Dv (AJ l),aAf k:=⟨E_ hl,by rw[BL];exact y⟩;show(if _ then _ else _)=_;rw[if_pos h,BL]
open Classical in
def aQ7{nl:Bool}{l:List Tk}{s p:Bs}(hl:l.length<=1000000)(y:∀k∈l,k.2.2.2.length<=1000000):F36 [.agg [.slice nl [] (AJ l)],.str s,.str p]=some (.int .u8 (if A4 l s=true then Ds (Bu l (LB l s)).2.2.2 p else 0)):=by
 have h:Fz (AJ l)∧∀k∈Dv (AJ l),k.2.2.2.length<=1000000:=⟨E_ hl,by rw[BL];exact y⟩;show(if _ then _ else _)=_;rw[if_pos h,BL]
def aH0{l:List Rl}(h:GD l)(s:Bs):0<=Ds l s∧Ds l s<256:=by
 unfold Ds;split
 ·omega
 ·generalize (Ih s (l.map (·.1))).toNat=j;by_cases q:j<l.length
  ·have:CS l j=l[j]:=by simp[CS,Qi q]
   rw[this];exact h _ (QX q)
  ·grind [CS]
def jQ(p:Vw×Bs×Bs×Int):List D:=[HZ p.1,.str p.2.1,.str p.2.2.1,.int .u8 p.2.2.2]
def aBb(x y:Vw×Bs×Bs×Int)(e:jQ x=jQ y):x=y:=by
 grind [jQ,O1]
def aJN:List D->Option D:=FX jQ (λp=>R3 p.1∧0<=p.2.2.2∧p.2.2.2<256) (λp=> .bool (F5 p.1.ks p.2.1 p.2.2.1 p.2.2.2))
def sM{v:Vw}{n p:Bs}{c:Int}(h:R3 v)(u:0<=c∧c<256):aJN [HZ v,.str n,.str p,.int .u8 c]=some (.bool (F5 v.ks n p c)):=B3 (mk:=jQ) (a:=(v,n,p,c)) aBb ⟨h,u⟩
def aSN:Kq aJN 263:=by
 obtain⟨S,g,hl⟩:=Bv (Aa aSe (Aa aWB Ad));have e:=hl 81 _ rfl;have f:=hl 13 _ rfl;clear hl;refine C0 g (Aj func263:Fn Qe 263 29 aMC [.t 8]) (λ_=>by simp[jQ]) (λp w=>?_);obtain⟨v,n,q,c⟩:=p;obtain⟨m,z⟩:=w;simp only at m z;have ma:=m.kl;have i:=aFs (nl:=v.nlt) (l:=v.ks) (s:=n) O (λk y=>(m.kp k y).1);have d:=aQ7 (nl:=v.nlt) (l:=v.ks) (s:=n) (p:=q) O (λk y=>(m.kp k y).2.1);unfold aMC jQ HZ HH F5;simp only;cases hf:A4 v.ks n with
 |false=>
  rw[hf]at i;simp only[Qs,if_false]at i;simp only[↓C2,Ho,simprocAttr,Ab e,i,QA,Ah,Av,Aw,Qj,Qk,Qc,Qf]
  all_goals exact Y7
 |true=>
  rw[hf]at i d;simp only[if_true]at i d;have o:LB v.ks n<v.ks.length:=by
   grind [A4]
  have qa:=(m.kp _ (WB o)).2.2.2;generalize Bu v.ks (LB v.ks n)=k at i d qa;have u:=aH0 qa q;generalize Ds k.2.2.2 q=x at d u;have b:=R1 (a:=x.toNat) (c:=c.toNat) O O;rw[Qx z.1,Qx u.1]at b;have j:(((Nat.land c.toNat (255-x.toNat):Nat):Int)=0)=(dI x.toNat c.toNat=true):=by
   simp_all [dI]
  simp only[PP]at i;simp only[↓C2,Ho,simprocAttr,Ab e,i,Ab f,d,Wo,b,j,aPQ,Ah,Av,Aw,Qj,Qk,Qc,and_false,Qf]
  all_goals exact Y7
def aGj:Bs:=[115,121,115]
def atA(a:Ak):Bs:=if a.op<=8 then aGj else a.pa
def P_(v:Vw)(a:Ak):Bool:=F5 v.ks a.tk (atA a) (I2 a.op)&&(decide (a.op≠18)||F5 v.ks a.tk a.ot 2)
def L1(p:Vw×Ak):List D:=[HZ p.1,HA p.2]
def P6(x y:Vw×Ak)(e:L1 x=L1 y):x=y:=by
 grind [L1,O1,FQ]
def aDH(op:Int):0<=I2 op∧I2 op<256:=by
 grind [I2]
def aFC:List D->Option D
 |[.int .u8 op]=>some (.bool (decide (op<=8)))
 |_=>none
def aKj:Kq aFC 262:=by
 refine AN (S:=λ_=>none) A8 (Aj func262:Fn Qe 262 5 aMD [.t 2]) (λds r h=>?_) (λds r h=>?_)
 ·unfold aFC at h;split at h
  ·simp
  ·cases h
 ·unfold aFC at h;split at h
  ·simp only[Ql]at h;subst h;unfold aMD;simp only[↓C2,G9,simprocAttr]
   all_goals exact Y7
  ·cases h
def F69:List D->Option D:=FX L1 (λp=>R3 p.1) (λp=> .bool (P_ p.1 p.2))
def aQ4{v:Vw}{a:Ak}(h:R3 v):F69 [HZ v,HA a]=some (.bool (P_ v a)):=B3 (mk:=L1) (a:=(v,a)) P6 h
def aWx:Kq F69 208:=by
 obtain⟨S,hS,hl⟩:=Bv (Aa aKj (Aa aWC (Aa aSN Ad)));have c:=hl 262 _ rfl;have i:=hl 264 _ rfl;have h:=hl 263 _ rfl;clear hl;refine C0 hS (Aj func208:Fn Qe 208 32 aUL [.t 4]) (λ_=>by simp[L1]) (λp r=>?_);obtain⟨v,a⟩:=p;simp only at r;have f:aFC [.int .u8 a.op]=some (.bool (decide (a.op<=8))):=rfl;have x:F27 [.int .u8 a.op]=some (.int .u8 (I2 a.op)):=rfl;have j:∀q,aJN [.agg (HH v),.str a.tk,.str q,.int .u8 (I2 a.op)]=some (.bool (F5 v.ks a.tk q (I2 a.op))):=λq=>sM r (aDH _)
 have e:aJN [.agg (HH v),.str a.tk,.str a.ot,.int .u8 2]=some (.bool (F5 v.ks a.tk a.ot 2)):=sM r O;have n:∀m:Ha,Ag (m.put [1] 0 (Hw a)) [0] 0 5=Ag m [0] 0 5:=λm=>AG V
 have l:Ag (Ha.put (λ_ _=>none) [0] 0 (HH v)) [0] 0 5=some (HH v):=Az (Cy v);have w:∀m:Ha,∀k d,(Hw a)[k]?=some d->(m.put [1] 0 (Hw a)) [1] k=some d:=λm k d s=>by
  have y:=(QQ.1 s).1;rw[Ah,if_pos ⟨rfl,Qu _,O⟩];exact s
 have m0:=λm=>w m 0 _ rfl
 have m1:=λm=>w m 1 _ rfl
 have m2:=λm=>w m 2 _ rfl
 have m3:=λm=>w m 3 _ rfl
 unfold aUL L1 HZ HA P_ atA;simp only;by_cases u:a.op<=8
 ·have o:¬a.op=18:=by omega
  rw[decide_eq_true u]at f;have z:=j aGj;simp only[u,if_true];generalize F5 v.ks a.tk aGj (I2 a.op)=b at z;unfold aGj at z;cases b<;>simp only[↓C2,G9,simprocAttr,m0,m1,m2,n,l,Iu,Iv,Bz,AO,Qp,ne_eq,o,Ab c,f,Ab i,x,Ab h,z]<;>refine A1 ?_<;>simp only[↓C2,G9,reduceIte,Qb,ZH,o]
  all_goals exact Y7
 ·rw[decide_eq_false u]at f;have z:=j a.pa;simp only[u,if_false];generalize F5 v.ks a.tk a.pa (I2 a.op)=b at z;generalize F5 v.ks a.tk a.ot 2=b2 at e;by_cases o:a.op=18
  ·have g:(a.op=18)=True:=eq_true o;clear o;cases b<;>cases b2<;>simp only[↓C2,G9,simprocAttr,m0,m1,m2,m3,n,l,Iu,Iv,Bz,AO,Qp,ne_eq,Ab c,f,Ab i,x,Ab h,z,e,g]<;>refine A1 ?_<;>simp only[↓C2,G9,reduceIte,Qb,ZF,QN,g]
   all_goals exact Y7
  ·cases b<;>simp only[↓C2,G9,simprocAttr,m0,m1,m2,n,l,Iu,Iv,Bz,AO,Qp,ne_eq,o,Ab c,f,Ab i,x,Ab h,z]<;>refine A1 ?_<;>simp only[↓C2,G9,reduceIte,Qb,ZH,o]
   all_goals exact Y7
abbrev Op1:=Int×Bs×Bs
def opD(x:Op1):D:= .agg [.int .u8 x.1,.str x.2.1,.str x.2.2]
def El(l:List Op1):List D:=l.map opD
def aGS{x y:Op1}(h:opD x=opD y):x=y:=by
 grind [opD]
def aAT{a b:List Op1}(h:El a=El b):a=b:=(Zd (λ_ _ e=>aGS e)).1 h
def aAS(l:List Op1):(El l).length=l.length:=Qy ..
structure Oc where
 need:Bs
 li:Bool
 rep:Bs
 nl:Bool
 ops:List Op1
 vw:Vw
structure Wb where
 v:Vw
 a:Ak
 k:Kn
def ocC(o:Oc)(t:Id):List D:=[.str o.need,.bool o.li,.str o.rep,.slice o.nl t (El o.ops)]++HH o.vw
def HY(w:Wb)(o:Oc)(t:Id):List D:=HH w.v++(Hw w.a++(HG w.k++ocC o t))
theorem CP(w:Wb)(o:Oc)(t:Id):(HY w o t).length=30:=rfl
def IK{α:Type}{f:α->Bs}{a b:List α}(h:a.map (λx=>D.str (f x))=b.map λx=>D.str (f x)):a.map f=b.map f:=by
 have:=congrArg (Zw λd=>match d with|D.str s=>s|_=>[]) h;simpa[QR,Function.comp_def]using this
def U1{α:Type}{f:α->Bool}{a b:List α}(h:a.map (λx=>D.bool (f x))=b.map λx=>D.bool (f x)):a.map f=b.map f:=by
 have:=congrArg (Zw λd=>match d with|D.bool s=>s|_=>false) h;simpa[QR,Function.comp_def]using this
def aG6{a b:List (Bs×Bool×List Bs)}(h:a.map lsD=b.map lsD):a.map (·.2)=b.map (·.2):=by
 have:=congrArg (Zw λd=>match d with|D.slice nl _ xs=>(nl,xs.map λd=>match d with|D.str s=>s|_=>[])|_=>(false,[])) h;simpa[QR,Function.comp_def,lsD,strsD]using this
def aNI{α β γ:Type}:∀{a b:List (α×β×γ)},a.map (·.1)=b.map (·.1)->a.map (·.2.1)=b.map (·.2.1)->a.map (·.2.2)=b.map (·.2.2)->a=b
 |[],[],_,_,_=>rfl
 |[],_::_,h,_,_=>Xd
 |_::_,[],h,_,_=>Xd
 |x::a,y::b,h1,h2,h3=>by
  simp only[QD,Qc]at h1 h2 h3;rw[aNI h1.2 h2.2 h3.2,QU h1.1 (QU h2.1 h3.1)]
def pH{a b:Kn}(h:HG a=HG b):a=b:=by
 cases a;cases b;simp only[HG,Qc,D.slice.injEq,true_and,and_true]at h;obtain⟨⟨_,u⟩,⟨_,y⟩,⟨_,i⟩,⟨_,p⟩,_,q⟩:=h;have w:=aNI (IK u) (IK y) (U1 i);have g:=aG6 q;have m:=aNI (IK p) (by have:=congrArg (Zw Prod.fst) g;simpa[QR,Function.comp_def]using this) (by have:=congrArg (Zw Prod.snd) g;simpa[QR,Function.comp_def]using this);rw[w,m]
def Mq{w m:Wb}{o o':Oc}{t b:Id}(h:HY w o t=HY m o' b):w=m∧o=o'∧t=b:=by
 unfold HY at h;obtain⟨u,h⟩:=Q8 h rfl;obtain⟨y,h⟩:=Q8 h rfl;obtain⟨i,h⟩:=Q8 h rfl;have n:=O1 (congrArg D.agg u);have v:=FQ (congrArg D.agg y);have j:=pH i;unfold ocC at h;obtain⟨p,q⟩:=Q8 h rfl;have f:=O1 (congrArg D.agg q);simp only[Qc,D.str.injEq,D.bool.injEq,D.slice.injEq,and_true]at p;obtain⟨z,s,x,g4,g5,r⟩:=p;have a:=aAT r;cases w;cases m;cases o;cases o';simp only at n v j f z s x g4 a;subst n v j f z s x g4 a g5;exact⟨rfl,rfl,rfl⟩
abbrev WY:=D×Oc×Option (List Nat)
def Wp(i:Id)(w:Wb)(o:Oc)(t fr:Id)(y:WY):Hf:=match y.2.2 with
 |none=>[(i,0,HY w y.2.1 t)]
 |some l=>(i,0,HY w y.2.1 (l++fr))::Bh 167 (l++fr) (.slice o.nl t (El o.ops))
def VK(m:Ha)(i:Id)(x:Wb×Oc×Id):Prop:=Ag m i 0 30=some (HY x.1 x.2.1 x.2.2)∧BZ m 167 x.2.1.nl x.2.2 x.2.1.ops.isEmpty=true∧(x.2.1.nl=true->x.2.2=[])
open Classical in
def Th(p:Wb×Oc×Id->Prop):Option (Wb×Oc×Id):=if h:∃x,p x then some (Classical.choose h)else none
def bO{p:Wb×Oc×Id->Prop}{x:Wb×Oc×Id}(h:p x)(z:∀y,p y->y=x):Th p=some x:=by
 have q:∃x,p x:=⟨x,h⟩;unfold Th;rw[dif_pos q,z _ (Classical.choose_spec q)]
def Tg{p:Wb×Oc×Id->Prop}{x:Wb×Oc×Id}(h:Th p=some x):p x:=by
 unfold Th at h;split at h
 ·grind
 ·cases h
def wQ(F:Wb->Oc->List D->Option WY):HF where
 rd:=λds m=>match ds with
  | .ptr i 0::_=>Ai i 0 30++(match m i 24 with|some (.slice _ t _)=>[(t,0)]|_=>[])
  |_=>[]
 ex:=λds m fr=>match ds with
  | .ptr i 0::rest=>(Th (VK m i)).bind λx=>(F x.1 x.2.1 rest).map λy=>(y.1,Wp i x.1 x.2.1 x.2.2 fr y)
  |_=>none
def aDR{m:Ha}{i:Id}{w:Wb}{o:Oc}{t:Id}(h:Ag m i 0 30=some (HY w o t)):m i 24=some (.slice o.nl t (El o.ops)):=Bb h rfl
def aNX{F:Wb->Oc->List D->Option WY}(ds:List D)(m m':Ha)(fr:Id)(h:∀l∈(wQ F).rd ds m,m l.1 l.2=m' l.1 l.2):(wQ F).ex ds m fr=(wQ F).ex ds m' fr:=by
 simp only[wQ]at h ⊢;split
 ·rename_i i v;have j:Ag m i 0 30=Ag m' i 0 30:=BF (λl hl=>h l (Zo _ hl));have k:VK m i=VK m' i:=by
   funext x;obtain⟨w,o,t⟩:=x;apply propext;unfold VK;rw[j];have z:Ag m' i 0 30=some (HY w o t)->BZ m 167 o.nl t o.ops.isEmpty=BZ m' 167 o.nl t o.ops.isEmpty:=λn=>by
    refine Ep (h (t,0) (Zn _ ?_));have:=aDR (j.trans n);rw[this];simp
   constructor
   ·rintro⟨a,b,c⟩;exact⟨a,by rw[←z a];exact b,c⟩
   ·rintro⟨a,b,c⟩;exact⟨a,by rw[z a];exact b,c⟩
  rw[k]
 ·rfl
def fG{m:Ha}{i:Id}{x y:Wb×Oc×Id}(q:VK m i x)(o:VK m i y):y=x:=by
 have:=o.1.symm.trans q.1;simp only[Ql]at this;obtain⟨a,b,c⟩:=Mq this;exact QU a (QU b c)
structure Wt (i fr:Id) (m0:Ha) (nl0:Bool) (t0:Id) (m:Ha) (w:Wb) (o:Oc) (t:Id):Prop where
 at_:VK m i (w,o,t)
 loc:∀q,t≠q::fr
 sub0:nl0=false->¬fr<:+t0
 ch:(t=t0∧o.nl=nl0∧∀j x d,(j≠i∨30<=x)->m0 j x=some d->m j x=some d)∨
  ((∃l k,t=l++k::fr)∧o.nl=false∧(nl0=false->m t0 0=some (.tok 0))∧∀j x d,(j≠i∨30<=x)->(nl0=true∨j≠t0∨x≠0)->m0 j x=some d->m j x=some d)
def WE(i fr:Id)(m0:Ha)(nl0:Bool)(t0:Id)(w:Wb)(y:WY)(d:D)(m':Ha):Prop:=d=y.1∧match y.2.2 with
 |none=>Ag m' i 0 30=some (HY w y.2.1 t0)∧∀j x d,(j≠i∨30<=x)->m0 j x=some d->m' j x=some d
 |some l=>Ag m' i 0 30=some (HY w y.2.1 (l++fr))∧m' (l++fr) 0=some (.tok 168)∧(nl0=false->m' t0 0=some (.tok 0))∧∀j x d,(j≠i∨30<=x)->(nl0=true∨j≠t0∨x≠0)->m0 j x=some d->m' j x=some d
section
variable{i fr t0 t:Id}{m0 m m':Ha}{nl0:Bool}{w:Wb}{o o':Oc}
def O0(h:Ag m i 0 30=some (HY w o t)):m i 0=some (.bool w.v.se):=Bb h rfl
def iJ(h:VK m i (w,o,t))(g:o.nl=false):i≠t:=by
 rintro rfl;have u:=O0 h.1;have y:=EU h.2.1 g;rw[u]at y;cases y
def nE(h:Ag m i 0 30=some (HY w o t))(y:m t0 0=some (.tok 0)):t0≠i:=by
 rintro rfl;rw[O0 h]at y;cases y
def Wt.put(h:Wt i fr m0 nl0 t0 m w o t)(y:∀j x,fr<:+j->m0 j x=none:=by assumption)(f:∀k,(i=k::fr)=False:=by assumption){q p:Nat}{ys:List D}:Wt i fr m0 nl0 t0 (m.put (q::fr) p ys) w o t:=by
 obtain⟨⟨a1,b,r⟩,hl,g,z⟩:=h;have hi:i≠q::fr:=λe=>(f q).mp e
 have a:∀j x d,m0 j x=some d->j≠q::fr:=λj x d n e=>by
  rw[e,y (q::fr) _ ⟨[q],rfl⟩]at n;cases n
 refine⟨⟨by rw[O8 hi];exact a1,?_,r⟩,hl,g,?_⟩
 ·grind [Ep,aA]
 ·grind [aA]
def Wt.cell(h:Wt i fr m0 nl0 t0 m w o t)(c:Ag m' i 0 30=some (HY w o' t))(u:o'.nl=o.nl)(y:o'.ops=o.ops)(r:∀j x,(j≠i∨30<=x)->m' j x=m j x):Wt i fr m0 nl0 t0 m' w o' t:=by
 obtain⟨a,hl,g,z⟩:=h;refine⟨⟨c,?_,by show o'.nl=true->t=[];rw[u];exact a.2.2⟩,hl,g,?_⟩
 ·show BZ m' 167 o'.nl t o'.ops.isEmpty=true;rw[u,y];have p:=a.2.1;cases hn:o.nl with
  |true=>simp only[hn,BZ,if_true]at p ⊢;exact p
  |false=>
   have ga:=iJ a hn;simp only[hn]at p;rw[←p];exact Ep (r t 0 (.inl (λe=>ga e.symm)))
 ·rcases z with ⟨c1,b,c2⟩|⟨c1,c2,k,v⟩
  ·simp_all
  ·exact .inr ⟨c1,by rw[u];exact c2,λf=>by rw[r t0 0 (.inl (nE a.1 (k f)))];exact k f,λj x d q s n=>by rw[r j x q];exact v j x d q s n⟩
theorem oK{cs:List D}(hl:cs.length=30):∀j x,(j≠i∨30<=x)->(m.put i 0 cs) j x=m j x:=λj x h=>by
 rcases h with h|h
 ·rw[aA h]
 ·grind [aC,aA]
def GF{nl:Bool}{xs:List D}{e:Nat}{f:Id}{j:Id}{x:Nat}:Hf.app m (Bh e f (.slice nl t xs)) j x=if j=f∧x=0 then some (.tok (e+1))else if nl=false∧j=t∧x=0 then some (.tok 0)else m j x:=De
def MJ(t fr:Id):Option (List Nat)->Id
 |none=>t
 |some l=>l++fr
def Wt.call(h:Wt i fr m0 nl0 t0 m w o t)(r:∀j x,fr<:+j->m0 j x=none)(s:∀k l,(i=l++k::fr)=False){k:Nat}{d:D}{ol:Option (List Nat)}
  (qa:ol=none->o'.nl=o.nl∧o'.ops=o.ops) (ta:∀l,ol=some l->o'.nl=false∧l≠[]):
  Wt i fr m0 nl0 t0 (Hf.app m (Wp i w o t (k::fr) (d,o',ol))) w o' (MJ t (k::fr) ol)∧∀q x,Hf.app m (Wp i w o t (k::fr) (d,o',ol)) (q::fr) x=m (q::fr) x:=by
 cases ol with
 |none=>
  obtain⟨u,y⟩:=qa rfl;refine⟨h.cell (Hx (CP _ _ _)) u y (oK (CP _ _ _)),λq x=>?_⟩;have e0:q::fr≠i:=λe=>(s q []).mp e.symm
  show(m.put i 0 _) (q::fr) x=_;rw[aA e0]
 |some l=>
  obtain⟨g,z⟩:=ta l rfl;obtain⟨a,hl,hs,n⟩:=h;have v:i≠l++k::fr:=λe=>(s k l).mp e
  have p:∀j x,Hf.app m (Wp i w o t (k::fr) (d,o',some l)) j x=if j=l++k::fr∧x=0 then some (.tok 168)else if o.nl=false∧j=t∧x=0 then some (.tok 0)else(m.put i 0 (HY w o' (l++k::fr))) j x:=λj x=>GF (m:=m.put i 0 (HY w o' (l++k::fr)))
  have la:∀q,q::fr≠l++k::fr:=λq e=>by
   have:=congrArg ZI e;simp only[Qq,Qg]at this;exact z (QW.1 O)
  have b:fr<:+l++k::fr:=⟨l++[k],U⟩;refine⟨⟨⟨?_,?_,λh=>absurd h (by rw[g];simp)⟩,λq e=>la q e.symm,hs,.inr ⟨⟨l,k,rfl⟩,g,λf=>?_,λj x dd hj oa hm=>?_⟩⟩,λq x=>?_⟩
  ·show Ag _ i 0 30=some (HY w o' (l++k::fr));rw[←Hx (m:=m) (i:=i) (CP w o' (l++k::fr))];refine BF (λq hq=>?_);have ra:q.1=i:=by
    grind [Ai]
   rw[p,ra,if_neg (λe=>v e.1),if_neg (λe=>iJ a e.1 e.2.1)]
  ·show BZ _ 167 o'.nl (l++k::fr) _=true;rw[g];unfold BZ;rw[if_neg QK];simp only[p,and_self,if_true];cases l<;>simp
  ·have ga:t0≠l++k::fr:=λe=>hs f (e▸b)
   rw[p,if_neg (λe=>ga e.1)];rcases n with ⟨c1,c0,c2⟩|⟨c1,c2,c3,c4⟩
   ·simp_all
   ·split
    ·rfl
    ·rw[aA (nE a.1 (c3 f))];exact c3 f
  ·have ga:j≠l++k::fr:=λe=>by rw[e,r _ _ b]at hm;cases hm
   rw[p,if_neg (λe=>ga e.1)];have ha:m j x=some dd:=by
    grind
   rw[if_neg]
   ·grind [oK,CP]
   ·rintro⟨e1,e2,e3⟩;rcases n with ⟨c1,c0,c2⟩|⟨⟨l',c,c1⟩,c2,c3,c4⟩
    ·simp_all
    ·rw[e2,c1,r _ _ ⟨l'++[c],U⟩]at hm;cases hm
  ·have e0:q::fr≠i:=λe=>(s q []).mp e.symm
   rw[p,if_neg (λe=>la q e.1),if_neg (λe=>hl q e.2.1.symm),aA e0]
def Wt.start(h:VK m i (w,o,t))(y:∀j x,fr<:+j->m j x=none):Wt i fr m o.nl t m w o t:=by
 have z:o.nl=false->¬fr<:+t:=λg z=>by
  have:=EU h.2.1 g;rw[y _ _ z]at this;cases this
 refine⟨h,λq e=>?_,z,.inl ⟨rfl,rfl,λ_ _ _ _ h=>h⟩⟩;cases g:o.nl with
 |true=>have:=h.2.2 g;simp only at this;rw[this]at e;cases e
 |false=>exact z g (by rw[e];exact⟨[q],rfl⟩)
def Wt.end0(h:Wt i fr m0 nl0 t0 m w o t0)(z:nl0=true->t0=[]){d:D}:WE i fr m0 nl0 t0 w (d,o,none) d m:=by
 refine⟨rfl,h.at_.1,?_⟩;rcases h.ch with ⟨c1,b,n⟩|⟨⟨l,k,c1⟩,n,r,v⟩
 ·exact n
 ·exfalso;cases hn:nl0 with
  |true=>rw[z hn]at c1;simp at c1
  |false=>exact h.sub0 hn (c1▸⟨l++[k],U⟩)
def Wt.endl{l:List Nat}(h:Wt i fr m0 nl0 t0 m w o (l++fr))(hl:l≠[]){d:D}:WE i fr m0 nl0 t0 w (d,o,some l) d m:=by
 refine⟨rfl,h.at_.1,?_⟩;rcases h.ch with ⟨c1,b,n⟩|⟨⟨z,k,c1⟩,n,r,v⟩
 ·exfalso;cases hn:nl0 with
  |true=>
   have:=h.at_.2.2 (b.trans hn);simp only[List.append_eq_nil_iff]at this;exact hl this.1
  |false=>exact h.sub0 hn (c1▸⟨l,rfl⟩)
 ·exact⟨EU h.at_.2.1 n,r,v⟩
end
def oC(S:G8)(s:DC)(rs:List RV)(N:Nat)(w:Wb)(o:Oc)(v:List D)(y:WY):Prop:=v.length+1<=N∧(y.2.2=none->y.2.1.nl=o.nl∧y.2.1.ops=o.ops)∧(∀l,y.2.2=some l->y.2.1.nl=false∧l≠[])∧
 ∀(i:Id)(m:Ha)(fr t:Id),VK m i (w,o,t)->(∀j x,fr<:+j->m j x=none)->(∀k l,(i=l++k::fr)=False)->(∀k,(i=k::fr)=False)->
  s.wp S fr (Ea rs (WE i fr m o.nl t w y)) ⟨BI (.ptr i 0::v),m,0⟩
open Classical in
def RW(S:G8)(s:DC)(rs:List RV)(N:Nat):Wb->Oc->List D->Option WY:=λw o v=>if h:∃y,oC S s rs N w o v y then some (Classical.choose h)else none
def E4{S:G8}{s:DC}{rs:List RV}{N:Nat}{w:Wb}{o:Oc}{v:List D}{y:WY}(h:RW S s rs N w o v=some y):oC S s rs N w o v y:=by
 unfold RW at h;split at h
 ·grind
 ·cases h
def aR8(w:Wb)(o:Oc)(g:o.nl=true->o.ops=[]):∃(m:Ha)(t:Id),VK m [0] (w,o,t)∧(∀j x,[1]<:+j->m j x=none)∧¬[1]<:+t:=by
 have n1:¬[1]<:+[0]:=V
 have n2:¬[1]<:+[2]:=V
 cases hn:o.nl with
 |true=>
  refine⟨Ha.put (λ_ _=>none) [0] 0 (HY w o []),[],⟨Hx (CP _ _ _),?_,λ_=>rfl⟩,λj x q=>?_,V⟩
  ·grind [BZ]
  ·rw[aA (λe=>n1 (by rw[←e];exact q))]
 |false=>
  refine⟨(Ha.put (λ_ _=>none) [0] 0 (HY w o [2])).put [2] 0 [.tok 168],[2],⟨?_,?_,λh=>?_⟩,λj x q=>?_,n2⟩
  ·grind [O8,Hx,CP]
  ·grind [BZ,Ha.put]
  ·simp only at h;rw[hn]at h;cases h
  ·rw[aA (λe=>n2 (by rw[←e];exact q)),aA (λe=>n1 (by rw[←e];exact q))]
def Ba{S:G8}{s:DC}{rs:List RV}{N:Nat}{w:Wb}{o:Oc}{v:List D}{y:WY}(g:o.nl=true->o.ops=[])(r:oC S s rs N w o v y):RW S s rs N w o v=some y:=by
 have q:∃y,oC S s rs N w o v y:=⟨y,r⟩;unfold RW;rw[dif_pos q];obtain⟨m,t,u,f,i⟩:=aR8 w o g;have n:∀k l,(([0]:Id)=l++k::[1])=False:=λk l=>eq_false (λe=>by
  have:=congrArg List.getLast? e;simp at this)
 have e2:∀k,(([0]:Id)=k::[1])=False:=λk=>eq_false (λe=>by simp at e)
 obtain⟨d,m',a,b⟩:=RH ((Classical.choose_spec q).2.2.2 [0] m [1] t u f n e2) (r.2.2.2 [0] m [1] t u f n e2);generalize Classical.choose q=z at *;obtain⟨z1,c,z3⟩:=z;obtain⟨y1,y2,y3⟩:=y;obtain⟨rfl,a⟩:=a;obtain⟨p,b⟩:=b;simp only at p;subst p;cases z3 with
 |none=>
  cases y3 with
  |none=>
   have:=a.1.symm.trans b.1;simp only[Ql]at this;rw[(Mq this).2.1]
  |some l=>
   have:=a.1.symm.trans b.1;simp only[Ql]at this;exact absurd ⟨l,(Mq this).2.2.symm⟩ i
 |some l=>
  cases y3 with
  |none=>
   have:=a.1.symm.trans b.1;simp only[Ql]at this;exact absurd ⟨l,(Mq this).2.2⟩ i
  |some l2=>
   have:=a.1.symm.trans b.1;simp only[Ql]at this;obtain⟨_,j,x⟩:=Mq this;rw[j,List.append_cancel_right x]
def Dn{S:G8}{f:FuncId}{N:Nat}{dc:DC}{rs:List RV}(hf:Fn Qe f N dc rs)(hS:G8.ok Qe S):(wQ (RW S dc rs N)).ok Qe f:=by
 refine Ls hS hf aNX (λds m fr r u p ba=>?_);simp only[wQ]at p;split at p
 ·rename_i i ca;rw[Q5]at p;obtain⟨⟨w,o,t⟩,hp,p⟩:=p;rw[QZ]at p;obtain⟨y,hF,p⟩:=p;simp only[QC]at p;obtain⟨rfl,rfl⟩:=p;have ka:=Tg hp;obtain⟨hN,qa,ta,ha⟩:=E4 hF;have ra:m i 0=some (.bool w.v.se):=O0 ka.1;have ja:∀k l,(i=l++k::fr)=False:=λk l=>eq_false (λe=>by
   rw[e,ba _ _ ⟨l++[k],U⟩]at ra;cases ra)
  refine⟨hN,Mp (ha i m fr t ka ba ja (λk=>ja k [])) (λe fa he=>?_)⟩;obtain⟨c,d,ga,rfl,hE⟩:=he;refine⟨c,_,ga,rfl,λj x dd s=>?_⟩;obtain⟨y1,y2,y3⟩:=y;cases y3 with
  |none=>
   obtain⟨g1,g2⟩:=hE;have pa:(m.put i 0 (HY w y2 t)) j x=some dd:=s;by_cases b:j≠i∨30<=x
   ·grind [oK,CP]
   ·have n:j=i:=Classical.byContradiction (λh=>b (.inl h));have a:x<30:=Zk (λh=>b (.inr h));subst n;have ea:=aD (m:=m) (i:=j) (o:=0) (j:=x) (ds:=HY w y2 t) (by rw[CP];exact a);rw[Qp]at ea;rw[ea]at pa;exact Bb g1 pa
  |some l=>
   obtain⟨g1,g2,g3,g4⟩:=hE;obtain⟨g,z⟩:=ta l rfl;have pa:Hf.app (m.put i 0 (HY w y2 (l++fr))) (Bh 167 (l++fr) (.slice o.nl t (El o.ops))) j x=some dd:=s;rw[GF]at pa;split at pa
   ·simp_all
   ·split at pa
    ·simp_all
    ·rename_i e1 e2;by_cases b:j≠i∨30<=x
     ·rw[oK (CP _ _ _) j x b]at pa;refine g4 j x dd b ?_ pa;cases ho:o.nl with
      |true=>exact .inl rfl
      |false=>
       by_cases q:j=t
       ·simp_all
       ·exact .inr (.inl q)
     ·have n:j=i:=Classical.byContradiction (λh=>b (.inl h));have a:x<30:=Zk (λh=>b (.inr h));subst n;have ea:=aD (m:=m) (i:=j) (o:=0) (j:=x) (ds:=HY w y2 (l++fr)) (by rw[CP];exact a);rw[Qp]at ea;rw[ea]at pa;exact Bb g1 pa
 ·cases p
def pP{F:Wb->Oc->List D->Option WY}{w:Wb}{o:Oc}{t i fr:Id}{m:Ha}{v:List D}{y:WY}{K:D×Hf->Prop}{g}(x:VK m i (w,o,t))(f:F w o v=some y)(h:K (y.1,Wp i w o t fr y)):Hq ((wQ F).ex (.ptr i 0::v) m fr) K g:=by
 refine aH ?_ h;simp only[wQ,bO x (λz j=>fG x j),Qj,f,Qv]
def aCJ:=y0 f223 [] []
def aK1:Fn Qe 223 19 aCJ [.cell (some 2) 4]:=Aj func223
def aL2:=y0 Tryz.f276 [] []
def Vz:=y1 Tryz.f277 1 [] []
def aL1:=y0 Tryz.f277 [] [(1,Vz)]
def aCK:=y0 f221 [(1,[(3,0),(3,13),(7,13),(13,0),(13,3),(13,7)])] []
def aCI:=y0 f224 [] []
def VF:=y1 f225 3 [(6,[(8,5)])] []
def aMM:=y0 f225 [] [(3,VF)]
abbrev y2(f:Func)(ps:List (Nat×List (Nat×Nat)))(ls:List (Nat×DC)){c:DC}(_:tQ ps ls (bAt f)=c:=by exact Eq.trans (by conv=>lhs;whnf) (by simp only[tQ,kW,List.append_eq,tR,tO,tAt,tAi,tAb,tAs,tAf,tAl,tAp,tAn,tAu,tAg,zT,Tz.k,Tz.z,Tz.n,Tz.d,tL,tP,tB,tE,tX,tS,tI,tG,tC,tM,fAt,Oy,lk,ofVal,List.getD_cons_zero,List.getD_cons_succ,List.map_cons,List.map_nil,List.length_cons,List.length_nil,List.headD_cons,List.cons_append,List.nil_append,Option.map_some,Option.map_none,Option.getD_some,Bool.false_eq_true,reduceIte,Nat.reduceAdd,Nat.reduceMul,Nat.reduceEqDiff]<;>rfl)):DC:=c
abbrev y3(f:Func)(k:Nat)(ps:List (Nat×List (Nat×Nat)))(ls:List (Nat×DC)){c:DC}(_:tQ ps ls ((U5 k (bAt f)).getD .skip)=c:=by exact Eq.trans (by conv=>lhs;whnf) (by simp only[tQ,kW,List.append_eq,tR,tO,tAt,tAi,tAb,tAs,tAf,tAl,tAp,tAn,tAu,tAg,zT,Tz.k,Tz.z,Tz.n,Tz.d,tL,tP,tB,tE,tX,tS,tI,tG,tC,tM,fAt,Oy,lk,ofVal,List.getD_cons_zero,List.getD_cons_succ,List.map_cons,List.map_nil,List.length_cons,List.length_nil,List.headD_cons,List.cons_append,List.nil_append,Option.map_some,Option.map_none,Option.getD_some,Bool.false_eq_true,reduceIte,Nat.reduceAdd,Nat.reduceMul,Nat.reduceEqDiff]<;>rfl)):DC:=c
def aUP:=y0 f144 [(0,[(2,6)])] []
def aUO:=y0 f145 [] []
def aUN:=y0 f146 [] []
def aMQ:=y0 f216 [] []
def eM:=y0 f218 [] []
def aPS:=y0 f148 [(0,[(22,26),(26,4),(26,9),(26,14),(26,19),(26,22)]),(4,[(1,2)])] []
def N_:=y0 f153 [] []
def aHU:=y0 f87 [] []
def AM{m:Ha}{i:Id}{w:Wb}{o:Oc}{t:Id}(h:Ag m i 0 30=some (HY w o t)):m i 0=some (.bool w.v.se)∧m i 1=some (.int .i64 w.v.te)∧m i 2=some (.str w.v.key)∧m i 3=some (.slice w.v.nlm [] (AB w.v.ms))∧m i 4=some (.slice w.v.nlt [] (AJ w.v.ks))∧m i 5=some (.int .u8 w.a.op)∧m i 6=some (.str w.a.tk)∧m i 7=some (.str w.a.pa)∧m i 8=some (.str w.a.ot)∧m i 9=some (.int .i64 w.a.n)∧m i 10=some (.int .i64 w.a.cas)∧m i 11=some (.bool w.a.fl)∧m i 12=some (.slice w.a.nln [] (AI w.a.ns))∧m i 13=some (.str w.a.da)∧m i 14=some (.slice w.a.nlr [] (As w.a.rs))∧m i 15=some (.str w.a.key)∧m i 16=some (.slice w.k.es.isEmpty [] (w.k.es.map λx=> .str x.1))∧m i 17=some (.slice w.k.es.isEmpty [] (w.k.es.map λx=> .str x.2.1))∧m i 18=some (.slice w.k.es.isEmpty [] (w.k.es.map λx=> .bool x.2.2))∧m i 19=some (.slice w.k.ls.isEmpty [] (w.k.ls.map λx=> .str x.1))∧m i 20=some (.slice w.k.ls.isEmpty [] (w.k.ls.map lsD))∧m i 21=some (.str o.need)∧m i 22=some (.bool o.li)∧m i 23=some (.str o.rep)∧m i 24=some (.slice o.nl t (El o.ops))∧m i 25=some (.bool o.vw.se)∧m i 26=some (.int .i64 o.vw.te)∧m i 27=some (.str o.vw.key)∧m i 28=some (.slice o.vw.nlm [] (AB o.vw.ms))∧m i 29=some (.slice o.vw.nlt [] (AJ o.vw.ks)):=
 ⟨Bb h rfl,Bb h rfl,Bb h rfl,Bb h rfl,Bb h rfl,Bb h rfl,Bb h rfl,Bb h rfl,Bb h rfl,Bb h rfl,Bb h rfl,Bb h rfl,Bb h rfl,Bb h rfl,Bb h rfl,Bb h rfl,Bb h rfl,Bb h rfl,Bb h rfl,Bb h rfl,Bb h rfl,Bb h rfl,Bb h rfl,Bb h rfl,Bb h rfl,Bb h rfl,Bb h rfl,Bb h rfl,Bb h rfl,Bb h rfl⟩
def Wt.cellp{i fr t0 t:Id}{m0 m:Ha}{nl0:Bool}{w:Wb}{o o':Oc}{p:Nat}{ys:List D}(h:Wt i fr m0 nl0 t0 m w o t)(hl:p+ys.length<=30)(z:(HY w o t).take p++ys++(HY w o t).drop (p+ys.length)=HY w o' t)(u:o'.nl=o.nl)(y:o'.ops=o.ops):Wt i fr m0 nl0 t0 (m.put i p ys) w o' t:=by
 refine h.cell (by rw[iX h.at_.1 hl,z]) u y (λj x hj=>?_);rcases hj with hj|hj
 ·rw[aA hj]
 ·grind [aC,aA]
structure iD (o:Oc):Prop where
 nl:o.nl=true
 ops:o.ops=[]
def S54:=Ar [(37,Ac aJe)]
def ON:Wb->Oc->List D->Option WY:=RW S54 aUP [] 14
def Sx:(wQ ON).ok Qe 144:=Dn (Aj func144) (Aa aKJ Ad)
def mP(w:Wb)(o:Oc)(e:Int)(f:iD o)(z:1<=e∧e<=99):ON w o [.int .i64 e]=some (.tup [],⟨[],false,Is (.fail e),true,[],w.v⟩,none):=by
 refine Ba (λ_=>f.ops) ⟨Qa rfl,λh=>⟨f.nl.symm,f.ops.symm⟩,λl h=>Xc,λi m fr t x j p n0=>?_⟩;have q:=Wt.start x j;unfold aUP;have c:=AM x.1;have b:=V1 e z;have u:t=[]:=x.2.2 f.nl;simp only[Hb,↓C2,G7,simprocAttr,c,Ae S54 37,b];refine A1 ?_;simp only[↓C2,Hc,H_,simprocAttr];subst u;exact(q.cellp (o':=⟨[],false,Is (.fail e),true,[],w.v⟩) (Qa rfl) rfl f.nl.symm f.ops.symm).end0 (λ_=>rfl)
def S55:=Ar [(30,Ac aJd)]
def fT:Wb->Oc->List D->Option WY:=RW S55 aUO [] 13
def kB:(wQ fT).ok Qe 145:=Dn (Aj func145) (Aa aKI Ad)
def I8(w:Wb)(o:Oc)(y:Ry)(v:o.nl=true->o.ops=[])(h:aGs y)(hn:ryN y):fT w o [.agg (HQ y)]=some (.tup [],{o with rep:=Is y},none):=by
 refine Ba v ⟨Qa rfl,λh=>⟨rfl,rfl⟩,λl h=>Xc,λi m fr t x r p n0=>?_⟩;have hW:=Wt.start x r;unfold aUO;have s:=AM x.1;have n:=rV y h hn;have d0:((HQ y).map D.un1=HQ y∧(HQ y).all D.calm1=true)∧D.data (.agg (HQ y))=true∧(D.agg (HQ y)).cells=HQ y∧(HQ y).length=10:=by cases y<;>exact⟨⟨rfl,rfl⟩,rfl,rfl,rfl⟩
 obtain⟨⟨u,d2⟩,d3,d4,d5⟩:=d0;obtain⟨a,b,cc,d,e,f,g,q,j,k,z⟩:∃a b c d e f g i j k,HQ y=[a,b,c,d,e,f,g,i,j,k]:=Y4
 rw[z]at u d2 n ⊢;simp only[QD,Q2,Qc,and_true]at u;simp only[Q7,Zb,Bool.and_true,QY]at d2;obtain⟨u0,u1,u2,u3,u4,u5,u6,u7,u8,u9⟩:=u;obtain⟨k0,k1,k2,k3,k4,k5,k6,k7,k8,k9⟩:=d2;simp only[Hb,↓C2,G7,simprocAttr,s.2.2.2.2.2.2.2.2.2.2.2.2.2.2.2.2.2.2.2.2.2.2.2.1,n0,Ae S55 30,n,u0,u1,u2,u3,u4,u5,u6,u7,u8,u9,k0,k1,k2,k3,k4,k5,k6,k7,k8,k9];exact(hW.put.cellp (o':={o with rep:=Is y}) (Qa rfl) rfl rfl rfl).end0 x.2.2
def S56:=Ar [(145,wQ fT)]
def zG:Wb->Oc->List D->Option WY:=RW S56 aUN [] 5
def kA:(wQ zG).ok Qe 146:=Dn (Aj func146) (Aa kB Ad)
def I7(w:Wb)(o:Oc)(g:o.nl=true->o.ops=[]):zG w o []=some (.tup [],{o with rep:=Is .done},none):=by
 refine Ba g ⟨Qa rfl,λh=>⟨rfl,rfl⟩,λl h=>Xc,λi m fr t x j p n0=>?_⟩;have q:=Wt.start x j;unfold aUN;have y:=I8 w o .done g trivial trivial;unfold HQ at y;simp only[↓C2,G9,G7,simprocAttr,AD S56 145];refine pP x y ?_;obtain⟨c1,n⟩:=q.call (o':={o with rep:=Is .done}) (d:= .tup []) (ol:=none) (k:=2) j p (λ_=>⟨rfl,rfl⟩) (λl h=>Xc);simp only[↓C2,Hc,simprocAttr];exact c1.end0 x.2.2
def aXF:=Ar []
def VW:Wb->Oc->List D->Option WY:=RW aXF aMQ [] 16
def aBz:(wQ VW).ok Qe 216:=Dn (Aj func216) Ad
def PF(w:Wb)(o:Oc)(q:Bs)(li:Bool)(f:iD o):VW w o [.str q,.bool li]=some (.tup [],⟨q,li,[],true,[],w.v⟩,none):=by
 refine Ba (λ_=>f.ops) ⟨Qa rfl,λh=>⟨f.nl.symm,f.ops.symm⟩,λl h=>Xc,λi m fr t x j p n0=>?_⟩;have e:=Wt.start x j;unfold aMQ;have c:=AM x.1;have u:t=[]:=x.2.2 f.nl;simp only[Hb,↓C2,G7,simprocAttr,c];subst u;exact(e.cellp (o':=⟨q,li,[],true,[],w.v⟩) (Qa rfl) rfl f.nl.symm f.ops.symm).end0 (λ_=>rfl)
def aXH:=Ar []
def Oa:Wb->Oc->List D->Option WY:=RW aXH aMX [] 23
def MS:(wQ Oa).ok Qe 210:=Dn (Aj func210) Ad
def aIg(w:Wb)(o:Oc)(k:Int)(z u:Bs)(ho:o.nl=true->o.ops=[])(hl:o.ops.length<=1000):Oa w o [.int .u8 k,.str z,.str u]=some (.tup [],{o with nl:=false,ops:=o.ops++[(k,z,u)]},some ([11])):=by
 refine Ba ho ⟨Qa rfl,λh=>Xc,λl h=>XC,λi m fr t r y s n0=>?_⟩;have hW:=Wt.start r y;unfold aMX;have xx:=AM r.1;have ga:o.nl=false->i≠t:=λh=>iJ r h
 have n:o.nl=false->m t 0=some (.tok 168):=λh=>EU r.2.1 h
 have c:∀q,t≠q::fr:=hW.loc;have f:o.nl=true->El o.ops=[]:=λh=>by rw[ho h];rfl
 have ea:El (o.ops++[(k,z,u)])=El o.ops++[.agg [.int .u8 k,.str z,.str u]]:=by simp[El,opD]
 have v:(El o.ops).length=o.ops.length:=aAS _;simp only[↓C2,G9,G7,simprocAttr,xx.2.2.2.2.2.2.2.2.2.2.2.2.2.2.2.2.2.2.2.2.2.2.2.2.1];refine Au.intro ⟨by simp only[v];omega,rfl,?_⟩ ?_
 ·cases hn:o.nl with
  |true=>exact .inl rfl
  |false=>exact .inr ⟨by rw[aA (c _)];exact n hn,by
    have:=EU r.2.1 hn;unfold VK BZ at r;simp only[hn,Qs,if_false,this,beq_self_eq_true,Zq]at r;intro e;rw[e]at r;simp at r⟩
 rw[B8 f,NC];have key1:∀j x,Hf.app (m.put (10::fr) 0 [.tok 168]) (Bh 167 (11::fr) (.slice o.nl t (El o.ops))) j x=if j=11::fr∧x=0 then some (.tok 168)else if o.nl=false∧j=t∧x=0 then some (.tok 0)else(m.put (10::fr) 0 [.tok 168]) j x:=λj x=>GF
 generalize hM:Hf.app (m.put (10::fr) 0 [.tok 168]) (Bh 167 (11::fr) (.slice o.nl t (El o.ops)))=M at *;have a:∀x,M i x=m i x:=λx=>by
  rw[key1,if_neg (λe=>(n0 11).mp e.1),if_neg (λe=>ga e.1 e.2.1),aA (λe=>(n0 10).mp e)]
 have g:Ag M i 0 30=some (HY w o t):=by
  rw[←r.1];exact BF (λl hl=>by
   simp only[Ai,QL]at hl;obtain⟨_,_,rfl⟩:=hl;exact a _)
 simp only[Hb,↓C2,G7,simprocAttr,xx.2.2.2.2.2.2.2.2.2.2.2.2.2.2.2.2.2.2.2.2.2.2.2.2.1,a];refine⟨rfl,?_,?_,λh=>?_,λj x d p oa hm=>?_⟩
 ·rw[iX g (Qa rfl),←ea];rfl
 ·grind [aA]
 ·grind [aA]
 ·have b:∀q,j≠q::fr:=λq e=>by rw[e,y (q::fr) _ ⟨[q],rfl⟩]at hm;cases hm
  have e1:(M.put i 24 [.slice false (11::fr) (El o.ops++[.agg [.int .u8 k,.str z,.str u]])]) j x=M j x:=by
   grind [aA,aC]
  refine(show _=_ from e1).trans ?_;rw[key1,if_neg (λe=>b 11 e.1),if_neg,aA (b 10)]
  ·exact hm
  ·grind
def aPT:=y0 f147 [(3,[(1,7)])] []
def Vo:=y1 f149 6 [] []
def aPR:=y0 f149 [(0,[(10,14),(14,4),(14,9),(14,10)]),(4,[(1,2)])] [(6,Vo)]
def aHQ:=y0 f150 [(0,[(16,4),(16,9),(16,14)]),(1,[(6,10),(10,4),(10,5),(10,6)])] []
def lN:=y1 f151 5 [] []
def aHP:=y0 f151 [(0,[(10,15),(15,4),(15,9),(15,10)])] [(5,lN)]
def Oc.op(o:Oc)(k:Int)(z u:Bs):Oc:={o with nl:=false,ops:=o.ops++[(k,z,u)]}
def Bk(o:Oc)(p:Bs)(ns:List Int):Oc:={o with nl:=o.nl&&ns.isEmpty,ops:=o.ops++ns.map λn=>(2,An 2 p n,[])}
def aCs{o:Oc}{p:Bs}{ns:List Int}{n:Int}:(Bk o p ns).op 2 (An 2 p n) []=Bk o p (ns++[n]):=by
 simp[Bk,Oc.op]
def TQ{o:Oc}{p:Bs}:Bk o p []=o:=by simp[Bk]
def TR(ns:List Int):Option (List Nat):=if ns=[]then none else some [11,11*ns.length]
def AL(v:Vw)(p:Bs):Int×Bool:=if A0 v.ms p=-1 then(0,false)else(Cd v.ms (A0 v.ms p).toNat).2
def aOp(v:Vw)(p:Bs):Bs×Int:=if A0 v.ms p=-1 then([],14)else((Cd v.ms (A0 v.ms p).toNat).1,0)
def aAz(v:Vw)(p:Bs):IC v.ms p= .tup [.agg [.str (aOp v p).1,.int .i64 (AL v p).1,.bool (AL v p).2],.int .i64 (aOp v p).2]:=by
 unfold IC AL aOp;split<;>rfl
def Aq{i fr t0 t:Id}{m0 m:Ha}{nl0:Bool}{w:Wb}{o o':Oc}{v:List D}{d:D}{ol:Option (List Nat)}{F:Wb->Oc->List D->Option WY}{S:G8}{c k n:Nat}{ops l:List DOper}{s:Nat->D}{r:Option Nat}{K:Nat->(Nat->D)->Ha->Prop}{g}
  (hw:Wt i fr m0 nl0 t0 m w o t) (f:F w o v=some (d,o',ol))
  (h:∀M,Wt i fr m0 nl0 t0 M w o' (MJ t (n::fr) ol)->(∀q x,M (q::fr) x=m (q::fr) x)->Gb S fr c ops l k (Cq s r d) M K) (y:∀j x,fr<:+j->m0 j x=none:=by assumption) (p:∀k l,(i=l++k::fr)=False:=by assumption) (hR:∃S e rs N,F=RW S e rs N:=by exact⟨_,_,_,_,rfl⟩):
  Hq ((wQ F).ex (.ptr i 0::v) m (n::fr)) (λx=>WQ S fr c ops l k s r m K x.1 x.2) g:=by
 obtain⟨z,e,rs,N,rfl⟩:=hR;obtain⟨_,qa,ta,_⟩:=E4 f;refine pP hw.at_ f ?_;obtain⟨c1,c2⟩:=hw.call (o':=o') (d:=d) (ol:=ol) (k:=n) y p qa ta;exact h _ c1 c2
def Cv{i fr t0 t:Id}{m0 m:Ha}{nl0:Bool}{w:Wb}{o o':Oc}{v:List D}{d:D}{ol:Option (List Nat)}{F:Wb->Oc->List D->Option WY}{S:G8}{c k n:Nat}{ops l:List DOper}{s:Nat->D}{r:Option Nat}{op:DOp}{K:Nat->(Nat->D)->Ha->List Mm->Prop}{g}
  (hw:Wt i fr m0 nl0 t0 m w o t) (b:F w o v=some (d,o',ol))
  (h:∀M u,u=Wp i w o t (n::fr) (d,o',ol)->Wt i fr m0 nl0 t0 M w o' (MJ t (n::fr) ol)->(∀q x,M (q::fr) x=m (q::fr) x)->Ci S fr c ops l k (Cq s r d) M λa s' m' f=>K a s' m' ((Hu S s m op,AF u)::f)) (y:∀j x,fr<:+j->m0 j x=none:=by assumption) (p:∀k l,(i=l++k::fr)=False:=by assumption) (hR:∃S e rs N,F=RW S e rs N:=by exact⟨_,_,_,_,rfl⟩):
  Hq ((wQ F).ex (.ptr i 0::v) m (n::fr)) (λx=>NZ S fr c ops l k s r m op K x.1 x.2) g:=by
 obtain⟨z,e,rs,N,rfl⟩:=hR;obtain⟨_,qa,ta,_⟩:=E4 b;refine pP hw.at_ b ?_;obtain⟨c1,c2⟩:=hw.call (o':=o') (d:=d) (ol:=ol) (k:=n) y p qa ta;exact h _ _ rfl c1 c2
def DQ(w:Wb)(o:Oc)(k:Int)(z u:Bs)(g:o.nl=true->o.ops=[])(hl:o.ops.length<=1000):Oa w o [.int .u8 k,.str z,.str u]=some (.tup [],o.op k z u,some [11]):=aIg w o k z u g hl
def aVJ:=Ar [(23,Ac nB)]
def xZ:Wb->Oc->List D->Option WY:=RW aVJ aCJ [.cell (some 2) 4] 19
def aUk:(wQ xZ).ok Qe 223:=Dn aK1 (Aa oU Ad)
def VU(w:Wb)(o:Oc)(p:Bs)(g:o.nl=true->o.ops=[])(n:w.v.ms.length<=1000):xZ w o [.str p]=some (.agg [.int .i64 (AL w.v p).1,.bool (AL w.v p).2],o,none):=by
 refine Ba g ⟨Qa rfl,λh=>⟨rfl,rfl⟩,λl h=>Xc,λi m fr t x j f n0=>?_⟩;have q:=Wt.start x j;unfold aCJ;have c:=AM x.1;have a:=Wa (nl:=w.v.nlm) (t:=[]) (l:=w.v.ms) (p:=p) O;rw[aAz]at a;simp only[Hb,↓C2,G7,simprocAttr,c,n0,Ae aVJ 23,a];exact q.put.put.put.put.end0 x.2.2
def aIh:=Ar [(317,Ac aQH),(211,Ac Fs),(210,wQ Oa)]
def aIa:Wb->Oc->List D->Option WY:=RW aIh aL2 [] 18
def aKw:(wQ aIa).ok Qe 276:=Dn (Aj func276) (Aa aTL (Aa IP (Aa MS Ad)))
def rF(w:Wb)(o:Oc)(p:Bs)(s:Sc)(ho:o.nl=true->o.ops=[])(hl:o.ops.length<=1000)(g:s.rs.length<=1000)(c:p.length<=1000000):aIa w o [.str p,.agg (Hg s)]=some (.tup [],o.op 1 (An 1 p 0) (BS s),some ([11,12])):=by
 refine Ba ho ⟨Qa rfl,λh=>Xc,λl h=>XC,λi m fr t x j f n0=>?_⟩;have q:=Wt.start x j;unfold aL2;have a:=aIv s g;have v:=CY 1 0 p c;have na:=DQ w o 1 (An 1 p 0) (BS s) ho hl;unfold Hg at *;simp only[Hb,↓C2,G7,simprocAttr,Ae aIh 317,a,Ae aIh 211,v,AD aIh 210];refine Aq q.put na (λM c1 n=>?_);simp only[↓C2,Hc,simprocAttr];exact c1.endl (l:=[11,12]) U
def aQn:=Ar [(211,Ac Fs),(210,wQ Oa)]
def xX:Wb->Oc->List D->Option WY:=RW aQn aL1 [] 20
def aBx:(wQ xX).ok Qe 277:=Dn (Aj func277) (Aa IP (Aa MS Ad))
def VS(w:Wb)(o:Oc)(p:Bs)(nl:Bool)(tq:Id)(ns:List Int)(ho:o.nl=true->o.ops=[])(hl:o.ops.length+ns.length<=1000)(k:p.length<=1000000):xX w o [.str p,.slice nl tq (AI ns)]=some (.tup [],Bk o p ns,TR ns):=by
 refine Ba ho ⟨Qa rfl,λh=>(by unfold TR at h;split at h<;>simp_all [Bk]),λl h=>(by unfold TR at h;split at h<;>simp_all [Bk];subst h;simp),λi m fr t x y ja n0=>?_⟩;have hW:=Wt.start x y;unfold aL1;simp only[↓C2,Hc,simprocAttr,ES];refine BO (n:=ns.length) (I:=λj v=>v.s 8= .slice nl tq (AI ns)∧v.s 9= .int .i64 ns.length∧v.s 10= .int .i64 (j:Int)∧v.s 0= .ptr i 0∧v.s 1= .str p∧v.c=3+11*j∧Wt i fr m o.nl t v.m w (Bk o p (ns.take j)) (if j=0 then t else [11,11*j]++fr)) (λj q ih v g hI=>?_) (λv g hI=>?_) 0 (Qu _) _ _ ⟨rfl,rfl,rfl,rfl,rfl,rfl,by simp only[QP,TQ,if_true];exact hW⟩
 ·obtain⟨ma,ia,b⟩:=v;obtain⟨h8,h9,la,f,u,z,hw⟩:=hI;simp only at h8 h9 la f u z hw;refine Af Vz.eq_1 ?_;have da:((j:Int)<(ns.length:Int))=True:=eq_true O;have oa:=nJ (j:=j);have ka:=TA (l:=ns) (j:=j) q;have sa:IntKind.i64.wrap ((j:Int)+1)=((j+1:Nat):Int):=by rw[Hy O O];omega
  have ca:=CY 2 ns[j] p k;have ra:(Bk o p (ns.take j)).nl=true->(Bk o p (ns.take j)).ops=[]:=λh=>by
   simp only[Bk,QY,List.isEmpty_iff]at h ⊢;rw[ho h.1,h.2];rfl
  have ua:(Bk o p (ns.take j)).ops.length<=1000:=by simp[Bk];omega
  have na:=DQ w (Bk o p (ns.take j)) 2 (An 2 p ns[j]) [] ra ua;rw[aCs,←QF q]at na;simp only[↓C2,G9,G7,simprocAttr,f,u,h8,h9,la,da,oa,Qh,ka,Ae aQn 211,ca,AD aQn 210];refine Aq hw na (λM c1 c2=>?_);have e:MJ (if j=0 then t else [11,11*j]++fr) ((b+1+3+4)::fr) (some [11])=(if j+1=0 then t else [11,11*(j+1)]++fr):=by
   rw[if_neg (Qf j)];show [11]++_::fr=_;rw[show b+1+3+4=11*(j+1)by omega];rfl
  rw[e]at c1;simp only[↓C2,Hc,simprocAttr,la,sa];exact ih _ _ ⟨h8,h9,rfl,f,u,Xa,c1⟩
 ·obtain⟨ma,ia,b⟩:=v;obtain⟨h8,h9,la,f,u,z,hw⟩:=hI;simp only at h8 h9 la f u z hw;refine Af Vz.eq_1 ?_;simp only[↓C2,Hc,Hl,G7,simprocAttr,h9,la,Qz];rw[Zi]at hw;unfold TR;cases ns with
  |nil=>exact hw.end0 x.2.2
  |cons a r=>exact hw.endl (l:=[11,11*(r.length+1)]) U
def aBc(w:Wb)(p:Bs):Bs×Bool×Bool:=CN w.k (An 1 p 0)
def Od:=Ar [(211,Ac Fs),(220,Ac OZ),(216,wQ VW),(24,Ac aEq)]
def C9:Wb->Oc->List D->Option WY:=RW Od eM [.cell (some 4) 4,.t 5,.t 6] 42
def aKD:(wQ C9).ok Qe 218:=Dn (Aj func218:Fn Qe 218 42 eM [.cell (some 4) 4,.t 5,.t 6]) (Aa IP (Aa aKC (Aa aBz (Aa aKy Ad))))
def yB(w:Wb)(o:Oc)(p:Bs)(f:iD o)(c:p.length<=1000000)(s:w.k.es.length<=1000)(a:Bs×Bool×Bool)(n:aBc w p=a)(g:a.2.2=false):C9 w o [.str p]=some (.tup [.agg (Hg sc0),.bool false,.bool false],⟨An 1 p 0,false,[],true,[],w.v⟩,none):=by
 refine Ba (λ_=>f.ops) ⟨Qa rfl,λh=>⟨f.nl.symm,f.ops.symm⟩,λl h=>Xc,λi m fr t x j ja n0=>?_⟩;have e:=Wt.start x j;unfold eM;obtain⟨r,ia,b⟩:=a;simp only at g;have y:=CY 1 0 p c;have u:=PH w.k (An 1 p 0) s;rw[show CN w.k (An 1 p 0)=_ from n]at u;unfold HG at u;have xx:=AM x.1;subst g;have q:=PF w o (An 1 p 0) false f;simp only[Hb,↓C2,G7,simprocAttr,xx,n0,Ae Od 211,y,Ae Od 220,u,AD Od 216];refine Aq e.put q (λM c1 c2=>?_);simp only[Hb,↓C2,G7,simprocAttr,c2];exact c1.put.end0 x.2.2
def aIf(w:Wb)(o:Oc)(p:Bs)(q:iD o)(c:p.length<=1000000)(y:w.k.es.length<=1000)(mt:Bs×Bool×Bool)(n:aBc w p=mt)(hq:mt.2.2=true)(g:mt.1.length<=1000000)(f:mt.2.1=false∨(A_ mt.1).2≠0):C9 w o [.str p]=some (.tup [.agg (Hg sc0),.bool false,.bool true],o,none):=by
 refine Ba (λ_=>q.ops) ⟨Qa rfl,λh=>⟨rfl,rfl⟩,λl h=>Xc,λi m fr t x j ja n0=>?_⟩;have hW:=Wt.start x j;unfold eM;obtain⟨r,ia,b⟩:=mt;simp only at hq;have v:=CY 1 0 p c;have u:=PH w.k (An 1 p 0) y;rw[show CN w.k (An 1 p 0)=_ from n]at u;unfold HG at u;have a:=VZ r g;unfold Hg at a;have xx:=AM x.1;subst hq;simp only at f;generalize A_ r=se at *;obtain⟨s,e⟩:=se;simp only at f a;cases ia with
 |false=>
  simp only[Hb,↓C2,G7,simprocAttr,xx,n0,Ae Od 211,v,Ae Od 220,u,Ae Od 24,a];exact hW.put.put.put.end0 x.2.2
 |true=>
  have z:(e=0)=False:=eq_false (f.resolve_left U);simp only[Hb,↓C2,G7,simprocAttr,xx,n0,Ae Od 211,v,Ae Od 220,u,Ae Od 24,a,z];exact hW.put.put.put.end0 x.2.2
def aEg(w:Wb)(o:Oc)(p:Bs)(q:iD o)(c:p.length<=1000000)(y:w.k.es.length<=1000)(mt:Bs×Bool×Bool)(n:aBc w p=mt)(hq:mt.2.2=true)(g:mt.1.length<=1000000)(f:mt.2.1=true)(z:(A_ mt.1).2=0):C9 w o [.str p]=some (.tup [.agg (Hg (A_ mt.1).1),.bool true,.bool true],o,none):=by
 refine Ba (λ_=>q.ops) ⟨Qa rfl,λh=>⟨rfl,rfl⟩,λl h=>Xc,λi m fr t x j ja n0=>?_⟩;have hW:=Wt.start x j;unfold eM;obtain⟨r,ia,b⟩:=mt;simp only at hq;have v:=CY 1 0 p c;have u:=PH w.k (An 1 p 0) y;rw[show CN w.k (An 1 p 0)=_ from n]at u;unfold HG at u;have a:=VZ r g;unfold Hg at a;have xx:=AM x.1;subst hq;simp only at f z ⊢;generalize A_ r=se at *;obtain⟨s,e⟩:=se;simp only at z a;subst f z;simp only[Hb,↓C2,G7,simprocAttr,xx,n0,Ae Od 211,v,Ae Od 220,u,Ae Od 24,a];exact hW.put.put.put.end0 x.2.2
def Ix(o:Oc)(p:Bs)(s:Sc)(gone:List Int):Oc:={Bk (o.op 1 (An 1 p 0) (BS s)) p gone with rep:=Is .done}
def aEj:=Ar [(144,wQ ON),(276,wQ aIa),(277,wQ xX),(146,wQ zG)]
def VT:Wb->Oc->List D->Option WY:=RW aEj aCI [] 31
def aUj:(wQ VT).ok Qe 224:=Dn (Aj func224) (Aa Sx (Aa aKw (Aa aBx (Aa kA Ad))))
def xY(w:Wb)(o:Oc)(s:Sc)(gnl:Bool)(gone:List Int)(e:Int)(f:iD o)(z:1<=e∧e<=99):VT w o [.agg (Hg s),.slice gnl [] (AI gone),.int .i64 e]=some (.tup [],⟨[],false,Is (.fail e),true,[],w.v⟩,none):=by
 refine Ba (λ_=>f.ops) ⟨Qa rfl,λh=>⟨f.nl.symm,f.ops.symm⟩,λl h=>Xc,λi m fr t x j p n0=>?_⟩;have q:=Wt.start x j;unfold aCI;unfold Hg;have y:=mP w o e f z;have d:(e=0)=False:=eq_false O;simp only[↓C2,G9,G7,simprocAttr,d,AD aEj 144];refine Aq q.put y (λM c1 n=>?_);simp only[↓C2,Hc,simprocAttr];exact c1.end0 x.2.2
def aId(w:Wb)(o:Oc)(s:Sc)(gnl:Bool)(gone:List Int)(f:iD o)(e:gone.length<=900)(g:s.rs.length<=1000)(c:w.a.pa.length<=1000000):VT w o [.agg (Hg s),.slice gnl [] (AI gone),.int .i64 0]=some (.tup [],Ix o w.a.pa s gone,some (if gone=[]then [11,12,10]else [11,11*gone.length,18])):=by
 refine Ba (λ_=>f.ops) ⟨Qa rfl,λh=>Xc,λl h=>(by simp only[Ql]at h;subst h;exact⟨rfl,by split<;>simp⟩),λi m fr t x j ja n0=>?_⟩;have hW:=Wt.start x j;unfold aCI;have xx:=AM x.1;have b:=rF w o w.a.pa s (λ_=>f.ops) (by rw[f.ops];simp) g c;have d:=VS w (o.op 1 (An 1 w.a.pa 0) (BS s)) w.a.pa gnl [] gone (λh=>Xc) (by simp[Oc.op,f.ops];omega) c;have k:=I7 w (Bk (o.op 1 (An 1 w.a.pa 0) (BS s)) w.a.pa gone) (λh=>by simp[Bk,Oc.op]at h);unfold Hg at *;simp only[Hb,↓C2,G7,simprocAttr,xx.2.2.2.2.2.2.2.1,n0,AD aEj 276];refine Cv hW.put b (λM u z c1 q=>?_);have xx:=AM c1.at_.1;simp only[↓C2,H_,simprocAttr];refine Au.intro (λp c=>Xq) ?_;simp only[↓C2,Hc,Hl,G7,simprocAttr,xx.2.2.2.2.2.2.2.1,AD aEj 277];refine Aq c1 d (λr d1 y=>?_);simp only[↓C2,Hc,Hl,simprocAttr,AD aEj 146];refine Aq d1 k (λM3 n v=>?_);simp only[↓C2,Hc,simprocAttr];unfold TR at n;split
 ·rename_i va;rw[if_pos va]at n;exact n.endl (l:=[11,12,10]) U
 ·rename_i va;rw[if_neg va]at n;exact n.endl (l:=[11,11*gone.length,18]) U
def BD(l:List Rw):List Int:=(l.filter λx=>!x.2.2).map (·.1)
def UO:List Rw->Nat->List Nat->List Nat
 |[],_,L=>L
 |x::r,c,L=>if x.2.2=true then UO r (c+10) L else UO r (c+20) [11,11,c+17]
def UN:∀{l:List Rw} {c:Nat} {L:List Nat},L≠[]->UO l c L≠[]
 |[],_,_,h=>h
 |x::r,c,L,h=>by
  unfold UO;split
  ·exact UN h
  ·exact UN U
def Ek(o:Oc)(p:Bs)(l:List Rw):Oc:=Bk (o.op 2 (An 1 p 0) []) p (BD l)
def vU{o:Oc}{p:Bs}{a b:List Int}:Bk (Bk o p a) p b=Bk o p (a++b):=by
 simp only[Bk,Bool.and_assoc,Q_,QH,Oc.mk.injEq,true_and,and_true];cases a<;>cases b<;>simp
def mJ(l:List Rw):(BD l).length<=l.length:=by
 grind [BD]
def fN(l:List Rw)(x:Rw):BD (l++[x])=BD l++if x.2.2=true then []else [x.1]:=by
 grind [BD]
def UM{o:Oc}{p:Bs}{l:List Rw}:(Ek o p l).nl=false:=by simp[Ek,Bk,Oc.op]
def aAM{o:Oc}{p:Bs}{l:List Rw}:(Ek o p l).ops.length=o.ops.length+1+(BD l).length:=by simp[Ek,Bk,Oc.op];omega
def aEi:=Ar [(211,Ac Fs),(210,wQ Oa),(277,wQ xX),(146,wQ zG)]
def aIc:Wb->Oc->List D->Option WY:=RW aEi aMM [] 37
def aUi:(wQ aIc).ok Qe 225:=Dn (Aj func225) (Aa IP (Aa MS (Aa aBx (Aa kA Ad))))
def aIb(w:Wb)(o:Oc)(s:Sc)(h0:iD o)(hs:s.rs.length<=900)(k:w.a.pa.length<=1000000):aIc w o [.agg (Hg s)]=some (.tup [],{Ek o w.a.pa s.rs with rep:=Is .done},some (UO s.rs 13 [11,8])):=by
 refine Ba (λ_=>h0.ops) ⟨Qa rfl,λh=>Xc,λl h=>(by simp only[Ql]at h;subst h;exact⟨UM (o:=o) (p:=w.a.pa) (l:=s.rs),UN U⟩),λi m fr t ha r ja n0=>?_⟩;have hW:=Wt.start ha r;unfold aMM;have xx:=AM ha.1;have ca:=CY 1 0 w.a.pa k;have na:=DQ w o 2 (An 1 w.a.pa 0) [] (λ_=>h0.ops) (by rw[h0.ops];simp);unfold Hg;simp only[↓C2,G9,G7,simprocAttr,xx.2.2.2.2.2.2.2.1,n0,Ae aEi 211,ca,AD aEi 210];refine Aq hW.put na (λM c1 c2=>?_);simp only[↓C2,Hc,Hl,G7,simprocAttr,c2,AP];refine BO (n:=s.rs.length) (I:=λj v=>v.s 15= .slice s.nl [] (A9 s.rs)∧v.s 16= .int .i64 s.rs.length∧v.s 17= .int .i64 (j:Int)∧v.s 0= .ptr i 0∧∃L,L≠[]∧UO (s.rs.drop j) v.c L=UO s.rs 13 [11,8]∧Wt i fr m o.nl t v.m w (Ek o w.a.pa (s.rs.take j)) (L++fr)) (λj q ih v g hI=>?_) (λv g hI=>?_) 0 (Qu _) _ _ ⟨rfl,rfl,rfl,rfl,[11,8],U,rfl,by have c3:Wt i fr m o.nl t M w (o.op 2 (An 1 w.a.pa 0) []) ([11,8]++fr):=c1;simpa[Ek,BD,TQ]using c3⟩
 ·obtain⟨ma,ia,ea⟩:=v;obtain⟨ga,ta,ra,y,L,hL,hn,hw⟩:=hI;simp only at ga ta ra y hn hw;refine Af VF.eq_1 ?_;have da:((j:Int)<(s.rs.length:Int))=True:=eq_true O;have oa:=nJ (j:=j);have ka:=EF (l:=s.rs) (j:=j) q;have sa:IntKind.i64.wrap ((j:Int)+1)=((j+1:Nat):Int):=by rw[Hy O O];omega
  have hd:s.rs.drop j=s.rs[j]::s.rs.drop (j+1):=QJ q;have z:s.rs.take (j+1)=s.rs.take j++[s.rs[j]]:=QF q;rw[hd]at hn;generalize s.rs[j]=x at *;obtain⟨n,b,f⟩:=x;have va:=fN (s.rs.take j) (n,b,f);rw[←z]at va;simp only at va ka;have xx:=AM hw.at_.1;cases f with
  |true=>
   simp only[Hb,↓C2,G7,simprocAttr,ga,ta,ra,da,oa,Qh,ka,sa];refine ih _ _ ⟨ga,ta,rfl,y,L,hL,by simpa[UO]using hn,?_⟩;have e:Ek o w.a.pa (s.rs.take (j+1))=Ek o w.a.pa (s.rs.take j):=by unfold Ek;rw[va];simp
   rw[e];exact(hw.put.put)
  |false=>
   have e:Bk (Ek o w.a.pa (s.rs.take j)) w.a.pa [n]=Ek o w.a.pa (s.rs.take (j+1)):=by unfold Ek;rw[va,vU];rfl
   have fa:(Ek o w.a.pa (s.rs.take j)).ops.length+1<=1000:=by
    rw[aAM,h0.ops];have:=mJ (s.rs.take j);rw[Zy]at this;simp only[Qm];omega
   have d:=VS w (Ek o w.a.pa (s.rs.take j)) w.a.pa false ((ea+1+4+3+8)::fr) [n] (λh=>by rw[UM]at h;cases h) fa k;rw[e]at d;have d:xX w (Ek o w.a.pa (s.rs.take j)) [.str w.a.pa,.slice false ((ea+1+4+3+8)::fr) [.int .i64 n]]=some (.tup [],Ek o w.a.pa (s.rs.take (j+1)),some [11,11]):=d;simp only[Hb,↓C2,G7,simprocAttr,y,ga,ta,ra,da,oa,Qh,ka,xx.2.2.2.2.2.2.2.1,n0,AD aEi 277];refine Cv hw.put.put.put d (λM u hu c1 c2=>?_);simp only[↓C2,H_,Hl,G7,simprocAttr];refine Au.intro (Am ?_) ?_
   ·simp[AV,AF,Hu,Ai];show ¬((ea+1+4+3+8)::fr,0)∈[(i,7)];intro hm;simp only[Q4,QC]at hm;exact(n0 _).mp hm.1.symm
   simp only[↓C2,Hc,simprocAttr,ra,sa];refine ih _ _ ⟨ga,ta,rfl,y,[11,11,ea+17],U,by simpa[UO]using hn,c1⟩
 ·obtain⟨ma,ia,ea⟩:=v;obtain⟨ga,ta,ra,y,L,hL,hn,hw⟩:=hI;simp only at ga ta ra y hn hw;refine Af VF.eq_1 ?_;have la:=I7 w (Ek o w.a.pa s.rs) (λh=>by rw[UM]at h;cases h);rw[Zi]at hw;rw[Q1]at hn;simp only[↓C2,Hc,Hl,G7,simprocAttr,y,ta,ra,Qz,AD aEi 146];refine Aq hw la (λM c1 c2=>?_);simp only[↓C2,Hc,simprocAttr];rw[←hn];exact c1.endl hL
theorem Fh{l:Loc}{i:Id}{o n:Nat}(h:l∈Ai i o n):l.1=i:=by
 grind [Ai]
def DY{l:Loc}{i:Id}{o:Nat}{ds:List D}(h:l∈AF [(i,o,ds)]):l.1=i:=by
 grind [AF,Fh]
def En{l:Loc}{P:Prop}(h:l∈([]:List Loc)):P:=Xc
def Wh{p K:Prop}{t:Tag K}(k:K) (h:p:=by
 intro pp hpp l hl;simp only[List.mem_cons,List.not_mem_nil,or_false]at hpp
 repeat (rcases hpp with rfl|hpp;· first|exact En hl|exact⟨λh=>En h,λh=>En h⟩|(have d:=DY hl;refine⟨λh=>?_,λh=>En h⟩;first|(change l∈Ai _ _ _ at h;first|exact(n0 _).mp ((Fh h).symm.trans d)|(have:=d.symm.trans (Fh h);simp at this;done))|(rcases List.mem_append.1 h with h|h;exact(n0 _).mp ((Fh h).symm.trans d);rw[a1]at h;rw[List.mem_singleton.1 h]at d;exact c1.loc _ d)))):Au p K t:=⟨h,k⟩
def Sq(o:Oc)(p:Bs)(r:Sc×Int×List Int×Int)(data:Bs):Oc:={Bk ((o.op 1 (An 1 p 0) (BS r.1)).op 1 (An 2 p r.2.1) data) p r.2.2.1 with rep:=Is (.number r.2.1)}
def R6:=Ar [(223,wQ xZ),(275,Ac aQV),(144,wQ ON),(276,wQ aIa),(211,Ac Fs),(210,wQ Oa),(277,wQ xX),(145,wQ fT)]
def VV:Wb->Oc->List D->Option WY:=RW R6 aCK [] 50
def aKB:(wQ VV).ok Qe 221:=Dn (Aj func221) (Aa aUk (Aa aT5 (Aa Sx (Aa aKw (Aa IP (Aa MS (Aa aBx (Aa kB Ad))))))))
def yA(w:Wb)(o:Oc)(p:Bs)(s:Sc)(cas:Int)(data:Bs)(f:iD o)(g:s.rs.length<=800)(pa:s.nl=true->s.rs=[])(k:p.length<=1000000)(hd:data.length<=1000000)(hm:w.v.ms.length<=1000)(r:Sc×Int×List Int×Int)(hr:B2 s (AL w.v p).1 (AL w.v p).2 cas data.length=r)(he:1<=r.2.2.2∧r.2.2.2<=99):VV w o [.str p,.agg (Hg s),.int .i64 cas,.str data]=some (.tup [],⟨[],false,Is (.fail r.2.2.2),true,[],w.v⟩,none):=by
 refine Ba (λ_=>f.ops) ⟨Qa rfl,λh=>⟨f.nl.symm,f.ops.symm⟩,λl h=>Xc,λi m fr t x j ja n0=>?_⟩;have hW:=Wt.start x j;unfold aCK;have a:=rQ s (AL w.v p).1 (AL w.v p).2 cas data.length O pa;rw[hr]at a;obtain⟨s2,n,gone,e⟩:=r;simp only at he a ⊢;have c:=VU w o p (λ_=>f.ops) hm;generalize AL w.v p=qb at *;unfold Hg at *;simp only[Hb,↓C2,G7,simprocAttr,AD R6 223];refine Cv hW.put c (λM u hu c1 c2=>?_);simp only[Hb,↓C2,G7,simprocAttr,Ae R6 275,a];refine Au.intro ?_ ?_
 ·subst hu;have a1:=aDR (hW.put (q:=0) (p:=0) (ys:=[.int .i64 s.mx,.bool s.cas,.int .i64 s.la,.slice s.nl [] (A9 s.rs)])).at_.1;intro pp z l hl;simp only[QO,Zz,or_false]at z;rcases z with rfl|rfl|rfl|rfl|rfl|rfl
  ·change l∈AF [(i,0,HY w o t)]at hl;refine⟨λh=>?_,λh=>En h⟩;change l∈Ai (0::fr) 0 4 at h;exact(n0 0).mp ((DY hl).symm.trans (Fh h))
  ·change l∈AF [(i,0,HY w o t)]at hl;exact⟨λh=>En h,λh=>(n0 14).mp ((DY hl).symm.trans (DY h))⟩
  ·exact En hl
  ·have b:l.1=14::fr:=DY hl;refine⟨λh=>?_,λh=>En h⟩;change l∈Ai (0::fr) 0 4 at h;have:=b.symm.trans (Fh h);simp at this
  ·have b:l.1=14::fr:=DY hl;refine⟨λh=>?_,λh=>?_⟩
   ·rcases Zm.1 h with h|h
    ·grind [Fh]
    ·rw[a1]at h;rw[Q4.1 h]at b;exact hW.loc 14 b
   ·change l∈AF [(i,0,HY w o t)]at h;exact(n0 14).mp ((DY h).symm.trans b)
  ·exact⟨λh=>En h,λh=>En h⟩
 have y:=mP w o e f he;have d:(e=0)=False:=eq_false O;simp only[↓C2,G9,G7,simprocAttr,d,AD R6 144];refine Aq c1.put.put y (λM2 d1 d2=>?_);simp only[↓C2,Hc,simprocAttr];exact d1.end0 x.2.2
def aIe(w:Wb)(o:Oc)(p:Bs)(s:Sc)(cas:Int)(data:Bs)(f:iD o)(g:s.rs.length<=800)(pa:s.nl=true->s.rs=[])(k:p.length<=1000000)(hd:data.length<=1000000)(hm:w.v.ms.length<=1000)(r:Sc×Int×List Int×Int)(hr:B2 s (AL w.v p).1 (AL w.v p).2 cas data.length=r)(he:r.2.2.2=0)(ta:r.1.rs.length<=1000)(hg:r.2.2.1.length<=900):VV w o [.str p,.agg (Hg s),.int .i64 cas,.str data]=some (.tup [],Sq o p r data,some (if r.2.2.1=[]then [11,30]else [11,11*r.2.2.1.length,34])):=by
 refine Ba (λ_=>f.ops) ⟨Qa rfl,λh=>Xc,λl h=>(by simp only[Ql]at h;subst h;exact⟨by simp[Sq,Bk,Oc.op],by split<;>simp⟩),λi m fr t x j ja n0=>?_⟩;have hW:=Wt.start x j;unfold aCK;have a:=rQ s (AL w.v p).1 (AL w.v p).2 cas data.length O pa;rw[hr]at a;obtain⟨s2,n,gone,e⟩:=r;simp only at he a ta hg ⊢;subst he;have c:=VU w o p (λ_=>f.ops) hm;generalize AL w.v p=qb at *;unfold Hg at *;simp only[Hb,↓C2,G7,simprocAttr,AD R6 223];refine Cv hW.put c (λM u hu c1 c2=>?_);simp only[Hb,↓C2,G7,simprocAttr,Ae R6 275,a];refine Au.intro ?_ ?_
 ·subst hu;have a1:=aDR (hW.put (q:=0) (p:=0) (ys:=[.int .i64 s.mx,.bool s.cas,.int .i64 s.la,.slice s.nl [] (A9 s.rs)])).at_.1;intro pp z l hl;simp only[QO,Zz,or_false]at z;rcases z with rfl|rfl|rfl|rfl|rfl|rfl
  ·change l∈AF [(i,0,HY w o t)]at hl;refine⟨λh=>?_,λh=>En h⟩;change l∈Ai (0::fr) 0 4 at h;exact(n0 0).mp ((DY hl).symm.trans (Fh h))
  ·change l∈AF [(i,0,HY w o t)]at hl;exact⟨λh=>En h,λh=>(n0 14).mp ((DY hl).symm.trans (DY h))⟩
  ·exact En hl
  ·have ea:l.1=14::fr:=DY hl;refine⟨λh=>?_,λh=>En h⟩;change l∈Ai (0::fr) 0 4 at h;have:=ea.symm.trans (Fh h);simp at this
  ·have ea:l.1=14::fr:=DY hl;refine⟨λh=>?_,λh=>?_⟩
   ·rcases Zm.1 h with h|h
    ·grind [Fh]
    ·rw[a1]at h;rw[Q4.1 h]at ea;exact hW.loc 14 ea
   ·change l∈AF [(i,0,HY w o t)]at h;exact(n0 14).mp ((DY h).symm.trans ea)
  ·exact⟨λh=>En h,λh=>En h⟩
 have b:=rF w o p s2 (λ_=>f.ops) (by rw[f.ops];simp) ta k;have y:=CY 2 n p k;have na:=DQ w (o.op 1 (An 1 p 0) (BS s2)) 1 (An 2 p n) data (λh=>Xc) (by simp[Oc.op,f.ops]);have d:=VS w ((o.op 1 (An 1 p 0) (BS s2)).op 1 (An 2 p n) data) p (decide (gone=[])) [] gone (λh=>Xc) (by simp[Oc.op,f.ops];omega) k;have qa:=I8 w (Bk ((o.op 1 (An 1 p 0) (BS s2)).op 1 (An 2 p n) data) p gone) (.number n) (λh=>by simp[Bk,Oc.op]at h) trivial trivial;unfold Hg at b;unfold HQ at qa;simp only[Hb,↓C2,G7,simprocAttr,AD R6 276];refine Aq c1.put.put b (λM2 d1 d2=>?_);simp only[↓C2,G9,simprocAttr,Ae R6 211,y,AD R6 210];refine Aq d1 na (λM3 e1 e2=>?_);simp only[↓C2,Hc,Hl,simprocAttr,AD R6 277];refine Aq e1 d (λM4 f1 f2=>?_);simp only[↓C2,G9,G7,simprocAttr,AD R6 145];refine Aq f1 qa (λM5 g1 g2=>?_);simp only[↓C2,Hc,simprocAttr];unfold TR at g1;split
 ·rename_i va;rw[if_pos va]at g1;exact g1.endl (l:=[11,30]) U
 ·rename_i va;rw[if_neg va]at g1;exact g1.endl (l:=[11,11*gone.length,34]) U
def SD:=y0 f154 [(7,[(7,0),(7,12),(7,17),(7,23),(18,23),(23,0),(23,6),(23,7),(23,12),(23,17),(23,18)]),(16,[(6,10),(10,0),(10,5),(10,6)]),(19,[(6,10),(10,0),(10,5),(10,6)]),(2,[(6,11),(11,0),(11,5),(11,6)])] []
def rdQ(F:Wb->Oc->List D->Option WY):HF where
 rd:=(wQ F).rd
 ex:=λds m fr=>match ds with
  | .ptr i 0::rest=>(Th (VK m i)).bind λx=>(F x.1 x.2.1 rest).bind λy=>open Classical in if y.2.1=x.2.1∧y.2.2=none then some (y.1,[])else none
  |_=>none
def aGH{F:Wb->Oc->List D->Option WY}(ds:List D)(m m':Ha)(fr:Id)(h:∀l∈(rdQ F).rd ds m,m l.1 l.2=m' l.1 l.2):(rdQ F).ex ds m fr=(rdQ F).ex ds m' fr:=by
 simp only[rdQ,wQ]at h ⊢;split
 ·rename_i i v;have j:Ag m i 0 30=Ag m' i 0 30:=BF (λl hl=>h l (Zo _ hl));have k:VK m i=VK m' i:=by
   funext x;obtain⟨w,o,t⟩:=x;apply propext;unfold VK;rw[j];have z:Ag m' i 0 30=some (HY w o t)->BZ m 167 o.nl t o.ops.isEmpty=BZ m' 167 o.nl t o.ops.isEmpty:=λn=>by
    refine Ep (h (t,0) (Zn _ ?_));have:=aDR (j.trans n);rw[this];simp
   constructor
   ·rintro⟨a,b,c⟩;exact⟨a,by rw[←z a];exact b,c⟩
   ·rintro⟨a,b,c⟩;exact⟨a,by rw[z a];exact b,c⟩
  rw[k]
 ·rfl
def aOs{S:G8}{f:FuncId}{N:Nat}{dc:DC}{rs:List RV}(hf:Fn Qe f N dc rs)(g:G8.ok Qe S):(rdQ (RW S dc rs N)).ok Qe f:=by
 refine Ls g hf aGH (λds m fr r u z y=>?_);simp only[rdQ]at z;split at z
 ·rename_i i ca;rw[Q5]at z;obtain⟨⟨w,o,t⟩,hp,z⟩:=z;rw[Q5]at z;obtain⟨⟨y1,y2,y3⟩,hF,z⟩:=z;simp only at z;split at z
  ·rename_i hy;obtain⟨rfl,rfl⟩:=hy;simp only[Ql,QC]at z;obtain⟨rfl,rfl⟩:=z;have ka:=Tg hp;obtain⟨hN,qa,ta,ha⟩:=E4 hF;have ra:m i 0=some (.bool w.v.se):=O0 ka.1;have s:∀k l,(i=l++k::fr)=False:=λk l=>eq_false (λe=>by
    rw[e,y _ _ ⟨l++[k],U⟩]at ra;cases ra)
   refine⟨hN,Mp (ha i m fr t ka y s (λk=>s k [])) (λe fa p=>?_)⟩;obtain⟨c,d,ga,rfl,hE⟩:=p;refine⟨c,_,ga,rfl,λj x dd q=>?_⟩;obtain⟨g1,g2⟩:=hE;have pa:m j x=some dd:=q;by_cases b:j≠i∨30<=x
   ·exact g2 j x dd b pa
   ·have n:j=i:=Classical.byContradiction (λh=>b (.inl h));have a:x<30:=Zk (λh=>b (.inr h));subst n;obtain⟨v,hv⟩:∃v,(HY w y2 t)[x]?=some v:=⟨_,Qi (by rw[CP];exact a)⟩;have e1:=Bb ka.1 hv;have e2:=Bb g1 hv;rw[e2,←e1,pa]
  ·cases z
 ·cases z
def aPF{F:Wb->Oc->List D->Option WY}{w:Wb}{o:Oc}{t i fr:Id}{m:Ha}{v:List D}{d:D}{K:D×Hf->Prop}{g}(x:VK m i (w,o,t))(f:F w o v=some (d,o,none))(h:K (d,[])):Hq ((rdQ F).ex (.ptr i 0::v) m fr) K g:=by
 refine aH ?_ h;simp only[rdQ,bO x (λz j=>fG x j),Qj,f,and_self,if_true]
def Wt.endc{i fr t0:Id}{m0 m:Ha}{nl0:Bool}{w:Wb}{o:Oc}{k:Nat}{d:D}{ol:Option (List Nat)}(h:Wt i fr m0 nl0 t0 m w o (MJ t0 (k::fr) ol))(z:nl0=true->t0=[]):WE i fr m0 nl0 t0 w (d,o,ol.map (·++[k])) d m:=by
 cases ol with
 |none=>exact h.end0 z
 |some l=>
  have y:Wt i fr m0 nl0 t0 m w o ((l++[k])++fr):=by simpa[MJ]using h
  exact y.endl U
def CA{S:G8}{s:DC}{rs:List RV}{N:Nat}{w:Wb}{o o':Oc}{v:List D}{d:D}{ol:Option (List Nat)}{k:Nat}(f:RW S s rs N w o v=some (d,o',ol))(h:ol.map (·++[k])=none):o'.nl=o.nl∧o'.ops=o.ops:=(E4 f).2.1 Xo
def Cz{S:G8}{s:DC}{rs:List RV}{N:Nat}{w:Wb}{o o':Oc}{v:List D}{d:D}{ol:Option (List Nat)}{k:Nat}{l:List Nat}(f:RW S s rs N w o v=some (d,o',ol))(h:ol.map (·++[k])=some l):o'.nl=false∧l≠[]:=by
 cases ol with
 |none=>cases h
 |some z=>
  simp only[Qv,Ql]at h;subst h;exact⟨((E4 f).2.2.1 z rfl).1,U⟩
def aRY:(rdQ xZ).ok Qe 223:=aOs aK1 (Aa oU Ad)
end Go.Vd
end
