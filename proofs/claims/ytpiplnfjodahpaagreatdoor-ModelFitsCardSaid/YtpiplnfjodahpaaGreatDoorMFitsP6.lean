/- A part of the proof; nothing in it is assumed. -/
import Derived.Test.YtpiplnfjodahpaaGreatDoorMFitsP5

set_option linter.unusedSimpArgs false
set_option linter.unusedVariables false
set_option linter.defProp false
set_option maxHeartbeats 4000000
set_option maxRecDepth 100000
open Array renaming getElem?_eq_some_iff→Qa,getD_eq_getD_getElem?→Qf,getElem?_eq_getElem→Qk
open Go.Proofs.Tryz renaming prog→Qb
open Nat renaming le_refl→Qc,le_of_lt→Qj,le_trans→Qq
open List renaming getElem?_cons_zero→Qd,cons_append→Qh,nil_append→Qi,length_map→Ql,length_cons→Qn,take→Qo,drop→Qp
open Option renaming isSome_some→Qe
open Option.some renaming injEq→Qg
open Int renaming toNat_natCast→Qm,add_zero→Qr
open Go.Proofs.Tryz
noncomputable section
namespace Go.Vd
open Go.Proofs Go.RowKit Go.Shelf
def Mn(W:World)(b:Nat)(v:Value):Prop:=∃vs T,W.heap[b]?=some (.cells vs T (0,0))∧vs[0]?=some v
def Mn.cell{W:World}{b:Nat}{v:Value}(h:Mn W b v):W.cell? ⟨b,0,none⟩=some v:=by
 obtain⟨vs,T,u,y⟩:=h;simp[World.cell?,u,y]
def aDG{α:Type}(b:Nat)(f:α->Value):Own (λ(s:α) W=>Mn W b (f s)):=λs A c row ⟨vs,T,u,y⟩ a j=>by
 refine⟨vs,T,?_,y⟩;have w:b<A.heap.size:=(Qa.1 u).1;refine(a.block b w (λe=>?_)).trans u;obtain⟨o,g,z⟩:=j b e.symm;rw[u]at g;cases g;cases z
def iT(T:Array Value)(k v k2 v2:Nat)(x:Bs×Bs):Array Value:=(((T.setIfInBounds k (encStr x.1)).setIfInBounds v (encStr x.2)).setIfInBounds k2 (encStr x.1)).setIfInBounds v2 (encStr x.2)
def tU(T:Array Value)(k v k2 v2:Nat)(x:Bs×Bs):(iT T k v k2 v2 x).size=T.size:=by simp[iT]
def Gz{T:Array Value}{i j:Nat}{u d:Value}(h:j≠i):(T.setIfInBounds i u).getD j d=T.getD j d:=by
 rw[Qf,Qf,Array.getElem?_setIfInBounds_ne (Ne.symm h)]
def TG{T:Array Value}{i:Nat}{u d:Value}(h:i<T.size):(T.setIfInBounds i u).getD i d=u:=by
 rw[Qf,Array.getElem?_setIfInBounds_self_of_lt h];rfl
def LY(f:Nat->D)(i bs k2 v2:Nat)(x:Bs×Bs):Nat->D:=λj=>if j=v2 then .str x.2 else if j=k2 then .str x.1 else if j=bs then .ptr [i] 0 else f j
def uF{S:G8}(hS:G8.ok Qb S){N:Nat}{eb:Operand}{k v k2 v2:Nat}{db bb:Code}{dc:DC}(ba:Bg Qb N bb=some dc)(ia:bZ bb=true){T:Array Value}(hT:T.size=N){W:World}{Q:Exit->Act->World->Prop}
  {Bt Bq:Nat} (hg:({tmps:=T,defers:=[]}:Act).eval eb= .func (.func 48) #[] #[.pointer (some ⟨Bt,0,none⟩),.pointer (some ⟨Bq,0,none⟩)]) {t:Tr} {q:Bs} {tv:Value} (hc:t.cnt<=400000)
  (o:W.heap[Bt]?=some (.cells #[tv] 36 (0,0))) (d:W.heap[Bq]?=some (.cells #[encStr q] 9 (0,0))) {b:Nat} (ra:DR b W t tv) (xa:Bt≠b) (ma:Bq≠b)
  {i bs c:Nat} (gb:i<c) (J:List (Bs×Bs)->D) (jv:List (Bs×Bs)->Value) (hJ:∀l w g,Rep w g (J l) (jv l)) (ya:∀l,(jv l).oneCell'=true) (hb:∀l e,J l≠ .tok e) (fb:∀l w g u,Rep w g (J l) u->u=jv l)
  (ka:Mn W b (jv [])) (ta:T.getD bs undef= .pointer (some ⟨b,0,none⟩)) (f:Nat->D) (hf:∀j,(f j).calm=true∧It b W (f j) (T.getD j undef))
  (hk:k<N∧v<N∧k2<N∧v2<N) (ga:k2≠v2∧bs≠k∧bs≠v∧bs≠k2∧bs≠v2) (xb:∀j,(j=k∨j=v∨j=k2∨j=v2)->f j= .junk)
  (a:∀(l:Nat)(x:Bs×Bs)(W:World)(K:Act->World->Prop),K {tmps:=iT T k v k2 v2 x,defers:=[]} W->db.wpIn (Fence.wide.inRound l) 1 Qb (Exit.then K (λ_ _ _=>False)) {tmps:=((#[k,v]:Array Tmp).zip #[encStr x.1,encStr x.2]).foldl (λt (p,v)=>t.setIfInBounds p v) T,defers:=[]} W)
  (ha:∀pre x,x∈Br t q->pre.length<(Br t q).length->(∀y∈pre,y∈Br t q)->dc.wp S [] (λe fa=>e= .normal∧fa.m [i] 0=some (J (pre++[x]))) ⟨LY f i bs k2 v2 x,I3 [i] (J pre),c⟩)
  (ca:∀(D:Nat)(W':World),W.heap.size<=D->Mn W' b (jv (Br t q))->Below b W W'->W.heap.size<=W'.heap.size->(∀j,j<W.heap.size->j≠b->W'.heap[j]?=W.heap[j]?)->W'.heap[D]?=some (.deferred (some []))->Q .normal {tmps:=T,defers:=[{target:= .collected D,args:=#[]}]} W'):
  (Code.rangeFunc eb #[k,v] db bb).wpIn Fence.wide 3 Qb Q {tmps:=T,defers:=[]} W:=by
 have za:Bt<W.heap.size:=(Qa.1 o).1;have ab:Bq<W.heap.size:=(Qa.1 d).1;have jb:b<W.heap.size:=by
  obtain⟨vs,T',h1,_⟩:=ka;exact(Qa.1 h1).1
 have r:OwnFrom W.heap.size (λ(_:List (Ob t q)) W'=>∀j,j<W.heap.size->j≠b->W'.heap[j]?=W.heap[j]?):=λs A A' row hs hg hr j hj ja=>by
  have hA:A.heap[j]?=W.heap[j]?:=hs j hj ja;have da:j<A.heap.size:=by
   rw[Qk hj]at hA;exact(Qa.1 hA).1
  exact(hg.block j da (λe=>by have:=(hr j e.symm).1;omega)).trans hA
 refine wpIn_rangeFunc_ownF rfl V (gf:=48) (lb:=#[.pointer (some ⟨Bt,0,none⟩),.pointer (some ⟨Bq,0,none⟩)]) hg trivial (enters_of func48 Z rfl)
  (Lf 2 V Bt Bq b t q tv hc W o d ra O) gO.trans (pI O za ab) (Below.refl _ _) (λ_=>rfl)
  (λ(pre:List (Ob t q)) W'=>Mn W' b (jv (pre.map (·.1)))∧Below b W W'∧W.heap.size<=W'.heap.size∧∀j,j<W.heap.size->j≠b->W'.heap[j]?=W.heap[j]?)
  (λ_ _ _=>False)
  (OwnFrom.and (Own.from (aDG b _) _) (OwnFrom.and (ownFrom_below O O) (OwnFrom.and (Own.from (ME _) _) r)))
  (λ_ _ _ _ _ hs _ _=>hs)
  ⟨ka,Below.refl _ _,Qc _,λ_ _ _=>rfl⟩
  (λx=>{tmps:=iT T k v k2 v2 x.1,defers:=[]}) ?assign ?body ?done ?stop
 case assign=>
  intro l x W' K hK;exact a l x.1 W' K hK
 case body=>
  rintro l pre ⟨x,hx⟩ W' ⟨⟨vs,T',h1,h2⟩,hB,la,sa⟩ da;have hr:=ha (pre.map (·.1)) x hx (by rw[Ql];exact da) (λy hy=>by
   obtain⟨z,_,rfl⟩:=List.mem_map.1 hy;exact z.2)
  have ua:Dg W' (Ip W' [i] b) (LY f i bs k2 v2 x) {tmps:=iT T k v k2 v2 x,defers:=[]}:=λj=>by
   show Rep W' (Ip W' [i] b) (LY f i bs k2 v2 x j) ((iT T k v k2 v2 x).getD j undef);unfold LY iT;by_cases e1:j=v2
   ·subst e1;rw[if_pos rfl,TG Xb];exact .str _
   rw[if_neg e1,Gz e1];by_cases e2:j=k2
   ·subst e2;rw[if_pos rfl,TG Xb];exact .str _
   rw[if_neg e2,Gz e2];by_cases e3:j=bs
   ·subst e3;rw[if_pos rfl,Gz O,Gz O,ta];exact .ptr [i] 0 b (by simp[Ip])
   rw[if_neg e3];by_cases e4:j=v
   ·rw[xb j O];exact .junk _
   by_cases e5:j=k
   ·rw[xb j O];exact .junk _
   rw[Gz e4,Gz e5];exact((hf j).2.below (hf j).1 hB).rep (hf j).1 (Qc _)
  refine wpIn_mono (aAA hS ba ia (l:=l) (n:=3-1-1) (i:=i) (c:=c) h1 h2 (ya _) (hJ _ _ _) (hb _) ua (by rw[←hT];exact tU _ _ _ _ _ _) rfl gb hr) ?_;rintro e' a' W2 ⟨e,fa,rfl,⟨rfl,hm⟩,aa,na,pa,ib,T2,qa,oa⟩;obtain⟨v',g',wa,ea⟩:=oa 0 _ hm;obtain rfl:=fb _ _ _ _ ea;refine⟨aa,⟨na,?_,?_⟩,⟨ib,T2,qa,?_⟩,hB.trans na,Qq la aa.size,λj hj ja=>?_⟩
  ·exact pa Bt xa O
  ·exact pa Bq ma O
  ·rw[List.map_append];exact wa
  ·rw[pa j ja O];exact sa j hj ja
 case done=>
  rintro D ys W' hD cb ⟨va,hB,la,sa⟩ hK;rw[cb]at va;exact ca D W' hD va hB la sa hK
 case stop=>
  rintro D c pre W' _ _ h _;exact h.elim
end Go.Vd
namespace Go.Vd
open Go.Proofs Go.RowKit
def aDm:=y2 f20 [] []
def aVU:=Ar []
def sC:=RF aVU aDm [.cell (some 1) 2] 5
def aPs:Kq sC 20:=Ap (Aj func20) Ad
def aFd(m:Md):sC [.agg (Hn m)]=some (.agg [Hj m.tr]):=by
 refine Al (Nat.le_of_ble_eq_true rfl) ?_;unfold aDm;simp only[Hn,HH,Qh,Qi];simp (disch:=first|assumption|omega)only[Hb,↓C2,G7,simprocAttr,Hm]
 all_goals exact Y6
def S1004b:=Ar [(22,Ac R38),(12,Ac sG),(23,Ac nB),(24,Ac aEq),(25,Ac Iq),(26,Ac yH),(20,Ac sC),(27,Ac gJ)]
def aGW:G8.ok Qb S1004b:=Aa aTF (Aa aBL (Aa oU (Aa aKy (Aa OE (Aa aBy (Aa aPs (Aa kE Ad)))))))
def fL(rs:List Rw):Int:=((BD rs).length:Int)
def xQ(x:Rw)(l:List Rw):fL (x::l)=(if x.2.2=true then 0 else 1)+fL l:=by
 unfold fL BD;rw[List.filter_cons];cases x.2.2 with
 |true=>simp
 |false=>simp;omega
def z3k{m:Ha}{i:Id}{a b c:D}:Ag (m.put i 0 [a,b,c]) i 0 3=some [a,b,c]:=Az rfl
def aNJ{m:Ha}{i:Id}{a b c:D}:m.put i 0 [a,b,c] i 0=some a:=Bb (k:=0) z3k rfl
def aWf{m:Ha}{i:Id}{a b c:D}:m.put i 0 [a,b,c] i 1=some b:=Bb (k:=1) z3k rfl
def aWe{m:Ha}{i:Id}{a b c:D}:m.put i 0 [a,b,c] i 2=some c:=Bb (k:=2) z3k rfl
def z3s{m:Ha}{i:Id}{a b c:D}:Ag (m.put i 0 [a,b,c]) i 1 2=some [b,c]:=iW (n:=3) (cs:=[a,b,c]) z3k V
def z4k{m:Ha}{i:Id}{a b c d:D}:Ag (m.put i 0 [a,b,c,d]) i 0 4=some [a,b,c,d]:=Az rfl
def aWd{m:Ha}{i:Id}{a b c d:D}:m.put i 0 [a,b,c,d] i 3=some d:=Bb (k:=3) z4k rfl
def Wq{m:Ha}:Hf.app m []=m:=rfl
def z1k{m:Ha}{i:Id}{a:D}:m.put i 0 [a] i 0=some a:=DG
def aTu{z:Md}{p:Bs}{s:Sc}{b15:Nat}(hp:p.length<=1000000)(ua:s.rs.length<=6)(hd:∀r∈s.rs,(z.tr.get (An 2 p r.1)).isSome=!r.2.2)(ca:b15≠7∧b15≠13){Q:Ex->St->Prop}{R:Int}
  (hQ:∀fa,fa.m [7] 0=some (.int .i64 R)->Q (.exit 2) fa):
  ∀(f j:Nat)(K:Int)(st:St) g,s.rs.length=j+f->b15<st.c->13<st.c->-100020+(s.rs.length:Int)<=K+(j:Int)->K<=100010->K-fL (s.rs.drop j)=R->st.s 5= .eptr (Hn z)->st.s 7= .ptr [7] 0->st.s 11= .ptr [13] 0->st.s 15= .ptr [b15] 0->st.s 17= .int .i64 (j:Int)->Ag st.m [13] 0 3=some [.int .u8 1,.str p,.int .i64 0]->Ag st.m [b15] 0 4=some (Hg s)->Ag st.m [7] 0 1=some [.int .i64 K]->Be S1004b [] Lz Q st g:=by
 intro f;induction f with
 |zero=>
  intro j K st g hf o v da pa hR h5 h7 na ga ra t l m7;refine Af Lz.eq_1 ?_;have d1:((j:Int)<(s.rs.length:Int))=False:=eq_false O;rw[List.drop_eq_nil_of_le O]at hR;have hR:K=R:=by simpa[fL,BD]using hR
  have e:st.m [b15] 3=some (.slice s.nl [] (A9 s.rs)):=Bb (k:=3) l rfl;have hl:=AP s.rs;simp only[↓C2,G9,simprocAttr,Hm,ga,ra,e,hl,d1];subst hR;exact hQ _ (Bb (k:=0) m7 rfl)
 |succ f ih=>
  intro j K st g hf o v da pa hR h5 h7 na ga ra t l m7;refine Af Lz.eq_1 ?_;have d1:((j:Int)<(s.rs.length:Int))=True:=eq_true O;have hj:j<s.rs.length:=O
  have hx:=EF hj;have za:=hd _ (List.getElem_mem hj);rw[List.drop_eq_getElem_cons hj,xQ]at hR;generalize s.rs[j]=r at hx za hR;obtain⟨rn,rg,rd⟩:=r;simp only at hx za hR;have e:st.m [b15] 3=some (.slice s.nl [] (A9 s.rs)):=Bb (k:=3) l rfl;have h:st.m [13] 1=some (.str p):=Bb (k:=1) t rfl;have w:st.m [7] 0=some (.int .i64 K):=Bb (k:=0) m7 rfl;have hl:=AP s.rs;have ih:=ih (j+1);have aa:S1004b 26=some (Ac yH):=rfl;have y:S1004b 20=some (Ac sC):=rfl;have i:S1004b 27=some (Ac gJ):=rfl;have d:=V_ 2 rn p hp;have n:=aFd z;have ha:=Sh z.tr (An 2 p rn);rw[za]at ha;generalize An 2 p rn=kk at d ha;generalize Bl 2 p rn=ke at d;generalize (Tr.get kk z.tr).getD []=tx at ha;obtain⟨ma,ia,ea⟩:=st;simp only at o v h5 h7 na ga ra t l m7 e h w;have oa:=nJ (j:=j);have sa:IntKind.i64.wrap ((j:Int)+1)=((j+1:Nat):Int):=Hy O O;have u:IntKind.i64.wrap (K-1)=K-1:=Hy O O;have ba:∀k,(7=ea+k)=False:=λk=>eq_false O
  have wa:Cg [D.int .u8 0,.str [],.int .i64 0] [(0,1,.int .u8 2),(1,1,.str p),(2,1,.int .i64 rn)]=some [.int .u8 2,.str p,.int .i64 rn]:=rfl;have q:Qo 7 (Hn z)=Hn z:=rfl;have x:∀a b c:D,(Qp 0 [a,b,c]).head?=some a:=λ_ _ _=>rfl
  have qa:∀a b c:D,(Qp 2 [a,b,c]).head?=some c:=λ_ _ _=>rfl
  simp only[Hn,HH,Qh,Qi]at h5 n q;cases rd with
  |true=>
   repeat' (first|(refine Au.intro (Am YD) ?_)|simp (disch:=first|assumption|omega)only[↓C2,G9,simprocAttr,Hm,h5,h7,na,ga,ra,e,h,w,hl,d1,hx,oa,Qm,sa,u,wa,q,x,qa,Ab aa,d,Ab y,n,Ab i,ha,Ut,pO,Qe,and_self])
   refine ih K _ _ O Xa Xa O O ?_ h5 h7 na ga rfl t l m7;rw[if_pos rfl]at hR;omega
  |false=>
   repeat' (first|(refine Au.intro (Am YD) ?_)|simp (disch:=first|assumption|omega)only[↓C2,G9,simprocAttr,Hm,h5,h7,na,ga,ra,e,h,m7,w,hl,d1,hx,oa,Qm,sa,u,wa,q,x,qa,Ab aa,d,Ab y,n,Ab i,ha,Ut,pO,Qe,and_self])
   refine ih (K-1) _ _ O Xa Xa O O ?_ h5 h7 na ga rfl ?_ ?_ (Az rfl)
   ·rw[if_neg V]at hR;omega
   ·simp (disch:=omega)only[Wq,Ut];exact t
   ·simp (disch:=omega)only[Wq,Ut];exact l
def fB{z:Md}{x:Bs×Bs}{K:Int}{n:Int}(q:x.1.length<=1000000)(k:Cx x.1=((LJ x,(Ao x.1).2.1,n),0))(t:LJ x≠1)(o:-100000<=K∧K<=100000){f:Nat->D}(a:f 5= .eptr (Hn z)):
  dc1004b.wp S1004b [] (λe r=>e= .normal∧r.m [7] 0=some (.int .i64 (K+wK x))) ⟨LY f 7 7 9 10 x,I3 [7] (.int .i64 K),8⟩:=by
 have g:S1004b 22=some (Ac R38):=rfl;have v:=mW x.1 q;rw[k]at v;unfold kyD at v;have u:I3 [7] (.int .i64 K) [7] 0=some (.int .i64 K):=DG;have c:Ag (I3 [7] (.int .i64 K)) [7] 0 1=some [.int .i64 K]:=Az rfl;generalize b:I3 [7] (.int .i64 K)=m0 at *;have i:LY f 7 7 9 10 x 9= .str x.1:=rfl;have j:LY f 7 7 9 10 x 7= .ptr [7] 0:=rfl;generalize LY f 7 7 9 10 x=s at *;unfold dc1004b;unfold wK;simp only at v;by_cases y:LJ x=2
 ·rw[if_pos y];have e2:(LJ x=2)=True:=eq_true y;have w:(LJ x=1)=False:=eq_false t;have w1:IntKind.i64.wrap (K+1)=K+1:=Hy O O
  repeat' (first|(refine Au.intro (Am (by simp[AV,AF,Hu,Ai,Ac,Hd.ev,Cq,j])) ?_)|simp (disch:=first|assumption|omega)only[↓C2,G9,simprocAttr,Hm,j,i,u,c,Ab g,v,e2,w,w1,z3k,aNJ,z1k,Ut,pO,Qe,and_self])
  all_goals (first|exact⟨rfl,DG⟩|exact DG)
 ·rw[if_neg y,if_neg t];have e2:(LJ x=2)=False:=eq_false y;have w:(LJ x=1)=False:=eq_false t
  repeat' (first|(refine Au.intro (Am (by simp[AV,AF,Hu,Ai,Ac,Hd.ev,Cq,j])) ?_)|simp (disch:=first|assumption|omega)only[↓C2,G9,simprocAttr,Hm,j,i,u,c,Ab g,v,e2,w,z3k,aNJ,z1k,Ut,pO,Qe,and_self])
  all_goals (first|(rw[Qr];done)|(rw[Qr];exact u))
def mC{z:Md}{x:Bs×Bs}{K:Int}{n:Int}(w:x.1.length<=1000000)(ka:x.2.length<=1000000)(y:z.vw.ms.length<=1000000)(hp:Cx x.1=((1,(Ao x.1).2.1,0),0))(hk:LJ x=1)(hb:-100000<=K∧K<=100000){f:Nat->D}(hf:f 5= .eptr (Hn z))
  (hu:(A_ x.2).2=0) (hr:A0 z.vw.ms (Ao x.1).2.1≠-1) (a:BU (A_ x.2).1 (AL z.vw (Ao x.1).2.1).1=false) (hd:∀r∈(A_ x.2).1.rs,(z.tr.get (An 2 (Ao x.1).2.1 r.1)).isSome=!r.2.2):
  dc1004b.wp S1004b [] (λe fa=>e= .normal∧fa.m [7] 0=some (.int .i64 (K+wK x))) ⟨LY f 7 7 9 10 x,I3 [7] (.int .i64 K),8⟩:=by
 have g:S1004b 22=some (Ac R38):=rfl;have v:S1004b 12=some (Ac sG):=rfl;have k:S1004b 23=some (Ac nB):=rfl;have o:S1004b 24=some (Ac aEq):=rfl;have b:S1004b 25=some (Ac Iq):=rfl;have ca:=mW x.1 w;rw[hp]at ca;unfold kyD at ca;have sa:(Ao x.1).2.1.length<=1000000:=Qq (TD x.1) w;have qa:=gN z;have ha:=Wa (nl:=z.vw.nlm) (t:=[]) (l:=z.vw.ms) (p:=(Ao x.1).2.1) y;unfold IC at ha;rw[if_neg hr]at ha;have j:AL z.vw (Ao x.1).2.1=(Cd z.vw.ms (A0 z.vw.ms (Ao x.1).2.1).toNat).2:=if_neg hr;rw[j]at a;have d:=VZ x.2 ka;rw[hu]at d;have da:=Dm hu;have ua:=da.len;have hw:wK x=-fL (A_ x.2).1.rs:=by
  unfold wK fL;rw[if_neg O,if_pos hk]
 rw[hw];generalize (A_ x.2).1=s at *;generalize (Ao x.1).2.1=p at *;generalize Cd z.vw.ms (A0 z.vw.ms p).toNat=mt at *;obtain⟨mp,mq,mb⟩:=mt;unfold ML at ha;have ja:=FR s mq mb O;unfold Ss at ja;rw[a]at ja;simp only[if_false,Bool.false_eq_true]at ja;have m7:I3 [7] (.int .i64 K) [7] 0=some (.int .i64 K):=DG;have c:Ag (I3 [7] (.int .i64 K)) [7] 0 1=some [.int .i64 K]:=Az rfl;generalize ra:I3 [7] (.int .i64 K)=m0 at *;have h9:LY f 7 7 9 10 x 9= .str x.1:=rfl;have la:LY f 7 7 9 10 x 10= .str x.2:=rfl;have h7:LY f 7 7 9 10 x 7= .ptr [7] 0:=rfl;have h5:LY f 7 7 9 10 x 5= .eptr (Hn z):=hf;generalize LY f 7 7 9 10 x=sl at *;unfold dc1004b;simp only at ca;have q:Qo 7 (Hn z)=Hn z:=rfl;have u:(D.agg (Hg s)).cells=Hg s:=rfl;have i:Qo 1 (Qp 3 (HH z.vw))=[.slice z.vw.nlm [] (AB z.vw.ms)]:=rfl;simp only[Hn,HH,HZ,Hg,Qh,Qi]at h5 qa d ja q u i
 repeat' (first|(refine Au.intro (Am (by simp[AV,AF,Hu,Ai,Ac,Hd.ev,Cq,h7,h5,g,v,k,o,b])) ?_)|simp (disch:=first|assumption|omega)only[↓C2,G9,simprocAttr,Hm,h5,h7,h9,la,m7,c,Ab g,ca,Ab v,qa,Ab k,ha,Ab o,d,Ab b,ja,q,u,i,z3k,aNJ,aWf,aWe,z3s,z4k,aWd,Ut,pO,Qe,and_self])
 refine aTu (z:=z) (p:=p) (s:=s) (b15:=41) (R:=K-fL s.rs) sa ua hd V (λfa h=>?_) s.rs.length 0 K _ _ O Xa Xa O O (by rw[List.drop_zero]) h5 h7 rfl rfl rfl ?_ ?_ ?_
 ·rw[Int.sub_eq_add_neg]at h;exact⟨rfl,h⟩
 ·simp (disch:=omega)only[Wq,Ut,D.cells];exact z3k
 ·simp (disch:=omega)only[Wq,Ut,D.cells];exact z4k
 ·simp (disch:=omega)only[Wq,Ut,D.cells];exact c
end Go.Vd
namespace Go.Vd
open Go.Proofs Go.RowKit Go.Shelf
def RU{P:Program}{f:FuncId}{F:List D->Option D}(h:(Ac F).ok P f){w:World}{ds:List D}{vs:List Value}{d:D}(hl:vs.length=ds.length)
  (r:∀(j:Nat) d v,ds[j]?=some d->vs[j]?=some v->It w.heap.size w d v) (c:ds.map D.un=ds) (n:ds.all D.calm=true) (t:F ds=some d):
  Calls P f vs.toArray w λe k=>∃v q,e= .returned v∧Below w.heap.size w k∧Rep k q d v∧∀b,k.heap.size<=b->q.G b=0:=by
 have z:(Ac F).ex ds (λ_ _=>none) []=some (d,[]):=by
  grind [Ac]
 have a:∀b,w.heap.size<=b->Mh w w.heap.size b=0:=λb o=>if_neg O
 refine(h.run (Nz P w a) (λi _=>⟨λ_=>rfl,rfl,rfl⟩) hl (λj d v p m=>r j d v p m) z).mono ?_;rintro e k ⟨v,q,rfl,g⟩;exact⟨v,q,rfl,g.inv.below,g.rep,g.inv.gz⟩
def aRq{z:Md}(f:Hv z)(g:Tr.Ord z.tr.lst){x:Bs×Bs}(q:x∈z.tr.lst):-6<=wK x∧wK x<=1:=by
 unfold wK;split
 ·omega
 ·split
  ·rename_i u;have hl:=(Dm (Lu f g q u).2.2.1).len;have:(BD (A_ x.2).1.rs).length<=(A_ x.2).1.rs.length:=by
    unfold BD;rw[Ql];exact List.length_filter_le _ _
   omega
  ·omega
def qN:∀{l:List (Bs×Bs)},(∀y∈l,-6<=wK y∧wK y<=1)->-6*(l.length:Int)<=GX l∧GX l<=(l.length:Int)
 |[],_=>by simp[GX]
 |x::l,h=>by
  have ih:=qN (l:=l) λy o=>h y (List.mem_cons_of_mem _ o)
  have e:GX (x::l)=wK x+GX l:=by simp[GX]
  have q:=h x List.mem_cons_self;rw[e,Qn];omega
def aVh{z:Md}(hM:Sk z)(t:Hv z){pre:List (Bs×Bs)}{x:Bs×Bs}(q:x∈z.tr.lst)(hl:pre.length<z.tr.lst.length)(b:∀y∈pre,y∈z.tr.lst){f:Nat->D}(k:f 5= .eptr (Hn z)):
  dc1004b.wp S1004b [] (λe r=>e= .normal∧r.m [7] 0=some (.int .i64 (GX (pre++[x])))) ⟨LY f 7 7 9 10 x,I3 [7] (.int .i64 (GX pre)),8⟩:=by
 have g:=hM.tr.ord;have u:=hM.tr.len;have w:=qN (l:=pre) λy o=>aRq t g (b y o)
 have a:z.tr.get x.1=some x.2:=Yo
 have s:=t.key x.1 x.2 a;have c:Cx x.1=((LJ x,(Ao x.1).2.1,(Ao x.1).2.2),0):=by
  unfold Cx;rw[if_neg (λe=>e s)];rfl
 have ma:=hM.tr.key x q;have i:=hM.tr.val x q;rw[wO];by_cases j:LJ x=1
 ·obtain⟨a1,p,a3,a4,a5,a6,_⟩:=Lu t g q j;have hz:(Ao x.1).2.2=0:=by
   unfold Bl at s;unfold LJ at j;rw[j,if_pos rfl]at s;split at s
   ·rename_i h;exact h.1
   ·cases s
  rw[j,hz]at c;have v:=hM.vw.ml;exact mC (n:=0) O O O c j O k a3 a4 a5 a6
 ·exact fB O c j O k
attribute [local go_sem] Oper.semAt_some
def It.start{w:World}{d:D}{v:Value}(h:Rep w (startG (allG w)) d v)(z:d.calm=true):It w.heap.size w d v:=
 bI h z λb o=>fM w b o
def It.step{w m:World}{d:D}{v:Value}(h:It w.heap.size w d v)(z:d.calm=true)(o:Below w.heap.size w m):It m.heap.size m d v:=
 (h.below z o).more z o.size
def Ny{nl:Bool}{l:List Bs}:(D.slice nl [] (strsD l)).calm=true:=by
 rfl
def aNf{w:World}{v:Value}{nl:Bool}{l:List Bs}(h:It w.heap.size w (.slice nl [] (strsD l)) v):Calls Qb 8 #[v] w λe m=>e= .returned (.int .i64 (Ox l))∧Below w.heap.size w m:=by
 refine(RU aPx (ds:=[.slice nl [] (strsD l)]) (vs:=[v]) rfl (λj d x p q=>?_) rfl rfl (aFh nl l)).mono ?_
 ·match j with
  |0=>simp only[Qd,Qg]at p q;subst p q;exact h
  |j+1=>simp at p
 ·rintro e m ⟨u,n,rfl,o,r,_⟩;exact⟨Xy,o⟩
def aNe{w:World}:Calls Qb 9 #[] w λe m=>e= .returned (.bool true)∧Below w.heap.size w m:=by
 refine(RU aPw (ds:=[]) (vs:=[]) rfl (λj d x p q=>by simp at p) rfl rfl aFg).mono ?_;rintro e m ⟨u,n,rfl,o,r,_⟩;exact⟨by rw[r.bool_inv],o⟩
def aV4(n:Nat)(w:World)(z:Md)(v:Value):Prop:=∃a b c d e f g:Value,v= .agg #[a,b,c,d,e,f,g]∧(a.oneCell'=true∧b.oneCell'=true∧c.oneCell'=true∧d.oneCell'=true∧e.oneCell'=true∧f.oneCell'=true∧g.oneCell'=true)∧It n w (.agg (Hn z)) v∧DR n w z.tr f
def Dd(z:Md):(D.agg (Hn z)).calm=true:=by
 obtain⟨v,t,r⟩:=z;cases t<;>rfl
def aTr{n:Nat}{w:World}{z:Md}{v:Value}(r:n<=w.heap.size)(h:It n w (.agg (Hn z)) v):aV4 n w z v:=by
 have p:=h;unfold It at h;cases h with
 |agg ds vs hl u y=>
  match vs,hl with
  |[a,b,c,d,e,f,g],_=>exact⟨a,b,c,d,e,f,g,rfl,⟨u a U,u b U,u c U,u d U,u e U,u f U,u g U⟩,p,_,y 5 _ f rfl rfl,λb o=>if_neg O⟩
def aVg{w:World}{v:Value}{r:Int}(f:0<=r)(q:r<65536){nl:Bool}{l:List Bs}(g:l.length<=40){z:Md}(y:gY (OA Sy (300+r)) l z)(h:It w.heap.size w (.slice nl [] (strsD l)) v):
  Calls Qb 10 #[.int .u16 r,v] w λe k=>∃u,e= .returned (.tuple #[u,.bool true])∧Below w.heap.size w k∧aV4 k.heap.size k z u:=by
 refine(RU aPv (ds:=[.int .u16 r,.slice nl [] (strsD l)]) (vs:=[.int .u16 r,v]) rfl (λj d x p s=>?_) rfl rfl (aJh r f q nl l g y)).mono ?_
 ·match j with
  |0=>simp only[Qd,Qg]at p s;subst p s;exact .int _ _
  |1=>simp only[List.getElem?_cons_succ,Qd,Qg]at p s;subst p s;exact h
  |j+2=>simp at p
 ·rintro e k ⟨u,n,rfl,o,t,hg⟩;obtain⟨vs,rfl,hl,m⟩:=t.tup_inv
  match vs,hl with
  |[a,b],_=>
   have na:=m 1 _ b rfl rfl;obtain rfl:=na.bool_inv;exact⟨a,rfl,o,aTr (Qc _) (bI (m 0 _ a rfl rfl) (Dd z) hg)⟩
def aBd(z:Md):[D.agg (Hn z)].map D.un=[D.agg (Hn z)]:=by
 obtain⟨v,t,r⟩:=z;cases t<;>rfl
def Pa{v:Value}{d:D}{w:World}(h:It w.heap.size w d v):∀(j:Nat) n x,[d][j]?=some n->[v][j]?=some x->It w.heap.size w n x:=λj n x p q=>by
 match j with
 |0=>simp only[Qd,Qg]at p q;subst p q;exact h
 |j+1=>simp at p
def aVe{w:World}{v:Value}{z:Md}(j:z.room≠0)(p:TrS z.tr)(h:It w.heap.size w (.agg (Hn z)) v):Calls Qb 17 #[v] w λe m=>e= .returned (.int .i64 ((Tr.weighL z.tr.lst:Nat):Int))∧Below w.heap.size w m:=by
 refine(RU aBK (ds:=[.agg (Hn z)]) (vs:=[v]) rfl (Pa h) (aBd z) Yp (gL z j p)).mono ?_;rintro e m ⟨u,q,rfl,o,r,_⟩;exact⟨Xy,o⟩
def aVd{w:World}{v:Value}{z:Md}(h:It w.heap.size w (.agg (Hn z)) v):Calls Qb 18 #[v] w λe m=>e= .returned (.int .i64 z.room)∧Below w.heap.size w m:=by
 refine(RU aBJ (ds:=[.agg (Hn z)]) (vs:=[v]) rfl (Pa h) (aBd z) Yp (gK z)).mono ?_;rintro e m ⟨u,q,rfl,o,r,_⟩;exact⟨Xy,o⟩
def aVf{w:World}{v:Value}{z:Md}(h:It w.heap.size w (.agg (Hn z)) v):Calls Qb 12 #[v] w λe k=>∃a b c d n,e= .returned (.agg #[a,b,c,d,n])∧Below w.heap.size w k∧It k.heap.size k (.agg [.slice z.vw.nlt [] (AJ z.vw.ks)]) (.agg #[n]):=by
 refine(RU aBL (ds:=[.agg (Hn z)]) (vs:=[v]) rfl (Pa h) (aBd z) Yp (gN z)).mono ?_;rintro e k ⟨u,x,rfl,o,r,hg⟩;unfold HZ HH at r;cases r with
 |agg ds vs hl q y=>
  match vs,hl with
  |[a,b,c,d,e],_=>
   refine⟨a,b,c,d,e,rfl,o,bI (.agg [_] [e] rfl (λv m=>by rw[List.mem_singleton.1 m];exact q e U) λj s f p m=>?_) rfl hg⟩
   match j with
   |0=>simp only[Qd,Qg]at p m;subst p m;exact y 4 _ _ rfl rfl
   |j+1=>simp at p
def aXd{w:World}{v:Value}{nl:Bool}{l:List Tk}(hl:l.length<=1000000)(h:It w.heap.size w (.agg [.slice nl [] (AJ l)]) v):Calls Qb 19 #[v] w λe m=>∃p c,e= .returned (.slice p l.length c)∧Below w.heap.size w m:=by
 refine(RU aKl (ds:=[.agg [.slice nl [] (AJ l)]]) (vs:=[v]) rfl (Pa h) rfl rfl (sN hl)).mono ?_;rintro e m ⟨u,x,rfl,o,r,_⟩;obtain⟨p,c,rfl⟩:∃p c,u= .slice p l.length c:=by
  generalize q:l.map (λk=>D.str k.1)=xs at r;have y:xs.length=l.length:=by rw[←q,Ql]
  generalize decide (l.length=0)=t at r;cases r with
  |nils=>exact⟨none,0,by rw[←y];rfl⟩
  |slice _ _ a n c sz b e1=>exact⟨some a,c,by rw[e1,y]⟩
 exact⟨p,c,rfl,o⟩
def st1{P:Program}(w:World)(k:Nat)(v:Value)(vs:Array Value)(T:TypeId)(s:k<vs.size)(u:v.oneCell'=true):(store ⟨w.heap.size,k,none⟩ v).run P (w.alloc (.cells vs T))= .ok () (w.alloc (.cells (vs.setIfInBounds k v) T)):=by
 rw[run_store P _ _ v _ u];rw[World.cell?_alloc_at vs T w.heap.size k rfl,World.frozen?_alloc_at vs T w.heap.size k rfl,World.setCell_alloc_at vs T w.heap.size k v rfl,Qk s];rfl
def aVc(w:World)(a b c d e f g:Value)(q:a.oneCell'=true)(v:b.oneCell'=true)(j:c.oneCell'=true)(x:d.oneCell'=true)(y:e.oneCell'=true)(t:f.oneCell'=true)(r:g.oneCell'=true):
  Calls Qb 20 #[.agg #[a,b,c,d,e,f,g]] w λp m=>p= .returned (.agg #[f])∧Below w.heap.size w m:=by
 go_enter func20,ntmps20
 go_wp2
 have i:=st1 (P:=Qb) (w.alloc (Obj.cells #[a,b,c,d,e,f,g] 38)) 0 f #[Value.pointer none] 36 U t;rw[World.size_alloc]at i;rw[i,Result.andThen_ok]
 go_wp2
 exact⟨rfl,Value.agg #[f],by simp[results,results20,go_sem],rfl,((Below.refl _ w).alloc (Qc _) _).alloc U _⟩
structure H4 (w:World) (B:Nat) (z:Md) (a b c d e f g:Value) (W:World):Prop where
 bl:Below w.heap.size w W
 lt:w.heap.size<B
 sz:B<W.heap.size
 x4:Boxed W w.heap.size 4 (.bool false)
 x5:W.heap[B]?=some (.cells #[a,b,c,d,e,f,g] 38 (0,0))
 md:It B W (.agg (Hn z)) (.agg #[a,b,c,d,e,f,g])
 tr:DR B W z.tr f
section
variable{w W W':World}{B:Nat}{z:Md}{a b c d e f g:Value}
def H4.later(H:H4 w B z a b c d e f g W)(o:Below W.heap.size W W'):H4 w B z a b c d e f g W':=
 ⟨H.bl.trans (o.mono H.bl.size),H.lt,Nat.lt_of_lt_of_le H.sz o.size,(o.block _ (by have:=H.lt;have:=H.sz;omega)).trans H.x4,(o.block _ H.sz).trans H.x5,H.md.below (Dd z) (o.mono (Qj H.sz)),H.tr.below (o.mono (Qj H.sz))⟩
def H4.drew(H:H4 w B z a b c d e f g W):H4 w B z a b c d e f g W.drew:=
 ⟨H.bl.trans ⟨rfl,rfl,rfl,Qc _,λ_ _=>rfl⟩,H.lt,H.sz,H.x4,H.x5,H.md.below (Dd z) ⟨rfl,rfl,rfl,Qc _,λ_ _=>rfl⟩,H.tr.below ⟨rfl,rfl,rfl,Qc _,λ_ _=>rfl⟩⟩
def H4.full(H:H4 w B z a b c d e f g W):It W.heap.size W (.agg (Hn z)) (.agg #[a,b,c,d,e,f,g]):=H.md.more (Dd z) (Qj H.sz)
def H4.cells(H:H4 w B z a b c d e f g W):W.cell? ⟨w.heap.size,0,none⟩=some (.bool false)∧W.frozen? ⟨w.heap.size,0,none⟩=false∧W.cell? ⟨B,0,none⟩=some a∧W.cell? ⟨B,1,none⟩=some b∧W.cell? ⟨B,2,none⟩=some c∧W.cell? ⟨B,3,none⟩=some d∧W.cell? ⟨B,4,none⟩=some e∧W.cell? ⟨B,5,none⟩=some f∧W.cell? ⟨B,6,none⟩=some g:=by
 refine⟨H.x4.cell,H.x4.frozen,?_,?_,?_,?_,?_,?_,?_⟩<;>simp[World.cell?,H.x5]
end
def aOg{P:Program}(w:World)(T:TypeId)(k u z n p i s a b c d e f g:Value)(q:a.oneCell'=true)(v:b.oneCell'=true)(j:c.oneCell'=true)(x:d.oneCell'=true)(y:e.oneCell'=true)(t:f.oneCell'=true)(r:g.oneCell'=true):
  (((store ⟨w.heap.size,0,none⟩ a).run P (w.alloc (.cells #[k,u,z,n,p,i,s] T))).andThen λ_ m=>((store ⟨w.heap.size,1,none⟩ b).run P m).andThen λ_ m=>((store ⟨w.heap.size,2,none⟩ c).run P m).andThen λ_ m=>((store ⟨w.heap.size,3,none⟩ d).run P m).andThen λ_ m=>((store ⟨w.heap.size,4,none⟩ e).run P m).andThen λ_ m=>((store ⟨w.heap.size,5,none⟩ f).run P m).andThen λ_ m=>(store ⟨w.heap.size,6,none⟩ g).run P m)= .ok () (w.alloc (.cells #[a,b,c,d,e,f,g] T)):=by
 rw[st1 _ _ _ _ _ U q,Result.andThen_ok,st1 _ _ _ _ _ U v,Result.andThen_ok,st1 _ _ _ _ _ U j,Result.andThen_ok,st1 _ _ _ _ _ U x,Result.andThen_ok,st1 _ _ _ _ _ U y,Result.andThen_ok,st1 _ _ _ _ _ U t,Result.andThen_ok,st1 _ _ _ _ _ U r];simp
def uR(z:Md):(D.eptr (Hn z)).calm=true:=by
 obtain⟨v,t,r⟩:=z;cases t<;>rfl
def H4.eptr{w W:World}{B:Nat}{z:Md}{a b c d e f g:Value}(H:H4 w B z a b c d e f g W){n:Nat}(r:B<n):It n W (.eptr (Hn z)) (.pointer (some ⟨B,0,none⟩)):=by
 have h:=H.md.more (Dd z) (Qj r);unfold It at h ⊢;obtain⟨_,_,q0,k,o,i,v,t,q6⟩:=H.cells;have x:=Nh (Dd z);cases h with
 |agg ds m hl u y=>
  refine .eptr _ _ (λj=>[a,b,c,d,e,f,g].getD j (.bool false)) (λj q=>?_) (λj q=>?_) (λj s p=>?_) (λ_=>?_) x
  ·match j,q with
   |0,_=>exact q0
   |1,_=>exact k
   |2,_=>exact o
   |3,_=>exact i
   |4,_=>exact v
   |5,_=>exact t
   |6,_=>exact q6
   |j+7,q=>exact absurd q (by simp[Hn,HH])
  ·match j,q with
   |0,_=>exact u _ U
   |1,_=>exact u _ U
   |2,_=>exact u _ U
   |3,_=>exact u _ U
   |4,_=>exact u _ U
   |5,_=>exact u _ U
   |6,_=>exact u _ U
   |j+7,q=>exact absurd q (by simp[Hn,HH])
  ·match j,p with
   |0,p=>exact y 0 _ _ p rfl
   |1,p=>exact y 1 _ _ p rfl
   |2,p=>exact y 2 _ _ p rfl
   |3,p=>exact y 3 _ _ p rfl
   |4,p=>exact y 4 _ _ p rfl
   |5,p=>exact y 5 _ _ p rfl
   |6,p=>exact y 6 _ _ p rfl
   |j+7,p=>simp[Hn,HH]at p
  ·simp only[Gh.base,Mh];rw[if_pos r];unfold allG;rw[H.x5];simp[Hn,HH]
def aUA(a b c d e:Value)(W:World):(Instr.field 33 (.agg #[a,b,c,d,e]) 4).run Qb W= .ok (.agg #[e]) W:=by
 unfold Instr.field;simp[go_sem,underlying33,underlying31,part,isAgg,asAgg]
def aVi(f:Go.Fn)(x y:Array Value)(W:World):(binOp .eql 58 (.func f x y) .nilFunc).run Qb W= .ok (.bool false) W:=by
 have h:(Op.equal 58 (.func f x y) .nilFunc).run Qb W= .ok false W:=by
  show(Op.equalIn (9999+1) 58 (.func f x y) .nilFunc).run Qb W= .ok false W;unfold Op.equalIn;simp only[Sem.run_bind,run_underlying underlying58,Result.andThen_ok,Sem.run_pure]
 simp only[binOp,Sem.run_bind,h,Result.andThen_ok,Sem.run_pure]
attribute [local go_sem] aUA aVi
def aRv{w:World}{r:Int}{v1:Value}(h0:0<=r)(h1:r<65536){nl:Bool}{l:List Bs}(hr:It w.heap.size w (.slice nl [] (strsD l)) v1):
  Calls Qb 4 #[.int .u16 r,v1] w λe w'=>e= .returned (.bool true)∧Below w.heap.size w w':=by
 refine(callsIn_wide (n:=3)).1 ?_;refine callsIn_of_wp_marks func4 rfl trivial ?_ rfl;simp only[ntmps4,List.size_toArray,Qn,List.length_nil,Nat.reduceAdd,Nat.reduceSub,Array.replicate_succ,Array.replicate_zero,List.push_toArray,List.append_toArray,Qi,Qh];have ga:Boxed (w.alloc (Obj.cells #[Value.bool false] 4)) w.heap.size 4 (.bool false):=Boxed.new w 4 _;have ob:(w.alloc (Obj.cells #[Value.bool false] 4)).heap.size=w.heap.size+1:=U
 have oa:=hr.step Ny ((Below.refl _ w).alloc (Qc _) (Obj.cells #[Value.bool false] 4));by_cases ho:0<Ox l
 ·have v:decide (0<Ox l)=true:=decide_eq_true ho
  gi_wp2_with (refine⟨trivial,?_⟩;(first
   |(gi_at_call 8;refine(callsIn_wide.2 (aNf oa)).mono ?_;rintro e w1 ⟨rfl,fa⟩)
   |(gi_at_call 9;refine(callsIn_wide.2 aNe).mono ?_;rintro e w2 ⟨rfl,na⟩;have y:Boxed w2 w.heap.size 4 (.bool false):=(na.block _ (by have:=fa.size;omega)).trans ((fa.block _ O).trans ga);have ab:=y.cell;have kb:=y.frozen)))
  have ja:Below w.heap.size w w2:=((Below.refl _ w).alloc (Qc _) _).trans ((fa.mono O).trans (na.mono (by have:=fa.size;omega)));exact⟨.bool true,by simp[results,results4,go_sem,heap_setCell_same _ _ 0 _ _ (Value.bool true) y,World.cell?],rfl,ja.setCell U _⟩
 ·have v:decide (0<Ox l)=false:=decide_eq_false ho;have ya:l.length<=40∧∀s∈l,s.length<=500:=by
   unfold Ox at ho;split at ho
   ·exact absurd V ho
   ·split at ho
    ·rename_i h2;exact⟨O,λs hs=>by simpa using List.all_eq_true.1 h2 s hs⟩
    ·exact absurd V ho
  obtain⟨z,aa,hM,hF,ba,k⟩:=TW l (aKo h0 h1) (aG0 r) (by show(300+r)≠0;omega) ya.2
  gi_wp2_with (refine⟨trivial,?_⟩;(first
   |(gi_at_call 8;refine(callsIn_wide.2 (aNf oa)).mono ?_;rintro e w1 ⟨rfl,fa⟩)
   |(gi_at_call 10;refine(callsIn_wide.2 (aVg h0 h1 ya.1 aa (oa.step Ny fa))).mono ?_;rintro e w2 ⟨u,rfl,na,a,b,c,d,e,f,g,rfl,⟨u1,u2,u3,u4,u5,u6,u7⟩,hz,ht⟩)))
  rw[aOg _ _ _ _ _ _ _ _ _ _ _ _ _ _ _ _ u1 u2 u3 u4 u5 u6 u7];rw[Result.andThen_ok]
  gi_wp2
  have H0:H4 w w2.heap.size z a b c d e f g (w2.alloc (Obj.cells #[a,b,c,d,e,f,g] 38)):=by
   have pb:=fa.size;have qb:=na.size;have ha:Below w2.heap.size w2 (w2.alloc (Obj.cells #[a,b,c,d,e,f,g] 38)):=(Below.refl _ w2).alloc (Qc _) _;refine⟨(((Below.refl _ w).alloc (Qc _) _).trans (fa.mono O)).trans ((na.mono O).trans (ha.mono O)),O,U,?_,World.alloc_heap_new _ _,hz.below (Dd z) ha,ht.below ha⟩;exact(ha.block _ O).trans ((na.block _ O).trans ((fa.block _ O).trans ga))
  generalize hB:w2.heap.size=B at H0 ⊢;generalize (w2.alloc (Obj.cells #[a,b,c,d,e,f,g] 38))=W0 at H0 ⊢;have hd:1<=3-1:=V
  have xa:Tryz.prog.follows .mixedOrders=true:=Z
  have fb:TrS z.tr:=hM.tr.trS;have ta:z.room≠0:=by rw[ba];show(300+r)≠0;omega
  clear ba k;have lb:decide (z.room<((Tr.weighL z.tr.lst:Nat):Int))=false:=by
   have:=hM.tr.wgt;exact decide_eq_false O
  have ma:decide (24<(z.vw.ks.length:Int))=false:=by
   have:=hF.kl;exact decide_eq_false O
  refine wpIn_mono (Q:=λex A W=>match ex with| .normal=>(∃eb gb hb,A={tmps:=List.toArray (Value.int .u16 r::v1::undef::undef::Value.pointer (some ⟨w.heap.size,0,none⟩)::Value.pointer (some ⟨B,0,none⟩)::Value.bool true::undef::undef::undef::undef::undef::undef::undef::undef::undef::undef::undef::undef::undef::undef::undef::v1::Value.int .i64 (Ox l)::Value.bool false::undef::Value.tuple #[Value.agg #[a,b,c,d,e,f,g],Value.bool true]::Value.int .u16 r::v1::Value.tuple #[Value.agg #[a,b,c,d,e,f,g],Value.bool true]::Value.agg #[a,b,c,d,e,f,g]::Value.bool true::Value.bool true::Value.bool false::Value.bool false::Value.agg #[a,b,c,d,e,f,g]::Value.int .i64 ((Tr.weighL z.tr.lst:Nat):Int)::Value.agg #[a,b,c,d,e,f,g]::Value.int .i64 z.room::Value.bool false::Value.bool false::Value.bool false::Value.agg #[a,b,c,d,e,f,g]::eb::gb::hb::Value.int .i64 (z.vw.ks.length:Int)::Value.bool false::Value.bool false::undef::undef::undef::undef::undef::undef::undef::undef::undef::undef::undef::undef::undef::undef::undef::undef::undef::undef::undef::undef::undef::undef::undef::undef::undef::undef::undef::undef::undef::undef::undef::undef::undef::undef::undef::undef::undef::undef::undef::undef::undef::undef::undef::undef::undef::undef::undef::undef::undef::undef::undef::undef::undef::undef::undef::undef::undef::undef::undef::undef::undef::undef::undef::undef::undef::undef::undef::undef::undef::undef::undef::undef::undef::undef::undef::undef::undef::undef::undef::undef::undef::undef::undef::undef::undef::undef::undef::undef::undef::undef::undef::undef::undef::undef::undef::undef::undef::undef::undef::[]),defers:=[]})∧H4 w B z a b c d e f g W|_=>False) ?_ ?_
  ·have H:=H0.drew;obtain⟨k0,k1,k2,k3,k4,k5,k6,k7,k8⟩:=H.cells
   gi_region_with_o (refine⟨trivial,?_⟩;(first
   |(gi_at_call 17;refine(callsIn_wide.2 (aVe ta fb H.full)).mono ?_;rintro e wy ⟨rfl,qa⟩;replace H:=H.later qa;obtain⟨k0,k1,k2,k3,k4,k5,k6,k7,k8⟩:=H.cells)
   |(gi_at_call 18;refine(callsIn_wide.2 (aVd H.full)).mono ?_;rintro e wy ⟨rfl,qa⟩;replace H:=H.later qa;obtain⟨k0,k1,k2,k3,k4,k5,k6,k7,k8⟩:=H.cells)
   |(gi_at_call 12;refine(callsIn_wide.2 (aVf H.full)).mono ?_;rintro e wy ⟨a',b',c',d',e',rfl,qa,wa⟩;replace H:=H.later qa;obtain⟨k0,k1,k2,k3,k4,k5,k6,k7,k8⟩:=H.cells)
   |(gi_at_call 19;refine(callsIn_wide.2 (aXd (by have:=hF.kl;omega) wa)).mono ?_;rintro e wy ⟨p',c',rfl,qa⟩;replace H:=H.later qa;obtain⟨k0,k1,k2,k3,k4,k5,k6,k7,k8⟩:=H.cells)))
   all_goals exact⟨⟨_,_,_,rfl⟩,H⟩
  ·rintro ex A W hQ;cases ex with
   |normal=>
    obtain⟨⟨eb,gb,hb,rfl⟩,H⟩:=hQ;obtain⟨k0,k1,k2,k3,k4,k5,k6,k7,k8⟩:=H.cells;have Hz:=H.sz
    gi_wp2_with (refine⟨trivial,?_⟩;(first
     |(gi_at_call 20;refine(callsIn_wide.2 (aVc _ a b c d e f g u1 u2 u3 u4 u5 u6 u7)).mono ?_;rintro e wy ⟨rfl,qa⟩)
     |(gi_at_call 21;refine(callsIn_wide.2 (rA _ f [])).mono ?_;rintro e wz ⟨rfl,rfl⟩)))
    have cb:W.heap.size+1<=wy.heap.size:=by have:=qa.size;simpa using this
    have ia:Below W.heap.size W wy:=((Below.refl _ W).alloc (Qc _) _).trans (qa.mono U);have fa:Below wy.heap.size wy ((wy.alloc (Obj.cells #[f] 36)).alloc (Obj.cells #[encStr []] 9)):=((Below.refl _ wy).alloc (Qc _) _).alloc U _;have H1:=H.later (ia.trans (fa.mono O));have b2:((wy.alloc (Obj.cells #[f] 36)).alloc (Obj.cells #[encStr []] 9)).heap[wy.heap.size]?=some (.cells #[f] 36 (0,0)):=(Boxed.new wy 36 f).alloc (Obj.cells #[encStr []] 9);have b3:((wy.alloc (Obj.cells #[f] 36)).alloc (Obj.cells #[encStr []] 9)).heap[wy.heap.size+1]?=some (.cells #[encStr []] 9 (0,0)):=by
     have:=Boxed.new (wy.alloc (Obj.cells #[f] 36)) 9 (encStr [])
     rwa [World.size_alloc]at this
    have ra:((wy.alloc (Obj.cells #[f] 36)).alloc (Obj.cells #[encStr []] 9)).heap.size=wy.heap.size+2:=U
    have va:Mn ((wy.alloc (Obj.cells #[f] 36)).alloc (Obj.cells #[encStr []] 9)) W.heap.size (.int .i64 (GX [])):=by
     refine⟨#[.int .i64 0],3,?_,rfl⟩;rw[fa.block _ O,qa.block _ U];exact World.alloc_heap_new _ _
    generalize ((wy.alloc (Obj.cells #[f] 36)).alloc (Obj.cells #[encStr []] 9))=W1 at H1 b2 b3 ra va ⊢;have da:=H.lt;have jb:It W.heap.size W1 (.eptr (Hn z)) (.pointer (some ⟨B,0,none⟩)):=H1.eptr H.sz;refine uF aGW (N:=148) aGh aG1 rfl (Bt:=wy.heap.size) (Bq:=wy.heap.size+1) rfl (t:=z.tr) (q:=[]) (tv:=f) fb.cnt b2 b3 (b:=W.heap.size) ?_ O O (i:=7) (bs:=7) (c:=8) (k2:=9) (v2:=10) V (λl=> .int .i64 (GX l)) (λl=> .int .i64 (GX l)) (λ_ _ _=> .int _ _) (λ_=>rfl) (λ_ _ h=>Xc) (λ_ _ _ _ h=>h.int_inv) va rfl (λj=>if j=5 then .eptr (Hn z)else .junk) (λj=>?_) V V (λj hj=>by rcases hj with rfl|rfl|rfl|rfl<;>rfl) ?_ ?_ ?_
    ·exact H1.tr.more (Qj H.sz)
    ·by_cases e:j=5
     ·subst e;exact⟨uR z,jb⟩
     ·rw[if_neg e];exact⟨rfl,.junk _⟩
    ·intro l x W K hK
     gi_wp2
     exact hK
    ·intro pre x hx hl ea;rw[Fu]at hx hl ea;exact aVh hM hF hx hl ea rfl
    ·intro D W' hD ka m la sa hK;rw[Fu,wN hF hM.tr.ord]at ka;have rb:=ka.cell;have x4:Boxed W' w.heap.size 4 (.bool false):=(m.block _ O).trans H1.x4;have c4:=x4.cell;have f4:=x4.frozen;have za:D<W'.heap.size:=(Qa.1 hK).1;have ja:Below w.heap.size w W':=H1.bl.trans (m.mono O);have ib:w.heap.size<W'.heap.size:=by omega
     gi_wp2_with (refine⟨trivial,?_⟩;gi_at_call 9;refine(callsIn_wide.2 aNe).mono ?_;rintro e w9 ⟨rfl,db⟩;have x9:Boxed w9 w.heap.size 4 (.bool false):=(db.block _ ib).trans x4;have c9:=x9.cell;have f9:=x9.frozen)
     have pa:D≠w.heap.size:=by
      have:=H1.sz;omega
     have mb:w9.heap[D]?=some (.deferred (some [])):=(db.block D za).trans hK;have hp:=heap_setCell_same _ _ 0 _ _ (Value.bool true) x9;have ca:(w9.setCell ⟨w.heap.size,0,none⟩ (Value.bool true)).heap[D]?=some (.deferred (some [])):=by rw[Below.heap_setCell _ _ _ _ pa];exact mb
     have bb:Below w.heap.size w w9:=ja.trans (db.mono O);refine⟨U,.inl ⟨_,_,rfl,run_takeDeferred ca,?_⟩⟩;have ua:=(World.putObj_heap_other (o:= .deferred none) (w:=w9.setCell ⟨w.heap.size,0,none⟩ (Value.bool true)) pa.symm).trans hp;exact⟨.bool true,by simp[results,results4,go_sem,ua,World.cell?],rfl,(bb.setCell (p:=⟨w.heap.size,0,none⟩) U _).trans (belowK_b (w:=w) (Qc _) _ D _ _ (by have:=H1.sz;omega) ca rfl rfl)⟩
   |_=>exact hQ.elim
def fits_law{w:World}{k a:Value}(f:∃r:Int,k= .int .u16 r∧0<=r∧r<65536)(u:∃(nl:Bool)(l:List Bs),Rep w (startG (allG w)) (.slice nl [] (strsD l)) a):
  Calls Qb 4 #[k,a] w λe m=>e= .returned (.bool true)∧Below w.heap.size w m:=by
 obtain⟨r,rfl,v,c⟩:=f;obtain⟨nl,l,j⟩:=u;exact aRv v c (It.start j Ny)
end Go.Vd
end
