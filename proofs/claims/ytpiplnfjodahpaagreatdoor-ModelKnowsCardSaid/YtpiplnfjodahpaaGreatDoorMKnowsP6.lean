/- A part of the proof; nothing in it is assumed. -/
import Derived.Test.YtpiplnfjodahpaaGreatDoorMKnowsP5

set_option linter.unusedSimpArgs false
set_option linter.unusedVariables false
set_option linter.defProp false
set_option maxHeartbeats 4000000
set_option maxRecDepth 100000
open Option renaming isSome_some→Qa,map_eq_some_iff→QC
open Nat renaming le_of_ble_eq_true→Qb,le_trans→Qj,le_refl→Qm,reduceEqDiff→QF,reduceAdd→QH,eq_zero_or_pos→QM,mul_le_mul_right→QR,mod_eq_of_lt→QZ,zero_le→Q3,reduceSub→Q9,reduceLT→Zb,lt_or_ge→Zc
open Array renaming getElem?_eq_some_iff→Qc,getElem?_eq_getElem→Qv
open List renaming length_cons→Qd,mem_cons_self→Qe,mem_singleton→Qf,getElem?_eq_getElem→Qg,mem_cons→Qh,mem_cons_of_mem→Qi,take_succ_eq_append_getElem→Ql,length_append→Qn,length_nil→Qp,getElem_of_mem→Qr,getElem_mem→Qs,mem_append→Qt,flatMap_append→Qw,nil_append→Qy,getD→Qz,length_eq_zero_iff→QA,append_assoc→QB,take_of_length_le→QD,mem_map→QE,length_take→QG,mem_of_getElem?→QI,append_nil→QJ,getElem?_take→QL,mem_of_find?_eq_some→QN,getElem?_cons_zero→QO,drop_eq_nil_of_le→QP,take_append_drop→QQ,map_eq_nil_iff→QS,pairwise_cons→QV,mem_filterMap→QW,getElem_take→QX,flatMap_cons→QY,flatMap_nil→Q_,all_eq_true→Q0,cons_append→Q1,length→Q2,map_append→Q4,find?_some→Q5,drop_left→Q7,drop_zero→Q8,take→Ze
open Int renaming toNat_natCast→Qk,fdiv_eq_ediv_of_nonneg→QK,cast_ofNat_Int→QU,toNat_zero→Q6,reduceLE→Za
open Go.Proofs.Tryz renaming prog→Qo
open Option.some renaming inj→Qq,injEq→Qu
open Prod.mk renaming injEq→Qx
open List.cons renaming inj→QT
open Prod renaming ext→Zd
open Go.Proofs.Tryz
noncomputable section
namespace Go.Vd
open Go.Proofs Go.RowKit
def aUk{a b:Nat}(x:a<256)(f:b<256):bits .or .u64 ((a*256:Nat):Int) (b:Int)=((a*256+b:Nat):Int):=by
 have h:(a*256)|||b=a*256+b:=by
  have:=Nat.shiftLeft_add_eq_or_of_lt (i:=8) (b:=b) O a;rw[Nat.shiftLeft_eq]at this;exact this.symm
 have c:IntKind.u64.bits=64:=rfl;unfold bits;simp only[BitVec.ofInt_natCast,BitVec.toNat_or,BitVec.toNat_ofNat,c];rw[QZ O,QZ O,h];exact E4 O O
def be2{n:Nat}(h:n<65536):bX 2 (n:Int)=[UInt8.ofNat (n / 256),UInt8.ofNat (n % 256)]:=by
 have m:((n:Int).fdiv (2 ^ (8*1)) % 256).toNat=n / 256:=by
  rw[QK _ V];omega
 have z:((n:Int).fdiv (2 ^ (8*0)) % 256).toNat=n % 256:=by
  rw[QK _ V];omega
 simp only[bX,m,z]
def aGh:aKx [.int .i64 2]=some (.bool true):=by
 refine Am (Qb rfl) ?_;unfold aEp;simp only[↓C2,HE,HB,reduceIte,QF,QH,reduceCtorEq,Za]
 all_goals exact Y2
def aGj(s:Bs)(p:Nat)(hl:s.length<=1000000)(a b:Nat)(x:a<256)(q:b<256)(c:(s.drop p).take 2=[UInt8.ofNat a,UInt8.ofNat b]):aAV [.agg (II s p 0),.int .i64 2]=some (.tup [.int .u64 ((a*256+b:Nat):Int),.agg (II s (p+2) 0)]):=by
 have y:p+2<=s.length:=by
  have:=congrArg Q2 c;simp only[QG,List.length_drop,Qd,Qp]at this;omega
 refine Am (Qb rfl) ?_;unfold aEq;have d:=WX s p 0 O;have z:=L6 s p 0 hl O;have f:=aGh;unfold II at *;have w:(((s.length-p:Nat):Int)<2)=False:=eq_false O;have k:IntKind.i64.wrap ((p:Int)+2)=((p+2:Nat):Int):=H9 O O;have u:((0:Int)<=((p+2:Nat):Int)∧((p+2:Nat):Int)<=((s.length:Nat):Int))=True:=eq_true O;have v:((0:Int)<=(p:Int)∧(p:Int)<=((p+2:Nat):Int))=True:=eq_true O;have n:p+2-p=2:=O
 have hA:(UInt8.ofNat a).toNat=a:=Xb
 have j:(UInt8.ofNat b).toNat=b:=Xb
 have o:AF [UInt8.ofNat a,UInt8.ofNat b]=[.int .u8 (a:Int),.int .u8 (b:Int)]:=by
  unfold AF;simp only[List.map_cons,List.map_nil,hA,j]
 have r:AP .shl (.int .u64 0) (.int .u64 8)=some (.int .u64 0):=rfl;have h:AP .shl (.int .u64 (a:Int)) (.int .u64 8)=some (.int .u64 ((a*256:Nat):Int)):=by
  show some (D.int .u64 (IntKind.u64.wrap ((a:Int)*2 ^ min (8:Int).toNat IntKind.u64.bits)))=_;have:((a:Int)*2 ^ min (8:Int).toNat IntKind.u64.bits)=((a*256:Nat):Int):=by
   show(a:Int)*256=_;omega
  rw[this,E4 O O]
 have na:bits .or .u64 0 (a:Int)=(a:Int):=or0 ⟨a,x⟩;have e:=aUk x q;have m:IntKind.u64.wrap (a:Int)=(a:Int):=E4 O O;have g:IntKind.u64.wrap (b:Int)=(b:Int):=E4 O O;have ra:IntKind.i64.wrap ((0:Int)+1)=1:=rfl;have i:IntKind.i64.wrap ((1:Int)+1)=2:=rfl;generalize UInt8.ofNat a=t at *;generalize UInt8.ofNat b=ub at *;simp only[↓C2,HE,HB,reduceIte,QF,QH,Zb,reduceCtorEq,Ae SW 111,d,Ae SW 112,z,Ae SW 175,f,w,k,u,v,n,Qk,c,o];refine Af L3.eq_1 ?_;simp only[↓C2,HE,HB,reduceIte,QF,QH,r,na,m,ra,Q6,c,Int.zero_lt_one,QU,Int.le_refl,Int.reduceLT,Za,Int.reduceToNat];refine Af L3.eq_1 ?_;simp only[↓C2,HE,HB,reduceIte,QF,QH,Zb,Int.reduceLT,Za,Int.reduceToNat,h,e,g,i,c,QU];refine Af L3.eq_1 ?_;simp only[↓C2,HE,HB,reduceIte,QF,QH,Zb,Nat.reduceLeDiff,Q9,reduceCtorEq,Int.lt_irrefl,k]
 repeat refine A0 ?_
 simp only[↓C2,HE,HB,reduceIte,QF,QH,Zb,Nat.reduceLeDiff,Q9]
 all_goals exact Y2
def aTt{m:HF}{i:Id}{a b c:D}:Ag (m.put i 0 [a,b,c]) i 1 1=some [b]:=lT (n:=3) (cs:=[a,b,c]) O8 V
def zp1{m:HF}{i:Id}{a b c x:D}:(m.put i 0 [a,b,c]).put i 1 [x]=m.put i 0 [a,x,c]:=by
 funext j o;unfold HF.put;by_cases h:j=i
 ·subst h
  match o with
  |0=>simp
  |1=>simp
  |2=>simp
  |o+3=>simp;omega
 ·simp[h]
def aGb:=Aq [(110,Ac aAV),(112,Ac jF),(176,Ac aKv)]
def vR:=RF aGb aEF [.t 2,.cell (some 3) 3] 38
def aDe:Kq vR 185:=An (Aj func185) (Aa aC9 (Aa sP (Aa aMA Ad)))
def jL(s pre row a:Bs)(k:s=pre++Ei row++a)(hl:s.length<=1000000)(q:row.length<65536):vR [.agg (II s pre.length 0)]=some (.tup [.str row,.agg (II s (pre++Ei row).length 0)]):=by
 refine Am (Qb rfl) ?_;unfold aEF;have d:Ei row=UInt8.ofNat (row.length / 256)::UInt8.ofNat (row.length % 256)::row:=by unfold Ei;rw[be2 q];rfl
 have g:s.length=pre.length+2+row.length+a.length:=by rw[k,d];simp only[Qn,Qd];omega
 have i:(s.drop pre.length).take 2=[UInt8.ofNat (row.length / 256),UInt8.ofNat (row.length % 256)]:=by
  rw[k,d,QB,Q7];rfl
 have b:=aGj s pre.length hl (row.length / 256) (row.length % 256) O O i;have c:row.length / 256*256+row.length % 256=row.length:=O
 rw[c]at b;have t:(s.drop (pre.length+2)).take row.length=row:=by
  rw[k,d,QB,←List.drop_drop,Q7];exact List.take_left
 have j:(pre++Ei row).length=pre.length+2+row.length:=by rw[d];simp only[Qn,Qd];omega
 rw[j];have z:=L6 s (pre.length+2) 0 hl O;generalize pre.length=p at *;generalize w:row.length=n at *;have x:IntKind.i64.wrap (n:Int)=(n:Int):=H9 O O;have c1:(((s.length-(p+2):Nat):Int)<(n:Int))=False:=eq_false O;have u:IntKind.i64.wrap (((p+2:Nat):Int)+(n:Int))=((p+2+n:Nat):Int):=Xi
 have b1:((0:Int)<=((p+2+n:Nat):Int)∧((p+2+n:Nat):Int)<=((s.length:Nat):Int))=True:=eq_true O;have v:((0:Int)<=((p+2:Nat):Int)∧((p+2:Nat):Int)<=((p+2+n:Nat):Int))=True:=eq_true O;have e2:p+2+n-(p+2)=n:=O
 clear k;unfold II at *
 repeat' (first|(refine aB (Al XX) ?_)|simp (disch:=first|assumption|omega)only[↓C2,HE,simprocAttr,HP,Ae aGb 110,b,Ae aGb 112,z,x,c1,u,b1,v,e2,Qk,t,O8,Od,kW,aBl,aTt,zp1,Ez,IR,pO,Qa,and_self])
 simp (disch:=first|assumption|omega)only[HG,↓C2,HB,simprocAttr,HP,O8,IR,pO]
 all_goals exact Y2
def sD(pre a:Bs)(x:UInt8):Bz (pre++x::a) pre.length 0=((x.toNat:Int),pre.length+1,0):=by
 unfold Bz;have h:pre.length<(pre++x::a).length:=U
 rw[if_neg U,dif_pos h];simp
def aIF{s:Nat->D}{m:HF}{a b c:Nat}{i j:Id}{x y:List D}(u:s a= .ptr i 0)(f:s b= .ptr j 0)(p:Ag m i 0 3=some x)(o:Ag m j 0 3=some y):CB [.cell (some 3) a,.cell (some 3) b,.t c] s m=some (.tup [.agg x,.agg y,s c]):=by
 simp[CB,GD,RV.of,bU,u,f,p,o]
def aJL{s:Nat->D}{m:HF}{a b c:Nat}{i j:Id}{x y:List D}{f:D->Prop}{t:Tag f}(u:s a= .ptr i 0)(v:s b= .ptr j 0)(p:Ag m i 0 3=some x)(o:Ag m j 0 3=some y)(k:f (.tup [.agg x,.agg y,s c])):H4 (CB [.cell (some 3) a,.cell (some 3) b,.t c] s m) f t:=by
 exact⟨_,aIF u v p o,k⟩
def aGd:=Aq [(110,Ac aAV),(185,Ac vR)]
def aGF:=RF aGd aEL [.cell (some 3) 2,.cell (some 3) 3,.t 4] 33
def aRd:Kq aGF 128:=An (Aj func128) (Aa aC9 (Aa aDe Ad))
def aGE(s pre a:Bs)(m:Mt)(n:s=pre++sI m++a)(hl:s.length<=1000000)(k:m.1.length<65536)(hq:1<=m.2.1∧m.2.1<=6):aGF [.agg (II s pre.length 0)]=some (.tup [Ml m,.agg (II s (pre++sI m).length 0),.bool true]):=by
 refine Am (Qb rfl) ?_;unfold aEL;obtain⟨mp,mq,o⟩:=m;simp only at k hq;have e:∃q:Nat,mq=(q:Int)∧q<=6:=⟨mq.toNat,O,O⟩;obtain⟨q,rfl,g⟩:=e;have c:sI (mp,((q:Int),o))=Ei mp++[UInt8.ofNat q,if o then 1 else 0]:=by
  unfold sI aB3 Ei;have:(((q:Int) % 256)).toNat=q:=O
  simp only[this]
 have b:=jL s pre mp ([UInt8.ofNat q,if o then 1 else 0]++a) (by rw[n,c];simp) hl k;have e1:s=(pre++Ei mp)++UInt8.ofNat q::((if o then 1 else 0)::a):=by rw[n,c];simp
 have z:s=(pre++Ei mp++[UInt8.ofNat q])++(if o then 1 else 0)::a:=by rw[n,c];simp
 have n1:=sD (pre++Ei mp) ((if o then 1 else 0)::a) (UInt8.ofNat q);have n2:=sD (pre++Ei mp++[UInt8.ofNat q]) a (if o then 1 else 0);rw[←e1]at n1;rw[←z]at n2;have sa:(pre++Ei mp).length+2<=s.length:=by rw[e1];simp only[Qn,Qd];omega
 have db:(pre++Ei mp++[UInt8.ofNat q]).length=(pre++Ei mp).length+1:=Xb
 have w:(pre++sI (mp,((q:Int),o))).length=(pre++Ei mp).length+2:=by rw[c];simp;omega
 rw[w];rw[db]at n2;have u:=WZ s (pre++Ei mp).length 0 hl O;rw[n1]at u;have v:=WZ s ((pre++Ei mp).length+1) 0 hl O;rw[n2]at v;have f:((UInt8.ofNat q).toNat:Int)=(q:Int):=Xb
 simp only[f]at u;have cb:((if o then(1:UInt8)else 0).toNat:Int)=(if o then 1 else 0):=by cases o<;>rfl
 simp only[cb]at v;generalize (pre++Ei mp).length=p at *;have t:IntKind.i64.wrap (q:Int)=(q:Int):=H9 O O;have d:((if o then(1:Int)else 0)=1)=(o=true):=by cases o<;>simp
 have ja:((if o then(1:Int)else 0)<=1)=True:=by cases o<;>simp
 have r:decide (o=true)=o:=by cases o<;>rfl
 clear n e1 z n1 n2 c cb;unfold II Ml at *;generalize (if o then(1:Int)else 0)=bi at *;have f1:Cj [D.int .i64 0,.bool false] [(0,1,.int .i64 (q:Int)),(1,1,.bool o)]=some [.int .i64 (q:Int),.bool o]:=rfl;have f2:Cj [D.str [],.int .i64 0,.bool false] [(0,1,.str mp),(1,2,.agg [.int .i64 (q:Int),.bool o])]=some [.str mp,.int .i64 (q:Int),.bool o]:=rfl
 repeat' (first|(refine aB (Al XX) ?_)|simp (disch:=first|assumption|omega)only[↓C2,HE,simprocAttr,HP,Ae aGd 110,u,v,Ae aGd 185,b,t,d,ja,r,f1,f2,O8,Od,kW,aBl,aTt,zp1,Ez,IR,pO,Qa,and_self])
 refine aJL (i:=[1]) (j:=[2]) rfl rfl (x:=[.str mp,.int .i64 (q:Int),.bool o]) (y:=[.str s,.int .i64 ((p+2:Nat):Int),.int .i64 0]) (by simp (disch:=omega)only[IR];exact O8) O8 ⟨rfl,rfl⟩
def U2:=Aq [(128,Ac aGF),(129,Ac F45)]
def wA:=RF U2 aEZ [.cell (some 1) 2,.t 3] 63
def aRn:Kq wA 72:=An (Aj func72) (Aa aRd (Aa aUs Ad))
def lO{l:List Mt}(h:DE l)(n:Nat):DE (l.take n):=λi j y z=>by
 rw[QG]at z;have:=h i j y O;simpa[Qz,QL,show i<n by omega,show j<n by omega]using this
def aJD{l:List Mt}{p:Bs}(h:∀i,i<l.length->Op.bytesLess (BS l i).1 p=true):bV l p l.length=l.length:=by
 cases hl:l.length with
 |zero=>rfl
 |succ n=>
  unfold bV;rw[if_pos (h n O)]
def aKi{p:List Mt}(f:Me p)(k:DE p)(a:p.length<=4){j:Nat}(z:j<p.length):FH (p.take j) p[j]=(some (p.take (j+1)),0):=by
 rw[L5 (lO k j)];have d:∀i,i<j->Op.bytesLess (BS p i).1 p[j].1=true:=λi hi=>by
  have:=k i j hi z;simpa[Qz,Qg z,BS,m0t]using this
 have r:(p.take j).length=j:=Xu
 have e:∀i,i<j->BS (p.take j) i=BS p i:=λi hi=>by
  unfold BS;simp[Qz,QL,hi]
 have na:=f.ok _ (Qs z);have b:¬0<=BE (p.take j) p[j].1:=by
  intro h;have u:Bc ((p.take j).map λm=>decide (m.1=p[j].1))≠-1:=by
   unfold BE at h;omega
  have y:=MJ u;rw[List.getElem?_map,QC]at y;obtain⟨m,n,c⟩:=y;obtain⟨i,hi,rfl⟩:=Qr (QI n);rw[r]at hi;have o:=d i hi;have a:(BS p i).1=p[j].1:=by
   have:=of_decide_eq_true c;rw[QX]at this;unfold BS;rw[Qz,Qg O];exact this
  rw[a,FF]at o;cases o
 have w:GO p[j].1 ((p.take j).map (·.1))=false:=by
  unfold GO;rw[List.any_map,List.any_eq_false];intro m n;obtain⟨i,hi,rfl⟩:=Qr n;rw[r]at hi;have:=List.pairwise_iff_getElem.1 f.ns i j O z hi;simp only[QX,Function.comp_apply];rw[this.1,this.2];decide
 unfold pR;rw[if_neg (by rw[na];decide),if_neg b,if_neg (by rw[w];decide),if_neg O,aJD (λi hi=>by rw[r]at hi;rw[e i hi];exact d i hi),r];rw[QD O,QP O,Ql z]
def qM{m:HF}{i:Id}{a:D}:Ag (m.put i 0 [a]) i 0 1=some [a]:=AB rfl
def cS{p:List Mt}{j:Nat}(z:j<p.length):BL (p.take (j+1))=BL (p.take j)++sI p[j]:=by
 rw[Og z];unfold BS;rw[Qz,Qg z];rfl
def xD{p:List Mt}{j:Nat}(z:j<p.length):BL p=BL (p.take j)++sI p[j]++BL (p.drop (j+1)):=by
 rw[←cS z];unfold BL;rw[←Qw,QQ]
def aC0{ms:List Mt}(hM:Me ms)(hs:DE ms)(h4:ms.length<=4)(hl:(BL ms).length<=1000000)(hp:∀m∈ms,m.1.length<=1000){Q:Ex->St->Prop}(hQ:∀fa nl,nl=decide (ms.length=0)->fa.s 2= .ptr [0] 0->fa.s 4= .ptr [2] 0->Ag fa.m [2] 0 1=some [.slice nl [] (Az ms)]->(∃q,fa.m [0] 0=some q)->Q (.exit 0) fa):
  ∀(f j:Nat)(nl:Bool)(v:St) g,ms.length=j+f->7<=v.c->nl=decide (j=0)->v.s 0= .str (BL ms)->v.s 2= .ptr [0] 0->v.s 4= .ptr [2] 0->v.s 5= .ptr [5] 0->(∃q,v.m [0] 0=some q)->Ag v.m [2] 0 1=some [.slice nl [] (Az (ms.take j))]->Ag v.m [5] 0 3=some (II (BL ms) (BL (ms.take j)).length 0)->A9 U2 [] NM Q v g:=by
 intro f;induction f with
 |zero=>
  intro j nl v g hf hc pa h0 y ba h5 m0 m2 m5;refine Af NM.eq_1 ?_;rw[QD O]at m2 m5;have o:v.m [5] 1=some (.int .i64 ((BL ms).length:Int)):=Bf (k:=1) m5 rfl;have d1:(((BL ms).length:Int)<((BL ms).length:Int))=False:=eq_false O;simp only[↓C2,HE,simprocAttr,HP,h0,h5,o,d1];exact hQ _ nl YM y ba m2 m0
 |succ f ih=>
  intro j nl v g hf hc pa h0 y ba h5 m0 m2 m5;refine Af NM.eq_1 ?_;have z:j<ms.length:=O
  have d:=xD z;have xa:=cS z;have hq:=(Lc (hM.ok _ (Qs z))).2;have ua:=hp _ (Qs z);have ga:=aGE (BL ms) (BL (ms.take j)) (BL (ms.drop (j+1))) ms[j] d hl O hq;rw[←xa]at ga;have la:=qG (nl:=nl) (t:=[]) (l:=ms.take j) (m:=ms[j]) Xu (λe=>by rw[pa]at e;rw[of_decide_eq_true e];rfl) O;rw[aKi hM hs h4 z]at la;unfold aIl at la;simp only at la;have u:j<=4:=O
  have r:∀a b c:D,(List.drop 0 [a,b,c]).head?=some a:=λ_ _ _=>rfl
  have wa:(Az (ms.take j)).length=j:=by rw[AX,QG];omega
  have ih:=ih (j+1) false;have ea:((BL (ms.take j)).length:Int)<((BL ms).length:Int):=by
   rw[d];simp only[Qn,VV];omega
  have ea:(((BL (ms.take j)).length:Int)<((BL ms).length:Int))=True:=eq_true ea;have ja:0<j->Op.bytesLess (BS (ms.take j) (j-1)).1 ms[j].1=true:=λh=>by
   have:=hs (j-1) j O z;simpa[Qz,Qg z,QL,BS,m0t,show j-1<j by omega]using this
  have ka:0<j->(Az (ms.take j))[j-1]?=some (Ml (BS (ms.take j) (j-1))):=λh=>Np Xu
  generalize ms[j]=m at *;generalize BS (ms.take j) (j-1)=pm at *;obtain⟨mp,mq,mb⟩:=m;obtain⟨pp,pq,pb⟩:=pm;obtain⟨ma,ia,da⟩:=v;obtain⟨q0,m0⟩:=m0;simp only at hc h0 y ba h5 m0 m2 m5;have o:ia [5] 1=some (.int .i64 ((BL (ms.take j)).length:Int)):=Bf (k:=1) m5 rfl;have n:ia [2] 0=some (.slice nl [] (Az (ms.take j))):=Bf (k:=0) m2 rfl;generalize BL ms=s at *;generalize Az (ms.take j)=xs at *;generalize Az (ms.take (j+1))=ys at *;generalize (BL (ms.take j)).length=p at *;generalize (BL (ms.take (j+1))).length=p' at *;have eb:∀k,(0=da+k)=False:=λk=>eq_false O
  have w:∀k,(2=da+k)=False:=λk=>eq_false O
  have i:∀k,(5=da+k)=False:=λk=>eq_false O
  clear d xa hM hs hQ hp h4;simp only[II,Ml]at ga la m5 ka;rcases QM j with hj0|hj0
  ·have c1:((0:Int)<(j:Int))=False:=eq_false O;clear ja ka
   repeat' (first|(refine aB (Al YD) ?_)|simp (disch:=first|assumption|omega)only[↓C2,HE,simprocAttr,HP,h0,y,ba,h5,m0,m2,m5,o,n,ea,wa,c1,Ae U2 128,ga,Ae U2 129,la,O8,Od,kW,aBl,kX,qM,Ez,IR,pO,Qa,and_self])
   refine ih _ _ O Xa U h0 y ba h5 ⟨q0,?_⟩ ?_ ?_
   ·simp (disch:=omega)only[Ez,IR,pO];exact m0
   ·simp (disch:=omega)only[Ez,IR];exact qM
   ·exact O8
  ·have c1:((0:Int)<(j:Int))=True:=eq_true O;have ja:=ja hj0;have ka:=ka hj0;have hw:IntKind.i64.wrap ((j:Int)-1)=((j-1:Nat):Int):=by rw[H9 O O];omega
   have jb:(0:Int)<=((j-1:Nat):Int):=O
   simp only at ja;have x:AP .geq (.str pp) (.str mp)=some (.bool false):=by
    show some (D.bool (!(Op.bytesLess pp mp)))=_;rw[ja];rfl
   repeat' (first|(refine aB (Al YD) ?_)|simp (disch:=first|assumption|omega)only[↓C2,HE,simprocAttr,HP,h0,y,ba,h5,m0,m2,m5,o,n,ea,wa,c1,hw,jb,ka,r,x,Qk,Ae U2 128,ga,Ae U2 129,la,O8,Od,kW,aBl,kX,qM,Ez,IR,pO,Qa,and_self])
   refine ih _ _ O Xa U h0 y ba h5 ⟨q0,?_⟩ ?_ ?_
   ·simp (disch:=omega)only[Ez,IR,pO];exact m0
   ·simp (disch:=omega)only[Ez,IR];exact qM
   ·exact O8
def aGV(p:List Mt)(o:Me p)(hs:DE p)(a:p.length<=4)(s:∀m∈p,m.1.length<=1000):wA [.str (BL p)]=some (.tup [.agg [.slice (decide (p.length=0)) [] (Az p)],.int .i64 0]):=by
 refine Am (Qb rfl) ?_;unfold aEZ;have hl:(BL p).length<=1000000:=by
  have:=Vm (l:=p) ⟨O,s⟩ p.length (Qm _);rw[List.take_length]at this;omega
 simp (disch:=first|assumption|omega)only[HG,↓C2,HB,simprocAttr,HP];refine aC0 o hs a hl s (λg nl r y j i m0=>?_) p.length 0 true _ _ O (Qb rfl) rfl rfl rfl rfl rfl ⟨.slice true [] [],?_⟩ ?_ ?_
 ·obtain⟨q,m0⟩:=m0;subst r;have n:g.m [2] 0=some (.slice (decide (p.length=0)) [] (Az p)):=Bf (k:=0) i rfl;simp (disch:=first|assumption|omega)only[HG,↓C2,HB,simprocAttr,HP,y,j,i,n,m0,qM,IR,pO,Qa]
  all_goals exact Y2
 ·simp (disch:=decide)only[pO];exact kX
 ·simp (disch:=decide)only[AG];exact qM
 ·exact O8
def vC:=Aq [(85,Ac jI)]
def vZ:=RF vC aEY [.t 2] 13
def aRm:Kq vZ 74:=An (Aj func74) (Aa aDc Ad)
def aCZ{t:Int}(m:1<=t∧t<=6){Q:Ex->St->Prop}(d:∀q,q.s 2= .int .i64 t->Q .ret q):∀(f:Nat)(i:Int)(v:St) g,i+(f:Int)=t->1<=i->v.s 0= .int .i64 (Gl t)->v.s 3= .int .i64 i->A9 vC [] NL Q v g:=by
 intro f;induction f with
 |zero=>
  intro i v g k hi h0 o;obtain rfl:i=t:=O
  refine Af NL.eq_1 ?_;have a:vC 85=some (Ac jI):=rfl;have b:=Rs i;have u:(i<=6)=True:=eq_true O;simp only[↓C2,HE,simprocAttr,HP,h0,o,u,Ab a,b];exact d _ rfl
 |succ f ih=>
  intro i v g k hi h0 o;refine Af NL.eq_1 ?_;have a:vC 85=some (Ac jI):=rfl;have b:=Rs i;have u:(i<=6)=True:=eq_true O;have z:(Gl i=Gl t)=False:=eq_false (by
   unfold Gl;rw[if_pos Yy,if_pos Yy];omega)
  have p:IntKind.i64.wrap (i+1)=i+1:=H9 O O;simp only[↓C2,HE,simprocAttr,HP,h0,o,u,z,Ab a,b,p];exact ih (i+1) _ _ O O h0 rfl
def aGU(t:Int)(v:1<=t∧t<=6):vZ [.int .i64 (Gl t)]=some (.int .i64 t):=by
 refine Am (Qb rfl) ?_;unfold aEY;simp (disch:=first|assumption|omega)only[HG,↓C2,HB,simprocAttr,HP];refine aCZ v (λq h=>?_) (t-1).toNat 1 _ _ O O rfl rfl;simp (disch:=first|assumption|omega)only[HG,↓C2,HB,simprocAttr,HP,h]
 all_goals exact Y2
def jC:=Aq [(112,Ac jF),(185,Ac vR)]
def aGu:=RF jC aEE [.t 2,.t 3] 30
def aQ7:Kq aGu 193:=An (Aj func193) (Aa sP (Aa aDe Ad))
def LG.low_put{b e c q o:Nat}{m0 m:HF}{nl:Bool}{t:Id}{ds:List D}(h:LG b m0 e m c nl t)(z:q<b):LG b (m.put [q] o ds) e (m.put [q] o ds) c nl t:=by
 obtain⟨u,y,r⟩:=h;refine⟨λ_ _ _=>rfl,?_,r⟩;rcases y with h|⟨j,rfl,a,p,v⟩
 ·exact .inl h
 ·refine .inr ⟨j,rfl,a,p,?_⟩;rw[aA Xb];exact v
def aCg{l:List Bs}{j:Nat}(z:j<l.length):AL l=AL (l.take j)++Ei l[j]++AL (l.drop (j+1)):=by
 have:AL (l.take j)++Ei l[j]=AL (l.take (j+1)):=by
  unfold AL;rw[Ql z,Qw,QY,Q_,QJ]
 rw[this];unfold AL;rw[←Qw,QQ]
def aIO{l:List Bs}{j:Nat}(z:j<l.length):AL (l.take (j+1))=AL (l.take j)++Ei l[j]:=by
 unfold AL;rw[Ql z,Qw,QY,Q_,QJ]
def aCW{l:List Bs}(hl:(AL l).length<=1000000)(i:∀s∈l,s.length<65536)(h4:l.length<=1000){Q:Ex->St->Prop}(hQ:∀n nl t,n.s 4= .slice nl t (strsD l)->nl=decide (l.length=0)->Q (.exit 0) n):
  ∀(f j:Nat)(nl:Bool)(t:Id)(m0:HF)(v:St) g,l.length=j+f->LG 7 m0 9 v.m v.c nl t->nl=decide (j=0)->v.s 4= .slice nl t (strsD (l.take j))->v.s 5= .ptr [5] 0->Ag v.m [5] 0 3=some (II (AL l) (AL (l.take j)).length 0)->A9 jC [] ND Q v g:=by
 intro f;induction f with
 |zero=>
  intro j nl t m0 v g k hG pa y w m5;refine Af ND.eq_1 ?_;rw[QD O]at m5 y;have a:jC 112=some (Ac jF):=rfl;have r:=L6 (AL l) (AL l).length 0 hl (Qm _);rw[Nat.sub_self]at r;simp only[II]at r m5;simp only[↓C2,HE,simprocAttr,HP,w,m5,Ab a,r];exact hQ _ nl t y YM
 |succ f ih=>
  intro j nl t m0 v g k hG pa y w m5;refine Af ND.eq_1 ?_;have p:j<l.length:=O
  have d:=aCg p;have xa:=aIO p;have b:=jL (AL l) (AL (l.take j)) l[j] (AL (l.drop (j+1))) d hl (i _ (Qs p));rw[←xa]at b;have ua:(AL (l.take j)).length<(AL l).length:=by
   rw[d];simp only[Qn,Ei,Hw];omega
  have a:jC 112=some (Ac jF):=rfl;have r:=L6 (AL l) (AL (l.take j)).length 0 hl (Nat.le_of_lt ua);have c1:((0:Int)<(((AL l).length-(AL (l.take j)).length:Nat):Int))=True:=eq_true O;have c2:((j:Int)=1024)=False:=eq_false O;have u:(strsD (l.take j)).length=j:=by rw[AR,QG];omega
  have ib:strsD (l.take (j+1))=strsD (l.take j)++[.str l[j]]:=by
   unfold strsD;rw[Ql p,Q4];rfl
  have na:nl=true->strsD (l.take j)=[]:=λh=>by
   rw[pa]at h;rw[of_decide_eq_true h];rfl
  have ih:=ih (j+1) false;rw[ib]at ih;generalize strsD (l.take j)=xs at *;generalize l[j]=x at *;obtain⟨ma,ia,da⟩:=v;simp only at hG y w m5;have e:=hG.le;simp only[II]at r b m5;clear d xa i hQ;simp (disch:=first|assumption|omega)only[↓C2,HE,simprocAttr,HP,w,y,u,c1,c2,m5,Ab a,r,Ae jC 185,b,O8,Od,kW,aBl,IR,pO,Qa,and_self,and_false];have z:=(hG.low_put (q:=5) (o:=0) (ds:=[.str (AL l),.int .i64 ((AL (l.take (j+1))).length:Int),.int .i64 0]) O);refine aB ⟨O,rfl,(z.put O).grow⟩ ?_;rw[BF na];simp (disch:=first|assumption|omega)only[↓C2,HE,simprocAttr,HP,IR,pO,Qa,and_self];have bb:=(z.put (c':=da+3+3+1+7+3+2) (o:=0) (ds:=[.tok 10]) O).app (xs:=xs) (c':=da+3+3+1+7+3+3) (c2:=da+3+3+1+7+3+5) O O;refine ih _ _ _ _ O bb U rfl w ?_;refine(bb.rd O).trans O8
def aGt(l:List Bs)(hl:(AL l).length<=1000000)(i:∀s∈l,s.length<65536)(m:l.length<=1000):aGu [.str (AL l)]=some (.tup [.slice (decide (l.length=0)) [] (strsD l),.int .i64 0]):=by
 refine Am (Qb rfl) ?_;unfold aEE;simp (disch:=first|assumption|omega)only[HG,↓C2,HB,simprocAttr,HP];refine aCW hl i m (λq nl t j r=>?_) l.length 0 true [] _ _ _ O (LG.start (Qb rfl)) rfl rfl rfl ?_
 ·subst r;simp (disch:=first|assumption|omega)only[HG,↓C2,HB,simprocAttr,HP,j]
  all_goals exact Y2
 ·exact O8
def vB:=Aq [(193,Ac aGu),(100,Ac vW),(135,Ac qI)]
def U5:=RF vB aEK [.cell (some 3) 4,.t 5] 45
def aRc:Kq U5 130:=An (Aj func130) (Aa aQ7 (Aa aDj (Aa aCy Ad)))
def aGD(n p x:Bs)(nl:Bool)(rs:List Rl)(v:n.length<=1000000)(g:p.length<=60000)(w:x.length<=1000)(d:FK x=(nl,rs,0))(m:Fg n p rs=0)(i:rs.length<=1000000)(f:Cw rs):U5 [.str n,.str (AL [p,x])]=some (.tup [IW (n,p,nl,rs),.int .i64 0]):=by
 refine Am (Qb rfl) ?_;unfold aEK;have b:(AL [p,x]).length<=1000000:=by
  have:=Mw (l:=[p,x]) (λs hs=>by
   rcases Qh.1 hs with rfl|hs
   ·exact g
   ·rw[Qf.1 hs];omega)
  simp only[Qd,Qp]at this;omega
 have a:=aGt [p,x] b (λs hs=>by
  rcases Qh.1 hs with rfl|hs
  ·omega
  ·rw[Qf.1 hs];omega) U
 have q:=jO x w;rw[d]at q;have z:=Ru (n:=n) (p:=p) (nl:=nl) (t:=[]) (l:=rs) i f v O;rw[m]at z;generalize AL [p,x]=s at *;have c:strsD [p,x]=[.str p,.str x]:=rfl;rw[c]at a;have k:Cj [D.str [],.str [],.slice true [] []] [(0,1,.str n),(1,1,.str p),(2,1,.slice nl [] (As rs))]=some [.str n,.str p,.slice nl [] (As rs)]:=rfl;simp only[Qd,Qp]at a;have u:decide (0+1+1=0)=false:=rfl;rw[u]at a;have r:[D.str p,D.str x][0]?=some (.str p):=rfl;have o:[D.str p,D.str x][1]?=some (.str x):=rfl;simp only[IW]
 repeat' (first|(refine aG (λ_=>?_) (λh=>absurd rfl h))|(refine aB (Al XX) ?_)|simp (disch:=first|assumption|omega)only[HG,↓C2,HB,simprocAttr,HP,Ae vB 193,a,Ae vB 100,q,Ae vB 135,z,k,r,o,Int.toNat_one,Q6,Qd,Qp,O8,IR,pO,Qa,and_self])
 all_goals exact Y2
def aXT:=Aq []
def aGs:=RF aXT aED [.t 2] 8
def aQ6:Kq aGs 194:=An (Aj func194) Ad
def jK(nl:Bool)(l:List Tk)(w:nl=true->l=[])(hl:l.length<=1000):aGs [.slice nl [] (Ar l)]=some (.slice nl [] (Ar l)):=by
 refine Am (Qb rfl) ?_;unfold aED;cases nl with
 |true=>
  rw[w rfl];simp (disch:=first|assumption|omega)only[HG,↓C2,HB,simprocAttr,HP]
  all_goals exact Y2
 |false=>
  have r:=Bp l;simp (disch:=first|assumption|omega)only[HG,↓C2,HB,simprocAttr,HP,r];refine aB ⟨O,XB,.inr ⟨kX,U⟩⟩ ?_;simp (disch:=first|assumption|omega)only[HG,↓C2,HB,simprocAttr,HP]
  all_goals exact Y2
def aGP(k q:Tk)(w:k.1≠q.1):N9 [IW k,IW q]=some (.bool false):=by
 refine Am (Qb rfl) ?_;unfold oQ;have e:(k.1=q.1)=False:=eq_false w;unfold IW
 repeat' (first|(refine aB (Al XX) ?_)|simp (disch:=first|assumption|omega)only[HG,↓C2,HB,simprocAttr,HP,e,O8,Od,IR,pO,Qa,and_self])
 all_goals exact Y2
def Ie:Bs:=[114,111,111,116]
def Mx(z:List Tk)(t:Tk):Option (List Tk):=if t.1=Ie∧z=[]then some (BT z t)else if t.1≠Ie∧(Eb z t).2=0 then(Eb z t).1 else none
def Cm:List Tk->List Tk->List Tk×List Tk
 |acc,[]=>(acc,[])
 |acc,t::r=>match Mx acc t with
  |some a=>Cm a r
  |none=>((Cm acc r).1,t::(Cm acc r).2)
def GS:Nat->List Tk->List Tk->Option (List Tk)
 |_,acc,[]=>some acc
 |0,_,_::_=>none
 |f+1,acc,t::r=>if(Cm acc (t::r)).2.length=(t::r).length then none else GS f (Cm acc (t::r)).1 (Cm acc (t::r)).2
structure TkI (ks:List Tk):Prop where
 inv:TF ks
 tok:∀k∈ks,Fg k.1 k.2.1 k.2.2.2=0
 cov:∀k∈ks,∀u∈ks,u.1=k.2.1->Eu k.2.2.2 u.2.2.2=true
 rt:∀k∈ks,k.1=Ie->k=Bi
structure LdI (ks acc L:List Tk):Prop where
 srt:Gg acc
 sub:∀x∈acc,x∈ks
 rt:acc=[]∨∃k∈acc,k.1=Ie
 left:∀t∈L,t∈ks∧t∉acc
def TkI.eq{ks:List Tk}(h:TkI ks){t u:Tk}(v:t∈ks)(m:u∈ks)(e:t.1=u.1):t=u:=by
 obtain⟨r,i,_⟩:=h.inv.tree;exact i.eq v m e
def LdI.new{ks z L:List Tk}(d:TkI ks)(h:LdI ks z L){t:Tk}(v:t∈L):AY z t.1=false:=by
 cases hf:AY z t.1 with
 |false=>rfl
 |true=>
  obtain⟨k,g,e⟩:=DA hf;have u:=h.left t v;have:=d.eq (h.sub k g) u.1 e;rw[this]at g;exact absurd g u.2
def LdI.par{ks z L:List Tk}(h:LdI ks z L){u:Tk}(m:u∈z):AY z u.1=true∧Bk z (IZ z u.1)=u:=by
 obtain⟨j,p,rfl⟩:=Qr m;have q:=NB h.srt p;have e:Bk z j=z[j]:=by unfold Bk;rw[Qz,Qg p];rfl
 rw[e]at q;exact⟨q.2,by rw[q.1];exact e⟩
def vE(z:List Tk)(t:Tk):Prop:=(t.1=Ie∧z=[])∨(t.1≠Ie∧∃u∈z,u.1=t.2.1)
def aQu{ks z L:List Tk}(d:TkI ks)(h:LdI ks z L){t:Tk}(v:t∈L)(hr:vE z t):Mx z t=some (BT z t):=by
 unfold Mx;rcases hr with hr|⟨hr,u,m,e⟩
 ·rw[if_pos hr]
 ·rw[if_neg (λh=>hr h.1)];obtain⟨g,o⟩:=h.par m;have f:=(h.left t v).1;have n:Eb z t=(some (BT z t),0):=by
   unfold Eb;have p:t.2.1≠[]:=λe=>hr (d.inv.nop t f e)
   rw[if_neg (by rw[d.tok t f];decide),if_neg p,if_neg (by rw[h.new d v];decide),←e,if_neg (by rw[g];decide),o,if_neg (by rw[d.cov t f u (h.sub u m) e];decide)]
  rw[n,if_pos ⟨hr,rfl⟩]
def R1{z:List Tk}{t:Tk}{a:List Tk}(h:Mx z t=some a):a=BT z t∧(z=[]->t.1=Ie):=by
 unfold Mx at h;split at h
 ·rename_i u;exact⟨(Qq h).symm,λ_=>u.1⟩
 ·split at h
  ·rcases Ns z t with ⟨⟨f,m⟩,_,_,_,i,n⟩|⟨m,n⟩
   ·rw[n]at h;refine⟨(Qq h).symm,λe=>?_⟩;subst e;obtain⟨k,g,_⟩:=DA i;cases g
   ·rw[m]at h;cases h
  ·cases h
def LdI.put{ks z:List Tk}{t:Tk}{r:List Tk}(d:TkI ks)(h:LdI ks z (t::r))(w:t∉r){a:List Tk}(s:Mx z t=some a):LdI ks a r:=by
 obtain⟨rfl,y⟩:=R1 s;have b:=h.new d Qe;refine⟨T_ h.srt b,λx p=>?_,.inr ?_,λx p=>⟨(h.left x (Qi _ p)).1,λn=>?_⟩⟩
 ·rcases A8.1 p with h1|rfl
  ·exact h.sub x h1
  ·exact(h.left _ Qe).1
 ·rcases h.rt with e|⟨k,g,e⟩
  ·exact⟨t,A8.2 (.inr rfl),y e⟩
  ·exact⟨k,A8.2 (.inl g),e⟩
 ·rcases A8.1 n with h1|rfl
  ·exact(h.left x (Qi _ p)).2 h1
  ·exact w p
def VL{ks:List Tk}(d:TkI ks):∀(L z:List Tk),LdI ks z L->L.Nodup->LdI ks (Cm z L).1 (Cm z L).2∧(Cm z L).2.Sublist L∧(∀x,(x∈(Cm z L).1∨x∈(Cm z L).2)↔(x∈z∨x∈L))∧((∃t∈L,vE z t)->(Cm z L).2.length<L.length)
 |[],z,h,_=>⟨h,List.Sublist.refl _,λx=>Iff.rfl,λ⟨t,v,_⟩=>by cases v⟩
 |t::r,z,h,hn=>by
  have f:=List.nodup_cons.1 hn;unfold Cm;cases hp:Mx z t with
  |some a=>
   simp only;obtain⟨q,y,o,j⟩:=VL d r a (h.put d f.1 hp) f.2;obtain⟨rfl,_⟩:=R1 hp;refine⟨q,y.cons _,λx=>?_,λ_=>?_⟩
   ·rw[o,A8,Qh];constructor
    ·rintro((h|h)|h)
     ·exact .inl h
     ·exact .inr (.inl h)
     ·exact .inr (.inr h)
    ·rintro(h|h|h)
     ·exact .inl (.inl h)
     ·exact .inl (.inr h)
     ·exact .inr h
   ·have:=y.length_le;rw[Qd];omega
  |none=>
   simp only;have c:LdI ks z r:=⟨h.srt,h.sub,h.rt,λx hx=>h.left x (Qi _ hx)⟩;obtain⟨q,y,o,j⟩:=VL d r z c f.2;refine⟨⟨q.srt,q.sub,q.rt,λx hx=>?_⟩,y.cons_cons _,λx=>?_,λ⟨u,hu,i⟩=>?_⟩
   ·rcases Qh.1 hx with rfl|hx
    ·refine⟨(h.left _ Qe).1,λn=>?_⟩;rcases(o x).1 (.inl n)with h5|h5
     ·exact(h.left _ Qe).2 h5
     ·exact f.1 h5
    ·exact q.left x hx
   ·rw[Qh,Qh,←or_assoc,or_comm (b:=x=t),or_assoc,o,←or_assoc,or_comm (a:=x=t),or_assoc]
   ·rcases Qh.1 hu with rfl|hu
    ·rw[aQu d h Qe i]at hp;cases hp
    ·have:=j ⟨u,hu,i⟩;simp only[Qd];omega
def lS{ks z L:List Tk}(d:TkI ks)(h:LdI ks z L)(f:∀x∈ks,x∈z∨x∈L)(j:L≠[]):∃t∈L,vE z t:=by
 obtain⟨r,i,_⟩:=d.inv.tree;have y:∀(n:Nat)(t:Tk),t∈L->r t.1<=n->∃t∈L,vE z t:=by
  intro n;induction n with
  |zero=>
   intro t v w;have:=i.up t (h.left t v).1;omega
  |succ n ih=>
   intro t v w;have p:=(h.left t v).1;by_cases q:t.1=Ie
   ·refine⟨t,v,.inl ⟨q,?_⟩⟩;rcases h.rt with e|⟨k,g,e⟩
    ·exact e
    ·have:=d.eq (h.sub k g) p (e.trans q.symm);rw[this]at g;exact absurd g (h.left t v).2
   ·rcases d.inv.par t p with e|⟨u,m,e⟩
    ·exact absurd (d.inv.nop t p e) q
    ·rcases f u m with h2|h2
     ·exact⟨t,v,.inr ⟨q,u,h2,e⟩⟩
     ·have:=i.up t p;exact ih u h2 (by rw[e];omega)
 cases L with
 |nil=>exact absurd rfl j
 |cons t a=>exact y _ t Qe (Qm _)
def aCh{α:Type}{R:α->α->Prop}(c:∀x,¬R x x)(d:∀x y,R x y->R y x->False):∀{a b:List α},a.Pairwise R->b.Pairwise R->(∀x,x∈a↔x∈b)->a=b
 |[],[],_,_,_=>rfl
 |[],y::b,_,_,h=>absurd ((h y).2 Qe) U
 |x::a,[],_,_,h=>absurd ((h x).1 Qe) U
 |x::a,y::b,ha,hb,h=>by
  obtain⟨a1,f⟩:=QV.1 ha;obtain⟨u,v⟩:=QV.1 hb;have e:x=y:=by
   rcases Qh.1 ((h x).1 Qe)with e|h1
   ·exact e
   ·rcases Qh.1 ((h y).2 Qe)with e|h2
    ·exact e.symm
    ·exact(d _ _ (a1 y h2) (u x h1)).elim
  subst e;rw[aCh c d f v λz=>⟨λn=>?_,λn=>?_⟩]
  ·rcases Qh.1 ((h z).1 (Qi _ n))with rfl|h1
   ·exact absurd (a1 _ n) (c _)
   ·exact h1
  ·rcases Qh.1 ((h z).2 (Qi _ n))with rfl|h1
   ·exact absurd (u _ n) (c _)
   ·exact h1
def sM{ks:List Tk}(d:TkI ks):∀(f:Nat)(z L:List Tk),LdI ks z L->L.Nodup->(∀x∈ks,x∈z∨x∈L)->L.length<=f->GS f z L=some ks
 |f,z,[],h,_,hall,_=>by
  have e:z=ks:=aCh (λx p=>by rw[FF]at p;cases p) (λx y u v=>by
   have:=Lx u v;rw[FF]at this;cases this) (E7.1 h.srt) (E7.1 d.inv.sort) λx=>⟨h.sub x,λp=>(hall x p).resolve_right U⟩
  unfold GS;rw[e]
 |0,z,t::r,_,_,_,hf=>absurd hf U
 |f+1,z,t::r,h,hn,hall,hf=>by
  obtain⟨u,v,o,j⟩:=VL d (t::r) z h hn;have w:=j (lS d h hall U);unfold GS;rw[if_neg O];exact sM d f _ _ u (v.nodup hn) (λx p=>(o x).2 (hall x p)) O
def N5:=Aq [(194,Ac aGs),(133,Ac qJ),(77,Ac N9),(195,Ac aBi),(196,Ac F50)]
def vV:=RF N5 oP [.cell (some 1) 2,.t 3] 61
def aRb:Kq vV 131:=An (Aj func131) (Aa aQ6 (Aa aMv (Aa aDm (Aa aMu (Aa aUq Ad)))))
structure kT (l:List Tk):Prop where
 len:l.length<=1000
 ok:∀k∈l,I6 k.2.2.2∧(k.2.2.1=true->k.2.2.2=[])∧k.1.length<=1000000∧k.2.1.length<=1000000
 rt:∀k∈l,k.1=Ie->k=Bi
def kT.add{z:List Tk}{k:Tk}(f:kT z)(hl:z.length<1000)(g:I6 k.2.2.2∧(k.2.2.1=true->k.2.2.2=[])∧k.1.length<=1000000∧k.2.1.length<=1000000)(i:k.1=Ie->k=Bi):kT (BT z k):=by
 refine⟨by rw[Fe];omega,λx p=>?_,λx p=>?_⟩
 ·rcases A8.1 p with h|rfl
  ·exact f.ok x h
  ·exact g
 ·rcases A8.1 p with h|rfl
  ·exact f.rt x h
  ·exact i
def RG{l:List Tk}{k:Tk}:Ar (l++[k])=Ar l++[IW k]:=by simp[Ar]
def yM{L:List Tk}(hB:kT L){A late0:List Tk}{Q:Ex->St->Prop}
  (hQ:∀fa i nl t m0,fa.s 2= .ptr [0] 0->fa.s 4= .ptr [2] 0->(∃tL ja,fa.s 5= .slice ja tL (Ar L))->fa.m [2] 0=some (.slice i [] (Ar A))->fa.s 6= .slice nl t (Ar late0)->LG 6 m0 107 fa.m fa.c nl t->(nl=true->late0=[])->(i=true->A=[])->(∃q,fa.m [0] 0=some q)->Q (.exit 2) fa):
  ∀(f j:Nat)(aa d:List Tk)(i nl ja:Bool)(t tL:Id)(m0:HF)(st:St) g,L.length=j+f->A=(Cm aa (L.drop j)).1->late0=d++(Cm aa (L.drop j)).2->kT aa->aa.length+(L.length-j)<=1000->d.length<=j->LG 6 m0 107 st.m st.c nl t->(nl=true->d=[])->(i=true->aa=[])->
   st.s 2= .ptr [0] 0->st.s 4= .ptr [2] 0->st.s 5= .slice ja tL (Ar L)->st.s 16= .slice ja tL (Ar L)->st.s 17= .int .i64 (L.length:Int)->st.s 18= .int .i64 (j:Int)->st.s 6= .slice nl t (Ar d)->st.m [2] 0=some (.slice i [] (Ar aa))->(∃q,st.m [0] 0=some q)->A9 N5 [] NH Q st g:=by
 intro f;induction f with
 |zero=>
  intro j aa d i nl ja t tL m0 st g hf hA ua hb ka xa hG pa cb h2 h4 h5 ta sa ra h6 m2 ab;refine Af NH.eq_1 ?_;rw[QP O]at hA ua;have d1:((j:Int)<(L.length:Int))=False:=eq_false O;have e1:A=aa:=hA;have e2:late0=d:=by rw[ua];exact QJ _
  subst e1 e2;simp only[↓C2,HE,simprocAttr,HP,sa,ra,d1];exact hQ _ i nl t m0 h2 h4 ⟨tL,ja,h5⟩ m2 h6 (hG.more Xa) pa cb ab
 |succ f ih=>
  intro j aa d i nl ja t tL m0 st g hf hA ua hb ka xa hG pa cb h2 h4 h5 ta sa ra h6 m2 ab;refine Af NH.eq_1 ?_;have hj:j<L.length:=O
  have hd:L.drop j=L[j]::L.drop (j+1):=List.drop_eq_getElem_cons hj;have d1:((j:Int)<(L.length:Int))=True:=eq_true O;have hx:=Hd hj;have qb:Bk L j=L[j]:=by unfold Bk;rw[Qz,Qg hj];rfl
  rw[qb]at hx;have qa:=hB.ok _ (Qs hj);have mb:=hB.rt _ (Qs hj);rw[hd]at hA ua;unfold Cm at hA ua;have oa:=nJ (j:=j);have hw:IntKind.i64.wrap ((j:Int)+1)=((j+1:Nat):Int):=H9 (by have:=hB.len;omega) (by have:=hB.len;omega);have va:=Bp aa;have r:N5 133=some (Ac qJ):=rfl;have ca:N5 77=some (Ac N9):=rfl;have y:N5 195=some (Ac aBi):=rfl;have v:N5 196=some (Ac F50):=rfl;have la:qJ []=some (IW Bi):=rfl;have ha:N9 [IW L[j],IW Bi]=some (.bool (decide (L[j].1=Ie))):=by
   by_cases hr:L[j].1=Ie
   ·rw[mb hr];exact jQ Bi V
   ·rw[decide_eq_false hr];exact aGP _ _ hr
  generalize L[j]=x at *;obtain⟨xn,xp,xb,xr⟩:=x;have ba:=wS (nl0:=i) (nl:=xb) (t0:=[]) (t:=[]) (l:=aa) (n:=xn) (p:=xp) (rs:=xr) (by have:=hb.len;omega) qa.1.1 qa.2.1;have u:=aHo (nl0:=i) (nl:=xb) (l:=aa) (n:=xn) (p:=xp) (rs:=xr) (by have:=hb.len;omega) (λk hk=>(hb.ok k hk).1) qa.2.1 qa.1 qa.2.2.1 qa.2.2.2;obtain⟨ma,ia,da⟩:=st;obtain⟨q0,ab⟩:=ab;simp only at hG h2 h4 h5 ta sa ra h6 m2 ab;have hc:=hG.le;have eb:∀k,(0=da+k)=False:=λk=>eq_false O
  have w:∀k,(2=da+k)=False:=λk=>eq_false O
  have m2r:Ag ia [2] 0 1=some [.slice i [] (Ar aa)]:=by simp[Ag,m2]
  have ob:(aa.length=0)=(aa=[]):=propext (by rw[QA]);have kb:((aa.length:Int)=0)=(aa=[]):=propext (by rw[←ob];omega);simp only[IW]at hx la ha ba u;simp only at mb;have ib:∀a b c:D,Ze 3 [a,b,c]=[a,b,c]:=λ_ _ _=>rfl
  have gb:∀a b c:D,[a,b,c].length=3:=λ_ _ _=>rfl
  have sb:=hB.len;have fb:=Bp d;have db:∀a:D,[a].length=1:=λ_=>rfl
  clear hB hQ;by_cases c1:xn=Ie∧aa=[]
  ·have hp:Mx aa (xn,xp,xb,xr)=some (BT aa (xn,xp,xb,xr)):=if_pos c1;rw[hp]at hA ua;simp only at hA ua;have ih:=ih (j+1) (BT aa (xn,xp,xb,xr)) d false nl ja t tL;have e1:decide (xn=Ie)=true:=decide_eq_true c1.1;have e2:(aa=[])=True:=eq_true c1.2;simp only[e1]at ha;clear u hp;have wa:=hb.add (k:=(xn,xp,xb,xr)) O qa mb;have za:=Fe aa (xn,xp,xb,xr);generalize BT aa (xn,xp,xb,xr)=ga at *
   repeat' (first|(refine aB (Al XQ) ?_)|simp (disch:=first|assumption|omega)only[↓C2,HE,simprocAttr,HP,h2,h4,h5,h6,ta,sa,ra,m2,m2r,d1,hx,oa,Qk,va,kb,e2,Ab r,la,Ab ca,ha,Ab y,ba,O8,Od,kX,qM,ib,gb,Ez,hw,IR,pO,Qa,and_self,and_false])
   have z:=(((hG.put (c':=da+1+2) (o:=0) (ds:=[.str [],.str [],.slice true [] []]) O).put (c':=da+1+2) (o:=0) (ds:=(D.agg [.str xn,.str xp,.slice xb [] (As xr)]).cells) O).low_put (q:=2) (o:=0) (ds:=(D.agg [.slice false [] (Ar ga)]).cells) O);refine ih _ _ _ O hA ua wa O O (z.more Xa) pa (λe=>Xo) h2 h4 h5 ta sa rfl h6 ?_ ⟨q0,?_⟩
   ·simp only[D.cells];exact kX
   simp (disch:=omega)only[Ez,IR,pO];exact ab
  ·rcases Ns aa (xn,xp,xb,xr)with ⟨⟨l',e0⟩,_,_,pb,tb,jb⟩|⟨e0,jb,rb⟩
   ·by_cases hr:xn=Ie
    ·have hp:Mx aa (xn,xp,xb,xr)=none:=by
      unfold Mx;rw[if_neg c1,if_neg (λh=>h.1 hr)]
     rw[hp]at hA ua;simp only at hA ua;rw[e0]at u;simp only[RN]at u;have lb:late0=(d++[(xn,xp,xb,xr)])++(Cm aa (L.drop (j+1))).2:=by rw[ua,QB];rfl
     have ih:=ih (j+1) aa (d++[(xn,xp,xb,xr)]) i false ja;rw[RG]at ih;have na:nl=true->Ar d=[]:=λh=>by rw[pa h];rfl
     clear hp ba ua e0 jb;generalize l'=ga at *;have e2:(aa=[])=False:=eq_false (λh=>c1 ⟨hr,h⟩);have e3:(xn=[114,111,111,116])=True:=eq_true hr;have e4:True:=trivial;have e1:decide (xn=Ie)=true:=decide_eq_true hr;simp only[e1]at ha
     repeat' (first|(refine aB (Al XQ) ?_)|simp (disch:=first|assumption|omega)only[↓C2,HE,simprocAttr,HP,h2,h4,h5,h6,ta,sa,ra,m2,m2r,d1,hx,oa,Qk,va,kb,e2,e3,e4,Ab r,la,Ab ca,ha,Ab v,u,O8,Od,kX,qM,ib,gb,Ez,hw,IR,pO,Qa,and_self,and_false])
     have z:=(((hG.put (c':=da+1+2) (o:=0) (ds:=[.str [],.str [],.slice true [] []]) O).put (c':=da+1+2) (o:=0) (ds:=(D.agg [.str xn,.str xp,.slice xb [] (As xr)]).cells) O).put (c':=da+1+4+9+6) (o:=0) (ds:=[.slice true [] []]) O).put (c':=da+1+4+9+6) (o:=0) (ds:=(D.agg [.slice false [] (Ar ga)]).cells) O;have bb:=z.put (c':=da+1+4+9+9+7+2) (o:=0) (ds:=[.tok 108]) O;refine aB ⟨O,rfl,bb.grow⟩ ?_;rw[BF na];simp (disch:=first|assumption|omega)only[↓C2,HE,simprocAttr,HP,ra,hw,IR,pO,Qa,and_self];have ya:=bb.app (xs:=Ar d) (c':=da+1+4+9+9+7+3) (c2:=da+1+4+9+9+7+5) O O;refine ih _ _ _ _ _ O hA lb hb O Yo (ya.more Xa) (λe=>Xo) cb h2 h4 h5 ta sa rfl rfl ?_ ⟨q0,?_⟩
     ·exact(ya.low 2 0 O).trans ((hG.low 2 0 O).symm.trans m2)
     ·exact(ya.low 0 0 O).trans ((hG.low 0 0 O).symm.trans ab)
    ·have hp:Mx aa (xn,xp,xb,xr)=some (BT aa (xn,xp,xb,xr)):=by
      unfold Mx;rw[if_neg c1,if_pos ⟨hr,by rw[e0]⟩,jb]
     rw[hp]at hA ua;simp only at hA ua;have ea:l'=BT aa (xn,xp,xb,xr):=by rw[e0]at jb;exact Qq jb
     subst ea;rw[e0]at u;simp only[RN]at u;have ih:=ih (j+1) (BT aa (xn,xp,xb,xr)) d false nl ja t tL;have e1:decide (xn=Ie)=false:=decide_eq_false hr;simp only[e1]at ha;have e3:(xn=[114,111,111,116])=False:=eq_false hr;have wa:=hb.add (k:=(xn,xp,xb,xr)) O qa mb;have za:=Fe aa (xn,xp,xb,xr);have e2:True:=trivial;have e4:True:=trivial;clear hp ba;generalize BT aa (xn,xp,xb,xr)=ga at *
     repeat' (first|(refine aB (Al XQ) ?_)|simp (disch:=first|assumption|omega)only[↓C2,HE,simprocAttr,HP,h2,h4,h5,h6,ta,sa,ra,m2,m2r,d1,hx,oa,Qk,va,kb,e2,e3,e4,Ab r,la,Ab ca,ha,Ab v,u,O8,Od,kX,qM,ib,gb,Ez,hw,IR,pO,Qa,and_self,and_false])
     have z:=((((hG.put (c':=da+1+2) (o:=0) (ds:=[.str [],.str [],.slice true [] []]) O).put (c':=da+1+2) (o:=0) (ds:=(D.agg [.str xn,.str xp,.slice xb [] (As xr)]).cells) O).put (c':=da+1+4+9+6) (o:=0) (ds:=[.slice true [] []]) O).put (c':=da+1+4+9+6) (o:=0) (ds:=(D.agg [.slice false [] (Ar ga)]).cells) O).low_put (q:=2) (o:=0) (ds:=(D.agg [.slice false [] (Ar ga)]).cells) O;refine ih _ _ _ O hA ua wa O O (z.more Xa) pa (λe=>Xo) h2 h4 h5 ta sa rfl h6 ?_ ⟨q0,?_⟩
     ·simp only[D.cells];exact kX
     ·simp (disch:=omega)only[Ez,IR,pO];exact ab
   ·have hp:Mx aa (xn,xp,xb,xr)=none:=by
     unfold Mx;rw[if_neg c1,if_neg (λh=>by have:=h.2;omega)]
    rw[hp]at hA ua;simp only at hA ua;rw[e0]at u;simp only[RN]at u;generalize (Eb aa (xn,xp,xb,xr)).2=er at *;have e3:(er=0)=False:=eq_false O;have lb:late0=(d++[(xn,xp,xb,xr)])++(Cm aa (L.drop (j+1))).2:=by rw[ua,QB];rfl
    have ih:=ih (j+1) aa (d++[(xn,xp,xb,xr)]) i false ja;rw[RG]at ih;have e1:(decide (xn=Ie)=true)=(xn=Ie):=U
    have e4:True:=trivial;have na:nl=true->Ar d=[]:=λh=>by rw[pa h];rfl
    clear hp ba ua;by_cases hr:xn=Ie
    ·have e2:(aa=[])=False:=eq_false (λh=>c1 ⟨hr,h⟩);have e1:decide (xn=Ie)=true:=decide_eq_true hr;simp only[e1]at ha
     repeat' (first|(refine aB (Al XQ) ?_)|simp (disch:=first|assumption|omega)only[↓C2,HE,simprocAttr,HP,h2,h4,h5,h6,ta,sa,ra,m2,m2r,d1,hx,oa,Qk,va,kb,e2,e3,e4,Ab r,la,Ab ca,ha,Ab v,u,O8,Od,kX,qM,ib,gb,Ez,hw,IR,pO,Qa,and_self,and_false])
     have z:=(((hG.put (c':=da+1+2) (o:=0) (ds:=[.str [],.str [],.slice true [] []]) O).put (c':=da+1+2) (o:=0) (ds:=(D.agg [.str xn,.str xp,.slice xb [] (As xr)]).cells) O).put (c':=da+1+4+9+6) (o:=0) (ds:=[.slice true [] []]) O).put (c':=da+1+4+9+6) (o:=0) (ds:=(D.agg [.slice i [] (Ar aa)]).cells) O;have bb:=z.put (c':=da+1+4+9+9+7+2) (o:=0) (ds:=[.tok 108]) O;refine aB ⟨O,rfl,bb.grow⟩ ?_;rw[BF na];simp (disch:=first|assumption|omega)only[↓C2,HE,simprocAttr,HP,ra,hw,IR,pO,Qa,and_self];have ya:=bb.app (xs:=Ar d) (c':=da+1+4+9+9+7+3) (c2:=da+1+4+9+9+7+5) O O;refine ih _ _ _ _ _ O hA lb hb O Yo (ya.more Xa) (λe=>Xo) cb h2 h4 h5 ta sa rfl rfl ?_ ⟨q0,?_⟩
     ·exact(ya.low 2 0 O).trans ((hG.low 2 0 O).symm.trans m2)
     ·exact(ya.low 0 0 O).trans ((hG.low 0 0 O).symm.trans ab)
    ·have e2:True:=trivial;have e1:decide (xn=Ie)=false:=decide_eq_false hr;simp only[e1]at ha
     repeat' (first|(refine aB (Al XQ) ?_)|simp (disch:=first|assumption|omega)only[↓C2,HE,simprocAttr,HP,h2,h4,h5,h6,ta,sa,ra,m2,m2r,d1,hx,oa,Qk,va,kb,e2,e3,e4,Ab r,la,Ab ca,ha,Ab v,u,O8,Od,kX,qM,ib,gb,Ez,hw,IR,pO,Qa,and_self,and_false])
     have z:=(((hG.put (c':=da+1+2) (o:=0) (ds:=[.str [],.str [],.slice true [] []]) O).put (c':=da+1+2) (o:=0) (ds:=(D.agg [.str xn,.str xp,.slice xb [] (As xr)]).cells) O).put (c':=da+1+4+9+6) (o:=0) (ds:=[.slice true [] []]) O).put (c':=da+1+4+9+6) (o:=0) (ds:=(D.agg [.slice i [] (Ar aa)]).cells) O;have bb:=z.put (c':=da+1+4+9+9+7+2) (o:=0) (ds:=[.tok 108]) O;refine aB ⟨O,rfl,bb.grow⟩ ?_;rw[BF na];simp (disch:=first|assumption|omega)only[↓C2,HE,simprocAttr,HP,ra,hw,IR,pO,Qa,and_self];have ya:=bb.app (xs:=Ar d) (c':=da+1+4+9+9+7+3) (c2:=da+1+4+9+9+7+5) O O;refine ih _ _ _ _ _ O hA lb hb O Yo (ya.more Xa) (λe=>Xo) cb h2 h4 h5 ta sa rfl rfl ?_ ⟨q0,?_⟩
     ·exact(ya.low 2 0 O).trans ((hG.low 2 0 O).symm.trans m2)
     ·exact(ya.low 0 0 O).trans ((hG.low 0 0 O).symm.trans ab)
def mA:∀(L z:List Tk),kT z->kT L->z.length+L.length<=1000->kT (Cm z L).1∧kT (Cm z L).2∧(Cm z L).1.length+(Cm z L).2.length=z.length+L.length
 |[],z,ha,hL,_=>⟨ha,hL,rfl⟩
 |t::r,z,ha,hL,hs=>by
  have i:kT r:=⟨by have:=hL.len;rw[Qd]at this;omega,λk hk=>hL.ok k (Qi _ hk),λk hk=>hL.rt k (Qi _ hk)⟩;have v:=hL.ok t Qe;have p:=hL.rt t Qe;rw[Qd]at hs;unfold Cm;cases hp:Mx z t with
  |some a=>
   obtain⟨rfl,_⟩:=R1 hp;have hl:=Fe z t;obtain⟨u,y,o⟩:=mA r _ (ha.add O v p) i O;exact⟨u,y,by simp only[Qd];omega⟩
  |none=>
   obtain⟨u,y,o⟩:=mA r z ha i O;refine⟨u,⟨?_,λk hk=>?_,λk hk=>?_⟩,?_⟩
   ·simp only[Qd];omega
   ·rcases Qh.1 hk with rfl|hk
    ·exact v
    ·exact y.ok k hk
   ·rcases Qh.1 hk with rfl|hk
    ·exact p
    ·exact y.rt k hk
   ·simp only[Qd];omega
def aCY{ks:List Tk}{Q:Ex->St->Prop}(hQ:∀fa i,fa.s 2= .ptr [0] 0->fa.s 4= .ptr [2] 0->fa.m [2] 0=some (.slice i [] (Ar ks))->(i=true->ks=[])->(∃q,fa.m [0] 0=some q)->Q (.exit 0) fa):
  ∀(f:Nat)(z L:List Tk)(i ja:Bool)(tL:Id)(st:St) g,GS f z L=some ks->kT z->kT L->z.length+L.length<=1000->6<=st.c->(i=true->z=[])->(ja=true->L=[])->st.s 2= .ptr [0] 0->st.s 4= .ptr [2] 0->st.s 5= .slice ja tL (Ar L)->st.m [2] 0=some (.slice i [] (Ar z))->(∃q,st.m [0] 0=some q)->A9 N5 [] IA Q st g:=by
 intro f;induction f with
 |zero=>
  intro z L i ja tL st g ca ha hL hs hc d l y h4 h5 m2 m0;cases L with
  |cons t r=>unfold GS at ca;cases ca
  |nil=>
   unfold GS at ca;have e:z=ks:=Qq ca;subst e;refine Af IA.eq_1 ?_;have ua:(Ar ([]:List Tk)).length=0:=rfl;simp only[↓C2,HE,simprocAttr,HP,h5,ua];exact hQ _ i y h4 m2 d m0
 |succ f ih=>
  intro z L i ja tL st g ca ha hL hs hc d l y h4 h5 m2 m0;cases L with
  |nil=>
   unfold GS at ca;have e:z=ks:=Qq ca;subst e;refine Af IA.eq_1 ?_;have ua:(Ar ([]:List Tk)).length=0:=rfl;simp only[↓C2,HE,simprocAttr,HP,h5,ua];exact hQ _ i y h4 m2 d m0
  |cons t r=>
   unfold GS at ca;obtain⟨p1,p2,p3⟩:=mA (t::r) z ha hL hs;have ga:(Cm z (t::r)).2.length≠(t::r).length:=λe=>by rw[if_pos e]at ca;cases ca
   rw[if_neg ga]at ca;have db:0<(t::r).length:=U
   generalize w:t::r=L at *;refine Af IA.eq_1 ?_;have fb:=Bp L;have c1:((0:Int)<(L.length:Int))=True:=eq_true O;simp only[↓C2,HE,simprocAttr,HP,h5,fb,c1];refine yM hL (A:=(Cm z L).1) (late0:=(Cm z L).2) (λfa j nl' t' ab ea ba a v h o u k b=>?_) L.length 0 z [] i true ja [] tL _ _ _ O (by rw[Q8]) (by rw[Q8];rfl) ha O (Q3 _) (LG.start Xa) (λ_=>rfl) d y h4 h5 rfl rfl rfl rfl m2 m0;obtain⟨x,n,a⟩:=a;have p:=Bp (Cm z L).2;have c2:(((Cm z L).2.length:Int)=(L.length:Int))=False:=eq_false O;simp only[↓C2,HE,simprocAttr,HP,a,h,fb,p,c2];refine ih _ _ j nl' t' _ _ ca p1 p2 O (by simp only;have:=o.le;omega) k u ea ba rfl v b
def aGC(nl:Bool)(l ks:List Tk)(w:nl=true->l=[])(x:kT l)(r:GS l.length [] l=some ks)(p:ks≠[]):vV [.slice nl [] (Ar l)]=some (.tup [.agg [.slice false [] (Ar ks)],.int .i64 0]):=by
 refine Am (Qb rfl) ?_;unfold oP;have a:=jK nl l w x.len;simp (disch:=first|assumption|omega)only[HG,↓C2,HB,simprocAttr,HP,Ae N5 194,a];refine aCY (ks:=ks) (λn i y j e d m0=>?_) l.length [] l true nl [] _ _ r ⟨U,λk g=>Xm,λk g=>Xm⟩ x (by have:=x.len;simp;omega) (Qb rfl) (λ_=>rfl) w rfl rfl rfl ?_ ⟨.slice true [] [],?_⟩
 ·obtain⟨q,m0⟩:=m0;have u:i=false:=by
   cases i with
   |false=>rfl
   |true=>exact absurd (d rfl) p
  subst u;have m2r:Ag n.m [2] 0 1=some [.slice false [] (Ar ks)]:=by simp[Ag,e]
  simp (disch:=first|assumption|omega)only[HG,↓C2,HB,simprocAttr,HP,y,j,e,m2r,m0,qM,IR,pO,Qa]
  all_goals exact Y2
 ·show HF.put (HF.put (λ_ _=>none) [0] 0 [.slice true [] []]) [2] 0 [.slice true [] []] [2] 0=some (.slice true [] []);exact kX
 ·simp (disch:=decide)only[pO];exact kX
def xY{s:Bs}{nl:Bool}{rs:List Rl}(h:FK s=(nl,rs,0)):nl=decide (rs=[]):=by
 unfold FK at h;split at h
 ·simp only[Qx]at h;obtain⟨rfl,rfl,_⟩:=h;rfl
 ·split at h
  ·simp only[Qx]at h;exact absurd h.2.2 V
  ·split at h
   ·rename_i o;simp only[Qx]at h;exact absurd h.2.2 o
   ·simp only[Qx]at h;obtain⟨rfl,rfl,_⟩:=h;symm;apply decide_eq_false;intro e;have:=E6 (q:=44) s;exact this (QS.1 e)
def iC:∀n:Fin 64,OU (Go.Ve.lettersN n.val)=(n.val,true):=Xf
def Tl:∀n:Fin 64,∀c∈Go.Ve.lettersN n.val,c≠44∧c≠58:=Xf
def aBY{p:Bs}{n:Nat}(g:(58:UInt8)∉p)(y:n<=63):I9 (FW (p,(n:Int)))=true∧Th (FW (p,(n:Int)))=(p,(n:Int)):=by
 have d:BZ (FW (p,(n:Int))) 58=(p,Go.Ve.lettersN n,true):=by
  unfold BZ FW;have e:p++[58]++Go.Ve.lettersN ((n:Int)).toNat=p++58::Go.Ve.lettersN n:=U
  simp only[e];rw[Gn g,if_neg O];simp
 have hl:=iC ⟨n,O⟩;simp only at hl;unfold I9 Th;rw[d];simp only[hl];exact⟨U,U⟩
def xZ{rs:List Rl}(b:rs≠[])(g:∀r∈rs,(44:UInt8)∉r.1∧(58:UInt8)∉r.1∧0<=r.2∧r.2<=63)(s:Cg rs=0):FK (B7 (A6 rs))=(false,rs,0):=by
 have i:∀r∈rs,I9 (FW r)=true∧Th (FW r)=r:=λr i=>by
  obtain⟨p,n⟩:=r;obtain⟨_,y,o,m⟩:=g _ i;simp only at y o m;have e:n=((n.toNat:Nat):Int):=O
  rw[e];exact aBY y O
 have v:A6 rs≠[]:=λe=>b (QS.1 e)
 have z:∀w∈A6 rs,(44:UInt8)∉w:=λw k=>by
  obtain⟨r,i,rfl⟩:=QE.1 k;obtain⟨u,_,o,m⟩:=g r i;unfold FW;intro h;rcases Qt.1 h with h|h
  ·rcases Qt.1 h with h|h
   ·exact u h
   ·simp at h
  ·exact(Tl ⟨r.2.toNat,O⟩ _ h).1 rfl
 have j:splitC 44 (B7 (A6 rs))=A6 rs:=Nx (A6 rs)▸RK v z;unfold FK;have q:B7 (A6 rs)≠[]:=λe=>by
  rw[e]at j;have hl:(A6 rs)=[[]]:=j.symm;cases rs with
  |nil=>exact b rfl
  |cons r t=>
   have:FW r=[]:=by
    have:=congrArg List.head? hl;simpa[A6]using this
   unfold FW at this;simp at this
 rw[if_neg q,j];have x:(A6 rs).all I9=true:=by
  rw[Q0];intro w k;obtain⟨r,d,rfl⟩:=QE.1 k;exact(i r d).1
 have hm:(A6 rs).map Th=rs:=by
  unfold A6;rw[List.map_map]
  conv=>rhs;rw[←List.map_id rs]
  exact List.map_congr_left λr h=>(i r h).2
 rw[if_neg (by rw[x];decide),hm,if_neg (by rw[s];decide)]
def cN(k:Tk):Bs:=AL [k.2.1,B7 (A6 k.2.2.2)]
structure TE (m:Md):Prop where
 ring:∃x,m.tr.get Io=some x∧(x.length:Int)=Gl m.vw.te
 mts:m.tr.get Ik=some (BL m.vw.ms)
 tin:∀k∈m.vw.ks,m.tr.get ([116,47]++k.1)=some (cN k)
 tout:∀n x,BJ n=true->m.tr.get ([116,47]++n)=some x->∃k∈m.vw.ks,k.1=n
 tok:∀k∈m.vw.ks,Fg k.1 k.2.1 k.2.2.2=0
 cov:∀k∈m.vw.ks,∀u∈m.vw.ks,u.1=k.2.1->Eu k.2.2.2 u.2.2.2=true
 rt:∀k∈m.vw.ks,k.1=Ie->k=Bi
 nlr:∀k∈m.vw.ks,k.2.2.1=decide (k.2.2.2=[])
def mdK(q:Bs):Prop:=∀c r,q=c::r->c=109∨c=100
def aCN(p:Bs)(n:Int):mdK (Ao 1 p n):=by
 unfold Ao;intro c r e;split at e
 ·cases e
 ·rw[if_pos rfl]at e;exact .inl (QT (show(109:UInt8)::([47]++p)=c::r from e)).1.symm
def aMz(p:Bs)(n:Int):mdK (Ao 2 p n):=by
 unfold Ao;intro c r e;split at e
 ·cases e
 ·rw[if_neg V,if_pos rfl]at e;exact .inr (QT (show(100:UInt8)::([47]++p++[0,_])=c::r from e)).1.symm
def aJM{t:Tr}(v:Tr.Ord t.lst){l:List Op1}(hl:∀x∈l,x.1≠3∧mdK x.2.1){c:UInt8}{r:Bs}(d:c≠109∧c≠100):(Bg l t).get (c::r)=t.get (c::r):=
 L1 v λx p=>by
  obtain⟨u,y⟩:=hl x p;unfold Tj;rw[if_neg u];intro e;rcases y c r e.symm with h|h
  ·exact d.1 h
  ·exact d.2 h
def aJA{m:Md}(p:TE m){v:Vw}{t:Tr}{r:Int}(u:v.te=m.vw.te)(h2:v.ms=m.vw.ms)(o:v.ks=m.vw.ks)(a:∀(c:UInt8)(s:Bs),c≠109∧c≠100->t.get (c::s)=m.tr.get (c::s)):TE ⟨v,t,r⟩:=by
 obtain⟨z,t0,q⟩:=m;obtain⟨⟨x,j,i⟩,b,c,d,e,f,g,h⟩:=p;simp only at u h2 o a j i b c d e f g h;rw[←u]at i;rw[←h2]at b;rw[←o]at c d e f g h;exact⟨⟨x,(a 115 _ V).trans j,i⟩,(a 115 _ V).trans b,λk hk=>(a 116 _ V).trans (c k hk),λn y w hy=>d n y w ((a 116 _ V).symm.trans hy),e,f,g,h⟩
def LZ{m:Md}{o:Oc}(s:TE m)(h:TE ⟨o.vw,Bg o.ops m.tr,m.room⟩):TE (Ck m o).1:=by
 unfold Ck;split
 ·exact s
 ·exact h
def jA(v:Vw)(o:Oc):Prop:=(o.vw.te=v.te∧o.vw.ms=v.ms∧o.vw.ks=v.ks)∧∀x∈o.ops,x.1≠3∧mdK x.2.1
def OB{m:Md}{o:Oc}(p:TE m)(v:Tr.Ord m.tr.lst)(h:jA m.vw o):TE (Ck m o).1:=
 LZ p (aJA p h.1.1 h.1.2.1 h.1.2.2 λc s d=>aJM v h.2 d)
def B6{v:Vw}{o:Oc}(u:o.vw=v)(y:o.ops=[]):jA v o:=⟨by rw[u];exact⟨rfl,rfl,rfl⟩,λx p=>by rw[y]at p;cases p⟩
def Ok{p:Bs}{l:List Int}{x:Op1}(w:x∈l.map λn=>((2:Int),Ao 2 p n,([]:Bs))):x.1≠3∧mdK x.2.1:=by
 obtain⟨n,_,rfl⟩:=QE.1 w;exact⟨XG,aMz p n⟩
def RQ(v:Vw)(p:Bs)(s:Sc)(cas:Int)(data:Bs):jA v (Dt v p s cas data):=by
 unfold Dt;split
 ·exact B6 rfl rfl
 ·refine⟨⟨rfl,rfl,rfl⟩,λx hx=>?_⟩;simp only[Rx,Bl,Oc.op,HM,Qy]at hx;rcases Qt.1 hx with hx|hx
  ·rcases Qt.1 hx with hx|hx
   ·rw[Qf.1 hx];exact⟨Xy,aCN _ _⟩
   ·rw[Qf.1 hx];exact⟨Xy,aMz _ _⟩
  ·exact Ok hx
def LO(v:Vw)(p:Bs)(s:Sc)(gone:List Int)(e:Int):jA v (Dg v p s gone e):=by
 unfold Dg;split
 ·exact B6 rfl rfl
 ·refine⟨⟨rfl,rfl,rfl⟩,λx hx=>?_⟩;simp only[IC,Bl,Oc.op,HM,Qy]at hx;rcases Qt.1 hx with hx|hx
  ·rw[Qf.1 hx];exact⟨Xy,aCN _ _⟩
  ·exact Ok hx
def aBP(v:Vw)(p:Bs)(l:List Rw)(rep:Bs):jA v {D6 (HM v) p l with rep:=rep}:=by
 refine⟨⟨rfl,rfl,rfl⟩,λx hx=>?_⟩;simp only[D6,Bl,Oc.op,HM,Qy]at hx;rcases Qt.1 hx with hx|hx
 ·rw[Qf.1 hx];exact⟨XG,aCN _ _⟩
 ·exact Ok hx
def dA(v:Vw)(a:Ak)(k:Kn):jA v (Co v a k):=by
 unfold Co;split
 ·exact B6 rfl rfl
 split
 ·exact RQ ..
 split
 ·exact LO ..
 split
 ·exact B6 rfl rfl
 split
 ·exact B6 rfl rfl
 split
 ·exact aBP ..
 split
 ·exact LO ..
 split
 ·exact LO ..
 ·exact LO ..
def xP(v:Vw)(a:Ak)(k:Kn):jA v (CD v a k):=by
 unfold CD;split
 ·exact B6 rfl rfl
 split
 ·exact B6 rfl rfl
 split
 ·exact B6 rfl rfl
 split
 ·exact B6 rfl rfl
 split
 ·exact B6 rfl rfl
 split
 ·exact B6 rfl rfl
 ·exact RQ ..
def xO(v:Vw)(a:Ak)(k:Kn):jA v (Mm v a k):=by
 unfold Mm;split
 ·exact B6 rfl rfl
 ·exact B6 rfl rfl
def Dq{t:Tr}(v:Tr.Ord t.lst)(e x q:Bs):(Bg [((1:Int),e,x)] t).get q=if q=e then some x else t.get q:=by
 rw[Hr _ v];simp[R5,yD]
def k5:Ao 5 [] 0=Io:=rfl
def k4:Ao 4 [] 0=Ik:=rfl
def k3{n:Bs}(h:BJ n=true):Ao 3 n 0=[116,47]++n:=by
 unfold Ao;rw[if_neg (by rw[xT h];decide),if_neg V,if_neg V,if_pos rfl]
def I3(n:Bs):([116,47]++n:Bs)≠Io:=λe=>Xo
def Fh(n:Bs):([116,47]++n:Bs)≠Ik:=λe=>Xo
def cT{a b:Bs}(h:([116,47]++a:Bs)=[116,47]++b):a=b:=List.append_cancel_left h
def eF{f:Bs->Bs}{n:Bs}:∀(l:List Bs)(o:Option Bs),(n∈l∨o=none)->R5 (l.map λn=>((2:Int),f n,([]:Bs))) (f n) o=none
 |[],o,h=>h.resolve_left U
 |k::l,o,h=>by
  show R5 (l.map _) (f n) (yD (2,f k,[]) (f n) o)=none;refine eF l _ ?_;unfold yD;rw[if_neg (show ¬((2:Int)=1)by decide),if_pos rfl];by_cases e:f n=f k
  ·exact .inr (if_pos e)
  ·rcases h with h|h
   ·rcases Qh.1 h with rfl|h
    ·exact absurd rfl e
    ·exact .inl h
   ·rw[if_neg e];exact .inr h
def aRK{m:Md}(hK:TE m)(hM:MZ m){a:Ak}(v:a.nlr=decide (a.rs=[])){o:Oc}(h:PJ m.vw a o):TE (Ck m o).1:=by
 have ho:=hM.tr.ord;have hv:=hM.vw;cases h with
 |fail e=>exact OB hK ho (B6 rfl rfl)
 |flag o b h1 y=>exact OB hK ho ⟨by rw[y];exact⟨rfl,rfl,rfl⟩,λx hx=>by rw[h1]at hx;cases hx⟩
 |rot h=>
  refine LZ hK ?_;have ea:(dG (HM m.vw) m.vw.te).ops=[((1:Int),Io,Lib.repeatL [0] (Gl (m.vw.te+1)).toNat)]:=by simp[dG,Oc.op,HM,k5]
  rw[ea];have ht:=hv.te;refine⟨⟨_,by show(Bg _ m.tr).get _=_;rw[Dq ho,if_pos rfl],?_⟩,?_,λk hk=>?_,λn x v hx=>?_,hK.tok,hK.cov,hK.rt,hK.nlr⟩
  ·show _=Gl (m.vw.te+1);rw[Lib.repeatL_length];have:0<=Gl (m.vw.te+1):=by unfold Gl;split<;>omega
   simp only[List.length_singleton];omega
  ·show(Bg _ m.tr).get _=_;rw[Dq ho,if_neg V];exact hK.mts
  ·show(Bg _ m.tr).get _=_;rw[Dq ho,if_neg (I3 _)];exact hK.tin k hk
  ·have hx:(Bg _ m.tr).get _=_:=hx;rw[Dq ho,if_neg (I3 _)]at hx;exact hK.tout n x v hx
 |mnt l' e=>
  refine LZ hK ?_;have ea:(Mb (HM m.vw) false l').ops=[((1:Int),Ik,BL l')]:=by simp[Mb,PF,Oc.op,HM,k4]
  rw[ea];obtain⟨x,x1,x2⟩:=hK.ring;refine⟨⟨x,?_,x2⟩,?_,λk hk=>?_,λn x v hx=>?_,hK.tok,hK.cov,hK.rt,hK.nlr⟩
  ·show(Bg _ m.tr).get _=_;rw[Dq ho,if_neg V];exact x1
  ·show(Bg _ m.tr).get _=_;rw[Dq ho,if_pos rfl];rfl
  ·show(Bg _ m.tr).get _=_;rw[Dq ho,if_neg (Fh _)];exact hK.tin k hk
  ·have hx:(Bg _ m.tr).get _=_:=hx;rw[Dq ho,if_neg (Fh _)]at hx;exact hK.tout n x v hx
 |unm hr hf=>
  refine LZ hK ?_;have ea:(qX (HM m.vw) (decide (DP m.vw.ms a.pa=[])) (DP m.vw.ms a.pa) a.pa).ops=[((1:Int),Ik,BL (DP m.vw.ms a.pa)),(3,[109,47]++a.pa++[47],[]),(3,[100,47]++a.pa++[47],[])]:=by simp[qX,PF,Oc.op,HM,k4]
  rw[ea];have hg:∀(c:UInt8)(s:Bs),c≠109∧c≠100->(Bg [((1:Int),Ik,BL (DP m.vw.ms a.pa)),(3,[109,47]++a.pa++[47],[]),(3,[100,47]++a.pa++[47],[])] m.tr).get (c::s)=if(c::s)=Ik then some (BL (DP m.vw.ms a.pa))else m.tr.get (c::s):=λc s hc=>by
   have h1:A7 (c::s) ([109,47]++a.pa++[47])=false:=by
    show A7 (c::s) (109::([47]++a.pa++[47]))=false;rw[Dz,decide_eq_false hc.1];rfl
   have y:A7 (c::s) ([100,47]++a.pa++[47])=false:=by
    show A7 (c::s) (100::([47]++a.pa++[47]))=false;rw[Dz,decide_eq_false hc.2];rfl
   rw[Hr _ ho];simp only[R5,yD,h1,y];simp
  obtain⟨x,x1,x2⟩:=hK.ring;refine⟨⟨x,?_,x2⟩,?_,λk hk=>?_,λn x v hx=>?_,hK.tok,hK.cov,hK.rt,hK.nlr⟩
  ·exact((hg 115 _ V).trans (if_neg V)).trans x1
  ·exact(hg 115 _ V).trans (if_pos rfl)
  ·exact((hg 116 _ V).trans (if_neg (Fh _))).trans (hK.tin k hk)
  ·exact hK.tout n x v (((hg 116 _ V).trans (if_neg (Fh _))).symm.trans hx)
 |mak l' e e1 e2 h=>
  refine LZ hK ?_;have i:=GB e2;have p:Cg a.rs=0:=by
   unfold Fg at e2;rw[if_neg (by rw[i];decide)]at e2;split at e2
   ·rename_i c;exact absurd e2 c
   ·rename_i c;exact Decidable.not_not.1 c
  have ea:(mkO (HM m.vw) false l' a.ot (AL [a.tk,if Cg a.rs=0 then B7 (A6 a.rs)else []])).ops=[((1:Int),[116,47]++a.ot,cN (a.ot,a.tk,a.nlr,a.rs))]:=by
   rw[if_pos p];simp[mkO,PW,Oc.op,HM,k3 i,cN]
  rw[ea];obtain⟨_,b1,b2,b3,b4,b5⟩:=(Ns m.vw.ks (a.ot,a.tk,a.nlr,a.rs)).resolve_right (λb=>by rw[e]at b;cases b.1);simp only at b1 b2 b3 b4;have l:=fW hv.inv.sort b3;have d:Eu a.rs (Bk m.vw.ks (IZ m.vw.ks a.tk)).2.2.2=true:=by
   unfold Eb at e;rw[if_neg (by rw[show Fg _ _ _=0 from b1];decide),if_neg b2,if_neg (by rw[b3];decide),if_neg (by rw[b4];decide)]at e;split at e
   ·cases e
   ·rename_i c;simpa using c
  obtain⟨u,hu,r⟩:=DA b4;have g:a.ot≠Ie:=λer=>by
   obtain⟨k,hk,ek⟩:=hv.inv.root hu;exact l k hk (ek.trans er.symm)
  obtain⟨x,x1,x2⟩:=hK.ring;have ua:(mkO (HM m.vw) false l' a.ot (AL [a.tk,if Cg a.rs=0 then B7 (A6 a.rs)else []])).vw.ks=BT m.vw.ks (a.ot,a.tk,a.nlr,a.rs):=e1;refine⟨⟨x,?_,x2⟩,?_,λk hk=>?_,λn x v hx=>?_,λk hk=>?_,λk hk u hu eu=>?_,λk hk er=>?_,λk hk=>?_⟩
  ·show(Bg _ m.tr).get _=_;rw[Dq ho,if_neg (I3 _).symm];exact x1
  ·show(Bg _ m.tr).get _=_;rw[Dq ho,if_neg (Fh _).symm];exact hK.mts
  ·show(Bg _ m.tr).get _=_;replace hk:k∈BT m.vw.ks (a.ot,a.tk,a.nlr,a.rs):=ua▸hk;rw[Dq ho];rcases A8.1 hk with hk|rfl
   ·rw[if_neg (λe=>l k hk (cT e))];exact hK.tin k hk
   ·rw[if_pos rfl]
  ·have hx:(Bg _ m.tr).get _=_:=hx;rw[Dq ho]at hx;show ∃k∈l',k.1=n;rw[e1];by_cases en:n=a.ot
   ·exact⟨_,A8.2 (.inr rfl),en.symm⟩
   ·rw[if_neg (λe=>en (cT e))]at hx;obtain⟨k,hk,ek⟩:=hK.tout n x v hx;exact⟨k,A8.2 (.inl hk),ek⟩
  ·replace hk:k∈BT m.vw.ks (a.ot,a.tk,a.nlr,a.rs):=ua▸hk;rcases A8.1 hk with hk|rfl
   ·exact hK.tok k hk
   ·exact e2
  ·replace hk:k∈BT m.vw.ks (a.ot,a.tk,a.nlr,a.rs):=ua▸hk;replace hu:u∈BT m.vw.ks (a.ot,a.tk,a.nlr,a.rs):=ua▸hu;rcases A8.1 hk with hk|rfl
   ·rcases A8.1 hu with hu|rfl
    ·exact hK.cov k hk u hu eu
    ·rcases hv.inv.par k hk with ep|⟨w,hw,ew⟩
     ·exact absurd (eu.trans ep) (PV i)
     ·exact absurd (ew.trans eu.symm) (l w hw)
   ·rcases A8.1 hu with hu|rfl
    ·obtain⟨j,z,rfl⟩:=Qr hu;have h1:=NB hv.inv.sort z;have e3:Bk m.vw.ks j=m.vw.ks[j]:=by unfold Bk;rw[Qz,Qg z];rfl
     rw[e3,eu]at h1;rw[h1.1,e3]at d;exact d
    ·simp only at eu;rw[eu]at l;exact absurd r (l _ ‹_›)
  ·replace hk:k∈BT m.vw.ks (a.ot,a.tk,a.nlr,a.rs):=ua▸hk;rcases A8.1 hk with hk|rfl
   ·exact hK.rt k hk er
   ·exact absurd er g
  ·replace hk:k∈BT m.vw.ks (a.ot,a.tk,a.nlr,a.rs):=ua▸hk;rcases A8.1 hk with hk|rfl
   ·exact hK.nlr k hk
   ·exact v
 |rev nl hf=>
  refine LZ hK ?_;have i:∀n∈BK m.vw.ks a.ot,BJ n=true:=λn v=>by
   have:=P0 (M9 v);obtain⟨u,hu,e⟩:=DA hf;rcases Qh.1 this with rfl|h
   ·rw[←e];exact hv.inv.name u hu
   ·obtain⟨t,ht,rfl⟩:=QE.1 h;exact hv.inv.name t ht
  have ea:(RZ (HM m.vw) nl (Cr m.vw.ks (BK m.vw.ks a.ot)) false (BK m.vw.ks a.ot)).ops=(BK m.vw.ks a.ot).map λn=>((2:Int),Ao 3 n 0,([]:Bs)):=by simp[RZ,Dl,PW,HM]
  rw[ea];have ua:(RZ (HM m.vw) nl (Cr m.vw.ks (BK m.vw.ks a.ot)) false (BK m.vw.ks a.ot)).vw.ks=Cr m.vw.ks (BK m.vw.ks a.ot):=rfl;have bb:∀q,(∀n∈BK m.vw.ks a.ot,q≠[116,47]++n)->(Bg ((BK m.vw.ks a.ot).map λn=>((2:Int),Ao 3 n 0,([]:Bs))) m.tr).get q=m.tr.get q:=λq hq=>L1 ho λx hx=>by
   obtain⟨n,v,rfl⟩:=QE.1 hx;unfold Tj;rw[if_neg (show ¬((2:Int)=3)by decide),k3 (i n v)];exact hq n v
  obtain⟨x,x1,x2⟩:=hK.ring;refine⟨⟨x,(bb _ λn _=>(I3 n).symm).trans x1,x2⟩,(bb _ λn _=>(Fh n).symm).trans hK.mts,λk hk=>?_,λn x v hx=>?_,λk hk=>hK.tok k (DU.1 hk).1,λk hk u hu=>hK.cov k (DU.1 hk).1 u (DU.1 hu).1,λk hk=>hK.rt k (DU.1 hk).1,λk hk=>hK.nlr k (DU.1 hk).1⟩
  ·obtain⟨h1,y⟩:=DU.1 hk;exact(bb _ λn v e=>y (by rw[cT e];exact v)).trans (hK.tin k h1)
  ·by_cases hg:n∈BK m.vw.ks a.ot
   ·have hx:(Bg _ m.tr).get _=_:=hx;rw[←k3 v]at hx;rw[Hr _ ho,eF (f:=λn=>Ao 3 n 0) _ _ (.inl hg)]at hx;cases hx
   ·obtain⟨k,hk,ek⟩:=hK.tout n x v ((bb _ λn' ja e=>hg (by rw[cT e];exact ja)).symm.trans hx);exact⟨k,DU.2 ⟨hk,by rw[ek];exact hg⟩,ek⟩
def aIL{a:Ak}(h:a.nlr=decide (a.rs=[]))(c:Int)(s:Bs):(C7 a c s).2=0->(C7 a c s).1.nlr=decide ((C7 a c s).1.rs=[]):=by
 have q:∀(b:Ak)(e:Int),b.nlr=decide (b.rs=[])->(λx:Ak×Int=>x.2=0->x.1.nlr=decide (x.1.rs=[])) (b,e):=λb e f _=>f
 refine(?_:(λx:Ak×Int=>x.2=0->x.1.nlr=decide (x.1.rs=[])) (C7 a c s));unfold C7
 repeat' refine aDA (λx:Ak×Int=>x.2=0->x.1.nlr=decide (x.1.rs=[])) ?_ ?_
 all_goals first
  |exact q _ _ h
  |exact λd=>xY (Zd rfl (Zd rfl d))
def dS:∀(ls:Bs)(o:List Bs){a:Ak},a.nlr=decide (a.rs=[])->(EC a ls o).1.nlr=decide ((EC a ls o).1.rs=[])
 |[],_,a,h=>h
 |_::_,[],_,_=>rfl
 |c::r,w::o,a,h=>by
  unfold EC;split
  ·rfl
  ·rename_i d;exact dS r o (aIL h _ _ (Decidable.not_not.1 d))
def aSr(s:Bs):(D7 s).1.nlr=decide ((D7 s).1.rs=[]):=by
 unfold D7;split
 ·rfl
 split
 ·rfl
 split
 ·rfl
 ·exact dS _ _ rfl
def aRL{m:Md}(o:MZ m)(z:H8 m)(s:TE m){a:Ak}(d:IV a)(w:a.nlr=decide (a.rs=[])):∃dec,Ip m.vw a dec∧H8 (Ck m (Fq dec m)).1∧TE (Ck m (Fq dec m)).1:=by
 obtain⟨dec,X,⟨b,u⟩,j⟩:=aJQ o z d;refine⟨dec,X,j,?_⟩;have v:=o.tr.ord;obtain⟨k,g,e,p⟩:=aCp o X;rw[e];by_cases i:FJ m.vw a≠0
 ·rw[b i];exact OB s v (B6 rfl rfl)
 rcases u (Decidable.not_not.1 i)with ⟨q,n⟩|⟨t,rfl⟩|⟨_,_,⟨_,rfl⟩|⟨_,rfl⟩⟩
 ·exact aRK s o w (n k)
 ·exact OB s v (xO ..)
 ·exact OB s v (xP ..)
 ·exact OB s v (dA ..)
def aIo{m:Md}(n:MZ m)(hF:H8 m)(p:TE m)(i:m.room≠0)(s:Bs)(hl:s.length<=1000000):∃m' y,aPl m s m' y∧H8 m'∧TE m':=by
 obtain⟨d,b1,o⟩:=uV s;by_cases c:(D7 s).2=0
 ·obtain⟨dec,X,j,r⟩:=aRL n hF p d (aSr s);have hp:D7 s=((D7 s).1,0):=Zd rfl c;have e:=Rt i hl hp n X;obtain⟨w,k,g,q⟩:=Ow n X;have x:LH m.vw (D7 s).1 (Fq dec m):=by rw[q];exact X.rep k g (by rw[←q];exact w)
  obtain⟨u,f,a,⟨y,v,z,t,b⟩,h4⟩:=P_ n x;rw[t]at e;exact⟨_,y,⟨e,v,z,u,f,a,b,λh=>absurd c h,h4⟩,j,r⟩
 ·exact⟨m,.fail (D7 s).2,⟨wG i hl rfl ⟨O,o⟩,if_pos ⟨O,o⟩,trivial,n,rfl,rfl,λ_=>rfl,λ_=>⟨rfl,rfl⟩,λ_=>rfl⟩,hF,p⟩
def iA:∀(l:List Bs){m:Md},MZ m->H8 m->TE m->m.room≠0->(∀s∈l,s.length<=500)->∃z,kO m l z∧MZ z∧H8 z∧TE z∧z.room=m.room∧z.vw.key=m.vw.key
 |[],m,hm,hF,hK,_,_=>⟨m,rfl,hm,hF,hK,rfl,rfl⟩
 |s::l,m,hm,hF,hK,hr,hl=>by
  obtain⟨n,y,T,d,c⟩:=aIo hm hF hK hr s (Qj (hl s Qe) V);obtain⟨z,u,f,b,a,o,j⟩:=iA l T.md d c (by rw[T.room];exact hr) λx p=>hl x (Qi _ p)
  exact⟨z,⟨n,y,T,u⟩,f,b,a,o.trans T.room,j.trans T.key⟩
def aQJ(r:Int):TE (Nr Nw (300+r)):=by
 have a:∀q x,firstE.get q=some x->(q,x)∈firstE.lst:=λq x h=>by
  rw[Tr.get_lst q _ OM]at h;exact Tr.getL_some h
 have z:firstE.get Io=some ringV:=Xf
 have s:(ringV.length:Int)=Gl 1:=Xf
 have i:firstE.get Ik=some (BL []):=Xf
 have g4:firstE.get ([116,47]++Bi.1)=some (cN Bi):=Xf
 have g5:Fg Bi.1 Bi.2.1 Bi.2.2.2=0:=Xf
 refine⟨⟨ringV,z,s⟩,i,λk g=>?_,λn x w p=>⟨Bi,Qf.2 rfl,?_⟩,λk g=>?_,λk g u m e=>?_,λk g _=>Qf.1 g,λk g=>?_⟩
 ·rw[Qf.1 g];exact g4
 ·have h1:=a _ _ p;have f:∀y∈firstE.lst,y.1=Io∨y.1=Ik∨y.1=[116,47]++Ie:=by decide+kernel
  rcases f _ h1 with h|h|h
  ·exact absurd h (I3 _)
  ·exact absurd h (Fh _)
  ·exact(cT h).symm
 ·rw[Qf.1 g];exact g5
 ·rw[Qf.1 g,Qf.1 m]at e;cases e
 ·rw[Qf.1 g];decide
def tkO(ks:List Tk)(x:Bs×Bs):Option Tk:=if yO x=3 then ks.find? (λk=>decide (k.1=(Ax x.1).2.1))else none
def rA(ks:List Tk)(l:List (Bs×Bs)):List Tk:=l.filterMap (tkO ks)
def aBG(ks:List Tk)(l:List (Bs×Bs))(x:Bs×Bs):rA ks (l++[x])=rA ks l++(tkO ks x).toList:=by
 unfold rA;rw[List.filterMap_append];congr 1
structure aHJ (t:Tr) (ks:List Tk):Prop where
 trs:TrS t
 key:∀x∈t.lst,Bx (Ax x.1).1 (Ax x.1).2.1 (Ax x.1).2.2=0
 tk:∀x∈t.lst,yO x=3->∃k∈ks,tkO ks x=some k∧x.2=cN k∧k.1=(Ax x.1).2.1
 par:∀k∈ks,U5 [.str k.1,.str (cN k)]=some (.tup [IW k,.int .i64 0])
 all:rA ks t.lst=ks
 len:t.lst.length<=100000
 tkb:kT ks
 ld:GS ks.length [] ks=some ks
def qY{n p:Bs}{rs:List Rl}(h:Fg n p rs=0):BJ n=true∧Cg rs=0∧p.length<=8:=by
 have w:=GB h;unfold Fg at h;rw[if_neg (by rw[w];decide)]at h;split at h
 ·rename_i c;exact absurd h c
 ·rename_i c;refine⟨w,Decidable.not_not.1 c,?_⟩;split at h
  ·rename_i c2;rw[c2.1];exact Q3 _
  ·split at h
   ·rename_i c2;exact GP c2.1
   ·cases h
def aIC{rs:List Rl}(h:Cg rs=0):rs.length<=4∧∀r∈rs,(44:UInt8)∉r.1∧(58:UInt8)∉r.1∧r.2<=63∧r.1.length<=64:=by
 unfold Cg at h;split at h
 ·cases h
 rename_i j;refine⟨O,λr q=>?_⟩;obtain⟨i,hi,rfl⟩:=Qr q;have u:=Ol _ _ h i (Q3 _) O hi;have e:CK rs i=rs[i]:=by simp[CK,Qg hi]
 rw[e]at u;unfold GE at u;split at u
 ·rename_i c;exact absurd u c.2
 rename_i c;split at u
 ·cases u
 rename_i c2;by_cases d:rs[i].1=[]
 ·rw[d];exact⟨U,U,O,U⟩
 ·have q:Ay rs[i].1=0:=Decidable.not_not.1 λh=>c ⟨d,h⟩
  have a:=RX q;refine⟨λn=>?_,λn=>?_,O,Cp q⟩
  ·have:=(a _ n).1;exact absurd this V
  ·exact(a _ n).2 rfl
def aQv{z:Md}(o:MZ z)(s:TE z){k:Tk}(g:k∈z.vw.ks):U5 [.str k.1,.str (cN k)]=some (.tup [IW k,.int .i64 0]):=by
 have v:=s.tok k g;have w:=s.nlr k g;have y:=(o.vw.ok.kp k g).2;obtain⟨n,p,nl,rs⟩:=k;simp only at v w y;obtain⟨q,f,e⟩:=qY v;obtain⟨c,a⟩:=aIC f;have j:FK (B7 (A6 rs))=(nl,rs,0):=by
  rw[w];by_cases d:rs=[]
  ·subst d;rfl
  ·rw[decide_eq_false d];exact xZ d (λr i=>⟨(a r i).1,(a r i).2.1,(y.2.2 r i).1,(a r i).2.2.1⟩) f
 exact aGD n p _ nl rs (Qj (GP q) V) O (Qj (T9 f) V) j v O y.2.1
def aRJ{z:Md}(o:MZ z)(s:TE z):TkI z.vw.ks:=⟨o.vw.inv,s.tok,s.cov,s.rt⟩
def aYs(a b:Bs):H_ ([116,47]++a) ([116,47]++b)=H_ a b:=by
 show H_ (116::47::a) (116::47::b)=_;rw[Tr.lt_cons,Tr.lt_cons];simp
def We{z:Md}(f:MZ z)(y:H8 z){x:Bs×Bs}(p:x∈z.tr.lst):Bx (Ax x.1).1 (Ax x.1).2.1 (Ax x.1).2.2=0∧z.tr.get x.1=some x.2∧(yO x=3->BJ (Ax x.1).2.1=true∧x.1=[116,47]++(Ax x.1).2.1):=by
 have v:=f.tr.ord;have a:z.tr.get x.1=some x.2:=by rw[Tr.get_lst _ _ v];exact Tr.getL_mem v p
 have g:=y.key x.1 x.2 a;refine⟨g,a,λo=>?_⟩;have e:=Uy g;unfold yO at o;rw[o]at g e;have w:BJ (Ax x.1).2.1=true∧(Ax x.1).2.2=0:=by
  unfold Bx at g;rw[if_neg V,if_neg V,if_pos rfl]at g;split at g
  ·rename_i c;exact⟨c.2,c.1⟩
  ·cases g
 rw[w.2,k3 w.1]at e;exact⟨w.1,e.symm⟩
def aR3{z:Md}(hM:MZ z)(hF:H8 z)(s:TE z):aHJ z.tr z.vw.ks:=by
 have v:=hM.tr.ord;have hT:=aRJ hM s;have c:∀x∈z.tr.lst,yO x=3->∃k∈z.vw.ks,tkO z.vw.ks x=some k∧x.2=cN k∧k.1=(Ax x.1).2.1:=λx p o=>by
  obtain⟨_,hg,h⟩:=We hM hF p;obtain⟨w,e⟩:=h o;rw[e]at hg;obtain⟨k0,i,e0⟩:=s.tout _ _ w hg;have n:(z.vw.ks.find? λk=>decide (k.1=(Ax x.1).2.1)).isSome=true:=by
   rw[List.find?_isSome];exact⟨k0,i,by simpa using e0⟩
  obtain⟨k,g⟩:=Option.isSome_iff_exists.1 n;have hm:=QN g;have j:k.1=(Ax x.1).2.1:=by simpa using Q5 g
  refine⟨k,hm,by unfold tkO;rw[if_pos o];exact g,?_,j⟩;have:=s.tin k hm;rw[j,hg]at this;exact Qq this
 have qa:∀x∈z.tr.lst,∀k,tkO z.vw.ks x=some k->k∈z.vw.ks∧yO x=3∧x.1=[116,47]++k.1:=λx p k h=>by
  unfold tkO at h;split at h
  ·rename_i o;have j:k.1=(Ax x.1).2.1:=by simpa using Q5 h
   exact⟨QN h,o,by rw[j];exact((We hM hF p).2.2 o).2⟩
  ·cases h
 refine⟨hM.tr.trS,λx p=>(We hM hF p).1,c,λk g=>aQv hM s g,?_,Qj hM.tr.len V,⟨by have:=hM.vw.kl;omega,λk g=>?_,s.rt⟩,?_⟩
 ·refine aCh (R:=λa b:Tk=>Op.bytesLess a.1 b.1=true) (λx p=>by rw[FF]at p;cases p) (λx y q f=>by
   have:=Lx q f;rw[FF]at this;cases this) ?_ (E7.1 hM.vw.inv.sort) λk=>⟨λg=>?_,λg=>?_⟩
  ·unfold rA;rw[List.pairwise_filterMap];refine List.Pairwise.imp_of_mem (λ{a b} r hb h k g u hu=>?_) v;have q:=(qa a r k g).2.2;have f:=(qa b hb u hu).2.2;rw[q,f,aYs]at h;exact h
  ·obtain⟨x,p,h⟩:=QW.1 g;exact(qa x p k h).1
  ·have hg:=s.tin k g;have w:=hM.vw.inv.name k g;rw[Tr.get_lst _ _ v]at hg;have p:=Tr.getL_some hg;have d:Ax ([116,47]++k.1)=(3,k.1,0):=by rw[←k3 w];exact BH (xT w)
   obtain⟨u,hu,q,_,o⟩:=c _ p (by unfold yO;rw[d]);rw[d]at o;rw[hT.eq hu g o]at q;exact QW.2 ⟨_,p,q⟩
 ·obtain⟨q,f⟩:=hM.vw.ok.kp k g;obtain⟨t1,_,t3⟩:=qY (s.tok k g);exact⟨f,q.2,Qj (GP t1) V,Qj t3 V⟩
 ·refine sM hT _ [] _ ⟨E7.2 List.Pairwise.nil,λx p=>XA,.inl rfl,λt m=>⟨m,U⟩⟩ ?_ (λx p=> .inr p) (Qm _);exact List.Pairwise.imp (λh e=>h (by rw[e])) (TW hM.vw.inv.sort)
end Go.Vd
namespace Go.Vd
open Go.Proofs Go.RowKit Go.Shelf
def aMw(w:World)(g:Gh):Gh:={G:=λb=>min (g.G b) (allG w b),G0:=λb=>min (g.G0 b) (allG w b),dl:=g.dl,tb:=g.tb}
def Rep.norm{w:World}{g:Gh}{d:D}{v:Value}(h:Rep w g d v):Rep w (aMw w g) d v:=by
 induction h with
 |junk v=>exact .junk v
 |bool b=>exact .bool b
 |int k n=>exact .int k n
 |str s=>exact .str s
 |nils t=>exact .nils t
 |slice t xs a k c sz vv u y r j p m z q x ih=>
  refine .slice t xs a k c sz vv u y r j p ih (λh=>?_) q x;have e:=WD (j (k*sz-1) O);rw[Cf,Ds]at e;have:=z h;show a.off+k*sz<=min (g.G a.block) (allG w a.block);omega
 |ptr i o b u=>exact .ptr i o b u
 |row i k c b u y=>exact .row i k c b u y
 |eptr ds a vv u y r j p ih=>
  refine .eptr ds a vv u y ih (λh=>?_) p;have e:=WD (u (ds.length-1) O);rw[Cf,Ds]at e;have:=j h;show a.off+ds.length<=min (g.G a.block) (allG w a.block);omega
 |nilp=>exact .nilp
 |agg ds vs u y r ih=>exact .agg ds vs u y ih
 |tup ds vs u y ih=>exact .tup ds vs u ih
 |iface t d v u y ih=>exact .iface t d v u ih
 |nili=>exact .nili
 |fn f ds vs u y ih=>exact .fn f ds vs u ih
 |nilf=>exact .nilf
 |nilm=>exact .nilm
 |itp i b h=>exact .itp i b h
def HQ.norm{P:Program}{B:Nat}{w0 w:World}{m:HF}{g:Gh}(h:HQ P B w0 m w g):HQ P B w0 m w (aMw w g):=by
 refine⟨h.below,h.size,λb f=>?_,λb f=>?_,λi b hi=>?_,h.inj,h.kind,λi e hi=>?_,h.tinj,?_⟩
 ·show min (g.G b) (allG w b)=0;rw[h.gz b f];omega
 ·show min (g.G b) (allG w b)=min (g.G0 b) (allG w b);rw[h.old b f]
 ·obtain⟨u,y,vs,T,r,a⟩:=h.obj i b hi;refine⟨u,?_,vs,T,r,λo d j=>?_⟩
  ·show min (g.G b) (allG w b)=0;rw[y];omega
  ·obtain⟨v,v1,v2,v3⟩:=a o d j;exact⟨v,v1,v2,v3.norm⟩
 ·obtain⟨b,n,c,sz,cur,q,t2,k,t4,t5,t6,t7,t8,t9,t⟩:=h.tok i e hi;refine⟨b,n,c,sz,cur,q,t2,k,t4,t5,t6,t7,t8,?_,t⟩;show min (g.G b) (allG w b)=n*sz;have:allG w b=c*sz:=by unfold allG;rw[t5];exact t8
  rw[this,t9];have:=QR sz t6;omega
 ·exact h.itr.to (λ_ _ _ h=>h) λi b s p _ _ _ _ x z=>⟨rfl,rfl,by show min (g.G b) _=0;rw[x];omega,z⟩
def Rep.world{w w':World}{g:Gh}{d:D}{v:Value}(h:Rep w g d v)(hc:∀p:Addr,p.off<g.G p.block->w'.cell? p=w.cell? p):Rep w' g d v:=by
 induction h with
 |junk v=>exact .junk v
 |bool b=>exact .bool b
 |int k n=>exact .int k n
 |str s=>exact .str s
 |nils t=>exact .nils t
 |slice t xs a k c sz vv u y r m e h6 h7 q x ih=>
  refine .slice t xs a k c sz vv u y r (λj z=>?_) e ih h7 q x;rw[hc (a.add j) Yr];exact m j z
 |ptr i o b u=>exact .ptr i o b u
 |row i k c b u y=>exact .row i k c b u y
 |eptr ds a vv u y r m e ih=>
  refine .eptr ds a vv (λj z=>?_) y ih m e;rw[hc (a.add j) Yq];exact u j z
 |nilp=>exact .nilp
 |agg ds vs u y r ih=>exact .agg ds vs u y ih
 |tup ds vs u y ih=>exact .tup ds vs u ih
 |iface t d v u y ih=>exact .iface t d v u ih
 |nili=>exact .nili
 |fn f ds vs u y ih=>exact .fn f ds vs u ih
 |nilf=>exact .nilf
 |nilm=>exact .nilm
 |itp i b h=>exact .itp i b h
def HQ.grown{P:Program}{B:Nat}{w0 W W':World}{m:HF}{g:Gh}{row:Option Nat}(h:HQ P B w0 m W g)(hn:∀b,g.G b<=allG W b)(hg:W.grownBy W' row)(q:∀r,row=some r->B<=r∧∃o:Obj,W.heap[r]?=some o∧o.isCells=false)(w:∀i s p,m i 1≠some (.it s p)):
  HQ P B w0 m W' g∧(∀d v,Rep W g d v->Rep W' g d v)∧∀b,g.G b<=allG W' b:=by
 have z:∀(k:Nat)(vs:Array Value)(T:TypeId)(fr:Nat×Nat),W.heap[k]?=some (Obj.cells vs T fr)->W'.heap[k]?=some (Obj.cells vs T fr):=λk vs T fr hk=>by
  have ea:k<W.heap.size:=(Qc.1 hk).1;rw[hg.block k ea (λe=>by
   obtain⟨_,o,ho,hc⟩:=q k e.symm;rw[hk]at ho;cases ho;cases hc)]
  exact hk
 have a:∀b,0<g.G b->W'.heap[b]?=W.heap[b]?:=λb f=>by
  have u:=hn b;unfold allG at u;cases hw:W.heap[b]? with
  |none=>rw[hw]at u;simp only at u;omega
  |some o=>
   rw[hw]at u;cases o with
   |cells vs T fr=>exact z b vs T fr hw
   |_=>simp only at u;omega
 have da:∀d v,Rep W g d v->Rep W' g d v:=λd v t=>t.world λp hp=>by
  unfold World.cell?;rw[a p.block O]
 have ka:=hg.size;refine⟨⟨h.below.grown hg h.size (λk e=>(q k e).1),Qj h.size ka,λb f=>h.gz b (Qj ka f),h.old,λi b hi=>?_,h.inj,h.kind,λi e hi=>?_,h.tinj,?_⟩,da,λb=>?_⟩
 ·obtain⟨u,y,vs,T,h3,h4⟩:=h.obj i b hi;exact⟨u,y,vs,T,z _ _ _ _ h3,λo d j=>(h4 o d j).elim λv hv=>⟨v,hv.1,hv.2.1,da _ _ hv.2.2⟩⟩
 ·obtain⟨b,n,c,sz,cur,t1,t2,t3,t4,t5,t6,t7,t8,t9,xa⟩:=h.tok i e hi;exact⟨b,n,c,sz,cur,t1,t2,t3,t4,z _ _ _ _ t5,t6,t7,t8,t9,xa⟩
 ·exact⟨λi s p hi=>absurd hi (w i s p),λi i' s p s' p' b x x' hi=>absurd hi (w i s p)⟩
 ·rcases QM (g.G b)with h0|h0
  ·omega
  ·have:=hn b;unfold allG at this ⊢;rw[a b h0];exact this
def eI(G:Nat->Nat)(W:World)(b k:Nat):Nat:=if k<b then G k else allG W k
def bxG(G:Nat->Nat)(W:World)(i:Id)(b:Nat):Gh:={G:=λk=>if k=b then 0 else eI G W b k,G0:=λk=>if k=b then 0 else eI G W b k,dl:=λj=>if j=i then some b else none,tb:=λ_=>none}
def ET(G:Nat->Nat)(W:World)(i r:Id)(b bs n c sz:Nat):Gh:={G:=λk=>if k=b then 0 else if k=bs then n*sz else eI G W b k,G0:=λk=>if k=b then 0 else if k=bs then n*sz else eI G W b k,dl:=λj=>if j=i then some b else none,tb:=λj=>if j=r then some (bs,n,c,sz)else none}
def aRN{P:Program}{G:Nat->Nat}{W:World}{b:Nat}{vs:Array Value}{T:TypeId}{i:Id}{d:D}{v:Value}(hh:W.heap[b]?=some (.cells vs T (0,0)))(hv:vs[0]?=some v)(u:v.oneCell'=true)(q:Rep W (bxG G W i b) d v)(g:∀e,d≠ .tok e):
  HQ P b W (WG i d) W (bxG G W i b):=by
 have ea:b<W.heap.size:=(Qc.1 hh).1;refine⟨Below.refl _ _,O,λk t=>?_,λ_ _=>rfl,λa z h=>?_,λf i2 z y r=>?_,λa o d' h w=>?_,λa e h=>?_,λf i2 e c z x x' y r j h5=>?_,λa s p h=>?_,λf i2 s p m p' z x x' y r j h5=>?_⟩
 ·show(if k=b then 0 else if k<b then G k else allG W k)=0;rw[if_neg O,if_neg O];exact N0 W k t
 ·simp only[bxG]at h;split at h
  ·rename_i e;subst e;simp only[Qu]at h;subst h;refine⟨Qm _,if_pos rfl,vs,T,hh,λo d' n=>?_⟩;obtain⟨_,rfl,rfl⟩:=Hv n;exact⟨v,hv,u,q⟩
  ·cases h
 ·simp only[bxG]at y r;split at y
  ·split at r
   ·simp_all
   ·cases r
  ·cases y
 ·obtain⟨rfl,_,_⟩:=Hv h;simp[bxG]at w
 ·exact absurd (Hv h).2.2.symm (g _)
 ·simp[bxG]at j
 ·have:=(Hv h).2.1;omega
 ·simp[bxG]at j
def Sx(i r:Id)(d:D)(e:Nat):HF:=(WG r (.tok (e+1))).put i 0 [d]
def EI{i r j:Id}{o:Nat}{d n:D}{e:Nat}(h:Sx i r d e j o=some n):(j=i∧o=0∧n=d)∨(j=r∧o=0∧n= .tok (e+1)):=by
 unfold Sx at h;by_cases z:j=i
 ·subst z;unfold HF.put at h;by_cases v:o=0
  ·subst v;left;simp at h;exact⟨rfl,rfl,h.symm⟩
  ·right;simp[v]at h;have:WG r (.tok (e+1)) j o=some n:=by
    rcases Zc o 1 with h1|h1
    ·omega
    ·simpa[show ¬o<1 by omega]using h
   exact Hv this
 ·right;rw[aA z]at h;exact Hv h
def aDH{P:Program}{G:Nat->Nat}{W:World}{b bs n c sz e:Nat}{vs cur:Array Value}{T:TypeId}{i r:Id}{d:D}{v:Value}(ab:i≠r)(hh:W.heap[b]?=some (.cells vs T (0,0)))(hv:vs[0]?=some v)(u:v.oneCell'=true)(q:Rep W (ET G W i r b bs n c sz) d v)(g:∀e,d≠ .tok e)
  (ta:W.heap[bs]?=some (.cells cur e (0,0))) (f:b<bs) (wa:n<=c) (eb:c<=maxLen) (ra:cur.size=c*sz) (ka:0<sz) (hi:∃t z,P.info? e=some t∧t.size=sz∧t.zero=some z∧z.cells.size=sz):
  HQ P b W (Sx i r d e) W (ET G W i r b bs n c sz):=by
 have ea:b<W.heap.size:=(Qc.1 hh).1;have a:bs<W.heap.size:=(Qc.1 ta).1;refine⟨Below.refl _ _,O,λk xa=>?_,λ_ _=>rfl,λi' b' h=>?_,λi1 i2 b' y h3=>?_,λi' o d' h w=>?_,λi' e' h=>?_,λi1 i2 m e2 b' x x' y h3 h4 h5=>?_,λi' s p h=>?_,λi1 i2 s p s' p' b' x x' y h3 h4 h5=>?_⟩
 ·show(if k=b then 0 else if k=bs then n*sz else if k<b then G k else allG W k)=0;rw[if_neg O,if_neg O,if_neg O];exact N0 W k xa
 ·simp only[ET]at h;split at h
  ·rename_i e0;subst e0;simp only[Qu]at h;subst h;refine⟨Qm _,if_pos rfl,vs,T,hh,λo d' hm=>?_⟩;rcases EI hm with ⟨_,rfl,rfl⟩|⟨e0,_,_⟩
   ·exact⟨v,hv,u,q⟩
   ·exact absurd e0 ab
  ·cases h
 ·simp only[ET]at y h3;split at y
  ·split at h3
   ·simp_all
   ·cases h3
  ·cases y
 ·rcases EI h with ⟨rfl,_,_⟩|⟨_,_,rfl⟩
  ·simp[ET]at w
  ·rfl
 ·rcases EI h with ⟨_,_,e0⟩|⟨rfl,_,e0⟩
  ·exact absurd e0.symm (g _)
  ·cases e0;refine⟨bs,n,c,sz,cur,if_pos rfl,O,ka,hi,ta,wa,eb,ra,?_,λj=>?_⟩
   ·show(if bs=b then 0 else if bs=bs then n*sz else eI G W b bs)=n*sz;rw[if_neg O,if_pos rfl]
   ·simp only[ET];split
    ·intro e0;cases e0;omega
    ·intro e0;cases e0
 ·rcases EI y with ⟨_,_,e0⟩|⟨rfl,_,_⟩
  ·exact absurd e0.symm (g _)
  ·rcases EI h3 with ⟨_,_,e0⟩|⟨rfl,_,_⟩
   ·exact absurd e0.symm (g _)
   ·rfl
 ·rcases EI h with ⟨_,e0,_⟩|⟨_,e0,_⟩<;>cases e0
 ·rcases EI y with ⟨_,e0,_⟩|⟨_,e0,_⟩<;>cases e0
def xV{P:Program}{S:HD}(s:HD.ok P S){N:Nat}{r:Code}{b:DC}(j:Bh P N r=some b)(f:bT r=true){l n B:Nat}{w0 W:World}{g:Gh}{v:St}{a:Act}(p:Holds P B w0 N [] v a W g){Q:Ex->St->Prop}(x:b.wp S [] Q v):
  r.wpIn (Fence.wide.inRound l) n P (λm k w=>∃e q t,m=e.toExit∧Q e q∧Holds P B w0 N [] q k w t∧H5 W g w t) a W:=by
 obtain⟨e,q,z,d⟩:=x;refine wpIn_mono (aWP s r b j f _ e q z a W _ p) ?_;rintro m k w ⟨rfl,t,c,i,_⟩;exact⟨e,q,t,rfl,d,c,i⟩
def fV{G:Nat->Nat}{W:World}{i r b bs n c sz e:Nat}{d:D}{s:Nat}(hi:i<s)(hr:r<s){k:Nat}{a:Id}(g:s<=k)(j:[k]<:+a):B3 (Sx [i] [r] d e) (ET G W [i] [r] b bs n c sz) a:=by
 have p:∀q,q<s->a≠[q]:=λq z=>by
  rintro rfl;obtain⟨t,v⟩:=j;have hl:=congrArg Q2 v;simp only[Qn,Qd,Qp]at hl;have:t=[]:=QA.1 O;subst this;simp at v;omega
 refine⟨λo=>?_,by simp[ET,p i hi],by simp[ET,p r hr]⟩;cases hm:Sx [i] [r] d e a o with
 |none=>rfl
 |some x=>
  rcases EI hm with ⟨h,_⟩|⟨h,_⟩
  ·exact absurd h (p i hi)
  ·exact absurd h (p r hr)
def Rep.moreG{w:World}{g e:Gh}{d:D}{v:Value}(h:Rep w g d v)(q:∀b,g.G b<=e.G b)(z:∀i b,g.dl i=some b->e.dl i=some b)(m:∀i x,g.tb i=some x->e.tb i=some x):Rep w e d v:=by
 induction h with
 |junk v=>exact .junk v
 |bool b=>exact .bool b
 |int k n=>exact .int k n
 |str s=>exact .str s
 |nils t=>exact .nils t
 |slice t xs a k c sz vv u y r j p h6 h7 h8 h9 ih=>exact .slice t xs a k c sz vv u y r j p ih (λh=>Qj (h7 h) (q _)) (λh=>⟨(h8 h).1,(h8 h).2.1,m _ _ (h8 h).2.2⟩) h9
 |ptr i o b u=>exact .ptr i o b (z _ _ u)
 |row i k c b u y=>exact .row i k c b u (z _ _ y)
 |eptr ds a vv u y r j p ih=>exact .eptr ds a vv u y ih (λh=>Qj (j h) (q _)) p
 |nilp=>exact .nilp
 |agg ds vs u y r ih=>exact .agg ds vs u y ih
 |tup ds vs u y ih=>exact .tup ds vs u ih
 |iface t d v u y ih=>exact .iface t d v u ih
 |nili=>exact .nili
 |fn f ds vs u y ih=>exact .fn f ds vs u ih
 |nilf=>exact .nilf
 |nilm=>exact .nilm
 |itp i b h=>exact .itp i b (m _ _ h)
def O5(G:Nat->Nat)(b lo e sz:Nat)(i r:Id)(W:World)(nl:Bool)(xs:List D):Prop:=
 ∃(vs:Array Value)(T:TypeId)(v:Value),W.heap[b]?=some (.cells vs T (0,0))∧vs[0]?=some v∧
  ((nl=true∧xs=[]∧v= .slice none 0 0)∨(nl=false∧∃(bs n c:Nat)(cur:Array Value),lo<=bs∧n<=c∧c<=maxLen∧W.heap[bs]?=some (.cells cur e (0,0))∧cur.size=c*sz∧v= .slice (some ⟨bs,0,none⟩) n c∧Rep W (ET G W i r b bs n c sz) (.slice false r xs) v))
def nT{α:Type}{G:Nat->Nat}{b lo:Nat}{e sz:Nat}{i r:Id}(nl:α->Bool)(xs:α->List D):Own (λ(s:α) W=>O5 G b lo e sz i r W (nl s) (xs s)):=λs W w row j a q=>by
 obtain⟨vs,T,v,u,y,h3⟩:=j;have z:∀(k:Nat)(vs:Array Value)(T:TypeId)(fr:Nat×Nat),W.heap[k]?=some (Obj.cells vs T fr)->w.heap[k]?=some (Obj.cells vs T fr):=λk vs T fr g=>by
  have x:k<W.heap.size:=(Qc.1 g).1;rw[a.block k x (λe=>by
   obtain⟨o,ho,d⟩:=q k e.symm;rw[g]at ho;cases ho;cases d)]
  exact g
 have f:∀k,0<allG W k->w.heap[k]?=W.heap[k]?:=λk g=>by
  unfold allG at g;cases hw:W.heap[k]? with
  |none=>rw[hw]at g;simp only at g;omega
  |some o=>
   rw[hw]at g;cases o with
   |cells vs T fr=>exact z k vs T fr hw
   |_=>simp only at g;omega
 refine⟨vs,T,v,z _ _ _ _ u,y,?_⟩;rcases h3 with h3|⟨h3,bs,n,c,cur,g1,m,g4,g5,g6,g7,g8⟩
 ·exact .inl h3
 ·refine .inr ⟨h3,bs,n,c,cur,g1,m,g4,z _ _ _ _ g5,g6,g7,?_⟩;have sa:n*sz<=c*sz:=QR sz m;have ta:allG W bs=c*sz:=by unfold allG;rw[g5];exact g6
  refine(g8.norm.world (w':=w) λp hp=>?_).moreG (λk=>?_) (λ_ _ h=>h) (λ_ _ h=>h)
  ·have t:p.off<min ((ET G W i r b bs n c sz).G p.block) (allG W p.block):=hp;unfold World.cell?;rw[f p.block O]
  ·show min (if k=b then 0 else if k=bs then n*sz else if k<b then G k else allG W k) (allG W k)<=if k=b then 0 else if k=bs then n*sz else if k<b then G k else allG w k
   split
   ·omega
   ·split
    ·omega
    ·split
     ·omega
     ·rcases QM (allG W k)with h0|h0
      ·omega
      ·have:allG w k=allG W k:=by unfold allG;rw[f k h0]
       omega
def Ll(nl:Bool)(i r:Nat)(xs:List D)(e:Nat):HF:=if nl=true then WG [i] (.slice true [] [])else Sx [i] [r] (.slice false [r] xs) e
def aAC{G:Nat->Nat}{W:World}{i b:Nat}{d:D}{s:Nat}(hi:i<s){k:Nat}{a:Id}(g:s<=k)(j:[k]<:+a):B3 (WG [i] d) (bxG G W [i] b) a:=by
 have p:a≠[i]:=by
  rintro rfl;obtain⟨t,v⟩:=j;have hl:=congrArg Q2 v;simp only[Qn,Qd,Qp]at hl;have:t=[]:=QA.1 O;subst this;simp at v;omega
 refine⟨λo=>?_,by simp[bxG,p],rfl⟩;cases hm:WG [i] d a o with
 |none=>rfl
 |some x=>exact absurd (Hv hm).1 p
def lR{P:Program}{S:HD}(hS:HD.ok P S){N:Nat}{ca:Code}{dc:DC}(ba:Bh P N ca=some dc)(ja:bT ca=true){l n lo:Nat}{G:Nat->Nat}{W:World}{b e sz i r c:Nat}(ab:i≠r)(db:i<c)(jb:r<c)(ka:0<sz)(hi:∃t z,P.info? e=some t∧t.size=sz∧t.zero=some z∧z.cells.size=sz)
  (pb:b<lo) (ha:lo<=W.heap.size) {nl:Bool} {xs:List D} (hG:O5 G b lo e sz [i] [r] W nl xs) {s:Nat->D} {a:Act} (va:∀g:Gh,g.dl [i]=some b->Dn W g s a) (hN:a.tmps.size=N) (lb:a.defers=[])
  {Q:Ex->St->Prop} (za:dc.wp S [] Q ⟨s,Ll nl i r xs e,c⟩):
  ca.wpIn (Fence.wide.inRound l) n P (λe' a' W'=>∃e2 fa,e'=e2.toExit∧Q e2 fa∧KeepsOthers W W'∧Below b W W'∧W.heap.size<=W'.heap.size∧(∀k,k≠b->k<lo->W'.heap[k]?=W.heap[k]?)∧∀nl' t' fb,fa.m [i] 0=some (.slice nl' t' fb)->(nl'=false->t'≠[]∧fa.m t' 0=some (.tok (e+1)))->O5 G b lo e sz [i] [r] W' nl' fb) a W:=by
 obtain⟨vs,T,v,h1,h2,h3⟩:=hG;have ga:([i]:Id)≠[r]:=λe=>ab (QT e).1
 have ia:∃g:Gh,Holds P b W N [] ⟨s,Ll nl i r xs e,c⟩ a W g∧g.dl=(λj=>if j=[i]then some b else none)∧(∀k,k<b->g.G0 k=G k)∧∀j x,g.tb j=some x->lo<=x.1∧∃cur e',W.heap[x.1]?=some (.cells cur e' (0,0)):=by
  rcases h3 with ⟨rfl,rfl,rfl⟩|⟨rfl,bs,n',c',cur,g1,g3,g4,g5,g6,rfl,g8⟩
  ·exact⟨bxG G W [i] b,⟨aRN h1 h2 rfl (.nils []) (λe h=>Xc),va _ (by simp[bxG]),hN,lb,λk i' hk hs=>aAC db hk hs⟩,rfl,λk hk=>by simp only[bxG,eI];rw[if_neg O,if_pos hk],λj x h=>Xc⟩
  ·refine⟨ET G W [i] [r] b bs n' c' sz,⟨aDH ga h1 h2 rfl g8 (λe h=>Xc) g5 O g3 g4 g6 ka hi,va _ (by simp[ET]),hN,lb,λk i' hk hs=>fV db jb hk hs⟩,rfl,λk hk=>by simp only[ET,eI];rw[if_neg O,if_neg O,if_pos hk],λj x h=>?_⟩;simp only[ET]at h;split at h
   ·cases h;exact⟨g1,cur,e,g5⟩
   ·cases h
 obtain⟨g,hx,ta,ya,u⟩:=ia;refine wpIn_mono (xV hS ba ja hx za) ?_;rintro e' a' W' ⟨e2,fa,g',rfl,hq,sa,ma⟩;have oa:∀k,k≠b->k<W.heap.size->(∀j x,g.tb j=some x->x.1≠k)->W'.heap[k]?=W.heap[k]?:=λk q ea ht=>by
  have:=ma.unt k W.heap[k] (Qv ea) (λj e=>by
   rw[ta]at e;simp only at e;split at e
   ·exact q (Qq e).symm
   ·cases e) ht
  rw[this,Qv ea]
 refine⟨e2,fa,rfl,hq,⟨ma.size,λk o hk hc=>?_⟩,sa.inv.below,ma.size,λk q ra=>oa k q O λj x hj e0=>by have:=(u j x hj).1;omega,λnl' t' fb hm wa=>?_⟩
 ·have ea:k<W.heap.size:=(Qc.1 hk).1;rw[oa k (λe=>by rw[e,h1]at hk;cases hk;cases hc) ea (λj x hj e0=>by
   obtain⟨_,cur,e',h⟩:=u j x hj;rw[e0,hk]at h;cases h;cases hc)]
  exact hk
 ·obtain⟨_,kb,eb,T',ib,ua⟩:=sa.inv.obj [i] b (ma.dl [i] b (by rw[ta];simp));obtain⟨v',la,bb,da⟩:=ua 0 _ hm;cases nl' with
  |true=>
   cases da with
   |nils=>exact⟨eb,T',_,ib,la,.inl ⟨rfl,rfl,rfl⟩⟩
  |false=>
   obtain⟨aa,qa⟩:=wa rfl;obtain⟨f,n',c',pa,na,q1,q2,q3,⟨ti,zi,q4,q5,q6⟩,q7,q8,q9,ob,rb,qb⟩:=sa.inv.tok t' e qa;obtain⟨ic,ub,p4,p5,_⟩:=hi;have p:pa=sz:=by
    rw[q4]at p4;cases p4;omega
   subst p;cases da with
   |slice _ _ a2 n2 c2 mb sb e1 w e3 e4 e5 e6 e7 e8 e9=>
    obtain⟨o1,o2,o3⟩:=e8 aa;rw[q1]at o3;obtain⟨gb,off,xa⟩:=a2;simp only at o1 o2 o3;subst o1 o2;simp only[Qu,Qx]at o3;obtain⟨rfl,rfl,rfl,rfl⟩:=o3;have cb:f≠b:=λe0=>qb [i] (by rw[e0];exact ma.dl [i] b (by rw[ta];simp))
    have hb:lo<=f:=by
     rcases ma.tbn t' _ q1 with ⟨j,y,hj,ey⟩|h
     ·have:=(u j y hj).1;simp only at ey;omega
     ·simp only at h;omega
    refine⟨eb,T',_,ib,la,.inr ⟨rfl,f,n',c',na,hb,q8,q9,q7,ob,rfl,?_⟩⟩;refine .slice [r] fb ⟨f,0,none⟩ n' c' pa sb e1 w e3 e4 e5 (λj d hd=>?_) (λh=>?_) (λ_=>⟨rfl,rfl,if_pos rfl⟩) e9
    ·refine Rep.calm_to (e6 j d hd).norm (G9 e9 d (QI hd)) (λ_ _=>rfl) λk=>?_
     show min (g'.G k) (allG W' k)<=if k=b then 0 else if k=f then n'*pa else if k<b then G k else allG W' k
     split
     ·rename_i e0;rw[e0,kb];omega
     ·split
      ·rename_i e0;rw[e0,rb];omega
      ·split
       ·rename_i q;have h5:=sa.inv.old k q;rw[ma.G0,ya k q]at h5;omega
       ·omega
    ·show 0+n'*pa<=if f=b then 0 else if f=f then n'*pa else eI G W' b f
     rw[if_neg cb,if_pos rfl];omega
def aB5{G:Nat->Nat}{S:HD}(hS:HD.ok Qo S){N:Nat}{cb:Operand}{k v k2 v2:Nat}{za ya:Code}{dc:DC}(ba:Bh Qo N ya=some dc)(ja:bT ya=true){T:Array Value}(hT:T.size=N){W:World}{Q:Exit->Act->World->Prop}
  {Bt Bq:Nat} (hg:({tmps:=T,defers:=[]}:Act).eval cb= .func (.func 48) #[] #[.pointer (some ⟨Bt,0,none⟩),.pointer (some ⟨Bq,0,none⟩)]) {t:Tr} {q:Bs} {tv:Value} (hc:t.cnt<=400000)
  (f:W.heap[Bt]?=some (.cells #[tv] 36 (0,0))) (d:W.heap[Bq]?=some (.cells #[encStr q] 9 (0,0))) {b:Nat} (ia:D8 b W t tv) (ua:Bt≠b) (o:Bq≠b)
  {i r bs c e sz:Nat} (ab:i≠r) (db:i<c) (jb:r<c) (ka:0<sz) (hi:∃t z,Tryz.prog.info? e=some t∧t.size=sz∧t.zero=some z∧z.cells.size=sz)
  (nl:List (Bs×Bs)->Bool) (xs:List (Bs×Bs)->List D) (pa:nl []=true) (ib:xs []=[])
  (ha:qK W b (.slice none 0 0)) (ta:T.getD bs undef= .pointer (some ⟨b,0,none⟩))
  (hk:k<N∧v<N∧k2<N∧v2<N) (ga:k2≠v2∧bs≠k∧bs≠v∧bs≠k2∧bs≠v2)
  (a:∀(l:Nat)(x:Bs×Bs)(W:World)(K:Act->World->Prop),K {tmps:=lP T k v k2 v2 x,defers:=[]} W->za.wpIn (Fence.wide.inRound l) 1 Qo (Exit.then K (λ_ _ _=>False)) {tmps:=((#[k,v]:Array Tmp).zip #[encStr x.1,encStr x.2]).foldl (λt (p,v)=>t.setIfInBounds p v) T,defers:=[]} W)
  (la:∀pre x,x∈Bu t q->pre.length<(Bu t q).length->(∀y∈pre,y∈Bu t q)->dc.wp S [] (λe' fa=>e'= .normal∧∃t',fa.m [i] 0=some (.slice (nl (pre++[x])) t' (xs (pre++[x])))∧(nl (pre++[x])=false->t'≠[]∧fa.m t' 0=some (.tok (e+1)))) ⟨Vz (λ_=> .junk) i bs k2 v2 x,Ll (nl pre) i r (xs pre) e,c⟩)
  (ca:∀(D:Nat)(W':World),W.heap.size<=D->O5 G b W.heap.size e sz [i] [r] W' (nl (Bu t q)) (xs (Bu t q))->Below b W W'->W.heap.size<=W'.heap.size->(∀j,j<W.heap.size->j≠b->W'.heap[j]?=W.heap[j]?)->W'.heap[D]?=some (.deferred (some []))->Q .normal {tmps:=T,defers:=[{target:= .collected D,args:=#[]}]} W'):
  (Code.rangeFunc cb #[k,v] za ya).wpIn Fence.wide 3 Qo Q {tmps:=T,defers:=[]} W:=by
 have ra:Bt<W.heap.size:=(Qc.1 f).1;have ma:Bq<W.heap.size:=(Qc.1 d).1;have eb:b<W.heap.size:=by
  obtain⟨vs,T',h1,_⟩:=ha;exact(Qc.1 h1).1
 have w:OwnFrom W.heap.size (λ(_:List (O1 t q)) W'=>∀j,j<W.heap.size->j≠b->W'.heap[j]?=W.heap[j]?):=λs A A' row hs hg hr j hj da=>by
  have hA:A.heap[j]?=W.heap[j]?:=hs j hj da;have ea:j<A.heap.size:=by
   rw[Qv hj]at hA;exact(Qc.1 hA).1
  exact(hg.block j ea (λe=>by have:=(hr j e.symm).1;omega)).trans hA
 refine wpIn_rangeFunc_ownF rfl V (gf:=48) (lb:=#[.pointer (some ⟨Bt,0,none⟩),.pointer (some ⟨Bq,0,none⟩)]) hg trivial (enters_of func48 Z rfl)
  (LK 2 V Bt Bq b t q tv hc W f d ia O) kF.trans (sO O ra ma) (Below.refl _ _) (λ_=>rfl)
  (λ(pre:List (O1 t q)) W'=>O5 G b W.heap.size e sz [i] [r] W' (nl (pre.map (·.1))) (xs (pre.map (·.1)))∧Below b W W'∧W.heap.size<=W'.heap.size∧∀j,j<W.heap.size->j≠b->W'.heap[j]?=W.heap[j]?)
  (λ_ _ _=>False)
  (OwnFrom.and (Own.from (nT _ _) _) (OwnFrom.and (ownFrom_below O O) (OwnFrom.and (Own.from (Nh _) _) w)))
  (λ_ _ _ _ _ hs _ _=>hs)
  ⟨?init,Below.refl _ _,Qm _,λ_ _ _=>rfl⟩
  (λx=>{tmps:=lP T k v k2 v2 x.1,defers:=[]}) ?assign ?body ?done ?stop
 case init=>
  obtain⟨vs,T',h1,h2⟩:=ha;exact⟨vs,T',_,h1,h2,.inl ⟨pa,ib,rfl⟩⟩
 case assign=>
  intro l x W' K hK;exact a l x.1 W' K hK
 case body=>
  rintro l pre ⟨x,hx⟩ W' ⟨hG,hB,fb,qa⟩ ea;have hr:=la (pre.map (·.1)) x hx (by rw[List.length_map];exact ea) (λy hy=>by
   obtain⟨z,_,rfl⟩:=QE.1 hy;exact z.2)
  have va:∀g:Gh,g.dl [i]=some b->Dn W' g (Vz (λ_=> .junk) i bs k2 v2 x) {tmps:=lP T k v k2 v2 x,defers:=[]}:=λg gb j=>by
   show Rep W' g (Vz (λ_=> .junk) i bs k2 v2 x j) ((lP T k v k2 v2 x).getD j undef);unfold Vz lP;by_cases e1:j=v2
   ·subst e1;rw[if_pos rfl,UG Xb];exact .str _
   rw[if_neg e1,NA e1];by_cases e2:j=k2
   ·subst e2;rw[if_pos rfl,UG Xb];exact .str _
   rw[if_neg e2,NA e2];by_cases e3:j=bs
   ·subst e3;rw[if_pos rfl,NA O,NA O,ta];exact .ptr [i] 0 b gb
   rw[if_neg e3];exact .junk _
  refine wpIn_mono (lR hS ba ja (l:=l) (n:=3-1-1) ab db jb ka hi eb fb hG va (by rw[←hT];exact xK _ _ _ _ _ _) rfl hr) ?_;rintro e' a' W2 ⟨e2,fa,rfl,⟨rfl,t',hm,wa⟩,u,na,sa,xa,aa⟩;refine⟨u,⟨na,xa Bt ua ra,xa Bq o ma⟩,?_,hB.trans na,Qj fb sa,λj hj da=>?_⟩
  ·rw[Q4];exact aa _ t' _ hm wa
  ·rw[xa j da hj];exact qa j hj da
 case done=>
  rintro D ys W' hD bb ⟨oa,hB,ka,qa⟩ hK;rw[bb]at oa;exact ca D W' hD oa hB ka qa hK
 case stop=>
  rintro D c pre W' _ _ h _;exact h.elim
end Go.Vd
namespace Go.Vd
open Go.Proofs Go.RowKit
def dc1073b:=y4 f73 [] [] (by exact Eq.trans (by conv=>lhs;whnf) (by simp only[tQ,nW,List.append_eq,tR,tO,tAt,tAi,tAb,tAs,tAf,tAl,tAp,tAn,tAu,tAg,zT,Tz.k,Tz.z,Tz.n,Tz.d,tL,tP,tB,tE,tX,tS,tI,tG,tC,tM,fAt,Pm,lk,ofVal,List.getD_cons_zero,List.getD_cons_succ,List.map_cons,List.map_nil,List.length_cons,List.length_nil,List.headD_cons,List.cons_append,List.nil_append,Option.map_some,Option.map_none,Option.getD_some,Bool.false_eq_true,reduceIte,Nat.reduceAdd,Nat.reduceMul,Nat.reduceEqDiff]<;>rfl))
def aIj:Bh Qo 53 (rfB f73)=some dc1073b:=Z
def aI8:bT (rfB f73)=true:=Z
end Go.Vd
namespace Go.Vd
open Go.Proofs Go.RowKit Go.Shelf
def S1073b:=Aq [(22,Ac R38),(130,Ac U5)]
def aI2:HD.ok Qo S1073b:=Aa aVS (Aa aRc Ad)
def aFE{t:Tr}{ks:List Tk}(hE:aHJ t ks){pre:List (Bs×Bs)}{x:Bs×Bs}(w:x∈t.lst)(hl:pre.length<=100000):
  dc1073b.wp S1073b [] (λe fa=>e= .normal∧∃t',fa.m [0] 0=some (.slice (rA ks (pre++[x])).isEmpty t' (Ar (rA ks (pre++[x]))))∧((rA ks (pre++[x])).isEmpty=false->t'≠[]∧fa.m t' 0=some (.tok (107+1)))) ⟨Vz (λ_=> .junk) 0 4 6 7 x,Ll (rA ks pre).isEmpty 0 1 (Ar (rA ks pre)) 107,2⟩:=by
 have u:S1073b 22=some (Ac R38):=rfl;have i:S1073b 130=some (Ac U5):=rfl;have ra:=hE.trs.key x w;have ua:=aGi x.1 (Qj ra.1 V);have hk:=hE.key x w;have hp:Da x.1=((yO x,(Ax x.1).2.1,(Ax x.1).2.2),0):=by
  unfold Da;rw[if_neg (λe=>e hk)];rfl
 rw[hp]at ua;unfold kyD at ua;rw[aBG];have ca:(rA ks pre).length<=pre.length:=List.length_filterMap_le _ _;generalize rA ks pre=y at *;obtain⟨tt,hm,hG⟩:∃tt,Ll y.isEmpty 0 1 (Ar y) 107 [0] 0=some (.slice y.isEmpty tt (Ar y))∧LG 1 (Ll y.isEmpty 0 1 (Ar y) 107) 107 (Ll y.isEmpty 0 1 (Ar y) 107) 2 y.isEmpty tt:=by
  cases y with
  |nil=>
   have e:Ll ([]:List Tk).isEmpty 0 1 (Ar []) 107=WG [0] (.slice true [] []):=if_pos rfl;rw[e];exact⟨[],DQ,LG.start V⟩
  |cons a r=>
   have e:Ll (a::r).isEmpty 0 1 (Ar (a::r)) 107=Sx [0] [1] (.slice false [1] (Ar (a::r))) 107:=if_neg U;rw[e];exact⟨[1],DQ,⟨λ_ _ _=>rfl,.inr ⟨1,rfl,V,V,(aA V).trans DQ⟩,V⟩⟩
 have na:y.isEmpty=true->Ar y=[]:=λh=>by rw[List.isEmpty_iff.1 h];rfl
 have l:Ag (Ll y.isEmpty 0 1 (Ar y) 107) [0] 0 1=some [.slice y.isEmpty tt (Ar y)]:=by simp[Ag,hm]
 have va:=Bp y;generalize Ll y.isEmpty 0 1 (Ar y) 107=m0 at *;have h4:Vz (λ_=> .junk) 0 4 6 7 x 4= .ptr [0] 0:=rfl;have h6:Vz (λ_=> .junk) 0 4 6 7 x 6= .str x.1:=rfl;have h7:Vz (λ_=> .junk) 0 4 6 7 x 7= .str x.2:=rfl;generalize Vz (λ_=> .junk) 0 4 6 7 x=s at *;have ib:∀a b c:D,Ze 3 [a,b,c]=[a,b,c]:=λ_ _ _=>rfl
 have gb:∀a b c:D,[a,b,c].length=3:=λ_ _ _=>rfl
 unfold dc1073b;simp only at ua;by_cases h3:yO x=3
 ·obtain⟨k,v,xa,f,g⟩:=hE.tk x w h3;rw[xa];have d:=hE.par k v;rw[←f,g]at d;have e3:(yO x=3)=True:=eq_true h3;have ga:(y++[k]).isEmpty=false:=by simp
  have e4:(Option.some k).toList=[k]:=rfl;rw[e4,ga,RG];obtain⟨kn,kp,kb,kr⟩:=k;simp only[IW]at d ⊢
  repeat' (first|(refine aB (Al (by simp[AK,AA,H3,Ai,Ac,HJ.ev,Cb,h4])) ?_)|simp (disch:=first|assumption|omega)only[↓C2,HE,simprocAttr,HP,h4,h6,h7,hm,l,e3,Ab u,ua,Ab i,d,O8,Od,kW,kX,qM,ib,gb,Ez,IR,pO,Qa,and_self,and_false])
  have z:=((((hG.put (c':=7) (o:=0) (ds:=[D.int IntKind.u8 0,D.str [],D.int IntKind.i64 0]) V).put (c':=7) (o:=0) (ds:=[D.int IntKind.u8 (yO x),D.str (Ax x.fst).snd.fst,D.int IntKind.i64 (Ax x.fst).snd.snd]) V).put (c':=24) (o:=0) (ds:=[D.str [],D.str [],D.slice true [] []]) V).put (c':=24) (o:=0) (ds:=[D.str kn,D.str kp,D.slice kb [] (As kr)]) V).put (c':=31) (o:=0) (ds:=[D.tok 108]) V;refine aB ⟨O,rfl,z.grow⟩ ?_;rw[BF na];have ya:=z.app (xs:=Ar y) (c':=32) (c2:=40) V V;have ab:=ya.rd (q:=0) (p:=0) (n:=1) V;rw[l]at ab;have qa:_:=ya.tok;simp (disch:=first|assumption|omega)only[↓C2,HE,simprocAttr,HP,h4,ab,Qa,and_self];refine⟨[32],DQ,λ_=>⟨U,?_⟩⟩;rcases qa with h|⟨j,e,_,_,h⟩
  ·cases h
  ·exact(aA V).trans h
 ·have xa:tkO ks x=none:=if_neg h3;rw[xa];have e3:(yO x=3)=False:=eq_false h3;rw[show(none:Option Tk).toList=[]from rfl,QJ]
  repeat' (first|(refine aB (Al (by simp[AK,AA,H3,Ai,Ac,HJ.ev,Cb,h4])) ?_)|simp (disch:=first|assumption|omega)only[↓C2,HE,simprocAttr,HP,h4,h6,h7,hm,l,e3,Ab u,ua,O8,Od,kW,kX,qM,ib,gb,Ez,IR,pO,Qa,and_self,and_false])
  have z:=(hG.put (c':=7) (o:=0) (ds:=[D.int IntKind.u8 0,D.str [],D.int IntKind.i64 0]) V).put (c':=7) (o:=0) (ds:=[D.int IntKind.u8 (yO x),D.str (Ax x.fst).snd.fst,D.int IntKind.i64 (Ax x.fst).snd.snd]) V;refine⟨tt,rfl,λhn=>?_⟩;rcases z.tok with h|⟨j,rfl,_,_,h⟩
  ·rw[hn]at h;cases h
  ·exact⟨U,h⟩
attribute [local go_sem] Oper.semAt_some
section
variable{F:Fence}{n:Nat}{P:Program}{b:Frame}{a:Act}{k:List Item}{cs:List Frame}{w:World}{Q:Exit->Act->World->Prop}
def Dv{c:Code}:step P (lone (b.atR a (.code (.scope c)::k)) cs w)= .next (lone (b.atR a (.code c:: .inScope c::k)) cs w):=
 step_lone_go (by simp[stepG,stepG.exec,Frame.atR])
def Tf{c:Code}:step P (lone (b.atR a (.inScope c::k)) cs w)= .next (lone (b.atR a k) cs w):=
 step_lone_go (by simp[stepG,stepG.exec,Frame.atR])
def lA{c:Code}(h:c.wpIn F n P (Exit.noGoto Q) a w):(Code.scope c).wpIn F n P Q a w:=by
 intro b k cs j f q;have o:(lone (b.atR a (.code (.scope c)::k)) cs w).fenced P F:=fenced_calm f q rfl;obtain⟨e,t,u,z,i⟩:=h b (.inScope c::k) cs j f q;cases e with
 |normal=>exact⟨.normal,t,u,z,.head o Dv (StepsIn.trans i (.one (fenced_calm f q rfl) Tf))⟩
 |exit id=>
  have p:exitTo id (.inScope c::k)=exitTo id k:=by simp[exitTo]
  exact⟨.exit id,t,u,z,λr g=> .head o Dv (i.1 r (by rw[p];exact g)),λd g=>let⟨k₁,h1,h2⟩:=i.2 d (by rw[p];exact g);⟨k₁,h1,.head o Dv h2⟩⟩
 |goto l=>exact z.elim
 |ret=>exact⟨_,t,u,z,.of_steps (.one o Dv) i⟩
 |panic m=>exact⟨_,t,u,z,.of_steps (.one o Dv) i⟩
 |outgrown=>exact⟨_,t,u,z,.of_steps (.one o Dv) i⟩
def yE:Exit.noGoto Q .normal a w=Q .normal a w:=rfl
def aI5(id:Nat):Exit.noGoto Q (.exit id) a w=Q (.exit id) a w:=rfl
def aQI:Exit.noGoto Q .ret a w=Q .ret a w:=rfl
end
attribute [local go_sem] yE aI5 aQI
def aA1{ks:List Tk}(x:kT ks)(w:GS ks.length [] ks=some ks):vV [.slice ks.isEmpty [] (Ar ks)]=some (.tup [.agg [.slice ks.isEmpty [] (Ar ks)],.int .i64 0]):=by
 cases ks with
 |cons k r=>exact aGC false (k::r) (k::r) (λh=>Xc) x w U
 |nil=>
  refine Am (Qb rfl) ?_;unfold oP;have a:=jK true [] (λ_=>rfl) V;have e:Ar []=[]:=rfl;rw[e]at a ⊢;have n:([]:List Tk).isEmpty=true:=rfl;rw[n];simp (disch:=first|assumption|omega)only[HG,↓C2,HB,simprocAttr,HP,Ae N5 194,a];refine Af IA.eq_1 ?_;simp (disch:=first|assumption|omega)only[HG,↓C2,HB,simprocAttr,HP,Qp]
  all_goals exact Y2
def nS{G:Nat->Nat}{b lo e sz:Nat}{i r:Id}{W:World}{nl:Bool}{xs:List D}(h:O5 G b lo e sz i r W nl xs)(f:b<lo)(x:lo<=W.heap.size):
  ∃(vs:Array Value)(T:TypeId)(v:Value)(G1:Nat->Nat),W.heap[b]?=some (.cells vs T (0,0))∧vs[0]?=some v∧(∀k,W.heap.size<=k->G1 k=0)∧(∀k,k<b->G1 k=G k)∧Rep W (Gh.base G1) (.slice nl [] xs) v:=by
 obtain⟨vs,T,v,u,y,o⟩:=h;rcases o with ⟨rfl,rfl,rfl⟩|⟨rfl,bs,n,c,cur,q,s,g3,g4,g5,rfl,g6⟩
 ·exact⟨vs,T,_,λk=>if k<b then G k else 0,u,y,λk g=>if_neg O,λk g=>if_pos g,.nils []⟩
 ·refine⟨vs,T,_,(ET G W i r b bs n c sz).G,u,y,λk g=>?_,λk g=>?_,?_⟩
  ·have ea:=(Qc.1 g4).1;show(if k=b then 0 else if k=bs then n*sz else if k<b then G k else allG W k)=0;rw[if_neg O,if_neg O,if_neg O];exact N0 W k g
  ·show(if k=b then 0 else if k=bs then n*sz else if k<b then G k else allG W k)=G k;rw[if_neg O,if_neg O,if_pos g]
  ·cases g6 with
   |slice _ _ a n2 c2 mb p m w t e4 e5 e6 e7 e8 e9=>
    exact .slice [] xs ⟨bs,0,none⟩ n c mb p m w t e4 e5 (λj d z=>Rep.calm_to (e6 j d z) (G9 e9 d (QI z)) (λ_ _=>rfl) λ_=>Qm _) e7 (λh=>absurd rfl h) e9
def aDJ:(Tryz.prog.info? 107).map (λi=>(i.zero.map λz=>z.cells.size,i.size))=some (some 3,3):=Z
def aSt(w:World)(c e b a j p:Obj):((((((w.alloc c).alloc e).alloc b).alloc a).alloc j).alloc p).heap.size=w.heap.size+6∧((((((w.alloc c).alloc e).alloc b).alloc a).alloc j).alloc p).heap[w.heap.size+1]?=some e∧((((((w.alloc c).alloc e).alloc b).alloc a).alloc j).alloc p).heap[w.heap.size+1+1]?=some b∧((((((w.alloc c).alloc e).alloc b).alloc a).alloc j).alloc p).heap[w.heap.size+1+1+1]?=some a∧((((((w.alloc c).alloc e).alloc b).alloc a).alloc j).alloc p).heap[w.heap.size+1+1+1+1]?=some j∧((((((w.alloc c).alloc e).alloc b).alloc a).alloc j).alloc p).heap[w.heap.size+1+1+1+1+1]?=some p∧Below w.heap.size w ((((((w.alloc c).alloc e).alloc b).alloc a).alloc j).alloc p):=by
 obtain⟨z,_,a1,y,o⟩:=pN w c e b a;have f:=WH w c e b a;generalize (((w.alloc c).alloc e).alloc b).alloc a=k at *;have i:w.heap.size+1+1+1+1=k.heap.size:=O
 have x:Below k.heap.size k ((k.alloc j).alloc p):=((Below.refl _ k).alloc (Qm _) _).alloc U _;refine⟨Xb,(x.block _ O).trans a1,(x.block _ O).trans y,(x.block _ O).trans o,?_,?_,f.trans (x.mono O)⟩
 ·rw[i,Below.heap_alloc _ _ _ U];exact World.alloc_heap_new _ _
 ·rw[i,←World.size_alloc k j];exact World.alloc_heap_new _ _
def aXm{wx:World}{sv:Value}{ks:List Tk}{G1:Nat->Nat}(hB:kT ks)(r:GS ks.length [] ks=some ks)(hz:∀b,wx.heap.size<=b->G1 b=0)(hR:Rep wx (Gh.base G1) (.slice ks.isEmpty [] (Ar ks)) sv):
  Calls Qo 131 #[sv] wx λe w'=>∃a n c G',e= .returned (.tuple #[.agg #[.slice a n c],.int .i64 0])∧Below wx.heap.size wx w'∧(∀b,w'.heap.size<=b->G' b=0)∧(∀b,b<wx.heap.size->G' b=G1 b)∧Rep w' (Gh.base G') (.slice ks.isEmpty [] (Ar ks)) (.slice a n c):=by
 have z:(Ac vV).ex [.slice ks.isEmpty [] (Ar ks)] (λ_ _=>none) [0]=some (.tup [.agg [.slice ks.isEmpty [] (Ar ks)],.int .i64 0],[]):=by
  have q:=aA1 hB r;have y:[D.slice ks.isEmpty [] (Ar ks)].all D.calm=true:=rfl;have h3:[D.slice ks.isEmpty [] (Ar ks)].map D.un=[D.slice ks.isEmpty [] (Ar ks)]:=rfl;simp only[Ac,h3,y,if_true,q,Option.map_some]
 have g:HQ Qo wx.heap.size wx (λ_ _=>none) wx (Gh.base G1):=
  ⟨Below.refl _ _,Qm _,hz,λ_ _=>rfl,λi b h=>XD,λi i' b h=>XD,λi o d h=>Xd,λi e h=>Xd,λi i' e e' b x x' h=>Xd,λi s p h=>Xd,λi i' s p s' p' b x x' h=>Xd⟩
 refine(aRb.run (fr:=[0]) (ds:=[.slice ks.isEmpty [] (Ar ks)]) (vs:=[sv]) (u:=[]) g (λi _=>⟨λ_=>rfl,rfl,rfl⟩) rfl (λj d u t m=>?_) z).mono ?_
 ·match j,t,m with
  |0,t,m=>cases t;cases m;exact hR
 ·rintro e w' ⟨v,g',rfl,k⟩;obtain⟨us,rfl,ja,m⟩:=k.rep.tup_inv
  match us,ja with
  |[u0,u1],_=>
   have h0:=m 0 _ u0 rfl rfl;have q:=(m 1 _ u1 rfl rfl).int_inv;subst q;cases h0 with
   |agg ds vs hl q y=>
    match vs,hl with
    |[x],_=>
     have w:=y 0 _ x rfl rfl;obtain⟨a0,c0,rfl,_⟩:=w.len_slice;refine⟨_,_,_,g'.G,rfl,k.inv.below,k.inv.gz,λb f=>?_,w.calm_to rfl (λ_ _=>rfl) (λ_=>Qm _)⟩;rw[k.inv.old b f,k.ext.G0];rfl
def aTJ{w:World}{v:Value}{t:Tr}{ks:List Tk}{G:Nat->Nat}(hT:D8 w.heap.size w t v)(hE:aHJ t ks)(ba:∀b,w.heap.size<=b->G b=0):
  Calls Qo 73 #[.agg #[v]] w λe w'=>∃u G',e= .returned u∧Below w.heap.size w w'∧(∀b,w'.heap.size<=b->G' b=0)∧(∀b,b<w.heap.size->G' b=G b)∧Rep w' (Gh.base G') (.tup [.agg [.slice ks.isEmpty [] (Ar ks)],.bool true]) u:=by
 refine(callsIn_wide (n:=3)).1 ?_;refine callsIn_of_wp_marks func73 rfl trivial ?_ rfl;simp only[ntmps73,List.size_toArray,Qd,Qp,QH,Q9,Array.replicate_succ,Array.replicate_zero,List.push_toArray,List.append_toArray,Qy,Q1]
 gi_wp2
 refine lA ?_
 gi_wp2
 refine wpIn_label ?_
 gi_wp2_with (refine⟨trivial,?_⟩;gi_at_call 21;refine(callsIn_wide.2 (uT _ v [])).mono ?_;rintro e w' ⟨rfl,rfl⟩)
 obtain⟨hz,x2,x4,x5,x6,x7,ja⟩:=aSt w (Obj.cells #[v] 36) (Obj.cells #[Value.slice none 0 0] 31) (Obj.cells #[Value.slice none 0 0] 29) (Obj.cells #[Value.bool true] 4) (Obj.cells #[v] 36) (Obj.cells #[encStr []] 9);generalize ((((((w.alloc (Obj.cells #[v] 36)).alloc (Obj.cells #[Value.slice none 0 0] 31)).alloc (Obj.cells #[Value.slice none 0 0] 29)).alloc (Obj.cells #[Value.bool true] 4)).alloc (Obj.cells #[v] 36)).alloc (Obj.cells #[encStr []] 9))=W0 at hz x2 x4 x5 x6 x7 ja ⊢;refine aB5 (G:=G) aI2 (N:=53) aIj aI8 rfl (Bt:=w.heap.size+1+1+1+1) (Bq:=w.heap.size+1+1+1+1+1) rfl (t:=t) (q:=[]) (tv:=v) hE.trs.cnt x6 x7 (b:=w.heap.size+1+1) ((hT.below ja).more O) O O (i:=0) (r:=1) (bs:=4) (c:=2) (e:=107) (sz:=3) (k2:=6) (v2:=7) V V V V ?info (λl=>(rA ks l).isEmpty) (λl=>Ar (rA ks l)) rfl rfl ⟨_,_,x4,rfl⟩ rfl V V ?assign ?run ?done
 case info=>
  obtain⟨i0,hi,hx⟩:=QC.1 aDJ;simp only[Qx]at hx;obtain⟨h1,h2⟩:=hx;obtain⟨z,h3,h4⟩:=QC.1 h1;exact⟨i0,z,hi,h2,h3,h4⟩
 case assign=>
  intro l x W K hK
  gi_wp2
  exact hK
 case run=>
  intro pre x hx hl ea;rw[FP]at hx hl ea;exact aFE hE hx (by have:=hE.len;omega)
 case done=>
  intro D W' hD hG f ka qa hK;simp only[FP,hE.all]at hG;obtain⟨vs,T,sv,G1,q1,q2,q3,q4,q5⟩:=nS hG O ka;have sa:W'.cell? ⟨w.heap.size+1+1,0,none⟩=some sv:=by simp[World.cell?,q1,q2]
  have y5:Boxed W' (w.heap.size+1+1+1) 4 (.bool true):=(qa _ O O).trans x5;have y2:Boxed W' (w.heap.size+1) 31 (.slice none 0 0):=(qa _ O O).trans x2;have m:D<W'.heap.size:=(Qc.1 hK).1;have ZZ:Aside (W0.heap.size=w.heap.size+6∧W0.heap.size<=D∧W0.heap.size<=W'.heap.size∧D<W'.heap.size):=⟨hz,hD,ka,m⟩;clear hz hD ka m x2 x4 x5 x6 x7
  gi_wp2_with (refine⟨trivial,?_⟩;gi_at_call 131;refine(callsIn_wide.2 (aXm hE.tkb hE.ld q3 q5)).mono ?_;rintro e w1 ⟨a0,n0,c0,G2,rfl,fa,z2,o2,la⟩;have aa:Boxed w1 (w.heap.size+1+1+1) 4 (.bool true):=(fa.block _ X6).trans y5;have s:Boxed w1 (w.heap.size+1) 31 (.slice none 0 0):=(fa.block _ X6).trans y2;have c5:=(aa.alloc (Obj.cells #[Value.slice a0 n0 c0] 31)).cell;have c2:=(s.alloc (Obj.cells #[Value.slice a0 n0 c0] 31)).cell;have f2:=(s.alloc (Obj.cells #[Value.slice a0 n0 c0] 31)).frozen)
  obtain⟨hz,hD,ka,m⟩:=ZZ.out;have ta:=fa.size;have da:w.heap.size+1<w1.heap.size:=O
  have g:D≠w.heap.size+1:=O
  have hp:=heap_setCell_same _ _ 0 _ _ (Value.slice a0 n0 c0) (s.alloc (Obj.cells #[Value.slice a0 n0 c0] 31));have a:((w1.alloc (Obj.cells #[Value.slice a0 n0 c0] 31)).setCell ⟨w.heap.size+1,0,none⟩ (Value.slice a0 n0 c0)).heap[D]?=some (.deferred (some [])):=by
   rw[Below.heap_setCell _ _ _ _ g,Below.heap_alloc _ _ _ O,fa.block D m];exact hK
  have ca:Below w.heap.size w w1:=ja.trans ((f.mono O).trans (fa.mono O));have na:Below w.heap.size w ((w1.alloc (Obj.cells #[Value.slice a0 n0 c0] 31)).setCell ⟨w.heap.size+1,0,none⟩ (Value.slice a0 n0 c0)):=(ca.alloc O _).setCell U _;have ia:((w1.alloc (Obj.cells #[Value.slice a0 n0 c0] 31)).setCell ⟨w.heap.size+1,0,none⟩ (Value.slice a0 n0 c0)).heap.size=w1.heap.size+1:=by simp[World.setCell]
  have oa:∀k,k<w1.heap.size->k≠w.heap.size+1->((w1.alloc (Obj.cells #[Value.slice a0 n0 c0] 31)).setCell ⟨w.heap.size+1,0,none⟩ (Value.slice a0 n0 c0)).heap[k]?=w1.heap[k]?:=λk h1 h2=>by
   rw[Below.heap_setCell _ _ _ _ h2,Below.heap_alloc _ _ _ h1]
  have ra:w1.heap[D]?=some (.deferred (some [])):=(fa.block D m).trans hK;generalize ((w1.alloc (Obj.cells #[Value.slice a0 n0 c0] 31)).setCell ⟨w.heap.size+1,0,none⟩ (Value.slice a0 n0 c0))=w2 at hp a na ia oa ⊢;refine⟨U,.inl ⟨_,_,rfl,run_takeDeferred a,?_⟩⟩;have ga:=(World.putObj_heap_other (o:= .deferred none) (w:=w2) g.symm).trans hp;refine⟨.tuple #[.agg #[.slice a0 n0 c0],.bool true],by simp[results,results73,go_sem,ga,World.cell?],_,G2,rfl,na.trans (belowK_b (w:=w) (Qm _) _ D _ _ O a rfl rfl),λb hb=>z2 b ?_,λb hb=>(o2 b O).trans (q4 b O),?_⟩
  ·rw[World.putObj_size,ia]at hb;omega
  ·have ma:Rep (w2.putObj D (.deferred none)) (Gh.base G2) (Vd.D.slice ks.isEmpty [] (Ar ks)) (.slice a0 n0 c0):=Rep.calm_to la rfl (λp ha=>by
    have y:p.off<G2 p.block:=ha;have ua:p.block<w1.heap.size:=by
     rcases Zc p.block w1.heap.size with h|h
     ·exact h
     ·rw[z2 _ h]at y;omega
    have pa:p.block≠w.heap.size+1:=λe=>by
     rw[e,o2 _ O,q4 _ O,ba _ O]at y;omega
    rcases Nat.decEq p.block D with h|h
    ·simp only[World.cell?,World.putObj_heap_other h];rw[oa _ ua pa]
    ·simp only[World.cell?,h,World.putObj_heap_same (Qc.1 a).1,ra]) (λ_=>Qm _)
   refine .tup [.agg [.slice ks.isEmpty [] (Ar ks)],.bool true] [.agg #[.slice a0 n0 c0],.bool true] rfl λj d x hd hx=>?_
   match j,hd,hx with
   |0,hd,hx=>cases hd;cases hx;exact OZ ma rfl
   |1,hd,hx=>cases hd;cases hx;exact .bool _
def kH(t:Tr)(ks:List Tk):List D->Option D:=FX MC (λc=>c=t∧aHJ t ks) λ_=> .tup [.agg [.slice ks.isEmpty [] (Ar ks)],.bool true]
def aHl{t:Tr}{ks:List Tk}(h:aHJ t ks):kH t ks [.agg [HV t]]=some (.tup [.agg [.slice ks.isEmpty [] (Ar ks)],.bool true]):=Ca (mk:=MC) Sb ⟨rfl,h⟩
def aQE(t:Tr)(ks:List Tk):(Ac (kH t ks)).ok Qo 73:=by
 refine GQ ⟨_,func73,Z,Z⟩ λds r z vs w G hl c j=>⟨?_,?_⟩
 ·obtain⟨p,_,_,rfl⟩:=CV z;rfl
 ·obtain⟨e,⟨rfl,s⟩,rfl,rfl⟩:=CV z
  match vs,hl with
  |[v0],_=>
   obtain⟨v,rfl,i⟩:=RC (c 0 _ v0 rfl rfl);exact aTJ ⟨G,i,j⟩ s j
end Go.Vd
namespace Go.Vd
open Go.Proofs Go.RowKit
section
variable{n:Nat}{ds:List D}
def Fit.slice{P:Program}{t e:TypeId}(v:P.underlying t=some (.slice e))(h:Fit P (n+1) t ds):∃nl xs,ds=[.slice nl [] xs]∧(nl=true->xs=[])∧∀x∈xs,∃cs,x=Mg (V6 P e) cs∧Fit P n e cs:=by
 unfold Fit at h;rw[v]at h;exact h
def Fit.str{P:Program}{t:TypeId}(v:P.underlying t=some .string)(h:Fit P (n+1) t ds):∃s,ds=[.str s]:=by
 unfold Fit at h;rw[v]at h;exact h
def Fit.int{P:Program}{t:TypeId}{k:IntKind}(v:P.underlying t=some (.int k))(h:Fit P (n+1) t ds):∃x,ds=[.int k x]∧(Lit.int k x).wf=true:=by
 unfold Fit at h;rw[v]at h;exact h
def all_map{α β:Type}{f:α->β}:∀{xs:List β},(∀x∈xs,∃a,x=f a)->∃l:List α,xs=l.map f
 |[],_=>⟨[],rfl⟩
 |x::r,h=>by
  obtain⟨a,rfl⟩:=h x Qe;obtain⟨l,rfl⟩:=all_map λy s=>h y (Qi _ s)
  exact⟨a::l,rfl⟩
def fit_strs{P:Program}{t e:TypeId}(v:P.underlying t=some (.slice e))(c:P.underlying e=some .string)(hi:V6 P e=false)(h:Fit P (n+2) t ds):∃nl l,ds=[.slice nl [] (strsD l)]:=by
 obtain⟨nl,xs,rfl,w,p⟩:=Fit.slice v h;obtain⟨l,rfl⟩:=all_map (f:=D.str) (xs:=xs) (λx a=>by
  obtain⟨cs,rfl,k⟩:=p x a;rw[hi];obtain⟨s,rfl⟩:=Fit.str c k;exact⟨s,rfl⟩)
 exact⟨nl,l,rfl⟩
end
def cell_fit{H:Type}{c:TypeId×Value->H}{P:Program}{w:World}{base:Nat}{a:Nat->Bool}{b:Bool}{n:Nat}{t:TypeId}{v:Value}{d:DataW H}{p:List MemPlace}(g:I8 P n t=true)(r:v.cells=#[v])(h:DataW.Trod c P w base a b t v d p):
  ∃ds,Fit P n t ds∧∀z,ds=[z]->Rep w (startG (allG w)) z v:=by
 obtain⟨fuel,k⟩:=h;rw[r]at k;obtain⟨_,ds,u,y⟩:=R0 n t g _ _ _ k;exact⟨ds,u,λz e=>by subst e;exact(y.rep 0 z v rfl rfl).1⟩
def u16_wf{x:Int}(h:(Lit.int .u16 x).wf=true):0<=x∧x<65536:=by
 simp[Lit.wf,IntKind.min,IntKind.max,IntKind.signed,IntKind.bits]at h;omega
def S_(t:Tr)(ks:List Tk):HD:=Aq [(71,Ac Mr),(27,Ac jZ),(72,Ac wA),(73,Ac (kH t ks)),(74,Ac vZ)]
def jY(t:Tr)(ks:List Tk):List D->Option D:=RF (S_ t ks) oS [.cell (some 5) 4,.t 5] 64
def aRy(t:Tr)(ks:List Tk):(Ac (jY t ks)).ok Qo 31:=An (Aj func31:Fn Qo 31 64 oS [.cell (some 5) 4,.t 5]) (Aa aDn (Aa nC (Aa aRn (Aa (aQE t ks) (Aa aRm Ad)))))
def aG9{z:Md}(o:MZ z)(hF:H8 z)(s:TE z)(ia:Bs):jY z.tr z.vw.ks [.agg [HV z.tr],.str ia]=some (.tup [.agg [.bool true,.int .i64 z.vw.te,.str ia,.slice (decide (z.vw.ms.length=0)) [] (Az z.vw.ms),.slice z.vw.ks.isEmpty [] (Ar z.vw.ks)],.int .i64 0]):=by
 refine Am (Qb rfl) ?_;have j:S_ z.tr z.vw.ks 71=some (Ac Mr):=rfl;have i:S_ z.tr z.vw.ks 27=some (Ac jZ):=rfl;have f:S_ z.tr z.vw.ks 72=some (Ac wA):=rfl;have h:S_ z.tr z.vw.ks 73=some (Ac (kH z.tr z.vw.ks)):=rfl;have c:S_ z.tr z.vw.ks 74=some (Ac vZ):=rfl;have p:Mr [.int .u8 5,.str []]=some (.str Io):=LF 5 [] V;have h4:Mr [.int .u8 4,.str []]=some (.str Ik):=LF 4 [] V;obtain⟨x,u,k⟩:=s.ring;have r:=Ob z.tr Io;have a:=Ob z.tr Ik;rw[u]at r;rw[s.mts]at a;have d:=aGV z.vw.ms hF.mts o.vw.srt o.vw.ml λm n=>Qj (o.vw.mr m n) V
 have g:=aHl (aR3 o hF s);have y:=o.vw.te;have b:=aGU z.vw.te y;have c1:(z.vw.te=0)=False:=eq_false O;unfold oS;simp only[Option.getD_some,Qa]at r a;generalize Io=rk at *;generalize Ik=mk at *;generalize z.vw.te=te at *;generalize BL z.vw.ms=tb at *;generalize decide (z.vw.ms.length=0)=e at *;generalize Az z.vw.ms=v at *;generalize z.vw.ks.isEmpty=q at *;generalize Ar z.vw.ks=w at *;generalize S_ z.tr z.vw.ks=S at *;generalize kH z.tr z.vw.ks=G at *;generalize z.tr=t at *
 repeat' (first|(refine aB (Al ?_) ?_;first|rfl|simp[AK,AA,H3,Ai,Ac])|simp (disch:=first|assumption|omega)only[HG,↓C2,HB,simprocAttr,HP,Ab j,p,h4,Ab i,r,a,Ab f,d,Ab h,g,Ab c,k,b,c1])
 all_goals exact Y2
def Hc(t:Tr)(ks:List Tk):HD:=Aq [(8,Ac kE),(9,Ac kC),(10,Ac wH),(20,Ac wC),(31,Ac (jY t ks)),(12,Ac wF),(32,Ac jX),(33,Ac jV)]
def wK(t:Tr)(ks:List Tk):List D->Option D:=RF (Hc t ks) WB [.t 4] 67
def aRI(t:Tr)(ks:List Tk):(Ac (wK t ks)).ok Qo 7:=An (Aj func7:Fn Qo 7 67 WB [.t 4]) (Aa aRH (Aa aRG (Aa aRF (Aa aRz (Aa (aRy t ks) (Aa aRE (Aa aDr (Aa aDq Ad))))))))
def S8(t:Tr)(ks:List Tk)(r:Int)(nl:Bool)(l:List Bs)(v:Um l=1):wK t ks [.int .u16 r,.slice nl [] (strsD l)]=some (.bool true):=by
 refine Am (Qb rfl) ?_;have c:Hc t ks 8=some (Ac kE):=rfl;have e:Hc t ks 9=some (Ac kC):=rfl;have q:=kD nl l;have x:=kB;rw[v]at q;unfold WB;generalize Hc t ks=S at *;simp (disch:=first|assumption|omega)only[HG,↓C2,HB,simprocAttr,HP,Ab c,q,Ab e,x]
 all_goals exact Y2
def aHg{z:Md}(hM:MZ z)(y:H8 z)(p:TE z)(g:z.vw.key=Nw)(r:Int)(o:0<=r)(u:r<65536)(nl:Bool)(l:List Bs)(w:l.length<=40)(ho:Um l=0)(hz:kO (Nr Nw (300+r)) l z):wK z.tr z.vw.ks [.int .u16 r,.slice nl [] (strsD l)]=some (.bool true):=by
 refine Am (Qb rfl) ?_;have s8:Hc z.tr z.vw.ks 8=some (Ac kE):=rfl;have s9:Hc z.tr z.vw.ks 9=some (Ac kC):=rfl;have i:Hc z.tr z.vw.ks 10=some (Ac wH):=rfl;have h:Hc z.tr z.vw.ks 20=some (Ac wC):=rfl;have f:Hc z.tr z.vw.ks 31=some (Ac (jY z.tr z.vw.ks)):=rfl;have v:Hc z.tr z.vw.ks 12=some (Ac wF):=rfl;have sa:Hc z.tr z.vw.ks 32=some (Ac jX):=rfl;have a:Hc z.tr z.vw.ks 33=some (Ac jV):=rfl;have h8:=kD nl l;have h9:=kB;rw[ho]at h8;have n:=aLs r o u nl l w hz;have c:=aHa z;have d:=aG9 hM y p Nw;have s:=aHf z;have b:=jW (decide (z.vw.ms.length=0)) z.vw.nlm z.vw.ms (by have:=hM.vw.ml;omega);have x:=jU z.vw.ks.isEmpty z.vw.nlt z.vw.ks (by have:=hM.vw.kl;omega) λk hk=>(hM.vw.ok.kp k hk).1.1
 unfold WB;unfold IB at s;simp only[Ij,It,Q1,Qy,g]at n c s;generalize Hc z.tr z.vw.ks=S at *;generalize jY z.tr z.vw.ks=R at *;generalize z.vw.se=se at *;generalize z.vw.te=te at *;generalize decide (z.vw.ms.length=0)=e at *;generalize Az z.vw.ms=md at *;generalize z.vw.ks.isEmpty=q at *;generalize Ar z.vw.ks=td at *;generalize z.vw.nlm=j at *;generalize z.vw.nlt=m at *;generalize z.room=rm at *;generalize z.tr=t at *;unfold Nw at n c d s
 repeat' (first|(refine aB (Al ?_) ?_;first|rfl|simp[AK,AA,H3,Ai,Ac])|simp (maxSteps:=4000000) (disch:=first|assumption|omega)only[HG,↓C2,HB,simprocAttr,HP,Ab s8,h8,Ab s9,h9,Ab i,n,Ab h,c,Ab f,d,Ab v,s,Ab sa,b,Ab a,x])
 all_goals exact Y2
def knows_law{w:World}{m n:Value}(h0:∃r:Int,m= .int .u16 r∧0<=r∧r<65536)(u:∃(nl:Bool)(l:List Bs),Rep w (startG (allG w)) (.slice nl [] (strsD l)) n):
  Calls Qo 7 #[m,n] w λe w'=>e= .returned (.bool true)∧Below w.heap.size w w':=by
 obtain⟨r,rfl,v,r1⟩:=h0;obtain⟨nl,l,i⟩:=u;have y:∃t ks,wK t ks [.int .u16 r,.slice nl [] (strsD l)]=some (.bool true):=by
  by_cases c1:40<l.length
  ·exact⟨.nil,[],S8 _ _ r nl l (if_pos c1)⟩
  by_cases c2:l.all (λs=>decide (s.length<=500))=true
  ·have hl:∀s∈l,s.length<=500:=λs k=>of_decide_eq_true (Q0.1 c2 s k)
   obtain⟨z,a,hM,hF,c,f,g⟩:=iA l (aMy v r1) (aI7 r) (aQJ r) (by show(300+r)≠0;omega) hl;exact⟨_,_,aHg hM hF c g r v r1 nl l O (by unfold Um;rw[if_neg c1,if_pos c2]) a⟩
  ·exact⟨.nil,[],S8 _ _ r nl l (by unfold Um;rw[if_neg c1,if_neg c2])⟩
 obtain⟨t,ks,hF⟩:=y;refine aB0 (aRI t ks) (G:=allG w) (λb q=>N0 w b q) (ds:=[.int .u16 r,.slice nl [] (strsD l)]) (vs:=[.int .u16 r,n]) rfl (λj d x o p=>?_) rfl rfl hF
 match j with
 |0=>simp only[QO,Qu]at o p;subst o p;exact .int _ _
 |1=>simp only[List.getElem?_cons_succ,QO,Qu]at o p;subst o p;exact i
 |j+2=>simp at o
end Go.Vd
end
