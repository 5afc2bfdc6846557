/- A part of the proof; nothing in it is assumed. -/
import Derived.Test.YtfocnoaoekkloaaGreatDoorDecidesP5
import Derived.Deep.Fields
import Derived.Deep.RegionHeld3
import Derived.Deep.RegionLawGrows
import Derived.Deep.AppendLies

set_option linter.unusedSimpArgs false
set_option linter.unusedVariables false
set_option linter.defProp false
set_option maxHeartbeats 4000000
set_option maxRecDepth 100000
open List renaming getElem?_eq_getElem→Qn,length_map→Qr,take_of_length_le→Qu,take_succ_eq_append_getElem→Qv,length_cons→Qw,getElem?_cons_zero→Qx,length_append→Qz,mem_map→QB,mem_singleton→QC,mem_cons→QE,getElem?_append_right→QF,getElem?_eq_some_iff→QH,getD→QI,mem_cons_self→QJ,drop_zero→QK,append_nil→QL,length_take→QM,getElem_mem→QN,length_drop→QO,length_filter_le→QP,pairwise_iff_getElem→QQ,map_append→QR,length_nil→QS,pairwise_append→QU,replicate→QV,filter_append→QW,pairwise_cons→QY,append_assoc→Q_,mem_cons_of_mem→Q1,drop_eq_getElem_cons→Q3,getElem?_append_left→Q4,getElem_of_mem→Q5,drop_succ_cons→Q6,mem_filter→Q8,getElem?_cons_succ→Za,take_append_drop→Zd,foldl_cons→Ze,head?_cons→Zf,takeWhile_cons→Zg,replicate_succ→Zh,mem_mergeSort→Zj,getD_eq_getElem?_getD→Zk,getElem?_map→Zl,any_eq_false→Zm,length_filterMap_le→Zo,map_cons→Zp,all_eq_true→Zq,pairwise_singleton→Zr,any_eq_true→Zs,isEmpty_iff→Zt,drop_eq_nil_of_le→Zv,mem_append→Zx,length_mergeSort→Zz,mem_of_mem_take→ZA,take_succ_cons→ZC,take_add_one→ZH,not_mem_nil→ZJ,nil_append→ZM,drop_take→ZN,take_zero→ZO,map_take→ZP,all_cons→ZQ,map_map→ZS,map→ZW
open Nat renaming le_of_ble_eq_true→Qo,zero_le→Qq,le_refl→Qt,le_trans→Qy,sub_zero→QX,lt_or_ge→Zu,not_lt_zero→Zw,le_succ→ZB,sub_self→ZF,zero_add→ZG,mul_comm→ZT,le_of_lt→ZU
open Int renaming toNat_natCast→Qp,le_refl→ZV
open Go.Proofs.Tryz renaming prog→Qs
open Bool renaming and_eq_true→QA,false_eq_true→QZ,or_eq_false_iff→Q2,or_eq_true→Q7,not_false→Zb,not_true→Zn,true_or→ZR
open Option renaming getD_some→QD,isSome_some→Q9,map_eq_some_iff→Zc,isSome_none→ZE,getD_none→ZI,bind_some→ZK
open Array renaming getElem?_eq_some_iff→QG,size_push→QT,getD_eq_getD_getElem?→Zi
open Option.some renaming injEq→Q0,inj→ZL
open List.cons renaming injEq→Zy
open Prod.mk renaming injEq→ZD
open Go.Proofs.Tryz
noncomputable section
namespace Go.Vd
open Go.Proofs Go.RowKit
def VB(l:List Op1):aE (BH l) 3=3:=Xq
def PY(l:List Op1):(BH l).length=l.length:=Qr ..
def S81:=AB [(176,Af aSV)]
def R81:=RF S81 aXY [.cell (some 4) 2,.t 3] 21
def bAv:Kq R81 81:=Az (Ai func81) (Aa aXc Ad)
def oA(f b:Bs)(d:Bool)(w:b.length<=1000000):R81 [.agg [.str f,.str b,.bool d]]=some (.tup [.agg (Ik (DT (Ch (b,d,true)))),.bool (Ch (b,d,true)).isSome]):=by
 refine Aq (Qo rfl) ?_;unfold aXY;have a:=aJw b w;rw[aHH]at a;unfold Ch;generalize Cq b=u at *;obtain⟨s,e⟩:=u;have z0:Ik sc0=[.int .i64 0,.bool false,.int .i64 0,.slice true [] []]:=rfl;cases d with
 |false=>
  simp only[true_or,if_true,DT,ZI,ZE,z0];unfold Ik at a;simp only at a;simp only[↓C2,Ie,simprocAttr,Ac S81 176,a]
  all_goals exact Qi
 |true=>
  by_cases x:e=0
  ·subst x;simp only[ne_eq,not_true_eq_false,or_self,if_false,DT,QD,Q9,reduceCtorEq];unfold Ik at a ⊢;simp only at a;simp only[↓C2,Ie,simprocAttr,Ac S81 176,a]
   all_goals exact Qi
  ·have o:(e=0)=False:=eq_false x;simp only[ne_eq,o,not_false_eq_true,or_true,if_true,DT,ZI,ZE,z0];unfold Ik at a;simp only at a;simp only[↓C2,Ie,simprocAttr,Ac S81 176,a,o,decide_false,Zb]
   all_goals exact Qi
def aIi:=AB [(80,Af R80),(168,Af aEM),(276,Af iF)]
def aJu:=RF aIi aOp [.cell (some 3) 4] 16
def aLQ:Kq aJu 178:=Az (Ai func178) (Aa aQV (Aa aCq (Aa aBF Ad)))
def Ov(p:Bs)(s:Sc)(g:p.length<=1000000)(w:s.rs.length<=1000):aJu [.str p,.agg (Ik s)]=some (.agg [.int .u8 1,.str (AO 1 p 0),.str (B1 s)]):=by
 refine Aq (Qo rfl) ?_;unfold aOp;have a:=iE w;have e:=Pd p g;have n:=My (AO 1 p 0) (B1 s);unfold Ik at a ⊢;simp only[↓C2,Ie,simprocAttr,Ac aIi 276,a,Ac aIi 80,e,Ac aIi 168,n]
 all_goals exact Qi
def zJ:=AB [(73,Af F73),(75,Af R75),(84,Af R84),(85,Af R85),(168,Af aEM),(178,Af aJu),(179,Af zR),(185,Af aSS)]
def R86:=RF zJ aXU [.cell (some 9) 10] 61
def aWe:Kq R86 86:=Az (Ai func86) (Aa aQm (Aa aHv (Aa aQU (Aa aCn (Aa aCq (Aa aLQ (Aa aCp (Aa aW8 Ad))))))))
def nY(v:Vw)(p:Bs)(s:Sc)(cas:Int)(f:Bs)(hv:IG v)(hr:¬Bd v.ms p<0)(g:p.length<=1000000)(u:f.length<=1000000)(hs:ScI s):R86 [.agg (Iq v),.str p,.agg (Ik s),.int .i64 cas,.str f]=some (.agg (IA (ED v p s cas f))):=by
 refine Aq (Qo rfl) ?_;unfold aXU;have q:=W2 (nl:=v.nlm) (l:=v.ms) (p:=p) (by have:=hv.ml;omega) (λm c=>by have:=hv.mp m c;omega) g;have ra:Bd v.ms p<(v.ms.length:Int):=by have:=Mp (v.ms.map λm=>Bu p m.1);rw[Qr]at this;exact this
 have z:(Bd v.ms p).toNat<v.ms.length:=O
 have ua:(0:Int)<=Bd v.ms p:=O
 have r:=Dc z;have j:B_ v p=(AZ v.ms (Bd v.ms p).toNat).2:=if_neg O;have k:=SJ hs.bad;have a:=aJq s (B_ v p).1 (B_ v p).2 cas (f.length:Int) O hs.nl;obtain⟨b1,b2,b3,b4⟩:=U6 k (B_ v p).1 (B_ v p).2 cas (f.length:Int);unfold ED;rw[j]at *;generalize AZ v.ms (Bd v.ms p).toNat=m at *;generalize Cr s m.2.1 m.2.2 cas (f.length:Int)=w at *;obtain⟨t,n,gone,e⟩:=w;obtain⟨m0,mq,mb⟩:=m;simp only at a b1 b2 b3 b4 r ⊢;have d:=Ov p t g O;have i:=nZ p n g;have o:=My (AO 2 p n) f;have b:=Mx p (decide (gone=[])) gone g O;unfold I0 at r;by_cases x:e=0
 ·subst x;have b5:=b4 rfl;rw[if_neg U];have la:=NF (.number n) ⟨if_pos O,by show 0<=n∧n<1000;omega,Xu⟩;unfold aAr BX Oc.op Ix IA Iq Ik at *;simp only[IL]at la;simp only[↓C2,Ie,simprocAttr,Ac zJ 73,q,ua,z,r,Ac zJ 185,a,Au];refine Al ?_;simp only[↓C2,Ie,simprocAttr,Ac zJ 185,a,Ac zJ 178,d,Ac zJ 84,i,Ac zJ 168,o,Ac zJ 179,b];refine AF.intro ⟨YB,VB _,.inr ⟨Xh,U⟩⟩ ?_;simp only[↓C2,Ie,simprocAttr,Ac zJ 85,la];refine Al ?_;simp only[↓C2,Ie,simprocAttr]
  all_goals exact Qi
 ·have fa:=eq_false x;rw[if_pos x];have y:=CC v e O;unfold BJ IA Iq Ik at *;simp only[↓C2,Ie,simprocAttr,Ac zJ 73,q,ua,z,r,Ac zJ 185,a,Au];refine Al ?_;simp only[↓C2,Ie,simprocAttr,Ac zJ 185,a,fa,decide_false,Ac zJ 75,y]
  all_goals exact Qi
def aIh:=AB [(80,Af R80),(167,Af Ow),(179,Af zR)]
def aST:=RF aIh aOn [.cell (some 9) 6] 41
def aXa:Kq aST 180:=Az (Ai func180) (Aa aQV (Aa aCr (Aa aCp Ad)))
def aJt(v:Vw)(p:Bs)(s:Sc)(hp:p.length<=1000000)(w:s.rs.length<=100):aST [.agg (Iq v),.str p,.agg (Ik s)]=some (.agg (IA {FQ (Ix v) p s.rs with rep:=IY .done})):=by
 refine Aq (Qo rfl) ?_;unfold aOn;have ia:=Pd p hp;have hk:∀k (h:k<s.rs.length),C_ (s.rs.take (k+1))=C_ (s.rs.take k)++if s.rs[k].2.2=true then []else [s.rs[k].1]:=λk h=>by
  rw[Qv h];unfold C_;rw[QW,QR];congr 1;cases hd:s.rs[k].2.2<;>simp[hd]
 unfold Iq Ik;simp only[↓C2,Ie,simprocAttr,Ac aIh 80,ia];refine AV (n:=s.rs.length) (I:=λk z=>z.s 1= .str p∧z.s 3= .ptr [0] 0∧z.s 5= .ptr [1] 0∧z.s 6= .ptr [2] 0∧z.s 8= .int .i64 (k:Int)∧∃t,z.s 7= .slice false t (BH ((2,AO 1 p 0,[])::Di p (C_ (s.rs.take k))))∧LG 3 _ 172 z.m z.c false t) (λk ea ih z g hI=>?_) (λz g hI=>?_) 0 (Qq _) _ _ ⟨rfl,rfl,rfl,rfl,rfl,_,rfl,⟨λ_ _ _=>rfl,.inr ⟨_,rfl,U,Xb,rfl⟩,Xb⟩⟩
 ·obtain⟨ja,f,fa⟩:=z;obtain⟨q,l,h5,h6,h8,t,h7,hG⟩:=hI;simp only at q l h5 h6 h8 h7 hG;refine Ae Ww.eq_1 ?_;have e:f [1] 3=some (.slice s.nl [] (AU s.rs)):=hG.low 1 3 O;have aa:((k:Int)<(s.rs.length:Int))=True:=eq_true O;have oa:(0:Int)<=(k:Int):=by omega
  have hw:IntKind.i64.wrap ((k:Int)+1)=((k+1:Nat):Int):=Iz O O;have ga:(AU s.rs)[k]?=some (rwD s.rs[k]):=by simp[AU,Qn ea]
  have a:=hk k ea;have ma:(BH ((2,AO 1 p 0,[])::Di p (C_ (s.rs.take k)))).length<=k+1:=by
   rw[PY];simp only[Di,C_,Qw,Qr];have:=QP (λx:Rw=>!x.2.2) (s.rs.take k);rw[QM]at this;omega
  generalize s.rs[k]=x at *;obtain⟨xn,xg,xd⟩:=x;unfold rwD at ga;simp only at ga a;have b:zR [.str p,.slice false [] [.int .i64 xn]]=some (.slice false [] [.agg [.int .u8 2,.str (AO 2 p xn),.str []]]):=Mx p false [xn] hp U;cases xd with
  |true=>
   simp only[↓C2,Ie,simprocAttr,q,h5,h8,h7,e,aa,As,oa,Qp,ga,hw];rw[if_pos rfl,QL]at a;refine ih _ _ ⟨q,l,h5,h6,rfl,t,by rw[a];exact h7,hG.more Xb⟩
  |false=>
   rw[if_neg Z]at a;simp only[↓C2,Ie,simprocAttr,q,h5,h8,h7,e,aa,As,oa,Qp,ga,Ac aIh 179,b];refine AF.intro ⟨O,rfl,Xw⟩ ?_;simp only[↓C2,Ie,simprocAttr,h8,hw];refine ih _ _ ⟨q,l,h5,h6,rfl,_,congrArg (D.slice false _) ?_,hG.put.app (xs:=BH ((2,AO 1 p 0,[])::Di p (C_ (s.rs.take k)))) O Xb⟩;rw[a];simp[BH,Di,opD]
 ·obtain⟨ja,f,fa⟩:=z;obtain⟨q,l,h5,h6,h8,t,h7,hG⟩:=hI;simp only at q l h5 h6 h8 h7 hG;refine Ae Ww.eq_1 ?_;have pa:f [0] 0=some (.bool v.se):=hG.low 0 0 O;have i:f [0] 1=some (.int .i64 v.te):=hG.low 0 1 O;have d:f [0] 2=some (.str v.key):=hG.low 0 2 O;have r:f [0] 3=some (.slice v.nlm [] (Ar v.ms)):=hG.low 0 3 O;have ra:f [0] 4=some (.slice v.nlt [] (Ay v.ks)):=hG.low 0 4 O;have e:f [1] 3=some (.slice s.nl [] (AU s.rs)):=hG.low 1 3 O;have u:f [2] 0=some (.str []):=hG.low 2 0 O;have y:f [2] 1=some (.bool false):=hG.low 2 1 O;have o:f [2] 2=some (.str []):=hG.low 2 2 O;have j:f [2] 3=some (.slice true [] []):=hG.low 2 3 O;have va:f [2] 4=some (.bool false):=hG.low 2 4 O;have ha:f [2] 5=some (.int .i64 0):=hG.low 2 5 O;have sa:f [2] 6=some (.str []):=hG.low 2 6 O;have qa:f [2] 7=some (.slice true [] []):=hG.low 2 7 O;have na:f [2] 8=some (.slice true [] []):=hG.low 2 8 O;have aa:((s.rs.length:Int)<(s.rs.length:Int))=False:=eq_false O;rw[Qu (Qt _)]at h7;have ca:=ER v false ((2,AO 1 p 0,[])::Di p (C_ s.rs));unfold IA Iq at *;simp only[↓C2,Ie,simprocAttr,q,l,h5,h6,h8,h7,e,aa,As,pa,i,d,r,ra,Ac aIh 167,ca,u,y,o,j,va,ha,sa,qa,na]
  all_goals exact Qi
def pT(s:Sc)(n:Int):0<=(El s n).2∧(El s n).2<=99:=by
 grind [El]
def aBk{s:Sc}(j:ScI s){n:Int}(h:(El s n).2=0):1<=(El s n).1.1∧(El s n).1.1<=30:=by
 have i:=GK j.bad;unfold El at h ⊢;split at h
 ·cases h
 ·rename_i u;rw[if_neg u];split at h
  ·cases h
  ·rename_i q;rw[if_neg q];split at h
   ·cases h
   ·rename_i o;rw[if_neg o];have v:E8 s n<s.rs.length:=by
     unfold E8;split
     ·omega
     ·exact Ul _ _
    simp only[QI];rw[Qn O];have z:=Sd i.2.2.2.2.1 _ (QN (l:=s.rs) (n:=(E8 s n).toNat) O);have x:(s.rs.getLast?.map (·.1)).getD 0=Li s.rs:=by unfold Li;cases s.rs.getLast?<;>rfl
    rw[x,i.2.2.2.2.2]at z;simp only[QD];omega
def Oj(v:Vw)(a:Ak)(k:Kn):Oc:=
 if(AW k a.pa).2.2=false then DW v (AO 1 a.pa 0) false
 else if a.op=10 then ED v a.pa (DT (Ch (AW k a.pa))) a.cas a.da
 else if a.op=15 then ET v a.pa (CO (DT (Ch (AW k a.pa))) (B_ v a.pa).1 a.n a.fl).1 (CO (DT (Ch (AW k a.pa))) (B_ v a.pa).1 a.n a.fl).2.1 (CO (DT (Ch (AW k a.pa))) (B_ v a.pa).1 a.n a.fl).2.2
 else match Ch (AW k a.pa)with
  |none=>BJ v 6
  |some s=>if a.op=14 then {Ix v with rep:=IY (.about s)}else if a.op=16 then {FQ (Ix v) a.pa s.rs with rep:=IY .done}
   else if a.op=11 then ET v a.pa (Be s a.ns 250).1 [] (Be s a.ns 250).2.2 else if a.op=12 then ET v a.pa (Be s a.ns 251).1 [] (Be s a.ns 251).2.2
   else ET v a.pa (Be s a.ns 252).1 (Be s a.ns 252).2.1 (Be s a.ns 252).2.2
def aZE{v:Vw}{a:Ak}{k:Kn}(t:PH v)(q:aAm a)(j:NG k)(oa:10<=a.op∧a.op<=16):∃ol,U1 ⟨v,a,k⟩ (Ix v) []=some (.tup [],Oj v a k,ol):=by
 have g:a.pa.length<=1000000:=by have:=q.ok.pa;omega
 have l:a.da.length<=1000000:=by have:=q.ok.da;omega
 have f:=q.ok.ns;unfold Oj;cases hm:(AW k a.pa).2.2 with
 |false=>
  rw[if_pos rfl];exact⟨_,aEj ⟨v,a,k⟩ (Ix v) _ _ _ (λ_=>rfl) (Mb j g hm)⟩
 |true=>
  rw[if_neg Z];have z:=HD (v:=v) (a:=a) j g hm;have u:=Ft (AW k a.pa);by_cases la:a.op=10
  ·rw[if_pos la];obtain⟨ol,e⟩:=aPQ (a:=a) (k:=k) t g u (cas:=a.cas) (data:=a.da) l;exact⟨_,yY ⟨v,a,k⟩ (Ix v) _ _ _ _ (λ_=>rfl) z la e⟩
  rw[if_neg la];by_cases r:a.op=15
  ·rw[if_pos r];have w:=u.len;obtain⟨o,d,i⟩:=SW w (B_ v a.pa).1 a.n a.fl;obtain⟨ol,x⟩:=aFK (v:=v) (a:=a) (k:=k) (s:=(CO (DT (Ch (AW k a.pa))) (B_ v a.pa).1 a.n a.fl).1) O (gnl:=decide ((CO (DT (Ch (AW k a.pa))) (B_ v a.pa).1 a.n a.fl).2.1=[])) (gone:=(CO (DT (Ch (AW k a.pa))) (B_ v a.pa).1 a.n a.fl).2.1) O o g;exact⟨_,nQ ⟨v,a,k⟩ (Ix v) _ _ _ _ (λ_=>rfl) z r (B_ v a.pa).1 (B_ v a.pa).2 _ _ _ _ x (WS ⟨v,a,k⟩ (Ix v) a.pa (λ_=>rfl) (by have:=t.ml;simp only;omega)) (aJP _ _ _ _ _ O u.nl)⟩
  rw[if_neg r];cases hs:Ch (AW k a.pa)with
  |none=>
   rw[hs]at z;exact⟨_,aEi ⟨v,a,k⟩ (Ix v) _ _ _ (λ_=>rfl) z la r (uH v a k Z)⟩
  |some s=>
   rw[hs]at z;have b:=pO hs;have w:=b.len;simp only;by_cases m:a.op=14
   ·rw[if_pos m];exact⟨_,zA ⟨v,a,k⟩ (Ix v) s _ _ (λ_=>rfl) z m (H8 ⟨v,a,k⟩ (Ix v) (.about s) (λ_=>rfl) (show s.rs.length<=1000 by omega) trivial)⟩
   rw[if_neg m];by_cases ta:a.op=16
   ·rw[if_pos ta];exact⟨_,yZ ⟨v,a,k⟩ (Ix v) s _ _ (λ_=>rfl) z ta (aIa ⟨v,a,k⟩ (Ix v) s (Lg v) O g)⟩
   rw[if_neg ta];by_cases y:a.op=11
   ·rw[if_pos y];obtain⟨o,d,i⟩:=FI w a.ns 250;obtain⟨ol,x⟩:=aFK (v:=v) (a:=a) (k:=k) (s:=(Be s a.ns 250).1) O (gnl:=true) (gone:=[]) (Qq _) o g;exact⟨_,nP ⟨v,a,k⟩ (Ix v) s _ _ (λ_=>rfl) z y _ _ x (aJN s _ _ O b.nl f)⟩
   rw[if_neg y];by_cases p:a.op=12
   ·rw[if_pos p];obtain⟨o,d,i⟩:=FI w a.ns 251;obtain⟨ol,x⟩:=aFK (v:=v) (a:=a) (k:=k) (s:=(Be s a.ns 251).1) O (gnl:=true) (gone:=[]) (Qq _) o g;exact⟨_,WN ⟨v,a,k⟩ (Ix v) s _ _ (λ_=>rfl) z p _ _ x (aJL s _ _ O b.nl f)⟩
   rw[if_neg p];have c:a.op=13:=O
   obtain⟨o,d,i⟩:=FI w a.ns 252;obtain⟨ol,x⟩:=aFK (v:=v) (a:=a) (k:=k) (s:=(Be s a.ns 252).1) O (gnl:=decide ((Be s a.ns 252).2.1=[])) (gone:=(Be s a.ns 252).2.1) O o g;exact⟨_,gK ⟨v,a,k⟩ (Ix v) s _ _ (λ_=>rfl) z c _ _ _ _ x (aJJ s _ _ O b.nl f)⟩
def MV(v:Vw)(a:Ak)(k:Kn):Oc:=
 if(MF k ([109,47]++a.pa++[47])).2.2=false then DW v ([109,47]++a.pa++[47]) true
 else {Ix v with rep:=IY (.names (decide (CZ a.pa (A1 (MF k ([109,47]++a.pa++[47])).2.1)=[])) ((NC a.pa (A1 (MF k ([109,47]++a.pa++[47])).2.1)).take 64))}
def VL{y:Bs}{l:List Bs}(h:CZ y l=[]):NC y l=[]:=by unfold NC PK;rw[h,List.mergeSort_nil];rfl
def dA{l:List Bs}(h:∀s∈l,s.length<=1000000):∀s∈A1 l,s.length<=1000000:=λs j=>Qy (Mg (Pr j)) Z
def aDo{v:Vw}{a:Ak}(t:PH v)(q:aAm a)(s:F25 [IJ v,IB a]=some (.int .i64 0))(u:a.op=17):aZB v a (MV v a):=by
 have g:a.pa.length<=1000000:=by have:=q.ok.pa;omega
 refine⟨λk j=>?_,λk j f=>?_,λk j f=>?_⟩
 ·have w:k.ls.length<=1000:=by have:=j.ls;omega
  have r:=aJS k ([109,47]++a.pa++[47]) w;unfold MV;cases hm:(MF k ([109,47]++a.pa++[47])).2.2 with
  |false=>
   rw[if_pos rfl];rw[hm]at r;exact BT .o17 a k u s _ _ (aEk Fc ⟨v,a,k⟩ (Ix v) _ _ (λ_=>rfl) _ _ g r (RT ⟨v,a,k⟩ (Ix v) _ _ (Lg v)))
  |true=>
   rw[if_neg Z];rw[hm]at r;obtain⟨o,m⟩:=aQv j ([109,47]++a.pa++[47]);generalize (MF k ([109,47]++a.pa++[47])).2.1=d at *;have c:=vJ d;have z:=aRt a.pa (A1 d);exact BT .o17 a k u s _ _ (aRC Fc ⟨v,a,k⟩ (Ix v) _ (λ_=>rfl) _ _ g r o m (decide (CZ a.pa (A1 d)=[])) (NC a.pa (A1 d)) (λb _=>aJ2 O (dA m)) O (λe=>VL (of_decide_eq_true e)) (H8 ⟨v,a,k⟩ (Ix v) (.names _ _) (λ_=>rfl) (by show((NC a.pa (A1 d)).take 64).length<=1000;rw[QM];omega) (λe=>by rw[VL (of_decide_eq_true e)];rfl)))
 ·unfold MV at f ⊢;cases hm:(MF k ([109,47]++a.pa++[47])).2.2 with
  |false=>rw[hm,if_pos rfl]at f;simp[DW]at f
  |true=>
   rw[if_neg Z];exact aCS (.names _ _) (if_pos ⟨Xg,fL _ _⟩) (λe=>by rw[VL (of_decide_eq_true e)];rfl) rfl (by intro e h;cases h) (aTC O) rfl v.se rfl
 ·unfold MV at f ⊢;cases hm:(MF k ([109,47]++a.pa++[47])).2.2 with
  |true=>rw[hm,if_neg Z]at f;exact absurd rfl f
  |false=>exact⟨_,_,if_pos rfl⟩
def Tq(v:Vw)(a:Ak)(s:Sc)(x:Bool):Oc:=
 if a.op=10 then ED v a.pa s a.cas a.da
 else if a.op=15 then ET v a.pa (CO s (B_ v a.pa).1 a.n a.fl).1 (CO s (B_ v a.pa).1 a.n a.fl).2.1 (CO s (B_ v a.pa).1 a.n a.fl).2.2
 else if x=false then BJ v 6
 else if a.op=14 then {Ix v with rep:=IY (.about s)}else if a.op=16 then {FQ (Ix v) a.pa s.rs with rep:=IY .done}
 else if a.op=11 then ET v a.pa (Be s a.ns 250).1 [] (Be s a.ns 250).2.2 else if a.op=12 then ET v a.pa (Be s a.ns 251).1 [] (Be s a.ns 251).2.2
 else ET v a.pa (Be s a.ns 252).1 (Be s a.ns 252).2.1 (Be s a.ns 252).2.2
def mU(v:Vw)(a:Ak)(k:Kn):Oj v a k=if(AW k a.pa).2.2=false then DW v (AO 1 a.pa 0) false else Tq v a (DT (Ch (AW k a.pa))) (Ch (AW k a.pa)).isSome:=by
 grind [Oj,Tq,Ch,AW,DT]
def MT(p:Sc×Nat×Bool×List Int):List D:=[.agg (Ik p.1),.int .i64 (p.2.1:Int),.slice p.2.2.1 [] (AE p.2.2.2)]
def Nf(p:Sc×Nat×Bool×List Int):D:= .tup [.agg (Ik (Be p.1 p.2.2.2 (250+p.2.1)).1),.slice (decide ((if p.2.1=2 then(Be p.1 p.2.2.2 (250+p.2.1)).2.1 else [])=[])) [] (AE (if p.2.1=2 then(Be p.1 p.2.2.2 (250+p.2.1)).2.1 else [])),.int .i64 (Be p.1 p.2.2.2 (250+p.2.1)).2.2]
def ON(x y)(h:MT x=MT y):x=y:=by
 grind [MT,Vi,SD]
def TL:List D->Option D:=FX MT (λp=>p.1.rs.length<=6∧(p.1.nl=true->p.1.rs=[])∧p.2.1<=2∧p.2.2.2.length<=1000) Nf
def W_{s:Sc}{k:Nat}{nl:Bool}{ns:List Int}(h:s.rs.length<=6)(f:s.nl=true->s.rs=[])(j:k<=2)(w:ns.length<=1000):TL [.agg (Ik s),.int .i64 (k:Int),.slice nl [] (AE ns)]=some (Nf (s,k,nl,ns)):=Bl (mk:=MT) (a:=(s,k,nl,ns)) ON ⟨h,f,j,w⟩
def Lk:=AB [(73,Af F73),(75,Af R75),(85,Af R85),(86,Af R86),(167,Af Ow),(177,Af aSU),(178,Af aJu),(179,Af zR),(180,Af aST),(181,Af TL)]
def R82:=RF Lk aRg [.cell (some 9) 8] 121
def bAu(ok181:Kq TL 181):Kq R82 82:=Az (Ai func82:Fn Qs 82 121 aRg [.cell (some 9) 8]) (Aa aQm (Aa aHv (Aa aCn (Aa aWe (Aa aCr (Aa aXb (Aa aLQ (Aa aCp (Aa aXa (Aa ok181 Ad))))))))))
def aR3(v:Vw)(a:Ak)(s:Sc)(is:Bool)(hv:IG v)(ha:ID a)(hr:¬Bd v.ms a.pa<0)(hs:ScI s)(oa:10<=a.op∧a.op<=16):R82 [.agg (Iq v),.agg (It a),.agg (Ik s),.bool is]=some (.agg (IA (Tq v a s is))):=by
 refine Aq (Qo rfl) ?_;unfold aRg;have hp:a.pa.length<=1000000:=by have:=ha.pa;omega
 have hd:a.da.length<=1000000:=by have:=ha.da;omega
 have hn:=ha.ns;have h6:=SJ hs.bad;unfold Tq;rcases(by omega:a.op=10∨a.op=15∨a.op=11∨a.op=12∨a.op=13∨a.op=14∨a.op=16)with h|h|h|h|h|h|h
 ·have r:=nY v a.pa s a.cas a.da hv hr hp hd hs;have hq:IntKind.i64.wrap 10=10:=rfl;rw[if_pos h];generalize ED v a.pa s a.cas a.da=o at *;unfold IA It Iq Ik at *;rw[h]at *;simp only[↓C2,Ie,reduceIte,Nat.reduceEqDiff,Nat.reduceAdd,Nat.reduceLT,Nat.reduceLeDiff,Nat.reduceSub,reduceCtorEq,Int.reduceEq,Int.reduceNe,Int.reduceLT,Int.reduceLE,hq,Ac Lk 86,r]
  all_goals exact Qi
 ·have hq:IntKind.i64.wrap 15=15:=rfl;rw[if_neg O,if_pos h];have q:=W2 (nl:=v.nlm) (l:=v.ms) (p:=a.pa) (by have:=hv.ml;omega) (λm hm=>by have:=hv.mp m hm;omega) hp;have ra:Bd v.ms a.pa<(v.ms.length:Int):=by have:=Mp (v.ms.map λm=>Bu a.pa m.1);rw[Qr]at this;exact this
  have z:(Bd v.ms a.pa).toNat<v.ms.length:=O
  have ua:(0:Int)<=Bd v.ms a.pa:=O
  have ga:=Dc z;have j:B_ v a.pa=(AZ v.ms (Bd v.ms a.pa).toNat).2:=if_neg O;have i:=aJv s (B_ v a.pa).1 (B_ v a.pa).2 a.n a.fl O hs.nl;obtain⟨b1,b2,b3⟩:=SW h6 (B_ v a.pa).1 a.n a.fl;rw[j]at *;generalize AZ v.ms (Bd v.ms a.pa).toNat=m at *;generalize CO s m.2.1 a.n a.fl=w at *;obtain⟨t,gone,e⟩:=w;obtain⟨m0,mq,mb⟩:=m;simp only at i b1 b2 b3 ga ⊢;unfold I0 at ga;unfold ET;by_cases he:e=0
  ·subst he;rw[if_neg U];have d:=Ov a.pa t hp O;have b:=Mx a.pa (decide (gone=[])) gone hp O;have ca:Ow [.agg (Iq v),.slice false [] (.agg [.int .u8 1,.str (AO 1 a.pa 0),.str (B1 t)]::BH (Di a.pa gone))]=_:=ER v false ((1,AO 1 a.pa 0,B1 t)::Di a.pa gone);unfold M7 BX Oc.op Ix IA It Iq Ik at *;rw[h]at *;simp only[↓C2,Ie,reduceIte,Nat.reduceEqDiff,Nat.reduceAdd,Nat.reduceLT,Nat.reduceLeDiff,Nat.reduceSub,reduceCtorEq,Int.reduceEq,Int.reduceNe,Int.reduceLT,Int.reduceLE,hq,Ac Lk 73,q,ua,z,ga,Au,Ac Lk 177,i];refine Al ?_;simp only[↓C2,Ie,reduceIte,Nat.reduceEqDiff,Nat.reduceAdd,Nat.reduceLT,Nat.reduceLeDiff,Nat.reduceSub,reduceCtorEq,Int.reduceEq,Int.reduceNe,Int.reduceLT,Int.reduceLE,Ac Lk 177,i,Ac Lk 178,d,Ac Lk 179,b];refine AF.intro ⟨YB,VB _,.inr ⟨Xh,U⟩⟩ ?_;simp only[↓C2,Ie,reduceIte,Nat.reduceEqDiff,Nat.reduceAdd,Nat.reduceLT,Nat.reduceLeDiff,Nat.reduceSub,reduceCtorEq,Int.reduceEq,Int.reduceNe,Int.reduceLT,Int.reduceLE,Ac Lk 167,ca];refine Al ?_;simp only[↓C2,Ie,reduceIte,Nat.reduceEqDiff,Nat.reduceAdd,Nat.reduceLT,Nat.reduceLeDiff,Nat.reduceSub,reduceCtorEq,Int.reduceEq,Int.reduceNe,Int.reduceLT,Int.reduceLE]
   all_goals exact Qi
  ·have fa:=eq_false he;rw[if_pos he];have y:=CC v e O;unfold BJ IA It Iq Ik at *;rw[h]at *;simp only[↓C2,Ie,reduceIte,Nat.reduceEqDiff,Nat.reduceAdd,Nat.reduceLT,Nat.reduceLeDiff,Nat.reduceSub,reduceCtorEq,Int.reduceEq,Int.reduceNe,Int.reduceLT,Int.reduceLE,hq,Ac Lk 73,q,ua,z,ga,Au,Ac Lk 177,i];refine Al ?_;simp only[↓C2,Ie,reduceIte,Nat.reduceEqDiff,Nat.reduceAdd,Nat.reduceLT,Nat.reduceLeDiff,Nat.reduceSub,reduceCtorEq,Int.reduceEq,Int.reduceNe,Int.reduceLT,Int.reduceLE,Ac Lk 177,i,fa,decide_false,Ac Lk 75,y]
   all_goals exact Qi
 ·have hq:IntKind.i64.wrap 11=11:=rfl;have g:IntKind.i64.wrap (11-11)=0:=rfl;cases is with
  |false=>
   rw[if_neg O,if_neg O,if_pos rfl];have y:=CC v 6 Z;unfold BJ IA It Iq Ik at *;rw[h]at *;simp only[↓C2,Ie,reduceIte,Nat.reduceEqDiff,Nat.reduceAdd,Nat.reduceLT,Nat.reduceLeDiff,Nat.reduceSub,reduceCtorEq,Int.reduceEq,Int.reduceNe,Int.reduceLT,Int.reduceLE,hq,Ac Lk 75,y]
   all_goals exact Qi
  |true=>
   rw[if_neg O,if_neg O,if_neg Z,if_neg O,if_neg O,if_pos h];have c:TL [.agg (Ik s),.int .i64 0,.slice a.nln [] (AE a.ns)]=some (.tup [.agg (Ik (Be s a.ns 250).1),.slice true [] [],.int .i64 (Be s a.ns 250).2.2]):=W_ (k:=0) h6 hs.nl Z hn;obtain⟨b1,b2,b3⟩:=FI h6 a.ns 250;generalize Be s a.ns 250=w at *;obtain⟨t,gone,e⟩:=w;simp only at c b1 b2 b3 ⊢;unfold ET;by_cases he:e=0
   ·subst he;rw[if_neg U];have d:=Ov a.pa t hp O;have b:=Mx a.pa (decide (gone=[])) gone hp O;have ca:=ER v false ((1,AO 1 a.pa 0,B1 t)::Di a.pa []);unfold M7 BX Oc.op Ix IA It Iq Ik at *;rw[h]at *;simp only[↓C2,Ie,reduceIte,Nat.reduceEqDiff,Nat.reduceAdd,Nat.reduceLT,Nat.reduceLeDiff,Nat.reduceSub,reduceCtorEq,Int.reduceEq,Int.reduceNe,Int.reduceLT,Int.reduceLE,hq,g,Ac Lk 181,c,Ac Lk 178,d,Ac Lk 179,b];have f:Ow [.agg (Iq v),.slice false [] [.agg [.int .u8 1,.str (AO 1 a.pa 0),.str (B1 t)]]]=_:=ca;unfold Iq at f;simp only[↓C2,Ie,reduceIte,Nat.reduceEqDiff,Nat.reduceAdd,Nat.reduceLT,Nat.reduceLeDiff,Nat.reduceSub,reduceCtorEq,Int.reduceEq,Int.reduceNe,Int.reduceLT,Int.reduceLE,Ac Lk 167,f]
    all_goals exact Qi
   ·have fa:=eq_false he;rw[if_pos he];have y:=CC v e O;unfold BJ IA It Iq Ik at *;rw[h]at *;simp only[↓C2,Ie,reduceIte,Nat.reduceEqDiff,Nat.reduceAdd,Nat.reduceLT,Nat.reduceLeDiff,Nat.reduceSub,reduceCtorEq,Int.reduceEq,Int.reduceNe,Int.reduceLT,Int.reduceLE,hq,g,Ac Lk 181,c,fa,decide_false,Ac Lk 75,y]
    all_goals exact Qi
 ·have hq:IntKind.i64.wrap 12=12:=rfl;have g:IntKind.i64.wrap (12-11)=1:=rfl;cases is with
  |false=>
   rw[if_neg O,if_neg O,if_pos rfl];have y:=CC v 6 Z;unfold BJ IA It Iq Ik at *;rw[h]at *;simp only[↓C2,Ie,reduceIte,Nat.reduceEqDiff,Nat.reduceAdd,Nat.reduceLT,Nat.reduceLeDiff,Nat.reduceSub,reduceCtorEq,Int.reduceEq,Int.reduceNe,Int.reduceLT,Int.reduceLE,hq,Ac Lk 75,y]
   all_goals exact Qi
  |true=>
   rw[if_neg O,if_neg O,if_neg Z,if_neg O,if_neg O,if_neg O,if_pos h];have c:TL [.agg (Ik s),.int .i64 1,.slice a.nln [] (AE a.ns)]=some (.tup [.agg (Ik (Be s a.ns 251).1),.slice true [] [],.int .i64 (Be s a.ns 251).2.2]):=W_ (k:=1) h6 hs.nl Z hn;obtain⟨b1,b2,b3⟩:=FI h6 a.ns 251;generalize Be s a.ns 251=w at *;obtain⟨t,gone,e⟩:=w;simp only at c b1 b2 b3 ⊢;unfold ET;by_cases he:e=0
   ·subst he;rw[if_neg U];have d:=Ov a.pa t hp O;have b:=Mx a.pa (decide (gone=[])) gone hp O;have ca:=ER v false ((1,AO 1 a.pa 0,B1 t)::Di a.pa []);unfold M7 BX Oc.op Ix IA It Iq Ik at *;rw[h]at *;simp only[↓C2,Ie,reduceIte,Nat.reduceEqDiff,Nat.reduceAdd,Nat.reduceLT,Nat.reduceLeDiff,Nat.reduceSub,reduceCtorEq,Int.reduceEq,Int.reduceNe,Int.reduceLT,Int.reduceLE,hq,g,Ac Lk 181,c,Ac Lk 178,d,Ac Lk 179,b];have f:Ow [.agg (Iq v),.slice false [] [.agg [.int .u8 1,.str (AO 1 a.pa 0),.str (B1 t)]]]=_:=ca;unfold Iq at f;simp only[↓C2,Ie,reduceIte,Nat.reduceEqDiff,Nat.reduceAdd,Nat.reduceLT,Nat.reduceLeDiff,Nat.reduceSub,reduceCtorEq,Int.reduceEq,Int.reduceNe,Int.reduceLT,Int.reduceLE,Ac Lk 167,f]
    all_goals exact Qi
   ·have fa:=eq_false he;rw[if_pos he];have y:=CC v e O;unfold BJ IA It Iq Ik at *;rw[h]at *;simp only[↓C2,Ie,reduceIte,Nat.reduceEqDiff,Nat.reduceAdd,Nat.reduceLT,Nat.reduceLeDiff,Nat.reduceSub,reduceCtorEq,Int.reduceEq,Int.reduceNe,Int.reduceLT,Int.reduceLE,hq,g,Ac Lk 181,c,fa,decide_false,Ac Lk 75,y]
    all_goals exact Qi
 ·have hq:IntKind.i64.wrap 13=13:=rfl;have g:IntKind.i64.wrap (13-11)=2:=rfl;cases is with
  |false=>
   rw[if_neg O,if_neg O,if_pos rfl];have y:=CC v 6 Z;unfold BJ IA It Iq Ik at *;rw[h]at *;simp only[↓C2,Ie,reduceIte,Nat.reduceEqDiff,Nat.reduceAdd,Nat.reduceLT,Nat.reduceLeDiff,Nat.reduceSub,reduceCtorEq,Int.reduceEq,Int.reduceNe,Int.reduceLT,Int.reduceLE,hq,Ac Lk 75,y]
   all_goals exact Qi
  |true=>
   rw[if_neg O,if_neg O,if_neg Z,if_neg O,if_neg O,if_neg O,if_neg O];have c:TL [.agg (Ik s),.int .i64 2,.slice a.nln [] (AE a.ns)]=some (.tup [.agg (Ik (Be s a.ns 252).1),.slice (decide ((Be s a.ns 252).2.1=[])) [] (AE (Be s a.ns 252).2.1),.int .i64 (Be s a.ns 252).2.2]):=W_ (k:=2) h6 hs.nl Z hn;obtain⟨b1,b2,b3⟩:=FI h6 a.ns 252;generalize Be s a.ns 252=w at *;obtain⟨t,gone,e⟩:=w;simp only at c b1 b2 b3 ⊢;unfold ET;by_cases he:e=0
   ·subst he;rw[if_neg U];have d:=Ov a.pa t hp O;have b:=Mx a.pa (decide (gone=[])) gone hp O;have ca:Ow [.agg (Iq v),.slice false [] (.agg [.int .u8 1,.str (AO 1 a.pa 0),.str (B1 t)]::BH (Di a.pa gone))]=_:=ER v false ((1,AO 1 a.pa 0,B1 t)::Di a.pa gone);unfold M7 BX Oc.op Ix IA It Iq Ik at *;rw[h]at *;simp only[↓C2,Ie,reduceIte,Nat.reduceEqDiff,Nat.reduceAdd,Nat.reduceLT,Nat.reduceLeDiff,Nat.reduceSub,reduceCtorEq,Int.reduceEq,Int.reduceNe,Int.reduceLT,Int.reduceLE,hq,g,Ac Lk 181,c,Ac Lk 178,d,Ac Lk 179,b];refine AF.intro ⟨YB,VB _,.inr ⟨Xh,U⟩⟩ ?_;simp only[↓C2,Ie,reduceIte,Nat.reduceEqDiff,Nat.reduceAdd,Nat.reduceLT,Nat.reduceLeDiff,Nat.reduceSub,reduceCtorEq,Int.reduceEq,Int.reduceNe,Int.reduceLT,Int.reduceLE,Ac Lk 167,ca]
    all_goals exact Qi
   ·have fa:=eq_false he;rw[if_pos he];have y:=CC v e O;unfold BJ IA It Iq Ik at *;rw[h]at *;simp only[↓C2,Ie,reduceIte,Nat.reduceEqDiff,Nat.reduceAdd,Nat.reduceLT,Nat.reduceLeDiff,Nat.reduceSub,reduceCtorEq,Int.reduceEq,Int.reduceNe,Int.reduceLT,Int.reduceLE,hq,g,Ac Lk 181,c,fa,decide_false,Ac Lk 75,y]
    all_goals exact Qi
 ·have hq:IntKind.i64.wrap 14=14:=rfl;cases is with
  |false=>
   rw[if_neg O,if_neg O,if_pos rfl];have y:=CC v 6 Z;unfold BJ IA It Iq Ik at *;rw[h]at *;simp only[↓C2,Ie,reduceIte,Nat.reduceEqDiff,Nat.reduceAdd,Nat.reduceLT,Nat.reduceLeDiff,Nat.reduceSub,reduceCtorEq,Int.reduceEq,Int.reduceNe,Int.reduceLT,Int.reduceLE,hq,Ac Lk 75,y]
   all_goals exact Qi
  |true=>
   rw[if_neg O,if_neg O,if_neg Z,if_pos h];have la:=NF (.about s) ⟨if_neg (by rw[hs.bad];decide),by
    obtain⟨_,q1,q2,_⟩:=GK hs.bad;exact⟨O,O,O,λx hx=>by have:=aF8 hs x hx;omega⟩,Xu⟩
   simp only[IL]at la;unfold Ix IA It Iq Ik at *;rw[h]at *;simp only[↓C2,Ie,reduceIte,Nat.reduceEqDiff,Nat.reduceAdd,Nat.reduceLT,Nat.reduceLeDiff,Nat.reduceSub,reduceCtorEq,Int.reduceEq,Int.reduceNe,Int.reduceLT,Int.reduceLE,hq,Ac Lk 85,la];refine Al ?_;simp only[↓C2,Ie,reduceIte,Nat.reduceEqDiff,Nat.reduceAdd,Nat.reduceLT,Nat.reduceLeDiff,Nat.reduceSub,reduceCtorEq,Int.reduceEq,Int.reduceNe,Int.reduceLT,Int.reduceLE]
   all_goals exact Qi
 ·have hq:IntKind.i64.wrap 16=16:=rfl;cases is with
  |false=>
   rw[if_neg O,if_neg O,if_pos rfl];have y:=CC v 6 Z;unfold BJ IA It Iq Ik at *;rw[h]at *;simp only[↓C2,Ie,reduceIte,Nat.reduceEqDiff,Nat.reduceAdd,Nat.reduceLT,Nat.reduceLeDiff,Nat.reduceSub,reduceCtorEq,Int.reduceEq,Int.reduceNe,Int.reduceLT,Int.reduceLE,hq,Ac Lk 75,y]
   all_goals exact Qi
  |true=>
   rw[if_neg O,if_neg O,if_neg Z,if_neg O,if_pos h];have u:=aJt v a.pa s hp O;generalize ({FQ (Ix v) a.pa s.rs with rep:=IY .done}:Oc)=o at *;unfold IA It Iq Ik at *;rw[h]at *;simp only[↓C2,Ie,reduceIte,Nat.reduceEqDiff,Nat.reduceAdd,Nat.reduceLT,Nat.reduceLeDiff,Nat.reduceSub,reduceCtorEq,Int.reduceEq,Int.reduceNe,Int.reduceLT,Int.reduceLE,hq,Ac Lk 180,u]
   all_goals exact Qi
def aQ2{s:Bs}{c:UInt8}{k:Nat}(h:s[k]?=some c)(x:∀i,i<k->s[i]?≠some c):Lib.indexByte s c=k:=by
 have u:=Lib.indexByte_ge s c;by_cases q:Lib.indexByte s c=-1
 ·exact absurd h (Lib.indexByte_none q k)
 ·obtain⟨o,r⟩:∃o:Nat,Lib.indexByte s c=o:=⟨(Lib.indexByte s c).toNat,O⟩;obtain⟨a,b⟩:=Lib.indexByte_some r;rw[r];rcases Nat.lt_trichotomy o k with h3|h3|h3
  ·exact absurd a (x o h3)
  ·rw[h3]
  ·exact absurd h (b k h3)
def aQ1{s:Bs}{c:UInt8}(x:∀i,i<s.length->s[i]?≠some c):Lib.indexByte s c=-1:=by
 have u:=Lib.indexByte_ge s c;by_cases q:Lib.indexByte s c=-1
 ·exact q
 ·obtain⟨o,r⟩:∃o:Nat,Lib.indexByte s c=o:=⟨(Lib.indexByte s c).toNat,O⟩;obtain⟨a,_⟩:=Lib.indexByte_some r;exact absurd a (x o (QH.1 a).1)
def aGm{s y:Bs}(h:Bu s y=true):Dp s y=if y=[]then s else s.drop (y.length+1):=by
 unfold Bu at h;unfold Dp;by_cases c:y=[]
 ·rw[if_pos c,if_pos c]
 ·simp_all
def yX{s y:Bs}(h:Bu s y=true)(c:y≠[]):y.length+1<=s.length:=by
 unfold Bu at h;rw[if_neg c]at h;simp only[QA]at h;have q:=LS h.2;simp only[QO,Qw,QS]at q;omega
def zK:=AB [(165,Af oO)]
def aSI:=RF zK aNb [.t 4,.t 5] 35
def aWP:Kq aSI 273:=Az (Ai func273) (Aa aLp Ad)
def aI4(s y:Bs)(m:s.length<=1000000)(ht:y.length<=1000000):aSI [.str s,.str y]=some (.tup [.str (BO s y).1,.bool (BO s y).2]):=by
 refine Aq (Qo rfl) ?_;unfold aNb;have a:oO [.str s,.str y]=some (.bool (Bu s y)):=if_pos ⟨m,ht⟩;unfold BO;cases hb:Bu s y with
 |false=>
  rw[hb]at a;rw[if_pos rfl];simp only[↓C2,Ie,simprocAttr,Ac zK 165,a,Zb]
  all_goals exact Qi
 |true=>
  rw[hb]at a;rw[if_neg Z,aGm hb];have e:∀(t:Bs),t.length<=1000000->∀(z:St) g,z.s 6= .str t->z.s 7= .int .i64 ((0:Nat):Int)->A2 zK [] Rd (NE 0 (vA zK [] (.seq (.row [⟨some 34,.mv (.t 6),[],none⟩,⟨some 4,.mv (.t 34),[],none⟩,⟨some 5,.mv (.c (.bool true)),[],none⟩]) .ret) (Ew [.t 4,.t 5] λd _=>d.unR= .tup [.str (if(CF t 47).2.2=true then((CF t 47).1++[47],true)else(t,true)).1,.bool (if(CF t 47).2.2=true then((CF t 47).1++[47],true)else(t,true)).2]∧D.calmR (.tup [.str (if(CF t 47).2.2=true then((CF t 47).1++[47],true)else(t,true)).1,.bool (if(CF t 47).2.2=true then((CF t 47).1++[47],true)else(t,true)).2])=true))) z g:=by
   intro t f z g e6 e7;refine AV (n:=t.length) (I:=λk z=>z.s 6= .str t∧z.s 7= .int .i64 (k:Int)∧∀i,i<k->t[i]?≠some 47) (λk j ih z g hI=>?_) (λz g hI=>?_) 0 (Qq _) _ _ ⟨e6,e7,λi h=>absurd h (Zw _)⟩
   ·obtain⟨ja,u,o⟩:=z;obtain⟨h6,h7,q⟩:=hI;simp only at h6 h7;refine Ae Rd.eq_1 ?_;have v:((k:Int)<t.length)=True:=eq_true O;have b:(0:Int)<=(k:Int):=by omega
    have l:IntKind.i64.wrap ((k:Int)+1)=((k+1:Nat):Int):=Iz O O;have r:t[k]?=some t[k]:=Qn j;have hu:((t[k].toNat:Int)=47)=(t[k]=47):=propext ⟨λh=>UInt8.toNat_inj.1 (by show t[k].toNat=47;omega),λh=>by rw[h];rfl⟩;by_cases f1:t[k]=47
    ·have hi:=aQ2 (r.trans (congrArg some f1)) q;have x:CF t 47=(t.take k,t.drop (k+1),true):=by unfold CF;rw[hi,if_neg O,Qp]
     have p:(0:Int)<=((k+1:Nat):Int)∧((k+1:Nat):Int)<=((t.length:Nat):Int):=O
     have na:t.take (k+1)=t.take k++[47]:=by rw[Qv j,f1]
     rw[x];simp only[↓C2,Ie,simprocAttr,h6,h7,v,b,Qp,r,hu,eq_true f1,decide_true,l,p,QX,QK,na]
     all_goals exact Qi
    ·simp only[↓C2,Ie,simprocAttr,h6,h7,v,b,Qp,r,hu,eq_false f1,decide_false,l];refine ih _ _ ⟨h6,rfl,λi hi=>?_⟩;rcases Zu i k with h|h
     ·exact q i h
     ·grind
   ·obtain⟨ja,u,o⟩:=z;obtain⟨h6,h7,q⟩:=hI;simp only at h6 h7;refine Ae Rd.eq_1 ?_;have v:((t.length:Int)<t.length)=False:=eq_false O;have hi:=aQ1 q;have x:CF t 47=(t,[],false):=by unfold CF;rw[hi];rfl
    rw[x];simp only[↓C2,Ie,simprocAttr,h6,h7,v]
    all_goals exact Qi
  by_cases c:y=[]
  ·have d1:decide (y=[])=true:=decide_eq_true c;rw[if_pos c];simp only[↓C2,Ie,simprocAttr,Ac zK 165,a,Zn,d1,ne_eq,decide_not];exact e s m _ _ rfl rfl
  ·have d1:decide (y=[])=false:=decide_eq_false c;have w:=yX hb c;have l:IntKind.i64.wrap ((y.length:Int)+1)=((y.length+1:Nat):Int):=Iz O O;have p:(0:Int)<=((y.length+1:Nat):Int)∧((y.length+1:Nat):Int)<=((s.length:Nat):Int):=by omega
   have na:(s.drop (y.length+1)).take (s.length-(y.length+1))=s.drop (y.length+1):=Qu Xt;rw[if_neg c];simp only[↓C2,Ie,simprocAttr,Ac zK 165,a,Zn,Zb,d1,ne_eq,decide_not,l,p,Qp,na];exact e (s.drop (y.length+1)) Xt _ _ rfl rfl
def gC(l:List Bs)(s:Bs):Nat:=(l.takeWhile λx=>Op.bytesLess x s).length
def Df(l:List Bs)(s:Bs):List Bs:=if l[gC l s]?=some s then l else l.take (gC l s)++s::l.drop (gC l s)
def aD7:∀{l:List Bs} {s:Bs} {k:Nat} (h:k<l.length),k<gC l s->Op.bytesLess l[k] s=true
 |x::r,s,k,h,hk=>by
  unfold gC at hk;rw[Zg]at hk;split at hk
  ·rename_i p;cases k with
   |zero=>exact p
   |succ k=>exact aD7 (l:=r) Xl (by simpa[gC]using hk)
  ·cases hk
def aD9:∀{l:List Bs} {s:Bs} (h:gC l s<l.length),Op.bytesLess l[gC l s] s=false
 |x::r,s,h=>by
  by_cases p:Op.bytesLess x s=true
  ·have e:gC (x::r) s=gC r s+1:=by unfold gC;rw[Zg,if_pos p];rfl
   have:=aD9 (l:=r) (s:=s) (by rw[e]at h;simpa using h);simp only[e];exact this
  ·have e:gC (x::r) s=0:=by unfold gC;rw[Zg,if_neg p];rfl
   simp only[e];simpa using p
def aD8(l:List Bs)(s:Bs):gC l s<=l.length:=(List.takeWhile_sublist _).length_le
def bBk:=AB []
def aSH:=RF bBk aNa [.t 4] 47
def aWO:Kq aSH 274:=Az (Ai func274) Ad
def aI3(nl:Bool)(l:List Bs)(s:Bs)(w:l.length<=1000)(hn:nl=true->l=[]):aSH [.slice nl [] (An l),.str s]=some (.slice false [] (An (Df l s))):=by
 refine Aq (Qo rfl) ?_;unfold aNa;simp only[↓C2,Ie,simprocAttr];refine AV (n:=gC l s) (I:=λk z=>z.s 0= .slice nl [] (An l)∧z.s 1= .str s∧z.s 5= .int .i64 (k:Int)∧z.m=(λ_ _=>none)) (λk j ih z g t=>?_) (λz g t=>?_) 0 (Qq _) _ _ ⟨rfl,rfl,rfl,rfl⟩
 ·obtain⟨ja,f,fa⟩:=z;obtain⟨r,u,h5,hm⟩:=t;simp only at r u h5 hm;refine Ae Wj.eq_1 ?_;have sa:k<l.length:=Nat.lt_of_lt_of_le j (aD8 l s);have v:((k:Int)<l.length)=True:=eq_true O;have oa:(0:Int)<=(k:Int):=by omega
  have hw:IntKind.i64.wrap ((k:Int)+1)=((k+1:Nat):Int):=Iz O O;have d:(An l)[k]?=some (.str l[k]):=by simp[An,Qn sa]
  have p:=aD7 sa j;have q:∀a b:Bs,AJ .lss (.str a) (.str b)=some (.bool (Op.bytesLess a b)):=λ_ _=>rfl
  simp only[↓C2,Ie,simprocAttr,r,u,h5,v,Am,oa,Qp,d,q,p,decide_true,hw];exact ih _ _ ⟨r,u,rfl,hm⟩
 ·obtain⟨ja,f,fa⟩:=z;obtain⟨r,u,h5,hm⟩:=t;simp only at r u h5 hm;refine Ae Wj.eq_1 ?_;have ta:=aD8 l s;have ra:=@aD9 l s;unfold Df;generalize gC l s=k at *;have oa:(0:Int)<=(k:Int):=by omega
  have q:∀a b:Bs,AJ .lss (.str a) (.str b)=some (.bool (Op.bytesLess a b)):=λ_ _=>rfl
  have hz:∀l:List Bs,aE (An l) 1=1:=λl=>Xq
  have ht:∀l:List Bs,∀k,(An l).take k=An (l.take k):=λl k=>ZP.symm
  have hd:(An l).drop k=An (l.drop k):=List.map_drop.symm;have i:(An (l.drop k)).take (l.length-k)=An (l.drop k):=Qu (by rw[Am,QO];omega);have o:(0:Int)<=(k:Int)∧(k:Int)<=((l.length:Nat):Int):=O
  have fin:l.take k++s::l.drop k=l.take k++[s]++l.drop k:=U
  have c:An (l.take k++[s]++l.drop k)=An (l.take k)++[.str s]++An (l.drop k):=by simp[An]
  by_cases v:k<l.length
  ·have x:((k:Int)<l.length)=True:=eq_true O;have d:(An l)[k]?=some (.str l[k]):=by simp[An,Qn v]
   have p:=ra v;have h:nl=false:=by cases nl with|false=>rfl|true=>rw[hn rfl]at v;simp at v
   subst h;by_cases e:l[k]=s
   ·rw[if_pos (by rw[Qn v,e])];simp only[↓C2,Ie,simprocAttr,r,u,h5,x,Am,oa,Qp,d,q,p,decide_true,decide_false];simp only[↓C2,Ie,simprocAttr,r,u,h5,x,Am,oa,Qp,d,eq_true e,decide_true]
    all_goals exact Qi
   ·rw[if_neg (by rw[Qn v];simpa using e),fin,c];simp only[↓C2,Ie,simprocAttr,r,u,h5,x,Am,oa,Qp,d,q,p,decide_true,decide_false,eq_false e,hz,o,ht,hd,i,QX,QK];refine AF.intro ⟨Xg,.inr ⟨Xh,U⟩⟩ ?_;simp only[↓C2,Ie,simprocAttr,u];refine AF.intro ⟨YW,rfl,.inr ⟨Xh,U⟩⟩ ?_;simp only[↓C2,Ie,simprocAttr,r,h5,Am,Qp,hz,o,hd,i,QX];refine AF.intro ⟨YX,.inr ⟨Xh,U⟩⟩ ?_;simp only[↓C2,Ie,simprocAttr]
    all_goals exact Qi
  ·have x:((k:Int)<l.length)=False:=eq_false O;rw[if_neg (by rw[List.getElem?_eq_none O];simp),fin,c];simp only[↓C2,Ie,simprocAttr,r,u,h5,x,Am,oa,Qp,hz,o,ht,hd,i,decide_false,QX,QK];refine AF.intro ⟨Xg,.inr ⟨Xh,U⟩⟩ ?_;simp only[↓C2,Ie,simprocAttr,u];refine AF.intro ⟨YW,rfl,.inr ⟨Xh,U⟩⟩ ?_;simp only[↓C2,Ie,simprocAttr,r,h5,Am,Qp,hz,o,hd,i,QX];refine AF.intro ⟨YX,.inr ⟨Xh,U⟩⟩ ?_;simp only[↓C2,Ie,simprocAttr]
   all_goals exact Qi
def fM(y:Bs)(l:List Bs):List Bs:=(CZ y l).foldl Df []
def wA(y s:Bs)(l:List Bs):CZ y (l++[s])=CZ y l++if(BO s y).2=true then [(BO s y).1]else []:=by
 grind [CZ,BO]
def aCG(l:List Bs)(s:Bs):Df l s≠[]:=by
 unfold Df;split
 ·grind
 ·simp
def wE(l:List Bs)(s:Bs):(Df l s).length<=l.length+1:=by
 grind [Df]
def aCY(l:List Bs):(l.foldl Df []).length<=l.length:=by
 have e:∀(l a:List Bs),(l.foldl Df a).length<=a.length+l.length:=by
  intro l;induction l with
  |nil=>intro a;simp
  |cons x r ih=>intro a;have:=ih (Df a x);have:=wE a x;simp only[Ze,Qw];omega
 simpa using e l []
def aIk:=AB [(273,Af aSI),(274,Af aSH)]
def aSW:=RF aIk aOt [.t 4] 29
def aXd:Kq aSW 174:=Az (Ai func174) (Aa aWP (Aa aWO Ad))
def aJx(y:Bs)(nl:Bool)(l:List Bs)(w:l.length<=1000)(m:∀s∈l,s.length<=1000000)(i:y.length<=1000000):aSW [.str y,.slice nl [] (An l)]=some (.slice (decide (fM y l=[])) [] (An (fM y l))):=by
 refine Aq (Qo rfl) ?_;unfold aOt;unfold fM;simp only[↓C2,Ie,simprocAttr];refine AV (n:=l.length) (I:=λk z=>z.s 0= .str y∧z.s 1= .slice nl [] (An l)∧z.s 6= .int .i64 (k:Int)∧z.s 5= .slice (decide ((CZ y (l.take k)).foldl Df []=[])) [] (An ((CZ y (l.take k)).foldl Df []))) (λk j ih z g t=>?_) (λz g t=>?_) 0 (Qq _) _ _ ⟨rfl,rfl,rfl,rfl⟩
 ·obtain⟨c,f,o⟩:=z;obtain⟨r,u,x,q⟩:=t;simp only at r u x q;refine Ae WB.eq_1 ?_;have v:((k:Int)<l.length)=True:=eq_true O;have oa:(0:Int)<=(k:Int):=by omega
  have hw:IntKind.i64.wrap ((k:Int)+1)=((k+1:Nat):Int):=Iz O O;have d:(An l)[k]?=some (.str l[k]):=by simp[An,Qn j]
  have a:=aI4 l[k] y (m _ (QN j)) i;have p:CZ y (l.take (k+1))=CZ y (l.take k)++if(BO l[k] y).2=true then [(BO l[k] y).1]else []:=by rw[Qv j,wA]
  have sa:(CZ y (l.take k)).length<=k:=by
   grind [CZ]
  have wa:=aCY (CZ y (l.take k));have b:=λs=>aI3 (decide ((CZ y (l.take k)).foldl Df []=[])) ((CZ y (l.take k)).foldl Df []) s O (λh=>of_decide_eq_true h)
  cases hb:(BO l[k] y).2 with
  |true=>
   rw[hb]at a p;rw[if_pos rfl]at p;have e:(CZ y (l.take (k+1))).foldl Df []=Df ((CZ y (l.take k)).foldl Df []) (BO l[k] y).1:=by rw[p,List.foldl_append];rfl
   simp only[↓C2,Ie,simprocAttr,r,u,x,q,v,Am,oa,Qp,d,Ac aIk 273,a,Ac aIk 274,b,hw];exact ih _ _ ⟨r,u,rfl,by rw[e,decide_eq_false (aCG _ _)];rfl⟩
  |false=>
   rw[hb]at a p;rw[if_neg Z,QL]at p;simp only[↓C2,Ie,simprocAttr,r,u,x,q,v,Am,oa,Qp,d,Ac aIk 273,a,hw];exact ih _ _ ⟨r,u,rfl,by rw[p];exact q⟩
 ·obtain⟨c,f,o⟩:=z;obtain⟨r,u,x,q⟩:=t;simp only at r u x q;refine Ae WB.eq_1 ?_;have v:((l.length:Int)<l.length)=False:=eq_false O;rw[Qu (Qt _)]at q;simp only[↓C2,Ie,simprocAttr,r,u,x,q,v,Am]
  all_goals exact Qi
theorem aCO{s:Bs}{a b:UInt8}(h:B7 s [a,b]=true):s=[a,b]++s.drop 2:=by
 have u:s.take 2=[a,b]:=by simpa[B7]using h
 rw[←u,Zd]
def iZ{s:Bs}(h:Cm (A3 s).1 (A3 s).2.1 (A3 s).2.2=0):AO (A3 s).1 (A3 s).2.1 (A3 s).2.2=s:=by
 have j:AO (A3 s).1 (A3 s).2.1 (A3 s).2.2=if(A3 s).1=1 then [109,47]++(A3 s).2.1 else if(A3 s).1=2 then [100,47]++(A3 s).2.1++[0,UInt8.ofNat (IntKind.u8.wrap (A3 s).2.2).toNat]else if(A3 s).1=3 then [116,47]++(A3 s).2.1 else if(A3 s).1=4 then [115,47,109,111,117,110,116,115]else [115,47,114,105,110,103]:=by
  grind [AO]
 rw[j];clear j;unfold A3 at h ⊢;split
 ·rename_i e;rw[e];rfl
 split
 ·rename_i e;rw[e];rfl
 split
 ·grind [aCO]
 split
 ·grind [aCO]
 split
 ·rename_i e;obtain⟨e1,e2,e3⟩:=e;show [100,47]++_++_=s
  conv=>rhs;rw[aCO e1]
  generalize s.drop 2=u at *;rw[Q_];congr 1;have q:u.length-2<u.length:=O
  have f:u.length-1<u.length:=O
  have l:u.drop (u.length-2)=[u[u.length-2],u[u.length-1]]:=by
   rw[Q3 q,show u.length-2+1=u.length-1 by omega,Q3 f,show u.length-1+1=u.length by omega,List.drop_length]
  have e4:u[u.length-2]=0:=by simpa[QI,Qn q]using e3
  have e5:UInt8.ofNat (IntKind.u8.wrap ((u.getD (u.length-1) 0).toNat:Int)).toNat=u[u.length-1]:=by
   have:u.getD (u.length-1) 0=u[u.length-1]:=by simp[QI,Qn f]
   rw[this,w8 O (by have:=u[u.length-1].toNat_lt;omega),Qp];exact UInt8.ofNat_toNat
  show _++[0,UInt8.ofNat (IntKind.u8.wrap ((u.getD (u.length-1) 0).toNat:Int)).toNat]=u;rw[e5]
  conv=>rhs;rw[←Zd (u.length-2) u,l,e4]
 ·rename_i q f o b m;rw[if_neg q,if_neg f,if_neg o,if_neg b,if_neg m]at h;exact absurd h Z
def Gb(s:Bs):List (Int×Bs×Int):=[(1,s.drop 2,0),(3,s.drop 2,0),(4,[],0),(5,[],0)]++if 4<=s.length then [(2,(s.take (s.length-2)).drop 2,((s.getD (s.length-1) 0).toNat:Int))]else []
def MK(s:Bs)(c:Int×Bs×Int):Prop:=Cm c.1 c.2.1 c.2.2=0∧AO c.1 c.2.1 c.2.2=s
def aS4{s:Bs}{c:Int×Bs×Int}(h:MK s c):B4 s=(c,0):=by
 have n:=UM h.1;rw[h.2]at n;unfold B4;rw[n,if_neg (λe=>e h.1)]
def lL{s:Bs}(h:Cm (A3 s).1 (A3 s).2.1 (A3 s).2.2=0):A3 s∈Gb s:=by
 unfold A3 at h ⊢;split
 ·unfold Gb;simp
 split
 ·unfold Gb;simp
 split
 ·unfold Gb;simp
 split
 ·unfold Gb;simp
 split
 ·rename_i e;have e2:=e.2.1;rw[QO]at e2;unfold Gb;rw[if_pos O];refine Zx.2 (.inr (QC.2 ?_));have g:((s.drop 2).take ((s.drop 2).length-2))=(s.take (s.length-2)).drop 2:=by rw[ZN,QO]
  have f:(s.drop 2).getD ((s.drop 2).length-1) 0=s.getD (s.length-1) 0:=by
   rw[QO];simp only[QI,List.getElem?_drop];rw[show 2+(s.length-2-1)=s.length-1 by omega]
  rw[g,f]
 ·rename_i u q o b m;rw[if_neg u,if_neg q,if_neg o,if_neg b,if_neg m]at h;exact absurd h Z
def aPy{s:Bs}(h:∀c∈Gb s,¬MK s c):B4 s=((0,[],0),4):=by
 unfold B4;by_cases e:Cm (A3 s).1 (A3 s).2.1 (A3 s).2.2=0
 ·exact absurd ⟨e,iZ e⟩ (h _ (lL e))
 ·rw[if_pos e]
def dB{s:Bs}(h:s.length<2):B4 s=((0,[],0),4):=by
 refine aPy λc x z=>?_
 have w:=UM z.1;rw[z.2]at w;have g:∀a b:UInt8,¬B7 s [a,b]=true:=λa b e=>by have:=LS e;simp at this;omega
 have r:A3 s=(0,[],0):=by
  grind [A3]
 rw[r]at w;obtain⟨k,n,i⟩:=c;simp only[ZD]at w;obtain⟨rfl,rfl,rfl⟩:=w;exact absurd z.1 Z
def zN:=AB [(175,Af zS)]
def aSX:=RF zN aOu [.cell (some 3) 2,.t 3] 65
def aXe:Kq aSX 173:=Az (Ai func173) (Aa qV Ad)
def aJy(s:Bs)(w:s.length<=1000000):aSX [.str s]=some (.tup [vZ (B4 s).1,.int .i64 (B4 s).2]):=by
 refine Aq (Qo rfl) ?_;unfold aOu;by_cases c2:s.length<2
 ·rw[dB c2];have e1:((s.length:Int)<2)=True:=eq_true O;simp only[↓C2,Ie,reduceIte,Nat.reduceEqDiff,Nat.reduceAdd,Nat.reduceLT,Nat.reduceLeDiff,Nat.reduceSub,reduceCtorEq,Int.reduceEq,Int.reduceNe,Int.reduceLT,Int.reduceLE,e1,decide_true]
  all_goals exact Qi
 have e1:((s.length:Int)<2)=False:=eq_false O;have ia:∀(cs:List (Int×Bs×Int)),cs=Gb s->cs.length<=5->∀(z:St) g,z.s 0= .str s->z.s 2= .ptr [0] 0->(∃t,z.s 4= .slice false t (cs.map vZ))->z.s 5= .int .i64 ((0:Nat):Int)->z.m [0] 0=some (.int .u8 0)->z.m [0] 1=some (.str [])->z.m [0] 2=some (.int .i64 0)->A2 zN [] RA (NE 0 (vA zN [] (.seq (.row [⟨some 64,.build [.int .u8 0,.str [],.int .i64 0] [],[],none⟩,⟨none,.store 3 (.t 2) (.t 64),[],none⟩,⟨some 3,.mv (.c (.int .i64 4)),[],none⟩]) .ret) (Ew [.cell (some 3) 2,.t 3] λd _=>d.unR= .tup [vZ (B4 s).1,.int .i64 (B4 s).2]∧D.calmR (.tup [vZ (B4 s).1,.int .i64 (B4 s).2])=true))) z g:=by
  intro cs xa j z g e0 e2 e4 e5 e b f;have ab:∀c∈cs,c.2.1.length<=1000000:=by
   grind [Gb]
  refine AV (n:=cs.length) (I:=λk z=>z.s 0= .str s∧z.s 2= .ptr [0] 0∧(∃t,z.s 4= .slice false t (cs.map vZ))∧z.s 5= .int .i64 (k:Int)∧z.m [0] 0=some (.int .u8 0)∧z.m [0] 1=some (.str [])∧z.m [0] 2=some (.int .i64 0)∧∀i (h:i<cs.length),i<k->¬MK s cs[i]) (λk hk ih z g hI=>?_) (λz g hI=>?_) 0 (Qq _) _ _ ⟨e0,e2,e4,e5,e,b,f,λ_ _ h=>absurd h (Zw _)⟩
  ·obtain⟨ja,u,o⟩:=z;obtain⟨r,q,⟨t,h4⟩,h5,m0,m1,m2,ha⟩:=hI;simp only at r q h4 h5 m0 m1 m2;refine Ae RA.eq_1 ?_;have v:((k:Int)<cs.length)=True:=eq_true O;have oa:(0:Int)<=(k:Int):=by omega
   have l:IntKind.i64.wrap ((k:Int)+1)=((k+1:Nat):Int):=Iz O O;have ga:(cs.map vZ)[k]?=some (.agg [.int .u8 cs[k].1,.str cs[k].2.1,.int .i64 cs[k].2.2]):=by rw[Zl,Qn hk];rfl
   have y:=RU cs[k].1 cs[k].2.2 cs[k].2.1 (ab _ (QN hk));by_cases hm:MK s cs[k]
   ·rw[aS4 hm];have e1:=hm.1;have e2:=decide_eq_true hm.2;rw[e1]at y;generalize cs[k]=c at *;unfold vZ;simp only[↓C2,Ie,reduceIte,Nat.reduceEqDiff,Nat.reduceAdd,Nat.reduceLT,Nat.reduceLeDiff,Nat.reduceSub,reduceCtorEq,Int.reduceEq,Int.reduceNe,Int.reduceLT,Int.reduceLE,r,q,h4,h5,m0,m1,m2,v,Qr,oa,Qp,ga,Ac zN 175,y,e2,decide_true]
    all_goals exact Qi
   ·have a:∀i (h:i<cs.length),i<k+1->¬MK s cs[i]:=λi h q=>by
     rcases Zu i k with h3|h3
     ·exact ha i h h3
     ·grind
    have hh:Cm cs[k].1 cs[k].2.1 cs[k].2.2≠0∨AO cs[k].1 cs[k].2.1 cs[k].2.2≠s:=by
     by_cases h:Cm cs[k].1 cs[k].2.1 cs[k].2.2=0
     ·exact .inr λq=>hm ⟨h,q⟩
     ·exact .inl h
    generalize cs[k]=c at *;by_cases h:Cm c.1 c.2.1 c.2.2=0
    ·have e2:decide (AO c.1 c.2.1 c.2.2=s)=false:=decide_eq_false (hh.resolve_left λx=>x h);simp only[↓C2,Ie,reduceIte,Nat.reduceEqDiff,Nat.reduceAdd,Nat.reduceLT,Nat.reduceLeDiff,Nat.reduceSub,reduceCtorEq,Int.reduceEq,Int.reduceNe,Int.reduceLT,Int.reduceLE,r,q,h4,h5,m0,m1,m2,v,Qr,oa,Qp,ga,Ac zN 175,y,h,e2,decide_true,decide_false,l];exact ih _ _ ⟨r,q,⟨_,h4⟩,rfl,m0,m1,m2,a⟩
    ·simp only[↓C2,Ie,reduceIte,Nat.reduceEqDiff,Nat.reduceAdd,Nat.reduceLT,Nat.reduceLeDiff,Nat.reduceSub,reduceCtorEq,Int.reduceEq,Int.reduceNe,Int.reduceLT,Int.reduceLE,r,q,h4,h5,m0,m1,m2,v,Qr,oa,Qp,ga,Ac zN 175,y,h,decide_true,decide_false,l];exact ih _ _ ⟨r,q,⟨_,h4⟩,rfl,m0,m1,m2,a⟩
  ·obtain⟨ja,u,o⟩:=z;obtain⟨r,q,⟨t,h4⟩,h5,m0,m1,m2,ha⟩:=hI;simp only at r q h4 h5 m0 m1 m2;refine Ae RA.eq_1 ?_;have v:((cs.length:Int)<cs.length)=False:=eq_false O;rw[aPy (s:=s) (λc hc=>by rw[←xa]at hc;obtain⟨i,hi,rfl⟩:=Q5 hc;exact ha i hi hi)];simp only[↓C2,Ie,reduceIte,Nat.reduceEqDiff,Nat.reduceAdd,Nat.reduceLT,Nat.reduceLeDiff,Nat.reduceSub,reduceCtorEq,Int.reduceEq,Int.reduceNe,Int.reduceLT,Int.reduceLE,r,q,h4,h5,m0,m1,m2,v,Qr]
   all_goals exact Qi
 have b2:(0:Int)<=2∧(2:Int)<=((s.length:Nat):Int):=O
 have z2:(2:Int).toNat=2:=rfl;have td:(s.drop 2).take (s.length-2)=s.drop 2:=Qu Xt;by_cases c4:4<=s.length
 ·have e4:((4:Int)<=s.length)=True:=eq_true O;have w1:IntKind.i64.wrap ((s.length:Int)-2)=((s.length-2:Nat):Int):=by rw[Iz O O];omega
  have w2:IntKind.i64.wrap ((s.length:Int)-1)=((s.length-1:Nat):Int):=Xn
  have b3:(0:Int)<=((s.length-2:Nat):Int)∧((s.length-2:Nat):Int)<=((s.length:Nat):Int):=O
  have b4:(0:Int)<=2∧(2:Int)<=((s.length-2:Nat):Int):=O
  have k0:(0:Int)<=((s.length-1:Nat):Int):=O
  have ga:s[s.length-1]?=some (s[s.length-1]' O):=Qn O;have bb:s.getD (s.length-1) 0=s[s.length-1]' O:=by simp only[QI,ga,QD]
  have p:IntKind.i64.wrap ((s[s.length-1]' O).toNat:Int)=((s[s.length-1]' O).toNat:Int):=Iz O (by have:=(s[s.length-1]' O).toNat_lt;omega);simp only[↓C2,Ie,reduceIte,Nat.reduceEqDiff,Nat.reduceAdd,Nat.reduceLT,Nat.reduceLeDiff,Nat.reduceSub,reduceCtorEq,Int.reduceEq,Int.reduceNe,Int.reduceLT,Int.reduceLE,e1,decide_false,b2,z2,td,e4,decide_true];refine Al ?_;simp only[↓C2,Ie,reduceIte,Nat.reduceEqDiff,Nat.reduceAdd,Nat.reduceLT,Nat.reduceLeDiff,Nat.reduceSub,reduceCtorEq,Int.reduceEq,Int.reduceNe,Int.reduceLT,Int.reduceLE,e4,w1,w2,b3,b4,z2,k0,Qp,ga,p];refine AF.intro ⟨Z,rfl,.inr ⟨Xh,U⟩⟩ ?_;simp only[↓C2,Ie,reduceIte,Nat.reduceEqDiff,Nat.reduceAdd,Nat.reduceLT,Nat.reduceLeDiff,Nat.reduceSub,reduceCtorEq,Int.reduceEq,Int.reduceNe,Int.reduceLT,Int.reduceLE];refine Al ?_;simp only[↓C2,Ie,reduceIte,Nat.reduceEqDiff,Nat.reduceAdd,Nat.reduceLT,Nat.reduceLeDiff,Nat.reduceSub,reduceCtorEq,Int.reduceEq,Int.reduceNe,Int.reduceLT,Int.reduceLE];exact ia (Gb s) rfl (by unfold Gb;rw[if_pos c4];simp) _ _ rfl rfl ⟨_,by unfold Gb;rw[if_pos c4,bb,ZN];rfl⟩ rfl rfl rfl rfl
 ·have e4:((4:Int)<=s.length)=False:=eq_false O;simp only[↓C2,Ie,reduceIte,Nat.reduceEqDiff,Nat.reduceAdd,Nat.reduceLT,Nat.reduceLeDiff,Nat.reduceSub,reduceCtorEq,Int.reduceEq,Int.reduceNe,Int.reduceLT,Int.reduceLE,e1,decide_false,b2,z2,td,e4,decide_true];refine Al ?_;simp only[↓C2,Ie,reduceIte,Nat.reduceEqDiff,Nat.reduceAdd,Nat.reduceLT,Nat.reduceLeDiff,Nat.reduceSub,reduceCtorEq,Int.reduceEq,Int.reduceNe,Int.reduceLT,Int.reduceLE,e4,decide_false];exact ia (Gb s) rfl (by unfold Gb;rw[if_neg c4];simp) _ _ rfl rfl ⟨_,by unfold Gb;rw[if_neg c4];rfl⟩ rfl rfl rfl rfl
def PQ(l:List Bs):Prop:=l.Pairwise λa b=>Op.bytesLess a b=true
def jL:∀{a b:List Bs},PQ a->PQ b->(∀x,x∈a↔x∈b)->a=b
 |[],[],_,_,_=>rfl
 |[],y::b,_,_,h=>absurd ((h y).2 (QJ ..)) U
 |x::a,[],_,_,h=>absurd ((h x).1 (QJ ..)) U
 |x::a,y::b,ha,hb,h=>by
  unfold PQ at ha hb;rw[QY]at ha hb;have c:x=y:=by
   rcases QE.1 ((h x).1 (QJ ..))with e|e
   ·exact e
   ·rcases QE.1 ((h y).2 (QJ ..))with e2|e2
    ·exact e2.symm
    ·have:=Hy (hb.1 x e) (ha.1 y e2);rw[GZ]at this;cases this
  subst c;have d:∀(l:List Bs),(∀z∈l,Op.bytesLess x z=true)->x∉l:=λl w p=>by
   have:=w x p;rw[GZ]at this;cases this
  rw[jL ha.2 hb.2 λz=>⟨λj=>?_,λj=>?_⟩]
  ·grind
  ·grind
def aCF{l:List Bs}(s:Bs)(h:PQ l):PQ (Df l s)∧∀x,x∈Df l s↔x∈l∨x=s:=by
 have e:l.takeWhile (λx=>Op.bytesLess x s)++l.dropWhile (λx=>Op.bytesLess x s)=l:=List.takeWhile_append_dropWhile;have i:∀x∈l.takeWhile (λx=>Op.bytesLess x s),Op.bytesLess x s=true:=λx hx=>Zq.1 List.all_takeWhile x hx
 have k:∀y r,l.dropWhile (λx=>Op.bytesLess x s)=y::r->Op.bytesLess y s=false:=λy r m=>by
  have:=List.head_dropWhile_not (λx=>Op.bytesLess x s) (l:=l) (by rw[m];simp);simpa[m]using this
 unfold Df gC;generalize l.takeWhile (λx=>Op.bytesLess x s)=t at *;generalize l.dropWhile (λx=>Op.bytesLess x s)=d at *;subst e;rw[List.take_left,List.drop_left,QF (Qt _),ZF];unfold PQ at *;rw[QU]at h;obtain⟨q,f,o⟩:=h;cases d with
 |nil=>
  rw[if_neg U];refine⟨QU.2 ⟨q,Zr ..,λa n b hb=>by rw[QC.1 hb];exact i a n⟩,λx=>U⟩
 |cons y r=>
  have m:=k y r rfl;rw[QY]at f;by_cases j:y=s
  ·rw[if_pos (by simp[j])];refine⟨QU.2 ⟨q,QY.2 f,o⟩,λx=>⟨.inl,λhx=>?_⟩⟩;rcases hx with hx|rfl
   ·exact hx
   ·simp[j]
  ·rw[if_neg (by simp[j])];have c:Op.bytesLess s y=true:=by rw[Gc (Ne.symm j),m];rfl
   have u:∀z∈y::r,Op.bytesLess s z=true:=λz hz=>by
    rcases QE.1 hz with rfl|hz
    ·exact c
    ·grind [Hy]
   refine⟨QU.2 ⟨q,QY.2 ⟨u,QY.2 f⟩,λa n b hb=>?_⟩,λx=>by simp;grind⟩;rcases QE.1 hb with rfl|hb
   ·exact i a n
   ·exact o a n b hb
def aCX(l:List Bs):PQ (l.foldl Df [])∧∀x,x∈l.foldl Df []↔x∈l:=by
 have e:∀(l a:List Bs),PQ a->PQ (l.foldl Df a)∧∀x,x∈l.foldl Df a↔x∈a∨x∈l:=by
  intro l;induction l with
  |nil=>intro a h;exact⟨h,λx=>U⟩
  |cons y r ih=>
   intro a h;obtain⟨u,q⟩:=aCF y h;obtain⟨o,b⟩:=ih _ u;exact⟨o,λx=>by rw[Ze,b,q];simp only[QE];grind⟩
 obtain⟨u,q⟩:=e l [] List.Pairwise.nil;exact⟨u,λx=>by rw[q];simp⟩
def aCl(x y:Bs):decide (x<=y)=!Op.bytesLess y x:=by
 rw[bytesLess_eq];by_cases h:y<x
 ·simp_all
 ·rw[decide_eq_false h];exact decide_eq_true (List.not_lt.1 h)
theorem aPv{x y z:Bs}(h:Op.bytesLess y x=false)(k:Op.bytesLess y z=true):Op.bytesLess x z=true:=by
 by_cases e:x=y
 ·rw[e];exact k
 ·exact Hy (by rw[Gc e,h];rfl) k
def pH(l:List Bs):(PK l).Pairwise λa b=>Op.bytesLess b a=false:=by
 have h:=List.pairwise_mergeSort (le:=λx y:Bs=>decide (x<=y)) (λa b c u q=>by
  simp only[aCl,Bool.not_eq_true']at *;cases hc:Op.bytesLess c a with
  |false=>rfl
  |true=>
   have:=aPv q hc;rw[this]at u;cases u) (λa b=>by
  simp only[aCl];by_cases e:a=b
  ·subst e;rw[GZ];rfl
  ·rw[Gc e];cases Op.bytesLess b a<;>rfl) l
 refine h.imp λ{a b} o=>?_
 simpa[aCl]using o
def aDL{l:List Bs}(h:l.Pairwise λa b=>Op.bytesLess b a=false):PQ (Lib.compact l)∧∀x,x∈Lib.compact l↔x∈l:=by
 have d:∀i j,i<j->j<l.length->Op.bytesLess (l.getD j []) (l.getD i [])=false:=λi j v y=>by
  have:=QQ.1 h i j O y v;simpa[QI,Qn y,Qn (show i<l.length by omega)]using this
 have o:∀i,l.toArray[i]! =l.getD i []:=λi=>by simp[QI];rfl
 have w:∀m,m<=l.length->PQ (Lib.compactUpTo l.toArray m)∧∀x,x∈Lib.compactUpTo l.toArray m↔∃i,i<m∧x=l.getD i []:=by
  intro m;induction m with
  |zero=>intro _;exact⟨List.Pairwise.nil,λx=>by simp[Lib.compactUpTo]⟩
  |succ m ih=>
   intro z;obtain⟨u,q⟩:=ih O;rw[Lib.compactUpTo_succ];by_cases g:Lib.keeps l.toArray m=true
   ·rw[if_pos g,o];unfold Lib.keeps at g;have g:=of_decide_eq_true g;rw[o,o]at g;refine⟨QU.2 ⟨u,Zr ..,λa n b hb=>?_⟩,λx=>?_⟩
    ·grind [Gc,aPv]
    ·grind
   ·rw[if_neg g,QL];refine⟨u,λx=>?_⟩;have g:¬(m=0∨l.toArray[m]!≠l.toArray[m-1]!):=λe=>g (decide_eq_true e)
    rw[o,o]at g;rw[q];constructor
    ·grind
    ·grind
 obtain⟨u,q⟩:=w l.length (Qt _);refine⟨u,λx=>?_⟩;unfold Lib.compact;rw[q];constructor
 ·simp_all
 ·intro p;obtain⟨i,hi,rfl⟩:=List.mem_iff_getElem.1 p;exact⟨i,hi,by rw[QI,Qn hi];rfl⟩
def aDS(y:Bs)(l:List Bs):fM y l=NC y l:=by
 unfold fM NC;obtain⟨u,q⟩:=aCX (CZ y l);obtain⟨o,b⟩:=aDL (pH (CZ y l));refine jL u o λx=>?_
 rw[q,b];unfold PK;rw[Zj]
def S77:=AB [(85,Af R85),(173,Af aSX),(174,Af aSW)]
def R77:=RF S77 aX2 [.cell (some 9) 6] 51
def bAy:Kq R77 77:=Az (Ai func77) (Aa aCn (Aa aXe (Aa aXd Ad)))
def aR4(v:Vw)(p:Bs)(nl:Bool)(l:List Bs)(hp:p.length<=1000000)(hl:l.length<=1000)(hs:∀s∈l,s.length<=1000000)(la:R85 [.agg (IL (.names (decide (NC p (A1 l)=[])) ((NC p (A1 l)).take 64)))]=some (.str (IY (.names (decide (NC p (A1 l)=[])) ((NC p (A1 l)).take 64))))):R77 [.agg (Iq v),.str p,.slice nl [] (An l)]=some (.agg (IA {Ix v with rep:=IY (.names (decide (NC p (A1 l)=[])) ((NC p (A1 l)).take 64))})):=by
 refine Aq (Qo rfl) ?_;unfold aX2;have xa:(A1 l).length<=1000:=Qy (Zo ..) hl;have qa:∀s∈A1 l,s.length<=1000000:=dA hs;have b:=aJx p (decide (A1 l=[])) (A1 l) xa qa hp;rw[aDS]at b;unfold IA Ix Iq;simp only[IL]at la;simp only[↓C2,Ie,simprocAttr];refine AV (n:=l.length) (I:=λk st=>st.s 1= .str p∧st.s 2= .slice nl [] (An l)∧st.s 3= .ptr [0] 0∧st.s 6= .ptr [1] 0∧st.s 8= .int .i64 (k:Int)∧∃t,st.s 7= .slice (decide (A1 (l.take k)=[])) t (An (A1 (l.take k)))∧LG 2 _ 9 st.m st.c (decide (A1 (l.take k)=[])) t) (λk hk ih st g hI=>?_) (λst g hI=>?_) 0 (Qq _) _ _ ⟨rfl,rfl,rfl,rfl,rfl,[],rfl,LG.start Xb⟩
 ·obtain⟨ja,da,fa⟩:=st;obtain⟨h1,h2,h3,h6,h8,t,h7,hG⟩:=hI;simp only at h1 h2 h3 h6 h8 h7 hG;refine Ae mH.eq_1 ?_;have aa:((k:Int)<l.length)=True:=eq_true O;have oa:(0:Int)<=(k:Int):=by omega
  have hw:IntKind.i64.wrap ((k:Int)+1)=((k+1:Nat):Int):=Iz O O;have ga:(An l)[k]?=some (.str l[k]):=by simp[An,Qn hk]
  have a:=aJy l[k] (hs _ (QN hk));have na:l.take (k+1)=l.take k++[l[k]]:=Qv hk;have ia:(An (A1 (l.take k))).length<=k:=by rw[Am];exact Qy (Zo ..) Xg
  have ka:=Ps (l.take k) l[k];rw[←na]at ka;unfold vZ at a;generalize B4 l[k]=y at *;generalize l[k]=lk at *;obtain⟨⟨y1,y2,y3⟩,e⟩:=y;simp only at ka a;by_cases c1:e=0
  ·subst c1;by_cases c2:y1=1
   ·subst c2;rw[if_pos ⟨rfl,rfl⟩]at ka;simp only[↓C2,Ie,simprocAttr,h1,h2,h7,h8,aa,Am,oa,Qp,ga,Ac S77 173,a];refine AF.intro ⟨by rw[Am]at ia;omega,rfl,Xw⟩ ?_;simp only[↓C2,Ie,simprocAttr,h8,hw];have fin:(if A1 (l.take k)=[]then [D.str y2]else An (A1 (l.take k))++[D.str y2])=An (A1 (l.take (k+1))):=by
     grind [An]
    have ma:decide (A1 (l.take (k+1))=[])=false:=by rw[ka];simp
    refine ih _ _ ⟨h1,h2,h3,h6,rfl,[fa+4+11+7+4],?_,?_⟩
    ·rw[ma];exact congrArg (D.slice false _) fin
    ·rw[ma];exact LG.app (xs:=An (A1 (l.take k))) hG.put.put.put O Xb
   ·have ha:=eq_false c2;rw[if_neg (λe=>c2 e.2),QL]at ka;simp only[↓C2,Ie,simprocAttr,h1,h2,h8,aa,Am,oa,Qp,ga,Ac S77 173,a,ha,hw];refine ih _ _ ⟨h1,h2,h3,h6,rfl,t,by rw[ka];exact h7,Y2⟩
  ·have ea:=eq_false c1;rw[if_neg (λe=>c1 e.1),QL]at ka;simp only[↓C2,Ie,simprocAttr,h1,h2,h8,aa,Am,oa,Qp,ga,Ac S77 173,a,ea,hw];refine ih _ _ ⟨h1,h2,h3,h6,rfl,t,by rw[ka];exact h7,Y2⟩
 ·obtain⟨ja,da,fa⟩:=st;obtain⟨h1,h2,h3,h6,h8,t,h7,hG⟩:=hI;simp only at h1 h2 h3 h6 h8 h7 hG;refine Ae mH.eq_1 ?_;have pa:da [0] 0=some (.bool v.se):=hG.low 0 0 O;have i:da [0] 1=some (.int .i64 v.te):=hG.low 0 1 O;have d:da [0] 2=some (.str v.key):=hG.low 0 2 O;have r:da [0] 3=some (.slice v.nlm [] (Ar v.ms)):=hG.low 0 3 O;have ra:da [0] 4=some (.slice v.nlt [] (Ay v.ks)):=hG.low 0 4 O;have x:da [1] 0=some (.str []):=hG.low 1 0 O;have w:da [1] 1=some (.bool false):=hG.low 1 1 O;have f:da [1] 2=some (.str []):=hG.low 1 2 O;have z:da [1] 3=some (.slice true [] []):=hG.low 1 3 O;have q:da [1] 4=some (.bool false):=hG.low 1 4 O;have h:da [1] 5=some (.int .i64 0):=hG.low 1 5 O;have j:da [1] 6=some (.str []):=hG.low 1 6 O;have o:da [1] 7=some (.slice true [] []):=hG.low 1 7 O;have u:da [1] 8=some (.slice true [] []):=hG.low 1 8 O;have aa:((l.length:Int)<l.length)=False:=eq_false O;rw[Qu (Qt _)]at h7;by_cases ba:64<(NC p (A1 l)).length
  ·have c:((64:Int)<((NC p (A1 l)).length:Int))=True:=eq_true O;have ab:(0:Int)<=64∧(64:Int)<=((NC p (A1 l)).length:Int):=by omega
   have na:∀(L:List Bs)(n:Nat),(An L).take n=An (L.take n):=λL n=>by simp[An,ZP]
   have ca:Int.toNat 64=64:=rfl;simp only[↓C2,Ie,simprocAttr,h1,h2,h3,h6,h7,h8,pa,i,d,r,ra,x,w,f,z,q,h,j,o,u,aa,Am,Ac S77 174,b,c,cJ,ab,na,QK,QX,ca,Ac S77 85,la];refine Al ?_;simp only[↓C2,Ie,simprocAttr,h6,x,w,f,z,q,h,j,o,u]
   all_goals exact Qi
  ·have c:((64:Int)<((NC p (A1 l)).length:Int))=False:=eq_false O;rw[Qu O]at *;simp only[↓C2,Ie,simprocAttr,h1,h2,h3,h6,h7,h8,pa,i,d,r,ra,x,w,f,z,q,h,j,o,u,aa,Am,Ac S77 174,b,c,Ac S77 85,la];refine Al ?_;simp only[↓C2,Ie,simprocAttr,h6,x,w,f,z,q,h,j,o,u]
   all_goals exact Qi
def Dv(l:List Tk):Nat->Tk->Bs->Bool
 |0,_,_=>false
 |n+1,t,s=>decide (t.1=s)||(!decide (Bv l t.2.1<0)&&Dv l n (AS l (Bv l t.2.1).toNat) s)
def LF(l:List Tk)(s:Bs):List Bs:=(l.filter λt=>Dv l (l.length+1) t s).map (·.1)
def Pw(l:List Tk)(s:Bs):List Tk:=l.filter λt=>!Dv l (l.length+1) t s
def eO{l:List Tk}{p:Bs}(h:¬Bv l p<0):AS l (Bv l p).toNat∈l∧(AS l (Bv l p).toNat).1=p:=by
 have v:(Bv l p).toNat<l.length:=by have:=Oe l p;omega
 refine⟨Ln v,?_⟩;unfold Bv Bc at h ⊢;unfold Bv Bc at v;cases hf:List.findIdx? id (l.map λm=>decide (m.1=p))with
 |none=>rw[hf]at h;exact absurd (show(-1:Int)<0 by omega) h
 |some j=>
  rw[hf]at v;obtain⟨u,q,_⟩:=List.findIdx?_eq_some_iff_getElem.1 hf;simp only[List.getElem_map,id]at q;have y:j<l.length:=Xx
  simp only[AS,QI,Qp,Qn y,QD];exact of_decide_eq_true q
def xA{l:List Tk}{p:Bs}(h:∃u∈l,u.1=p):¬Bv l p<0:=by
 obtain⟨u,k,g⟩:=h;have:=F8 (l.map λm=>decide (m.1=p));rw[show(l.map λm=>decide (m.1=p)).any id=true from Zs.2 ⟨true,QB.2 ⟨u,k,decide_eq_true g⟩,rfl⟩,decide_eq_true_eq]at this;unfold Bv;omega
def eH{l:List Tk}{s:Bs}:∀(n:Nat)(t:Tk),t∈l->Dv l n t s=true->I6 l s t.1
 |0,_,_,h=>Xd
 |n+1,t,ht,h=>by
  rw[Dv,Q7,QA,decide_eq_true_eq]at h;rcases h with rfl|⟨u,q⟩
  ·exact .refl
  ·have k:=eO (l:=l) (p:=t.2.1) Xx;have:=eH n _ k.1 q;rw[k.2]at this;exact .step t ht this
def sH{l:List Tk}{r:Bs->Nat}(T:I_ l r){s x:Bs}(h:I6 l s x):x=s∨∃c∈CD l s,I6 l c x:=by
 induction h with
 |refl=>exact .inl rfl
 |step t d h ih=>
  right;rcases ih with e|⟨c,k,q⟩
  ·refine⟨t.1,?_,.refl⟩;have:=T.up t d;refine QB.2 ⟨t,Q8.2 ⟨d,?_⟩,rfl⟩;rw[QA,decide_eq_true_eq,decide_eq_true_eq];exact⟨e,λe2=>by rw[e,e2]at this;omega⟩
  ·exact⟨c,k,.step t d q⟩
def rM{l:List Tk}{r:Bs->Nat}(T:I_ l r):∀(f:Nat)(s x:Bs),I6 l s x->r x<=r s+f->x∈EN l f s
 |0,s,x,h,hr=>by
  rw[EN,QC];rcases sH T h with e|⟨c,k,q⟩
  ·exact e
  ·have:=(LQ T k).1;have:=S7 T q;omega
 |f+1,s,x,h,hr=>by
  rw[EN];rcases sH T h with e|⟨c,k,q⟩
  ·simp_all
  ·refine Q1 _ (List.mem_flatMap.2 ⟨c,k,rM T f c x q ?_⟩);have:=(LQ T k).1;omega
def aEc{l:List Tk}{r:Bs->Nat}(T:I_ l r){s x:Bs}(j:∃u∈l,u.1=s)(h:I6 l s x):∀(n:Nat)(t:Tk),t∈l->t.1=x->r x<n->Dv l n t s=true:=by
 induction h with
 |refl=>
  intro n t d p f;cases n with
  |zero=>omega
  |succ n=>rw[Dv,p,decide_eq_true rfl,ZR]
 |step u m h ih=>
  intro n t d p f;cases n with
  |zero=>omega
  |succ n=>
   have a:=T.eq d m p;subst a;rw[Dv];have g:∃v∈l,v.1=t.2.1:=by
    generalize e:t.2.1=y at h;cases h with
    |refl=>exact j
    |step v hv _=>exact⟨v,hv,rfl⟩
   have k:=xA g;have w:=eO k;rw[decide_eq_false k,ih n _ w.1 w.2 (by have:=T.up t d;omega)];simp
def aBu{l:List Bs}(h:l.Pairwise λa b=>Op.bytesLess b a=false)(f:l.Nodup):PQ l:=by
 rw[List.nodup_iff_pairwise_ne]at f;exact List.Pairwise.imp₂ (λ{a b} u q=>by rw[Gc q,u];rfl) h f
def aHF{l:List Tk}(H:iB l){s:Bs}(m:A0 l s=true):LF l s=Dg l s∧Pw l s=EC l (Dg l s):=by
 obtain⟨r,T,_⟩:=H.tree;have pa:=OT m;have w:∀t∈l,(Dv l (l.length+1) t s=true↔t.1∈Dg l s):=by
  intro t g;unfold Dg PK;rw[Zj];constructor
  ·intro h;refine rM T _ _ _ (eH _ t g h) ?_;have:=T.top t g;omega
  ·intro h;refine aEc T pa (Mr _ _ _ h) _ t g rfl ?_;have:=T.top t g;omega
 refine⟨jL ?_ ?_ λx=>?_,?_⟩
 ·have q:l.Pairwise λa b=>Op.bytesLess a.1 b.1=true:=by
   rw[QQ];intro i j hi y v;have:=H.sort i j v y;unfold AS at this;rw[Zk,Zk,Qn hi,Qn y]at this;exact this
  exact List.pairwise_map.2 (q.filter _)
 ·refine aBu (pH _) ?_;unfold Dg PK;exact(List.mergeSort_perm _ _).nodup_iff.2 (OZ T _ _)
 ·unfold LF;constructor
  ·grind
  ·intro p;have d:=p;unfold Dg PK at d;rw[Zj]at d;rcases QE.1 (VV d)with e|e
   ·obtain⟨u,k,c⟩:=pa;rw[e]at p ⊢;exact QB.2 ⟨u,Q8.2 ⟨k,(w u k).2 (by rw[c];exact p)⟩,c⟩
   ·obtain⟨u,k,rfl⟩:=QB.1 e;exact QB.2 ⟨u,Q8.2 ⟨k,(w u k).2 p⟩,rfl⟩
 ·unfold Pw EC;refine List.filter_congr λt g=>?_
  have:=w t g;congr 1;unfold LR;rw[Bool.eq_iff_iff,this,Zs];constructor
  ·simp_all
  ·simp_all
def LG.beside{l e f c c' c2:Nat}{m0 m:Ig}{nl w:Bool}{t u:Id}{xs:List D}(j:LG l m0 f m c w u)(h:LG l m0 e m c nl t)(n:nl=false->w=false->t≠u)(k:c<=c')(h2:c'<c2):LG l m0 f (Ir.app m (Bm e [c'] (.slice nl t xs))) c2 w u:=by
 obtain⟨q,d,o⟩:=j;have z:=(LG.app (xs:=xs) h k h2).low;refine⟨z,?_,O⟩;by_cases r:w=true
 ·exact .inl r
 ·grind [Du]
def LG.ne{l e c c':Nat}{m0 m:Ig}{nl:Bool}{t:Id}(h:LG l m0 e m c nl t)(f:nl=false)(k:c<=c'):t≠[c']:=by
 rcases h.tok with ht|⟨j,rfl,a,b,d⟩
 ·rw[f]at ht;cases ht
 ·grind
def aRP:=AB [(117,Af aAk)]
def aSJ:=RF aRP aNc [.t 6] 29
def aWQ:Kq aSJ 272:=Az (Ai func272) (Aa qF Ad)
def aI5(nl:Bool)(l:List Tk)(t:Tk)(s:Bs)(w:l.length<=1000):aSJ [.slice nl [] (Ay l),I2 t,.str s]=some (.bool (Dv l (l.length+1) t s)):=by
 refine Aq (Qo rfl) ?_;unfold aNc;unfold I2;simp only[↓C2,Ie,simprocAttr];refine AV (n:=l.length+1) (I:=λj z=>z.s 0= .slice nl [] (Ay l)∧z.s 2= .str s∧z.s 4= .ptr [0] 0∧z.s 7= .int .i64 (j:Int)∧∃u:Tk,z.m [0] 0=some (.str u.1)∧z.m [0] 1=some (.str u.2.1)∧z.m [0] 2=some (.slice u.2.2.1 [] (Aj u.2.2.2))∧Dv l (l.length+1-j) u s=Dv l (l.length+1) t s) (λj k ih z g hI=>?_) (λz g hI=>?_) 0 (Qq _) _ _ ⟨rfl,rfl,rfl,rfl,t,rfl,rfl,rfl,rfl⟩
 ·obtain⟨c,f,o⟩:=z;obtain⟨r,q,b,e,u,m0,m1,m2,x⟩:=hI;simp only at r q b e m0 m1 m2;refine Ae Wk.eq_1 ?_;have v:((j:Int)<=(l.length:Int))=True:=eq_true O;have y:=MC (nl:=nl) (t:=[]) (l:=l) (p:=u.2.1) O;have h:=wJ (j:=j) O;rw[show l.length+1-j=(l.length-j)+1 by omega,Dv]at x;by_cases c1:u.1=s
  ·have e1:=decide_eq_true c1;rw[e1,ZR]at x;rw[←x];simp only[↓C2,Ie,simprocAttr,r,q,b,e,m0,v,AH,e1]
   all_goals exact Qi
  ·have e1:=decide_eq_false c1;rw[e1,Bool.false_or]at x;by_cases c2:Bv l u.2.1<0
   ·have e2:=eq_true c2;rw[decide_eq_true c2,Zn,Bool.false_and]at x;rw[←x];simp only[↓C2,Ie,simprocAttr,r,q,b,e,m0,m1,v,AH,e1,Ac aRP 117,y,e2,decide_true]
    all_goals exact Qi
   ·have e2:=eq_false c2;rw[decide_eq_false c2,Zb,Bool.true_and]at x;have i:(0:Int)<=Bv l u.2.1:=by omega
    have a:(Bv l u.2.1).toNat<l.length:=by have:=Oe l u.2.1;omega
    have d:=DY a;unfold I2 at d;simp only[↓C2,Ie,simprocAttr,r,q,b,e,m0,m1,m2,v,AH,e1,Ac aRP 117,y,e2,decide_false,i,a,d,h];refine ih _ _ ⟨r,q,b,rfl,AS l (Bv l u.2.1).toNat,rfl,rfl,rfl,?_⟩;rw[show l.length+1-(j+1)=l.length-j by omega];exact x
 ·obtain⟨c,f,o⟩:=z;obtain⟨r,q,b,e,u,m0,m1,m2,x⟩:=hI;simp only at r q b e m0 m1 m2;refine Ae Wk.eq_1 ?_;have v:(((l.length+1:Nat):Int)<=(l.length:Int))=False:=eq_false O;rw[ZF,Dv]at x;rw[←x];simp only[↓C2,Ie,simprocAttr,r,q,b,e,m0,v,AH]
  all_goals exact Qi
def aEv:=AB [(117,Af aAk),(272,Af aSJ)]
def aJB:=RF aEv aDu [.t 4,.t 5,.t 6] 45
def aXf:Kq aJB 172:=Az (Ai func172) (Aa qF (Aa aWQ Ad))
def aJz(nl:Bool)(l:List Tk)(s:Bs)(w:l.length<=1000)(k:Bv l s<0):aJB [.slice nl [] (Ay l),.str s]=some (.tup [.slice nl [] (Ay l),.slice true [] [],.int .i64 6]):=by
 refine Aq (Qo rfl) ?_;unfold aDu;have y:=MC (nl:=nl) (t:=[]) (l:=l) (p:=s) O;have f:(Bv l s<0)=True:=eq_true k;simp only[↓C2,Ie,simprocAttr,Ac aEv 117,y,f,decide_true]
 all_goals exact Qi
def aJA(nl:Bool)(l:List Tk)(s:Bs)(w:l.length<=1000)(hf:¬Bv l s<0):aJB [.slice nl [] (Ay l),.str s]=some (.tup [.slice (decide (Pw l s=[])) [] (Ay (Pw l s)),.slice (decide (LF l s=[])) [] (An (LF l s)),.int .i64 0]):=by
 refine Aq (Qo rfl) ?_;unfold aDu;have y:=MC (nl:=nl) (t:=[]) (l:=l) (p:=s) O;have f:(Bv l s<0)=False:=eq_false hf;unfold Pw LF;simp only[↓C2,Ie,simprocAttr,Ac aEv 117,y,f,decide_false];refine AV (n:=l.length) (I:=λj z=>z.s 0= .slice nl [] (Ay l)∧z.s 1= .str s∧z.s 9= .int .i64 (j:Int)∧∃A B nA nB tA tB,A=(l.take j).filter (λt=>!Dv l (l.length+1) t s)∧B=((l.take j).filter λt=>Dv l (l.length+1) t s).map (·.1)∧nA=decide (A=[])∧nB=decide (B=[])∧z.s 7= .slice nA tA (Ay A)∧z.s 8= .slice nB tB (An B)∧LG 0 z.m 134 z.m z.c nA tA∧LG 0 z.m 9 z.m z.c nB tB∧(nA=false->nB=false->tA≠tB)) (λj k ih z g hI=>?_) (λz g hI=>?_) 0 (Qq _) _ _ ⟨rfl,rfl,rfl,[],[],true,true,[],[],rfl,rfl,rfl,rfl,rfl,rfl,LG.start Xb,LG.start Xb,Z⟩
 ·obtain⟨ja,da,fa⟩:=z;obtain⟨h0,u,h9,A,B,nA,nB,tA,tB,eA,eB,e,i,h7,h8,gA,gB,ma⟩:=hI;simp only at h0 u h9 h7 h8 gA gB;refine Ae WC.eq_1 ?_;have r:((j:Int)<(l.length:Int))=True:=eq_true O;have qa:=nJ (j:=j);have hw:=wJ (j:=j) O;have ga:(Ay l)[j]?=some (I2 l[j]):=by simp[Ay,Qn k]
  have d:=aI5 nl l l[j] s w;have na:l.take (j+1)=l.take j++[l[j]]:=Qv k;have v:(Ay A).length<=j:=by rw[AH,eA];exact Qy (QP ..) Xg
  have va:(An B).length<=j:=by rw[Am,eB,Qr];exact Qy (QP ..) Xg
  generalize o:l[j]=x at *;unfold I2 at ga d;cases hg:Dv l (l.length+1) x s with
  |true=>
   rw[hg]at d;simp only[↓C2,Ie,simprocAttr,h0,u,h9,h8,r,AH,qa,Qp,ga,Ac aEv 272,d];have hG:=gB;refine AF.intro ⟨O,rfl,Xw⟩ ?_;simp only[↓C2,Ie,simprocAttr,h9,hw];have fin:(if nB=true then [D.str x.1]else An B++[D.str x.1])=An (B++[x.1]):=by
    rw[BN (λh=>by rw[i]at h;rw[of_decide_eq_true h];rfl)];simp[An]
   refine ih _ _ ⟨h0,u,rfl,A,B++[x.1],nA,false,tA,_,?_,?_,e,U,h7,congrArg (D.slice false _) fin,(gA.put.beside gB.put (λa b=>(ma b a).symm) O Xb).base,(gB.put.app O Xb).base,λq _=>gA.ne q O⟩
   ·rw[na,QW,←eA];simp[hg]
   ·rw[na,QW,QR,←eB];simp[hg]
  |false=>
   rw[hg]at d;simp only[↓C2,Ie,simprocAttr,h0,u,h9,h7,r,AH,qa,Qp,ga,Ac aEv 272,d];have hG:=gA;refine AF.intro ⟨by rw[AH]at v;omega,rfl,Xw⟩ ?_;simp only[↓C2,Ie,simprocAttr,h9,hw];have fin:(if nA=true then [D.agg [.str x.1,.str x.2.1,.slice x.2.2.1 [] (Aj x.2.2.2)]]else Ay A++[D.agg [.str x.1,.str x.2.1,.slice x.2.2.1 [] (Aj x.2.2.2)]])=Ay (A++[x]):=by
    rw[BN (λh=>by rw[e]at h;rw[of_decide_eq_true h];rfl)];simp[Ay,I2]
   refine ih _ _ ⟨h0,u,rfl,A++[x],B,false,nB,_,tB,?_,?_,U,i,congrArg (D.slice false _) fin,h8,(gA.put.app O Xb).base,(gB.put.beside gA.put ma O Xb).base,λ_ hb=>(gB.ne hb O).symm⟩
   ·rw[na,QW,←eA];simp[hg]
   ·rw[na,QW,QR,←eB];simp[hg]
 ·obtain⟨ja,da,fa⟩:=z;obtain⟨h0,u,h9,A,B,nA,nB,tA,tB,eA,eB,e,i,h7,h8,gA,gB,ma⟩:=hI;simp only at h0 u h9 h7 h8 gA gB;refine Ae WC.eq_1 ?_;have r:((l.length:Int)<(l.length:Int))=False:=eq_false O;rw[Qu (Qt _)]at eA eB;subst eA eB e i;simp only[↓C2,Ie,simprocAttr,h0,u,h9,h7,h8,r,AH]
  all_goals exact Qi
def aY7:=AB [(254,cQ 5 Vp aAe)]
def aI7:=RF aY7 aNd [.t 2,.t 3] 31
def aWR:Kq aI7 271:=Az (Ai func271) (Aa aLi Ad)
def aI6(nl:Bool)(l:List Bs)(w:l.length<=1024)(m:∀s∈l,s.length<=60000):aI7 [.slice nl [] (An l)]=some (.tup [.slice (decide (l.length=0)) [] (Ax (Cu l)),.int .i64 0]):=by
 refine Aq (Qo rfl) ?_;unfold aNd;have u:((1024:Int)<(l.length:Int))=False:=eq_false O;simp only[↓C2,Ie,simprocAttr,Am,u,decide_false];refine AV (n:=l.length) (I:=λk z=>z.s 0= .slice nl [] (An l)∧z.s 5= .int .i64 (k:Int)∧∃t,z.s 4= .slice (decide (k=0)) t (Ax (Cu (l.take k)))) (λk i ih z g a=>?_) (λz g a=>?_) 0 (Qq _) _ _ ⟨rfl,rfl,_,rfl⟩
 ·obtain⟨ja,f,o⟩:=z;obtain⟨r,q,t,e⟩:=a;simp only at r q e;refine Ae Wl.eq_1 ?_;have v:((k:Int)<(l.length:Int))=True:=eq_true O;have oa:(0:Int)<=(k:Int):=by omega
  have h:IntKind.i64.wrap ((k:Int)+1)=((k+1:Nat):Int):=Iz O O;have d:=Ej (l:=l) (j:=k) i;have p:=m l[k] (QN i);have na:l.take (k+1)=l.take k++[l[k]]:=Qv i;have ta:(Cu (l.take k)).length<=60002*k:=by
   have:=Ng (l:=l.take k) (λs hh=>m s (ZA hh));rw[QM]at this;omega
  generalize l[k]=x at d p na;have hF:aAe [.str x]=some (Ax (RR 2 x.length++x),[11]):=if_pos O;have c:∀b:Bs,(Ax b).all EQ=true:=λb=>by simp[Ax,EQ]
  simp only[↓C2,Ie,simprocAttr,r,q,e,v,Am,oa,Qp,d,AR aY7 254];refine eG (c _) Yg hF ?_;have hb:Ax (Cu (l.take k))++Ax (RR 2 x.length++x)=Ax (Cu (l.take (k+1))):=by rw[na,Pp];simp[Ax]
  unfold Vp;simp only[↓C2,Ie,simprocAttr,q,h];exact ih _ _ ⟨r,rfl,_,congrArg (D.slice false _) hb⟩
 ·obtain⟨ja,f,o⟩:=z;obtain⟨r,q,t,e⟩:=a;simp only at r q e;refine Ae Wl.eq_1 ?_;have v:((l.length:Int)<l.length)=False:=eq_false O;rw[Qu (Qt _)]at e;simp only[↓C2,Ie,simprocAttr,r,q,e,v,Am]
  all_goals exact Qi
def aIl:=AB [(116,Af PS),(270,Af oN),(271,Af aI7)]
def aJD:=RF aIl aOw [.t 2,.t 3] 30
def aXh:Kq aJD 170:=Az (Ai func170) (Aa aLw (Aa aLf (Aa aWR Ad)))
def aJC(n p:Bs)(a:Bool)(rs:List Rl)(rt:Bs)(e2:Int)(v:PS [.agg [.str n,.str p,.slice a [] (Aj rs)]]=some (.int .i64 0))(g:oN [.slice a [] (Aj rs)]=some (.tup [.str rt,.int .i64 e2]))(m:p.length<=60000)(y:rt.length<=60000):aJD [.agg [.str n,.str p,.slice a [] (Aj rs)]]=some (.tup [.str (Cu [p,rt]),.int .i64 0]):=by
 refine Aq (Qo rfl) ?_;unfold aOw;have b:aI7 [.slice false [] [.str p,.str rt]]=some (.tup [.slice false [] (Ax (Cu [p,rt])),.int .i64 0]):=aI6 false [p,rt] U (by
  intro s j;simp only[QE,ZJ,or_false]at j;rcases j with rfl|rfl
  ·exact m
  ·exact y)
 simp only[↓C2,Ie,simprocAttr,Ac aIl 116,v,Ac aIl 270,g,Ac aIl 271,b,Cy]
 all_goals exact Qi
end Go.Vd
namespace Go.Vd
open Go.RowKit
section
variable{P:Program}{B:Nat}{w0:World}{N:Nat}{S:Ic}
def Ly(s:Ic.ok P S){x:Code}{d:DC}{t:Nat}(v:AM P N x=some d)(j:D5 t x=true){z:St}{a:Act}{w:World}{g:Gh}(p:Holds P B w0 N [] z a w g){Q:Ex->St->Prop}(h:d.wp S [] Q z):
  x.wp P (λr y o=>∃e la l,r=e.toExit∧Q e la∧Holds P B w0 N [] la y o l∧l.G0=g.G0∧y.tmps[t]?=a.tmps[t]?) a w:=by
 obtain⟨e,la,q,b⟩:=h;refine wp_mono (aC8 s x d v j z e la q a w g p) ?_;rintro r y o ⟨⟨rfl,l,f,c,_⟩,n⟩;exact⟨e,la,l,rfl,b,f,c.G0,n⟩
end
end Go.Vd
namespace Go.Vd
open Go.Proofs Go.RowKit
def Sp(p:Bool×List Mt):List D:=[.slice p.1 [] (Ar p.2)]
def vP(x y:Bool×List Mt)(e:Sp x=Sp y):x=y:=by
 grind [Sp,LH]
def aTq:List D->Option D:=FX Sp (λp=>HB p.2) (λp=> .str (Cs p.2))
def bI{n:Bool}{l:List Mt}(h:HB l):aTq [.slice n [] (Ar l)]=some (.str (Cs l)):=Bl (mk:=Sp) (a:=(n,l)) vP h
def rV:DC:=(.seq (.row [⟨some 5,.mv (.t 4),[],none⟩,⟨some 6,.mv (.t 0),[],none⟩,⟨some 7,.len false (.t 6),[],none⟩,⟨some 8,.bin .lss (.t 5) (.t 7),[],none⟩]) (.cond (.t 8) .skip (.exit 0)))
def aPu:DC:=(.row [⟨some 12,.mv (.t 3),[],none⟩,⟨some 13,.mv (.t 0),[],none⟩,⟨some 14,.mv (.t 4),[],none⟩,⟨some 15,.iaddr 3 (.t 13) (.t 14),[],none⟩,⟨some 16,.faddr 0 (.t 15),[],none⟩,⟨some 17,.load none (.t 16),[],none⟩,⟨some 18,.call (.c (.fn 254 [])) [(.t 12),(.t 17)],[],none⟩,⟨some 11,.mv (.t 18),[],none⟩,⟨some 19,.ext 0 (.t 11),[],none⟩,⟨some 20,.ext 1 (.t 11),[],none⟩,⟨some 3,.mv (.t 19),[],none⟩])
def aPt:DC:=(.row [⟨some 21,.mv (.t 3),[],none⟩,⟨some 22,.mv (.t 0),[],none⟩,⟨some 23,.mv (.t 4),[],none⟩,⟨some 24,.iaddr 3 (.t 22) (.t 23),[],none⟩,⟨some 25,.faddr 1 (.t 24),[],none⟩,⟨some 26,.faddr 0 (.t 25),[],none⟩,⟨some 27,.load none (.t 26),[],none⟩,⟨some 28,.conv .u8 (.t 27),[],none⟩,⟨some 29,.bslice 5 1 [(.t 28),(.c (.int .u8 0))],[],none⟩,⟨some 30,.app 5 1 1 (.t 21) (.t 29),[],none⟩,⟨some 3,.mv (.t 30),[],none⟩])
def aPs:DC:=(.row [⟨some 31,.mv (.t 0),[],none⟩,⟨some 32,.mv (.t 4),[],none⟩,⟨some 33,.iaddr 3 (.t 31) (.t 32),[],none⟩,⟨some 34,.faddr 1 (.t 33),[],none⟩,⟨some 35,.faddr 1 (.t 34),[],none⟩,⟨some 36,.load none (.t 35),[],none⟩])
def aPr:DC:=(.row [⟨some 9,.mv (.t 4),[],none⟩,⟨some 10,.bin .add (.t 9) (.c (.int .i64 1)),[],none⟩,⟨some 4,.mv (.t 10),[],none⟩])
section
variable{S:Ic}{l:List Mt}{n1:Bool}{j:Nat}{st:St}{n:Bool}{t:Id}{bs:Bs}
def MJ(n1:Bool)(l:List Mt)(j:Nat)(n:Bool)(t:Id)(bs:Bs)(z:St):Prop:=
 z.s 0= .slice n1 [] (Ar l)∧z.s 3= .slice n t (Ax bs)∧z.s 4= .int .i64 (j:Int)
def aXG(h:MJ n1 l j n t bs st)(y:j<l.length):rV.wp S [] (λe la=>e= .normal∧MJ n1 l j n t bs la) st:=by
 obtain⟨r,o,b⟩:=h;have v:((j:Int)<l.length):=O
 simp only[↓C2,Ih,Ii,simprocAttr,rV,r,b,v,Au];exact⟨r,o,b⟩
def aXB(h:MJ n1 l j n t bs st)(y:¬j<l.length):rV.wp S [] (λe la=>e= .exit 0∧MJ n1 l j n t bs la) st:=by
 obtain⟨r,o,b⟩:=h;have v:¬((j:Int)<l.length):=O
 simp only[↓C2,Ih,Ii,simprocAttr,rV,r,b,v,Au];exact⟨r,o,b⟩
def aXF(c:S 254=some (cQ 5 Vp aAe))(h:MJ n1 l j n t bs st)(y:j<l.length)(i:bs.length<=10000000)(g:(AZ l j).1.length<=1000):
  aPu.wp S [] (λe la=>e= .normal∧∃x,MJ n1 l j false x (bs++jJ (AZ l j).1) la∧x≠[]∧la.m x 0=some (.tok 6)) st:=by
 obtain⟨r,o,h4⟩:=h;have v:((j:Int)<l.length):=O
 have a:=nJ (j:=j);have d:(Ar l)[j]?=some (.agg [.str (AZ l j).1,.int .i64 (AZ l j).2.1,.bool (AZ l j).2.2]):=Dc y;generalize AZ l j=m at d g ⊢;obtain⟨p,k,b⟩:=m;simp only at g d;have z:aAe [.str p]=some (Ax (jJ p),[11]):=if_pos O;obtain⟨ja,f,q⟩:=st;simp only at r o h4;simp only[↓C2,Iw,Ii,simprocAttr,aPu,r,o,h4,a,Qp,d,AN c,Qq,QK,Zf];refine eG (O3 _) Yg z ?_;simp only[↓C2,Is,simprocAttr,Vp,Ag];refine⟨_,⟨r,pK rfl (by rw[Dw]),h4⟩,?_,?_⟩
 ·simp
 ·simp only[];simp
def aXE(h:MJ n1 l j false t bs st)(y:j<l.length)(i:bs.length<=10000000)(g:t≠[])(z:st.m t 0=some (.tok 6)):
  aPt.wp S [] (λe la=>e= .normal∧∃x,MJ n1 l j false x (bs++[UInt8.ofNat ((AZ l j).2.1 % 256).toNat,0]) la∧x≠[]∧la.m x 0=some (.tok 6)) st:=by
 obtain⟨r,o,n⟩:=h;have v:((j:Int)<l.length):=O
 have a:=nJ (j:=j);have d:(Ar l)[j]?=some (.agg [.str (AZ l j).1,.int .i64 (AZ l j).2.1,.bool (AZ l j).2.2]):=Dc y;generalize AZ l j=m at d ⊢;obtain⟨p,k,b⟩:=m;simp only at d;obtain⟨c,f,q⟩:=st;simp only at r o n z;simp only[↓C2,Iw,Ii,simprocAttr,aPt,r,o,n,a,Qp,d,NO,Qq,and_self,QK,Q6,Zf];refine AF.intro ⟨by simp only[BS];omega,rfl,.inr ⟨?_,g⟩⟩ ?_
 ·grind [BK]
 simp only[↓C2,Ij,simprocAttr];refine⟨[q+9],⟨r,pK rfl ?_,n⟩,?_,?_⟩
 ·grind [Dw,Ax,EU]
 ·simp
 ·simp_all [Bm,Ir.app,BK]
def aXD(h:MJ n1 l j false t bs st)(y:j<l.length):
  aPs.wp S [] (λe la=>e= .normal∧MJ n1 l j false t bs la∧la.m=st.m∧la.s 36= .bool (AZ l j).2.2) st:=by
 obtain⟨r,o,n⟩:=h;have v:((j:Int)<l.length):=O
 have a:=nJ (j:=j);have d:(Ar l)[j]?=some (.agg [.str (AZ l j).1,.int .i64 (AZ l j).2.1,.bool (AZ l j).2.2]):=Dc y;generalize AZ l j=m at d ⊢;obtain⟨p,k,b⟩:=m;simp only at d;obtain⟨c,f,q⟩:=st;simp only at r o n;simp only[↓C2,Iw,Ii,simprocAttr,aPs,r,n,a,Qp,d,and_self,QK,Q6,Zf];exact⟨r,o,n⟩
def aXC(h:MJ n1 l j n t bs st)(y:j<l.length)(w:l.length<=1000):
  aPr.wp S [] (λe la=>e= .normal∧MJ n1 l (j+1) n t bs la) st:=by
 obtain⟨r,o,b⟩:=h;have d:=wJ (j:=j) O;simp only[↓C2,Ih,Ii,simprocAttr,aPr,b,d];exact⟨r,o,rfl⟩
end
def aCt:(f147.body.map (D5 0))=some true:=Xa
def aLs:Kq aTq 147:=by
 obtain⟨S,hS,hl⟩:=A7 (Aa aLi Ad);have c:=hl 254 _ rfl;clear hl;refine wS (Ai func147:Fn Qs 147 44 aOR [.t 2]) (λds r h=>?_) (λds r h fn ca a w g hf b aa va ha hG ma=>?_)
 ·obtain⟨p,_,rfl,_⟩:=C6 h;simp[Sp]
 ·obtain⟨⟨n1,l⟩,hl,rfl,rfl⟩:=C6 h;replace hl:HB l:=hl;have hk:D5 0 ca=true:=by
   have e:fn=f147:=(ZL (func147.symm.trans hf)).symm;have oa:=aCt;rw[e]at b;rw[b]at oa;exact ZL oa
  unfold aOR at aa;obtain⟨c1,y,rfl,t1,ia⟩:=HF aa;obtain⟨c2,y,rfl,t2,z⟩:=HF ia;obtain⟨db,y3,rfl,cb,ty⟩:=HF z;obtain⟨c3,y4,rfl,t3,t4⟩:=HF cb;obtain⟨c4,rfl,wa⟩:=bZ t4;obtain⟨c5,rfl,t5⟩:=aFV wa;unfold rU at t5;obtain⟨cA,y,rfl,tA,tB⟩:=HF t5;obtain⟨cB,c9,rfl,bb,t9⟩:=HF tB;obtain⟨cC,rfl,tC⟩:=bZ bb;obtain⟨k1,y,rfl,u1,tD⟩:=HF tC;obtain⟨k2,y,rfl,u2,tE⟩:=HF tD;obtain⟨k3,k4,rfl,u3,tF⟩:=HF tE;obtain⟨o,kx,ky,rfl,uo,ux,uy⟩:=aFW tF;obtain⟨i,os,da,rfl,fa,hd⟩:=aPX ux;simp only[D5,QA]at hk;obtain⟨q1,q2,⟨q3,qA,⟨ta,ab,v,_,wy⟩,q9⟩,qy⟩:=hk;have ua:=ma.slots 0;have ja:=ma.inv.gz;refine wp_seq (wp_mono (Ly hS t1 q1 ma (Q:=λe la=>e= .normal∧la.s 0= .slice n1 [] (Ar l)) (by simp only[↓C2,Ih,simprocAttr,Sp,and_self])) ?_);rintro e1 a1 w1 ⟨e,ga,g1,rfl,⟨rfl,r1⟩,h1,G1,T1⟩;refine wp_seq (wp_mono (Ly hS t2 q2 h1 (Q:=λe la=>e= .normal∧la.s 0= .slice n1 [] (Ar l)∧la.s 3= .slice true [] []) (by simp only[↓C2,Ih,simprocAttr,r1,and_self])) ?_);rintro e1 a2 w2 ⟨e,pa,g2,rfl,⟨rfl,r2,sa⟩,h2,G2,T2⟩;refine wp_seq (wp_seq (wp_mono (Ly hS t3 q3 h2 (Q:=λe la=>e= .normal∧MJ n1 l 0 true [] [] la) (by simp only[↓C2,Ih,Ii,simprocAttr,MJ,r2,sa];first|done|exact⟨r2,sa,rfl⟩|exact⟨rfl,rfl⟩|exact⟨rfl,rfl,rfl⟩|rfl)) ?_));rintro e1 a3 w3 ⟨e,za,g3,rfl,⟨rfl,r3⟩,h3,G3,T3⟩
  let J:Nat->Act->World->Prop:=λn a' w'=>∃st g' j nl t,Holds Qs w.heap.size w 44 [] st a' w' g'∧g'.G0=g.G0∧a'.tmps[0]?=a.tmps[0]?∧MJ n1 l j nl t (Cs (l.take j)) st∧n=l.length-j∧j<=l.length
  refine wp_block (Ma J ?_ (n:=l.length) ⟨za,g3,0,true,[],h3,by rw[G3,G2,G1],by rw[T3,T2,T1],r3,O,O⟩);rintro n a4 w4 ⟨st,g4,j,nl,t,h4,G4,T4,K4,rfl,hj⟩;rcases Zu j l.length with hlt|hge
  ·have hb:=Vc hl j hj;have ra:=hl.1;have hp:=hl.2 _ (Sm hlt);refine wp_seq (wp_mono (Ly hS tA qA h4 (aXG K4 hlt)) ?_);rintro e1 a5 w5 ⟨e,xa,g5,rfl,⟨rfl,r5⟩,h5,G5,T5⟩;refine wp_seq (wp_block ?_);refine wp_seq (wp_mono (Ly hS u1 ta h5 (aXF c r5 hlt O hp)) ?_);rintro e1 a6 w6 ⟨e,u,g6,rfl,⟨rfl,t6,r6,n6,m6⟩,h6,G6,T6⟩;refine wp_seq (wp_mono (Ly hS u2 ab h6 (aXE r6 hlt (by rw[Qz,Lo];omega) n6 m6)) ?_);rintro e1 a7 w7 ⟨e,eb,g7,rfl,⟨rfl,t7,r7,n7,m7⟩,h7,G7,T7⟩;refine wp_seq (wp_mono (Ly hS u3 v h7 (aXD r7 hlt)) ?_);rintro e1 a8 w8 ⟨e,ba,g8,rfl,⟨rfl,r8,m8,c8⟩,h8,G8,T8⟩;have qa:g8.G0=g.G0:=by rw[G8,G7,G6,G5,G4]
   have ka:a8.tmps[0]?=a.tmps[0]?:=by rw[T8,T7,T6,T5,T4]
   have fin:∀(a':Act)(w':World)(la:St)(g':Gh)(n':Bool)(t':Id),Holds Qs w.heap.size w 44 [] la a' w' g'->g'.G0=g.G0->a'.tmps[0]?=a.tmps[0]?->MJ n1 l j n' t' (Cs (l.take (j+1))) la->
     c9.wp Qs (Exit.then (λa' w'=>∃k,k<l.length-j∧J k a' w') (Exit.inBlock 0 (Exit.then (y3.wp Qs (λe a' w'=>(e= .normal∨e= .ret)∧∃la g' d,Holds Qs w.heap.size w 44 [] la a' w' g'∧g'.G0=g.G0∧Cw [RV.t 2] la.s la.m=some d∧d.unR= .str (Cs l)∧(D.str (Cs l)).calmR=true)) (λe a' w'=>(e= .normal∨e= .ret)∧∃la g' d,Holds Qs w.heap.size w 44 [] la a' w' g'∧g'.G0=g.G0∧Cw [RV.t 2] la.s la.m=some d∧d.unR= .str (Cs l)∧(D.str (Cs l)).calmR=true)))) a' w':=by
    intro a' w' la g' n' t' hh hg ht ea;refine wp_mono (Ly hS t9 q9 hh (aXC ea hlt ra)) ?_;rintro e1 a9 w9 ⟨e,q,g9,rfl,⟨rfl,r9⟩,h9,G9,T9⟩;exact⟨l.length-(j+1),O,q,g9,j+1,n',t',h9,by rw[G9,hg],by rw[T9,ht],r9,rfl,O⟩
   have na:=OB hlt;have f:=h8.slots.arg uo;rw[show Ip.ev ba.s (.t 36)=ba.s 36 from rfl,c8]at f;cases hb2:(AZ l j).2.2 with
   |true=>
    rw[hb2]at f;refine wp_cond_true f.bool_inv ?_;have x:=aHq (id:=i) (e:=5) (g0:=g) (w0:=w) hS fa hd.symm h8 va ha hG ja qa (by
     rw[r8.1];rw[show a8.tmps.getD 0 undef=a.tmps.getD 0 undef by rw[Zi,Zi,ka]];exact ua) (bs:=Cs (l.take j)++jJ (AZ l j).1++[UInt8.ofNat ((AZ l j).2.1 % 256).toNat,0]) U (by simp only[Qz,Lo,Qw,QS];omega) n7 r8.2.1 r8.2.2 (by rw[m8];exact m7)
    refine wp_mono x ?_;rintro e1 a9 w9 ⟨rfl,T9,q,g9,h9,G9,z0,z4,z3⟩;refine fin a9 w9 q g9 false [] h9 G9 (T9.trans ka) ⟨z0.trans r8.1,?_,z4.trans r8.2.2⟩;rw[z3,aF4,na];simp only[mtB,hb2,if_true,Q_]
   |false=>
    rw[hb2]at f;refine wp_cond_false f.bool_inv ?_;refine wp_mono (Ly hS uy wy h8 (Q:=λe la=>e= .normal∧la=ba) ⟨_,_,⟨rfl,rfl⟩,rfl,rfl⟩) ?_;rintro e1 a9 w9 ⟨e,q,g9,rfl,⟨rfl,rfl⟩,h9,G9,T9⟩;refine fin a9 w9 q g9 false t7 h9 (G9.trans qa) (T9.trans ka) ⟨r8.1,?_,r8.2.2⟩;rw[r8.2.1,na];simp only[mtB,hb2,if_false,QZ,Q_]
  ·refine wp_seq (wp_mono (Ly hS tA qA h4 (aXB K4 O)) ?_);rintro e1 a5 w5 ⟨e,xa,g5,rfl,⟨rfl,r5⟩,h5,G5,T5⟩;have ya:j=l.length:=by omega
   rw[ya,Qu (Qt _)]at r5;simp only[Ex.toExit,Exit.then,Exit.inBlock,if_true];refine wp_mono (Ly hS ty qy h5 (Q:=λe la=>(e= .ret∨e= .normal)∧la.s 2= .str (Cs l)) (by
    obtain⟨z0,z3,z4⟩:=r5;simp only[↓C2,Ih,Ii,simprocAttr,z3,aD6,Cy]
    first|done|exact⟨.inl rfl,rfl⟩|simp)) ?_
   rintro e1 a6 w6 ⟨e,u,g6,rfl,⟨he,r6⟩,h6,G6,T6⟩;refine⟨?_,u,g6,.str (Cs l),h6,by rw[G6,G5,G4],?_,rfl,rfl⟩
   ·rcases he with rfl|rfl
    ·exact .inr rfl
    ·exact .inl rfl
   ·show Cw [RV.t 2] u.s u.m=_;simp only[Cw,Gt,RV.of,r6]
def lv3{p:Bs}{q:Int}{b:Bool}:Bn [.str p,.int .i64 q,.bool b] [.str p,.int .i64 q,.bool b] [(2,0),(0,1),(1,2)]=some true:=by simp[Bn,LJ]
def aQC{S:Ic}{l:List Mt}{n2 n5:Bool}{Q:Ex->St->Prop}{M:Ig}(x:S 46=some (Af F46))(w:l.length<=1000)(e:∀z,z.m=M->z.s 1= .slice n2 [] (Ar l)->z.s 2= .ptr [0] 0->Q (.exit 0) z):
  ∀(f j:Nat)(z:St) g,l.length=j+f->z.m=M->z.s 1= .slice n2 [] (Ar l)->z.s 2= .ptr [0] 0->z.s 5= .slice n5 [] (Ar l)->z.s 6= .int .i64 (j:Int)->A2 S [] V0 Q z g:=by
 intro f;induction f with
 |zero=>
  intro j z g k c u t h5 h6;refine Ae V0.eq_1 ?_;have:¬((j:Int)<l.length):=O
  simp only[↓C2,Ih,Ii,simprocAttr,u,h6,this,Au];exact e _ c u t
 |succ f ih=>
  intro j z g k c u t h5 h6;refine Ae V0.eq_1 ?_;have y:j<l.length:=O
  have v:((j:Int)<l.length):=O
  have a:=nJ (j:=j);have h:=wJ (j:=j) O;have r:(Ar l)[j]?=some (.agg [.str (AZ l j).1,.int .i64 (AZ l j).2.1,.bool (AZ l j).2.2]):=Dc y;generalize AZ l j=m at r;obtain⟨p,q,b⟩:=m;simp only at r;have d:F46 [.agg [.str p,.int .i64 q,.bool b]]=some (.agg [.str p,.int .i64 q,.bool b]):=aE3 (m:=(p,q,b));obtain⟨i,da,o⟩:=z;simp only at c u t h5 h6;simp only[↓C2,Iw,Ii,simprocAttr,u,h5,h6,v,a,Qp,r,Au,Ab x,d,lv3,bne_self_eq_false,Qt,ZC,ZO];refine AF.intro (Ce ?_) ?_
  ·simp_all [Ec,BP,Lf,A4,Af]
  simp only[↓C2,Ih,IM,simprocAttr,h6,h];exact ih (j+1) _ _ O c u t h5 rfl
open Classical in
def aKS{n:Bool}{l:List Mt}(w:HB l)(f:n=true->l=[]):aKT [.agg [.slice n [] (Ar l)]]=some (.slice n [] (Ar l)):=by
 show(if _ then _ else _)=_;rw[if_pos (N_ (by have:=w.1;omega) f)]
open Classical in
def aKQ{n:Bool}{l:List Mt}(w:HB l):aKR [.agg [.slice n [] (Ar l)]]=some (.int .i64 ((Cs l).length:Int)):=by
 have h:Ar l=Ar (Cb (Ar l))∧(Ar l).length<=1000∧∀m∈Cb (Ar l),m.1.length<=1000000:=⟨by rw[Bj],by rw[Au];exact w.1,λm z=>by rw[Bj]at z;have:=w.2 m z;omega⟩;show(if _ then _ else _)=_;rw[if_pos h,Bj,aHo]
def ok66:Kq F66 66:=by
 obtain⟨S,v,w⟩:=A7 (Aa aVu (Aa aUh (Aa aBL (Aa aLs (Aa aVt Ad)))));have h:=w 146 _ rfl;have x:=w 46 _ rfl;have b:=w 126 _ rfl;have f:=w 147 _ rfl;have g:=w 148 _ rfl;clear w;refine Bo v (Ai func66:Fn Qs 66 43 aYc [.t 4]) (λ_=>by simp[kO]) (λp m=>?_);obtain⟨n1,n2,l⟩:=p;obtain⟨w,r⟩:=m;replace w:HB l:=w;replace r:n1=true->l=[]:=r;have a:=aKS w r;have c:=bJ (n:=n1) w;have d:=bI (n:=n2) w;have e:=aKQ (n:=n1) w;unfold aYc kO;simp only;simp only[↓C2,Iw,Ii,simprocAttr,Au,Ab h,a,Ag,Ao,Ap,Qq,QX,Qx,and_self,ZK];refine aQC (l:=l) (n2:=n2) (n5:=n1) x w.1 (λz hm u q=>?_) l.length 0 _ _ O rfl rfl rfl rfl rfl;simp only[↓C2,Iw,Ii,simprocAttr,u,q,hm,Ab b,c,Ab f,d,Ab g,e,Ag,Ao,Ap,Qq,QX,Qx,and_self,ZK]
def MH:=AB [(47,Af F47),(52,Af F52),(75,Af R75),(85,Af R85),(147,Af aTq),(167,Af Ow),(168,Af aEM),(169,Af aJF),(170,Af aJD),(171,Af aSY),(172,Af aJB)]
def iQ:=RF MH Oh [.cell (some 9) 4] 206
def bAz:Kq iQ 76:=Az (Ai func76) (Aa aUg (Aa aUd (Aa aHv (Aa aCn (Aa aLs (Aa aCr (Aa aCq (Aa aXi (Aa aXh (Aa aXg (Aa aXf Ad)))))))))))
def aSa(v:Vw)(a:Ak)(h:a.op=1):iQ [.agg (Iq v),.agg (It a)]=some (.agg (IA {Ix v with rep:=IY (.state v.se)})):=by
 refine Aq (Qo rfl) ?_;unfold Oh;have s:IntKind.i64.wrap 1=1:=rfl;have la:=NF (.state v.se) ⟨rfl,trivial,Xu⟩;simp only[IL]at la;unfold Ix IA It Iq at *;rw[h]at *;simp only[↓C2,Ie,simprocAttr,s,Ac MH 85,la];refine Al ?_;simp only[↓C2,Ie,simprocAttr]
 all_goals exact Qi
def aEz(v:Vw)(a:Ak)(h:a.op=2∨a.op=3):iQ [.agg (Iq v),.agg (It a)]=some (.agg (IA ⟨[],false,[111,107],true,[],{v with se:=decide (a.op=3)}⟩)):=by
 refine Aq (Qo rfl) ?_;unfold Oh;have s:IntKind.i64.wrap 2=2:=rfl;have b:IntKind.i64.wrap 3=3:=rfl;rcases h with h|h
 all_goals
  have x:Ow [.agg (Iq {v with se:=decide (a.op=3)}),.slice true [] []]=_:=ER {v with se:=decide (a.op=3)} true [];unfold IA It Iq at *;rw[h]at *;simp only[show((2:Int)=3)=False from by decide,decide_true,decide_false]at x ⊢;simp only[↓C2,Ie,simprocAttr,s,b,Ac MH 167,x]
  all_goals exact Qi
def aIt(v:Vw)(a:Ak)(h:a.op=4)(x:6<=v.te):iQ [.agg (Iq v),.agg (It a)]=some (.agg (IA (BJ v 19))):=by
 refine Aq (Qo rfl) ?_;unfold Oh;have s:IntKind.i64.wrap 4=4:=rfl;have c:(6<=v.te)=True:=eq_true x;have y:=CC v 19 Z;unfold BJ IA It Iq at *;rw[h]at *;simp only[↓C2,Ie,simprocAttr,s,c,Ac MH 75,y]
 all_goals exact Qi
def aR9(v:Vw)(a:Ak)(h:a.op=4)(q:¬6<=v.te)(r:0<=v.te):iQ [.agg (Iq v),.agg (It a)]=some (.agg (IA ⟨[],false,[111,107],false,[(1,[115,47,114,105,110,103],QV (1+16*(v.te+1)).toNat 0)],{v with te:=v.te+1}⟩)):=by
 refine Aq (Qo rfl) ?_;unfold Oh;have s:IntKind.i64.wrap 4=4:=rfl;have c:(6<=v.te)=False:=eq_false q;have l:IntKind.i64.wrap (v.te+1)=v.te+1:=Iz O O;have o:IntKind.i64.wrap (16*(v.te+1))=16*(v.te+1):=Iz O O;have p:IntKind.i64.wrap (1+16*(v.te+1))=1+16*(v.te+1):=Iz O O;have z:=My [115,47,114,105,110,103] (QV (1+16*(v.te+1)).toNat 0);have x:Ow [.agg (Iq {v with te:=v.te+1}),.slice false [] [.agg [.int .u8 1,.str [115,47,114,105,110,103],.str (QV (1+16*(v.te+1)).toNat 0)]]]=_:=ER {v with te:=v.te+1} false [(1,[115,47,114,105,110,103],QV (1+16*(v.te+1)).toNat 0)];unfold IA It Iq at *;rw[h]at *;have e:(0:Int)<=1+16*(v.te+1):=O
 have w:(1+16*(v.te+1))*2<=140737488355328:=O
 have b:BQ (QV (1+16*(v.te+1)).toNat (D.int .u8 0))=some (QV (1+16*(v.te+1)).toNat 0):=by
  generalize (1+16*(v.te+1)).toNat=n;induction n with
  |zero=>rfl
  |succ n ih=>rw[Zh,Zh];unfold BQ;rw[ih];rfl
 simp only[↓C2,Ie,reduceIte,Nat.reduceEqDiff,Nat.reduceAdd,Nat.reduceLT,Nat.reduceLeDiff,Nat.reduceSub,reduceCtorEq,Int.reduceEq,Int.reduceNe,Int.reduceLT,Int.reduceLE,s,c,l,o,p,e,ZV,Ac MH 168,z];refine AF.intro Xc ?_;simp only[↓C2,Ie,reduceIte,Nat.reduceEqDiff,Nat.reduceAdd,Nat.reduceLT,Nat.reduceLeDiff,Nat.reduceSub,reduceCtorEq,Int.reduceEq,Int.reduceNe,Int.reduceLT,Int.reduceLE,b,Ac MH 168,z,Ac MH 167,x];refine Al ?_;simp only[↓C2,Ie,reduceIte,Nat.reduceEqDiff,Nat.reduceAdd,Nat.reduceLT,Nat.reduceLeDiff,Nat.reduceSub,reduceCtorEq,Int.reduceEq,Int.reduceNe,Int.reduceLT,Int.reduceLE]
 all_goals exact Qi
def aIs(v:Vw)(a:Ak)(h:a.op=5)(r:IG v)(f:v.nlm=true->v.ms=[])(g:a.pa.length<=1000000)(k:(Gf v.ms (a.pa,a.n,a.fl)).1=none)(x:1<=(Gf v.ms (a.pa,a.n,a.fl)).2∧(Gf v.ms (a.pa,a.n,a.fl)).2<=99):iQ [.agg (Iq v),.agg (It a)]=some (.agg (IA (BJ v (Gf v.ms (a.pa,a.n,a.fl)).2))):=by
 refine Aq (Qo rfl) ?_;unfold Oh;have s:IntKind.i64.wrap 5=5:=rfl;have b:=oL (nl:=v.nlm) (t:=[]) (l:=v.ms) (m:=(a.pa,a.n,a.fl)) r.ml f g (λm z=>by have:=r.mp m z;omega);rw[k]at b;generalize (Gf v.ms (a.pa,a.n,a.fl)).2=e at *;have u:(e=0)=False:=eq_false O;have y:=CC v e x;unfold aAJ I0 at b;unfold BJ IA It Iq at *;rw[h]at *;simp only[↓C2,Ie,simprocAttr,s,Ac MH 47,b,u,decide_false,Ac MH 75,y]
 all_goals exact Qi
def aR8(v:Vw)(a:Ak)(u:List Mt)(h:a.op=5)(r:IG v)(f:v.nlm=true->v.ms=[])(g:a.pa.length<=1000000)(k:Gf v.ms (a.pa,a.n,a.fl)=(some u,0))(w:HB u):iQ [.agg (Iq v),.agg (It a)]=some (.agg (IA ⟨[],false,[111,107],false,[(1,[115,47,109,111,117,110,116,115],Cs u)],{v with nlm:=false,ms:=u}⟩)):=by
 refine Aq (Qo rfl) ?_;unfold Oh;have s:IntKind.i64.wrap 5=5:=rfl;have b:=oL (nl:=v.nlm) (t:=[]) (l:=v.ms) (m:=(a.pa,a.n,a.fl)) r.ml f g (λm c=>by have:=r.mp m c;omega);rw[k]at b;have d:=bI (n:=false) w;have z:=My [115,47,109,111,117,110,116,115] (Cs u);have x:Ow [.agg (Iq {v with nlm:=false,ms:=u}),.slice false [] [.agg [.int .u8 1,.str [115,47,109,111,117,110,116,115],.str (Cs u)]]]=_:=ER {v with nlm:=false,ms:=u} false [(1,[115,47,109,111,117,110,116,115],Cs u)];unfold aAJ I0 at b;unfold IA It Iq at *;rw[h]at *;simp only[↓C2,Ie,simprocAttr,s,Ac MH 47,b,Ac MH 147,d,Ac MH 168,z,Ac MH 167,x];refine Al ?_;simp only[↓C2,Ie,simprocAttr]
 all_goals exact Qi
def aIr(v:Vw)(a:Ak)(h:a.op=6)(t:IG v)(g:a.pa.length<=1000000)(k:Bh v.ms a.pa<0):iQ [.agg (Iq v),.agg (It a)]=some (.agg (IA (BJ v 14))):=by
 refine Aq (Qo rfl) ?_;unfold Oh;have s:IntKind.i64.wrap 6=6:=rfl;have b:=aJE v.nlm v.ms a.pa t.ml k;have y:=CC v 14 Z;unfold BJ IA It Iq at *;rw[h]at *;simp only[↓C2,Ie,simprocAttr,s,Ac MH 169,b,Ac MH 75,y]
 all_goals exact Qi
def aR7(v:Vw)(a:Ak)(h:a.op=6)(t:IG v)(g:a.pa.length<=1000000)(k:¬Bh v.ms a.pa<0)(hi:(Bh v.ms a.pa).toNat<v.ms.length)(w:HB (NR v.ms a.pa)):iQ [.agg (Iq v),.agg (It a)]=some (.agg (IA ⟨[],false,[111,107],false,[(1,[115,47,109,111,117,110,116,115],Cs (NR v.ms a.pa)),(3,[109,47]++a.pa++[47],[]),(3,[100,47]++a.pa++[47],[])],{v with nlm:=false,ms:=NR v.ms a.pa}⟩)):=by
 refine Aq (Qo rfl) ?_;unfold Oh;have s:IntKind.i64.wrap 6=6:=rfl;have r:∀x y,AJ .add (.str [x,y]) (.str a.pa)=some (.str ([x,y]++a.pa)):=λx y=>BY XV
 have q:∀x y,AJ .add (.str ([x,y]++a.pa)) (.str [47])=some (.str ([x,y]++a.pa++[47])):=λx y=>BY XI
 have b:=aEL v.nlm v.ms a.pa t.ml k hi;have d:=bI (n:=false) w;generalize NR v.ms a.pa=u at *;have z:=My [115,47,109,111,117,110,116,115] (Cs u);have c:Ow [.agg (Iq {v with nlm:=false,ms:=u}),.slice false [] [.agg [.int .u8 1,.str [115,47,109,111,117,110,116,115],.str (Cs u)],.agg [.int .u8 3,.str ([109,47]++a.pa++[47]),.str []],.agg [.int .u8 3,.str ([100,47]++a.pa++[47]),.str []]]]=_:=ER {v with nlm:=false,ms:=u} false [(1,[115,47,109,111,117,110,116,115],Cs u),(3,[109,47]++a.pa++[47],[]),(3,[100,47]++a.pa++[47],[])];unfold IA It Iq at *;rw[h]at *;simp only[↓C2,Ie,simprocAttr,s,Ac MH 169,b,Ac MH 147,d,Ac MH 168,z,r,q,Ac MH 167,c];refine Al ?_;simp only[↓C2,Ie,simprocAttr]
 all_goals exact Qi
def aIo(v:Vw)(a:Ak)(h:a.op=8)(t:IG v)(k:Bv v.ks a.ot<0):iQ [.agg (Iq v),.agg (It a)]=some (.agg (IA (BJ v 6))):=by
 refine Aq (Qo rfl) ?_;unfold Oh;have s:IntKind.i64.wrap 8=8:=rfl;have b:=aJz v.nlt v.ks a.ot t.kl k;have y:=CC v 6 Z;unfold BJ IA It Iq at *;rw[h]at *;simp only[↓C2,Ie,simprocAttr,s,Ac MH 172,b,Ac MH 75,y]
 all_goals exact Qi
def aR5(v:Vw)(a:Ak)(l:List Tk)(gs:List Bs)(h:a.op=8)(hv:IG v)(hf:¬Bv v.ks a.ot<0)(hl:Pw v.ks a.ot=l)(hg:LF v.ks a.ot=gs)(ta:gs.length<=1000)(ba:∀s∈gs,s.length<=1000000)(hy:GY (.names (decide (gs=[])) gs)):iQ [.agg (Iq v),.agg (It a)]=some (.agg (IA ⟨[],false,IY (.names (decide (gs=[])) gs),decide (gs=[]),gs.map λn=>(2,AO 3 n 0,[]),{v with nlt:=decide (l=[]),ks:=l}⟩)):=by
 refine Aq (Qo rfl) ?_;unfold Oh;have hq:IntKind.i64.wrap 8=8:=rfl;have b:=aJA v.nlt v.ks a.ot hv.kl hf;rw[hl,hg]at b;have la:=NF _ hy;simp only[IL]at la;unfold IA It Iq at *;rw[h]at *;simp only[↓C2,Ie,simprocAttr,hq,Ac MH 172,b];refine AV (n:=gs.length) (I:=λk p=>p.s 4= .ptr [2] 0∧p.s 6= .ptr [10] 0∧p.s 17= .slice (decide (gs=[])) [] (An gs)∧p.s 20= .int .i64 (k:Int)∧∃t,p.s 19= .slice (decide (k=0)) t (BH ((gs.take k).map λn=>(2,AO 3 n 0,[])))∧LG 11 _ 172 p.m p.c (decide (k=0)) t) (λk i ih p g hI=>?_) (λp g hI=>?_) 0 (Qq _) _ _ ⟨rfl,rfl,rfl,rfl,[],rfl,LG.start Xb⟩
 ·obtain⟨ja,da,fa⟩:=p;obtain⟨h4,h6,ka,d,t,ua,hG⟩:=hI;simp only at h4 h6 ka d ua hG;refine Ae mI.eq_1 ?_;have r:((k:Int)<(gs.length:Int))=True:=eq_true O;have oa:(0:Int)<=(k:Int):=by omega
  have hw:IntKind.i64.wrap ((k:Int)+1)=((k+1:Nat):Int):=Iz O O;have ga:(An gs)[k]?=some (.str gs[k]):=by simp[An,Qn i]
  have e:=tH gs[k] (ba _ (QN i));have hs:BH ((gs.take (k+1)).map λn=>(2,AO 3 n 0,[]))=BH ((gs.take k).map λn=>(2,AO 3 n 0,[]))++[.agg [.int .u8 2,.str (AO 3 gs[k] 0),.str []]]:=by
   unfold BH;rw[Qv i,QR,QR];rfl
  have fin:(if k=0 then [D.agg [.int .u8 2,.str (AO 3 gs[k] 0),.str []]]else BH ((gs.take k).map λn=>(2,AO 3 n 0,[]))++[.agg [.int .u8 2,.str (AO 3 gs[k] 0),.str []]])=BH ((gs.take (k+1)).map λn=>(2,AO 3 n 0,[])):=by
   rw[hs];split
   ·rename_i h;subst h;rfl
   ·rfl
  have ia:(BH ((gs.take k).map λn=>(2,AO 3 n 0,[]))).length=k:=by unfold BH;rw[Qr,Qr,QM];omega
  simp only[↓C2,Ie,simprocAttr,ka,d,ua,r,Am,oa,Qp,ga,Ac MH 171,e];refine AF.intro ⟨by simp only[ia];omega,rfl,Xw⟩ ?_;simp only[↓C2,Ie,simprocAttr,d,hw];refine ih _ _ ⟨h4,h6,ka,rfl,_,congrArg (D.slice false _) fin,?_⟩;exact hG.put.app O Xb
 ·obtain⟨ja,da,fa⟩:=p;obtain⟨h4,h6,ka,d,t,ua,hG⟩:=hI;simp only at h4 h6 ka d ua hG;refine Ae mI.eq_1 ?_;have x:da [10] 0=some (.bool v.se):=hG.low 10 0 O;have w:da [10] 1=some (.int .i64 v.te):=hG.low 10 1 O;have f:da [10] 2=some (.str v.key):=hG.low 10 2 O;have z:da [10] 3=some (.slice v.nlm [] (Ar v.ms)):=hG.low 10 3 O;have q:da [10] 4=some (.slice (decide (l=[])) [] (Ay l)):=hG.low 10 4 O;have u:da [2] 0=some (.str []):=hG.low 2 0 O;have y:da [2] 1=some (.bool false):=hG.low 2 1 O;have o:da [2] 2=some (.str []):=hG.low 2 2 O;have j:da [2] 3=some (.slice true [] []):=hG.low 2 3 O;have va:da [2] 4=some (.bool false):=hG.low 2 4 O;have ha:da [2] 5=some (.int .i64 0):=hG.low 2 5 O;have sa:da [2] 6=some (.str []):=hG.low 2 6 O;have qa:da [2] 7=some (.slice true [] []):=hG.low 2 7 O;have na:da [2] 8=some (.slice true [] []):=hG.low 2 8 O;have r:((gs.length:Int)<(gs.length:Int))=False:=eq_false O;rw[Qu (Qt _)]at ua;have hz:decide (gs.length=0)=decide (gs=[]):=by cases gs<;>simp
  rw[hz]at ua;simp only[↓C2,Ie,simprocAttr,h4,h6,ka,d,ua,r,Am,Ac MH 85,la,x,w,f,z,q,u,y,o,j,va,ha,sa,qa,na];refine Al ?_;simp only[↓C2,Ie,simprocAttr,h4,u,y,o,j,va,ha,sa,qa,na]
  all_goals exact Qi
def aIq(v:Vw)(a:Ak)(h:a.op=7)(t:IG v)(f:a.nlr=true->a.rs=[])(q:EB a.rs)(r:a.ot.length<=1000000)(d:a.tk.length<=1000000)(hf:(Dr v.ks (a.ot,a.tk,a.nlr,a.rs)).1=none)(x:1<=(Dr v.ks (a.ot,a.tk,a.nlr,a.rs)).2∧(Dr v.ks (a.ot,a.tk,a.nlr,a.rs)).2<=99):iQ [.agg (Iq v),.agg (It a)]=some (.agg (IA (BJ v (Dr v.ks (a.ot,a.tk,a.nlr,a.rs)).2))):=by
 refine Aq (Qo rfl) ?_;unfold Oh;have s:IntKind.i64.wrap 7=7:=rfl;have la:=W3 (nl0:=v.nlt) (nl:=a.nlr) (l:=v.ks) (n:=a.ot) (p:=a.tk) (rs:=a.rs) (by have:=t.kl;omega) (λk j=>(t.kp k j).2) f q r d;rw[hf]at la;generalize (Dr v.ks (a.ot,a.tk,a.nlr,a.rs)).2=e at *;have u:(e=0)=False:=eq_false O;have y:=CC v e x;unfold PL at la;unfold BJ IA It Iq at *;rw[h]at *;simp only[↓C2,Ie,simprocAttr,s,Ac MH 52,la,u,decide_false,Ac MH 75,y]
 all_goals exact Qi
def aIp(v:Vw)(a:Ak)(h:a.op=7)(t:IG v)(f:a.nlr=true->a.rs=[])(q:EB a.rs)(r:a.ot.length<=1000000)(d:a.tk.length<=1000000)(u:List Tk)(e:Dr v.ks (a.ot,a.tk,a.nlr,a.rs)=(some u,0))(z:24<=v.ks.length):iQ [.agg (Iq v),.agg (It a)]=some (.agg (IA (BJ v 24))):=by
 refine Aq (Qo rfl) ?_;unfold Oh;have s:IntKind.i64.wrap 7=7:=rfl;have la:=W3 (nl0:=v.nlt) (nl:=a.nlr) (l:=v.ks) (n:=a.ot) (p:=a.tk) (rs:=a.rs) (by have:=t.kl;omega) (λk j=>(t.kp k j).2) f q r d;rw[e]at la;have c:((24:Int)<=(v.ks.length:Int))=True:=eq_true O;have y:=CC v 24 Z;unfold PL at la;unfold BJ IA It Iq at *;rw[h]at *;simp only[↓C2,Ie,simprocAttr,s,Ac MH 52,la,c,AH,Ac MH 75,y]
 all_goals exact Qi
def aR6(v:Vw)(a:Ak)(h:a.op=7)(t:IG v)(f:a.nlr=true->a.rs=[])(y:EB a.rs)(r:a.ot.length<=1000000)(d:a.tk.length<=1000000)(u:List Tk)(hf:Dr v.ks (a.ot,a.tk,a.nlr,a.rs)=(some u,0))(hm:¬24<=v.ks.length)(b:Bs)(i:aJD [.agg [.str a.ot,.str a.tk,.slice a.nlr [] (Aj a.rs)]]=some (.tup [.str b,.int .i64 0])):iQ [.agg (Iq v),.agg (It a)]=some (.agg (IA ⟨[],false,[111,107],false,[(1,AO 3 a.ot 0,b)],{v with nlt:=false,ks:=u}⟩)):=by
 refine Aq (Qo rfl) ?_;unfold Oh;have s:IntKind.i64.wrap 7=7:=rfl;have la:=W3 (nl0:=v.nlt) (nl:=a.nlr) (l:=v.ks) (n:=a.ot) (p:=a.tk) (rs:=a.rs) (by have:=t.kl;omega) (λk j=>(t.kp k j).2) f y r d;rw[hf]at la;have c:((24:Int)<=(v.ks.length:Int))=False:=eq_false O;have e:=tH a.ot r;have z:=My (AO 3 a.ot 0) b;have x:Ow [.agg (Iq {v with nlt:=false,ks:=u}),.slice false [] [.agg [.int .u8 1,.str (AO 3 a.ot 0),.str b]]]=_:=ER {v with nlt:=false,ks:=u} false [(1,AO 3 a.ot 0,b)];unfold PL at la;unfold IA It Iq at *;rw[h]at *;simp only[↓C2,Ie,simprocAttr,s,Ac MH 52,la,c,AH,Ac MH 170,i,Ac MH 171,e,Ac MH 168,z,Ac MH 167,x];refine Al ?_;simp only[↓C2,Ie,simprocAttr]
 all_goals exact Qi
def Lh(a:Ak):Int:=if a.op=18 then 0 else a.n
def To(k:Kn)(a:Ak):Rw×Int:=El (DT (Ch (AW k a.pa))) (Lh a)
def MZ(k:Kn)(a:Ak):Bs:=AO 2 a.pa (To k a).1.1
def TU(k:Kn)(a:Ak):Bs:=if(DX k (MZ k a)).2.1=true then(DX k (MZ k a)).1 else []
def M_(v:Vw)(a:Ak)(k:Kn):Oc:=
 if(AW k a.pa).2.2=false then DW v (AO 1 a.pa 0) false
 else if(Ch (AW k a.pa)).isSome=false then BJ v 6
 else if(To k a).2≠0 then BJ v (To k a).2
 else if(DX k (MZ k a)).2.2=false then DW v (MZ k a) false
 else if a.op=9 then {Ix v with rep:=IY (.found (To k a).1.1 (TU k a))}
 else if(AW k a.ot).2.2=false then DW v (AO 1 a.ot 0) false
 else ED v a.ot (DT (Ch (AW k a.ot))) (-1) (TU k a)
section
variable{v:Vw}{a:Ak}{k:Kn}
def aAI(j:NG k):(TU k a).length<=400:=by
 grind [TU,Mq]
def aGc(r:Rw):rwD r= .agg [.int .i64 r.1,.bool r.2.1,.bool r.2.2]:=rfl
def aZF(r:PH v)(x:aAm a)(g:NG k)(oa:a.op=9∨a.op=18):∃ol,bO ⟨v,a,k⟩ (Ix v) []=some (.tup [],M_ v a k,ol):=by
 have m:a.pa.length<=1000000:=by have:=x.ok.pa;omega
 have s:a.ot.length<=1000000:=by have:=x.ok.ot;omega
 have sa:k.es.length<=1000:=by have:=g.es;omega
 have f:=aAI (a:=a) g;unfold M_;cases hm:(AW k a.pa).2.2 with
 |false=>
  rw[if_pos rfl];exact⟨_,gN ⟨v,a,k⟩ (Ix v) _ _ _ (λ_=>rfl) (Mb g m hm)⟩
 |true=>
  rw[if_neg Z];have z:=HD (v:=v) (a:=a) g m hm;have p:=Ft (AW k a.pa);have w:=p.len;cases hs:(Ch (AW k a.pa)).isSome with
  |false=>
   rw[if_pos rfl];rw[hs]at z;exact⟨_,gM ⟨v,a,k⟩ (Ix v) _ _ _ (λ_=>rfl) z (uH v a k Z)⟩
  |true=>
   rw[if_neg Z];rw[hs]at z;have o:=aJR (DT (Ch (AW k a.pa))) (Lh a) O;rw[aGc]at o;have t:=pT (DT (Ch (AW k a.pa))) (Lh a);have y:=DG 2 (To k a).1.1 a.pa m;have c:=RX k (MZ k a) sa;unfold TU at f ⊢;unfold To MZ To at *;generalize El (DT (Ch (AW k a.pa))) (Lh a)=row at *;obtain⟨⟨n,l,h⟩,e⟩:=row;simp only at *;by_cases j:e≠0
   ·rw[if_pos j];rcases oa with h9|h18
    ·have b:Lh a=a.n:=by unfold Lh;rw[h9];rfl
     rw[b]at o;exact⟨_,zC ⟨v,a,k⟩ (Ix v) _ _ _ (λ_=>rfl) z h9 n e l h o j (uH v a k O)⟩
    ·have b:Lh a=0:=by unfold Lh;rw[if_pos h18]
     rw[b]at o;exact⟨_,nS ⟨v,a,k⟩ (Ix v) _ _ _ (λ_=>rfl) z h18 n e l h o j (uH v a k O)⟩
   ·rw[if_neg j];obtain rfl:=Decidable.not_not.1 j;generalize AO 2 a.pa n=q at *;generalize DX k q=en at *;obtain⟨t1,i,t3⟩:=en;simp only at *;rcases oa with h9|h18
    ·have b:Lh a=a.n:=by unfold Lh;rw[h9];rfl
     rw[b]at o;cases t3 with
     |false=>
      rw[if_pos rfl];exact⟨_,zB ⟨v,a,k⟩ (Ix v) _ _ _ (λ_=>rfl) z h9 n l h o q _ _ y c (RT ⟨v,a,k⟩ (Ix v) q false (Lg v))⟩
     |true=>
      rw[if_neg Z,if_pos h9];cases i with
      |true=>exact⟨_,gL ⟨v,a,k⟩ (Ix v) _ _ _ (λ_=>rfl) z h9 n l h o q _ y c (H8 ⟨v,a,k⟩ (Ix v) (.found n t1) (λ_=>rfl) trivial trivial)⟩
      |false=>exact⟨_,WO ⟨v,a,k⟩ (Ix v) _ _ _ (λ_=>rfl) z h9 n l h o q _ y c (H8 ⟨v,a,k⟩ (Ix v) (.found n []) (λ_=>rfl) trivial trivial)⟩
    ·have b:Lh a=0:=by unfold Lh;rw[if_pos h18]
     have h9:¬a.op=9:=O
     rw[b]at o;cases t3 with
     |false=>
      rw[if_pos rfl];exact⟨_,nR ⟨v,a,k⟩ (Ix v) _ _ _ (λ_=>rfl) z h18 n l h o q _ _ y c (RT ⟨v,a,k⟩ (Ix v) q false (Lg v))⟩
     |true=>
      rw[if_neg Z,if_neg h9];cases hm2:(AW k a.ot).2.2 with
      |false=>
       rw[if_pos rfl];have d:=Mb (v:=v) (a:=a) g s hm2;cases i with
       |true=>exact⟨_,O7 ⟨v,a,k⟩ (Ix v) _ _ (λ_=>rfl) z h18 n l h o q _ y c _ _ d⟩
       |false=>exact⟨_,On ⟨v,a,k⟩ (Ix v) _ _ (λ_=>rfl) z h18 n l h o q _ y c _ _ d⟩
      |true=>
       rw[if_neg Z];have d:=HD (v:=v) (a:=a) g s hm2;cases i with
       |true=>
        obtain⟨ol,u⟩:=aPQ (a:=a) (k:=k) r s (Ft (AW k a.ot)) (cas:=-1) (data:=t1) (by simp only[if_true]at f;omega);exact⟨_,gO ⟨v,a,k⟩ (Ix v) _ _ _ (λ_=>rfl) z h18 n l h o q _ y c _ _ d u⟩
       |false=>
        obtain⟨ol,u⟩:=aPQ (a:=a) (k:=k) r s (Ft (AW k a.ot)) (cas:=-1) (data:=[]) (Qq _);exact⟨_,WP ⟨v,a,k⟩ (Ix v) _ _ _ (λ_=>rfl) z h18 n l h o q _ y c _ _ d u⟩
end
def IC:=AB [(26,Af F26),(75,Af R75),(76,Af iQ),(77,Af R77),(78,Af R78),(79,Af R79),(80,Af R80),(81,Af R81),(82,Af R82),(83,Af R83),(84,Af R84),(85,Af R85),(86,Af R86)]
def R31:=RF IC fD [.cell (some 9) 6] 185
def bAO(ok181:Kq TL 181):Kq R31 31:=Az (Ai func31:Fn Qs 31 185 fD [.cell (some 9) 6]) (Aa aZ3 (Aa aHv (Aa bAz (Aa bAy (Aa bAx (Aa bAw (Aa aQV (Aa bAv (Aa (bAu ok181) (Aa bAs (Aa aQU (Aa aCn (Aa aWe Ad)))))))))))))
def aEB(v:Vw)(a:Ak)(d:Dk)(t:IG v)(q:ID a)(x:1<=Ff v a∧Ff v a<=99):R31 [.agg (Iq v),.agg (It a),.agg (IW d)]=some (.agg (IA (BJ v (Ff v a)))):=by
 refine Aq (Qo rfl) ?_;unfold fD;have n:=Pg t q;generalize Ff v a=e at *;have u:(e=0)=False:=eq_false O;have y:=CC v e x;unfold IJ IB at n;unfold BJ IA It Iq IW at *;simp only[↓C2,Ie,simprocAttr,Ac IC 26,n,u,decide_false,Ac IC 75,y]
 all_goals exact Qi
def Dj(v:Vw)(a:Ak)(d:Dk)(o:Oc)(t:IG v)(q:ID a)(x:Ff v a=0)(y:a.op<=8)(b:iQ [.agg (Iq v),.agg (It a)]=some (.agg (IA o))):R31 [.agg (Iq v),.agg (It a),.agg (IW d)]=some (.agg (IA o)):=by
 refine Aq (Qo rfl) ?_;unfold fD;have n:=Pg t q;rw[x]at n;have l:IntKind.i64.wrap a.op=a.op:=YM
 have s:(a.op<=8)=True:=eq_true y;unfold IJ IB at n;unfold IA It Iq IW at *;simp only[↓C2,Ie,simprocAttr,Ac IC 26,n,l,s,Ac IC 76,b]
 all_goals exact Qi
def gX(v:Vw)(a:Ak)(d:Dk)(t:IG v)(q:ID a)(x:Ff v a=0)(b:9<=a.op∧a.op<=18∧a.op≠17)(l:d.its.length<=1000)(z:(AW (Bg d) a.pa).2.2=false):R31 [.agg (Iq v),.agg (It a),.agg (IW d)]=some (.agg (IA (DW v (AO 1 a.pa 0) false))):=by
 refine Aq (Qo rfl) ?_;unfold fD;have g:a.pa.length<=1000000:=by have:=q.pa;omega
 have n:=Pg t q;rw[x]at n;have h:IntKind.i64.wrap a.op=a.op:=YM
 have s:(a.op<=8)=False:=eq_false O;have e:(a.op=17)=False:=eq_false b.2.2;have u:=Pd a.pa g;have c:=Te d (AO 1 a.pa 0) l;have k:=Tf v (AO 1 a.pa 0) false;unfold AW at z;rw[z]at c;unfold IJ IB at n;unfold DW IA It Iq IW at *;simp only[↓C2,Ie,simprocAttr,Ac IC 26,n,h,s,e,Ac IC 80,u,Ac IC 79,c];refine Al ?_;simp only[↓C2,Ie,simprocAttr,Ac IC 80,u,Ac IC 78,k];refine Al ?_;simp only[↓C2,Ie,simprocAttr]
 all_goals exact Qi
def oC(v:Vw)(a:Ak)(d:Dk)(t:IG v)(q:ID a)(x:Ff v a=0)(oa:10<=a.op∧a.op<=16)(l:d.its.length<=1000)(y:¬Bd v.ms a.pa<0)(z:(AW (Bg d) a.pa).2.2=true)(w:(AW (Bg d) a.pa).1.length<=1000000):R31 [.agg (Iq v),.agg (It a),.agg (IW d)]=some (.agg (IA (Tq v a (DT (Ch (AW (Bg d) a.pa))) (Ch (AW (Bg d) a.pa)).isSome))):=by
 refine Aq (Qo rfl) ?_;unfold fD;have m:a.pa.length<=1000000:=by have:=q.pa;omega
 have n:=Pg t q;rw[x]at n;have hw:IntKind.i64.wrap a.op=a.op:=YM
 have s:(a.op<=8)=False:=eq_false O;have e:(a.op=17)=False:=eq_false O;have k:(a.op=9)=False:=eq_false O;have h:(a.op=18)=False:=eq_false O;have u:=Pd a.pa m;have c:=Te d (AO 1 a.pa 0) l;have p:=Ft (AW (Bg d) a.pa);have g:=aR3 v a (DT (Ch (AW (Bg d) a.pa))) (Ch (AW (Bg d) a.pa)).isSome t q y p oa;unfold AW at *;have b:=oA (AO 1 a.pa 0) (DX (Bg d) (AO 1 a.pa 0)).1 (DX (Bg d) (AO 1 a.pa 0)).2.1 w;have f:((DX (Bg d) (AO 1 a.pa 0)).1,(DX (Bg d) (AO 1 a.pa 0)).2.1,true)=DX (Bg d) (AO 1 a.pa 0):=by rw[←z]
 rw[f]at b;rw[z]at c;generalize Ch (DX (Bg d) (AO 1 a.pa 0))=j at *;generalize DX (Bg d) (AO 1 a.pa 0)=r at *;generalize Tq v a (DT j) j.isSome=o at *;unfold IJ IB at n;unfold IA It Iq IW Ik at *;simp only[↓C2,Ie,simprocAttr,Ac IC 26,n,hw,s,e,Ac IC 80,u,Ac IC 79,c];refine Al ?_;simp only[↓C2,Ie,simprocAttr,Ac IC 81,b,k,h,decide_false,Ac IC 82,g]
 all_goals exact Qi
def aEC(v:Vw)(a:Ak)(d:Dk)(hv:IG v)(x:ID a)(he:Ff v a=0)(oa:a.op=9∨a.op=18)(hd:d.its.length<=1000)(hr:¬Bd v.ms a.pa<0)(wa:a.op=18->¬Bd v.ms a.ot<0)(hm:(AW (Bg d) a.pa).2.2=true)(hk:NG (Bg d)):R31 [.agg (Iq v),.agg (It a),.agg (IW d)]=some (.agg (IA (M_ v a (Bg d)))):=by
 refine Aq (Qo rfl) ?_;unfold fD;have hp:a.pa.length<=1000000:=by have:=x.pa;omega
 have hq:a.ot.length<=1000000:=by have:=x.ot;omega
 have z:=Pg hv x;rw[he]at z;have hw:IntKind.i64.wrap a.op=a.op:=by have:=x.op0;exact Iz O O
 have w9:IntKind.i64.wrap 9=9:=rfl;have p:IntKind.i64.wrap 18=18:=rfl;have ia:=Pd a.pa hp;have l:=Pd a.ot hq;have c:=Te d (AO 1 a.pa 0) hd;have m:=Te d (AO 1 a.ot 0) hd;have ka:=Ft (AW (Bg d) a.pa);have q:=Ft (AW (Bg d) a.ot);have w:(AW (Bg d) a.pa).1.length<=1000000:=by have:=Mq hk (AO 1 a.pa 0);unfold AW;omega
 have ja:(AW (Bg d) a.ot).1.length<=1000000:=by have:=Mq hk (AO 1 a.ot 0);unfold AW;omega
 have u:=Mq hk (MZ (Bg d) a);have f:=Te d (MZ (Bg d) a) hd;have j:=aR2 (DT (Ch (AW (Bg d) a.pa))) (Lh a) (by have:=ka.len;omega);have t:=pT (DT (Ch (AW (Bg d) a.pa))) (Lh a);have qa:(El (DT (Ch (AW (Bg d) a.pa))) (Lh a)).2=0->_:=aBk ka;unfold M_ TU;unfold To MZ To AW at *;generalize DX (Bg d) (AO 1 a.pa 0)=en at *;obtain⟨t1,tb,tk⟩:=en;simp only at hm;subst hm;have b:=oA (AO 1 a.pa 0) t1 tb w;generalize Ch (t1,tb,true)=so at *;generalize El (DT so) (Lh a)=row at *;obtain⟨⟨n,r1,r2⟩,e⟩:=row;simp only at *;have i:=nZ a.pa n hp;rw[if_neg Z];rcases oa with h|h
 ·have hN:Lh a=a.n:=if_neg O;rw[hN]at j;cases hs:so.isSome with
  |false=>
   rw[if_pos rfl];rw[hs]at b;have y:=CC v 6 Z;unfold IJ IB at z;unfold BJ IA It Iq IW Ik at *;rw[h]at z ⊢;simp only[↓C2,Ie,simprocAttr,Ac IC 26,z,w9,Ac IC 80,ia,Ac IC 79,c];refine Al ?_;simp only[↓C2,Ie,simprocAttr,Ac IC 81,b,Ac IC 75,y]
   all_goals exact Qi
  |true=>
   rw[if_neg Z];rw[hs]at b;by_cases g:e=0
   ·subst g;rw[if_neg U];obtain⟨n1,n2⟩:=qa rfl;generalize DX (Bg d) (AO 2 a.pa n)=ed at *;obtain⟨x1,x2,x3⟩:=ed;simp only at *;cases x3 with
    |false=>
     rw[if_pos rfl];have k:=Tf v (AO 2 a.pa n) false;unfold IJ IB at z;unfold DW IA It Iq IW Ik at *;rw[h]at z ⊢;simp only[↓C2,Ie,simprocAttr,Ac IC 26,z,w9,Ac IC 80,ia,Ac IC 79,c];refine Al ?_;simp only[↓C2,Ie,simprocAttr,Ac IC 81,b,Ac IC 83,j,Ac IC 84,i,Ac IC 79,f];refine Al ?_;simp only[↓C2,Ie,simprocAttr,Ac IC 84,i,Ac IC 78,k];refine Al ?_;simp only[↓C2,Ie,simprocAttr]
     all_goals exact Qi
    |true=>
     rw[if_neg Z];rw[if_pos h];cases x2 with
     |false=>
      have la:=NF (.found n []) ⟨if_pos ⟨O,O,Qq _⟩,⟨O,O,Qq _⟩,Xu⟩;simp only[IL]at la;simp only[if_true,if_false,QZ];unfold IJ IB at z;unfold Ix IA It Iq IW Ik at *;rw[h]at z ⊢;simp only[↓C2,Ie,simprocAttr,Ac IC 26,z,w9,Ac IC 80,ia,Ac IC 79,c];refine Al ?_;simp only[↓C2,Ie,simprocAttr,Ac IC 81,b,Ac IC 83,j,Ac IC 84,i,Ac IC 79,f];refine Al ?_;simp only[↓C2,Ie,simprocAttr,Ac IC 85,la];refine Al ?_;simp only[↓C2,Ie,simprocAttr]
      all_goals exact Qi
     |true=>
      have la:=NF (.found n x1) ⟨if_pos ⟨O,O,O⟩,⟨O,O,O⟩,Xu⟩;simp only[IL]at la;simp only[if_true,if_false,QZ];unfold IJ IB at z;unfold Ix IA It Iq IW Ik at *;rw[h]at z ⊢;simp only[↓C2,Ie,simprocAttr,Ac IC 26,z,w9,Ac IC 80,ia,Ac IC 79,c];refine Al ?_;simp only[↓C2,Ie,simprocAttr,Ac IC 81,b,Ac IC 83,j,Ac IC 84,i,Ac IC 79,f];refine Al ?_;simp only[↓C2,Ie,simprocAttr,Ac IC 85,la];refine Al ?_;simp only[↓C2,Ie,simprocAttr]
      all_goals exact Qi
   ·rw[if_pos g];have ma:=eq_false g;have y:=CC v e O;unfold IJ IB at z;unfold BJ IA It Iq IW Ik at *;rw[h]at z ⊢;simp only[↓C2,Ie,simprocAttr,Ac IC 26,z,w9,Ac IC 80,ia,Ac IC 79,c];refine Al ?_;simp only[↓C2,Ie,simprocAttr,Ac IC 81,b,Ac IC 83,j,ma,decide_false,Ac IC 75,y]
    all_goals exact Qi
 ·have hN:Lh a=0:=if_pos h;rw[hN]at j;cases hs:so.isSome with
  |false=>
   rw[if_pos rfl];rw[hs]at b;have y:=CC v 6 Z;unfold IJ IB at z;unfold BJ IA It Iq IW Ik at *;rw[h]at z ⊢;simp only[↓C2,Ie,simprocAttr,Ac IC 26,z,p,Ac IC 80,ia,Ac IC 79,c];refine Al ?_;simp only[↓C2,Ie,simprocAttr,Ac IC 81,b,Ac IC 75,y]
   all_goals exact Qi
  |true=>
   rw[if_neg Z];rw[hs]at b;by_cases g:e=0
   ·subst g;rw[if_neg U];obtain⟨n1,n2⟩:=qa rfl;generalize DX (Bg d) (AO 2 a.pa n)=ed at *;obtain⟨x1,x2,x3⟩:=ed;simp only at *;cases x3 with
    |false=>
     rw[if_pos rfl];have k:=Tf v (AO 2 a.pa n) false;unfold IJ IB at z;unfold DW IA It Iq IW Ik at *;rw[h]at z ⊢;simp only[↓C2,Ie,simprocAttr,Ac IC 26,z,p,Ac IC 80,ia,Ac IC 79,c];refine Al ?_;simp only[↓C2,Ie,simprocAttr,Ac IC 81,b,Ac IC 83,j,Ac IC 84,i,Ac IC 79,f];refine Al ?_;simp only[↓C2,Ie,simprocAttr,Ac IC 84,i,Ac IC 78,k];refine Al ?_;simp only[↓C2,Ie,simprocAttr]
     all_goals exact Qi
    |true=>
     rw[if_neg Z];rw[if_neg O];generalize DX (Bg d) (AO 1 a.ot 0)=eo at *;obtain⟨z1,z2,z3⟩:=eo;simp only at *;cases z3 with
     |false=>
      rw[if_pos rfl];have k:=Tf v (AO 1 a.ot 0) false;cases x2
      all_goals
       unfold IJ IB at z;unfold DW IA It Iq IW Ik at *;rw[h]at z ⊢;simp only[↓C2,Ie,simprocAttr,Ac IC 26,z,p,Ac IC 80,ia,Ac IC 79,c];refine Al ?_;simp only[↓C2,Ie,simprocAttr,Ac IC 81,b,Ac IC 83,j,Ac IC 84,i,Ac IC 79,f];refine Al ?_;simp only[↓C2,Ie,simprocAttr,Ac IC 80,l,Ac IC 79,m];refine Al ?_;simp only[↓C2,Ie,simprocAttr,Ac IC 80,l,Ac IC 78,k];refine Al ?_;simp only[↓C2,Ie,simprocAttr]
       all_goals exact Qi
     |true=>
      rw[if_neg Z];have s:=oA (AO 1 a.ot 0) z1 z2 ja;cases x2 with
      |false=>
       have r:=nY v a.ot (DT (Ch (z1,z2,true))) (-1) [] hv (wa h) hq (Qq _) q;simp only[if_true,if_false,QZ];generalize ED v a.ot (DT (Ch (z1,z2,true))) (-1) []=o at *;generalize Ch (z1,z2,true)=sp at *;unfold IJ IB at z;unfold IA It Iq IW Ik at *;rw[h]at z ⊢;simp only[↓C2,Ie,simprocAttr,Ac IC 26,z,p,Ac IC 80,ia,Ac IC 79,c];refine Al ?_;simp only[↓C2,Ie,simprocAttr,Ac IC 81,b,Ac IC 83,j,Ac IC 84,i,Ac IC 79,f];refine Al ?_;simp only[↓C2,Ie,simprocAttr,Ac IC 80,l,Ac IC 79,m];refine Al ?_;simp only[↓C2,Ie,simprocAttr,Ac IC 81,s,Ac IC 86,r]
       all_goals exact Qi
      |true=>
       have r:=nY v a.ot (DT (Ch (z1,z2,true))) (-1) x1 hv (wa h) hq O q;simp only[if_true,if_false,QZ];generalize ED v a.ot (DT (Ch (z1,z2,true))) (-1) x1=o at *;generalize Ch (z1,z2,true)=sp at *;unfold IJ IB at z;unfold IA It Iq IW Ik at *;rw[h]at z ⊢;simp only[↓C2,Ie,simprocAttr,Ac IC 26,z,p,Ac IC 80,ia,Ac IC 79,c];refine Al ?_;simp only[↓C2,Ie,simprocAttr,Ac IC 81,b,Ac IC 83,j,Ac IC 84,i,Ac IC 79,f];refine Al ?_;simp only[↓C2,Ie,simprocAttr,Ac IC 80,l,Ac IC 79,m];refine Al ?_;simp only[↓C2,Ie,simprocAttr,Ac IC 81,s,Ac IC 86,r]
       all_goals exact Qi
   ·rw[if_pos g];have ma:=eq_false g;have y:=CC v e O;unfold IJ IB at z;unfold BJ IA It Iq IW Ik at *;rw[h]at z ⊢;simp only[↓C2,Ie,simprocAttr,Ac IC 26,z,p,Ac IC 80,ia,Ac IC 79,c];refine Al ?_;simp only[↓C2,Ie,simprocAttr,Ac IC 81,b,Ac IC 83,j,ma,decide_false,Ac IC 75,y]
    all_goals exact Qi
def aEA(v:Vw)(a:Ak)(d:Dk)(hv:IG v)(ha:ID a)(he:Ff v a=0)(h:a.op=17)(w:d.lss.length<=1000)(qa:∀x∈d.lss,x.2.2.length<=1000∧∀s∈x.2.2,s.length<=1000000)(hy:∀l,GY (.names (decide (NC a.pa (A1 l)=[])) ((NC a.pa (A1 l)).take 64))):R31 [.agg (Iq v),.agg (It a),.agg (IW d)]=some (.agg (IA (MV v a (Bg d)))):=by
 refine Aq (Qo rfl) ?_;unfold fD;have hp:a.pa.length<=1000000:=by have:=ha.pa;omega
 have ea:=Pg hv ha;rw[he]at ea;have o:IntKind.i64.wrap 17=17:=rfl;have a1:∀x y,AJ .add (.str [x,y]) (.str a.pa)=some (.str ([x,y]++a.pa)):=λx y=>BY XV
 have a2:∀x y,AJ .add (.str ([x,y]++a.pa)) (.str [47])=some (.str ([x,y]++a.pa++[47])):=λx y=>BY XI
 have ma:IntKind.i64.wrap ((d.lss.length:Int)-1)=(d.lss.length:Int)-1:=Iz O O;have sa:((Bg d).ls.map (·.1)).length=d.lss.length:=Qr ..;have b:∀i (h:i<d.lss.length),((Bg d).ls.map (·.1))[i]' O=d.lss[i].1:=λi h=>by simp[Bg]
 have c:=ha.pa;unfold MV MF;unfold IJ IB at ea;unfold IA It Iq IW at *;rw[h]at ea ⊢;simp only[↓C2,Ie,simprocAttr,Ac IC 26,ea,o,Qr,ma];generalize hq:([109,47]++a.pa++[47]:Bs)=q at *;refine AV (n:=d.lss.length) (I:=λj z=>z.s 3= .ptr [0] 0∧z.s 4= .ptr [1] 0∧z.s 5= .ptr [2] 0∧z.s 6= .ptr [3] 0∧z.s 9= .int .i64 ((d.lss.length:Int)-1-j)∧z.m=_∧∀i (h:i<d.lss.length),d.lss.length<=i+j->d.lss[i].1≠q) (λj hj ih z g hI=>?_) (λz g hI=>?_) 0 (Qq _) _ _ ⟨rfl,rfl,rfl,rfl,congrArg (D.int .i64) O,rfl,λi h t=>O⟩
 ·obtain⟨ja,u,fa⟩:=z;obtain⟨h3,h4,h5,h6,h9,hm,ca⟩:=hI;simp only at h3 h4 h5 h6 h9 hm;subst hm;refine Ae mN.eq_1 ?_;have ra:(0:Int)<=(d.lss.length:Int)-1-j:=by omega
  have hw:IntKind.i64.wrap ((d.lss.length:Int)-1-j-1)=(d.lss.length:Int)-1-((j+1:Nat):Int):=Xn
  have hi:((d.lss.length:Int)-1-j).toNat=d.lss.length-1-j:=O
  have r:d.lss.length-1-j<d.lss.length:=O
  have ga:(d.lss.map ltD)[d.lss.length-1-j]?=some (.agg [.str (d.lss[d.lss.length-1-j]'r).1,.slice (d.lss[d.lss.length-1-j]'r).2.1 [] (An (d.lss[d.lss.length-1-j]'r).2.2)]):=by rw[Zl,Qn r];rfl
  by_cases p:(d.lss[d.lss.length-1-j]'r).1=q
  ·have e:=N4 (l:=(Bg d).ls.map (·.1)) (s:=q) (j:=d.lss.length-1-j) O (by rw[b _ r];exact p) (λi h t=>Y3);have bb:(Bg d).ls.getD (d.lss.length-1-j) ([],true,[])=d.lss[d.lss.length-1-j]'r:=by simp only[Bg,QI,Qn r,QD]
   have hn:¬(((d.lss.length-1-j:Nat):Int)<0):=O
   have ab:=qa _ (QN r);rw[e,if_neg hn,Qp,bb];generalize d.lss[d.lss.length-1-j]'r=x at *;obtain⟨x1,x2,x3⟩:=x;simp only at p ab ga;have f:=aR4 v a.pa x2 x3 hp ab.1 ab.2 (NF _ (hy x3));have oa:=eq_true p;unfold IA Iq at f;simp only[Bool.true_eq_false,if_false];simp only[↓C2,Ie,simprocAttr,h3,h4,h5,h6,h9,ra,hi,ga,oa,a1,a2,hq,Qr];refine Al ?_;simp only[↓C2,Ie,simprocAttr,h3,h4,h5,h6,h9,ra,hi,ga,oa,Qr,Ac IC 77,f];refine Al ?_;simp only[↓C2,Ie,simprocAttr,h6]
   all_goals exact Qi
  ·have oa:=eq_false p;simp only[↓C2,Ie,simprocAttr,h3,h4,h5,h9,ra,hi,ga,oa,a1,a2,hq,Qr];refine Al ?_;simp only[↓C2,Ie,simprocAttr,h9,oa,hw];refine ih _ _ ⟨h3,h4,h5,h6,rfl,rfl,λi h t=>?_⟩;by_cases la:d.lss.length<=i+j
   ·exact ca i h la
   ·grind
 ·obtain⟨ja,u,fa⟩:=z;obtain⟨h3,h4,h5,h6,h9,hm,ca⟩:=hI;simp only at h3 h4 h5 h6 h9 hm;subst hm;refine Ae mN.eq_1 ?_;have ra:((0:Int)<=(d.lss.length:Int)-1-(d.lss.length:Int))=False:=eq_false O;have e:=LN (l:=(Bg d).ls.map (·.1)) (s:=q) (λi h=>Y3);have k:=Tf v q true;unfold DW IA Iq at k;rw[e];simp only[if_true,show((-1:Int)<0)=True from eq_true Z];unfold DW;simp only[↓C2,Ie,simprocAttr,h3,h4,h5,h6,h9,ra,a1,a2,hq,Ac IC 78,k]
def n0:Vw:=aHw [107] false
def nT:List Mt:=[([97],2,false)]
def n1:Vw:={n0 with nlm:=false,ms:=nT}
def qA(op:Int)(tk pa:Bs)(n:Int):Ak:=⟨op,tk,pa,[],n,0,false,true,[],[],true,[],[]⟩
def rt:Bs:=[114,111,111,116]
def Vy:Bs:=[97,47,98]
def qL:Kn:=⟨[],[]⟩
def nK1:Kn:=⟨[([109,47,97,47,98],[],false)],[]⟩
def Ey(w r:Bs)(nl:Bool)(t:Id)(xs:List D)(v:Vw):List D:=[.str w,.bool false,.str r,.slice nl t xs]++Iq v
def jV(w r:Bs)(nl:Bool)(t:Id)(xs:List D)(v:Vw):D.cells (.agg (Ey w r nl t xs v))=Ey w r nl t xs v:=rfl
def aBy(w r:Bs)(nl:Bool)(t:Id)(xs:List D)(v:Vw):(Ey w r nl t xs v).length=9:=rfl
def aBl{m:Ig}{i:Id}(v:Vw):Ah (m.put i 0 (Iq v)) i 0 5=some (Iq v):=AX rfl
def Fw{m:Ig}{i:Id}{cs:List D}{k:Nat}{d:D}(h:cs[k]?=some d):(m.put i 0 cs) i k=some d:=by
 have j:=(QH.1 h).1;have:=aF (m:=m) (i:=i) (o:=0) j;rw[ZG]at this;rw[this,h]
def aLz(ms:List Mt)(nl:Bool)(h:ms.length<=1000∧∀m∈ms,m.1.length<=1000):IG {n0 with nlm:=nl,ms:=ms}:=⟨h.1,h.2,(show n0.ks.length<=1000 by decide),λk j=>by
 have e:k=Io:=by simpa[n0,aHw]using j
 subst e;exact⟨⟨Z,Z⟩,⟨Z,λr y=>by rw[QC.1 y];decide,λr y=>by rw[QC.1 y];decide⟩⟩⟩
def qM:IG n0:=aLz [] true ⟨Z,λm z=>by cases z⟩
def aLB:IG n1:=aLz nT false ⟨Z,λm z=>by rw[QC.1 z];decide⟩
def Uj{op:Int}{tk pa:Bs}{n:Int}(m:0<=op)(u:op<256)(q:tk.length<=1000)(o:pa.length<=1000):ID (qA op tk pa n):=⟨m,u,q,o,Qq _,Qq _,Qq _,Qq _,λr y=>(by cases y),Qq _⟩
def aLA(k:Kn)(h:k=qL∨k=nK1):NG k:=by
 rcases h with rfl|rfl
 ·exact⟨Z,Z,λx p=>XN,λx p=>XN⟩
 ·exact⟨Z,Z,λx p=>by rw[QC.1 p];decide,λx p=>XN⟩
def bAm:WX EP Fc [IJ n0,IB (qA 1 [] [] 0),.agg (IQ qL)]=some (.agg (Ey [] [111,107,32,111,112,101,110] true [] [] n0)):=by
 have s:=NI qM (Uj (op:=1) (tk:=[]) (pa:=[]) (n:=0) Z Z Z Z);rw[show HV n0 (qA 1 [] [] 0)=0 by kernel_rfl]at s;have h:=BT (G1:=EP) (G2:=Fc) (v:=n0) .o1 (qA 1 [] [] 0) qL rfl s _ _ (H8 ⟨n0,qA 1 [] [] 0,qL⟩ (Ix n0) (.state n0.se) (λ_=>rfl) trivial trivial);rw[show IA {Ix n0 with rep:=IY (.state n0.se)}=Ey [] [111,107,32,111,112,101,110] true [] [] n0 by kernel_rfl]at h;exact h
def bAl:WX EP Fc [IJ n0,IB (qA 9 rt Vy 0),.agg (IQ qL)]=some (.agg (Ey [] [101,114,114,111,114,32,49,52] true [] [] n0)):=by
 have s:=NI qM (Uj (op:=9) (tk:=rt) (pa:=Vy) (n:=0) Z Z Z Z);rw[show HV n0 (qA 9 rt Vy 0)=14 by kernel_rfl]at s;have h:=hY EP Fc n0 (qA 9 rt Vy 0) qL 14 Z s _ _ (uH n0 _ qL Z);rw[show IA (BJ n0 14)=Ey [] [101,114,114,111,114,32,49,52] true [] [] n0 by kernel_rfl]at h;exact h
def bAk:WX EP Fc [IJ n0,IB (qA 5 rt [97] 2),.agg (IQ qL)]=some (.agg (Ey [] [111,107] false [] [.agg [.int .u8 1,.str [115,47,109,111,117,110,116,115],.str (Cs nT)]] n1)):=by
 have s:=NI qM (Uj (op:=5) (tk:=rt) (pa:=[97]) (n:=2) Z Z Z Z);rw[show HV n0 (qA 5 rt [97] 2)=0 by kernel_rfl]at s;have la:=oM (nl:=true) (t:=[]) (l:=[]) (m:=([97],2,false)) Z (λ_=>rfl) Z;rw[show FD [] ([97],2,false)=(some nT,0)by kernel_rfl]at la;have h:=BT (G1:=EP) (G2:=Fc) (v:=n0) .o5 (qA 5 rt [97] 2) qL rfl s _ _ (aEp ⟨n0,qA 5 rt [97] 2,qL⟩ (Ix n0) false nT la (Lg n0) ⟨Z,λm z=>by rw[QC.1 z];decide⟩);rw[show IA (aQs (Ix n0) false nT)=Ey [] [111,107] false [] [.agg [.int .u8 1,.str [115,47,109,111,117,110,116,115],.str (Cs nT)]] n1 by kernel_rfl]at h;exact h
def bAj:WX EP Fc [IJ n1,IB (qA 9 rt Vy 0),.agg (IQ qL)]=some (.agg (Ey [109,47,97,47,98] [] true [] [] n1)):=by
 have s:=NI aLB (Uj (op:=9) (tk:=rt) (pa:=Vy) (n:=0) Z Z Z Z);rw[show HV n1 (qA 9 rt Vy 0)=0 by kernel_rfl]at s;have h:=BT (G1:=EP) (G2:=Fc) (v:=n1) .o9 (qA 9 rt Vy 0) qL rfl s _ _ (gN ⟨n1,qA 9 rt Vy 0,qL⟩ (Ix n1) _ _ _ (λ_=>rfl) (Mb (aLA _ (.inl rfl)) (p:=Vy) Z Xa));rw[show IA (DW n1 (AO 1 Vy 0) false)=Ey [109,47,97,47,98] [] true [] [] n1 by kernel_rfl]at h;exact h
def bAi:WX EP Fc [IJ n1,IB (qA 9 rt Vy 0),.agg (IQ nK1)]=some (.agg (Ey [] [101,114,114,111,114,32,54] true [] [] n1)):=by
 have s:=NI aLB (Uj (op:=9) (tk:=rt) (pa:=Vy) (n:=0) Z Z Z Z);rw[show HV n1 (qA 9 rt Vy 0)=0 by kernel_rfl]at s;have z:=HD (v:=n1) (a:=qA 9 rt Vy 0) (aLA _ (.inr rfl)) (p:=Vy) Z Xa;rw[show(Ch (AW nK1 Vy)).isSome=false by kernel_rfl]at z;have h:=BT (G1:=EP) (G2:=Fc) (v:=n1) .o9 (qA 9 rt Vy 0) nK1 rfl s _ _ (gM ⟨n1,qA 9 rt Vy 0,nK1⟩ (Ix n1) _ _ _ (λ_=>rfl) z (uH n1 _ nK1 Z));rw[show IA (BJ n1 6)=Ey [] [101,114,114,111,114,32,54] true [] [] n1 by kernel_rfl]at h;exact h
def aVB:Kq bY 10:=by
 obtain⟨S,hS,q⟩:=A7 (Aa aZ4 (Aa (aW6 aLu aLt) (Aa aXy (Aa aUL (Aa aZ1 (Aa aU0 Ad))))));have d:=q 23 _ rfl;have c:=q 19 _ rfl;have z:=q 12 _ rfl;have j:=q 27 _ rfl;have f:=q 29 _ rfl;have b:=q 25 _ rfl;clear q;refine AD hS (Ai func10:Fn Qs 10 101 aYP [.t 0]) (λds r h=>?_) (λds r h=>?_)
 ·grind [bY]
 ·unfold bY at h;split at h
  ·simp only[Q0]at h;subst h;have o:F23 [.str [107]]=some (.agg (Iq n0)):=rfl;have x:WX EP Fc [.agg (Iq n0),.agg [.int .u8 1,.str [],.str [],.str [],.int .i64 0,.int .i64 0,.bool false,.slice true [] [],.str [],.slice true [] [],.str []],.agg [.slice true [] [],.slice true [] [],.slice true [] [],.slice true [] [],.slice true [] []]]=some (.agg (Ey [] [111,107,32,111,112,101,110] true [] [] n0)):=bAm;have p:WX EP Fc [.agg (Iq n0),.agg [.int .u8 9,.str [114,111,111,116],.str [97,47,98],.str [],.int .i64 0,.int .i64 0,.bool false,.slice true [] [],.str [],.slice true [] [],.str []],.agg [.slice true [] [],.slice true [] [],.slice true [] [],.slice true [] [],.slice true [] []]]=some (.agg (Ey [] [101,114,114,111,114,32,49,52] true [] [] n0)):=bAl;have hc:WX EP Fc [.agg (Iq n0),.agg [.int .u8 5,.str [114,111,111,116],.str [97],.str [],.int .i64 2,.int .i64 0,.bool false,.slice true [] [],.str [],.slice true [] [],.str []],.agg [.slice true [] [],.slice true [] [],.slice true [] [],.slice true [] [],.slice true [] []]]=some (.agg (Ey [] [111,107] false [] [.agg [.int .u8 1,.str [115,47,109,111,117,110,116,115],.str (Cs nT)]] n1)):=bAk;have l:WX EP Fc [.agg (Iq n1),.agg [.int .u8 9,.str [114,111,111,116],.str [97,47,98],.str [],.int .i64 0,.int .i64 0,.bool false,.slice true [] [],.str [],.slice true [] [],.str []],.agg [.slice true [] [],.slice true [] [],.slice true [] [],.slice true [] [],.slice true [] []]]=some (.agg (Ey [109,47,97,47,98] [] true [] [] n1)):=bAj;have he:WX EP Fc [.agg (Iq n1),.agg [.int .u8 9,.str [114,111,111,116],.str [97,47,98],.str [],.int .i64 0,.int .i64 0,.bool false,.slice true [] [],.str [],.slice true [] [],.str []],.agg [.slice false [] [.str [109,47,97,47,98]],.slice false [] [.str []],.slice false [] [.bool false],.slice true [] [],.slice true [] []]]=some (.agg (Ey [] [101,114,114,111,114,32,54] true [] [] n1)):=bAi;have ua:R12 [.agg [.slice true [] [],.slice true [] [],.slice true [] [],.slice true [] [],.slice true [] []],.str [109,47,97,47,98],.str [],.bool false]=some (.agg [.slice false [] [.str [109,47,97,47,98]],.slice false [] [.str []],.slice false [] [.bool false],.slice true [] [],.slice true [] []]):=aEP qL [109,47,97,47,98] [] false Z;have ma:F27 [.int .u8 10]=some (.int .u8 2):=by kernel_rfl
   have u:F29 [.int .u8 18]=some (.bool true):=Xa
   have a:F29 [.int .u8 9]=some (.bool false):=Xa
   have s:F25 [.agg (Iq n0),.agg [.int .u8 0,.str [],.str [],.str [],.int .i64 0,.int .i64 0,.bool false,.slice true [] [],.str [],.slice true [] [],.str []]]=some (.int .i64 22):=by
    have e:=NI qM (Uj (op:=0) (tk:=[]) (pa:=[]) (n:=0) Z Z Z Z);rw[show HV n0 (qA 0 [] [] 0)=22 by kernel_rfl]at e;exact e
   have q0:∀(m:Ig)(i:Id)(w r:Bs)(nl:Bool)(t:Id)(xs:List D)(v:Vw),(m.put i 0 (Ey w r nl t xs v)) i 0=some (.str w):=λm i w r nl t xs v=>Fw rfl
   have g:∀(m:Ig)(i:Id)(w r:Bs)(nl:Bool)(t:Id)(xs:List D)(v:Vw),(m.put i 0 (Ey w r nl t xs v)) i 1=some (.bool false):=λm i w r nl t xs v=>Fw rfl
   have y:∀(m:Ig)(i:Id)(w r:Bs)(nl:Bool)(t:Id)(xs:List D)(v:Vw),(m.put i 0 (Ey w r nl t xs v)) i 2=some (.str r):=λm i w r nl t xs v=>Fw rfl
   have q3:∀(m:Ig)(i:Id)(w r:Bs)(nl:Bool)(t:Id)(xs:List D)(v:Vw),(m.put i 0 (Ey w r nl t xs v)) i 3=some (.slice nl t xs):=λm i w r nl t xs v=>Fw rfl
   have q4:∀(m:Ig)(i:Id)(w r:Bs)(nl:Bool)(t:Id)(xs:List D)(v:Vw),Ah (m.put i 0 (Ey w r nl t xs v)) i 4 5=some (Iq v):=λm i w r nl t xs v=>by
    simp only[Ah];rw[Fw (k:=4) (cs:=Ey w r nl t xs v) rfl,Fw (k:=4+1) (cs:=Ey w r nl t xs v) rfl,Fw (k:=4+1+1) (cs:=Ey w r nl t xs v) rfl,Fw (k:=4+1+1+1) (cs:=Ey w r nl t xs v) rfl,Fw (k:=4+1+1+1+1) (cs:=Ey w r nl t xs v) rfl];rfl
   unfold aYP;simp only[↓C2,Iw,Ii,simprocAttr,x,p,hc,l,he,Ab d,o,Ab z,ua,q4,Ab c,Cd,DV,Cl,Cf,AL,A9,jV,aBy,aBl,AT,ne_eq,and_self,ZC,ZO,Q9,QK,Q6,Zy,AX];refine AF.intro (Ce ?_) ?_
   ·simp only[Ec,ZQ,List.all_nil,QI,Qx,Za,QD,BP,Zp,List.map_nil,Qw,QS,List.flatMap_cons,List.flatMap_nil,Lf,↓C2,Ih,reduceIte,Nat.reduceEqDiff];simp[A4,Af,c,z]
   simp only[↓C2,Iw,Ii,simprocAttr,Ab j,ma,Ab f,u,Ab b,s,a,q0,g,y,q3,Cd,Cl,Cf,aBl,AT,aA,Int.toNat_zero,Int.cast_ofNat_Int,ZV,ne_eq,Qx,and_self,QK,Q6,Zf,Zy]
   all_goals exact Qj
  ·cases h
def aBX{d:Dk}(h:Lc d=false):∀x∈d.its,x.1.length<=200∧x.2.1.length<=200:=λx p=>by
 unfold Lc at h;simp only[Q2]at h;have:=Zm.1 h.1.2 x p;simp only[fX,Q7,decide_eq_true_eq]at this;omega
def dG{d:Dk}(h:Lc d=false):∀x∈d.lss,x.2.2.length<=100∧∀s∈x.2.2,s.length<=200:=λx p=>by
 unfold Lc at h;simp only[Q2]at h;have:=Zm.1 h.2 x p;simp only[TD,Q7,decide_eq_true_eq,not_or]at this;refine⟨O,λs j=>?_⟩;have q:=this.2;rw[Zs]at q;rcases Zu 200 s.length with h3|h3
 ·simp_all
 ·exact h3
def rH:∀(w:List Mt)(s:Bool×List Mt),(s.1=true->s.2=[])->((w.foldl BZ s).1=true->(w.foldl BZ s).2=[])∧(w.foldl BZ s).2.length<=s.2.length+w.length
 |[],s,h=>⟨h,Qt _⟩
 |m::w,s,h=>by
  rw[Ze];have d:((BZ s m).1=true->(BZ s m).2=[])∧(BZ s m).2.length<=s.2.length+1:=by
   unfold BZ;rcases Ta s.2 m with ⟨u,e1,_,e3⟩|⟨e1,_⟩
   ·simp_all
   ·grind
  obtain⟨a,b⟩:=rH w _ d.1;exact⟨a,by rw[Qw];omega⟩
def aPY(n:Int):1<=teV n∧teV n<=6:=by
 unfold teV;have r:0<=IntKind.u64.wrap n:=by
  show 0<=n % (2 ^ 64:Int);exact Int.emod_nonneg _ Z
 have u:0<=(IntKind.u64.wrap n).tmod 6∧(IntKind.u64.wrap n).tmod 6<=5:=⟨Int.tmod_nonneg _ r,by have:=Int.tmod_lt_of_pos (IntKind.u64.wrap n) (show(0:Int)<6 by decide);omega⟩;generalize (IntKind.u64.wrap n).tmod 6=q at u;have e1:IntKind.i64.wrap q=q:=Iz O O;rw[e1,Iz O O];omega
def eK:∀(w:List Mt)(s:Bool×List Mt),GN s.2->s.2.length<=4->(∀m∈s.2,m.1.length<=64)->(w.foldl BZ s).2.length<=4∧∀m∈(w.foldl BZ s).2,m.1.length<=64
 |[],s,_,h,h'=>⟨h,h'⟩
 |m::w,s,hs,h,h'=>by
  rw[Ze];have c:GN (BZ s m).2:=by rw[PF hs];exact S8 hs
  have d:(BZ s m).2.length<=4∧∀x∈(BZ s m).2,x.1.length<=64:=by
   unfold BZ;rcases Ta s.2 m with ⟨u,e1,_,e3⟩|⟨e1,_⟩
   ·rw[e1];obtain⟨l,t⟩:=aH8 e1;refine⟨Xb,λx hx=>?_⟩;rcases gJ hs e1 x hx with hx|hx
    ·exact h' x hx
    ·rw[hx];exact Mg l
   ·rw[e1];exact⟨h,h'⟩
  exact eK w _ c d.1 d.2
def aAY{v:Vw}(h:IV v):PH (Gg v):=by
 have u:=dY v.ks (false,[Io]) wD rfl;have q:=Gn v.ms;have o:=rH v.ms (true,[]) (λ_=>rfl);have b:=eK v.ms (true,[]) (λi j _ h=>absurd h (Zw _)) (Qq _) (λ_ h=>nomatch h);have g:=h.kl;have z:=h.ml;refine⟨aAZ h,u.1,?_,o.1,aPY v.te,?_,b.1,b.2⟩
 ·show GN (v.ms.foldl BZ (true,[])).2;rw[q.1];exact q.2
 ·have:=u.2.2;show(v.ks.foldl Bx (false,[Io])).2.length<=39;simp only[Qw,QS]at this;omega
def aGy{a:Ak}(h:ID a)(k:Eh a.rs):aAm (Cv a):=⟨⟨h.op0,h.op,h.tk,h.pa,h.ot,h.ns,h.da,h.rl,h.rs,h.key⟩,k,λe=>Zt.1 e⟩
def qN{d:Dk}(h:Lc d=false)(f:∀x∈d.lss,x.2.1=true->x.2.2=[]):aZA d:=by
 have q:=dG h;unfold Lc at h;simp only[Q2,decide_eq_false_iff_not]at h;exact⟨O,O,λx p=>⟨by have:=(q x p).1;omega,f x p⟩⟩
def rE4{m:Ig}{i j:Nat}{x:List D}{n:Nat}(h:j≠i):Ah (m.put [i] 0 x) [j] 0 n=Ah m [j] 0 n:=AT (by simp[h])
def aQS(k:Kn):(IQ k).map D.un1=IQ k:=rfl
def aQT(k:Kn):(IQ k).all D.calm1=true:=rfl
def qG(o:Oc):(IA o).length=9:=rfl
def aBO(o:Oc):(IA o).map D.un1=IA o:=rfl
def aBP(o:Oc):(IA o).all D.calm1=true:=rfl
def aVL(o:Oc):(IA o)[0]?=some (.str o.need):=rfl
def aVJ(o:Oc):(IA o)[2]?=some (.str o.rep):=rfl
def aVI(o:Oc):(IA o)[3]?=some (.slice o.nl [] (BH o.ops)):=rfl
def dQ{L M:List Tk}(h:Co L M)(m:CR L)(w:L.length<=1000)(ok:∀k∈L,iY k)(q:∀k∈L,k.2.2.2.length<=1000):U3 L M:=⟨h.len,w,ok,q,λj y=>by
 obtain⟨e1,e2,e3⟩:=h.at j;have i:j<L.length:=by rw[h.len];exact y
 obtain⟨z,b⟩:=LV m i;refine⟨e1,e2,e3,?_,?_⟩
 ·rw[←e1];exact b
 ·rw[←e1];exact congrArg (AS L) z⟩
def vU{L M:List Tk}{k:Tk}(h:Co L M)(j:CR L):(De L (DB k)).2=(Dr M k).2∧(((De L (DB k)).1=none∧(Dr M k).1=none)∨((De L (DB k)).1=some (DI L (DB k))∧Dr M k=(some (NM M k),0)∧Co (DI L (DB k)) (NM M k)∧CR (DI L (DB k)))):=by
 unfold De Dr;have e1:(DB k).1=k.1:=rfl;have e2:(DB k).2.1=k.2.1:=rfl;have e3:(DB k).2.2.2=k.2.2.2:=rfl;rw[e1,e2,e3,←h.find,←h.find];by_cases u:GR k.1 k.2.1 k.2.2.2≠0
 ·simp_all
 rw[if_neg u,if_neg u];by_cases q:k.2.1=[]
 ·simp_all
 rw[if_neg q,if_neg q];rcases EM j k.1 with ⟨y,g,c⟩|⟨y,g⟩
 ·simp_all
 have n1:¬A0 L k.1=true:=by rw[y];decide
 have n2:¬0<=Bv L k.1:=by rw[g];decide
 rw[if_neg n1,if_neg n2];rcases EM j k.2.1 with ⟨z,i,s⟩|⟨z,i⟩
 ·have f:¬A0 L k.2.1=false:=by rw[z];decide
  have o:¬Bv L k.2.1<0:=by rw[i];omega
  rw[if_neg f,if_neg o,i,Qp,←(h.at _).2.2];by_cases m:DZ k.2.2.2 (AS L (I3 L k.2.1)).2.2.2=false
  ·simp_all
  rw[if_neg m,if_neg m];refine⟨rfl,.inr ⟨rfl,rfl,?_,OD (k:=DB k) j y⟩⟩;unfold DI NM;rw[e1,fT j,h.into,h.len];exact h.mid (k:=DB k) (k':=k) (show FJ (DB k)=FJ k from rfl) _
 ·have o:Bv L k.2.1<0:=by rw[i];decide
  rw[if_pos z,if_pos o];exact⟨rfl,.inl ⟨rfl,rfl⟩⟩
def UN{L M:List Tk}(h:Co L M)(s:Bs):∀(n:Nat)(t u:Tk),FJ t=FJ u->Dv L n t s=Dv M n u s
 |0,_,_,_=>rfl
 |n+1,t,u,e=>by
  have e1:t.1=u.1:=congrArg (λx=>x.1) e;have e2:t.2.1=u.2.1:=congrArg (λx=>x.2.1) e;obtain⟨r,q,p⟩:=h.at (Bv M u.2.1).toNat;rw[Dv,Dv,e1,e2,h.find,UN h s n _ (AS M (Bv M u.2.1).toNat) (by unfold FJ;rw[r,q,p])]
def OX{p q:Tk->Bool}(c:∀t u,FJ t=FJ u->p t=q u):∀{A B:List Tk},A.map FJ=B.map FJ->(A.filter p).map FJ=(B.filter q).map FJ
 |[],[],_=>rfl
 |[],_::_,h=>Xe
 |_::_,[],h=>Xe
 |a::A,b::B,h=>by
  simp only[Zp,Zy]at h;have ih:=OX c h.2;have e:=c a b h.1;cases hp:p a<;>rw[hp]at e<;>simp[List.filter_cons,hp,←e,ih,h.1]
def aBg{L M:List Tk}(h:Co L M)(s:Bs):LF L s=LF M s∧Co (Pw L s) (Pw M s):=by
 have n:∀t u,FJ t=FJ u->Dv L (L.length+1) t s=Dv M (M.length+1) u s:=λt u e=>by rw[h.len];exact UN h s _ t u e
 constructor
 ·have:=congrArg (ZW λx:Bs×Bs×List Rl=>x.1) (OX n h);rw[ZS,ZS]at this;exact this
 ·exact OX (λt u e=>by rw[n t u e]) h
def cL{l:List Tk}:CR l↔l.Pairwise λa b=>Op.bytesLess a.1 b.1=true:=by
 have at':∀i (h:i<l.length),AS l i=l[i]:=λi h=>by simp[AS,Qn h]
 constructor
 ·intro h;rw[QQ];intro i j hi y v;rw[←at' i hi,←at' j y];exact h i j v y
 ·intro h i j v y;rw[at' i O,at' j y];exact QQ.1 h i j O y v
def U5(V R:Vw)(A a:Ak)(d:Dk):Prop:=∃o o':Oc,WX EP Fc [IJ V,IB A,.agg (IQ (Bg d))]=some (.agg (IA o))∧R31 [.agg (Iq R),.agg (It a),.agg (IW d)]=some (.agg (IA o'))∧o.need=o'.need∧o.li=o'.li∧o.rep=o'.rep∧o.ops=o'.ops∧I9 o.vw o'.vw∧o.ops.length<=1000
section
variable{V R:Vw}{A a:Ak}{d:Dk}
def yR(p:A=Cv a)(g:I9 V R)(s:F25 [IJ V,IB A]=some (.int .i64 (Ff R a)))(y:IG R)(q:ID a)(x:1<=Ff R a∧Ff R a<=99):U5 V R A a d:=
 ⟨BJ V (Ff R a),BJ R (Ff R a),hY EP Fc V A (Bg d) (Ff R a) O s _ _ (uH V A (Bg d) x),aEB R a d y q x,rfl,rfl,rfl,rfl,g,Qq _⟩
def aDZ(hA:A=Cv a)(al:I9 V R)(hs:Co V.ks R.ks)(hv:PH V)(ha:ID a)(hc:Eh a.rs)(ra:F25 [IJ V,IB A]=some (.int .i64 0))(hr:IG R)(qa:R.nlm=true->R.ms=[])(he:Ff R a=0)(ja:Cc a=0)(oa:a.nlr=true->a.rs=[])(h1:1<=a.op)(h8:a.op<=8):U5 V R A a d:=by
 have g:A.op=a.op:=by rw[hA];rfl
 have fa:=al.se;rcases(by omega:a.op=1∨a.op=2∨a.op=3∨a.op=4∨a.op=5∨a.op=6∨a.op=7∨a.op=8)with h|h|h|h|h|h|h|h
 ·exact⟨_,_,BT .o1 A _ (g.trans h) ra _ _ (H8 ⟨V,A,Bg d⟩ (Ix V) (.state V.se) (λ_=>rfl) trivial trivial),Dj R a d _ hr ha he h8 (aSa R a h),rfl,rfl,by show IY (.state V.se)=IY (.state R.se);rw[fa],rfl,al,Qq _⟩
 ·exact⟨_,_,BT .o2 A _ (g.trans h) ra _ _ (L6 ⟨V,A,Bg d⟩ _ (λ_=>rfl)),Dj R a d _ hr ha he h8 (aEz R a (.inl h)),rfl,rfl,rfl,rfl,⟨by show false=decide (a.op=3);rw[h];rfl,al.te,al.key,al.ms,al.mo,al.mn,al.ks⟩,Qq _⟩
 ·exact⟨_,_,BT .o3 A _ (g.trans h) ra _ _ (L6 ⟨V,A,Bg d⟩ _ (λ_=>rfl)),Dj R a d _ hr ha he h8 (aEz R a (.inr h)),rfl,rfl,rfl,rfl,⟨by show true=decide (a.op=3);rw[h];rfl,al.te,al.key,al.ms,al.mo,al.mn,al.ks⟩,Qq _⟩
 ·have ht:=hv.te;have z:=al.te;by_cases h6:6<=V.te
  ·exact⟨_,_,BT .o4 A _ (g.trans h) ra _ _ (aEr ⟨V,A,Bg d⟩ (Ix V) _ _ (λ_=>rfl) h6 (uH V A _ Z)),Dj R a d _ hr ha he h8 (aIt R a h O),rfl,rfl,rfl,rfl,al,Qq _⟩
  ·refine⟨_,_,BT .o4 A _ (g.trans h) ra _ _ (aRG ⟨V,A,Bg d⟩ (Ix V) V.te (Lg V) h6 rfl O),Dj R a d _ hr ha he h8 (aR9 R a h O O),rfl,rfl,rfl,?_,⟨al.se,by show V.te+1=R.te+1;rw[z],al.key,al.ms,al.mo,al.mn,al.ks⟩,by simp[aT1,Oc.op,Ix]⟩;have da:∀n:Nat,Lib.repeatL [0] n=QV n (0:UInt8):=λn=>by
    induction n with
    |zero=>rfl
    |succ n ih=>simp only[Lib.repeatL,ih,Zh]<;>rfl
   show [((1:Int),AO 5 [] 0,Lib.repeatL [0] (PN (V.te+1)).toNat)]=[((1:Int),_,_)];have hk:PN (R.te+1)=1+16*(R.te+1):=by
    grind [PN,vS]
   rw[da,z,hk];rfl
 ·have hl:=hv.ml;have va:((A.pa,A.n,A.fl):Mt)=(a.pa,a.n,a.fl):=by rw[hA];rfl
  have la:=oM (nl:=V.nlm) (t:=[]) (l:=V.ms) (m:=(A.pa,A.n,A.fl)) O hv.nlm (by rw[va];have:=ha.pa;simp only;omega);have q:FD V.ms (A.pa,A.n,A.fl)=Gf R.ms (a.pa,a.n,a.fl):=by rw[O6 hv.srt,al.ms,va]
  have ab:=Ta V.ms (A.pa,A.n,A.fl);have ea:=@gJ V.ms;have ia:=ha.pa;rcases ab with ⟨l',e1,e2,e3⟩|⟨e1,e2⟩
  ·have ga:HB l':=⟨O,λm hm=>by
    rcases ea hv.srt e1 m hm with h|h
    ·exact hv.ok.mp m h
    ·rw[h,va];exact ia⟩
   rw[e1,e2]at la;have hR:Gf R.ms (a.pa,a.n,a.fl)=(some l',0):=by rw[←q];exact Prod.ext e1 e2
   exact⟨_,_,BT .o5 A _ (g.trans h) ra _ _ (aEp ⟨V,A,Bg d⟩ (Ix V) false l' la (Lg V) ga),Dj R a d _ hr ha he h8 (aR8 R a l' h hr qa O hR ga),rfl,rfl,rfl,rfl,⟨al.se,al.te,al.key,rfl,ga,(λe=>by cases e),al.ks⟩,by simp[aQs,qQ,Oc.op,Ix]⟩
  ·rw[e1]at la;rw[q]at e1 e2 la;exact⟨_,_,BT .o5 A _ (g.trans h) ra _ _ (aEq ⟨V,A,Bg d⟩ (Ix V) _ _ (λ_=>rfl) V.nlm V.ms _ la O (uH V A _ e2)),Dj R a d _ hr ha he h8 (aIs R a h hr qa O e1 e2),rfl,rfl,rfl,rfl,al,Qq _⟩
 ·have hl:=hv.ml;have ca:A.pa=a.pa:=by rw[hA];rfl
  have ia:=ha.pa;have ua:Bh V.ms A.pa=Bh R.ms a.pa:=by rw[al.ms,ca]
  by_cases hf:Bh V.ms A.pa<0
  ·have b:=aJV V.nlm V.ms A.pa O hf;exact⟨_,_,BT .o6 A _ (g.trans h) ra _ _ (aEo ⟨V,A,Bg d⟩ (Ix V) _ _ (λ_=>rfl) V.nlm V.ms 14 b Z (uH V A _ Z)),Dj R a d _ hr ha he h8 (aIr R a h hr O (by rw[←ua];exact hf)),rfl,rfl,rfl,rfl,al,Qq _⟩
  ·have hi:(Bh V.ms A.pa).toNat<V.ms.length:=by
    have:=eP V.ms A.pa;omega
   have b:=aEQ V.nlm V.ms A.pa O hv.nlm hf hi;have ga:HB (NR V.ms A.pa):=⟨by unfold NR;rw[Qz,QM,QO];omega,λm hm=>by
    rcases Zx.1 hm with h|h
    ·exact hv.ok.mp m (ZA h)
    ·exact hv.ok.mp m (List.mem_of_mem_drop h)⟩
   have v:NR V.ms A.pa=NR R.ms a.pa:=by rw[al.ms,ca]
   refine⟨_,_,BT .o6 A _ (g.trans h) ra _ _ (aRF ⟨V,A,Bg d⟩ (Ix V) _ _ b (Lg V) ga (by rw[ca];omega)),Dj R a d _ hr ha he h8 (aR7 R a h hr O (by rw[←ua];exact hf) (by rw[←ua,←al.ms];exact hi) (by rw[←v];exact ga)),rfl,rfl,rfl,?_,⟨al.se,al.te,al.key,v,ga,λe=>of_decide_eq_true e,al.ks⟩,by simp[umO,qQ,Oc.op,Ix]⟩;show [((1:Int),AO 4 [] 0,Cs (NR V.ms A.pa)),(3,[109,47]++A.pa++[47],[]),(3,[100,47]++A.pa++[47],[])]=_;rw[v,ca];rfl
 ·have sa:=hv.kl;have xa:=ha.ot;have na:=ha.tk;have ma:=ha.rl;have za:EB a.rs:=⟨O,λr hr=>Qy (ha.rs r hr).1 Z,hc⟩;subst hA;have ka:=aE2 (nl0:=V.nlt) (nl:=a.rs.isEmpty) (l:=V.ks) (n:=a.ot) (p:=a.tk) (rs:=a.rs) O (λk hk=>(hv.ok.kp k hk).2) (λe=>Zt.1 e) za O O;have aa:=uC (nl:=V.nlt) (l:=V.ks) O;obtain⟨m1,m2⟩:=vU (k:=(a.ot,a.tk,a.nlr,a.rs)) hs hv.inv.sort;have ab:=dM V.ks (DB (a.ot,a.tk,a.nlr,a.rs));rw[show((a.ot,a.tk,a.rs.isEmpty,a.rs):Tk)=DB (a.ot,a.tk,a.nlr,a.rs)from rfl]at ka;have o:a.nlr=true->a.rs=[]:=oa;rcases ab with ⟨⟨l',e1⟩,e2,e3,e4,e5,e6⟩|⟨e1,e2⟩
  ·rcases m2 with ⟨n1,_⟩|⟨n1,n2,n3,n4⟩
   ·rw[e1]at n1;cases n1
   rw[n1,show(De V.ks (DB (a.ot,a.tk,a.nlr,a.rs))).2=0 by rw[e1]]at ka;have ya:GR a.ot a.tk a.rs=0:=e2;by_cases hm:24<=V.ks.length
   ·exact⟨_,_,BT .o7 (Cv a) _ h ra _ _ (aEm ⟨V,Cv a,Bg d⟩ (Ix V) _ _ (λ_=>rfl) false _ ka _ _ aa YE (uH V _ _ Z)),Dj R a d _ hr ha he h8 (aIp R a h hr o za O O _ n2 (by rw[←hs.len];exact hm)),rfl,rfl,rfl,rfl,al,Qq _⟩
   ·have hx:∀nl,PS [.agg [.str a.ot,.str a.tk,.slice nl [] (Aj a.rs)]]=some (.int .i64 0):=λnl=>by
     have:=bK (n:=a.ot) (p:=a.tk) (nl:=nl) (t:=[]) (l:=a.rs) O za.2.1 O O;rw[ya]at this;exact this
    have hy:=λnl=>W8 (nl:=nl) (l:=a.rs) O ha.rs
    have cb:(if CT a.rs=0 then BW (BD a.rs)else []).length<=300:=by
     split
     ·rename_i hp;exact vC hp
     ·decide
    have j:=aJT a.ot a.tk a.rs.isEmpty a.rs _ _ (hx _) (hy _) O O;have i:=aJC a.ot a.tk a.nlr a.rs _ _ (hx _) (hy _) O O;refine⟨_,_,BT .o7 (Cv a) _ h ra _ _ (aRE ⟨V,Cv a,Bg d⟩ (Ix V) false _ ka _ _ aa (Lg V) YE _ _ j (by show a.ot.length<=_;omega)),Dj R a d _ hr ha he h8 (aR6 R a h hr o za O O _ n2 (by rw[←hs.len];exact hm) _ i),rfl,rfl,rfl,rfl,⟨al.se,al.te,al.key,al.ms,al.mo,al.mn,dQ n3 n4 ?_ ?_ ?_⟩,by simp[mkO,iN,Oc.op,Ix]⟩
    ·show(DI V.ks (DB (a.ot,a.tk,a.nlr,a.rs))).length<=_;unfold DI;rw[Qz,Qw,QM,QO];omega
    ·intro k hk;rcases ES.1 hk with h|rfl
     ·exact(hv.ok.kp k h).1
     ·exact⟨by show a.rs.length<=_;omega,λe=>Zt.1 e⟩
    ·intro k hk;rcases ES.1 hk with h|rfl
     ·exact al.ks.r k h
     ·exact ma
  ·rcases m2 with ⟨n1,n2⟩|⟨n1,_⟩
   ·rw[n1]at ka;rw[m1]at ka e2;exact⟨_,_,BT .o7 (Cv a) _ h ra _ _ (aEn ⟨V,Cv a,Bg d⟩ (Ix V) _ _ (λ_=>rfl) V.nlt V.ks _ ka O (uH V _ _ e2)),Dj R a d _ hr ha he h8 (aIq R a h hr o za O O n2 e2),rfl,rfl,rfl,rfl,al,Qq _⟩
   ·rw[e1]at n1;cases n1
 ·subst hA;obtain⟨r,za,_⟩:=hv.inv.tree;have sa:=hv.kl;have c:=hv.inv.sort;have w:Bv R.ks a.ot=Bv V.ks a.ot:=(hs.find _).symm;obtain⟨q1,q2⟩:=aBg hs a.ot;rcases EM c a.ot with ⟨f1,f2,f3⟩|⟨f1,f2⟩
  ·have f:=aEV (nl:=V.nlt) O za f1;obtain⟨g1,g2⟩:=aHF hv.inv f1;have ta:(Dg V.ks a.ot).length<=V.ks.length+1:=by
    unfold Dg PK;rw[Zz];exact rL za _ _
   have wa:∀s∈Dg V.ks a.ot,BV s=true:=λs hs=>by
    have:=VV (pI hs);obtain⟨u,hu,e⟩:=OT f1;rcases QE.1 this with rfl|h
    ·rw[←e];exact hv.inv.name u hu
    ·obtain⟨t,ht,rfl⟩:=QB.1 h;exact hv.inv.name t ht
   have y:Dg V.ks a.ot≠[]:=λe=>by
    have h1:(Dg V.ks a.ot).length=(EN V.ks V.ks.length a.ot).length:=Zz _;rw[e]at h1;cases hk:V.ks.length<;>rw[hk]at h1<;>simp[EN]at h1
   have ba:∀s∈Dg V.ks a.ot,s.length<=8:=λs hs=>aBW (wa s hs)
   have hy:MD (.names false (Dg V.ks a.ot))=0:=if_pos ⟨O,by
    rw[Zm];intro x hx;rw[aGI (wa x hx)];decide⟩
   have bb:GY (.names (decide (Dg V.ks a.ot=[])) (Dg V.ks a.ot)):=⟨hy,⟨O,λe=>absurd (of_decide_eq_true e) y,by
    have:∀l:List Bs,(∀s∈l,s.length<=8)->Cg l<=8*l.length:=λl=>by
     induction l with
     |nil=>intro _;exact Qq _
     |cons x r ih=>
      intro h;have h1:=h x (QJ ..);have h2:=ih (λs hs=>h s (Q1 _ hs));simp only[Cg,Zp,List.sum_cons,Qw]at *;omega
    have:=this _ ba;omega⟩,Xu⟩
   refine⟨_,_,BT .o8 (Cv a) _ h ra _ _ (aRD EP ⟨V,Cv a,Bg d⟩ (Ix V) _ _ false (Dg V.ks a.ot) f (Lg V) y O (λs hs=>Qy (ba s hs) Z) (λe=>by cases e)),Dj R a d _ hr ha he h8 (aR5 R a _ _ h hr (by rw[w,f2];omega) rfl (q1.symm.trans g1) O (λs hs=>Qy (ba s hs) Z) bb),rfl,rfl,rfl,rfl,⟨al.se,al.te,al.key,al.ms,al.mo,al.mn,dQ (by rw[←g2]at *;exact q2) ?_ ?_ ?_ ?_⟩,by simp[aQa,E5,iN,Ix];omega⟩
   ·exact cL.2 ((cL.1 c).filter _)
   ·exact Qy (QP ..) O
   ·intro k hk;exact(hv.ok.kp k (Q8.1 hk).1).1
   ·intro k hk;exact al.ks.r k (Q8.1 hk).1
  ·have f:=aJ3 (nl:=V.nlt) O za f1;exact⟨_,_,BT .o8 (Cv a) _ h ra _ _ (aEl EP ⟨V,Cv a,Bg d⟩ (Ix V) _ _ (λ_=>rfl) V.nlt V.ks true [] 6 f Z (uH V _ _ Z)),Dj R a d _ hr ha he h8 (aIo R a h hr (by rw[w,f2];decide)),rfl,rfl,rfl,rfl,al,Qq _⟩
end
structure Le (V R:Vw) (o o':Oc):Prop where
 need:o.need=o'.need
 li:o.li=o'.li
 rep:o.rep=o'.rep
 ops:o.ops=o'.ops
 vw:o.vw=V
 vr:o'.vw=R
 n:o.ops.length<=1000
section
variable{V R:Vw}{A a:Ak}{d:Dk}
theorem Ht(e:Int):Le V R (BJ V e) (BJ R e):=⟨rfl,rfl,rfl,rfl,rfl,rfl,Qq _⟩
theorem Hp(q:Bs)(b:Bool):Le V R (DW V q b) (DW R q b):=⟨rfl,rfl,rfl,rfl,rfl,rfl,Qq _⟩
theorem R_(z:V.ms=R.ms){s:Sc}(j:s.rs.length<=6)(p:Bs)(cas:Int)(f:Bs):Le V R (ED V p s cas f) (ED R p s cas f):=by
 have y:B_ V p=B_ R p:=by unfold B_;rw[z]
 obtain⟨_,_,i,_⟩:=U6 j (B_ R p).1 (B_ R p).2 cas (f.length:Int);unfold ED;rw[y];split
 ·exact Ht _
 ·exact⟨rfl,rfl,rfl,rfl,rfl,rfl,by simp only[aAr,BX,Oc.op,Ix,Qz,Qr,Qw,QS];omega⟩
theorem Me{p:Bs}{t:Sc}{gone:List Int}{e:Int}(n:gone.length<=900):Le V R (ET V p t gone e) (ET R p t gone e):=by
 unfold ET;split
 ·exact Ht _
 ·exact⟨rfl,rfl,rfl,rfl,rfl,rfl,by simp only[M7,BX,Oc.op,Ix,Qz,Qr,Qw,QS];omega⟩
def aEg(l:List Rw):(C_ l).length<=l.length:=by unfold C_;rw[Qr];exact QP ..
def aBC(z:V.ms=R.ms){s:Sc}(j:s.rs.length<=6)(x:Bool):Le V R (Tq V a s x) (Tq R a s x):=by
 have y:B_ V a.pa=B_ R a.pa:=by unfold B_;rw[z]
 have h:=aEg s.rs;unfold Tq;rw[y];by_cases c:a.op=10
 ·grind [R_]
 rw[if_neg c,if_neg c];by_cases c:a.op=15
 ·rw[if_pos c,if_pos c];exact Me (by have:=(SW j (B_ R a.pa).1 a.n a.fl).2.2;omega)
 rw[if_neg c,if_neg c];by_cases c:x=false
 ·grind [Ht]
 rw[if_neg c,if_neg c];by_cases c:a.op=14
 ·rw[if_pos c,if_pos c];exact⟨rfl,rfl,rfl,rfl,rfl,rfl,Qq _⟩
 rw[if_neg c,if_neg c];by_cases c:a.op=16
 ·rw[if_pos c,if_pos c];exact⟨rfl,rfl,rfl,rfl,rfl,rfl,by simp only[FQ,BX,Oc.op,Ix,Qz,Qr,Qw,QS];omega⟩
 rw[if_neg c,if_neg c];by_cases c:a.op=11
 ·grind [Me]
 rw[if_neg c,if_neg c];by_cases c:a.op=12
 ·grind [Me]
 rw[if_neg c,if_neg c];exact Me (by have:=(FI j a.ns 252).2.2;omega)
def xT(z:V.ms=R.ms)(k:Kn):Le V R (M_ V a k) (M_ R a k):=by
 unfold M_;by_cases c:(AW k a.pa).2.2=false
 ·grind [Hp]
 rw[if_neg c,if_neg c];by_cases c:(Ch (AW k a.pa)).isSome=false
 ·grind [Ht]
 rw[if_neg c,if_neg c];by_cases c:(To k a).2≠0
 ·grind [Ht]
 rw[if_neg c,if_neg c];by_cases c:(DX k (MZ k a)).2.2=false
 ·grind [Hp]
 rw[if_neg c,if_neg c];by_cases c:a.op=9
 ·rw[if_pos c,if_pos c];exact⟨rfl,rfl,rfl,rfl,rfl,rfl,Qq _⟩
 rw[if_neg c,if_neg c];by_cases c:(AW k a.ot).2.2=false
 ·grind [Hp]
 rw[if_neg c,if_neg c];exact R_ z (Ft _).len _ _ _
def vX(k:Kn):Le V R (MV V a k) (MV R a k):=by
 unfold MV;by_cases c:(MF k ([109,47]++a.pa++[47])).2.2=false
 ·grind [Hp]
 rw[if_neg c,if_neg c];exact⟨rfl,rfl,rfl,rfl,rfl,rfl,Qq _⟩
def Le.both{o o':Oc}(h:Le V R o o')(g:I9 V R)(u:WX EP Fc [IJ V,IB A,.agg (IQ (Bg d))]=some (.agg (IA o)))(q:R31 [.agg (Iq R),.agg (It a),.agg (IW d)]=some (.agg (IA o'))):U5 V R A a d:=
 ⟨o,o',u,q,h.need,h.li,h.rep,h.ops,by rw[h.vw,h.vr];exact g,h.n⟩
def fW(g:I9 V R)(t:PH V)(p:aAm (Cv a))(y:IG R)(q:ID a)(j:NG (Bg d))(s:F25 [IJ V,IB (Cv a)]=some (.int .i64 0))(x:Ff R a=0)(z:10<=a.op∧a.op<=16)(b:¬Bd R.ms a.pa<0)(l:d.its.length<=1000):U5 V R (Cv a) a d:=by
 obtain⟨ol,h⟩:=aZE t p j z;have u:WX EP Fc [IJ V,IB (Cv a),.agg (IQ (Bg d))]=some (.agg (IA (Oj V (Cv a) (Bg d)))):=by
  rcases(by omega:a.op=10∨a.op=11∨a.op=12∨a.op=13∨a.op=14∨a.op=15∨a.op=16)with e|e|e|e|e|e|e
  ·exact BT .o10 (Cv a) _ e s _ _ h
  ·exact BT .o11 (Cv a) _ e s _ _ h
  ·exact BT .o12 (Cv a) _ e s _ _ h
  ·exact BT .o13 (Cv a) _ e s _ _ h
  ·exact BT .o14 (Cv a) _ e s _ _ h
  ·exact BT .o15 (Cv a) _ e s _ _ h
  ·exact BT .o16 (Cv a) _ e s _ _ h
 rw[mU]at u;have w:(AW (Bg d) a.pa).1.length<=1000000:=by have:=Mq j (AO 1 a.pa 0);unfold AW;omega
 cases hm:(AW (Bg d) a.pa).2.2 with
 |false=>
  rw[show(AW (Bg d) (Cv a).pa).2.2=false from hm,if_pos rfl]at u;exact(Hp _ _).both g u (gX R a d y q x O l hm)
 |true=>
  rw[show(AW (Bg d) (Cv a).pa).2.2=true from hm,if_neg Z]at u;exact Le.both (o:=Tq V (Cv a) (DT (Ch (AW (Bg d) a.pa))) (Ch (AW (Bg d) a.pa)).isSome) (aBC (a:=a) g.ms (Ft _).len _) g u (oC R a d y q x z l b hm w)
def yS(g:I9 V R)(t:PH V)(p:aAm (Cv a))(y:IG R)(q:ID a)(j:NG (Bg d))(s:F25 [IJ V,IB (Cv a)]=some (.int .i64 0))(x:Ff R a=0)(z:a.op=9∨a.op=18)(b:¬Bd R.ms a.pa<0)(c:a.op=18->¬Bd R.ms a.ot<0)(l:d.its.length<=1000):U5 V R (Cv a) a d:=by
 obtain⟨ol,h⟩:=aZF t p j z;have u:WX EP Fc [IJ V,IB (Cv a),.agg (IQ (Bg d))]=some (.agg (IA (M_ V (Cv a) (Bg d)))):=by
  rcases z with e|e
  ·exact BT .o9 (Cv a) _ e s _ _ h
  ·exact BT .o18 (Cv a) _ e s _ _ h
 refine Le.both (o:=M_ V (Cv a) (Bg d)) (xT (a:=a) g.ms (Bg d)) g u ?_;cases hm:(AW (Bg d) a.pa).2.2 with
 |false=>
  have:=gX R a d y q x O l hm;unfold M_;rw[hm,if_pos rfl];exact this
 |true=>exact aEC R a d y q x z l b c hm j
end
def aBx{d:Dk}(h:Lc d=false):NG (Bg d):=by
 have u:=aBX h;have q:=dG h;unfold Lc at h;simp only[Q2,decide_eq_false_iff_not]at h;exact⟨by show d.its.length<=20;omega,by show d.lss.length<=20;omega,λx p=>Qy (u x p).2 Z,λx p=>⟨Qy (q x p).1 Z,λs j=>Qy ((q x p).2 s j) Z⟩⟩
def aBV(p:Bs)(l:List Bs):GY (.names (decide (NC p (A1 l)=[])) ((NC p (A1 l)).take 64)):=by
 have f:=fL p l;have y:((NC p (A1 l)).take 64).length<=64:=Xg
 have j:=sum_64 _ f;exact⟨if_pos ⟨y,f⟩,⟨O,λe=>by rw[of_decide_eq_true e];rfl,O⟩,Xu⟩
def aD0{v:Vw}{a:Ak}{d:Dk}(sv:IV v)(w:ID a)(k:Eh a.rs)(r:a.nlr=true->a.rs=[])(z:Lc d=false)(l:∀x∈d.lss,x.2.1=true->x.2.2=[]):U5 (Gg v) (FA v) (Cv a) a d:=by
 have t:=aAY sv;have hA:=aGy w k;have y:=aDi sv;have g:=nO sv;have j:=aBx z;have c:=qN z l;have m:=(Gm v.ks).1;have s:=NI t.ok hA.ok;rw[aGr,jM Hd]at s;have n:(FA v).nlm=true->(FA v).ms=[]:=by
  obtain⟨u,_⟩:=Od v.ms (true,[]) 0 ⟨Qt _,λ_=>rfl⟩ (λx p=>XN) sv.mp;exact u.2
 have i:=aGt (Gg v) a;rw[jM Hd]at i;by_cases h:Ff (FA v) a=0
 ·rw[h]at s;have ja:Cc a=0:=mT (v:=Gg v) (by rw[jM Hd];exact h);obtain⟨u,q⟩:=aT9 ja w.op0;by_cases h8:a.op<=8
  ·exact aDZ rfl g m t w k s y n h ja r u h8
  have f:Nj (FA v) a=true:=by
   grind [Ff,Nj,FA]
  unfold Nj at f;rw[QA,Q7,Q7,QA]at f;simp only[decide_eq_true_eq]at f;by_cases ka:a.op=17
  ·have u:=aEA (FA v) a d y w h ka c.l2 (λx p=>⟨(c.ls x p).1,(j.lt x p).2⟩) (aBV a.pa);exact Le.both (o:=MV (Gg v) (Cv a) (Bg d)) (vX (a:=a) (Bg d)) g ((aDo t hA s ka).run _ j) u
  have b:¬Bd (FA v).ms a.pa<0:=O
  by_cases h9:a.op=9∨a.op=18
  ·exact yS g t hA y w j s h h9 b (λe=>O) c.l1
  ·exact fW g t hA y w j s h O b c.l1
 ·exact yR rfl g s y w O
def S33:=AB []
def R33:=RF S33 aYx [.t 2] 19
def bAM:Kq R33 33:=Az (Ai func33) Ad
def aSo(nl:Bool)(l:List Op1)(w:l.length<=1000):R33 [.slice nl [] (BH l)]=some (.slice (decide (l.length=0)) [] (BH l)):=by
 refine Aq (Qo rfl) ?_;unfold aYx;have a:∀l:List Op1,(BH l).length=l.length:=λl=>Qr ..
 simp only[↓C2,Ie,simprocAttr];refine AV (n:=l.length) (I:=λk z=>z.s 0= .slice nl [] (BH l)∧z.s 4= .int .i64 (k:Int)∧∃t,z.s 3= .slice (decide (k=0)) t (BH (l.take k))∧LG 0 z.m 172 z.m z.c (decide (k=0)) t) (λk j ih z g hI=>?_) (λz g hI=>?_) 0 (Qq _) _ _ ⟨rfl,rfl,_,rfl,LG.start Xb⟩
 ·obtain⟨i,f,q⟩:=z;obtain⟨r,b,t,o,y⟩:=hI;simp only at r b o y;refine Ae mL.eq_1 ?_;have v:((k:Int)<l.length)=True:=eq_true O;have u:(0:Int)<=(k:Int):=by omega
  have h:IntKind.i64.wrap ((k:Int)+1)=((k+1:Nat):Int):=Iz O O;have d:=pY j;have hs:BH (l.take (k+1))=BH (l.take k)++[.agg [.int .u8 l[k].1,.str l[k].2.1,.str l[k].2.2]]:=by
   unfold BH;rw[Qv j,QR];rfl
  have fin:(if k=0 then [D.agg [.int .u8 l[k].1,.str l[k].2.1,.str l[k].2.2]]else BH (l.take k)++[.agg [.int .u8 l[k].1,.str l[k].2.1,.str l[k].2.2]])=BH (l.take (k+1)):=by
   grind
  have e:(BH (l.take k)).length=k:=by rw[a,QM];omega
  simp only[↓C2,Ie,simprocAttr,r,b,o,v,a,u,Qp,d];refine AF.intro ⟨Xg,rfl,Qf⟩ ?_;simp only[↓C2,Ie,simprocAttr,b,h];refine ih _ _ ⟨r,rfl,_,congrArg (D.slice false _) fin,?_⟩;exact(y.put.app O Xb).base
 ·obtain⟨i,f,q⟩:=z;obtain⟨r,b,t,o,y⟩:=hI;simp only at r b o y;refine Ae mL.eq_1 ?_;have v:((l.length:Int)<l.length)=False:=eq_false O;rw[Qu (Qt _)]at o;simp only[↓C2,Ie,simprocAttr,r,b,o,v,a]
  all_goals exact Qi
def S32:=AB []
def R32:=RF S32 aYy [.t 4] 26
def bAN:Kq R32 32:=Az (Ai func32) Ad
def aSt(n1 n2:Bool)(l:List Op1)(w:l.length<=1000):R32 [.slice n1 [] (BH l),.slice n2 [] (BH l)]=some (.bool true):=by
 refine Aq (Qo rfl) ?_;unfold aYy;have a:∀l:List Op1,(BH l).length=l.length:=λl=>Qr ..
 simp only[↓C2,Ie,simprocAttr,a,ne_eq,not_true_eq_false,decide_false];refine AV (n:=l.length) (I:=λk z=>z.s 0= .slice n1 [] (BH l)∧z.s 1= .slice n2 [] (BH l)∧z.s 5= .int .i64 (k:Int)) (λk j ih z g t=>?_) (λz g t=>?_) 0 (Qq _) _ _ ⟨rfl,rfl,rfl⟩
 ·obtain⟨c,f,o⟩:=z;obtain⟨r,u,m⟩:=t;simp only at r u m;refine Ae mM.eq_1 ?_;have v:((k:Int)<l.length)=True:=eq_true O;have b:(0:Int)<=(k:Int):=by omega
  have h:IntKind.i64.wrap ((k:Int)+1)=((k+1:Nat):Int):=Iz O O;have d:=pY j;generalize l[k]=x at d;simp only[↓C2,Ie,simprocAttr,r,u,m,v,a,b,Qp,d];have ta:Bn [.int .u8 x.1,.str x.2.1,.str x.2.2] [.int .u8 x.1,.str x.2.1,.str x.2.2] [(0,0),(2,1),(2,2)]=some true:=by simp[Bn,LJ]
  simp only[↓C2,Ie,simprocAttr,ta];refine Al ?_;simp only[↓C2,Ie,simprocAttr,m,h];exact ih _ _ ⟨r,u,rfl⟩
 ·obtain⟨c,f,o⟩:=z;obtain⟨r,u,m⟩:=t;simp only at r u m;refine Ae mM.eq_1 ?_;have v:((l.length:Int)<l.length)=False:=eq_false O;simp only[↓C2,Ie,simprocAttr,r,u,m,v,a]
  all_goals exact Qi
def aT5{m:Ig}{k:Nat}{o:Oc}:Ah (m.put [k] 0 (IA o)) [k] 4 5=some (Iq o.vw):=by
 simp[Ah,Ag,IA,Iq]
def rE6{m:Ig}{i j o p n:Nat}{x:List D}(h:j≠i):Ah (m.put [i] o x) [j] p n=Ah m [j] p n:=AT (by simp[h])
def aVK(o:Oc):(IA o)[1]?=some (.bool o.li):=rfl
def S6:=AB [(15,Af F15),(16,Af F16),(9,Af R9),(10,Af bY),(17,Af F17),(18,Af F18),(11,Af R11),(19,Af (WX EP Fc)),(31,Af R31),(33,Af R33),(32,Af R32),(22,Af F22)]
def R6:=RF S6 dc6 [.t 6] 76
def ko6(ok181:Kq TL 181):Kq R6 6:=Az (Ai func6:Fn Qs 6 76 dc6 [.t 6]) (Aa aZ9 (Aa aZ8 (Aa ko9 (Aa aVB (Aa aZ7 (Aa aZ6 (Aa bAQ (Aa (aW6 aLu aLt) (Aa (bAO ok181) (Aa bAM (Aa bAN (Aa (aZ5 ok66) Ad))))))))))))
def aZm(v:Vw)(a:Ak)(d:Dk)(q:∀k∈v.ks,jQ k)(r:0<=a.op)(u:a.op<256)(hc:Eh a.rs)(hn:a.nlr=true->a.rs=[])(hd:∀x∈d.lss,x.2.1=true->x.2.2=[]):R6 [IJ v,IB a,.agg (IW d)]=some (.bool true):=by
 refine Aq (Qo rfl) ?_;unfold dc6;have s:F15 [.agg (Iq v)]=some (NW (Sj v)):=aTm;have ta:F16 [.agg (It a)]=some (NW (Sk a)):=aTj;have n:=aZl d;have c:bY []=some (.bool true):=rfl;have q0:Ah (((Ig.put (λ_ _=>none) [0] 0 (Iq v)).put [1] 0 (It a)).put [2] 0 (IW d)) [0] 0 5=some (Iq v):=by rw[AT Z,AT Z];exact AX rfl
 have t:Ah (((Ig.put (λ_ _=>none) [0] 0 (Iq v)).put [1] 0 (It a)).put [2] 0 (IW d)) [1] 0 11=some (It a):=by rw[AT Z];exact AX rfl
 have q2:Ah (((Ig.put (λ_ _=>none) [0] 0 (Iq v)).put [1] 0 (It a)).put [2] 0 (IW d)) [2] 0 2=some (IW d):=AX rfl;have f:(D.agg (IW d)).cells=IW d:=rfl;have h:ZW D.un1 (IW d)=IW d:=rfl;have g:(IW d).all D.calm1=true:=rfl;have va:(IW d).length=2:=rfl;have z5:∀{m:Ig} {i:Id} {x0 x1 x2 x3 x4:D},Ah (m.put i 0 [x0,x1,x2,x3,x4]) i 0 5=some [x0,x1,x2,x3,x4]:=AX rfl;have z9:∀{m:Ig} {i:Id} {x0 x1 x2 x3 x4 x5 x6 x7 x8:D},Ah (m.put i 0 [x0,x1,x2,x3,x4,x5,x6,x7,x8]) i 0 9=some [x0,x1,x2,x3,x4,x5,x6,x7,x8]:=AX rfl;have za:∀{m:Ig} {i:Id} {a:Ak},Ah (m.put i 0 (It a)) i 0 11=some (It a):=AX rfl;have zd:∀{m:Ig} {i:Id} {d:Dk},Ah (m.put i 0 (IW d)) i 0 2=some (IW d):=AX rfl;have zv:∀{m:Ig} {i:Id} {v:Vw},Ah (m.put i 0 (Iq v)) i 0 5=some (Iq v):=AX rfl;have zo:∀{m:Ig} {i:Id} {o:Oc},Ah (m.put i 0 (IA o)) i 0 9=some (IA o):=AX rfl;unfold IJ IB;cases hs:Sj v with
 |true=>
  rw[hs]at s;simp only[↓C2,Ij,simprocAttr,EJ,Ac S6 15,s,Ac S6 10,c,f,q0,Cl,Cf,AL,AA]
  all_goals exact Qj
 |false=>
  rw[hs]at s;cases ho:Sk a with
  |true=>
   rw[ho]at ta;simp only[↓C2,Ij,simprocAttr,EJ,Nh,Ac S6 15,s,Ac S6 16,ta,Ac S6 10,c,f,q0,t,Cl,Cf,AL,Bp,Bq,AA]
   all_goals exact Qj
  |false=>
   rw[ho]at ta;cases hm:Lc d with
   |true=>
    rw[hm]at n;simp only[↓C2,Ij,simprocAttr,Nh,Ac S6 15,s,Ac S6 16,ta,Ac S6 9,n,Ac S6 10,c,f,h,g,q0,t,q2,Cl,Cf,AL,Bp,Bq,AA]
    all_goals exact Qj
   |false=>
    rw[hm]at n;have sv:=aF7 hs q;have w:=aRA ho r u hc;have ka:F17 [.agg (Iq v)]=some (.tup [.agg (Iq (Gg v)),.agg (Iq (FA v))]):=aTi sv;have la:F18 [.agg (It a)]=some (.agg (It (Cv a))):=aTh w.rl;have ba:=aS3 d (qN hm hd);obtain⟨o,p,ua,b,e1,e2,e3,e4,e5,e6⟩:=aD0 (d:=d) sv w hc hn hm hd;unfold IJ IB at ua;have j:F22 [.agg (Iq o.vw),.agg (Iq p.vw)]=some (.bool true):=aTg e5;have z:=aSo o.nl o.ops e6;have e:R32 [.slice (decide (o.ops.length=0)) [] (BH o.ops),.slice p.nl [] (BH p.ops)]=some (.bool true):=by rw[←e4];exact aSt _ p.nl o.ops e6
    generalize Gg v=V at *;generalize FA v=R at *;generalize Cv a=A at *;have l:∀(x y:Nat),([x]=[y])=(x=y):=λx y=>U
    simp (disch:=omega)only[↓C2,Iw,Ii,simprocAttr,Nh,Ac S6 15,s,Ac S6 16,ta,Ac S6 9,n,Ac S6 17,ka,Ac S6 18,la,f,h,g,va,q0,t,q2,Cl,Cf,AL,Bp,Bq,AA,rE4,z5,z9,za,zv,zo,zd,A9,AQ,ne_eq,and_self,Q9,Ac S6 11,ba,Ac S6 19,ua,aQS,aQT,aBO,aBP,qG,Ac S6 31,b];refine Al ?_;simp (disch:=omega)only[↓C2,Iw,Ii,simprocAttr,Ag,aVJ,aVL,aVK,aVI,z5,z9,za,zd,zv,zo,Mj,Option.map_some,Cl,Cf,Bp,Bq,h,g,va,f,qG,aBO,aBP,AQ,A9,and_self,Q9,l,false_and,ne_eq,rE4,rE6,aT5,q0,t,q2,Ac S6 31,b,e1,e2,e3,Ac S6 33,z,Ac S6 32,e,Ac S6 22,j,Ac S6 10,c,decide_true];refine Al ?_;simp only[↓C2,Ih,IM,simprocAttr]
    all_goals exact Qi
def mkL(p:Vw×Ak×Int):List D:=[IJ p.1,IB p.2.1,.int .u8 p.2.2]
structure bBz (p:Vw×Ak×Int):Prop where
 ks:∀k∈p.1.ks,jQ k
 rs:Eh p.2.1.rs
 o0:0<=p.2.1.op
 o1:p.2.1.op<256
 q0:0<=p.2.2
 q1:p.2.2<256
def rE{m:Ig}{i j:Nat}{x:List D}{n:Nat}(h:j≠i):Ah (m.put [i] 0 x) [j] 0 n=Ah m [j] 0 n:=AT (by simp[h])
def e1{m:Ig}{x:List D}{n:Nat}:Ah (m.put [16] 0 x) [0] 0 n=Ah m [0] 0 n:=rE Z
def e2{m:Ig}{x:List D}{n:Nat}:Ah (m.put [17] 0 x) [0] 0 n=Ah m [0] 0 n:=rE Z
def e3{m:Ig}{x:List D}{n:Nat}:Ah (m.put [16] 0 x) [1] 0 n=Ah m [1] 0 n:=rE Z
def e4{m:Ig}{x:List D}{n:Nat}:Ah (m.put [17] 0 x) [1] 0 n=Ah m [1] 0 n:=rE Z
def e5{m:Ig}{x:List D}{n:Nat}:Ah (m.put [17] 0 x) [16] 0 n=Ah m [16] 0 n:=rE Z
def e6{m:Ig}{x:List D}{n:Nat}:Ah (m.put [16] 0 x) [17] 0 n=Ah m [17] 0 n:=rE Z
def e7{m:Ig}{v:Vw}{i:Id}:Ah (m.put i 0 (Iq v)) i 0 5=some (Iq v):=AX rfl
def F5:List D->Option D:=FX mkL bBz (λ_=> .bool true)
def v0:Vw:=aHw [107] false
def t1:List Mt:=[([97],2,false)]
def v1:Vw:=⟨false,1,[107],false,t1,false,[Io]⟩
end Go.Vd
namespace Go.Vd
open Go.RowKit Go.ChangeShapes Go.WideShapes Go.Deep
def O5(w:World)(b:Nat):Nat:=match w.heap[b]? with
 |some (.cells c _ _)=>c.size
 |_=>0
def aEe(w:World)(b:Nat)(h:w.heap.size<=b):O5 w b=0:=by
 grind [O5]
def aHX{w:World}{p:Addr}{v:Value}(h:w.cell? p=some v):p.off<O5 w p.block:=by
 unfold World.cell? at h;unfold O5;split at h
 ·grind
 ·cases h
def PA{α:Type}{p:Nat->α->Prop}:∀n,(∀i,i<n->∃x,p i x)->∃l:List α,l.length=n∧∀i x,l[i]?=some x->p i x
 |0,_=>⟨[],rfl,U⟩
 |n+1,h=>by
  obtain⟨l,u,q⟩:=PA n (λi hi=>h i O);obtain⟨x,o⟩:=h n O;refine⟨l++[x],by simp[u],λi y d=>?_⟩;by_cases hi:i<l.length
  ·grind
  ·grind
def Nn(P:Program)(t:TypeId):Bool:=match P.underlying t with
 |some (.struct _)=>true
 |_=>false
def ML:Bool->List D->D
 |true,cs=> .agg cs
 |false,[d]=>d
 |false,_=> .junk
def aJ4(F:TypeId->List D->Prop):List TypeId->List D->Prop
 |[],ds=>ds=[]
 |t::r,ds=>∃a b,ds=a++b∧F t a∧aJ4 F r b
def IH(P:Program):Nat->TypeId->List D->Prop
 |0,_,_=>False
 |n+1,t,ds=>match P.underlying t with
  |some .string=>∃s,ds=[.str s]
  |some .bool=>∃b,ds=[.bool b]
  |some (.int k)=>∃x,ds=[.int k x]∧(Lit.int k x).wf=true
  |some (.struct fs)=>aJ4 (IH P n) (fs.toList.map (·.type)) ds
  |some (.slice e)=>∃nl xs,ds=[.slice nl [] xs]∧(nl=true->xs=[])∧∀x∈xs,∃cs,x=ML (Nn P e) cs∧IH P n e cs
  |_=>False
def aAH(P:Program)(c:Nat):List Field->Nat->Bool
 |[],o=>o==c
 |f::r,o=>f.offset==o&&aAH P c r (o+P.cellsOf f.type)
def Lw(P:Program):Nat->TypeId->Bool
 |0,_=>false
 |n+1,t=>match P.underlying t with
  |some .string=>P.cellsOf t==1
  |some .bool=>P.cellsOf t==1
  |some (.int _)=>P.cellsOf t==1
  |some (.struct fs)=>aAH P (P.cellsOf t) fs.toList 0&&fs.toList.all λf=>Lw P n f.type
  |some (.slice e)=>P.cellsOf t==1&&Lw P n e
  |_=>false
structure TF (w:World) (ds:List D) (cs:List Value):Prop where
 len:ds.length=cs.length
 calm:∀d∈ds,d.calm1=true
 un:ds.map D.un1=ds
 rep:∀(j:Nat) d v,ds[j]?=some d->cs[j]?=some v->Im w (DM (O5 w)) d v∧v.oneCell'=true
theorem TF.one {w : World} {d : D} {v : Value} (u : d.calm1 = true) (q : d.un1 = d) (o : Im w (DM (O5 w)) d v) (b : v.oneCell' = true) : TF w [d] [v] :=
 ⟨rfl, fun x p => by simp only [QE, List.mem_nil_iff, or_false] at p; subst p; exact u, by simp [q], fun j x y p m => by
  match j with
  | 0 => simp only [Qx, Q0] at p m; subst p m; exact ⟨o, b⟩
  | j + 1 => simp at p⟩
def UQ{c:Nat}{b:Bool}:∀(l:List (List D))(j:Nat)(d:D),(∀ds∈l,ds.length=c∧(ML b ds).cells=ds)->(flat (l.map (ML b)))[j]?=some d->∃i k ds,l[i]?=some ds∧ds[k]?=some d∧j=i*c+k
 |[],j,d,_,h=>by simp[flat]at h
 |x::r,j,d,hl,h=>by
  obtain⟨u,q⟩:=hl x (QJ ..);simp only[Zp,flat,q]at h;by_cases y:j<x.length
  ·rw[Q4 y]at h;exact⟨0,j,x,rfl,h,O⟩
  ·rw[QF O]at h;obtain⟨i,k,ds,e1,e2,e3⟩:=UQ r _ d (λds hd=>hl ds (Q1 _ hd)) h;refine⟨i+1,k,ds,by simpa using e1,e2,?_⟩;rw[Nat.succ_mul];omega
section
variable{H:Type}{enc:TypeId×Value->H}{P:Program}{w:World}{base:Nat}{spare:Nat->Bool}{held:Bool}
def Po{n:Nat}{cs:List Value}{fuel:Nat}(ih:∀t,Lw P n t=true->∀(fuel:Nat)(cs:List Value) x,DataW.trod enc P w base spare held fuel t cs=some x->cs.length=P.cellsOf t∧∃ds,IH P n t ds∧TF w ds cs):
  ∀(e:List Field)(o:Nat),aAH P cs.length e o=true->(e.all λf=>Lw P n f.type)=true->(∀(j:Nat) f,e[j]?=some f->∃y,DataW.trod enc P w base spare held fuel f.type ((cs.drop f.offset).take (P.cellsOf f.type))=some y)->
   o<=cs.length∧∃ds,aJ4 (IH P n) (e.map (·.type)) ds∧TF w ds (cs.drop o)
 |[],o,i,_,_=>by
  simp only[aAH,beq_iff_eq]at i;subst i;refine⟨Qt _,[],rfl,U,U,rfl,U⟩
 |f::r,o,i,hp,hf=>by
  simp only[aAH,QA,beq_iff_eq]at i;obtain⟨rfl,i⟩:=i;simp only[ZQ,QA]at hp;obtain⟨y,hy⟩:=hf 0 f rfl;obtain⟨u,a,fa,m⟩:=ih _ hp.1 _ _ _ hy;obtain⟨q,b,s,sb⟩:=Po ih r _ i hp.2 (λj g hg=>hf (j+1) g (by simpa using hg));have c:cs.drop f.offset=(cs.drop f.offset).take (P.cellsOf f.type)++cs.drop (f.offset+P.cellsOf f.type):=by
   rw[←List.drop_drop,Zd]
  refine⟨O,a++b,⟨a,b,rfl,fa,s⟩,?_⟩;rw[c];refine⟨by rw[Qz,Qz,m.len,sb.len],λd l=>?_,by rw[QR,m.un,sb.un],λj d v l p=>?_⟩
  ·rcases Zx.1 l with h|h
   ·exact m.calm d h
   ·exact sb.calm d h
  ·have z:=m.len;by_cases k:j<a.length
   ·rw[Q4 k]at l;rw[Q4 O]at p;exact m.rep j d v l p
   ·rw[QF O]at l;rw[QF O,←z]at p;exact sb.rep _ d v l p
def R1{n:Nat}{e:TypeId}{ds:List D}(h:IH P n e ds):(ML (Nn P e) ds).cells=ds∧(ds.all D.calm1=true->(ML (Nn P e) ds).calm=true):=by
 cases n with
 |zero=>exact h.elim
 |succ n=>
  unfold IH at h;unfold Nn;split at h
  ·rename_i x;rw[x];obtain⟨s,rfl⟩:=h;exact⟨rfl,λ_=>rfl⟩
  ·rename_i x;rw[x];obtain⟨s,rfl⟩:=h;exact⟨rfl,λ_=>rfl⟩
  ·rename_i x;rw[x];obtain⟨s,rfl,_⟩:=h;exact⟨rfl,λ_=>rfl⟩
  ·rename_i w x;rw[x];exact⟨rfl,λk=>by simpa[ML,D.calm]using k⟩
  ·rename_i x;rw[x];obtain⟨nl,xs,rfl,_⟩:=h;exact⟨rfl,λ_=>rfl⟩
  ·exact h.elim
def Sf:∀(n:Nat)(t:TypeId),Lw P n t=true->∀(fuel:Nat)(cs:List Value) x,DataW.trod enc P w base spare held fuel t cs=some x->cs.length=P.cellsOf t∧∃ds,IH P n t ds∧TF w ds cs
 |0,t,hp=>by simp[Lw]at hp
 |n+1,t,hp=>by
  intro fuel cs x h;unfold Lw at hp;unfold IH;split at hp
  ·rename_i ht;simp only[beq_iff_eq]at hp;obtain⟨s,rfl,_⟩:=DataW.trod_string ht h;exact⟨hp.symm,_,⟨s.data.toList,rfl⟩,TF.one rfl rfl (.str _) rfl⟩
  ·rename_i ht;simp only[beq_iff_eq]at hp;obtain⟨b,rfl,_⟩:=DataW.trod_bool ht h;exact⟨hp.symm,_,⟨b,rfl⟩,TF.one rfl rfl (.bool _) rfl⟩
  ·rename_i k ht;simp only[beq_iff_eq]at hp;obtain⟨b,rfl,_,hw⟩:=DataW.trod_int ht h;exact⟨hp.symm,_,⟨b,rfl,hw⟩,TF.one rfl rfl (.int _ _) rfl⟩
  ·rename_i fs ht;simp only[QA]at hp;obtain⟨ys,n',_,_,hl,db,hf⟩:=DataW.trod_struct ht h;rw[←hl]at hp;have:=Po (fuel:=n') (Sf n) fs.toList 0 hp.1 hp.2 (λj f hj=>by
    have ua:fs[j]?=some f:=XR
    have ya:j<fs.size:=(QG.1 ua).1;have nb:ys[j]?=some (ys[j]' O):=Qn O;exact⟨_,(hf j f ua).trans nb⟩)
   obtain⟨_,ds,u,h2⟩:=this;exact⟨hl,ds,u,by simpa using h2⟩
  ·rename_i e ht;simp only[QA,beq_iff_eq]at hp;rcases open_slice ht h with ⟨rfl,_⟩|⟨a,len,cap,m,n',D',Pl,rfl,_,hl,_,hm,_,hi⟩
   ·exact⟨hp.1.symm,_,⟨true,[],rfl,(λ_=>rfl),(λx hx=>by cases hx)⟩,TF.one rfl rfl (.nils []) rfl⟩
   ·have r:len<=m:=by rw[hm];split<;>omega
    have hc:=PA (p:=λi (ds:List D)=>IH P n e ds∧ds.length=P.cellsOf e∧ds.all D.calm1=true∧∀(j:Nat) d,ds[j]?=some d->∃v,w.cell? (a.add (i*P.cellsOf e+j))=some v∧Im w (DM (O5 w)) d v∧v.oneCell'=true) len (λi z=>by
     obtain⟨ha,u,h2⟩:=hi i O;obtain⟨y,ds,h4,h5⟩:=Sf n e hp.2 _ _ _ h2;refine⟨ds,h4,h5.len.trans y,Zq.2 h5.calm,λj d hd=>?_⟩;have hj:j<ds.length:=(QH.1 hd).1;have g:j<ha.length:=by rw[←h5.len];exact hj
     obtain⟨_,_,ga⟩:=World.cells?_some u;obtain⟨r1,r2⟩:=h5.rep j d _ hd (Qn g);refine⟨_,?_,r1,r2⟩;rw[←Go.Deep.add_add,ga j O,Qn g])
    obtain⟨l,xa,o⟩:=hc;have ia:∀j,j<len*P.cellsOf e->∃v,w.cell? (a.add j)=some v∧v.oneCell'=true:=by
     intro j hj;have ja:0<P.cellsOf e:=by
      grind
     have hi:j / P.cellsOf e<l.length:=by rw[xa];exact Nat.div_lt_of_lt_mul (by rw[ZT];exact hj)
     obtain⟨_,q2,_,q4⟩:=o _ _ (Qn hi);have hk:j % P.cellsOf e<(l[j / P.cellsOf e]).length:=by rw[q2];exact Nat.mod_lt _ ja
     obtain⟨v,u,_,y⟩:=q4 _ _ (Qn hk);rw[ZT,Nat.div_add_mod]at u;exact⟨v,u,y⟩
    have ca:∀ds∈l,ds.length=P.cellsOf e∧(ML (Nn P e) ds).cells=ds∧(ML (Nn P e) ds).calm=true:=λds hd=>by
     obtain⟨i,hi,rfl⟩:=Q5 hd;obtain⟨q1,q2,q3,_⟩:=o i _ (Qn hi);exact⟨q2,(R1 q1).1,(R1 q1).2 q3⟩
    refine⟨hp.1.symm,[.slice false [] (l.map (ML (Nn P e)))],⟨false,_,rfl,(λh0=>by cases h0),λx hx=>?_⟩,TF.one rfl rfl ?_ rfl⟩
    ·obtain⟨ds,hd,rfl⟩:=QB.1 hx;obtain⟨i,hi,rfl⟩:=Q5 hd;exact⟨_,rfl,(o i _ (Qn hi)).1⟩
    ·refine .slice [] _ a len cap (P.cellsOf e) (λj=>(w.cell? (a.add j)).getD undef) (by simp[xa]) hl (λd hd=>?_) (λj hj=>?_) (λj hj=>?_) (λj d hd=>?_) (λh0=>?_) (λh=>absurd rfl h) (λd hd=>?_)
     ·grind
     ·grind
     ·grind
     ·obtain⟨i,k,ds,e1,e2,rfl⟩:=UQ (c:=P.cellsOf e) l j d (λds q=>⟨(ca ds q).1,(ca ds q).2.1⟩) hd;obtain⟨_,_,_,q4⟩:=o i ds e1;obtain⟨v,u,h2,_⟩:=q4 k d e2;simp only[u,QD];exact h2
     ·obtain⟨v,hv,_⟩:=ia (len*P.cellsOf e-1) O;have:=aHX hv;rw[H7,EO]at this;show a.off+len*P.cellsOf e<=O5 w a.block;omega
     ·obtain⟨ds,q,rfl⟩:=QB.1 hd;exact(ca ds q).2.2
  ·cases hp
def agg_fit{n:Nat}{r:Reach}{b:Nat}{t:TypeId}{e:Array Field}{v:Value}{d:DataW H}{p:List MemPlace}(i:P.underlying t=some (.struct e))(g:Lw P n t=true)(hv:Value.okWide P w r b t v)(h:DataW.Trod enc P w base spare held t v d p):
  ∃ds,IH P n t ds∧Im w (DM (O5 w)) (.agg ds) v∧(D.agg ds).un= .agg ds∧(D.agg ds).calm=true:=by
 obtain⟨cs,rfl,pa⟩:=okWide_struct i hv;obtain⟨fuel,k⟩:=h;obtain⟨_,ds,u,q⟩:=Sf n t g _ _ _ k;have z:ds.length=cs.toList.length:=q.len;refine⟨ds,u,.agg ds cs.toList z.symm (λv hv=>?_) (λj d v l hv=>(q.rep j d v l hv).1),?_,?_⟩
 ·obtain⟨j,y,rfl⟩:=Q5 hv;exact(q.rep j _ _ (Qn O) (Qn y)).2
 ·have:=q.un;show D.agg _=_
  first|exact congrArg D.agg this|rfl
 ·exact Zq.2 q.calm
end
end Go.Vd
namespace Go.Vd
open Go.Proofs Go.RowKit
section
variable{P:Program}{n:Nat}{t:TypeId}{ds:List D}
def IH.str(m:P.underlying t=some .string)(h:IH P (n+1) t ds):∃s,ds=[.str s]:=XO
def IH.bool(m:P.underlying t=some .bool)(h:IH P (n+1) t ds):∃b,ds=[.bool b]:=XO
def IH.int{k:IntKind}(m:P.underlying t=some (.int k))(h:IH P (n+1) t ds):∃x,ds=[.int k x]∧(Lit.int k x).wf=true:=XO
def IH.struct{e:Array Field}(m:P.underlying t=some (.struct e))(h:IH P (n+1) t ds):aJ4 (IH P n) (e.toList.map (·.type)) ds:=XO
def IH.slice{e:TypeId}(m:P.underlying t=some (.slice e))(h:IH P (n+1) t ds):∃nl xs,ds=[.slice nl [] xs]∧(nl=true->xs=[])∧∀x∈xs,∃cs,x=ML (Nn P e) cs∧IH P n e cs:=XO
end
def all_map{α:Type}{f:α->D}{p:α->Prop}:∀{xs:List D},(∀x∈xs,∃y,x=f y∧p y)->∃l:List α,xs=l.map f∧∀y∈l,p y
 |[],_=>⟨[],rfl,λy d=>by cases d⟩
 |x::r,h=>by
  obtain⟨y,rfl,g⟩:=h x (QJ ..);obtain⟨l,rfl,w⟩:=all_map (f:=f) (p:=p) (xs:=r) (λz hz=>h z (Q1 _ hz));exact⟨y::l,rfl,λz hz=>by
   rcases QE.1 hz with rfl|hz
   ·exact g
   ·exact w z hz⟩
def aK5{x:Int}(h:(Lit.int .u8 x).wf=true):0<=x∧x<256:=by
 simp only[Lit.wf,QA,decide_eq_true_eq]at h;have u:=h.1;have q:=h.2;simp[IntKind.min,IntKind.max,IntKind.bits,IntKind.signed]at u q;omega
section
variable{n:Nat}{ds:List D}
def US(h:IH Qs (n+3) 45 ds):∃nl l,ds=[.slice nl [] (Aj l)]∧(nl=true->l=[])∧Eh l:=by
 obtain⟨nl,xs,rfl,c,o⟩:=IH.slice underlying45 h;obtain⟨l,rfl,w⟩:=all_map (f:=iM) (p:=λr=>0<=r.2∧r.2<256) (xs:=xs) (λx v=>by
  obtain⟨cs,rfl,k⟩:=o x v;rw[show Nn Qs 191=true by kernel_rfl];have k:=IH.struct underlying191 k;obtain⟨a,b,rfl,y,q,m,rfl,g,rfl⟩:=k;obtain⟨s,rfl⟩:=IH.str underlying9 y;obtain⟨x,rfl,d⟩:=IH.int underlying5 g;exact⟨(s,x),rfl,aK5 d⟩)
 exact⟨nl,l,rfl,λe=>by simpa using c e,w⟩
def lO(h:IH Qs (n+4) 40 ds):∃nl l,ds=[.slice nl [] (Ar l)]:=by
 obtain⟨nl,xs,rfl,r,o⟩:=IH.slice underlying40 h;obtain⟨l,rfl,w⟩:=all_map (f:=I0) (p:=λ_=>True) (xs:=xs) (λx v=>by
  obtain⟨cs,rfl,k⟩:=o x v;rw[show Nn Qs 118=true by kernel_rfl];have k:=IH.struct underlying118 k;obtain⟨a,b,rfl,f1,q,m,rfl,f2,rfl⟩:=k;obtain⟨s,rfl⟩:=IH.str underlying9 f1;have g:=IH.struct underlying116 f2;obtain⟨y,u,rfl,z,d,e,rfl,i,rfl⟩:=g;obtain⟨x,rfl,_⟩:=IH.int underlying3 z;obtain⟨c,rfl⟩:=IH.bool underlying4 i;exact⟨(s,x,c),rfl,trivial⟩)
 exact⟨nl,l,rfl⟩
def lN(h:IH Qs (n+6) 41 ds):∃nl l,ds=[.slice nl [] (Ay l)]∧∀k∈l,jQ k:=by
 obtain⟨nl,xs,rfl,r,o⟩:=IH.slice underlying41 h;obtain⟨l,rfl,w⟩:=all_map (f:=I2) (p:=jQ) (xs:=xs) (λx v=>by
  obtain⟨cs,rfl,e⟩:=o x v;rw[show Nn Qs 134=true by kernel_rfl];have e:=IH.struct underlying134 e;obtain⟨a,b,rfl,y,i,m,rfl,g,z,j,rfl,c,rfl⟩:=e;obtain⟨s,rfl⟩:=IH.str underlying9 y;obtain⟨d,rfl⟩:=IH.str underlying9 g;obtain⟨nr,t,rfl,u,q⟩:=US c;exact⟨(s,d,nr,t),rfl,u,q⟩)
 exact⟨nl,l,rfl,w⟩
def aC3(h:IH Qs (n+2) 44 ds):∃nl l,ds=[.slice nl [] (AE l)]:=by
 obtain⟨nl,xs,rfl,r,o⟩:=IH.slice underlying44 h;obtain⟨l,rfl,w⟩:=all_map (f:=λx=>D.int .i64 x) (p:=λ_=>True) (xs:=xs) (λx v=>by
  obtain⟨cs,rfl,k⟩:=o x v;rw[show Nn Qs 3=false by kernel_rfl];obtain⟨x,rfl,_⟩:=IH.int underlying3 k;exact⟨x,rfl,trivial⟩)
 exact⟨nl,l,rfl⟩
def fit_sight(h:IH Qs 8 43 ds):∃v:Vw,ds=Iq v∧∀k∈v.ks,jQ k:=by
 have h:=IH.struct underlying43 h;obtain⟨t,o,rfl,y,q,d,rfl,g,p,j,rfl,c,l,f,rfl,b,z,n,rfl,e,rfl⟩:=h;obtain⟨u,rfl⟩:=IH.bool underlying4 y;obtain⟨r,rfl,_⟩:=IH.int underlying3 g;obtain⟨i,rfl⟩:=IH.str underlying9 c;obtain⟨a,s,rfl⟩:=lO b;obtain⟨n5,w,rfl,m⟩:=lN e;exact⟨⟨u,r,i,a,s,n5,w⟩,rfl,m⟩
end
section
variable{n:Nat}{ds:List D}
def wV(h:IH Qs (n+3) 22 ds):∃(nl:Bool)(l:List (Bs×Bs×Bool)),ds=[.slice nl [] (l.map itD)]:=by
 obtain⟨nl,xs,rfl,r,o⟩:=IH.slice underlying22 h;obtain⟨l,rfl,w⟩:=all_map (f:=itD) (p:=λ_=>True) (xs:=xs) (λx v=>by
  obtain⟨cs,rfl,k⟩:=o x v;rw[show Nn Qs 38=true by kernel_rfl];have k:=IH.struct underlying38 k;obtain⟨a,b,rfl,y,q,m,rfl,g,z,i,rfl,j,rfl⟩:=k;obtain⟨s,rfl⟩:=IH.str underlying9 y;obtain⟨d,rfl⟩:=IH.str underlying9 g;obtain⟨c,rfl⟩:=IH.bool underlying4 j;exact⟨(s,d,c),rfl,trivial⟩)
 exact⟨nl,l,rfl⟩
def aC2(h:IH Qs (n+2) 28 ds):∃nl l,ds=[.slice nl [] (An l)]∧(nl=true->l=[]):=by
 obtain⟨nl,xs,rfl,r,o⟩:=IH.slice underlying28 h;obtain⟨l,rfl,w⟩:=all_map (f:=D.str) (p:=λ_=>True) (xs:=xs) (λx v=>by
  obtain⟨cs,rfl,k⟩:=o x v;rw[show Nn Qs 9=false by kernel_rfl];obtain⟨s,rfl⟩:=IH.str underlying9 k;exact⟨s,rfl,trivial⟩)
 exact⟨nl,l,rfl,λe=>by simpa using r e⟩
def wU(h:IH Qs (n+5) 24 ds):∃(nl:Bool)(l:List (Bs×Bool×List Bs)),ds=[.slice nl [] (l.map ltD)]∧∀x∈l,x.2.1=true->x.2.2=[]:=by
 obtain⟨nl,xs,rfl,r,o⟩:=IH.slice underlying24 h;obtain⟨l,rfl,w⟩:=all_map (f:=ltD) (p:=λx=>x.2.1=true->x.2.2=[]) (xs:=xs) (λx v=>by
  obtain⟨cs,rfl,k⟩:=o x v;rw[show Nn Qs 109=true by kernel_rfl];have k:=IH.struct underlying109 k;obtain⟨a,b,rfl,y,i,m,rfl,g,rfl⟩:=k;obtain⟨s,rfl⟩:=IH.str underlying9 y;obtain⟨c,l2,rfl,q⟩:=aC2 g;exact⟨(s,c,l2),rfl,q⟩)
 exact⟨nl,l,rfl,w⟩
def fit_known(h:IH Qs 8 26 ds):∃d:Dk,ds=IW d∧∀x∈d.lss,x.2.1=true->x.2.2=[]:=by
 have h:=IH.struct underlying26 h;obtain⟨t,o,rfl,y,i,m,rfl,g,rfl⟩:=h;obtain⟨n1,p,rfl⟩:=wV y;obtain⟨n2,l2,rfl,q⟩:=wU g;exact⟨⟨n1,p,n2,l2⟩,rfl,q⟩
end
def fit_askD{ds:List D}(h:IH Qs 8 47 ds):∃a:Ak,ds=It a∧Eh a.rs∧0<=a.op∧a.op<256∧(a.nlr=true->a.rs=[]):=by
 have h:=IH.struct underlying47 h;obtain⟨t,o,rfl,y,q,m,rfl,f2,a3,x,rfl,n,a4,b4,rfl,f4,a5,b5,rfl,f5,a6,b6,rfl,f6,a7,b7,rfl,f7,a8,b8,rfl,f8,a9,b9,rfl,f9,j,l,rfl,e,f,k,rfl,d,rfl⟩:=h;obtain⟨u,rfl,v⟩:=IH.int underlying5 y;obtain⟨r,rfl⟩:=IH.str underlying9 f2;obtain⟨w,rfl⟩:=IH.str underlying9 n;obtain⟨s,rfl⟩:=IH.str underlying9 f4;obtain⟨x5,rfl,_⟩:=IH.int underlying3 f5;obtain⟨x6,rfl,_⟩:=IH.int underlying3 f6;obtain⟨x7,rfl⟩:=IH.bool underlying4 f7;obtain⟨n8,x8,rfl⟩:=aC3 f8;obtain⟨x9,rfl⟩:=IH.str underlying9 f9;obtain⟨c,g,rfl,b,la⟩:=US e;obtain⟨i,rfl⟩:=IH.str underlying9 d;obtain⟨z,p⟩:=aK5 v;exact⟨⟨u,r,w,s,x5,x6,x7,n8,x8,x9,c,g,i⟩,rfl,la,z,p,b⟩
def decides_law(ok181:Kq TL 181){w:World}{v0 v1 v2:Value}(r:∃v:Vw,(∀k∈v.ks,jQ k)∧Im w (DM (O5 w)) (.agg (Iq v)) v0)(u:∃a:Ak,Eh a.rs∧0<=a.op∧a.op<256∧(a.nlr=true->a.rs=[])∧Im w (DM (O5 w)) (.agg (It a)) v1)(q:∃d:Dk,(∀x∈d.lss,x.2.1=true->x.2.2=[])∧Im w (DM (O5 w)) (.agg (IW d)) v2):
  Calls Qs 6 #[v0,v1,v2] w λe o=>e= .returned (.bool true)∧Below w.heap.size w o:=by
 obtain⟨v,t,z⟩:=r;obtain⟨a,n,ho,c,f,s⟩:=u;obtain⟨d,l,h⟩:=q;refine aA9 (ko6 ok181) (G:=O5 w) (λb i=>aEe w b i) (ds:=[.agg (Iq v),.agg (It a),.agg (IW d)]) (vs:=[v0,v1,v2]) rfl (λj d x l p=>?_) rfl rfl (aZm v a d t ho c n f l)
 match j with
 |0=>simp only[Qx,Q0]at l p;subst l p;exact z
 |1=>simp only[Za,Qx,Q0]at l p;subst l p;exact s
 |2=>simp only[Za,Qx,Q0]at l p;subst l p;exact h
 |j+3=>simp at l
end Go.Vd
namespace Go.Vd
open Go.Proofs Go.RowKit Go.Sort Go.Shelf
def Bw.grownN{w m z:World}{a b c d:Value}{T:TypeId}(h:Bw w m a b c d T)(n:m.grownBy z none):Bw w z a b c d T:=by
 have o:=h.2.2;refine⟨?_,h.2.1.grown n O (λj y=>by cases y),by have:=n.size;omega⟩;rw[n.block _ o U];exact h.1
def GO{w q m:World}{a b c d y z c' i:Value}{T f:TypeId}(h:Bw w m a b c d T)(k:Bw q m y z c' i f):m.cell? ⟨w.heap.size,0,none⟩=some a∧m.cell? ⟨w.heap.size,1,none⟩=some b∧m.cell? ⟨w.heap.size,2,none⟩=some c∧m.cell? ⟨w.heap.size,3,none⟩=some d∧Bw w m a b c d T∧Bw q m y z c' i f:=⟨h.cells.1,h.cells.2.1,h.cells.2.2.1,h.cells.2.2.2,h,k⟩
def Bw.below{w m:World}{a b c d:Value}{T:TypeId}(h:Bw w m a b c d T):Below w.heap.size w m:=h.2.1
def cR(x:Rw):List Value:=[.int .i64 x.1,.bool x.2.1,.bool x.2.2]
def EA:List Rw->List Value
 |[]=>[]
 |x::r=>cR x++EA r
def Hj:∀l:List Rw,(EA l).length=l.length*3
 |[]=>rfl
 |x::r=>by rw[EA,Qz,Hj r,Qw];simp[cR];omega
def Sa:∀{l:List Rw} {j:Nat} {u:Value},(EA l)[j]?=some u->∃x,l[j / 3]?=some x∧(cR x)[j % 3]?=some u
 |x::r,j,u,h=>by
  rw[EA]at h;by_cases k:j<3
  ·grind [cR]
  ·rw[QF (by simp[cR];omega)]at h;obtain⟨y,q,f⟩:=Sa (l:=r) (j:=j-3) (by simpa[cR]using h);refine⟨y,?_,?_⟩
   ·grind
   ·grind
def aA8{w m:World}{l:List Rw}{a:Addr}(h:TG w l (some a))(i:Below w.heap.size w m):∀j u,(EA l)[j]?=some u->m.cell? (a.add j)=some u:=λj u y=>by
 obtain⟨x,q,f⟩:=Sa y;obtain⟨b,e,n,s,c2⟩:=h _ x q;cases e;refine Ed i ?_;have z:j % 3=0∨j % 3=1∨j % 3=2:=O
 have k:j=j / 3*3+j % 3:=O
 rcases z with e|e|e
 ·rw[e]at f k;rw[k];cases f;exact n
 ·rw[e]at f k;rw[k];cases f;exact s
 ·rw[e]at f k;rw[k];cases f;exact c2
def aAn{p z:World}{d:Obj}{cs:Array Value}{T:TypeId}(n:(((p.alloc d).alloc (.cells cs T)).drew).grownBy z none):z.heap[p.heap.size+1]?=some (.cells cs T (0,0)):=by
 have j:(p.alloc d).heap.size=p.heap.size+1:=QT _;rw[n.block _ (by show _<(((p.alloc d).alloc (.cells cs T))).heap.size;rw[show(((p.alloc d).alloc (.cells cs T))).heap.size=(p.alloc d).heap.size+1 from QT _];omega) U];have:=heap_alloc_new (p.alloc d) (.cells cs T);rw[j]at this;exact this
def aAo{p z:World}{k:Obj}{cs:Array Value}{T:TypeId}(n:(((p.alloc (.cells cs T)).alloc k).drew).grownBy z none):z.heap[p.heap.size]?=some (.cells cs T (0,0)):=by
 have j:(p.alloc (.cells cs T)).heap.size=p.heap.size+1:=QT _;rw[n.block _ (by show _<(((p.alloc (.cells cs T)).alloc k)).heap.size;rw[show(((p.alloc (.cells cs T)).alloc k)).heap.size=(p.alloc (.cells cs T)).heap.size+1 from QT _];omega) U];have u:=heap_alloc_new p (.cells cs T);have i:Below (p.alloc (.cells cs T)).heap.size (p.alloc (.cells cs T)) ((p.alloc (.cells cs T)).alloc k):=(Below.refl _ _).alloc (Qt _) _;exact(i.block _ O).trans u
def M0{w:World}{b:Nat}{z0 p x f:Value}{T:TypeId}(h:w.heap[b]?=some (.cells #[z0,p,x,f] T (0,0))):(w.cell? ⟨b,0,none⟩=some z0∧w.cell? ⟨b,1,none⟩=some p∧w.cell? ⟨b,2,none⟩=some x∧w.cell? ⟨b,3,none⟩=some f)∧(w.frozen? ⟨b,0,none⟩=false∧w.frozen? ⟨b,1,none⟩=false∧w.frozen? ⟨b,2,none⟩=false∧w.frozen? ⟨b,3,none⟩=false):=by
 refine⟨?_,?_⟩<;>simp[World.cell?,World.frozen?,h]
def Bw.set4{w m:World}{a b c d u0 u1 u2 u3:Value}{T:TypeId}{n:Nat}(h:Bw w m a b c d T)(i:w.heap.size<n):Bw w ((((m.setCell ⟨n,0,none⟩ u0).setCell ⟨n,1,none⟩ u1).setCell ⟨n,2,none⟩ u2).setCell ⟨n,3,none⟩ u3) a b c d T:=(((h.set i).set i).set i).set i
def aCI:(Tryz.prog.info? 164).map (λi=>(i.zero,i.size,i.bytes))=some (some (.agg #[.int .i64 0,.bool false,.bool false]),3,16):=Xa
def aTZ:∀(xs:List Rw)(k:Nat)(y:Rw),k<xs.length->(((EA xs).set (k*3) (.int .i64 y.1)).set (k*3+1) (.bool y.2.1)).set (k*3+2) (.bool y.2.2)=EA (xs.set k y)
 |x::r,0,y,_=>rfl
 |x::r,k+1,y,h=>by
  have:=aTZ r k y Xl;rw[show(k+1)*3=k*3+1+1+1 by omega];simp only[EA,cR,List.cons_append,ZM,List.set_cons_succ,this]
def OG{w:World}{b:Nat}{z0 p x f u0 u1 u2 u3:Value}{T:TypeId}(h:w.heap[b]?=some (.cells #[z0,p,x,f] T (0,0))):((((w.setCell ⟨b,0,none⟩ u0).setCell ⟨b,1,none⟩ u1).setCell ⟨b,2,none⟩ u2).setCell ⟨b,3,none⟩ u3).heap[b]?=some (.cells #[u0,u1,u2,u3] T (0,0)):=by
 have u:=heap_setCell_same w b 0 _ _ u0 h;have q:=heap_setCell_same _ b 1 _ _ u1 u;have o:=heap_setCell_same _ b 2 _ _ u2 q;have n:=heap_setCell_same _ b 3 _ _ u3 o;simpa using n
def FR{w:World}{B e size n:Nat}{v u:Value}{xs:List Value}{x:Addr}(h:w.ownsRow B e size v n xs)(c:some x.block≠v.ownBlock):(w.setCell x u).ownsRow B e size v n xs:=by
 refine⟨h.1,?_⟩;rcases h.2 with h|⟨g,cap,cur,rfl,q,f,o⟩
 ·exact .inl h
 ·refine .inr ⟨g,cap,cur,rfl,q,?_,o⟩;rw[heap_setCell_other _ _ _ _ (λe=>c (congrArg some (show x.block=g from e.symm)))];exact f
def NT{w:World}{B e size n b:Nat}{v u0 u1 u2 u3:Value}{xs:List Value}(h:w.ownsRow B e size v n xs)(c:some b≠v.ownBlock):((((w.setCell ⟨b,0,none⟩ u0).setCell ⟨b,1,none⟩ u1).setCell ⟨b,2,none⟩ u2).setCell ⟨b,3,none⟩ u3).ownsRow B e size v n xs:=FR (FR (FR (FR h c) c) c) c
structure I5 (w W1:World) (s:Sc) (a:Addr) (c n9 g cap:Nat) (wx:World) (xs:List Rw) (v:Value) (ys:List Int):Prop where
 t3:Bw w wx (.int .i64 s.mx) (.bool s.cas) (.int .i64 s.la) (.slice (some a) s.rs.length c) 159
 t6:Bw W1 wx (.int .i64 0) (.bool false) (.int .i64 0) (.slice none 0 0) 159
 t9:wx.heap[n9]?=some (.cells #[.int .i64 s.mx,.bool s.cas,.int .i64 s.la,.slice (some ⟨g,0,none⟩) s.rs.length cap] 159 (0,0))
 row:wx.ownsRow (W1.heap.size+1) 164 3 (.slice (some ⟨g,0,none⟩) s.rs.length cap) s.rs.length (EA xs)
 out:wx.ownsRow (W1.heap.size+1) 3 1 v ys.length (ys.map (Value.int .i64))
 nil:v= .slice none 0 0↔ys=[]
def I5.g{w q:World}{s:Sc}{a:Addr}{c b g cap:Nat}{m:World}{xs:List Rw}{v:Value}{ys:List Int}(h:I5 w q s a c b g cap m xs v ys):q.heap.size+1<=g∧g<m.heap.size:=h.row.lt g rfl
def I5.later{w q:World}{s:Sc}{a:Addr}{c b g cap:Nat}{m z:World}{xs:List Rw}{v:Value}{ys:List Int}(h:I5 w q s a c b g cap m xs v ys)(i:Below m.heap.size m z):I5 w q s a c b g cap z xs v ys:=
 ⟨h.t3.later i,h.t6.later i,(i.block _ (QG.1 h.t9).1).trans h.t9,h.row.kept (CN i (Qt _) none i.size) (Si _),h.out.kept (CN i (Qt _) none i.size) (Si _),h.nil⟩
def Bw.grow'{w m z:World}{a b c d:Value}{T:TypeId}{r:Option Nat}(h:Bw w m a b c d T)(n:m.grownBy z r)(q:∀j,r=some j->w.heap.size<j):Bw w z a b c d T:=by
 have o:=h.2.2;refine⟨?_,h.2.1.grown n O (λj y=>ZU (q j y)),by have:=n.size;omega⟩;rw[n.block _ o (λe=>by have:=q _ e.symm;omega)];exact h.1
def I5.grown{w q:World}{s:Sc}{a:Addr}{c b g cap:Nat}{m o:World}{xs:List Rw}{v v2:Value}{ys zs:List Int}(p:w.heap.size<q.heap.size)(h:I5 w q s a c b g cap m xs v ys)(n:m.grownBy o v.ownBlock)(u:o.ownsRow (q.heap.size+1) 3 1 v2 zs.length (zs.map (Value.int .i64)))(f:v2= .slice none 0 0↔zs=[]):I5 w q s a c b g cap o xs v2 zs:=by
 have z:=h.out.lt;refine⟨h.t3.grow' n λj y=>by have:=z j y;omega,h.t6.grow' n λj y=>by have:=z j y;omega,?_,h.row.kept n (.inr λe=>?_),u,f⟩
 ·rw[n.block _ (QG.1 h.t9).1 (DO h.out h.t9 Z)];exact h.t9
 ·rcases h.row.2 with ⟨r,_⟩|⟨l,d,cur,t,_,x,_⟩
  ·cases r
  ·cases t;exact DO h.out x Z e
def I5.ng{w q:World}{s:Sc}{a:Addr}{c b g cap:Nat}{m:World}{xs:List Rw}{v:Value}{ys:List Int}(h:I5 w q s a c b g cap m xs v ys):b≠g∧some g≠v.ownBlock:=by
 refine⟨λe=>DO h.row h.t9 Z (by rw[e];rfl),?_⟩;rcases h.row.2 with ⟨r,_⟩|⟨l,d,cur,t,_,f,_⟩
 ·cases r
 ·cases t;exact DO h.out f Z
def I5.turn{w q:World}{s:Sc}{a:Addr}{c b g cap:Nat}{m:World}{xs:List Rw}{v:Value}{ys:List Int}(p:w.heap.size<q.heap.size)(h:I5 w q s a c b g cap m xs v ys){k:Nat}(j:k<xs.length)(y:Rw):I5 w q s a c b g cap (((m.setCell ⟨g,k*3,none⟩ (.int .i64 y.1)).setCell ⟨g,k*3+1,none⟩ (.bool y.2.1)).setCell ⟨g,k*3+2,none⟩ (.bool y.2.2)) (xs.set k y) v ys:=by
 obtain⟨d,t⟩:=h.g;obtain⟨u,na⟩:=h.ng;refine⟨((h.t3.set Xb).set Xb).set Xb,((h.t6.set Xb).set Xb).set Xb,?_,?_,FR (FR (FR h.out na) na) na,h.nil⟩
 ·rw[heap_setCell_other _ _ _ _ u,heap_setCell_other _ _ _ _ u,heap_setCell_other _ _ _ _ u];exact h.t9
 ·rw[←aTZ xs k y j];exact(((h.row.stored _ _).1.stored _ _).1.stored _ _).1
def aHA:(Tryz.prog.info? 3).map (λi=>(i.zero,i.size,i.bytes))=some (some (.int .i64 0),1,8):=Xa
def oX(ns:List Int)(K n:Nat):∀(l:List Rw)(i j:Nat)(x:Rw),l[j]?=some x->(Ei ns K n i l)[j]?=some (if Hq ns n (i+j) x=true then chR K x else x)
 |y::r,i,0,x,h=>XA
 |y::r,i,j+1,x,h=>by
  have:=oX ns K n r (i+1) j x Xl;rw[show i+1+j=i+(j+1)by omega]at this;simpa[Ei]using this
def qT{T l:List Rw}{j:Nat}{y:Rw}(p:T[j]?=some y)(w:j<l.length):(T.take j++l.drop j).set j y=T.take (j+1)++l.drop (j+1):=by
 have k:=(QH.1 p).1;have d:(T.take j).length=j:=Xg
 rw[ZH,p,Q3 w,List.set_append_right _ _ O,d,ZF,List.set_cons_zero];show _=(T.take j++[y])++_;rw[Q_];rfl
def dL{T l:List Rw}{j:Nat}{y:Rw}(p:T[j]?=some y)(w:l[j]?=some y):T.take j++l.drop j=T.take (j+1)++l.drop (j+1):=by
 rw[ZH,p,ST w];simp
def Sh{w:World}{B a e size n:Nat}{v:Value}{xs:List Value}(h:w.ownsRow B e size v n xs)(i:a<=B):w.ownsRow a e size v n xs:=by
 refine⟨h.1,?_⟩;rcases h.2 with h|⟨g,cap,cur,r,u,q⟩
 ·exact .inl h
 ·exact .inr ⟨g,cap,cur,r,Qy i u,q⟩
def aRH(w:World)(s:Sc)(k:Nat)(ns:List Int)(e:Ending)(n:World):Prop:=∃g cap v ys,e= .returned (.tuple #[.agg #[.int .i64 s.mx,.bool s.cas,.int .i64 s.la,.slice (some ⟨g,0,none⟩) s.rs.length cap],v,.int .i64 0])∧Below w.heap.size w n∧
   n.ownsRow w.heap.size 164 3 (.slice (some ⟨g,0,none⟩) s.rs.length cap) s.rs.length (EA (Ei ns (250+k) s.rs.length 0 s.rs))∧n.ownsRow w.heap.size 3 1 v ys.length (ys.map (Value.int .i64))∧(v= .slice none 0 0↔ys=[])∧ys=(if k=2 then CV ns s.rs.length 0 s.rs else [])∧some g≠v.ownBlock
theorem aZI (w:World) (s:Sc) (k:Nat) (hk:k≤2) (ns:List Int) (vn:Value) (a:Addr) (c:Nat) (hl:s.rs.length≤6) (ma:0<s.rs.length) (ga:TG w s.rs (some a))
  (qa:∀wx,Calls Qs 183 #[] wx fun e w'=>e= .returned (.agg #[.int .i64 6,.bool false])∧Below wx.heap.size wx w')
  (ba:∀wx,Below w.heap.size w wx→Calls Qs 182 #[.agg #[.int .i64 s.mx,.bool s.cas,.int .i64 s.la,.slice (some a) s.rs.length c],.agg #[.int .i64 6,.bool false]] wx fun e w'=>e= .returned (.bool true)∧Below wx.heap.size wx w')
  (q:∀(wx:World) (j:Nat) (x:Rw),Below w.heap.size w wx→s.rs[j]?=some x→Calls Qs 278 #[.agg #[.int .i64 s.mx,.bool s.cas,.int .i64 s.la,.slice (some a) s.rs.length c],.int .i64 (j:Int),vn] wx fun e w'=>e= .returned (.bool (Ts ns s.rs.length j x))∧Below wx.heap.size wx w'):
  Calls Qs 181 #[.agg #[.int .i64 s.mx,.bool s.cas,.int .i64 s.la,.slice (some a) s.rs.length c],.int .i64 k,vn] w (aRH w s k ns):=by
 obtain⟨j0,da,oa⟩:=Zc.1 aHA
 simp only[ZD]at oa
 obtain⟨nb,pb,ob⟩:=oa
 have lb:Aside (∀(wx:World) (j:Nat) (x:Rw),Below w.heap.size w wx→s.rs[j]?=some x→Calls Qs 278 #[.agg #[.int .i64 s.mx,.bool s.cas,.int .i64 s.la,.slice (some a) s.rs.length c],.int .i64 (j:Int),vn] wx fun e w'=>e= .returned (.bool (Ts ns s.rs.length j x))∧Below wx.heap.size wx w'):=q
 clear q
 obtain⟨i0,hi,hx⟩:=Zc.1 aCI
 simp only[ZD]at hx
 obtain⟨xa,bb,ya⟩:=hx
 have l:∀u∈EA s.rs,u.oneCell'=true:=fun u hu=>by
  obtain⟨j,hj⟩:=List.getElem?_of_mem hu
  obtain⟨x,_,h2⟩:=Sa hj
  have:=List.mem_of_getElem? h2
  simp only[cR,QE,ZJ,or_false]at this
  rcases this with rfl|rfl|rfl<;>rfl
 have kb:True:=trivial
 go_enter func181,ntmps181
 go_wp2_with fail
 have B0:Bw w (w.alloc (Obj.cells #[Value.int IntKind.i64 s.mx,Value.bool s.cas,Value.int IntKind.i64 s.la,Value.slice (some a) s.rs.length c] 159)) _ _ _ _ _:=Bw.start
 have C0:Bw (w.alloc (Obj.cells #[Value.int IntKind.i64 s.mx,Value.bool s.cas,Value.int IntKind.i64 s.la,Value.slice (some a) s.rs.length c] 159)) ((w.alloc (Obj.cells #[Value.int IntKind.i64 s.mx,Value.bool s.cas,Value.int IntKind.i64 s.la,Value.slice (some a) s.rs.length c] 159)).alloc (Obj.cells #[Value.int IntKind.i64 0,Value.bool false,Value.int IntKind.i64 0,Value.slice none 0 0] 159)) _ _ _ _ _:=Bw.start
 replace B0:=B0.alloc (Obj.cells #[Value.int IntKind.i64 0,Value.bool false,Value.int IntKind.i64 0,Value.slice none 0 0] 159)
 generalize zb:w.alloc (Obj.cells #[Value.int IntKind.i64 s.mx,Value.bool s.cas,Value.int IntKind.i64 s.la,Value.slice (some a) s.rs.length c] 159)=W1 at *
 have r:W1.heap.size=w.heap.size+1:=by rw[←zb];exact QT _
 go_region_held3 (fun wx=>wx.cell? ⟨w.heap.size,0,none⟩=some (Value.int IntKind.i64 s.mx)∧wx.cell? ⟨w.heap.size,1,none⟩=some (Value.bool s.cas)∧wx.cell? ⟨w.heap.size,2,none⟩=some (Value.int IntKind.i64 s.la)∧wx.cell? ⟨w.heap.size,3,none⟩=some (Value.slice (some a) s.rs.length c)∧Bw w wx (Value.int IntKind.i64 s.mx) (Value.bool s.cas) (Value.int IntKind.i64 s.la) (Value.slice (some a) s.rs.length c) 159∧Bw W1 wx (Value.int IntKind.i64 0) (Value.bool false) (Value.int IntKind.i64 0) (Value.slice none 0 0) 159) (first|exact GO B0 C0|exact GO B0.drew C0.drew|exact GO (B0.later ra) (C0.later ra)|exact GO (B0.drew.later ra) (C0.drew.later ra)|exact GO ((B0.later ra).later pa) ((C0.later ra).later pa)|exact GO ((B0.drew.later ra).later pa) ((C0.drew.later ra).later pa)) (first|(go_at_call 183;refine(qa _).mono ?_;rintro e w2 ⟨rfl,ra⟩)|(go_at_call 182;refine(ba _ (by first|exact(B0.later ra).below|exact(B0.drew.later ra).below)).mono ?_;rintro e w3 ⟨rfl,pa⟩))
 have B3:Bw w w3 (Value.int IntKind.i64 s.mx) (Value.bool s.cas) (Value.int IntKind.i64 s.la) (Value.slice (some a) s.rs.length c) 159:=by first|exact(B0.later ra).later pa|exact(B0.drew.later ra).later pa
 have C3:Bw W1 w3 (Value.int IntKind.i64 0) (Value.bool false) (Value.int IntKind.i64 0) (Value.slice none 0 0) 159:=by first|exact(C0.later ra).later pa|exact(C0.drew.later ra).later pa
 have sB:=B3.2.2
 have sC:=C3.2.2
 clear ba qa B0 C0
 obtain⟨k0,k1,k2,k3⟩:=B3.cells
 go_wp2_with fail
 go_region_held3 (fun wx=>wx.cell? ⟨w.heap.size,0,none⟩=some (Value.int IntKind.i64 s.mx)∧wx.cell? ⟨w.heap.size,1,none⟩=some (Value.bool s.cas)∧wx.cell? ⟨w.heap.size,2,none⟩=some (Value.int IntKind.i64 s.la)∧wx.cell? ⟨w.heap.size,3,none⟩=some (Value.slice (some a) s.rs.length c)∧Bw w wx (Value.int IntKind.i64 s.mx) (Value.bool s.cas) (Value.int IntKind.i64 s.la) (Value.slice (some a) s.rs.length c) 159∧Bw W1 wx (Value.int IntKind.i64 0) (Value.bool false) (Value.int IntKind.i64 0) (Value.slice none 0 0) 159) (first|with_reducible exact GO B3 C3|with_reducible exact GO B3.drew C3.drew|with_reducible exact GO (B3.alloc _).drew (C3.alloc _).drew|with_reducible exact GO ((B3.alloc _).alloc _).drew ((C3.alloc _).alloc _).drew|with_reducible exact GO B5 C5|with_reducible exact GO (B5.alloc _) (C5.alloc _)|with_reducible exact GO (B5.set4 O) (C5.set4 O)|with_reducible exact GO ((B5.alloc _).set4 O) ((C5.alloc _).set4 O)|(trace_state;fail)) (first|(refine step_append_grows rfl (.tmp 29) (.tmp 31) 157 rfl 164 i0 (.agg #[.int .i64 0,.bool false,.bool false]) 3 16 underlying157 hi xa bb ya rfl Z (some _) 0 0 [] (by simp[Act.eval,Act.put];rfl) Xu rfl (by intro b hb j u hj;cases hj) a s.rs.length c (EA s.rs) (by simp[Act.eval,Act.put]) (Hj _) (aA8 ga (by first|exact(B3.alloc _).drew.below|exact((B3.alloc _).alloc _).drew.below)) l O Xk O ?_;intro v' w' ia d;obtain⟨gr,cap,rfl,ab,za⟩:=ia.form O;first|(have B5:=(B3.alloc _).drew.grownN d;have C5:=(C3.alloc _).drew.grownN d;have tB:=B5.2.2;have tC:=C5.2.2)|(have B5:=((B3.alloc _).alloc _).drew.grownN d;have C5:=((C3.alloc _).alloc _).drew.grownN d;have tB:=B5.2.2;have tC:=C5.2.2;first|(obtain⟨⟨z0,z1,z2,z3⟩,y0,y1,y2,y3⟩:=M0 (aAn (cs:=#[Value.int IntKind.i64 0,Value.bool false,Value.int IntKind.i64 0,Value.slice none 0 0]) (T:=159) d))|(obtain⟨⟨z0,z1,z2,z3⟩,y0,y1,y2,y3⟩:=M0 (aAo (cs:=#[Value.int IntKind.i64 0,Value.bool false,Value.int IntKind.i64 0,Value.slice none 0 0]) (T:=159) d)))))
 all_goals
  have hW:w.heap.size<W1.heap.size:=O
  rename_i p
  have mb:W1.heap.size+1≤w3.heap.size:=sC
  have sa:∀o,(w3.alloc o).heap.size=w3.heap.size+1:=fun o=>QT _
  have wa:∀o o2,((w3.alloc o).alloc o2).heap.size=w3.heap.size+2:=fun o o2=>(QT _).trans (by rw[sa])
  rw[ZG,ZM]at ia
  first
  |(have HT:I5 w W1 s a c (w3.heap.size+1) gr cap ((((w'.setCell ⟨w3.heap.size+1,0,none⟩ (.int .i64 s.mx)).setCell ⟨w3.heap.size+1,1,none⟩ (.bool s.cas)).setCell ⟨w3.heap.size+1,2,none⟩ (.int .i64 s.la)).setCell ⟨w3.heap.size+1,3,none⟩ (.slice (some ⟨gr,0,none⟩) s.rs.length cap)) s.rs (.slice none 0 0) []:=
    ⟨B5.set4 O,C5.set4 O,OG (aAn d),NT (Sh ia YY) (DO ia (aAn d) Z),World.ownsRow_nil _ _ _ _,⟨fun _=>rfl,fun _=>rfl⟩⟩
    clear p ia d ab za B3 C3 B5 C5 sB sC tB tC k0 k1 k2 k3 sa wa mb ra pa
    clear z0 z1 z2 z3 y0 y1 y2 y3
    generalize w3.heap.size+1=n9 at *
    generalize ((((w'.setCell ⟨n9,0,none⟩ (.int .i64 s.mx)).setCell ⟨n9,1,none⟩ (.bool s.cas)).setCell ⟨n9,2,none⟩ (.int .i64 s.la)).setCell ⟨n9,3,none⟩ (.slice (some ⟨gr,0,none⟩) s.rs.length cap))=wq at *)
  |(have HT:I5 w W1 s a c w3.heap.size gr cap ((((w'.setCell ⟨w3.heap.size,0,none⟩ (.int .i64 s.mx)).setCell ⟨w3.heap.size,1,none⟩ (.bool s.cas)).setCell ⟨w3.heap.size,2,none⟩ (.int .i64 s.la)).setCell ⟨w3.heap.size,3,none⟩ (.slice (some ⟨gr,0,none⟩) s.rs.length cap)) s.rs (.slice none 0 0) []:=
    ⟨B5.set4 O,C5.set4 O,OG (aAo d),NT (Sh ia YY) (DO ia (aAo d) Z),World.ownsRow_nil _ _ _ _,⟨fun _=>rfl,fun _=>rfl⟩⟩
    clear p ia d ab za B3 C3 B5 C5 sB sC tB tC k0 k1 k2 k3 sa wa mb ra pa
    clear z0 z1 z2 z3 y0 y1 y2 y3
    generalize w3.heap.size=n9 at *
    generalize ((((w'.setCell ⟨n9,0,none⟩ (.int .i64 s.mx)).setCell ⟨n9,1,none⟩ (.bool s.cas)).setCell ⟨n9,2,none⟩ (.int .i64 s.la)).setCell ⟨n9,3,none⟩ (.slice (some ⟨gr,0,none⟩) s.rs.length cap))=wq at *)
  |(have HT:I5 w W1 s a c w'.heap.size gr cap (w'.alloc (Obj.cells #[.int .i64 s.mx,.bool s.cas,.int .i64 s.la,.slice (some ⟨gr,0,none⟩) s.rs.length cap] 159)) s.rs (.slice none 0 0) []:=
    ⟨B5.alloc _,C5.alloc _,heap_alloc_new _ _,(Sh ia (by show _≤(w3.alloc _).heap.size;rw[sa];omega)).alloc _,World.ownsRow_nil _ _ _ _,⟨fun _=>rfl,fun _=>rfl⟩⟩
    clear p ia d ab za B3 C3 B5 C5 sB sC tB tC k0 k1 k2 k3 sa wa mb ra pa
    generalize w'.heap.size=n9 at *
    generalize (w'.alloc (Obj.cells #[.int .i64 s.mx,.bool s.cas,.int .i64 s.la,.slice (some ⟨gr,0,none⟩) s.rs.length cap] 159))=wq at *)
  have ub:Aside (I5 w W1 s a c n9 gr cap wq s.rs (.slice none 0 0) []):=HT
  obtain⟨k0,k1,k2,k3⟩:=HT.t3.cells
  clear HT
  have eb:Aside (TG w s.rs (some a)):=ga
  clear ga
  go_wp2_with fail
  go_loopg [10,11] s.rs.length (fun gg rb fb wx=>∃(j:Nat) (xs:List Rw) (ys:List Int),j+gg=s.rs.length∧fb= .int .i64 j∧Aside (xs=(Ei ns (250+k) s.rs.length 0 s.rs).take j++s.rs.drop j)∧Aside (ys++(if k=2 then CV ns s.rs.length j (s.rs.drop j)else [])=if k=2 then CV ns s.rs.length 0 s.rs else [])∧ys.length≤j∧Aside (I5 w W1 s a c n9 gr cap wx xs rb ys))
  case atStart=>exact⟨0,s.rs,[],O,rfl,rfl,rfl,Qt _,ub⟩
  case round=>
   obtain⟨j,xs,ys,dc,rfl,Hxs,Hys,db,HQ⟩:=hrel
   clear ub k0 k1 k2 k3
   obtain⟨k0,k1,k2,k3⟩:=HQ.out.t3.cells
   cases gk with
   |zero=>
    have na:¬((j:Int)<(s.rs.length:Int)):=O
    have f9:=(M0 HQ.out.t9).1
    obtain⟨f0,f1,f2,f3⟩:=f9
    obtain⟨⟨e0,e1,e2,e3⟩,y0,y1,y2,y3⟩:=M0 HQ.out.t6.1
    rw[r]at e0 e1 e2 e3 y0 y1 y2 y3
    have wb:n9≠w.heap.size+1:=fun e=>by
     have h1:=HQ.out.t9
     have h2:=HQ.out.t6.1
     rw[r]at h2
     rw[e,h2]at h1
     simp at h1
    have yb:w.heap.size+1≠n9:=fun e=>wb e.symm
    have h6:=HQ.out.t6.1
    rw[r]at h6
    go_wp2_with fail
    obtain⟨⟨s0,s1,s2,s3⟩,_⟩:=M0 (OG (u0:= .int .i64 s.mx) (u1:= .bool s.cas) (u2:= .int .i64 s.la) (u3:= .slice (some ⟨gr,0,none⟩) s.rs.length cap) h6)
    have vb:=DO HQ.out.row h6 Z
    have ha:=DO HQ.out.out h6 Z
    have R9:=NT (u0:= .int .i64 s.mx) (u1:= .bool s.cas) (u2:= .int .i64 s.la) (u3:= .slice (some ⟨gr,0,none⟩) s.rs.length cap) HQ.out.row vb
    have O9:=NT (u0:= .int .i64 s.mx) (u1:= .bool s.cas) (u2:= .int .i64 s.la) (u3:= .slice (some ⟨gr,0,none⟩) s.rs.length cap) HQ.out.out ha
    have ua:s.rs.length=j:=O
    have X9:xs=Ei ns (250+k) s.rs.length 0 s.rs:=by
     have:=Hxs.out
     rw[Zv O,QL,Qu (by rw[Mf];omega)]at this
     exact this
    have Y9:ys=if k=2 then CV ns s.rs.length 0 s.rs else []:=by
     have:=Hys.out
     rw[Zv O]at this
     rw[←this]
     by_cases h:k=2
     ·rw[if_pos h];exact(QL _).symm
     ·rw[if_neg h];exact(QL _).symm
    refine bodyPost_ret (v:= .tuple #[.agg #[.int .i64 s.mx,.bool s.cas,.int .i64 s.la,.slice (some ⟨gr,0,none⟩) s.rs.length cap],u10,.int .i64 0]) (by simp[results,results181,go_sem,s0,s1,s2,s3]) rfl ⟨gr,cap,u10,ys,rfl,(((HQ.out.t3.below.setCell (ZB _) _).setCell (ZB _) _).setCell (ZB _) _).setCell (ZB _) _,?_,Sh O9 O,HQ.out.nil,Y9,HQ.out.ng.2⟩
    rw[←X9]
    exact Sh R9 O
   |succ gk=>
    have na:(j:Int)<(s.rs.length:Int):=O
    have aa:j<s.rs.length:=O
    obtain⟨a',ea,va,ta,cb⟩:=eb.out.load HQ.out.t3.below (Qn aa)
    cases ea
    have Hx:Aside (s.rs[j]?=some s.rs[j]):=Qn aa
    generalize s.rs[j]=x at va ta cb Hx
    obtain⟨xn,xg,xd⟩:=x
    simp only at va ta cb
    have kA:∀o,(wr.alloc o).cell? ⟨w.heap.size,0,none⟩=some (.int .i64 s.mx):=fun o=>(HQ.out.t3.alloc o).cells.1
    have kB:∀o,(wr.alloc o).cell? ⟨w.heap.size,1,none⟩=some (.bool s.cas):=fun o=>(HQ.out.t3.alloc o).cells.2.1
    have kC:∀o,(wr.alloc o).cell? ⟨w.heap.size,2,none⟩=some (.int .i64 s.la):=fun o=>(HQ.out.t3.alloc o).cells.2.2.1
    have kD:∀o,(wr.alloc o).cell? ⟨w.heap.size,3,none⟩=some (.slice (some a) s.rs.length c):=fun o=>(HQ.out.t3.alloc o).cells.2.2.2
    have n:∀o,Calls Qs 278 #[.agg #[.int .i64 s.mx,.bool s.cas,.int .i64 s.la,.slice (some a) s.rs.length c],.int .i64 (j:Int),vn] (wr.alloc o) fun e w'=>e= .returned (.bool (Ts ns s.rs.length j (xn,xg,xd)))∧Below (wr.alloc o).heap.size (wr.alloc o) w':=fun o=>lb.out _ _ _ (HQ.out.t3.alloc o).below Hx.out
    have jb:(Ei ns (250+k) s.rs.length 0 s.rs)[j]?=some (if Hq ns s.rs.length j (xn,xg,xd)=true then chR (250+k) (xn,xg,xd)else(xn,xg,xd)):=by
     have:=oX ns (250+k) s.rs.length s.rs 0 j _ Hx.out
     rwa [ZG]at this
    have hO:CV ns s.rs.length j (s.rs.drop j)=if Hq ns s.rs.length j (xn,xg,xd)=true then xn::CV ns s.rs.length (j+1) (s.rs.drop (j+1))else CV ns s.rs.length (j+1) (s.rs.drop (j+1)):=by rw[ST Hx.out];rfl
    have ka:Hq ns s.rs.length j (xn,xg,xd)=(Ts ns s.rs.length j (xn,xg,xd)&&!xd):=rfl
    rw[ka]at jb hO
    generalize Ts ns s.rs.length j (xn,xg,xd)=m at *
    have t:Aside ((Ei ns (250+k) s.rs.length 0 s.rs)[j]?=some (if(m&&!xd)=true then chR (250+k) (xn,xg,xd)else(xn,xg,xd))):=jb
    have HO:Aside (CV ns s.rs.length j (s.rs.drop j)=if(m&&!xd)=true then xn::CV ns s.rs.length (j+1) (s.rs.drop (j+1))else CV ns s.rs.length (j+1) (s.rs.drop (j+1))):=hO
    clear jb hO ka
    cases hmx:(m&&!xd)with
    |false=>
     rw[hmx]at t HO
     have F3:∀w5,Below (wr.alloc (Obj.cells #[Value.int IntKind.i64 xn,Value.bool xg,Value.bool xd] 164)).heap.size (wr.alloc (Obj.cells #[Value.int IntKind.i64 xn,Value.bool xg,Value.bool xd] 164)) w5→w5.cell? ⟨wr.heap.size,2,none⟩=some (.bool xd):=fun w5 f=>by
      have F0:=(f.block wr.heap.size XW).trans (heap_alloc_new wr _)
      simp[World.cell?,F0]
     cases m with
     |false=>
      go_wp2_with (go_at_call 278;refine(n _).mono ?_;rintro e w5 ⟨rfl,f⟩)
      go_roundg gk
      case measure=>omega
      case rel=>exact⟨j+1,xs,ys,O,rfl,Hxs.out.trans (dL (t.out.trans rfl) Hx.out),YZ,O,HQ.out.later (((Below.refl _ wr).alloc (Qt _) _).trans (f.mono XW))⟩
     |true=>
      cases xd with
      |false=>cases hmx
      |true=>
       go_wp2_with (go_at_call 278;refine(n _).mono ?_;rintro e w5 ⟨rfl,f⟩;replace F3:=F3 _ f)
       go_roundg gk
       case measure=>omega
       case rel=>exact⟨j+1,xs,ys,O,rfl,Hxs.out.trans (dL (t.out.trans rfl) Hx.out),YZ,O,HQ.out.later (((Below.refl _ wr).alloc (Qt _) _).trans (f.mono XW))⟩
    |true=>
     rw[hmx]at t HO
     cases m with
     |false=>cases hmx
     |true=>
     cases xd with
     |true=>cases hmx
     |false=>
     have F0:∀w5,Below (wr.alloc (Obj.cells #[Value.int IntKind.i64 xn,Value.bool xg,Value.bool false] 164)).heap.size (wr.alloc (Obj.cells #[Value.int IntKind.i64 xn,Value.bool xg,Value.bool false] 164)) w5→w5.heap[wr.heap.size]?=some (.cells #[.int .i64 xn,.bool xg,.bool false] 164 (0,0)):=fun w5 f=>
      (f.block wr.heap.size XW).trans (heap_alloc_new wr _)
     have F5:∀w5,Below (wr.alloc (Obj.cells #[Value.int IntKind.i64 xn,Value.bool xg,Value.bool false] 164)).heap.size (wr.alloc (Obj.cells #[Value.int IntKind.i64 xn,Value.bool xg,Value.bool false] 164)) w5→Below wr.heap.size wr w5:=fun w5 f=>
      ((Below.refl _ wr).alloc (Qt _) _).trans (f.mono XW)
     by_cases ja:k=2
     ·subst ja
      go_wp2_with fail
      refine(n _).mono ?_
      rintro e w5 ⟨rfl,f⟩
      have G0:=F0 _ f
      have G5:=F5 _ f
      clear F0 F5 f n
      have g0:w5.cell? ⟨wr.heap.size,0,none⟩=some (.int .i64 xn):=XE
      have g1:w5.cell? ⟨wr.heap.size,1,none⟩=some (.bool xg):=XE
      have g2:w5.cell? ⟨wr.heap.size,2,none⟩=some (.bool false):=XE
      have g3:w5.frozen? ⟨wr.heap.size,1,none⟩=false:=X3
      have g4:w5.frozen? ⟨wr.heap.size,2,none⟩=false:=X3
      have sb:Below wr.heap.size wr (((w5.setCell ⟨wr.heap.size,1,none⟩ (.bool false)).setCell ⟨wr.heap.size,2,none⟩ (.bool true)).alloc (.cells #[.int .i64 xn] 3)):=((G5.setCell (Qt _) _).setCell (Qt _) _).alloc (by rw[World.size_setCell,World.size_setCell];exact G5.size) _
      have T5:=HQ.out.later sb
      have G7:(((w5.setCell ⟨wr.heap.size,1,none⟩ (.bool false)).setCell ⟨wr.heap.size,2,none⟩ (.bool true)).alloc (.cells #[.int .i64 xn] 3)).heap[wr.heap.size]?=some (.cells #[.int .i64 xn,.bool false,.bool true] 164 (0,0)):=by
       have e1:=heap_setCell_same _ _ 1 _ _ (.bool false) G0
       have e2:=heap_setCell_same _ _ 2 _ _ (.bool true) e1
       rw[heap_alloc_old _ _ (QG.1 e2).1]
       simpa using e2
      have N7:∀j u,[Value.int .i64 xn][j]?=some u→(((w5.setCell ⟨wr.heap.size,1,none⟩ (.bool false)).setCell ⟨wr.heap.size,2,none⟩ (.bool true)).alloc (.cells #[.int .i64 xn] 3)).cell? ((⟨w5.heap.size,0,none⟩:Addr).add j)=some u:=fun j u hj=>by
       match j,hj with
       |0,hj=>
        cases hj
        have:=heap_alloc_new ((w5.setCell ⟨wr.heap.size,1,none⟩ (.bool false)).setCell ⟨wr.heap.size,2,none⟩ (.bool true)) (.cells #[.int .i64 xn] 3)
        rw[World.size_setCell,World.size_setCell]at this
        show World.cell? _ ⟨w5.heap.size,0,none⟩=_
        simp only[World.cell?]
        rw[this]
        rfl
      have y:Aside (I5 w W1 s a c n9 gr cap (((w5.setCell ⟨wr.heap.size,1,none⟩ (.bool false)).setCell ⟨wr.heap.size,2,none⟩ (.bool true)).alloc (.cells #[.int .i64 xn] 3)) xs u10 ys):=T5
      have gb:Aside ((((w5.setCell ⟨wr.heap.size,1,none⟩ (.bool false)).setCell ⟨wr.heap.size,2,none⟩ (.bool true)).alloc (.cells #[.int .i64 xn] 3)).heap[wr.heap.size]?=some (.cells #[.int .i64 xn,.bool false,.bool true] 164 (0,0))):=G7
      have tb:Aside (∀j u,[Value.int .i64 xn][j]?=some u→(((w5.setCell ⟨wr.heap.size,1,none⟩ (.bool false)).setCell ⟨wr.heap.size,2,none⟩ (.bool true)).alloc (.cells #[.int .i64 xn] 3)).cell? ((⟨w5.heap.size,0,none⟩:Addr).add j)=some u):=N7
      clear T5 G7 N7 sb
      go_wp2_with (at_builtin;refine wpList_append_own _ rfl _ _ 44 rfl (W1.heap.size+1) 3 j0 (.int .i64 0) 1 8 underlying44 da nb pb ob rfl Z _ _ _ rfl y.out.out ⟨w5.heap.size,0,none⟩ 1 1 [.int .i64 xn] rfl rfl tb.out (fun x hx=>by simp at hx;rcases hx with rfl;rfl) Xk O (Qy y.out.g.1 (ZU y.out.g.2)) ?_;intro v' w6 ca i z;(have T6:=y.out.grown (v2:=v') (zs:=ys++[xn]) hW i (by simpa using ca) (by rw[z];simp));(have G6:=(i.block _ (QG.1 gb.out).1 (DO y.out.out gb.out Z)).trans gb.out);(have fa:=HQ.out.g);(have xb:Aside (I5 w W1 s a c n9 gr cap w6 xs v' (ys++[xn])):=T6);(have e0:w6.cell? ⟨wr.heap.size,0,none⟩=some (.int .i64 xn):=Yn);(have e1:w6.cell? ⟨wr.heap.size,1,none⟩=some (.bool false):=Yn);(have e2:w6.cell? ⟨wr.heap.size,2,none⟩=some (.bool true):=Yn);(have t9:=(M0 T6.t9).1.2.2.2);(obtain⟨v0,r0⟩:∃u,w6.cell? ⟨gr,j*3,none⟩=some u:=⟨_,(T6.row.cellAt (j*3) O).trans (Qn Yz)⟩);(obtain⟨v1,r1⟩:∃u,w6.cell? ⟨gr,j*3+1,none⟩=some u:=⟨_,(T6.row.cellAt (j*3+1) O).trans (Qn Yz)⟩);(obtain⟨v2,r2⟩:∃u,w6.cell? ⟨gr,j*3+2,none⟩=some u:=⟨_,(T6.row.cellAt (j*3+2) O).trans (Qn Yz)⟩);(have q0:=T6.row.frozenAt (j*3));(have q1:=T6.row.frozenAt (j*3+1));(have q2:=T6.row.frozenAt (j*3+2));clear T6 G6 gb tb y ca i z)
      have ib:xs.length=s.rs.length:=Qa
      go_roundg gk
      case measure=>omega
      case rel=>exact⟨j+1,xs.set j (xn,false,true),ys++[xn],O,Xv,by
        show _=_
        rw[Hxs.out]
        exact qT (t.out.trans (congrArg some (Eq.trans (if_pos YP) rfl))) aa,by
        show _=_
        have:=Hys.out
        have h2:=HO.out
        simp only[eq_self,if_true]at this h2 ⊢
        rw[h2]at this
        rw[Q_];exact this,Xc,xb.out.turn hW O (xn,false,true)⟩
     ·have qb:¬(k:Int)=2:=by omega
      go_wp2_with (go_at_call 278;refine(n _).mono ?_;rintro e w5 ⟨rfl,f⟩;have G0:=F0 _ f;have G5:=F5 _ f;clear F0 F5 f n;have g0:w5.cell? ⟨wr.heap.size,0,none⟩=some (.int .i64 xn):=by simp[World.cell?,G0];have g1:w5.cell? ⟨wr.heap.size,1,none⟩=some (.bool xg):=by simp[World.cell?,G0];have g2:w5.cell? ⟨wr.heap.size,2,none⟩=some (.bool false):=by simp[World.cell?,G0];have g3:w5.frozen? ⟨wr.heap.size,1,none⟩=false:=X3)
      refine(n _).mono ?_
      rintro e w5 ⟨rfl,f⟩
      have G0:=F0 _ f
      have G5:=F5 _ f
      clear F0 F5 f n
      have g0:w5.cell? ⟨wr.heap.size,0,none⟩=some (.int .i64 xn):=XE
      have g1:w5.cell? ⟨wr.heap.size,1,none⟩=some (.bool xg):=XE
      have g2:w5.cell? ⟨wr.heap.size,2,none⟩=some (.bool false):=XE
      have g3:w5.frozen? ⟨wr.heap.size,1,none⟩=false:=X3
      have T5:=HQ.out.later G5
      have t9:=(M0 T5.t9).1.2.2.2
      have fa:=HQ.out.g
      have cc:gr≠wr.heap.size:=O
      have bc:wr.heap.size≠gr:=O
      have r0:∃u,w5.cell? ⟨gr,j*3,none⟩=some u:=⟨_,(T5.row.cellAt (j*3) O).trans (Qn YA)⟩
      have r1:∃u,w5.cell? ⟨gr,j*3+1,none⟩=some u:=⟨_,(T5.row.cellAt (j*3+1) O).trans (Qn YA)⟩
      have r2:∃u,w5.cell? ⟨gr,j*3+2,none⟩=some u:=⟨_,(T5.row.cellAt (j*3+2) O).trans (Qn YA)⟩
      obtain⟨v0,r0⟩:=r0
      obtain⟨v1,r1⟩:=r1
      obtain⟨v2,r2⟩:=r2
      have q0:=T5.row.frozenAt (j*3)
      have q1:=T5.row.frozenAt (j*3+1)
      have q2:=T5.row.frozenAt (j*3+2)
      clear T5
      go_wp2_with fail
      have ib:xs.length=s.rs.length:=Qa
      have ac:chR (250+k) (xn,xg,false)=(xn,((k:Int)==0),false):=by
       rcases(by omega:k=0∨k=1)with rfl|rfl<;>rfl
      go_roundg gk
      case measure=>omega
      case rel=>exact⟨j+1,xs.set j (xn,((k:Int)==0),false),ys,O,Xv,by
        show _=_
        rw[Hxs.out]
        exact qT (t.out.trans (congrArg some (Eq.trans (if_pos YP) ac))) aa,by
        show _=_
        have:=Hys.out
        rw[if_neg ja,if_neg ja]at this
        rw[if_neg ja,if_neg ja];exact this,O,(HQ.out.later (G5.setCell (Qt _) _)).turn hW O (xn,((k:Int)==0),false)⟩
end Go.Vd
namespace Go.Vd
open Go.Proofs Go.RowKit
def aBD{P:Program}{f:FuncId}{A B:List D->Option D}(ta:∀ds r,A ds=some r->B ds=some r)(d:(Af B).ok P f):(Af A).ok P f:=by
 refine⟨d.1,λds m m' fr _=>rfl,?_⟩;intro a w0 w m g fr ds vs r u hi b z t y;obtain⟨_,_,o⟩:=d;refine o hi b z t ?_;simp only[Af]at y ⊢;split at y
 ·rename_i k;simp only[k,if_true];cases ha:A (ds.map D.un)with
  |none=>rw[ha]at y;cases y
  |some x=>rw[ha]at y;rw[ta _ _ ha];exact y
 ·cases y
def aEu:=AB [(182,Af hZ),(183,Af zQ)]
def aEK:=RF aEu aDt [.cell (some 4) 6,.t 7,.t 8] 74
def aW9:Kq aEK 181:=Az (Ai func181) (Aa Px (Aa UD Ad))
def aJs(s:Sc)(k:Int)(nl:Bool)(ns:List Int)(w:s.rs.length<=1000)(i:BF s 6=true):aEK [.agg (Ik s),.int .i64 k,.slice nl [] (AE ns)]=some (.tup [.agg (Ik s),.slice true [] [],.int .i64 2]):=by
 refine Aq (Qo rfl) ?_;unfold aDt;have y:=FE s 6 false w;have a:=Ib;rw[i]at y;unfold Ik at y ⊢;simp only[↓C2,Ie,simprocAttr,Ac aEu 182,y,Ac aEu 183,a,Zn];refine Al ?_;simp only[↓C2,Ie,simprocAttr]
 all_goals exact Qi
def aEJ(s:Sc)(k:Int)(nl:Bool)(ns:List Int)(i:BF s 6=false)(r:s.rs=[]):aEK [.agg (Ik s),.int .i64 k,.slice nl [] (AE ns)]=some (.tup [.agg (Ik s),.slice true [] [],.int .i64 6]):=by
 refine Aq (Qo rfl) ?_;unfold aDt;have y:=FE s 6 false (by rw[r];decide);have a:=Ib;rw[i]at y;unfold Ik at y ⊢;have p:((s.rs.length:Int)=0)=True:=eq_true (by rw[r];rfl);simp only[↓C2,Ie,simprocAttr,Ac aEu 182,y,Ac aEu 183,a,Zb];refine Al ?_;simp only[↓C2,Ie,simprocAttr,As,p,decide_true]
 all_goals exact Qi
def OU{w:World}{g:Gh}:∀(l:List Rw)(j:Nat)(d:D),(flat (AU l))[j]?=some d->∃v,(EA l)[j]?=some v∧v.oneCell'=true∧Im w g d v
 |[],j,d,h=>by simp[AU,flat]at h
 |x::r,j,d,h=>by
  have e:flat (AU (x::r))=[D.int .i64 x.1,D.bool x.2.1,D.bool x.2.2]++flat (AU r):=rfl;rw[e]at h;rw[EA]
  match j,h with
  |0,h=>cases h;exact⟨_,rfl,rfl,.int _ _⟩
  |1,h=>cases h;exact⟨_,rfl,rfl,.bool _⟩
  |2,h=>cases h;exact⟨_,rfl,rfl,.bool _⟩
  |j+3,h=>exact OU r j d h
def aGx{w:World}{B e n b c:Nat}{l:List Rw}{g:Gh}(h:w.ownsRow B e 3 (.slice (some ⟨b,0,none⟩) n c) n (EA l))(hG:n*3<=g.G b):Im w g (.slice false [] (AU l)) (.slice (some ⟨b,0,none⟩) n c):=by
 have f:l.length=n:=by have:=h.1;rw[Hj]at this;omega
 have o:n<=c:=by
  rcases h.2 with ⟨r,_⟩|⟨x,cap,cur,t,_,_,o,_⟩
  ·cases r
  ·cases t;exact o
 have p:(flat (AU l)).length=n*3:=by
  rw[Cx (sz:=3) (λd u=>by obtain⟨s,_,rfl⟩:=QB.1 u;rfl),As,f]
 refine .slice [] _ ⟨b,0,none⟩ n c 3 (λj=>(EA l).getD j .nilFunc) (by rw[As,f]) o (λd u=>?_) (λj y=>?_) (λj y=>?_) (λj d u=>?_) (λ_=>Xb) (λh=>absurd rfl h) (λd u=>?_)
 ·obtain⟨s,_,rfl⟩:=QB.1 u;rfl
 ·have q:j<(EA l).length:=by rw[h.1];exact y
  exact h.cells rfl j _ (by simp only[QI];rw[Qn q];rfl)
 ·obtain⟨v,i,z,_⟩:=OU (w:=w) (g:=g) l j _ (Qn (by rw[p];exact y));simp only[QI,i,QD];exact z
 ·obtain⟨v,i,_,a⟩:=OU (w:=w) (g:=g) l j d u;simp only[QI,i,QD];exact a
 ·obtain⟨s,_,rfl⟩:=QB.1 u;rfl
def SN:∀l:List Int,flat (AE l)=AE l
 |[]=>rfl
 |x::r=>by
  have:flat (AE (x::r))=D.int .i64 x::flat (AE r):=rfl;rw[this,SN r];rfl
def aBw{w:World}{B e:Nat}{v:Value}{ys:List Int}{g:Gh}(h:w.ownsRow B e 1 v ys.length (ys.map (Value.int .i64)))(x:v= .slice none 0 0↔ys=[])(p:∀b,v.ownBlock=some b->ys.length<=g.G b):Im w g (.slice (decide (ys=[])) [] (AE ys)) v:=by
 rcases h.2 with ⟨r,hz⟩|⟨b,c,cur,t,_,_,o,_⟩
 ·have:=x.1 r;subst this;subst r;exact .nils _
 ·have n:ys≠[]:=λe=>by rw[x.2 e]at t;cases t
  have i:=p b XL;rw[decide_eq_false n];have u:=h;subst t;refine .slice [] _ ⟨b,0,none⟩ ys.length c 1 (λj=> .int .i64 (ys.getD j 0)) (by simp[AE]) o (λd l=>?_) (λj y=>?_) (λj y=>rfl) (λj d l=>?_) (λ_=>Xb) (λh=>absurd rfl h) (λd l=>?_)
  ·obtain⟨s,_,rfl⟩:=QB.1 l;rfl
  ·have q:j<ys.length:=by omega
   exact u.cells rfl j _ (by simp[QI,q])
  ·rw[SN]at l;simp only[AE,Zl,Zc]at l;obtain⟨s,m,rfl⟩:=l;have:ys.getD j 0=s:=by simp[QI,m]
   rw[this];exact .int _ _
  ·obtain⟨s,_,rfl⟩:=QB.1 l;rfl
def Th:List D->Option D:=FX MT (λp=>(p.1.rs.length<=6∧(p.1.nl=true->p.1.rs=[])∧p.2.1<=2∧p.2.2.2.length<=1000)∧BF p.1 6=false∧p.1.rs≠[]) Nf
def aGE:Kq Th 181:=by
 refine N0 ⟨_,func181,Xa,Xa⟩ λds r hF vs w G hl t ja=>⟨?_,?_⟩
 ·obtain⟨p,_,_,rfl⟩:=C6 hF;rfl
 ·obtain⟨⟨s,k,nl,ns⟩,⟨⟨ka,ta,hk,kb⟩,hs,ma⟩,rfl,rfl⟩:=C6 hF;simp only at ka ta hk kb hs ma;have na:0<s.rs.length:=List.length_pos_iff.2 ma
  match vs,hl with
  |[v0,v1,v2],_=>
   have ua:=t 0 _ v0 rfl rfl;have e1:=(t 1 _ v1 rfl rfl).int_inv;have wa:=t 2 _ v2 rfl rfl;subst e1;obtain⟨us,rfl,va,m,hu⟩:=aG ua
   match us,va with
   |[a,b,c,d],_=>
    have ea:=(hu 0 _ a rfl rfl).int_inv;have eb:=(hu 1 _ b rfl rfl).bool_inv;have ec:=(hu 2 _ c rfl rfl).int_inv;subst ea eb ec;obtain⟨ao,cp,rfl,ra⟩:=Ua (hu 3 _ d rfl rfl);obtain⟨ad,rfl,_⟩:=ra 0 s.rs[0] (Qn na);have qa:∀wx,Calls Qs 183 #[] wx λe w'=>e= .returned (.agg #[.int .i64 6,.bool false])∧Below wx.heap.size wx w':=λwx=>by
     refine(Lv UD Ib rfl wx).mono ?_;rintro e w' ⟨v,g',rfl,sa,hR⟩;refine⟨?_,sa⟩;obtain⟨ys,rfl,db,_,hy⟩:=aG hR
     match ys,db with
     |[y0,y1],_=>rw[(hy 0 _ y0 rfl rfl).int_inv,(hy 1 _ y1 rfl rfl).bool_inv]
    have y:∀wx,Below w.heap.size w wx->Calls Qs 182 #[.agg #[.int .i64 s.mx,.bool s.cas,.int .i64 s.la,.slice (some ad) s.rs.length cp],.agg #[.int .i64 6,.bool false]] wx λe w'=>e= .returned (.bool true)∧Below wx.heap.size wx w':=λwx hb=>by
     have e2:=FE s 6 false O;rw[hs]at e2;refine(Ho (vs:=[.agg #[.int .i64 s.mx,.bool s.cas,.int .i64 s.la,.slice (some ad) s.rs.length cp],.agg #[.int .i64 6,.bool false]]) (G:=G) Px e2 rfl rfl rfl (λj d v u hv=>?_) (λb h=>ja b (Qy hb.size h))).mono ?_
     ·match j,u,hv with
      |0,u,hv=>cases u;cases hv;exact EI ua rfl ja hb (λ_ _=>Qt _)
      |1,u,hv=>
       cases u;cases hv;refine .agg _ [_,_] rfl Yp (λj d v u hv=>?_)
       match j,u,hv with
       |0,u,hv=>cases u;cases hv;exact .int _ _
       |1,u,hv=>cases u;cases hv;exact .bool _
     ·rintro e w' ⟨v,g',rfl,sa,hR⟩;exact⟨by rw[hR.bool_inv];rfl,sa⟩
    have q:∀(wx:World)(j:Nat)(x:Rw),Below w.heap.size w wx->s.rs[j]?=some x->Calls Qs 278 #[.agg #[.int .i64 s.mx,.bool s.cas,.int .i64 s.la,.slice (some ad) s.rs.length cp],.int .i64 (j:Int),v2] wx λe w'=>e= .returned (.bool (Ts ns s.rs.length j x))∧Below wx.heap.size wx w':=λwx j x hb o=>by
     obtain⟨hj,oa⟩:=QH.1 o;refine(Ho (vs:=[.agg #[.int .i64 s.mx,.bool s.cas,.int .i64 s.la,.slice (some ad) s.rs.length cp],.int .i64 (j:Int),v2]) (G:=G) aWL (aIZ (nn:=nl) O kb hj oa) rfl rfl rfl (λj d v u hv=>?_) (λb h=>ja b (Qy hb.size h))).mono ?_
     ·match j,u,hv with
      |0,u,hv=>cases u;cases hv;exact EI ua rfl ja hb (λ_ _=>Qt _)
      |1,u,hv=>cases u;cases hv;exact .int _ _
      |2,u,hv=>cases u;cases hv;exact EI wa rfl ja hb (λ_ _=>Qt _)
     ·rintro e w' ⟨v,g',rfl,sa,hR⟩;exact⟨by rw[hR.bool_inv],sa⟩
    refine(aZI w s k hk ns v2 ad cp ka na ra qa y q).mono ?_;rintro e w' ⟨g,cap,v,ys,rfl,hb,ha,l,ca,nb,n⟩;obtain⟨ab,za⟩:=ha.lt g rfl;have z:=l.lt;have pa:=hb.size
    let G':Nat->Nat:=λb=>if b<w.heap.size then G b else if b=g then s.rs.length*3 else if some b=v.ownBlock then ys.length else 0
    refine⟨_,G',rfl,hb,λb h=>?_,λb h=>if_pos h,?_⟩
    ·grind
    ·have ht:Be s ns (250+k)=({s with rs:=Ei ns (250+k) s.rs.length 0 s.rs},CV ns s.rs.length 0 s.rs,0):=by
      unfold Be;rw[if_neg (by rw[hs];decide),if_neg ma]
     have f:s.nl=false:=by
      simp_all
     unfold Nf;simp only[ht];rw[←nb];refine .tup _ [_,_,_] rfl (λj d v' u hv=>?_)
     match j,u,hv with
     |0,u,hv=>
      cases u;cases hv;unfold Ik;rw[f];refine .agg _ [_,_,_,_] rfl Yp (λj d v' u hv=>?_)
      match j,u,hv with
      |0,u,hv=>cases u;cases hv;exact .int _ _
      |1,u,hv=>cases u;cases hv;exact .bool _
      |2,u,hv=>cases u;cases hv;exact .int _ _
      |3,u,hv=>
       cases u;cases hv;exact aGx ha (by
        show _<=(if _ then _ else _);rw[if_neg O,if_pos rfl];exact Qt _)
     |1,u,hv=>
      cases u;cases hv;exact aBw l ca (λb i=>by
       show _<=(if _ then _ else _);rw[if_neg (by have:=(z b i).1;omega),if_neg (λe=>n (by rw[i,e])),if_pos i.symm];exact Qt _)
     |2,u,hv=>cases u;cases hv;exact .int _ _
def ok181:Kq TL 181:=by
 refine aBD (B:=λds=>(Th ds).or (aEK ds)) (λds r h=>?_) (aBz aGE aW9);obtain⟨⟨s,k,nl,ns⟩,⟨u,q,o,b⟩,rfl,rfl⟩:=C6 h;simp only at u q o b;by_cases n:BF s 6=false∧s.rs≠[]
 ·show(Th _).or _=_;rw[show Th (MT (s,k,nl,ns))=some (Nf (s,k,nl,ns))from Bl (mk:=MT) (a:=(s,k,nl,ns)) ON ⟨⟨u,q,o,b⟩,n⟩];rfl
 ·have x:Th (MT (s,k,nl,ns))=none:=by
   cases h':Th (MT (s,k,nl,ns))with
   |none=>rfl
   |some r=>
    obtain⟨p,⟨_,g⟩,e,_⟩:=C6 h';rw[←ON _ p e.symm]at g;exact absurd g n
  show(Th _).or _=_;rw[x];show aEK [_,_,_]=_;by_cases i:BF s 6=true
  ·rw[aJs s _ nl ns O i];have d:Be s ns (250+k)=(s,[],2):=if_pos i;unfold Nf;simp only[d];split<;>rfl
  ·have f:BF s 6=false:=by simpa using i
   have m:s.rs=[]:=Classical.byContradiction λe=>n ⟨f,e⟩
   rw[aEJ s _ nl ns f m];have d:Be s ns (250+k)=(s,[],6):=by
    unfold Be;rw[if_neg i,if_pos m]
   unfold Nf;simp only[d];split<;>rfl
end Go.Vd
end
