/- A part of the proof; nothing in it is assumed. -/
import Derived.Test.YtglcjfimdoldbaaGreatDoorMRestoresP3
import Derived.Shelf.Strings.Repeat
import Derived.Laws.CopyOwn
import Derived.Shelf.Sort.Plain
import Derived.Shelf.Slices.CompactS
import Derived.Sort.OwnSorted
import Derived.Lib.OwnBridge
import Derived.Shelf.Slices.In.SortNone
import Derived.Laws.EntriesVeiled
import Derived.WalkLawsBesides
import Derived.RangeFuncNested
import Derived.RangeFuncBound

set_option linter.unusedSimpArgs false
set_option linter.unusedVariables false
set_option linter.defProp false
set_option maxHeartbeats 4000000
set_option maxRecDepth 100000
open Nat renaming le_of_ble_eq_true→Qh,le_refl→Qj,reduceEqDiff→Ql,zero_le→Qm,reduceAdd→Qo,le_trans→Qr,zero_add→Qw,succ_ne_zero→Qy,zero_ne_one→QI,sub_zero→QT,reduceSub→QX,reduceLeDiff→Zh,reduceLT→Zn,lt_trichotomy→ZK,le_succ_of_le→ZL,lt_or_ge→ZX,add_zero→ZY
open List renaming length_cons→Qi,getElem?_eq_getElem→Qk,getElem?_cons_succ→Qs,length_append→Qt,length_nil→Qx,filter_cons→Qz,mem_cons_self→QB,length_map→QC,take_succ_eq_append_getElem→QD,getElem?_cons_zero→QF,getElem_mem→QG,nil_append→QJ,mem_cons_of_mem→QL,mem_cons→QM,drop_eq_getElem_cons→QN,cons_append→QO,map_cons→QP,getElem?_map→QQ,filter_sublist→QS,pairwise_cons→QU,mem_singleton→QV,pairwise_iff_getElem→QW,take_of_length_le→QZ,filter_append→Q0,mem_append→Q1,map_append→Q2,getD→Q3,size_toArray→Q4,append_assoc→Q5,mem_map→Q8,take_length→Q9,getElem?_append_left→Za,append_toArray→Zb,map_nil→Zc,drop_zero→Zd,push_toArray→Zf,all_eq_true→Zg,sum_cons→Zj,mem_filter→Zk,take_succ_cons→Zm,getElem?_append_right→Zp,find?_eq_none→Zq,getD_eq_getElem?_getD→Zr,getElem?_eq_some_iff→Zu,find?_append→Zv,drop_eq_nil_of_le→ZB,take_zero→ZE,mem_of_mem_take→ZF,getElem_of_mem→ZG,getElem?_drop→ZJ,toArray→ZM,all_eq_false→ZN,suffix_cons→ZP,length_take→ZQ,not_mem_nil→ZR,take_prefix→ZS,find?_cons→ZU,sum_append→ZV,length→ZZ,map→Z1
open Option renaming isSome_some→Qn,getD_some→QY,map_eq_some_iff→Q_,map_some→Zl,isSome_none→Zs,bind_some→Zx,getD_none→Zy
open Int renaming toNat_natCast→Qp,reduceEq→QE,toNat_of_nonneg→QR,reduceLE→Ze,lt_irrefl→Zi,reduceNe→Zo,tmod_eq_emod_of_nonneg→Zt,reduceLT→ZC,le_refl→Z_
open Go.Proofs.Tryz renaming prog→Qq
open List.cons renaming injEq→Qu,inj→Z2
open Array renaming getElem?_eq_some_iff→Qv,replicate_succ→Q6,replicate_zero→Q7
open And renaming intro→QA
open Option.some renaming injEq→QH,inj→Z0
open Prod.mk renaming injEq→Zw
open Bool renaming true_or→Zz,or_true→ZA,false_and→ZD,false_or→ZH,true_eq_false→ZI,and_eq_true→ZO,or_eq_true→ZT,and_false→ZW
open Go.Proofs.Tryz
noncomputable section
namespace Go.Proofs
open Go.Shelf
def aQ:Go.Shelf.Ren:=⟨λ|105=>26|212=>64|99=>65|165=>66|166=>67|170=>68|169=>69|263=>128|264=>129|206=>130|240=>131|241=>132|276=>199|277=>200|n=>n,λ|9=>9|3=>3|4=>4|20=>20|0=>0|46=>138|109=>139|5=>5|72=>144|76=>148|51=>244|146=>245|53=>186|148=>247|70=>142|37=>87|75=>147|127=>249|164=>299|80=>78|n=>n,λ|n=>n⟩
def bD:Go.Proofs.Lays.n105 Qq aQ:={
 mixed:=Xa
 f99:=func65.trans (congrArg some Xa)
 f105:=func26.trans (congrArg some Xa)
 f165:=func66.trans (congrArg some Xa)
 f166:=func67.trans (congrArg some Xa)
 f169:=func69.trans (congrArg some Xa)
 f170:=func68.trans (congrArg some Xa)
 f206:=func130.trans (congrArg some Xa)
 f212:=func64.trans (congrArg some Xa)
 f240:=func131.trans (congrArg some Xa)
 f241:=func132.trans (congrArg some Xa)
 f263:=func128.trans (congrArg some Xa)
 f264:=func129.trans (congrArg some Xa)
 f276:=func199.trans (congrArg some Xa)
 f277:=func200.trans (congrArg some Xa)
 t0:=underlying0
 a0:=isAgg0
 z0:=sizeOf0
 v0:=zeroValue0
 t3:=underlying3
 a3:=isAgg3
 z3:=sizeOf3
 v3:=zeroValue3
 t4:=underlying4
 a4:=isAgg4
 z4:=sizeOf4
 v4:=zeroValue4
 t5:=underlying5
 a5:=isAgg5
 z5:=sizeOf5
 v5:=zeroValue5
 t9:=underlying9
 a9:=isAgg9
 z9:=sizeOf9
 v9:=zeroValue9
 t20:=underlying20
 a20:=isAgg20
 z20:=sizeOf20
 v20:=zeroValue20
 t37:=underlying87
 a37:=isAgg87
 z37:=sizeOf87
 v37:=zeroValue87
 t46:=underlying138
 a46:=isAgg138
 z46:=sizeOf138
 v46:=zeroValue138
 t51:=underlying244
 a51:=isAgg244
 z51:=sizeOf244
 v51:=zeroValue244
 t53:=underlying186
 a53:=isAgg186
 z53:=sizeOf186
 v53:=zeroValue186
 t70:=underlying142
 a70:=isAgg142
 z70:=sizeOf142
 v70:=zeroValue142
 t72:=underlying144
 a72:=isAgg144
 z72:=sizeOf144
 v72:=zeroValue144
 t75:=underlying147
 a75:=isAgg147
 z75:=sizeOf147
 v75:=zeroValue147
 t76:=underlying148
 a76:=isAgg148
 z76:=sizeOf148
 v76:=zeroValue148
 t109:=underlying139
 a109:=isAgg139
 z109:=sizeOf139
 v109:=zeroValue139
 t127:=underlying249
 a127:=isAgg249
 z127:=sizeOf249
 v127:=zeroValue249
 t146:=underlying245
 a146:=isAgg245
 z146:=sizeOf245
 v146:=zeroValue245
 t148:=underlying247
 a148:=isAgg247
 z148:=sizeOf247
 v148:=zeroValue247
 t164:=underlying299
 a164:=isAgg299
 z164:=sizeOf299
 v164:=zeroValue299}
def aT:Builder.Extra Qq aQ:={
 sizeBuilder:=Xa
 liesBuilder:=Xa
 t5:=underlying5
 a5:=isAgg5
 z5:=sizeOf5
 v5:=zeroValue5
 infoByte:=Xa
 cellsByte:=Xa
 sizeByte:=Xa
 neB5:=Z}
end Go.Proofs
namespace Go.Vd
open Go.Proofs Go.RowKit
def wM(t:Int):Bool:=decide (1<=t∧t<=6)
def dC(t:Int):Int:=if wM t=true then 1+t*16 else 0
def bAS:=Az []
def aTV:=RF bAS aOA [.t 2] 9
def aXq:Kq aTV 70:=Av (Al func70) Ae
def aK2(t:Int):aTV [.int .i64 t]=some (.bool (wM t)):=by
 refine Aq (Qh rfl) ?_;unfold aOA;unfold wM;by_cases c:1<=t
 ·have c':((1:Int)<=t)=True:=eq_true c;simp only[↓GQ,GT,GS,simprocAttr,c']
  all_goals exact Qd
 ·have c':((1:Int)<=t)=False:=eq_false c;simp only[↓GQ,GT,GS,simprocAttr,c']
  all_goals exact Qd
def aTs:=Az [(70,Ac aTV)]
def aGl:=RF aTs aPr [.t 2] 9
def aM1:Kq aGl 27:=Av (Al func27) (Aa aXq Ae)
def sS(t:Int):aGl [.int .i64 t]=some (.int .i64 (dC t)):=by
 refine Aq (Qh rfl) ?_;unfold aPr;have a:=aK2 t;unfold dC;cases c:wM t with
 |false=>
  rw[c]at a;simp only[↓GQ,GT,GS,simprocAttr,Ad aTs 70,a]
  all_goals exact Qd
 |true=>
  have f:1<=t∧t<=6:=by simpa[wM]using c
  have i:IntKind.i64.wrap (t*16)=t*16:=Hg O O;have e:IntKind.i64.wrap (1+t*16)=1+t*16:=Hg O O;rw[c]at a;simp only[↓GQ,GT,GS,simprocAttr,Ad aTs 70,a,i,e]
  all_goals exact Qd
def RP:List D->Option D
 |[.str s,.int .i64 c]=>if 0<=c∧c<=1000000∧s.length*c.toNat<=1000000 then some (.str (Lib.repeatL s c.toNat))else none
 |_=>none
def aXC:Kq RP 26:=Vg ⟨_,func26,Xa,Xa⟩ λds r h=>by
 unfold RP at h;split at h
 ·rename_i s c;split at h
  ·rename_i p;simp only[QH]at h;subst h;refine⟨λd z=>?_,_,λw g=> .str _,λw=>?_⟩
   ·simp only[QM,List.mem_nil_iff,or_false]at z;rcases z with rfl|rfl<;>rfl
   ·have y:=Go.Proofs.Any.strings_Repeat bD aT ⟨s.toArray⟩ c.toNat w O (by show s.toArray.size*_<=_;simp only[Q4];omega);rw[QR p.1]at y;refine y.mono ?_;rintro e w' ⟨rfl,f⟩;exact⟨rfl,f⟩
  ·cases h
 ·cases h
def aZI(o:Oc)(te:Int):Oc:={({o with vw:={o.vw with te:=te+1}}:Oc).op 1 (A9 5 [] 0) (Lib.repeatL [0] (dC (te+1)).toNat)with rep:=NM .done}
def aBA(l:List Mt)(p:Bs):List Mt:=l.take (CH l p).toNat++l.drop ((CH l p).toNat+1)
def H7(a:Ak):(Hq a)[0]?=some (.int .u8 a.op):=rfl
def UA(a:Ak):(Hq a)[2]?=some (.str a.pa):=rfl
def rS(a:Ak):(Hq a)[3]?=some (.str a.ot):=rfl
def aFx(a:Ak):(Hq a)[10]?=some (.str a.key):=rfl
def HY(v:Vw):(HG v)[0]?=some (.bool v.se):=rfl
def TA(v:Vw):(HG v)[2]?=some (.str v.key):=rfl
def nU(v:Vw):(HG v)[3]?=some (.slice v.nlm [] (Ax v.ms)):=rfl
def aBF{m:GV}{v:Vw}{a:Ak}:Ai ((m.put [0] 0 (HG v)).put [1] 0 (Hq a)) [0] 0 5=some (HG v):=by
 grind [AI,AM,CN]
def bS{m:GV}{a:Ak}:Ai (m.put [1] 0 (Hq a)) [1] 0 11=some (Hq a):=AM (AZ a)
def aQ1{m:GV}{x:List D}{n:Nat}:Ai (m.put [14] 0 x) [0] 0 n=Ai m [0] 0 n:=AI Z
open Classical in
def aLW{nl:Bool}{l:List Mt}{p:Bs}(hl:l.length<=1000000):aHu [.agg [.slice nl [] (Ax l)],.str p]=some (.tup (if CH l p<0 then [HI ([],0,false),.int .i64 14]else [HI (AU l (CH l p).toNat),.int .i64 0])):=by
 have h:Ax l=Ax (B7 (Ax l))∧(Ax l).length<=1000000:=XO
 show(if _ then _ else _)=_;rw[if_pos h,Bd]
open Classical in
def aLV{v:Vw}{p:Bs}(hl:v.ms.length<=1000000):aHt [HN v,.str p]=some (.bool (decide (BN v.ms p≠-1))):=by
 have h:Ax v.ms=Ax (B7 (Ax v.ms))∧(Ax v.ms).length<=1000000:=XO
 show(if _ then _ else _)=_;rw[if_pos h,Bd]
def N8(v:Vw)(a:Ak):Bool:=decide (a.op<=8)||(((decide (a.op=17)&&decide (0<=CH v.ms a.pa))||decide (BN v.ms a.pa≠-1))&&(decide (a.op≠18)||decide (BN v.ms a.ot≠-1)))
def F70:List D->Option D:=FX L2 (λp=>SR p.1) (λp=> .bool (N8 p.1 p.2))
def aT3{v:Vw}{a:Ak}(h:SR v):F70 [HN v,Hu a]=some (.bool (N8 v a)):=BG (mk:=L2) (a:=(v,a)) RO h
def aZS:Kq F70 243:=by
 obtain⟨S,x,hl⟩:=A4 (Aa aMH (Aa aV1 (Aa aV0 Ae)));have g:=hl 307 _ rfl;have i:=hl 310 _ rfl;have k:=hl 311 _ rfl;clear hl;refine B1 x (Al func243:Fn Qq 243 44 aX4 [.t 4]) (λ_=>by simp[L2]) (λp y=>?_);obtain⟨v,a⟩:=p;simp only at y;have ua:=y.ml;have c:aHv [.int .u8 a.op]=some (.bool (decide (a.op<=8))):=rfl;have b:=aLW (nl:=v.nlm) (l:=v.ms) (p:=a.pa) O;have m:∀q,aHt [.agg (HG v),.str q]=some (.bool (decide (BN v.ms q≠-1))):=λq=>aLV O
 have d:=m a.pa;have j:=m a.ot;unfold aX4 L2 HN Hu N8;simp only;by_cases s:a.op<=8
 ·rw[decide_eq_true s]at c;simp only[↓GQ,GT,simprocAttr,H7,HY,BB,CN,AT,AZ,Qw,ne_eq,Zz,Aj,Qm,QT,Qw,and_self,Qu,Qy,s,Ab g,c]
 ·rw[decide_eq_false s]at c;generalize decide (BN v.ms a.pa≠-1)=r at d ⊢;generalize decide (BN v.ms a.ot≠-1)=b2 at j ⊢;generalize CH v.ms a.pa=fi at b ⊢;clear m;by_cases z:a.op=17
  ·have h:(a.op=17)=True:=eq_true z;have f:(a.op=18)=False:=eq_false O;clear z;by_cases o:fi<0
   ·have n:¬0<=fi:=by omega
    rw[if_pos o]at b;cases r<;>simp only[↓GQ,Hb,simprocAttr,H7,UA,rS,HY,TA,nU,MC,aQ1,AM,aBF,Ih,Ii,BB,CN,AT,AZ,ne_eq,Zz,ZH,ZA,ZW,Aj,Qs,Qn,Qu,QI,Qy,s,n,h,f,Ab g,c,Ab i,b,Ab k,d,HI]
   ·have n:0<=fi:=by omega
    rw[if_neg o]at b;generalize AU v.ms fi.toNat=u at b;simp only[↓GQ,Hb,simprocAttr,H7,UA,rS,HY,TA,nU,MC,AM,BB,CN,AT,AZ,ne_eq,Zz,ZA,Aj,Qs,Qn,Qu,QI,Qy,s,n,h,f,Ab g,c,Ab i,b,HI]
  ·have h:(a.op=17)=False:=eq_false z;obtain⟨u,e,he⟩:∃(u:Mt)(e:Int),aHu [.agg [.slice v.nlm [] (Ax v.ms)],.str a.pa]=some (.tup [HI u,.int .i64 e]):=by
    grind
   clear b;by_cases w:a.op=18
   ·have f:(a.op=18)=True:=eq_true w;clear w z;cases r<;>cases b2<;>simp only[↓GQ,Hb,simprocAttr,H7,UA,rS,HY,TA,nU,MC,aQ1,AM,aBF,Ih,Ii,BB,CN,AT,AZ,ne_eq,ZD,ZH,ZA,ZW,Aj,Qs,Qn,Qu,QI,and_false,Qy,s,h,f,Ab g,c,Ab i,he,Ab k,d,j,HI]
   ·have f:(a.op=18)=False:=eq_false w;clear w z;cases r<;>simp only[↓GQ,Hb,simprocAttr,H7,UA,rS,HY,TA,nU,MC,aQ1,AM,aBF,Ih,Ii,BB,CN,AT,AZ,ne_eq,ZD,Zz,ZH,ZA,Aj,Qs,Qn,Qu,QI,Qy,s,h,f,Ab g,c,Ab i,he,Ab k,d,HI]
def vW(v:Vw)(a:Ak):Int:=if Mf a≠0 then Mf a else if a.op=1 then 0 else if a.op=2 then(if v.se=false then 9 else if a.key≠v.key then 11 else 0)else if v.se=true then 12 else if TS v a=false then 13 else if N8 v a=false then 14 else 0
def F25:List D->Option D:=FX L2 (λp=>SR p.1∧HB p.2) (λp=> .int .i64 (vW p.1 p.2))
def nL{v:Vw}{a:Ak}(h:SR v)(q:HB a):F25 [HN v,Hu a]=some (.int .i64 (vW v a)):=BG (mk:=L2) (a:=(v,a)) RO ⟨h,q⟩
def aZ2:Kq F25 175:=by
 obtain⟨S,n,hl⟩:=A4 (Aa aZU (Aa aZT (Aa aZS Ae)));have c:=hl 241 _ rfl;have g:=hl 242 _ rfl;have h:=hl 243 _ rfl;clear hl;refine B1 n (Al func175:Fn Qq 175 52 aYq [.t 4]) (λ_=>by simp[L2]) (λp o=>?_);obtain⟨v,a⟩:=p;obtain⟨i,x⟩:=o;simp only at i x;have b:F68 [.agg (Hq a)]=some (.int .i64 (Mf a)):=aT5 x;have d:F69 [.agg (HG v),.agg (Hq a)]=some (.bool (TS v a)):=aT4 i;have f:F70 [.agg (HG v),.agg (Hq a)]=some (.bool (N8 v a)):=aT3 i;unfold aYq L2 HN Hu vW;simp only;generalize Mf a=e at b ⊢;generalize TS v a=r at d ⊢;generalize N8 v a=b2 at f ⊢;by_cases m:e=0
 ·subst m;by_cases u:a.op=1
  ·have k:(a.op=1)=True:=eq_true u;clear u;simp only[↓GQ,GT,simprocAttr,H7,HY,bS,BB,CN,BU,BV,AT,AZ,Qw,ne_eq,Aj,Qm,QT,Qw,and_self,Qu,Qy,k,Ab c,b]
  ·have k:(a.op=1)=False:=eq_false u;by_cases q:a.op=2
   ·have y:(a.op=2)=True:=eq_true q;clear u q;cases hse:v.se with
    |false=>
     simp only[↓GQ,GT,simprocAttr,H7,HY,bS,BB,CN,BU,BV,AT,AZ,Qw,ne_eq,Aj,Qm,QT,Qw,and_self,Qu,QI,Qy,k,y,hse,Ab c,b]
    |true=>
     by_cases s:a.key=v.key
     ·have ia:(a.key=v.key)=True:=eq_true s;have w:(a.key==v.key)=true:=by rw[s];simp
      clear s;simp only[↓GQ,GT,simprocAttr,H7,UA,aFx,HY,TA,bS,BB,CN,BU,BV,AT,AZ,Qw,ne_eq,Aj,Qm,QT,Qw,and_self,Qu,QI,and_false,Qy,k,y,hse,ia,Ab c,b]
     ·have ia:(a.key=v.key)=False:=eq_false s;have w:(a.key==v.key)=false:=by simpa using s
      clear s;simp only[↓GQ,GT,simprocAttr,H7,UA,aFx,HY,TA,bS,BB,CN,BU,BV,AT,AZ,Qw,ne_eq,Aj,Qm,QT,Qw,and_self,Qu,QI,and_false,Qy,k,y,hse,ia,Ab c,b]
   ·have y:(a.op=2)=False:=eq_false q;clear u q;cases hse:v.se with
    |true=>
     simp only[↓GQ,GT,simprocAttr,H7,HY,bS,BB,CN,BU,BV,AT,AZ,Qw,ne_eq,Aj,Qm,QT,Qw,and_self,Qu,QI,Qy,k,y,hse,Ab c,b]
    |false=>
     cases r with
     |false=>
      simp only[↓GQ,GT,simprocAttr,H7,HY,bS,aBF,Ih,Ii,BB,CN,BU,BV,AT,AZ,Qw,ne_eq,Aj,Qm,QT,Qw,and_self,Qu,QI,Qy,k,y,hse,Ab c,b,Ab g,d]
     |true=>
      cases b2<;>simp only[↓GQ,GT,simprocAttr,H7,HY,bS,aBF,Ih,Ii,BB,CN,BU,BV,AT,AZ,Qw,ne_eq,Aj,Qm,QT,Qw,and_self,Qu,QI,Qy,k,y,hse,Ab c,b,Ab g,d,Ab h,f]
 ·simp only[↓GQ,GT,simprocAttr,bS,BB,BU,BV,AT,Qw,ne_eq,Qw,and_self,m,Ab c,b]
def aJJ(k:Bs)(nl:Bool):Vw:=⟨false,1,k,true,[],nl,[Bh]⟩
def F23:List D->Option D
 |[.str k]=>some (HN (aJJ k false))
 |_=>none
def aZ3:Kq F23 50:=by
 obtain⟨S,v,hl⟩:=A4 (Aa aU9 Ae);have a:=hl 21 _ rfl;clear hl;refine AB (S:=S) v (Al func50:Fn Qq 50 6 aYr [.cell (some 5) 2]) (λds r h=>?_) (λds r h=>?_)
 ·unfold F23 at h;split at h
  ·simp
  ·cases h
 ·unfold F23 at h;split at h
  ·simp only[QH]at h;subst h;have f:F48 []=some (.agg [.slice false [] (Au [Bh])]):=rfl;unfold aYr;simp only[↓GQ,Hb,simprocAttr,Bw,Eh,QJ,QP,Zc,Ab a,f,Aj,Ar,As,Qs,Zx,Zm,ZE,Qn,Zd,List.drop_succ_cons,Bo,AY]
   all_goals exact Qe
  ·cases h
open Classical in
def aT8{nl0 nl:Bool}{l:List Tk}{n p:Bs}{rs:List Rl}(hl:l.length<=90000)(s:∀k∈l,Dg k.2.2.2)(c:nl=true->rs=[])(j:Dg rs)(u:n.length<=1000000)(q:p.length<=1000000):
  F50 [.agg [.slice nl0 [] (Au l)],.agg [.str n,.str p,.slice nl [] (Am rs)]]=some (.tup [Rv nl0 l (BO l (n,p,nl,rs)).1,.int .i64 (BO l (n,p,nl,rs)).2]):=by
 have h:(Et (Au l)∧(Au l).length<=90000∧∀k∈Cj (Au l),Dg k.2.2.2)∧LM nl (Am rs)∧Dg (Bc (Am rs))∧n.length<=1000000∧p.length<=1000000:=
  ⟨⟨Ee O,Yd,by rw[Bg];exact s⟩,Is j.1 c,by rw[AS];exact j,u,q⟩
 show(if _ then _ else _)=_;rw[if_pos h,Bg,AS]
def z5:List D:=[.bool false,.int .i64 0,.str [],.slice true [] [],.slice true [] []]
open Classical in
def aMa{nl:Bool}{l:List Tk}(hl:l.length<=1000000):aMb [.agg [.slice nl [] (Au l)]]=some (.slice (decide (l.length=0)) [] (l.map λk=> .str k.1)):=by
 have h:Et (Au l):=Ee hl;show(if _ then _ else _)=_;rw[if_pos h,Bg]
theorem GN:∀a:Bs,Op.bytesLess a a=false
 |[]=>rfl
 |x::r=>by simp[Op.bytesLess,GN r]
def Oy:∀{a b:Bs},a≠b->Op.bytesLess a b=!Op.bytesLess b a
 |[],[],h=>absurd rfl h
 |[],y::s,_=>rfl
 |x::r,[],_=>rfl
 |x::r,y::s,h=>by
  simp only[Op.bytesLess];by_cases c:x=y
  ·simp_all [Oy]
  ·grind
def Nt:∀{a b c:Bs},Op.bytesLess a b=true->Op.bytesLess b c=true->Op.bytesLess a c=true
 |a,b,[],h1,h2=>by simp[Op.bytesLess]at h2
 |a,[],z::t,h1,h2=>by cases a<;>simp[Op.bytesLess]at h1
 |[],y::s,z::t,h1,h2=>rfl
 |x::r,y::s,z::t,h1,h2=>by
  simp only[Op.bytesLess,ZT,ZO,decide_eq_true_eq,beq_iff_eq]at h1 h2 ⊢;rcases h1 with h1|⟨rfl,h1⟩
  ·grind
  ·rcases h2 with h2|⟨rfl,h2⟩
   ·left;exact h2
   ·right;exact⟨rfl,Nt h1 h2⟩
def Fb(l:List Mt):Prop:=∀i j,i<j->j<l.length->Op.bytesLess (l.getD i m0t).1 (l.getD j m0t).1=true
def P7{a b:Bs}:decide (C6 a b<0)=Op.bytesLess a b:=by
 grind [C6]
def aCX{l:List Mt}{m:Mt}(c:∀i,i<l.length->(l.getD i m0t).1≠m.1):∀j,j<=l.length->kR kD m0t l m j=Ti l m.1 j
 |0,_=>rfl
 |j+1,hj=>by
  have ih:=aCX c j O;have w:=Oy (c j O);have v:kD m (l.getD j m0t)=Op.bytesLess m.1 (l.getD j m0t).1:=P7;unfold kR Ti;rw[v,show AU l j=l.getD j m0t from rfl,w];cases Op.bytesLess m.1 (l.getD j m0t).1
  ·simp
  ·simpa using ih
theorem Ut{l:List Mt}{p:Bs}(h:¬0<=CH l p):∀i,i<l.length->(l.getD i m0t).1≠p:=by
 have u:=Sl (l.map λm=>decide (m.1=p));have q:decide (0<=BP (l.map λm=>decide (m.1=p)))=false:=decide_eq_false h;rw[q]at u;intro i hi e;have d:=List.any_eq_false.1 u.symm (decide ((l.getD i m0t).1=p)) (Q8.2 ⟨l[i],QG hi,by simp[Q3,hi]⟩);exact d (decide_eq_true e)
theorem Lv{l:List Mt}{m:Mt}(h:Fb l):CK l m=SO l m:=by
 unfold CK SO;split
 ·rfl
 split
 ·rfl
 rename_i o;split
 ·rfl
 split
 ·rfl
 have g:∀i,i+1<l.length->kD (l.getD (i+1) m0t) (l.getD i m0t)=false:=λi hi=>by
  have u:=h i (i+1) O hi;unfold kD;rw[P7];have v:(l.getD (i+1) m0t).1≠(l.getD i m0t).1:=λe=>by rw[e,GN]at u;cases u
  rw[Oy v,u];rfl
 have hi:=Ue kD m0t l m g l.length 1 (Qj _) O;rw[hi,aCX (Ut o) l.length (Qj _)];split
 ·simp_all
 ·rfl
def RY{α:Type}{l:List α}{m d:α}{k i:Nat}(s:k<=l.length):(l.take k++m::l.drop k).getD i d=if i<k then l.getD i d else if i=k then m else l.getD (i-1) d:=by
 grind
def DY(l:List Tk):Prop:=∀i j,i<j->j<l.length->Op.bytesLess (AP l i).1 (AP l j).1=true
def AtT(l:List Tk)(s:Bs)(r:Nat):Prop:=r<=l.length∧(∀i,i<r->Op.bytesLess (AP l i).1 s=true)∧∀i,r<=i->i<l.length->Op.bytesLess (AP l i).1 s=false
def AtT.uniq{l:List Tk}{s:Bs}{r q:Nat}(h:AtT l s r)(k:AtT l s q):r=q:=by
 rcases ZK r q with e|e|e
 ·have u:=h.2.2 r (Qj _) (by have:=k.1;omega);rw[k.2.1 r e]at u;cases u
 ·exact e
 ·have u:=k.2.2 q (Qj _) (by have:=h.1;omega);rw[h.2.1 q e]at u;cases u
theorem Oa{l:List Tk}(h:DY l){s:Bs}{i j:Nat}(x:i<=j)(w:j<l.length)(hl:Op.bytesLess (AP l j).1 s=true):Op.bytesLess (AP l i).1 s=true:=by
 by_cases e:i=j
 ·rw[e];exact hl
 ·exact Nt (h i j O w) hl
def mD{l:List Tk}(h:DY l){s:Bs}:∀(f lo hi:Nat),hi-lo<=f->lo<=hi->hi<=l.length->(∀i,i<lo->Op.bytesLess (AP l i).1 s=true)->(∀i,hi<=i->i<l.length->Op.bytesLess (AP l i).1 s=false)->AtT l s (bsR l s f lo hi)
 |0,lo,hi,hf,h1,h2,h3,h4=>by
  have:lo=hi:=O
  subst this;exact⟨h2,h3,h4⟩
 |f+1,lo,hi,hf,h1,h2,h3,h4=>by
  unfold bsR;split
  ·rename_i v;have r:(lo+hi) / 2<hi:=by omega
   have n:lo<=(lo+hi) / 2:=O
   split
   ·rename_i g;have x:Op.bytesLess (AP l ((lo+hi) / 2)).1 s=true:=by rw[←P7];exact decide_eq_true g
    exact mD h f _ hi O O h2 (λi o=>Oa h (show i<=(lo+hi) / 2 by omega) O x) h4
   ·rename_i g;have x:Op.bytesLess (AP l ((lo+hi) / 2)).1 s=false:=by rw[←P7];exact decide_eq_false g
    refine mD h f lo _ O n O h3 (λi k h6=>?_);by_cases e:Op.bytesLess (AP l i).1 s=true
    ·grind [Oa]
    ·simpa using e
  ·have:lo=hi:=by omega
   subst this;exact⟨h2,h3,h4⟩
def Wc{l:List Tk}(h:DY l)(s:Bs):AtT l s (HT l s):=mD h l.length 0 l.length O O (Qj _) (λi hi=>absurd hi (Nat.not_lt_zero _)) (λi u q=>O)
theorem Ou{a b:Bs}:decide (C6 a b=0)=decide (a=b):=by
 grind [C6,GN]
def Gj{l:List Tk}(h:DY l){j:Nat}(w:j<l.length):HT l (AP l j).1=j∧AN l (AP l j).1=true:=by
 have e:HT l (AP l j).1=j:=(Wc h _).uniq ⟨O,λi hi=>h i j hi w,λi u q=>by
  by_cases e:i=j
  ·rw[e];exact GN _
  ·have d:=h j i O q;have v:(AP l i).1≠(AP l j).1:=λe=>by rw[e,GN]at d;cases d
   rw[Oy v,d];rfl⟩
 refine⟨e,?_⟩;unfold AN;rw[e,Ou];simp[w]
def iS(k:Tk):Bs×Bs×List Rl:=(k.1,k.2.1,k.2.2.2)
def Nx(L M:List Tk):Prop:=L.map iS=M.map iS
def Nx.len{L M:List Tk}(h:Nx L M):L.length=M.length:=by have:=congrArg ZZ h;simpa using this
def Nx.at{L M:List Tk}(h:Nx L M)(j:Nat):(AP L j).1=(AP M j).1∧(AP L j).2.1=(AP M j).2.1∧(AP L j).2.2.2=(AP M j).2.2.2:=by
 have u:(L.map iS)[j]?=(M.map iS)[j]?:=by rw[h]
 rw[QQ,QQ]at u;unfold AP;simp only[Q3];cases hL:L[j]?<;>cases hM:M[j]?<;>rw[hL,hM]at u<;>simp[iS]at u<;>simp[u]
def bG{L M:List Tk}(h:Nx L M)(g:DY L):DY M:=λi j x w=>by
 rw[←(h.at i).1,←(h.at j).1];exact g i j x (by rw[h.len];exact w)
def Nx.mid{L M:List Tk}(h:Nx L M){k r:Tk}(s:iS k=iS r)(j:Nat):Nx (L.take j++k::L.drop j) (M.take j++r::M.drop j):=by
 simp_all [Nx]
def TG{l:List Tk}{k:Tk}(h:DY l)(r:AN l k.1=false):DY (BD l k):=by
 have ia:=Wc h k.1;have v:∀i,i<l.length->(AP l i).1≠k.1:=λi hi e=>by
  have:=(Gj h hi).2;rw[e,r]at this;cases this
 unfold BD;generalize HT l k.1=q at ia;obtain⟨hq,lo,hi⟩:=ia;have o:∀i,q<=i->i<l.length->Op.bytesLess k.1 (AP l i).1=true:=λi u z=>by
  rw[Oy (λe=>v i z e.symm),hi i u z];rfl
 intro i j x w;have y:(l.take q++k::l.drop q).length=l.length+1:=by
  grind
 rw[y]at w;have f:∀i,AP (l.take q++k::l.drop q) i=if i<q then AP l i else if i=q then k else AP l (i-1):=λi=>RY hq
 rw[f,f];by_cases a1:i<q
 ·rw[if_pos a1];by_cases g:j<q
  ·rw[if_pos g];exact h i j x O
  ·rw[if_neg g];by_cases b2:j=q
   ·simp_all
   ·rw[if_neg b2];exact h i (j-1) O O
 ·rw[if_neg a1];have g:¬j<q:=by omega
  have b2:¬j=q:=O
  rw[if_neg g,if_neg b2];by_cases t:i=q
  ·grind
  ·rw[if_neg t];exact h (i-1) (j-1) O O
def Ib(l:List Mt):Prop:=l.length<=1000∧∀m∈l,m.1.length<=1000
def jB(s:Bs):Bs:=OY 2 s.length++s
def mtB(m:Mt):Bs:=jB m.1++[UInt8.ofNat (m.2.1 % 256).toNat,if m.2.2 then 1 else 0]
def Ds(l:List Mt):Bs:=l.flatMap mtB
def Iq(s:Bs):(jB s).length=2+s.length:=by simp[jB,Lu]
def Vv(m:Mt):(mtB m).length=4+m.1.length:=by simp[mtB,Iq];omega
def NS{l:List Mt}{j:Nat}(h:j<l.length):Ds (l.take (j+1))=Ds (l.take j)++mtB (AU l j):=by
 have e:AU l j=l[j]:=by simp[AU,Qk h]
 rw[e,Ds,Ds,←List.take_append_getElem h,List.flatMap_append];simp
def RN{l:List Mt}{j:Nat}(h:j<l.length):AU l j∈l:=by simp[AU,Qk h]
def U_{l:List Mt}(h:Ib l):∀j,j<=l.length->(Ds (l.take j)).length<=1004*j
 |0,_=>by simp[Ds]
 |j+1,hj=>by
  have u:=U_ h j O;have q:=h.2 _ (RN (show j<l.length by omega));rw[NS O,Qt,Vv];omega
def P_:=y1 f28 3 [] []
def aPq:=y0 f28 [] [(3,P_)]
def aOz:=y0 f71 [] []
def Pz:=y1 f124 2 [] []
def aNR:=y0 f124 [] [(2,Pz)]
def Tu:List D->Option (List D×List Nat)
 |[.int .i64 s,.int .u64 n]=>if 1<=s∧s<=8∧0<=n then some (Aw (OY s.toNat n),[13*s.toNat])else none
 |_=>none
set_option maxHeartbeats 1000000 in
def aI7{S:GR}{fr:Id}{m0:GV}{nl0:Bool}{t0:Id}{emp:Bool}{n:Int}{sz:Nat}{Q:Ex->St->Prop}(pa:sz<=8)(w:0<=n)(na:∀i o,fr<:+i->m0 i o=none)(ab:Cg m0 5 nl0 t0 emp=true):
  ∀(k:Nat)(z:St)(nl:Bool)(t:Id)(xs:List D) g,k<=sz->xs.length+k<=200000000->(nl=true->xs=[])->z.c=5+13*(sz-k)->Gs 5 fr m0 nl0 t0 z.m z.c nl t->
   z.s 7= .int .i64 (8*(k:Int)-8)->z.s 0= .slice nl t xs->z.s 2= .int .u64 n->
   (∀x nl' t',x.s 0= .slice nl' t' (xs++Aw (OY k n))->(k=0->nl'=nl∧t'=t∧x.m=z.m∧z.c<=x.c)->(0<k->nl'=false∧t'=[13*sz]++fr∧Gd 5 fr m0 nl0 t0 x.m x.c t')->Q (.exit 0) x)->AK S fr Pz Q z g:=by
 intro k;induction k with
 |zero=>
  intro z nl t xs g _ _ _ _ r h7 y q fa;refine Af Pz.eq_1 ?_;have v:((0:Int)<=8*((0:Nat):Int)-8)=False:=eq_false Z;simp only[↓GQ,GX,Hf,simprocAttr,h7,v];exact fa _ nl t (by simp only[↓GQ,reduceIte,Ql,y,OY,Aw,Zc,List.append_nil]) (λ_=>⟨rfl,rfl,rfl,Xb⟩) (λh=>absurd h O)
 |succ k ih=>
  intro z nl t xs g j ea oa p r h7 y q fa;refine Af Pz.eq_1 ?_;have v:((0:Int)<=8*((k+1:Nat):Int)-8)=True:=eq_true O;have f:((0:Int)<=8*((k+1:Nat):Int)-8):=O
  have e:min (8*((k+1:Nat):Int)-8).toNat IntKind.u64.bits=8*k:=by
   have:IntKind.u64.bits=64:=rfl;omega
  have hw:IntKind.i64.wrap (8*((k+1:Nat):Int)-8-8)=8*(k:Int)-8:=Yb
  simp only[↓GQ,GT,simprocAttr,Qi,Qx,h7,y,q,v,e,Mr,and_false];refine aA ⟨O,rfl,Gs.grow (r.put (l:=[]) (k:=z.c+2+5) O) na ab⟩ ?_;rw[Ba oa];simp only[↓GQ,GT,simprocAttr,h7,hw];have hd:Gd 5 fr m0 nl0 t0 (Ha.app (z.m.put ((z.c+2+5)::fr) 0 [D.tok 6]) (Be 5 ((z.c+2+6)::fr) (.slice nl t xs))) (z.c+2+8+3) ((z.c+2+6)::fr):=
   Gs.app (l:=[]) (r.put (l:=[]) (k:=z.c+2+5) O) O O
  refine ih _ false ((z.c+2+6)::fr) (xs++[.int .u8 ((((n.fdiv (2 ^ (8*k))) % 256).toNat:Nat):Int)]) _ O Xc U Xb hd.gs rfl rfl q (λx nl' t' u e2 e3=>?_);refine fa x nl' t' ?_ (λh=>absurd h O) (λ_=>?_)
  ·rw[u,Q5];simp only[OY,Aw,QP];rw[toNat_ofNat O];rfl
  ·by_cases ma:k=0
   ·obtain⟨a,b,c,d⟩:=e2 ma;refine⟨a,?_,?_⟩
    ·grind
    ·rw[b,c];exact hd.more d
   ·exact e3 O
def aMu:(gQ 5 Tu).ok Qq 124:=by
 refine GI (S:=λ_=>none) AO (Al func124:Fn Qq 124 23 aNR [.t 6]) aSG (λds m fr d u h na=>?_);obtain⟨nl,t,xs,v,ys,l,rfl,hg,f,j,rfl,rfl⟩:=aSH h;unfold Tu at j;split at j
 ·rename_i s n;split at j
  ·rename_i g;obtain⟨q,w,a⟩:=g;simp only[QH,Zw]at j;obtain⟨rfl,rfl⟩:=j;refine⟨U,?_⟩;clear h;have y:((s.toNat:Nat):Int)=s:=QR O;have i:IntKind.i64.wrap (s-1)=s-1:=IntWalk.i64_in _ ⟨O,O⟩;have e:IntKind.i64.wrap (8*(s-1))=8*(s.toNat:Int)-8:=by rw[IntWalk.i64_in _ ⟨O,O⟩];omega
   unfold aNR;simp only[↓GQ,GX,simprocAttr,i,e];refine aI7 (sz:=s.toNat) O a na hg s.toNat _ nl t xs _ O O (λh=>?_) Xb Gs.start rfl rfl rfl (λz nl' b p _ c=>?_)
   ·grind [Cg]
   ·obtain⟨rfl,rfl,hd⟩:=c O;simp only[↓GQ,GX,Hf,simprocAttr,p];exact hd.fin na hg
  ·cases j
 ·cases j
def aLI:List D->Option (List D×List Nat)
 |[.str s]=>if s.length<=65535 then some (Aw (OY 2 s.length++s),[17])else none
 |_=>none
set_option maxHeartbeats 1000000 in
def aVI(c:grownQ.ok Qq 133):(cQ 5 U8 aLI).ok Qq 71:=by
 have n:GR.ok Qq (Az [(133,grownQ),(124,gQ 5 Tu)]):=Aa c (Aa (aMu) Ae);have b:Az [(133,grownQ),(124,gQ 5 Tu)] 133=some grownQ:=rfl;have a:Az [(133,grownQ),(124,gQ 5 Tu)] 124=some (gQ 5 Tu):=rfl;generalize Az [(133,grownQ),(124,gQ 5 Tu)]=S at n b a;refine GI (S:=S) n (Al func71:Fn Qq 71 22 aOz [.t 4,.t 5]) (λds m m' fr _=>rfl) (λds m fr d u h na=>?_);obtain⟨nl,t,xs,v,ys,l,rfl,x,p,j,rfl,rfl⟩:=mC h;unfold aLI at j;split at j
 ·rename_i s;split at j
  ·rename_i g;simp only[QH,Zw]at j;obtain⟨rfl,rfl⟩:=j;refine⟨U,?_⟩;clear h;have r:((65535:Int)<(s.length:Int))=False:=eq_false O;have w:IntKind.i64.wrap (2+(s.length:Int))=2+(s.length:Int):=IntWalk.i64_in _ ⟨O,O⟩;have w2:IntKind.u64.wrap (s.length:Int)=(s.length:Int):=B3 O O;have f:Tu [.int .i64 2,.int .u64 (s.length:Int)]=some (Aw (OY 2 s.length),[26]):=by
    show(if(1:Int)<=2∧(2:Int)<=8∧0<=(s.length:Int)then some (Aw (OY (2:Int).toNat (s.length:Int)),[13*(2:Int).toNat])else none)=_;rw[if_pos ⟨O,O,O⟩];rfl
   have e:∀m fr,grownQ.ex [.slice nl t xs,.int .i64 (2+(s.length:Int))] m fr=some (.slice false (0::fr) xs,[(0::fr,0,[.tok 6])]):=λm fr=>aDi O x O
   unfold aOz;simp only[↓GQ,GX,Hf,simprocAttr,A7 b,A7 a,e,r,w,w2];have z:Gd 5 fr m true [] (m.put ([0]++9::fr) 0 [.tok 6]) 10 ([0]++9::fr):=
    ⟨⟨[0],9,rfl,O⟩,by rw[Bp,if_pos ⟨rfl,rfl⟩],λi o hi=>MD i o hi⟩
   refine aNb (.inr ⟨z.tok,U⟩) U p f ?_;have ta:Gd 5 fr m true [] (Ha.app (m.put (0::9::fr) 0 [.tok 6]) (Be 5 ([26]++13::fr) (.slice false (0::9::fr) xs))) 14 ([26]++13::fr):=
    Gs.app (l:=[26]) (k:=13) z.gs O O
   simp only[↓GQ,GX,simprocAttr,false_and,BA];refine aA ⟨YS,?_,.inr ⟨ta.tok,U⟩⟩ ?_
   ·cases s<;>rfl
   simp only[↓GQ,GX,simprocAttr];refine⟨by rw[C1,Q5];rfl,?_⟩;exact(Gs.app (c':=18) (l:=[]) (k:=17) ta.gs O O).finc na
  ·cases j
 ·cases j
set_option maxRecDepth 20000 in
def aHQ(w:World)(b:Option Addr)(n c k:Nat)(cs:List Value)(hl:cs.length=n)(h1:∀v∈cs,v.oneCell'=true)(s:n+k<=140737488355328)
  (z:0<n->∃ad,b=some ad∧∀(j:Nat) v,cs[j]?=some v->w.cell? (ad.add j)=some v):
  Calls Qq 133 #[.slice b n c,.int .i64 (k:Int)] w λe w'=>e= .returned (.slice (some ⟨w.heap.size,0,none⟩) n (n+k))∧w'=(w.alloc (.cells (madeCells #[.int .u8 0] (n+k)) 5)).setRow w.heap.size (cs++(madeCells #[.int .u8 0] (n+k)).toList.drop n).toArray:=by
 have t:IntKind.i64.wrap ((n:Int)+(k:Int))=(n:Int)+(k:Int):=IntWalk.i64_in _ ⟨O,O⟩;have y:∀u:World,(Instr.makeSlice 87 (.int .i64 (n:Int)) (.int .i64 ((n:Int)+(k:Int)))).run Qq u= .ok (.slice (some ⟨u.heap.size,0,none⟩) n (n+k)) (u.alloc (.cells (madeCells #[.int .u8 0] (n+k)) 5)):=λu=>by
  have p:((n:Int)+(k:Int)).toNat=n+k:=O
  have:=run_make (P:=Qq) u 87 5 Tryz.t5 (.int .u8 0) underlying87 Xa Xa .i64 .i64 (n:Int) ((n:Int)+(k:Int)) O O (by show((1:Nat):Int)*_<=_;omega) O;simpa[show Tryz.t5.size=1 from rfl,Value.cells,p]using this
 have o:(Builtin.copy_ #[87,87] 3 #[.slice (some ⟨w.heap.size,0,none⟩) n (n+k),.slice b n c]).run Qq (w.alloc (.cells (madeCells #[.int .u8 0] (n+k)) 5))= .ok (goInt n) ((w.alloc (.cells (madeCells #[.int .u8 0] (n+k)) 5)).setRow w.heap.size (cs++(madeCells #[.int .u8 0] (n+k)).toList.drop n).toArray):=by
  have a:(w.alloc (.cells (madeCells #[.int .u8 0] (n+k)) 5)).heap[w.heap.size]?=some (.cells (madeCells #[.int .u8 0] (n+k)) 5 (0,0)):=heap_alloc_new w _;rcases Nat.eq_zero_or_pos n with h0|h0
  ·have d:cs=[]:=List.eq_nil_of_length_eq_zero O;subst d;have:=run_copy_none (P:=Qq) (w.alloc (.cells (madeCells #[.int .u8 0] (n+k)) 5)) 87 87 3 5 (some ⟨w.heap.size,0,none⟩) b n (n+k) n c underlying87 Xa (by rw[h0];rfl);rw[this,h0];simp only[QJ,Zd,Array.toArray_toList];rw[setRow_self _ _ _ 5 (0,0) (by rw[h0]at a;exact a)];rfl
  ·obtain⟨ad,rfl,g⟩:=z h0;have:=run_copy_row (P:=Qq) (w.alloc (.cells (madeCells #[.int .u8 0] (n+k)) 5)) 87 87 3 5 w.heap.size 0 n (n+k) ad n c (madeCells #[.int .u8 0] (n+k)) 5 cs underlying87 Xa a (by rw[hl];simp) (λj v i=>by rw[World.cell?_alloc_old _ _ _ (Nat.ne_of_lt (World.block_lt_of_cell? _ _ (g j v i)))];exact g j v i) (by simp[madeCells];omega) h1;rw[this,hl];simp[]
 go_enter func133,ntmps133
 go_wp2
 go_ret
 exact Qg
def Wf(w:World)(a b:Array Value)(e:TypeId):(w.alloc (.cells a e)).setRow w.heap.size b=w.alloc (.cells b e):=by
 have h:∀(F:Obj->Obj),(w.heap.push (.cells a e)).modify w.heap.size F=w.heap.push (F (.cells a e)):=by
  grind
 unfold World.setRow World.alloc;simp only[h]
def aVo:grownQ.ok Qq 133:=by
 refine⟨⟨f133,func133,rfl,Xa⟩,λds m m' fr _=>rfl,?_⟩;intro B w0 w m g fr ds vs r u hi da hl b p;simp only[grownQ]at p;split at p
 ·rename_i nl t xs k;split at p
  ·rename_i hc;obtain⟨ma,ka,hk⟩:=hc;simp only[QH,Zw]at p;obtain⟨rfl,rfl⟩:=p
   match vs,hl with
   |[v0,v1],_=>
    have aa:=b 0 _ v0 rfl rfl;have f:=(b 1 _ v1 rfl rfl).int_inv;subst f;have q:∀d∈xs,d.cells.length=1∧d.calm=true:=by
     intro d s;have:=Zg.1 ka d s;unfold Eb at this;split at this
     ·exact Qg
     ·cases this
    obtain⟨sp,c,cs,e0,wa,sa,ra⟩:∃(sp:Option Addr)(c:Nat)(cs:List Value),v0= .slice sp xs.length c∧cs.length=xs.length∧A1 w g (flat xs) cs∧
      (0<xs.length->∃ad,sp=some ad∧∀(j:Nat) v,cs[j]?=some v->w.cell? (ad.add j)=some v):=by
     cases nl with
     |true=>
      rcases aa.slice_inv with ⟨_,rfl,e⟩|⟨h,_⟩
      ·exact⟨none,0,[],e,rfl,A1.nil w g,λh=>Xf⟩
      ·cases h
     |false=>
      obtain⟨ad,n,c,sz,ws,ev,hn,fb,pa,bb,o,wa,_⟩:=aa.slice_list;subst hn;refine⟨some ad,c,ws,ev,?_,o,λ_=>⟨ad,rfl,wa⟩⟩;rw[bb];cases xs with
      |nil=>simp
      |cons x r=>
       have y:=pa x (QB ..);rw[(q x (QB ..)).1]at y;rw[←y,Nat.mul_one]
    subst e0;have ea:((k.toNat:Nat):Int)=k:=QR ma;have hw:=aHQ w sp xs.length c k.toNat cs wa sa.2.1 O ra;rw[ea]at hw;refine hw.mono ?_;rintro e w' ⟨rfl,rfl⟩;rw[Wf];have pa:(cs++(madeCells #[Value.int .u8 0] (xs.length+k.toNat)).toList.drop xs.length).toArray.size=(xs.length+k.toNat)*1:=by simp[madeCells,wa]
    have eb:∃ti z,Tryz.prog.info? 5=some ti∧ti.size=1∧ti.zero=some z∧z.cells.size=1:=⟨Tryz.t5,.int .u8 0,Xa,Xa,Xa,Xa⟩;have qa:=da (0::fr) (ZP 0 fr);have ia:=hi.newTok qa (e:=5) (n:=xs.length) (c:=xs.length+k.toNat) (sz:=1) (cur:=(cs++(madeCells #[Value.int .u8 0] (xs.length+k.toNat)).toList.drop xs.length).toArray) Z eb O Xt pa;have a:=Hk.newTok (w:=w) (t:=0::fr) (n:=xs.length) (c:=xs.length+k.toNat) (sz:=1) (Obj.cells (cs++(madeCells #[Value.int .u8 0] (xs.length+k.toNat)).toList.drop xs.length).toArray 5) hi.gz qa.2.2 rfl;refine⟨_,_,rfl,ia,a,?_,λi hf hn=>C5 hf (λh=>hn ((ZP 0 fr).trans h)) _ _ _ _ _⟩;refine aH (sz:=1) (cur:=(cs++(madeCells #[Value.int .u8 0] (xs.length+k.toNat)).toList.drop xs.length).toArray) (T:=5) (fz:=(0,0)) (heap_alloc_new w _) rfl O (λd s=>(q d s).1) (sa.ext a) (λj v hv=>?_) Xl (λ_=>Xl) (λd s=>(q d s).2);rw[List.getElem?_toArray,Za (Zu.1 hv).1];exact hv
  ·cases p
 ·cases p
def oT{d:D}{n:Bool}{t:Id}{xs ys:List D}(h:d= .slice n t xs)(e:xs=ys):d= .slice n t ys:=e▸h
def aJu{S:GR}(a:S 71=some (cQ 5 U8 aLI)){l:List Mt}{nl:Bool}{Q:Ex->St->Prop}(hl:Ib l)
  (u:∀z n t,z.s 3= .slice n t (Aw (Ds l))->Q (.exit 0) z):
  ∀(f j:Nat)(n:Bool)(t:Id)(z:St) g,l.length=j+f->z.s 3= .slice n t (Aw (Ds (l.take j)))->z.s 8= .slice nl [] (Ax l)->z.s 9= .int .i64 (l.length:Int)->z.s 10= .int .i64 (j:Int)->AK S [] P_ Q z g:=by
 intro f;induction f with
 |zero=>
  intro j n t z g hf d h8 h9 w;refine Af P_.eq_1 ?_;have:¬((j:Int)<l.length):=O
  simp only[↓GQ,GX,Hf,reduceIte,Qo,h9,w,this];rw[QZ O]at d;exact u _ n t d
 |succ f ih=>
  intro j n t z g hf d h8 h9 w;refine Af P_.eq_1 ?_;have e:j<l.length:=O
  have v:((j:Int)<l.length):=O
  have q:=nJ (j:=j);have sa:=hl.1;have i:=U_ hl j O;have o:=hl.2 _ (RN e);have x:=wJ (j:=j) O;have ia:(Ax l)[j]?=some (.agg [.str (AU l j).1,.int .i64 (AU l j).2.1,.bool (AU l j).2.2]):=C4 e;have na:=NS e;generalize AU l j=m at ia o na;obtain⟨p,k,b⟩:=m;simp only at o ia;have y:aLI [.str p]=some (Aw (jB p),[17]):=if_pos O;obtain⟨c,ga,r⟩:=z;simp only at d h8 h9 w;cases b with
  |true=>
   simp only[↓GQ,Hb,simprocAttr,h8,h9,w,d,v,q,Qp,ia,A7 a,Aj,Ar,As,Qs,Zx,Zm,ZE,Qn];refine dY (Ow _) Yc y ?_;simp only[↓GQ,Hb,simprocAttr,U8,d,and_false,Mr,Aj,Qs,and_false];refine aA ⟨YT,rfl,.inr ⟨by simp[Bp],U⟩⟩ ?_;simp only[↓GQ,GT,simprocAttr,w,x];refine ih (j+1) false _ _ _ O (oT rfl ?_) h8 h9 rfl;rw[na];simp only[mtB,C1,Q5];simp only[Aw,QP,Zc];rw[toNat_ofNat O];rfl
  |false=>
   simp only[↓GQ,Hb,simprocAttr,h8,h9,w,d,v,q,Qp,ia,A7 a,Aj,Ar,As,Qs,Zx,Zm,ZE,Qn];refine dY (Ow _) Yc y ?_;simp only[↓GQ,Hb,simprocAttr,U8,d,and_false,Mr,Aj,Qs,and_false];refine aA ⟨YT,rfl,.inr ⟨by simp[Bp],U⟩⟩ ?_;simp only[↓GQ,GT,simprocAttr,w,x];refine ih (j+1) false _ _ _ O (oT rfl ?_) h8 h9 rfl;rw[na];simp only[mtB,C1,Q5];simp only[Aw,QP,Zc];rw[toNat_ofNat O];rfl
def RR(p:Bool×List Mt):List D:=[.agg [.slice p.1 [] (Ax p.2)]]
def wL(x y:Bool×List Mt)(e:RR x=RR y):x=y:=by
 grind [RR,IE]
def aHx:List D->Option D:=FX RR (λp=>Ib p.2) (λp=> .str (Ds p.2))
def WA{n:Bool}{l:List Mt}(h:Ib l):aHx [.agg [.slice n [] (Ax l)]]=some (.str (Ds l)):=BG (mk:=RR) (a:=(n,l)) wL h
def aBU:Kq aHx 28:=by
 obtain⟨S,v,hl⟩:=A4 (Aa (aVI aVo) Ae);have a:=hl 71 _ rfl;clear hl;refine B1 v (Al func28:Fn Qq 28 35 aPq [.t 2]) (λ_=>by simp[RR]) (λp o=>?_);obtain⟨n,l⟩:=p;have hl:Ib l:=o;unfold aPq RR;simp only[↓GQ,GX,Hx,simprocAttr,AC,Aj,Qm,QT,Hs,QF,and_self];refine aJu a hl (λz u i e=>?_) l.length 0 true [] _ _ O rfl rfl rfl rfl;simp only[↓GQ,GX,Hx,simprocAttr,e,aFq,Ci,and_self]
def msO(o:Oc)(nl:Bool)(l:List Mt):Oc:={o with vw:={o.vw with nlm:=nl,ms:=l}}
def wG(o:Oc)(nl:Bool)(l:List Mt):Oc:={(msO o nl l).op 1 (A9 4 [] 0) (Ds l)with rep:=NM .done}
def umO(o:Oc)(nl:Bool)(l:List Mt)(p:Bs):Oc:={((((msO o nl l).op 1 (A9 4 [] 0) (Ds l)).op 3 ([109,47]++p++[47]) []).op 3 ([100,47]++p++[47]) [])with rep:=NM .done}
def S58:=Az [(82,Ac F45),(176,wQ W54),(245,Ac S2),(28,Ac aHx),(244,wQ mO),(178,wQ W56)]
def W58:Wb->Oc->List D->Option WY:=RW S58 aX9 [] 48
def bAj:(wQ W58).ok Qq 180:=FZ (Al func180) (Aa aVa (Aa aRE (Aa Ub (Aa aBU (Aa qI (Aa bAk Ae))))))
def aTb(w:Wb)(o:Oc)(da:Bool)(l2:List Mt)(fa:F45 [.agg [.slice w.v.nlm [] (Ax w.v.ms)],.agg [.str w.a.pa,.int .i64 w.a.n,.bool w.a.fl]]=some (.tup [.agg [.slice da [] (Ax l2)],.int .i64 0]))(r:Oc0 o)(y:Ib l2):W58 w o []=some (.tup [],wG o da l2,some ([11,42])):=by
 refine C8 (λ_=>r.ops) ⟨Qh rfl,λh=>Xd,λl h=>Yo,λi m fr t q na k n0=>?_⟩;have d:=Wt.start q na;unfold aX9;have z:=CM q.1;have s:=FI 4 0 [] U;have x:=s;have b:=WA (n:=da) y;have g:=Rc w (msO o da l2) 1 (A9 4 [] 0) (Ds l2) (λ_=>r.ops) (by show o.ops.length<=_;rw[r.ops];simp);have c:=aTc w ((msO o da l2).op 1 (A9 4 [] 0) (Ds l2)) (λh=>Xd);simp only[GU,↓GQ,GS,simprocAttr,z,Ad S58 82,fa];refine feN ?_;simp only[GU,↓GQ,GS,simprocAttr,z,n0,Ad S58 245,x,Ad S58 28,b,Bu S58 244];refine Lq (d.put.put.cellp (p:=28) (ys:=[.slice da [] (Ax l2)]) (o':=msO o da l2) (Qh rfl) rfl rfl rfl) g (λM u e c1 c2=>?_);simp only[↓GQ,GX,Hx,simprocAttr];refine feN ?_;simp only[↓GQ,GX,Hf,simprocAttr,Bu S58 178];refine BF c1 c (λj d1 d2=>?_);simp only[↓GQ,GX,simprocAttr];exact d1.endl (l:=[11,42]) U
def S19:=Az [(175,Ac F25),(180,wQ W58),(185,wQ W63),(186,wQ W64)]
def R19:=RF S19 aYu [.cell (some 9) 6] 88
def bAo:Kq R19 111:=Av (Al func111) (Aa aZ2 (Aa bAj (Aa bAi (Aa bAh Ae))))
def HH(v:Vw):Oc:=⟨[],false,[],true,[],v⟩
def Mm(o:Oc):List D:=[.str o.need,.bool o.li,.str o.rep,.slice o.nl [] (opsD o.ops)]++HG o.vw
def aQC{m:GV}{i:Id}{w:Wb}{o o':Oc}{k:Nat}{d:D}{ol:Option (List Nat)}(r:o.nl=true)(hi:∀l,i≠l++[k]):Ai (Ha.app m (WO i w o [] [k] (d,o',ol))) i 0 30=some (HL w o' (OO [] [k] ol)):=by
 cases ol with
 |none=>exact Ht (Dn _ _ _)
 |some l=>
  show Ai _ i 0 30=some (HL w o' (l++[k]));rw[←Ht (m:=m) (i:=i) (Dn w o' (l++[k]))];refine B_ (λq z=>?_);have b:q.1=i:=E8 z;show Ha.app (m.put i 0 (HL w o' (l++[k]))) (Be 88 (l++[k]) (.slice o.nl [] (opsD o.ops))) q.1 q.2=_;rw[Gq,b,if_neg (λe=>hi l e.1),if_neg (λe=>by rw[r]at e;cases e.1)]
def aHU{m:GV}{i j:Id}{w:Wb}{o o':Oc}{k x:Nat}{d:D}{ol:Option (List Nat)}(r:o.nl=true)(hi:∀l,j≠l++[k])(hj:j≠i):Ha.app m (WO i w o [] [k] (d,o',ol)) j x=m j x:=by
 cases ol with
 |none=>exact aB hj
 |some l=>
  show Ha.app (m.put i 0 (HL w o' (l++[k]))) (Be 88 (l++[k]) (.slice o.nl [] (opsD o.ops))) j x=_;rw[Gq,if_neg (λe=>hi l e.1),if_neg (λe=>by rw[r]at e;cases e.1),aB hj]
def aBS{a k:Nat}(h:a≠k):∀l:List Nat,([a]:Id)≠l++[k]:=λl e=>h (by have:=congrArg List.getLast? e;simpa using this)
def aJR{i:Id}{m:GV}{w:Wb}{o o':Oc}{v:List D}{d:D}{ol:Option (List Nat)}{F:Wb->Oc->List D->Option WY}{S:GR}{c k n:Nat}{ops l:List DOper}{s:Nat->D}{dst:Option Nat}{K:Nat->(Nat->D)->GV->Prop}{g}
  (y:F w o v=some (d,o',ol)) (z:rR m i (w,o,[])) (r:o.nl=true) (hi:∀l,i≠l++[n])
  (h:∀M,Ai M i 0 30=some (HL w o' (OO [] [n] ol))->(∀j x,(∀l,j≠l++[n])->j≠i->M j x=m j x)->F_ S [] c ops l k (AG s dst d) M K):
  Hl ((wQ F).ex (.ptr i 0::v) m [n]) (λx=>bK S [] c ops l k s dst m K x.1 x.2) g:=
 qP z y (h _ (aQC r hi) (λ_ _ u q=>aHU r u q))
inductive MO (v:Vw):Int->Oc->List D->(Wb->Oc->List D->Option WY)->Prop
 |o5:MO v 5 (HH v) [] W58
 |o9:MO v 9 (HH v) [] W63
 |o10:MO v 10 (HH v) [] W64
def mZ{v:Vw}{op:Int}{u:Oc}{y:List D}{W:Wb->Oc->List D->Option WY}(t:MO v op u y W)(a:Ak)(k:Kn)(f:a.op=op)(p:F25 [HN v,Hu a]=some (.int .i64 0))(e:Oc)(ol:Option (List Nat))(hm:W ⟨v,a,k⟩ u y=some (.tup [],e,ol)):R19 [HN v,Hu a,.agg (Ie k)]=some (.agg (Mm e)):=by
 refine Aq (Qh rfl) ?_;unfold aYu;obtain⟨op,j,c,i,n,cas,fl,b,ns,r,m,rs,key⟩:=a;simp only at f;subst f;unfold HN Hu at *;unfold HG Hq Ie at *;cases t<;>simp only[GU,↓GQ,GS,simprocAttr,Ad S19 175,p,Bu S19 180,Bu S19 185,Bu S19 186]
 all_goals
  refine aJR hm ⟨by first|exact Ht rfl|exact(jF (show Ai _ [10] 0 30=some (HL ⟨v,⟨_,j,c,i,n,cas,fl,b,ns,r,m,rs,key⟩,k⟩ (HH v) [])from Ht rfl) (Qh rfl)).trans rfl,rfl,λ_=>rfl⟩ rfl (aBS Z) (λM c1 c2=>?_);have g:=CM c1;have q:∀x,M [3] x=_:=λx=>c2 [3] x (aBS Z) Z
  simp only[GU,↓GQ,GS,simprocAttr,g,q]
  all_goals exact Qd
def aXE(l:List Tk)(s:Bs):List Bs:=(l.filter λt=>decide (t.2.1=s)&&decide (t.1≠s)).map (·.1)
def aXV(l:List Tk):Nat->Bs->List Bs
 |0,s=>[s]
 |f+1,s=>s::(aXE l s).flatMap (aXV l f)
structure rV (l:List Tk) (r:Bs->Nat):Prop where
 up:∀t∈l,r t.2.1<r t.1
 top:∀t∈l,r t.1<=l.length
 one:l.Pairwise λt u=>t.1≠u.1
def rV.eq{l:List Tk}{r:Bs->Nat}(h:rV l r){t u:Tk}(w:t∈l)(n:u∈l)(e:t.1=u.1):t=u:=by
 have y:=h.one;clear h;induction l with
 |nil=>cases w
 |cons a l ih=>
  rw[QU]at y;rcases QM.1 w with ht'|ht'
  ·grind
  ·grind
inductive nP (l:List Tk) (s:Bs):Bs->Prop
 |refl:nP l s s
 |step (t:Tk):t∈l->nP l s t.2.1->nP l s t.1
def nP.trans{l:List Tk}{a b c:Bs}(h:nP l a b)(k:nP l b c):nP l a c:=by
 induction k with
 |refl=>exact h
 |step t w _ ih=>exact .step t w ih
section
variable{l:List Tk}{r:Bs->Nat}(T:rV l r)
include T
omit T in
omit T in
end
end Go.Vd
namespace Go.Proofs
open Go.Shelf
end Go.Proofs
namespace Go.Vd
open Go.Proofs Go.RowKit
def Gh.base(G:Nat->Nat):Gh:={G:=G,G0:=G,dl:=λ_=>none,tb:=λ_=>none}
theorem MI {P : Program} {f : FuncId} {F : List D → Option D} (ja : ∃ fn, P.funcs[f]? = some fn ∧ fn.body.isSome = true ∧ (fn.name == "runtime.NumGoroutine") = false)
  (h : ∀ ds r, F ds = some r → ∀ (vs : List Value) (w : World) (G : Nat → Nat), vs.length = ds.length → (∀ (j : Nat) d v, ds[j]? = some d → vs[j]? = some v → Rep w (Gh.base G) d v) → (∀ b, w.heap.size ≤ b → G b = 0) →
   r.calmR = true ∧ Calls P f vs.toArray w fun e w' => ∃ v G', e = .returned v ∧ Below w.heap.size w w' ∧ (∀ b, w'.heap.size ≤ b → G' b = 0) ∧ (∀ b, b < w.heap.size → G' b = G b) ∧ Rep w' (Gh.base G') r v) : (Ac F).ok P f := by
 refine ⟨ja, fun ds m m' fr _ => rfl, ?_⟩
 intro B w0 w m g fr ds vs r u hi t hl fa z
 simp only [Ac] at z
 split at z
 ·rename_i q
  rw [Q_] at z
  obtain ⟨r', hr, z⟩ := z
  simp only [Zw] at z
  obtain ⟨rfl, rfl⟩ := z
  have na : ∀ (j : Nat) d v, (ds.map D.un)[j]? = some d → vs[j]? = some v → Rep w (Gh.base g.G) d v := by
   intro j d v s y
   have p := Zg.1 q d (List.mem_of_getElem? s)
   rw [QQ, Q_] at s
   obtain ⟨d', x, rfl⟩ := s
   exact (fa j d' v x y).un.calm_to p (fun _ _ => rfl) (fun _ => Qj _)
  obtain ⟨n, p⟩ := h _ _ hr vs w g.G (by rw [QC]; exact hl) na hi.gz
  refine p.mono ?_
  rintro e w' ⟨v, G', rfl, k, hz, ho, a⟩
  have c : ∀ b, (g.glue w G').G b = G' b := by
   grind [Gh.glue]
  refine ⟨v, g.glue w G', rfl, hi.glue k hz, Hk.glue hi.gz k, ?_, fun i o _ => o⟩
  exact a.calmR_to n (fun _ _ => rfl) (fun b => by rw [c]; exact Qj _)
 ·cases z
def F6{P:Program}{f:FuncId}{F:List D->Option D}(z:(Ac F).ok P f){ds:List D}{r:D}(y:F ds=some r)(n:ds.all D.calm=true)(t:ds.map D.un=ds){vs:List Value}{w:World}{G:Nat->Nat}
  (hl:vs.length=ds.length) (m:∀(j:Nat) d v,ds[j]?=some d->vs[j]?=some v->Rep w (Gh.base G) d v) (q:∀b,w.heap.size<=b->G b=0):
  Calls P f vs.toArray w λe w'=>∃v c,e= .returned v∧Below w.heap.size w w'∧Rep w' c r v:=by
 have ua:Hc P w.heap.size w (λ_ _=>none) w (Gh.base G):=
  ⟨Below.refl _ _,Qj _,q,λ_ _=>rfl,λi b h=>XG,λi a b h=>XG,λi o d h=>Xf,λi e h=>Xf,λi a e e' b x x' h=>Xf,λi s p h=>Xf,λi a s p k p' b x x' h=>Xf⟩
 refine(z.run (fr:=[0]) (ds:=ds) (r:=r) (u:=[]) ua (λi _=>⟨λ_=>rfl,rfl,rfl⟩) hl m ?_).mono ?_
 ·grind [Ac]
 ·rintro e w' ⟨v,c,rfl,g⟩;exact⟨v,c,rfl,g.inv.below,g.rep⟩
def OM{P:Program}{f:FuncId}{F:List D->Option D}(q:(Ac F).ok P f){ds:List D}{r:D}(hF:F ds=some r)(o:ds.all (λd=>match d with| .str _| .int _ _| .bool _=>true|_=>false)=true)(w:World):
  Calls P f (ds.map plV).toArray w λe w'=>∃v c,e= .returned v∧Below w.heap.size w w'∧Rep w' c r v:=by
 have u:∀d∈ds,d.calm=true∧d.un=d∧∀w g,Rep w g d (plV d):=by
  intro d z;have:=Zg.1 o d z;cases d with
  |str s=>exact⟨rfl,rfl,λw g=> .str s⟩
  |int k n=>exact⟨rfl,rfl,λw g=> .int k n⟩
  |bool b=>exact⟨rfl,rfl,λw g=> .bool b⟩
  |_=>cases this
 refine F6 q hF (Zg.2 λd z=>(u d z).1) ?_ (G:=λ_=>0) U (λj d v z y=>?_) (λ_ _=>rfl)
 ·conv=>rhs;rw[←List.map_id ds]
  exact List.map_congr_left λd z=>(u d z).2.1
 ·grind
def V3:=y1 f61 5 [] []
def V2:=y1 f61 13 [] []
def aOx:=y0 f61 [] [(5,V3),(13,V2)]
def aPo:=y0 f23 [] []
def MA(s:Bs):Bs:=OY 2 (s.length:Int)++s
def BT(l:List Bs):Bs:=l.flatMap MA
def OL(l:List Bs)(s:Bs):BT (l++[s])=BT l++OY 2 (s.length:Int)++s:=by simp[BT,MA]
def L0:∀{l:List Bs},(∀s∈l,s.length<=60000)->(BT l).length<=60002*l.length
 |[],_=>by simp[BT]
 |x::r,h=>by
  have ih:=L0 (l:=r) (λs g=>h s (QL _ g));have f:=h x QB;have e:BT (x::r)=MA x++BT r:=by simp[BT]
  rw[e];simp only[Qt,MA,Lu,Qi];omega
def aYW:=Az [(124,gQ 5 Tu)]
def aK1:=RF aYW aOx [.t 2,.t 3] 46
def aXp:Kq aK1 61:=Av (Al func61) (Aa aMu Ae)
def aK0(nl:Bool)(l:List Bs)(hl:l.length<=1024)(hs:∀s∈l,s.length<=60000):aK1 [.slice nl [] (AL l)]=some (.tup [.slice false [] (Aw (BT l)),.int .i64 0]):=by
 refine Aq (Qh rfl) ?_;unfold aOx;have ea:((1024:Int)<(l.length:Int))=False:=eq_false O;simp only[↓GQ,GX,Hf,GS,reduceIte,Ql,Qo,reduceCtorEq,Bb,ea];refine By (n:=l.length) (I:=λj z=>z.s 13= .slice nl [] (AL l)∧z.s 14= .int .i64 l.length∧z.s 15= .int .i64 (j:Int)∧z.s 0= .slice nl [] (AL l)∧∃a:Int,z.s 4= .int .i64 a∧0<=a∧a<=60002*(j:Int)) (λj hj ih z g hI=>?_) (λz g hI=>?_) 0 (Qm _) _ _ ⟨rfl,rfl,rfl,rfl,0,rfl,O,O⟩
 ·obtain⟨ja,ga,da⟩:=z;obtain⟨pa,d,e,y,a,h4,p,w⟩:=hI;simp only at pa d e y h4;refine Af V3.eq_1 ?_;have v:((j:Int)<(l.length:Int))=True:=eq_true O;have ma:=nJ (j:=j);have hw:IntKind.i64.wrap ((j:Int)+1)=((j+1:Nat):Int):=by rw[Hg O O];omega
  have ia:=Ik (l:=l) (j:=j) hj;have u:=hs l[j] (QG hj);generalize l[j]=x at ia u;have hb:((65535:Int)<(x.length:Int))=False:=eq_false O;have w1:IntKind.i64.wrap (2+(x.length:Int))=2+(x.length:Int):=Hg O O;have w2:IntKind.i64.wrap (a+(2+(x.length:Int)))=a+(2+(x.length:Int)):=Hg O O;simp only[↓GQ,GT,GS,reduceIte,Ql,Qo,pa,d,e,h4,v,ma,Qp,ia,hb,w1,w2,hw];exact ih _ _ ⟨pa,d,rfl,y,_,rfl,O,O⟩
 ·obtain⟨ja,ga,da⟩:=z;obtain⟨pa,d,e,y,a,h4,p,w⟩:=hI;simp only at pa d e y h4;refine Af V3.eq_1 ?_;have r:¬(a<0):=by omega
  simp only[↓GQ,GT,GS,reduceIte,Ql,Qo,Ze,d,e,h4,Zi,p];refine aA (by have e2:((1:Nat):Int)+1=2:=rfl;rw[e2];omega) ?_;simp only[↓GQ,GX,GS,reduceIte,Ql,Qo,reduceCtorEq,y,Bb,Int.toNat_zero,List.replicate_zero];refine By (n:=l.length) (I:=λj z=>z.s 30= .slice nl [] (AL l)∧z.s 31= .int .i64 l.length∧z.s 32= .int .i64 (j:Int)∧∃t,z.s 7= .slice false t (Aw (BT (l.take j)))∧Gd 5 [] (λ_ _=>none) true [] z.m z.c t) (λj hj ih z g hI=>?_) (λz g hI=>?_) 0 (Qm _) _ _ ⟨rfl,rfl,rfl,_,rfl,⟨[],_,rfl,Xb⟩,XU,λi o hi=>absurd ⟨i,U⟩ hi⟩
  ·obtain⟨ja,ga,da⟩:=z;obtain⟨f,q,b,t,h7,hG⟩:=hI;simp only at f q b h7 hG;refine Af V2.eq_1 ?_;have v:((j:Int)<(l.length:Int))=True:=eq_true O;have ma:=nJ (j:=j);have hw:IntKind.i64.wrap ((j:Int)+1)=((j+1:Nat):Int):=by rw[Hg O O];omega
   have ia:=Ik (l:=l) (j:=j) hj;have u:=hs l[j] (QG hj);have na:l.take (j+1)=l.take j++[l[j]]:=QD hj;have ta:(BT (l.take j)).length<=60002*j:=by
    have:=L0 (l:=l.take j) (λs hh=>hs s (ZF hh));rw[ZQ]at this;omega
   generalize l[j]=x at ia u na;have wu:IntKind.u64.wrap (x.length:Int)=(x.length:Int):=by
    unfold IntKind.wrap;simp only;rw[show IntKind.u64.bits=64 from rfl,show IntKind.u64.signed=false from rfl,ZD,if_neg Bool.false_ne_true];omega
   have hF:Tu [.int .i64 2,.int .u64 (x.length:Int)]=some (Aw (OY 2 (x.length:Int)),[26]):=by
    show(if 1<=(2:Int)∧(2:Int)<=8∧0<=(x.length:Int)then some (Aw (OY (2:Int).toNat (x.length:Int)),[13*(2:Int).toNat])else none)=_;rw[if_pos ⟨O,O,O⟩];rfl
   have ha:=hG.gs;have ab:Cg (λ_ _=>none) 5 true [] true=true:=rfl;simp only[↓GQ,GT,GS,reduceIte,Ql,Qo,f,q,b,h7,v,ma,Qp,ia,wu,Bu aYW 124];refine aNb (ha.grow (λ_ _ _=>rfl) ab) (λh=>Xd) (by simp[Aw];omega) hF ?_;have hA:=ha.app (k:=da+1+3+4) (c':=da+1+3+5) (l:=[26]) (xs:=Aw (BT (l.take j))) O O;simp only[↓GQ,GX,Hx,GS,reduceIte,Ql,Qo];refine aA ⟨by simp only[Qt,Aw,QC,Lu];omega,by cases x<;>rfl,hA.gs.grow (λ_ _ _=>rfl) ab⟩ ?_;have hB:=hA.gs.app (k:=da+1+3+6+2) (c':=da+1+3+6+3) (l:=[]) (xs:=Aw (BT (l.take j))++Aw (OY 2 (x.length:Int))) O O;simp only[↓GQ,GX,GS,reduceIte,Ql,Qo,b,hw];refine ih _ _ ⟨f,q,rfl,_,?_,hB.more Xb⟩;rw[na,OL];show D.slice _ _ _=_;simp[Aw]
  ·obtain⟨ja,ga,da⟩:=z;obtain⟨f,q,b,t,h7,hG⟩:=hI;simp only at f q b h7 hG;refine Af V2.eq_1 ?_;rw[Q9]at h7;simp only[↓GQ,GT,GS,reduceIte,Ql,Qo,q,b,h7,Zi]
   all_goals exact Qd
def aKq:=Az [(59,Ac NK),(60,Ac nM),(61,Ac aK1)]
def aLf:=RF aKq aPo [.t 2,.t 3] 31
def aXB:Kq aLf 23:=Av (Al func23) (Aa aBV (Aa aMD (Aa aXp Ae)))
def aLe(n p:Bs)(a:Bool)(rs:List Rl)(u:Bs)(m:Int)(v:NK [.agg [.str n,.str p,.slice a [] (Am rs)]]=some (.int .i64 0))(e:nM [.slice a [] (Am rs)]=some (.tup [.str u,.int .i64 m]))(o:p.length<=60000)(j:u.length<=60000):aLf [.agg [.str n,.str p,.slice a [] (Am rs)]]=some (.tup [.str (BT [p,u]),.int .i64 0]):=by
 refine Aq (Qh rfl) ?_;unfold aPo;have b:aK1 [.slice false [] [.str p,.str u]]=some (.tup [.slice false [] (Aw (BT [p,u])),.int .i64 0]):=aK0 false [p,u] U (by
  intro s g;simp only[QM,ZR,or_false]at g;rcases g with rfl|rfl
  ·exact o
  ·exact j)
 simp only[GU,↓GQ,GS,reduceIte,Ql,Qo,Zn,Ad aKq 59,v,Ad aKq 60,e,Ad aKq 61,b,Ci]
 all_goals exact Qd
def ksO(o:Oc)(nl:Bool)(l:List Tk):Oc:={o with vw:={o.vw with nlt:=nl,ks:=l}}
def mkO(o:Oc)(nl:Bool)(l:List Tk)(n r:Bs):Oc:={(ksO o nl l).op 1 (A9 3 n 0) r with rep:=NM .done}
def aNx:=y0 f290 [] []
def aNP:=y0 f217 [] []
def aC3:∀(l:Bs)(c:UInt8),Lib.indexByte l c=-1∨(0<=Lib.indexByte l c∧Lib.indexByte l c<(l.length:Int))
 |[],_=> .inl rfl
 |b::l,c=>by
  have ih:=aC3 l c;simp only[Lib.indexByte,beq_iff_eq,Qi];split
  ·omega
  ·omega
def BY(s:Bs)(c:UInt8):Bs×Bs×Bool:=if Lib.indexByte s c<0 then(s,[],false)else(s.take (Lib.indexByte s c).toNat,s.drop ((Lib.indexByte s c).toNat+1),true)
def aZo{s:Bs}{c:UInt8}:IX [.str s,.str [c]]=some (.int .i64 (Lib.indexByte s c)):=rfl
def aTj:=Az [(298,Ac IX)]
def aTy:=RF aTj aNx [.t 4,.t 5,.t 6] 23
def aWS:Kq aTy 290:=Av (Al func290) (Aa aWV Ae)
def aKw(s:Bs)(c:UInt8)(hl:s.length<=1000000):aTy [.str s,.str [c]]=some (.tup [.str (BY s c).1,.str (BY s c).2.1,.bool (BY s c).2.2]):=by
 refine Aq (Qh rfl) ?_;unfold aNx;have a:=aZo (s:=s) (c:=c);have f:=aC3 s c;unfold BY;generalize Lib.indexByte s c=q at *;by_cases z:q<0
 ·have d:((0:Int)<=q)=False:=eq_false O;rw[if_pos z];simp only[↓GQ,GT,GS,simprocAttr,Ad aTj 298,a,d]
  all_goals exact Qd
 ·have d:(0:Int)<=q:=by omega
  have n:(q<=(s.length:Int))=True:=eq_true O;have m:(q+1<=(s.length:Int))=True:=eq_true O;have e3:(0:Int)<=q+1:=O
  have b:(q+1).toNat=q.toNat+1:=O
  have g:q.toNat<=s.length:=O
  have b2:q.toNat+1<=s.length:=O
  have t:IntKind.i64.wrap (q+1)=q+1:=Hg O O;have y1:((1:Nat):Int)=1:=rfl;have x:List.take (s.length-(q.toNat+1)) (s.drop (q.toNat+1))=s.drop (q.toNat+1):=QZ XN;rw[if_neg z];simp only[↓GQ,GT,GS,simprocAttr,Ad aTj 298,a,d,n,m,e3,b,t,y1,x,Zd,Qi,Qx];refine aA (λp o=>by cases o) ?_;simp only[↓GQ,GT,GS,simprocAttr]
  all_goals exact Qd
def aYO:=Az [(290,Ac aTy)]
def aTE:=RF aYO aNP [.t 4,.t 5,.t 6] 13
def aW2:Kq aTE 217:=Av (Al func217) (Aa aWS Ae)
def aKG(s:Bs)(c:UInt8)(hl:s.length<=1000000):aTE [.str s,.str [c]]=some (.tup [.str (BY s c).1,.str (BY s c).2.1,.bool (BY s c).2.2]):=by
 refine Aq (Qh rfl) ?_;unfold aNP;have a:=aKw s c hl;simp only[↓GQ,GT,GS,simprocAttr,Ad aYO 290,a]
 all_goals exact Qd
end Go.Vd
namespace Go.Vd
open Go.Proofs Go.RowKit Go.Sort Go.Shelf
def IM{B:Nat}{w w':World}(h:Below B w w')(y:w.heap.size<=B)(row:Option Nat)(g:w.heap.size<=w'.heap.size):w.grownBy w' row:=⟨h.os,h.tape,h.output,g,λk s _=>h.block k O⟩
def Gm{w k:World}{a:Addr}{v:Value}(f:Below w.heap.size w k)(h:w.cell? a=some v):k.cell? a=some v:=(f.cell (World.block_lt_of_cell? _ _ h)).trans h
abbrev pB(b:Nat):Value:= .pointer (some ⟨b,0,none⟩)
section
variable(w0:World)(bg bs bt b4:Nat)(l:List Tk)(ao:Option Addr)(c:Nat)
structure HU (w:World) (vg:Value) (xs:List Bs):Prop where
 own:w.ownsRow w0.heap.size 9 1 vg xs.length (xs.map encStr)
 g:w.heap[bg]?=some (.cells #[vg] 160 (0,0))
 s:w.heap[bs]?=some (.cells #[.slice ao l.length c] 40 (0,0))
 t:w.heap[bt]?=some (.cells #[.func (.func 312) #[] #[pB bg,pB bs,pB bt]] 396 (0,0))
 nl:vg= .slice none 0 0↔xs=[]
 r:w.heap[b4]?=some (.cells #[.slice none 0 0] 40 (0,0))
 below:Below w0.heap.size w0 w
def aQ6{w:World}{B e y n b:Nat}{v:Value}{xs:List Value}{cs:Array Value}{T:TypeId}{fr:Nat×Nat}(h:w.ownsRow B e y v n xs)(f:w.heap[b]?=some (.cells cs T fr))(m:T≠e):some b≠v.ownBlock:=by
 rcases h.2 with ⟨rfl,_⟩|⟨g,cap,cur,rfl,_,a,_⟩
 ·intro h;cases h
 ·intro h;simp only[Value.ownBlock,QH]at h;subst h;rw[f]at a;simp only[QH,Obj.cells.injEq]at a;exact m a.2.1
variable{w0 bg bs bt b4 l ao c}
def HU.app{w w3:World}{vg v':Value}{xs:List Bs}{o:Obj}{name:Bs}(h:w0.heap.size<=bg)(T:HU w0 bg bs bt b4 l ao c w vg xs)(fa:w3.ownsRow w0.heap.size 9 1 v' (xs.length+1) (xs.map encStr++[encStr name]))(a:(w.alloc o).grownBy w3 vg.ownBlock)(oa:v'= .slice none 0 0↔vg= .slice none 0 0∧(1:Nat)=0):
  ∃g cap,v'= .slice (some ⟨g,0,none⟩) (xs.length+1) cap∧w3.cell? ⟨bg,0,none⟩=some vg∧w3.frozen? ⟨bg,0,none⟩=false∧(w3.setCell ⟨bg,0,none⟩ v').cell? ⟨bs,0,none⟩=some (.slice ao l.length c)∧HU w0 bg bs bt b4 l ao c (w3.setCell ⟨bg,0,none⟩ v') v' (xs++[name]):=by
 have hl:∀{b:Nat} {cs:Array Value} {T:TypeId},w.heap[b]?=some (.cells cs T (0,0))->T≠9->w3.heap[b]?=some (.cells cs T (0,0)):=λ{b cs Ty} hb hT=>by
  have v:b<w.heap.size:=(Qv.1 hb).1;rw[a.block b Xc (aQ6 T.own hb hT),heap_alloc_old w o v];exact hb
 have p:=hl T.g Z;have s1:=hl T.s Z;have t1:=hl T.t Z;have r1:=hl T.r Z;have la:v'≠ .slice none 0 0:=λe=>by have:=(oa.1 e).2;omega
 rcases fa.2 with ⟨y,_⟩|⟨g,cap,cur,hv,f,hb,u,q,m,x⟩
 ·exact absurd y la
 have d:g≠bg:=λe=>by
  subst e;rw[p]at hb;simp only[QH,Obj.cells.injEq]at hb;exact absurd hb.2.1 Z
 have z:∀k,k≠bg->(w3.setCell ⟨bg,0,none⟩ v').heap[k]?=w3.heap[k]?:=λk j=>heap_setCell_other w3 ⟨bg,0,none⟩ k _ j
 have ia:bs≠bg:=λe=>by have:=T.s;rw[e,T.g]at this;simp at this
 have n:bt≠bg:=λe=>by have:=T.t;rw[e,T.g]at this;simp at this
 have i:b4≠bg:=λe=>by have:=T.r;rw[e,T.g]at this;simp at this
 have s2:(w3.setCell ⟨bg,0,none⟩ v').heap[bs]?=some (.cells #[.slice ao l.length c] 40 (0,0)):=(z bs ia).trans s1;refine⟨g,cap,hv,by simp[World.cell?,p],by simp[World.frozen?,p],by simp[World.cell?,s2],⟨?_,?_,s2,(z bt n).trans t1,⟨λe=>absurd e la,λe=>by simp at e⟩,(z b4 i).trans r1,?_⟩⟩
 ·refine⟨U,.inr ⟨g,cap,cur,by rw[hv];simp,f,?_,XQ,q,m,by simpa using x⟩⟩;rw[z g d];exact hb
 ·rw[heap_setCell_same w3 bg 0 _ _ _ p];rfl
 ·exact((T.below.alloc T.below.size o).grown a (by have:=T.below.size;simp;omega) (λk j=>(T.own.lt k j).1)).setCell h _
def aFz(a:Addr)(n j:Nat):(a.add n).add j=a.add (n+j):=by
 unfold Addr.add;by_cases u:n=0
 ·subst u;simp
 ·grind
def aYL(w0:World)(G:Nat->Nat)(l:List Tk)(i:Option Addr):Prop:=∀j k,l[j]?=some k->∃a t q r,i=some a∧w0.cell? (a.add (j*3))=some (encStr k.1)∧w0.cell? (a.add (j*3+1))=some (encStr k.2.1)∧w0.cell? (a.add (j*3+2))=some (.slice t q r)∧Rep w0 (Gh.base G) (.slice k.2.2.1 [] (Am k.2.2.2)) (.slice t q r)
def aYL.load{G:Nat->Nat}{w:World}{j:Nat}{k:Tk}(h:aYL w0 G l ao)(f:Below w0.heap.size w0 w)(d:l[j]?=some k):∃a t q r,ao=some a∧w.cell? (a.add (j*3))=some (encStr k.1)∧w.cell? ⟨(a.add (j*3)).block,(a.add (j*3)).off+1,none⟩=some (encStr k.2.1)∧w.cell? ⟨(a.add (j*3)).block,(a.add (j*3)).off+2,none⟩=some (.slice t q r)∧Rep w0 (Gh.base G) (.slice k.2.2.1 [] (Am k.2.2.2)) (.slice t q r):=by
 obtain⟨a,t,q,r,e,c1,c2,n,u⟩:=h j k d;have p:∀i,i≠0->(⟨(a.add (j*3)).block,(a.add (j*3)).off+i,none⟩:Addr)=a.add (j*3+i):=λi hi=>by
  rw[←aFz];generalize a.add (j*3)=b;unfold Addr.add;rw[if_neg hi]
 refine⟨a,t,q,r,e,Gm f c1,?_,?_,u⟩
 ·rw[p 1 Z];exact Gm f c2
 ·rw[p 2 Z];exact Gm f n
def HU.alloc{w:World}{u:Value}{xs:List Bs}(T:HU w0 bg bs bt b4 l ao c w u xs)(o:Obj):HU w0 bg bs bt b4 l ao c (w.alloc o) u xs:=
 have hl:∀{b:Nat} {x:Obj},w.heap[b]?=some x->(w.alloc o).heap[b]?=some x:=λ{b x} h=>by
  rw[heap_alloc_old w o (Qv.1 h).1];exact h
 ⟨T.own.alloc o,hl T.g,hl T.s,hl T.t,T.nl,hl T.r,T.below.alloc T.below.size o⟩
def HU.kept{w w':World}{u:Value}{xs:List Bs}{row:Option Nat}(T:HU w0 bg bs bt b4 l ao c w u xs)(h:w.grownBy w' row)(j:∀(b:Nat) cs v,w.heap[b]?=some (.cells cs v (0,0))->v≠68->some b≠row)(y:∀k,row=some k->w0.heap.size<=k):HU w0 bg bs bt b4 l ao c w' u xs:=by
 have hl:∀{b:Nat} {cs:Array Value} {T:TypeId},w.heap[b]?=some (.cells cs T (0,0))->T≠68->w'.heap[b]?=some (.cells cs T (0,0)):=λ{b cs v} f m=>by
  rw[h.block b (Qv.1 f).1 (j b cs v f m)];exact f
 refine⟨T.own.kept h ?_,hl T.g Z,hl T.s Z,hl T.t Z,T.nl,hl T.r Z,T.below.grown h T.below.size y⟩;rcases T.own.2 with ⟨rfl,_⟩|⟨g,cap,cur,rfl,_,f,_⟩
 ·exact .inl rfl
 ·exact .inr (j g cur 9 f Z)
end
end Go.Vd
namespace Go.Vd
open Go.Proofs Go.RowKit
def aXL(l:List Bs)(n:Bs):Bool:=l.any λx=>decide (n=x)
end Go.Vd
namespace Go.Vd
open Go.Proofs Go.RowKit Go.Sort Go.Shelf
def P8{w:World}{b:Nat}{v:Value}{T:TypeId}(h:w.heap[b]?=some (.cells #[v] T (0,0))):w.cell? ⟨b,0,none⟩=some v:=by simp[World.cell?,h]
def aWM(l:List Tk)(w:List Bs):List Tk:=l.filter λt=>!aXL w t.1
def vU{w k:World}{G:Nat->Nat}{d:D}{v:Value}(h:Rep w (Gh.base G) d v)(g:d.calm=true)(x:∀b,w.heap.size<=b->G b=0)(f:Below w.heap.size w k){G':Nat->Nat}(i:∀b,b<w.heap.size->G b<=G' b):Rep k (Gh.base G') d v:=
 h.calm_to g (λp o=>by
  have y:p.block<w.heap.size:=by
   grind [Gh.base]
  exact f.cell y) (λb=>by
  rcases ZX b w.heap.size with h|h
  ·exact i b h
  ·show G b<=_;rw[x b h];exact Qm _)
def aZF(l:List Bs):List Bs:=l.mergeSort λx y=>decide (x<=y)
def aNc(l:List Tk)(s:Bs):List Bs:=aZF (aXV l l.length s)
end Go.Vd
namespace Go.Vd
open Go.Proofs Go.RowKit
def aEg:=y2 f194 [] []
def aEs:=y2 f164 [] []
def aEl:=y2 f191 [] []
def aEi:=y2 f125 [] []
end Go.Vd
namespace Go.Vd
abbrev Kt:=List UInt8
abbrev Hj(a b:Kt):Bool:=Op.bytesLess a b
def Cq:∀a:Kt,Hj a a=false
 |[]=>rfl
 |x::r=>by simp[Hj,Op.bytesLess];exact Cq r
def L4:∀{a b:Kt},a≠b->Hj a b=!Hj b a
 |[],[],h=>absurd rfl h
 |[],y::s,_=>rfl
 |x::r,[],_=>rfl
 |x::r,y::s,h=>by
  simp only[Hj,Op.bytesLess];by_cases c:x=y
  ·have:=@L4 r s (by intro e;exact h (by rw[c,e]));simp only[Hj]at this;simp_all
  ·grind
def Ce:∀{a b c:Kt},Hj a b=true->Hj b c=true->Hj a c=true
 |a,b,[],h1,h2=>by simp[Hj,Op.bytesLess]at h2
 |a,[],z::t,h1,h2=>by cases a<;>simp[Hj,Op.bytesLess]at h1
 |[],y::s,z::t,h1,h2=>rfl
 |x::r,y::s,z::t,h1,h2=>by
  simp only[Hj,Op.bytesLess,ZT,ZO,decide_eq_true_eq,beq_iff_eq]at h1 h2 ⊢;rcases h1 with h1|⟨rfl,h1⟩
  ·grind
  ·rcases h2 with h2|⟨rfl,h2⟩
   ·left;exact h2
   ·right;exact⟨rfl,@Ce r s t h1 h2⟩
def Cf{a b:Kt}(h:Hj a b=true):Hj b a=false:=by
 by_cases e:a=b
 ·subst e;rw[Cq]at h;cases h
 ·have:=L4 e;simp_all
inductive Tr where
 |nil
 |node (l:Tr) (k v:Kt) (r:Tr)
namespace Tr
def tall:Tr->Nat
 |nil=>0
 |node l _ _ r=>1+max l.tall r.tall
def cnt:Tr->Nat
 |nil=>0
 |node l _ _ r=>1+l.cnt+r.cnt
def wgt:Tr->Nat
 |nil=>0
 |node l k v r=>4+k.length+v.length+l.wgt+r.wgt
def lst:Tr->List (Kt×Kt)
 |nil=>[]
 |node l k v r=>l.lst++(k,v)::r.lst
def rotL:Tr->Tr
 |node l k v (node a x y b)=>node (node l k v a) x y b
 |t=>t
def rotR:Tr->Tr
 |node (node a x y b) k v r=>node a x y (node b k v r)
 |t=>t
def level(l:Tr)(k v:Kt)(r:Tr):Tr:=
 if r.tall+1<l.tall then
  match l with
  |node a x y b=>if a.tall<b.tall then rotR (node (rotL l) k v r)else rotR (node l k v r)
  |nil=>node l k v r
 else if l.tall+1<r.tall then
  match r with
  |node a x y b=>if b.tall<a.tall then rotL (node l k v (rotR r))else rotL (node l k v r)
  |nil=>node l k v r
 else node l k v r
def join(l:Tr)(k v:Kt)(r:Tr):Tr:=
 if r.tall+1<l.tall then
  match l with
  |node a x y b=>level a x y (join b k v r)
  |nil=>node l k v r
 else if l.tall+1<r.tall then
  match r with
  |node a x y b=>level (join l k v a) x y b
  |nil=>node l k v r
 else node l k v r
termination_by SizeOf.sizeOf l+SizeOf.sizeOf r
def put(k v:Kt):Tr->Tr
 |nil=>node nil k v nil
 |node l x y r=>if Hj k x then level (put k v l) x y r else if Hj x k then level l x y (put k v r)else node l k v r
def first:Tr->Kt->Kt->Tr->Kt×Kt×Tr
 |nil,k,v,r=>(k,v,r)
 |node a x y b,k,v,r=>let z:=first a x y b;(z.1,z.2.1,level z.2.2 k v r)
def both(l r:Tr):Tr:=
 match r with
 |nil=>l
 |node a x y b=>let z:=first a x y b;join l z.1 z.2.1 z.2.2
def split(q:Kt):Tr->Tr×Tr
 |nil=>(nil,nil)
 |node l x y r=>if Hj x q then let z:=split q r;(join l x y z.1,z.2)else let z:=split q l;(z.1,join z.2 x y r)
def get(q:Kt):Tr->Option Kt
 |nil=>none
 |node l x y r=>if Hj q x then get q l else if Hj x q then get q r else some y
def rank(q:Kt):Tr->Nat
 |nil=>0
 |node l x y r=>if Hj x q then 1+l.cnt+rank q r else rank q l
def at_:Tr->Nat->Option (Kt×Kt)
 |nil,_=>none
 |node l x y r,i=>if i<l.cnt then at_ l i else if l.cnt<i then at_ r (i-(l.cnt+1))else some (x,y)
def cP:∀t,(rotL t).lst=t.lst
 |nil=>rfl
 |node l k v nil=>rfl
 |node l k v (node a x y b)=>by simp[rotL,lst]
def cO:∀t,(rotR t).lst=t.lst
 |nil=>rfl
 |node nil k v r=>rfl
 |node (node a x y b) k v r=>by simp[rotR,lst]
def EL(l:Tr)(k v:Kt)(r:Tr):(level l k v r).lst=l.lst++(k,v)::r.lst:=by
 unfold level;split
 ·split
  ·split<;>simp[cO,lst,cP]
  ·rfl
 ·split
  ·split
   ·split<;>simp[cP,lst,cO]
   ·rfl
  ·rfl
def EY(l:Tr)(k v:Kt)(r:Tr):(join l k v r).lst=l.lst++(k,v)::r.lst:=by
 fun_induction join l k v r<;>simp_all [EL,lst]
def Ga:∀(l:Tr)(k v:Kt)(r:Tr),((first l k v r).1,(first l k v r).2.1)::(first l k v r).2.2.lst=l.lst++(k,v)::r.lst
 |nil,k,v,r=>rfl
 |node a x y b,k,v,r=>by
  have:=Ga a x y b;simp only[first,EL,lst];rw[←this];rfl
def cR(l r:Tr):(both l r).lst=l.lst++r.lst:=by
 unfold both;cases r with
 |nil=>simp[lst]
 |node a x y b=>
  have:=Ga a x y b;simp only[EY];rw[this];rfl
def Ord(l:List (Kt×Kt)):Prop:=l.Pairwise λa b=>Hj a.1 b.1=true
def pQ{a b:List (Kt×Kt)}:Ord (a++b)↔Ord a∧Ord b∧∀x∈a,∀y∈b,Hj x.1 y.1=true:=List.pairwise_append
def Vm{a b:List (Kt×Kt)}{k v:Kt}(h:Ord (a++(k,v)::b)):Ord a∧Ord b∧(∀x∈a,Hj x.1 k=true)∧(∀x∈b,Hj k x.1=true):=by
 obtain⟨u,q,d⟩:=pQ.1 h;have o:=QU.1 q;exact⟨u,o.2,λx f=>d x f _ QB,λx f=>o.1 x f⟩
def insL(l:List (Kt×Kt))(k v:Kt):List (Kt×Kt):=l.filter (λx=>Hj x.1 k)++(k,v)::l.filter (λx=>Hj k x.1)
def Dq{l:List (Kt×Kt)}{p:Kt×Kt->Bool}(h:∀x∈l,p x=true):l.filter p=l:=List.filter_eq_self.2 h
def E5{l:List (Kt×Kt)}{p:Kt×Kt->Bool}(h:∀x∈l,p x=false):l.filter p=[]:=List.filter_eq_nil_iff.2 λx f=>by rw[h x f];simp
def lst_put(k v:Kt):∀t:Tr,Ord t.lst->(put k v t).lst=insL t.lst k v
 |nil,_=>rfl
 |node l x y r,h=>by
  obtain⟨u,q,d,o⟩:=Vm h;unfold put;split
  ·rename_i c;rw[EL,lst_put k v l u];have p:r.lst.filter (λx=>Hj x.1 k)=[]:=E5 λz j=>Cf (Ce c (o z j))
   have m:r.lst.filter (λx=>Hj k x.1)=r.lst:=Dq λz j=>Ce c (o z j)
   simp[insL,lst,Q0,Qz,c,Cf c,p,m]
  ·split
   ·rename_i c0 c;rw[EL,lst_put k v r q];have p:l.lst.filter (λx=>Hj x.1 k)=l.lst:=Dq λz j=>Ce (d z j) c
    have m:l.lst.filter (λx=>Hj k x.1)=[]:=E5 λz j=>Cf (Ce (d z j) c)
    simp[insL,lst,Q0,Qz,c,Cf c,p,m]
   ·rename_i c0 c;have e:k=x:=by
     by_cases e:k=x
     ·exact e
     ·have:=L4 e;simp_all
    subst e;have p:l.lst.filter (λx=>Hj x.1 k)=l.lst:=Dq d;have m:l.lst.filter (λx=>Hj k x.1)=[]:=E5 λz j=>Cf (d z j)
    have f:r.lst.filter (λx=>Hj x.1 k)=[]:=E5 λz j=>Cf (o z j)
    have b:r.lst.filter (λx=>Hj k x.1)=r.lst:=Dq o;simp[insL,lst,Q0,Qz,Cq,p,m,f,b]
def lst_split(q:Kt):∀t:Tr,Ord t.lst->(split q t).1.lst=t.lst.filter (λx=>Hj x.1 q)∧(split q t).2.lst=t.lst.filter (λx=>!Hj x.1 q)
 |nil,_=>⟨rfl,rfl⟩
 |node l x y r,h=>by
  obtain⟨u,w,d,o⟩:=Vm h;unfold split;split
  ·rename_i c;obtain⟨a,b⟩:=lst_split q r w;have p:l.lst.filter (λx=>Hj x.1 q)=l.lst:=Dq λz j=>Ce (d z j) c
   have m:l.lst.filter (λx=>!Hj x.1 q)=[]:=E5 λz j=>by rw[Ce (d z j) c];rfl
   simp[EY,a,b,lst,Q0,Qz,c,p,m]
  ·rename_i c;have c:Hj x q=false:=by simpa using c
   obtain⟨a,b⟩:=lst_split q l u;have n:∀z∈r.lst,Hj z.1 q=false:=λz j=>by
    cases hh:Hj z.1 q with
    |false=>rfl
    |true=>rw[Ce (o z j) hh]at c;cases c
   have p:r.lst.filter (λx=>Hj x.1 q)=[]:=E5 n;have m:r.lst.filter (λx=>!Hj x.1 q)=r.lst:=Dq λz j=>by rw[n z j];rfl
   simp[EY,a,b,lst,Q0,Qz,c,p,m]
def cnt_lst:∀t:Tr,t.lst.length=t.cnt
 |nil=>rfl
 |node l k v r=>by simp[lst,cnt,cnt_lst l,cnt_lst r];omega
def at_lst:∀(t:Tr)(i:Nat),at_ t i=t.lst[i]?
 |nil,i=>by simp[at_,lst]
 |node l x y r,i=>by
  unfold at_;have g:=cnt_lst l;split
  ·rename_i c;rw[at_lst l i,lst,Za O]
  ·split
   ·rename_i c0 c;rw[at_lst r,lst,Zp O,g];obtain⟨j,rfl⟩:∃j,i=l.cnt+1+j:=⟨i-(l.cnt+1),O⟩;rw[show l.cnt+1+j-l.cnt=j+1 by omega,Qs];congr 1;omega
   ·rename_i c0 c;have:i=l.cnt:=by omega
    rw[lst,Zp O,g,this];simp
def getL(l:List (Kt×Kt))(q:Kt):Option Kt:=(l.find? λx=>x.1==q).map (·.2)
def get_lst(q:Kt):∀t:Tr,Ord t.lst->get q t=getL t.lst q
 |nil,_=>rfl
 |node l x y r,h=>by
  obtain⟨u,w,d,o⟩:=Vm h;have b:∀{l:List (Kt×Kt)},(∀z∈l,z.1≠q)->l.find? (λx=>x.1==q)=none:=λp=>Zq.2 λz hz=>by simpa using p z hz
  unfold get;split
  ·rename_i c;have e:((x,y)::r.lst).find? (λx=>x.1==q)=none:=b λz hz e=>by
    rcases QM.1 hz with rfl|hz
    ·simp only at e;subst e;rw[Cq]at c;cases c
    ·have:=Ce c (o z hz);rw[e,Cq]at this;cases this
   rw[get_lst q l u];simp only[getL,lst,Zv,e,Option.or_none]
  ·split
   ·rename_i c0 c;have e:l.lst.find? (λx=>x.1==q)=none:=b λz hz e=>by
     have:=Ce (d z hz) c;rw[e,Cq]at this;cases this
    have m:(x==q)=false:=by
     cases p:x==q with
     |false=>rfl
     |true=>have:=beq_iff_eq.1 p;subst this;rw[Cq]at c;cases c
    rw[get_lst q r w];simp only[getL,lst,Zv,e,Option.none_or,ZU,m]
   ·rename_i c0 c;have e:x=q:=by
     by_cases e:x=q
     ·exact e
     ·have:=L4 e;simp_all
    subst e;have e:l.lst.find? (λz=>z.1==x)=none:=Zq.2 λz hz=>by
     intro e;have:=beq_iff_eq.1 e;have k:=d z hz;rw[this,Cq]at k;cases k
    simp[getL,lst,Zv,e,ZU]
end Tr
def aBY{P:Program}{f:FuncId}{N:Nat}{c:DC}{rs:List RV}(o:Fn P f N c rs):(Ac λ_=>none).ok P f:=by
 obtain⟨v,n,y,q,d,x,k,i⟩:=o.is;refine⟨⟨v,y,XL,d⟩,λds m m' fr _=>rfl,?_⟩;intro j w0 w m g fr ds vs r u hi t hl b z;simp[Ac]at z
def mT(S:(List D->Option D)->GR)(b:DC)(rs:List RV)(N:Nat):Nat->List D->Option D
 |0=>λ_=>none
 |n+1=>RF (S (mT S b rs N n)) b rs N
def aBu{P:Program}{f:FuncId}{N:Nat}{b:DC}{rs:List RV}{S:(List D->Option D)->GR}(o:Fn P f N b rs)(v:∀G,(Ac G).ok P f->GR.ok P (S G)):∀n,(Ac (mT S b rs N n)).ok P f
 |0=>aBY o
 |n+1=>Av o (v _ (aBu o v n))
def aII{P:Program}{f:FuncId}{A:Nat->List D->Option D}(m:List D->Nat)(h:∀n,(Ac (A n)).ok P f):(Ac λds=>A (m ds) ds).ok P f:=by
 refine⟨(h 0).1,λds m m' fr _=>rfl,?_⟩;intro j w0 w m' g fr ds vs r u hi t hl b z;obtain⟨_,_,d⟩:=h (m (ds.map D.un));exact d hi t hl b (by simpa[Ac]using z)
def Hh:Tr->D
 | .nil=> .nilptr
 | .node l k v r=> .eptr [.str k,.str v,Hh l,Hh r,.int .i64 ((Tr.node l k v r).tall:Nat),.int .i64 ((Tr.node l k v r).cnt:Nat),.int .i64 ((Tr.node l k v r).wgt:Nat)]
def WU(t:Tr):(Hh t).calm=true:=Xk
def uT(t:Tr):(Hh t).calm1=true:=Xk
def aQL(t:Tr):(Hh t).un=Hh t:=Xk
def aIc(t:Tr):(Hh t).un1=Hh t:=Xk
def uS(t:Tr):(Hh t).cells=[Hh t]:=Xk
def Fg:∀{a b:Tr},Hh a=Hh b->a=b
 | .nil,.nil,_=>rfl
 | .nil,.node _ _ _ _,h=>by simp[Hh]at h
 | .node _ _ _ _,.nil,h=>by simp[Hh]at h
 | .node l k v r,.node l' k' v' r',h=>by
  simp only[Hh,D.eptr.injEq,Qu,D.str.injEq]at h;obtain⟨rfl,rfl,u,q,_⟩:=h;rw[Fg u,Fg q]
def D.dep:D->Nat
 | .eptr ds=>1+D.depL ds
 |_=>0
where D.depL:List D->Nat
 |[]=>0
 |d::ds=>max d.dep (D.depL ds)
def Lf:∀t:Tr,(Hh t).dep=t.tall
 | .nil=>rfl
 | .node l k v r=>by
  simp only[Hh,D.dep,D.dep.D.depL,Lf l,Lf r,Tr.tall];omega
def lO(ds:List D):Nat:=2*D.dep.D.depL ds+1
def RT(S:(List D->Option D)->GR)(b:DC)(rs:List RV)(N:Nat)(ds:List D):Option D:=mT S b rs N (lO ds) ds
def pD{P:Program}{f:FuncId}{N:Nat}{b:DC}{rs:List RV}{S:(List D->Option D)->GR}(o:Fn P f N b rs)(v:∀G,(Ac G).ok P f->GR.ok P (S G)):(Ac (RT S b rs N)).ok P f:=
 aII lO (aBu o v)
namespace Tr
def ML(a b:Kt):Hj a b=true∨a=b∨Hj b a=true:=by
 by_cases e:a=b
 ·exact .inr (.inl e)
 ·have:=L4 e;cases h:Hj a b with
  |true=>exact .inl rfl
  |false=>rw[h]at this;exact .inr (.inr (by cases q:Hj b a<;>simp_all))
def aWK{a b:Kt}(h:Hj a b=true):(a==b)=false:=by
 cases hh:a==b with
 |false=>rfl
 |true=>have:=beq_iff_eq.1 hh;subst this;rw[Cq]at h;cases h
def aRk{a b:Kt}(h:Hj a b=true):(b==a)=false:=by
 cases hh:b==a with
 |false=>rfl
 |true=>have:=beq_iff_eq.1 hh;subst this;rw[Cq]at h;cases h
def ord_sub{a b:List (Kt×Kt)}(h:a.Sublist b)(k:Ord b):Ord a:=List.Pairwise.sublist h k
def aDu(q:Kt):∀{l:List (Kt×Kt)},Ord l->l.filter (λx=>Hj x.1 q)++l.filter (λx=>Hj q x.1)=l.filter (λx=>x.1 !=q)
 |[],_=>rfl
 |(k,v)::l,h=>by
  obtain⟨u,w⟩:=QU.1 h;have ih:=aDu q w;rcases ML k q with c|rfl|c
  ·simp only[bne]at ih ⊢;simp[Qz,c,Cf c,aWK c,ih]
  ·have p:l.filter (λx=>Hj x.1 k)=[]:=E5 λz j=>Cf (u z j)
   rw[p]at ih;simp only[bne]at ih ⊢;simp[Qz,Cq,p,←ih]
  ·have p:l.filter (λx=>Hj x.1 q)=[]:=E5 λz j=>Cf (Ce c (u z j))
   rw[p]at ih;simp only[bne]at ih ⊢;simp[Qz,c,Cf c,aRk c,p,←ih]
def fil_ge{q v:Kt}:∀{l:List (Kt×Kt)},Ord l->(q,v)∈l->l.filter (λx=>!Hj x.1 q)=(q,v)::l.filter (λx=>Hj q x.1)
 |(k,w)::l,h,hm=>by
  obtain⟨u,h2⟩:=QU.1 h;rcases QM.1 hm with e|hm
  ·cases e;have p:l.filter (λx=>!Hj x.1 q)=l:=Dq λz j=>by rw[Cf (u z j)];rfl
   have m:l.filter (λx=>Hj q x.1)=l:=Dq λz j=>u z j
   simp[Qz,Cq,p,m]
  ·have c:=u _ hm;simp only at c;simp[Qz,c,Cf c,fil_ge h2 hm]
def getL_some{l:List (Kt×Kt)}{q v:Kt}(h:getL l q=some v):(q,v)∈l:=by
 unfold getL at h;obtain⟨x,u,rfl⟩:=Q_.1 h;have z:=List.find?_some u;have d:=List.mem_of_find?_eq_some u;have:x.1=q:=by simpa using z
 rw[←this];exact d
def Ui{l:List (Kt×Kt)}{q:Kt}(h:getL l q=none):∀x∈l,x.1≠q:=by
 unfold getL at h;have u:=Option.map_eq_none_iff.1 h;intro x f e;have:=Zq.1 u x f;simp[e]at this
def getL_mem{l:List (Kt×Kt)}(h:Ord l){q v:Kt}(r:(q,v)∈l):getL l q=some v:=by
 cases hg:getL l q with
 |none=>exact absurd rfl (Ui hg _ r)
 |some w=>
  have t:=getL_some hg;rcases Classical.em (w=v)with e|e
  ·rw[e]
  ·exfalso;obtain⟨i,hi,b⟩:=ZG r;obtain⟨j,d,n⟩:=ZG t;rcases ZK i j with c|c|c
   ·have:=QW.1 h i j hi d c;rw[b,n,Cq]at this;cases this
   ·subst c;rw[b]at n;cases n;exact e rfl
   ·have:=QW.1 h j i d hi c;rw[b,n,Cq]at this;cases this
def delT(q:Kt)(t:Tr):Tr:=
 match get q t with
 |none=>t
 |some _=>match (split q t).2 with
  |nil=>(split q t).1
  |node a x y b=>both (split q t).1 (first a x y b).2.2
def lst_del(q:Kt)(t:Tr)(h:Ord t.lst):(delT q t).lst=t.lst.filter λx=>x.1 !=q:=by
 unfold delT;rw[get_lst q t h];cases hg:getL t.lst q with
 |none=>exact(Dq λz j=>by simpa using Ui hg z j).symm
 |some v=>
  have r:=getL_some hg;obtain⟨s,w⟩:=lst_split q t h;rw[fil_ge h r]at w;simp only;cases j:(split q t).2 with
  |nil=>rw[j]at w;cases w
  |node a x y b=>
   rw[j]at w;have o:=Ga a x y b;simp only[lst]at w;rw[w]at o;simp only[cR,s,(Z2 o).2,aDu q h]
def beyB:Kt->Option Kt
 |[]=>none
 |x::r=>match beyB r with
  |some e=>some (x::e)
  |none=>if x<255 then some [x+1]else none
def dropT(p:Kt)(t:Tr):Tr:=
 match beyB p with
 |none=>(split p t).1
 |some e=>both (split p t).1 (split e (split p t).2).2
def Sp(p:Kt)(l:List (Kt×Kt)):List (Kt×Kt):=
 l.filter (λx=>Hj x.1 p)++match beyB p with
  |none=>[]
  |some e=>(l.filter λx=>!Hj x.1 p).filter λx=>!Hj x.1 e
def lst_drop(p:Kt)(t:Tr)(h:Ord t.lst):(dropT p t).lst=Sp p t.lst:=by
 obtain⟨s,w⟩:=lst_split p t h;unfold dropT Sp;cases beyB p with
 |none=>simp[s]
 |some e=>
  have:=(lst_split e (split p t).2 (by rw[w];exact ord_sub QS h)).2;simp only[cR,s,this,w]
def qW(p:Kt):∀{l:List (Kt×Kt)},Ord l->l.filter (λx=>Hj x.1 p)++l.filter (λx=>!Hj x.1 p)=l
 |[],_=>rfl
 |(k,v)::l,h=>by
  obtain⟨u,q⟩:=QU.1 h;have ih:=qW p q;cases c:Hj k p with
  |true=>simp[Qz,c,ih]
  |false=>
   have e:∀z∈l,Hj z.1 p=false:=λz j=>by
    cases hh:Hj z.1 p with
    |false=>rfl
    |true=>rw[Ce (u z j) hh]at c;cases c
   have n:l.filter (λx=>Hj x.1 p)=[]:=E5 e;have m:l.filter (λx=>!Hj x.1 p)=l:=Dq λz j=>by rw[e z j];rfl
   simp only[Qz,c,n,m];rfl
def drop_sub(p:Kt){l:List (Kt×Kt)}(h:Ord l):(Sp p l).Sublist l:=by
 unfold Sp;have e:=qW p h
 conv=>rhs;rw[←e]
 refine List.Sublist.append (List.Sublist.refl _) ?_;cases beyB p with
 |none=>exact List.nil_sublist _
 |some e=>exact QS
def ins_ord{l:List (Kt×Kt)}(h:Ord l)(k v:Kt):Ord (insL l k v):=by
 refine pQ.2 ⟨ord_sub QS h,QU.2 ⟨λx f=>YG,ord_sub QS h⟩,λx f y hy=>?_⟩;have ta:Hj x.1 k=true:=YG
 rcases QM.1 hy with rfl|hy
 ·exact ta
 ·exact Ce ta (by simpa using (Zk.1 hy).2)
def ins_mem{l:List (Kt×Kt)}{k v:Kt}{x:Kt×Kt}(h:x∈insL l k v):x=(k,v)∨x∈l:=by
 unfold insL at h;rcases Q1.1 h with h|h
 ·exact .inr (Zk.1 h).1
 ·rcases QM.1 h with h|h
  ·exact .inl h
  ·exact .inr (Zk.1 h).1
inductive Op1 where
 |put (k v:Kt)
 |del (k:Kt)
 |drop (k:Kt)
def costL(x:Kt×Kt):Nat:=36+x.1.length+min x.2.length 1048576
def weighL(l:List (Kt×Kt)):Nat:=4+(l.map costL).sum
def weigh_len:∀l:List (Kt×Kt),36*l.length+4<=weighL l
 |[]=>by simp[weighL]
 |y::l=>by
  have:=weigh_len l;simp only[weighL,QP,Zj,Qi,costL]at this ⊢;omega
def tall_cnt:∀t:Tr,t.tall<=t.cnt
 |nil=>Qj _
 |node l k v r=>by have:=tall_cnt l;have:=tall_cnt r;simp only[tall,cnt];omega
def sizeL(l:List (Kt×Kt)):Nat:=(l.map λx=>4+x.1.length+x.2.length).sum
def wgt_lst:∀t:Tr,t.wgt=sizeL t.lst
 |nil=>rfl
 |node l k v r=>by
  have:=wgt_lst l;have:=wgt_lst r;simp only[wgt,lst,sizeL,Q2,ZV,QP,Zj]at *;omega
end Tr
end Go.Vd
namespace Go.Vd
open Go.Proofs Go.RowKit
def Gy:Hh .nil= .nilptr:=rfl
section
variable{S:GR}{l r:Tr}{k v:Bs}
def aQK{K:D->Ha->Prop}{g:Tag K}:Ll (Hh (.node l k v r)) K g=K (Hh (.node l k v r)) []:=rfl
def aUW:E6 0 (Hh (.node l k v r))=some (.eptr [.str k,.str v,Hh l,Hh r,.int .i64 ((Tr.node l k v r).tall:Nat),.int .i64 ((Tr.node l k v r).cnt:Nat),.int .i64 ((Tr.node l k v r).wgt:Nat)]):=rfl
def aUV:E6 1 (Hh (.node l k v r))=some (.eptr [.str v,Hh l,Hh r,.int .i64 ((Tr.node l k v r).tall:Nat),.int .i64 ((Tr.node l k v r).cnt:Nat),.int .i64 ((Tr.node l k v r).wgt:Nat)]):=rfl
def aUU:E6 2 (Hh (.node l k v r))=some (.eptr [Hh l,Hh r,.int .i64 ((Tr.node l k v r).tall:Nat),.int .i64 ((Tr.node l k v r).cnt:Nat),.int .i64 ((Tr.node l k v r).wgt:Nat)]):=rfl
def aUT:E6 3 (Hh (.node l k v r))=some (.eptr [Hh r,.int .i64 ((Tr.node l k v r).tall:Nat),.int .i64 ((Tr.node l k v r).cnt:Nat),.int .i64 ((Tr.node l k v r).wgt:Nat)]):=rfl
def aUS:E6 4 (Hh (.node l k v r))=some (.eptr [.int .i64 ((Tr.node l k v r).tall:Nat),.int .i64 ((Tr.node l k v r).cnt:Nat),.int .i64 ((Tr.node l k v r).wgt:Nat)]):=rfl
def aUR:E6 5 (Hh (.node l k v r))=some (.eptr [.int .i64 ((Tr.node l k v r).cnt:Nat),.int .i64 ((Tr.node l k v r).wgt:Nat)]):=rfl
def aUQ:E6 6 (Hh (.node l k v r))=some (.eptr [.int .i64 ((Tr.node l k v r).wgt:Nat)]):=rfl
def aUP:ID 1 (Hh (.node l k v r)) .nilptr=some false:=rfl
def aQH:ID 1 .nilptr .nilptr=some true:=rfl
def UT(t:Tr):(Hh t).calm=true:=WU t
def WS(t:Tr):(Hh t).calmR=true:=Xk
def aQI(t:Tr):(Hh t).unR=Hh t:=Xk
def aH7(t:Tr):(Hh t).data=true:=Xk
def aIU:D.calm .nilptr=true:=rfl
def aWk:D.un .nilptr= .nilptr:=rfl
def aBW:D.cells .nilptr=[.nilptr]:=rfl
def aBX:D.calm1 .nilptr=true:=rfl
def aRf:D.un1 .nilptr= .nilptr:=rfl
end
def GY:=QA @aQK <| QA @aUW <| QA @aUV <| QA @aUU <| QA @aUT <| QA @aUS <| QA @aUR <| QA @aUQ <| QA @aUP <| QA @aQH <| QA UT <| QA WS <| QA aQI <| QA aH7 <| QA aQL <| QA aIc <| QA uT <| QA uS <| QA aIU <| QA aWk <| QA aBW <| QA aBX <| QA aRf Gy
def aY7:=Az []
def gF:=RF aY7 aEg [.t 2] 9
def kH:Kq gF 194:=Av (Al func194) Ae
def Dm(t:Tr):gF [Hh t]=some (.int .i64 (t.tall:Nat)):=by
 refine Aq (Qh rfl) ?_;unfold aEg;cases t with
 |nil=>
  simp only[GU,↓GQ,GS,simprocAttr,GY,bne_self_eq_false]
  all_goals exact Qd
 |node l k v r=>
  simp only[GU,↓GQ,GS,simprocAttr,GY]
  all_goals exact Qd
def aZe:=Az []
def NE:=RF aZe aEs [.t 2] 9
def VD:Kq NE 164:=Av (Al func164) Ae
def I6(t:Tr):NE [Hh t]=some (.int .i64 (t.cnt:Nat)):=by
 refine Aq (Qh rfl) ?_;unfold aEs;cases t with
 |nil=>
  simp only[GU,↓GQ,GS,simprocAttr,GY,bne_self_eq_false]
  all_goals exact Qd
 |node l k v r=>
  simp only[GU,↓GQ,GS,simprocAttr,GY]
  all_goals exact Qd
def aZb:=Az []
def aGq:=RF aZb aEl [.t 2] 9
def aCL:Kq aGq 191:=Av (Al func191) Ae
def S6(t:Tr):aGq [Hh t]=some (.int .i64 (t.wgt:Nat)):=by
 refine Aq (Qh rfl) ?_;unfold aEl;cases t with
 |nil=>
  simp only[GU,↓GQ,GS,simprocAttr,GY,bne_self_eq_false]
  all_goals exact Qd
 |node l k v r=>
  simp only[GU,↓GQ,GS,simprocAttr,GY]
  all_goals exact Qd
def mkN(p:Tr×Bs×Bs×Tr):List D:=[Hh p.1,.str p.2.1,.str p.2.2.1,Hh p.2.2.2]
def aIZ(x y)(h:mkN x=mkN y):x=y:=by
 obtain⟨a,b,c,d⟩:=x;obtain⟨k,r,c',n⟩:=y;simp only[mkN,Qu,D.str.injEq,and_true]at h;obtain⟨u,rfl,rfl,q⟩:=h;rw[Fg u,Fg q]
def aMQ(l:Tr)(k v:Bs)(r:Tr):Prop:=l.cnt+r.cnt<=1000000∧l.wgt+r.wgt+k.length+v.length<=1000000000000
def Lb:List D->Option D:=FX mkN (λp=>aMQ p.1 p.2.1 p.2.2.1 p.2.2.2) λp=>Hh (.node p.1 p.2.1 p.2.2.1 p.2.2.2)
def Hn{l:Tr}{k v:Bs}{r:Tr}(h:aMQ l k v r):Lb [Hh l,.str k,.str v,Hh r]=some (Hh (.node l k v r)):=BG (mk:=mkN) (a:=(l,k,v,r)) aIZ h
def N5:Kq Lb 125:=by
 obtain⟨S,hS,hl⟩:=A4 (Aa kH (Aa VD (Aa aCL Ae)));have e:=hl 194 _ rfl;have y:=hl 164 _ rfl;have a:=hl 191 _ rfl;clear hl;refine aSI hS (Al func125:Fn Qq 125 39 aEi [.t 8]) (λ_=>by simp[mkN]) (λp z=>⟨WS _,?_⟩);obtain⟨l,k,v,r⟩:=p;obtain⟨g,hw⟩:=z;simp only at g hw;have u:=Tr.tall_cnt l;have s:=Tr.tall_cnt r;have a1:=Dm l;have w:=Dm r;have q:=I6 l;have b2:=I6 r;have c1:=S6 l;have c2:=S6 r;have n:IntKind.i64.wrap (1+max (l.tall:Int) r.tall)=((1+max l.tall r.tall:Nat):Int):=Xg
 have e2:IntKind.i64.wrap (1+(l.cnt:Int))=((1+l.cnt:Nat):Int):=Xg
 have c:IntKind.i64.wrap (((1+l.cnt:Nat):Int)+r.cnt)=((1+l.cnt+r.cnt:Nat):Int):=Xg
 have b:IntKind.i64.wrap (4+(k.length:Int))=((4+k.length:Nat):Int):=Xg
 have d:IntKind.i64.wrap (((4+k.length:Nat):Int)+v.length)=((4+k.length+v.length:Nat):Int):=Xg
 have e6:IntKind.i64.wrap (((4+k.length+v.length:Nat):Int)+l.wgt)=((4+k.length+v.length+l.wgt:Nat):Int):=Xg
 have e7:IntKind.i64.wrap (((4+k.length+v.length+l.wgt:Nat):Int)+r.wgt)=((4+k.length+v.length+l.wgt+r.wgt:Nat):Int):=Xg
 unfold aEi mkN;simp only;simp only[GU,↓GQ,GS,simprocAttr,GY,Ab e,Ab y,Ab a,a1,w,q,b2,c1,c2,n,e2,c,b,d,e6,e7];refine .inl ⟨UT _,.inl (.inr (.inr ⟨_,_,rfl,rfl,?_,?_⟩))⟩
 ·intro x f;simp only[QM,ZR,or_false]at f;rcases f with rfl|rfl|rfl|rfl|rfl|rfl|rfl
  all_goals (first|rfl|exact UT _)
 ·intro j x f;have hl:=(Zu.1 f).1;have z:=aG (m:=λ_ _=>none) (i:=[30]) (o:=0) (ds:=[D.str k,D.str v,Hh l,Hh r,D.int IntKind.i64 ((Tr.node l k v r).tall:Nat),D.int IntKind.i64 ((Tr.node l k v r).cnt:Nat),D.int IntKind.i64 ((Tr.node l k v r).wgt:Nat)]) (j:=j) hl;rw[Qw]at z;rw[←f];exact z
def aEf:=y2 f195 [(2,[(16,20),(16,24),(16,28)])] []
def aEe:=y2 f196 [(2,[(28,3),(28,7),(28,11)])] []
def aEh:=y2 f126 [(1,[(4,8)]),(3,[(7,11),(7,14)]),(4,[(4,8),(4,12),(4,16)]),(7,[(7,11),(7,14)]),(8,[(16,3),(16,7),(16,11)])] []
namespace Tr
def cnt_level(l:Tr)(k v:Kt)(r:Tr):(level l k v r).cnt=1+l.cnt+r.cnt:=by
 rw[←cnt_lst,EL,Qt,Qi,cnt_lst,cnt_lst];omega
def cnt_join(l:Tr)(k v:Kt)(r:Tr):(join l k v r).cnt=1+l.cnt+r.cnt:=by
 rw[←cnt_lst,EY,Qt,Qi,cnt_lst,cnt_lst];omega
def Mz(a b:List (Kt×Kt)):sizeL (a++b)=sizeL a+sizeL b:=by simp[sizeL]
def size_cons(k v:Kt)(b:List (Kt×Kt)):sizeL ((k,v)::b)=4+k.length+v.length+sizeL b:=by simp[sizeL]
def wgt_level(l:Tr)(k v:Kt)(r:Tr):(level l k v r).wgt=4+k.length+v.length+l.wgt+r.wgt:=by
 rw[wgt_lst,EL,Mz,size_cons,wgt_lst l,wgt_lst r];omega
def wgt_join(l:Tr)(k v:Kt)(r:Tr):(join l k v r).wgt=4+k.length+v.length+l.wgt+r.wgt:=by
 rw[wgt_lst,EY,Mz,size_cons,wgt_lst l,wgt_lst r];omega
def cnt_first(l:Tr)(k v:Kt)(r:Tr):(first l k v r).2.2.cnt=l.cnt+r.cnt:=by
 have:=congrArg ZZ (Ga l k v r);rw[Qi,Qt,Qi,cnt_lst,cnt_lst,cnt_lst]at this;omega
def wgt_first(l:Tr)(k v:Kt)(r:Tr):4+(first l k v r).1.length+(first l k v r).2.1.length+(first l k v r).2.2.wgt=4+k.length+v.length+l.wgt+r.wgt:=by
 have:=congrArg sizeL (Ga l k v r);rw[Mz,size_cons,size_cons,←wgt_lst,←wgt_lst,←wgt_lst]at this;omega
def GC(q:Kt):∀t:Tr,(split q t).1.lst++(split q t).2.lst=t.lst
 |nil=>rfl
 |node l x y r=>by
  unfold split;split
  ·have:=GC q r;simp only[EY,lst];rw[←this];simp
  ·have:=GC q l;simp only[EY,lst];rw[←this];simp
def cnt_split(q:Kt)(t:Tr):(split q t).1.cnt+(split q t).2.cnt=t.cnt:=by
 rw[←cnt_lst,←cnt_lst,←cnt_lst,←Qt,GC]
def wgt_split(q:Kt)(t:Tr):(split q t).1.wgt+(split q t).2.wgt=t.wgt:=by
 rw[wgt_lst,wgt_lst,wgt_lst t,←Mz,GC]
end Tr
def WC(t:Tr):Prop:=t.cnt<=900000∧t.wgt<=900000000000
def aPW:=Az [(125,Ac Lb)]
def aGk:=RF aPW aEf [.t 2] 38
def aR0:Kq aGk 195:=Av (Al func195) (Aa N5 Ae)
def S0{l:Tr}{k v:Bs}{a:Tr}{x y:Bs}{b:Tr}(h:WC (.node l k v (.node a x y b))):aGk [Hh (.node l k v (.node a x y b))]=some (Hh (.node (.node l k v a) x y b)):=by
 refine Aq (Qh rfl) ?_;unfold aEf;simp only[WC,Tr.cnt,Tr.wgt]at h;have p:=Hn (l:=l) (k:=k) (v:=v) (r:=a) ⟨O,O⟩;have m:=Hn (l:= .node l k v a) (k:=x) (v:=y) (r:=b) ⟨Xi,Xh⟩;simp only[GU,↓GQ,GS,simprocAttr,GY,Ad aPW 125,p,m]
 (refine aA (Ah ?_) ?_;first|rfl|simp[Ap,An,GZ,Ag,Ac])
 simp only[GU,↓GQ,GS,simprocAttr,GY]
 all_goals exact Qd
def aPV:=Az [(125,Ac Lb)]
def aGj:=RF aPV aEe [.t 2] 38
def aRZ:Kq aGj 196:=Av (Al func196) (Aa N5 Ae)
def S_{a:Tr}{x y:Bs}{b:Tr}{k v:Bs}{r:Tr}(h:WC (.node (.node a x y b) k v r)):aGj [Hh (.node (.node a x y b) k v r)]=some (Hh (.node a x y (.node b k v r))):=by
 refine Aq (Qh rfl) ?_;unfold aEe;simp only[WC,Tr.cnt,Tr.wgt]at h;have p:=Hn (l:=b) (k:=k) (v:=v) (r:=r) ⟨O,O⟩;have m:=Hn (l:=a) (k:=x) (v:=y) (r:= .node b k v r) ⟨Xi,Xh⟩;simp only[GU,↓GQ,GS,simprocAttr,GY,Ad aPV 125,p,m]
 (refine aA (Ah ?_) ?_;first|rfl|simp[Ap,An,GZ,Ag,Ac])
 simp only[GU,↓GQ,GS,simprocAttr,GY]
 all_goals exact Qd
def DZ:GR:=Az [(194,Ac gF),(195,Ac aGk),(196,Ac aGj),(125,Ac Lb)]
def O3:List D->Option D:=RF DZ aEh [.t 2] 96
def kI:Kq O3 126:=Av (Al func126) (Aa kH (Aa aR0 (Aa aRZ (Aa N5 Ae))))
def I5(l:Tr)(k v:Bs)(r:Tr)(h:WC (.node l k v r)):O3 [Hh (.node l k v r)]=some (Hh (Tr.level l k v r)):=by
 refine Aq (Qh rfl) ?_;unfold aEh;have j:=Dm l;have o:=Dm r;have e:=Tr.tall_cnt l;have w:=Tr.tall_cnt r;have d:=h;simp only[WC,Tr.cnt,Tr.wgt]at h;have g:IntKind.i64.wrap ((l.tall:Int)-r.tall)=(l.tall:Int)-r.tall:=Hg O O;unfold Tr.level;by_cases c1:r.tall+1<l.tall
 ·rw[if_pos c1];have d1:((1:Int)<(l.tall:Int)-r.tall)=True:=eq_true O;cases l with
  |nil=>simp[Tr.tall]at c1
  |node a x y b=>
   have z:=Dm a;have f:=Dm b;simp only[Tr.cnt,Tr.wgt]at h;simp only;by_cases c2:a.tall<b.tall
   ·rw[if_pos c2];have d2:((a.tall:Int)<b.tall)=True:=eq_true O;cases b with
    |nil=>simp[Tr.tall]at c2
    |node p q s u=>
     simp only[Tr.cnt,Tr.wgt]at h;have n:=S0 (l:=a) (k:=x) (v:=y) (a:=p) (x:=q) (y:=s) (b:=u) ⟨Xi,Xh⟩;have m:=Hn (l:= .node (.node a x y p) q s u) (k:=k) (v:=v) (r:=r) ⟨Xi,Xh⟩;have c:=S_ (a:= .node a x y p) (x:=q) (y:=s) (b:=u) (k:=k) (v:=v) (r:=r) ⟨Xi,Xh⟩;simp only[Tr.rotL,Tr.rotR];simp only[GU,↓GQ,GS,simprocAttr,GY,Ad DZ 194,j,o,g]
     (refine aA (Ah ?_) ?_;first|rfl|simp[Ap,An,GZ,Ag,Ac])
     simp only[GU,↓GQ,GS,simprocAttr,GY,d1,Ad DZ 194,z,f]
     (refine aA (Ah ?_) ?_;first|rfl|simp[Ap,An,GZ,Ag,Ac])
     simp only[GU,↓GQ,GS,simprocAttr,GY,d2,Ad DZ 195,Ad DZ 125,n,m]
     (refine aA (Ah ?_) ?_;first|rfl|simp[Ap,An,GZ,Ag,Ac])
     simp only[GU,↓GQ,GS,simprocAttr,GY,Ad DZ 196,c]
     all_goals exact Qd
   ·rw[if_neg c2];have d2:((a.tall:Int)<b.tall)=False:=eq_false O;have c:=S_ (a:=a) (x:=x) (y:=y) (b:=b) (k:=k) (v:=v) (r:=r) d;simp only[Tr.rotR];simp only[GU,↓GQ,GS,simprocAttr,GY,Ad DZ 194,j,o,g]
    (refine aA (Ah ?_) ?_;first|rfl|simp[Ap,An,GZ,Ag,Ac])
    simp only[GU,↓GQ,GS,simprocAttr,GY,d1,Ad DZ 194,z,f]
    (refine aA (Ah ?_) ?_;first|rfl|simp[Ap,An,GZ,Ag,Ac])
    simp only[GU,↓GQ,GS,simprocAttr,GY,d2,Ad DZ 196,c]
    all_goals exact Qd
 ·rw[if_neg c1];have d1:((1:Int)<(l.tall:Int)-r.tall)=False:=eq_false O;by_cases i:l.tall+1<r.tall
  ·rw[if_pos i];have t:((l.tall:Int)-r.tall< -1)=True:=eq_true O;cases r with
   |nil=>simp[Tr.tall]at i
   |node a x y b=>
    have z:=Dm a;have f:=Dm b;simp only[Tr.cnt,Tr.wgt]at h;simp only;by_cases c2:b.tall<a.tall
    ·rw[if_pos c2];have d2:((b.tall:Int)<a.tall)=True:=eq_true O;cases a with
     |nil=>simp[Tr.tall]at c2
     |node p q s u=>
      simp only[Tr.cnt,Tr.wgt]at h;have n:=S_ (a:=p) (x:=q) (y:=s) (b:=u) (k:=x) (v:=y) (r:=b) ⟨Xi,Xh⟩;have m:=Hn (l:=l) (k:=k) (v:=v) (r:= .node p q s (.node u x y b)) ⟨Xi,Xh⟩;have c:=S0 (l:=l) (k:=k) (v:=v) (a:=p) (x:=q) (y:=s) (b:= .node u x y b) ⟨Xi,Xh⟩;simp only[Tr.rotL,Tr.rotR];simp only[GU,↓GQ,GS,simprocAttr,GY,Ad DZ 194,j,o,g]
      (refine aA (Ah ?_) ?_;first|rfl|simp[Ap,An,GZ,Ag,Ac])
      simp only[GU,↓GQ,GS,simprocAttr,GY,d1,t,Ad DZ 194,z,f]
      (refine aA (Ah ?_) ?_;first|rfl|simp[Ap,An,GZ,Ag,Ac])
      simp only[GU,↓GQ,GS,simprocAttr,GY,d2,Ad DZ 196,Ad DZ 125,n,m]
      (refine aA (Ah ?_) ?_;first|rfl|simp[Ap,An,GZ,Ag,Ac])
      simp only[GU,↓GQ,GS,simprocAttr,GY,Ad DZ 195,c]
      all_goals exact Qd
    ·rw[if_neg c2];have d2:((b.tall:Int)<a.tall)=False:=eq_false O;have c:=S0 (l:=l) (k:=k) (v:=v) (a:=a) (x:=x) (y:=y) (b:=b) d;simp only[Tr.rotL];simp only[GU,↓GQ,GS,simprocAttr,GY,Ad DZ 194,j,o,g]
     (refine aA (Ah ?_) ?_;first|rfl|simp[Ap,An,GZ,Ag,Ac])
     simp only[GU,↓GQ,GS,simprocAttr,GY,d1,t,Ad DZ 194,z,f]
     (refine aA (Ah ?_) ?_;first|rfl|simp[Ap,An,GZ,Ag,Ac])
     simp only[GU,↓GQ,GS,simprocAttr,GY,d2,Ad DZ 195,c]
     all_goals exact Qd
  ·rw[if_neg i];have t:((l.tall:Int)-r.tall< -1)=False:=eq_false O;simp only[GU,↓GQ,GS,simprocAttr,GY,Ad DZ 194,j,o,g]
   (refine aA (Ah ?_) ?_;first|rfl|simp[Ap,An,GZ,Ag,Ac])
   simp only[GU,↓GQ,GS,simprocAttr,GY,d1,t]
   all_goals exact Qd
def On:=y2 f138 [(2,[(19,3),(19,7),(19,11)]),(4,[(7,11),(7,15),(7,19)])] []
def Ot:=y2 f62 [(5,[(6,10),(6,14),(6,18)]),(7,[(18,3),(18,7),(18,11)])] []
def Oo:=y2 f76 [] []
def aEo:=y2 f77 [] []
def Oq:=y2 f75 [] []
def aXW(l r:Tr)(k v:Bs):l.tall+r.tall<lO [Hh l,.str k,.str v,Hh r]:=by
 simp only[lO,D.dep.D.depL,D.dep,Lf];omega
def Nz(G:List D->Option D):GR:=Az [(194,Ac gF),(125,Ac Lb),(126,Ac O3),(138,Ac G)]
def gH:=RT Nz On [.t 8] 72
def aCJ:Kq gH 138:=pD (Al func138) λG h=>Aa kH (Aa N5 (Aa kI (Aa h Ae)))
def aM6:∀(n:Nat)(l:Tr)(k v:Bs)(r:Tr),l.tall+r.tall<n->WC (.node l k v r)->mT Nz On [.t 8] 72 n [Hh l,.str k,.str v,Hh r]=some (Hh (Tr.join l k v r))
 |0,l,k,v,r,h,_=>O
 |n+1,l,k,v,r,hn,h=>by
  show RF (Nz (mT Nz On [.t 8] 72 n)) On [.t 8] 72 _=_;refine Aq (Qh rfl) ?_;have ih:=aM6 n;generalize mT Nz On [.t 8] 72 n=G at ih ⊢;have e:Nz G 194=some (Ac gF):=rfl;have c:Nz G 125=some (Ac Lb):=rfl;have d:Nz G 126=some (Ac O3):=rfl;have f:Nz G 138=some (Ac G):=rfl;have j:=Dm l;have s:=Dm r;have m1:=Tr.tall_cnt l;have u:=Tr.tall_cnt r;simp only[WC,Tr.cnt,Tr.wgt]at h;have p:IntKind.i64.wrap ((r.tall:Int)+1)=(r.tall:Int)+1:=Hg O O;have m:IntKind.i64.wrap ((l.tall:Int)+1)=(l.tall:Int)+1:=Hg O O;unfold On Tr.join;by_cases c1:r.tall+1<l.tall
  ·rw[if_pos c1];have d1:((r.tall:Int)+1<l.tall)=True:=eq_true O;cases l with
   |nil=>simp[Tr.tall]at c1
   |node a x y b=>
    simp only[Tr.cnt,Tr.wgt]at h;have i:b.tall+r.tall<n:=by simp only[Tr.tall]at hn;omega
    have w:=ih b k v r i ⟨Xi,Xh⟩;have o:=Tr.cnt_join b k v r;have q2:=Tr.wgt_join b k v r;have i2:=Hn (l:=a) (k:=x) (v:=y) (r:=Tr.join b k v r) ⟨O,O⟩;have g:=I5 a x y (Tr.join b k v r) ⟨Xi,Xh⟩;simp only;simp only[GU,↓GQ,GS,simprocAttr,GY,Ab e,j,s,p,d1,Ab f,Ab c,Ab d,w,i2,g]
    (refine aA (Ah ?_) ?_;first|rfl|simp[Ap,An,GZ,Ag,Ac])
    simp only[GU,↓GQ,GS,simprocAttr,GY]
    all_goals exact Qd
  ·rw[if_neg c1];have d1:((r.tall:Int)+1<l.tall)=False:=eq_false O;by_cases c2:l.tall+1<r.tall
   ·rw[if_pos c2];have d2:((l.tall:Int)+1<r.tall)=True:=eq_true O;cases r with
    |nil=>simp[Tr.tall]at c2
    |node a x y b=>
     simp only[Tr.cnt,Tr.wgt]at h;have i:l.tall+a.tall<n:=by simp only[Tr.tall]at hn;omega
     have w:=ih l k v a i ⟨Xi,Xh⟩;have o:=Tr.cnt_join l k v a;have q2:=Tr.wgt_join l k v a;have i2:=Hn (l:=Tr.join l k v a) (k:=x) (v:=y) (r:=b) ⟨O,O⟩;have g:=I5 (Tr.join l k v a) x y b ⟨Xi,Xh⟩;simp only;simp only[GU,↓GQ,GS,simprocAttr,GY,Ab e,j,s,p,m,d1,d2,Ab f,Ab c,Ab d,w,i2,g]
     (refine aA (Ah ?_) ?_;first|rfl|simp[Ap,An,GZ,Ag,Ac])
     simp only[GU,↓GQ,GS,simprocAttr,GY]
     all_goals exact Qd
   ·rw[if_neg c2];have d2:((l.tall:Int)+1<r.tall)=False:=eq_false O;have i2:=Hn (l:=l) (k:=k) (v:=v) (r:=r) ⟨O,O⟩;simp only[GU,↓GQ,GS,simprocAttr,GY,Ab e,j,s,p,m,d1,d2,Ab c,i2]
    all_goals exact Qd
def S1(l:Tr)(k v:Bs)(r:Tr)(h:WC (.node l k v r)):gH [Hh l,.str k,.str v,Hh r]=some (Hh (Tr.join l k v r)):=aM6 _ l k v r (aXW l r k v) h
def VB{a b:Bs}:(C6 a b<0)=(Hj a b=true):=by
 unfold C6 Hj;by_cases h:Op.bytesLess a b=true
 ·rw[if_pos h,h];exact propext ⟨λ_=>rfl,λ_=>O⟩
 ·rw[if_neg h];refine propext ⟨λq=>?_,λq=>absurd q h⟩;split at q<;>omega
def V7{a b:Bs}:(0<C6 a b)=(Hj b a=true):=by
 unfold C6;by_cases h:Op.bytesLess a b=true
 ·rw[if_pos h];have:=Cf (a:=a) (b:=b) h;simp only[this];exact propext ⟨λh=>O,λh=>Xd⟩
 ·rw[if_neg h];by_cases e:a=b
  ·subst e;rw[if_pos rfl,Cq];exact propext ⟨λh=>O,λh=>Xd⟩
  ·rw[if_neg e];have:=L4 e;have j:Hj a b=false:=by simpa using h
   rw[j]at this;have q:Hj b a=true:=by
    cases hh:Hj b a with
    |true=>rfl
    |false=>rw[hh]at this;cases this
   rw[q];exact propext ⟨λ_=>rfl,λ_=>O⟩
def NA(G:List D->Option D):GR:=Az [(80,Ac Ph),(125,Ac Lb),(126,Ac O3),(62,Ac G)]
def aGw:=RT NA Ot [.t 6] 78
def aR5:Kq aGw 62:=pD (Al func62) λG h=>Aa pY (Aa N5 (Aa kI (Aa h Ae)))
def Nr(k v:Bs):∀t:Tr,(t.put k v).cnt<=1+t.cnt∧(t.put k v).wgt<=4+k.length+v.length+t.wgt
 | .nil=>by simp[Tr.put,Tr.cnt,Tr.wgt]
 | .node l x y r=>by
  have u:=Nr k v l;have q:=Nr k v r;unfold Tr.put;split
  ·rw[Tr.cnt_level,Tr.wgt_level];simp only[Tr.cnt,Tr.wgt];omega
  split
  ·rw[Tr.cnt_level,Tr.wgt_level];simp only[Tr.cnt,Tr.wgt];omega
  ·rename_i c1 c2;have e:k=x:=by
    by_cases e:k=x
    ·exact e
    ·have:=L4 e;simp_all
   subst e;simp only[Tr.cnt,Tr.wgt];omega
def aM9:∀(n:Nat)(t:Tr)(k v:Bs),t.tall<n->t.cnt<=800000->t.wgt+k.length+v.length<=800000000000->mT NA Ot [.t 6] 78 n [Hh t,.str k,.str v]=some (Hh (t.put k v))
 |0,t,k,v,h,_,_=>O
 |n+1,t,k,v,hn,hc,hw=>by
  show RF (NA (mT NA Ot [.t 6] 78 n)) Ot [.t 6] 78 _=_;refine Aq (Qh rfl) ?_;have ih:=aM9 n;generalize mT NA Ot [.t 6] 78 n=G at ih ⊢;have j:NA G 80=some (Ac Ph):=rfl;have c:NA G 125=some (Ac Lb):=rfl;have d:NA G 126=some (Ac O3):=rfl;have a:NA G 62=some (Ac G):=rfl;unfold Ot;cases t with
  |nil=>
   have w:=Hn (l:= .nil) (k:=k) (v:=v) (r:= .nil) ⟨by simp[Tr.cnt],by simp only[Tr.wgt]at hw ⊢;omega⟩;rw[Gy]at w;simp only[Tr.put];simp only[GU,↓GQ,GS,simprocAttr,GY,bne_self_eq_false,Ab c,w]
   all_goals exact Qd
  |node l x y r=>
   simp only[Tr.cnt,Tr.wgt,Tr.tall]at hn hc hw;have m:Ph [.str k,.str x]=some (.int .i64 (C6 k x)):=rfl;have q:=Nr k v l;have p:=Nr k v r;unfold Tr.put;by_cases c1:Hj k x=true
   ·rw[if_pos c1];have d1:(C6 k x<0)=True:=by rw[VB];exact eq_true c1
    have w:=ih l k v O O O;have i2:=Hn (l:=l.put k v) (k:=x) (v:=y) (r:=r) ⟨O,O⟩;have g:=I5 (l.put k v) x y r ⟨Xi,Xh⟩;simp only[GU,↓GQ,GS,simprocAttr,GY,Ab j,m,d1,Ab a,Ab c,Ab d,w,i2,g]
    (refine aA (Ah ?_) ?_;first|rfl|simp[Ap,An,GZ,Ag,Ac])
    simp only[GU,↓GQ,GS,simprocAttr,GY]
    all_goals exact Qd
   ·rw[if_neg c1];have d1:(C6 k x<0)=False:=by rw[VB];exact eq_false c1
    by_cases c2:Hj x k=true
    ·rw[if_pos c2];have d2:(0<C6 k x)=True:=by rw[V7];exact eq_true c2
     have w:=ih r k v O O O;have i2:=Hn (l:=l) (k:=x) (v:=y) (r:=r.put k v) ⟨O,O⟩;have g:=I5 l x y (r.put k v) ⟨Xi,Xh⟩;simp only[GU,↓GQ,GS,simprocAttr,GY,Ab j,m,d1,d2,Ab a,Ab c,Ab d,w,i2,g]
     (refine aA (Ah ?_) ?_;first|rfl|simp[Ap,An,GZ,Ag,Ac])
     simp only[GU,↓GQ,GS,simprocAttr,GY]
     all_goals exact Qd
    ·rw[if_neg c2];have d2:(0<C6 k x)=False:=by rw[V7];exact eq_false c2
     have i2:=Hn (l:=l) (k:=k) (v:=v) (r:=r) ⟨O,O⟩;simp only[GU,↓GQ,GS,simprocAttr,GY,Ab j,m,d1,d2,Ab c,i2]
     (refine aA (Ah ?_) ?_;first|rfl|simp[Ap,An,GZ,Ag,Ac])
     simp only[GU,↓GQ,GS,simprocAttr,GY]
     all_goals exact Qd
def aGv(t:Tr)(k v:Bs)(g:t.cnt<=800000)(p:t.wgt+k.length+v.length<=800000000000):aGw [Hh t,.str k,.str v]=some (Hh (t.put k v)):=
 aM9 _ t k v YN g p
def aEA:=y2 f24 [] []
def aEz:=y2 f31 [] []
def aEy:=y2 f32 [] []
def Nk:=y3 f8 2 [] []
def aEN:=y2 f8 [] [(2,Nk)]
def Nm:=y3 f36 2 [] []
def aET:=y2 f36 [] [(2,Nm)]
def Ni:=y3 f97 3 [] []
def aEJ:=y2 f97 [] [(3,Ni)]
def Nh:=y3 f98 4 [] []
def aEI:=y2 f98 [] [(4,Nh)]
def aEu:=y2 f115 [] []
def aEt:=y2 f116 [] []
def M9:=y3 f78 2 [] []
def aEn:=y2 f78 [] [(2,M9)]
def aEH:=y2 f65 [] []
def O_(G:List D->Option D):GR:=Az [(125,Ac Lb),(126,Ac O3),(76,Ac G)]
def sV:=RT O_ Oo [.t 2,.t 3,.t 4] 48
def aCN:Kq sV 76:=pD (Al func76) λG h=>Aa N5 (Aa kI (Aa h Ae))
def aSJ(z:Bs×Bs×Tr):D:= .tup [.str z.1,.str z.2.1,Hh z.2.2]
def aM7:∀(n:Nat)(l:Tr)(k v:Bs)(r:Tr),(Tr.node l k v r).tall<n->WC (.node l k v r)->mT O_ Oo [.t 2,.t 3,.t 4] 48 n [Hh (.node l k v r)]=some (aSJ (Tr.first l k v r))
 |0,l,k,v,r,h,_=>O
 |n+1,l,k,v,r,hn,h=>by
  show RF (O_ (mT O_ Oo [.t 2,.t 3,.t 4] 48 n)) Oo [.t 2,.t 3,.t 4] 48 _=_;refine Aq (Qh rfl) ?_;have ih:=aM7 n;generalize mT O_ Oo [.t 2,.t 3,.t 4] 48 n=G at ih ⊢;have c:O_ G 125=some (Ac Lb):=rfl;have d:O_ G 126=some (Ac O3):=rfl;have e:O_ G 76=some (Ac G):=rfl;simp only[WC,Tr.cnt,Tr.wgt]at h;unfold Oo Tr.first;cases l with
  |nil=>
   unfold aSJ;simp only[GU,↓GQ,GS,simprocAttr,GY,bne_self_eq_false]
   (refine aA (Ah ?_) ?_;first|rfl|simp[Ap,An,GZ,Ag,Ac])
   simp only[GU,↓GQ,GS,simprocAttr,GY]
   all_goals exact Qd
  |node a x y b=>
   simp only[Tr.cnt,Tr.wgt]at h;have w:=ih a x y b (by simp only[Tr.tall]at hn ⊢;omega) ⟨Xi,Xh⟩;have o:=Tr.cnt_first a x y b;have q2:=Tr.wgt_first a x y b;unfold aSJ at w ⊢;have i2:=Hn (l:=(Tr.first a x y b).2.2) (k:=k) (v:=v) (r:=r) ⟨O,O⟩;have g:=I5 (Tr.first a x y b).2.2 k v r ⟨Xi,Xh⟩;simp only[GU,↓GQ,GS,simprocAttr,GY,Ab e,w,Ab c,Ab d,i2,g]
   (refine aA (Ah ?_) ?_;first|rfl|simp[Ap,An,GZ,Ag,Ac])
   simp only[GU,↓GQ,GS,simprocAttr,GY]
   all_goals exact Qd
def gJ(l:Tr)(k v:Bs)(r:Tr)(h:WC (.node l k v r)):sV [Hh (.node l k v r)]=some (.tup [.str (Tr.first l k v r).1,.str (Tr.first l k v r).2.1,Hh (Tr.first l k v r).2.2]):=
 aM7 _ l k v r (by simp only[lO,D.dep.D.depL,Lf];omega) h
def aFL:=Az [(76,Ac sV),(138,Ac gH)]
def sU:=RF aFL aEo [.t 4] 22
def aCM:Kq sU 77:=Av (Al func77) (Aa aCN (Aa aCJ Ae))
def gI(l r:Tr)(g:l.cnt+r.cnt<=900000)(t:l.wgt+r.wgt<=900000000000):sU [Hh l,Hh r]=some (Hh (Tr.both l r)):=by
 refine Aq (Qh rfl) ?_;unfold aEo;cases r with
 |nil=>
  simp only[GU,↓GQ,GS,simprocAttr,GY,bne_self_eq_false]
  all_goals exact Qd
 |node a x y b=>
  simp only[Tr.cnt,Tr.wgt]at g t;have w:=gJ a x y b ⟨Xi,Xh⟩;have k:=Tr.cnt_first a x y b;have q2:=Tr.wgt_first a x y b;have i2:=S1 l (Tr.first a x y b).1 (Tr.first a x y b).2.1 (Tr.first a x y b).2.2 ⟨Xi,Xh⟩;unfold Tr.both;simp only;simp only[GU,↓GQ,GS,simprocAttr,GY,Ad aFL 76,w,Ad aFL 138,i2]
  all_goals exact Qd
def SW(G:List D->Option D):GR:=Az [(138,Ac gH),(75,Ac G)]
def sW:=RT SW Oq [.t 4,.t 5] 66
def aCO:Kq sW 75:=pD (Al func75) λG h=>Aa aCJ (Aa h Ae)
def aIl(z:Tr×Tr):D:= .tup [Hh z.1,Hh z.2]
def aM8:∀(n:Nat)(t:Tr)(q:Bs),t.tall<n->WC t->mT SW Oq [.t 4,.t 5] 66 n [Hh t,.str q]=some (aIl (t.split q))
 |0,t,q,h,_=>O
 |n+1,t,q,hn,h=>by
  show RF (SW (mT SW Oq [.t 4,.t 5] 66 n)) Oq [.t 4,.t 5] 66 _=_;refine Aq (Qh rfl) ?_;have ih:=aM8 n;generalize mT SW Oq [.t 4,.t 5] 66 n=G at ih ⊢;have f:SW G 138=some (Ac gH):=rfl;have a:SW G 75=some (Ac G):=rfl;unfold Oq;cases t with
  |nil=>
   unfold Tr.split aIl;simp only[GU,↓GQ,GS,simprocAttr,GY,bne_self_eq_false]
   all_goals exact Qd
  |node l x y r=>
   simp only[WC,Tr.cnt,Tr.wgt,Tr.tall]at hn h;unfold Tr.split;by_cases c1:Hj x q=true
   ·rw[if_pos c1];have w:=ih r q O ⟨O,O⟩;have k:=Tr.cnt_split q r;have q2:=Tr.wgt_split q r;have i2:=S1 l x y (r.split q).1 ⟨Xi,Xh⟩;unfold aIl at w ⊢;have p:AQ .lss (.str x) (.str q)=some (.bool (Hj x q)):=rfl;simp only[GU,↓GQ,GS,simprocAttr,GY,p,c1,Ab a,w,Ab f,i2]
    (refine aA (Ah ?_) ?_;first|rfl|simp[Ap,An,GZ,Ag,Ac])
    simp only[GU,↓GQ,GS,simprocAttr,GY]
    all_goals exact Qd
   ·rw[if_neg c1];have c1:Hj x q=false:=by simpa using c1
    have w:=ih l q O ⟨O,O⟩;have k:=Tr.cnt_split q l;have q2:=Tr.wgt_split q l;have i2:=S1 (l.split q).2 x y r ⟨Xi,Xh⟩;unfold aIl at w ⊢;have p:AQ .lss (.str x) (.str q)=some (.bool (Hj x q)):=rfl;simp only[GU,↓GQ,GS,simprocAttr,GY,p,c1,Ab a,w,Ab f,i2]
    (refine aA (Ah ?_) ?_;first|rfl|simp[Ap,An,GZ,Ag,Ac])
    simp only[GU,↓GQ,GS,simprocAttr,GY]
    all_goals exact Qd
def S7(t:Tr)(q:Bs)(h:WC t):sW [Hh t,.str q]=some (.tup [Hh (t.split q).1,Hh (t.split q).2]):=
 aM8 _ t q YN h
def aPY:=Az [(164,Ac NE)]
def aQa:=RF aPY aEu [.t 2] 6
def aSa:Kq aQa 115:=Av (Al func115) (Aa VD Ae)
def aGA(t:Tr):aQa [.agg [Hh t]]=some (.int .i64 (t.cnt:Nat)):=by
 refine Aq (Qh rfl) ?_;unfold aEu;have h:=I6 t;simp only[GU,↓GQ,GS,simprocAttr,GY,Ad aPY 164,h]
 all_goals exact Qd
def aPX:=Az [(191,Ac aGq)]
def aP9:=RF aPX aEt [.t 2] 6
def aR9:Kq aP9 116:=Av (Al func116) (Aa aCL Ae)
def aGz(t:Tr):aP9 [.agg [Hh t]]=some (.int .i64 (t.wgt:Nat)):=by
 refine Aq (Qh rfl) ?_;unfold aEt;have h:=S6 t;simp only[GU,↓GQ,GS,simprocAttr,GY,Ad aPX 191,h]
 all_goals exact Qd
def aPZ:=Az [(62,Ac aGw)]
def tJ:=RF aPZ aEA [.cell (some 1) 6] 13
def aCR:Kq tJ 24:=Av (Al func24) (Aa aR5 Ae)
def NF(t:Tr)(k v:Bs)(g:t.cnt<=800000)(p:t.wgt+k.length+v.length<=800000000000):tJ [.agg [Hh t],.str k,.str v]=some (.agg [Hh (t.put k v)]):=by
 refine Aq (Qh rfl) ?_;unfold aEA;have h:=aGv t k v g p;simp only[GU,↓GQ,GS,simprocAttr,GY,Ad aPZ 62,h]
 all_goals exact Qd
def R1{S:GR}{q:Bs}{Q:Ex->St->Prop}(j:S 80=some (Ac Ph)):∀(t:Tr)(z:St) g,z.s 1= .str q->z.s 6=Hh t->(∀v o,t.get q=some v->o.s 4= .str v->o.s 5= .bool true->Q .ret o)->(t.get q=none->∀o,Q (.exit 0) o)->AK S [] Nm Q z g
 | .nil,z,g,h1,h6,hr,he=>by
  refine Af Nm.eq_1 ?_;simp only[GU,↓GQ,GS,simprocAttr,GY,h1,h6,bne_self_eq_false];exact he rfl _
 | .node l x y r,z,g,h1,h6,hr,he=>by
  have w:=R1 (q:=q) (Q:=Q) j l;have i2:=R1 (q:=q) (Q:=Q) j r;have m:Ph [.str q,.str x]=some (.int .i64 (C6 q x)):=rfl;refine Af Nm.eq_1 ?_;obtain⟨u,d,n⟩:=z;simp only at h1 h6;unfold Tr.get at hr he;by_cases c1:Hj q x=true
  ·rw[if_pos c1]at hr he;have d1:(C6 q x<0)=True:=by rw[VB];exact eq_true c1
   simp only[GU,↓GQ,GS,simprocAttr,GY,h1,h6,GM,Ab j,m,d1];exact w _ _ h1 rfl hr he
  ·rw[if_neg c1]at hr he;have d1:(C6 q x<0)=False:=by rw[VB];exact eq_false c1
   by_cases c2:Hj x q=true
   ·rw[if_pos c2]at hr he;have d2:(0<C6 q x)=True:=by rw[V7];exact eq_true c2
    simp only[GU,↓GQ,GS,simprocAttr,GY,h1,h6,Ab j,m,d1,d2];exact i2 _ _ h1 rfl hr he
   ·rw[if_neg c2]at hr he;have d2:(0<C6 q x)=False:=by rw[V7];exact eq_false c2
    simp only[GU,↓GQ,GS,simprocAttr,GY,h1,h6,Ab j,m,d1,d2];exact hr y _ rfl rfl rfl
def aP7:=Az [(80,Ac Ph)]
def gT:=RF aP7 aET [.t 4,.t 5] 36
def kK:Kq gT 36:=Av (Al func36) (Aa pY Ae)
def NH(t:Tr)(q:Bs):gT [.agg [Hh t],.str q]=some (.tup [.str ((t.get q).getD []),.bool (t.get q).isSome]):=by
 refine Aq (Qh rfl) ?_;have y:aP7 80=some (Ac Ph):=rfl;unfold aET;simp only[GU,↓GQ,GS,simprocAttr,GY];refine R1 (q:=q) y t _ _ rfl rfl (λv o a x k=>?_) (λa o=>?_)
 ·rw[a];simp only[GU,↓GQ,GS,simprocAttr,x,k]
  all_goals exact Qd
 ·rw[a];simp only[GU,↓GQ,GS,simprocAttr]
  all_goals exact Qd
def R0{S:GR}{q:Bs}{Q:Ex->St->Prop}(v:S 164=some (Ac NE)):∀(t:Tr)(r:Nat)(z:St) g,t.cnt<=900000->r+t.cnt<=900000->z.s 1= .str q->z.s 5= .int .i64 (r:Int)->z.s 6=Hh t->(∀o,o.s 5= .int .i64 ((r+t.rank q:Nat):Int)->Q (.exit 0) o)->AK S [] Ni Q z g
 | .nil,r,z,g,hc,hr,h1,h5,h6,he=>by
  refine Af Ni.eq_1 ?_;simp only[GU,↓GQ,GS,simprocAttr,GY,h1,h6,bne_self_eq_false];exact he _ h5
 | .node l x y t,r,z,g,hc,hr,h1,h5,h6,he=>by
  have w:=R0 (q:=q) (Q:=Q) v l;have i2:=R0 (q:=q) (Q:=Q) v t;have a:=I6 l;simp only[Tr.cnt]at hc hr;have p:IntKind.i64.wrap (1+(l.cnt:Int))=((1+l.cnt:Nat):Int):=Xg
  have m:IntKind.i64.wrap ((r:Int)+((1+l.cnt:Nat):Int))=((r+(1+l.cnt):Nat):Int):=Xg
  refine Af Ni.eq_1 ?_;obtain⟨u,d,n⟩:=z;simp only at h1 h5 h6;have k:AQ .lss (.str x) (.str q)=some (.bool (Hj x q)):=rfl;unfold Tr.rank at he;by_cases c1:Hj x q=true
  ·rw[if_pos c1]at he;simp only[GU,↓GQ,GS,simprocAttr,GY,h1,h5,h6,GM,k,c1,Ab v,a,p,m];exact i2 (r+(1+l.cnt)) _ _ O O h1 rfl rfl (λo h=>he o (by rw[h];congr 2;omega))
  ·rw[if_neg c1]at he;have c1:Hj x q=false:=by simpa using c1
   simp only[GU,↓GQ,GS,simprocAttr,GY,h1,h5,h6,GM,k,c1];exact w r _ _ O O h1 h5 rfl he
def aP4:=Az [(164,Ac NE)]
def aQe:=RF aP4 aEJ [.t 4] 34
def aSl:Kq aQe 97:=Av (Al func97) (Aa VD Ae)
def aGP(t:Tr)(q:Bs)(g:t.cnt<=900000):aQe [.agg [Hh t],.str q]=some (.int .i64 (t.rank q:Nat)):=by
 refine Aq (Qh rfl) ?_;have v:aP4 164=some (Ac NE):=rfl;unfold aEJ;simp only[GU,↓GQ,GS,simprocAttr,GY];refine R0 (q:=q) v t 0 _ _ g O rfl rfl rfl (λo h=>?_);rw[Qw]at h;simp only[GU,↓GQ,GS,simprocAttr,h]
 all_goals exact Qd
def atD(z:Option (Bs×Bs)):D:= .tup [.str (z.getD ([],[])).1,.str (z.getD ([],[])).2,.bool z.isSome]
def R_{S:GR}{Q:Ex->St->Prop}(j:S 164=some (Ac NE)):∀(t:Tr)(i:Nat)(z:St) g,t.cnt<=900000->i<=900000->z.s 1= .int .i64 (i:Int)->z.s 7=Hh t->(∀k v o,t.at_ i=some (k,v)->o.s 4= .str k->o.s 5= .str v->o.s 6= .bool true->Q .ret o)->(t.at_ i=none->∀o,Q (.exit 0) o)->AK S [] Nh Q z g
 | .nil,i,z,g,hc,hi,h1,h7,hr,he=>by
  refine Af Nh.eq_1 ?_;simp only[GU,↓GQ,GS,simprocAttr,GY,h1,h7,bne_self_eq_false];exact he rfl _
 | .node l x y r,i,z,g,hc,hi,h1,h7,hr,he=>by
  have w:=R_ (Q:=Q) j l;have i2:=R_ (Q:=Q) j r;have a:=I6 l;simp only[Tr.cnt]at hc;have p:IntKind.i64.wrap ((l.cnt:Int)+1)=(l.cnt:Int)+1:=Hg O O;refine Af Nh.eq_1 ?_;obtain⟨u,d,n⟩:=z;simp only at h1 h7;unfold Tr.at_ at hr he;by_cases c1:i<l.cnt
  ·rw[if_pos c1]at hr he;have d1:((i:Int)<l.cnt)=True:=eq_true O;simp only[GU,↓GQ,GS,simprocAttr,GY,h1,h7,GM,Ab j,a,d1];exact w i _ _ O hi h1 rfl hr he
  ·rw[if_neg c1]at hr he;have d1:((i:Int)<l.cnt)=False:=eq_false O;by_cases c2:l.cnt<i
   ·rw[if_pos c2]at hr he;have d2:((l.cnt:Int)<i)=True:=eq_true O;have m:IntKind.i64.wrap ((i:Int)-((l.cnt:Int)+1))=((i-(l.cnt+1):Nat):Int):=by rw[Hg O O];omega
    simp only[GU,↓GQ,GS,simprocAttr,GY,h1,h7,GM,Ab j,a,d1,d2,p,m];exact i2 (i-(l.cnt+1)) _ _ O O rfl rfl hr he
   ·rw[if_neg c2]at hr he;have d2:((l.cnt:Int)<i)=False:=eq_false O;simp only[GU,↓GQ,GS,simprocAttr,GY,h1,h7,GM,Ab j,a,d1,d2]
    (refine aA (Ah ?_) ?_;first|rfl|simp[Ap,An,GZ,Ag,Ac])
    simp only[GU,↓GQ,GS,simprocAttr,GY];exact hr x y _ rfl rfl rfl rfl
def aP3:=Az [(164,Ac NE)]
def aQd:=RF aP3 aEI [.t 4,.t 5,.t 6] 48
def aSk:Kq aQd 98:=Av (Al func98) (Aa VD Ae)
def aGO(t:Tr)(i:Nat)(g:t.cnt<=900000)(hi:i<=900000):aQd [.agg [Hh t],.int .i64 (i:Nat)]=some (atD (t.at_ i)):=by
 refine Aq (Qh rfl) ?_;have y:aP3 164=some (Ac NE):=rfl;unfold aEI;have r:((i:Int)<0)=False:=eq_false O;simp only[GU,↓GQ,GS,simprocAttr,GY,r];refine R_ y t i _ _ g hi rfl rfl (λk v o a x b h6=>?_) (λa o=>?_)
 ·rw[a];unfold atD;simp only[GU,↓GQ,GS,simprocAttr,x,b,h6]
  all_goals exact Qd
 ·rw[a];unfold atD;simp only[GU,↓GQ,GS,simprocAttr]
  all_goals exact Qd
def fH(x:UInt8):∀l:Bs,Tr.beyB (l++[x])=if x<255 then some (l++[x+1])else Tr.beyB l
 |[]=>by
  show(match Tr.beyB []with|some e=>some (x::e)|none=>if x<255 then some [x+1]else none)=_;rfl
 |y::l=>by
  have ih:=fH x l;show(match Tr.beyB (l++[x])with|some e=>some (y::e)|none=>if y<255 then some [y+1]else none)=_;rw[ih];by_cases c:x<255
  ·rw[if_pos c,if_pos c];rfl
  ·rw[if_neg c,if_neg c];rfl
def cU{S:GR}{p:Bs}{Q:Ex->St->Prop}(u:p.length<=1000000):∀(j:Nat)(z:St) g,j<=p.length->z.s 0= .str p->z.s 4= .int .i64 ((j:Int)-1)->(∀e o,Tr.beyB (p.take j)=some e->o.s 2= .str e->o.s 3= .bool true->Q .ret o)->(Tr.beyB (p.take j)=none->∀o,Q (.exit 0) o)->AK S [] M9 Q z g
 |0,z,g,hj,h0,h4,hr,he=>by
  refine Af M9.eq_1 ?_;have w:z.s 4= .int .i64 (-1):=h4;have d1:((0:Int)<=-1)=False:=eq_false Z;simp only[GU,↓GQ,GS,simprocAttr,h0,w,d1];exact he rfl _
 |j+1,z,g,hj,h0,h4,hr,he=>by
  have ih:=cU (S:=S) (Q:=Q) u j;refine Af M9.eq_1 ?_;obtain⟨m,d,r⟩:=z;simp only at h0 h4;have b:((j+1:Nat):Int)-1=(j:Int):=O
  rw[b]at h4;have d1:((0:Int)<=(j:Int))=True:=eq_true O;have f:p[j]?=some (p[j]' O):=Qk O;generalize (p[j]' O)=x at f;have t:p.take (j+1)=p.take j++[x]:=by rw[List.take_add_one,f];rfl
  rw[t,fH]at hr he;have v:IntKind.i64.wrap ((j:Int)-1)=(j:Int)-1:=Hg O O;by_cases c:x<255
  ·rw[if_pos c]at hr he;have c':x.toNat<255:=c;have d2:((x.toNat:Int)<255)=True:=eq_true O;have a:IntKind.u8.wrap ((x.toNat:Int)+1)=((x.toNat+1:Nat):Int):=by
    show((x.toNat:Int)+1) % 256=_;omega
   have n:UInt8.ofNat (x.toNat+1)=x+1:=by
    apply UInt8.toNat_inj.1;rw[UInt8.toNat_ofNat',UInt8.toNat_add];rfl
   have ia:((j:Int)<=p.length)=True:=eq_true O;have q:AQ .add (.str (p.take j)) (.str [x+1])=some (.str (p.take j++[x+1])):=LS (by rw[ZQ];simp only[Qi,Qx];omega);simp only[GU,↓GQ,GS,simprocAttr,h0,h4,d1,ia,f,d2,a,n,Qp,QT,Zd,and_self,q]
   (refine aA (Ah ?_) ?_;first|rfl|simp[Ap,An,GZ,Ag,Ac])
   simp only[GU,↓GQ,GS,simprocAttr];exact hr _ _ rfl rfl rfl
  ·rw[if_neg c]at hr he;have c':¬x.toNat<255:=c;have d2:((x.toNat:Int)<255)=False:=eq_false O;simp only[GU,↓GQ,GS,simprocAttr,h0,h4,d1,f,d2,v,Qp];exact ih _ _ O h0 rfl hr he
def aP2:=Az [(130,Ac aAu)]
def aQc:=RF aP2 aEH [.t 4] 8
def aSj:Kq aQc 65:=Av (Al func65) (Aa aMv Ae)
def aGN(s t:Bs):aQc [.str s,.str t]=some (.bool (A2 s t)):=by
 refine Aq (Qh rfl) ?_;unfold aEH;have h:aAu [.str s,.str t]=some (.bool (A2 s t)):=rfl;simp only[GU,↓GQ,GS,simprocAttr,Ad aP2 130,h]
 all_goals exact Qd
def Gx(e:Nat)(fr:Id)(m:GV)(c:Nat)(nl:Bool)(t:Id):Prop:=(nl=true∧t=[])∨(nl=false∧∃k,t=k::fr∧k<c∧m t 0=some (.tok (e+1)))
def Gx.more{e:Nat}{fr:Id}{m:GV}{c c':Nat}{nl:Bool}{t:Id}(h:Gx e fr m c nl t)(g:c<=c'):Gx e fr m c' nl t:=by
 rcases h with h|⟨u,k,q,d,x⟩
 ·exact .inl h
 ·exact .inr ⟨u,k,q,O,x⟩
def Gx.put{e:Nat}{fr:Id}{m:GV}{c:Nat}{nl:Bool}{t:Id}{k o:Nat}{ds:List D}(h:Gx e fr m c nl t)(s:c<=k:=by omega):Gx e fr (m.put (k::fr) o ds) c nl t:=by
 rcases h with h|⟨u,q,z,d,x⟩
 ·exact .inl h
 ·refine .inr ⟨u,q,z,d,?_⟩;rw[aB]
  ·exact x
  ·rw[z];simp;omega
def Gx.grow{e:Nat}{fr:Id}{m:GV}{c:Nat}{nl:Bool}{t:Id}{xs:List D}(h:Gx e fr m c nl t):I9 m e (.slice nl t xs):=by
 rcases h with h|⟨u,q,z,d,x⟩
 ·exact .inl h.1
 ·exact .inr ⟨x,by rw[z];simp⟩
def Gx.app{e:Nat}{fr:Id}{m:GV}{c' k:Nat}{nl:Bool}{t:Id}{xs:List D}(s:k<c'):Gx e fr (Ha.app m (Be e (k::fr) (.slice nl t xs))) c' false (k::fr):=
 .inr ⟨rfl,k,rfl,s,by rw[CZ,if_pos ⟨rfl,rfl⟩]⟩
def Wt.own{i fr t0 t:Id}{m0 m:GV}{nl0:Bool}{w:Wb}{o:Oc}{e c k:Nat}{nl:Bool}{n:Id}{xs:List D}(h:Wt i fr m0 nl0 t0 m w o t)(na:∀j x,fr<:+j->m0 j x=none)(p:∀k,(i=k::fr)=False)(r:Gx e fr m c nl n):Wt i fr m0 nl0 t0 (Ha.app m (Be e (k::fr) (.slice nl n xs))) w o t:=by
 rcases r with ⟨rfl,_⟩|⟨rfl,q,rfl,_,_⟩
 ·exact h.put na p
 ·exact(h.put na p).put na p
def aXM(o:Oc)(l:List Bs):Oc:={o with nl:=o.nl&&l.isEmpty,ops:=o.ops++l.map λn=>(2,A9 3 n 0,[])}
def aZJ(o:Oc)(nl:Bool)(k:List Tk)(a:Bool)(w:List Bs):Oc:={aXM (ksO o nl k) w with rep:=NM (.names a w)}
def N_{s:Bs}(h:AV s=0):s.length<=64:=by
 grind [AV]
def aUX{y:Ry}(h:NN y=0):NM y≠[]:=by
 unfold NM;rw[if_pos h];intro e;have q:=aBg y;cases y<;>simp[OF,spJ,Lib.join]at e<;>(try split at e)<;>simp[]at e
def Gr(s:Bs):Prop:=∃y,NN y=0∧ryN y∧s=NM y
def Gr.ne{s:Bs}:Gr s->s≠[]:=λ⟨y,h,_,e⟩=>by rw[e];exact aUX h
def xP(l:List Bs):0<=IP l∧IP l<=99:=by
 grind [IP]
def Lg(s:Bs):0<=AV s∧AV s<=99:=by
 unfold AV;split
 ·decide
 ·exact xP _
def aDq(b:Bool):0<=Dj b∧Dj b<=99:=by cases b<;>decide
def aBl(r:Rl)(l:List Rl):0<=Io r l∧Io r l<=99:=by
 unfold Io;have:=Lg r.1
 repeat' split
 all_goals omega
def TJ(l:List Rl):∀f j,0<=DJ l f j∧DJ l f j<=99
 |0,j=>by unfold DJ;decide
 |f+1,j=>by
  unfold DJ;have:=aBl (Bx l j) (l.take j);have:=TJ l f (j+1)
  repeat' split
  all_goals omega
def Vj(l:List Rl):0<=B4 l∧B4 l<=99:=by
 unfold B4;have:=TJ l l.length 0;split<;>omega
def xU(a:Ak)(c:Int):0<=BE a c∧BE a c<=99:=by
 unfold BE;have:=Lg a.pa;have:=Lg a.ot;have:=Vj a.rs
 repeat' split
 all_goals first|exact aDq _|omega
def aIf(n p:Bs)(l:List Rl):0<=Dc n p l∧Dc n p l<=99:=by
 unfold Dc;have:=Vj l
 repeat' split
 all_goals omega
def uW{n p:Bs}{l:List Rl}(h:Dc n p l=0):BJ n=true:=by
 grind [Dc]
def RZ(l:List Tk)(k:Tk):((∃z,BO l k=(some z,0))∧Dc k.1 k.2.1 k.2.2.2=0∧k.2.1≠[]∧AN l k.1=false∧AN l k.2.1=true∧(BO l k).1=some (BD l k))∨((BO l k).1=none∧1<=(BO l k).2∧(BO l k).2<=99):=by
 unfold BO;have h:=aIf k.1 k.2.1 k.2.2.2;by_cases u:Dc k.1 k.2.1 k.2.2.2≠0
 ·rw[if_pos u];exact .inr ⟨rfl,Xb⟩
 rw[if_neg u];by_cases q:k.2.1=[]
 ·rw[if_pos q];exact .inr ⟨rfl,Z,Z⟩
 rw[if_neg q];by_cases d:AN l k.1=true
 ·rw[if_pos d];exact .inr ⟨rfl,Z,Z⟩
 rw[if_neg d];by_cases x:AN l k.2.1=false
 ·rw[if_pos x];exact .inr ⟨rfl,Z,Z⟩
 rw[if_neg x];by_cases b:CD k.2.2.2 (AP l (HT l k.2.1)).2.2.2=false
 ·rw[if_pos b];exact .inr ⟨rfl,Z,Z⟩
 rw[if_neg b];exact .inl ⟨⟨_,rfl⟩,Decidable.not_not.1 u,q,XS,by simpa using x,rfl⟩
structure aG6 (l:List Tk):Prop where
 sort:DY l
 tree:∃r,rV l r∧r []=0
 name:∀k∈l,BJ k.1=true
 par:∀k∈l,k.2.1=[]∨∃u∈l,u.1=k.2.1
 nop:∀k∈l,k.2.1=[]->k.1=[114,111,111,116]
 rt:∀k∈l,k.1=[114,111,111,116]->k.2.2.2=[([],63)]
def aG6.root{l:List Tk}(h:aG6 l){t:Tk}(w:t∈l):∃k∈l,k.1=[114,111,111,116]:=by
 obtain⟨r,j,_⟩:=h.tree;have key:∀(n:Nat)(t:Tk),t∈l->r t.1<=n->∃k∈l,k.1=[114,111,111,116]:=by
  intro n;induction n with
  |zero=>
   intro t w c;have:=j.up t w;omega
  |succ n ih=>
   intro t w c;rcases h.par t w with e|⟨u,a,e⟩
   ·exact⟨t,w,h.nop t w e⟩
   ·have:=j.up t w;exact ih u a (by rw[e];omega)
 exact key _ t w (Qj _)
def vE{l:List Tk}(h:DY l):l.Pairwise λt u=>t.1≠u.1:=by
 rw[QW];intro i j hi w x e;have:=h i j x w;unfold AP at this;rw[Zr,Zr,Qk hi,Qk w]at this;simp only[QY]at this;rw[e,GN]at this;cases this
def Gi{l:List Tk}{s:Bs}(h:AN l s=true):∃k∈l,k.1=s:=by
 grind [AN,Ou,Rs]
def B9{l:List Tk}{k x:Tk}:x∈BD l k↔x∈l∨x=k:=by
 unfold BD;rw[Q1,QM];constructor
 ·grind
 ·rintro(h|h)
  ·rw[←List.take_append_drop (HT l k.1) l,Q1]at h;rcases h with h|h
   ·exact .inl h
   ·exact .inr (.inr h)
  ·exact .inr (.inl h)
def Ig(l:List Tk)(k:Tk):(BD l k).length=l.length+1:=by
 grind [BD]
def aND:=y0 f228 [] []
def VX:=y1 f171 5 [] []
def aOa:=y0 f171 [] [(5,VX)]
def bAG:=Az []
def aTA:=RF bAG aND [.t 2] 24
def aWU:Kq aTA 228:=Av (Al func228) Ae
def w8{x:Int}(y:0<=x)(u:x<256):IntKind.u8.wrap x=x:=by show x % 256=x;omega
def orE:∀x:Nat,x<16->∀y:Nat,y<16->IntKind.u8.wrap (bits .or .i64 (IntKind.i64.wrap ((x:Int)*2 ^ min (4:Int).toNat IntKind.i64.bits)) (y:Int))=((16*x+y:Nat):Int):=Z
def aYT:=Az [(228,Ac aTA)]
def aTN:=RF aYT aOa [.t 2,.t 3] 47
def aXb:Kq aTN 171:=Av (Al func171) (Aa aWU Ae)
def opV(x:Op1):Prop:=x.2.1.length<=100∧x.2.2.length<=400∧((x.1=1∧x.2.1≠[])∨(x.1=2∧x.2.1≠[]∧x.2.2=[])∨(x.1=3∧x.2.2=[]))
def aJI(k:Int)(p:Bs)(n:Int):(A9 k p n).length<=p.length+8:=by
 unfold A9
 repeat' split
 all_goals (first|(simp only[Qt,Qi,Qx];omega)|exact Qm _)
def opK(x:Op1):Prop:=opV x∧(x.1≠3->Br (AH x.2.1).1 (AH x.2.1).2.1 (AH x.2.1).2.2=0)
theorem Sg(p s:Bs):A2 (p++s) p=true:=XH
def Rz{s:Bs}(h:AV s=0):1<=s.length:=by
 cases s with
 |nil=>exact absurd h Z
 |cons c s=>simp
def Lo{k n:Int}{name:Bs}(h:Br k name n=0):AH (A9 k name n)=(k,name,n):=by
 unfold A9;rw[if_neg (λe=>e h)];unfold Br at h;by_cases u:k=1
 ·grind [AH,Sg]
 rw[if_neg u]at h ⊢;by_cases q:k=2
 ·subst q;rw[if_pos rfl]at h;split at h
  ·rename_i c;obtain⟨n1,n2,j⟩:=c;have hl:=Rz j;rw[if_pos rfl];have a:(IntKind.u8.wrap n).toNat=n.toNat:=by
    have:IntKind.u8.wrap n=n:=by show n % 256=n;omega
    rw[this]
   rw[a];have s:([100,47]++name++[0,UInt8.ofNat n.toNat]).drop 2=name++[0,UInt8.ofNat n.toNat]:=U
   have y:(name++[0,UInt8.ofNat n.toNat]).length=name.length+2:=U
   unfold AH;have p:(name++[0,UInt8.ofNat n.toNat]).take (name.length+2-2)=name:=U
   have t:(name++[0,UInt8.ofNat n.toNat]).getD (name.length+2-1) 0=UInt8.ofNat n.toNat:=by simp[Q3]
   have b:(name++[0,UInt8.ofNat n.toNat]).getD (name.length+2-2) 0=0:=by simp[Q3]
   have f:(((UInt8.ofNat n.toNat).toNat:Nat):Int)=n:=by
    rw[UInt8.toNat_ofNat'];omega
   rw[s,y,if_neg U,if_neg U,if_neg XH,if_neg XH,if_pos ⟨by rw[Q5];exact Sg _ _,O,b⟩,p,t,f]
  ·cases h
 rw[if_neg q]at h ⊢;by_cases d:k=3
 ·simp_all [AH,A2,Sg]
 rw[if_neg d]at h ⊢;split at h
 ·rename_i m;split at h
  ·rename_i c;obtain⟨rfl,rfl⟩:=c;rcases m with rfl|rfl
   ·rfl
   ·rfl
  ·cases h
 ·cases h
def VE{k n:Int}{name:Bs}(h:Br k name n=0):A9 k name n≠[]:=λe=>by
 have:=Lo h;rw[e]at this;have:k=0:=(congrArg (·.1) this).symm;subst this;cases h
def Pp{a k n:Int}{name v:Bs}(s:a=1∨a=2∧v=[])(h:Br k name n=0)(hl:name.length<=64)(y:v.length<=400):opK (a,A9 k name n,v):=by
 have u:=aJI k name n;have q:=VE h;refine⟨⟨by show(A9 k name n).length<=100;omega,y,?_⟩,λ_=>by show Br (AH (A9 k name n)).1 _ _=0;rw[Lo h];exact h⟩;rcases s with rfl|⟨rfl,rfl⟩
 ·exact .inl ⟨rfl,q⟩
 ·simp_all
def aIw{p:Bs}(h:AV p=0):Br 1 p 0=0:=by unfold Br;rw[if_pos rfl,if_pos ⟨rfl,h⟩]
def aQX{p:Bs}{n:Int}(h:AV p=0)(c:1<=n∧n<=30):Br 2 p n=0:=by unfold Br;rw[if_neg Z,if_pos rfl,if_pos ⟨c.1,c.2,h⟩]
def aZH{p:Bs}(h:BJ p=true):Br 3 p 0=0:=by unfold Br;rw[if_neg Z,if_neg Z,if_pos rfl,if_pos ⟨rfl,h⟩]
structure aAn (l:List Op1):Prop where
 n:l.length<=40
 ok:∀x∈l,opK x
def aKi{l z:List Mt}{m:Mt}(e:(CK l m).1=some z):AV m.1=0∧l.length<4:=by
 grind [CK,Cp]
def NV{l:List Tk}:DY l↔l.Pairwise λa b=>Op.bytesLess a.1 b.1=true:=by
 rw[QW];constructor
 ·intro h i j hi w x;have:=h i j x w;simpa[AP,Q3,hi,w]using this
 ·intro h i j x w;have:=h i j O w x;simpa[AP,Q3,show i<l.length by omega,w]using this
def R6(q g:Bs):∀l:List Bs,CG (l++[q]) g=if q=g then(l.length:Int)else CG l g
 |[]=>by simp[CG]
 |x::r=>by
  have ih:=R6 q g r;show CG (x::(r++[q])) g=_;unfold CG;rw[ih];by_cases h:q=g
  ·simp only[if_pos h];rw[if_pos O];simp
  ·simp only[if_neg h]
def eI(k:Kn)(q:Bs)(t:Bs)(b:Bool)(g:Bs):Dx {k with es:=k.es++[(q,t,b)]} g=if q=g then(t,b,true)else Dx k g:=by
 unfold Dx Fo;simp only[Q2,QP,Zc,R6,QC];by_cases h:q=g
 ·simp only[if_pos h];rw[if_neg O];simp[Q3]
 ·simp only[if_neg h];by_cases z:CG (k.es.map (·.1)) g<0
  ·rw[if_pos z,if_pos z]
  ·rw[if_neg z,if_neg z];have:=(MP (k.es.map (·.1)) g).2;rw[QC]at this;have e:∀x,(k.es++[(q,t,b)]).getD (CG (k.es.map (·.1)) g).toNat x=k.es.getD (CG (k.es.map (·.1)) g).toNat x:=λx=>by
    simp only[Q3];rw[Za O]
   rw[e]
def Pq(k:Kn)(q:Bs)(d:Dk)(g:Bs):(q=g->(Dx (Bv k q false d) g).2.2=true)∧(q≠g->Dx (Bv k q false d) g=Dx k g):=by
 have e:Bv k q false d={k with es:=k.es++[(q,((d.its.find? λx=>decide (x.1=q)).getD ([],[],false)).2)]}:=rfl;rw[e];have h:=eI k q ((d.its.find? λx=>decide (x.1=q)).getD ([],[],false)).2.1 ((d.its.find? λx=>decide (x.1=q)).getD ([],[],false)).2.2 g;refine⟨λu=>?_,λu=>?_⟩
 ·refine(congrArg (λx=>x.2.2) h).trans ?_;rw[if_pos u]
 ·refine h.trans ?_;rw[if_neg u]
def SQ(l:List Mt)(m:Mt):(∃z,(CK l m).1=some z∧(CK l m).2=0∧z.length=l.length+1)∨((CK l m).1=none∧1<=(CK l m).2∧(CK l m).2<=99):=by
 unfold CK;have h:=Lg m.1;by_cases u:Cp m.1 m.2.1≠0
 ·grind [Cp]
 rw[if_neg u];by_cases q:0<=CH l m.1
 ·simp_all
 rw[if_neg q];by_cases d:Ei m.1 (l.map (·.1))=true
 ·simp_all
 rw[if_neg d];by_cases x:4<=l.length
 ·simp_all
 rw[if_neg x];exact .inl ⟨_,rfl,rfl,by rw[isortR_len,Qt];rfl⟩
structure HE (v:Vw):Prop where
 ok:SR v
 inv:aG6 v.ks
 srt:Fb v.ms
 nlm:v.nlm=true->v.ms=[]
 te:1<=v.te∧v.te<=6
 kl:v.ks.length<=39
 ml:v.ms.length<=4
 mr:∀m∈v.ms,m.1.length<=64
def aHT{v:Vw}(y:HE v){nl:Bool}{l:List Mt}(r:Ib l)(g:Fb l)(c:nl=true->l=[])(hl:l.length<=4)(j:∀m∈l,m.1.length<=64):HE {v with nlm:=nl,ms:=l}:=⟨⟨r.1,r.2,y.ok.kl,y.ok.kp⟩,y.inv,g,c,y.te,y.kl,hl,j⟩
structure OE (a:Ak):Prop where
 ok:HB a
 cap:Fd a.rs
 nlr:a.nlr=true->a.rs=[]
structure I8 (k:Kn):Prop where
 es:k.es.length<=20
 ls:k.ls.length<=20
 et:∀x∈k.es,x.2.1.length<=400
 lt:∀x∈k.ls,x.2.2.length<=2000∧∀s∈x.2.2,s.length<=1000000
def Uv(v:Vw)(e:Int):Oc:=⟨[],false,NM (.fail e),true,[],v⟩
def EW(v:Vw)(q:Bs)(li:Bool):Oc:=⟨q,li,[],true,[],v⟩
def Mk(v:Vw)(a:Ak)(o:Oc):Prop:=
 ∃y,NN y=0∧ryN y∧o.rep=NM y∧(((∃e,y= .fail e)∧o.ops=[]∧o.vw=v)∨((∀e,y≠ .fail e)∧((Ff a.op=false∧o.ops=[]∧∃b,(a.op≠2->a.op≠3->b=v.se)∧o.vw={v with se:=b})∨(Ff a.op=true∧o.ops≠[]∧aAn o.ops∧HE o.vw∧o.vw.key=v.key))))
structure Lc (v:Vw) (a:Ak) (dec:Kn->Oc):Prop where
 run:∀k,I8 k->R19 [HN v,Hu a,.agg (Ie k)]=some (.agg (Mm (dec k)))
 rep:∀k,I8 k->(dec k).need=[]->Mk v a (dec k)
 nd:∀k,I8 k->(dec k).need≠[]->∃q,dec k=EW v q false
 term:∃R:Kn->Nat,(∀k,R k<=3)∧∀k d,I8 k->(dec k).need≠[]->R (Bv k (dec k).need (dec k).li d)<R k
def yN{v:Vw}{a:Ak}(o:Oc)(run:∀k,I8 k->R19 [HN v,Hu a,.agg (Ie k)]=some (.agg (Mm o)))(c:o.need=[])(j:Mk v a o):Lc v a (λ_=>o):=
 ⟨run,λ_ _ _=>j,λ_ _ h=>absurd c h,λ_=>0,λ_=>Qm _,λ_ _ _ h=>absurd c h⟩
def Oi{v:Vw}{a:Ak}{e:Int}(q:1<=e∧e<=99):Mk v a (Uv v e):=⟨.fail e,if_pos q,trivial,rfl,.inl ⟨⟨e,rfl⟩,rfl,rfl⟩⟩
def aDk{v:Vw}{a:Ak}{o:Oc}(y:Ry)(h:NN y=0)(c:ryN y)(j:o.rep=NM y)(d:∀e,y≠ .fail e)(t:Ff a.op=false)(r:o.ops=[])(b:Bool)(f:a.op≠2->a.op≠3->b=v.se)(i:o.vw={v with se:=b}):Mk v a o:=
 ⟨y,h,c,j,.inr ⟨d,.inl ⟨t,r,b,f,i⟩⟩⟩
def dZ{v:Vw}{a:Ak}{o:Oc}(y:Ry)(h:NN y=0)(c:ryN y)(j:o.rep=NM y)(d:∀e,y≠ .fail e)(t:Ff a.op=true)(r:o.ops≠[])(i:aAn o.ops)(hi:HE o.vw)(s:o.vw.key=v.key:=by rfl):Mk v a o:=
 ⟨y,h,c,j,.inr ⟨d,.inr ⟨t,r,i,hi,s⟩⟩⟩
def aMj{op:Int}(h:4<=op∧op<=18∧op≠9∧op≠14∧op≠17):Ff op=true:=decide_eq_true h
def aMk{op:Int}(h:op=1∨op=2∨op=3∨op=9∨op=14∨op=17):Ff op=false:=decide_eq_false O
def oI:∀{l:List Mt},(∀m∈l,m.1.length<=64)->(Ds l).length<=68*l.length
 |[],_=>Qj _
 |m::l,h=>by
  have ih:=oI (l:=l) λx f=>h x (QL _ f)
  have r:=h m (QB ..);have:=Vv m;show(mtB m++Ds l).length<=_;rw[Qt,Qi];omega
def cJ{s:Bs}(h:BJ s=true):s.length<=8:=by
 grind [BJ]
def cG(v:Vw):Oc0 (HH v):=⟨rfl,rfl⟩
def w54(v:Vw)(a:Ak)(k:Kn){e:Int}(q:1<=e∧e<=99):W54 ⟨v,a,k⟩ (HH v) [.int .i64 e]=some (.tup [],Uv v e,none):=aFE ⟨v,a,k⟩ (HH v) e (cG v) q
inductive mP (v:Vw) (a:Ak):Oc->Prop
 |fail (e:Int):mP v a (Uv v e)
 |flag (o:Oc) (b:Bool) (h1:o.ops=[]) (h2:o.vw={v with se:=b}):mP v a o
 |rot (h:v.te<=5):mP v a (aZI (HH v) v.te)
 |mnt (l':List Mt) (e:(CK v.ms (a.pa,a.n,a.fl)).1=some l'):mP v a (wG (HH v) false l')
 |unm (hr:AV a.pa=0) (hf:0<=CH v.ms a.pa):mP v a (umO (HH v) (decide (aBA v.ms a.pa=[])) (aBA v.ms a.pa) a.pa)
 |mak (l':List Tk) (e:BO v.ks (a.ot,a.tk,a.nlr,a.rs)=(some l',0)) (e1:l'=BD v.ks (a.ot,a.tk,a.nlr,a.rs)) (e2:Dc a.ot a.tk a.rs=0) (h:v.ks.length<24):mP v a (mkO (HH v) false l' a.ot (BT [a.tk,if B4 a.rs=0 then B0 (Bn a.rs)else []]))
 |rev (nl:Bool) (hf:AN v.ks a.ot=true):mP v a (aZJ (HH v) nl (aWM v.ks (aNc v.ks a.ot)) false (aNc v.ks a.ot))
theorem qY{k:Kn}(h:I8 k)(q:Bs):(Dx k q).1.length<=400:=by
 unfold Dx;split
 ·decide
 ·rename_i z;have:=(MP (Fo k) q).2;unfold Fo at this z;rw[QC]at this;simp only[Q3,Fo];rw[Qk O];exact h.et _ (QG O)
structure ScI (s:Sc):Prop where
 bad:EJ s 6=false
 nl:s.nl=true->s.rs=[]
theorem Ra{s:Sc}{q:Int}(h:EJ s q=false):(1<=q∧q<=6)∧(0<=s.mx∧s.mx<=6)∧(0<=s.la∧s.la<=30)∧(s.rs.length:Int)<=6∧Iu s.rs 0=true∧RL s.rs=s.la:=by
 grind [EJ,Cr]
def ScI.len{s:Sc}(h:ScI s):s.rs.length<=6:=by have:=(Ra h.bad).2.2.2.1;omega
def aQR:ScI sc0:=⟨Z,λ_=>rfl⟩
theorem uP{t:Bs}(h:(Cz t).2=0):ScI (Cz t).1:=by
 unfold Cz at h ⊢;split at h
 ·cases h
 ·rename_i u;rw[if_neg u];split at h
  ·cases h
  ·rename_i q;rw[if_neg q];refine⟨by
    cases hb:EJ (iK t) 6 with
    |false=>rfl
    |true=>exact absurd (.inr (.inr hb)) q,λc=>?_⟩
   simp only[iK,decide_eq_true_eq]at c;show(FV t).1=[];unfold FV;rw[c];rfl
def Im(f:Bs×Bool×Bool):Option Sc:=if f.2.1=false∨(Cz f.1).2≠0 then none else some (Cz f.1).1
def W9(o:Option Sc):Sc:=o.getD sc0
def aIo{f:Bs×Bool×Bool}{s:Sc}(h:Im f=some s):ScI s:=by
 grind [Im,uP]
def Pk(f:Bs×Bool×Bool):ScI (W9 (Im f)):=by
 cases h:Im f with
 |none=>exact aQR
 |some s=>exact aIo h
def Bj(k:Kn)(p:Bs):Bs×Bool×Bool:=Dx k (A9 1 p 0)
section
variable{v:Vw}{a:Ak}{k:Kn}
def Tx(s:I8 k){p:Bs}(o:p.length<=1000000)(h:(Bj k p).2.2=false):LC ⟨v,a,k⟩ (HH v) [.str p]=some (.tup [.agg (Hw sc0),.bool false,.bool false],EW v (A9 1 p 0) false,none):=
 zU ⟨v,a,k⟩ (HH v) p (cG v) o (by have:=s.es;simp only;omega) (Bj k p) rfl h
def Rm(s:I8 k){p:Bs}(o:p.length<=1000000)(h:(Bj k p).2.2=true):LC ⟨v,a,k⟩ (HH v) [.str p]=some (.tup [.agg (Hw (W9 (Im (Bj k p)))),.bool (Im (Bj k p)).isSome,.bool true],HH v,none):=by
 have hl:(Bj k p).1.length<=1000000:=by have:=qY s (A9 1 p 0);unfold Bj;omega
 have ia:(Wb.mk v a k).k.es.length<=1000:=by have:=s.es;simp only;omega
 by_cases g:(Bj k p).2.1=false∨(Cz (Bj k p).1).2≠0
 ·have e:Im (Bj k p)=none:=if_pos g;rw[e];exact aKm ⟨v,a,k⟩ (HH v) p (cG v) o ia (Bj k p) rfl h hl g
 ·have e:Im (Bj k p)=some (Cz (Bj k p).1).1:=if_neg g;rw[e];rw[not_or]at g;exact aFF ⟨v,a,k⟩ (HH v) p (cG v) o ia (Bj k p) rfl h hl (by simpa using g.1) (Decidable.not_not.1 g.2)
def NO(v:Vw)(p:Bs)(s:Sc)(cas:Int)(data:Bs):Oc:=
 if(CL s (Cv v p).1 (Cv v p).2 cas data.length).2.2.2≠0 then Uv v (CL s (Cv v p).1 (Cv v p).2 cas data.length).2.2.2 else uL (HH v) p (CL s (Cv v p).1 (Cv v p).2 cas data.length) data
theorem aIC(s:Sc)(q:Int)(b:Bool)(cas v:Int):0<=LB s q b cas v∧LB s q b cas v<=99:=by
 grind [LB]
def nT{s:Sc}(g:s.rs.length<=6)(q:Int)(b:Bool)(cas v:Int):(0<=(CL s q b cas v).2.2.2∧(CL s q b cas v).2.2.2<=99)∧(CL s q b cas v).1.rs.length<=7∧(CL s q b cas v).2.2.1.length<=7∧((CL s q b cas v).2.2.2=0->0<=(CL s q b cas v).2.1∧(CL s q b cas v).2.1<=31):=by
 grind [aIC,CL,LB,eF,Ej,Tn,EJ,Ra]
def aZC(y:HE v){p:Bs}(o:p.length<=1000000){s:Sc}(g:ScI s){cas:Int}{data:Bs}(z:data.length<=1000000):∃ol,zS ⟨v,a,k⟩ (HH v) [.str p,.agg (Hw s),.int .i64 cas,.str data]=some (.tup [],NO v p s cas data,ol):=by
 have hl:=g.len;obtain⟨u,q,d,x⟩:=nT hl (Cv v p).1 (Cv v p).2 cas data.length;have r:(Wb.mk v a k).v.ms.length<=1000:=by have:=y.ml;simp only;omega
 unfold NO;by_cases h:(CL s (Cv v p).1 (Cv v p).2 cas data.length).2.2.2≠0
 ·rw[if_pos h];exact⟨_,zR ⟨v,a,k⟩ (HH v) p s cas data (cG v) O g.nl o z r _ rfl O⟩
 ·rw[if_neg h];exact⟨_,aKl ⟨v,a,k⟩ (HH v) p s cas data (cG v) O g.nl o z r _ rfl (Decidable.not_not.1 h) O O⟩
def oY{s:Sc}(g:ScI s):∀x∈s.rs,1<=x.1∧x.1<=30:=(Uz g.bad Z).2
def aBN(s:Sc):(IA s).length<=4+2*s.rs.length:=by
 grind [IA,rowsI_len,aS1]
def aJV{s:Sc}{q n:Int}(h:n∈Tn s q):∃x∈s.rs,x.1=n:=by
 obtain⟨x,f,e⟩:=Q8.1 h;exact⟨x,ZF f,e⟩
def aJX{p:Bs}(o:AV p=0){ns:List Int}(h:∀n∈ns,1<=n∧n<=30):∀x∈ns.map (λn=>((2:Int),A9 2 p n,([]:Bs))),opK x:=λx f=>by
 obtain⟨n,c,rfl⟩:=Q8.1 f;exact Pp (.inr ⟨rfl,rfl⟩) (aQX o (h n c)) (N_ o) (Qm _)
def uK(y:HE v){p:Bs}{s:Sc}(g:ScI s){cas:Int}{data:Bs}(z:AV p=0)(t:Ff a.op=true):(NO v p s cas data).need=[]∧Mk v a (NO v p s cas data):=by
 have hl:=g.len;obtain⟨u,q,m,o⟩:=nT hl (Cv v p).1 (Cv v p).2 cas data.length;unfold NO;by_cases h:(CL s (Cv v p).1 (Cv v p).2 cas data.length).2.2.2≠0
 ·rw[if_pos h];exact⟨rfl,Oi O⟩
 ·rw[if_neg h];have j:LB s (Cv v p).1 (Cv v p).2 cas data.length=0:=by
   grind [LB,Cv,CL]
  have f:s.la+1<=30∧1<=s.la+1∧data.length<=96:=by
   have hq:=(Ra g.bad).2.2.1;unfold LB at j
   repeat' split at j
   all_goals first|omega|cases j
  have k:=q;have e:CL s (Cv v p).1 (Cv v p).2 cas data.length=(eF (Ej s) (Cv v p).1,s.la+1,Tn (Ej s) (Cv v p).1,0):=by unfold CL;rw[if_neg (λc=>c j)]
  rw[e]at m k ⊢;simp only at m k;have b:=aBN (eF (Ej s) (Cv v p).1);have d:∀n∈Tn (Ej s) (Cv v p).1,1<=n∧n<=30:=λn hn=>by
   obtain⟨x,hx,rfl⟩:=aJV hn;rcases Q1.1 hx with hx|hx
   ·exact oY g x hx
   ·simp_all
  refine⟨rfl,dZ (.number (s.la+1)) (if_pos ⟨O,O⟩) trivial rfl YC t (by simp[uL,C9,Oc.op,HH]) ⟨?_,?_⟩ ?_⟩
  ·simp only[uL,C9,Oc.op,HH,Qt,Qi,Qx,QC];omega
  ·simp only[uL,C9,Oc.op,HH,QJ,QO,List.forall_mem_cons];exact⟨Pp (.inl rfl) (aIw z) (N_ z) O,Pp (.inl rfl) (aQX z ⟨f.2.1,f.1⟩) (N_ z) O,aJX z d⟩
  ·exact y
end
def pH(s:Sc)(n:Int):0<=(H1 s n).2∧(H1 s n).2<=99:=by
 grind [H1]
def aBC{s:Sc}(g:ScI s){n:Int}(h:(H1 s n).2=0):1<=(H1 s n).1.1∧(H1 s n).1.1<=30:=by
 have f:=Ra g.bad;unfold H1 at h ⊢;split at h
 ·cases h
 ·rename_i u;rw[if_neg u];split at h
  ·cases h
  ·rename_i q;rw[if_neg q];split at h
   ·cases h
   ·rename_i d;rw[if_neg d];have v:Gl s n<s.rs.length:=by
     unfold Gl;split
     ·omega
     ·exact TQ _ _
    simp only[Q3];rw[Qk O];have r:=jC f.2.2.2.2.1 _ (QG (l:=s.rs) (n:=(Gl s n).toNat) O);have m:(s.rs.getLast?.map (·.1)).getD 0=RL s.rs:=by unfold RL;cases s.rs.getLast?<;>rfl
    rw[m,f.2.2.2.2.2]at r;simp only[QY];omega
def DR(v:Vw)(a:Ak)(k:Kn):Oc:=
 if(Bj k a.pa).2.2=false then EW v (A9 1 a.pa 0) false
 else NO v a.pa (W9 (Im (Bj k a.pa))) a.cas a.da
def aZz{v:Vw}{a:Ak}{k:Kn}(i:HE v)(x:OE a)(s:I8 k)(w:a.op=10):∃ol,W64 ⟨v,a,k⟩ (HH v) []=some (.tup [],DR v a k,ol):=by
 have o:a.pa.length<=1000000:=by have:=x.ok.pa;omega
 have z:a.da.length<=1000000:=by have:=x.ok.da;omega
 unfold DR;cases hm:(Bj k a.pa).2.2 with
 |false=>
  rw[if_pos rfl];exact⟨_,aFB ⟨v,a,k⟩ (HH v) _ _ _ (λ_=>rfl) (Tx s o hm)⟩
 |true=>
  rw[if_neg Z];have y:=Rm (v:=v) (a:=a) s o hm;obtain⟨ol,b⟩:=aZC (a:=a) (k:=k) i o (Pk (Bj k a.pa)) (cas:=a.cas) (data:=a.da) z;exact⟨_,zO ⟨v,a,k⟩ (HH v) _ _ _ _ (λ_=>rfl) y w b⟩
def D9{v:Vw}{a:Ak}{k:Kn}(y:HE v)(j:AV a.pa=0)(b:a.op=10):((Bj k a.pa).2.2=true->(DR v a k).need=[]∧Mk v a (DR v a k))∧((Bj k a.pa).2.2=false->DR v a k=EW v (A9 1 a.pa 0) false):=by
 unfold DR;cases hm:(Bj k a.pa).2.2 with
 |false=>
  rw[if_pos rfl];exact⟨λe=>Xw,λ_=>rfl⟩
 |true=>
  rw[if_neg Z];exact⟨λ_=>uK y (Pk (Bj k a.pa)) j (aMj O),λe=>Xw⟩
def lP{v:Vw}{a:Ak}(y:HE v)(x:OE a)(p:F25 [HN v,Hu a]=some (.int .i64 0))(j:AV a.pa=0)(b:a.op=10):Lc v a (DR v a):=by
 refine⟨λk s=>?_,λk s c=>?_,λk s c=>?_,λk=>if(Bj k a.pa).2.2=true then 0 else 1,λk=>by dsimp only;split<;>decide,λk d s c=>?_⟩
 ·obtain⟨ol,h⟩:=aZz y x s b;exact mZ .o10 a k b p _ _ h
 ·cases hm:(Bj k a.pa).2.2 with
  |true=>exact((D9 (v:=v) y j b).1 hm).2
  |false=>
   rw[(D9 (v:=v) y j b).2 hm]at c;exact absurd c (VE (aIw j))
 ·cases hm:(Bj k a.pa).2.2 with
  |true=>exact absurd ((D9 (v:=v) y j b).1 hm).1 c
  |false=>exact⟨_,(D9 (v:=v) y j b).2 hm⟩
 ·cases hm:(Bj k a.pa).2.2 with
  |true=>exact absurd ((D9 (v:=v) y j b).1 hm).1 c
  |false=>
   rw[(D9 (v:=v) y j b).2 hm];show(if(Dx (Bv k (A9 1 a.pa 0) false d) (A9 1 a.pa 0)).2.2=true then 0 else 1)<(if(Bj k a.pa).2.2=true then 0 else 1);rw[(Pq k _ d _).1 rfl,hm];decide
def aIT(a:Ak):Int:=a.n
def LA(k:Kn)(a:Ak):Rw×Int:=H1 (W9 (Im (Bj k a.pa))) (aIT a)
def Dl(k:Kn)(a:Ak):Bs:=A9 2 a.pa (LA k a).1.1
def oH(k:Kn)(a:Ak):Bs:=if(Dx k (Dl k a)).2.1=true then(Dx k (Dl k a)).1 else []
def DP(v:Vw)(a:Ak)(k:Kn):Oc:=
 if(Bj k a.pa).2.2=false then EW v (A9 1 a.pa 0) false
 else if(Im (Bj k a.pa)).isSome=false then Uv v 6
 else if(LA k a).2≠0 then Uv v (LA k a).2
 else if(Dx k (Dl k a)).2.2=false then EW v (Dl k a) false
 else {HH v with rep:=NM (.found (LA k a).1.1 (oH k a))}
section
variable{v:Vw}{a:Ak}{k:Kn}
def WW(s:I8 k):(oH k a).length<=400:=by
 grind [oH,qY]
def aIs(r:Rw):rwD r= .agg [.int .i64 r.1,.bool r.2.1,.bool r.2.2]:=rfl
def aZA(i:HE v)(x:OE a)(s:I8 k)(f:a.op=9):∃ol,W63 ⟨v,a,k⟩ (HH v) []=some (.tup [],DP v a k,ol):=by
 have z:a.pa.length<=1000000:=by have:=x.ok.pa;omega
 have ia:k.es.length<=1000:=by have:=s.es;omega
 have d:=WW (a:=a) s;unfold DP;cases hm:(Bj k a.pa).2.2 with
 |false=>
  rw[if_pos rfl];exact⟨_,aFD ⟨v,a,k⟩ (HH v) _ _ _ (λ_=>rfl) (Tx s z hm)⟩
 |true=>
  rw[if_neg Z];have y:=Rm (v:=v) (a:=a) s z hm;have b:=Pk (Bj k a.pa);have hl:=b.len;cases hs:(Im (Bj k a.pa)).isSome with
  |false=>
   rw[if_pos rfl];rw[hs]at y;exact⟨_,aFC ⟨v,a,k⟩ (HH v) _ _ _ (λ_=>rfl) y (w54 v a k Z)⟩
  |true=>
   rw[if_neg Z];rw[hs]at y;have u:=aLd (W9 (Im (Bj k a.pa))) a.n O;rw[aIs]at u;have g:=pH (W9 (Im (Bj k a.pa))) (aIT a);have o:=FI 2 (LA k a).1.1 a.pa z;have w:=Rf k (Dl k a) ia;unfold oH at d ⊢;unfold LA Dl LA aIT at *;generalize H1 (W9 (Im (Bj k a.pa))) a.n=row at *;obtain⟨⟨n,r,t⟩,e⟩:=row;simp only at *;by_cases m:e≠0
   ·rw[if_pos m];exact⟨_,zQ ⟨v,a,k⟩ (HH v) _ _ _ (λ_=>rfl) y f n e r t u m (w54 v a k O)⟩
   ·rw[if_neg m];obtain rfl:=Decidable.not_not.1 m;generalize A9 2 a.pa n=q at *;generalize Dx k q=c at *;obtain⟨j,t2,p⟩:=c;simp only at *;cases p with
    |false=>
     rw[if_pos rfl];exact⟨_,zP ⟨v,a,k⟩ (HH v) _ _ _ (λ_=>rfl) y f n r t u q _ _ o w (rU ⟨v,a,k⟩ (HH v) q false (cG v))⟩
    |true=>
     rw[if_neg Z];cases t2 with
     |true=>exact⟨_,fO ⟨v,a,k⟩ (HH v) _ _ _ (λ_=>rfl) y f n r t u q _ o w (Wj ⟨v,a,k⟩ (HH v) (.found n j) (λ_=>rfl) trivial trivial)⟩
     |false=>exact⟨_,Wi ⟨v,a,k⟩ (HH v) _ _ _ (λ_=>rfl) y f n r t u q _ o w (Wj ⟨v,a,k⟩ (HH v) (.found n []) (λ_=>rfl) trivial trivial)⟩
def rK(i:HE v)(s:I8 k)(j:AV a.pa=0)(f:a.op=9):((DP v a k).need=[]->Mk v a (DP v a k))∧((DP v a k).need≠[]->∃q,DP v a k=EW v q false):=by
 have d:=WW (a:=a) s;have fin:∀{o:Oc},o.need=[]->Mk v a o->(o.need=[]->Mk v a o)∧(o.need≠[]->∃q,o=EW v q false):=λu z=>⟨λ_=>z,λh=>absurd u h⟩
 have b:∀{q:Bs},q≠[]->((EW v q false).need=[]->Mk v a (EW v q false))∧((EW v q false).need≠[]->∃g,EW v q false=EW v g false):=λh=>⟨λe=>absurd e h,λ_=>⟨_,rfl⟩⟩
 unfold DP;cases hm:(Bj k a.pa).2.2 with
 |false=>rw[if_pos rfl];exact b (VE (aIw j))
 |true=>
  rw[if_neg Z];cases hs:(Im (Bj k a.pa)).isSome with
  |false=>rw[if_pos rfl];exact fin rfl (Oi Z)
  |true=>
   rw[if_neg Z];have y:=pH (W9 (Im (Bj k a.pa))) (aIT a);by_cases m:(LA k a).2≠0
   ·rw[if_pos m];exact fin rfl (Oi ⟨by unfold LA at *;omega,y.2⟩)
   rw[if_neg m];have x:1<=(LA k a).1.1∧(LA k a).1.1<=30:=aBC (Pk _) (Decidable.not_not.1 m);cases ht:(Dx k (Dl k a)).2.2 with
   |false=>rw[if_pos rfl];exact b (VE (aQX j x))
   |true=>
    rw[if_neg Z];exact fin rfl (aDk (.found _ _) (if_pos ⟨O,O,d⟩) trivial rfl YC (aMk O) rfl v.se (λ_ _=>rfl) rfl)
def Iw(k:Kn)(a:Ak):Nat:=if(Bj k a.pa).2.2=false then 3 else if(Dx k (Dl k a)).2.2=false then 2 else 0
def aID(k:Kn)(a:Ak):Iw k a<=3:=by
 unfold Iw
 repeat' split
 all_goals decide
def yO(c:(DP v a k).need≠[]):((Bj k a.pa).2.2=false∧DP v a k=EW v (A9 1 a.pa 0) false)∨((Bj k a.pa).2.2=true∧(Dx k (Dl k a)).2.2=false∧DP v a k=EW v (Dl k a) false):=by
 unfold DP at c ⊢;cases hm:(Bj k a.pa).2.2 with
 |false=>rw[if_pos rfl];exact .inl ⟨rfl,rfl⟩
 |true=>
  rw[hm,if_neg Z]at c;rw[if_neg Z];split at c
  ·exact absurd rfl c
  rename_i c1;rw[if_neg c1];split at c
  ·exact absurd rfl c
  rename_i c2;rw[if_neg c2];cases ht:(Dx k (Dl k a)).2.2 with
  |false=>rw[if_pos rfl];exact .inr ⟨rfl,rfl,rfl⟩
  |true=>
   rw[ht,if_neg Z]at c;exact absurd rfl c
def yP(d:Dk)(c:(DP v a k).need≠[]):Iw (Bv k (DP v a k).need (DP v a k).li d) a<Iw k a:=by
 rcases yO c with ⟨u,q⟩|⟨u,q,m⟩
 ·rw[q];show Iw (Bv k (A9 1 a.pa 0) false d) a<Iw k a;have e:(Bj (Bv k (A9 1 a.pa 0) false d) a.pa).2.2=true:=(Pq k _ d _).1 rfl;unfold Iw;rw[e,u];simp only[ZI,if_false,if_true]
  repeat' split
  all_goals decide
 ·rw[m];show Iw (Bv k (Dl k a) false d) a<Iw k a;have f:A9 1 a.pa 0≠Dl k a:=λe=>by
   unfold Bj at u;rw[e,q]at u;cases u
  have e:Bj (Bv k (Dl k a) false d) a.pa=Bj k a.pa:=(Pq k _ d _).2 f.symm;have z:LA (Bv k (Dl k a) false d) a=LA k a:=by unfold LA;rw[e]
  have b:Dl (Bv k (Dl k a) false d) a=Dl k a:=by
   show A9 2 a.pa (LA (Bv k (Dl k a) false d) a).1.1=A9 2 a.pa (LA k a).1.1;rw[z]
  have t:(Dx (Bv k (Dl k a) false d) (Dl k a)).2.2=true:=(Pq k _ d _).1 rfl;unfold Iw;rw[e,u,q,b,t];simp only[ZI,if_false,if_true];decide
end
def aDO{v:Vw}{a:Ak}(y:HE v)(x:OE a)(p:F25 [HN v,Hu a]=some (.int .i64 0))(j:AV a.pa=0)(f:a.op=9):Lc v a (DP v a):=by
 refine⟨λk s=>?_,λk s c=>(rK y s j f).1 c,λk s c=>(rK y s j f).2 c,λk=>Iw k a,λk=>aID k a,λk d _ c=>yP d c⟩;obtain⟨ol,h⟩:=aZA y x s f;exact mZ .o9 a k f p _ _ h
def OD{s:Bs}{q:UInt8}(h:s.length<=1000000):DT [.str s,.str [q]]=some (.slice false [] (AL (splitC q s))):=if_pos h
def ryQ:Ry->Ry
 | .about s=> .about {s with nl:=decide (s.rs=[])}
 | .names _ l=> .names (decide (l=[])) l
 |y=>y
def ryS:Ry->Prop
 | .fail _=>False
 | .names _ l=>(∀w∈l,(44:UInt8)∉w)∧l≠[[45]]∧C3 l<=900000
 |_=>True
def ten{p:Nat->Value->Prop}{vs:Array Value}{r t v2 o q e f g n i:Value}(y:vs=#[r,t,v2,o,q,e,f,g,n,i])(h:∀j v,vs[j]?=some v->p j v):p 0 r∧p 1 t∧p 2 v2∧p 3 o∧p 4 q∧p 5 e∧p 6 f∧p 7 g∧p 8 n∧p 9 i:=by
 subst y;exact⟨h 0 _ rfl,h 1 _ rfl,h 2 _ rfl,h 3 _ rfl,h 4 _ rfl,h 5 _ rfl,h 6 _ rfl,h 7 _ rfl,h 8 _ rfl,h 9 _ rfl⟩
def f93(e:Int):Array Value:=#[.int .u8 0,.int .i64 e,.int .i64 0,.string ⟨#[]⟩,.slice none 0 0,.int .i64 0,.bool false,.int .i64 0,.slice none 0 0,.bool false]
inductive Psd:Bs->D->Prop
 |none:Psd [] (.tup [.agg (HJ (.fail 0)),.int .i64 4])
 |fail (e:Int) (s:Bs):1<=e∧e<=99->splitC 32 s=OF (.fail e)->Psd s (.tup [.agg (HJ (.fail e)),.int .i64 0])
 |ok (y:Ry) (s:Bs):ryG y->ryS y->NN y=0->splitC 32 s=OF y->Psd s (.tup [.agg (HJ (ryQ y)),.int .i64 0])
structure Md where
 vw:Vw
 tr:Tr
 room:Int
def Hy(m:Md):List D:=HG m.vw++[Hh m.tr,.int .i64 m.room]
def Pb(x:Op1)(t:Tr):Tr:=if x.1=1 then t.put x.2.1 x.2.2 else if x.1=2 then Tr.delT x.2.1 t else if x.1=3 then Tr.dropT x.2.1 t else t
def CW:List Op1->Tr->Tr
 |[],t=>t
 |x::r,t=>CW r (Pb x t)
def Cn(t:Tr)(q:Bs):List (Bs×Bs):=(t.lst.drop (t.rank q)).takeWhile λx=>A2 x.1 q
def Gb(t:Tr)(q:Bs):Dk:=⟨false,[(q,(t.get q).getD [],(t.get q).isSome)],false,[(q,(Cn t q).isEmpty,(Cn t q).map (·.1))]⟩
def jA(v:Kn->Oc)(t:Tr):Nat->Kn->Oc
 |0,k=>v k
 |f+1,k=>if(v k).need=[]then v k else jA v t f (Bv k (v k).need (v k).li (Gb t (v k).need))
def kn0:Kn:=⟨[],[]⟩
structure zV (t:Tr) (room:Int):Prop where
 ord:Tr.Ord t.lst
 key:∀x∈t.lst,x.1.length<=100
 val:∀x∈t.lst,x.2.length<=400
 wgt:(Tr.weighL t.lst:Int)<=room
 top:room<=70000
structure MdI (m:Md):Prop where
 vw:HE m.vw
 tr:zV m.tr m.room
def zV.len{t:Tr}{room:Int}(h:zV t room):t.lst.length<=1945:=by
 have u:=Tr.weigh_len t.lst;have:=h.wgt;have:=h.top;omega
structure KnJ (k:Kn) (j:Nat):Prop where
 es:k.es.length<=j
 ls:k.ls.length<=j
 et:∀x∈k.es,x.2.1.length<=400
 lt:∀x∈k.ls,x.2.2.length<=2000∧∀s∈x.2.2,s.length<=1000000
def KnJ.ok{k:Kn}{j:Nat}(h:KnJ k j)(w:j<=20):I8 k:=⟨Qr h.es w,Qr h.ls w,h.et,h.lt⟩
def aM4:KnJ kn0 0:=⟨Qj _,Qj _,λx f=>Xv,λx f=>Xv⟩
def aRl(t:Tr)(q:Bs):((Gb t q).lss.find? λx=>decide (x.1=q))=some (q,(Cn t q).isEmpty,(Cn t q).map (·.1)):=by simp[Gb]
def aRm(t:Tr)(q:Bs):((Gb t q).its.find? λx=>decide (x.1=q))=some (q,(t.get q).getD [],(t.get q).isSome):=by simp[Gb]
def dF(k:Kn)(t:Tr)(q:Bs):Bv k q false (Gb t q)={k with es:=k.es++[(q,(t.get q).getD [],(t.get q).isSome)]}:=by
 unfold Bv;rw[if_neg Z,aRm];rfl
def dE(k:Kn)(t:Tr)(q:Bs):Bv k q true (Gb t q)={k with ls:=k.ls++[(q,(Cn t q).isEmpty,(Cn t q).map (·.1))]}:=by
 unfold Bv;rw[if_pos rfl,aRl];rfl
def oA(t:Tr)(q:Bs):(Cn t q).Sublist t.lst:=(List.takeWhile_sublist _).trans (List.drop_sublist _ _)
def KnJ.learn{k:Kn}{j:Nat}(h:KnJ k j){t:Tr}{room:Int}(w:zV t room)(q:Bs)(li:Bool):KnJ (Bv k q li (Gb t q)) (j+1):=by
 cases li with
 |false=>
  rw[dF];refine⟨by simp only[Qt,Qi,Qx];have:=h.es;omega,ZL h.ls,λx hx=>?_,h.lt⟩;rcases Q1.1 hx with hx|hx
  ·exact h.et x hx
  ·rw[QV.1 hx];show((t.get q).getD []).length<=400;cases hg:t.get q with
   |none=>exact Qm _
   |some v=>
    rw[Tr.get_lst q t w.ord]at hg;exact w.val _ (Tr.getL_some hg)
 |true=>
  rw[dE];refine⟨ZL h.es,by simp only[Qt,Qi,Qx];have:=h.ls;omega,h.et,λx hx=>?_⟩;rcases Q1.1 hx with hx|hx
  ·exact h.lt x hx
  ·rw[QV.1 hx];have g:=oA t q;refine⟨?_,λs ta=>?_⟩
   ·show((Cn t q).map (·.1)).length<=2000;rw[QC];have:=g.length_le;have:=w.len;omega
   ·obtain⟨y,d,rfl⟩:=Q8.1 ta;exact Qr (w.key y (g.subset d)) Z
def pC{v:Vw}{a:Ak}{y:Kn->Oc}(X:Lc v a y){R:Kn->Nat}(g:∀k d,I8 k->(y k).need≠[]->R (Bv k (y k).need (y k).li d)<R k){t:Tr}{room:Int}(w:zV t room):
  ∀(f j:Nat)(k:Kn),KnJ k j->j+f<=20->R k<=f->∃r,I8 r∧jA y t f k=y r∧(y r).need=[]
 |0,j,k,hk,hj,hr=>by
  have u:=hk.ok O;refine⟨k,u,rfl,?_⟩;by_cases c:(y k).need=[]
  ·exact c
  ·have:=g k (Gb t []) u c;omega
 |f+1,j,k,hk,hj,hr=>by
  have u:=hk.ok O;unfold jA;by_cases c:(y k).need=[]
  ·rw[if_pos c];exact⟨k,u,rfl,c⟩
  ·rw[if_neg c];have:=g k (Gb t (y k).need) u c;exact pC X g w f (j+1) _ (hk.learn w _ _) O O
def aHS{v:Vw}(y:HE v)(b:Bool):HE {v with se:=b}:=⟨⟨y.ok.ml,y.ok.mp,y.ok.kl,y.ok.kp⟩,y.inv,y.srt,y.nlm,y.te,y.kl,y.ml,y.mr⟩
def IB(v:Kn->Oc)(m:Md):Oc:=jA v m.tr 4 kn0
def jN{m:Md}(r:MdI m){a:Ak}{v:Kn->Oc}(X:Lc m.vw a v):(IB v m).need=[]∧∃k,I8 k∧IB v m=v k:=by
 obtain⟨R,d,g⟩:=X.term;obtain⟨k,u,q,x⟩:=pC X g r.tr 4 0 kn0 aM4 Z (Qr (d _) Z);exact⟨(congrArg Oc.need q).trans x,k,u,q⟩
def IW(m:Md)(o:Oc):Md×Bs:=
 if o.ops≠[]∧m.room<Tr.weighL (CW o.ops m.tr).lst then(m,NM (.fail 7))else(⟨o.vw,CW o.ops m.tr,m.room⟩,o.rep)
def Lk(x:Op1){t:Tr}(h:Tr.Ord t.lst):Tr.Ord (Pb x t).lst∧∀y∈(Pb x t).lst,y∈t.lst∨(x.1=1∧y=(x.2.1,x.2.2)):=by
 unfold Pb;split
 ·rename_i c;rw[Tr.lst_put _ _ t h];exact⟨Tr.ins_ord h _ _,λy d=>(Tr.ins_mem d).elim (λe=> .inr ⟨c,e⟩) .inl⟩
 split
 ·rw[Tr.lst_del _ t h];exact⟨Tr.ord_sub QS h,λy d=> .inl (Zk.1 d).1⟩
 split
 ·rw[Tr.lst_drop _ t h];exact⟨Tr.ord_sub (Tr.drop_sub _ h) h,λy d=> .inl ((Tr.drop_sub _ h).subset d)⟩
 ·exact⟨h,λy d=> .inl d⟩
def Vp:∀(l:List Op1){t:Tr},Tr.Ord t.lst->Tr.Ord (CW l t).lst∧∀y∈(CW l t).lst,y∈t.lst∨∃x∈l,x.1=1∧y=(x.2.1,x.2.2)
 |[],t,h=>⟨h,λy i=> .inl i⟩
 |x::r,t,h=>by
  obtain⟨u,q⟩:=Lk x h;obtain⟨d,o⟩:=Vp r u;refine⟨d,λy i=>?_⟩;rcases o y i with h5|⟨z,j,h5⟩
  ·rcases q y h5 with h6|h6
   ·exact .inl h6
   ·exact .inr ⟨x,QB,h6⟩
  ·exact .inr ⟨z,QL _ j,h5⟩
def aIb{t:Tr}{room:Int}(h:zV t room){l:List Op1}(hl:aAn l)(p:(Tr.weighL (CW l t).lst:Int)<=room):zV (CW l t) room:=by
 obtain⟨u,q⟩:=Vp l h.ord;refine⟨u,λx f=>?_,λx f=>?_,p,h.top⟩
 ·rcases q x f with h3|⟨z,j,_,rfl⟩
  ·exact h.key x h3
  ·exact(hl.ok z j).1.1
 ·rcases q x f with h3|⟨z,j,_,rfl⟩
  ·exact h.val x h3
  ·exact(hl.ok z j).1.2.1
structure bAY (m:Md) (a:Ak) (z:Md×Bs):Prop where
 md:MdI z.1
 room:z.1.room=m.room
 key:z.1.vw.key=m.vw.key
 rep:∃y,NN y=0∧ryN y∧z.2=NM y∧((∃e,y= .fail e)->z.1=m)
 ro:(a.op=1∨a.op=9∨a.op=14∨a.op=17)->z.1=m
def VL{m:Md}(r:MdI m){a:Ak}{o:Oc}(z:Mk m.vw a o):bAY m a (IW m o):=by
 obtain⟨y,u,q,d,w⟩:=z;have c:Ff a.op=true->¬(a.op=1∨a.op=9∨a.op=14∨a.op=17):=λt h=>by
  rw[aMk O]at t;cases t
 unfold IW;by_cases g:o.ops≠[]∧m.room<Tr.weighL (CW o.ops m.tr).lst
 ·rw[if_pos g];exact⟨r,rfl,rfl,⟨.fail 7,rfl,trivial,rfl,λ_=>rfl⟩,λ_=>rfl⟩
 rw[if_neg g];rcases w with ⟨_,k,i⟩|⟨k,⟨t,i,b,f,p⟩|⟨t,i,p,s,j⟩⟩
 ·rw[k,i];exact⟨r,rfl,rfl,⟨y,u,q,d,λ_=>rfl⟩,λ_=>rfl⟩
 ·rw[i,p];refine⟨⟨aHS r.vw b,r.tr⟩,rfl,rfl,⟨y,u,q,d,λ⟨e,n⟩=>absurd n (k e)⟩,λx=>?_⟩;rw[f O O];rfl
 ·refine⟨⟨s,aIb r.tr p ?_⟩,rfl,j,⟨y,u,q,d,λ⟨e,n⟩=>absurd n (k e)⟩,λx=>absurd x (c t)⟩;have:¬m.room<Tr.weighL (CW o.ops m.tr).lst:=λh=>g ⟨i,h⟩
  omega
def aAU{α:Type}{p:α->Bool}:∀{l:List α} {k:Nat} (h:k<(l.takeWhile p).length),l[k]?=some (l.takeWhile p)[k]∧p (l.takeWhile p)[k]=true
 |[],k,h=>Xf
 |x::l,k,h=>by
  by_cases c:p x=true
  ·have e:(x::l).takeWhile p=x::l.takeWhile p:=by simp[c]
   simp only[e]at h ⊢;cases k with
   |zero=>exact⟨rfl,c⟩
   |succ k=>
    have:=aAU (l:=l) (p:=p) (k:=k) Xp;simpa using this
  ·have e:(x::l).takeWhile p=[]:=by simp[c]
   simp[e]at h
def aAW{α:Type}{p:α->Bool}:∀{l:List α},(∀x∈l,p x=true)->l.takeWhile p=l
 |[],_=>rfl
 |x::l,h=>by
  have c:=h x QB;have e:(x::l).takeWhile p=x::l.takeWhile p:=by simp[c]
  rw[e,aAW λy d=>h y (QL _ d)]
def aAV{α:Type}{p:α->Bool}:∀{l:List α} {x:α},l[(l.takeWhile p).length]?=some x->p x=false
 |[],x,h=>Xf
 |y::l,x,h=>by
  by_cases c:p y=true
  ·have e:(y::l).takeWhile p=y::l.takeWhile p:=by simp[c]
   rw[e]at h;exact aAV (l:=l) Xp
  ·have e:(y::l).takeWhile p=[]:=by simp[c]
   rw[e]at h;simp only[Qx,QF,QH]at h;subst h;simpa using c
def aQD{t:Tr}{q:Bs}{k:Nat}(h:k<(Cn t q).length):t.at_ (t.rank q+k)=some (Cn t q)[k]∧A2 (Cn t q)[k].1 q=true:=by
 rw[Tr.at_lst];have:=aAU (l:=t.lst.drop (t.rank q)) (p:=λx=>A2 x.1 q) h;rw[ZJ]at this;exact this
def aHV{t:Tr}{q:Bs}{x:Bs×Bs}(h:t.at_ (t.rank q+(Cn t q).length)=some x):A2 x.1 q=false:=by
 rw[Tr.at_lst]at h;refine aAV (l:=t.lst.drop (t.rank q)) (p:=λx=>A2 x.1 q) ?_;rw[ZJ];exact h
def bT:∀t:Tr,t.rank []=0
 | .nil=>rfl
 | .node l k v r=>by
  unfold Tr.rank;rw[if_neg (by cases k<;>simp[Hj,Op.bytesLess])];exact bT l
def EC(t:Tr):Cn t []=t.lst:=by
 unfold Cn;rw[bT,Zd];exact aAW λx _=>XH
def iJ(x:Bs×Bs)(l:List (Bs×Bs)):Tr.weighL (x::l)=Tr.costL x+Tr.weighL l:=by
 simp only[Tr.weighL,QP,Zj];omega
def Rj(x:Bs×Bs)(l:List (Bs×Bs)):Tr.weighL (l++[x])=Tr.weighL l+Tr.costL x:=by
 simp only[Tr.weighL,Q2,QP,Zc,ZV,Zj,List.sum_nil];omega
end Go.Vd
namespace Go.Vd
open Go.Proofs Go.RowKit Go.Shelf
attribute [local go_sem] Oper.semAt_some
def Em(n:Nat)(w:World)(t:Tr)(v:Value):Prop:=∃G:Nat->Nat,Rep w (Gh.base G) (Hh t) v∧∀b,n<=b->G b=0
def Em.below{n:Nat}{w k:World}{t:Tr}{v:Value}(h:Em n w t v)(f:Below n w k):Em n k t v:=by
 obtain⟨G,u,q⟩:=h;refine⟨G,u.calm_to (WU t) (λp o=>?_) (λ_=>Qj _),q⟩;have:p.block<n:=by
  rcases ZX p.block n with h|h
  ·exact h
  ·have d:p.off<G p.block:=o;rw[q _ h]at d;omega
 exact f.cell this
def Em.one{n:Nat}{w:World}{t:Tr}{v:Value}(h:Em n w t v):v.oneCell'=true:=by
 obtain⟨G,u,_⟩:=h;exact u.leaf_one Xk
def Mh{w:World}{g:Gh}{d:D}{v:Value}(h:Rep w g d v)(y:v.oneCell'=true):Rep w g (.agg [d]) (.agg #[v]):=
 .agg [d] [v] rfl (λu a=>by rw[QV.1 a];exact y) (λj n s z i=>by
  match j,z,i with
  |0,z,i=>cases z;cases i;exact h)
def aYD{n:Nat}{k:World}{t:Tr}{v:Value}(h:Em n k t v)(c:n<=k.heap.size)(q:Bs)(g:t.cnt<=900000):Calls Qq 97 #[.agg #[v],encStr q] k λe w'=>e= .returned (.int .i64 (t.rank q:Nat))∧Below k.heap.size k w':=by
 have y:=h.one;obtain⟨G,z,m⟩:=h;refine(F6 (vs:=[.agg #[v],encStr q]) (G:=G) aSl (aGP t q g) Xk Xk rfl (λj d u s a=>?_) (λb f=>m b O)).mono ?_
 ·match j,s,a with
  |0,s,a=>cases s;cases a;exact Mh z y
  |1,s,a=>cases s;cases a;exact .str _
 ·rintro e w' ⟨u,p,rfl,f,w⟩;exact⟨by rw[w.int_inv],f⟩
def aYC{n:Nat}{k:World}{t:Tr}{v:Value}(h:Em n k t v)(c:n<=k.heap.size)(i:Nat)(g:t.cnt<=900000)(hi:i<=900000):Calls Qq 98 #[.agg #[v],.int .i64 (i:Nat)] k λe w'=>e= .returned (.tuple #[encStr ((t.at_ i).getD ([],[])).1,encStr ((t.at_ i).getD ([],[])).2,.bool (t.at_ i).isSome])∧Below k.heap.size k w':=by
 have y:=h.one;obtain⟨G,q,m⟩:=h;refine(F6 (vs:=[.agg #[v],.int .i64 (i:Nat)]) (G:=G) aSk (aGO t i g hi) Xk Xk rfl (λj d u z a=>?_) (λb f=>m b O)).mono ?_
 ·match j,z,a with
  |0,z,a=>cases z;cases a;exact Mh q y
  |1,z,a=>cases z;cases a;exact .int _ _
 ·rintro e w' ⟨u,p,rfl,f,w⟩;unfold atD at w;obtain⟨us,rfl,ea,a⟩:=w.tup_inv
  match us,ea with
  |[u0,u1,u2],_=>exact⟨by rw[(a 0 _ u0 rfl rfl).str_inv,(a 1 _ u1 rfl rfl).str_inv,(a 2 _ u2 rfl rfl).bool_inv],f⟩
def aPS(k:World)(s p:Bs):Calls Qq 65 #[encStr s,encStr p] k λe w'=>e= .returned (.bool (A2 s p))∧Below k.heap.size k w':=by
 refine(OM aSj (aGN s p) rfl k).mono ?_;rintro e w' ⟨u,c,rfl,f,g⟩;exact⟨by rw[g.bool_inv],f⟩
structure nG (n Bt Bq:Nat) (W W':World):Prop where
 low:Below n W W'
 t:W'.heap[Bt]?=W.heap[Bt]?
 q:W'.heap[Bq]?=W.heap[Bq]?
def nG.trans{n Bt Bq:Nat}{A B C:World}(h:nG n Bt Bq A B)(k:nG n Bt Bq B C):nG n Bt Bq A C:=⟨h.low.trans k.low,k.t.trans h.t,k.q.trans h.q⟩
def nG.refl{n Bt Bq:Nat}(A:World):nG n Bt Bq A A:=⟨Below.refl _ _,rfl,rfl⟩
def nG.of{n Bt Bq:Nat}{A B:World}(h:Below A.heap.size A B)(c:n<=A.heap.size)(w:Bt<A.heap.size)(z:Bq<A.heap.size):nG n Bt Bq A B:=⟨h.mono c,h.block _ w,h.block _ z⟩
def aCE{n Bt Bq:Nat}{w:World}(c:n<=w.heap.size)(s:Bt<w.heap.size)(z:Bq<w.heap.size)(W:World)(l:Nat)(o o':Obj)(hl:w.heap.size<=l)(h:W.heap[l]?=some o)(u:o.isCells=false)(q:o.isWalk=false):nG n Bt Bq W (W.putObj l o'):=
 ⟨belowK_b c W l o o' hl h u q,World.putObj_heap_other O,World.putObj_heap_other O⟩
def UB{α:Type}{B:Nat}{J:List α->World->Prop}(t:AbidesFrom B J){s:List α}{A n:World}(h:J s A)(f:Below A.heap.size A n):J s n:=
 t s A n none h (IM f (Qj _) none f.size) (λr e=>Xw)
theorem aHW (n : Nat) (hn : 1 ≤ n) (l Bt Bq n₀ : Nat) (t : Tr) (q : Bs) (v : Value) (hc : t.cnt ≤ 400000) (J Jx : List (Bs × Bs) → World → Prop) {B : Nat} (hJ : AbidesFrom B J) (z : AbidesFrom B Jx)
  (hY : ∀ ga x W, J ga W → (ga ++ [x]) <+: Cn t q → YieldAt Fence.wide (n - 1) Qq l #[encStr x.1, encStr x.2] W fun e W' =>
   (e = .returned (.bool true) ∧ J (ga ++ [x]) W' ∧ nG n₀ Bt Bq W W') ∨ (e = .returned (.bool false) ∧ Jx (ga ++ [x]) W'))
  (W : World) (y : W.heap[Bt]? = some (.cells #[v] 27 (0, 0))) (o : W.heap[Bq]? = some (.cells #[encStr q] 9 (0, 0))) (hT : Em n₀ W t v) (pa : n₀ ≤ W.heap.size) (h0 : J [] W) :
  CallsIn Fence.wide n Qq 96 #[.func (.yield l) #[] #[], .pointer (some ⟨Bt, 0, none⟩), .pointer (some ⟨Bq, 0, none⟩)] W fun e W' => (∃ u, e = .returned u) ∧
   ((∃ ys, ys = Cn t q ∧ J ys W') ∨ (∃ ga, ga <+: Cn t q ∧ Jx ga W')) := by
 have ea : t.rank q + (Cn t q).length ≤ 800001 := by
  have h1 := (oA t q).length_le
  have h2 : t.rank q ≤ t.cnt := by
   have : ∀ t : Tr, t.rank q ≤ t.cnt := by
    intro t
    induction t with
    | nil => exact Qj _
    | node l k v r ih1 ih2 => unfold Tr.rank; simp only [Tr.cnt]; split <;> omega
   exact this t
  rw [Tr.cnt_lst] at h1
  omega
 refine callsIn_of_wp func96 rfl trivial ?_ rfl
 simp only [ntmps96, Q4, Qi, Qx, Qo, QX, Q6, Q7, Zf, Zb, QJ, QO]
 have ct := P8 y
 have cq := P8 o
 gi_wp2_with (refine ⟨trivial, ?_⟩; gi_at_call 97; refine (callsIn_wide.2 (aYD hT pa q O)).mono ?_; rintro e w1 ⟨rfl, ca⟩)
 have ba := UB hJ h0 ca
 have ja := hT.below (ca.mono pa)
 have rb : Bt < W.heap.size := (Qv.1 y).1
 have pb : Bq < W.heap.size := (Qv.1 o).1
 have k1 := (ca.block _ rb).trans y
 have k2 := (ca.block _ pb).trans o
 have ma := Qr pa ca.size
 gi_loopw [4] (fun i wr => ∃ k : Nat, k ≤ (Cn t q).length ∧ i = .int .i64 ((t.rank q : Int) + (k : Int)) ∧ J ((Cn t q).take k) wr ∧ n₀ ≤ wr.heap.size ∧ wr.heap[Bt]? = some (.cells #[v] 27 (0, 0)) ∧ wr.heap[Bq]? = some (.cells #[encStr q] 9 (0, 0)) ∧ Em n₀ wr t v)
  (fun i _ => t.rank q + (Cn t q).length - (RowKit.intOf i).toNat)
 case atStart => exact ⟨0, Qm _, U, ba, ma, k1, k2, ja⟩
 case round =>
  obtain ⟨k, hk, rfl, d, c, r1, r2, qb⟩ := hrel
  have ka := P8 r1
  have s := P8 r2
  have a := aYC qb c (t.rank q + k) O O
  rw [Int.natCast_add] at a
  by_cases aa : k < (Cn t q).length
  ·obtain ⟨u1, u2⟩ := aQD aa
   rw [u1] at a
   obtain ⟨x, hx⟩ : ∃ x, (Cn t q)[k] = x := ⟨_, rfl⟩
   rw [hx] at a u2
   simp only [QY, Qn] at a
   have j : (Cn t q).take k ++ [x] = (Cn t q).take (k + 1) := by rw [← hx]; exact (QD aa).symm
   have ia : ((Cn t q).take k ++ [x]) <+: Cn t q := by rw [j]; exact ZS _ _
   gi_wp2_with (first
    | (refine ⟨trivial, ?_⟩; gi_at_call 98; refine (callsIn_wide.2 a).mono ?_; rintro e w2 ⟨rfl, ra⟩; have da := Gm ra s)
    | (refine ⟨trivial, ?_⟩; gi_at_call 65; refine (callsIn_wide.2 (aPS _ x.1 q)).mono ?_; rintro e w3 ⟨rfl, fa⟩; rw [u2]; obtain ⟨fn, tmps, p, b, hy, hR⟩ := hY _ x w3 (UB hJ (UB hJ d ra) fa) ia))
   refine hR.mono ?_
   have z3 : n₀ ≤ w3.heap.size := by have := ra.size; have := fa.size; omega
   have l1 : Bt < wr.heap.size := (Qv.1 r1).1
   have l2 : Bq < wr.heap.size := (Qv.1 r2).1
   have g : Below wr.heap.size wr w3 := ra.trans (fa.mono ra.size)
   rintro e W4 (⟨rfl, w, f⟩ | ⟨rfl, m⟩)
   ·gi_wp2
    go_roundw
    case rel =>
     refine ⟨k + 1, O, ?_, by rw [← j]; exact w, Qr z3 f.low.size, f.t.trans ((g.block _ l1).trans r1), f.q.trans ((g.block _ l2).trans r2), (qb.below (g.mono c)).below f.low⟩
     simp
     omega
    case measure => simp [RowKit.intOf]; omega
   ·gi_wp2
    refine bodyPost_ret (results_none rfl _ _ _) rfl ?_
    exact ⟨⟨_, rfl⟩, .inr ⟨_, ZS (k + 1) _, by rw [← j]; exact m⟩⟩
  ·obtain rfl : k = (Cn t q).length := by omega
   cases ha : t.at_ (t.rank q + (Cn t q).length) with
   | none =>
    rw [ha] at a
    simp only [Zy, Zs] at a
    gi_wp2_with (refine ⟨trivial, ?_⟩; gi_at_call 98; refine (callsIn_wide.2 a).mono ?_; rintro e w2 ⟨rfl, ra⟩)
    refine ⟨trivial, ?_⟩
    gi_wp2
    refine ⟨fun _ h => Xd, ?_⟩
    gi_wp2
    refine bodyPost_ret (results_none rfl _ _ _) rfl ?_
    rw [Q9] at d
    exact ⟨⟨_, rfl⟩, .inl ⟨_, rfl, UB hJ d ra⟩⟩
   | some x =>
    have u2 := aHV ha
    rw [ha] at a
    simp only [QY, Qn] at a
    gi_wp2_with (first
     | (refine ⟨trivial, ?_⟩; gi_at_call 98; refine (callsIn_wide.2 a).mono ?_; rintro e w2 ⟨rfl, ra⟩; have da := Gm ra s)
     | (refine ⟨trivial, ?_⟩; gi_at_call 65; refine (callsIn_wide.2 (aPS _ x.1 q)).mono ?_; rintro e w3 ⟨rfl, fa⟩; rw [u2]))
    refine ⟨fun _ h => Xd, ?_⟩
    gi_wp2
    refine bodyPost_ret (results_none rfl _ _ _) rfl ?_
    rw [Q9] at d
    exact ⟨⟨_, rfl⟩, .inl ⟨_, rfl, UB hJ (UB hJ d ra) fa⟩⟩
end Go.Vd
namespace Go.Vd
open Go.Proofs Go.RowKit
def aEB:=y2 f46 [] []
def Nl:=y3 f53 2 [] []
def aEO:=y2 f53 [] [(2,Nl)]
def SB:=y2 f17 [(5,[(2,0)]),(8,[(6,8)]),(9,[(1,0)]),(10,[(4,2)]),(11,[(3,2)])] []
def aEV:=y2 f19 [] []
def aEU:=y2 f20 [] []
def aEK:=y2 f54 [] []
def lU:=y2 f18 [] []
def aER:=y2 f113 [] []
def Nd:=y3 f189 4 [] []
def aED:=y2 f189 [] [(4,Nd)]
def aEQ:=y2 f114 [] []
def Nc:=y3 f190 4 [] []
def aEC:=y2 f190 [] [(4,Nc)]
def lT:=y2 f153 [] []
def aEG:=y2 f25 [] []
def aEP:=y2 f6 [(4,[(1,0),(2,0),(3,0)]),(5,[(1,0),(3,0)]),(6,[(1,0)])] []
def V6:=y2 f16 [(6,[(1,2)])] []
def aEX:=y2 f5 [] []
attribute [local go_sem] Oper.semAt_some
def aZg:=Az []
def aQb:=RF aZg aEB [.t 4] 12
def aSe:Kq aQb 46:=Av (Al func46) Ae
def aGH(k:Bs)(n:Nat)(s:k.length<=1000000)(c:n<=1000000):aQb [.str k,.int .i64 (n:Nat)]=some (.int .i64 ((36+k.length+min n 1048576:Nat):Int)):=by
 refine Aq (Qh rfl) ?_;unfold aEB;have p:IntKind.i64.wrap (36+(k.length:Int))=((36+k.length:Nat):Int):=Xg
 have m:max (0:Int) (min (n:Int) 1048576)=((min n 1048576:Nat):Int):=O
 have f:IntKind.i64.wrap (((36+k.length:Nat):Int)+((min n 1048576:Nat):Int))=((36+k.length+min n 1048576:Nat):Int):=Xg
 simp only[GU,↓GQ,GS,simprocAttr,p,m,f]
 all_goals exact Qd
open Go.Shelf
def aYB(t:World)(k:Bs)(n:Nat)(s:k.length<=1000000)(c:n<=1000000):Calls Qq 46 #[encStr k,.int .i64 (n:Nat)] t λe w'=>e= .returned (.int .i64 ((36+k.length+min n 1048576:Nat):Int))∧Below t.heap.size t w':=by
 refine(OM aSe (aGH k n s c) rfl t).mono ?_;rintro e w' ⟨u,p,rfl,f,g⟩;exact⟨by rw[g.int_inv],f⟩
abbrev LD(t:Tr)(q:Bs):={x:Bs×Bs // x∈Cn t q}
def NP(n:Nat)(c:1<=n)(Bt Bq n₀:Nat)(t:Tr)(q:Bs)(v:Value)(g:t.cnt<=400000)(w:World)(y:w.heap[Bt]?=some (.cells #[v] 27 (0,0)))(o:w.heap[Bq]?=some (.cells #[encStr q] 9 (0,0)))(hT:Em n₀ w t v)(pa:n₀<=w.heap.size):
  SeqStopsK Fence.wide n Qq 96 #[.pointer (some ⟨Bt,0,none⟩),.pointer (some ⟨Bq,0,none⟩)] (λx:LD t q=>#[encStr x.1.1,encStr x.1.2]) (nG n₀ Bt Bq) (λys=>ys.map (·.1)=Cn t q) (λk=>k.map (·.1)<+:Cn t q) (Cn t q).length w:=λl J Jx W hW hJ z hY r=>by
 refine(aHW n c l Bt Bq n₀ t q v g (λk W=>∃p:List (LD t q),p.map (·.1)=k∧J p W) (λk W=>∃p:List (LD t q),p.map (·.1)=k∧Jx p W) (B:=W.heap.size) (λs A B row i a j=>?_) (λs A B row i a j=>?_) (λk x W1 d hp=>?_) W ((hW.block _ (Qv.1 y).1).trans y) ((hW.block _ (Qv.1 o).1).trans o) (hT.below (hW.mono pa)) (Qr pa hW.size) ⟨[],rfl,r⟩).mono ?_
 ·obtain⟨p,e,h⟩:=i;exact⟨p,e,hJ p A B row h a j⟩
 ·obtain⟨p,e,h⟩:=i;exact⟨p,e,z p A B row h a j⟩
 ·obtain⟨p,rfl,h⟩:=d;have f:x∈Cn t q:=hp.subset (List.mem_append_right _ (QV.2 rfl));have hl:p.length<(Cn t q).length:=by
   have:=hp.length_le;simp only[Qt,QC,Qi,Qx]at this;omega
  refine(hY p ⟨x,f⟩ W1 h hl).mono ?_;rintro e b (⟨rfl,u,h2⟩|⟨rfl,u⟩)
  ·exact .inl ⟨rfl,⟨_,U,u⟩,h2⟩
  ·exact .inr ⟨rfl,_,U,u⟩
 ·rintro e b ⟨m,⟨ys,rfl,p,u,h2⟩|⟨k,r,p,rfl,h2⟩⟩
  ·exact⟨m,.inl ⟨p,u,h2⟩⟩
  ·exact⟨m,.inr ⟨p,r,h2⟩⟩
def aFi(w:World)(v:Value)(q:Bs):Calls Qq 45 #[.agg #[v],encStr q] w λe w'=>e= .returned (.func (.func 96) #[] #[.pointer (some ⟨w.heap.size,0,none⟩),.pointer (some ⟨w.heap.size+1,0,none⟩)])∧w'=(w.alloc (.cells #[v] 27 (0,0))).alloc (.cells #[encStr q] 9 (0,0)):=by
 go_enter func45,ntmps45
 go_wp2
 go_ret
 exact Qg
def mE{α:Type}(B:Nat)(T:TypeId)(f:List α->Value):Own (λ(s:List α) W=>Boxed W B T (f s)):=λs A n row y a j=>y.kept a (λe=>by
 obtain⟨o,r,g⟩:=j _ e.symm;rw[show A.heap[B]?=_ from y]at r;cases r;cases g)
def bY{α:Type}(m:Nat):Own (λ(_:List α) W=>m<=W.heap.size):=λs A n row g a j=>Qr g a.size
def aHP{n B Bt Bq:Nat}{w W k:World}{T:TypeId}{u:Value}(s:Value)(b:Below n w W)(f:Boxed W B T u)(m:Below W.heap.size W k)(c:n<=B)(y:Bt≠B)(q:Bq≠B)(d:Bt<W.heap.size)(x:Bq<W.heap.size)(z:n<=W.heap.size):
  KeepsOthers W (k.setCell ⟨B,0,none⟩ s)∧nG n Bt Bq W (k.setCell ⟨B,0,none⟩ s)∧Boxed (k.setCell ⟨B,0,none⟩ s) B T s∧Below n w (k.setCell ⟨B,0,none⟩ s)∧W.heap.size<=(k.setCell ⟨B,0,none⟩ s).heap.size:=by
 have r:Boxed k B T u:=(m.block _ f.lt).trans f;refine⟨(KeepsOthers.of_grownBy (IM m (Qj _) none m.size) (λ_ _ e=>Xw)).trans (KeepsOthers.setCell _ _ _),⟨(m.mono z).setCell c _,?_,?_⟩,r.set _,(b.trans (m.mono z)).setCell c _,?_⟩
 ·rw[Below.heap_setCell _ _ _ _ y];exact m.block _ d
 ·rw[Below.heap_setCell _ _ _ _ q];exact m.block _ x
 ·have:=m.size;simpa[World.setCell]using this
def Rk:∀l:List (Bs×Bs),(∀x∈l,x.1.length<=100000∧x.2.length<=100000)->Tr.weighL l<=4+200036*l.length
 |[],_=>by simp[Tr.weighL]
 |x::l,h=>by
  have u:=h x QB;have:=Rk l λy d=>h y (QL _ d)
  rw[iJ];simp only[Tr.costL,Qi];omega
def aUv(w:World)(v:Value)(t:Tr)(hT:Em w.heap.size w t v)(hc:t.cnt<=400000)(hk:∀x∈t.lst,x.1.length<=100000∧x.2.length<=100000):
  Calls Qq 13 #[.agg #[v]] w λe w'=>e= .returned (.int .i64 ((Tr.weighL t.lst:Nat):Int))∧Below w.heap.size w w':=by
 refine(callsIn_wide (n:=3)).1 ?_;refine callsIn_of_wp_marks func13 rfl trivial ?_ rfl;simp only[ntmps13,Q4,Qi,Qx,Qo,QX,Q6,Q7,Zf,Zb,QJ,QO]
 gi_wp2_with (refine⟨trivial,?_⟩;gi_at_call 45;refine(callsIn_wide.2 (aFi _ v [])).mono ?_;rintro e w' ⟨rfl,rfl⟩)
 have u:Below w.heap.size w ((((w.alloc (Obj.cells #[v] 27)).alloc (Obj.cells #[Value.int IntKind.i64 4] 3)).alloc (Obj.cells #[v] 27)).alloc (Obj.cells #[encStr []] 9)):=((((Below.refl _ w).alloc (Qj _) _).alloc U _).alloc Xc _).alloc Xc _;have hz:((((w.alloc (Obj.cells #[v] 27)).alloc (Obj.cells #[Value.int IntKind.i64 4] 3)).alloc (Obj.cells #[v] 27)).alloc (Obj.cells #[encStr []] 9)).heap.size=w.heap.size+4:=U
 have b1:Boxed ((((w.alloc (Obj.cells #[v] 27)).alloc (Obj.cells #[Value.int IntKind.i64 4] 3)).alloc (Obj.cells #[v] 27)).alloc (Obj.cells #[encStr []] 9)) (w.heap.size+1) 3 (.int .i64 4):=by
  have:=((Boxed.new (w.alloc (Obj.cells #[v] 27)) 3 (.int .i64 4)).alloc (Obj.cells #[v] 27)).alloc (Obj.cells #[encStr []] 9)
  rwa [World.size_alloc]at this
 have b2:Boxed ((((w.alloc (Obj.cells #[v] 27)).alloc (Obj.cells #[Value.int IntKind.i64 4] 3)).alloc (Obj.cells #[v] 27)).alloc (Obj.cells #[encStr []] 9)) (w.heap.size+1+1) 27 v:=by
  have:=(Boxed.new ((w.alloc (Obj.cells #[v] 27)).alloc (Obj.cells #[Value.int IntKind.i64 4] 3)) 27 v).alloc (Obj.cells #[encStr []] 9)
  rwa [World.size_alloc,World.size_alloc]at this
 have b3:Boxed ((((w.alloc (Obj.cells #[v] 27)).alloc (Obj.cells #[Value.int IntKind.i64 4] 3)).alloc (Obj.cells #[v] 27)).alloc (Obj.cells #[encStr []] 9)) (w.heap.size+1+1+1) 9 (encStr []):=by
  have:=Boxed.new (((w.alloc (Obj.cells #[v] 27)).alloc (Obj.cells #[Value.int IntKind.i64 4] 3)).alloc (Obj.cells #[v] 27)) 9 (encStr [])
  rwa [World.size_alloc,World.size_alloc,World.size_alloc]at this
 generalize ((((w.alloc (Obj.cells #[v] 27)).alloc (Obj.cells #[Value.int IntKind.i64 4] 3)).alloc (Obj.cells #[v] 27)).alloc (Obj.cells #[encStr []] 9))=W0 at u hz b1 b2 b3 ⊢;have ea:(Cn t []).length<=400000:=by rw[EC,Tr.cnt_lst];exact hc
 refine wpIn_rangeFunc_ownF rfl Z (gf:=96) (lb:=#[.pointer (some ⟨w.heap.size+1+1,0,none⟩),.pointer (some ⟨w.heap.size+1+1+1,0,none⟩)]) rfl trivial (enters_of func96 Xa rfl)
  (NP 2 Z (w.heap.size+1+1) (w.heap.size+1+1+1) w.heap.size t [] v hc W0 b2 b3 (hT.below u) O) nG.trans (aCE O O O) (Below.refl _ _) (λ_=>rfl)
  (λ(k:List (LD t [])) W=>Boxed W (w.heap.size+1) 3 (.int .i64 ((Tr.weighL (k.map (·.1)):Nat):Int))∧Below w.heap.size w W∧w.heap.size+4<=W.heap.size)
  (λ_ _ _=>False)
  (OwnFrom.and (Own.from (mE _ _ _) _) (OwnFrom.and (ownFrom_below (Qj _) O) (Own.from (bY _) _)))
  (λ_ _ _ _ _ hs _ _=>hs)
  ⟨b1,u,O⟩
  (λx=>{tmps:=#[Value.agg #[v],Value.pointer (some {block:=w.heap.size,off:=0}),Value.int IntKind.i64 0,Value.pointer (some {block:=w.heap.size+1,off:=0}),encStr x.1.1,encStr x.1.2,Value.agg #[v],Value.func (Fn.func 96) #[] #[Value.pointer (some {block:=w.heap.size+1+1,off:=0}),Value.pointer (some {block:=w.heap.size+1+1+1,off:=0})],encStr x.1.1,encStr x.1.2,undef,undef,undef,undef,undef,undef,undef],defers:=[]}) ?assign ?body ?done ?stop
 case assign=>
  intro l x W K hK
  gi_wp2
  exact hK
 case body=>
  rintro l k ⟨x,p⟩ W ⟨i,hB,za⟩ j;have sa:=Rk (k.map (·.1)) (λy hy=>by
   obtain⟨z,_,rfl⟩:=Q8.1 hy;exact hk _ (EC t▸z.2))
  have g:Tr.weighL ((k++[(⟨x,p⟩:LD t [])]).map (·.1))=Tr.weighL (k.map (·.1))+(36+x.1.length+min x.2.length 1048576):=by rw[Q2];exact Rj x _
  have q:=i.cell;have na:=i.frozen;rw[EC]at p;have la:=hk x p;have f:=λo=>aYB o x.1 x.2.length O O
  have s:1<=3-1-1:=Z
  have d:Tryz.prog.follows .mixedOrders=true:=Xa
  gi_wp2
  gi_region_with_o (refine⟨trivial,?_⟩;gi_at_call 46;refine(CallsIn.inRound l (callsIn_wide.2 (f _))).mono ?_;rintro e w3 ⟨rfl,m⟩;have r:Boxed w3 (w.heap.size+1) 3 _:=(m.block _ i.lt).trans i;have a:=r.cell;have b:=r.frozen)
  all_goals
   obtain⟨g1,g2,g3,g4,g5⟩:=aHP (Bt:=w.heap.size+1+1) (Bq:=w.heap.size+1+1+1) (Value.int IntKind.i64 (IntKind.i64.wrap (((Tr.weighL (Z1 (λx=>x.val) k):Nat):Int)+(36+(x.fst.length:Int)+((min x.snd.length 1048576:Nat):Int))))) hB i ⟨m.os,m.tape,m.output,m.size,m.block⟩ O O O O O O;refine⟨g1,g2,?_,g4,O⟩;have e:IntKind.i64.wrap (((Tr.weighL (Z1 (λx=>x.val) k):Nat):Int)+(36+(x.fst.length:Int)+((min x.snd.length 1048576:Nat):Int)))=((Tr.weighL ((k++[(⟨x,by rw[EC];exact p⟩:LD t [])]).map (·.1)):Nat):Int):=by
    rw[QC]at sa;rw[g,Hg O O];omega
   rw[e]at g3 ⊢;exact g3
 case done=>
  rintro D ys W hD gb ⟨i,hB,za⟩ hK;have q:=i.cell
  gi_wp2
  refine⟨U,.inl ⟨_,_,rfl,run_takeDeferred hK,?_⟩⟩;exact⟨_,results_tmp rfl _ _ _,by rw[EC];rfl,hB.trans (belowK_b (w:=w) (Qj _) W D _ _ O hK rfl rfl)⟩
 case stop=>
  rintro D c k W _ _ h _;exact h.elim
attribute [local go_sem] Oper.semAt_some
open Go.Shelf Go.Sort
def aPT{n:Nat}{k:World}{t:Tr}{v:Value}(h:Em n k t v)(c:n<=k.heap.size)(q:Bs):Calls Qq 36 #[.agg #[v],encStr q] k λe w'=>e= .returned (.tuple #[encStr ((t.get q).getD []),.bool (t.get q).isSome])∧Below k.heap.size k w':=by
 have y:=h.one;obtain⟨G,z,m⟩:=h;refine(F6 (vs:=[.agg #[v],encStr q]) (G:=G) kK (NH t q) Xk Xk rfl (λj d u s a=>?_) (λb f=>m b O)).mono ?_
 ·match j,s,a with
  |0,s,a=>cases s;cases a;exact Mh z y
  |1,s,a=>cases s;cases a;exact .str _
 ·rintro e w' ⟨u,p,rfl,f,w⟩;obtain⟨us,rfl,g,a⟩:=w.tup_inv
  match us,g with
  |[u0,u1],_=>exact⟨by rw[(a 0 _ u0 rfl rfl).str_inv,(a 1 _ u1 rfl rfl).bool_inv],f⟩
def aFv(w:World)(q i e r:Obj):((((w.alloc q).alloc i).alloc e).alloc r).heap.size=w.heap.size+4∧((((w.alloc q).alloc i).alloc e).alloc r).heap[w.heap.size]?=some q∧((((w.alloc q).alloc i).alloc e).alloc r).heap[w.heap.size+1]?=some i∧((((w.alloc q).alloc i).alloc e).alloc r).heap[w.heap.size+1+1]?=some e∧((((w.alloc q).alloc i).alloc e).alloc r).heap[w.heap.size+1+1+1]?=some r:=by
 have u:∀(x:World)(o:Obj)(k:Nat),k<x.heap.size->(x.alloc o).heap[k]?=x.heap[k]?:=λx o k h=>Below.heap_alloc _ _ _ h
 have g:∀(x:World)(o:Obj),(x.alloc o).heap.size=x.heap.size+1:=λx o=>World.size_alloc x o
 have c:∀(x:World)(o:Obj),(x.alloc o).heap[x.heap.size]?=some o:=λx o=>World.alloc_heap_new x o
 refine⟨by simp only[g],?_,?_,?_,?_⟩
 ·rw[u _ _ _ Xr,u _ _ _ Xr,u _ _ _ Xr,c]
 ·rw[u _ _ _ Xr,u _ _ _ Xr,←g w q,c]
 ·rw[u _ _ _ Xr,←g w q,←g _ i,c]
 ·rw[←g w q,←g _ i,←g _ e,c]
abbrev Il(s:Option Addr×Nat×Nat):Value:= .slice s.1 s.2.1 s.2.2
def mI(w:World)(q i e r:Obj):Below w.heap.size w ((((w.alloc q).alloc i).alloc e).alloc r):=((((Below.refl _ w).alloc (Qj _) _).alloc U _).alloc Xc _).alloc Xc _
def aS3{W:World}{B:Nat}{T:TypeId}{a b c d e:Value}(h:W.heap[B]?=some (.cells #[a,b,c,d,e] T (0,0))):
  W.cell? ⟨B,0,none⟩=some a∧W.cell? ⟨B,1,none⟩=some b∧W.cell? ⟨B,2,none⟩=some c∧W.cell? ⟨B,3,none⟩=some d∧W.cell? ⟨B,4,none⟩=some e:=by
 simp[World.cell?,h]
def aDl{W:World}{B:Nat}{T:TypeId}{cs:Array Value}(h:W.heap[B]?=some (.cells cs T (0,0)))(j:Nat):W.frozen? ⟨B,j,none⟩=false:=by
 simp[World.frozen?,h]
def vK{w:World}{b:Nat}{z0 m v g a:Value}(p z f r i:Value){T:TypeId}(h:w.heap[b]?=some (.cells #[z0,m,v,g,a] T (0,0))):
  (((((w.setCell ⟨b,0,none⟩ p).setCell ⟨b,1,none⟩ z).setCell ⟨b,2,none⟩ f).setCell ⟨b,3,none⟩ r).setCell ⟨b,4,none⟩ i).heap[b]?=some (.cells #[p,z,f,r,i] T (0,0))∧
  (((((w.setCell ⟨b,0,none⟩ p).setCell ⟨b,1,none⟩ z).setCell ⟨b,2,none⟩ f).setCell ⟨b,3,none⟩ r).setCell ⟨b,4,none⟩ i).heap.size=w.heap.size∧
  ∀k,k≠b->(((((w.setCell ⟨b,0,none⟩ p).setCell ⟨b,1,none⟩ z).setCell ⟨b,2,none⟩ f).setCell ⟨b,3,none⟩ r).setCell ⟨b,4,none⟩ i).heap[k]?=w.heap[k]?:=by
 refine⟨?_,Yj,λk s=>?_⟩
 ·have u:=heap_setCell_same w b 0 _ _ p h;have q:=heap_setCell_same _ b 1 _ _ z u;have d:=heap_setCell_same _ b 2 _ _ f q;have x:=heap_setCell_same _ b 3 _ _ r d;have e:=heap_setCell_same _ b 4 _ _ i x;simpa using e
 ·rw[Below.heap_setCell _ _ _ _ s,Below.heap_setCell _ _ _ _ s,Below.heap_setCell _ _ _ _ s,Below.heap_setCell _ _ _ _ s,Below.heap_setCell _ _ _ _ s]
def aQw(w:World)(k0 y k2 k3 k4:Value)(q:Bs)(m x3 x4 x5 x6 x7 x8:Value)(v:Value)(tx:Bs)(th:Bool)(QK:World->World->Value->Prop)
  (x:∀k,Below w.heap.size w k->Calls Qq 36 #[.agg #[v],encStr q] k λe w'=>e= .returned (.tuple #[encStr tx,.bool th])∧Below k.heap.size k w')
  (f:∀k,Below w.heap.size w k->w.heap.size+4<=k.heap.size->Calls Qq 187 #[.agg #[k0,y,k2,k3,k4],encStr q,encStr tx,.bool th] k λe w'=>∃u0 u1 u2 u3 u4,e= .returned (.agg #[Il u0,Il u1,Il u2,Il u3,Il u4])∧Below k.heap.size k w'∧QK k w' (.agg #[Il u0,Il u1,Il u2,Il u3,Il u4])):
  Calls Qq 112 #[.agg #[k0,y,k2,k3,k4],.agg #[encStr q,.bool false,m,x3,x4,x5,x6,x7,x8],.agg #[v]] w λe w'=>∃u k i B,e= .returned u∧Below w.heap.size w k∧Below k.heap.size k i∧QK k i u∧B=w.heap.size+3∧Below w.heap.size w w'∧i.heap.size<=w'.heap.size∧∀p:Addr,p.block≠B->w'.cell? p=i.cell? p:=by
 go_enter func112,ntmps112
 go_wp2_with (first|(go_at_call 36;refine(x _ (mI _ _ _ _ _)).mono ?_;rintro e k ⟨rfl,r⟩;obtain⟨zz,y0,y1,y2,y3⟩:=aFv w (Obj.cells #[k0,y,k2,k3,k4] 227) (Obj.cells #[encStr q,Value.bool false,m,x3,x4,x5,x6,x7,x8] 123) (Obj.cells #[v] 27) (Obj.cells #[Value.slice none 0 0,Value.slice none 0 0,Value.slice none 0 0,Value.slice none 0 0,Value.slice none 0 0] 227);have l:=(mI w (Obj.cells #[k0,y,k2,k3,k4] 227) (Obj.cells #[encStr q,Value.bool false,m,x3,x4,x5,x6,x7,x8] 123) (Obj.cells #[v] 27) (Obj.cells #[Value.slice none 0 0,Value.slice none 0 0,Value.slice none 0 0,Value.slice none 0 0,Value.slice none 0 0] 227)).trans (r.mono O);have q0:=(r.block _ O).trans y0;have d:=(r.block _ O).trans y1;have c:=(r.block _ O).trans y3;obtain⟨d0,d1,d2,d3,d4⟩:=aS3 q0;have d5:k.cell? ⟨w.heap.size+1,0,none⟩=some (encStr q):=by simp[World.cell?,d])|(go_at_call 187;refine(f _ l (by have:=r.size;omega)).mono ?_;rintro e i ⟨u0,u1,u2,u3,u4,rfl,o,j⟩;have q4:=(o.block _ (by have:=r.size;omega)).trans c;obtain⟨c0,c1,c2,n,s⟩:=aS3 q4;have f0:=aDl q4 0;have g:=aDl q4 1;have f2:=aDl q4 2;have f3:=aDl q4 3;have f4:=aDl q4 4))
 obtain⟨p5,ps,pk⟩:=vK (Il u0) (Il u1) (Il u2) (Il u3) (Il u4) q4;obtain⟨s0,s1,t,s3,s4⟩:=aS3 p5;have a:=r.size;have b:Below w.heap.size w i:=l.trans (o.mono l.size);refine bodyPost_ret (v:= .agg #[Il u0,Il u1,Il u2,Il u3,Il u4]) (by simp[results,results112,go_sem,s0,s1,t,s3,s4]) rfl ⟨_,k,i,w.heap.size+1+1+1,rfl,l,o,j,rfl,?_,Nat.le_of_eq ps.symm,λp z=>by simp only[World.cell?,pk _ z]⟩;exact((((b.setCell Xc _).setCell Xc _).setCell Xc _).setCell Xc _).setCell Xc _
def Em.more{n m:Nat}{w:World}{t:Tr}{v:Value}(h:Em n w t v)(r:n<=m):Em m w t v:=by
 obtain⟨G,u,q⟩:=h;exact⟨G,u,λb f=>q b O⟩
def wE{P:Program}{f:FuncId}{F:List D->Option D}(z:(Ac F).ok P f){ds:List D}{r:D}(y:F ds=some r)(n:ds.all D.calm=true)(t:ds.map D.un=ds)(sa:r.calm=true){vs:List Value}{w:World}{G:Nat->Nat}
  (hl:vs.length=ds.length) (m:∀(j:Nat) d v,ds[j]?=some d->vs[j]?=some v->Rep w (Gh.base G) d v) (q:∀b,w.heap.size<=b->G b=0):
  Calls P f vs.toArray w λe w'=>∃v G',e= .returned v∧Below w.heap.size w w'∧(∀b,w'.heap.size<=b->G' b=0)∧(∀b,b<w.heap.size->G' b=G b)∧Rep w' (Gh.base G') r v:=by
 have ua:Hc P w.heap.size w (λ_ _=>none) w (Gh.base G):=
  ⟨Below.refl _ _,Qj _,q,λ_ _=>rfl,λi b h=>XG,λi a b h=>XG,λi o d h=>Xf,λi e h=>Xf,λi a e e' b x x' h=>Xf,λi s p h=>Xf,λi a s p s' p' b x x' h=>Xf⟩
 refine(z.run (fr:=[0]) (ds:=ds) (r:=r) (u:=[]) ua (λi _=>⟨λ_=>rfl,rfl,rfl⟩) hl m ?_).mono ?_
 ·grind [Ac]
 ·rintro e w' ⟨v,c,rfl,g⟩;refine⟨v,c.G,rfl,g.inv.below,g.inv.gz,λb k=>?_,g.rep.calm_to sa (λ_ _=>rfl) (λ_=>Qj _)⟩;rw[g.inv.old b k,g.ext.G0];rfl
def Ro{w:World}{g:Gh}{t:Tr}{u:Value}(h:Rep w g (.agg [Hh t]) u):∃v,u= .agg #[v]∧Rep w g (Hh t) v:=by
 cases h with
 |agg ds vs hl y q=>
  match vs,hl with
  |[v],_=>exact⟨v,rfl,q 0 _ v rfl rfl⟩
def L3(t:Tr):List D:=[.agg [Hh t]]
def RX(x y)(h:L3 x=L3 y):x=y:=by
 simp only[L3,Qu,D.agg.injEq,and_true]at h;exact Fg h
structure TrS (t:Tr):Prop where
 cnt:t.cnt<=400000
 key:∀x∈t.lst,x.1.length<=100000∧x.2.length<=100000
def O6:List D->Option D:=FX L3 TrS λt=> .int .i64 ((Tr.weighL t.lst:Nat):Int)
def Gt{t:Tr}(h:TrS t):O6 [.agg [Hh t]]=some (.int .i64 ((Tr.weighL t.lst:Nat):Int)):=BG (mk:=L3) RX h
def RJ:Kq O6 13:=by
 refine MI ⟨_,func13,Xa,Xa⟩ λds r y vs w G hl m x=>⟨?_,?_⟩
 ·obtain⟨p,_,_,rfl⟩:=Dy y;rfl
 ·obtain⟨t,s,rfl,rfl⟩:=Dy y
  match vs,hl with
  |[v0],_=>
   obtain⟨v,rfl,j⟩:=Ro (m 0 _ v0 rfl rfl);refine(aUv w v t ⟨G,j,x⟩ s.cnt s.key).mono ?_;rintro e w' ⟨rfl,f⟩;exact⟨_,G,rfl,f,λb h=>x b (Qr f.size h),λ_ _=>rfl,.int _ _⟩
def RS(p:Kn×Bs×Bool×List D×Tr):List D:=[.agg (Ie p.1),.agg (.str p.2.1:: .bool p.2.2.1::p.2.2.2.1),.agg [Hh p.2.2.2.2]]
def kB(x y)(h:RS x=RS y):x=y:=by
 obtain⟨k,q,li,r,t⟩:=x;obtain⟨m,g,a,v,n⟩:=y;simp only[RS,Qu,D.agg.injEq,D.str.injEq,D.bool.injEq,and_true]at h;obtain⟨u,⟨z,d,o⟩,b⟩:=h;rw[qG u,z,d,o,Fg b]
structure aZn (p:Kn×Bs×Bool×List D×Tr):Prop where
 es:p.1.es.length<=1000
 ls:p.1.ls.length<=1000
 r:p.2.2.2.1.length=7
 t:TrS p.2.2.2.2
 und:p.2.2.1=false
def UO:List D->Option D:=FX RS aZn λp=> .agg (Ie (Bv p.1 p.2.1 p.2.2.1 (Gb p.2.2.2.2 p.2.1)))
def aG8{k:Kn}{q:Bs}{li:Bool}{r:List D}{t:Tr}(h:aZn (k,q,li,r,t)):UO [.agg (Ie k),.agg (.str q:: .bool li::r),.agg [Hh t]]=some (.agg (Ie (Bv k q li (Gb t q)))):=BG (mk:=RS) (a:=(k,q,li,r,t)) kB h
def aCD(k:Kn):(D.agg (Ie k)).calm=true:=rfl
def aCC{w:World}{g:Gh}{k:Kn}{u:Value}(h:Rep w g (.agg (Ie k)) u):∃p z f r i,u= .agg #[Il p,Il z,Il f,Il r,Il i]:=by
 cases h with
 |agg ds vs hl y q=>
  match vs,hl with
  |[v0,v1,v2,v3,v4],_=>
   obtain⟨b,c0,rfl,_⟩:=(q 0 _ v0 rfl rfl).len_slice;obtain⟨a1,c1,rfl,_⟩:=(q 1 _ v1 rfl rfl).len_slice;obtain⟨t,c2,rfl,_⟩:=(q 2 _ v2 rfl rfl).len_slice;obtain⟨j,n,rfl,_⟩:=(q 3 _ v3 rfl rfl).len_slice;obtain⟨o,s,rfl,_⟩:=(q 4 _ v4 rfl rfl).len_slice;exact⟨(b,_,c0),(a1,_,c1),(t,_,c2),(j,_,n),(o,_,s),rfl⟩
def aRe{w:World}{g:Gh}{q:Bs}{li:Bool}{r:List D}{u:Value}(h:Rep w g (.agg (.str q:: .bool li::r)) u)(j:r.length=7):∃m x i t v f n,u= .agg #[encStr q,.bool li,m,x,i,t,v,f,n]:=by
 cases h with
 |agg ds vs hl y z=>
  match r,j,vs,hl,z with
  |[r2,r3,r4,r5,r6,r7,r8],_,[v0,v1,v2,v3,v4,v5,v6,v7,v8],_,z=>
   have b:=(z 0 _ v0 rfl rfl).str_inv;have p:=(z 1 _ v1 rfl rfl).bool_inv;subst b p;exact⟨_,_,_,_,_,_,_,rfl⟩
def aZm(w:World)(G:Nat->Nat)(k:Kn)(i:World)(u:Value):Prop:=∃q:Nat->Nat,(∀b,i.heap.size<=b->q b=0)∧(∀b,b<w.heap.size->q b=G b)∧q (w.heap.size+3)=0∧Rep i (Gh.base q) (.agg (Ie k)) u
def aI2{w:World}{G:Nat->Nat}{k:Kn}{e:Ending}{w':World}(h:∃u t i B,e= .returned u∧Below w.heap.size w t∧Below t.heap.size t i∧aZm w G k i u∧B=w.heap.size+3∧Below w.heap.size w w'∧i.heap.size<=w'.heap.size∧∀p:Addr,p.block≠B->w'.cell? p=i.cell? p):
  ∃v G',e= .returned v∧Below w.heap.size w w'∧(∀b,w'.heap.size<=b->G' b=0)∧(∀b,b<w.heap.size->G' b=G b)∧Rep w' (Gh.base G') (.agg (Ie k)) v:=by
 obtain⟨u,t,i,B,rfl,r,x,⟨q,z,o,d,a⟩,rfl,f,y,g⟩:=h;refine⟨u,q,rfl,f,λb h=>z b O,o,a.calm_to (aCD k) (λp hp=>g p λe=>?_) (λ_=>Qj _)⟩;rw[e]at hp;simp only[Gh.base,d]at hp;omega
def aJC(k:Kn)(q:Bs)(t:Tr):Bv k q false (Gb t q)={k with es:=k.es++[(q,(t.get q).getD [],(t.get q).isSome)]}:=by
 simp[Bv,Gb]
def aRc:Kq UO 112:=by
 refine MI ⟨_,func112,Xa,Xa⟩ λds r hF vs w G hl fa x=>⟨?_,?_⟩
 ·obtain⟨p,_,_,rfl⟩:=Dy hF;rfl
 ·obtain⟨⟨k,q,li,rr,t⟩,⟨c,s,a,i,n⟩,rfl,rfl⟩:=Dy hF;simp only at c s a i n
  match vs,hl with
  |[v0,v1,v2],_=>
   have y:=fa 0 _ v0 rfl rfl;obtain⟨u0,u1,u2,u3,u4,rfl⟩:=aCC y;obtain⟨x2,x3,x4,x5,x6,x7,x8,rfl⟩:=aRe (fa 1 _ v1 rfl rfl) a;obtain⟨v,rfl,m⟩:=Ro (fa 2 _ v2 rfl rfl);have hT:Em w.heap.size w t v:=⟨G,m,x⟩;cases li with
   |false=>
    refine(aQw w (Il u0) (Il u1) (Il u2) (Il u3) (Il u4) q x2 x3 x4 x5 x6 x7 x8 v ((t.get q).getD []) (t.get q).isSome (λ_=>aZm w G (Bv k q false (Gb t q))) (λwx f=>aPT (hT.below f) f.size q) (λwx f la=>?_)).mono λe w' h=>aI2 h
    refine(wE (vs:=[.agg #[Il u0,Il u1,Il u2,Il u3,Il u4],encStr q,encStr ((t.get q).getD []),.bool (t.get q).isSome]) (G:=G) bAp (aT0 k q ((t.get q).getD []) (t.get q).isSome c) rfl rfl rfl rfl (λj d u z hu=>?_) (λb h=>x b (Qr f.size h))).mono ?_
    ·match j,z,hu with
     |0,z,hu=>cases z;cases hu;exact vU y rfl x f (λ_ _=>Qj _)
     |1,z,hu=>cases z;cases hu;exact .str _
     |2,z,hu=>cases z;cases hu;exact .str _
     |3,z,hu=>cases z;cases hu;exact .bool _
    ·rintro e w1 ⟨u,G1,rfl,o,hz,ho,g⟩;obtain⟨y0,y1,y2,y3,y4,rfl⟩:=aCC g;refine⟨y0,y1,y2,y3,y4,rfl,o,G1,hz,λb h=>ho b (Nat.lt_of_lt_of_le h f.size),?_,by rw[aJC];exact g⟩;rw[ho _ O,x _ O]
   |true=>cases n
attribute [local go_sem] Oper.semAt_some
open Go.Shelf Go.Sort
def rP{n:Nat}{k:World}{t:Tr}{v:Value}(h:Em n k t v)(c:n<=k.heap.size):Calls Qq 115 #[.agg #[v]] k λe w'=>e= .returned (.int .i64 (t.cnt:Nat))∧Below k.heap.size k w':=by
 have y:=h.one;obtain⟨G,q,m⟩:=h;refine(F6 (vs:=[.agg #[v]]) (G:=G) aSa (aGA t) Xk Xk rfl (λj d u z a=>?_) (λb f=>m b O)).mono ?_
 ·match j,z,a with
  |0,z,a=>cases z;cases a;exact Mh q y
 ·rintro e w' ⟨u,p,rfl,f,g⟩;exact⟨by rw[g.int_inv],f⟩
def aPR{n:Nat}{k:World}{t:Tr}{v:Value}(h:Em n k t v)(c:n<=k.heap.size):Calls Qq 116 #[.agg #[v]] k λe w'=>e= .returned (.int .i64 (t.wgt:Nat))∧Below k.heap.size k w':=by
 have y:=h.one;obtain⟨G,q,m⟩:=h;refine(F6 (vs:=[.agg #[v]]) (G:=G) aR9 (aGz t) Xk Xk rfl (λj d u z a=>?_) (λb f=>m b O)).mono ?_
 ·match j,z,a with
  |0,z,a=>cases z;cases a;exact Mh q y
 ·rintro e w' ⟨u,p,rfl,f,g⟩;exact⟨by rw[g.int_inv],f⟩
def aFw(w:World)(q i e:Obj):(((w.alloc q).alloc i).alloc e).heap.size=w.heap.size+3∧(((w.alloc q).alloc i).alloc e).heap[w.heap.size]?=some q∧(((w.alloc q).alloc i).alloc e).heap[w.heap.size+1]?=some i∧(((w.alloc q).alloc i).alloc e).heap[w.heap.size+1+1]?=some e:=by
 have u:∀(x:World)(o:Obj)(k:Nat),k<x.heap.size->(x.alloc o).heap[k]?=x.heap[k]?:=λx o k h=>Below.heap_alloc _ _ _ h
 have g:∀(x:World)(o:Obj),(x.alloc o).heap.size=x.heap.size+1:=λx o=>World.size_alloc x o
 have c:∀(x:World)(o:Obj),(x.alloc o).heap[x.heap.size]?=some o:=λx o=>World.alloc_heap_new x o
 refine⟨by simp only[g],?_,?_,?_⟩
 ·rw[u _ _ _ Xr,u _ _ _ Xr,c]
 ·rw[u _ _ _ Xr,←g w q,c]
 ·rw[←g w q,←g _ i,c]
def aFo(w:World)(q i e:Obj):Below w.heap.size w (((w.alloc q).alloc i).alloc e):=(((Below.refl _ w).alloc (Qj _) _).alloc U _).alloc Xc _
structure HS (w:World) (a b:Tr) (va vb:Value) (wx:World):Prop where
 bl:Below w.heap.size w wx
 sz:w.heap.size+3<=wx.heap.size
 y0:wx.heap[w.heap.size]?=some (.cells #[va] 27 (0,0))
 y1:wx.heap[w.heap.size+1]?=some (.cells #[vb] 27 (0,0))
 y2:wx.heap[w.heap.size+1+1]?=some (.cells #[.bool false] 4 (0,0))
 ta:Em w.heap.size wx a va
 tb:Em w.heap.size wx b vb
def HS.le{w k:World}{a b:Tr}{q j:Value}(h:HS w a b q j k):w.heap.size<=k.heap.size:=by have:=h.sz;omega
def HS.later3{w k p:World}{a b:Tr}{q j:Value}(h:HS w a b q j k)(f:Below (w.heap.size+3) k p):HS w a b q j p:=by
 have:=h.sz;have r:=f.mono (show w.heap.size<=w.heap.size+3 by omega);exact⟨h.bl.trans r,Qr h.sz f.size,(f.block _ O).trans h.y0,(f.block _ O).trans h.y1,(f.block _ O).trans h.y2,h.ta.below r,h.tb.below r⟩
def aSF{α:Type}{w:World}{a b:Tr}{q i:Value}{B:Nat}(y:w.heap.size+3<=B):OwnFrom B (λ(_:List α) W=>HS w a b q i W):=λs A n row g z j=>
 g.later3 ((Below.refl _ A).grown z g.sz (λr e=>by have:=(j r e).1;omega))
def HS.later{w k p:World}{a b:Tr}{q j:Value}(h:HS w a b q j k)(f:Below k.heap.size k p):HS w a b q j p:=by
 have:=h.sz;have r:=f.mono h.le;exact⟨h.bl.trans r,Qr h.sz f.size,(f.block _ O).trans h.y0,(f.block _ O).trans h.y1,(f.block _ O).trans h.y2,h.ta.below r,h.tb.below r⟩
def HS.drew{w k:World}{a b:Tr}{q j:Value}(h:HS w a b q j k):HS w a b q j k.drew:=h.later ⟨rfl,rfl,rfl,Qj _,λ_ _=>rfl⟩
def HS.cells{w k:World}{a b:Tr}{q j:Value}(h:HS w a b q j k):k.cell? ⟨w.heap.size,0,none⟩=some q∧k.cell? ⟨w.heap.size+1,0,none⟩=some j∧k.cell? ⟨w.heap.size+1+1,0,none⟩=some (.bool false)∧k.frozen? ⟨w.heap.size+1+1,0,none⟩=false:=by
 simp[World.cell?,World.frozen?,h.y0,h.y1,h.y2]
def aQz(w:World)(q j:Value)(a b:Tr)(i:Em w.heap.size w a q)(y:Em w.heap.size w b j)(f:a.cnt≠b.cnt):
  Calls Qq 55 #[.agg #[q],.agg #[j]] w λe w'=>e= .returned (.bool false)∧Below w.heap.size w w':=by
 refine(callsIn_wide (n:=3)).1 ?_;refine callsIn_of_wp_marks func55 rfl trivial ?_ rfl;simp only[ntmps55,Q4,Qi,Qx,Qo,QX,Q6,Q7,Zf,Zb,QJ,QO]
 gi_wp2
 obtain⟨x,y0,y1,y2⟩:=aFw w (Obj.cells #[q] 27) (Obj.cells #[j] 27) (Obj.cells #[.bool false] 4);have m:=aFo w (Obj.cells #[q] 27) (Obj.cells #[j] 27) (Obj.cells #[.bool false] 4);generalize (((w.alloc (Obj.cells #[q] 27)).alloc (Obj.cells #[j] 27)).alloc (Obj.cells #[.bool false] 4))=u at x y0 y1 y2 m ⊢;have H0:HS w a b q j u:=⟨m,O,y0,y1,y2,i.below m,y.below m⟩;clear x y0 y1 y2 m;obtain⟨s,r,k2,k3⟩:=H0.cells;have H:=H0.drew;have z:1<=3-1:=Z
 have d:Tryz.prog.follows .mixedOrders=true:=Xa
 have c:((a.cnt:Int)!=(b.cnt:Int))=true:=by simp only[bne_iff_ne,ne_eq];omega
 refine wpIn_mono (Q:=λg A W=>match g with| .normal=>A={tmps:=ZM (Value.agg #[q]::Value.agg #[j]::Value.pointer (some ⟨w.heap.size,0,none⟩)::Value.pointer (some ⟨w.heap.size+1,0,none⟩)::Value.pointer (some ⟨w.heap.size+1+1,0,none⟩)::undef::undef::undef::undef::Value.agg #[q]::Value.int .i64 (a.cnt:Nat)::Value.agg #[j]::Value.int .i64 (b.cnt:Nat)::Value.bool true::Value.bool true::undef::undef::undef::undef::undef::Value.bool true::undef::undef::undef::undef::undef::undef::undef::undef::undef::undef::undef::undef::undef::undef::undef::undef::undef::[]),defers:=[]}∧HS w a b q j W|_=>False) ?_ ?_
 ·gi_region_with_o (refine⟨trivial,?_⟩;try (gi_at_call 115;(first|refine(callsIn_wide.2 (rP (v:=q) (t:=a) H.ta H.le)).mono ?_ |refine(callsIn_wide.2 (rP (v:=j) (t:=b) H.tb H.le)).mono ?_);rintro e p ⟨rfl,na⟩;replace H:=H.later na;obtain⟨j0,o,j2,j3⟩:=H.cells))
  all_goals exact⟨rfl,H⟩
 ·rintro g A W k;cases g with
  |normal=>
   obtain⟨rfl,HW⟩:=k;have H2:=HW.cells;clear s r k2 k3 c;obtain⟨s,r,k2,k3⟩:=H2
   gi_wp2
   exact⟨.bool false,by simp[results,results55,go_sem,heap_setCell_same _ _ 0 _ _ (Value.bool false) HW.y2,World.cell?],rfl,HW.bl.setCell Xc _⟩
  |_=>exact k.elim
def aQy(w:World)(q vb:Value)(t:Tr)(hA:Em w.heap.size w t q)(hB:Em w.heap.size w t vb)(ho:Tr.Ord t.lst)(r:t.cnt<=400000):
  Calls Qq 55 #[.agg #[q],.agg #[vb]] w λe w'=>e= .returned (.bool true)∧Below w.heap.size w w':=by
 refine(callsIn_wide (n:=3)).1 ?_;refine callsIn_of_wp_marks func55 rfl trivial ?_ rfl;simp only[ntmps55,Q4,Qi,Qx,Qo,QX,Q6,Q7,Zf,Zb,QJ,QO]
 gi_wp2
 obtain⟨zz,y0,y1,y2⟩:=aFw w (Obj.cells #[q] 27) (Obj.cells #[vb] 27) (Obj.cells #[.bool false] 4);have m:=aFo w (Obj.cells #[q] 27) (Obj.cells #[vb] 27) (Obj.cells #[.bool false] 4);generalize (((w.alloc (Obj.cells #[q] 27)).alloc (Obj.cells #[vb] 27)).alloc (Obj.cells #[.bool false] 4))=w3 at zz y0 y1 y2 m ⊢;have H0:HS w t t q vb w3:=⟨m,O,y0,y1,y2,hA.below m,hB.below m⟩;clear zz y0 y1 y2 m;obtain⟨k0,k1,k2,k3⟩:=H0.cells;have H:=H0.drew;have z:1<=3-1:=Z
 have d:Tryz.prog.follows .mixedOrders=true:=Xa
 refine wpIn_mono (Q:=λex A W=>match ex with| .normal=>A={tmps:=ZM (Value.agg #[q]::Value.agg #[vb]::Value.pointer (some ⟨w.heap.size,0,none⟩)::Value.pointer (some ⟨w.heap.size+1,0,none⟩)::Value.pointer (some ⟨w.heap.size+1+1,0,none⟩)::undef::undef::undef::undef::Value.agg #[q]::Value.int .i64 (t.cnt:Nat)::Value.agg #[vb]::Value.int .i64 (t.cnt:Nat)::Value.bool false::Value.bool false::Value.agg #[q]::Value.int .i64 (t.wgt:Nat)::Value.agg #[vb]::Value.int .i64 (t.wgt:Nat)::Value.bool false::Value.bool false::undef::undef::undef::undef::undef::undef::undef::undef::undef::undef::undef::undef::undef::undef::undef::undef::undef::[]),defers:=[]}∧HS w t t q vb W|_=>False) ?_ ?_
 ·gi_region_with_o (refine⟨trivial,?_⟩;(first
   |(gi_at_call 115;(first|refine(callsIn_wide.2 (rP (v:=q) (t:=t) H.ta H.le)).mono ?_ |refine(callsIn_wide.2 (rP (v:=vb) (t:=t) H.tb H.le)).mono ?_);rintro e wy ⟨rfl,na⟩;replace H:=H.later na;obtain⟨j0,j1,j2,j3⟩:=H.cells)
   |(gi_at_call 116;(first|refine(callsIn_wide.2 (aPR (v:=q) (t:=t) H.ta H.le)).mono ?_ |refine(callsIn_wide.2 (aPR (v:=vb) (t:=t) H.tb H.le)).mono ?_);rintro e wy ⟨rfl,na⟩;replace H:=H.later na;obtain⟨j0,j1,j2,j3⟩:=H.cells)))
  all_goals exact⟨rfl,H⟩
 ·rintro ex A W hQ;cases ex with
  |normal=>
   obtain⟨rfl,HW⟩:=hQ;have H2:=HW.cells;clear k0 k1 k2 k3 H0 H;obtain⟨k0,k1,k2,k3⟩:=H2
   gi_wp2_with (refine⟨trivial,?_⟩;gi_at_call 45;refine(callsIn_wide.2 (aFi _ q [])).mono ?_;rintro e w' ⟨rfl,rfl⟩)
   have la:Below W.heap.size W ((W.alloc (Obj.cells #[q] 27)).alloc (Obj.cells #[encStr []] 9)):=((Below.refl _ W).alloc (Qj _) _).alloc U _;have H0:=HW.later la;have j:((W.alloc (Obj.cells #[q] 27)).alloc (Obj.cells #[encStr []] 9)).heap.size=W.heap.size+2:=U
   have b2:Boxed ((W.alloc (Obj.cells #[q] 27)).alloc (Obj.cells #[encStr []] 9)) W.heap.size 27 q:=(Boxed.new W 27 q).alloc (Obj.cells #[encStr []] 9);have b3:Boxed ((W.alloc (Obj.cells #[q] 27)).alloc (Obj.cells #[encStr []] 9)) (W.heap.size+1) 9 (encStr []):=by
    have:=Boxed.new (W.alloc (Obj.cells #[q] 27)) 9 (encStr [])
    rwa [World.size_alloc]at this
   have za:=HW.sz;generalize ((W.alloc (Obj.cells #[q] 27)).alloc (Obj.cells #[encStr []] 9))=W0 at la H0 j b2 b3 ⊢;clear k0 k1 k2 k3;refine wpIn_rangeFunc_ownF rfl Z (gf:=96) (lb:=#[.pointer (some ⟨W.heap.size,0,none⟩),.pointer (some ⟨W.heap.size+1,0,none⟩)]) rfl trivial (enters_of func96 Xa rfl)
    (NP 2 Z W.heap.size (W.heap.size+1) w.heap.size t [] q r W0 b2 b3 H0.ta H0.le) nG.trans (aCE O O O) (Below.refl _ _) (λ_=>rfl)
    (λ(k:List (LD t [])) Wx=>HS w t t q vb Wx∧W.heap.size+2<=Wx.heap.size)
    (λ_ _ _=>False)
    (OwnFrom.and (aSF O) (Own.from (bY _) _))
    (λ_ _ _ _ _ i _ _=>i)
    ⟨H0,O⟩
    (λx=>{tmps:=ZM (Value.agg #[q]::Value.agg #[vb]::Value.pointer (some ⟨w.heap.size,0,none⟩)::Value.pointer (some ⟨w.heap.size+1,0,none⟩)::Value.pointer (some ⟨w.heap.size+1+1,0,none⟩)::encStr x.1.1::encStr x.1.2::undef::undef::Value.agg #[q]::Value.int .i64 (t.cnt:Nat)::Value.agg #[vb]::Value.int .i64 (t.cnt:Nat)::Value.bool false::Value.bool false::Value.agg #[q]::Value.int .i64 (t.wgt:Nat)::Value.agg #[vb]::Value.int .i64 (t.wgt:Nat)::Value.bool false::Value.bool false::Value.agg #[q]::Value.func (Fn.func 96) #[] #[Value.pointer (some ⟨W.heap.size,0,none⟩),Value.pointer (some ⟨W.heap.size+1,0,none⟩)]::encStr x.1.1::encStr x.1.2::undef::undef::undef::undef::undef::undef::undef::undef::undef::undef::undef::undef::undef::[]),defers:=[]}) ?assign ?body ?done ?stop
   case assign=>
    intro l x Wx K hK;clear j
    gi_wp2
    exact hK
   case body=>
    rintro l k ⟨x,f⟩ Wx ⟨HX,b⟩ y;clear j;obtain⟨k0,k1,k2,k3⟩:=HX.cells;rw[EC]at f;have hg:t.get x.1=some x.2:=by rw[Tr.get_lst _ t ho];exact Tr.getL_mem ho f
    have a:=aPT HX.tb HX.le x.1;rw[hg]at a
    gi_wp2_with (refine⟨trivial,?_⟩;gi_at_call 36;refine(CallsIn.inRound l (callsIn_wide.2 a)).mono ?_;rintro e wy ⟨rfl,na⟩)
    exact⟨KeepsOthers.of_grownBy (IM na (Qj _) none na.size) (λ_ _ e=>Xw),⟨na.mono HX.le,na.block _ O,na.block _ O⟩,HX.later na,by have:=na.size;omega⟩
   case done=>
    rintro D ys Wx hD gb ⟨HX,b⟩ hK;have Hz:Aside (W0.heap.size=W.heap.size+2):=j;clear j;obtain⟨k0,k1,k2,k3⟩:=HX.cells
    gi_wp2
    have j:=Hz.out;have s:D≠w.heap.size+1+1:=O
    have u:=heap_setCell_same _ _ 0 _ _ (Value.bool true) HX.y2;have g:(Wx.setCell ⟨w.heap.size+1+1,0,none⟩ (Value.bool true)).heap[D]?=some (.deferred (some [])):=by rw[Below.heap_setCell _ _ _ _ s];exact hK
    refine⟨U,.inl ⟨_,_,rfl,run_takeDeferred g,?_⟩⟩;have wa:=(World.putObj_heap_other (o:= .deferred none) (w:=Wx.setCell ⟨w.heap.size+1+1,0,none⟩ (Value.bool true)) s.symm).trans u;exact⟨.bool true,by simp[results,results55,go_sem,wa,World.cell?],rfl,(HX.bl.setCell (p:=⟨w.heap.size+1+1,0,none⟩) Xc _).trans (belowK_b (w:=w) (Qj _) _ D _ _ O g rfl rfl)⟩
   case stop=>
    rintro D c k W _ _ h _;exact h.elim
  |_=>exact hQ.elim
def N9(p:Tr×Tr):List D:=[.agg [Hh p.1],.agg [Hh p.2]]
def RU(x y)(h:N9 x=N9 y):x=y:=by
 obtain⟨a,b⟩:=x;obtain⟨c,d⟩:=y;simp only[N9,Qu,D.agg.injEq,and_true]at h;rw[Fg h.1,Fg h.2]
def tZ:List D->Option D:=FX N9 (λp=>(p.1=p.2∧Tr.Ord p.1.lst∧p.1.cnt<=400000)∨p.1.cnt≠p.2.cnt) λp=> .bool (decide (p.1.cnt=p.2.cnt))
def aLm{t:Tr}(r:Tr.Ord t.lst)(g:t.cnt<=400000):tZ [.agg [Hh t],.agg [Hh t]]=some (.bool true):=by
 have:=BG (mk:=N9) (ok:=λp=>(p.1=p.2∧Tr.Ord p.1.lst∧p.1.cnt<=400000)∨p.1.cnt≠p.2.cnt) (res:=λp=> .bool (decide (p.1.cnt=p.2.cnt))) (a:=(t,t)) RU (.inl ⟨rfl,r,g⟩);rw[decide_eq_true rfl]at this;exact this
def aLn{a b:Tr}(h:a.cnt≠b.cnt):tZ [.agg [Hh a],.agg [Hh b]]=some (.bool false):=by
 have:=BG (mk:=N9) (ok:=λp=>(p.1=p.2∧Tr.Ord p.1.lst∧p.1.cnt<=400000)∨p.1.cnt≠p.2.cnt) (res:=λp=> .bool (decide (p.1.cnt=p.2.cnt))) (a:=(a,b)) RU (.inr h);rw[decide_eq_false h]at this;exact this
def aRd:Kq tZ 55:=by
 refine MI ⟨_,func55,Xa,Xa⟩ λds r j vs w G hl m x=>⟨?_,?_⟩
 ·obtain⟨p,_,_,rfl⟩:=Dy j;rfl
 ·obtain⟨⟨a,b⟩,o,rfl,rfl⟩:=Dy j
  match vs,hl with
  |[v0,v1],_=>
   obtain⟨q,rfl,c⟩:=Ro (m 0 _ v0 rfl rfl);obtain⟨i,rfl,y⟩:=Ro (m 1 _ v1 rfl rfl);rcases o with ⟨e,u,g⟩|hne
   ·simp only at e u g;subst e;refine(aQy w q i a ⟨G,c,x⟩ ⟨G,y,x⟩ u g).mono ?_;rintro e w' ⟨rfl,f⟩;exact⟨_,G,rfl,f,λb h=>x b (Qr f.size h),λ_ _=>rfl,by simp only[decide_true];exact .bool _⟩
   ·refine(aQz w q i a b ⟨G,c,x⟩ ⟨G,y,x⟩ hne).mono ?_;rintro e w' ⟨rfl,f⟩;exact⟨_,G,rfl,f,λb h=>x b (Qr f.size h),λ_ _=>rfl,by simp only[decide_eq_false hne];exact .bool _⟩
def aZd:=Az []
def aGu:=RF aZd aEn [.t 2,.t 3] 26
def aR4:Kq aGu 78:=Av (Al func78) Ae
def aGt(p:Bs)(z:p.length<=1000000):aGu [.str p]=some (.tup [.str ((Tr.beyB p).getD []),.bool (Tr.beyB p).isSome]):=by
 refine Aq (Qh rfl) ?_;unfold aEn;have b:IntKind.i64.wrap ((p.length:Int)-1)=(p.length:Int)-1:=Hg O O;simp only[GU,↓GQ,GS,simprocAttr,b];refine cU z p.length _ _ (Qj _) rfl rfl (λe o a q d=>?_) (λa o=>?_)
 ·rw[Q9]at a;rw[a];simp only[GU,↓GQ,GS,simprocAttr,q,d]
  all_goals exact Qd
 ·rw[Q9]at a;rw[a];simp only[GU,↓GQ,GS,simprocAttr]
  all_goals exact Qd
def UD:=Az [(75,Ac sW),(78,Ac aGu),(77,Ac sU)]
def aGE:=RF UD aEy [.cell (some 1) 4] 37
def aSc:Kq aGE 32:=Av (Al func32) (Aa aCO (Aa aR4 (Aa aCM Ae)))
def aGD(t:Tr)(p:Bs)(h:WC t)(o:p.length<=1000000):aGE [.agg [Hh t],.str p]=some (.agg [Hh (Tr.dropT p t)]):=by
 refine Aq (Qh rfl) ?_;unfold aEy;have w:=S7 t p h;have i2:=aGt p o;have k:=Tr.cnt_split p t;have q2:=Tr.wgt_split p t;obtain⟨u,q⟩:=h;unfold Tr.dropT;cases hb:Tr.beyB p with
 |none=>
  rw[hb]at i2;simp only[Zy,Zs]at i2;simp only[GU,↓GQ,GS,simprocAttr,GY,Ad UD 75,w,Ad UD 78,i2]
  all_goals exact Qd
 |some e=>
  rw[hb]at i2;simp only[QY,Qn]at i2;have g:=S7 (Tr.split p t).2 e ⟨O,O⟩;have c:=Tr.cnt_split e (Tr.split p t).2;have q4:=Tr.wgt_split e (Tr.split p t).2;have n:=gI (Tr.split p t).1 (Tr.split e (Tr.split p t).2).2 O O;simp only[GU,↓GQ,GS,simprocAttr,GY,Ad UD 75,w,Ad UD 78,i2,g,Ad UD 77,n]
  all_goals exact Qd
def UE:=Az [(36,Ac gT),(75,Ac sW),(76,Ac sV),(77,Ac sU)]
def aGG:=RF UE aEz [.cell (some 1) 4] 38
def aSd:Kq aGG 31:=Av (Al func31) (Aa kK (Aa aCO (Aa aCN (Aa aCM Ae))))
def aGF(t:Tr)(q:Bs)(h:WC t)(r:Tr.Ord t.lst):aGG [.agg [Hh t],.str q]=some (.agg [Hh (Tr.delT q t)]):=by
 refine Aq (Qh rfl) ?_;unfold aEz;have i:=NH t q;have w:=S7 t q h;have k:=Tr.cnt_split q t;have q2:=Tr.wgt_split q t;obtain⟨u,z⟩:=h;unfold Tr.delT;cases hg:t.get q with
 |none=>
  rw[hg]at i;simp only[Zy,Zs]at i;simp only[GU,↓GQ,GS,simprocAttr,GY,Ad UE 36,i]
  all_goals exact Qd
 |some v=>
  rw[hg]at i;simp only[QY,Qn]at i;have f:(Tr.split q t).2≠ .nil:=λe=>by
   have d:=(Tr.lst_split q t r).2;rw[e,Tr.get_lst q t r]at *;rw[Tr.fil_ge r (Tr.getL_some hg)]at d;cases d
  simp only;cases hz:(Tr.split q t).2 with
  |nil=>exact absurd hz f
  |node a x y b=>
   rw[hz]at w k q2;simp only[Tr.cnt,Tr.wgt]at k q2;have g:=gJ a x y b ⟨Xi,Xh⟩;have c:=Tr.cnt_first a x y b;have q4:=Tr.wgt_first a x y b;have n:=gI (Tr.split q t).1 (Tr.first a x y b).2.2 O O;simp only[GU,↓GQ,GS,simprocAttr,GY,Ad UE 36,i,Ad UE 75,w,Ad UE 76,g,Ad UE 77,n]
   all_goals exact Qd
def aA7{a b:List (Bs×Bs)}(h:a.Sublist b):Tr.sizeL a<=Tr.sizeL b:=by
 induction h with
 |slnil=>exact Qj _
 |cons x _ ih=>obtain⟨k,v⟩:=x;rw[Tr.size_cons];omega
 |cons_cons x _ ih=>obtain⟨k,v⟩:=x;rw[Tr.size_cons,Tr.size_cons];omega
def cE(x:Op1){t:Tr}(h:Tr.Ord t.lst):(Pb x t).cnt<=1+t.cnt∧(Pb x t).wgt<=4+x.2.1.length+x.2.2.length+t.wgt:=by
 have a:∀u:Tr,u.lst.Sublist t.lst->u.cnt<=t.cnt∧u.wgt<=t.wgt:=λu g=>by
  rw[←Tr.cnt_lst,←Tr.cnt_lst,Tr.wgt_lst,Tr.wgt_lst t];exact⟨g.length_le,aA7 g⟩
 unfold Pb;split
 ·have:=Nr x.2.1 x.2.2 t;omega
 split
 ·have:=a (Tr.delT x.2.1 t) (by rw[Tr.lst_del _ t h];exact QS);omega
 split
 ·have:=a (Tr.dropT x.2.1 t) (by rw[Tr.lst_drop _ t h];exact Tr.drop_sub _ h);omega
 ·omega
def fV:=Az [(24,Ac tJ),(31,Ac aGG),(32,Ac aGE)]
def gR:=RF fV aEN [.cell (some 1) 4] 37
def aCU:Kq gR 8:=Av (Al func8) (Aa aCR (Aa aSd (Aa aSc Ae)))
def dA{l:List Op1}{nl:Bool}{Q:Ex->St->Prop}(u:∀x∈l,x.2.1.length<=150∧x.2.2.length<=1000){R:Tr}(hQ:∀ca,ca.m [0] 0=some (Hh R)->ca.m [1] 0=some .nilptr->ca.s 2= .ptr [0] 0->ca.s 4= .ptr [1] 0->Q (.exit 0) ca):
  ∀(f j:Nat)(t:Tr)(z:St) g,l.length=j+f->l.length<=100000->Tr.Ord t.lst->t.cnt+f<=700000->t.wgt+1200*f<=700000000000->CW (l.drop j) t=R->2<=z.c->z.s 2= .ptr [0] 0->z.s 4= .ptr [1] 0->z.s 7= .slice nl [] (opsD l)->z.s 8= .int .i64 (l.length:Int)->z.s 9= .int .i64 (j:Int)->
   z.m [0] 0=some (Hh t)->z.m [1] 0=some .nilptr->AK fV [] Nk Q z g
 |0,j,t,z,g,hf,hl,ho,hc,hw,hR,h2c,h2,h4,h7,h8,h9,m0,m1=>by
  refine Af Nk.eq_1 ?_;have d1:((j:Int)<l.length)=False:=eq_false O;rw[ZB O]at hR;simp only[CW]at hR;subst hR;simp only[GU,↓GQ,GS,simprocAttr,h8,h9,d1];exact hQ _ m0 m1 h2 h4
 |f+1,j,t,z,g,hf,hl,ho,hc,hw,hR,h2c,h2,h4,h7,h8,h9,m0,m1=>by
  have ih:=dA (nl:=nl) u hQ f (j+1);have w:j<l.length:=O
  have p:(opsD l)[j]?=some (opD l[j]):=by unfold opsD;rw[QQ,Qk w];rfl
  have la:=u l[j] (QG w);rw[QN w]at hR;simp only[CW]at hR;have y:=cE l[j] ho;have b:=(Lk l[j] ho).1;generalize l[j]=x at *;refine Af Nk.eq_1 ?_;obtain⟨ja,ga,r⟩:=z;simp only at h2 h4 h7 h8 h9 m0 m1 h2c;have d1:((j:Int)<l.length)=True:=eq_true O;have n:=nJ (j:=j);have oa:IntKind.i64.wrap ((j:Int)+1)=((j+1:Nat):Int):=Hg O O;have z3:∀{m:GV} {i:Id} {x0 x1 x2:D},Ai (m.put i 0 [x0,x1,x2]) i 0 3=some [x0,x1,x2]:=AM rfl;obtain⟨k,q,v⟩:=x;unfold opD at p;simp only at la y b hR p;unfold Pb at y b hR;simp only at y b hR;have a:∀{m:GV} {q o i:Nat} {x:List D},q<2->2<=i->m.put [i] 0 x [q] o=m [q] o:=λhq hi=>aB Xc
  have d:∀{i:Nat},2<=i->(([0]:Id)=[i])=False:=λhi=>Xc
  have e:∀{i:Nat},2<=i->(([1]:Id)=[i])=False:=λhi=>Xc
  have s1:∀{m:GV} {x:D},Ai (m.put [0] 0 [x]) [0] 0 1=some [x]:=AM rfl;have s2:∀{m:GV} {x:D},Ai (m.put [0] 0 [x]) [1] 0 1=Ai m [1] 0 1:=AI Z;have h:∀{m:GV} {x:List D},m.put [0] 0 x [1] 0=m [1] 0:=aB Z;have ra:WC t:=⟨O,O⟩;by_cases c1:k=1
  ·subst c1;simp only[reduceIte]at y b hR;have i1:=NF t q v O O;simp (disch:=first|assumption|omega)only[GU,↓GQ,GS,simprocAttr,GY,h2,h4,h7,h8,h9,d1,n,Qp,p,z3,a,m0,m1,Ad fV 24,i1,oa,d,e];refine ih _ _ _ O hl b O O hR Xb h2 h4 h7 h8 rfl rfl ?_;simp (disch:=omega)only[h,a,m1]
  rw[if_neg c1]at y b hR;have n1:(k=1)=False:=eq_false c1;by_cases c2:k=2
  ·subst c2;simp only[reduceIte]at y b hR;have i1:=aGF t q ra ho;simp (disch:=first|assumption|omega)only[GU,↓GQ,GS,simprocAttr,GY,h2,h4,h7,h8,h9,d1,n,Qp,p,z3,a,m0,m1,Ad fV 31,i1,oa,d,e];refine ih _ _ _ O hl b O O hR Xb h2 h4 h7 h8 rfl rfl ?_;simp (disch:=omega)only[h,a,m1]
  rw[if_neg c2]at y b hR;have n2:(k=2)=False:=eq_false c2;by_cases c3:k=3
  ·subst c3;simp only[reduceIte]at y b hR;have i1:=aGD t q ra O;simp (disch:=first|assumption|omega)only[GU,↓GQ,GS,simprocAttr,GY,h2,h4,h7,h8,h9,d1,n,Qp,p,z3,a,m0,m1,Ad fV 32,i1,oa,d,e];refine ih _ _ _ O hl b O O hR Xb h2 h4 h7 h8 rfl rfl ?_;simp (disch:=omega)only[h,a,m1]
  rw[if_neg c3]at y b hR;have n3:(k=3)=False:=eq_false c3;simp (disch:=first|assumption|omega)only[GU,↓GQ,GS,simprocAttr,GY,h2,h4,h7,h8,h9,d1,n,Qp,p,z3,a,m0,m1,n1,n2,n3,oa,d,e];refine ih _ _ _ O hl b O O hR Xb h2 h4 h7 h8 rfl ?_ ?_
  ·simp (disch:=omega)only[a,m0]
  ·simp (disch:=omega)only[a,m1]
def gP(t:Tr)(nl:Bool)(l:List Op1)(hl:l.length<=100000)(s:∀x∈l,x.2.1.length<=150∧x.2.2.length<=1000)(r:Tr.Ord t.lst)(g:t.cnt+l.length<=700000)(p:t.wgt+1200*l.length<=700000000000):gR [.agg [Hh t],.slice nl [] (opsD l)]=some (.agg [Hh (CW l t)]):=by
 refine Aq (Qh rfl) ?_;unfold aEN;have y:(opsD l).length=l.length:=QC ..;simp only[GU,↓GQ,GS,simprocAttr,GY,y];refine dA (nl:=nl) s (R:=CW l t) (λo a1 z j q=>?_) l.length 0 t _ _ O hl r g p rfl (by show 2<=5;decide) rfl rfl rfl rfl rfl rfl rfl;simp only[GU,↓GQ,GS,simprocAttr,GY,a1,z,j,q]
 all_goals exact Qd
def Nb:=y3 f168 5 [] []
def aEx:=y2 f168 [] [(5,Nb)]
def SA:=y3 Tryz.f170 3 [] []
def aEw:=y2 Tryz.f170 [] [(3,SA)]
def M8:=y3 f218 6 [] []
def M7:=y3 f218 4 [] [(6,M8)]
def aEm:=y2 f218 [] [(4,M7)]
def Nj:=y3 f107 2 [] []
def aEM:=y2 f107 [] [(2,Nj)]
def Sz:=y3 f151 5 [] []
def aEv:=y2 f151 [] [(5,Sz)]
def aEL:=y2 f109 [(17,[(7,0)]),(20,[(7,0)]),(27,[(6,0)]),(38,[(8,0)]),(39,[(3,0)])] []
def Nn:=y3 f51 11 [] []
def aEW:=y2 f51 [] [(11,Nn)]
def CT(c:UInt8):Int:=if 48<=c.toNat∧c.toNat<=57 then(c.toNat:Int)-48 else if 97<=c.toNat∧c.toNat<=102 then(c.toNat:Int)-87 else-1
def gA(c:UInt8):aTA [.int .u8 (c.toNat:Int)]=some (.int .i64 (CT c)):=by
 refine Aq (Qh rfl) ?_;have g:=c.toNat_lt;unfold aND CT;by_cases u:48<=c.toNat∧c.toNat<=57
 ·have a1:((48:Int)<=(c.toNat:Int))=True:=eq_true O;have t:((c.toNat:Int)<=57)=True:=eq_true O;have p:IntKind.u8.wrap ((c.toNat:Int)-48)=(c.toNat:Int)-48:=w8 O O;have m:IntKind.i64.wrap ((c.toNat:Int)-48)=(c.toNat:Int)-48:=Hg O O;rw[if_pos u];simp only[GU,↓GQ,GS,simprocAttr,a1,t,p,m]
  all_goals exact Qd
 rw[if_neg u];by_cases q:97<=c.toNat∧c.toNat<=102
 ·have a1:((48:Int)<=(c.toNat:Int))=True:=eq_true O;have t:((c.toNat:Int)<=57)=False:=eq_false O;have j:((97:Int)<=(c.toNat:Int))=True:=eq_true O;have o:((c.toNat:Int)<=102)=True:=eq_true O;have p:IntKind.u8.wrap ((c.toNat:Int)-97)=(c.toNat:Int)-97:=w8 O O;have m:IntKind.i64.wrap ((c.toNat:Int)-97)=(c.toNat:Int)-97:=Hg O O;have f:IntKind.i64.wrap ((c.toNat:Int)-97+10)=(c.toNat:Int)-87:=by rw[Hg O O];omega
  rw[if_pos q];simp only[GU,↓GQ,GS,simprocAttr,a1,t,j,o,p,m,f]
  all_goals exact Qd
 rw[if_neg q];by_cases r:48<=c.toNat
 ·have a1:((48:Int)<=(c.toNat:Int))=True:=eq_true O;have t:((c.toNat:Int)<=57)=False:=eq_false O;by_cases b2:97<=c.toNat
  ·have j:((97:Int)<=(c.toNat:Int))=True:=eq_true O;have o:((c.toNat:Int)<=102)=False:=eq_false O;simp only[GU,↓GQ,GS,simprocAttr,a1,t,j,o]
   all_goals exact Qd
  ·have j:((97:Int)<=(c.toNat:Int))=False:=eq_false O;simp only[GU,↓GQ,GS,simprocAttr,a1,t,j]
   all_goals exact Qd
 ·have a1:((48:Int)<=(c.toNat:Int))=False:=eq_false O;have j:((97:Int)<=(c.toNat:Int))=False:=eq_false O;simp only[GU,↓GQ,GS,simprocAttr,a1,j]
  all_goals exact Qd
def aDJ(c:UInt8):-1<=CT c∧CT c<=15:=by
 unfold CT
 repeat' split
 all_goals omega
def EP:Bs->Option Bs
 |[]=>some []
 |[_]=>none
 |a::b::r=>if CT a<0∨CT b<0 then none else(EP r).map λx=>UInt8.ofNat (16*CT a+CT b).toNat::x
def WQ(a b:UInt8)(r:Bs):EP (a::b::r)=if CT a<0∨CT b<0 then none else(EP r).map λx=>UInt8.ofNat (16*CT a+CT b).toNat::x:=by rw[EP]
def nY:∀(n:Nat)(s:Bs),s.length=2*n+1->EP s=none
 |0,s,h=>by
  match s,h with
  |[_],_=>rfl
 |n+1,s,h=>by
  match s,h with
  |a::b::r,h=>
   have:=nY n r YP;unfold EP;rw[this];split<;>rfl
def aFR(s:Bs)(hl:s.length<=1000000):aTN [.str s]=some (.tup [.str ((EP s).getD []),.bool (EP s).isSome]):=by
 refine Aq (Qh rfl) ?_;unfold aOa;rcases(by omega:s.length=2*(s.length / 2)∨s.length=2*(s.length / 2)+1)with he|he
 ·have hm:((s.length:Int).tmod 2)=0:=by rw[Zt O];omega
  have hq:IntKind.i64.wrap ((s.length:Int).tdiv 2)=((s.length / 2:Nat):Int):=by rw[Int.tdiv_eq_ediv_of_nonneg O,Hg O O];omega
  generalize hn:s.length / 2=n at *;simp only[↓GQ,GT,GS,reduceIte,Ql,Qo,reduceCtorEq,Zo,Ze,hm,hq];refine aA ⟨O,O⟩ ?_;simp only[↓GQ,GX,GS,reduceIte,Ql,Qo];refine By (n:=n) (I:=λj z=>z.s 0= .str s∧z.s 5= .int .i64 ((2*j:Nat):Int)∧∃t acc,z.s 4= .slice false t (Aw acc)∧acc.length=j∧EP s=(EP (s.drop (2*j))).map (acc++·)∧LG 9 _ 5 z.m z.c false t) (λj w ih z g hI=>?_) (λz g hI=>?_) 0 (Qm _) _ _ ⟨rfl,rfl,_,[],rfl,rfl,by cases h:EP s<;>simp[h],⟨λ_ _ _=>rfl,.inr ⟨_,rfl,O,Xb,XU⟩,Xb⟩⟩
  ·obtain⟨ja,ga,da⟩:=z;obtain⟨r,k,t,acc,x,wa,hu,hG⟩:=hI;simp only at r k x hG;refine Af VX.eq_1 ?_;have v:(((2*j:Nat):Int)<(s.length:Int)):=by omega
   have ma:(0:Int)<=((2*j:Nat):Int):=O
   have d:(0:Int)<=((2*j+1:Nat):Int):=O
   have oa:IntKind.i64.wrap (((2*j:Nat):Int)+1)=((2*j+1:Nat):Int):=Hg O O;have o:IntKind.i64.wrap (((2*j:Nat):Int)+2)=((2*(j+1):Nat):Int):=Yb
   have b1:s[2*j]?=some (s[2*j]' O):=Qk _;have b2:s[2*j+1]?=some (s[2*j+1]' O):=Qk _;have hd:s.drop (2*j)=s[2*j]' O::s[2*j+1]' O::s.drop (2*(j+1)):=by
    rw[QN O,QN O];rfl
   rw[hd]at hu;generalize (s[2*j]' O)=a at *;generalize (s[2*j+1]' O)=b at *;have u:=gA a;have q:=gA b;have k1:=aDJ a;have k2:=aDJ b;have ea:∀a:Int,AQ .shl (.int .i64 a) (.int .u64 4)=some (.int .i64 (IntKind.i64.wrap (a*2 ^ min (4:Int).toNat IntKind.i64.bits))):=λa=>rfl
   rw[WQ]at hu;simp only[↓GQ,GT,reduceIte,Ql,Qo,reduceCtorEq,r,k,v,ma,d,oa,Qp,b1,b2,Ad aYT 228,u,q];refine AJ ?_;by_cases n1:CT a<0
   ·rw[if_pos (.inl n1)]at hu;rw[hu];have f:(CT a<0)=True:=eq_true n1;simp only[↓GQ,GT,GS,reduceIte,Ql,Qo,reduceCtorEq,x,f]
    all_goals exact Qd
   by_cases n2:CT b<0
   ·rw[if_pos (.inr n2)]at hu;rw[hu];have f:(CT a<0)=False:=eq_false n1;have e:(CT b<0)=True:=eq_true n2;simp only[↓GQ,GT,GS,reduceIte,Ql,Qo,reduceCtorEq,x,f,e]
    all_goals exact Qd
   rw[if_neg (λh=>h.elim n1 n2)]at hu;have f:(CT a<0)=False:=eq_false n1;have e:(CT b<0)=False:=eq_false n2;have or:=orE (CT a).toNat O (CT b).toNat O;rw[QR O,QR O]at or;have i:((16*(CT a).toNat+(CT b).toNat:Nat):Int)=16*CT a+CT b:=O
   rw[i]at or;have p:((UInt8.ofNat (16*CT a+CT b).toNat).toNat:Int)=16*CT a+CT b:=by
    rw[UInt8.toNat_ofNat'];omega
   have y:Aw acc++[.int .u8 (16*CT a+CT b)]=Aw (acc++[UInt8.ofNat (16*CT a+CT b).toNat]):=by
    rw[C1];show _=Aw acc++[.int .u8 ((UInt8.ofNat (16*CT a+CT b).toNat).toNat:Int)];rw[p]
   have bb:(Aw acc).length=j:=by rw[BA,wa]
   simp only[↓GQ,GT,GS,reduceIte,Ql,Qo,reduceCtorEq,x,f,e,ea,or];refine aA ⟨by simp only[bb];omega,rfl,Or⟩ ?_;rw[y];simp only[↓GQ,GT,GS,reduceIte,Ql,Qo,k,o];refine ih _ _ ⟨r,rfl,_,_,rfl,by simp[wa],?_,(by first|exact LG.nil (hG.appf O Xb)|exact LG.nil ((hG.put O).appf O Xb)|exact LG.nil (((hG.put O).put O).appf O Xb)|exact LG.nil ((((hG.put O).put O).put O).appf O Xb)|exact LG.nil (((((hG.put O).put O).put O).put O).appf O Xb)|exact LG.nil ((((((hG.put O).put O).put O).put O).put O).appf O Xb))⟩;rw[hu];cases EP (s.drop (2*(j+1)))<;>simp
  ·obtain⟨r,k,t,acc,x,wa,hu,hG⟩:=hI;refine Af VX.eq_1 ?_;have qa:(((2*n:Nat):Int)<(s.length:Int))=False:=eq_false O;rw[ZB O]at hu;rw[hu];simp only[Zl,↓GQ,GT,GS,reduceIte,Ql,Qo,reduceCtorEq,r,k,x,qa,Ci]
   all_goals (first|rfl|exact⟨rfl,rfl⟩|(simp[EP];done))
 ·have hm:((s.length:Int).tmod 2)=1:=by rw[Zt O];omega
  rw[nY _ s he];simp only[GU,↓GQ,GS,simprocAttr,hm]
  all_goals exact Qd
def VM(s:Bs)(p:Nat):(Hm s p<128∧Utf8.decode ⟨s.toArray⟩ p=(Hm s p,1))∨(128<=Hm s p∧128<=(Utf8.decode ⟨s.toArray⟩ p).1):=by
 by_cases h:Hm s p<128
 ·refine .inl ⟨h,?_⟩;unfold Utf8.decode;simp only[Oj,ZY,h,if_true]
 ·refine .inr ⟨O,?_⟩;have a:=I0 s p;unfold Utf8.decode;simp only[Oj,ZY,h,if_false]
  (repeat' split)<;>simp_all [Utf8.runeError]<;>omega
def nuS(s:Bs):Nat->Nat->Int->Int
 |0,_,n=>n
 |f+1,p,n=>if p<s.length then(if 48<=Hm s p∧Hm s p<=57 then nuS s f (p+1) (10*n+((Hm s p:Int)-48))else-1)else n
def iC(s:Bs):Int:=if s=[]∨3<s.length∨(1<s.length∧s.head?=some 48)then-1 else nuS s s.length 0 0
def bN(p:Nat):Int:=if p=0 then 0 else if p=1 then 9 else if p=2 then 99 else 999
def aYE(p:Nat):bN p<=999:=by unfold bN;repeat' split<;>omega
def aKf{p:Nat}{n c:Int}(h:n<=bN p)(o:p<3)(g:c<=9):10*n+c<=bN (p+1):=by
 rcases(by omega:p=0∨p=1∨p=2)with rfl|rfl|rfl<;>simp[bN]at *<;>omega
def aUu{x:Int}(u:-2147483648<=x)(q:x<2147483648):IntKind.i32.wrap x=x:=IntWalk.i32_in _ ⟨u,O⟩
def cW{S:GR}{ns i:Id}{s:Bs}{Q:Ex->St->Prop}{e:Int}(hs:s.length<=3)(x:∀z,e=-1->z.s 2= .int .i64 (-1)->Q .ret z)(b:∀z,z.s 3= .int .i64 e->Q (.exit 0) z):
  ∀(f p:Nat)(n:Int) z g,s.length<=p+f->0<=n->n<=bN p->nuS s f p n=e->z.s 24= .itp i->z.s 3= .int .i64 n->z.m i 1=some (.it s p)->AK S ns Nb Q z g:=by
 intro f;induction f with
 |zero=>
  intro p n z g hf w pa q y d r;refine Af Nb.eq_1 ?_;have:¬(p<s.length):=O
  simp only[↓GQ,GX,Hf,simprocAttr,r,y,this];exact b _ (by rw[←q];exact d)
 |succ f ih=>
  intro p n z g hf w pa q y d r;refine Af Nb.eq_1 ?_;unfold nuS at q;have k:=aYE p;by_cases v:p<s.length
  ·rw[if_pos v]at q;rcases VM s p with ⟨d1,d2⟩|⟨d1,d2⟩
   ·have o:z.m.put i 1 [.it s (p+(Utf8.decode ⟨s.toArray⟩ p).2)] i 1=some (.it s (p+1)):=by rw[Ea,if_pos ⟨rfl,rfl⟩,d2]
    by_cases c:48<=Hm s p∧Hm s p<=57
    ·rw[if_pos c]at q;have a1:((Hm s p:Int)<48)=False:=eq_false O;have t:((57:Int)<(Hm s p:Int))=False:=eq_false O;have u:IntKind.i64.wrap (10*n)=10*n:=Hg O O;have j:IntKind.i32.wrap ((Hm s p:Int)-48)=(Hm s p:Int)-48:=aUu O O;have e3:IntKind.i64.wrap ((Hm s p:Int)-48)=(Hm s p:Int)-48:=Hg O O;have a:IntKind.i64.wrap (10*n+((Hm s p:Int)-48))=10*n+((Hm s p:Int)-48):=Hg O O;simp only[↓GQ,GX,Hf,simprocAttr,r,y,d,v,d2,a1,t,u,j,e3,a];exact ih (p+1) _ _ _ O O (aKf pa O O) q y rfl o
    ·rw[if_neg c]at q;by_cases c1:Hm s p<48
     ·have a1:((Hm s p:Int)<48)=True:=eq_true O;simp only[↓GQ,GX,Hf,simprocAttr,r,y,d,v,d2,a1];exact x _ q.symm rfl
     ·have a1:((Hm s p:Int)<48)=False:=eq_false O;have t:((57:Int)<(Hm s p:Int))=True:=eq_true O;simp only[↓GQ,GX,Hf,simprocAttr,r,y,d,v,d2,a1,t];exact x _ q.symm rfl
   ·rw[if_neg O]at q;have a1:(((Utf8.decode ⟨s.toArray⟩ p).1:Int)<48)=False:=eq_false O;have t:((57:Int)<((Utf8.decode ⟨s.toArray⟩ p).1:Int))=True:=eq_true O;simp only[↓GQ,GX,Hf,simprocAttr,r,y,d,v,a1,t];exact x _ q.symm rfl
  ·rw[if_neg v]at q;simp only[↓GQ,GX,Hf,simprocAttr,r,y,v];exact b _ (by rw[←q];exact d)
def aZf:=Az []
def tH:=RF aZf aEx [.t 2] 41
def aCQ:Kq tH 168:=Av (Al func168) Ae
def gL(s:Bs):tH [.str s]=some (.int .i64 (iC s)):=by
 refine Aq (Qh rfl) ?_;unfold aEx;unfold iC;by_cases y:s=[]
 ·subst y;rw[if_pos (.inl rfl)];simp only[GU,↓GQ,GS,simprocAttr]
  all_goals exact Qd
 have i:(s=[])=False:=eq_false y;by_cases d:3<s.length
 ·rw[if_pos (.inr (.inl d))];have c1:((3:Int)<(s.length:Int))=True:=eq_true O;simp only[GU,↓GQ,GS,simprocAttr,i,c1]
  all_goals exact Qd
 have c1:((3:Int)<(s.length:Int))=False:=eq_false O;have f:s[0]?=s.head?:=by cases s<;>rfl
 by_cases u:1<s.length
 ·have c2:((1:Int)<(s.length:Int))=True:=eq_true O;obtain⟨c,r,rfl⟩:∃c r,s=c::r:=by cases s with|nil=>exact absurd rfl y|cons c r=>exact⟨c,r,rfl⟩
  by_cases q:c=48
  ·rw[if_pos (.inr (.inr ⟨u,XL⟩))];have n:((c.toNat:Int)=48)=True:=eq_true XL;simp only[GU,↓GQ,GS,simprocAttr,i,c1,c2,QF,n]
   all_goals exact Qd
  ·rw[if_neg (by rintro(h|h|⟨_,h⟩);exact y h;exact d h;exact q (Z0 h))];have n:((c.toNat:Int)=48)=False:=eq_false (λe=>q (UInt8.toNat_inj.1 (by show c.toNat=48;omega)));simp only[GU,↓GQ,GS,simprocAttr,i,c1,c2,QF,n];refine cW (s:=c::r) O (λz m h=>?_) (λz h=>?_) (c::r).length 0 0 _ _ O (Z_ _) Z rfl rfl rfl rfl
   ·rw[m];simp only[GU,↓GQ,GS,simprocAttr,h]
    all_goals exact Qd
   ·simp only[GU,↓GQ,GS,simprocAttr,h]
    all_goals exact Qd
 ·have c2:((1:Int)<(s.length:Int))=False:=eq_false O;rw[if_neg (by rintro(h|h|⟨h,_⟩);exact y h;exact d h;exact u h)];simp only[GU,↓GQ,GS,simprocAttr,i,c1,c2];refine cW (s:=s) O (λz m h=>?_) (λz h=>?_) s.length 0 0 _ _ O (Z_ _) Z rfl rfl rfl rfl
  ·rw[m];simp only[GU,↓GQ,GS,simprocAttr,h]
   all_goals exact Qd
  ·simp only[GU,↓GQ,GS,simprocAttr,h]
   all_goals exact Qd
def opS(w:Bs):Nat->Nat->Int
 |0,_=>0
 |f+1,k=>if Ft (k:Int)=w then(k:Int)else opS w f (k+1)
def opF(w:Bs):Int:=opS w 18 1
def aBP(w:Bs):∀(f k:Nat),1<=k->0<=opS w f k∧opS w f k<=max 0 ((k:Int)+f-1)
 |0,k,h=>by unfold opS;omega
 |f+1,k,h=>by
  have:=aBP w f (k+1) O;unfold opS;split<;>omega
def aMr(w:Bs):0<=opF w∧opF w<=18:=by
 have:=aBP w 18 1 (Qj _);unfold opF;omega
def sA:=Az [(108,Ac aAd)]
def aGT:=RF sA aEM [.t 2] 14
def aSo:Kq aGT 107:=Av (Al func107) (Aa pW Ae)
def cZ{w:Bs}{Q:Ex->St->Prop}{e:Int}(b:∀z,z.s 2= .int .u8 e->Q .ret z)(m:∀z,e=0->Q (.exit 0) z):∀(f k:Nat)(z:St) g,k+f=19->opS w f k=e->z.s 0= .str w->z.s 3= .int .u8 (k:Int)->AK sA [] Nj Q z g
 |0,k,z,g,hf,he,h0,h3=>by
  refine Af Nj.eq_1 ?_;have d1:((k:Int)<=18)=False:=eq_false O;simp only[GU,↓GQ,GS,simprocAttr,h0,h3,d1];exact m _ he.symm
 |f+1,k,z,g,hf,he,h0,h3=>by
  have ih:=cZ (w:=w) b m f (k+1);refine Af Nj.eq_1 ?_;obtain⟨u,d,r⟩:=z;simp only at h0 h3;have d1:((k:Int)<=18)=True:=eq_true O;have o:=Re (op:=(k:Int)) O O;have p:IntKind.u8.wrap ((k:Int)+1)=((k+1:Nat):Int):=by rw[w8 O O];omega
  unfold opS at he;by_cases c:Ft (k:Int)=w
  ·rw[if_pos c]at he;have c':(Ft (k:Int)=w)=True:=eq_true c;simp only[GU,↓GQ,GS,simprocAttr,h0,h3,d1,Ad sA 108,o,c'];exact b _ (by rw[←he];rfl)
  ·rw[if_neg c]at he;have c':(Ft (k:Int)=w)=False:=eq_false c;simp only[GU,↓GQ,GS,simprocAttr,h0,h3,d1,Ad sA 108,o,c',p];exact ih _ _ O he h0 rfl
def aGS(w:Bs):aGT [.str w]=some (.int .u8 (opF w)):=by
 refine Aq (Qh rfl) ?_;unfold aEM;simp only[GU,↓GQ,GS,simprocAttr];refine cZ (w:=w) (e:=opF w) (λz h=>?_) (λz h=>?_) 18 1 _ _ rfl rfl rfl rfl
 ·simp only[GU,↓GQ,GS,simprocAttr,h]
  all_goals exact Qd
 ·rw[h];simp only[GU,↓GQ,GS,simprocAttr]
  all_goals exact Qd
def aFN:=Az [(106,Ac DT),(168,Ac tH)]
def aGC:=RF aFN aEw [.t 2] 20
def aSb:Kq aGC 170:=Av (Al func170) (Aa aIQ (Aa aCQ Ae))
def aGB(s:Bs)(hl:s.length<=1000):aGC [.str s]=some (.slice false [] (Bk ((splitC 44 s).map iC))):=by
 refine Aq (Qh rfl) ?_;unfold aEw;have i:=OD (s:=s) (q:=44) O;have ya:=CB (q:=44) s;have f:=NU (q:=44) s;generalize splitC 44 s=l at *;have y:((AL l).length:Int)=(l.length:Int):=by rw[Bb]
 simp only[GU,↓GQ,GS,simprocAttr,Ad aFN 106,i,y];refine By (n:=l.length) (I:=λj z=>z.s 7= .slice false [] (AL l)∧z.s 8= .int .i64 ((AL l).length:Int)∧z.s 9= .int .i64 (j:Int)∧∃nl t,z.s 3= .slice nl t (Bk ((l.take j).map iC))∧nl=decide (j=0)∧LG 0 _ 3 z.m z.c nl t) (λj w ih z g hI=>?_) (λz g hI=>?_) 0 (Qm _) _ _ ⟨rfl,rfl,rfl,true,[],rfl,rfl,LG.start Xb⟩
 ·obtain⟨ja,k,r⟩:=z;obtain⟨h7,h8,h9,nl,t,d,qa,o⟩:=hI;simp only at h7 h8 h9 d o;rw[y]at h8;refine Af SA.eq_1 ?_;have v:((j:Int)<l.length):=by omega
  have u:=nJ (j:=j);have p:=wJ (j:=j) O;have ia:(AL l)[j]?=some (.str (l[j]' O)):=by unfold AL;rw[QQ,Qk O];rfl
  have h:=gL (l[j]' O);have na:Bk ((l.take (j+1)).map iC)=Bk ((l.take j).map iC)++[.int .i64 (iC (l[j]' O))]:=by
   rw[QD O,Q2];simp[Bk]
  have wa:(Bk ((l.take j).map iC)).length=j:=by simp[Bk];omega
  have x:nl=true->Bk ((l.take j).map iC)=[]:=by
   grind
  generalize Bk ((l.take j).map iC)=acc at d na wa x;simp only[GU,↓GQ,GS,simprocAttr,h7,h8,h9,d,v,u,Qp,ia,Ad aFN 168,h];refine aA ⟨O,rfl,(by first|exact o.grow|exact(o.put O).grow|exact((o.put O).put O).grow|exact(((o.put O).put O).put O).grow|exact((((o.put O).put O).put O).put O).grow|exact(((((o.put O).put O).put O).put O).put O).grow)⟩ ?_;rw[Ba x,←na];simp only[GU,↓GQ,GS,simprocAttr,h9,p];exact ih _ _ ⟨h7,by rw[y];exact h8,rfl,false,_,rfl,U,(by first|exact o.app O Xb|exact(o.put O).app O Xb|exact((o.put O).put O).app O Xb|exact(((o.put O).put O).put O).app O Xb|exact((((o.put O).put O).put O).put O).app O Xb|exact(((((o.put O).put O).put O).put O).put O).app O Xb)⟩
 ·obtain⟨ja,k,r⟩:=z;obtain⟨h7,h8,h9,nl,t,d,qa,o⟩:=hI;simp only at h7 h8 h9 d o;rw[y]at h8;refine Af SA.eq_1 ?_;have e:decide (l.length=0)=false:=decide_eq_false (by cases l with|nil=>exact absurd rfl f|cons a b=>simp);rw[QZ (Qj _)]at d;rw[e]at qa;subst qa;simp only[GU,↓GQ,GS,simprocAttr,h8,h9,d,Zi]
  all_goals exact Qd
def iW:List Nat:=[114,119,100,120,108,115]
def CE(c:Nat):Nat->Nat->Nat
 |0,k=>k
 |f+1,k=>if k<6∧iW.getD k 0≠c then CE c f (k+1)else k
def To(s:Bs):Nat->Nat->Nat->Nat->Nat×Bool
 |0,_,_,o=>(o,true)
 |f+1,p,k,o=>if p<s.length then(if CE (Hm s p) (6-k) k=6 then(0,false)else To s f (p+1) (CE (Hm s p) (6-k) k+1) (o|||2 ^ CE (Hm s p) (6-k) k))else(o,true)
def Ia(s:Bs):Nat×Bool:=To s s.length 0 0 0
def Pj(c:Nat):∀f k,k<=6->k<=CE c f k∧CE c f k<=6
 |0,k,h=>by unfold CE;omega
 |f+1,k,h=>by
  unfold CE;split
  ·rename_i u;have:=Pj c f (k+1) O;omega
  ·omega
def W8{c d:Nat}(g:128<=c)(z:128<=d):∀f k,CE c f k=CE d f k
 |0,k=>rfl
 |f+1,k=>by
  have i:∀k,iW.getD k 0<128:=λk=>by
   rcases(by omega:k=0∨k=1∨k=2∨k=3∨k=4∨k=5∨6<=k)with rfl|rfl|rfl|rfl|rfl|rfl|h
   all_goals first|decide|(simp[iW,Q3,List.getElem?_eq_none (show [114,119,100,120,108,115].length<=k from h)])
  have:=i k;unfold CE;rw[W8 g z f (k+1)];by_cases h:k<6
  ·rw[if_pos ⟨h,O⟩,if_pos ⟨h,O⟩]
  ·rw[if_neg (λe=>h e.1),if_neg (λe=>h e.1)]
def aMq:∀o,o<64->∀k,k<6->(o|||2 ^ k)<64:=Z
def rO(s:Bs):∀f p k o,k<=6->o<64->(To s f p k o).1<64
 |0,p,k,o,hk,h=>h
 |f+1,p,k,o,hk,h=>by
  have i:=Pj (Hm s p) (6-k) k hk;unfold To;split
  ·split
   ·decide
   ·exact rO s f _ _ _ O (aMq o h _ O)
  ·exact h
def lX(s:Bs):(Ia s).1<64:=rO s _ 0 0 0 Z Z
def aU2:∀o,o<64->∀k,k<6->bits .or .u8 ((o:Nat):Int) ((2 ^ k:Nat):Int)=((o|||2 ^ k:Nat):Int):=Z
def aXT{o k:Nat}(r:o<64)(s:k<6):AQ .or (.int .u8 (o:Int)) (.int .u8 ((2 ^ k:Nat):Int))=some (.int .u8 ((o|||2 ^ k:Nat):Int)):=by
 rw[←aU2 o r k s];rfl
def aSM{k:Nat}(s:k<6):AQ .shl (.int .u8 1) (.int .i64 (k:Int))=some (.int .u8 ((2 ^ k:Nat):Int)):=by
 rcases(by omega:k=0∨k=1∨k=2∨k=3∨k=4∨k=5)with rfl|rfl|rfl|rfl|rfl|rfl<;>rfl
def TX{S:GR}{ns:Id}{r:Nat}{Q:Ex->St->Prop}:∀(f k:Nat)(z:St) g,k+f=6->(∀o,o.m=z.m->o.c≥z.c->o.s 5= .int .i64 (CE r f k:Nat)->(∀j,j=4∨j=7∨j=9->o.s j=z.s j)->Q (.exit 2) o)->z.s 5= .int .i64 (k:Int)->z.s 7= .int .i32 (r:Int)->AK S ns M8 Q z g
 |0,k,z,g,hf,hexit,h5,h7=>by
  refine Af M8.eq_1 ?_;have d1:((k:Int)<6)=False:=eq_false O;simp only[GU,↓GQ,GS,simprocAttr,h5,h7,d1];exact hexit _ rfl Xb h5 (by rintro j (rfl|rfl|rfl)<;>rfl)
 |f+1,k,z,g,hf,hexit,h5,h7=>by
  refine Af M8.eq_1 ?_;have ih:=TX (S:=S) (ns:=ns) (r:=r) (Q:=Q) f (k+1);obtain⟨u,ga,t⟩:=z;simp only at h5 h7 hexit;have d1:((k:Int)<6)=True:=eq_true O;have q:(0:Int)<=(k:Int):=O
  obtain⟨c,va,w⟩:∃c:UInt8,([114,119,100,120,108,115]:List UInt8)[k]?=some c∧c.toNat=iW.getD k 0:=by
   rcases(by omega:k=0∨k=1∨k=2∨k=3∨k=4∨k=5)with rfl|rfl|rfl|rfl|rfl|rfl<;>exact⟨_,rfl,rfl⟩
  have b:=c.toNat_lt;have n:IntKind.i32.wrap (c.toNat:Int)=(c.toNat:Int):=aUu O O;have e2:IntKind.i64.wrap ((k:Int)+1)=((k+1:Nat):Int):=Xg
  unfold CE at hexit;rw[←w]at hexit;by_cases h:c.toNat=r
  ·rw[if_neg (λe=>e.2 h)]at hexit;have a1:((c.toNat:Int)=(r:Int))=True:=eq_true O;simp only[GU,↓GQ,GS,simprocAttr,h5,h7,d1,q,va,n,a1,Qp];exact hexit _ rfl Xb h5 (by rintro j (rfl|rfl|rfl)<;>rfl)
  ·rw[if_pos ⟨O,h⟩]at hexit;have a1:((c.toNat:Int)=(r:Int))=False:=eq_false O;simp only[GU,↓GQ,GS,simprocAttr,h5,h7,d1,q,va,n,e2,a1,Qp];exact ih _ _ O (λo y p a d=>hexit o y (by simp only at p;omega) a (λj x=>(d j x).trans (by rcases x with rfl|rfl|rfl<;>rfl))) rfl h7
def aCu{S:GR}{ns i:Id}{s:Bs}{Q:Ex->St->Prop}{e:Nat×Bool}(oa:∀z,e=(0,false)->z.s 2= .int .u8 0->z.s 3= .bool false->Q .ret z)(fa:∀z,e.2=true->z.s 4= .int .u8 (e.1:Int)->Q (.exit 0) z):
  ∀(f p k o:Nat)(z:St) g,s.length<=p+f->k<=6->o<64->To s f p k o=e->z.s 9= .itp i->z.s 4= .int .u8 (o:Int)->z.s 5= .int .i64 (k:Int)->z.m i 1=some (.it s p)->AK S ns M7 Q z g:=by
 intro f;induction f with
 |zero=>
  intro p k o z g hf j c n h9 h4 h5 y;refine Af M7.eq_1 ?_;have:¬(p<s.length):=O
  simp only[↓GQ,GX,Hf,simprocAttr,y,h9,this];unfold To at n;subst n;exact fa _ rfl h4
 |succ f ih=>
  intro p k o z g hf j c n h9 h4 h5 y;refine Af M7.eq_1 ?_;obtain⟨ja,ga,t⟩:=z;simp only at h9 h4 h5 y;unfold To at n;by_cases v:p<s.length
  ·rw[if_pos v]at n;have hb:=Pj (Hm s p) (6-k) k j;simp only[↓GQ,GX,Hf,simprocAttr,y,h9,v];have b:CE (Utf8.decode ⟨s.toArray⟩ p).1 (6-k) k=CE (Hm s p) (6-k) k:=by
    rcases VM s p with ⟨d1,d2⟩|⟨d1,d2⟩
    ·rw[d2]
    ·exact W8 d2 d1 _ _
   refine TX (r:=(Utf8.decode ⟨s.toArray⟩ p).1) (6-k) k _ _ O (λx ia qa a d=>?_) h5 rfl;rw[b]at a;generalize hq:CE (Hm s p) (6-k) k=q at *;have j4:=(d 4 (.inl rfl)).trans h4;have j9:=(d 9 (.inr (.inr rfl))).trans h9;by_cases h6:q=6
   ·subst h6;rw[if_pos rfl]at n;have a:x.s 5= .int .i64 6:=a;simp only[GU,↓GQ,GS,simprocAttr,a];exact oa _ n.symm rfl rfl
   ·rw[if_neg h6]at n;have hp:p<s.length:=v;have hw:(Utf8.decode ⟨s.toArray⟩ p).2=1:=by
     rcases VM s p with ⟨d1,d2⟩|⟨d1,d2⟩
     ·rw[d2]
     ·exfalso;have:∀f k,k<=6->k+f=6->CE (Hm s p) f k=6:=by
       intro f;induction f with
       |zero=>intro k _ h;unfold CE;omega
       |succ f ih=>
        intro k u w;unfold CE;have:iW.getD k 0<128:=by
         rcases(by omega:k=0∨k=1∨k=2∨k=3∨k=4∨k=5)with rfl|rfl|rfl|rfl|rfl|rfl<;>decide
        rw[if_pos ⟨O,O⟩];exact ih (k+1) O O
      exact h6 (hq.symm.trans (this (6-k) k j O))
    have a1:((q:Int)=6)=False:=eq_false O;have e1:=aSM (k:=q) O;have e2:=aXT (o:=o) (k:=q) c O;have e3:IntKind.i64.wrap ((q:Int)+1)=((q+1:Nat):Int):=Xg
    simp only[GU,↓GQ,GS,simprocAttr,a,j4,a1,e1,e2,e3];refine ih (p+1) (q+1) (o|||2 ^ q) _ _ O O (aMq o c q O) n j9 rfl rfl ?_;show x.m i 1=_;rw[ia];show ga.put i 1 [.it s (p+(Utf8.decode ⟨s.toArray⟩ p).2)] i 1=_;rw[Ea,if_pos ⟨rfl,rfl⟩,hw]
  ·rw[if_neg v]at n;simp only[↓GQ,GX,Hf,simprocAttr,y,h9,v];subst n;exact fa _ rfl h4
def aZc:=Az []
def aGs:=RF aZc aEm [.t 2,.t 3] 33
def aR3:Kq aGs 218:=Av (Al func218) Ae
def aGr(s:Bs):aGs [.str s]=some (.tup [.int .u8 ((Ia s).1:Nat),.bool (Ia s).2]):=by
 refine Aq (Qh rfl) ?_;unfold aEm;simp only[GU,↓GQ,GS,simprocAttr];refine aCu (s:=s) (e:=Ia s) (λz m q d=>?_) (λz m x=>?_) s.length 0 0 0 _ _ O Z Z rfl rfl rfl rfl rfl
 ·rw[m];simp only[GU,↓GQ,GS,simprocAttr,q,d]
  all_goals exact Qd
 ·rw[m];simp only[GU,↓GQ,GS,simprocAttr,x]
  all_goals exact Qd
def EK{q:UInt8}:∀(s:Bs),∀x∈splitC q s,x.length<=s.length
 |[],x,h=>by simp only[splitC,QV]at h;subst h;exact Qj _
 |c::r,x,h=>by
  have ih:=EK (q:=q) r;unfold splitC at h;split at h
  ·rcases QM.1 h with rfl|h
   ·exact Qm _
   ·have:=ih x h;simp only[Qi];omega
  ·cases hs:splitC q r with
   |nil=>
    rw[hs]at h;simp only[QV]at h;subst h;simp
   |cons y t=>
    rw[hs]at h ih;simp only[QM]at h;rcases h with rfl|h
    ·have:=ih y QB;simp only[Qi];omega
    ·have:=ih x (QL _ h);simp only[Qi];omega
def P6(x:Bs)(c:UInt8):(BY x c).1.length<=x.length:=by
 unfold BY;split
 ·exact Qj _
 ·exact List.length_take_le' _ _
def DU(x:Bs):Bool:=(BY x 58).2.2&&(Ia (BY x 58).2.1).2
def Ip(x:Bs):Rl:=((BY x 58).1,((Ia (BY x 58).2.1).1:Int))
def Cc(s:Bs):Bool×List Rl×Int:=
 if s=[]then(true,[],0)else if(splitC 44 s).all DU=false then(true,[],4)else if B4 ((splitC 44 s).map Ip)≠0 then(true,[],B4 ((splitC 44 s).map Ip))else(false,(splitC 44 s).map Ip,0)
def LT:=Az [(106,Ac DT),(217,Ac aTE),(218,Ac aGs),(121,Ac gY)]
def sY:=RF LT aEv [.t 2,.t 3] 52
def aCP:Kq sY 151:=Av (Al func151) (Aa aIQ (Aa aW2 (Aa aR3 (Aa cF Ae))))
def gK(s:Bs)(hl:s.length<=1000):sY [.str s]=some (.tup [.slice (Cc s).1 [] (Am (Cc s).2.1),.int .i64 (Cc s).2.2]):=by
 refine Aq (Qh rfl) ?_;unfold aEv;unfold Cc;by_cases h0:s=[]
 ·subst h0;rw[if_pos rfl];simp only[GU,↓GQ,GS,simprocAttr]
  all_goals exact Qd
 rw[if_neg h0];have ab:(s=[])=False:=eq_false h0;have i:=OD (s:=s) (q:=44) O;have ya:=CB (q:=44) s;have la:=NU (q:=44) s;have ua:=EK (q:=44) s;generalize splitC 44 s=l at *;have ea:((AL l).length:Int)=(l.length:Int):=by rw[Bb]
 simp only[GU,↓GQ,GS,simprocAttr,ab,Ad LT 106,i,ea];refine By (n:=l.length) (I:=λj z=>z.s 16= .slice false [] (AL l)∧z.s 17= .int .i64 ((AL l).length:Int)∧z.s 18= .int .i64 (j:Int)∧(l.take j).all DU=true∧∃nl t,z.s 4= .slice nl t (Am ((l.take j).map Ip))∧nl=decide (j=0)∧LG 0 _ 232 z.m z.c nl t) (λj hj ih z g hI=>?_) (λz g hI=>?_) 0 (Qm _) _ _ ⟨rfl,rfl,rfl,rfl,true,[],rfl,rfl,LG.start Xb⟩
 ·obtain⟨ja,ga,da⟩:=z;obtain⟨y,ra,w,ka,nl,t,h4,qa,hG⟩:=hI;simp only at y ra w h4 hG;rw[ea]at ra;refine Af Sz.eq_1 ?_;have aa:((j:Int)<l.length):=by omega
  have ma:=nJ (j:=j);have hw:=wJ (j:=j) O;have ia:(AL l)[j]?=some (.str (l[j]' O)):=by unfold AL;rw[QQ,Qk O];rfl
  have v:=ua _ (QG (l:=l) (n:=j) O);have ta:(l[j]' O)∈l:=QG _;have na:Am ((l.take (j+1)).map Ip)=Am ((l.take j).map Ip)++[.agg [.str (Ip (l[j]' O)).1,.int .u8 (Ip (l[j]' O)).2]]:=by
   rw[QD O,Q2];simp[Am,bP]
  have u:(l.take (j+1)).all DU=DU (l[j]' O):=by
   rw[QD O,List.all_append,ka];simp
  have wa:(Am ((l.take j).map Ip)).length=j:=by simp[Am];omega
  have oa:nl=true->Am ((l.take j).map Ip)=[]:=by
   grind
  generalize Am ((l.take j).map Ip)=acc at h4 na wa oa;generalize (l[j]' O)=x at *;have f:=aKG x 58 O;have h:=aGr (BY x 58).2.1;by_cases c1:(BY x 58).2.2=true
  ·by_cases c2:(Ia (BY x 58).2.1).2=true
   ·rw[c1]at f;rw[c2]at h;have o:DU x=true:=by unfold DU;rw[c1,c2];rfl
    have k:(Ip x).1=(BY x 58).1:=rfl;have p:(Ip x).2=((Ia (BY x 58).2.1).1:Int):=rfl;rw[k,p]at na;simp only[GU,↓GQ,GS,simprocAttr,y,ra,w,h4,aa,ma,Qp,ia,Ad LT 217,f,Ad LT 218,h];refine aA ⟨O,rfl,Or⟩ ?_;rw[Ba oa,←na];simp only[GU,↓GQ,GS,simprocAttr,w,hw];exact ih _ _ ⟨y,by rw[ea];exact ra,rfl,by rw[u];exact o,false,_,rfl,U,(by first|exact hG.app O Xb|exact(hG.put O).app O Xb|exact((hG.put O).put O).app O Xb|exact(((hG.put O).put O).put O).app O Xb|exact((((hG.put O).put O).put O).put O).app O Xb|exact(((((hG.put O).put O).put O).put O).put O).app O Xb)⟩
   ·have o:DU x=false:=by unfold DU;rw[c1];simpa using c2
    have c2:(Ia (BY x 58).2.1).2=false:=by simpa using c2
    rw[c1]at f;rw[c2]at h;have hA:l.all DU=false:=by
     rw[ZN];exact⟨x,ta,by rw[o];decide⟩
    rw[if_pos hA];simp only[GU,↓GQ,GS,simprocAttr,y,ra,w,h4,aa,ma,Qp,ia,Ad LT 217,f,Ad LT 218,h]
    all_goals exact Qd
  ·have c1:(BY x 58).2.2=false:=by simpa using c1
   have o:DU x=false:=by unfold DU;rw[c1];rfl
   rw[c1]at f;have hA:l.all DU=false:=by
    rw[ZN];exact⟨x,ta,by rw[o];decide⟩
   rw[if_pos hA];simp only[GU,↓GQ,GS,simprocAttr,y,ra,w,h4,aa,ma,Qp,ia,Ad LT 217,f,Ad LT 218,h]
   all_goals exact Qd
 ·obtain⟨ja,ga,da⟩:=z;obtain⟨y,ra,w,ka,nl,t,h4,qa,hG⟩:=hI;simp only at y ra w h4 hG;rw[ea]at ra;refine Af Sz.eq_1 ?_;have e:decide (l.length=0)=false:=decide_eq_false (by cases l with|nil=>exact absurd rfl la|cons a b=>simp);rw[QZ (Qj _)]at h4 ka;rw[e]at qa;subst qa;have hA:¬l.all DU=false:=by rw[ka];decide
  rw[if_neg hA];have d:=La (nl:=false) (l:=l.map Ip) (by rw[QC];omega) (λr hr=>by
   obtain⟨x,hx,rfl⟩:=Q8.1 hr;have:=ua x hx;have:=P6 x 58;exact⟨YU,Yr⟩)
  by_cases hp:B4 (l.map Ip)≠0
  ·rw[if_pos hp];have va:(B4 (l.map Ip)=0)=False:=eq_false hp;simp only[GU,↓GQ,GS,simprocAttr,ra,w,h4,Zi,Ad LT 121,d,va]
   all_goals exact Qd
  ·rw[if_neg hp];have hp:=Decidable.not_not.1 hp;rw[hp]at d;simp only[GU,↓GQ,GS,simprocAttr,ra,w,h4,Zi,Ad LT 121,d]
   all_goals exact Qd
def Eg(a:Ak)(c:Int)(s:Bs):Ak×Int:=
 if c=116 then({a with tk:=s},BE {a with tk:=s} 116)
 else if c=112 then({a with pa:=s},BE {a with pa:=s} 112)
 else if c=109 then({a with ot:=s},BE {a with ot:=s} 109)
 else if c=113 then({a with ot:=s},BE {a with ot:=s} 113)
 else if c=110 then({a with n:=iC s},BE {a with n:=iC s} 110)
 else if c=99 then({a with cas:=if s=[45]then-1 else iC s},Dj (decide (s=[45])||decide (0<=iC s)))
 else if c=102 then({a with fl:=decide (s=[49])},Dj (decide (s=[49])||decide (s=[48])))
 else if c=108 then(if s=[45]then(a,BE a 108)else({a with nln:=false,ns:=(splitC 44 s).map iC},BE {a with nln:=false,ns:=(splitC 44 s).map iC} 108))
 else if c=100 then(if s=[45]then(a,0)else({a with da:=(EP s).getD []},Dj ((EP s).isSome&&decide (s≠[]))))
 else if c=114 then(if s=[45]then(a,0)else if s=[]then(a,4)else({a with nlr:=(Cc s).1,rs:=(Cc s).2.1},(Cc s).2.2))
 else if c=107 then({a with key:=(EP s).getD []},Dj ((EP s).isSome&&decide ((((EP s).getD []).length:Int)=16)))
 else(a,BE a c)
def aBJ(s:Bs)(g:s.length<=400):(Cc s).2.1.length<=401∧∀r∈(Cc s).2.1,r.1.length<=400∧0<=r.2∧r.2<256:=by
 unfold Cc;split
 ·exact⟨Qm _,λr h=>Xd⟩
 split
 ·exact⟨Qm _,λr h=>Xd⟩
 split
 ·exact⟨Qm _,λr h=>Xd⟩
 ·refine⟨YO,λr h=>?_⟩;obtain⟨x,f,rfl⟩:=Q8.1 h;have:=EK s x f;have:=P6 x 58;have:=lX (BY x 58).2.1;exact⟨by show(BY x 58).1.length<=400;omega,Yr,YV⟩
def nZ:∀(n:Nat)(s x:Bs),s.length<=n->EP s=some x->x.length<=s.length
 |0,s,x,h,e=>by
  match s,h with
  |[],_=>cases e;exact Qj _
 |n+1,s,x,h,e=>by
  match s,h,e with
  |[],_,e=>cases e;exact Qj _
  |[_],_,e=>cases e
  |a::b::r,h,e=>
   rw[WQ]at e;split at e
   ·cases e
   ·obtain⟨y,d,rfl⟩:=Q_.1 e;have:=nZ n r y YP d;simp only[Qi];omega
def aAO(s:Bs):((EP s).getD []).length<=s.length:=by
 cases h:EP s with
 |none=>exact Qm _
 |some x=>exact nZ _ s x (Qj _) h
def Vb{a:Ak}(x:HB a){c:Int}{s:Bs}(g:s.length<=400):HB (Eg a c s).1:=by
 have u:=aAO s;have z:=aBJ s g;have d:=CB (q:=44) s;unfold Eg;by_cases c0:c=116
 ·rw[if_pos c0];exact⟨x.op0,x.op,Xb,x.pa,x.ot,x.ns,x.da,x.rl,x.rs,x.key⟩
 rw[if_neg c0];by_cases c1:c=112
 ·rw[if_pos c1];exact⟨x.op0,x.op,x.tk,Xb,x.ot,x.ns,x.da,x.rl,x.rs,x.key⟩
 rw[if_neg c1];by_cases c2:c=109
 ·rw[if_pos c2];exact⟨x.op0,x.op,x.tk,x.pa,Xb,x.ns,x.da,x.rl,x.rs,x.key⟩
 rw[if_neg c2];by_cases n:c=113
 ·rw[if_pos n];exact⟨x.op0,x.op,x.tk,x.pa,Xb,x.ns,x.da,x.rl,x.rs,x.key⟩
 rw[if_neg n];by_cases k:c=110
 ·rw[if_pos k];exact⟨x.op0,x.op,x.tk,x.pa,x.ot,x.ns,x.da,x.rl,x.rs,x.key⟩
 rw[if_neg k];by_cases o:c=99
 ·rw[if_pos o];exact⟨x.op0,x.op,x.tk,x.pa,x.ot,x.ns,x.da,x.rl,x.rs,x.key⟩
 rw[if_neg o];by_cases p:c=102
 ·rw[if_pos p];exact⟨x.op0,x.op,x.tk,x.pa,x.ot,x.ns,x.da,x.rl,x.rs,x.key⟩
 rw[if_neg p];by_cases w:c=108
 ·rw[if_pos w];by_cases e:s=[45]
  ·rw[if_pos e];exact x
  ·rw[if_neg e];exact⟨x.op0,x.op,x.tk,x.pa,x.ot,Yp,x.da,x.rl,x.rs,x.key⟩
 rw[if_neg w];by_cases b:c=100
 ·rw[if_pos b];by_cases e:s=[45]
  ·rw[if_pos e];exact x
  ·rw[if_neg e];exact⟨x.op0,x.op,x.tk,x.pa,x.ot,x.ns,Xb,x.rl,x.rs,x.key⟩
 rw[if_neg b];by_cases v:c=114
 ·rw[if_pos v];by_cases e:s=[45]
  ·rw[if_pos e];exact x
  rw[if_neg e];by_cases m:s=[]
  ·rw[if_pos m];exact x
  ·rw[if_neg m];exact⟨x.op0,x.op,x.tk,x.pa,x.ot,x.ns,x.da,Xb,λr j=>⟨by have:=z.2 r j;omega,(z.2 r j).2.1⟩,x.key⟩
 rw[if_neg v];by_cases f:c=107
 ·rw[if_pos f];exact⟨x.op0,x.op,x.tk,x.pa,x.ot,x.ns,x.da,x.rl,x.rs,Xb⟩
 rw[if_neg f];exact x
def Cl:GR:=Az [(168,Ac tH),(169,Ac aUe),(170,Ac aGC),(171,Ac aTN),(151,Ac sY),(172,Ac aHw)]
def gO:List D->Option D:=RF Cl aEL [.cell (some 11) 6,.t 7] 122
def aSn:Kq gO 109:=Av (Al func109) (Aa aCQ (Aa aMz (Aa aSb (Aa aXb (Aa aCP (Aa aMI Ae))))))
def aGR(a:Ak)(x:HB a)(c:Int)(s:Bs)(y:s.length<=400):gO [Hu a,.int .i32 c,.str s]=some (.tup [Hu (Eg a c s).1,.int .i64 (Eg a c s).2]):=by
 refine Aq (Qh rfl) ?_;unfold aEL;have h:=gL s;have v:=aGB s O;have ia:=aFR s O;have o:=gK s O;have z:=Vb x (c:=c) y;unfold Eg at z ⊢;by_cases c1:c=116
 ·subst c1;simp only[reduceIte,QE]at z ⊢;have d:=HF (c:=116) z;unfold Hu Hq at d ⊢;simp only[GU,↓GQ,GS,simprocAttr,Ad Cl 172,d]
  (refine aA (Ah ?_) ?_;first|rfl|simp[Ap,An,GZ,Ag,Ac])
  simp only[GU,↓GQ,GS,simprocAttr]
  all_goals exact Qd
 have n1:(c=116)=False:=eq_false c1;by_cases c2:c=112
 ·subst c2;simp only[reduceIte,QE]at z ⊢;have d:=HF (c:=112) z;unfold Hu Hq at d ⊢;simp only[GU,↓GQ,GS,simprocAttr,Ad Cl 172,d]
  (refine aA (Ah ?_) ?_;first|rfl|simp[Ap,An,GZ,Ag,Ac])
  simp only[GU,↓GQ,GS,simprocAttr]
  all_goals exact Qd
 have n2:(c=112)=False:=eq_false c2;by_cases n:c=109
 ·subst n;simp only[reduceIte,QE]at z ⊢;have d:=HF (c:=109) z;unfold Hu Hq at d ⊢;simp only[GU,↓GQ,GS,simprocAttr,Ad Cl 172,d]
  (refine aA (Ah ?_) ?_;first|rfl|simp[Ap,An,GZ,Ag,Ac])
  simp only[GU,↓GQ,GS,simprocAttr]
  all_goals exact Qd
 have n3:(c=109)=False:=eq_false n;by_cases u:c=113
 ·subst u;simp only[reduceIte,QE]at z ⊢;have d:=HF (c:=113) z;unfold Hu Hq at d ⊢;simp only[GU,↓GQ,GS,simprocAttr,Ad Cl 172,d]
  (refine aA (Ah ?_) ?_;first|rfl|simp[Ap,An,GZ,Ag,Ac])
  simp only[GU,↓GQ,GS,simprocAttr]
  all_goals exact Qd
 have n4:(c=113)=False:=eq_false u;by_cases q:c=110
 ·subst q;simp only[reduceIte,QE]at z ⊢;have d:=HF (c:=110) z;unfold Hu Hq at d ⊢;simp only[GU,↓GQ,GS,simprocAttr,Ad Cl 168,h,Ad Cl 172,d]
  (refine aA (Ah ?_) ?_;first|rfl|simp[Ap,An,GZ,Ag,Ac])
  simp only[GU,↓GQ,GS,simprocAttr]
  all_goals exact Qd
 have n5:(c=110)=False:=eq_false q;by_cases p:c=99
 ·subst p;simp only[reduceIte,QE]at z ⊢;have b:=HC;unfold Hu Hq;have k:((0:Int)<=-1)=False:=eq_false Z;by_cases e:s=[45]
  ·have t:(s=[45])=True:=eq_true e;rw[if_pos e,decide_eq_true e];simp only[GU,↓GQ,GS,simprocAttr,Ad Cl 168,h,t,Ad Cl 169,b]
   (refine aA (Ah ?_) ?_;first|rfl|simp[Ap,An,GZ,Ag,Ac])
   simp only[GU,↓GQ,GS,simprocAttr]
   all_goals exact Qd
  ·have t:(s=[45])=False:=eq_false e;rw[if_neg e,decide_eq_false e];simp only[GU,↓GQ,GS,simprocAttr,Ad Cl 168,h,t,Ad Cl 169,b]
   (refine aA (Ah ?_) ?_;first|rfl|simp[Ap,An,GZ,Ag,Ac])
   simp only[GU,↓GQ,GS,simprocAttr]
   all_goals exact Qd
 have n6:(c=99)=False:=eq_false p;by_cases c7:c=102
 ·subst c7;simp only[reduceIte,QE]at z ⊢;have b:=HC;unfold Hu Hq;by_cases e:s=[49]
  ·have t:(s=[49])=True:=eq_true e;rw[decide_eq_true e];simp only[GU,↓GQ,GS,simprocAttr,t,Ad Cl 169,b]
   (refine aA (Ah ?_) ?_;first|rfl|simp[Ap,An,GZ,Ag,Ac])
   simp only[GU,↓GQ,GS,simprocAttr]
   all_goals exact Qd
  ·have t:(s=[49])=False:=eq_false e;rw[decide_eq_false e];simp only[GU,↓GQ,GS,simprocAttr,t,Ad Cl 169,b]
   (refine aA (Ah ?_) ?_;first|rfl|simp[Ap,An,GZ,Ag,Ac])
   simp only[GU,↓GQ,GS,simprocAttr]
   all_goals exact Qd
 have n7:(c=102)=False:=eq_false c7;by_cases c8:c=108
 ·subst c8;simp only[reduceIte,QE]at z ⊢;by_cases e:s=[45]
  ·have t:(s=[45])=True:=eq_true e;rw[if_pos e]at z ⊢;have d:=HF (c:=108) x;unfold Hu Hq at d ⊢;simp only[GU,↓GQ,GS,simprocAttr,t,Ad Cl 172,d]
   (refine aA (Ah ?_) ?_;first|rfl|simp[Ap,An,GZ,Ag,Ac])
   simp only[GU,↓GQ,GS,simprocAttr]
   all_goals exact Qd
  ·have t:(s=[45])=False:=eq_false e;rw[if_neg e]at z ⊢;have d:=HF (c:=108) z;unfold Hu Hq at d ⊢;simp only[GU,↓GQ,GS,simprocAttr,t,Ad Cl 170,v,Ad Cl 172,d]
   (refine aA (Ah ?_) ?_;first|rfl|simp[Ap,An,GZ,Ag,Ac])
   simp only[GU,↓GQ,GS,simprocAttr]
   all_goals exact Qd
 have n8:(c=108)=False:=eq_false c8;by_cases c9:c=100
 ·subst c9;simp only[reduceIte,QE]at z ⊢;have b:=HC;by_cases e:s=[45]
  ·have t:(s=[45])=True:=eq_true e;have w:(s=[])=False:=eq_false (by rw[e];decide);have r:Dj true=0:=rfl;rw[if_pos e]at z ⊢;unfold Hu Hq;simp only[GU,↓GQ,GS,simprocAttr,t,w,Ad Cl 169,b,r]
   (refine aA (Ah ?_) ?_;first|rfl|simp[Ap,An,GZ,Ag,Ac])
   simp only[GU,↓GQ,GS,simprocAttr]
   all_goals exact Qd
  ·have t:(s=[45])=False:=eq_false e;rw[if_neg e]at z ⊢;unfold Hu Hq;cases hu:(EP s).isSome with
   |true=>
    rw[hu]at ia;simp only[GU,↓GQ,GS,simprocAttr,t,Ad Cl 171,ia,Ad Cl 169,b]
    (refine aA (Ah ?_) ?_;first|rfl|simp[Ap,An,GZ,Ag,Ac])
    simp only[GU,↓GQ,GS,simprocAttr]
    all_goals exact Qd
   |false=>
    rw[hu]at ia;simp only[GU,↓GQ,GS,simprocAttr,t,Ad Cl 171,ia,Ad Cl 169,b]
    (refine aA (Ah ?_) ?_;first|rfl|simp[Ap,An,GZ,Ag,Ac])
    simp only[GU,↓GQ,GS,simprocAttr]
    all_goals exact Qd
 have n9:(c=100)=False:=eq_false c9;by_cases f:c=114
 ·subst f;simp only[reduceIte,QE]at z ⊢;by_cases e:s=[45]
  ·have t:(s=[45])=True:=eq_true e;rw[if_pos e];unfold Hu Hq;simp only[GU,↓GQ,GS,simprocAttr,t]
   all_goals exact Qd
  have t:(s=[45])=False:=eq_false e;rw[if_neg e];by_cases m:s=[]
  ·have la:(s=[])=True:=eq_true m;rw[if_pos m];unfold Hu Hq;simp only[GU,↓GQ,GS,simprocAttr,t,la,Ad Cl 151,o]
   all_goals exact Qd
  ·have la:(s=[])=False:=eq_false m;rw[if_neg m];unfold Hu Hq;simp only[GU,↓GQ,GS,simprocAttr,t,la,Ad Cl 151,o]
   all_goals exact Qd
 have i:(c=114)=False:=eq_false f;by_cases g:c=107
 ·subst g;simp only[reduceIte,QE]at z ⊢;have b:=HC;unfold Hu Hq;cases hu:(EP s).isSome with
  |true=>
   rw[hu]at ia;simp only[GU,↓GQ,GS,simprocAttr,Ad Cl 171,ia,Ad Cl 169,b]
   (refine aA (Ah ?_) ?_;first|rfl|simp[Ap,An,GZ,Ag,Ac])
   simp only[GU,↓GQ,GS,simprocAttr]
   all_goals exact Qd
  |false=>
   rw[hu]at ia;simp only[GU,↓GQ,GS,simprocAttr,Ad Cl 171,ia,Ad Cl 169,b]
   (refine aA (Ah ?_) ?_;first|rfl|simp[Ap,An,GZ,Ag,Ac])
   simp only[GU,↓GQ,GS,simprocAttr]
   all_goals exact Qd
 have j:(c=107)=False:=eq_false g;simp only[c1,c2,n,u,q,p,c7,c8,c9,f,g,if_false]at z ⊢;have d:=HF (c:=c) x;unfold Hu Hq at d ⊢;simp only[GU,↓GQ,GS,simprocAttr,n1,n2,n3,n4,n5,n6,n7,n8,n9,i,j,Ad Cl 172,d]
 (refine aA (Ah ?_) ?_;first|rfl|simp[Ap,An,GZ,Ag,Ac])
 simp only[GU,↓GQ,GS,simprocAttr]
 all_goals exact Qd
def akZ:Ak:=⟨0,[],[],[],0,0,false,true,[],[],true,[],[]⟩
def Fl:Ak->Bs->List Bs->Ak×Int
 |a,[],_=>(a,0)
 |a,_::_,[]=>(akZ,4)
 |a,c::r,w::ws=>if(Eg a (c.toNat:Int) w).2≠0 then(akZ,(Eg a (c.toNat:Int) w).2)else Fl (Eg a (c.toNat:Int) w).1 r ws
def Nv(s:Bs):Ak×Int:=
 if 400<s.length then(akZ,5)
 else if opF ((splitC 32 s).getD 0 [])=0 then(akZ,22)
 else if(splitC 32 s).length≠1+(Ch (opF ((splitC 32 s).getD 0 []))).length then(akZ,4)
 else Fl {akZ with op:=opF ((splitC 32 s).getD 0 [])} (Ch (opF ((splitC 32 s).getD 0 []))) ((splitC 32 s).drop 1)
def aCw{S:GR}(j:S 109=some (Ac gO)){ls:Bs}(k:∀c∈ls,c.toNat<128)(ya:ls.length<=100){ws:List Bs}(za:∀w∈ws,w.length<=400)(hl:ws.length=1+ls.length){r:Ak×Int}{Q:Ex->St->Prop}
  (oa:∀u,r.2≠0->r.1=akZ->u.s 3= .int .i64 r.2->u.s 2= .ptr [0] 0->Ai u.m [0] 0 11=some (Hq akZ)->Q .ret u)
  (fa:∀u,r.2=0->u.s 2= .ptr [0] 0->u.s 5= .ptr [13] 0->Ai u.m [0] 0 11=some (Hq akZ)->Ai u.m [13] 0 11=some (Hq r.1)->Q (.exit 0) u):
  ∀(f p:Nat)(b:Ak) u g,ls.length=p+f->Fl b (ls.drop p) (ws.drop (p+1))=r->HB b->u.s 2= .ptr [0] 0->u.s 5= .ptr [13] 0->u.s 37= .itp [30]->u.s 4= .slice false [] (AL ws)->Ai u.m [0] 0 11=some (Hq akZ)->Ai u.m [13] 0 11=some (Hq b)->u.m [30] 1=some (.it ls p)->
   AK S [] Nn Q u g:=by
 have ma:([0]:Id)≠[30]:=Z
 have fb:([13]:Id)≠[30]:=Z
 have gb:([0]:Id)≠[13]:=Z
 intro f;induction f with
 |zero=>
  intro p b u g hf hr hb q h5 a x y sa ea;refine Af Nn.eq_1 ?_;have o:¬(p<ls.length):=O
  simp only[↓GQ,GX,simprocAttr,a,o,ea,QF];rw[List.drop_of_length_le O]at hr;simp only[Fl]at hr;subst hr;exact fa _ rfl q h5 y sa
 |succ f ih=>
  intro p b u g hf hr hb q h5 a x y sa ea;refine Af Nn.eq_1 ?_;have o:p<ls.length:=O
  have ia:ls[p]?=some ls[p]:=Qk o;have ta:ls[p]∈ls:=QG o;have v:=Oz ia (k _ ta);have i:p+1<ws.length:=O
  have n:ws[p+1]∈ws:=QG i;have bb:=za _ n;have d:(AL ws)[p+1]?=some (.str ws[p+1]):=by unfold AL;rw[QQ,Qk i];rfl
  have hR:=aGR b hb (ls[p].toNat:Int) ws[p+1] bb;have ra:=Vb hb (c:=(ls[p].toNat:Int)) bb;have pa:ls.drop p=ls[p]::ls.drop (p+1):=QN o;have l:ws.drop (p+1)=ws[p+1]::ws.drop (p+1+1):=QN i;have e1:IntKind.i64.wrap (1+(p:Int))=((p+1:Nat):Int):=Xg
  have e2:(0:Int)<=((p+1:Nat):Int):=O
  rw[pa,l]at hr;unfold Fl at hr;generalize ls[p]=c at *;generalize ws[p+1]=w at *;unfold Hu at hR;generalize Eg b (c.toNat:Int) w=z at *;obtain⟨b',e⟩:=z;simp only at hr hR ra;obtain⟨ja,ga,t⟩:=u;simp only at q h5 a x y sa ea;by_cases he:e=0
  ·subst he;rw[if_neg (λh=>h rfl)]at hr;simp only[↓GQ,GT,simprocAttr,q,h5,a,x,y,sa,v,AI ma,AI fb,Ab j,hR,BU,BV,AT,AZ,o,ea,d,e1,e2,Qp,and_self,QF,Qs,Qn]
   (refine aA (Ah ?_) ?_;first|rfl|simp[Ap,An,GZ,Ag,Ac])
   simp only[↓GQ,GT,simprocAttr,q,h5,a,x,y,sa,BU,BV,AT,AZ];refine ih (p+1) _ _ _ O hr ra q h5 a x ?_ ?_ ?_
   ·show Ai ((ga.put [30] 1 [.it ls (p+(Utf8.decode ⟨ls.toArray⟩ p).2)]).put [13] 0 (Hq b')) [0] 0 11=_;rw[AI gb,AI ma];exact y
   ·exact AM (AZ _)
   ·show GV.put (GV.put ga [30] 1 [.it ls (p+(Utf8.decode ⟨ls.toArray⟩ p).2)]) [13] 0 (Hq b') [30] 1=_;rw[aB Z,v];exact CV
  ·rw[if_pos he]at hr;have ka:(e=0)=False:=eq_false he;have hf:∀zs:List D,Bw zs []=some zs:=λ_=>rfl
   have zc:(D.agg [.int .u8 0,.str [],.str [],.str [],.int .i64 0,.int .i64 0,.bool false,.slice true [] [],.str [],.slice true [] [],.str []]).cells=Hq akZ:=rfl;simp only[↓GQ,GT,simprocAttr,q,h5,a,x,y,sa,v,AI ma,AI fb,AI gb,Ab j,hR,BU,BV,AT,AZ,o,ea,d,e1,e2,Qp,and_self,QF,Qs,Qn,ka,hf,zc]
   (refine aA (Ah ?_) ?_;first|rfl|simp[Ap,An,GZ,Ag,Ac])
   simp only[↓GQ,GT,simprocAttr,q,h5,a,x,y,sa,AI ma,AI fb,AI gb,BU,BV,AT,AZ,ka,hf,zc,Qn,and_self];subst hr;refine oa _ he rfl ?_ ?_ ?_
   ·rfl
   ·exact q
   ·exact AM (ds:=Hq akZ) rfl
def aDo:∀op:Fin 19,∀c∈Ch ((op.val:Nat):Int),c.toNat<128:=Xj
def aDm:∀op:Fin 19,(Ch ((op.val:Nat):Int)).length<=10:=Xj
def aDn{op:Int}(y:0<=op)(h:op<=18):(∀c∈Ch op,c.toNat<128)∧(Ch op).length<=10:=by
 have e:((⟨op.toNat,O⟩:Fin 19).val:Int)=op:=QR y;have u:=aDo ⟨op.toNat,O⟩;have q:=aDm ⟨op.toNat,O⟩;rw[e]at u q;exact⟨u,q⟩
def aFy{op:Int}(y:0<=op)(h:op<=18):HB {akZ with op:=op}:=⟨y,Xb,Qm _,Qm _,Qm _,Qm _,Qm _,Qm _,(λr j=>by cases j),Qm _⟩
def LU:=Az [(106,Ac DT),(107,Ac aGT),(108,Ac aAd),(109,Ac gO)]
def aG4:=RF LU aEW [.cell (some 11) 2,.t 3] 58
def aSw:Kq aG4 51:=Av (Al func51) (Aa aIQ (Aa aSo (Aa pW (Aa aSn Ae))))
def gU(s:Bs)(hl:s.length<=1000000):aG4 [.str s]=some (.tup [Hu (Nv s).1,.int .i64 (Nv s).2]):=by
 refine Aq (Qh rfl) ?_;have c:LU 109=some (Ac gO):=rfl;unfold aEW;have hz:D.cells (.agg (Hq akZ))=Hq akZ:=rfl;unfold Nv Hu;by_cases x:400<s.length
 ·rw[if_pos x];have p:((400:Int)<(s.length:Int))=True:=eq_true O;simp only[GU,↓GQ,GS,reduceIte,Ql,Qo,Zn,Zh,QX,reduceCtorEq,QE,Zo,ZC,Ze,p]
  all_goals exact Qd
 rw[if_neg x];have p:((400:Int)<(s.length:Int))=False:=eq_false O;have i:=OD (s:=s) (q:=32) O;have f:=NU (q:=32) s;have ua:=EK (q:=32) s;have ya:=CB (q:=32) s;generalize splitC 32 s=ws at *;obtain⟨w0,wr,rfl⟩:∃a b,ws=a::b:=by cases ws with|nil=>exact absurd rfl f|cons a b=>exact⟨a,b,rfl⟩
 have hg:(w0::wr).getD 0 []=w0:=rfl;rw[hg];have d:=aGS w0;obtain⟨b1,b2⟩:=aMr w0;have o:=Re b1 O;obtain⟨f1,f2⟩:=aDn b1 b2;have ia:(AL (w0::wr))[(0:Int).toNat]?=some (.str w0):=rfl;have g:((AL (w0::wr)).length:Int)=((w0::wr).length:Int):=by rw[Bb]
 have bb:∀w∈w0::wr,w.length<=400:=λw t=>by have:=ua w t;omega
 generalize opF w0=op at *;by_cases n:op=0
 ·subst n;rw[if_pos rfl];simp only[GU,↓GQ,GS,reduceIte,Ql,Qo,Zn,Zh,QX,reduceCtorEq,QE,Zo,ZC,Ze,p,Ad LU 106,i,ia,Ad LU 107,d]
  all_goals exact Qd
 rw[if_neg n];have ab:(op=0)=False:=eq_false n;have oa:IntKind.i64.wrap (1+((Ch op).length:Int))=((1+(Ch op).length:Nat):Int):=Xg
 by_cases v:(w0::wr).length≠1+(Ch op).length
 ·rw[if_pos v];have ra:(((w0::wr).length:Int)=((1+(Ch op).length:Nat):Int))=False:=eq_false (λe=>v O);simp only[GU,↓GQ,GS,reduceIte,Ql,Qo,Zn,Zh,QX,reduceCtorEq,QE,Zo,ZC,Ze,p,Ad LU 106,i,ia,Ad LU 107,d,ab,Ad LU 108,o,g,oa,ra]
  all_goals exact Qd
 rw[if_neg v];have v:=Decidable.not_not.1 v;have ra:(((w0::wr).length:Int)=((1+(Ch op).length:Nat):Int))=True:=eq_true (by rw[v]);simp only[GU,↓GQ,GS,reduceIte,Ql,Qo,Zn,Zh,QX,reduceCtorEq,QE,Zo,ZC,Ze,p,Ad LU 106,i,ia,Ad LU 107,d,ab,Ad LU 108,o,g,oa,ra];generalize j:Fl {akZ with op:=op} (Ch op) ((w0::wr).drop 1)=r;refine aCw (r:=r) c f1 O bb v (λu y ka k h2 hm=>?_) (λu y h2 h5 hm sa=>?_) (Ch op).length 0 {akZ with op:=op} _ _ O j (aFy b1 b2) rfl rfl rfl rfl ?_ ?_ ?_
 ·rw[ka];simp only[↓GQ,GT,simprocAttr,Iv,AY,h2,k,hm,Zl,BU,BV]
  all_goals exact Qd
 ·rw[y];have z:∀(m:GV)(a:Ak),Ai (m.put [0] 0 (Hq a)) [0] 0 11=some (Hq a):=λm a=>AM (AZ a)
  simp only[↓GQ,GT,simprocAttr,h2,h5,hm,sa,BU,BV,AT,AZ,Qn,and_self,Iv,AY,z,Zl]
  all_goals exact Qd
 ·simp (disch:=decide)only[AI];exact AM (ds:=Hq akZ) rfl
 ·simp (disch:=decide)only[AI];exact AM (ds:=Hq {akZ with op:=op}) rfl
 ·rfl
def UF:=Az [(111,Ac R19),(112,Ac UO)]
def aGV:=RF UF aEO [.cell (some 9) 4] 21
def aSp:Kq aGV 53:=Av (Al func53) (Aa bAo (Aa aRc Ae))
def zV.trS{t:Tr}{room:Int}(h:zV t room):TrS t:=⟨by have:=h.len;rw[Tr.cnt_lst]at *;omega,λx f=>⟨Qr (h.key x f) Z,Qr (h.val x f) Z⟩⟩
def zV.cnt{t:Tr}{room:Int}(h:zV t room):t.cnt<=1945:=by have:=h.len;rw[Tr.cnt_lst]at *;exact this
def EE(o:Oc):(Mm o).length=9:=rfl
def Hi{m:GV}{i j o:Nat}{x:List D}{n:Nat}(h:j≠i):Ai (m.put [i] 0 x) [j] o n=Ai m [j] o n:=AI (by simp[h])
def aCv{m:Md}(hm:MdI m){a:Ak}{y:Kn->Oc}(X:Lc m.vw a y){R:Kn->Nat}(hR:∀k d,I8 k->(y k).need≠[]->R (Bv k (y k).need (y k).li d)<R k){o:Oc}{Q:Ex->St->Prop}
  (oa:∀ca,Ai ca.m [2] 0 9=some (Mm o)->ca.s 4= .ptr [2] 0->Q .ret ca):
  ∀(f j:Nat)(k:Kn)(x:St) g,KnJ k j->j+f<=20->R k<=f->jA y m.tr f k=o->4<=x.c->x.s 2= .ptr [0] 0->x.s 3= .ptr [1] 0->x.s 4= .ptr [2] 0->x.s 5= .ptr [3] 0->
   Ai x.m [0] 0 5=some (HG m.vw)->Ai x.m [0] 5 1=some [Hh m.tr]->Ai x.m [1] 0 11=some (Hq a)->(∃z,Ai x.m [2] 0 9=some z)->Ai x.m [3] 0 5=some (Ie k)->AK UF [] Nl Q x g:=by
 intro f;induction f with
 |zero=>
  intro j k x g hk hj hr ho hc h2 h3 h4 h5 m0 n m1 ⟨z,m2⟩ m3;have u:=hk.ok O;have hn:(y k).need=[]:=by
   by_cases hn:(y k).need=[]
   ·exact hn
   ·have:=hR k (Gb m.tr []) u hn;omega
  have ma:=X.run k u;have v:UF 111=some (Ac R19):=rfl;have p:UF 112=some (Ac UO):=rfl;unfold HN Hu at ma;refine Af Nl.eq_1 ?_;obtain⟨ja,ga,da⟩:=x;simp only at hc h2 h3 h4 h5 m0 n m1 m2 m3;have zc:(D.agg (Mm (y k))).cells=Mm (y k):=rfl;have zu:(D.agg (Mm (y k))).un1=D.agg (Mm (y k)):=rfl;have zn:(D.agg (Mm (y k))).un=D.agg (Mm (y k)):=rfl;have zd:(D.agg (Mm (y k))).data=true:=rfl;have zm:(D.agg (Mm (y k))).calm=true:=rfl;have z9:∀{m:GV} {i:Id} {a b c d e f g h j:D},Ai (m.put i 0 [a,b,c,d,e,f,g,h,j]) i 0 9=some [a,b,c,d,e,f,g,h,j]:=AM rfl;have zo:∀{m:GV} {i:Id},Ai (m.put i 0 (Mm (y k))) i 0 9=some (Mm (y k)):=AM (EE _);have z0:∀{m:GV} {i:Id},m.put i 0 (Mm (y k)) i 0=some (.str (y k).need):=A_ (k:=0) (AM (EE _)) rfl;simp only[HG,Ie]at ma m0 m3;unfold jA at ho;have ra:((y k).need=[])=True:=eq_true hn;simp (disch:=first|assumption|omega)only[↓GQ,GT,simprocAttr,h2,h3,h4,h5,m0,n,m1,m2,m3,Ab v,ma,zc,ra,BU,BV,AT,AZ,EE,z9,zo,z0,Hi,Qn,and_self,zu,zd,zm,zn];subst ho;exact oa _ (AM (EE _)) h4
 |succ f ih=>
  intro j k x g hk hj hr ho hc h2 h3 h4 h5 m0 n m1 ⟨z,m2⟩ m3;have u:=hk.ok O;have ma:=X.run k u;have v:UF 111=some (Ac R19):=rfl;have p:UF 112=some (Ac UO):=rfl;unfold HN Hu at ma;refine Af Nl.eq_1 ?_;obtain⟨ja,ga,da⟩:=x;simp only at hc h2 h3 h4 h5 m0 n m1 m2 m3;have zc:(D.agg (Mm (y k))).cells=Mm (y k):=rfl;have zu:(D.agg (Mm (y k))).un1=D.agg (Mm (y k)):=rfl;have zn:(D.agg (Mm (y k))).un=D.agg (Mm (y k)):=rfl;have zd:(D.agg (Mm (y k))).data=true:=rfl;have zm:(D.agg (Mm (y k))).calm=true:=rfl;have z9:∀{m:GV} {i:Id} {a b c d e f g h j:D},Ai (m.put i 0 [a,b,c,d,e,f,g,h,j]) i 0 9=some [a,b,c,d,e,f,g,h,j]:=AM rfl;have zo:∀{m:GV} {i:Id},Ai (m.put i 0 (Mm (y k))) i 0 9=some (Mm (y k)):=AM (EE _);have z0:∀{m:GV} {i:Id},m.put i 0 (Mm (y k)) i 0=some (.str (y k).need):=A_ (k:=0) (AM (EE _)) rfl;simp only[HG,Ie]at ma m0 m3;unfold jA at ho;by_cases hn:(y k).need=[]
  ·rw[if_pos hn]at ho;have ra:((y k).need=[])=True:=eq_true hn;simp (disch:=first|assumption|omega)only[↓GQ,GT,simprocAttr,h2,h3,h4,h5,m0,n,m1,m2,m3,Ab v,ma,zc,ra,BU,BV,AT,AZ,EE,z9,zo,z0,Hi,Qn,and_self,zu,zd,zm,zn];subst ho;exact oa _ (AM (EE _)) h4
  ·rw[if_neg hn]at ho;have ra:((y k).need=[])=False:=eq_false hn;have w:=hR k (Gb m.tr (y k).need) u hn;have ea:=hk.learn hm.tr (y k).need (y k).li;have l:=aG8 (k:=k) (q:=(y k).need) (li:=(y k).li) (r:=[.str (y k).rep,.slice (y k).nl [] (opsD (y k).ops)]++HG (y k).vw) (t:=m.tr) ⟨Qr u.es Z,Qr u.ls Z,rfl,hm.tr.trS,(by obtain⟨q,e⟩:=X.nd k u hn;rw[e];rfl)⟩;generalize Bv k (y k).need (y k).li (Gb m.tr (y k).need)=k' at ho w ea l;have l:UO [.agg (Ie k),.agg (Mm (y k)),.agg [Hh m.tr]]=some (.agg (Ie k')):=l;simp only[Ie]at l;have z5:∀{m:GV} {i:Id} {a b c d e:D},Ai (m.put i 0 [a,b,c,d,e]) i 0 5=some [a,b,c,d,e]:=AM rfl;simp (disch:=first|assumption|omega)only[↓GQ,GT,simprocAttr,h2,h3,h4,h5,m0,n,m1,m2,m3,Ab v,ma,zc,ra,BU,BV,AT,AZ,EE,z9,zo,z0,Hi,Qn,and_self,zu,zd,zm,zn,Ab p,l,GY,z5];refine ih (j+1) k' _ _ ea O O ho Xb h2 h3 h4 h5 ?_ ?_ ?_ ⟨z,?_⟩ ?_
   ·simp (disch:=omega)only[Hi];exact m0
   ·simp (disch:=omega)only[Hi];exact n
   ·simp (disch:=omega)only[Hi];exact m1
   ·simp (disch:=omega)only[Hi];exact m2
   ·exact AM rfl
def aGU{m:Md}(r:MdI m){a:Ak}{v:Kn->Oc}(X:Lc m.vw a v):aGV [.agg (Hy m),Hu a]=some (.agg (Mm (IB v m))):=by
 refine Aq (Qh rfl) ?_;unfold aEO;unfold Hy Hu;have j:D.cells (.agg (Hy m))=Hy m:=rfl;obtain⟨R,d,g⟩:=X.term;simp only[GU,↓GQ,GS,simprocAttr,j];refine aCv r X g (o:=IB v m) (λx w t=>?_) 4 0 kn0 _ _ aM4 Z (Qr (d _) Z) rfl (Qj _) rfl rfl rfl rfl ?_ ?_ ?_ ⟨[.str [],.bool false,.str [],.slice true [] [],.bool false,.int .i64 0,.str [],.slice true [] [],.slice true [] []],?_⟩ ?_
 ·simp only[↓GQ,GT,simprocAttr,Bo,AY,t,w,Zl]
  all_goals exact Qd
 ·simp (disch:=decide)only[AI];exact jE (cs:=Hy m) (n:=7) (AM rfl) Z
 ·simp (disch:=decide)only[AI];exact jE (cs:=Hy m) (n:=7) (AM rfl) Z
 ·simp (disch:=decide)only[AI];exact AM (AZ a)
 ·simp (disch:=decide)only[AI];exact AM rfl
 ·exact AM rfl
def DF:GR:=Az [(51,Ac aG4),(52,Ac aLh),(53,Ac aGV),(8,Ac gR),(13,Ac O6)]
def FJ:List D->Option D:=RF DF SB [.cell (some 7) 4,.t 5] 53
def aSx:Kq FJ 17:=Av (Al func17:Fn Qq 17 53 SB [.cell (some 7) 4,.t 5]) (Aa aSw (Aa aM3 (Aa aSp (Aa aCU (Aa RJ Ae)))))
def aLj{m:Md}(h:m.room=0)(s:Bs):FJ [.agg (Hy m),.str s]=some (.tup [.agg (Hy m),.str []]):=by
 refine Aq (Qh rfl) ?_;unfold SB;have y:(m.room=0)=True:=eq_true h;simp only[Hy,HG,QO,QJ];simp (disch:=first|assumption|omega)only[GU,↓GQ,GS,simprocAttr,GY,y]
 all_goals exact Qd
def aLk{m:Md}(h:m.room≠0){s:Bs}{e:Int}(hl:s.length<=1000000)(q:(Nv s).2=e)(d:1<=e∧e<=99):FJ [.agg (Hy m),.str s]=some (.tup [.agg (Hy m),.str (NM (.fail e))]):=by
 refine Aq (Qh rfl) ?_;unfold SB;have y:(m.room=0)=False:=eq_false h;have o:=gU s hl;rw[q]at o;have c:=Wo e d;have p:(e=0)=False:=eq_false O;unfold Hu at o;generalize (Nv s).1=a at o;have n:D.cells (.agg (Hq a))=Hq a:=rfl;have v:∀{m:GV} {i:Id},Ai (m.put i 0 (Hq a)) i 0 11=some (Hq a):=AM (AZ a);have b:∀{m:GV} {i:Id} {xs:List D},xs.length=11->(Ai (m.put i 0 xs) i 0 11).isSome=true:=λh=>by rw[Ht h];rfl
 simp only[Hy,HG,QO,QJ];simp (disch:=first|assumption|omega)only[GU,↓GQ,GS,simprocAttr,GY,y,Ad DF 51,o,n,BU,BV,AT,AZ,p,Ad DF 52,c]
 (refine aA (Ah ?_) ?_;first|rfl|simp[Ap,An,GZ,Ag,Ac])
 simp (disch:=first|assumption|omega)only[GU,↓GQ,GS,simprocAttr,GY,y,Ad DF 51,o,n,BU,BV,AT,AZ,p,Ad DF 52,c]
 all_goals exact Qd
def pR:∀(l:List Op1){t:Tr},Tr.Ord t.lst->(CW l t).cnt<=l.length+t.cnt
 |[],t,_=>by simp[CW]
 |x::r,t,h=>by
  have u:=(cE x h).1;have q:=pR r (Lk x h).1;simp only[CW,Qi];omega
def W5:∀l:List (Bs×Bs),(∀x∈l,x.1.length<=100∧x.2.length<=400)->Tr.sizeL l<=504*l.length
 |[],_=>by simp[Tr.sizeL]
 |x::l,h=>by
  have u:=h x QB;have:=W5 l λy d=>h y (QL _ d)
  simp only[Tr.sizeL,QP,Zj,Qi]at this ⊢;omega
def xQ{v:Vw}{a:Ak}{o:Oc}(h:Mk v a o):aAn o.ops:=by
 obtain⟨y,_,_,_,⟨_,e,_⟩|⟨_,⟨_,e,_⟩|⟨_,_,e,_⟩⟩⟩:=h
 ·rw[e];exact⟨U,λx f=>Xv⟩
 ·rw[e];exact⟨U,λx f=>Xv⟩
 ·exact e
def aIa{t:Tr}{room:Int}(h:zV t room){l:List Op1}(hl:aAn l):TrS (CW l t):=by
 obtain⟨u,q⟩:=Vp l h.ord;have d:=pR l h.ord;have o:=h.cnt;have k:=hl.n;refine⟨O,λx f=>?_⟩;rcases q x f with h6|⟨z,j,_,rfl⟩
 ·exact⟨Qr (h.key x h6) Z,Qr (h.val x h6) Z⟩
 ·exact⟨Qr (hl.ok z j).1.1 Z,Qr (hl.ok z j).1.2.1 Z⟩
def Wq{m:Md}(h:m.room≠0){s:Bs}(hl:s.length<=1000000){a:Ak}(he:Nv s=(a,0)){v:Kn->Oc}(r:MdI m)(X:Lc m.vw a v):FJ [.agg (Hy m),.str s]=some (.tup [.agg (Hy (IW m (IB v m)).1),.str (IW m (IB v m)).2]):=by
 refine Aq (Qh rfl) ?_;unfold SB;have y:(m.room=0)=False:=eq_false h;have z:=gU s hl;rw[he]at z;have f:=aGU r X;obtain⟨hn,k,j,ho⟩:=jN r X;have b:aAn (IB v m).ops:=xQ (by rw[ho];exact X.rep k j (by rw[←ho];exact hn));have w:=aIa r.tr b;have q:=Gt w;have i:=gP m.tr (IB v m).nl (IB v m).ops (Qr b.n Z) (λx p=>⟨Qr (b.ok x p).1.1 Z,Qr (b.ok x p).1.2.1 Z⟩) r.tr.ord (by have:=r.tr.cnt;have:=b.n;omega) (by
  have u:=W5 m.tr.lst λx p=>⟨r.tr.key x p,r.tr.val x p⟩
  rw[←Tr.wgt_lst]at u;have:=r.tr.len;have:=b.n;omega)
 have c:=Wo 7 Z;generalize IB v m=o at *;have d:(opsD o.ops).length=o.ops.length:=QC ..;unfold IW;generalize CW o.ops m.tr=T at *;unfold Hu at z f;simp only[Hy,HG,Mm,Hq,QO,QJ]at z f ⊢;by_cases g:o.ops=[]
 ·rw[if_neg (λh=>h.1 g)];have c1:((0:Int)<(o.ops.length:Int))=False:=by rw[g];simp
  repeat' (first|(refine aA (Ah ?_) ?_;first|rfl|simp[Ap,An,GZ,Ag,Ac])|simp (disch:=first|assumption|omega)only[GU,↓GQ,GS,simprocAttr,GY,y,Ad DF 51,z,Ad DF 53,f,Ad DF 8,i,Ad DF 13,q,Ad DF 52,c,d,c1])
 ·have c1:((0:Int)<(o.ops.length:Int))=True:=eq_true (by have:o.ops.length≠0:=λe=>g (List.length_eq_zero_iff.1 e);omega);by_cases t:m.room<(Tr.weighL T.lst:Int)
  ·rw[if_pos ⟨g,t⟩];have c2:(m.room<(Tr.weighL T.lst:Int))=True:=eq_true t
   repeat' (first|(refine aA (Ah ?_) ?_;first|rfl|simp[Ap,An,GZ,Ag,Ac])|simp (disch:=first|assumption|omega)only[GU,↓GQ,GS,simprocAttr,GY,y,Ad DF 51,z,Ad DF 53,f,Ad DF 8,i,Ad DF 13,q,Ad DF 52,c,d,c1,c2])
  ·rw[if_neg (λh=>t h.2)];have c2:(m.room<(Tr.weighL T.lst:Int))=False:=eq_false t
   repeat' (first|(refine aA (Ah ?_) ?_;first|rfl|simp[Ap,An,GZ,Ag,Ac])|simp (disch:=first|assumption|omega)only[GU,↓GQ,GS,simprocAttr,GY,y,Ad DF 51,z,Ad DF 53,f,Ad DF 8,i,Ad DF 13,q,Ad DF 52,c,d,c1,c2])
end Go.Vd
end
