/- A part of the proof; nothing in it is assumed. -/
import Derived.Test.YtglcjfimdoldbaaGreatDoorMRestoresP4
import Derived.Deep.Fields

set_option linter.unusedSimpArgs false
set_option linter.unusedVariables false
set_option linter.defProp false
set_option maxHeartbeats 4000000
set_option maxRecDepth 100000
open Int renaming toNat_natCast→Qh,eq_ofNat_of_zero_le→QG,fdiv_eq_ediv_of_nonneg→Zk,toNat_zero→Zl,cast_ofNat_Int→Zm,le_refl→Zp,reduceLE→Zz,toNat_one→ZJ,natCast_nonneg→ZO,reduceLT→ZS,reduceToNat→Z0
open List renaming getElem?_eq_getElem→Qi,length_cons→Qm,mem_cons_self→Qp,mem_cons_of_mem→Qq,drop_zero→Qr,mem_cons→Qs,head?_cons→Qt,mem_singleton→Qw,getElem?_cons_succ→Qx,take_append_drop→Qy,nil_append→QB,getElem?_cons_zero→QC,cons_append→QD,length_map→QF,pairwise_cons→QH,drop_eq_getElem_cons→QJ,getElem_of_mem→QK,length_nil→QL,length_append→QN,mem_append→QP,filter_cons→QQ,append_nil→QR,map_append→QS,getElem?_map→QT,append_assoc→QU,filter_sublist→QV,mem_filter→QW,take_add_one→QY,getElem?_append_right→QZ,getD→Q_,getElem?_append_left→Q1,take_succ_cons→Q3,length_eq_zero_iff→Q6,findIdx?_eq_some_iff_getElem→Q7,map_nil→Q8,drop_eq_nil_of_le→Q9,drop_drop→Za,length_pos_of_mem→Zd,mem_of_getElem?→Ze,range_eq_range'→Zf,drop_succ_cons→Zh,mem_map→Zi,drop_left→Zj,pairwise_iff_getElem→Zo,map_cons→Zr,length_erase_of_mem→Zu,getElem_mem→Zv,length_take→Zw,take_zero→ZB,mem_of_mem_drop→ZC,pairwise_append→ZE,mem_of_mem_take→ZF,mem_erase_of_ne→ZI,filter_append→ZM,drop_sublist→ZQ,any_eq_false→ZR,all_eq_true→ZU,length_drop→ZW,isEmpty_iff→ZY,nodup_cons→Z1,all_nil→Z5,length→Z6,take→Z8
open Nat renaming le_of_ble_eq_true→Qj,zero_le→Qo,reduceAdd→Qu,le_refl→Qv,le_trans→QA,reduceEqDiff→QE,reduceLT→Zb,eq_zero_or_pos→Zn,reduceSub→Zs,reduceLeDiff→Zx,lt_or_ge→Zy,mul_le_mul_right→ZH,lt_or_eq_of_le→ZP,le_of_lt_succ→ZT,mod_eq_of_lt→ZV,zero_testBit→Z_,lt_irrefl→Z2,mul_comm→Z4,land→Z7,decEq→Z9
open Option renaming isSome_some→Qk,map_eq_some_iff→QI,getD_some→Q0,map_some→ZA,bind_some→ZX
open Option.some renaming injEq→Ql,inj→QM
open Array renaming getElem?_eq_some_iff→Qn,getD_eq_getD_getElem?→QX,getElem?_eq_getElem→Q2
open Go.Proofs.Tryz renaming prog→Qz
open Bool renaming and_eq_true→QO,false_ne_true→Q5,false_and→Zc,eq_iff_iff→Zg,eq_false_iff→Zq,true_and→Zt,and_false→ZD,not_false→ZG,false_eq_true→ZN,or_true→Z3
open List.cons renaming injEq→Q4,inj→ZK
open Prod.mk renaming injEq→ZL
open Prod renaming ext→X4
open Go.Proofs.Tryz
noncomputable section
namespace Go.Vd
open Go.Proofs Go.RowKit
def bAH:=Az []
def aKz:=RF bAH eQ [.t 4] 26
def aWW:Kq aKz 291:=Av aNe Ae
def qE{S:GR}{l:List Rl}{nl nl':Bool}{Q:Ex->St->Prop}(hl:l.length<=1000000)(k:∀o,Q (.exit 0) o):
  ∀(f j:Nat)(z:St) g,l.length=j+f->z.s 0= .slice nl [] (Am l)->z.s 1= .slice nl' [] (Am l)->z.s 12= .int .i64 (l.length:Int)->z.s 13= .int .i64 (j:Int)->AK S [] HQ Q z g
 |0,j,z,g,hf,h0,h1,h12,h13=>by
  refine Af HQ.eq_1 ?_;have d1:((j:Int)<l.length)=False:=eq_false O;simp only[GU,↓GQ,GS,simprocAttr,h12,h13,d1];exact k _
 |f+1,j,z,g,hf,h0,h1,h12,h13=>by
  have ih:=qE (S:=S) (nl:=nl) (nl':=nl') hl k f (j+1);refine Af HQ.eq_1 ?_;have d1:((j:Int)<l.length)=True:=eq_true O;have w:j<l.length:=O
  have p:(Am l)[j]?=some (bP l[j]):=by unfold Am;rw[QT,Qi w];rfl
  unfold bP at p;generalize l[j]=x at p;obtain⟨u,d,r⟩:=z;simp only at h0 h1 h12 h13;have q:=nJ (j:=j);have b:IntKind.i64.wrap ((j:Int)+1)=((j+1:Nat):Int):=Hg O O
  repeat' (first|(refine aA (Ah ?_) ?_;first|rfl|simp[Ap,An,GZ,Ag,Ac])|simp only[GU,↓GQ,GS,simprocAttr,h0,h1,h12,h13,d1,q,Qh,p,b,ER,AW,Dt,QC,Qx,beq_self_eq_true,bne_self_eq_false])
  exact ih _ _ O h0 h1 h12 rfl
def aKy(nl nl':Bool)(l:List Rl)(hl:l.length<=1000000):aKz [.slice nl [] (Am l),.slice nl' [] (Am l)]=some (.bool true):=by
 refine Aq (Qj rfl) ?_;unfold eQ;have y:=Ay l;simp only[GU,↓GQ,GS,simprocAttr,y,bne_self_eq_false];refine qE (nl:=nl) (nl':=nl') hl (λo=>?_) l.length 0 _ _ O rfl rfl rfl rfl;simp only[GU,↓GQ,GS,simprocAttr]
 all_goals exact Qd
def aZh:=Az []
def aGM:=RF aZh aED [.t 4] 26
def aSg:Kq aGM 189:=Av (Al func189) Ae
def cY{S:GR}{l:List Mt}{nl nl':Bool}{Q:Ex->St->Prop}(hl:l.length<=1000000)(k:∀o,Q (.exit 0) o):
  ∀(f j:Nat)(z:St) g,l.length=j+f->z.s 0= .slice nl [] (Ax l)->z.s 1= .slice nl' [] (Ax l)->z.s 12= .int .i64 (l.length:Int)->z.s 13= .int .i64 (j:Int)->AK S [] Nd Q z g
 |0,j,z,g,hf,h0,h1,h12,h13=>by
  refine Af Nd.eq_1 ?_;have d1:((j:Int)<l.length)=False:=eq_false O;simp only[GU,↓GQ,GS,simprocAttr,h12,h13,d1];exact k _
 |f+1,j,z,g,hf,h0,h1,h12,h13=>by
  have ih:=cY (S:=S) (nl:=nl) (nl':=nl') hl k f (j+1);refine Af Nd.eq_1 ?_;have d1:((j:Int)<l.length)=True:=eq_true O;have w:j<l.length:=O
  have p:(Ax l)[j]?=some (HI l[j]):=by unfold Ax;rw[QT,Qi w];rfl
  unfold HI at p;generalize l[j]=x at p;obtain⟨u,d,r⟩:=z;simp only at h0 h1 h12 h13;have q:=nJ (j:=j);have b:IntKind.i64.wrap ((j:Int)+1)=((j+1:Nat):Int):=Hg O O
  repeat' (first|(refine aA (Ah ?_) ?_;first|rfl|simp[Ap,An,GZ,Ag,Ac])|simp only[GU,↓GQ,GS,simprocAttr,h0,h1,h12,h13,d1,q,Qh,p,b,ER,AW,Dt,QC,Qx,beq_self_eq_true,bne_self_eq_false])
  exact ih _ _ O h0 h1 h12 rfl
def aGL(nl nl':Bool)(l:List Mt)(hl:l.length<=1000000):aGM [.slice nl [] (Ax l),.slice nl' [] (Ax l)]=some (.bool true):=by
 refine Aq (Qj rfl) ?_;unfold aED;have y:=AC l;simp only[GU,↓GQ,GS,simprocAttr,y,bne_self_eq_false];refine cY (nl:=nl) (nl':=nl') hl (λo=>?_) l.length 0 _ _ O rfl rfl rfl rfl;simp only[GU,↓GQ,GS,simprocAttr]
 all_goals exact Qd
def aTl:=Az [(291,Ac aKz)]
def aKU:=RF aTl eS [.t 4] 8
def aXf:Kq aKU 219:=Av aNj (Aa aWW Ae)
def aKT(nl nl':Bool)(l:List Rl)(hl:l.length<=1000000):aKU [.slice nl [] (Am l),.slice nl' [] (Am l)]=some (.bool true):=by
 refine Aq (Qj rfl) ?_;unfold eS;have a:=aKy nl nl' l hl;simp only[GU,↓GQ,GS,simprocAttr,Ad aTl 291,a]
 all_goals exact Qd
def aFO:=Az [(219,Ac aKU)]
def O4:=RF aFO lT [.t 4] 24
def aCS:Kq O4 153:=Av (Al func153) (Aa aXf Ae)
def aGI(k:Tk)(hl:k.2.2.2.length<=1000000):O4 [HD k,HD k]=some (.bool true):=by
 refine Aq (Qj rfl) ?_;unfold lT;have c:=aKT k.2.2.1 k.2.2.1 k.2.2.2 hl;unfold HD;simp only[GU,↓GQ,GS,simprocAttr,Ad aFO 219,c,beq_self_eq_true]
 all_goals exact Qd
def aP6:=Az [(189,Ac aGM)]
def aG0:=RF aP6 aER [.t 4] 10
def aSs:Kq aG0 113:=Av (Al func113) (Aa aSg Ae)
def aGZ(nl nl':Bool)(l:List Mt)(hl:l.length<=1000000):aG0 [.agg [.slice nl [] (Ax l)],.agg [.slice nl' [] (Ax l)]]=some (.bool true):=by
 refine Aq (Qj rfl) ?_;unfold aER;have a:=aGL nl nl' l hl;simp only[GU,↓GQ,GS,simprocAttr,Ad aP6 189,a]
 all_goals exact Qd
def aP0:=Az [(153,Ac O4)]
def aGK:=RF aP0 aEC [.t 6] 32
def aSf:Kq aGK 190:=Av (Al func190) (Aa aCS Ae)
def cX{S:GR}(t:S 153=some (Ac O4)){l:List Tk}{nl nl':Bool}{Q:Ex->St->Prop}(hl:l.length<=1000000)(u:∀k∈l,k.2.2.2.length<=1000000)(y:∀o,Q (.exit 0) o):
  ∀(f j:Nat)(z:St) g,l.length=j+f->z.s 1= .slice nl' [] (Au l)->z.s 15= .slice nl [] (Au l)->z.s 2= .fn 153 []->z.s 16= .int .i64 (l.length:Int)->z.s 17= .int .i64 (j:Int)->AK S [] Nc Q z g
 |0,j,z,g,hf,h1,h15,h2,h16,h17=>by
  refine Af Nc.eq_1 ?_;have d1:((j:Int)<l.length)=False:=eq_false O;simp only[GU,↓GQ,GS,simprocAttr,h16,h17,d1];exact y _
 |f+1,j,z,g,hf,h1,h15,h2,h16,h17=>by
  have ih:=cX t (nl:=nl) (nl':=nl') hl u y f (j+1);refine Af Nc.eq_1 ?_;have d1:((j:Int)<l.length)=True:=eq_true O;have w:j<l.length:=O
  have p:(Au l)[j]?=some (HD l[j]):=by unfold Au;rw[QT,Qi w];rfl
  have v:=aGI l[j] (u _ (Zv w));unfold HD at p v;generalize l[j]=x at p v;obtain⟨ja,d,r⟩:=z;simp only at h1 h15 h2 h16 h17;have q:=nJ (j:=j);have oa:IntKind.i64.wrap ((j:Int)+1)=((j+1:Nat):Int):=Hg O O;have e:∀{m:GV} {i:Id} {a b c:D},Ai (m.put i 0 [a,b,c]) i 0 3=some [a,b,c]:=AM rfl;have zz:∀{m:GV} {i j:Nat} {x:List D} {n:Nat},j≠i->Ai (m.put [i] 0 x) [j] 0 n=Ai m [j] 0 n:=λh=>AI (by simp[h])
  simp (disch:=first|assumption|omega)only[↓GQ,GT,simprocAttr,h1,h15,h2,h16,h17,d1,q,Qh,p,oa,e,zz,Ab t,v,Qk,and_self,Q3,ZB];exact ih _ _ O h1 h15 h2 h16 rfl
def aGJ(nl nl':Bool)(l:List Tk)(hl:l.length<=1000000)(s:∀k∈l,k.2.2.2.length<=1000000):aGK [.slice nl [] (Au l),.slice nl' [] (Au l),.fn 153 []]=some (.bool true):=by
 refine Aq (Qj rfl) ?_;have a:aP0 153=some (Ac O4):=rfl;unfold aEC;have y:(Au l).length=l.length:=QF ..;simp only[GU,↓GQ,GS,simprocAttr,y,bne_self_eq_false];refine cX a (nl:=nl) (nl':=nl') hl s (λo=>?_) l.length 0 _ _ O rfl rfl rfl rfl rfl;simp only[GU,↓GQ,GS,simprocAttr]
 all_goals exact Qd
def aP5:=Az [(190,Ac aGK)]
def aGY:=RF aP5 aEQ [.t 4] 10
def aSr:Kq aGY 114:=Av (Al func114) (Aa aSf Ae)
def aGX(nl nl':Bool)(l:List Tk)(hl:l.length<=1000000)(s:∀k∈l,k.2.2.2.length<=1000000):aGY [.agg [.slice nl [] (Au l)],.agg [.slice nl' [] (Au l)]]=some (.bool true):=by
 refine Aq (Qj rfl) ?_;unfold aEQ;have a:=aGJ nl nl' l hl s;simp only[GU,↓GQ,GS,simprocAttr,Ad aP5 190,a]
 all_goals exact Qd
def aFP:=Az [(113,Ac aG0),(114,Ac aGY)]
def aGQ:=RF aFP aEK [.t 4] 38
def aSm:Kq aGQ 54:=Av (Al func54) (Aa aSs (Aa aSr Ae))
def gN(v:Vw)(r:v.ms.length<=1000000)(hl:v.ks.length<=1000000)(s:∀k∈v.ks,k.2.2.2.length<=1000000):aGQ [HN v,HN v]=some (.bool true):=by
 refine Aq (Qj rfl) ?_;unfold aEK;have b:=aGZ v.nlm v.nlm v.ms r;have a:=aGX v.nlt v.nlt v.ks hl s;simp only[HN,HG];simp only[GU,↓GQ,GS,simprocAttr,Ad aFP 113,b,Ad aFP 114,a,beq_self_eq_true]
 all_goals exact Qd
def fW:=Az [(54,Ac aGQ),(55,Ac tZ)]
def S8:=RF fW lU [.t 4] 24
def aSv:Kq S8 18:=Av (Al func18) (Aa aSm (Aa aRd Ae))
def tU(m:Md)(r:m.vw.ms.length<=1000000)(hl:m.vw.ks.length<=1000000)(s:∀k∈m.vw.ks,k.2.2.2.length<=1000000)(u:Tr.Ord m.tr.lst)(g:m.tr.cnt<=400000):S8 [.agg (Hy m),.agg (Hy m)]=some (.bool true):=by
 refine Aq (Qj rfl) ?_;unfold lU;have a:=gN m.vw r hl s;have d:=aLm u g;simp only[Hy,HN,HG,QD,QB]at a ⊢;simp (disch:=first|assumption|omega)only[GU,↓GQ,GS,simprocAttr,GY,Ad fW 54,a,Ad fW 55,d,beq_self_eq_true]
 all_goals exact Qd
def aLi(m o:Md)(y:m.vw=o.vw)(j:m.room=o.room)(r:m.vw.ms.length<=1000000)(hl:m.vw.ks.length<=1000000)(s:∀k∈m.vw.ks,k.2.2.2.length<=1000000)(g:m.tr.cnt≠o.tr.cnt):S8 [.agg (Hy m),.agg (Hy o)]=some (.bool false):=by
 refine Aq (Qj rfl) ?_;unfold lU;have a:=gN m.vw r hl s;have d:=aLn g;obtain⟨u,f,n⟩:=m;obtain⟨v,i,b⟩:=o;simp only at y j a d;subst y j;simp only[Hy,HN,HG,QD,QB]at a ⊢;simp (disch:=first|assumption|omega)only[GU,↓GQ,GS,simprocAttr,GY,Ad fW 54,a,Ad fW 55,d,beq_self_eq_true]
 all_goals exact Qd
def aP8:=Az [(13,Ac O6)]
def aG3:=RF aP8 aEV [.t 2] 9
def aSu:Kq aG3 19:=Av (Al func19) (Aa RJ Ae)
def aG2(m:Md)(j:m.room≠0)(w:TrS m.tr):aG3 [.agg (Hy m)]=some (.int .i64 ((Tr.weighL m.tr.lst:Nat):Int)):=by
 refine Aq (Qj rfl) ?_;unfold aEV;have x:=Gt w;have y:(m.room=0)=False:=eq_false j;simp only[Hy,HG,QD,QB];simp (disch:=first|assumption|omega)only[GU,↓GQ,GS,simprocAttr,GY,Ad aP8 13,x,y]
 all_goals exact Qd
def aZi:=Az []
def tT:=RF aZi aEU [.t 2] 5
def aSt:Kq tT 20:=Av (Al func20) Ae
def aG1(m:Md):tT [.agg (Hy m)]=some (.int .i64 m.room):=by
 refine Aq (Qj rfl) ?_;unfold aEU;simp only[Hy,HG,QD,QB];simp (disch:=first|assumption|omega)only[GU,↓GQ,GS,simprocAttr,GY]
 all_goals exact Qd
def aP1:=Az [(63,Ac aK3)]
def LV:=RF aP1 aEG [.t 4] 15
def aCT:Kq LV 25:=Av (Al func25) (Aa aMW Ae)
def I7(k:Int)(name:Bs)(hl:name.length<=1000000):LV [.int .u8 k,.str name]=some (.str (A9 k name 0)):=by
 refine Aq (Qj rfl) ?_;unfold aEG;have a:=sH k 0 name hl;simp only[GU,↓GQ,GS,simprocAttr,Ad aP1 63,a]
 all_goals exact Qd
def pF:Bs:=[114,111,111,116]
def Hp:Bs:=[115,47,114,105,110,103]
def He:Bs:=[115,47,109,111,117,110,116,115]
def RA:Bs:=[116,47,114,111,111,116]
def MB:Bs:=BT [[],B0 (Bn [([],63)])]
def H_:Bs:=List.replicate 17 0
def firstE:Tr:=((Tr.nil.put Hp H_).put He []).put RA MB
def NB:=Az [(21,Ac F48),(22,Ac F35),(23,Ac aLf),(26,Ac RP),(27,Ac aGl),(28,Ac aHx),(25,Ac LV),(24,Ac tJ)]
def UL:=RF NB aEP [.cell (some 1) 0] 30
def kJ:Kq UL 6:=Av (Al func6) (Aa aU9 (Aa aRa (Aa aXB (Aa aXC (Aa aM1 (Aa aBU (Aa aCT (Aa aCR Ae))))))))
def NG:UL []=some (.agg [Hh firstE]):=by
 refine Aq (Qj rfl) ?_;unfold aEP;have f:F48 []=some (.agg [.slice false [] (Au [Bh])]):=rfl;have x:F35 [.agg [.slice false [] (Au [Bh])],.str [114,111,111,116]]=some (.tup [HD Bh,.bool true]):=nK Z (λk s=>by rw[Qw.1 s];exact⟨Z,λh=>Xd⟩);have x:=(x:F35 _=_);unfold HD Bh at x;have d:aLf [HD Bh]=some (.tup [.str MB,.int .i64 0]):=aLe [114,111,111,116] [] false [([],63)] (B0 (Bn [([],63)])) (B4 [([],63)]) Y4 YZ Z Xj;unfold HD Bh at d;have c:aGl [.int .i64 1]=some (.int .i64 17):=sS 1;have a:RP [.str [0],.int .i64 17]=some (.str H_):=rfl;have b:aHx [.agg [.slice true [] (Ax [])]]=some (.str []):=WA ⟨Z,λm y=>by cases y⟩;have k5:LV [.int .u8 5,.str []]=some (.str Hp):=I7 5 [] Z;have k4:LV [.int .u8 4,.str []]=some (.str He):=I7 4 [] Z;have k3:LV [.int .u8 3,.str [114,111,111,116]]=some (.str RA):=I7 3 [114,111,111,116] Z;have q:=NF Tr.nil Hp H_ Z Z;have v:=NF (Tr.nil.put Hp H_) He [] Z Z;have n:=NF ((Tr.nil.put Hp H_).put He []) RA MB Z Xj;rw[Gy]at q;unfold firstE;generalize (((Tr.nil.put Hp H_).put He []).put RA MB)=p at *;generalize ((Tr.nil.put Hp H_).put He [])=o at *;generalize (Tr.nil.put Hp H_)=u at *;simp only[Au,HD,Bh,Ax,Zr,Q8]at f x b
 repeat' (first|(refine aA (Ah ?_) ?_;first|rfl|simp[Ap,An,GZ,Ag,Ac])|simp (disch:=first|assumption|omega)only[GU,↓GQ,GS,simprocAttr,GY,Ad NB 21,f,Ad NB 22,x,Ad NB 23,d,Ad NB 27,c,Ad NB 26,a,Ad NB 28,b,Ad NB 25,k5,k4,k3,Ad NB 24,q,v,n])
def qU:Tr.weighL firstE.lst<=300:=Xj
def aDp:21<=Tr.weighL firstE.lst:=Xj
def Uq:Tr.Ord firstE.lst:=by
 have y:Tr.Ord Tr.nil.lst:=List.Pairwise.nil;have u:=(Lk (1,Hp,H_) y).1;have q:=(Lk (1,He,[]) u).1;exact(Lk (1,RA,MB) q).1
def Sk:∀x∈firstE.lst,x.1.length<=100∧x.2.length<=400:=Xj
def qV{room:Int}(h:300<=room)(q:room<=70000):zV firstE room:=⟨Uq,λx f=>(Sk x f).1,λx f=>(Sk x f).2,by have:=qU;omega,q⟩
def Ps:TrS firstE:=(qV (room:=300) (Zp _) Z).trS
def mdZ:Md:=⟨⟨false,0,[],true,[],true,[]⟩,.nil,0⟩
def qD(key:Bs)(room:Int):Md:=⟨aJJ key false,firstE,room⟩
def UG:=Az [(6,Ac UL),(13,Ac O6),(50,Ac F23)]
def O5:=RF UG V6 [.cell (some 7) 4,.t 5] 26
def aSq:Kq O5 16:=Av (Al func16) (Aa kJ (Aa RJ (Aa aZ3 Ae)))
def aGW(key:Bs)(room:Int)(s:key.length=16)(j:room<=1048576)(p:(Tr.weighL firstE.lst:Int)<=room):O5 [.str key,.int .i64 room]=some (.tup [.agg (Hy (qD key room)),.int .i64 0]):=by
 refine Aq (Qj rfl) ?_;unfold V6;have x:=Gt Ps;have v:=NG;have o:F23 [.str key]=some (HN (aJJ key false)):=rfl;have c1:((key.length:Int)=16)=True:=eq_true O;have c2:((1048576:Int)<room)=False:=eq_false O;have n:(room<(Tr.weighL firstE.lst:Int))=False:=eq_false O;simp only[qD,Hy,HN,HG,QD,QB]at o ⊢;generalize firstE=t at *
 repeat' (first|(refine aA (Ah ?_) ?_;first|rfl|simp[Ap,An,GZ,Ag,Ac])|simp (disch:=first|assumption|omega)only[GU,↓GQ,GS,simprocAttr,GY,Ad UG 6,v,Ad UG 13,x,Ad UG 50,o,c1,c2,n,bne_self_eq_false])
def aAl(key:Bs)(room:Int)(s:key.length≠16):O5 [.str key,.int .i64 room]=some (.tup [.agg (Hy mdZ),.int .i64 2]):=by
 refine Aq (Qj rfl) ?_;unfold V6;have c1:((key.length:Int)=16)=False:=eq_false O;simp only[mdZ,Hy,HG,QD,QB,Gy]
 repeat' (first|(refine aA (Ah ?_) ?_;first|rfl|simp[Ap,An,GZ,Ag,Ac])|simp (disch:=first|assumption|omega)only[GU,↓GQ,GS,simprocAttr,GY,c1])
 all_goals exact Qd
def nE(key:Bs)(room:Int)(s:key.length=16)(j:room<=1048576)(p:room<(Tr.weighL firstE.lst:Int)):O5 [.str key,.int .i64 room]=some (.tup [.agg (Hy mdZ),.int .i64 7]):=by
 refine Aq (Qj rfl) ?_;unfold V6;have x:=Gt Ps;have v:=NG;have c1:((key.length:Int)=16)=True:=eq_true O;have c2:((1048576:Int)<room)=False:=eq_false O;have n:(room<(Tr.weighL firstE.lst:Int))=True:=eq_true O;simp only[mdZ,Hy,HG,QD,QB,Gy];generalize firstE=t at *
 repeat' (first|(refine aA (Ah ?_) ?_;first|rfl|simp[Ap,An,GZ,Ag,Ac])|simp (disch:=first|assumption|omega)only[GU,↓GQ,GS,simprocAttr,GY,Ad UG 6,v,Ad UG 13,x,c1,c2,n])
 all_goals exact Qd
def aJK:Bs:=[48,49,50,51,52,53,54,55,56,57,97,98,99,100,101,102]
def aJU(b:Bool):0<=Dj b∧Dj b<=99:=by cases b<;>decide
def aIG(s:Bs):0<=(Cc s).2.2∧(Cc s).2.2<=99:=by
 have:=Vj ((splitC 44 s).map Ip);unfold Cc
 repeat' split
 all_goals simp only
 all_goals omega
def pM(s:Bs)(h:(Cc s).1=true):(Cc s).2.1=[]:=by
 unfold Cc at h ⊢
 repeat' split
 all_goals first|rfl|(simp_all;done)
def aNa{α:Type}(P:α->Prop){c:Prop}[Decidable c]{x y:α}(u:P x)(q:P y):P (if c then x else y):=by
 split
 ·exact u
 ·exact q
def aBD(a:Ak)(c:Int)(s:Bs):0<=(Eg a c s).2∧(Eg a c s).2<=99:=by
 unfold Eg
 repeat' refine aNa (λz:Ak×Int=>0<=z.2∧z.2<=99) ?_ ?_
 all_goals dsimp only
 all_goals with_reducible first|exact xU _ _|exact aJU _|exact aIG _|exact⟨Z,Z⟩
def aQ0{a:Ak}(x:OE a){c:Int}{s:Bs}(g:s.length<=400):OE (Eg a c s).1:=by
 have q:=aBJ s g;have d:=pM s;have h:Fd (Eg a c s).1.rs∧((Eg a c s).1.nlr=true->(Eg a c s).1.rs=[]):=by
  unfold Eg
  repeat' refine aNa (λz:Ak×Int=>Fd z.1.rs∧(z.1.nlr=true->z.1.rs=[])) ?_ ?_
  all_goals first|exact⟨x.cap,x.nlr⟩|exact⟨λr j=>(q.2 r j).2,d⟩
 exact⟨Vb x.ok g,h.1,h.2⟩
def aFt{op:Int}(y:0<=op)(h:op<=18):OE {akZ with op:=op}:={ok:=aFy y h,cap:=λr j=>(by cases j),nlr:=λ_=>rfl}
def fL:OE akZ:=aFt (op:=0) Z Z
def pI:∀(ls:Bs)(b:List Bs){a:Ak},OE a->(∀w∈b,w.length<=400)->OE (Fl a ls b).1∧0<=(Fl a ls b).2∧(Fl a ls b).2<=99
 |[],_,a,ha,_=>⟨ha,X7,X7⟩
 |_::_,[],a,_,_=>⟨fL,X7,X7⟩
 |c::ls,w::b,a,ha,hw=>by
  have u:=aBD a (c.toNat:Int) w;simp only[Fl];split
  ·exact⟨fL,u.1,u.2⟩
  ·exact pI ls b (aQ0 ha (hw w Qp)) λx f=>hw x (Qq _ f)
def aFs(s:Bs):OE (Nv s).1∧0<=(Nv s).2∧(Nv s).2<=99:=by
 unfold Nv;split
 ·exact⟨fL,Z,Z⟩
 split
 ·exact⟨fL,Z,Z⟩
 split
 ·exact⟨fL,Z,Z⟩
 ·have h:=aMr ((splitC 32 s).getD 0 []);refine pI _ _ (aFt h.1 h.2) λw t=>?_
  have:=EK s w (ZC t);omega
def MdI.same{m:Md}(h:MdI m):S8 [.agg (Hy m),.agg (Hy m)]=some (.bool true):=
 tU m (QA h.vw.ml Z) (QA h.vw.kl Z) (λk s=>(h.vw.ok.kp k s).1.1) h.tr.ord (QA h.tr.cnt Z)
def xG:aG6 [Bh]:=by
 refine⟨λi j u q=>by simp at q;omega,⟨λs=>if s=[]then 0 else 1,⟨λt w=>?_,λt w=>?_,List.pairwise_singleton _ _⟩,rfl⟩,λt w=>?_,λt w=>?_,λt w _=>?_,λt w _=>?_⟩
 ·rw[Qw.1 w];decide
 ·rw[Qw.1 w];decide
 ·rw[Qw.1 w];decide
 ·rw[Qw.1 w];exact .inl rfl
 ·rw[Qw.1 w];rfl
 ·rw[Qw.1 w];rfl
def aSz(key:Bs):HE (aJJ key false):=
 ⟨⟨Qo _,λm a=>(by cases a),Qj rfl,λk s=>(by rw[Qw.1 s];exact⟨⟨Z,λh=>Xd⟩,Z,λr c=>(by rw[Qw.1 c];decide),λr c=>(by rw[Qw.1 c];decide)⟩)⟩,xG,λi j u q=>absurd q (by show ¬j<0;omega),λ_=>rfl,⟨Zp 1,(by show(1:Int)<=6;decide)⟩,Qj rfl,Qo _,λm a=>(by cases a)⟩
def aWl{r:Int}(y:0<=r)(u:r<65536):MdI (qD aJK (300+r)):=⟨aSz _,qV (by show(300:Int)<=300+r;omega) (by show(300:Int)+r<=70000;omega)⟩
namespace Tr
def ins_iff{l:List (Kt×Kt)}{k v:Kt}{x:Kt×Kt}:x∈insL l k v↔x=(k,v)∨(x∈l∧x.1≠k):=by
 unfold insL;rw[QP,Qs,QW,QW];constructor
 ·rintro(⟨h1,h2⟩|h|⟨h1,h2⟩)
  ·exact .inr ⟨h1,λe=>by rw[e,Cq]at h2;cases h2⟩
  ·exact .inl h
  ·exact .inr ⟨h1,λe=>by rw[e,Cq]at h2;cases h2⟩
 ·rintro(h|⟨h1,h2⟩)
  ·exact .inr (.inl h)
  ·rcases ML x.1 k with c|c|c
   ·exact .inl ⟨h1,c⟩
   ·exact absurd c h2
   ·exact .inr (.inr ⟨h1,c⟩)
end Tr
def Oh(x y:UInt8)(p q:Bs):A2 (y::q) (x::p)=(decide (y=x)&&A2 q p):=by
 unfold A2;simp only[Qm,Q3,Q4,Bool.decide_and]
def aDg(q:Bs):A2 q []=true:=XH
def Og(x:UInt8)(p:Bs):A2 [] (x::p)=false:=XH
namespace Tr
def MJ(x y:UInt8)(p q:Kt):Hj (y::q) (x::p)=(decide (y<x)||(y==x&&Hj q p)):=rfl
def aCh(q:Kt):Hj q []=false:=by cases q<;>rfl
def VA(x:UInt8)(p:Kt):Hj [] (x::p)=true:=rfl
def SI:∀{p:Kt},beyB p=none->∀q,Hj q p=!A2 q p
 |[],h,q=>by rw[aCh,aDg];rfl
 |x::p,h,q=>by
  unfold beyB at h;cases hb:beyB p with
  |some e=>rw[hb]at h;cases h
  |none=>
   rw[hb]at h;simp only at h;split at h
   ·cases h
   ·rename_i f;have ih:=SI hb;cases q with
    |nil=>rw[VA,Og];rfl
    |cons y q=>
     rw[MJ,Oh,ih q];have ta:x=255:=by
      have u:¬x.toNat<255:=λh=>f (UInt8.lt_iff_toNat_lt.2 h)
      have z:=x.toNat_lt;exact UInt8.toNat_inj.1 (by show x.toNat=255;omega)
     subst ta;have d:=y.toNat_lt;by_cases e:y=255
     ·subst e;simp
     ·have:y<255:=UInt8.lt_iff_toNat_lt.2 (by
       have:y.toNat≠255:=λh=>e (UInt8.toNat_inj.1 h)
       show y.toNat<255;omega)
      simp[this,e]
def fG:∀{p e:Kt},beyB p=some e->∀q,(!Hj q p&&Hj q e)=A2 q p
 |[],e,h,q=>Xd
 |x::p,e,h,q=>by
  unfold beyB at h;cases hb:beyB p with
  |some m=>
   rw[hb]at h;simp only[Ql]at h;subst h;have ih:=fG hb;cases q with
   |nil=>rw[VA,Og];rfl
   |cons y q=>
    rw[MJ,MJ,Oh,←ih q];by_cases e:y=x
    ·subst e;have:¬(y<y):=λh=>absurd (UInt8.lt_iff_toNat_lt.1 h) (Z2 _)
     simp[this]
    ·have m:(y==x)=false:=by simpa using e
     rw[m,decide_eq_false e];by_cases h:y<x<;>simp[h]
  |none=>
   rw[hb]at h;simp only at h;split at h
   ·rename_i f;simp only[Ql]at h;subst h;have ih:=SI hb;cases q with
    |nil=>rw[VA,Og];rfl
    |cons y q=>
     rw[MJ,MJ,Oh,ih q,aCh,ZD,Bool.or_false];have b:=UInt8.lt_iff_toNat_lt.1 f;have t:(x+1).toNat=x.toNat+1:=by
      rw[UInt8.toNat_add];have:(255:UInt8).toNat=255:=rfl;have:(1:UInt8).toNat=1:=rfl;omega
     have v:(y<x+1)↔(y<x∨y=x):=by
      rw[UInt8.lt_iff_toNat_lt,UInt8.lt_iff_toNat_lt,t];constructor
      ·intro h;rcases Zy y.toNat x.toNat with h2|h2
       ·exact .inl h2
       ·exact .inr (UInt8.toNat_inj.1 O)
      ·rintro(h|h)
       ·omega
       ·subst h;omega
     by_cases e:y=x
     ·subst e;have u:¬(y<y):=λh=>absurd (UInt8.lt_iff_toNat_lt.1 h) (Z2 _)
      simp[u,v.2 (.inr rfl)]
     ·have m:(y==x)=false:=by simpa using e
      rw[m,decide_eq_false e];by_cases h:y<x
      ·simp[h]
      ·have:¬(y<x+1):=λh2=>(v.1 h2).elim h e
       simp[this]
   ·cases h
def aDB{l:List (Kt×Kt)}(h:Ord l)(p:Kt){x:Kt×Kt}:x∈Sp p l↔x∈l∧A2 x.1 p=false:=by
 unfold Sp;rw[QP,QW];cases hb:beyB p with
 |none=>
  have:=SI hb x.1;simp only[List.not_mem_nil,or_false];rw[this];simp
 |some e=>
  have:=fG hb x.1;simp only[QW,Bool.not_eq_true'];rw[←this];have n:Hj x.1 p=true->Hj x.1 p=true:=id;cases h1:Hj x.1 p<;>cases h2:Hj x.1 e<;>simp_all
end Tr
namespace Tr
def ins_at{l:List (Kt×Kt)}(h:Ord l){k v:Kt}:∀{j:Nat},j<=l.length->(∀i (hi:i<l.length),i<j->Hj (l[i]'hi).1 k=true)->(∀w:j<l.length,Hj (l[j]'w).1 k=false)->
  insL l k v=l.take j++(k,v)::(if(∃w:j<l.length,(l[j]'w).1=k)then l.drop (j+1)else l.drop j):=by
 intro j w u q;have e:l=l.take j++l.drop j:=(Qy j l).symm;have p:∀x∈l.take j,Hj x.1 k=true:=λx hx=>by
  obtain⟨i,hi,rfl⟩:=QK hx;rw[Zw]at hi;rw[List.getElem_take];exact u i O O
 have ho:Ord (l.take j++l.drop j):=e▸h;unfold insL
 conv=>lhs;rw[e]
 rw[ZM,ZM,Dq p,E5 (l:=l.take j) λx hx=>Cf (p x hx),QB];by_cases hl:j<l.length
 ·have z:=QJ hl;have r:Ord (l.drop j):=ord_sub (ZQ _ _) h;rw[z]at r ⊢;obtain⟨o,q2⟩:=QH.1 r;have hn:=q hl;have s:∀x∈l.drop (j+1),Hj k x.1=true:=λx hx=>by
   rcases ML (l[j]).1 k with c|c|c
   ·rw[c]at hn;cases hn
   ·rw[←c];exact o x hx
   ·exact Ce c (o x hx)
  have n1:(l[j]::l.drop (j+1)).filter (λx=>Hj x.1 k)=[]:=E5 λx hx=>by
   rcases Qs.1 hx with rfl|hx
   ·exact hn
   ·exact Cf (s x hx)
  rw[n1,QR];congr 2;rw[QQ,Dq s];by_cases c:(l[j]).1=k
  ·have g:(∃w:j<l.length,(l[j]'w).1=k):=⟨hl,c⟩;have m:¬Hj k (l[j]).1=true:=by rw[c,Cq];decide
   simp only[g,m,if_true];rfl
  ·have g:¬(∃w:j<l.length,(l[j]'w).1=k):=λ⟨_,c'⟩=>c c'
   have m:Hj k (l[j]).1=true:=by
    rcases ML (l[j]).1 k with c1|c1|c1
    ·rw[c1]at hn;cases hn
    ·exact absurd c1 c
    ·exact c1
   simp only[g,m,if_true,if_false]
 ·have:l.drop j=[]:=List.drop_of_length_le O;rw[this,if_neg λ⟨h,_⟩=>hl h];simp
end Tr
structure aZj (v:Vw) (p:Bs):Prop where
 se:v.se=false
 fd:AN v.ks pF=true
 mt:BN v.ms p≠-1
def xY(k:Kn)(t:Tr)(q g:Bs):Dx (Bv k q false (Gb t q)) g=if q=g then((t.get q).getD [],(t.get q).isSome,true)else Dx k g:=by
 rw[dF];exact eI k q _ _ g
def Ge{s p:Bs}:A2 s p=true↔∃r,s=p++r:=by
 unfold A2;rw[decide_eq_true_eq];constructor
 ·intro h;exact⟨s.drop p.length,by conv=>lhs;rw[←Qy p.length s,h]⟩
 ·rintro⟨r,rfl⟩;simp
def xE{q:Bs}(h:Br (AH q).1 (AH q).2.1 (AH q).2.2=0):A9 (AH q).1 (AH q).2.1 (AH q).2.2=q:=by
 unfold A9;rw[if_neg (λe=>e h)];unfold AH at h ⊢;by_cases u:q=[115,47,109,111,117,110,116,115]
 ·subst u;rfl
 rw[if_neg u]at h ⊢;by_cases z:q=[115,47,114,105,110,103]
 ·subst z;rfl
 rw[if_neg z]at h ⊢;by_cases d:A2 q [109,47]=true
 ·rw[if_pos d];obtain⟨r,rfl⟩:=Ge.1 d;rfl
 rw[if_neg d]at h ⊢;by_cases x:A2 q [116,47]=true
 ·rw[if_pos x];obtain⟨r,rfl⟩:=Ge.1 x;rfl
 rw[if_neg x]at h ⊢;by_cases k:A2 q [100,47]=true∧2<(q.drop 2).length∧(q.drop 2).getD ((q.drop 2).length-2) 0=0
 ·rw[if_pos k]at h ⊢;obtain⟨i,p,w⟩:=k;obtain⟨r,rfl⟩:=Ge.1 i;have e:([100,47]++r:Bs).drop 2=r:=rfl;rw[e]at h p w ⊢;simp only;rw[if_neg Z,if_pos Z];have f:=(r.getD (r.length-1) 0).toNat_lt;have t:UInt8.ofNat (IntKind.u8.wrap (((r.getD (r.length-1) 0).toNat:Nat):Int)).toNat=r.getD (r.length-1) 0:=by
   rw[w8 O O,Qh];exact UInt8.ofNat_toNat
  rw[t,QU];congr 1;have d1:r.drop (r.length-2)=[r.getD (r.length-2) 0,r.getD (r.length-1) 0]:=by
   have v:r.length-2<r.length:=O
   have l2:r.length-2+1<r.length:=O
   rw[QJ v,QJ l2,Q9 O];simp only[Q_,Qi v,Q0];have n:r.length-1<r.length:=O
   simp only[Qi n,Q0,show r.length-2+1=r.length-1 by omega]
  rw[w]at d1
  conv=>rhs;rw[←Qy (r.length-2) r,d1]
 ·rw[if_neg k]at h;exact absurd h Z
def Lt{s v:Bs}(w:v≠[]):Ck s v=true↔∃r,s=v++47::r:=by
 unfold Ck;rw[if_neg w,QO,Ge];constructor
 ·rintro⟨⟨r,rfl⟩,h2⟩;rw[Zj]at h2;obtain⟨n,rfl⟩:=Ge.1 h2;exact⟨n,rfl⟩
 ·rintro⟨r,rfl⟩;refine⟨⟨_,rfl⟩,?_⟩;rw[Zj];exact Ge.2 ⟨r,rfl⟩
def zM{p a b:Bs}(z:a≠[])(f:b≠[])(u:Ck p a=true)(q:Ck p b=true):AR a b=true∨AR b a=true:=by
 obtain⟨r,rfl⟩:=(Lt z).1 u;obtain⟨v,e⟩:=(Lt f).1 q;rcases List.append_eq_append_iff.1 e with ⟨x,n,m⟩|⟨x,n,m⟩
 ·cases x with
  |nil=>
   left;unfold AR;rw[QR]at n;rw[decide_eq_true n.symm];rfl
  |cons c x=>
   simp only[QD,Q4]at m;right;unfold AR;rw[(Lt z).2 ⟨x,by rw[n,←m.1]⟩,Z3]
 ·cases x with
  |nil=>
   left;unfold AR;rw[QR]at n;rw[decide_eq_true n];rfl
  |cons c x=>
   simp only[QD,Q4]at m;left;unfold AR;rw[(Lt f).2 ⟨x,by rw[n,←m.1]⟩,Z3]
def aQf(l:List Mt):Prop:=l.Pairwise λa b=>AR a.1 b.1=false∧AR b.1 a.1=false
structure Ws (l:List Mt):Prop where
 ok:∀a∈l,Cp a.1 a.2.1=0
 ns:aQf l
def OQ{p:Bs}{q:Int}(h:Cp p q=0):AV p=0∧1<=q∧q<=6:=by
 unfold Cp at h;split at h
 ·rename_i u;exact absurd h u
 ·rename_i u;split at h
  ·rename_i z;exact⟨Decidable.not_not.1 u,z⟩
  ·cases h
def TM{p:Bs}(h:AV p=0):p≠[]:=λe=>by have:=Rz h;rw[e]at this;cases this
def Ws.one{l:List Mt}(h:Ws l){p:Bs}{a b:Mt}(x:a∈l)(f:b∈l)(u:Ck p a.1=true)(q:Ck p b.1=true):a=b:=by
 apply Classical.byContradiction;intro v;have d:=zM (TM (OQ (h.ok a x)).1) (TM (OQ (h.ok b f)).1) u q;obtain⟨i,hi,rfl⟩:=QK x;obtain⟨j,w,rfl⟩:=QK f;rcases Nat.lt_trichotomy i j with c|rfl|c
 ·have:=Zo.1 h.ns i j hi w c;rw[this.1,this.2]at d;rcases d with h|h<;>cases h
 ·exact v rfl
 ·have:=Zo.1 h.ns j i w hi c;rw[this.1,this.2]at d;rcases d with h|h<;>cases h
def kY{l:List Bool}(h:BP l≠-1):l[(BP l).toNat]?=some true:=by
 unfold BP at h ⊢;split
 ·rename_i k s;rw[Q7]at s;obtain⟨v,u,_⟩:=s;rw[Qh,Qi v];simpa using u
 ·rename_i s;rw[s]at h;exact absurd rfl h
def vP{l:List Mt}{p:Bs}(h:BN l p≠-1):AU l (BN l p).toNat∈l∧Ck p (AU l (BN l p).toNat).1=true:=by
 have u:=kY h;rw[QT,QI]at u;obtain⟨m,r,f⟩:=u;have e:AU l (BN l p).toNat=m:=by
  unfold AU;rw[Q_];show(l[(BN l p).toNat]?).getD _=_;unfold BN;rw[r];rfl
 rw[e];exact⟨Ze r,f⟩
def Ws.get{v:Vw}{p:Bs}(h:BN v.ms p≠-1):∃a∈v.ms,Ck p a.1=true∧Cv v p=a.2:=by
 obtain⟨q,d⟩:=vP h;refine⟨_,q,d,?_⟩;unfold Cv;rw[if_neg h]
def aKh{l z:List Mt}{m:Mt}(h:Fb l)(e:(CK l m).1=some z):(∀x,x∈z↔x∈l∨x=m)∧Cp m.1 m.2.1=0∧(∀a∈l,AR m.1 a.1=false∧AR a.1 m.1=false)∧∃k,z=l.take k++m::l.drop k:=by
 rw[Lv h]at e;unfold SO at e;split at e
 ·cases e
 rename_i u;split at e
 ·cases e
 split at e
 ·cases e
 rename_i d;split at e
 ·cases e
 simp only[Ql]at e;refine⟨λx=>?_,Decidable.not_not.1 u,λa q=>?_,_,e.symm⟩
 ·rw[←e,QP,Qs]
  conv=>rhs;rw[←Qy (Ti l m.1 l.length) l,QP]
  constructor
  ·rintro(h|h|h)<;>simp[h]
  ·rintro((h|h)|h)<;>simp[h]
 ·have d:Ei m.1 (l.map (·.1))=false:=by simpa using d
  unfold Ei at d;rw[ZR]at d;have:=d a.1 (Zi.2 ⟨a,q,rfl⟩);simpa using this
def Ws.add{l z:List Mt}{m:Mt}(hi:Ws l)(h:Fb l)(e:(CK l m).1=some z):Ws z:=by
 obtain⟨u,q,h3,k,rfl⟩:=aKh h e;refine⟨λa x=>?_,?_⟩
 ·rcases(u a).1 x with h|rfl
  ·exact hi.ok a h
  ·exact q
 ·have d:=hi.ns;unfold aQf at d ⊢;rw[←Qy k l,ZE]at d;rw[ZE,QH];refine⟨d.1,⟨λa x=>?_,d.2.1⟩,λa x b hb=>?_⟩
  ·exact h3 a (ZC x)
  ·rcases Qs.1 hb with rfl|hb
   ·exact⟨(h3 a (ZF x)).2,(h3 a (ZF x)).1⟩
   ·exact d.2.2 a x b hb
def pG(l:List Mt)(p:Bs):(aBA l p).Sublist l:=by
 unfold aBA
 conv=>rhs;rw[←Qy (CH l p).toNat l]
 refine List.Sublist.append (List.Sublist.refl _) ?_;rw[←Za];exact ZQ _ _
def Ws.rem{l:List Mt}(hi:Ws l)(p:Bs):Ws (aBA l p):=⟨λa x=>hi.ok a ((pG l p).subset x),hi.ns.sublist (pG l p)⟩
structure Sec (m:Md) (p:Bs) (s:Sc) (rs:List Rw) (n:Int) (g d:Bool) (data:Bs):Prop where
 md:MdI m
 rm:m.room≠0
 rt:aZj m.vw p
 len:p.length<=64
 n32:(32:UInt8)∉p
 ro:AV p=0
 mt:m.tr.get (A9 1 p 0)=some (IA s)
 ok:ScI s
 nl:s.nl=false
 rs:s.rs=rs++[(n,g,d)]
 dt:d=false->m.tr.get (A9 2 p n)=some data
section
variable{m:Md}{p:Bs}{s:Sc}{rs:List Rw}{n:Int}{g d:Bool}{data:Bs}
def Sec.nb(h:Sec m p s rs n g d data):1<=n∧n<=30:=by
 have:=oY h.ok (n,g,d) (by rw[h.rs];simp);exact this
end
def pO{m:GV}{i j o:Nat}{x:List D}(h:j≠i):m.put [i] 0 x [j] o=m [j] o:=aB (by simp[h])
def lnM:Bs:=[109,111,117,110,116,32,114,111,111,116,32,97,32,50,32,48]
def lnW:Bs:=[119,114,105,116,101,32,114,111,111,116,32,97,47,120,32,45,32,54,49,54,50]
def lnR:Bs:=[114,101,97,100,32,114,111,111,116,32,97,47,120,32,48]
def lnN:Bs:=[110,111,110,115,101,110,115,101]
def aM:Ak:={akZ with op:=5,tk:=pF,pa:=[97],n:=2}
def aW:Ak:={akZ with op:=10,tk:=pF,pa:=[97,47,120],cas:=-1,da:=[97,98]}
def aR:Ak:={akZ with op:=9,tk:=pF,pa:=[97,47,120]}
def aYH:Nv lnM=(aM,0):=Xa
def aYF:Nv lnW=(aW,0):=Xa
def aYG:Nv lnR=(aR,0):=Xa
def bAy:(Nv lnN).2=22:=Xa
def m0A:Md:=qD aJK 2000
def aCg:MdI m0A:=aWl (r:=1700) Z Z
def v1A:Vw:={m0A.vw with nlm:=false,ms:=[([97],2,false)]}
def aZM:vW m0A.vw aM=0:=Xa
def nTA:List Mt:=[([97],2,false)]
def oM:Oc:=wG (HH m0A.vw) false nTA
def XM:Lc m0A.vw aM (λ_=>oM):=by
 have hv:=aCg.vw;have p:=nL hv.ok (by have:=(aFs lnM).1.ok;rw[aYH]at this;exact this);rw[aZM]at p;have b:=aHc (nl:=true) (t:=[]) (l:=[]) (m:=([97],2,false)) Z (λ_=>rfl) Z;rw[show CK [] ([97],2,false)=(some nTA,0)by kernel_rfl]at b;have y:Ib nTA:=⟨Z,λm r=>by rw[Qw.1 r];decide⟩;have a:∀m∈nTA,m.1.length<=64:=λm r=>by rw[Qw.1 r];decide
 exact yN _ (λk _=>mZ (v:=m0A.vw) .o5 aM k rfl p _ _ (aTb ⟨m0A.vw,aM,k⟩ (HH m0A.vw) false nTA b (cG m0A.vw) y)) rfl (dZ .done rfl trivial rfl YC (aMj Z) (by simp[oM,wG,msO,Oc.op,HH]) ⟨by simp[oM,wG,msO,Oc.op,HH],by
    simp only[oM,wG,msO,Oc.op,HH,QB,List.forall_mem_cons];have:=oI a;exact⟨Pp (.inl rfl) rfl (Qo _) (by have:nTA.length=1:=rfl;omega),λ_ h=>nomatch h⟩⟩ (aHT hv y (λi j u q=>absurd q (by show ¬j<1;omega)) (λe=>Xw) Z a))
def m1A:Md:=⟨v1A,CW oM.ops firstE,2000⟩
def dnM:IW m0A oM=(m1A,[111,107]):=Xa
def cN:MdI m1A:=by
 have h:=(VL aCg (XM.rep kn0 ⟨Z,Z,λx f=>Xv,λx f=>Xv⟩ rfl)).md;rw[dnM]at h;exact h
def aZK:vW m1A.vw aW=0:=Xa
def oW:Oc:=IB (DR m1A.vw aW) m1A
def aYJ:OE aW:=by have:=(aFs lnW).1;rw[aYF]at this;exact this
def aYK:OE aR:=by have:=(aFs lnR).1;rw[aYG]at this;exact this
def XW:Lc m1A.vw aW (DR m1A.vw aW):=by
 have p:=nL cN.vw.ok aYJ.ok;rw[aZK]at p;exact lP cN.vw aYJ p Xj rfl
def m2A:Md:=(IW m1A oW).1
def dnW:(IW m1A oW).2=[111,107,32,110,117,109,98,101,114,32,49]:=Xa
def m2v:m2A.vw=m1A.vw:=Xa
def m2r:m2A.room=m1A.room:=Xa
def m2c:m2A.tr.cnt=5:=Xa
def m1c:m1A.tr.cnt=3:=Xa
def aZL:vW m2A.vw aR=0:=Xa
def Wh:MdI m2A:=by
 obtain⟨c,k,s,r⟩:=jN cN XW;have a:Mk m1A.vw aW (IB (DR m1A.vw aW) m1A):=by rw[r];exact XW.rep k s (by rw[←r];exact c)
 exact(VL cN a).md
def XR:Lc m2A.vw aR (DP m2A.vw aR):=by
 have p:=nL Wh.vw.ok aYK.ok;rw[aZL]at p;exact aDO Wh.vw aYK p Xj rfl
def oR:Oc:=IB (DP m2A.vw aR) m2A
def dnR:IW m2A oR=(m2A,[111,107,32,102,111,117,110,100,32,49,32,54,49,54,50]):=by
 obtain⟨c,k,s,r⟩:=jN Wh XR;have a:Mk m2A.vw aR (IB (DP m2A.vw aR) m2A):=by rw[r];exact XR.rep k s (by rw[←r];exact c)
 refine X4 ((VL Wh a).ro (.inr (.inl rfl))) ?_
 kernel_rfl
def aMm:m0A.room≠0:=Z
def dM:FJ [.agg (Hy m0A),.str lnM]=some (.tup [.agg (Hy m1A),.str [111,107]]):=by
 have h:=Wq aMm (s:=lnM) Z aYH aCg XM;rw[show IB (λ_=>oM) m0A=oM from rfl,dnM]at h;exact h
def dW:FJ [.agg (Hy m1A),.str lnW]=some (.tup [.agg (Hy m2A),.str [111,107,32,110,117,109,98,101,114,32,49]]):=by
 have h:=Wq (m:=m1A) Z (s:=lnW) Z aYF cN XW;rw[show(IW m1A (IB (DR m1A.vw aW) m1A)).2=_ from dnW]at h;exact h
def dR:FJ [.agg (Hy m2A),.str lnR]=some (.tup [.agg (Hy m2A),.str [111,107,32,102,111,117,110,100,32,49,32,54,49,54,50]]):=by
 have h:=Wq (m:=m2A) (by rw[m2r];decide) (s:=lnR) Z aYG Wh XR;rw[show IW m2A (IB (DP m2A.vw aR) m2A)=_ from dnR]at h;exact h
def dN:FJ [.agg (Hy m2A),.str lnN]=some (.tup [.agg (Hy m2A),.str [101,114,114,111,114,32,50,50]]):=by
 have h:=aLk (m:=m2A) (by rw[m2r];decide) (s:=lnN) Z bAy Z;rw[show NM (.fail 22)=_ by kernel_rfl]at h;exact h
def sF:S8 [.agg (Hy m2A),.agg (Hy m1A)]=some (.bool false):=
 aLi m2A m1A m2v m2r (QA Wh.vw.ml Z) (QA Wh.vw.kl Z) (λk s=>(Wh.vw.ok.kp k s).1.1) (by rw[m2c,m1c];decide)
def sZ:S8 [.agg (Hy mdZ),.agg (Hy mdZ)]=some (.bool true):=
 tU mdZ Z Z (λk s=>XP) List.Pairwise.nil Z
def O1:=Az [(16,Ac O5),(17,Ac FJ),(18,Ac S8),(19,Ac aG3),(6,Ac UL),(13,Ac O6),(20,Ac tT)]
def tV:=RF O1 aEX [.t 0] 113
def aSy:Kq tV 5:=Av (Al func5) (Aa aSq (Aa aSx (Aa aSv (Aa aSu (Aa kJ (Aa RJ (Aa aSt Ae)))))))
def gV:tV []=some (.bool true):=by
 refine Aq (Qj rfl) ?_;unfold aEX;have n1:O5 [.str [48,49,50,51,52,53,54,55,56,57,97,98,99,100,101,102],.int .i64 2000]=some (.tup [.agg (Hy m0A),.int .i64 0]):=aGW aJK 2000 rfl Z (by have:=qU;omega);have n2:O5 [.str [115,104,111,114,116],.int .i64 2000]=some (.tup [.agg (Hy mdZ),.int .i64 2]):=aAl [115,104,111,114,116] 2000 Z;have q:O5 [.str [48,49,50,51,52,53,54,55,56,57,97,98,99,100,101,102],.int .i64 20]=some (.tup [.agg (Hy mdZ),.int .i64 7]):=nE aJK 20 rfl Z (by have:=aDp;omega);have d1:FJ [.agg (Hy m0A),.str [109,111,117,110,116,32,114,111,111,116,32,97,32,50,32,48]]=_:=dM;have d2:FJ [.agg (Hy m1A),.str [119,114,105,116,101,32,114,111,111,116,32,97,47,120,32,45,32,54,49,54,50]]=_:=dW;have n:FJ [.agg (Hy m2A),.str [114,101,97,100,32,114,111,111,116,32,97,47,120,32,48]]=_:=dR;have r:FJ [.agg (Hy m2A),.str [110,111,110,115,101,110,115,101]]=_:=dN;have f:FJ [.agg (Hy mdZ),.str [115,116,97,116,117,115]]=some (.tup [.agg (Hy mdZ),.str []]):=aLj rfl [115,116,97,116,117,115];have s:=Wh.same;have w:=sF;have i:=sZ;have m:=aG2 m0A aMm Ps;have v:=NG;have g:=Gt Ps;have a:tT [.agg (Hy m0A)]=some (.int .i64 2000):=aG1 m0A;have z5:m0A.tr=firstE:=rfl;rw[z5]at m;generalize t:((Tr.weighL firstE.lst:Nat):Int)=W at m g;generalize firstE=F at v g;generalize m0A=A at *;generalize m1A=B at *;generalize m2A=C at *;simp only[Hy,mdZ,HG,Ax,Au,Q8,QD,QB,Gy]at n1 n2 q d1 d2 n r f s w i m v g a;simp (config:={maxSteps:=20000000}) (disch:=first|assumption|omega)only[GU,↓GQ,GS,simprocAttr,GY,Ad O1 16,n1,n2,q,Ad O1 17,d1,d2,n,r,f,Ad O1 18,s,w,i,Ad O1 19,m,Ad O1 6,v,Ad O1 13,g,Ad O1 20,a,beq_self_eq_true]
section
variable{t:Tr}{p:Bs}{rs:List Rw}
end
section
variable{m:Md}{p:Bs}
end
section
variable{m:Md}{p:Bs}
end
def key1{p:Bs}(o:AV p=0):A9 1 p 0=[109,47]++p:=by
 unfold A9;rw[if_neg (λe=>e (aIw o)),if_pos rfl]
def g4:AH (A9 4 [] 0)=(4,[],0):=rfl
def g5:AH (A9 5 [] 0)=(5,[],0):=rfl
section
variable{m:Md}
end
def KnT(t:Tr)(k:Kn):Prop:=∀q,(Dx k q).2.2=true->Dx k q=((t.get q).getD [],(t.get q).isSome,true)
def KnT.learn{t:Tr}{k:Kn}(h:KnT t k)(q:Bs)(li:Bool):KnT t (Bv k q li (Gb t q)):=λg z=>by
 cases li with
 |true=>
  rw[dE]at z ⊢;exact h g z
 |false=>
  rw[xY]at z ⊢;by_cases e:q=g
  ·subst e;rw[if_pos rfl]
  ·rw[if_neg e]at z ⊢;exact h g z
end Go.Vd
namespace Go.Vd
open Go.RowKit
def aU5{l n:Nat}{P:Program}{o:Oper}{a:Act}{w:World}{K t:Act->World->Prop}{Q:Exit->Act->World->Prop}(p:∀c,o.op≠ .defer c)(h:o.wp P a w K Q)(b:∀a w,K a w->t a w)(k:¬LetsOut Q):
  o.wpIn (Fence.wide.inRound l) n P a w t Q:=by
 refine⟨λ_ _=>trivial,?_⟩;rw[show(Fence.wide.inRound l).round=some l from rfl,Oper.semAt_eq _ _ _ p];unfold Oper.wp at h;generalize (execOp a.eval o).run P w=r at h;cases r with
 |ok x w'=>
  cases x with
  |value v=>exact b _ _ h
  |skip=>exact b _ _ h
  |defer d=>exact b _ _ h
  |enter f args=>
   refine⟨λz=>absurd z Q5,?_⟩;have q:CallsIn (Fence.wide.inRound l) (n-1) P f args w' _:=(callsIn_wide (n:=n-1)).2 h;refine q.mono ?_;intro e u m;cases e with
   |returned v=>exact b _ _ m
   |panicked g=>exact m
   |outgrown=>exact m
  |row row args=>
   refine⟨λz=>absurd z Q5,λc cs _=>?_⟩;obtain⟨v,u,r,s⟩:=h c cs;exact⟨v,u,b _ _ r,stepsIn_wide.2 s⟩
  |_=>exact h.elim
 |halt x w'=>
  cases x with
  |panic v=>exact h
  |_=>exact h.elim
def RE{l n:Nat}{P:Program}{ops:Array Oper}{Q:Exit->Act->World->Prop}(p:∀(i:Nat) o,ops[i]?=some o->∀c,o.op≠ .defer c)(k:¬LetsOut Q):∀(y:List Nat)(a:Act)(w:World),wpOps P ops Q y a w->wpOpsIn (Fence.wide.inRound l) n P ops Q y a w
 |[],a,w,h=>h
 |i::y,a,w,h=>by
  simp only[wpOps]at h;simp only[wpOpsIn];cases ho:ops[i]? with
  |none=>rw[ho]at h;exact RE p k y a w h
  |some o=>
   rw[ho]at h;simp only at h ⊢;split at h
   ·rename_i t;rw[if_pos t];rcases h with h|⟨_,h⟩
    ·exact aU5 (p i o ho) h (λa w=>RE p k y a w) k
    ·exact absurd h k
   ·rename_i t;rw[if_neg t];exact⟨λ_ _=>trivial,RE p k y _ w h⟩
section
variable{P:Program}{B:Nat}{w0:World}{N:Nat}{ns:Id}{S:GR}{l n:Nat}
def pL{z o:St}{w:World}{g:Gh}{e:Ex}:¬LetsOut (Wr P B w0 N ns z w g e o):=by
 rintro⟨a,w',h,_⟩;cases e<;>cases h
def WD:Code->Bool
 | .region _ ops _=>ops.toList.all λo=>match o.op with| .defer _=>false|_=>true
 | .seq a b=>WD a&&WD b
 | .cond _ a b=>WD a&&WD b
 | .block _ c=>WD c
 | .loop c=>WD c
 |_=>true
def aB4{id:Nat}{ops:Array Oper}{t:Bool}(h:WD (.region id ops t)=true)(i:Nat)(o:Oper)(u:ops[i]?=some o)(c:Call):o.op≠ .defer c:=by
 intro e;have r:o∈ops.toList:=Array.mem_toList_iff.2 (Array.mem_of_getElem? u);have:=ZU.1 h o r;rw[e]at this;cases this
def aXU(hS:GR.ok P S):∀(ea:Code)(dc:DC),AA P N ea=some dc->WD ea=true->∀(u:St)(e:Ex)(ca:St),Ev S ns dc u e ca->∀(a:Act)(w:World)(g:Gh),Cm P B w0 N ns u a w g->
  ea.wpIn (Fence.wide.inRound l) n P (Wr P B w0 N ns u w g e ca) a w:=by
 intro ea;induction ea with
 |skip=>
  intro dc da ka u e ca ha a w g hx;simp only[AA,Ql]at da;subst da;obtain⟨rfl,rfl⟩:=ha;exact wpIn_skip ⟨rfl,g,hx,Hk.refl w g,DS.refl _ _ _⟩
 |ret=>
  intro dc da ka u e ca ha a w g hx;simp only[AA,Ql]at da;subst da;obtain⟨rfl,rfl⟩:=ha;exact wpIn_ret ⟨rfl,g,hx,Hk.refl w g,DS.refl _ _ _⟩
 |exit i=>
  intro dc da ka u e ca ha a w g hx;simp only[AA,Ql]at da;subst da;obtain⟨rfl,rfl⟩:=ha;exact wpIn_exit ⟨rfl,g,hx,Hk.refl w g,DS.refl _ _ _⟩
 |region id ops r=>
  intro dc da ka u e ca ha a w g hx;cases r with
  |false=>
   simp only[AA,QI]at da;obtain⟨aa,fa,rfl⟩:=da;obtain⟨rfl,he,hc⟩:=ha;rw[Fw,Fx S ns u.c aa aa 0 _ _ rfl,←Zf]at he;have hl:aa.length=ops.size:=by simpa using (Ca fa).1
   refine wpIn_region (RE (aB4 ka) pL _ a w ?_);rw[←hl];have h0:below 0=λ_=>false:=XX
   refine De hS fa (List.range aa.length) (below 0) u.s u.m a w g ca.s ca.m ?_ he (hx.start _) (λa' w' g' h1 h2 h3=>⟨rfl,g',?_,h2,h3⟩)
   ·rw[Zf];exact L6 _ 0
   ·rw[Zf,IQ]at h1;rw[Nat.zero_add]at h1;unfold Cm;rw[hc,QF];exact h1.done
  |true=>
   simp only[AA]at da;obtain⟨aa,ba,fa,hb,hs,ia,rfl⟩:=Cd da;obtain⟨rfl,⟨f,he,hf⟩,hc⟩:=ha;rw[EI]at he;refine wpIn_region_draw (λt=>RE (aB4 ka) pL _ a _ ?_);obtain⟨g1,g2⟩:=FL fa hb ia (P.follows .mixedOrders) t;have z:=LW (c:=u.c) (ns:=ns) hS hb hs he hf g1 g2;have oa:InS P B w0 N ns u.c u.s u.m a w.drew g:=⟨hx.inv.drew,λt=>(hx.slots t).ext (Hk.drew w g),hx.size,hx.defers,hx.fresh⟩;refine De hS fa _ (λ_=>false) u.s u.m a w.drew g ca.s ca.m (Lr g1) z (oa.start _) (λa' w' g' h1 h2 h3=>⟨rfl,g',?_,(Hk.drew w g).trans h2,h3⟩);unfold Cm;rw[hc,QF];rw[g2]at h1;exact h1.done
 |seq x y ta ua=>
  intro dc da ka u e ca ha a w g hx;obtain⟨pa,xa⟩:WD x=true∧WD y=true:=by simpa[WD]using ka
  simp only[AA]at da;split at da
  ·rename_i dx dy h1 h2;simp only[Ql]at da;subst da;obtain⟨e1,ga,d,ja⟩:=ha;have bb:=ta dx h1 pa u e1 ga d a w g hx;refine wpIn_seq (wpIn_mono bb ?_);rintro e' a' w' ⟨rfl,g',hh,ma,b⟩;rcases ja with ⟨rfl,v⟩|⟨la,rfl,rfl⟩
   ·exact wpIn_mono (ua dy h2 xa ga e ca v a' w' g' hh) (λcb ab ya h=>h.trans ma b)
   ·cases e with
    |normal=>exact absurd rfl la
    |ret=>exact⟨rfl,g',hh,ma,b⟩
    |exit i=>exact⟨rfl,g',hh,ma,b⟩
  ·cases da
 |cond c x y ta ua=>
  intro dc da ka u e ca ha a w g hx;obtain⟨pa,xa⟩:WD x=true∧WD y=true:=by simpa[WD]using ka
  simp only[AA]at da;split at da
  ·rename_i o dx dy h0 h1 h2;simp only[Ql]at da;subst da;have hc:=hx.slots.arg h0;rcases ha with ⟨ht,ha⟩|⟨ht,ha⟩
   ·rw[ht]at hc;exact wpIn_cond_true hc.bool_inv (ta dx h1 pa u e ca ha a w g hx)
   ·rw[ht]at hc;exact wpIn_cond_false hc.bool_inv (ua dy h2 xa u e ca ha a w g hx)
  ·cases da
 |block i c ih=>
  intro dc da ka u e ca ha a w g hx;simp only[AA,QI]at da;obtain⟨o,h1,rfl⟩:=da;obtain⟨e1,d,ja⟩:=ha;refine wpIn_block (wpIn_mono (ih o h1 ka u e1 ca d a w g hx) ?_);rintro e' a' w' ⟨rfl,g',hh,ma,b⟩;rcases ja with ⟨rfl,rfl⟩|⟨la,rfl⟩
  ·simp only[Ex.toExit,Exit.inBlock,if_true];exact⟨rfl,g',hh,ma,b⟩
  ·cases e with
   |normal=>exact⟨rfl,g',hh,ma,b⟩
   |ret=>exact⟨rfl,g',hh,ma,b⟩
   |exit j=>
    simp only[Ex.toExit,Exit.inBlock];rw[if_neg (λe=>la (by rw[e]))];exact⟨rfl,g',hh,ma,b⟩
 |loop c ih=>
  intro dc da ka u e ca ha a w g hx;simp only[AA,QI]at da;obtain⟨o,h1,rfl⟩:=da;obtain⟨k,za⟩:=ha;refine wpIn_loop_ghost (λk a' w'=>∃ga g1,Cm P B w0 N ns ga a' w' g1∧Hk w g w' g1∧DS ns u.m g ga.m g1∧Lp (Ev S ns o) k ga e ca) k ⟨u,g,hx,Hk.refl w g,DS.refl _ _ _,za⟩ ?_;rintro k a1 w1 ⟨ga,g1,hh,ma,b,sa⟩;cases sa with
  |stop _ _ _ hr la=>
   refine wpIn_mono (ih o h1 ka ga e ca hr a1 w1 g1 hh) ?_;rintro e' a' w' hp;have va:=hp.trans ma b;obtain⟨rfl,_⟩:=hp;cases e with
   |normal=>exact absurd rfl la
   |ret=>exact va
   |exit i=>exact va
  |more n' _ qa _ _ hr q=>
   refine wpIn_mono (ih o h1 ka ga .normal qa hr a1 w1 g1 hh) ?_;rintro e' a' w' ⟨rfl,g',ra,p,wa⟩;exact⟨n',Nat.lt_succ_self _,qa,g',ra,ma.trans p,b.trans wa,q⟩
 |_=>
  intro dc da;simp[AA]at da
end
end Go.Vd
namespace Go.Vd
open Go.RowKit Go.ChangeShapes Go.WideShapes Go.Deep
def allG(w:World)(b:Nat):Nat:=match w.heap[b]? with
 |some (.cells c _ _)=>c.size
 |_=>0
def SN(w:World)(b:Nat)(h:w.heap.size<=b):allG w b=0:=by
 grind [allG]
def V8{w:World}{p:Addr}{v:Value}(h:w.cell? p=some v):p.off<allG w p.block:=by
 unfold World.cell? at h;unfold allG;split at h
 ·grind
 ·cases h
def OU{α:Type}{p:Nat->α->Prop}:∀n,(∀i,i<n->∃x,p i x)->∃l:List α,l.length=n∧∀i x,l[i]?=some x->p i x
 |0,_=>⟨[],rfl,U⟩
 |n+1,h=>by
  obtain⟨l,u,q⟩:=OU n (λi hi=>h i O);obtain⟨x,f⟩:=h n O;refine⟨l++[x],by simp[u],λi y d=>?_⟩;by_cases hi:i<l.length
  ·grind
  ·grind
def VH(P:Program)(t:TypeId):Bool:=match P.underlying t with
 |some (.struct _)=>true
 |_=>false
def LF:Bool->List D->D
 |true,cs=> .agg cs
 |false,[d]=>d
 |false,_=> .junk
def aLo(F:TypeId->List D->Prop):List TypeId->List D->Prop
 |[],ds=>ds=[]
 |t::r,ds=>∃a b,ds=a++b∧F t a∧aLo F r b
def Fit(P:Program):Nat->TypeId->List D->Prop
 |0,_,_=>False
 |n+1,t,ds=>match P.underlying t with
  |some .string=>∃s,ds=[.str s]
  |some .bool=>∃b,ds=[.bool b]
  |some (.int k)=>∃x,ds=[.int k x]∧(Lit.int k x).wf=true
  |some (.struct fs)=>aLo (Fit P n) (fs.toList.map (·.type)) ds
  |some (.slice e)=>∃nl xs,ds=[.slice nl [] xs]∧(nl=true->xs=[])∧∀x∈xs,∃cs,x=LF (VH P e) cs∧Fit P n e cs
  |_=>False
def aA6(P:Program)(c:Nat):List Field->Nat->Bool
 |[],o=>o==c
 |f::r,o=>f.offset==o&&aA6 P c r (o+P.cellsOf f.type)
def Iy(P:Program):Nat->TypeId->Bool
 |0,_=>false
 |n+1,t=>match P.underlying t with
  |some .string=>P.cellsOf t==1
  |some .bool=>P.cellsOf t==1
  |some (.int _)=>P.cellsOf t==1
  |some (.struct fs)=>aA6 P (P.cellsOf t) fs.toList 0&&fs.toList.all λf=>Iy P n f.type
  |some (.slice e)=>P.cellsOf t==1&&Iy P n e
  |_=>false
structure Tt (w:World) (ds:List D) (cs:List Value):Prop where
 len:ds.length=cs.length
 calm:∀d∈ds,d.calm1=true
 un:ds.map D.un1=ds
 rep:∀(j:Nat) d v,ds[j]?=some d->cs[j]?=some v->Rep w (startG (allG w)) d v∧v.oneCell'=true
theorem Tt.one {w : World} {d : D} {v : Value} (u : d.calm1 = true) (q : d.un1 = d) (m : Rep w (startG (allG w)) d v) (o : v.oneCell' = true) : Tt w [d] [v] :=
 ⟨rfl, fun x f => by simp only [Qs, List.mem_nil_iff, or_false] at f; subst f; exact u, by simp [q], fun j x y f i => by
  match j with
  | 0 => simp only [QC, Ql] at f i; subst f i; exact ⟨m, o⟩
  | j + 1 => simp at f⟩
def Uo{c:Nat}{b:Bool}:∀(l:List (List D))(j:Nat)(d:D),(∀ds∈l,ds.length=c∧(LF b ds).cells=ds)->(flat (l.map (LF b)))[j]?=some d->∃i k ds,l[i]?=some ds∧ds[k]?=some d∧j=i*c+k
 |[],j,d,_,h=>by simp[flat]at h
 |x::r,j,d,hl,h=>by
  obtain⟨u,q⟩:=hl x (Qp ..);simp only[Zr,flat,q]at h;by_cases w:j<x.length
  ·rw[Q1 w]at h;exact⟨0,j,x,rfl,h,O⟩
  ·rw[QZ O]at h;obtain⟨i,k,ds,p,m,f⟩:=Uo r _ d (λds z=>hl ds (Qq _ z)) h;refine⟨i+1,k,ds,by simpa using p,m,?_⟩;rw[Nat.succ_mul];omega
section
variable{H:Type}{enc:TypeId×Value->H}{P:Program}{w:World}{base:Nat}{spare:Nat->Bool}{held:Bool}
def OK{n:Nat}{cs:List Value}{fuel:Nat}(ih:∀t,Iy P n t=true->∀(fuel:Nat)(cs:List Value) x,DataW.trod enc P w base spare held fuel t cs=some x->cs.length=P.cellsOf t∧∃ds,Fit P n t ds∧Tt w ds cs):
  ∀(fs:List Field)(o:Nat),aA6 P cs.length fs o=true->(fs.all λf=>Iy P n f.type)=true->(∀(j:Nat) f,fs[j]?=some f->∃y,DataW.trod enc P w base spare held fuel f.type ((cs.drop f.offset).take (P.cellsOf f.type))=some y)->
   o<=cs.length∧∃ds,aLo (Fit P n) (fs.map (·.type)) ds∧Tt w ds (cs.drop o)
 |[],o,s,_,_=>by
  simp only[aA6,beq_iff_eq]at s;subst s;refine⟨Qv _,[],rfl,U,U,rfl,U⟩
 |f::r,o,s,hp,hf=>by
  simp only[aA6,QO,beq_iff_eq]at s;obtain⟨rfl,s⟩:=s;simp only[List.all_cons,QO]at hp;obtain⟨y,p⟩:=hf 0 f rfl;obtain⟨u,a,m,k⟩:=ih _ hp.1 _ _ _ p;obtain⟨q,b,fb,sb⟩:=OK ih r _ s hp.2 (λj g hg=>hf (j+1) g (by simpa using hg));have c:cs.drop f.offset=(cs.drop f.offset).take (P.cellsOf f.type)++cs.drop (f.offset+P.cellsOf f.type):=by
   rw[←Za,Qy]
  refine⟨O,a++b,⟨a,b,rfl,m,fb⟩,?_⟩;rw[c];refine⟨by rw[QN,QN,k.len,sb.len],λd z=>?_,by rw[QS,k.un,sb.un],λj d v z i=>?_⟩
  ·rcases QP.1 z with h|h
   ·exact k.calm d h
   ·exact sb.calm d h
  ·have hl:=k.len;by_cases e:j<a.length
   ·rw[Q1 e]at z;rw[Q1 O]at i;exact k.rep j d v z i
   ·rw[QZ O]at z;rw[QZ O,←hl]at i;exact sb.rep _ d v z i
def Rh{n:Nat}{e:TypeId}{ds:List D}(h:Fit P n e ds):(LF (VH P e) ds).cells=ds∧(ds.all D.calm1=true->(LF (VH P e) ds).calm=true):=by
 cases n with
 |zero=>exact h.elim
 |succ n=>
  unfold Fit at h;unfold VH;split at h
  ·rename_i q;rw[q];obtain⟨s,rfl⟩:=h;exact⟨rfl,λ_=>rfl⟩
  ·rename_i q;rw[q];obtain⟨s,rfl⟩:=h;exact⟨rfl,λ_=>rfl⟩
  ·rename_i q;rw[q];obtain⟨s,rfl,_⟩:=h;exact⟨rfl,λ_=>rfl⟩
  ·rename_i u q;rw[q];exact⟨rfl,λg=>by simpa[LF,D.calm]using g⟩
  ·rename_i q;rw[q];obtain⟨nl,xs,rfl,_⟩:=h;exact⟨rfl,λ_=>rfl⟩
  ·exact h.elim
def RC:∀(n:Nat)(t:TypeId),Iy P n t=true->∀(fuel:Nat)(cs:List Value) x,DataW.trod enc P w base spare held fuel t cs=some x->cs.length=P.cellsOf t∧∃ds,Fit P n t ds∧Tt w ds cs
 |0,t,hp=>by simp[Iy]at hp
 |n+1,t,hp=>by
  intro fuel cs x h;unfold Iy at hp;unfold Fit;split at hp
  ·rename_i ht;simp only[beq_iff_eq]at hp;obtain⟨s,rfl,_⟩:=DataW.trod_string ht h;exact⟨hp.symm,_,⟨s.data.toList,rfl⟩,Tt.one rfl rfl (.str _) rfl⟩
  ·rename_i ht;simp only[beq_iff_eq]at hp;obtain⟨b,rfl,_⟩:=DataW.trod_bool ht h;exact⟨hp.symm,_,⟨b,rfl⟩,Tt.one rfl rfl (.bool _) rfl⟩
  ·rename_i k ht;simp only[beq_iff_eq]at hp;obtain⟨b,rfl,_,hw⟩:=DataW.trod_int ht h;exact⟨hp.symm,_,⟨b,rfl,hw⟩,Tt.one rfl rfl (.int _ _) rfl⟩
  ·rename_i fs ht;simp only[QO]at hp;obtain⟨ys,n',_,_,hl,z,hf⟩:=DataW.trod_struct ht h;rw[←hl]at hp;have:=OK (fuel:=n') (RC n) fs.toList 0 hp.1 hp.2 (λj f hj=>by
    have xa:fs[j]?=some f:=by simpa using hj
    have ta:j<fs.size:=(Qn.1 xa).1;have gb:ys[j]?=some (ys[j]' O):=Qi O;exact⟨_,(hf j f xa).trans gb⟩)
   obtain⟨_,ds,u,q⟩:=this;exact⟨hl,ds,u,XD⟩
  ·rename_i e ht;simp only[QO,beq_iff_eq]at hp;rcases open_slice ht h with ⟨rfl,_⟩|⟨a,len,cap,m,n',D',Pl,rfl,_,hl,_,hm,_,hi⟩
   ·exact⟨hp.1.symm,_,⟨true,[],rfl,(λ_=>rfl),(λx hx=>by cases hx)⟩,Tt.one rfl rfl (.nils []) rfl⟩
   ·have o:len<=m:=by rw[hm];split<;>omega
    have hc:=OU (p:=λi (ds:List D)=>Fit P n e ds∧ds.length=P.cellsOf e∧ds.all D.calm1=true∧∀(j:Nat) d,ds[j]?=some d->∃v,w.cell? (a.add (i*P.cellsOf e+j))=some v∧Rep w (startG (allG w)) d v∧v.oneCell'=true) len (λi y=>by
     obtain⟨da,u,q⟩:=hi i O;obtain⟨h3,ds,h4,h5⟩:=RC n e hp.2 _ _ _ q;refine⟨ds,h4,h5.len.trans h3,ZU.2 h5.calm,λj d hd=>?_⟩;have hj:j<ds.length:=(List.getElem?_eq_some_iff.1 hd).1;have g:j<da.length:=by rw[←h5.len];exact hj
     obtain⟨_,_,ia⟩:=World.cells?_some u;obtain⟨r1,r2⟩:=h5.rep j d _ hd (Qi g);refine⟨_,?_,r1,r2⟩;rw[←Go.Deep.add_add,ia j O,Qi g])
    obtain⟨l,ya,za⟩:=hc;have key:∀j,j<len*P.cellsOf e->∃v,w.cell? (a.add j)=some v∧v.oneCell'=true:=by
     intro j hj;have ga:0<P.cellsOf e:=by
      grind
     have hi:j / P.cellsOf e<l.length:=by rw[ya];exact Nat.div_lt_of_lt_mul (by rw[Z4];exact hj)
     obtain⟨_,q2,_,q4⟩:=za _ _ (Qi hi);have hk:j % P.cellsOf e<(l[j / P.cellsOf e]).length:=by rw[q2];exact Nat.mod_lt _ ga
     obtain⟨v,u,_,h3⟩:=q4 _ _ (Qi hk);rw[Z4,Nat.div_add_mod]at u;exact⟨v,u,h3⟩
    have ka:∀ds∈l,ds.length=P.cellsOf e∧(LF (VH P e) ds).cells=ds∧(LF (VH P e) ds).calm=true:=λds hd=>by
     obtain⟨i,hi,rfl⟩:=QK hd;obtain⟨q1,q2,q3,_⟩:=za i _ (Qi hi);exact⟨q2,(Rh q1).1,(Rh q1).2 q3⟩
    refine⟨hp.1.symm,[.slice false [] (l.map (LF (VH P e)))],⟨false,_,rfl,(λr=>by cases r),λx hx=>?_⟩,Tt.one rfl rfl ?_ rfl⟩
    ·obtain⟨ds,hd,rfl⟩:=Zi.1 hx;obtain⟨i,hi,rfl⟩:=QK hd;exact⟨_,rfl,(za i _ (Qi hi)).1⟩
    ·refine .slice [] _ a len cap (P.cellsOf e) (λj=>(w.cell? (a.add j)).getD undef) (by simp[ya]) hl (λd hd=>?_) (λj hj=>?_) (λj hj=>?_) (λj d hd=>?_) (λr=>?_) (λh=>absurd rfl h) (λd hd=>?_)
     ·grind
     ·grind
     ·grind
     ·obtain⟨i,k,ds,e1,e2,rfl⟩:=Uo (c:=P.cellsOf e) l j d (λds fa=>⟨(ka ds fa).1,(ka ds fa).2.1⟩) hd;obtain⟨_,_,_,q4⟩:=za i ds e1;obtain⟨v,u,q,_⟩:=q4 k d e2;simp only[u,Q0];exact q
     ·obtain⟨v,hv,_⟩:=key (len*P.cellsOf e-1) O;have:=V8 hv;rw[Dr,B8]at this;show a.off+len*P.cellsOf e<=allG w a.block;omega
     ·obtain⟨ds,fa,rfl⟩:=Zi.1 hd;exact(ka ds fa).2.2
  ·cases hp
end
end Go.Vd
namespace Go.Vd
open Go.Proofs Go.RowKit Go.Shelf
def SD(w:World)(n b:Nat):Nat:=if b<n then allG w b else 0
def DAt(n:Nat)(w:World)(d:D)(v:Value):Prop:=Rep w (Gh.base (SD w n)) d v
def yS{n:Nat}{w W:World}(f:Below n w W)(b:Nat):SD w n b=SD W n b:=by
 unfold SD;split
 ·rename_i h;unfold allG;rw[f.block b h]
 ·rfl
def aSS{n:Nat}{w:World}{p:Addr}(h:p.off<SD w n p.block):p.block<n:=by
 unfold SD at h;split at h
 ·assumption
 ·omega
def DAt.below{n:Nat}{w W:World}{d:D}{v:Value}(h:DAt n w d v)(g:d.calm=true)(f:Below n w W):DAt n W d v:=
 Rep.calm_to h g (λp o=>f.cell (aSS o)) (λb=>Nat.le_of_eq (yS f b))
def DAt.more{n k:Nat}{w:World}{d:D}{v:Value}(h:DAt n w d v)(g:d.calm=true)(s:n<=k):DAt k w d v:=
 Rep.calm_to h g (λ_ _=>rfl) (λb=>by
  show SD w n b<=SD w k b;unfold SD;split
  ·rw[if_pos O];exact Qv _
  ·exact Qo _)
def bAv(w:World)(i:Id)(b:Nat):Gh:={G:=λk=>if k=b then 0 else allG w k,G0:=λk=>if k=b then 0 else allG w k,dl:=λj=>if j=i then some b else none,tb:=λ_=>none}
def DAt.rep{n:Nat}{w:World}{d:D}{v:Value}(h:DAt n w d v)(g:d.calm=true){i:Id}{b:Nat}(f:n<=b):Rep w (bAv w i b) d v:=
 Rep.calm_to h g (λ_ _=>rfl) (λk=>by
  show SD w n k<=if k=b then 0 else allG w k
  unfold SD;split
  ·rw[if_neg O];exact Qv _
  ·exact Qo _)
def aKc(i:Id)(d:D):GV:=GV.put (λ_ _=>none) i 0 [d]
def aKb{i j:Id}{o:Nat}{d n:D}(h:aKc i d j o=some n):j=i∧o=0∧n=d:=by
 unfold aKc GV.put at h
 grind
end Go.Vd
namespace Go.Vd
open Go.Proofs Go.RowKit
def bQ:Code->Option (Code×Code)
 | .rangeFunc _ _ a b=>some (a,b)
 | .seq a b=>(bQ a).or (bQ b)
 | .cond _ a b=>(bQ a).or (bQ b)
 | .block _ a=>bQ a
 | .loop a=>bQ a
 | .scope a=>bQ a
 |_=>none
def rfB(f:Func):Code:=((bQ (bAt f)).getD (.skip,.skip)).2
abbrev y4(f:Func)(ps:List (Nat×List (Nat×Nat)))(ls:List (Nat×DC)){c:DC}(_:tQ ps ls (rfB f)=c:=by exact Eq.trans (by conv=>lhs;whnf) (by simp only[tQ,qX,List.append_eq,tR,tO,tAt,tAi,tAb,tAs,tAf,tAl,tAp,tAn,tAu,tAg,zT,Tz.k,Tz.z,Tz.n,Tz.d,tL,tP,tB,tE,tX,tS,tI,tG,tC,tM,fAt,RK,lk,ofVal,List.getD_cons_zero,List.getD_cons_succ,List.map_cons,List.map_nil,List.length_cons,List.length_nil,List.headD_cons,List.cons_append,List.nil_append,Option.map_some,Option.map_none,Option.getD_some,Bool.false_eq_true,reduceIte,Nat.reduceAdd,Nat.reduceMul,Nat.reduceEqDiff]<;>rfl)):DC:=c
end Go.Vd
namespace Go.Vd
open Go.Proofs Go.RowKit Go.Shelf
def Ld(W:World)(b:Nat)(v:Value):Prop:=∃vs T,W.heap[b]?=some (.cells vs T (0,0))∧vs[0]?=some v
def Ld.cell{W:World}{b:Nat}{v:Value}(h:Ld W b v):W.cell? ⟨b,0,none⟩=some v:=by
 obtain⟨vs,T,u,q⟩:=h;simp[World.cell?,u,q]
def aFa{α:Type}(b:Nat)(f:α->Value):Own (λ(s:α) W=>Ld W b (f s)):=λs A n row ⟨vs,T,u,q⟩ a j=>by
 refine⟨vs,T,?_,q⟩;have v:b<A.heap.size:=(Qn.1 u).1;refine(a.block b v (λe=>?_)).trans u;obtain⟨o,r,g⟩:=j b e.symm;rw[u]at r;cases r;cases g
def iX(T:Array Value)(k v k2 v2:Nat)(x:Bs×Bs):Array Value:=(((T.setIfInBounds k (encStr x.1)).setIfInBounds v (encStr x.2)).setIfInBounds k2 (encStr x.1)).setIfInBounds v2 (encStr x.2)
def vH(T:Array Value)(k v k2 v2:Nat)(x:Bs×Bs):(iX T k v k2 v2 x).size=T.size:=by simp[iX]
def Gg{T:Array Value}{i j:Nat}{u d:Value}(h:j≠i):(T.setIfInBounds i u).getD j d=T.getD j d:=by
 rw[QX,QX,Array.getElem?_setIfInBounds_ne (Ne.symm h)]
def Uk{T:Array Value}{i:Nat}{u d:Value}(h:i<T.size):(T.setIfInBounds i u).getD i d=u:=by
 rw[QX,Array.getElem?_setIfInBounds_self_of_lt h];rfl
end Go.Vd
namespace Go.Vd
open Go.Proofs Go.RowKit
def Ho{m:GV}{i:Id}{a b c:D}:Ai (m.put i 0 [a,b,c]) i 0 3=some [a,b,c]:=AM rfl
def BC{m:GV}{i:Id}{a b c:D}:m.put i 0 [a,b,c] i 0=some a:=A_ (k:=0) Ho rfl
def BK{m:GV}{i:Id}{a b c:D}:m.put i 0 [a,b,c] i 1=some b:=A_ (k:=1) Ho rfl
def BW{m:GV}{i:Id}{a b c:D}:m.put i 0 [a,b,c] i 2=some c:=A_ (k:=2) Ho rfl
def Bf{m:GV}:Ha.app m []=m:=rfl
def Rg{m:GV}{i:Id}{a:D}:m.put i 0 [a] i 0=some a:=CV
def lS:=y2 f140 [] []
def aEr:=y2 f81 [(4,[(10,7)])] []
def Ng:=y3 f37 3 [(13,[(2,1)])] []
def aEF:=y2 f37 [] [(3,Ng)]
def M6:=y3 f150 3 [] []
def aEk:=y2 f150 [] [(3,M6)]
def aEq:=y2 f84 [] []
def aEj:=y2 f152 [] []
def Na:=y3 f85 6 [(8,[(1,0)])] []
def IY:=y3 f85 3 [] [(6,Na)]
def aEp:=y2 f85 [] [(3,IY)]
def Nf:=y3 f39 2 [] []
def aEE:=y2 f39 [] [(2,Nf)]
def aES:=y2 f11 [(1,[(1,0)]),(2,[(1,0)])] []
def aU3{a b:Nat}(x:a<256)(f:b<256):bits .or .u64 ((a*256:Nat):Int) (b:Int)=((a*256+b:Nat):Int):=by
 have h:(a*256)|||b=a*256+b:=by
  have:=Nat.shiftLeft_add_eq_or_of_lt (i:=8) (b:=b) O a;rw[Nat.shiftLeft_eq]at this;exact this.symm
 have w:IntKind.u64.bits=64:=rfl;unfold bits;simp only[BitVec.ofInt_natCast,BitVec.toNat_or,BitVec.toNat_ofNat,w];rw[ZV O,ZV O,h];exact B3 O O
def be2{n:Nat}(h:n<65536):OY 2 (n:Int)=[UInt8.ofNat (n / 256),UInt8.ofNat (n % 256)]:=by
 have p:((n:Int).fdiv (2 ^ (8*1)) % 256).toNat=n / 256:=by
  rw[Zk _ Z];omega
 have m:((n:Int).fdiv (2 ^ (8*0)) % 256).toNat=n % 256:=by
  rw[Zk _ Z];omega
 simp only[OY,p,m]
def fX:aKt [.int .i64 2]=some (.bool true):=by
 refine Aq (Qj rfl) ?_;unfold aDP;simp only[↓GQ,GT,GS,reduceIte,QE,Qu,reduceCtorEq,Zz]
 all_goals exact Qd
def fZ(s:Bs)(p:Nat)(hl:s.length<=1000000)(a b:Nat)(x:a<256)(i:b<256)(d:(s.drop p).take 2=[UInt8.ofNat a,UInt8.ofNat b]):mV [.agg (Hr s p 0),.int .i64 2]=some (.tup [.int .u64 ((a*256+b:Nat):Int),.agg (Hr s (p+2) 0)]):=by
 have z:p+2<=s.length:=by
  have:=congrArg Z6 d;simp only[Zw,ZW,Qm,QL]at this;omega
 refine Aq (Qj rfl) ?_;unfold rB;have w:=Rd s p 0 O;have v:=FH s p 0 hl O;have c:=fX;unfold Hr at *;have q:(((s.length-p:Nat):Int)<2)=False:=eq_false O;have t:IntKind.i64.wrap ((p:Int)+2)=((p+2:Nat):Int):=Hg O O;have r:((0:Int)<=((p+2:Nat):Int)∧((p+2:Nat):Int)<=((s.length:Nat):Int))=True:=eq_true O;have b2:((0:Int)<=(p:Int)∧(p:Int)<=((p+2:Nat):Int))=True:=eq_true O;have m:p+2-p=2:=O
 have k:(UInt8.ofNat a).toNat=a:=Xc
 have hB:(UInt8.ofNat b).toNat=b:=Xc
 have na:Aw [UInt8.ofNat a,UInt8.ofNat b]=[.int .u8 (a:Int),.int .u8 (b:Int)]:=by
  unfold Aw;simp only[Zr,Q8,k,hB]
 have y:AQ .shl (.int .u64 0) (.int .u64 8)=some (.int .u64 0):=rfl;have f:AQ .shl (.int .u64 (a:Int)) (.int .u64 8)=some (.int .u64 ((a*256:Nat):Int)):=by
  show some (D.int .u64 (IntKind.u64.wrap ((a:Int)*2 ^ min (8:Int).toNat IntKind.u64.bits)))=_;have:((a:Int)*2 ^ min (8:Int).toNat IntKind.u64.bits)=((a*256:Nat):Int):=by
   show(a:Int)*256=_;omega
  rw[this,B3 O O]
 have u:bits .or .u64 0 (a:Int)=(a:Int):=or0 ⟨a,x⟩;have e:=aU3 x i;have n:IntKind.u64.wrap (a:Int)=(a:Int):=B3 O O;have g:IntKind.u64.wrap (b:Int)=(b:Int):=B3 O O;have oa:IntKind.i64.wrap ((0:Int)+1)=1:=rfl;have o:IntKind.i64.wrap ((1:Int)+1)=2:=rfl;generalize UInt8.ofNat a=j at *;generalize UInt8.ofNat b=ub at *;simp only[↓GQ,GT,GS,reduceIte,QE,Qu,Zb,reduceCtorEq,Ad Mi 205,w,Ad Mi 203,v,Ad Mi 206,c,q,t,r,b2,m,Qh,d,na];refine Af Ls.eq_1 ?_;simp only[↓GQ,GT,GS,reduceIte,QE,Qu,y,u,n,oa,Zl,d,Int.zero_lt_one,Zm,Zp,ZS,Zz,Z0];refine Af Ls.eq_1 ?_;simp only[↓GQ,GT,GS,reduceIte,QE,Qu,Zb,f,e,g,o,d,Zm,ZS,Zz,Z0];refine Af Ls.eq_1 ?_;simp only[↓GQ,GT,GS,reduceIte,QE,Qu,Zb,Zx,Zs,reduceCtorEq,Int.lt_irrefl,t]
 repeat refine AJ ?_
 simp only[↓GQ,GT,GS,reduceIte,QE,Qu,Zb,Zx,Zs]
 all_goals exact Qd
def CR{m:GV}{i:Id}{a b c:D}:Ai (m.put i 0 [a,b,c]) i 1 1=some [b]:=jE (n:=3) (cs:=[a,b,c]) Ho Z
def O7{m:GV}{i:Id}{a b c x:D}:(m.put i 0 [a,b,c]).put i 1 [x]=m.put i 0 [a,x,c]:=by
 funext j o;unfold GV.put;by_cases h:j=i
 ·subst h
  match o with
  |0=>simp
  |1=>simp
  |2=>simp
  |o+3=>simp;omega
 ·simp[h]
def SV:=Az [(141,Ac mV),(203,Ac fY),(204,Ac aKr)]
def S5:=RF SV lS [.t 2,.cell (some 3) 3] 38
def aCK:Kq S5 140:=Av (Al func140) (Aa aCF (Aa qH (Aa aMR Ae)))
def aGp(s d row b:Bs)(g:s=d++MA row++b)(hl:s.length<=1000000)(j:row.length<65536):S5 [.agg (Hr s d.length 0)]=some (.tup [.str row,.agg (Hr s (d++MA row).length 0)]):=by
 refine Aq (Qj rfl) ?_;unfold lS;have z:MA row=UInt8.ofNat (row.length / 256)::UInt8.ofNat (row.length % 256)::row:=by unfold MA;rw[be2 j];rfl
 have f:s.length=d.length+2+row.length+b.length:=by rw[g,z];simp only[QN,Qm];omega
 have w:(s.drop d.length).take 2=[UInt8.ofNat (row.length / 256),UInt8.ofNat (row.length % 256)]:=by
  rw[g,z,QU,Zj];rfl
 have a:=fZ s d.length hl (row.length / 256) (row.length % 256) O O w;have c:row.length / 256*256+row.length % 256=row.length:=O
 rw[c]at a;have k:(s.drop (d.length+2)).take row.length=row:=by
  rw[g,z,QU,←Za,Zj];exact List.take_left
 have x:(d++MA row).length=d.length+2+row.length:=by rw[z];simp only[QN,Qm];omega
 rw[x];have v:=FH s (d.length+2) 0 hl O;generalize d.length=p at *;generalize q:row.length=n at *;have u:IntKind.i64.wrap (n:Int)=(n:Int):=Hg O O;have c1:(((s.length-(p+2):Nat):Int)<(n:Int))=False:=eq_false O;have t:IntKind.i64.wrap (((p+2:Nat):Int)+(n:Int))=((p+2+n:Nat):Int):=Xg
 have r:((0:Int)<=((p+2+n:Nat):Int)∧((p+2+n:Nat):Int)<=((s.length:Nat):Int))=True:=eq_true O;have b2:((0:Int)<=((p+2:Nat):Int)∧((p+2:Nat):Int)<=((p+2+n:Nat):Int))=True:=eq_true O;have m:p+2+n-(p+2)=n:=O
 clear g;unfold Hr at *
 repeat' (first|(refine aA (Ah Xe) ?_)|simp (disch:=first|assumption|omega)only[↓GQ,GT,simprocAttr,GY,Ad SV 141,a,Ad SV 203,v,u,c1,t,r,b2,m,Qh,k,Ho,BC,BK,BW,CR,O7,Bf,Hi,pO,Qk,and_self])
 simp (disch:=first|assumption|omega)only[GU,↓GQ,GS,reduceIte,QE,Qu,Zb,Zx,Zs,reduceCtorEq,Int.reduceEq,Int.reduceNe,ZS,Zz,GY,Ho,Hi,pO]
 all_goals exact Qd
def aIz{s:Nat->D}{m:GV}{a b c:Nat}{i j:Id}{x y:List D}(u:s a= .ptr i 0)(q:s b= .ptr j 0)(f:Ai m i 0 3=some x)(d:Ai m j 0 3=some y):B6 [.cell (some 3) a,.cell (some 3) b,.t c] s m=some (.tup [.agg x,.agg y,s c]):=by
 simp[B6,Fj,RV.of,WF,u,q,f,d]
def aJS{s:Nat->D}{m:GV}{a b c:Nat}{i j:Id}{x y:List D}{f:D->Prop}{t:Tag f}(u:s a= .ptr i 0)(q:s b= .ptr j 0)(p:Ai m i 0 3=some x)(d:Ai m j 0 3=some y)(o:f (.tup [.agg x,.agg y,s c])):Hl (B6 [.cell (some 3) a,.cell (some 3) b,.t c] s m) f t:=by
 exact⟨_,aIz u q p d,o⟩
def aFM:=Az [(141,Ac mV),(140,Ac S5)]
def aGy:=RF aFM aEr [.cell (some 3) 2,.cell (some 3) 3,.t 4] 33
def aR8:Kq aGy 81:=Av (Al func81) (Aa aCF (Aa aCK Ae))
def EA:GR:=Az [(81,Ac aGy),(82,Ac F45)]
def tN:List D->Option D:=RF EA aEF [.cell (some 1) 2,.t 3] 63
def aSi:Kq tN 37:=Av (Al func37) (Aa aR8 (Aa aVa Ae))
def NL{m:GV}{i:Id}{a:D}:Ai (m.put i 0 [a]) i 0 1=some [a]:=AM rfl
def rZ:=Az [(27,Ac aGl)]
def tK:=RF rZ aEE [.t 2] 13
def aSh:Kq tK 39:=Av (Al func39) (Aa aM1 Ae)
def UC:=Az [(203,Ac fY),(140,Ac S5)]
def aGo:=RF UC aEk [.t 2,.t 3] 30
def aR2:Kq aGo 150:=Av (Al func150) (Aa qH (Aa aCK Ae))
def LG.low_put{c0 e c q o:Nat}{m0 m:GV}{nl:Bool}{t:Id}{ds:List D}(h:LG c0 m0 e m c nl t)(v:q<c0):LG c0 (m.put [q] o ds) e (m.put [q] o ds) c nl t:=by
 obtain⟨u,z,d⟩:=h;refine⟨λ_ _ _=>rfl,?_,d⟩;rcases z with h|⟨j,rfl,x,k,i⟩
 ·exact .inl h
 ·refine .inr ⟨j,rfl,x,k,?_⟩;rw[aB Xc];exact i
def I3:=Az [(150,Ac aGo),(151,Ac sY),(59,Ac NK)]
def sX:=RF I3 aEq [.cell (some 3) 4,.t 5] 45
def aR7:Kq sX 84:=Av (Al func84) (Aa aR2 (Aa aCP (Aa aBV Ae)))
def mU(s:Bs)(p:Nat)(hl:s.length<=1000000)(o:p<=s.length)(h:s.length<p+2):mV [.agg (Hr s p 0),.int .i64 2]=some (.tup [.int .u64 0,.agg (Hr s p 3)]):=by
 refine Aq (Qj rfl) ?_;unfold rB;have w:=Rd s p 0 o;have v:=FH s p 0 hl o;have c:=fX;have b:=λx=>Wm s p 0 x
 unfold Hr at *;have n:(((s.length-p:Nat):Int)<2)=True:=eq_true O;simp only[↓GQ,GT,GS,reduceIte,QE,Qu,Zb,reduceCtorEq,Ad Mi 205,w,Ad Mi 203,v,Ad Mi 206,c,Ad Mi 204,b,n]
 all_goals exact Qd
def DK(s:Bs)(p:Nat):Nat:=(s.getD p 0).toNat*256+(s.getD (p+1) 0).toNat
def Ef(s:Bs)(p:Nat):Option Bs:=if s.length<p+2 then none else if s.length<p+2+DK s p then none else some ((s.drop (p+2)).take (DK s p))
def ET{s r:Bs}{p:Nat}(h:Ef s p=some r):s=s.take p++MA r++s.drop (p+2+r.length)∧p+2+r.length<=s.length∧r.length<65536:=by
 unfold Ef at h;split at h
 ·cases h
 rename_i q;split at h
 ·cases h
 rename_i d;have j:r=(s.drop (p+2)).take (DK s p):=(QM h).symm;have c:DK s p<65536:=by
  unfold DK;have:=(s.getD p 0).toNat_lt;have:=(s.getD (p+1) 0).toNat_lt;omega
 have k:r.length=DK s p:=by rw[j,Zw,ZW];omega
 refine⟨?_,O,O⟩;have b:s.getD p 0=s[p]:=by rw[Q_,Qi O];rfl
 have n:s.getD (p+1) 0=s[p+1]:=by rw[Q_,Qi O];rfl
 have v:MA r=s[p]::s[p+1]::r:=by
  unfold MA;rw[be2 O,k];have t:=(s[p]).toNat_lt;have a1:=(s[p+1]).toNat_lt;have a:DK s p / 256=s[p].toNat:=by unfold DK;rw[b,n];omega
  have g:DK s p % 256=s[p+1].toNat:=by unfold DK;rw[b,n];omega
  rw[a,g];simp
 have z:s.drop p=s[p]::s[p+1]::s.drop (p+2):=Y2
 have ta:s.drop (p+2)=r++s.drop (p+2+r.length):=by
  rw[k]
  conv=>lhs;rw[←Qy (DK s p) (s.drop (p+2)),Za]
  rw[j]
 conv=>lhs;rw[←Qy p s,z,ta]
 rw[v];simp
def S3{s r:Bs}{p:Nat}(hl:s.length<=1000000)(h:Ef s p=some r):S5 [.agg (Hr s p 0)]=some (.tup [.str r,.agg (Hr s (p+2+r.length) 0)]):=by
 obtain⟨u,q,d⟩:=ET h;have:=aGp s (s.take p) r (s.drop (p+2+r.length)) u hl d;have n:(s.take p).length=p:=Xn
 have m:(s.take p++MA r).length=p+2+r.length:=by
  unfold MA;rw[be2 d];simp only[QN,n,Qm,QL];omega
 rw[n,m]at this;exact this
def S4{s:Bs}{p:Nat}(hl:s.length<=1000000)(o:p<=s.length)(h:Ef s p=none):S5 [.agg (Hr s p 0)]=some (.tup [.str [],.agg (Hr s p 3)]):=by
 refine Aq (Qj rfl) ?_;unfold lS;by_cases q:s.length<p+2
 ·have a:=mU s p hl o q;unfold Hr at *
  repeat' (first|(refine aA (Ah Xe) ?_)|simp (disch:=first|assumption|omega)only[GU,↓GQ,GS,simprocAttr,GY,Ad SV 141,a,Ho,BC,BK,BW,CR,O7,Bf,Hi,pO,Qk,and_self])
  all_goals exact Qd
 ·have d:s.length<p+2+DK s p:=by
   unfold Ef at h;rw[if_neg q]at h;split at h
   ·assumption
   ·cases h
  have i:=(s.getD p 0).toNat_lt;have y:=(s.getD (p+1) 0).toNat_lt;have g:(s.drop p).take 2=[UInt8.ofNat (s.getD p 0).toNat,UInt8.ofNat (s.getD (p+1) 0).toNat]:=by
   have z:s.drop p=s[p]::s[p+1]::s.drop (p+2):=Y2
   have w:s.getD p 0=s[p]:=by rw[Q_,Qi O];rfl
   have u:s.getD (p+1) 0=s[p+1]:=by rw[Q_,Qi O];rfl
   rw[z,w,u,UInt8.ofNat_toNat,UInt8.ofNat_toNat];rfl
  have c:DK s p<65536:=by unfold DK;omega
  have a:=fZ s p hl _ _ i y g;have v:=FH s (p+2) 0 hl O;have b:=Wm s p 0 3;rw[show(s.getD p 0).toNat*256+(s.getD (p+1) 0).toNat=DK s p from rfl]at a;generalize DK s p=n at *;have ma:IntKind.i64.wrap (n:Int)=(n:Int):=Hg O O;have c1:(((s.length-(p+2):Nat):Int)<(n:Int))=True:=eq_true O;unfold Hr at *
  repeat' (first|(refine aA (Ah Xe) ?_)|simp (disch:=first|assumption|omega)only[GU,↓GQ,GS,simprocAttr,GY,Ad SV 141,a,Ad SV 203,v,Ad SV 204,b,ma,c1,Ho,BC,BK,BW,CR,O7,Bf,Hi,pO,Qk,and_self])
  all_goals exact Qd
def Fc:Nat->Bs->Nat->Option (List Bs)
 |0,s,p=>if s.length<=p then some []else none
 |f+1,s,p=>if s.length<=p then some []else match Ef s p with
  |none=>none
  |some r=>(Fc f s (p+2+r.length)).map (r::·)
def wV{s:Bs}(hl:s.length<=2000){Q:Ex->St->Prop}{R:Option (List Bs)}
  (hQ:∀x nl t l,R=some l->x.s 4= .slice nl t (AL l)->nl=decide (l.length=0)->Q (.exit 0) x)
  (hE:∀x,R=none->x.s 2= .slice true [] []->x.s 3= .int .i64 3->Q .ret x):
  ∀(f p:Nat)(acc:List Bs)(nl:Bool)(t:Id)(m0:GV)(z:St) g,s.length<=p+f->p<=s.length->2*acc.length<=p->R=(Fc f s p).map (acc++·)->LG 7 m0 9 z.m z.c nl t->nl=decide (acc.length=0)->z.s 4= .slice nl t (AL acc)->z.s 5= .ptr [5] 0->Ai z.m [5] 0 3=some (Hr s p 0)->AK UC [] M6 Q z g:=by
 intro f;induction f with
 |zero=>
  intro p acc nl t m0 z g j u ha hR i qa w k m5;refine Af M6.eq_1 ?_;have e:p=s.length:=O
  subst e;have a:UC 203=some (Ac fY):=rfl;have y:=FH s s.length 0 O (Qv _);rw[Nat.sub_self]at y;simp only[Hr]at y m5;simp only[↓GQ,GT,simprocAttr,GY,k,m5,Ab a,y];refine hQ _ nl t acc ?_ w qa;rw[hR];unfold Fc;rw[if_pos (Qv _)];simp
 |succ f ih=>
  intro p acc nl t m0 z g j u ha hR i qa w k m5;refine Af M6.eq_1 ?_;have a:UC 203=some (Ac fY):=rfl;have y:=FH s p 0 O u;unfold Fc at hR;by_cases sa:s.length<=p
  ·rw[if_pos sa]at hR;have e0:s.length-p=0:=by omega
   rw[e0]at y;simp only[Hr]at y m5;simp only[↓GQ,GT,simprocAttr,GY,k,m5,Ab a,y];exact hQ _ nl t acc (by rw[hR];simp) w qa
  rw[if_neg sa]at hR;have c1:((0:Int)<((s.length-p:Nat):Int))=True:=eq_true O;have c2:((acc.length:Int)=1024)=False:=eq_false O;have v:(AL acc).length=acc.length:=Bb _;have oa:nl=true->AL acc=[]:=λh=>by
   rw[qa]at h;rw[Q6.1 (of_decide_eq_true h)];rfl
  obtain⟨ja,ga,n⟩:=z;simp only at i w k m5;have d:=i.le;cases hrow:Ef s p with
  |none=>
   rw[hrow]at hR;have b:=S4 O u hrow;simp only[Hr]at y b m5
   repeat' (first|(refine aA (Ah (by simp[Ap,An,GZ,Ag,Ac,GW.ev,AG,k])) ?_)|simp (disch:=first|assumption|omega)only[↓GQ,GT,simprocAttr,GY,k,w,v,c1,c2,m5,Ab a,y,Ad UC 140,b,Ho,BC,BK,BW,Hi,pO,Qk,and_self,and_false])
   exact hE _ hR rfl rfl
  |some r=>
   rw[hrow]at hR;obtain⟨_,ka,_⟩:=ET hrow;have b:=S3 O hrow;have fb:AL (acc++[r])=AL acc++[.str r]:=by simp[AL]
   have ih:=ih (p+2+r.length) (acc++[r]) false;rw[fb]at ih;simp only[Hr]at y b m5;generalize AL acc=xs at *;simp (disch:=first|assumption|omega)only[↓GQ,GT,simprocAttr,GY,k,w,v,c1,c2,m5,Ab a,y,Ad UC 140,b,Ho,BC,BK,BW,Hi,pO,Qk,and_self,and_false];have fa:=(i.low_put (q:=5) (o:=0) (ds:=[.str s,.int .i64 ((p+2+r.length:Nat):Int),.int .i64 0]) O);refine aA ⟨O,rfl,(fa.put O).grow⟩ ?_;rw[Ba oa];simp (disch:=first|assumption|omega)only[↓GQ,GT,simprocAttr,GY,Hi,pO,Qk,and_self];have na:=(fa.put (c':=n+3+3+1+7+3+2) (o:=0) (ds:=[.tok 10]) O).app (xs:=xs) (c':=n+3+3+1+7+3+3) (c2:=n+3+3+1+7+3+5) O O;refine ih _ _ _ _ O O XA ?_ na U rfl k ?_
   ·rw[hR,Option.map_map];congr 1;funext l;simp
   ·exact(na.rd O).trans Ho
def aAe(s:Bs)(hl:s.length<=2000):aGo [.str s]=some (match Fc s.length s 0 with|some l=> .tup [.slice (decide (l.length=0)) [] (AL l),.int .i64 0]|none=> .tup [.slice true [] [],.int .i64 3]):=by
 refine Aq (Qj rfl) ?_;unfold aEk;simp (disch:=first|assumption|omega)only[GU,↓GQ,GS,simprocAttr,GY];refine wV hl (R:=Fc s.length s 0) (λo nl t l g w x=>?_) (λo g q d=>?_) s.length 0 [] true [] _ _ _ O (Qo _) (Qv _) U (LG.start (Qj rfl)) rfl rfl rfl ?_
 ·subst x;rw[g];simp (disch:=first|assumption|omega)only[GU,↓GQ,GS,simprocAttr,GY,w]
  all_goals exact Qd
 ·rw[g];simp (disch:=first|assumption|omega)only[GU,↓GQ,GS,simprocAttr,GY,q,d]
  all_goals exact Qd
 ·exact Ho
def Vi(s:Bs)(g:s.length<=1000):(Cc s).2.1.length<=1001∧∀r∈(Cc s).2.1,r.1.length<=1000∧0<=r.2∧r.2<256:=by
 unfold Cc;split
 ·exact⟨Qo _,λr h=>Xd⟩
 split
 ·exact⟨Qo _,λr h=>Xd⟩
 split
 ·exact⟨Qo _,λr h=>Xd⟩
 ·refine⟨YO,λr h=>?_⟩;obtain⟨x,f,rfl⟩:=Zi.1 h;have:=EK s x f;have:=P6 x 58;have:=lX (BY x 58).2.1;exact⟨YU,Yr,YV⟩
def My:∀(f:Nat){s:Bs}{p:Nat}{l:List Bs},Fc f s p=some l->∀r∈l,r.length<=s.length
 |0,s,p,l,h,r,hr=>by
  unfold Fc at h;split at h
  ·cases h;cases hr
  ·cases h
 |f+1,s,p,l,h,r,hr=>by
  unfold Fc at h;split at h
  ·cases h;cases hr
  ·split at h
   ·cases h
   ·rename_i r0 y;obtain⟨z,u,rfl⟩:=QI.1 h;rcases Qs.1 hr with rfl|hr
    ·have:=(ET y).2.1;omega
    ·exact My f u r hr
def DG(n s:Bs):Option Tk×Int:=
 match Fc s.length s 0 with
 |none=>(none,3)
 |some [p,x]=>if(Cc x).2.2≠0∨Dc n p (Cc x).2.1≠0 then(none,4)else(some (n,p,(Cc x).1,(Cc x).2.1),0)
 |some _=>(none,4)
def Lz:Option Tk->D
 |some k=>HD k
 |none=> .agg [.str [],.str [],.slice true [] []]
def aAh(n s:Bs)(hn:n.length<=1000000)(hs:s.length<=1000):sX [.str n,.str s]=some (.tup [Lz (DG n s).1,.int .i64 (DG n s).2]):=by
 refine Aq (Qj rfl) ?_;have d:=aAe s O;have g:∀l,Fc s.length s 0=some l->∀r∈l,r.length<=s.length:=λl h=>My _ h
 unfold aEq;unfold DG;generalize Fc s.length s 0=o at *;cases o with
 |none=>
  simp only at d;simp only[Lz]
  repeat' (first|(refine aA (Ah Xe) ?_)|simp (disch:=first|assumption|omega)only[GU,↓GQ,GS,simprocAttr,GY,Ad I3 150,d,Ho,Hi,pO,Qk,and_self])
  all_goals exact Qd
 |some l=>
  simp only at d;have i:=Bb l;by_cases q:l.length=2
  ·match l,q with
   |[p,x],_=>
    have z:=g _ rfl p U;have u:=g _ rfl x U;have k:=gK x O;obtain⟨r1,r2⟩:=Vi x O;have v:=HV (n:=n) (p:=p) (nl:=(Cc x).1) (t:=[]) (l:=(Cc x).2.1) O (λr j=>QA (r2 r j).1 Z) hn O;simp only;generalize (Cc x).1=nl at *;generalize (Cc x).2.1=rs at *;generalize (Cc x).2.2=e at *;generalize Dc n p rs=te at *;have f:AL [p,x]=[.str p,.str x]:=rfl;rw[f]at d;simp only[Qm,QL]at d;have e0:decide (0+1+1=0)=false:=rfl;rw[e0]at d;have f1:Bw [D.str [],.str [],.slice true [] []] [(0,1,.str n),(1,1,.str p),(2,1,.slice nl [] (Am rs))]=some [.str n,.str p,.slice nl [] (Am rs)]:=rfl;have i0:[D.str p,D.str x][0]?=some (.str p):=rfl;have w:[D.str p,D.str x][1]?=some (.str x):=rfl;by_cases c1:e=0
    ·have ka:(e=0)=True:=eq_true c1;by_cases c2:te=0
     ·have m:(te=0)=True:=eq_true c2;rw[if_neg (by rw[c1,c2];simp)];subst c1 c2;simp only[Lz,HD]
      repeat' (first|(refine aD (λ_=>?_) (λh=>absurd rfl h))|(refine aA (Ah Xe) ?_)|simp (disch:=first|assumption|omega)only[GU,↓GQ,GS,simprocAttr,GY,Ad I3 150,d,Ad I3 151,k,Ad I3 59,v,f1,i0,w,ZJ,Zl,Qm,QL,Ho,Hi,pO,Qk,and_self])
      all_goals exact Qd
     ·have m:(te=0)=False:=eq_false c2;rw[if_pos (.inr c2)];subst c1;simp only[Lz]
      repeat' (first|(refine aD (λ_=>?_) (λh=>absurd rfl h))|(refine aA (Ah Xe) ?_)|simp (disch:=first|assumption|omega)only[GU,↓GQ,GS,simprocAttr,GY,Ad I3 150,d,Ad I3 151,k,Ad I3 59,v,m,f1,i0,w,ZJ,Zl,Qm,QL,Ho,Hi,pO,Qk,and_self])
      all_goals exact Qd
    ·have ka:(e=0)=False:=eq_false c1;rw[if_pos (.inl c1)];simp only[Lz]
     repeat' (first|(refine aD (λ_=>?_) (λh=>absurd rfl h))|(refine aA (Ah Xe) ?_)|simp (disch:=first|assumption|omega)only[GU,↓GQ,GS,simprocAttr,GY,Ad I3 150,d,Ad I3 151,k,ka,f1,i0,w,ZJ,Zl,Qm,QL,Ho,Hi,pO,Qk,and_self])
     all_goals exact Qd
  ·have y:(match (some l:Option (List Bs))with|none=>((none,3):Option Tk×Int)|some [p,x]=>if(Cc x).2.2≠0∨Dc n p (Cc x).2.1≠0 then(none,4)else(some (n,p,(Cc x).1,(Cc x).2.1),0)|some _=>(none,4))=(none,4):=by
    match l,q with
    |[],_=>rfl
    |[a],_=>rfl
    |a::b::c::r,_=>rfl
   rw[y];have c1:((l.length:Int)=2)=False:=eq_false O;simp only[Lz]
   repeat' (first|(refine aA (Ah Xe) ?_)|simp (disch:=first|assumption|omega)only[GU,↓GQ,GS,simprocAttr,GY,Ad I3 150,d,i,c1,Ho,Hi,pO,Qk,and_self])
   all_goals exact Qd
def BH(s:Bs)(p:Nat):Bs×Nat×Int:=match Ef s p with
 |none=>([],p,3)
 |some r=>(r,p+2+r.length,0)
def Pn{s:Bs}{p:Nat}(o:p<=s.length):(BH s p).2.1<=s.length∧p<=(BH s p).2.1∧(BH s p).1.length<=s.length∧((BH s p).2.2=0->p+2<=(BH s p).2.1):=by
 unfold BH;cases h:Ef s p with
 |none=>exact⟨o,Qv _,Qo _,λh=>Xd⟩
 |some r=>
  have:=(ET h).2.1;exact⟨this,Xb,Xb,λ_=>Xb⟩
def aAf{s:Bs}{p:Nat}(hl:s.length<=1000000)(o:p<=s.length):S5 [.agg (Hr s p 0)]=some (.tup [.str (BH s p).1,.agg (Hr s (BH s p).2.1 (BH s p).2.2)]):=by
 unfold BH;cases h:Ef s p with
 |none=>exact S4 hl o h
 |some r=>exact S3 hl h
def F8{s:Bs}{p:Nat}(o:p<=s.length)(e:Int):0<=(A0 s p e).1∧(A0 s p e).1<256∧(A0 s p e).2.1<=s.length∧p<=(A0 s p e).2.1∧((A0 s p e).2.2=0->e=0):=by
 unfold A0;split
 ·exact⟨Zp _,by show(0:Int)<256;decide,o,Qv _,λh=>absurd h ‹_›⟩
 ·rename_i q;split
  ·rename_i h;have:=(s[p]).toNat_lt;exact⟨Xb,Xb,Xb,Xb,λ_=>Decidable.not_not.1 q⟩
  ·exact⟨Zp _,by show(0:Int)<256;decide,o,Qv _,λh=>Xd⟩
def BZ(s:Bs)(p:Nat):Mt×Nat×Int×Bool:=
 (((BH s p).1,(A0 s (BH s p).2.1 (BH s p).2.2).1,decide ((A0 s (A0 s (BH s p).2.1 (BH s p).2.2).2.1 (A0 s (BH s p).2.1 (BH s p).2.2).2.2).1=1)),(A0 s (A0 s (BH s p).2.1 (BH s p).2.2).2.1 (A0 s (BH s p).2.1 (BH s p).2.2).2.2).2.1,(A0 s (A0 s (BH s p).2.1 (BH s p).2.2).2.1 (A0 s (BH s p).2.1 (BH s p).2.2).2.2).2.2,decide ((A0 s (A0 s (BH s p).2.1 (BH s p).2.2).2.1 (A0 s (BH s p).2.1 (BH s p).2.2).2.2).1<=1))
def aAi{s:Bs}{p:Nat}(hl:s.length<=1000000)(o:p<=s.length):aGy [.agg (Hr s p 0)]=some (.tup [HI (BZ s p).1,.agg (Hr s (BZ s p).2.1 (BZ s p).2.2.1),.bool (BZ s p).2.2.2]):=by
 refine Aq (Qj rfl) ?_;unfold aEr;have b:=aAf hl o;obtain⟨r,a,v,_⟩:=Pn o;unfold BZ;generalize (BH s p).1=mp at *;generalize (BH s p).2.1=k at *;generalize (BH s p).2.2=n at *;have u:=Wn s k n hl r;obtain⟨n1,n2,n3,_,_⟩:=F8 r n;generalize (A0 s k n).1=q at *;generalize (A0 s k n).2.1=d at *;generalize (A0 s k n).2.2=m at *;have z:=Wn s d m hl n3;obtain⟨e,w,m3,_,_⟩:=F8 n3 m;generalize (A0 s d m).1=c at *;generalize (A0 s d m).2.1=p3 at *;generalize (A0 s d m).2.2=f at *;have ma:IntKind.i64.wrap q=q:=Hg O O;simp only;unfold Hr HI at *;have g:∀t:Bool,Bw [D.int .i64 0,.bool false] [(0,1,.int .i64 q),(1,1,.bool t)]=some [.int .i64 q,.bool t]:=λ_=>rfl
 have f2:∀t:Bool,Bw [D.str [],.int .i64 0,.bool false] [(0,1,.str mp),(1,2,.agg [.int .i64 q,.bool t])]=some [.str mp,.int .i64 q,.bool t]:=λ_=>rfl
 repeat' (first|(refine aA (Ah Xe) ?_)|simp (disch:=first|assumption|omega)only[↓GQ,GT,simprocAttr,GY,Ad aFM 141,u,z,Ad aFM 140,b,ma,g,f2,Ho,BC,BK,BW,CR,O7,Bf,Hi,pO,Qk,and_self])
 refine aJS (i:=[1]) (j:=[2]) rfl rfl (x:=[.str mp,.int .i64 q,.bool (decide (c=1))]) (y:=[.str s,.int .i64 (p3:Int),.int .i64 f]) (by simp (disch:=omega)only[Hi];exact Ho) Ho ⟨rfl,rfl⟩
def CA:Nat->Bs->Nat->List Mt->Option (List Mt)×Int
 |0,s,p,acc=>if s.length<=p then(some acc,0)else(none,3)
 |f+1,s,p,acc=>if s.length<=p then(some acc,0)else if(BZ s p).2.2.1≠0 then(none,3)
  else if(BZ s p).2.2.2=false∨(0<acc.length∧Op.bytesLess (AU acc (acc.length-1)).1 (BZ s p).1.1=false)then(none,4)
  else match (CK acc (BZ s p).1).1 with
  |none=>(none,4)
  |some y=>CA f s (BZ s p).2.1 y
def NY{s:Bs}{p:Nat}(o:p<=s.length)(h:(BZ s p).2.2.1=0):p+2<=(BZ s p).2.1∧(BZ s p).2.1<=s.length∧(BZ s p).1.1.length<=s.length:=by
 obtain⟨r,a,u,i⟩:=Pn o;obtain⟨_,_,q,f,n5⟩:=F8 r (BH s p).2.2;obtain⟨_,_,x,g,t⟩:=F8 q (A0 s (BH s p).2.1 (BH s p).2.2).2.2;have:=i (n5 (t h));exact⟨by unfold BZ;simp only;omega,x,u⟩
def SP{l z:List Mt}{m:Mt}(h:(CK l m).1=some z):(CK l m).2=0∧z.length=l.length+1∧z.length<=4:=by
 rcases SQ l m with ⟨l2,u,q,d⟩|⟨u,_⟩
 ·rw[h]at u;cases u;refine⟨q,d,?_⟩;have:=(aKi h).2;omega
 ·rw[h]at u;cases u
def wZ{s:Bs}(hl:s.length<=2000){R:Option (List Mt)×Int}{Q:Ex->St->Prop}
  (hQ:∀ca nl ms,R=(some ms,0)->nl=decide (ms.length=0)->ca.s 2= .ptr [0] 0->ca.s 4= .ptr [2] 0->Ai ca.m [2] 0 1=some [.slice nl [] (Ax ms)]->(∃q,ca.m [0] 0=some q)->Q (.exit 0) ca)
  (hE:∀ca e,R=(none,e)->ca.s 2= .ptr [0] 0->ca.s 3= .int .i64 e->Ai ca.m [0] 0 1=some [.slice true [] []]->Q .ret ca):
  ∀(f p:Nat)(acc:List Mt)(nl:Bool)(z:St) g,s.length<=p+f->p<=s.length->acc.length<=4->R=CA f s p acc->7<=z.c->nl=decide (acc.length=0)->z.s 0= .str s->z.s 2= .ptr [0] 0->z.s 4= .ptr [2] 0->z.s 5= .ptr [5] 0->(∃q,z.m [0] 0=some q)->Ai z.m [2] 0 1=some [.slice nl [] (Ax acc)]->Ai z.m [5] 0 3=some (Hr s p 0)->AK EA [] Ng Q z g:=by
 intro f;induction f with
 |zero=>
  intro p acc nl z g hf hp ha hR hc qa h0 h2 ba h5 m0 m2 m5;refine Af Ng.eq_1 ?_;have j:z.m [5] 1=some (.int .i64 (p:Int)):=A_ (k:=1) m5 rfl;have d1:((p:Int)<(s.length:Int))=False:=eq_false O;simp only[↓GQ,GT,simprocAttr,GY,h0,h5,j,d1];exact hQ _ nl acc YX qa h2 ba m2 m0
 |succ f ih=>
  intro p acc nl z g hf hp ha hR hc qa h0 h2 ba h5 m0 m2 m5;refine Af Ng.eq_1 ?_;have j:z.m [5] 1=some (.int .i64 (p:Int)):=A_ (k:=1) m5 rfl;unfold CA at hR;by_cases sa:s.length<=p
  ·have d1:((p:Int)<(s.length:Int))=False:=eq_false O;rw[if_pos sa]at hR;simp only[↓GQ,GT,simprocAttr,GY,h0,h5,j,d1];exact hQ _ nl acc hR qa h2 ba m2 m0
  rw[if_neg sa]at hR;have d:=aAi O hp;have x:=NY hp;have y:((p:Int)<(s.length:Int))=True:=eq_true O;have ua:(Ax acc).length=acc.length:=AC _;have fa:=aHc (nl:=nl) (t:=[]) (l:=acc) (m:=(BZ s p).1) O (λe=>YW) (by
   have:=(Pn hp).2.2.1;show(BH s p).1.length<=1000000;omega)
  have ia:0<acc.length->(Ax acc)[acc.length-1]?=some (HI (AU acc (acc.length-1))):=λh=>C4 O
  have o:∀a b c:D,(List.drop 0 [a,b,c]).head?=some a:=λ_ _ _=>rfl
  have ih:=ih (BZ s p).2.1;have ya:=SQ acc (BZ s p).1;have v:∀l',(CK acc (BZ s p).1).1=some l'->(CK acc (BZ s p).1).2=0∧l'.length=acc.length+1∧l'.length<=4:=λl' h=>SP h
  generalize AU acc (acc.length-1)=pm at *;generalize hm:(BZ s p).1=m at *;generalize (BZ s p).2.1=p' at *;generalize (BZ s p).2.2.1=u at *;generalize (BZ s p).2.2.2=fi at *;obtain⟨mp,mq,mb⟩:=m;obtain⟨pp,pq,pb⟩:=pm;obtain⟨ja,ga,da⟩:=z;obtain⟨q0,m0⟩:=m0;simp only at hc h0 h2 ba h5 m0 m2 m5 j;have n:ga [2] 0=some (.slice nl [] (Ax acc)):=A_ (k:=0) m2 rfl;have ta:∀k,(0=da+k)=False:=λk=>eq_false O
  have w:∀k,(2=da+k)=False:=λk=>eq_false O
  have i:∀k,(5=da+k)=False:=λk=>eq_false O
  clear hm;simp only[Hr,HI]at d fa m5 ia;have r:Ai ga [0] 0 1=some [q0]:=by simp[Ai,m0]
  have f0:Bw [D.slice true [] []] []=some [.slice true [] []]:=rfl;by_cases he:u=0
  rotate_left
  ·have ka:(u=0)=False:=eq_false he;rw[if_pos he]at hR
   repeat' (first|(refine aA (Ah Xy) ?_)|simp (disch:=first|assumption|omega)only[↓GQ,GT,simprocAttr,GY,h0,h2,ba,h5,m0,r,m2,m5,j,n,y,ua,o,f0,Qh,Ad EA 81,d,Ad EA 82,ka,Ho,BC,BK,BW,Rg,NL,Bf,Hi,pO,Qk,and_self])
   exact hE _ _ hR h2 rfl NL
  subst he;obtain⟨n1,n2,_⟩:=x rfl;rw[if_neg U]at hR;cases fi with
  |false=>
   rw[if_pos (.inl rfl)]at hR
   repeat' (first|(refine aA (Ah Xy) ?_)|simp (disch:=first|assumption|omega)only[↓GQ,GT,simprocAttr,GY,h0,h2,ba,h5,m0,r,m2,m5,j,n,y,ua,o,f0,Qh,Ad EA 81,d,Ad EA 82,Ho,BC,BK,BW,Rg,NL,Bf,Hi,pO,Qk,and_self])
   exact hE _ _ hR h2 rfl NL
  |true=>
   rcases Zn acc.length with hj0|hj0
   ·have c1:((0:Int)<(acc.length:Int))=False:=eq_false O;rw[if_neg (λh=>h.elim (λh=>Xd) (λh=>by have:=h.1;omega))]at hR;clear ia;rcases ya with ⟨l',a1,a2,a3⟩|⟨a1,a2⟩
    ·obtain⟨_,b2,b3⟩:=v l' a1;rw[a1,a2]at fa;rw[a1]at hR;unfold iP at fa;simp only at fa hR
     repeat' (first|(refine aA (Ah Xy) ?_)|simp (disch:=first|assumption|omega)only[↓GQ,GT,simprocAttr,GY,h0,h2,ba,h5,m0,r,m2,m5,j,n,y,ua,o,f0,Qh,Ad EA 81,d,Ad EA 82,fa,c1,Ho,BC,BK,BW,Rg,NL,Bf,Hi,pO,Qk,and_self])
     refine ih l' false _ _ O n2 b3 hR Xb (by rw[b2];simp) h0 h2 ba h5 ⟨q0,?_⟩ ?_ ?_
     ·simp (disch:=omega)only[Bf,Hi,pO];exact m0
     ·simp (disch:=omega)only[Bf,Hi];exact NL
     ·exact Ho
    ·have a3:((CK acc (mp,mq,mb)).2=0)=False:=eq_false O;rw[a1]at fa hR;unfold iP at fa;simp only at fa hR;generalize (CK acc (mp,mq,mb)).2=er at *
     repeat' (first|(refine aA (Ah Xy) ?_)|simp (disch:=first|assumption|omega)only[↓GQ,GT,simprocAttr,GY,h0,h2,ba,h5,m0,r,m2,m5,j,n,y,ua,o,f0,Qh,Ad EA 81,d,Ad EA 82,fa,c1,a3,Ho,BC,BK,BW,Rg,NL,Bf,Hi,pO,Qk,and_self])
     exact hE _ _ hR h2 rfl NL
   ·have c1:((0:Int)<(acc.length:Int))=True:=eq_true O;have ia:=ia hj0;have hw:IntKind.i64.wrap ((acc.length:Int)-1)=((acc.length-1:Nat):Int):=by rw[Hg O O];omega
    have cb:(0:Int)<=((acc.length-1:Nat):Int):=O
    simp only at hR;have pa:AQ .geq (.str pp) (.str mp)=some (.bool (!(Op.bytesLess pp mp))):=rfl;cases hb:Op.bytesLess pp mp with
    |false=>
     rw[hb]at pa;rw[if_pos (.inr ⟨hj0,hb⟩)]at hR;simp only[ZG]at pa
     repeat' (first|(refine aA (Ah Xy) ?_)|simp (disch:=first|assumption|omega)only[↓GQ,GT,simprocAttr,GY,h0,h2,ba,h5,m0,r,m2,m5,j,n,y,ua,o,f0,Qh,Ad EA 81,d,Ad EA 82,c1,hw,cb,ia,pa,Ho,BC,BK,BW,Rg,NL,Bf,Hi,pO,Qk,and_self])
     exact hE _ _ hR h2 rfl NL
    |true=>
     rw[hb]at pa;rw[if_neg (λh=>h.elim (λh=>Xd) (λh=>Y9))]at hR;simp only[Bool.not_true]at pa;rcases ya with ⟨l',a1,a2,a3⟩|⟨a1,a2⟩
     ·obtain⟨_,b2,b3⟩:=v l' a1;rw[a1,a2]at fa;rw[a1]at hR;unfold iP at fa;simp only at fa hR
      repeat' (first|(refine aA (Ah Xy) ?_)|simp (disch:=first|assumption|omega)only[↓GQ,GT,simprocAttr,GY,h0,h2,ba,h5,m0,r,m2,m5,j,n,y,ua,o,f0,Qh,Ad EA 81,d,Ad EA 82,fa,c1,hw,cb,ia,pa,Ho,BC,BK,BW,Rg,NL,Bf,Hi,pO,Qk,and_self])
      refine ih l' false _ _ O n2 b3 hR Xb (by rw[b2];simp) h0 h2 ba h5 ⟨q0,?_⟩ ?_ ?_
      ·simp (disch:=omega)only[Bf,Hi,pO];exact m0
      ·simp (disch:=omega)only[Bf,Hi];exact NL
      ·exact Ho
     ·have a3:((CK acc (mp,mq,mb)).2=0)=False:=eq_false O;rw[a1]at fa hR;unfold iP at fa;simp only at fa hR;generalize (CK acc (mp,mq,mb)).2=er at *
      repeat' (first|(refine aA (Ah Xy) ?_)|simp (disch:=first|assumption|omega)only[↓GQ,GT,simprocAttr,GY,h0,h2,ba,h5,m0,r,m2,m5,j,n,y,ua,o,f0,Qh,Ad EA 81,d,Ad EA 82,fa,c1,hw,cb,ia,pa,a3,Ho,BC,BK,BW,Rg,NL,Bf,Hi,pO,Qk,and_self])
      exact hE _ _ hR h2 rfl NL
def oK:Option (List Mt)->D
 |some a=> .agg [.slice (decide (a.length=0)) [] (Ax a)]
 |none=> .agg [.slice true [] []]
def NR:∀(f:Nat){s:Bs}{p:Nat}{acc:List Mt},(CA f s p acc).1≠none->(CA f s p acc).2=0
 |0,s,p,acc,h=>by
  unfold CA at h ⊢;split
  ·rfl
  ·rename_i c;rw[if_neg c]at h;exact absurd rfl h
 |f+1,s,p,acc,h=>by
  unfold CA at h ⊢;split
  ·rfl
  rename_i c1;rw[if_neg c1]at h;split
  ·rename_i c2;rw[if_pos c2]at h;exact absurd rfl h
  rename_i c2;rw[if_neg c2]at h;split
  ·rename_i n;rw[if_pos n]at h;exact absurd rfl h
  rename_i n;rw[if_neg n]at h;cases ha:(CK acc (BZ s p).1).1 with
  |none=>rw[ha]at h;exact absurd rfl h
  |some z=>
   rw[ha]at h;exact NR f h
def aAk(s:Bs)(hl:s.length<=2000):tN [.str s]=some (.tup [oK (CA s.length s 0 []).1,.int .i64 (CA s.length s 0 []).2]):=by
 refine Aq (Qj rfl) ?_;unfold aEF;simp (disch:=first|assumption|omega)only[GU,↓GQ,GS,simprocAttr,GY];refine wZ hl (R:=CA s.length s 0 []) (λo nl a g x z w u m0=>?_) (λo e g z d m0=>?_) s.length 0 [] true _ _ O (Qo _) (Qo _) rfl (Qj rfl) rfl rfl rfl rfl rfl ⟨.slice true [] [],?_⟩ ?_ ?_
 ·obtain⟨q,m0⟩:=m0;subst x;rw[g];have n:o.m [2] 0=some (.slice (decide (a.length=0)) [] (Ax a)):=A_ (k:=0) u rfl;simp only[oK];simp (disch:=first|assumption|omega)only[GU,↓GQ,GS,simprocAttr,GY,z,w,u,n,m0,NL,Hi,pO,Qk]
  all_goals exact Qd
 ·rw[g];have b:o.m [0] 0=some (.slice true [] []):=A_ (k:=0) m0 rfl;simp only[oK];simp (disch:=first|assumption|omega)only[GU,↓GQ,GS,simprocAttr,GY,z,d,b,Qk]
  all_goals exact Qd
 ·simp (disch:=decide)only[pO];exact Rg
 ·simp (disch:=decide)only[Hi];exact NL
 ·exact Ho
def Cb(n:Int):Int:=if 17<=n∧n<=97∧n % 16=1 then n / 16 else 0
def WX{n i:Int}(hi:1<=i∧i<=6):dC i=n↔Cb n=i:=by
 unfold dC Cb;rw[if_pos (by unfold wM;exact decide_eq_true O)];split<;>omega
def wY{n:Int}{Q:Ex->St->Prop}(k:∀o,o.s 2= .int .i64 (Cb n)->Q .ret o)(b:∀o,Cb n=0->Q (.exit 0) o):∀(f:Nat)(i:Int)(z:St) g,i+(f:Int)=7->1<=i->(∀j,1<=j->j<i->Cb n≠j)->z.s 0= .int .i64 n->z.s 3= .int .i64 i->AK rZ [] Nf Q z g:=by
 intro f;induction f with
 |zero=>
  intro i z g r hi c y d;obtain rfl:i=7:=O
  refine Af Nf.eq_1 ?_;have d1:((7:Int)<=6)=False:=eq_false O;simp only[↓GQ,GT,simprocAttr,GY,y,d,d1];refine b _ ?_;have u:=c (Cb n);have q:0<=Cb n∧Cb n<=6:=by unfold Cb;split<;>omega
  by_cases h:Cb n=0
  ·exact h
  ·exact absurd rfl (u O O)
 |succ f ih=>
  intro i z g r hi c y d;refine Af Nf.eq_1 ?_;have a:=sS i;have d1:(i<=6)=True:=eq_true O;have t:IntKind.i64.wrap (i+1)=i+1:=Hg O O;by_cases h:dC i=n
  ·have d2:(dC i=n)=True:=eq_true h;have e:=(WX ⟨hi,O⟩).1 h;simp only[↓GQ,GT,simprocAttr,GY,y,d,d1,d2,Ad rZ 27,a,t];exact k _ (by rw[e];rfl)
  ·have d2:(dC i=n)=False:=eq_false h;simp only[↓GQ,GT,simprocAttr,GY,y,d,d1,d2,Ad rZ 27,a,t];refine ih (i+1) _ _ O O (λj u q=>?_) y rfl;rcases(by omega:j<i∨j=i)with d|rfl
   ·exact c j u d
   ·exact λe=>h ((WX ⟨hi,O⟩).2 e)
def aAj(n:Int):tK [.int .i64 n]=some (.int .i64 (Cb n)):=by
 refine Aq (Qj rfl) ?_;unfold aEE;simp (disch:=first|assumption|omega)only[GU,↓GQ,GS,simprocAttr,GY];refine wY (n:=n) (λo h=>?_) (λo h=>?_) 6 1 _ _ O O (λj u q=>O) rfl rfl
 ·simp (disch:=first|assumption|omega)only[GU,↓GQ,GS,simprocAttr,GY,h]
  all_goals exact Qd
 ·rw[h];simp (disch:=first|assumption|omega)only[GU,↓GQ,GS,simprocAttr,GY]
  all_goals exact Qd
def aZa:=Az []
def aGn:=RF aZa aEj [.t 2] 8
def aR1:Kq aGn 152:=Av (Al func152) Ae
def aGm(nl:Bool)(l:List Tk)(c:nl=true->l=[])(hl:l.length<=1000):aGn [.slice nl [] (Au l)]=some (.slice nl [] (Au l)):=by
 refine Aq (Qj rfl) ?_;unfold aEj;cases nl with
 |true=>
  rw[c rfl];simp (disch:=first|assumption|omega)only[GU,↓GQ,GS,simprocAttr,GY]
  all_goals exact Qd
 |false=>
  have y:=AD l;simp (disch:=first|assumption|omega)only[GU,↓GQ,GS,simprocAttr,GY,y];refine aA ⟨O,XB,.inr ⟨Rg,U⟩⟩ ?_;simp (disch:=first|assumption|omega)only[GU,↓GQ,GS,simprocAttr,GY]
  all_goals exact Qd
def G_:Bs:=[114,111,111,116]
def aQ2(acc:List Tk)(t:Tk):Option (List Tk):=if t.1=G_∧acc=[]then some (BD acc t)else if t.1≠G_∧(BO acc t).2=0 then(BO acc t).1 else none
structure TkI (ks:List Tk):Prop where
 inv:aG6 ks
 tok:∀k∈ks,Dc k.1 k.2.1 k.2.2.2=0
 cov:∀k∈ks,∀u∈ks,u.1=k.2.1->CD k.2.2.2 u.2.2.2=true
 rt:∀k∈ks,k.1=G_->k=Bh
structure LdI (ks acc L:List Tk):Prop where
 srt:DY acc
 sub:∀x∈acc,x∈ks
 rt:acc=[]∨∃k∈acc,k.1=G_
 left:∀t∈L,t∈ks∧t∉acc
def TkI.eq{i:List Tk}(h:TkI i){t u:Tk}(w:t∈i)(a:u∈i)(e:t.1=u.1):t=u:=by
 obtain⟨r,j,_⟩:=h.inv.tree;exact j.eq w a e
def LdI.new{i acc L:List Tk}(m:TkI i)(h:LdI i acc L){t:Tk}(w:t∈L):AN acc t.1=false:=by
 cases hf:AN acc t.1 with
 |false=>rfl
 |true=>
  obtain⟨k,s,e⟩:=Gi hf;have u:=h.left t w;have:=m.eq (h.sub k s) u.1 e;rw[this]at s;exact absurd s u.2
def LdI.par{i acc L:List Tk}(h:LdI i acc L){u:Tk}(a:u∈acc):AN acc u.1=true∧AP acc (HT acc u.1)=u:=by
 obtain⟨j,w,rfl⟩:=QK a;have y:=Gj h.srt w;have e:AP acc j=acc[j]:=by unfold AP;rw[Q_,Qi w];rfl
 rw[e]at y;exact⟨y.2,by rw[y.1];exact e⟩
def aBG{acc:List Tk}{t:Tk}{a:List Tk}(h:aQ2 acc t=some a):a=BD acc t∧(acc=[]->t.1=G_):=by
 unfold aQ2 at h;split at h
 ·rename_i u;exact⟨(QM h).symm,λ_=>u.1⟩
 ·split at h
  ·rcases RZ acc t with ⟨⟨z,p⟩,_,_,_,b,m⟩|⟨p,m⟩
   ·rw[m]at h;refine⟨(QM h).symm,λe=>?_⟩;subst e;obtain⟨k,s,_⟩:=Gi b;cases s
   ·rw[p]at h;cases h
  ·cases h
def LdI.put{i acc:List Tk}{t:Tk}{r:List Tk}(m:TkI i)(h:LdI i acc (t::r))(c:t∉r){a:List Tk}(o:aQ2 acc t=some a):LdI i a r:=by
 obtain⟨rfl,q⟩:=aBG o;have v:=h.new m Qp;refine⟨TG h.srt v,λx f=>?_,.inr ?_,λx f=>⟨(h.left x (Qq _ f)).1,λy=>?_⟩⟩
 ·rcases B9.1 f with h1|rfl
  ·exact h.sub x h1
  ·exact(h.left _ Qp).1
 ·rcases h.rt with e|⟨k,s,e⟩
  ·exact⟨t,B9.2 (.inr rfl),q e⟩
  ·exact⟨k,B9.2 (.inl s),e⟩
 ·rcases B9.1 y with h1|rfl
  ·exact(h.left x (Qq _ f)).2 h1
  ·exact c f
def aMo{α:Type}{R:α->α->Prop}(c:∀x,¬R x x)(d:∀x y,R x y->R y x->False):∀{a b:List α},a.Pairwise R->b.Pairwise R->(∀x,x∈a↔x∈b)->a=b
 |[],[],_,_,_=>rfl
 |[],y::b,_,_,h=>absurd ((h y).2 Qp) U
 |x::a,[],_,_,h=>absurd ((h x).1 Qp) U
 |x::a,y::b,ha,hb,h=>by
  obtain⟨a1,t⟩:=QH.1 ha;obtain⟨g,b2⟩:=QH.1 hb;have e:x=y:=by
   rcases Qs.1 ((h x).1 Qp)with e|h1
   ·exact e
   ·rcases Qs.1 ((h y).2 Qp)with e|h2
    ·exact e.symm
    ·exact(d _ _ (a1 y h2) (g x h1)).elim
  subst e;rw[aMo c d t b2 λz=>⟨λj=>?_,λj=>?_⟩]
  ·rcases Qs.1 ((h z).1 (Qq _ j))with rfl|h1
   ·exact absurd (a1 _ j) (c _)
   ·exact h1
  ·rcases Qs.1 ((h z).2 (Qq _ j))with rfl|h1
   ·exact absurd (g _ j) (c _)
   ·exact h1
def O0:=Az [(152,Ac aGn),(56,Ac nO),(153,Ac O4),(154,Ac aAD),(155,Ac F50)]
def aGx:=RF O0 aEp [.cell (some 1) 2,.t 3] 61
def aR6:Kq aGx 85:=Av (Al func85) (Aa aR1 (Aa aMM (Aa aCS (Aa aML (Aa aZX Ae)))))
structure TkB (l:List Tk):Prop where
 len:l.length<=1000
 ok:∀k∈l,Dg k.2.2.2∧(k.2.2.1=true->k.2.2.2=[])∧k.1.length<=1000000∧k.2.1.length<=1000000
 rt:∀k∈l,k.1=G_->k=Bh
def TkB.add{acc:List Tk}{k:Tk}(i:TkB acc)(hl:acc.length<1000)(s:Dg k.2.2.2∧(k.2.2.1=true->k.2.2.2=[])∧k.1.length<=1000000∧k.2.1.length<=1000000)(j:k.1=G_->k=Bh):TkB (BD acc k):=by
 refine⟨by rw[Ig];omega,λx f=>?_,λx f=>?_⟩
 ·rcases B9.1 f with h|rfl
  ·exact i.ok x h
  ·exact s
 ·rcases B9.1 f with h|rfl
  ·exact i.rt x h
  ·exact j
def Ms{l:List Tk}{k:Tk}:Au (l++[k])=Au l++[HD k]:=by simp[Au]
def mW(nl nl':Bool)(l:List Rl)(hl:l.length<=1000000):aKz [.slice nl [] (Am l),.slice nl' [] (Am [([],63)])]=some (.bool (decide (l=[([],63)]))):=by
 refine Aq (Qj rfl) ?_;unfold eQ;have y:=Ay l;have a:=Ay [([],63)];by_cases u:l.length=1
 ·match l,u with
  |[(xp,xc)],_=>
   have p:Am [(xp,xc)]=[.agg [.str xp,.int .u8 xc]]:=rfl;have m:Am [([],63)]=[.agg [.str [],.int .u8 63]]:=rfl;rw[p,m];have i:∀x:D,[x][0]?=some x:=λ_=>rfl
   have ia:∀x:D,[x].length=1:=λ_=>rfl
   have b:IntKind.i64.wrap 1=1:=rfl;simp only[GU,↓GQ,GS,simprocAttr,ia,bne_self_eq_false];refine Af HQ.eq_1 ?_;by_cases o:xp=[]
   ·by_cases g:xc=63
    ·subst o g;have z:decide ([(([]:Bs),(63:Int))]=[([],63)])=true:=rfl;rw[z]
     repeat' (first|(refine aA (Ah ?_) ?_;first|rfl|simp[Ap,An,GZ,Ag,Ac])|simp only[GU,↓GQ,GS,simprocAttr,b,ER,AW,Dt,QC,Qx,beq_self_eq_true,bne_self_eq_false])
     refine Af HQ.eq_1 ?_
     repeat' (first|(refine aA (Ah ?_) ?_;first|rfl|simp[Ap,An,GZ,Ag,Ac])|simp only[GU,↓GQ,GS,simprocAttr,b,ER,AW,Dt,QC,Qx,beq_self_eq_true,bne_self_eq_false])
     all_goals exact Qd
    ·have z:decide ([(xp,xc)]=[(([]:Bs),(63:Int))])=false:=decide_eq_false (λe=>g (by cases e;rfl));rw[z];have f:(xc==63)=false:=by simpa using g
     have v:(xp==[])=true:=XE
     repeat' (first|(refine aA (Ah ?_) ?_;first|rfl|simp[Ap,An,GZ,Ag,Ac])|simp only[GU,↓GQ,GS,simprocAttr,b,ER,AW,Dt,QC,Qx,f,v,ZD,ZG])
     all_goals exact Qd
   ·have z:decide ([(xp,xc)]=[(([]:Bs),(63:Int))])=false:=decide_eq_false (λe=>o (by cases e;rfl));rw[z];have f:(xp==[])=false:=by simpa using o
    repeat' (first|(refine aA (Ah ?_) ?_;first|rfl|simp[Ap,An,GZ,Ag,Ac])|simp only[GU,↓GQ,GS,simprocAttr,b,ER,AW,Dt,QC,Qx,f,Zc,ZG])
    all_goals exact Qd
 ·have c1:((l.length:Int)=1)=False:=eq_false O;have z:decide (l=[([],63)])=false:=decide_eq_false (λe=>u (by rw[e];rfl));rw[z];have ia:((Am [([],63)]).length:Int)=1:=rfl;have k:((l.length:Int)!=1)=true:=by simpa using c1
  simp only[GU,↓GQ,GS,simprocAttr,y,ia,c1,k]
  all_goals exact Qd
def mX(nl nl':Bool)(l:List Rl)(hl:l.length<=1000000):aKU [.slice nl [] (Am l),.slice nl' [] (Am [([],63)])]=some (.bool (decide (l=[([],63)]))):=by
 refine Aq (Qj rfl) ?_;unfold eS;have a:=mW nl nl' l hl;simp only[GU,↓GQ,GS,simprocAttr,Ad aTl 291,a]
 all_goals exact Qd
def Mn(k:Tk):Bool:=decide (k.1=G_)&&decide (k.2.1=[])&&decide (k.2.2.2=[([],63)])
def gM(k:Tk)(hl:k.2.2.2.length<=1000000):O4 [HD k,HD Bh]=some (.bool (Mn k)):=by
 refine Aq (Qj rfl) ?_;unfold lT;obtain⟨n,p,b,rs⟩:=k;have c:=mX b false rs hl;have e:HD Bh= .agg [.str G_,.str [],.slice false [] (Am [([],63)])]:=rfl;rw[e];unfold HD Mn;simp only;generalize decide (rs=[([],63)])=q at *;by_cases u:n=G_
 ·have e1:(n=G_)=True:=eq_true u;subst u;by_cases z:p=[]
  ·subst z
   repeat' (first|(refine aA (Ah Xe) ?_)|simp only[GU,↓GQ,GS,simprocAttr,Ad aFO 219,c,beq_self_eq_true,decide_true,Zt,Qr,Ho,BC,BK,BW])
   all_goals exact Qd
  ·have f:(p==[])=false:=by simpa using z
   have s:decide (p=[])=false:=decide_eq_false z;rw[s]
   repeat' (first|(refine aA (Ah Xe) ?_)|simp only[GU,↓GQ,GS,simprocAttr,z,f,s,decide_true,Zt,Zc,ZD,Ho,BC,BK,BW])
   all_goals exact Qd
 ·have f:(n==G_)=false:=by simpa using u
  have s:decide (n=G_)=false:=decide_eq_false u;rw[s]
  repeat' (first|(refine aA (Ah Xe) ?_)|simp only[GU,↓GQ,GS,simprocAttr,u,f,s,Zc,Ho,BC,BK,BW])
  all_goals exact Qd
def L1(acc:List Tk)(t:Tk):Option (List Tk):=if Mn t=true∧acc=[]then some (BD acc t)else if t.1≠G_∧(BO acc t).2=0 then(BO acc t).1 else none
def BX:List Tk->List Tk->List Tk×List Tk
 |acc,[]=>(acc,[])
 |acc,t::r=>match L1 acc t with
  |some a=>BX a r
  |none=>((BX acc r).1,t::(BX acc r).2)
def CF:Nat->List Tk->List Tk->Option (List Tk)
 |_,acc,[]=>some acc
 |0,_,_::_=>none
 |f+1,acc,t::r=>if(BX acc (t::r)).2.length=(t::r).length then none else CF f (BX acc (t::r)).1 (BX acc (t::r)).2
def vX{acc:List Tk}{t:Tk}{a:List Tk}(h:L1 acc t=some a):a=BD acc t∧(acc=[]->Mn t=true):=by
 unfold L1 at h;split at h
 ·rename_i u;exact⟨(QM h).symm,λ_=>u.1⟩
 ·split at h
  ·rcases RZ acc t with ⟨⟨z,p⟩,_,_,_,b,m⟩|⟨p,m⟩
   ·rw[m]at h;refine⟨(QM h).symm,λe=>?_⟩;subst e;obtain⟨k,s,_⟩:=Gi b;cases s
   ·rw[p]at h;cases h
  ·cases h
def Vl:∀(L acc:List Tk),(BX acc L).2.length<=L.length
 |[],acc=>Qv _
 |t::r,acc=>by
  unfold BX;cases L1 acc t with
  |some a=>have:=Vl r a;rw[Qm];simp only;omega
  |none=>have:=Vl r acc;simp only[Qm];omega
structure WG (l:List Tk):Prop where
 len:l.length<=1000
 ok:∀k∈l,Dg k.2.2.2∧(k.2.2.1=true->k.2.2.2=[])∧k.1.length<=1000000∧k.2.1.length<=1000000
def WG.add{acc:List Tk}{k:Tk}(i:WG acc)(hl:acc.length<1000)(s:Dg k.2.2.2∧(k.2.2.1=true->k.2.2.2=[])∧k.1.length<=1000000∧k.2.1.length<=1000000):WG (BD acc k):=by
 refine⟨by rw[Ig];omega,λx f=>?_⟩;rcases B9.1 f with h|rfl
 ·exact i.ok x h
 ·exact s
def wX{L:List Tk}(hB:WG L){A late0:List Tk}{Q:Ex->St->Prop}
  (hQ:∀ca i nl t m0,ca.s 2= .ptr [0] 0->ca.s 4= .ptr [2] 0->(∃tL ka,ca.s 5= .slice ka tL (Au L))->ca.m [2] 0=some (.slice i [] (Au A))->ca.s 6= .slice nl t (Au late0)->LG 6 m0 68 ca.m ca.c nl t->(nl=true->late0=[])->(i=decide (A=[]))->(∃q,ca.m [0] 0=some q)->Q (.exit 2) ca):
  ∀(f j:Nat)(acc d:List Tk)(i nl ka:Bool)(t tL:Id)(m0:GV)(st:St) g,L.length=j+f->A=(BX acc (L.drop j)).1->late0=d++(BX acc (L.drop j)).2->WG acc->acc.length+(L.length-j)<=1000->d.length<=j->LG 6 m0 68 st.m st.c nl t->(nl=true->d=[])->(i=decide (acc=[]))->
   st.s 2= .ptr [0] 0->st.s 4= .ptr [2] 0->st.s 5= .slice ka tL (Au L)->st.s 16= .slice ka tL (Au L)->st.s 17= .int .i64 (L.length:Int)->st.s 18= .int .i64 (j:Int)->st.s 6= .slice nl t (Au d)->st.m [2] 0=some (.slice i [] (Au acc))->(∃q,st.m [0] 0=some q)->AK O0 [] Na Q st g:=by
 intro f;induction f with
 |zero=>
  intro j acc d i nl ka t tL m0 st g hf hA sa hb pa ya hG qa fb h2 h4 h5 y ra ba h6 m2 cb;refine Af Na.eq_1 ?_;rw[Q9 O]at hA sa;have d1:((j:Int)<(L.length:Int))=False:=eq_false O;have e1:A=acc:=hA;have e2:late0=d:=by rw[sa];exact QR _
  subst e1 e2;simp only[↓GQ,GT,simprocAttr,GY,ra,ba,d1];exact hQ _ i nl t m0 h2 h4 ⟨tL,ka,h5⟩ m2 h6 (hG.more Xb) qa fb cb
 |succ f ih=>
  intro j acc d i nl ka t tL m0 st g hf hA sa hb pa ya hG qa fb h2 h4 h5 y ra ba h6 m2 cb;refine Af Na.eq_1 ?_;have hj:j<L.length:=O
  have hd:L.drop j=L[j]::L.drop (j+1):=QJ hj;have d1:((j:Int)<(L.length:Int))=True:=eq_true O;have hx:=Dp hj;have lb:AP L j=L[j]:=by unfold AP;rw[Q_,Qi hj];rfl
  rw[lb]at hx;have la:=hB.ok _ (Zv hj);rw[hd]at hA sa;unfold BX at hA sa;have ma:=nJ (j:=j);have hw:IntKind.i64.wrap ((j:Int)+1)=((j+1:Nat):Int):=Hg Yf Yf;have wa:=AD acc;have ha:O0 56=some (Ac nO):=rfl;have eb:O0 153=some (Ac O4):=rfl;have za:O0 154=some (Ac aAD):=rfl;have v:O0 155=some (Ac F50):=rfl;have z:nO []=some (HD Bh):=rfl;have gb:=gM L[j] (by have:=la.1.1;omega);generalize L[j]=x at *;obtain⟨xn,xp,xb,xr⟩:=x;have ab:=uI (nl0:=i) (nl:=xb) (t0:=[]) (t:=[]) (l:=acc) (n:=xn) (p:=xp) (rs:=xr) (by have:=hb.len;omega) la.1.1 la.2.1;have u:=aT8 (nl0:=i) (nl:=xb) (l:=acc) (n:=xn) (p:=xp) (rs:=xr) (by have:=hb.len;omega) (λk hk=>(hb.ok k hk).1) la.2.1 la.1 la.2.2.1 la.2.2.2;obtain⟨ja,ga,da⟩:=st;obtain⟨q0,cb⟩:=cb;simp only at hG h2 h4 h5 y ra ba h6 m2 cb;have hc:=hG.le;have ta:∀k,(0=da+k)=False:=λk=>eq_false O
  have w:∀k,(2=da+k)=False:=λk=>eq_false O
  have m2r:Ai ga [2] 0 1=some [.slice i [] (Au acc)]:=by simp[Ai,m2]
  have ob:(acc.length=0)=(acc=[]):=propext (by rw[Q6]);have kb:((acc.length:Int)=0)=(acc=[]):=propext (by rw[←ob];omega);simp only[HD]at hx z gb ab u;have ua:∀a b c:D,Z8 3 [a,b,c]=[a,b,c]:=λ_ _ _=>rfl
  have bb:∀a b c:D,[a,b,c].length=3:=λ_ _ _=>rfl
  have qb:=hB.len;have db:=AD d;have ia:∀a:D,[a].length=1:=λ_=>rfl
  clear hB hQ;by_cases c1:Mn (xn,xp,xb,xr)=true∧acc=[]
  ·have hp:L1 acc (xn,xp,xb,xr)=some (BD acc (xn,xp,xb,xr)):=if_pos c1;rw[hp]at hA sa;simp only at hA sa;have ih:=ih (j+1) (BD acc (xn,xp,xb,xr)) d false nl ka t tL;have e1:=c1.1;have e2:(acc=[])=True:=eq_true c1.2;simp only[e1]at gb;clear u hp;have va:=hb.add (k:=(xn,xp,xb,xr)) O la;have r:=Ig acc (xn,xp,xb,xr);generalize BD acc (xn,xp,xb,xr)=ea at *
   repeat' (first|(refine aA (Ah X6) ?_)|simp (disch:=first|assumption|omega)only[↓GQ,GT,simprocAttr,GY,h2,h4,h5,h6,y,ra,ba,m2,m2r,d1,hx,ma,Qh,wa,kb,e2,Ab ha,z,Ab eb,gb,Ab za,ab,Ho,BC,Rg,NL,ua,bb,Bf,hw,Hi,pO,Qk,and_self,and_false])
   have fa:=(((hG.put (c':=da+1+2) (o:=0) (ds:=[.str [],.str [],.slice true [] []]) O).put (c':=da+1+2) (o:=0) (ds:=(D.agg [.str xn,.str xp,.slice xb [] (Am xr)]).cells) O).low_put (q:=2) (o:=0) (ds:=(D.agg [.slice false [] (Au ea)]).cells) O);refine ih _ _ _ O hA sa va O O (fa.more Xb) qa (decide_eq_false (λe=>by rw[e]at r;simp at r)).symm h2 h4 h5 y ra rfl h6 ?_ ⟨q0,?_⟩
   ·simp only[D.cells];exact Rg
   simp (disch:=omega)only[Bf,Hi,pO];exact cb
  ·have ib:(Mn (xn,xp,xb,xr)=true∧(acc=[])=False)∨(Mn (xn,xp,xb,xr)=false∧True):=by
    cases h:Mn (xn,xp,xb,xr)with
    |true=>exact .inl ⟨rfl,eq_false (λe=>c1 ⟨h,e⟩)⟩
    |false=>exact .inr ⟨rfl,trivial⟩
   rcases RZ acc (xn,xp,xb,xr)with ⟨⟨l',e0⟩,_,_,rb,sb,jb⟩|⟨e0,jb,pb⟩
   ·by_cases hr:xn=G_
    ·have hp:L1 acc (xn,xp,xb,xr)=none:=by
      unfold L1;rw[if_neg c1,if_neg (λh=>h.1 hr)]
     rw[hp]at hA sa;simp only at hA sa;rw[e0]at u;simp only[Rv]at u;have mb:late0=(d++[(xn,xp,xb,xr)])++(BX acc (L.drop (j+1))).2:=by rw[sa,QU];rfl
     have ih:=ih (j+1) acc (d++[(xn,xp,xb,xr)]) i false ka;rw[Ms]at ih;have oa:nl=true->Au d=[]:=λh=>by rw[qa h];rfl
     clear hp ab sa e0 jb;generalize l'=ea at *;have e3:(xn=[114,111,111,116])=True:=eq_true hr;have e4:True:=trivial;rcases ib with ⟨e1,e2⟩|⟨e1,e2⟩
     all_goals
      simp only[e1]at gb
      repeat' (first|(refine aA (Ah X6) ?_)|simp (disch:=first|assumption|omega)only[↓GQ,GT,simprocAttr,GY,h2,h4,h5,h6,y,ra,ba,m2,m2r,d1,hx,ma,Qh,wa,kb,e2,e3,e4,Ab ha,z,Ab eb,gb,Ab v,u,Ho,BC,Rg,NL,ua,bb,Bf,hw,Hi,pO,Qk,and_self,and_false])
      have fa:=(((hG.put (c':=da+1+2) (o:=0) (ds:=[.str [],.str [],.slice true [] []]) O).put (c':=da+1+2) (o:=0) (ds:=(D.agg [.str xn,.str xp,.slice xb [] (Am xr)]).cells) O).put (c':=da+1+4+9+6) (o:=0) (ds:=[.slice true [] []]) O).put (c':=da+1+4+9+6) (o:=0) (ds:=(D.agg [.slice false [] (Au ea)]).cells) O;have na:=fa.put (c':=da+1+4+9+9+7+2) (o:=0) (ds:=[.tok 69]) O;refine aA ⟨O,rfl,na.grow⟩ ?_;rw[Ba oa];simp (disch:=first|assumption|omega)only[↓GQ,GT,simprocAttr,GY,ba,hw,Hi,pO,Qk,and_self];have xa:=na.app (xs:=Au d) (c':=da+1+4+9+9+7+3) (c2:=da+1+4+9+9+7+5) O O;refine ih _ _ _ _ _ O hA mb hb O XA (xa.more Xb) (λe=>Xw) fb h2 h4 h5 y ra rfl rfl ?_ ⟨q0,?_⟩
      ·exact(xa.low 2 0 O).trans ((hG.low 2 0 O).symm.trans m2)
      ·exact(xa.low 0 0 O).trans ((hG.low 0 0 O).symm.trans cb)
    ·have hp:L1 acc (xn,xp,xb,xr)=some (BD acc (xn,xp,xb,xr)):=by
      unfold L1;rw[if_neg c1,if_pos ⟨hr,by rw[e0]⟩,jb]
     rw[hp]at hA sa;simp only at hA sa;have aa:l'=BD acc (xn,xp,xb,xr):=by rw[e0]at jb;exact QM jb
     subst aa;rw[e0]at u;simp only[Rv]at u;have ih:=ih (j+1) (BD acc (xn,xp,xb,xr)) d false nl ka t tL;have e1:Mn (xn,xp,xb,xr)=false:=by unfold Mn;rw[decide_eq_false hr];rfl
     simp only[e1]at gb;have e3:(xn=[114,111,111,116])=False:=eq_false hr;have va:=hb.add (k:=(xn,xp,xb,xr)) O la;have r:=Ig acc (xn,xp,xb,xr);have e2:True:=trivial;have e4:True:=trivial;clear hp ab;generalize BD acc (xn,xp,xb,xr)=ea at *
     repeat' (first|(refine aA (Ah X6) ?_)|simp (disch:=first|assumption|omega)only[↓GQ,GT,simprocAttr,GY,h2,h4,h5,h6,y,ra,ba,m2,m2r,d1,hx,ma,Qh,wa,kb,e2,e3,e4,Ab ha,z,Ab eb,gb,Ab v,u,Ho,BC,Rg,NL,ua,bb,Bf,hw,Hi,pO,Qk,and_self,and_false])
     have fa:=((((hG.put (c':=da+1+2) (o:=0) (ds:=[.str [],.str [],.slice true [] []]) O).put (c':=da+1+2) (o:=0) (ds:=(D.agg [.str xn,.str xp,.slice xb [] (Am xr)]).cells) O).put (c':=da+1+4+9+6) (o:=0) (ds:=[.slice true [] []]) O).put (c':=da+1+4+9+6) (o:=0) (ds:=(D.agg [.slice false [] (Au ea)]).cells) O).low_put (q:=2) (o:=0) (ds:=(D.agg [.slice false [] (Au ea)]).cells) O;refine ih _ _ _ O hA sa va O O (fa.more Xb) qa (decide_eq_false (λe=>by rw[e]at r;simp at r)).symm h2 h4 h5 y ra rfl h6 ?_ ⟨q0,?_⟩
     ·simp only[D.cells];exact Rg
     ·simp (disch:=omega)only[Bf,Hi,pO];exact cb
   ·have hp:L1 acc (xn,xp,xb,xr)=none:=by
     unfold L1;rw[if_neg c1,if_neg (λh=>by have:=h.2;omega)]
    rw[hp]at hA sa;simp only at hA sa;rw[e0]at u;simp only[Rv]at u;generalize (BO acc (xn,xp,xb,xr)).2=er at *;have e3:(er=0)=False:=eq_false O;have mb:late0=(d++[(xn,xp,xb,xr)])++(BX acc (L.drop (j+1))).2:=by rw[sa,QU];rfl
    have ih:=ih (j+1) acc (d++[(xn,xp,xb,xr)]) i false ka;rw[Ms]at ih;have e4:True:=trivial;have oa:nl=true->Au d=[]:=λh=>by rw[qa h];rfl
    clear hp ab sa;rcases ib with ⟨e1,e2⟩|⟨e1,e2⟩
    all_goals
     simp only[e1]at gb
     repeat' (first|(refine aA (Ah X6) ?_)|simp (disch:=first|assumption|omega)only[↓GQ,GT,simprocAttr,GY,h2,h4,h5,h6,y,ra,ba,m2,m2r,d1,hx,ma,Qh,wa,kb,e2,e3,e4,Ab ha,z,Ab eb,gb,Ab v,u,Ho,BC,Rg,NL,ua,bb,Bf,hw,Hi,pO,Qk,and_self,and_false])
     have fa:=(((hG.put (c':=da+1+2) (o:=0) (ds:=[.str [],.str [],.slice true [] []]) O).put (c':=da+1+2) (o:=0) (ds:=(D.agg [.str xn,.str xp,.slice xb [] (Am xr)]).cells) O).put (c':=da+1+4+9+6) (o:=0) (ds:=[.slice true [] []]) O).put (c':=da+1+4+9+6) (o:=0) (ds:=(D.agg [.slice i [] (Au acc)]).cells) O;have na:=fa.put (c':=da+1+4+9+9+7+2) (o:=0) (ds:=[.tok 69]) O;refine aA ⟨O,rfl,na.grow⟩ ?_;rw[Ba oa];simp (disch:=first|assumption|omega)only[↓GQ,GT,simprocAttr,GY,ba,hw,Hi,pO,Qk,and_self];have xa:=na.app (xs:=Au d) (c':=da+1+4+9+9+7+3) (c2:=da+1+4+9+9+7+5) O O;refine ih _ _ _ _ _ O hA mb hb O XA (xa.more Xb) (λe=>Xw) fb h2 h4 h5 y ra rfl rfl ?_ ⟨q0,?_⟩
     ·exact(xa.low 2 0 O).trans ((hG.low 2 0 O).symm.trans m2)
     ·exact(xa.low 0 0 O).trans ((hG.low 0 0 O).symm.trans cb)
def jM:∀(L acc:List Tk),WG acc->WG L->acc.length+L.length<=1000->WG (BX acc L).1∧WG (BX acc L).2∧(BX acc L).1.length+(BX acc L).2.length=acc.length+L.length
 |[],acc,ha,hL,_=>⟨ha,hL,rfl⟩
 |t::r,acc,ha,hL,hs=>by
  have j:WG r:=⟨by have:=hL.len;rw[Qm]at this;omega,λk hk=>hL.ok k (Qq _ hk)⟩;have w:=hL.ok t Qp;rw[Qm]at hs;unfold BX;cases hp:L1 acc t with
  |some a=>
   obtain⟨rfl,_⟩:=vX hp;have hl:=Ig acc t;obtain⟨u,q,d⟩:=jM r _ (ha.add O w) j O;exact⟨u,q,Yq⟩
  |none=>
   obtain⟨u,q,d⟩:=jM r acc ha j O;refine⟨u,⟨?_,λk hk=>?_⟩,?_⟩
   ·simp only[Qm];omega
   ·rcases Qs.1 hk with rfl|hk
    ·exact w
    ·exact q.ok k hk
   ·simp only[Qm];omega
def wW{R:Option (List Tk)}{Q:Ex->St->Prop}(hQ:∀ca i ks,R=some ks->ca.s 2= .ptr [0] 0->ca.s 4= .ptr [2] 0->ca.m [2] 0=some (.slice i [] (Au ks))->(i=decide (ks=[]))->(∃q,ca.m [0] 0=some q)->Q (.exit 0) ca)
  (hE:∀ca,R=none->ca.s 2= .ptr [0] 0->ca.s 3= .int .i64 4->Ai ca.m [0] 0 1=some [.slice true [] []]->Q .ret ca):
  ∀(f:Nat)(acc L:List Tk)(i ka:Bool)(tL:Id)(st:St) g,R=CF f acc L->L.length<=f->WG acc->WG L->acc.length+L.length<=1000->6<=st.c->i=decide (acc=[])->(ka=true->L=[])->st.s 2= .ptr [0] 0->st.s 4= .ptr [2] 0->st.s 5= .slice ka tL (Au L)->st.m [2] 0=some (.slice i [] (Au acc))->(∃q,st.m [0] 0=some q)->AK O0 [] IY Q st g:=by
 intro f;induction f with
 |zero=>
  intro acc L i ka tL st g b hf ha hL hs hc h w h2 h4 h5 m2 m0;cases L with
  |cons t r=>simp at hf
  |nil=>
   unfold CF at b;refine Af IY.eq_1 ?_;have sa:(Au ([]:List Tk)).length=0:=rfl;simp only[↓GQ,GT,simprocAttr,GY,h5,sa];exact hQ _ i acc b h2 h4 m2 h m0
 |succ f ih=>
  intro acc L i ka tL st g b hf ha hL hs hc h w h2 h4 h5 m2 m0;cases L with
  |nil=>
   unfold CF at b;refine Af IY.eq_1 ?_;have sa:(Au ([]:List Tk)).length=0:=rfl;simp only[↓GQ,GT,simprocAttr,GY,h5,sa];exact hQ _ i acc b h2 h4 m2 h m0
  |cons t r=>
   unfold CF at b;obtain⟨p1,p2,p3⟩:=jM (t::r) acc ha hL hs;have l:=Vl (t::r) acc;have ia:0<(t::r).length:=U
   generalize z:t::r=L at *;refine Af IY.eq_1 ?_;have db:=AD L;have c1:((0:Int)<(L.length:Int))=True:=eq_true O;simp only[↓GQ,GT,simprocAttr,GY,h5,db,c1];refine wX hL (A:=(BX acc L).1) (late0:=(BX acc L).2) (λca k nl' t' cb ea ba a o e n u j d=>?_) L.length 0 acc [] i true ka [] tL _ _ _ O (by rw[Qr]) (by rw[Qr];rfl) ha O (Qo _) (LG.start Xb) (λ_=>rfl) h h2 h4 h5 rfl rfl rfl rfl m2 m0;obtain⟨y,x,a⟩:=a;have p:=AD (BX acc L).2;obtain⟨q0,d⟩:=d;have v:Ai ca.m [0] 0 1=some [q0]:=by simp[Ai,d]
   have f0:Bw [D.slice true [] []] []=some [.slice true [] []]:=rfl;by_cases la:(BX acc L).2.length=L.length
   ·rw[if_pos la]at b;have c2:(((BX acc L).2.length:Int)=(L.length:Int))=True:=eq_true O
    repeat' (first|(refine aA (Ah (by simp[Ap,An,GZ,Ag,Ac,GW.ev,AG,ea])) ?_)|simp (disch:=first|assumption|omega)only[↓GQ,GT,simprocAttr,GY,ea,a,e,db,p,c2,v,f0,Qk,and_self])
    exact hE _ b ea rfl NL
   ·rw[if_neg la]at b;have c2:(((BX acc L).2.length:Int)=(L.length:Int))=False:=eq_false O;simp only[↓GQ,GT,simprocAttr,GY,a,e,db,p,c2];refine ih _ _ k nl' t' _ _ b O p1 p2 O (by simp only;have:=n.le;omega) j u ea ba rfl o ⟨q0,d⟩
def LJ:Option (List Tk)->D
 |some i=> .agg [.slice (decide (i=[])) [] (Au i)]
 |none=> .agg [.slice true [] []]
def aAg(nl:Bool)(l:List Tk)(c:nl=true->l=[])(y:WG l):aGx [.slice nl [] (Au l)]=some (.tup [LJ (CF l.length [] l),.int .i64 (if(CF l.length [] l).isSome then 0 else 4)]):=by
 refine Aq (Qj rfl) ?_;unfold aEp;have a:=aGm nl l c y.len;simp (disch:=first|assumption|omega)only[GU,↓GQ,GS,simprocAttr,GY,Ad O0 152,a];refine wW (R:=CF l.length [] l) (λo i v g z x w h m0=>?_) (λo g z d m0=>?_) l.length [] l true nl [] _ _ rfl (Qv _) ⟨U,λk s=>XP⟩ y (by have:=y.len;simp;omega) (Qj rfl) rfl c rfl rfl rfl ?_ ⟨.slice true [] [],?_⟩
 ·obtain⟨q,m0⟩:=m0;rw[g];subst h;have m2r:Ai o.m [2] 0 1=some [.slice (decide (v=[])) [] (Au v)]:=by simp[Ai,w]
  simp only[LJ,Qk,if_true];simp (disch:=first|assumption|omega)only[GU,↓GQ,GS,simprocAttr,GY,z,x,w,m2r,m0,NL,Hi,pO,Qk]
  all_goals exact Qd
 ·rw[g];have b:o.m [0] 0=some (.slice true [] []):=A_ (k:=0) m0 rfl;simp only[LJ,Option.isSome_none,ZN,if_false];simp (disch:=first|assumption|omega)only[GU,↓GQ,GS,simprocAttr,GY,z,d,b,Qk]
  all_goals exact Qd
 ·show GV.put (GV.put (λ_ _=>none) [0] 0 [.slice true [] []]) [2] 0 [.slice true [] []] [2] 0=some (.slice true [] []);exact Rg
 ·simp (disch:=decide)only[pO];exact Rg
end Go.Vd
namespace Go.Vd
open Go.Proofs Go.RowKit Go.Shelf
def aMP(w:World)(g:Gh):Gh:={G:=λb=>min (g.G b) (allG w b),G0:=λb=>min (g.G0 b) (allG w b),dl:=g.dl,tb:=g.tb}
def Rep.norm{w:World}{g:Gh}{d:D}{v:Value}(h:Rep w g d v):Rep w (aMP w g) d v:=by
 induction h with
 |junk v=>exact .junk v
 |bool b=>exact .bool b
 |int k n=>exact .int k n
 |str s=>exact .str s
 |nils t=>exact .nils t
 |slice t xs a k c sz z u q m x h5 r p h8 y ih=>
  refine .slice t xs a k c sz z u q m x h5 ih (λh=>?_) h8 y;have e:=V8 (x (k*sz-1) O);rw[B8,Dr]at e;have:=p h;show a.off+k*sz<=min (g.G a.block) (allG w a.block);omega
 |ptr i o b u=>exact .ptr i o b u
 |row i k c b u q=>exact .row i k c b u q
 |eptr ds a z u q m x h5 ih=>
  refine .eptr ds a z u q ih (λh=>?_) h5;have e:=V8 (u (ds.length-1) O);rw[B8,Dr]at e;have:=x h;show a.off+ds.length<=min (g.G a.block) (allG w a.block);omega
 |nilp=>exact .nilp
 |agg ds vs u q m ih=>exact .agg ds vs u q ih
 |tup ds vs u q ih=>exact .tup ds vs u ih
 |iface t d v u q ih=>exact .iface t d v u ih
 |nili=>exact .nili
 |fn f ds vs u q ih=>exact .fn f ds vs u ih
 |nilf=>exact .nilf
 |nilm=>exact .nilm
 |itp i b h=>exact .itp i b h
def Hc.norm{P:Program}{B:Nat}{w0 w:World}{m:GV}{g:Gh}(h:Hc P B w0 m w g):Hc P B w0 m w (aMP w g):=by
 refine⟨h.below,h.size,λb f=>?_,λb f=>?_,λi b hi=>?_,h.inj,h.kind,λi e hi=>?_,h.tinj,?_⟩
 ·show min (g.G b) (allG w b)=0;rw[h.gz b f];omega
 ·show min (g.G b) (allG w b)=min (g.G0 b) (allG w b);rw[h.old b f]
 ·obtain⟨u,q,vs,T,k,x⟩:=h.obj i b hi;refine⟨u,?_,vs,T,k,λo d r=>?_⟩
  ·show min (g.G b) (allG w b)=0;rw[q];omega
  ·obtain⟨v,v1,v2,v3⟩:=x o d r;exact⟨v,v1,v2,v3.norm⟩
 ·obtain⟨b,n,c,sz,cur,j,t,t3,t4,t5,t6,t7,t8,t9,y⟩:=h.tok i e hi;refine⟨b,n,c,sz,cur,j,t,t3,t4,t5,t6,t7,t8,?_,y⟩;show min (g.G b) (allG w b)=n*sz;have:allG w b=c*sz:=by unfold allG;rw[t5];exact t8
  rw[this,t9];have:=ZH sz t6;omega
 ·exact h.itr.to (λ_ _ _ h=>h) λi b s p _ _ _ _ a z=>⟨rfl,rfl,by show min (g.G b) _=0;rw[a];omega,z⟩
def Rep.world{w w':World}{g:Gh}{d:D}{v:Value}(h:Rep w g d v)(r:∀p:Addr,p.off<g.G p.block->w'.cell? p=w.cell? p):Rep w' g d v:=by
 induction h with
 |junk v=>exact .junk v
 |bool b=>exact .bool b
 |int k n=>exact .int k n
 |str s=>exact .str s
 |nils t=>exact .nils t
 |slice t xs a k c sz z u q m x h5 h6 h7 h8 y ih=>
  refine .slice t xs a k c sz z u q m (λj e=>?_) h5 ih h7 h8 y;rw[r (a.add j) YB];exact x j e
 |ptr i o b u=>exact .ptr i o b u
 |row i k c b u q=>exact .row i k c b u q
 |eptr ds a z u q m x h5 ih=>
  refine .eptr ds a z (λj e=>?_) q ih x h5;rw[r (a.add j) (by rw[B8,Dr];have:=x O;omega)];exact u j e
 |nilp=>exact .nilp
 |agg ds vs u q m ih=>exact .agg ds vs u q ih
 |tup ds vs u q ih=>exact .tup ds vs u ih
 |iface t d v u q ih=>exact .iface t d v u ih
 |nili=>exact .nili
 |fn f ds vs u q ih=>exact .fn f ds vs u ih
 |nilf=>exact .nilf
 |nilm=>exact .nilm
 |itp i b h=>exact .itp i b h
def Hc.grown{P:Program}{B:Nat}{w0 W W':World}{m:GV}{g:Gh}{row:Option Nat}(h:Hc P B w0 m W g)(hn:∀b,g.G b<=allG W b)(hg:W.grownBy W' row)(hr:∀r,row=some r->B<=r∧∃o:Obj,W.heap[r]?=some o∧o.isCells=false)(ea:∀i s p,m i 1≠some (.it s p)):
  Hc P B w0 m W' g∧(∀d v,Rep W g d v->Rep W' g d v)∧∀b,g.G b<=allG W' b:=by
 have w:∀(k:Nat)(vs:Array Value)(T:TypeId)(fr:Nat×Nat),W.heap[k]?=some (Obj.cells vs T fr)->W'.heap[k]?=some (Obj.cells vs T fr):=λk vs T fr j=>by
  have y:k<W.heap.size:=(Qn.1 j).1;rw[hg.block k y (λe=>by
   obtain⟨_,o,ho,hc⟩:=hr k e.symm;rw[j]at ho;cases ho;cases hc)]
  exact j
 have a:∀b,0<g.G b->W'.heap[b]?=W.heap[b]?:=λb f=>by
  have u:=hn b;unfold allG at u;cases hw:W.heap[b]? with
  |none=>rw[hw]at u;simp only at u;omega
  |some o=>
   rw[hw]at u;cases o with
   |cells vs T fr=>exact w b vs T fr hw
   |_=>simp only at u;omega
 have fa:∀d v,Rep W g d v->Rep W' g d v:=λd v z=>z.world λp hp=>by
  unfold World.cell?;rw[a p.block O]
 have pa:=hg.size;refine⟨⟨h.below.grown hg h.size (λk e=>(hr k e).1),QA h.size pa,λb f=>h.gz b (QA pa f),h.old,λi b hi=>?_,h.inj,h.kind,λi e hi=>?_,h.tinj,?_⟩,fa,λb=>?_⟩
 ·obtain⟨u,q,vs,T,h3,h4⟩:=h.obj i b hi;exact⟨u,q,vs,T,w _ _ _ _ h3,λo d hm=>(h4 o d hm).elim λv hv=>⟨v,hv.1,hv.2.1,fa _ _ hv.2.2⟩⟩
 ·obtain⟨b,n,c,sz,cur,t1,t2,t3,t4,t5,t6,t7,t8,t9,za⟩:=h.tok i e hi;exact⟨b,n,c,sz,cur,t1,t2,t3,t4,w _ _ _ _ t5,t6,t7,t8,t9,za⟩
 ·exact⟨λi s p hi=>absurd hi (ea i s p),λi i' s p t p' b x x' hi=>absurd hi (ea i s p)⟩
 ·rcases Zn (g.G b)with h0|h0
  ·omega
  ·have:=hn b;unfold allG at this ⊢;rw[a b h0];exact this
def Pc(G:Nat->Nat)(W:World)(b k:Nat):Nat:=if k<b then G k else allG W k
def vQ{P:Program}{S:GR}(v:GR.ok P S){N:Nat}{y:Code}{b:DC}(r:AA P N y=some b)(p:WD y=true){l n B:Nat}{w0 W:World}{g:Gh}{z:St}{a:Act}(f:Cm P B w0 N [] z a W g){Q:Ex->St->Prop}(s:b.wp S [] Q z):
  y.wpIn (Fence.wide.inRound l) n P (λt k i=>∃e o c,t=e.toExit∧Q e o∧Cm P B w0 N [] o k i c∧Hk W g i c) a W:=by
 obtain⟨e,o,x,j⟩:=s;refine wpIn_mono (aXU v y b r p _ e o x a W _ f) ?_;rintro t k i ⟨rfl,c,q,d,_⟩;exact⟨e,o,c,rfl,j,q,d⟩
def Rep.moreG{w:World}{g p:Gh}{d:D}{v:Value}(h:Rep w g d v)(r:∀b,g.G b<=p.G b)(z:∀i b,g.dl i=some b->p.dl i=some b)(ht:∀i x,g.tb i=some x->p.tb i=some x):Rep w p d v:=by
 induction h with
 |junk v=>exact .junk v
 |bool b=>exact .bool b
 |int k n=>exact .int k n
 |str s=>exact .str s
 |nils t=>exact .nils t
 |slice t xs a k c sz j u q m h4 e h6 h7 h8 y ih=>exact .slice t xs a k c sz j u q m h4 e ih (λh=>QA (h7 h) (r _)) (λh=>⟨(h8 h).1,(h8 h).2.1,ht _ _ (h8 h).2.2⟩) y
 |ptr i o b u=>exact .ptr i o b (z _ _ u)
 |row i k c b u q=>exact .row i k c b u (z _ _ q)
 |eptr ds a j u q m h4 e ih=>exact .eptr ds a j u q ih (λh=>QA (h4 h) (r _)) e
 |nilp=>exact .nilp
 |agg ds vs u q m ih=>exact .agg ds vs u q ih
 |tup ds vs u q ih=>exact .tup ds vs u ih
 |iface t d v u q ih=>exact .iface t d v u ih
 |nili=>exact .nili
 |fn f ds vs u q ih=>exact .fn f ds vs u ih
 |nilf=>exact .nilf
 |nilm=>exact .nilm
 |itp i b h=>exact .itp i b (ht _ _ h)
abbrev Tb4:=Option (Id×Nat×Nat×Nat×Nat)
def iY(G:Nat->Nat)(W:World)(b b2:Nat):Tb4->Nat->Nat
 |none,k=>if k=b∨k=b2 then 0 else Pc G W b k
 |some (_,bs,n,_,sz),k=>if k=b∨k=b2 then 0 else if k=bs then n*sz else Pc G W b k
def tb4:Tb4->Id->Option (Nat×Nat×Nat×Nat)
 |none,_=>none
 |some (r,x),j=>if j=r then some x else none
def Pf(G:Nat->Nat)(W:World)(i i2:Id)(b b2:Nat)(o:Tb4):Gh:={G:=iY G W b b2 o,G0:=iY G W b b2 o,dl:=λj=>if j=i then some b else if j=i2 then some b2 else none,tb:=tb4 o}
def aQN(o:Tb4)(e:Nat):GV:=match o with
 |none=>λ_ _=>none
 |some (r,_)=>aKc r (.tok (e+1))
def cL(i i2:Id)(d d2:D)(o:Tb4)(e:Nat):GV:=((aQN o e).put i 0 [d]).put i2 0 [d2]
def aBI{m:GV}{i j:Id}{o:Nat}{d n:D}(h:m.put i 0 [d] j o=some n):(j=i∧o=0∧n=d)∨m j o=some n:=by
 by_cases w:j=i
 ·subst w;unfold GV.put at h;by_cases r:o=0
  ·subst r;left;simp at h;exact⟨rfl,rfl,h.symm⟩
  ·right;simp[r]at h;rcases Zy o 1 with h1|h1
   ·omega
   ·simpa[show ¬o<1 by omega]using h
 ·right;rw[aB w]at h;exact h
def GJ{i i2 j:Id}{q:Nat}{d d2 n:D}{o:Tb4}{e:Nat}(h:cL i i2 d d2 o e j q=some n):(j=i2∧q=0∧n=d2)∨(j=i∧q=0∧n=d)∨∃r x,o=some (r,x)∧j=r∧q=0∧n= .tok (e+1):=by
 rcases aBI h with h|h
 ·exact .inl h
 ·rcases aBI h with h|h
  ·exact .inr (.inl h)
  ·right;right;unfold aQN at h;cases o with
   |none=>cases h
   |some p=>
    obtain⟨r,x⟩:=p;obtain⟨u,z,m⟩:=aKb h;exact⟨r,x,rfl,u,z,m⟩
def qM{P:Program}{G:Nat->Nat}{W:World}{i i2:Id}{b b2 e sz:Nat}{vs tb:Array Value}{T T2:TypeId}{d d2:D}{v v2:Value}{o:Tb4}(g:i≠i2)(db:b<b2)
  (hh:W.heap[b]?=some (.cells vs T (0,0))) (hv:vs[0]?=some v) (u:v.oneCell'=true) (hr:Rep W (Pf G W i i2 b b2 o) d v) (hk:∀e,d≠ .tok e)
  (mb:W.heap[b2]?=some (.cells tb T2 (0,0))) (za:tb[0]?=some v2) (la:v2.oneCell'=true) (na:Rep W (Pf G W i i2 b b2 o) d2 v2) (ba:∀e,d2≠ .tok e)
  (pa:0<sz) (hi:∃t z,P.info? e=some t∧t.size=sz∧t.zero=some z∧z.cells.size=sz)
  (ho:∀r bs n c s,o=some (r,bs,n,c,s)->s=sz∧b<bs∧bs≠b2∧n<=c∧c<=maxLen∧r≠i∧r≠i2∧∃cur,W.heap[bs]?=some (.cells cur e (0,0))∧cur.size=c*sz):
  Hc P b W (cL i i2 d d2 o e) W (Pf G W i i2 b b2 o):=by
 have y:b<W.heap.size:=(Qn.1 hh).1;have lb:b2<W.heap.size:=(Qn.1 mb).1;have a:∀{j:Id} {e':Nat},cL i i2 d d2 o e j 0=some (.tok e')->∃x,o=some (j,x)∧e'=e+1:=λh=>by
  rcases GJ h with ⟨_,_,e0⟩|⟨_,_,e0⟩|⟨r,x,u,rfl,_,e0⟩
  ·exact absurd e0.symm (ba _)
  ·exact absurd e0.symm (hk _)
  ·cases e0;exact⟨x,u,rfl⟩
 refine⟨Below.refl _ _,O,λk ba=>?_,λ_ _=>rfl,λi' b' h=>?_,λi1 j1 b' w m=>?_,λi' q d' h hn=>?_,λi' e' h=>?_,λi1 j1 e1 e2 b' x x' w m h4 h5=>?_,λi' s p h=>?_,λi1 j1 s p s' p' b' x x' w m h4 h5=>?_⟩
 ·show iY G W b b2 o k=0;have f:Pc G W b k=0:=by unfold Pc;rw[if_neg O];exact SN W k ba
  cases o with
  |none=>
   show(if k=b∨k=b2 then 0 else Pc G W b k)=0;rw[if_neg O];exact f
  |some p=>
   obtain⟨r,bs,n,c,s⟩:=p;obtain⟨_,_,_,_,_,_,_,cur,hc,_⟩:=ho r bs n c s rfl;have:=(Qn.1 hc).1;show(if k=b∨k=b2 then 0 else if k=bs then n*s else Pc G W b k)=0;rw[if_neg O,if_neg O];exact f
 ·have hz:iY G W b b2 o b=0∧iY G W b b2 o b2=0:=by
   cases o with
   |none=>exact⟨if_pos (.inl rfl),if_pos (.inr rfl)⟩
   |some p=>
    obtain⟨r,bs,n,c,s⟩:=p;exact⟨if_pos (.inl rfl),if_pos (.inr rfl)⟩
  simp only[Pf]at h;split at h
  ·rename_i e0;subst e0;cases h;refine⟨Qv _,hz.1,vs,T,hh,λq d' hm=>?_⟩;rcases GJ hm with ⟨e0,_,_⟩|⟨_,rfl,rfl⟩|⟨r,x,u,rfl,_,_⟩
   ·exact absurd e0 g
   ·exact⟨v,hv,u,hr⟩
   ·obtain⟨bs,n,c,s⟩:=x;exact absurd rfl (ho _ _ _ _ _ u).2.2.2.2.2.1
  ·split at h
   ·rename_i e0;subst e0;cases h;refine⟨Nat.le_of_lt db,hz.2,tb,T2,mb,λq d' hm=>?_⟩;rcases GJ hm with ⟨_,rfl,rfl⟩|⟨e0,_,_⟩|⟨r,x,u,rfl,_,_⟩
    ·exact⟨v2,za,la,na⟩
    ·exact absurd e0.symm g
    ·obtain⟨bs,n,c,s⟩:=x;exact absurd rfl (ho _ _ _ _ _ u).2.2.2.2.2.2.1
   ·cases h
 ·simp only[Pf]at w m;split at w
  ·cases w;split at m
   ·simp_all
   ·split at m
    ·simp only[Ql]at m;omega
    ·cases m
  ·split at w
   ·cases w;split at m
    ·simp only[Ql]at m;omega
    ·split at m
     ·simp_all
     ·cases m
   ·cases w
 ·rcases GJ h with ⟨rfl,_,_⟩|⟨rfl,_,_⟩|⟨_,_,_,_,_,rfl⟩
  ·simp only[Pf]at hn;split at hn
   ·cases hn
   ·simp at hn
  ·simp[Pf]at hn
  ·rfl
 ·obtain⟨x,u,w⟩:=a h;obtain⟨bs,n,c,s⟩:=x;cases w;obtain⟨rfl,a1,a2,a3,a4,a5,a6,cur,a7,a8⟩:=ho _ _ _ _ _ u;refine⟨bs,n,c,s,cur,?_,O,pa,hi,a7,a3,a4,a8,?_,λj=>?_⟩
  ·show tb4 o i'=_;rw[u];exact if_pos rfl
  ·show iY G W b b2 o bs=n*s;rw[u];show(if bs=b∨bs=b2 then 0 else if bs=bs then n*s else Pc G W b bs)=n*s;rw[if_neg O,if_pos rfl]
  ·simp only[Pf];split
   ·intro e0;cases e0;omega
   ·split
    ·intro e0;cases e0;exact a2 rfl
    ·intro e0;cases e0
 ·obtain⟨x1,h6,_⟩:=a w;obtain⟨x2,h7,_⟩:=a m;rw[h6]at h7;cases h7;rfl
 ·rcases GJ h with ⟨_,e0,_⟩|⟨_,e0,_⟩|⟨_,_,_,_,e0,_⟩<;>cases e0
 ·rcases GJ w with ⟨_,e0,_⟩|⟨_,e0,_⟩|⟨_,_,_,_,e0,_⟩<;>cases e0
def Ul{G:Nat->Nat}{W:World}{i i2 r b b2 e c0:Nat}{d d2:D}{o:Tb4}(hi:i<c0)(f:i2<c0)(j:r<c0)(c:∀n x,o=some (n,x)->n=[r]){k:Nat}{a:Id}(s:c0<=k)(g:[k]<:+a):B2 (cL [i] [i2] d d2 o e) (Pf G W [i] [i2] b b2 o) a:=by
 have v:∀q,q<c0->a≠[q]:=λq z=>by
  rintro rfl;obtain⟨t,w⟩:=g;have hl:=congrArg Z6 w;simp only[QN,Qm,QL]at hl;have:t=[]:=Q6.1 O;subst this;simp at w;omega
 refine⟨λq=>?_,by simp[Pf,v i hi,v i2 f],?_⟩
 ·cases hm:cL [i] [i2] d d2 o e a q with
  |none=>rfl
  |some x=>
   rcases GJ hm with ⟨h,_⟩|⟨h,_⟩|⟨n,y,u,h,_⟩
   ·exact absurd h (v _ f)
   ·exact absurd h (v _ hi)
   ·rw[c _ _ u]at h;exact absurd h (v _ j)
 ·show tb4 o a=none;cases o with
  |none=>rfl
  |some p=>
   obtain⟨n,y⟩:=p;show(if a=n then some y else none)=none;rw[c _ _ rfl,if_neg (v _ j)]
def Ec(G:Nat->Nat)(b b2 lo e sz:Nat)(i i2 r:Id)(W:World)(nl:Bool)(xs:List D)(fl:Bool):Prop:=
 Ld W b2 (.bool fl)∧∃(vs:Array Value)(T:TypeId)(v:Value),W.heap[b]?=some (.cells vs T (0,0))∧vs[0]?=some v∧
  ((nl=true∧xs=[]∧v= .slice none 0 0)∨(nl=false∧∃(bs n c:Nat)(cur:Array Value),lo<=bs∧n<=c∧c<=maxLen∧W.heap[bs]?=some (.cells cur e (0,0))∧cur.size=c*sz∧v= .slice (some ⟨bs,0,none⟩) n c∧Rep W (Pf G W i i2 b b2 (some (r,bs,n,c,sz))) (.slice false r xs) v))
def dX{α:Type}{G:Nat->Nat}{b b2 lo:Nat}{e sz:Nat}{i i2 r:Id}(nl:α->Bool)(xs:α->List D)(fl:α->Bool):Own (λ(s:α) W=>Ec G b b2 lo e sz i i2 r W (nl s) (xs s) (fl s)):=λs W t row hs a m=>by
 obtain⟨h0,vs,T,v,u,q,h3⟩:=hs;refine⟨aFa b2 (λs=>Value.bool (fl s)) s W t row h0 a m,?_⟩;have w:∀(k:Nat)(vs:Array Value)(T:TypeId)(fr:Nat×Nat),W.heap[k]?=some (Obj.cells vs T fr)->t.heap[k]?=some (Obj.cells vs T fr):=λk vs T fr j=>by
  have y:k<W.heap.size:=(Qn.1 j).1;rw[a.block k y (λe=>by
   obtain⟨o,ho,g⟩:=m k e.symm;rw[j]at ho;cases ho;cases g)]
  exact j
 have ka:∀k,0<allG W k->t.heap[k]?=W.heap[k]?:=λk j=>by
  unfold allG at j;cases hw:W.heap[k]? with
  |none=>rw[hw]at j;simp only at j;omega
  |some o=>
   rw[hw]at j;cases o with
   |cells vs T fr=>exact w k vs T fr hw
   |_=>simp only at j;omega
 refine⟨vs,T,v,w _ _ _ _ u,q,?_⟩;rcases h3 with h3|⟨h3,bs,n,c,cur,g1,f,g4,g5,d,g7,g8⟩
 ·exact .inl h3
 ·refine .inr ⟨h3,bs,n,c,cur,g1,f,g4,w _ _ _ _ g5,d,g7,?_⟩;have ta:n*sz<=c*sz:=ZH sz f;have ia:allG W bs=c*sz:=by unfold allG;rw[g5];exact d
  refine(g8.norm.world (w':=t) λp z=>?_).moreG (λk=>?_) (λ_ _ h=>h) (λ_ _ h=>h)
  ·have x:p.off<min ((Pf G W i i2 b b2 (some (r,bs,n,c,sz))).G p.block) (allG W p.block):=z;unfold World.cell?;rw[ka p.block O]
  ·show min (if k=b∨k=b2 then 0 else if k=bs then n*sz else if k<b then G k else allG W k) (allG W k)<=if k=b∨k=b2 then 0 else if k=bs then n*sz else if k<b then G k else allG t k
   split
   ·omega
   ·split
    ·omega
    ·split
     ·omega
     ·rcases Zn (allG W k)with h0|h0
      ·omega
      ·have:allG t k=allG W k:=by unfold allG;rw[ka k h0]
       omega
def Dw(nl:Bool)(i i2 r:Nat)(xs:List D)(e:Nat)(fl:Bool):GV:=cL [i] [i2] (.slice nl (if nl=true then []else [r]) xs) (.bool fl) (if nl=true then none else some ([r],0,0,0,0)) e
def bM{P:Program}{S:GR}(hS:GR.ok P S){N:Nat}{ea:Code}{dc:DC}(da:AA P N ea=some dc)(ka:WD ea=true){l n lo:Nat}{G:Nat->Nat}{W:World}{b b2 e sz i i2 r c:Nat}(ob:i≠r∧i2≠r∧i≠i2)(ib:i<c∧i2<c∧r<c)(pa:0<sz)(hi:∃t z,P.info? e=some t∧t.size=sz∧t.zero=some z∧z.cells.size=sz)
  (db:b<b2) (cc:b2<lo) (oa:lo<=W.heap.size) {nl:Bool} {xs:List D} (hG:Ec G b b2 lo e sz [i] [i2] [r] W nl xs true) {s:Nat->D} {a:Act} (hb:∀g:Gh,g.dl [i]=some b->g.dl [i2]=some b2->Da W g s a) (hN:a.tmps.size=N) (ac:a.defers=[])
  {Q:Ex->St->Prop} (bb:dc.wp S [] Q ⟨s,Dw nl i i2 r xs e true,c⟩):
  ea.wpIn (Fence.wide.inRound l) n P (λe' a' W'=>∃e2 ca,e'=e2.toExit∧Q e2 ca∧KeepsOthers W W'∧Below b W W'∧W.heap.size<=W'.heap.size∧(∀k,k≠b->k≠b2->k<lo->W'.heap[k]?=W.heap[k]?)∧∀nl' t' ub yb,ca.m [i] 0=some (.slice nl' t' ub)->(nl'=false->t'≠[]∧ca.m t' 0=some (.tok (e+1)))->ca.m [i2] 0=some (.bool yb)->Ec G b b2 lo e sz [i] [i2] [r] W' nl' ub yb) a W:=by
 obtain⟨⟨tb,T2,y1,y2⟩,vs,T,v,h1,h2,h3⟩:=hG;have ma:([i]:Id)≠[i2]:=λe=>ob.2.2 (ZK e).1
 have fb:([r]:Id)≠[i]:=λe=>ob.1 (ZK e).1.symm
 have gb:([r]:Id)≠[i2]:=λe=>ob.2.1 (ZK e).1.symm
 have key:∃o:Tb4,Cm P b W N [] ⟨s,Dw nl i i2 r xs e true,c⟩ a W (Pf G W [i] [i2] b b2 o)∧∀j x,tb4 o j=some x->lo<=x.1∧∃cur e',W.heap[x.1]?=some (.cells cur e' (0,0)):=by
  rcases h3 with ⟨rfl,rfl,rfl⟩|⟨rfl,bs,n',c',cur,g1,g3,g4,g5,g6,rfl,g8⟩
  ·have ta:Dw true i i2 r [] e true=cL [i] [i2] (.slice true [] []) (.bool true) none e:=rfl;rw[ta];refine⟨none,⟨qM ma db h1 h2 rfl (.nils []) (λe h=>Xd) y1 y2 rfl (.bool _) (λe h=>Xd) pa hi (λr bs n c s h=>Xd),hb _ (by simp[Pf]) (by simp[Pf,ma.symm]),hN,ac,λk i' hk hs=>Ul ib.1 ib.2.1 ib.2.2 (λr' x h=>Xd) hk hs⟩,λj x h=>Xd⟩
  ·have ta:Dw false i i2 r xs e true=cL [i] [i2] (.slice false [r] xs) (.bool true) (some ([r],bs,n',c',sz)) e:=rfl;rw[ta];refine⟨some ([r],bs,n',c',sz),⟨qM ma db h1 h2 rfl g8 (λe h=>Xd) y1 y2 rfl (.bool _) (λe h=>Xd) pa hi (λr' f n2 c2 s2 h=>by cases h;exact⟨rfl,O,O,g3,g4,fb,gb,cur,g5,g6⟩),hb _ (by simp[Pf]) (by simp[Pf,ma.symm]),hN,ac,λk i' hk hs=>Ul ib.1 ib.2.1 ib.2.2 (λr' x h=>XC) hk hs⟩,λj x h=>?_⟩;simp only[tb4]at h;split at h
   ·cases h;exact⟨g1,cur,e,g5⟩
   ·cases h
 obtain⟨o,hx,cb⟩:=key;have sb:(Pf G W [i] [i2] b b2 o).dl [i]=some b:=by simp[Pf]
 have rb:(Pf G W [i] [i2] b b2 o).dl [i2]=some b2:=by simp[Pf,ma.symm]
 have ua:∀j k,(Pf G W [i] [i2] b b2 o).dl j=some k->k=b∨k=b2:=λj k h=>by
  simp only[Pf]at h;split at h
  ·exact .inl (QM h).symm
  ·split at h
   ·exact .inr (QM h).symm
   ·cases h
 have ab:∀k,k<b->(Pf G W [i] [i2] b b2 o).G0 k=G k:=λk hk=>by
  have lb:∀p:Id×Nat×Nat×Nat×Nat,o=some p->lo<=p.2.1:=λp hp=>by
   obtain⟨r',y⟩:=p;exact(cb r' y (by rw[hp];exact if_pos rfl)).1
  show iY G W b b2 o k=G k;cases o with
  |none=>
   show(if k=b∨k=b2 then 0 else Pc G W b k)=G k;unfold Pc;rw[if_neg O,if_pos hk]
  |some p=>
   obtain⟨r',bs,n',c',s'⟩:=p;have:=lb _ rfl;show(if k=b∨k=b2 then 0 else if k=bs then n'*s' else Pc G W b k)=G k;unfold Pc;simp only at this;rw[if_neg O,if_neg O,if_pos hk]
 refine wpIn_mono (vQ hS da ka hx bb) ?_;rintro e' a' W' ⟨e2,ca,g',rfl,hq,ra,ga⟩;have qa:∀k,k≠b->k≠b2->k<W.heap.size->(∀j x,tb4 o j=some x->x.1≠k)->W'.heap[k]?=W.heap[k]?:=λk w u aa ht=>by
  have:=ga.unt k W.heap[k] (Q2 aa) (λj e=>by
   rcases ua j k e with h|h
   ·exact w h
   ·exact u h) ht
  rw[this,Q2 aa]
 refine⟨e2,ca,rfl,hq,⟨ga.size,λk q hk hc=>?_⟩,ra.inv.below,ga.size,λk w u ia=>qa k w u O λj x hj e0=>by have:=(cb j x hj).1;omega,λnl' t' ub yb hm ya sa=>?_⟩
 ·have aa:k<W.heap.size:=(Qn.1 hk).1;rw[qa k (λe=>by rw[e,h1]at hk;cases hk;cases hc) (λe=>by rw[e,y1]at hk;cases hk;cases hc) aa (λj x hj e0=>by
   obtain⟨_,cur,e',h⟩:=cb j x hj;rw[e0,hk]at h;cases h;cases hc)]
  exact hk
 ·obtain⟨_,kb,eb,T',mb,wa⟩:=ra.inv.obj [i] b (ga.dl [i] b sb);obtain⟨v',va,za,fa⟩:=wa 0 _ hm;obtain⟨_,xb,mc,T3,bc,qb⟩:=ra.inv.obj [i2] b2 (ga.dl [i2] b2 rb);obtain⟨v3,gc,_,pb⟩:=qb 0 _ sa;have e3:=pb.bool_inv;subst e3;refine⟨⟨mc,T3,bc,gc⟩,?_⟩;cases nl' with
  |true=>
   cases fa with
   |nils=>exact⟨eb,T',_,mb,va,.inl ⟨rfl,rfl,rfl⟩⟩
  |false=>
   obtain⟨ha,na⟩:=ya rfl;obtain⟨f,n',c',xa,ja,q1,q2,q3,⟨ti,zi,q4,q5,q6⟩,q7,q8,q9,kc,ec,zb⟩:=ra.inv.tok t' e na;obtain⟨ic,oc,p4,p5,_⟩:=hi;have ba:xa=sz:=by
    rw[q4]at p4;cases p4;omega
   subst ba;cases fa with
   |slice _ _ a2 n2 c2 vb lc e1 la e3 e4 e5 e6 e7 e8 e9=>
    obtain⟨o1,o2,o3⟩:=e8 ha;rw[q1]at o3;obtain⟨nc,off,jb⟩:=a2;simp only at o1 o2 o3;subst o1 o2;simp only[Ql,ZL]at o3;obtain⟨rfl,rfl,rfl,rfl⟩:=o3;have fc:f≠b:=λe0=>zb [i] (by rw[e0];exact ga.dl [i] b sb)
    have jc:f≠b2:=λe0=>zb [i2] (by rw[e0];exact ga.dl [i2] b2 rb)
    have wb:lo<=f:=by
     rcases ga.tbn t' _ q1 with ⟨j,y,hj,ey⟩|h
     ·have:=(cb j y hj).1;simp only at ey;omega
     ·simp only at h;omega
    refine⟨eb,T',_,mb,va,.inr ⟨rfl,f,n',c',ja,wb,q8,q9,q7,kc,rfl,?_⟩⟩;refine .slice [r] ub ⟨f,0,none⟩ n' c' xa lc e1 la e3 e4 e5 (λj d hd=>?_) (λh=>?_) (λ_=>⟨rfl,rfl,if_pos rfl⟩) e9
    ·refine Rep.calm_to (e6 j d hd).norm (Gn e9 d (Ze hd)) (λ_ _=>rfl) λk=>?_
     show min (g'.G k) (allG W' k)<=if k=b∨k=b2 then 0 else if k=f then n'*xa else if k<b then G k else allG W' k
     split
     ·rename_i e0;rcases e0 with e0|e0
      ·rw[e0,kb];omega
      ·rw[e0,xb];omega
     ·split
      ·rename_i e0;rw[e0,ec];omega
      ·split
       ·rename_i w;have h5:=ra.inv.old k w;rw[ga.G0,ab k w]at h5;omega
       ·omega
    ·show 0+n'*xa<=if f=b∨f=b2 then 0 else if f=f then n'*xa else Pc G W' b f
     rw[if_neg O,if_pos rfl];omega
def LL(i i2 bs bs2 k2 v2:Nat)(x:Bs×Bs):Nat->D:=λj=>if j=v2 then .str x.2 else if j=k2 then .str x.1 else if j=bs then .ptr [i] 0 else if j=bs2 then .ptr [i2] 0 else .junk
theorem vR {G : Nat → Nat} {S : GR} (hS : GR.ok Qz S) {N : Nat} {xb : Operand} {k v k2 v2 : Nat} {yb tb : Code} {dc : DC} (da : AA Qz N tb = some dc) (ka : WD tb = true) {T : Array Value} (hT : T.size = N) {W : World} {Q : Exit → Act → World → Prop}
  {Bt Bq : Nat} (hg : ({ tmps := T, defers := [] } : Act).eval xb = .func (.func 96) #[] #[.pointer (some ⟨Bt, 0, none⟩), .pointer (some ⟨Bq, 0, none⟩)]) {t : Tr} {q : Bs} {tv : Value} (hc : t.cnt ≤ 400000)
  (y : W.heap[Bt]? = some (.cells #[tv] 27 (0, 0))) (o : W.heap[Bq]? = some (.cells #[encStr q] 9 (0, 0))) {b b2 : Nat} (db : b < b2) (qb : Em b W t tv) (ea : Bt ≠ b ∧ Bt ≠ b2) (wb : Bq ≠ b ∧ Bq ≠ b2)
  {i i2 r bs bs2 c e sz : Nat} (ob : i ≠ r ∧ i2 ≠ r ∧ i ≠ i2) (ib : i < c ∧ i2 < c ∧ r < c) (pa : 0 < sz) (hi : ∃ t z, Tryz.prog.info? e = some t ∧ t.size = sz ∧ t.zero = some z ∧ z.cells.size = sz)
  (nl : List (Bs × Bs) → Bool) (xs : List (Bs × Bs) → List D) (d : List (Bs × Bs) → Prop) (na : Bs × Bs → Prop) (xi : Nat) (qa : nl [] = true) (fb : xs [] = []) (za : d [])
  (ha : Ld W b (.slice none 0 0)) (h : Ld W b2 (.bool true)) (ia : T.getD bs undef = .pointer (some ⟨b, 0, none⟩)) (ub : T.getD bs2 undef = .pointer (some ⟨b2, 0, none⟩))
  (hk : k < N ∧ v < N ∧ k2 < N ∧ v2 < N) (la : k2 ≠ v2 ∧ bs ≠ k ∧ bs ≠ v ∧ bs ≠ k2 ∧ bs ≠ v2 ∧ bs2 ≠ k ∧ bs2 ≠ v ∧ bs2 ≠ k2 ∧ bs2 ≠ v2)
  (ab : ∀ (l : Nat) (x : Bs × Bs) (W : World) (K : Act → World → Prop), K { tmps := iX T k v k2 v2 x, defers := [] } W → yb.wpIn (Fence.wide.inRound l) 1 Qz (Exit.then K (fun _ _ _ => False)) { tmps := ((#[k, v] : Array Tmp).zip #[encStr x.1, encStr x.2]).foldl (fun t (p, v) => t.setIfInBounds p v) T, defers := [] } W)
  (ma : ∀ ga x, x ∈ Cn t q → ga.length < (Cn t q).length → d ga → dc.wp S [] (fun e' ca => (e' = .normal ∧ d (ga ++ [x]) ∧ (∃ t', ca.m [i] 0 = some (.slice (nl (ga ++ [x])) t' (xs (ga ++ [x]))) ∧ (nl (ga ++ [x]) = false → t' ≠ [] ∧ ca.m t' 0 = some (.tok (e + 1)))) ∧ ca.m [i2] 0 = some (.bool true)) ∨
   (e' = .exit xi ∧ na x ∧ (∃ t', ca.m [i] 0 = some (.slice (nl ga) t' (xs ga)) ∧ (nl ga = false → t' ≠ [] ∧ ca.m t' 0 = some (.tok (e + 1)))) ∧ ca.m [i2] 0 = some (.bool false))) ⟨LL i i2 bs bs2 k2 v2 x, Dw (nl ga) i i2 r (xs ga) e true, c⟩)
  (mb : ∀ (D : Nat) (W' : World), W.heap.size ≤ D → d (Cn t q) → Ec G b b2 W.heap.size e sz [i] [i2] [r] W' (nl (Cn t q)) (xs (Cn t q)) true → Below b W W' → W.heap.size ≤ W'.heap.size → (∀ j, j < W.heap.size → j ≠ b → j ≠ b2 → W'.heap[j]? = W.heap[j]?) → W'.heap[D]? = some (.deferred (some [])) → Q .normal { tmps := T, defers := [{ target := .collected D, args := #[] }] } W')
  (jb : ∀ (D : Nat) (W' : World) ga x, W.heap.size ≤ D → ga ++ [x] <+: Cn t q → d ga → na x → Ec G b b2 W.heap.size e sz [i] [i2] [r] W' (nl ga) (xs ga) false → Below b W W' → W.heap.size ≤ W'.heap.size → (∀ j, j < W.heap.size → j ≠ b → j ≠ b2 → W'.heap[j]? = W.heap[j]?) → W'.heap[D]? = some (.deferred (some [])) → Q (.exit xi) { tmps := T, defers := [{ target := .collected D, args := #[] }] } W') :
  (Code.rangeFunc xb #[k, v] yb tb).wpIn Fence.wide 3 Qz Q { tmps := T, defers := [] } W := by
 have rb : Bt < W.heap.size := (Qn.1 y).1
 have pb : Bq < W.heap.size := (Qn.1 o).1
 have sb : b2 < W.heap.size := by
  obtain ⟨vs, T', h1, _⟩ := h
  exact (Qn.1 h1).1
 have eb : ∀ {β : Type}, OwnFrom W.heap.size (fun (_ : β) W' => ∀ j, j < W.heap.size → j ≠ b → j ≠ b2 → W'.heap[j]? = W.heap[j]?) := fun s A A' row hs hg hr j hj cb f => by
  have hA : A.heap[j]? = W.heap[j]? := hs j hj cb f
  have aa : j < A.heap.size := by
   rw [Q2 hj] at hA
   exact (Qn.1 hA).1
  exact (hg.block j aa (fun e => by have := (hr j e.symm).1; omega)).trans hA
 have fa : OwnFrom W.heap.size (fun (p : List (Bs × Bs) × Bool) W' => Ec G b b2 W.heap.size e sz [i] [i2] [r] W' (nl p.1) (xs p.1) p.2 ∧ Below b W W' ∧ W.heap.size ≤ W'.heap.size ∧ ∀ j, j < W.heap.size → j ≠ b → j ≠ b2 → W'.heap[j]? = W.heap[j]?) :=
  OwnFrom.and (Own.from (dX (fun p : List (Bs × Bs) × Bool => nl p.1) (fun p => xs p.1) (fun p => p.2)) _) (OwnFrom.and (ownFrom_below O O) (OwnFrom.and (fun s A A' row (hs : W.heap.size ≤ A.heap.size) hg hr => QA hs hg.size) eb))
 refine wpIn_rangeFunc_ownF rfl Z (gf := 96) (lb := #[.pointer (some ⟨Bt, 0, none⟩), .pointer (some ⟨Bq, 0, none⟩)]) hg trivial (enters_of func96 Xa rfl)
  (NP 2 Z Bt Bq b t q tv hc W y o qb O) nG.trans (aCE O rb pb) (Below.refl _ _) (fun _ => rfl)
  (fun (ga : List (LD t q)) W' => d (ga.map fun z : LD t q => z.1) ∧ Ec G b b2 W.heap.size e sz [i] [i2] [r] W' (nl (ga.map fun z : LD t q => z.1)) (xs (ga.map fun z : LD t q => z.1)) true ∧ Below b W W' ∧ W.heap.size ≤ W'.heap.size ∧ ∀ j, j < W.heap.size → j ≠ b → j ≠ b2 → W'.heap[j]? = W.heap[j]?)
  (fun cd (ga : List (LD t q)) W' => cd = .exit xi ∧ ∃ a x, (ga.map fun z : LD t q => z.1) = a ++ [x] ∧ d a ∧ na x ∧ Ec G b b2 W.heap.size e sz [i] [i2] [r] W' (nl a) (xs a) false ∧ Below b W W' ∧ W.heap.size ≤ W'.heap.size ∧ ∀ j, j < W.heap.size → j ≠ b → j ≠ b2 → W'.heap[j]? = W.heap[j]?)
  (fun s A A' row hs hg hr => ⟨hs.1, fa (s.map fun z : LD t q => z.1, true) A A' row hs.2 hg hr⟩)
  (fun cd s A A' row hs hg hr => by
   obtain ⟨h1, a, x, h2, h3, h4, h5⟩ := hs
   exact ⟨h1, a, x, h2, h3, h4, fa (a, false) A A' row h5 hg hr⟩)
  ⟨za, ?init, Below.refl _ _, Qv _, fun _ _ _ _ => rfl⟩
  (fun x => { tmps := iX T k v k2 v2 x.1, defers := [] }) ?assign ?body ?done ?stop
 case init =>
  obtain ⟨vs, T', h1, h2⟩ := ha
  exact ⟨h, vs, T', _, h1, h2, .inl ⟨qa, fb, rfl⟩⟩
 case assign =>
  intro l x W' K hK
  exact ab l x.1 W' K hK
 case body =>
  rintro l ga ⟨x, hx⟩ W' ⟨bb, hG, hB, xa, oa⟩ aa
  have hr := ma (ga.map fun z : LD t q => z.1) x hx (by rw [QF]; exact aa) bb
  have hb : ∀ g : Gh, g.dl [i] = some b → g.dl [i2] = some b2 → Da W' g (LL i i2 bs bs2 k2 v2 x) { tmps := iX T k v k2 v2 x, defers := [] } := fun g za w j => by
   show Rep W' g (LL i i2 bs bs2 k2 v2 x j) ((iX T k v k2 v2 x).getD j undef)
   unfold LL iX
   by_cases e1 : j = v2
   ·subst e1
    rw [if_pos rfl, Uk XI]
    exact .str _
   rw [if_neg e1, Gg e1]
   by_cases e2 : j = k2
   ·subst e2
    rw [if_pos rfl, Uk XI]
    exact .str _
   rw [if_neg e2, Gg e2]
   by_cases e3 : j = bs
   ·subst e3
    rw [if_pos rfl, Gg O, Gg O, ia]
    exact .ptr [i] 0 b za
   rw [if_neg e3]
   by_cases e4 : j = bs2
   ·subst e4
    rw [if_pos rfl, Gg O, Gg O, ub]
    exact .ptr [i2] 0 b2 w
   rw [if_neg e4]
   exact .junk _
  refine wpIn_mono (bM hS da ka (l := l) (n := 3 - 1 - 1) ob ib pa hi db sb xa hG hb (by rw [← hT]; exact vH _ _ _ _ _ _) rfl hr) ?_
  rintro e' a' W2 ⟨e2, ca, rfl, ja, u, ra, ta, ba, va⟩
  rcases ja with ⟨rfl, kb, ⟨t', hm, ya⟩, sa⟩ | ⟨rfl, vb, ⟨t', hm, ya⟩, sa⟩
  ·refine ⟨u, ⟨ra, ba Bt ea.1 ea.2 rb, ba Bq wb.1 wb.2 pb⟩, ?_, ?_, hB.trans ra, QA xa ta, fun j hj cb f => ?_⟩
   ·rw [QS]; exact kb
   ·rw [QS]; exact va _ t' _ _ hm ya sa
   ·rw [ba j cb f hj]; exact oa j hj cb f
  ·refine ⟨u, rfl, (ga.map fun z : LD t q => z.1), x, by rw [QS]; rfl, bb, vb, va _ t' _ _ hm ya sa, hB.trans ra, QA xa ta, fun j hj cb f => ?_⟩
   rw [ba j cb f hj]; exact oa j hj cb f
 case done =>
  rintro D ys W' hD gb ⟨za, wa, hB, pa, oa⟩ hK
  rw [gb] at wa za
  exact mb D W' hD za wa hB pa oa hK
 case stop =>
  rintro D cd ga W' hD ua ⟨rfl, a, x, h2, h3, h4, h5, h6, h7, h8⟩ hK
  rw [h2] at ua
  exact wpIn_exit (jb D W' a x hD ua h3 h4 h5 h6 h7 h8 hK)
end Go.Vd
namespace Go.Vd
open Go.Proofs Go.RowKit
def eY:∀n:Fin 64,Ia (Go.Ve.lettersN n.val)=(n.val,true):=Xj
def aBk{p:Bs}{n:Nat}(o:(58:UInt8)∉p)(q:n<=63):DU (Co (p,(n:Int)))=true∧Ip (Co (p,(n:Int)))=(p,(n:Int)):=by
 have g:BY (Co (p,(n:Int))) 58=(p,Go.Ve.lettersN n,true):=by
  unfold BY Co;have e:p++[58]++Go.Ve.lettersN ((n:Int)).toNat=p++58::Go.Ve.lettersN n:=U
  simp only[e];rw[Di o,if_neg O];simp
 have hl:=eY ⟨n,O⟩;simp only at hl;unfold DU Ip;rw[g];simp only[hl];exact⟨U,U⟩
def k5:A9 5 [] 0=Hp:=rfl
def k4:A9 4 [] 0=He:=rfl
def k3{n:Bs}(h:BJ n=true):A9 3 n 0=[116,47]++n:=by
 unfold A9;rw[if_neg (by rw[aZH h];decide),if_neg Z,if_neg Z,if_pos rfl]
def dc1073b:=y4 f38 [] []
def aId:AA Qz 53 (rfB f38)=some dc1073b:=Xa
def aIW:WD (rfB f38)=true:=Xa
end Go.Vd
namespace Go.Vd
open Go.Proofs Go.RowKit Go.Shelf
def S1073b:=Az [(83,Ac R38),(84,Ac sX)]
def aIS:GR.ok Qz S1073b:=Aa bAn (Aa aR7 Ae)
attribute [local go_sem] Oper.semAt_some
section
variable{F:Fence}{n:Nat}{P:Program}{b:Frame}{a:Act}{k:List Item}{cs:List Frame}{w:World}{Q:Exit->Act->World->Prop}
def Dz{c:Code}:step P (lone (b.atR a (.code (.scope c)::k)) cs w)= .next (lone (b.atR a (.code c:: .inScope c::k)) cs w):=
 step_lone_go (by simp[stepG,stepG.exec,Frame.atR])
def Tg{c:Code}:step P (lone (b.atR a (.inScope c::k)) cs w)= .next (lone (b.atR a k) cs w):=
 step_lone_go (by simp[stepG,stepG.exec,Frame.atR])
def iH{c:Code}(h:c.wpIn F n P (Exit.noGoto Q) a w):(Code.scope c).wpIn F n P Q a w:=by
 intro b k cs d hb j;have y:(lone (b.atR a (.code (.scope c)::k)) cs w).fenced P F:=fenced_calm hb j rfl;obtain⟨e,q,t,z,i⟩:=h b (.inScope c::k) cs d hb j;cases e with
 |normal=>exact⟨.normal,q,t,z,.head y Dz (StepsIn.trans i (.one (fenced_calm hb j rfl) Tg))⟩
 |exit id=>
  have f:exitTo id (.inScope c::k)=exitTo id k:=by simp[exitTo]
  exact⟨.exit id,q,t,z,λr s=> .head y Dz (i.1 r (by rw[f];exact s)),λlb s=>let⟨k₁,h1,h2⟩:=i.2 lb (by rw[f];exact s);⟨k₁,h1,.head y Dz h2⟩⟩
 |goto l=>exact z.elim
 |ret=>exact⟨_,q,t,z,.of_steps (.one y Dz) i⟩
 |panic g=>exact⟨_,q,t,z,.of_steps (.one y Dz) i⟩
 |outgrown=>exact⟨_,q,t,z,.of_steps (.one y Dz) i⟩
def TT:Exit.noGoto Q .normal a w=Q .normal a w:=rfl
def pZ(id:Nat):Exit.noGoto Q (.exit id) a w=Q (.exit id) a w:=rfl
def aBZ:Exit.noGoto Q .ret a w=Q .ret a w:=rfl
end
attribute [local go_sem] TT pZ aBZ
def aDa:(Tryz.prog.info? 68).map (λi=>(i.zero.map λz=>z.cells.size,i.size))=some (some 3,3):=Xa
def aS8(w:World)(q i e r p v:Obj):((((((w.alloc q).alloc i).alloc e).alloc r).alloc p).alloc v).heap.size=w.heap.size+6∧((((((w.alloc q).alloc i).alloc e).alloc r).alloc p).alloc v).heap[w.heap.size+1]?=some i∧((((((w.alloc q).alloc i).alloc e).alloc r).alloc p).alloc v).heap[w.heap.size+1+1]?=some e∧((((((w.alloc q).alloc i).alloc e).alloc r).alloc p).alloc v).heap[w.heap.size+1+1+1]?=some r∧((((((w.alloc q).alloc i).alloc e).alloc r).alloc p).alloc v).heap[w.heap.size+1+1+1+1]?=some p∧((((((w.alloc q).alloc i).alloc e).alloc r).alloc p).alloc v).heap[w.heap.size+1+1+1+1+1]?=some v∧Below w.heap.size w ((((((w.alloc q).alloc i).alloc e).alloc r).alloc p).alloc v):=by
 obtain⟨z,_,a1,t,j⟩:=aFv w q i e r;have f:=mI w q i e r;generalize (((w.alloc q).alloc i).alloc e).alloc r=g at *;have b:w.heap.size+1+1+1+1=g.heap.size:=O
 have y:Below g.heap.size g ((g.alloc p).alloc v):=((Below.refl _ g).alloc (Qv _) _).alloc U _;refine⟨Xc,(y.block _ O).trans a1,(y.block _ O).trans t,(y.block _ O).trans j,?_,?_,f.trans (y.mono O)⟩
 ·rw[b,Below.heap_alloc _ _ _ U];exact World.alloc_heap_new _ _
 ·rw[b,←World.size_alloc g p];exact World.alloc_heap_new _ _
def tkN(x:Bs×Bs):Option Bs:=if(A8 x.1).2=0∧(A8 x.1).1.1=3 then some (A8 x.1).1.2.1 else none
def mJ(x:Bs×Bs):Prop:=∃n,tkN x=some n∧(DG n x.2).1=none
def Fr(l:List (Bs×Bs)):Prop:=∀x∈l,¬mJ x
def uX(x:Bs×Bs):Option Tk:=(tkN x).bind λn=>(DG n x.2).1
def Ic(l:List (Bs×Bs)):List Tk:=l.filterMap uX
def HM:List (Bs×Bs)->List Tk×Bool
 |[]=>([],true)
 |x::r=>match tkN x with
  |none=>HM r
  |some n=>match (DG n x.2).1 with
   |none=>([],false)
   |some k=>(k::(HM r).1,(HM r).2)
def aA2(l:List (Bs×Bs))(x:Bs×Bs):Ic (l++[x])=Ic l++(uX x).toList:=by
 unfold Ic;rw[List.filterMap_append];congr 1
def Mv(x:Bs×Bs)(r:List (Bs×Bs)):HM (x::r)=match tkN x with
  |none=>HM r
  |some n=>match (DG n x.2).1 with
   |none=>([],false)
   |some k=>(k::(HM r).1,(HM r).2):=rfl
def aA3(x:Bs×Bs)(l:List (Bs×Bs)):Ic (x::l)=match uX x with
  |none=>Ic l
  |some k=>k::Ic l:=by
 unfold Ic;rw[List.filterMap_cons];cases uX x<;>rfl
def UX:∀(l:List (Bs×Bs)),Fr l->∀r,HM (l++r)=(Ic l++(HM r).1,(HM r).2)
 |[],_,r=>rfl
 |x::l,h,r=>by
  have ih:=UX l (λy d=>h y (Qq _ d)) r;have f:=h x Qp;rw[QD,Mv,aA3,ih];unfold uX;cases hn:tkN x with
  |none=>rfl
  |some n=>
   simp only[ZX];cases hk:(DG n x.2).1 with
   |none=>exact absurd ⟨n,hn,hk⟩ f
   |some k=>rfl
def Rq{l:List (Bs×Bs)}(h:Fr l):HM l=(Ic l,true):=by
 have:=UX l h [];rw[QR]at this;rw[this];simp[HM]
def aIh{d l:List (Bs×Bs)}{x:Bs×Bs}(h:Fr d)(f:mJ x)(o:d++[x]<+:l):HM l=(Ic d,false):=by
 obtain⟨r,rfl⟩:=o;rw[QU,UX d h];obtain⟨n,u,q⟩:=f;have e:HM ([x]++r)=([],false):=by
  show HM (x::r)=_;rw[Mv,u];simp only;rw[q]
 rw[e,QR]
def aA0{n s:Bs}(h:(DG n s).1=none):(DG n s).2≠0:=by
 unfold DG at h ⊢;split
 ·simp
 ·rename_i p x o;rw[o]at h;simp only at h;split
  ·simp
  ·rename_i c;rw[if_neg c]at h;cases h
 ·simp
def oE{n s:Bs}{k:Tk}(h:(DG n s).1=some k):(DG n s).2=0∧k.1=n∧Dc k.1 k.2.1 k.2.2.2=0:=by
 unfold DG at h ⊢;split
 ·rename_i o;rw[o]at h;cases h
 ·rename_i p x o;rw[o]at h;simp only at h;split
  ·rename_i c;rw[if_pos c]at h;cases h
  ·rename_i c;rw[if_neg c]at h;cases h;rw[not_or,Decidable.not_not,Decidable.not_not]at c;exact⟨rfl,rfl,c.2⟩
 ·rename_i l v o;rw[o]at h
  match l,v,h with
  |[],_,h=>cases h
  |[a],_,h=>cases h
  |[a,b],v,_=>exact(v a b rfl).elim
  |a::b::c::r,_,h=>cases h
def N3{q:Bs}(h:(A8 q).2=0)(d:(A8 q).1.1=3):BJ (A8 q).1.2.1=true∧q=[116,47]++(A8 q).1.2.1:=by
 unfold A8 at h d ⊢;split at h
 ·cases h
 ·rename_i c;rw[if_neg c]at d ⊢;have s:Br (AH q).1 (AH q).2.1 (AH q).2.2=0:=Decidable.not_not.1 c;have e:=xE s;rw[d]at s e;have v:BJ (AH q).2.1=true∧(AH q).2.2=0:=by
   unfold Br at s;rw[if_neg Z,if_neg Z,if_pos rfl]at s;split at s
   ·rename_i c;exact⟨c.2,c.1⟩
   ·cases s
  rw[v.2,k3 v.1]at e;exact⟨v.1,e.symm⟩
def zK{ga:List (Bs×Bs)}{x:Bs×Bs}(cb:x.1.length<=100000)(ta:x.2.length<=1000)(hl:ga.length<=100000)(za:Fr ga):
  dc1073b.wp S1073b [] (λe ca=>(e= .normal∧Fr (ga++[x])∧(∃t',ca.m [0] 0=some (.slice (Ic (ga++[x])).isEmpty t' (Au (Ic (ga++[x]))))∧((Ic (ga++[x])).isEmpty=false->t'≠[]∧ca.m t' 0=some (.tok (68+1))))∧ca.m [1] 0=some (.bool true))∨
   (e= .exit 0∧mJ x∧(∃t',ca.m [0] 0=some (.slice (Ic ga).isEmpty t' (Au (Ic ga)))∧((Ic ga).isEmpty=false->t'≠[]∧ca.m t' 0=some (.tok (68+1))))∧ca.m [1] 0=some (.bool false))) ⟨LL 0 1 4 5 6 7 x,Dw (Ic ga).isEmpty 0 1 2 (Au (Ic ga)) 68 true,3⟩:=by
 have u:S1073b 83=some (Ac R38):=rfl;have v:S1073b 84=some (Ac sX):=rfl;have f:=aTw x.1 (QA cb Z);have w:¬mJ x->Fr (ga++[x]):=λh y hy=>by
  rcases QP.1 hy with hy|hy
  ·exact za y hy
  ·rw[Qw.1 hy];exact h
 rw[aA2];have ea:(Ic ga).length<=ga.length:=List.length_filterMap_le _ _;generalize Ic ga=acc at *;obtain⟨tt,hm,sa,hG⟩:∃tt,Dw acc.isEmpty 0 1 2 (Au acc) 68 true [0] 0=some (.slice acc.isEmpty tt (Au acc))∧Dw acc.isEmpty 0 1 2 (Au acc) 68 true [1] 0=some (.bool true)∧LG 2 (Dw acc.isEmpty 0 1 2 (Au acc) 68 true) 68 (Dw acc.isEmpty 0 1 2 (Au acc) 68 true) 3 acc.isEmpty tt:=by
  cases acc with
  |nil=>
   have e:Dw ([]:List Tk).isEmpty 0 1 2 (Au []) 68 true=((aQN none 68).put [0] 0 [.slice true [] []]).put [1] 0 [.bool true]:=rfl;rw[e];exact⟨[],(aB Z).trans CV,CV,LG.start Z⟩
  |cons a r=>
   have e:Dw (a::r).isEmpty 0 1 2 (Au (a::r)) 68 true=((aKc [2] (.tok 69)).put [0] 0 [.slice false [2] (Au (a::r))]).put [1] 0 [.bool true]:=rfl;rw[e];exact⟨[2],(aB Z).trans CV,CV,⟨λ_ _ _=>rfl,.inr ⟨2,rfl,Z,Z,(aB Z).trans ((aB Z).trans CV)⟩,Z⟩⟩
 have oa:acc.isEmpty=true->Au acc=[]:=λh=>by rw[ZY.1 h];rfl
 have z:Ai (Dw acc.isEmpty 0 1 2 (Au acc) 68 true) [0] 0 1=some [.slice acc.isEmpty tt (Au acc)]:=by simp[Ai,hm]
 have i:Ai (Dw acc.isEmpty 0 1 2 (Au acc) 68 true) [1] 0 1=some [.bool true]:=by simp[Ai,sa]
 have wa:=AD acc;generalize Dw acc.isEmpty 0 1 2 (Au acc) 68 true=m0 at *;have h4:LL 0 1 4 5 6 7 x 4= .ptr [0] 0:=rfl;have h5:LL 0 1 4 5 6 7 x 5= .ptr [1] 0:=rfl;have h6:LL 0 1 4 5 6 7 x 6= .str x.1:=rfl;have h7:LL 0 1 4 5 6 7 x 7= .str x.2:=rfl;generalize LL 0 1 4 5 6 7 x=s at *;have ua:∀a b c:D,Z8 3 [a,b,c]=[a,b,c]:=λ_ _ _=>rfl
 have bb:∀a b c:D,[a,b,c].length=3:=λ_ _ _=>rfl
 unfold dc1073b;have t:tkN x=if(A8 x.1).2=0∧(A8 x.1).1.1=3 then some (A8 x.1).1.2.1 else none:=rfl
 have qa:(A8 x.1).2=0->(A8 x.1).1.1=3->(A8 x.1).1.2.1.length<=8:=λa b=>cJ (N3 a b).1
 unfold xD at f;generalize (A8 x.1).2=pe at *;generalize (A8 x.1).1.1=pk at *;generalize (A8 x.1).1.2.1=pn at *;generalize (A8 x.1).1.2.2=pz at *;have ha:∀ds:List D,LG 2 m0 68 ((m0.put [8] 0 [D.int IntKind.u8 0,D.str [],D.int IntKind.i64 0]).put [8] 0 ds) 9 acc.isEmpty tt:=λds=>((hG.put (c':=8) (o:=0) Z).put (c':=8) (o:=0) Z).more Z
 have l:∀{m1 m':GV} {c':Nat},LG 2 m1 68 m' c' acc.isEmpty tt->(acc.isEmpty=false->tt≠[]∧m' tt 0=some (.tok (68+1))):=λh hn=>by
  rcases h.tok with h|⟨j,rfl,_,_,h⟩
  ·rw[hn]at h;cases h
  ·exact⟨U,h⟩
 by_cases g:pe=0∧pk=3
 ·obtain⟨c1,c2⟩:=g;rw[if_pos ⟨c1,c2⟩]at t;have db:=qa c1 c2;subst c1 c2;have d:=aAh pn x.2 O ta;have hQ:uX x=(DG pn x.2).1:=by unfold uX;rw[t];rfl
  have aa:=aA0 (n:=pn) (s:=x.2);have ra:=λk=>oE (n:=pn) (s:=x.2) (k:=k)
  have ya:mJ x↔(DG pn x.2).1=none:=⟨λ⟨n,a,b⟩=>by rw[t]at a;cases a;exact b,λh=>⟨pn,t,h⟩⟩;rw[hQ];generalize (DG pn x.2).1=o at *;generalize (DG pn x.2).2=te at *;cases o with
  |none=>
   have e1:(te=0)=False:=eq_false (aa rfl);simp only[Lz]at d
   repeat' (first|(refine aA (Ah X3) ?_)|simp (disch:=first|assumption|omega)only[↓GQ,GT,simprocAttr,GY,h4,h5,h6,h7,hm,z,sa,i,Ab v,d,e1,Ab u,f,Ho,BC,BK,Rg,NL,ua,bb,Bf,Hi,pO,Qk,and_self,and_false])
   have ba:=((((hG.put (c':=8) (o:=0) (ds:=[D.int IntKind.u8 0,D.str [],D.int IntKind.i64 0]) Z).put (c':=8) (o:=0) (ds:=[D.int IntKind.u8 3,D.str pn,D.int IntKind.i64 pz]) Z).put (c':=25) (o:=0) (ds:=[D.str [],D.str [],D.slice true [] []]) Z).put (c':=25) (o:=0) (ds:=[D.str [],D.str [],D.slice true [] []]) Z).low_put (q:=1) (o:=0) (ds:=[.bool false]) Z;exact .inr ⟨ya.2 rfl,tt,rfl,l ba⟩
  |some k=>
   have e0:=(ra k rfl).1;subst e0;simp only[Lz,HD]at d;have la:(acc++[k]).isEmpty=false:=U
   have e4:(Option.some k).toList=[k]:=rfl;rw[e4,la,Ms];obtain⟨kn,kp,kb,kr⟩:=k;simp only[HD]at d ⊢
   repeat' (first|(refine aA (Ah X3) ?_)|simp (disch:=first|assumption|omega)only[↓GQ,GT,simprocAttr,GY,h4,h5,h6,h7,hm,z,sa,i,Ab v,d,Ab u,f,Ho,BC,BK,Rg,NL,ua,bb,Bf,Hi,pO,Qk,and_self,and_false])
   have fa:=((((hG.put (c':=8) (o:=0) (ds:=[D.int IntKind.u8 0,D.str [],D.int IntKind.i64 0]) Z).put (c':=8) (o:=0) (ds:=[D.int IntKind.u8 3,D.str pn,D.int IntKind.i64 pz]) Z).put (c':=25) (o:=0) (ds:=[D.str [],D.str [],D.slice true [] []]) Z).put (c':=25) (o:=0) (ds:=[D.str kn,D.str kp,D.slice kb [] (Am kr)]) Z).put (c':=32) (o:=0) (ds:=[D.tok 69]) Z;refine aA ⟨O,rfl,fa.grow⟩ ?_;rw[Ba oa];have xa:=fa.app (xs:=Au acc) (c':=33) (c2:=40) Z Z;have ab:=xa.rd (q:=0) (p:=0) (n:=1) Z;rw[z]at ab;have ia:=xa.low 1 0 Z;rw[sa]at ia;have na:_:=xa.tok;simp (disch:=first|assumption|omega)only[↓GQ,GT,simprocAttr,GY,h4,ab,Qk,and_self];refine .inl ⟨w (λh=>by have:=ya.1 h;cases this),⟨[33],CV,λ_=>⟨U,?_⟩⟩,(aB Z).trans ia⟩;rcases na with h|⟨j,e,_,_,h⟩
   ·cases h
   ·exact(aB Z).trans h
 ·rw[if_neg g]at t;have hQ:uX x=none:=by unfold uX;rw[t];rfl
  have hb:¬mJ x:=λ⟨n,a,_⟩=>by rw[t]at a;cases a
  rw[hQ,show(none:Option Tk).toList=[]from rfl,QR];by_cases c1:pe=0
  ·have c2:(pk=3)=False:=eq_false (λh=>g ⟨c1,h⟩);subst c1
   repeat' (first|(refine aA (Ah X3) ?_)|simp (disch:=first|assumption|omega)only[↓GQ,GT,simprocAttr,GY,h4,h5,h6,h7,hm,z,sa,i,c2,Ab u,f,Ho,BC,BK,Rg,NL,ua,bb,Bf,Hi,pO,Qk,and_self,and_false])
   exact .inl ⟨w hb,tt,rfl,l (ha _)⟩
  ·have ka:(pe=0)=False:=eq_false c1
   repeat' (first|(refine aA (Ah X3) ?_)|simp (disch:=first|assumption|omega)only[↓GQ,GT,simprocAttr,GY,h4,h5,h6,h7,hm,z,sa,i,ka,Ab u,f,Ho,BC,BK,Rg,NL,ua,bb,Bf,Hi,pO,Qk,and_self,and_false])
   exact .inl ⟨w hb,tt,rfl,l (ha _)⟩
attribute [local go_sem] Oper.semAt_some TT pZ aBZ
def aQM{n s:Bs}{k:Tk}(g:s.length<=1000)(h:(DG n s).1=some k):Dg k.2.2.2∧(k.2.2.1=true->k.2.2.2=[])∧k.1=n∧k.2.1.length<=1000:=by
 have y:∀l,Fc s.length s 0=some l->∀r∈l,r.length<=s.length:=λl h=>My _ h
 unfold DG at h;split at h
 ·cases h
 ·rename_i p x o;split at h
  ·cases h
  ·have z:=y _ o p U;have f:=y _ o x U;cases h;obtain⟨d,a⟩:=Vi x O;exact⟨⟨by show(Cc x).2.1.length<=1000000;omega,λr j=>QA (a r j).1 Z,λr j=>(a r j).2⟩,pM x,rfl,by show p.length<=1000;omega⟩
 ·cases h
def oG:∀{l:List (Bs×Bs)},l.length<=1000->(∀x∈l,x.2.length<=1000)->WG (HM l).1
 |[],_,_=>⟨by simp[HM],λk s=>XP⟩
 |x::r,hl,hx=>by
  rw[Qm]at hl;have ih:=oG (l:=r) O λy d=>hx y (Qq _ d)
  have a:∀m:List (Bs×Bs),(HM m).1.length<=m.length:=λm=>by
   induction m with
   |nil=>exact Qv _
   |cons y m ih=>
    unfold HM;split
    ·rw[Qm];omega
    ·split
     ·exact Qo _
     ·simp only[Qm];omega
  unfold HM;cases hn:tkN x with
  |none=>exact ih
  |some n=>
   simp only;cases s:(DG n x.2).1 with
   |none=>exact⟨U,λk s=>XP⟩
   |some k=>
    simp only;obtain⟨a1,t,j,o⟩:=aQM (hx x Qp) s;have b:n.length<=8:=by
     unfold tkN at hn;split at hn
     ·rename_i c;cases hn;exact cJ (N3 c.1 c.2).1
     ·cases hn
    have:=a r;refine⟨Yq,λu hu=>?_⟩;rcases Qs.1 hu with rfl|hu
    ·exact⟨a1,t,by rw[j];omega,O⟩
    ·exact ih.ok u hu
def aFh{wx:World}{sv:Value}{l:List Tk}{G1:Nat->Nat}(hB:WG l)(hz:∀b,wx.heap.size<=b->G1 b=0)(hR:Rep wx (Gh.base G1) (.slice l.isEmpty [] (Au l)) sv){t:Bool}{m:List D}(ja:LJ (CF l.length [] l)= .agg [.slice t [] m]){er:Int}(ka:(if(CF l.length [] l).isSome then 0 else 4)=er):
  Calls Qz 85 #[sv] wx λe w'=>∃a n c G',e= .returned (.tuple #[.agg #[.slice a n c],.int .i64 er])∧Below wx.heap.size wx w'∧(∀b,w'.heap.size<=b->G' b=0)∧(∀b,b<wx.heap.size->G' b=G1 b)∧Rep w' (Gh.base G') (.slice t [] m) (.slice a n c):=by
 have y:=aAg l.isEmpty l (λh=>ZY.1 h) hB;rw[ja,ka]at y;have ga:(D.slice t [] m).calm=true:=rfl;have w:(Ac aGx).ex [.slice l.isEmpty [] (Au l)] (λ_ _=>none) [0]=some (.tup [.agg [.slice t [] m],.int .i64 er],[]):=by
  have q:[D.slice l.isEmpty [] (Au l)].all D.calm=true:=rfl;have k:[D.slice l.isEmpty [] (Au l)].map D.un=[D.slice l.isEmpty [] (Au l)]:=rfl;simp only[Ac,k,q,if_true,y,ZA]
 have ua:Hc Qz wx.heap.size wx (λ_ _=>none) wx (Gh.base G1):=
  ⟨Below.refl _ _,Qv _,hz,λ_ _=>rfl,λi b h=>XG,λi i' b h=>XG,λi o d h=>Xf,λi e h=>Xf,λi i' e e' b x x' h=>Xf,λi s p h=>Xf,λi i' s p s' p' b x x' h=>Xf⟩
 refine(aR6.run (fr:=[0]) (ds:=[.slice l.isEmpty [] (Au l)]) (vs:=[sv]) (u:=[]) ua (λi _=>⟨λ_=>rfl,rfl,rfl⟩) rfl (λj d u z hu=>?_) w).mono ?_
 ·match j,z,hu with
  |0,z,hu=>cases z;cases hu;exact hR
 ·rintro e w' ⟨v,g',rfl,hs⟩;obtain⟨us,rfl,g,hu⟩:=hs.rep.tup_inv
  match us,g with
  |[u0,u1],_=>
   have r:=hu 0 _ u0 rfl rfl;have y:=(hu 1 _ u1 rfl rfl).int_inv;subst y;cases r with
   |agg ds vs hl y q=>
    match vs,hl with
    |[x],_=>
     have f:=q 0 _ x rfl rfl;obtain⟨a0,c0,rfl,_⟩:=f.len_slice;refine⟨_,_,_,g'.G,rfl,hs.inv.below,hs.inv.gz,λb hb=>?_,f.calm_to ga (λ_ _=>rfl) (λ_=>Qv _)⟩;rw[hs.inv.old b hb,hs.ext.G0];rfl
def dV{G:Nat->Nat}{b b2 lo e sz:Nat}{i i2 r:Id}{W:World}{nl:Bool}{xs:List D}{fl:Bool}(h:Ec G b b2 lo e sz i i2 r W nl xs fl)(db:b<b2)(f:b2<lo)(x:lo<=W.heap.size):
  Ld W b2 (.bool fl)∧∃(v:Value)(G1:Nat->Nat),Ld W b v∧(∀k,W.heap.size<=k->G1 k=0)∧(∀k,k<b->G1 k=G k)∧Rep W (Gh.base G1) (.slice nl [] xs) v:=by
 obtain⟨h0,vs,T,v,u,q,m⟩:=h;refine⟨h0,?_⟩;rcases m with ⟨rfl,rfl,rfl⟩|⟨rfl,bs,n,c,cur,g,g2,g3,g4,g5,rfl,g6⟩
 ·exact⟨_,λk=>if k<b then G k else 0,⟨vs,T,u,q⟩,λk s=>if_neg O,λk s=>if_pos s,.nils []⟩
 ·refine⟨_,(Pf G W i i2 b b2 (some (r,bs,n,c,sz))).G,⟨vs,T,u,q⟩,λk s=>?_,λk s=>?_,?_⟩
  ·have y:=(Qn.1 g4).1;show(if k=b∨k=b2 then 0 else if k=bs then n*sz else if k<b then G k else allG W k)=0;rw[if_neg O,if_neg O,if_neg O];exact SN W k s
  ·show(if k=b∨k=b2 then 0 else if k=bs then n*sz else if k<b then G k else allG W k)=G k;rw[if_neg O,if_neg O,if_pos s]
  ·cases g6 with
   |slice _ _ a n2 c2 w o p t e3 e4 e5 e6 e7 e8 e9=>
    exact .slice [] xs ⟨bs,0,none⟩ n c w o p t e3 e4 e5 (λj d z=>Rep.calm_to (e6 j d z) (Gn e9 d (Ze z)) (λ_ _=>rfl) λ_=>Qv _) e7 (λh=>absurd rfl h) e9
def aQx{w:World}{v:Value}{t:Tr}{G:Nat->Nat}(hT:Em w.heap.size w t v)(hc:t.cnt<=400000)(ea:t.lst.length<=1000)(hv:∀x∈t.lst,x.1.length<=100000∧x.2.length<=1000)(ha:∀b,w.heap.size<=b->G b=0):
  Calls Qz 38 #[.agg #[v]] w λe w'=>∃u G',e= .returned u∧Below w.heap.size w w'∧(∀b,w'.heap.size<=b->G' b=0)∧(∀b,b<w.heap.size->G' b=G b)∧Rep w' (Gh.base G') (.tup [LJ (CF (HM t.lst).1.length [] (HM t.lst).1),.bool ((HM t.lst).2&&(CF (HM t.lst).1.length [] (HM t.lst).1).isSome)]) u:=by
 have hC:=oG ea λx hx=>(hv x hx).2
 obtain⟨l0,ab,va⟩:∃l0 ab,HM t.lst=(l0,ab):=⟨_,_,rfl⟩;rw[va]at hC ⊢;simp only at hC ⊢;obtain⟨da,m,ja⟩:∃da m,LJ (CF l0.length [] l0)= .agg [.slice da [] m]:=by
  cases CF l0.length [] l0 with
  |none=>exact⟨_,_,rfl⟩
  |some ks=>exact⟨_,_,rfl⟩
 have ka:∃er:Int,(if(CF l0.length [] l0).isSome then 0 else 4)=er∧decide (er=0)=(CF l0.length [] l0).isSome:=by
  cases CF l0.length [] l0 with
  |none=>exact⟨4,rfl,rfl⟩
  |some ks=>exact⟨0,rfl,rfl⟩
 obtain⟨er,ka,jb⟩:=ka;rw[ja,←jb];refine(callsIn_wide (n:=3)).1 ?_;refine callsIn_of_wp_marks func38 rfl trivial ?_ rfl;simp only[ntmps38,List.size_toArray,Qm,QL,Qu,Zs,Array.replicate_succ,Array.replicate_zero,List.push_toArray,List.append_toArray,QB,QD]
 gi_wp2
 refine iH ?_
 gi_wp2
 refine wpIn_label ?_
 gi_wp2_with (refine⟨trivial,?_⟩;gi_at_call 45;refine(callsIn_wide.2 (aFi _ v [])).mono ?_;rintro e w' ⟨rfl,rfl⟩)
 obtain⟨hz,x2,x4,x5,x6,x7,bb⟩:=aS8 w (Obj.cells #[v] 27) (Obj.cells #[Value.slice none 0 0] 40) (Obj.cells #[Value.slice none 0 0] 38) (Obj.cells #[Value.bool true] 4) (Obj.cells #[v] 27) (Obj.cells #[encStr []] 9);generalize ((((((w.alloc (Obj.cells #[v] 27)).alloc (Obj.cells #[Value.slice none 0 0] 40)).alloc (Obj.cells #[Value.slice none 0 0] 38)).alloc (Obj.cells #[Value.bool true] 4)).alloc (Obj.cells #[v] 27)).alloc (Obj.cells #[encStr []] 9))=W0 at hz x2 x4 x5 x6 x7 bb ⊢;refine wpIn_mono (Q:=λex a W'=>(ex= .normal∨ex= .exit 0)∧∃D l fl,a={tmps:=List.toArray (Value.agg #[v]::Value.pointer (some ⟨w.heap.size,0,none⟩)::Value.pointer (some ⟨w.heap.size+1,0,none⟩)::Value.bool false::Value.pointer (some ⟨w.heap.size+1+1,0,none⟩)::Value.pointer (some ⟨w.heap.size+1+1+1,0,none⟩)::undef::undef::undef::undef::undef::undef::undef::Value.agg #[v]::Value.func (Fn.func 96) #[] #[Value.pointer (some ⟨w.heap.size+1+1+1+1,0,none⟩),Value.pointer (some ⟨w.heap.size+1+1+1+1+1,0,none⟩)]::undef::undef::undef::undef::undef::undef::undef::undef::undef::undef::undef::undef::undef::undef::undef::undef::undef::undef::undef::undef::undef::undef::undef::undef::undef::undef::undef::undef::undef::undef::undef::undef::undef::undef::undef::undef::undef::undef::[]),defers:=[{target:= .collected D,args:=#[]}]}∧HM t.lst=(l,fl)∧W0.heap.size<=D∧Ec G (w.heap.size+1+1) (w.heap.size+1+1+1) W0.heap.size 68 3 [0] [1] [2] W' l.isEmpty (Au l) fl∧Below (w.heap.size+1+1) W0 W'∧W0.heap.size<=W'.heap.size∧(∀j,j<W0.heap.size->j≠w.heap.size+1+1->j≠w.heap.size+1+1+1->W'.heap[j]?=W0.heap[j]?)∧W'.heap[D]?=some (.deferred (some []))) ?_ ?_
 ·refine vR (G:=G) aIS (N:=53) aId aIW rfl (Bt:=w.heap.size+1+1+1+1) (Bq:=w.heap.size+1+1+1+1+1) rfl (t:=t) (q:=[]) (tv:=v) hc x6 x7 (b:=w.heap.size+1+1) (b2:=w.heap.size+1+1+1) O ((hT.below bb).more O) O O (i:=0) (i2:=1) (r:=2) (bs:=4) (bs2:=5) (c:=3) (e:=68) (sz:=3) (k2:=6) (v2:=7) Z Z Z ?info (λl=>(Ic l).isEmpty) (λl=>Au (Ic l)) Fr mJ 0 rfl rfl (λx hx=>by cases hx) ⟨_,_,x4,rfl⟩ ⟨_,_,x5,rfl⟩ rfl rfl Z Z ?assign ?run ?done ?stop
  case info=>
   obtain⟨i0,hi,hx⟩:=QI.1 aDa;simp only[ZL]at hx;obtain⟨h1,h2⟩:=hx;obtain⟨z,h3,h4⟩:=QI.1 h1;exact⟨i0,z,hi,h2,h3,h4⟩
  case assign=>
   intro l x W K hK
   gi_wp2
   exact hK
  case run=>
   intro ga x hx hl za;rw[EC]at hx hl;obtain⟨a1,a2⟩:=hv x hx;exact zK a1 a2 O za
  case done=>
   intro D W' hD za hG f pa oa hK;rw[EC]at za hG;exact⟨.inl rfl,D,_,_,rfl,Rq za,hD,hG,f,pa,oa,hK⟩
  case stop=>
   intro D W' ga x hD ua za hb hG f pa oa hK;rw[EC]at ua;exact⟨.inr rfl,D,_,_,rfl,aIh za hb ua,hD,hG,f,pa,oa,hK⟩
 ·rintro ex a W' ⟨ba,D,l,fl,rfl,na,hD,hG,f,pa,oa,hK⟩;rw[va]at na;simp only[ZL]at na;obtain⟨rfl,rfl⟩:=na;obtain⟨⟨xa,T5,kb,mb⟩,sv,G1,⟨ob,T4,q1,q2⟩,q3,q4,q5⟩:=dV hG O O pa;have pb:W'.cell? ⟨w.heap.size+1+1,0,none⟩=some sv:=by simp[World.cell?,q1,q2]
  have y2:Boxed W' (w.heap.size+1) 40 (.slice none 0 0):=(oa _ O O O).trans x2;have y:D<W'.heap.size:=(Qn.1 hK).1;have ZZ:Aside (W0.heap.size=w.heap.size+6∧W0.heap.size<=D∧W0.heap.size<=W'.heap.size∧D<W'.heap.size):=⟨hz,hD,pa,y⟩;have lb:∀w2:World,w2.heap[w.heap.size+1+1+1]?=some (.cells xa T5 (0,0))->w2.cell? ⟨w.heap.size+1+1+1,0,none⟩=some (.bool ab):=λw2 h=>by simp only[World.cell?,h];exact mb
  clear hz hD pa y x2 x4 x5 x6 x7;rcases ba with rfl|rfl
  all_goals
   try simp only[Exit.inBlock,if_true]
   cases ab with
   |false=>
    gi_wp2_with (refine⟨trivial,?_⟩;gi_at_call 85;refine(callsIn_wide.2 (aFh hC q3 q5 ja ka)).mono ?_;rintro e w1 ⟨a0,n0,c0,G2,rfl,ca,z2,o2,gb⟩;have fb:w1.heap[w.heap.size+1+1+1]?=some (.cells xa T5 (0,0)):=(ca.block _ Yg).trans kb;have fa:Boxed w1 (w.heap.size+1) 40 (.slice none 0 0):=(ca.block _ Yg).trans y2;have aa:(w1.alloc (Obj.cells #[Value.slice a0 n0 c0] 40)).heap[w.heap.size+1+1+1]?=some (.cells xa T5 (0,0)):=(Below.heap_alloc _ _ _ (by have:=ca.size;have:=ZZ.out;omega)).trans fb;have c5:=lb _ aa;have c2:=(fa.alloc (Obj.cells #[Value.slice a0 n0 c0] 40)).cell;have f2:=(fa.alloc (Obj.cells #[Value.slice a0 n0 c0] 40)).frozen)
    obtain⟨hz,hD,pa,y⟩:=ZZ.out;have ia:=ca.size;have ya:w.heap.size+1<w1.heap.size:=O
    have s:D≠w.heap.size+1:=O
    have hp:=heap_setCell_same _ _ 0 _ _ (Value.slice a0 n0 c0) (fa.alloc (Obj.cells #[Value.slice a0 n0 c0] 40));have g:((w1.alloc (Obj.cells #[Value.slice a0 n0 c0] 40)).setCell ⟨w.heap.size+1,0,none⟩ (Value.slice a0 n0 c0)).heap[D]?=some (.deferred (some [])):=by
     rw[Below.heap_setCell _ _ _ _ s,Below.heap_alloc _ _ _ O,ca.block D y];exact hK
    have la:Below w.heap.size w w1:=bb.trans ((f.mono O).trans (ca.mono O));have ra:Below w.heap.size w ((w1.alloc (Obj.cells #[Value.slice a0 n0 c0] 40)).setCell ⟨w.heap.size+1,0,none⟩ (Value.slice a0 n0 c0)):=(la.alloc O _).setCell U _;have ma:((w1.alloc (Obj.cells #[Value.slice a0 n0 c0] 40)).setCell ⟨w.heap.size+1,0,none⟩ (Value.slice a0 n0 c0)).heap.size=w1.heap.size+1:=Yj
    have qa:∀k,k<w1.heap.size->k≠w.heap.size+1->((w1.alloc (Obj.cells #[Value.slice a0 n0 c0] 40)).setCell ⟨w.heap.size+1,0,none⟩ (Value.slice a0 n0 c0)).heap[k]?=w1.heap[k]?:=λk h1 h2=>by
     rw[Below.heap_setCell _ _ _ _ h2,Below.heap_alloc _ _ _ h1]
    have cb:w1.heap[D]?=some (.deferred (some [])):=(ca.block D y).trans hK;generalize ((w1.alloc (Obj.cells #[Value.slice a0 n0 c0] 40)).setCell ⟨w.heap.size+1,0,none⟩ (Value.slice a0 n0 c0))=w2 at hp g ra ma qa ⊢;refine⟨U,.inl ⟨_,_,rfl,run_takeDeferred g,?_⟩⟩;have wa:=(World.putObj_heap_other (o:= .deferred none) (w:=w2) s.symm).trans hp;refine⟨.tuple #[.agg #[.slice a0 n0 c0],.bool false],YH,_,G2,rfl,ra.trans (belowK_b (w:=w) (Qv _) _ D _ _ O g rfl rfl),λb hb=>z2 b ?_,λb hb=>(o2 b O).trans (q4 b O),?_⟩
    ·rw[World.putObj_size,ma]at hb;omega
    ·have eb:Rep (w2.putObj D (.deferred none)) (Gh.base G2) (Vd.D.slice da [] m) (.slice a0 n0 c0):=Rep.calm_to gb rfl (λp ib=>by
      have ta:p.off<G2 p.block:=ib;have sa:p.block<w1.heap.size:=by
       rcases Zy p.block w1.heap.size with h|h
       ·exact h
       ·rw[z2 _ h]at ta;omega
      have db:p.block≠w.heap.size+1:=λe=>by
       rw[e,o2 _ O,q4 _ O,ha _ O]at ta;omega
      rcases Z9 p.block D with h|h
      ·simp only[World.cell?,World.putObj_heap_other h];rw[qa _ sa db]
      ·simp only[World.cell?,h,World.putObj_heap_same (Qn.1 g).1,cb]) (λ_=>Qv _)
     refine .tup [.agg [.slice da [] m],.bool (false&&decide (er=0))] [.agg #[.slice a0 n0 c0],.bool false] rfl λj d x hd hx=>?_
     match j,hd,hx with
     |0,hd,hx=>cases hd;cases hx;exact Mh eb rfl
     |1,hd,hx=>cases hd;cases hx;exact .bool _
   |true=>
    gi_wp2_with (refine⟨trivial,?_⟩;gi_at_call 85;refine(callsIn_wide.2 (aFh hC q3 q5 ja ka)).mono ?_;rintro e w1 ⟨a0,n0,c0,G2,rfl,ca,z2,o2,gb⟩;have fb:w1.heap[w.heap.size+1+1+1]?=some (.cells xa T5 (0,0)):=(ca.block _ Yg).trans kb;have fa:Boxed w1 (w.heap.size+1) 40 (.slice none 0 0):=(ca.block _ Yg).trans y2;have aa:(w1.alloc (Obj.cells #[Value.slice a0 n0 c0] 40)).heap[w.heap.size+1+1+1]?=some (.cells xa T5 (0,0)):=(Below.heap_alloc _ _ _ (by have:=ca.size;have:=ZZ.out;omega)).trans fb;have c5:=lb _ aa;have c2:=(fa.alloc (Obj.cells #[Value.slice a0 n0 c0] 40)).cell;have f2:=(fa.alloc (Obj.cells #[Value.slice a0 n0 c0] 40)).frozen)
    obtain⟨hz,hD,pa,y⟩:=ZZ.out;have ia:=ca.size;have ya:w.heap.size+1<w1.heap.size:=O
    have s:D≠w.heap.size+1:=O
    have hp:=heap_setCell_same _ _ 0 _ _ (Value.slice a0 n0 c0) (fa.alloc (Obj.cells #[Value.slice a0 n0 c0] 40));have g:((w1.alloc (Obj.cells #[Value.slice a0 n0 c0] 40)).setCell ⟨w.heap.size+1,0,none⟩ (Value.slice a0 n0 c0)).heap[D]?=some (.deferred (some [])):=by
     rw[Below.heap_setCell _ _ _ _ s,Below.heap_alloc _ _ _ O,ca.block D y];exact hK
    have la:Below w.heap.size w w1:=bb.trans ((f.mono O).trans (ca.mono O));have ra:Below w.heap.size w ((w1.alloc (Obj.cells #[Value.slice a0 n0 c0] 40)).setCell ⟨w.heap.size+1,0,none⟩ (Value.slice a0 n0 c0)):=(la.alloc O _).setCell U _;have ma:((w1.alloc (Obj.cells #[Value.slice a0 n0 c0] 40)).setCell ⟨w.heap.size+1,0,none⟩ (Value.slice a0 n0 c0)).heap.size=w1.heap.size+1:=Yj
    have qa:∀k,k<w1.heap.size->k≠w.heap.size+1->((w1.alloc (Obj.cells #[Value.slice a0 n0 c0] 40)).setCell ⟨w.heap.size+1,0,none⟩ (Value.slice a0 n0 c0)).heap[k]?=w1.heap[k]?:=λk h1 h2=>by
     rw[Below.heap_setCell _ _ _ _ h2,Below.heap_alloc _ _ _ h1]
    have cb:w1.heap[D]?=some (.deferred (some [])):=(ca.block D y).trans hK;generalize ((w1.alloc (Obj.cells #[Value.slice a0 n0 c0] 40)).setCell ⟨w.heap.size+1,0,none⟩ (Value.slice a0 n0 c0))=w2 at hp g ra ma qa ⊢;refine⟨U,.inl ⟨_,_,rfl,run_takeDeferred g,?_⟩⟩;have wa:=(World.putObj_heap_other (o:= .deferred none) (w:=w2) s.symm).trans hp;refine⟨.tuple #[.agg #[.slice a0 n0 c0],.bool (er==0)],YH,_,G2,rfl,ra.trans (belowK_b (w:=w) (Qv _) _ D _ _ O g rfl rfl),λb hb=>z2 b ?_,λb hb=>(o2 b O).trans (q4 b O),?_⟩
    ·rw[World.putObj_size,ma]at hb;omega
    ·have eb:Rep (w2.putObj D (.deferred none)) (Gh.base G2) (Vd.D.slice da [] m) (.slice a0 n0 c0):=Rep.calm_to gb rfl (λp ib=>by
      have ta:p.off<G2 p.block:=ib;have sa:p.block<w1.heap.size:=by
       rcases Zy p.block w1.heap.size with h|h
       ·exact h
       ·rw[z2 _ h]at ta;omega
      have db:p.block≠w.heap.size+1:=λe=>by
       rw[e,o2 _ O,q4 _ O,ha _ O]at ta;omega
      rcases Z9 p.block D with h|h
      ·simp only[World.cell?,World.putObj_heap_other h];rw[qa _ sa db]
      ·simp only[World.cell?,h,World.putObj_heap_same (Qn.1 g).1,cb]) (λ_=>Qv _)
     refine .tup [.agg [.slice da [] m],.bool (true&&decide (er=0))] [.agg #[.slice a0 n0 c0],.bool (er==0)] rfl λj d x hd hx=>?_
     match j,hd,hx with
     |0,hd,hx=>cases hd;cases hx;exact Mh eb rfl
     |1,hd,hx=>cases hd;cases hx;exact .bool _
structure aMi (t:Tr):Prop where
 cnt:t.cnt<=400000
 len:t.lst.length<=1000
 vals:∀x∈t.lst,x.1.length<=100000∧x.2.length<=1000
def H8(t:Tr):Option (List Tk)×Bool:=(CF (HM t.lst).1.length [] (HM t.lst).1,(HM t.lst).2&&(CF (HM t.lst).1.length [] (HM t.lst).1).isSome)
def S9:List D->Option D:=FX L3 aMi λt=> .tup [LJ (H8 t).1,.bool (H8 t).2]
def aAs{t:Tr}(h:aMi t):S9 [.agg [Hh t]]=some (.tup [LJ (H8 t).1,.bool (H8 t).2]):=BG (mk:=L3) RX h
def aIR:Kq S9 38:=by
 refine MI ⟨_,func38,Xa,Xa⟩ λds r y vs w G hl m x=>⟨?_,?_⟩
 ·obtain⟨p,_,_,rfl⟩:=Dy y;have h:∀(o:Option (List Tk))(b:Bool),(D.tup [LJ o,.bool b]).calmR=true:=λo b=>by cases o<;>rfl
  exact h _ _
 ·obtain⟨t,n,rfl,rfl⟩:=Dy y
  match vs,hl with
  |[v0],_=>
   obtain⟨v,rfl,j⟩:=Ro (m 0 _ v0 rfl rfl);exact aQx ⟨G,j,x⟩ n.cnt n.len n.vals x
end Go.Vd
namespace Go.Vd
open Go.Proofs Go.RowKit
namespace Tr
def pN{x:Kt×Kt}{l:List (Kt×Kt)}(h:Ord (x::l)):x∉l:=λf=>by
 have:=(QH.1 h).1 x f;rw[Cq]at this;cases this
def pP:∀{a b:List (Kt×Kt)},Ord a->Ord b->(∀x,x∈a↔x∈b)->a=b
 |[],[],_,_,_=>rfl
 |[],y::b,_,_,h=>absurd ((h y).2 Qp) U
 |x::a,[],_,_,h=>absurd ((h x).1 Qp) U
 |x::a,y::b,ha,hb,h=>by
  have e:x=y:=by
   rcases Qs.1 ((h x).1 Qp)with e|h1
   ·exact e
   rcases Qs.1 ((h y).2 Qp)with e|h2
   ·exact e.symm
   have v:=(QH.1 ha).1 y h2;have l2:=(QH.1 hb).1 x h1;rw[Cf v]at l2;cases l2
  subst e;rw[pP (QH.1 ha).2 (QH.1 hb).2 λz=>?_];constructor
  ·intro j;rcases Qs.1 ((h z).1 (Qq _ j))with rfl|h1
   ·exact absurd j (pN ha)
   ·exact h1
  ·intro j;rcases Qs.1 ((h z).2 (Qq _ j))with rfl|h1
   ·exact absurd j (pN hb)
   ·exact h1
def drop_fil(p:Kt){l:List (Kt×Kt)}(h:Ord l):Sp p l=l.filter λx=>!A2 x.1 p:=
 pP (ord_sub (drop_sub p h) h) (ord_sub QV h) λx=>by
  rw[aDB h,QW];cases A2 x.1 p<;>simp
end Tr
def FM(x:Op1)(l:List (Bs×Bs)):List (Bs×Bs):=if x.1=1 then Tr.insL l x.2.1 x.2.2 else if x.1=2 then l.filter (λy=>y.1 !=x.2.1)else if x.1=3 then l.filter (λy=>!A2 y.1 x.2.1)else l
def Th:List Op1->List (Bs×Bs)->List (Bs×Bs)
 |[],l=>l
 |x::r,l=>Th r (FM x l)
def aBR{t:Tr}(h:Tr.Ord t.lst)(x:Op1):(Pb x t).lst=FM x t.lst:=by
 unfold Pb FM;split
 ·exact Tr.lst_put _ _ t h
 split
 ·exact Tr.lst_del _ t h
 split
 ·rw[Tr.lst_drop _ t h,Tr.drop_fil _ h]
 ·rfl
def RH{l:List (Bs×Bs)}(h:Tr.Ord l)(x:Op1):Tr.Ord (FM x l):=by
 unfold FM;split
 ·exact Tr.ins_ord h _ _
 split
 ·exact Tr.ord_sub QV h
 split
 ·exact Tr.ord_sub QV h
 ·exact h
def cD:∀(l:List Op1){t:Tr},Tr.Ord t.lst->(CW l t).lst=Th l t.lst∧Tr.Ord (CW l t).lst
 |[],t,h=>⟨rfl,h⟩
 |x::l,t,h=>by
  have u:=aBR h x;have q:Tr.Ord (Pb x t).lst:=by rw[u];exact RH h x
  have ih:=cD l q;show(CW l (Pb x t)).lst=Th l (FM x t.lst)∧_;rw[←u];exact ih
structure tW (l:List (Bs×Bs)) (n:Nat):Prop where
 len:l.length<=n
 ok:∀x∈l,x.1.length<=150∧x.2.length<=1000
def tW.op{l:List (Bs×Bs)}{n:Nat}(h:tW l n){x:Op1}(f:x.2.1.length<=150∧x.2.2.length<=1000)(r:Tr.Ord l):tW (FM x l) (n+1):=by
 have a:∀{m:List (Bs×Bs)},m.Sublist l->tW m (n+1):=λg=>⟨QA g.length_le (by have:=h.len;omega),λy d=>h.ok y (g.subset d)⟩
 unfold FM;split
 ·refine⟨?_,λy d=>?_⟩
  ·have:=h.len;have e:(Tr.insL l x.2.1 x.2.2).length<=l.length+1:=by
    unfold Tr.insL;rw[QN,Qm];have:∀m:List (Bs×Bs),(m.filter λy=>Hj y.1 x.2.1).length+(m.filter λy=>Hj x.2.1 y.1).length<=m.length:=λm=>by
     induction m with
     |nil=>exact Qv _
     |cons z m ih=>
      cases c:Hj z.1 x.2.1 with
      |true=>simp[QQ,c,Cf c];omega
      |false=>cases c2:Hj x.2.1 z.1<;>simp[QQ,c,c2]<;>omega
    exact Nat.succ_le_succ (this l)
   omega
  ·rcases Tr.ins_iff.1 d with rfl|⟨d,_⟩
   ·exact f
   ·exact h.ok y d
 split
 ·exact a QV
 split
 ·exact a QV
 ·exact a (List.Sublist.refl _)
def tW.ops:∀{r:List Op1} {l:List (Bs×Bs)} {n:Nat},tW l n->(∀x∈r,x.2.1.length<=150∧x.2.2.length<=1000)->Tr.Ord l->tW (Th r l) (n+r.length)
 |[],l,n,h,hr,ho=>h
 |x::r,l,n,h,hr,ho=>by
  have:=tW.ops (r:=r) (h.op (hr x Qp) ho) (λy d=>hr y (Qq _ d)) (RH ho x);rw[Qm];have e:n+(r.length+1)=n+1+r.length:=O
  rw[e];exact this
def tW.entW{t:Tr}{n:Nat}(h:tW t.lst n)(c:n<=1000):aMi t∧TrS t:=by
 have hl:=h.len;have g:t.cnt<=400000:=by rw[←Tr.cnt_lst];omega
 exact⟨⟨g,O,λx f=>⟨QA (h.ok x f).1 Z,(h.ok x f).2⟩⟩,⟨g,λx f=>⟨QA (h.ok x f).1 Z,QA (h.ok x f).2 Z⟩⟩⟩
def Mj:=Az [(25,Ac LV),(36,Ac gT),(37,Ac tN),(38,Ac S9),(39,Ac tK)]
def Wp:=RF Mj aES [.cell (some 5) 4,.t 5] 64
def aJH:Kq Wp 11:=Av (Al func11) (Aa aCT (Aa kK (Aa aSi (Aa aIR (Aa aSh Ae)))))
def TN(t:Tr):Option (Int×List Mt×List Tk):=match t.get Hp,t.get He with
 |some x,some y=>match CA y.length y 0 [],H8 t with
  |(some ms,e),(some ks,fl)=>if fl=true∧Cb (x.length:Int)≠0∧e=0 then some (Cb (x.length:Int),ms,ks)else none
  |_,_=>none
 |_,_=>none
def WM(key:Bs):Option (Int×List Mt×List Tk)->D
 |some (te,ms,ks)=> .agg [.bool true,.int .i64 te,.str key,.slice (decide (ms.length=0)) [] (Ax ms),.slice (decide (ks=[])) [] (Au ks)]
 |none=> .agg [.bool false,.int .i64 0,.str [],.slice true [] [],.slice true [] []]
def UZ:∀(f:Nat){s:Bs}{p:Nat}{acc:List Mt},(CA f s p acc).1=none->(CA f s p acc).2≠0
 |0,s,p,acc,h=>by
  unfold CA at h ⊢;split at h
  ·cases h
  ·rw[if_neg ‹_›];decide
 |f+1,s,p,acc,h=>by
  unfold CA at h ⊢;split at h
  ·cases h
  ·rw[if_neg ‹_›];split at h
   ·rw[if_pos ‹_›];decide
   ·rw[if_neg ‹_›];split at h
    ·rw[if_pos ‹_›];decide
    ·rw[if_neg ‹_›];split at h
     ·decide
     ·exact UZ f h
def aIg(t:Tr)(h:(H8 t).1=none):(H8 t).2=false:=by
 unfold H8 at h ⊢;simp only at h ⊢;rw[h];simp
def aAm{t:Tr}(hE:aMi t)(hv:∀y,t.get He=some y->y.length<=1000)(key:Bs):Wp [.agg [Hh t],.str key]=some (.tup [WM key (TN t),.int .i64 (if(TN t).isSome then 0 else 4)]):=by
 refine Aq (Qj rfl) ?_;have m:Mj 25=some (Ac LV):=rfl;have i:Mj 36=some (Ac gT):=rfl;have l:Mj 37=some (Ac tN):=rfl;have k:Mj 38=some (Ac S9):=rfl;have f:Mj 39=some (Ac tK):=rfl;have h5:LV [.int .u8 5,.str []]=some (.str Hp):=I7 5 [] Z;have w:LV [.int .u8 4,.str []]=some (.str He):=I7 4 [] Z;have z:=NH t Hp;have a:=NH t He;have hy:((t.get He).getD []).length<=2000:=by
  cases h:t.get He with
  |none=>exact Qo _
  |some y=>exact QA (hv y h) Z
 have b:=aAk ((t.get He).getD []) hy;have g:=aAs hE;have d:=aAj ((((t.get Hp).getD []).length:Nat):Int);have hG:TN t=if(t.get Hp).isSome=true∧(t.get He).isSome=true∧(H8 t).2=true∧Cb ((((t.get Hp).getD []).length:Nat):Int)≠0∧(CA ((t.get He).getD []).length ((t.get He).getD []) 0 []).2=0 then some (Cb ((((t.get Hp).getD []).length:Nat):Int),((CA ((t.get He).getD []).length ((t.get He).getD []) 0 []).1).getD [],((H8 t).1).getD [])else none:=by
  have u:=λy:Bs=>UZ y.length (s:=y) (p:=0) (acc:=[])
  have e2:=aIg t;unfold TN;cases hr:t.get Hp with
  |none=>simp
  |some x=>
   cases hm:t.get He with
   |none=>simp
   |some y=>
    have u:=u y;simp only[Q0,Qk,true_and];generalize CA y.length y 0 []=T at *;generalize H8 t=K at *;obtain⟨T1,T2⟩:=T;obtain⟨K1,K2⟩:=K;cases T1 with
    |none=>
     have u:=u rfl;simp only at u;simp[u]
    |some ms=>
     cases K1 with
     |none=>
      have e2:=e2 rfl;simp only at e2;simp[e2]
     |some ks=>simp
 have v:oK (CA ((t.get He).getD []).length ((t.get He).getD []) 0 []).1= .agg [.slice (decide (((CA ((t.get He).getD []).length ((t.get He).getD []) 0 []).1.getD []).length=0)) [] (Ax ((CA ((t.get He).getD []).length ((t.get He).getD []) 0 []).1.getD []))]:=by
  cases(CA ((t.get He).getD []).length ((t.get He).getD []) 0 []).1 with
  |none=>rfl
  |some ms=>rfl
 have j:LJ (H8 t).1= .agg [.slice (decide ((H8 t).1.getD []=[])) [] (Au ((H8 t).1.getD []))]:=by
  cases(H8 t).1 with
  |none=>rfl
  |some ks=>rfl
 rw[v]at b;rw[j]at g;rw[hG];clear hG v j hv hy hE;unfold aES;generalize Hp=rk at *;generalize He=mk at *;generalize (CA ((t.get mk).getD []).length ((t.get mk).getD []) 0 []).2=e at *;generalize (CA ((t.get mk).getD []).length ((t.get mk).getD []) 0 []).1.getD []=ms at *;generalize (H8 t).2=fl at *;generalize (H8 t).1.getD []=ks at *;generalize Cb ((((t.get rk).getD []).length:Nat):Int)=n at *;generalize (t.get rk).isSome=i1 at *;generalize (t.get mk).isSome=i2 at *;generalize (t.get rk).getD []=x1 at *;generalize (t.get mk).getD []=x2 at *;have o:∀c:Prop,[Decidable c]->c->(WM key (if c then some (n,ms,ks)else none)= .agg [.bool true,.int .i64 n,.str key,.slice (decide (ms.length=0)) [] (Ax ms),.slice (decide (ks=[])) [] (Au ks)]∧(if(if c then some (n,ms,ks)else none).isSome=true then(0:Int)else 4)=0):=λc _ h=>by rw[if_pos h];exact⟨rfl,rfl⟩
 have q:∀c:Prop,[Decidable c]->¬c->(WM key (if c then some (n,ms,ks)else none)= .agg [.bool false,.int .i64 0,.str [],.slice true [] [],.slice true [] []]∧(if(if c then some (n,ms,ks)else none).isSome=true then(0:Int)else 4)=4):=λc _ h=>by rw[if_neg h];exact⟨rfl,rfl⟩
 generalize Mj=S at *;generalize S9=G at *;by_cases hc:i1=true∧i2=true∧fl=true∧n≠0∧e=0
 ·obtain⟨y1,y2⟩:=o _ hc;rw[y1,y2];obtain⟨rfl,rfl,rfl,c4,rfl⟩:=hc;clear o q y1 y2;have c4:(n=0)=False:=eq_false c4;generalize decide (ms.length=0)=r at *;generalize Ax ms=md at *;generalize decide (ks=[])=da at *;generalize Au ks=td at *;clear ms ks
  repeat' (first|(refine aA (Ah ?_) ?_;first|rfl|simp[Ap,An,GZ,Ag,Ac])|simp (maxSteps:=4000000) (disch:=first|assumption|omega)only[GU,↓GQ,GS,simprocAttr,GY,Ab m,h5,w,Ab i,z,a,Ab l,b,Ab k,g,Ab f,d,c4])
  all_goals exact Qd
 ·obtain⟨y1,y2⟩:=q _ hc;rw[y1,y2];clear o q y1 y2;generalize decide (ms.length=0)=r at *;generalize Ax ms=md at *;generalize decide (ks=[])=da at *;generalize Au ks=td at *;clear ms ks;cases i1 with
  |false=>
   clear hc
   repeat' (first|(refine aA (Ah ?_) ?_;first|rfl|simp[Ap,An,GZ,Ag,Ac])|simp (maxSteps:=4000000) (disch:=first|assumption|omega)only[GU,↓GQ,GS,simprocAttr,GY,Ab m,h5,w,Ab i,z,a,Ab l,b,Ab k,g,Ab f,d])
   all_goals exact Qd
  |true=>
  cases i2 with
  |false=>
   clear hc
   repeat' (first|(refine aA (Ah ?_) ?_;first|rfl|simp[Ap,An,GZ,Ag,Ac])|simp (maxSteps:=4000000) (disch:=first|assumption|omega)only[GU,↓GQ,GS,simprocAttr,GY,Ab m,h5,w,Ab i,z,a,Ab l,b,Ab k,g,Ab f,d])
   all_goals exact Qd
  |true=>
  cases fl with
  |false=>
   clear hc
   repeat' (first|(refine aA (Ah ?_) ?_;first|rfl|simp[Ap,An,GZ,Ag,Ac])|simp (maxSteps:=4000000) (disch:=first|assumption|omega)only[GU,↓GQ,GS,simprocAttr,GY,Ab m,h5,w,Ab i,z,a,Ab l,b,Ab k,g,Ab f,d])
   all_goals exact Qd
  |true=>
  by_cases c4:n=0
  ·have c4:(n=0)=True:=eq_true c4;clear hc
   repeat' (first|(refine aA (Ah ?_) ?_;first|rfl|simp[Ap,An,GZ,Ag,Ac])|simp (maxSteps:=4000000) (disch:=first|assumption|omega)only[GU,↓GQ,GS,simprocAttr,GY,Ab m,h5,w,Ab i,z,a,Ab l,b,Ab k,g,Ab f,d,c4])
   all_goals exact Qd
  ·have c5:(e=0)=False:=eq_false λh=>hc ⟨rfl,rfl,rfl,c4,h⟩
   have c4:(n=0)=False:=eq_false c4;clear hc
   repeat' (first|(refine aA (Ah ?_) ?_;first|rfl|simp[Ap,An,GZ,Ag,Ac])|simp (maxSteps:=4000000) (disch:=first|assumption|omega)only[GU,↓GQ,GS,simprocAttr,GY,Ab m,h5,w,Ab i,z,a,Ab l,b,Ab k,g,Ab f,d,c4,c5])
   all_goals exact Qd
def Mx{α:Type}[DecidableEq α]:∀{a b:List α},a.Nodup->(∀x∈a,x∈b)->a.length<=b.length
 |[],_,_,_=>Qo _
 |x::a,b,hn,h=>by
  obtain⟨u,q⟩:=Z1.1 hn;have f:=h x Qp;have:=Mx (b:=b.erase x) q λy d=>(ZI (λe=>by subst e;exact u d)).2 (h y (Qq _ d))
  have hl:=Zu f;have o:0<b.length:=Zd f;rw[Qm];omega
def aIk{α:Type}[DecidableEq α]{a b:List α}(c:a.Nodup)(h:∀x∈a,x∈b)(hl:a.length=b.length):∀x∈b,x∈a:=λx p=>by
 apply Classical.byContradiction;intro f;have u:=Mx (b:=b.erase x) c λy i=>(ZI (λe=>by subst e;exact f i)).2 (h y i)
 have q:=Zu p;have d:0<b.length:=Zd p;omega
def Uu{α:Type}{p q:α->Bool}(a:∀x,q x=true->p x=true):∀{l:List α} {t:α},t∈l->p t=true->q t=false->(l.filter q).length<(l.filter p).length
 |x::l,t,ht,h1,h2=>by
  have ta:(l.filter q).length<=(l.filter p).length:=by
   clear ht;induction l with
   |nil=>exact Qv _
   |cons y l ih=>
    rw[QQ,QQ];cases hq:q y with
    |true=>rw[a y hq];simp only[if_true,Qm];omega
    |false=>cases p y<;>simp<;>omega
  rw[QQ,QQ];rcases Qs.1 ht with rfl|ht
  ·rw[h1,h2];simp only[if_true,ZN,if_false,Qm];omega
  ·have ih:=Uu a ht h1 h2;cases hq:q x with
   |true=>rw[a x hq];simp only[if_true,Qm];omega
   |false=>cases p x<;>simp<;>omega
noncomputable instance tkDec:DecidableEq Tk:=λa b=>Classical.propDecidable (a=b)
structure fP (L:List Tk):Prop where
 nd:L.Nodup
 one:∀a∈L,∀b∈L,a.1=b.1->a=b
 tok:∀t∈L,Dc t.1 t.2.1 t.2.2.2=0
inductive Ldb (L:List Tk):Tk->Prop
 |root (t:Tk):t∈L->Mn t=true->Ldb L t
 |kid (t u:Tk):t∈L->t.1≠G_->Ldb L u->u.1=t.2.1->CD t.2.2.2 u.2.2.2=true->Ldb L t
def Ldb.mem{L:List Tk}{t:Tk}(h:Ldb L t):t∈L:=by
 cases h with
 |root _ h _=>exact h
 |kid _ _ h _ _ _ _=>exact h
structure Hv (L acc:List Tk):Prop where
 srt:DY acc
 ldb:∀x∈acc,Ldb L x
 rt:acc=[]∨∃k∈acc,Mn k=true
def Can(acc:List Tk)(t:Tk):Prop:=(Mn t=true∧acc=[])∨(t.1≠G_∧∃u∈acc,u.1=t.2.1∧CD t.2.2.2 u.2.2.2=true)
def Dh{t:Tk}(h:Mn t=true):t.1=G_:=by
 unfold Mn at h;simp only[QO,decide_eq_true_eq]at h;exact h.1.1
def Hv.new{L acc:List Tk}(m:fP L)(h:Hv L acc){t:Tk}(w:t∈L)(c:t∉acc):AN acc t.1=false:=by
 cases hf:AN acc t.1 with
 |false=>rfl
 |true=>
  obtain⟨k,s,e⟩:=Gi hf;rw[m.one k (h.ldb k s).mem t w e]at s;exact absurd s c
def Hv.par{L acc:List Tk}(h:Hv L acc){u:Tk}(a:u∈acc):AN acc u.1=true∧AP acc (HT acc u.1)=u:=by
 obtain⟨j,w,rfl⟩:=QK a;have y:=Gj h.srt w;have e:AP acc j=acc[j]:=by unfold AP;rw[Q_,Qi w];rfl
 rw[e]at y;exact⟨y.2,by rw[y.1];exact e⟩
def oD{t:Tk}(h:Dc t.1 t.2.1 t.2.2.2=0)(j:t.1≠G_):t.2.1≠[]:=λe=>by
 unfold Dc at h;have v:=uW (n:=t.1) (p:=t.2.1) (l:=t.2.2.2) h;rw[if_neg (by rw[v];decide)]at h;split at h
 ·rename_i c;exact c h
 ·split at h
  ·rename_i c;exact j c.2
  ·split at h
   ·rename_i c;rw[e]at c;exact absurd c.1 Z
   ·cases h
def cM{L acc:List Tk}(i:fP L)(h:Hv L acc){t:Tk}(s:t∈L)(c:t∉acc)(j:t.1≠G_):((BO acc t).2=0↔∃u∈acc,u.1=t.2.1∧CD t.2.2.2 u.2.2.2=true)∧((BO acc t).2=0->(BO acc t).1=some (BD acc t)):=by
 have o:=oD (i.tok t s) j;have v:=h.new i s c;unfold BO;rw[if_neg (by rw[i.tok t s];decide),if_neg o,if_neg (by rw[v];decide)];cases hf:AN acc t.2.1 with
 |false=>
  rw[if_pos rfl];refine⟨⟨λh=>Xd,λ⟨u,a,e,_⟩=>?_⟩,λh=>Xd⟩;rw[←e,(h.par a).1]at hf;cases hf
 |true=>
  rw[if_neg Z];obtain⟨u,a,e⟩:=Gi hf;have ia:=(h.par a).2;rw[e]at ia;rw[ia];cases hc:CD t.2.2.2 u.2.2.2 with
  |false=>
   rw[if_pos rfl];refine⟨⟨λh=>Xd,λ⟨w,p,m,q⟩=>?_⟩,λh=>Xd⟩;rw[i.one w (h.ldb w p).mem u (h.ldb u a).mem (m.trans e.symm),hc]at q;cases q
  |true=>
   rw[if_neg Z];exact⟨⟨λ_=>⟨u,a,e,hc⟩,λ_=>rfl⟩,λ_=>rfl⟩
def Hv.add{L acc:List Tk}(m:fP L)(h:Hv L acc){t:Tk}(w:t∈L)(c:t∉acc)(g:Can acc t):Hv L (BD acc t):=by
 have v:=h.new m w c;have a:Ldb L t:=by
  rcases g with ⟨y,_⟩|⟨y,u,n,q,d⟩
  ·exact .root t w y
  ·exact .kid t u w y (h.ldb u n) q d
 refine⟨TG h.srt v,λx hx=>?_,.inr ?_⟩
 ·rcases B9.1 hx with hx|rfl
  ·exact h.ldb x hx
  ·exact a
 ·rcases h.rt with e|⟨k,s,e⟩
  ·rcases g with ⟨y,_⟩|⟨_,u,n,_⟩
   ·exact⟨t,B9.2 (.inr rfl),y⟩
   ·rw[e]at n;cases n
  ·exact⟨k,B9.2 (.inl s),e⟩
def aIE{L acc:List Tk}(m:fP L)(h:Hv L acc){t:Tk}(w:t∈L)(c:t∉acc):(Can acc t->L1 acc t=some (BD acc t))∧(¬Can acc t->L1 acc t=none):=by
 unfold L1;by_cases u:Mn t=true∧acc=[]
 ·rw[if_pos u];exact⟨λ_=>rfl,λh=>absurd (.inl u) h⟩
 rw[if_neg u];by_cases j:t.1=G_
 ·rw[if_neg (λh=>h.1 j)];exact⟨λh=>h.elim (λh=>absurd h u) (λh=>absurd j h.1),λ_=>rfl⟩
 ·obtain⟨a,i⟩:=cM m h w c j;by_cases q:(BO acc t).2=0
  ·rw[if_pos ⟨j,q⟩,i q];exact⟨λ_=>rfl,λh=>absurd (.inr ⟨j,a.1 q⟩) h⟩
  ·rw[if_neg (λh=>q h.2)];exact⟨λh=>h.elim (λh=>absurd h u) (λh=>absurd (a.2 h.2) q),λ_=>rfl⟩
def eZ{L acc left:List Tk}(m:fP L)(h:Hv L acc)(p:∀x∈L,x∈acc∨x∈left){t:Tk}(z:Ldb L t)(c:t∉acc):∃t∈left,t∉acc∧Can acc t:=by
 induction z with
 |root t w o=>
  refine⟨t,(p t w).resolve_left c,c,.inl ⟨o,?_⟩⟩;rcases h.rt with e|⟨k,s,e⟩
  ·exact e
  ·rw[m.one k (h.ldb k s).mem t w ((Dh e).trans (Dh o).symm)]at s;exact absurd s c
 |kid t u w j n e g ih=>
  by_cases a:u∈acc
  ·exact⟨t,(p t w).resolve_left c,c,.inr ⟨j,u,a,e,g⟩⟩
  ·exact ih a
def RD{L:List Tk}(m:fP L):∀(M acc:List Tk),Hv L acc->(∀t∈M,t∈L∧t∉acc)->M.Nodup->Hv L (BX acc M).1∧(BX acc M).2.Sublist M∧(∀t∈(BX acc M).2,t∉(BX acc M).1)∧(∀x,(x∈(BX acc M).1∨x∈(BX acc M).2)↔(x∈acc∨x∈M))∧((∃t∈M,Can acc t)->(BX acc M).2.length<M.length)
 |[],acc,h,_,_=>⟨h,List.Sublist.refl _,λt w=>(by cases w),λx=>Iff.rfl,λ⟨t,w,_⟩=>by cases w⟩
 |t::r,acc,h,hM,hnd=>by
  obtain⟨s,o⟩:=Z1.1 hnd;obtain⟨w,c⟩:=hM t Qp;obtain⟨q,p⟩:=aIE m h w c;unfold BX;by_cases g:Can acc t
  ·rw[q g];simp only;obtain⟨k,q2,e,q4,v⟩:=RD m r (BD acc t) (h.add m w c g) (λu hu=>⟨(hM u (Qq _ hu)).1,λhm=>by
    rcases B9.1 hm with hm|rfl
    ·exact(hM u (Qq _ hu)).2 hm
    ·exact s hu⟩) o
   refine⟨k,q2.cons _,e,λx=>?_,λ_=>?_⟩
   ·rw[q4,B9,Qs,or_assoc]
   ·have:=q2.length_le;rw[Qm];omega
  ·rw[p g];simp only;obtain⟨k,q2,e,q4,v⟩:=RD m r acc h (λu hu=>hM u (Qq _ hu)) o;refine⟨k,q2.cons_cons _,λu hu=>?_,λx=>?_,λ⟨u,hu,d⟩=>?_⟩
   ·rcases Qs.1 hu with rfl|hu
    ·intro hm;rcases(q4 u).1 (.inl hm)with h5|h5
     ·exact c h5
     ·exact s h5
    ·exact e u hu
   ·rw[Qs,Qs,←or_assoc,or_comm (b:=x=t),or_assoc,q4,←or_assoc,or_comm (a:=x=t),or_assoc]
   ·rcases Qs.1 hu with rfl|hu
    ·exact absurd d g
    ·have:=v ⟨u,hu,d⟩;simp only[Qm];omega
def dB{L:List Tk}(m:fP L):∀(f:Nat)(acc M:List Tk),Hv L acc->(∀t∈M,t∈L∧t∉acc)->M.Nodup->(∀x∈L,x∈acc∨x∈M)->M.length<=f->
  (∃i,CF f acc M=some i∧Hv L i∧∀x∈L,x∈i)∨(CF f acc M=none∧∃t∈L,¬Ldb L t)
 |f,acc,[],h,_,_,hall,_=> .inl ⟨acc,by unfold CF;rfl,h,λx p=>(hall x p).resolve_right U⟩
 |0,acc,t::r,_,_,_,_,hf=>absurd hf U
 |f+1,acc,t::r,h,hM,hnd,hall,hf=>by
  obtain⟨k,q2,e,q4,v⟩:=RD m (t::r) acc h hM hnd;unfold CF;by_cases q:(BX acc (t::r)).2.length=(t::r).length
  ·rw[if_pos q];refine .inr ⟨rfl,t,(hM t Qp).1,λz=>?_⟩;obtain⟨u,a,_,g⟩:=eZ m h hall z (hM t Qp).2;have:=v ⟨u,a,g⟩;omega
  ·rw[if_neg q];have ta:=q2.length_le;exact dB m f _ _ k (λu a=>⟨(hM u (q2.subset a)).1,e u a⟩) (q2.nodup hnd) (λx p=>(q4 x).2 (hall x p)) O
def DX(v:List Tk)(t:Tk):List Tk:=
 if t.1≠G_∧(BO (if Mn t=true∧AN v G_=false then BD v t else v) t).2=0 then BD (if Mn t=true∧AN v G_=false then BD v t else v) t else if Mn t=true∧AN v G_=false then BD v t else v
def Nq(v L:List Tk):List Tk:=L.foldl DX v
def E7(L:List Tk):Nat->List Tk->List Tk
 |0,out=>out
 |n+1,out=>E7 L n (Nq out L)
def LQ(L:List Tk):Option (List Tk):=if(E7 L L.length []).length=L.length then some (E7 L L.length [])else none
def eU{L v:List Tk}(m:fP L)(h:Hv L v){t:Tk}(w:t∈v):DX v t=v:=by
 have o:=(h.par w).1;unfold DX;have u:¬(Mn t=true∧AN v G_=false):=λ⟨u,q⟩=>by
  rw[←Dh u,o]at q;cases q
 rw[if_neg u];have q:¬(t.1≠G_∧(BO v t).2=0):=λ⟨j,q⟩=>by
  have a:=(h.ldb t w).mem;unfold BO at q;rw[if_neg (by rw[m.tok t a];decide),if_neg (oD (m.tok t a) j),if_pos o]at q;cases q
 rw[if_neg q]
def Uw{L v:List Tk}(m:fP L)(h:Hv L v){t:Tk}(w:t∈L)(c:t∉v):(Can v t->DX v t=BD v t)∧(¬Can v t->DX v t=v):=by
 have f:Mn t=true->(AN v G_=false∧v=[]):=λo=>by
  have u:v=[]:=by
   rcases h.rt with e|⟨k,s,e⟩
   ·exact e
   ·rw[m.one k (h.ldb k s).mem t w ((Dh e).trans (Dh o).symm)]at s;exact absurd s c
  have:=h.new m w c;rw[Dh o]at this;exact⟨this,u⟩
 unfold DX;by_cases j:t.1=G_
 ·rw[if_neg (λh=>h.1 j)];by_cases o:Mn t=true
  ·rw[if_pos ⟨o,(f o).1⟩];exact⟨λ_=>rfl,λh=>absurd (.inl ⟨o,(f o).2⟩) h⟩
  ·rw[if_neg (λh=>o h.1)];exact⟨λh=>h.elim (λh=>absurd h.1 o) (λh=>absurd j h.1),λ_=>rfl⟩
 ·have o:¬Mn t=true:=λh=>j (Dh h)
  rw[if_neg (show ¬(Mn t=true∧AN v G_=false)from λh=>o h.1)];obtain⟨a,i⟩:=cM m h w c j;by_cases q:(BO v t).2=0
  ·rw[if_pos ⟨j,q⟩];exact⟨λ_=>rfl,λh=>absurd (.inr ⟨j,a.1 q⟩) h⟩
  ·rw[if_neg (λh=>q h.2)];exact⟨λh=>h.elim (λh=>absurd h.1 o) (λh=>absurd (a.2 h.2) q),λ_=>rfl⟩
def Np{L:List Tk}(m:fP L):∀(M v:List Tk),Hv L v->(∀t∈M,t∈L)->Hv L (Nq v M)∧(∀x∈v,x∈Nq v M)∧(∀t∈M,t∉v->Can v t->t∈Nq v M)
 |[],v,h,_=>⟨h,λx f=>f,λt i=>by cases i⟩
 |t::r,v,h,hM=>by
  have i:=hM t Qp;have j:=λu hu=>hM u (Qq _ hu)
  show Hv L (Nq (DX v t) r)∧(∀x∈v,x∈Nq (DX v t) r)∧_;have a:Hv L (DX v t)∧(∀x∈v,x∈DX v t)∧(t∉v->Can v t->t∈DX v t):=by
   by_cases hi:t∈v
   ·rw[eU m h hi];exact⟨h,λx f=>f,λc=>absurd hi c⟩
   ·obtain⟨d1,d2⟩:=Uw m h i hi;by_cases g:Can v t
    ·rw[d1 g];exact⟨h.add m i hi g,λx f=>B9.2 (.inl f),λ_ _=>B9.2 (.inr rfl)⟩
    ·rw[d2 g];exact⟨h,λx f=>f,λ_ h=>absurd h g⟩
  obtain⟨s1,n,s3⟩:=a;obtain⟨o,q2,z⟩:=Np m r (DX v t) s1 j;refine⟨o,λx f=>q2 x (n x f),λu hu c g=>?_⟩;rcases Qs.1 hu with rfl|hu
  ·exact q2 _ (s3 c g)
  ·by_cases b:u∈DX v t
   ·exact q2 u b
   ·refine z u hu b ?_;rcases g with ⟨y,q⟩|⟨y,w,p,q,d⟩
    ·refine .inl ⟨y,?_⟩;rcases s1.rt with e|⟨k,s,e⟩
     ·exact e
     ·rw[m.one k (s1.ldb k s).mem u (j u hu) ((Dh e).trans (Dh y).symm)]at s;exact absurd s b
    ·exact .inr ⟨y,w,n w p,q,d⟩
def SC{L:List Tk}(j:fP L):∀(n:Nat)(v:List Tk),Hv L v->(L.filter λt=>decide (t∉v)).length<=n->Hv L (E7 L n v)∧∀t,Ldb L t->t∈E7 L n v
 |0,v,h,hn=>⟨h,λt s=>by
  apply Classical.byContradiction;intro w;have w:t∉v:=w;have:t∈L.filter λt=>decide (t∉v):=QW.2 ⟨s.mem,XZ⟩
  have:=Zd this;omega⟩
 |n+1,v,h,hn=>by
  obtain⟨d,q2,c⟩:=Np j L v h λt s=>s
  by_cases k:∀t,Ldb L t->t∈v
  ·have b:∀m o,Hv L o->(∀t,Ldb L t->t∈o)->Hv L (E7 L m o)∧∀t,Ldb L t->t∈E7 L m o:=by
    intro m;induction m with
    |zero=>exact λo y z=>⟨y,z⟩
    |succ m ih=>
     intro o y z;obtain⟨i,e,_⟩:=Np j L o y λt s=>s
     exact ih _ i λt s=>e t (z t s)
   exact b (n+1) v h k
  ·refine SC j n _ d ?_;obtain⟨t,s⟩:=Classical.not_forall.1 k;rw[Classical.not_imp]at s;obtain⟨u,a,r,g⟩:=eZ j h (left:=L) (λx f=> .inr f) s.1 s.2;have:=Uu (p:=λt=>decide (t∉v)) (q:=λt=>decide (t∉Nq v L)) (λx f=>by
    simp only[decide_eq_true_eq]at f ⊢;exact λh=>f (q2 x h)) a (by simpa using r) (by simpa using c u a r g)
   omega
def OA{L acc:List Tk}(h:Hv L acc):acc.Nodup:=List.Pairwise.imp (λh e=>h (by rw[e])) (vE h.srt)
def aTa{L a b:List Tk}(z:Hv L a)(i:Hv L b)(h:∀x,x∈a↔x∈b):a=b:=
 aMo (R:=λa b:Tk=>Op.bytesLess a.1 b.1=true) (λx f=>by rw[GN]at f;cases f) (λx y u q=>by
  have:=Nt u q;rw[GN]at this;cases this) (NV.1 z.srt) (NV.1 i.srt) h
def xA{L:List Tk}(m:fP L):CF L.length [] L=LQ L:=by
 have y:Hv L []:=⟨NV.2 List.Pairwise.nil,λx f=>Xv,.inl rfl⟩;obtain⟨d1,d2⟩:=SC m L.length [] y (List.length_filter_le _ _);have a:∀x∈E7 L L.length [],x∈L:=λx f=>(d1.ldb x f).mem
 unfold LQ;rcases dB m L.length [] L y (λt w=>⟨w,U⟩) m.nd (λx f=> .inr f) (Qv _)with ⟨i,u,q,d⟩|⟨u,t,w,q⟩
 ·have ta:∀x,x∈i↔x∈E7 L L.length []:=λx=>⟨λf=>d2 x (q.ldb x f),λf=>d x (a x f)⟩
  have n:(E7 L L.length []).length=L.length:=Nat.le_antisymm (Mx (OA d1) a) (Mx m.nd λx f=>(ta x).1 (d x f));rw[u,if_pos n,aTa q d1 ta]
 ·have v:¬(E7 L L.length []).length=L.length:=λe=>q (d1.ldb t (aIk (OA d1) a e t w))
  rw[u,if_neg v]
def Rr{x:Bs×Bs}{k:Tk}(h:uX x=some k):x.1=[116,47]++k.1∧Dc k.1 k.2.1 k.2.2.2=0:=by
 unfold uX at h;obtain⟨n,u,q⟩:=Option.bind_eq_some_iff.1 h;obtain⟨_,t,j⟩:=oE q;unfold tkN at u;split at u
 ·rename_i c;cases u;exact⟨by rw[t];exact(N3 c.1 c.2).2,j⟩
 ·cases u
def aIJ{l:List (Bs×Bs)}(r:Tr.Ord l){x y:Bs×Bs}(f:x∈l)(d:y∈l)(e:x.1=y.1):x=y:=by
 have u:=Tr.getL_mem r (q:=x.1) (v:=x.2) f;have z:=Tr.getL_mem r (q:=y.1) (v:=y.2) d;rw[e,z]at u;exact X4 e (QM u).symm
def aA4{l:List (Bs×Bs)}(u:Tr.Ord l):fP (Ic l):=by
 have r:∀k,k∈Ic l->∃x∈l,uX x=some k:=λk s=>List.mem_filterMap.1 s
 refine⟨?_,λa q b i e=>?_,λt w=>?_⟩
 ·unfold Ic;refine List.Pairwise.filterMap (R:=λa b:Bs×Bs=>Hj a.1 b.1=true) (S:=λa b:Tk=>a≠b) uX (λx y c a q b i e=>?_) u;subst e;rw[(Rr q).1,(Rr i).1,Cq]at c;cases c
 ·obtain⟨x,f,g⟩:=r a q;obtain⟨y,d,v⟩:=r b i;have:x=y:=aIJ u f d (by rw[(Rr g).1,(Rr v).1,e]);subst this;rw[g]at v;exact QM v
 ·obtain⟨x,f,g⟩:=r t w;exact(Rr g).2
def CU(l:List (Bs×Bs)):Option (Int×List Mt×List Tk):=
 open Classical in
 match Tr.getL l Hp,Tr.getL l He with
 |some x,some y=>match (CA y.length y 0 []).1 with
  |some a=>if Cb (x.length:Int)=0∨¬Fr l then none else(LQ (Ic l)).map λi=>(Cb (x.length:Int),a,i)
  |none=>none
 |_,_=>none
def NQ(l:List (Bs×Bs)):(Fr l∧HM l=(Ic l,true))∨(¬Fr l∧(HM l).2=false):=by
 by_cases h:Fr l
 ·exact .inl ⟨h,Rq h⟩
 ·refine .inr ⟨h,?_⟩;induction l with
  |nil=>exact absurd (λx f=>Xv) h
  |cons x r ih=>
   rw[Mv];cases hn:tkN x with
   |none=>
    refine ih λa=>h λy hy=>?_
    rcases Qs.1 hy with rfl|hy
    ·rintro⟨n,h1,_⟩;rw[hn]at h1;cases h1
    ·exact a y hy
   |some n=>
    simp only;cases hk:(DG n x.2).1 with
    |none=>rfl
    |some k=>
     refine ih λa=>h λy hy=>?_
     rcases Qs.1 hy with rfl|hy
     ·rintro⟨m,h1,h2⟩;rw[hn]at h1;cases h1;rw[hk]at h2;cases h2
     ·exact a y hy
def vS{t:Tr}(r:Tr.Ord t.lst):TN t=CU t.lst:=by
 unfold TN CU;rw[Tr.get_lst Hp t r,Tr.get_lst He t r];cases hr:Tr.getL t.lst Hp with
 |none=>rfl
 |some x=>
  cases hm:Tr.getL t.lst He with
  |none=>rfl
  |some y=>
   simp only;have n:=UZ y.length (s:=y) (p:=0) (acc:=[]);have m:=NR y.length (s:=y) (p:=0) (acc:=[]);generalize CA y.length y 0 []=T at *;obtain⟨b,v⟩:=T;cases b with
   |none=>rfl
   |some a=>
    have m:=m U;simp only at m ⊢;subst m;unfold H8;rcases NQ t.lst with ⟨u,q⟩|⟨u,q⟩
    ·rw[q];simp only[Zt];rw[xA (aA4 r)];cases LQ (Ic t.lst)with
     |none=>simp
     |some i=>by_cases c:Cb (x.length:Int)=0<;>simp[c,u]
    ·rw[q];simp only[Zc];rw[if_pos (.inr u)];cases CF (HM t.lst).1.length [] (HM t.lst).1 with
     |none=>rfl
     |some i=>simp
def C0(l:List Tk)(p:Bs):Int:=BP (l.map λm=>decide (m.1=p))
def Fp(l:List Tk)(n:Bs):Nat->Nat->Nat
 |0,j=>j
 |f+1,j=>if Op.bytesLess (AP l j).1 n=true then Fp l n f (j+1)else j
def Ed(l:List Tk)(k:Tk):List Tk:=l.take (Fp l k.1 l.length 0)++k::l.drop (Fp l k.1 l.length 0)
def EX(l:List Tk)(k:Tk):Option (List Tk)×Int:=
 if Dc k.1 k.2.1 k.2.2.2≠0 then(none,Dc k.1 k.2.1 k.2.2.2)else if k.2.1=[]then(none,2)else if 0<=C0 l k.1 then(none,20)else if C0 l k.2.1<0 then(none,6)
 else if CD k.2.2.2 (AP l (C0 l k.2.1).toNat).2.2.2=false then(none,13)else(some (Ed l k),0)
def qN{l:List Tk}(h:DY l){s:Bs}:∀(f j:Nat),l.length=j+f->(∀i,i<j->Op.bytesLess (AP l i).1 s=true)->AtT l s (Fp l s f j)
 |0,j,hj,h1=>⟨by unfold Fp;omega,h1,λi q d=>by unfold Fp at q;omega⟩
 |f+1,j,hj,h1=>by
  unfold Fp;split
  ·rename_i g;refine qN h f (j+1) O (λi hi=>?_);by_cases e:i=j
   ·rw[e];exact g
   ·exact h1 i O
  ·rename_i g;refine⟨O,h1,λi q d=>?_⟩;by_cases e:Op.bytesLess (AP l i).1 s=true
   ·grind [Oa]
   ·simpa using e
def aFk{l:List Tk}(h:DY l)(s:Bs):HT l s=Fp l s l.length 0:=(Wc h s).uniq (qN h l.length 0 O (λi hi=>absurd hi (Nat.not_lt_zero _)))
def L8{l:List Tk}(h:DY l)(s:Bs):(AN l s=true∧C0 l s=(HT l s:Int)∧HT l s<l.length)∨(AN l s=false∧C0 l s=-1):=by
 have a:∀{j:Nat} (h:j<l.length),AP l j=l[j]:=λh=>by simp[AP,Qi h]
 by_cases r:AN l s=true
 ·left;have u:=r;unfold AN at u;rw[Ou,QO,decide_eq_true_eq,decide_eq_true_eq]at u;obtain⟨hl,c⟩:=u;refine⟨r,?_,hl⟩;unfold C0;refine Fv ?_ (λi hi=>?_)
  ·rw[QT,Qi hl,ZA];rw[a hl]at c;rw[decide_eq_true c]
  ·have v:i<l.length:=by omega
   rw[QT,Qi v,ZA];have d:=(Wc h s).2.1 i hi;rw[a v]at d;have f:l[i].1≠s:=λe=>by rw[e,GN]at d;cases d
   rw[decide_eq_false f]
 ·right;have n:AN l s=false:=by simpa using r
  refine⟨n,?_⟩;have p:∀j,j<l.length->(AP l j).1≠s:=λj w e=>by
   have:=(Gj h w).2;rw[e,n]at this;cases this
  unfold C0 BP;cases hx:(l.map λm=>decide (m.1=s)).findIdx? id with
  |none=>rfl
  |some k=>
   obtain⟨hk,o,_⟩:=Q7.1 hx;rw[QF]at hk;simp only[List.getElem_map,id_eq,decide_eq_true_eq]at o;exact absurd (by rw[a hk];exact o) (p k hk)
def Tw{l:List Tk}(h:DY l)(k:Tk):Ed l k=BD l k:=by
 unfold Ed BD;rw[aFk h]
def wN{l:List Tk}(h:DY l)(k:Tk):EX l k=BO l k:=by
 unfold EX BO;rw[Tw h];by_cases u:Dc k.1 k.2.1 k.2.2.2≠0
 ·rw[if_pos u,if_pos u]
 rw[if_neg u,if_neg u];by_cases q:k.2.1=[]
 ·rw[if_pos q,if_pos q]
 rw[if_neg q,if_neg q];rcases L8 h k.1 with ⟨g,d,n⟩|⟨g,d⟩
 ·have w:0<=C0 l k.1:=by omega
  rw[if_pos w,if_pos g]
 have n1:¬AN l k.1=true:=by rw[g];decide
 have n2:¬0<=C0 l k.1:=by rw[d];decide
 rw[if_neg n1,if_neg n2];rcases L8 h k.2.1 with ⟨r,i,f⟩|⟨r,i⟩
 ·have w:¬AN l k.2.1=false:=by rw[r];decide
  have p:¬C0 l k.2.1<0:=by rw[i];omega
  rw[if_neg w,if_neg p,i,Qh]
 ·have p:C0 l k.2.1<0:=by rw[i];decide
  rw[if_pos r,if_pos p]
def dS1(v:List Tk)(t:Tk):List Tk:=if t.2.1=[]∧t.1=G_∧Dc t.1 t.2.1 t.2.2.2=0∧t.2.2.2=[([],63)]∧C0 v G_<0 then Ed v t else v
def dS(v:List Tk)(t:Tk):List Tk:=if(EX (dS1 v t) t).2=0∧t.1≠G_ then((EX (dS1 v t) t).1).getD (dS1 v t)else dS1 v t
def aYx{L v:List Tk}(m:fP L)(h:Hv L v){t:Tk}(w:t∈L):dS v t=DX v t∧Hv L (DX v t):=by
 have x:Hv L (DX v t):=by
  by_cases r:t∈v
  ·rw[eU m h r];exact h
  ·obtain⟨a,b⟩:=Uw m h w r;by_cases g:Can v t
   ·rw[a g];exact h.add m w r g
   ·rw[b g];exact h
 refine⟨?_,x⟩;have u:=m.tok t w;have j:(C0 v G_<0)↔AN v G_=false:=by
  rcases L8 h.srt G_ with ⟨o,q,_⟩|⟨o,q⟩
  ·rw[o];constructor
   ·intro;omega
   ·intro h;cases h
  ·rw[o];constructor
   ·intro;rfl
   ·intro;omega
 have p:dS1 v t=if Mn t=true∧AN v G_=false then BD v t else v:=by
  unfold dS1;rw[Tw h.srt];have:(t.2.1=[]∧t.1=G_∧Dc t.1 t.2.1 t.2.2.2=0∧t.2.2.2=[([],63)]∧C0 v G_<0)↔(Mn t=true∧AN v G_=false):=by
   unfold Mn;rw[j];simp only[QO,decide_eq_true_eq];constructor
   ·rintro⟨a,b,_,c,d⟩;exact⟨⟨⟨b,a⟩,c⟩,d⟩
   ·rintro⟨⟨⟨b,a⟩,c⟩,d⟩;exact⟨a,b,u,c,d⟩
  by_cases c:Mn t=true∧AN v G_=false
  ·rw[if_pos c,if_pos (this.2 c)]
  ·rw[if_neg c,if_neg λh=>c (this.1 h)]
 unfold dS DX;rw[p];by_cases f:t.1=G_
 ·generalize (if Mn t=true∧AN v G_=false then BD v t else v)=i;have a1:¬((EX i t).2=0∧t.1≠G_):=λh=>h.2 f
  have z:¬(t.1≠G_∧(BO i t).2=0):=λh=>h.1 f
  rw[if_neg a1,if_neg z]
 ·have y:¬(Mn t=true∧AN v G_=false):=λh=>f (Dh h.1)
  rw[if_neg y,wN h.srt];by_cases r:(BO v t).2=0
  ·have a1:(BO v t).2=0∧t.1≠G_:=⟨r,f⟩;have z:t.1≠G_∧(BO v t).2=0:=⟨f,r⟩;rw[if_pos a1,if_pos z];unfold BO at r ⊢;split at r
   ·exact absurd r ‹_›
   rename_i c1;rw[if_neg c1];split at r
   ·cases r
   rename_i c2;rw[if_neg c2];split at r
   ·cases r
   rename_i n;rw[if_neg n];split at r
   ·cases r
   rename_i k;rw[if_neg k];split at r
   ·cases r
   rename_i e;rw[if_neg e];rfl
  ·have a1:¬((BO v t).2=0∧t.1≠G_):=λh=>r h.1
   have z:¬(t.1≠G_∧(BO v t).2=0):=λh=>r h.2
   rw[if_neg a1,if_neg z]
def aNz:=y0 f337 [] []
def aNr:=y0 f369 [] []
def aNs:=y0 f368 [] []
def aNA:=y0 f336 [] []
def PC:=y1 f272 5 [] []
def aNZ:=y0 f272 [] [(5,PC)]
def MT:=y1 f271 4 [] []
def aN0:=y0 f271 [] [(4,MT)]
def PR:=y1 f201 6 [] []
def aOL:=y0 f201 [] [(6,PR)]
def aHh:List D->Option D
 |[.int .i64 c]=>some (.bool (D5 c))
 |_=>none
def aVf:Kq aHh 337:=by
 refine AB (S:=λ_=>none) AO (Al func337:Fn Qz 337 45 aNz [.t 2]) (λds r h=>?_) (λds r h=>?_)
 ·unfold aHh at h;split at h
  ·simp
  ·cases h
 ·unfold aHh at h;split at h
  ·rename_i c;simp only[Ql]at h;subst h;unfold aNz;simp only[↓GQ,GX,simprocAttr]
   repeat' (first|(refine aD (λh=>?_) (λh=>?_)<;>try (exfalso;omega))|(simp only[↓GQ,GT,simprocAttr, *]))
   all_goals (rw[D.bool.injEq,Zg];simp[D5];try omega)
  ·cases h
def Rb{s:Bs}{i:Nat}(h:i<s.length):∃c,s[i]?=some c∧Hm s i=c.toNat:=⟨s[i],Qi h,by simp[Hm,h]⟩
def aHf:List D->Option D
 |[.str s,.int .i64 i]=>if 0<=i then some (.bool (CO s i.toNat))else none
 |_=>none
def aVd:Kq aHf 368:=by
 refine AB (S:=λ_=>none) AO (Al func368:Fn Qz 368 21 aNs [.t 4]) (λds r h=>?_) (λds r h=>?_)
 ·unfold aHf at h;split at h
  ·simp
  ·cases h
 ·unfold aHf at h;split at h
  ·rename_i s i;split at h
   ·rename_i y;simp only[Ql]at h;subst h;obtain⟨i,rfl⟩:=QG y;unfold aNs;by_cases hi:i<s.length
    ·obtain⟨c,g,w⟩:=Rb hi;have o:((i:Int)<s.length):=by omega
     simp only[↓GQ,GX,Hf,simprocAttr,o,y,Qh,g]
     repeat' (first|(refine aD (λh=>?_) (λh=>?_)<;>try (exfalso;omega))|(simp only[↓GQ,GT,simprocAttr, *,Qh]))
     all_goals (rw[D.bool.injEq,Zg];simp[CO,hi,w];try omega)
    ·have o:¬((i:Int)<s.length):=by omega
     simp only[↓GQ,GT,simprocAttr,o,Qh];simp[CO,hi]
   ·cases h
  ·cases h
def aHe:List D->Option D
 |[.str s,.int .i64 i]=>if 0<=i∧i<s.length then some (.int .i64 ((Hm s i.toNat:Int)-128))else none
 |_=>none
def aVc:Kq aHe 369:=by
 refine AB (S:=λ_=>none) AO (Al func369:Fn Qz 369 10 aNr [.t 4]) (λds r h=>?_) (λds r h=>?_)
 ·unfold aHe at h;split at h
  ·simp
  ·cases h
 ·unfold aHe at h;split at h
  ·rename_i s i;split at h
   ·rename_i y;simp only[Ql]at h;subst h;obtain⟨y,hi⟩:=y;obtain⟨i,rfl⟩:=QG y;unfold aNr;obtain⟨c,g,w⟩:=Rb (s:=s) (i:=i) O;have:=I0 s i;have v:IntKind.i64.wrap ((Hm s i:Nat):Int)=Hm s i:=Hg O O;have e:IntKind.i64.wrap ((Hm s i:Int)-128)=(Hm s i:Int)-128:=Hg O O;simp only[↓GQ,GT,simprocAttr,y,Qh,g,←w,v,e]
   ·cases h
  ·cases h
def aAt:List D->Option D
 |[.str s,.int .i64 i]=>if 0<=i∧i<s.length∧s.length<=1000000 then some (.tup [.int .i64 (DW s i.toNat).1,.int .i64 ((DW s i.toNat).2:Nat)])else none
 |_=>none
def aVg:Kq aAt 336:=by
 obtain⟨S,v,hl⟩:=A4 (Aa aVd (Aa aVc Ae));have b:=hl 368 _ rfl;have d:=hl 369 _ rfl;clear hl;refine AB (S:=S) v (Al func336:Fn Qz 336 134 aNA [.t 4,.t 5]) (λds r h=>?_) (λds r h=>?_)
 ·unfold aAt at h;split at h
  ·simp
  ·cases h
 ·unfold aAt at h;split at h
  ·rename_i s i;split at h
   ·rename_i y;simp only[Ql]at h;subst h;obtain⟨y,hi,hl⟩:=y;obtain⟨i,rfl⟩:=QG y;obtain⟨c,p,w⟩:=Rb (s:=s) (i:=i) O;have b0:=I0 s i;have q:=I0 s (i+1);have b2:=I0 s (i+2);have b3:=I0 s (i+3);have hF:∀k:Nat,aHf [.str s,.int .i64 ((i:Int)+(k:Int))]=some (.bool (CO s (i+k))):=by
     grind [aHf]
    have g:=hF 1;have f:=hF 2;have e:=hF 3;have o:∀k:Nat,i+k<s.length->aHe [.str s,.int .i64 ((i:Int)+(k:Int))]=some (.int .i64 ((Hm s (i+k):Int)-128)):=by
     grind [aHe]
    have x:=o 1;have m:=o 2;have na:=o 3;have u:=@D1 s (i+1);have t2:=@D1 s (i+2);have t3:=@D1 s (i+3);have w1:IntKind.i64.wrap ((i:Int)+1)=(i:Int)+1:=Hg O O;have w2:IntKind.i64.wrap ((i:Int)+2)=(i:Int)+2:=Hg O O;have w3:IntKind.i64.wrap ((i:Int)+3)=(i:Int)+3:=Hg O O;have w0:IntKind.i64.wrap ((c.toNat:Nat):Int)=Hm s i:=by rw[←w];exact Hg O O
    clear hF o;generalize n:CO s (i+1)=u1 at *;generalize j:CO s (i+2)=u2 at *;generalize z:CO s (i+3)=u3 at *;simp only[Zm]at g f e x m na;have a:DW s ((i:Int)).toNat=DW s i:=rfl;rw[a];unfold DW;rw[n,j,z];generalize Hm s i=x0 at *;generalize Hm s (i+1)=x1 at *;generalize Hm s (i+2)=x2 at *;generalize Hm s (i+3)=x3 at *;unfold aNA;simp only[↓GQ,GX,simprocAttr,y,Qh,p,w0];have g1:=λh=>x (u.mp h).1
    have g2:=λh=>m (t2.mp h).1
    have g3:=λh=>na (t3.mp h).1
    clear u t2 t3 x m na a n j z
    repeat' (first|(refine aD (λh=>?_) (λh=>?_)<;>try (exfalso;omega))|(simp (disch:=first|assumption|omega)only[↓GQ,GT,simprocAttr,g,f,e,g1,g2,g3,w1,w2,w3,h,Ab b,Ab d,Hg]))
    all_goals
     clear g1 g2 g3 g f e w0 w1 w2 w3 b d v;simp only[D.tup.injEq,Q4,D.int.injEq,true_and,and_true]
     (repeat' split)<;>first|(constructor<;>rfl)|(exfalso;simp_all;omega)|(exfalso;simp_all;done)|(exfalso;omega)
   ·cases h
  ·cases h
def aHk:List D->Option D
 |[.str s]=>if s.length<=1000000 then some (.int .i64 (H3 s))else none
 |_=>none
def aI9{S:GR}{ns:Id}{s:Bs}{e:Int}{Q:Ex->St->Prop}(i:s.length<=1000000)(b:S 336=some (Ac aAt))(a:S 337=some (Ac aHh))
  (oa:∀z,e=4->z.s 2= .int .i64 4->Q .ret z) (m:∀z (n:Nat),(if 12<n then(5:Int)else 0)=e->z.s 3= .int .i64 (n:Int)->Q (.exit 0) z):
  ∀(f p n:Nat) z g,s.length<=p+f->p<=s.length->n<=p->D2 s f p n=e->z.s 0= .str s->z.s 3= .int .i64 (n:Int)->z.s 4= .int .i64 (p:Int)->AK S ns PC Q z g:=by
 intro f;induction f with
 |zero=>
  intro p n z g j u c q y d o;refine Af PC.eq_1 ?_;have:¬((p:Int)<s.length):=O
  simp only[↓GQ,GX,Hf,simprocAttr,o,y,this];exact m _ n q XJ
 |succ f ih=>
  intro p n z g j u c q y d o;refine Af PC.eq_1 ?_;unfold D2 at q;by_cases v:p<s.length
  ·rw[if_pos v]at q;have x:((p:Int)<s.length):=by omega
   obtain⟨n1,n2⟩:=qB s p v;have k:aAt [.str s,.int .i64 (p:Int)]=some (.tup [.int .i64 (DW s p).1,.int .i64 ((DW s p).2:Nat)]):=by
    grind [aAt]
   have hG:aHh [.int .i64 (DW s p).1]=some (.bool (D5 (DW s p).1)):=rfl;generalize DW s p=r at *;have w:IntKind.i64.wrap ((n:Int)+1)=((n+1:Nat):Int):=Hg O O;have t:IntKind.i64.wrap ((p:Int)+(r.2:Nat))=((p+r.2:Nat):Int):=Hg O O;cases ho:D5 r.1 with
   |true=>
    rw[if_pos ho]at q;simp only[↓GQ,GT,simprocAttr,o,y,d,x,Ab b,Ab a,k,hG,ho,w,t];exact ih _ _ _ _ O O O q y rfl rfl
   |false=>
    rw[if_neg (by rw[ho];simp)]at q;simp only[↓GQ,GT,simprocAttr,o,y,x,Ab b,Ab a,k,hG,ho];exact oa _ q.symm rfl
  ·rw[if_neg v]at q;have x:¬((p:Int)<s.length):=by omega
   simp only[↓GQ,GX,Hf,simprocAttr,o,y,x];exact m _ n q XJ
def aVr:Kq aHk 272:=by
 obtain⟨S,v,hl⟩:=A4 (Aa aVg (Aa aVf Ae));have b:=hl 336 _ rfl;have a:=hl 337 _ rfl;clear hl;refine AB (S:=S) v (Al func272:Fn Qz 272 41 aNZ [.t 2]) (λds r h=>?_) (λds r h=>?_)
 ·unfold aHk at h;split at h
  ·simp
  ·cases h
 ·unfold aHk at h;split at h
  ·rename_i s;split at h
   ·rename_i i;simp only[Ql]at h;subst h;unfold aNZ H3;by_cases y:s=[]∨s=[46]∨s=[46,46]∨s=[45]
    ·rw[if_pos y];rcases y with rfl|rfl|rfl|rfl<;>simp only[↓GQ,GT,simprocAttr,Q4,show((45:UInt8)=46)=False by decide,and_false,and_self]
    ·rw[if_neg y];obtain⟨a1,w,j,o⟩:s≠[]∧s≠[46]∧s≠[46,46]∧s≠[45]:=by simp only[not_or]at y;exact y
     have c:(s=[])=False:=eq_false a1;have f:(s=[46])=False:=eq_false w;have d:(s=[46,46])=False:=eq_false j;have g:(s=[45])=False:=eq_false o;simp only[↓GQ,GX,Hf,simprocAttr,c,f,d,g];refine aI9 (e:=D2 s s.length 0 0) i b a (λz u q=>?_) (λz n u q=>?_) s.length 0 0 _ _ O O O rfl rfl rfl rfl
     ·simp only[↓GQ,GT,q,u]
     ·rw[←u];have c1:((12:Int)<(n:Int))=(12<n):=by simp only[eq_iff_iff];omega
      simp only[↓GQ,GX,simprocAttr,q,c1];refine aD (λh=>?_) (λh=>?_)<;>simp only[↓GQ,GT,simprocAttr,h]
   ·cases h
  ·cases h
end Go.Vd
namespace Go.Vd
open Go.RowKit
def Gw.toGrow{m:GV}{c e:Nat}{nl:Bool}{t:Id}{xs:List D}(h:Gw m c e nl t):I9 m e (.slice nl t xs):=by
 rcases h with h|⟨j,rfl,u,q⟩
 ·exact .inl h
 ·exact .inr ⟨q,U⟩
end Go.Vd
namespace Go.Proofs
open Go.Shelf Go.RowKit Go.Lib
variable{P:Program}{ρ:Ren}
end Go.Proofs
namespace Go.Vd
open Go.RowKit Go.Proofs
end Go.Vd
namespace Go.Vd
open Go.Proofs Go.RowKit
def aLw:List D->Option D
 |[.str s]=>if s.length<=1000000 then some (.slice false [] ((splitC 47 s).map .str))else none
 |_=>none
def uY{l:Bs}{a k:Nat}(x:a<=k)(s:k<l.length):(l.drop a).take (k+1-a)=(l.drop a).take (k-a)++[l[k]]:=by
 rw[show k+1-a=(k-a)+1 by omega,QY,List.getElem?_drop,show a+(k-a)=k by omega,Qi s];rfl
theorem lE{l:Bs}{a k:Nat}(x:a<=k)(s:k<l.length):l.drop a=(l.drop a).take (k-a)++l[k]::l.drop (k+1):=by
 have h:=Qy (k-a) (l.drop a);rw[Za,show a+(k-a)=k by omega,QJ s]at h;exact h.symm
set_option maxHeartbeats 2000000 in
def aJa{S:GR}{l:Bs}{Q:Ex->St->Prop}(i:l.length<=1000000)
  (u:∀z t,z.s 3= .slice false t ((splitC 47 l).map .str)->Q (.exit 0) z):
  ∀(n k a:Nat)(t:Id)(d:List Bs) z g,n=l.length-k->k<=l.length->a<=k->d.length<=k->splitC 47 l=d++splitC 47 (l.drop a)->(47:UInt8)∉(l.drop a).take (k-a)->z.s 5= .int .i64 (k:Int)->z.s 4= .int .i64 (a:Int)->z.s 0= .str l->z.s 3= .slice d.isEmpty t (d.map .str)->Gw z.m z.c 9 d.isEmpty t->
   AK S [] MT Q z g:=by
 intro n;induction n with
 |zero=>
  intro k a t d z g v j x o hu hw h7 r y b hg;refine Af MT.eq_1 ?_;obtain rfl:k=l.length:=O
  have c1:((l.length:Int)<=(l.length:Int))=True:=eq_true O;have c2:((0:Int)<=(l.length:Int))=True:=eq_true O;have q:((a:Int)<=(l.length:Int))=True:=eq_true O;have c4:((0:Int)<=(a:Int))=True:=eq_true O;have c5:IntKind.i64.wrap ((l.length:Int)+1)=(l.length:Int)+1:=IntWalk.i64_in _ ⟨O,O⟩;have c6:(((l.length:Int)+1)<=(l.length:Int))=False:=eq_false O;have oa:d.isEmpty=true->d.map D.str=[]:=λh=>Y0
  simp only[↓GQ,GT,simprocAttr,Qm,QL,Qh,h7,r,y,b,c1,c2,q,c4,and_false,and_self];refine aA ⟨Yp,rfl,hg.put.toGrow⟩ ?_;rw[Ba oa];simp only[↓GQ,GT,simprocAttr,h7,c5];refine Af MT.eq_1 ?_;simp only[↓GQ,GT,simprocAttr,h7,y,c6];refine u _ [z.c+4+10+6] ?_;simp only[↓GQ,reduceIte,QE];have e:(l.drop a).take (l.length-a)=l.drop a:=List.take_of_length_le U;rw[e]at hw;rw[hu,split_one hw,e,QS];rfl
 |succ n ih=>
  intro k a t d z g v j x o hu hw h7 r y b hg;refine Af MT.eq_1 ?_;have ia:k<l.length:=O
  have c1:((k:Int)<=(l.length:Int))=True:=eq_true O;have ka:((k:Int)=(l.length:Int))=False:=eq_false O;have c2:((0:Int)<=(k:Int))=True:=eq_true O;have q:((a:Int)<=(k:Int))=True:=eq_true O;have c4:((0:Int)<=(a:Int))=True:=eq_true O;have c5:IntKind.i64.wrap ((k:Int)+1)=((k+1:Nat):Int):=Yb
  have f:l[k]?=some l[k]:=Qi ia;have oa:d.isEmpty=true->d.map D.str=[]:=λh=>Y0
  by_cases p:l[k]=47
  ·have w:((l[k].toNat:Int)=47)=True:=eq_true (by rw[p];rfl);simp only[↓GQ,GT,simprocAttr,Qm,QL,Qh,h7,r,y,b,c1,c2,q,c4,ka,f,w,and_false,and_self];refine aA ⟨Yp,rfl,hg.put.toGrow⟩ ?_;rw[Ba oa];simp only[↓GQ,GT,simprocAttr,h7,c5];have la:(d++[(l.drop a).take (k-a)]).isEmpty=false:=by cases d<;>rfl
   refine ih (k+1) (k+1) [z.c+4+10+6] (d++[(l.drop a).take (k-a)]) _ _ O O O Xc ?_ U rfl rfl y ?_ ?_
   ·grind [lE,split_word]
   ·rw[la,QS];rfl
   ·grind [Gw.new]
  ·have w:((l[k].toNat:Int)=47)=False:=eq_false (λe=>p (by rw[←UInt8.toNat_inj];have:((47:UInt8).toNat:Int)=47:=rfl;omega));simp only[↓GQ,GX,Hf,simprocAttr,Qh,h7,y,c1,c2,c5,ka,f,w];refine ih (k+1) a t d _ _ O O O O hu ?_ rfl r y b (hg.more Xb);rw[uY x ia];simp only[QP,Qw,not_or];exact⟨hw,λe=>p e.symm⟩
def aVs:Kq aLw 271:=by
 refine AB (S:=λ_=>none) AO (Al func271:Fn Qz 271 32 aN0 [.t 2]) (λds r h=>?_) (λds r h=>?_)
 ·unfold aLw at h;split at h
  ·simp
  ·cases h
 ·unfold aLw at h;split at h
  ·rename_i s;split at h
   ·rename_i f;simp only[Ql]at h;subst h;unfold aN0;simp only[↓GQ,GX,Qu];refine aJa (l:=s) f (λz t k=>?_) s.length 0 0 [] [] _ _ rfl O O U U U rfl rfl rfl rfl (.inl rfl);simp only[↓GQ,GT,simprocAttr,k]
   ·cases h
  ·cases h
def hZ:List D->Option D
 |[.str s]=>if s.length<=1000000 then some (.int .i64 (AV s))else none
 |_=>none
def aJm{S:GR}{ns:Id}{l:List Bs}{nl:Bool}{t:Id}{e:Option Bool}{Q:Ex->St->Prop}(i:okL l)(a:S 272=some (Ac aHk))
  (oa:∀z,e=none->z.s 2= .int .i64 4->Q .ret z) (m:∀z w,e=some w->z.s 4= .bool w->z.s 3= .slice nl t (l.map .str)->Q (.exit 0) z):
  ∀(n k:Nat)(w:Bool) z g,n=l.length-k->k<=l.length->IN w (l.drop k)=e->z.s 5= .int .i64 (k:Int)->z.s 3= .slice nl t (l.map .str)->z.s 4= .bool w->AK S ns PR Q z g:=by
 intro n;induction n with
 |zero=>
  intro k w z g c j q b d x;refine Af PR.eq_1 ?_;have:¬((k:Int)<l.length):=O
  simp only[↓GQ,GX,Hf,simprocAttr,b,d,QF,this];rw[Q9 O]at q;exact m _ w q.symm (by simp only[↓GQ,reduceIte,QE,x]) XJ
 |succ n ih=>
  intro k w z g c j q b d x;refine Af PR.eq_1 ?_;have ia:k<l.length:=O
  have v:((k:Int)<l.length):=O
  have u:(0:Int)<=(k:Int):=O
  have f:(l.map D.str)[(k:Int).toNat]?=some (.str (l[k])):=by simp[ia]
  have o:=i.1;have p:IntKind.i64.wrap ((k:Int)+1)=((k+1:Nat):Int):=Hg O O;have y:aHk [.str l[k]]=some (.int .i64 (H3 l[k])):=if_pos (i.2 _ (Zv ia));rw[QJ ia]at q;simp only[IN]at q;rcases ON l[k]with h|h|h
  ·rw[if_pos h]at q;rw[h]at y;simp only[↓GQ,GT,simprocAttr,b,d,QF,v,u,f,Ab a,y];exact oa _ q.symm rfl
  ·rw[if_neg O,h]at q;rw[h]at y;have c1:((5:Int)=4)=False:=by simp
   cases w<;>simp only[↓GQ,GT,simprocAttr,b,d,x,QF,v,u,f,Ab a,y,c1,p]
   all_goals exact ih (k+1) true _ _ O O XD rfl d rfl
  ·rw[if_neg O,h]at q;rw[h]at y;have c1:((0:Int)=4)=False:=by simp
   have c2:((0:Int)=5)=False:=U
   cases w<;>simp only[↓GQ,GT,simprocAttr,b,d,x,QF,v,u,f,Ab a,y,c1,c2,p]
   ·exact ih (k+1) false _ _ O O XD rfl d rfl
   ·exact ih (k+1) true _ _ O O XD rfl d rfl
def aBT:Kq hZ 201:=by
 obtain⟨S,v,hl⟩:=A4 (Aa aVs (Aa aVr Ae));have b:=hl 271 _ rfl;have a:=hl 272 _ rfl;clear hl;refine AB (S:=S) v (Al func201:Fn Qz 201 34 aOL [.t 2]) (λds r h=>?_) (λds r h=>?_)
 ·unfold hZ at h;split at h
  ·simp
  ·cases h
 ·unfold hZ at h;split at h
  ·rename_i s;split at h
   ·rename_i g;simp only[Ql]at h;subst h;unfold aOL AV;have c0:((64:Int)<(s.length:Int))=(64<s.length):=by simp only[eq_iff_iff];omega
    have j:aLw [.str s]=some (.slice false [] ((splitC 47 s).map .str)):=if_pos g;have f:=Ru g;by_cases p:64<s.length
    ·simp only[↓GQ,GT,simprocAttr,c0,p]
    ·simp only[↓GQ,GT,simprocAttr,c0,p,Ab b,j];unfold IP;generalize splitC 47 s=l at f j ⊢;have o:=f.1;refine aJm (nl:=false) (t:=[]) (e:=IN false l) f a (λz u q=>?_) (λz w u q d=>?_) l.length 0 false _ _ O O rfl rfl rfl rfl
     ·simp only[↓GQ,GT,reduceIte,q,u,p]
     ·have c1:((6:Int)<(l.length:Int))=(6<l.length):=by simp only[eq_iff_iff];omega
      cases w<;>simp only[↓GQ,GT,simprocAttr,u,q,d,p,QF,c1];refine aD (λh=>?_) (λh=>?_)<;>simp only[↓GQ,GT,simprocAttr,h,u,p]
   ·cases h
  ·cases h
def aPE:=y0 f160 [] []
def PQ:=y1 f222 4 [] []
def aOK:=y0 f222 [] [(4,PQ)]
def aJl{S:GR}{ns:Id}{s t:Bs}{Q:Ex->St->Prop}(i:s.length<=1000000)(hl:t.length<=s.length)
  (oa:∀z,A2 s t=false->z.s 4= .bool false->Q .ret z) (m:∀z,A2 s t=true->Q (.exit 0) z):
  ∀(n k:Nat) z g,n=t.length-k->k<=t.length->s.take k=t.take k->z.s 5= .int .i64 (k:Int)->z.s 0= .str s->z.s 1= .str t->AK S ns PQ Q z g:=by
 intro n;induction n with
 |zero=>
  intro k z g c j q b y u;refine Af PQ.eq_1 ?_;have:¬((k:Int)<t.length):=O
  simp only[↓GQ,GX,Hf,simprocAttr,b,u,this];refine m _ ?_;obtain rfl:k=t.length:=O
  simp[A2,q]
 |succ n ih=>
  intro k z g c j q b y u;refine Af PQ.eq_1 ?_;have a:k<t.length:=O
  have w:k<s.length:=O
  have v:((k:Int)<t.length):=O
  have ma:(0:Int)<=(k:Int):=O
  have f:s[k]?=some s[k]:=Qi w;have d:t[k]?=some t[k]:=Qi a;have x:IntKind.i64.wrap ((k:Int)+1)=((k+1:Nat):Int):=Hg O O;have p:((s[k].toNat:Int)=(t[k].toNat:Int))=(s[k]=t[k]):=by
   simp only[eq_iff_iff];constructor
   ·intro h;exact UInt8.toNat_inj.1 O
   ·intro h;rw[h]
  simp only[↓GQ,GX,Hf,simprocAttr,b,y,u,v,ma,f,d,Qh,p];refine AJ ?_;simp only[↓GQ,GX,reduceIte,QE];refine aD (λh=>?_) (λh=>?_)
  ·simp only[↓GQ,GX,Hf,simprocAttr,b,h,x]
   first
    |exact ih (k+1) _ _ O O (by rw[QY,QY,q,f,d,h]) rfl y u
    |(
     refine oa _ ?_ rfl;rw[Zq];intro o;have o:s.take t.length=t:=by simpa[A2]using o
     have:s[k]=t[k]:=by
      have e:=congrArg (·[k]?) o;simp only[List.getElem?_take_of_lt a,f,d,Ql]at e;exact e
     exact h this)
  ·simp only[↓GQ,GX,Hf,Qu,h]
   first
    |exact ih (k+1) _ _ O O (by rw[QY,QY,q,f,d,Classical.not_not.1 h]) rfl y u
    |(
     refine oa _ ?_ rfl;rw[Zq];intro o;have o:s.take t.length=t:=by simpa[A2]using o
     have:s[k]=t[k]:=by
      grind
     exact h this)
def aLL:List D->Option D
 |[.str s,.str t]=>if s.length<=1000000 then some (.bool (A2 s t))else none
 |_=>none
def aVO:Kq aLL 222:=by
 refine AB (S:=λ_=>none) AO (Al func222:Fn Qz 222 24 aOK [.t 4]) (λds r h=>?_) (λds r h=>?_)
 ·unfold aLL at h;split at h
  ·simp
  ·cases h
 ·unfold aLL at h;split at h
  ·rename_i s t;split at h
   ·rename_i g;simp only[Ql]at h;subst h;unfold aOK;have c1:((s.length:Int)<(t.length:Int))=(s.length<t.length):=by simp only[eq_iff_iff];omega
    by_cases hl:s.length<t.length
    ·have:A2 s t=false:=by rw[Zq];intro h;have:=IJ h;omega
     simp only[↓GQ,GT,simprocAttr,c1,hl,this]
    ·simp only[↓GQ,GX,Hf,simprocAttr,c1,hl];refine aJl (s:=s) (t:=t) g O (λz u q=>?_) (λz u=>?_) t.length 0 _ _ O O rfl rfl rfl rfl
     ·simp only[↓GQ,GT,u,q]
     ·simp only[↓GQ,GT,reduceIte,Qu,u]
   ·cases h
  ·cases h
theorem kV(s t:Bs):A2 s (t++[47])=(A2 s t&&A2 (s.drop t.length) [47]):=by
 have h:=Qy t.length s;rw[Zg];simp only[A2,decide_eq_true_eq,QO,QN,Hs];constructor
 ·intro e;rw[List.take_add]at e;have p:(s.take t.length).length=t.length:=by
   grind
  have:=List.append_inj e p;exact this
 ·grind
def iI(s t:Bs):(decide (t=[])||decide (s=t)||A2 s (t++[47]))=AR s t:=by
 grind [AR,Ck,kV]
def iB:List D->Option D
 |[.str s,.str t]=>if s.length<=1000000∧t.length<=1000000 then some (.bool (AR s t))else none
 |_=>none
def aMN:Kq iB 160:=by
 obtain⟨S,v,hl⟩:=A4 (Aa aVO Ae);have a:=hl 222 _ rfl;clear hl;refine AB (S:=S) v (Al func160:Fn Qz 160 18 aPE [.t 4]) (λds r h=>?_) (λds r h=>?_)
 ·unfold iB at h;split at h
  ·simp
  ·cases h
 ·unfold iB at h;split at h
  ·rename_i s t;split at h
   ·rename_i g;simp only[Ql]at h;subst h;unfold aPE;have j:aLL [.str s,.str (t++[47])]=some (.bool (A2 s (t++[47]))):=if_pos g.1;have hl:(t.length+1<=9223372036854775807)=True:=eq_true O;rw[←iI];by_cases w:t=[]
    ·have x:(t=[])=True:=eq_true w;simp only[↓GQ,GT,simprocAttr,x]
     try simp
    ·have x:(t=[])=False:=eq_false w;by_cases y:s=t
     ·have f:(s=t)=True:=eq_true y;simp only[↓GQ,GT,simprocAttr,x,f]
      try simp
     ·have f:(s=t)=False:=eq_false y;simp only[↓GQ,GT,simprocAttr,x,f,Ab a,j,hl,Hs]
      try simp
   ·cases h
  ·cases h
def PO:=y1 f134 4 [] []
def aOG:=y0 f134 [] [(4,PO)]
def PN:=y1 f135 11 [] []
def PM:=y1 f135 4 [] [(11,PN)]
def aOF:=y0 f135 [] [(4,PM)]
def PL:=y1 f223 2 [] []
def aOE:=y0 f223 [] [(2,PL)]
def PK:=y1 f224 3 [] []
def aOD:=y0 f224 [] [(3,PK)]
def P1:=y1 f163 5 [] []
def aPx:=y0 f163 [] [(5,P1)]
def aJj{S:GR}{ns:Id}{s:Bs}{Q:Ex->St->Prop}{e:Bool}(i:s.length<=1000000)(b:∀z,e=false->z.s 2= .bool false->Q .ret z)(m:∀z,e=true->Q (.exit 0) z):
  ∀(f p:Nat) z g,s.length<=p+f->p<=s.length->H5 s f p=e->z.s 0= .str s->z.s 3= .int .i64 (p:Int)->AK S ns PO Q z g:=by
 intro f;induction f with
 |zero=>
  intro p z g j u q y d;refine Af PO.eq_1 ?_;have:¬((p:Int)<s.length):=O
  simp only[↓GQ,GX,Hf,simprocAttr,y,d,this];exact m _ q.symm
 |succ f ih=>
  intro p z g j u q y d;refine Af PO.eq_1 ?_;unfold H5 at q;by_cases v:p<s.length
  ·rw[if_pos v]at q;have x:((p:Int)<s.length):=by omega
   have o:(0:Int)<=(p:Int):=O
   obtain⟨c,r,w⟩:=Rb v;have t:IntKind.i64.wrap ((p:Int)+1)=((p+1:Nat):Int):=Hg O O;rw[w]at q;cases ho:D7 (c.toNat:Nat)with
   |true=>
    rw[ho,Zt]at q;have n:(97<=(c.toNat:Int)∧(c.toNat:Int)<=122)∨(48<=(c.toNat:Int)∧(c.toNat:Int)<=57):=by simpa[D7]using ho
    simp only[↓GQ,GX,Hf,simprocAttr,y,d,x,o,Qh,r]
    repeat' (first|(refine aD (λh=>?_) (λh=>?_)<;>try (exfalso;omega))|(simp only[↓GQ,GX,Hf,simprocAttr,h,y,d,o,Qh,r,t]))
    all_goals (first|exact ih _ _ _ O O q y rfl|(exfalso;omega))
   |false=>
    rw[ho,Zc]at q;have n:¬((97<=(c.toNat:Int)∧(c.toNat:Int)<=122)∨(48<=(c.toNat:Int)∧(c.toNat:Int)<=57)):=by
     grind [D7]
    simp only[↓GQ,GX,Hf,simprocAttr,y,d,x,o,Qh,r]
    repeat' (first|(refine aD (λh=>?_) (λh=>?_)<;>try (exfalso;omega))|(simp only[↓GQ,GX,Hf,simprocAttr,h,y,d,o,Qh,r]))
    all_goals (first|exact b _ q.symm rfl|(exfalso;omega))
  ·rw[if_neg v]at q;have x:¬((p:Int)<s.length):=by omega
   simp only[↓GQ,GX,Hf,simprocAttr,y,d,x];exact m _ q.symm
def nN:List D->Option D
 |[.str s]=>some (.bool (BJ s))
 |_=>none
def aME:Kq nN 134:=by
 refine AB (S:=λ_=>none) AO (Al func134:Fn Qz 134 40 aOG [.t 2]) (λds r h=>?_) (λds r h=>?_)
 ·unfold nN at h;split at h
  ·simp
  ·cases h
 ·unfold nN at h;split at h
  ·rename_i s;simp only[Ql]at h;subst h;unfold aOG;unfold BJ;have c1:((8:Int)<(s.length:Int))=(8<s.length):=by simp only[eq_iff_iff];omega
   have c2:((s.length:Int)<1)=(s.length<1):=by simp only[eq_iff_iff];omega
   by_cases y:s.length<1
   ·simp only[↓GQ,GT,simprocAttr,c2,y];simp;omega
   ·by_cases w:8<s.length
    ·simp only[↓GQ,GT,simprocAttr,c1,c2,y,w];simp;omega
    ·simp only[↓GQ,GX,Hf,simprocAttr,c1,c2,y,w];have p:(decide (1<=s.length)&&decide (s.length<=8)&&H5 s s.length 0)=H5 s s.length 0:=by
      grind
     rw[p];refine aJj (e:=H5 s s.length 0) O (λz u q=>?_) (λz u=>?_) s.length 0 _ _ O O rfl rfl rfl
     ·simp only[↓GQ,GT,u,q]
     ·simp only[↓GQ,GT,reduceIte,Qu,u]
  ·cases h
def O8(l:List Rl)(q:Bs){i:Nat}(hi:i<l.length):FU (l.take (i+1)) q=(FU (l.take i) q||decide ((Bx l i).1=q)):=by
 have e:Bx l i=l[i]:=by simp[Bx,Qi hi]
 unfold FU;rw[List.take_succ_eq_append_getElem hi,List.any_append,e];simp
def Te(l:List Rl)(q:Bs){i j:Nat}(h:i<=j)(a:FU (l.take i) q=true):FU (l.take j) q=true:=by
 unfold FU at *;rw[List.any_eq_true]at *;obtain⟨x,f,z⟩:=a;exact⟨x,(List.take_subset_take_left l h) f,z⟩
def aCo{S:GR}{ns:Id}{l:List Rl}{nl:Bool}{t:Id}{Q:Ex->St->Prop}{i:Nat}{q:Bs}(k:l.length<=4)(hi:i<l.length)(hq:(Bx l i).1=q)
  (oa:∀z,FU (l.take i) q=true->z.s 2= .int .i64 20->Q .ret z) (b:∀z,FU (l.take i) q=false->z.s 0= .slice nl t (Am l)->z.s 3= .int .i64 (i:Int)->Q (.exit 2) z):
  ∀(f j:Nat) z g,i=j+f->FU (l.take j) q=false->z.s 0= .slice nl t (Am l)->z.s 3= .int .i64 (i:Int)->z.s 4= .int .i64 (j:Int)->AK S ns PN Q z g:=by
 intro f;induction f with
 |zero=>
  intro j z g o m y d x;refine Af PN.eq_1 ?_;have:¬((j:Int)<i):=O
  simp only[↓GQ,GX,Hf,simprocAttr,d,x,this];exact b _ (by rw[show i=j by omega];exact m) y d
 |succ f ih=>
  intro j z g o m y d x;refine Af PN.eq_1 ?_;have v:((j:Int)<i):=O
  have u:=nJ (j:=j);have ua:(0:Int)<=(i:Int):=O
  have p:=wJ (j:=j) O;have ia:(Am l)[j]?=some (.agg [.str (Bx l j).1,.int .u8 (Bx l j).2]):=DL O;have a:(Am l)[i]?=some (.agg [.str q,.int .u8 (Bx l i).2]):=by rw[←hq];exact DL hi
  have e:=O8 l q (show j<l.length by omega);rw[m,Bool.false_or]at e;generalize Bx l j=r at ia e;obtain⟨c,ga,n⟩:=z;simp only at y d x;simp only[↓GQ,GT,simprocAttr,y,d,x,v,u,ua,Qh,ia,a,Qo,Hs,Qr,Qt];refine AJ ?_;simp only[↓GQ,GX,Hx,reduceIte,QE];refine aD (λh=>?_) (λh=>?_)
  ·simp only[↓GQ,GX,Hx,Qu];exact oa _ (Te l q (show j+1<=i by omega) (by rw[e];simpa using h)) rfl
  ·simp only[↓GQ,GX,Hx,simprocAttr,x,p];exact ih (j+1) _ _ O (by rw[e];simpa using h) y d rfl
def aJi{S:GR}{ns:Id}{l:List Rl}{nl:Bool}{t:Id}{Q:Ex->St->Prop}{e:Int}(c:S 201=some (Ac hZ))(hb:l.length<=4)(o:BR l)
  (x:∀z,e≠0->z.s 2= .int .i64 e->Q .ret z) (b:∀z,e=0->Q (.exit 0) z):
  ∀(f i:Nat) z g,l.length=i+f->DJ l f i=e->z.s 0= .slice nl t (Am l)->z.s 3= .int .i64 (i:Int)->AK S ns PM Q z g:=by
 intro f;induction f with
 |zero=>
  intro i z g hf m n d;refine Af PM.eq_1 ?_;have:¬((i:Int)<l.length):=O
  simp only[↓GQ,GX,Hf,simprocAttr,n,d,this,Ay];exact b _ m.symm
 |succ f ih=>
  intro i z g hf m n d;refine Af PM.eq_1 ?_;unfold DJ at m;have hi:i<l.length:=O
  rw[if_pos hi]at m;have y:((i:Int)<l.length):=O
  have ua:(0:Int)<=(i:Int):=O
  have p:IntKind.i64.wrap ((i:Int)+1)=((i+1:Nat):Int):=Hg O O;have ia:=DL hi;have hq:=Ix o hi;generalize j:Bx l i=r at m ia hq;obtain⟨q,k⟩:=r;replace ia:(Am l)[i]?=some (.agg [.str q,.int .u8 k]):=ia;have hF:hZ [.str q]=some (.int .i64 (AV q)):=if_pos hq;unfold Io at m;generalize AV q=er at m hF;obtain⟨ja,ga,da⟩:=z;simp only at n d;have a:∀z (v:Int),z.s 2= .int .i64 v->v=e->v≠0->Q .ret z:=λz v u w d=>x z (w▸d) (w▸u)
  simp only at m;simp only[↓GQ,GT,simprocAttr,n,d,y,ua,Qh,ia,Ay,Qo,Hs,Qr,Qt]
  repeat' (first|(refine aD (λh=>?_) (λh=>?_)<;>try (exfalso;omega))|(simp only[↓GQ,GT,simprocAttr,h,n,d,ua,Qh,ia,Ab c,hF,Qo,Hs,Qr,Zh,Qt]))
  all_goals (try (refine a _ _ rfl ?_ ?_<;>first|omega|(simp_all;done)))
  all_goals (refine aCo (l:=l) (nl:=nl) (t:=t) (i:=i) (q:=q) hb hi (by rw[j]) (λz u w=>?_) (λz u w d=>?_) i 0 _ _ O (by simp[FU]) n d rfl)
  all_goals (first|(simp only[↓GQ,GX,simprocAttr];refine a _ _ w (by simp_all) Z)|(simp only[↓GQ,GX,simprocAttr,d,p];exact ih (i+1) _ _ O (by simp_all) w rfl))
def pU:Kq gY 135:=by
 obtain⟨S,v,hl⟩:=A4 (Aa aBT Ae);have c:=hl 201 _ rfl;clear hl;refine AB (S:=S) v (Al func135:Fn Qz 135 57 aOF [.t 2]) (λds r h=>?_) (λds r h=>?_)
 ·grind [NI]
 ·obtain⟨nl,t,l,rfl,hl,o,rfl⟩:=NI h;unfold aOF B4;by_cases x:4<l.length
  ·have w:((4:Int)<l.length):=by omega
   simp only[↓GQ,GT,simprocAttr,Ay,w,x]
  ·have w:¬((4:Int)<l.length):=by omega
   simp only[↓GQ,GX,Hf,simprocAttr,Ay,w];refine aJi (l:=l) (nl:=nl) (t:=t) (e:=DJ l l.length 0) c O o (λz u q=>?_) (λz u=>?_) l.length 0 _ _ O rfl rfl rfl
   ·simp only[↓GQ,GT,q];rw[if_neg x]
   ·simp only[↓GQ,GT,reduceIte,Qu,u];rw[if_neg x]
def kU:Nat->Nat->Nat->Bool
 |0,_,_=>true
 |f+1,a,c=>if c % 2=1∧a % 2=0 then false else kU f (a / 2) (c / 2)
def Ug:∀(f a c:Nat),kU f a c=true↔∀i,i<f->c.testBit i=true->a.testBit i=true
 |0,a,c=>by simp[kU]
 |f+1,a,c=>by
  have ih:=Ug f (a / 2) (c / 2);have y:∀n:Nat,n.testBit 0=decide (n % 2=1):=λn=>Nat.testBit_zero n
  unfold kU;by_cases h:c % 2=1∧a % 2=0
  ·rw[if_pos h];constructor
   ·intro h;cases h
   ·intro u;have q:=u 0 O (by rw[y];simp[h.1]);rw[y,decide_eq_true_iff]at q;omega
  ·rw[if_neg h,ih];constructor
   ·intro u i hi q;cases i with
    |zero=>
     rw[y,decide_eq_true_iff]at q ⊢;omega
    |succ i=>
     rw[Nat.testBit_succ]at q ⊢;exact u i O q
   ·grind
def aJQ{a c:Nat}(x:a<256)(g:c<256):kU 8 a c=MQ a c:=by
 rw[Zg,Ug];have e:∀i,(Z7 c (255-a)).testBit i=(c.testBit i&&(decide (i<8)&&!a.testBit i)):=by
  intro i;show(c&&& (255-a)).testBit i=_;rw[Nat.testBit_and,show 255-a=2 ^ 8-(a+1)by omega,Nat.testBit_two_pow_sub_succ O]
 constructor
 ·intro h;unfold MQ;have:Z7 c (255-a)=0:=by
   refine Nat.eq_of_testBit_eq λi=>?_
   rw[e,Z_];by_cases hi:i<8
   ·simp_all
   ·simp[hi]
  rw[this];rfl
 ·intro h i hi u;have q:Z7 c (255-a)=0:=Nat.eq_of_beq_eq_true h;have d:=e i;rw[q,Z_,u]at d;simpa[hi]using d.symm
def aAT{a:Nat}(x:a<256):IntKind.u8.wrap ((a:Int).tdiv 2)=((a / 2:Nat):Int):=by
 rw[show(a:Int).tdiv 2=((a / 2:Nat):Int)by rw[Int.natCast_ediv];exact Int.tdiv_eq_ediv_of_nonneg O];exact aUO O
def Vu{a:Nat}:(a:Int).tmod 2=((a % 2:Nat):Int):=rfl
def aJh{S:GR}{ns:Id}{Q:Ex->St->Prop}{e:Bool}
  (b:∀z,e=false->z.s 4= .bool false->Q .ret z) (m:∀z,e=true->Q (.exit 0) z):
  ∀(f i a c:Nat) z g,8=i+f->a<256->c<256->kU f a c=e->z.s 0= .int .u8 (a:Int)->z.s 1= .int .u8 (c:Int)->z.s 5= .int .i64 (i:Int)->AK S ns PL Q z g:=by
 intro f;induction f with
 |zero=>
  intro i a c z g o x hc q y u k;refine Af PL.eq_1 ?_;have:¬((i:Int)<8):=O
  simp only[↓GQ,GX,Hf,simprocAttr,k,this];exact m _ q.symm
 |succ f ih=>
  intro i a c z g o x hc q y u k;refine Af PL.eq_1 ?_;unfold kU at q;have v:((i:Int)<8):=O
  have t:IntKind.i64.wrap ((i:Int)+1)=((i+1:Nat):Int):=Hg O O;have n2:((2:Int)=0)=False:=U
  have j:=aAT x;have uc:=aAT hc;obtain⟨ja,d,r⟩:=z;simp only at y u k;by_cases w:c % 2=1
  ·have ec:(((c % 2:Nat):Int)=1)=True:=eq_true O;by_cases p:a % 2=0
   ·have n:(((a % 2:Nat):Int)=0)=True:=eq_true O;rw[if_pos ⟨w,p⟩]at q;simp only[↓GQ,GX,Hf,simprocAttr,y,u,k,v,Vu,ec,n,n2,ne_eq];exact b _ q.symm rfl
   ·have n:(((a % 2:Nat):Int)=0)=False:=eq_false O;rw[if_neg (λh=>p h.2)]at q;simp only[↓GQ,GX,Hf,simprocAttr,y,u,k,v,t,Vu,ec,n,n2,j,uc,ne_eq];exact ih (i+1) _ _ _ _ O O O q rfl rfl rfl
  ·have ec:(((c % 2:Nat):Int)=1)=False:=eq_false O;rw[if_neg (λh=>w h.1)]at q;simp only[↓GQ,GX,Hf,simprocAttr,y,u,k,v,t,Vu,ec,n2,j,uc,ne_eq];exact ih (i+1) _ _ _ _ O O O q rfl rfl rfl
def aHo:List D->Option D
 |[.int .u8 a,.int .u8 c]=>if 0<=a∧a<256∧0<=c∧c<256 then some (.bool (MQ a.toNat c.toNat))else none
 |_=>none
def aVK:Kq aHo 223:=by
 refine AB (S:=λ_=>none) AO (Al func223:Fn Qz 223 22 aOE [.t 4]) (λds r h=>?_) (λds r h=>?_)
 ·unfold aHo at h;split at h
  ·simp
  ·cases h
 ·unfold aHo at h;split at h
  ·rename_i a c;split at h
   ·rename_i g;obtain⟨u,q,d,o⟩:=g;simp only[Ql]at h;subst h;obtain⟨a,rfl⟩:=QG u;obtain⟨c,rfl⟩:=QG d;simp only[Qh];have x:a<256:=by omega
    have g:c<256:=O
    unfold aOE;simp only[↓GQ,GX,Qu];refine aJh (e:=MQ a c) (λz u q=>?_) (λz u=>?_) 8 0 a c _ _ O x g (aJQ x g) rfl rfl rfl
    ·simp only[↓GQ,GT,u,q]
    ·simp only[↓GQ,GT,reduceIte,Qu,u]
   ·cases h
  ·cases h
def aJg{S:GR}{ns:Id}{s:Bs}{l:List Rl}{nl:Bool}{t:Id}{Q:Ex->St->Prop}{e:Int}(x:S 160=some (Ac iB))(k:l.length<=1000000)(o:BR l)(hs:s.length<=1000000)
  (m:∀z,z.s 0= .slice nl t (Am l)->z.s 5= .int .i64 e->Q (.exit 0) z):
  ∀(f j:Nat)(b n:Int) z g,l.length=j+f->b<l.length->(b<0∧n=-1∨0<=b∧n=((Bx l b.toNat).1.length:Int))->LO s (l.map (·.1)) f j b n=e->z.s 0= .slice nl t (Am l)->z.s 1= .str s->z.s 5= .int .i64 b->z.s 6= .int .i64 (j:Int)->AK S ns PK Q z g:=by
 intro f;induction f with
 |zero=>
  intro j b n z g hf bb wa q y u h5 h6;refine Af PK.eq_1 ?_;have:¬((j:Int)<l.length):=O
  simp only[↓GQ,GX,Hf,simprocAttr,y,h6,this,Ay];exact m _ y (by rw[←q];exact h5)
 |succ f ih=>
  intro j b n z g hf bb wa q y u h5 h6;refine Af PK.eq_1 ?_;unfold LO at q;have w:j<l.length:=O
  have v:((j:Int)<l.length):=O
  have ma:=nJ (j:=j);have hw:=wJ (j:=j) O;have ia:(Am l)[j]?=some (.agg [.str (Bx l j).1,.int .u8 (Bx l j).2]):=DL w;have hg:(l.map (·.1)).getD j []=(Bx l j).1:=by simp[Bx,Qi w]
  have d:(j:Int)<0∧(((Bx l j).1.length:Nat):Int)=-1∨0<=(j:Int)∧(((Bx l j).1.length:Nat):Int)=((Bx l (j:Int).toNat).1.length:Int):= .inr ⟨O,rfl⟩;rw[hg]at q;have sa:=Ix o w;generalize (Bx l j).1=p at ia q d sa;have c:iB [.str s,.str p]=some (.bool (AR s p)):=if_pos ⟨hs,sa⟩;obtain⟨ja,ga,r⟩:=z;simp only at y u h5 h6;rcases wa with ⟨la,rfl⟩|⟨la,hn⟩
  ·cases hp:AR s p with
   |true=>
    rw[if_pos ⟨O,hp⟩]at q;simp only[↓GQ,GT,simprocAttr,y,u,h5,h6,v,ma,Qh,ia,Ay,Ab x,c,Qo,Hs,Qr,Qt,hp,la];refine AJ ?_;simp only[↓GQ,GX,Hx,simprocAttr,h6,hw];exact ih (j+1) _ _ _ _ O O d q y u rfl rfl
   |false=>
    rw[if_neg (by rw[hp];simp)]at q;simp only[↓GQ,GT,simprocAttr,y,u,h6,v,ma,Qh,ia,Ay,Ab x,c,Qo,Hs,Qr,Qt,hp];refine AJ ?_;simp only[↓GQ,GX,Hx,simprocAttr,h6,hw];exact ih (j+1) _ _ _ _ O bb (.inl ⟨la,rfl⟩) q y u h5 rfl
  ·obtain⟨i,rfl⟩:=QG la;rw[Qh]at hn;have hi:i<l.length:=by omega
   have pa:¬((i:Int)<0):=O
   have a:(Am l)[i]?=some (.agg [.str (Bx l i).1,.int .u8 (Bx l i).2]):=DL hi;subst hn;have qa:(i:Int)<0∧(((Bx l i).1.length:Nat):Int)=-1∨0<=(i:Int)∧(((Bx l i).1.length:Nat):Int)=((Bx l (i:Int).toNat).1.length:Int):= .inr ⟨O,rfl⟩;generalize (Bx l i).1=pi at a q qa;cases hp:AR s p with
   |true=>
    by_cases hn:((pi.length:Int)<(p.length:Int))
    ·rw[if_pos ⟨hn,hp⟩]at q;simp only[↓GQ,GT,simprocAttr,y,u,h5,h6,v,ma,Qh,ia,Ay,Ab x,c,Qo,Hs,Qr,Qt,hp,pa,a,hn,Qo,ZO];refine AJ ?_;simp only[↓GQ,GX,Hx,simprocAttr,h6,hw];exact ih (j+1) _ _ _ _ O O d q y u rfl rfl
    ·rw[if_neg (λh=>hn h.1)]at q;simp only[↓GQ,GT,simprocAttr,y,u,h5,h6,v,ma,Qh,ia,Ay,Ab x,c,Qo,Hs,Qr,Qt,hp,pa,a,hn,ZO];refine AJ ?_;simp only[↓GQ,GX,Hx,simprocAttr,h6,hw];exact ih (j+1) _ _ _ _ O O qa q y u h5 rfl
   |false=>
    rw[if_neg (by rw[hp];simp)]at q;simp only[↓GQ,GT,simprocAttr,y,u,h6,v,ma,Qh,ia,Ay,Ab x,c,Qo,Hs,Qr,Qt,hp];refine AJ ?_;simp only[↓GQ,GX,Hx,simprocAttr,h6,hw];exact ih (j+1) _ _ _ _ O O qa q y u h5 rfl
open Classical in
def aHn:List D->Option D
 |[.slice _ _ xs,.str s]=>if xs=Am (Bc xs)∧xs.length<=1000000∧BR (Bc xs)∧s.length<=1000000 then some (.int .u8 (Cy (Bc xs) s))else none
 |_=>none
open Classical in
def uE{nl:Bool}{t:Id}{l:List Rl}{s:Bs}(hl:l.length<=1000000)(o:BR l)(g:s.length<=1000000):aHn [.slice nl t (Am l),.str s]=some (.int .u8 (Cy l s)):=by
 have h:Am l=Am (Bc (Am l))∧(Am l).length<=1000000∧BR (Bc (Am l))∧s.length<=1000000:=by rw[AS,Ay];exact⟨rfl,hl,o,g⟩
 show(if _ then _ else _)=_;rw[if_pos h,AS]
open Classical in
theorem hH{ds:List D}{r:D}(h:aHn ds=some r):∃nl t l s,ds=[.slice nl t (Am l),.str s]∧l.length<=1000000∧BR l∧s.length<=1000000∧r= .int .u8 (Cy l s):=by
 unfold aHn at h;split at h
 ·rename_i nl t xs s;split at h
  ·rename_i g;obtain⟨u,q,d⟩:=g;simp only[Ql]at h;subst h;refine⟨nl,t,Bc xs,s,XK,?_,d.1,d.2,rfl⟩;rw[u,Ay]at q;exact q
  ·cases h
 ·cases h
def aVJ:Kq aHn 224:=by
 obtain⟨S,n,hl⟩:=A4 (Aa aMN Ae);have x:=hl 160 _ rfl;clear hl;refine AB (S:=S) n (Al func224:Fn Qz 224 47 aOD [.t 4]) (λds r h=>?_) (λds r h=>?_)
 ·grind [hH]
 ·obtain⟨nl,t,l,s,rfl,hl,o,g,rfl⟩:=hH h;unfold aOD Cy;have v:=R3 s (l.map (·.1));rw[QF]at v;simp only[↓GQ,GX,Qu];refine aJg (s:=s) (l:=l) (nl:=nl) (t:=t) (e:=E_ s (l.map (·.1))) x hl o g (λz y u=>?_) l.length 0 (-1) (-1) _ _ O O (.inl ⟨O,rfl⟩) (by rw[E_,QF]) rfl rfl rfl rfl;generalize E_ s (l.map (·.1))=i at u v;by_cases hi:i<0
  ·simp only[↓GQ,GT,simprocAttr,u,hi]
  ·obtain⟨j,rfl⟩:=QG (show 0<=i by omega);have w:j<l.length:=by omega
   have q:=nJ (j:=j);have ia:(Am l)[j]?=some (.agg [.str (Bx l j).1,.int .u8 (Bx l j).2]):=DL w;simp only[↓GQ,GT,simprocAttr,y,u,hi,q,Qh,ia,Hs,and_self,Qr,Zh,Qt]
def aLJ{a c:Int}(u:0<=a)(q:a<256)(d:0<=c)(x:c<256):aHo [.int .u8 a,.int .u8 c]=some (.bool (MQ a.toNat c.toNat)):=if_pos ⟨u,q,d,x⟩
def bO(a b:List Rl):Am a++Am b=Am (a++b):=(QS ..).symm
def aJw{S:GR}{ns:Id}{a b l:List Rl}{nl na nb:Bool}{t ta tb:Id}{Q:Ex->St->Prop}{e:Bool}(i:S 224=some (Ac aHn))(c:S 223=some (Ac aHo))
  (la:a.length<=1000000) (lb:b.length<=1000000) (pa:BR a) (pb:BR b) (x:Fd a) (cb:Fd b) (hb:l.length<=1000000) (sa:BR l)
  (oa:∀z,e=false->z.s 4= .bool false->Q .ret z) (fa:∀z,e=true->Q (.exit 0) z):
  ∀(f j:Nat) z g,l.length=j+f->DQ a b l f j=e->z.s 0= .slice na ta (Am a)->z.s 1= .slice nb tb (Am b)->z.s 5= .slice nl t (Am l)->z.s 6= .int .i64 (j:Int)->AK S ns P1 Q z g:=by
 intro f;induction f with
 |zero=>
  intro j z g hf m r y h5 h6;refine Af P1.eq_1 ?_;have:¬((j:Int)<l.length):=O
  simp only[↓GQ,GX,Hf,simprocAttr,h5,h6,this,Ay];exact fa _ m.symm
 |succ f ih=>
  intro j z g hf m r y h5 h6;refine Af P1.eq_1 ?_;unfold DQ at m;have hj:j<l.length:=O
  have v:((j:Int)<l.length):=O
  have ma:=nJ (j:=j);have hw:=wJ (j:=j) O;have ia:(Am l)[j]?=some (.agg [.str (Bx l j).1,.int .u8 (Bx l j).2]):=DL hj;have hq:=Ix sa hj;unfold Vr at m;generalize (Bx l j).1=q at ia hq m;have ea:=uE (nl:=na) (t:=[]) (s:=q) la pa hq;have eb:=uE (nl:=nb) (t:=[]) (s:=q) lb pb hq;have w:=P9 (s:=q) x;have bb:=P9 (s:=q) cb;have d:=aLJ bb.1 bb.2 w.1 w.2;have o:=DA a;have k:=DA b;have p:=Fk a;have u:=Fk b;generalize MQ (Cy b q).toNat (Cy a q).toNat=hh at m d;obtain⟨ja,ga,n⟩:=z;simp only at r y h5 h6;cases hh with
  |true=>
   rw[if_pos rfl]at m;simp only[↓GQ,GT,simprocAttr,r,y,h5,h6,v,ma,hw,Qh,ia,Ay,Ab i,ea,eb,Ab c,d,Qo,Hs,Qr,Qt];exact ih (j+1) _ _ O m r y h5 rfl
  |false=>
   rw[if_neg U]at m;simp only[↓GQ,GT,simprocAttr,r,y,h5,h6,v,ma,Qh,ia,Ay,Ab i,ea,eb,Ab c,d,Qo,Hs,Qr,Qt];exact oa _ m.symm rfl
def aWc:Kq aHz 163:=by
 obtain⟨S,hS,hl⟩:=A4 (Aa pU (Aa aVJ (Aa aVK Ae)));have d:=hl 135 _ rfl;have i:=hl 224 _ rfl;have c:=hl 223 _ rfl;clear hl;refine AB (S:=S) hS (Al func163:Fn Qz 163 40 aPx [.t 4]) (λds r h=>?_) (λds r h=>?_)
 ·grind [NJ]
 ·obtain⟨na,ta,a,nb,tb,b,rfl,v,lb,s,pb,x,cb,rfl⟩:=NJ h;have ea:=Ly (nl:=na) (t:=[]) v s;have eb:=Ly (nl:=nb) (t:=[]) lb pb;have o:=DA a;have k:=DA b;have p:=Fk a;have u:=Fk b;have g:B4 a=0->a.length<=4:=by unfold B4;split<;>omega
  have j:B4 b=0->b.length<=4:=by unfold B4;split<;>omega
  unfold aPx CD;generalize B4 a=xa at *;generalize B4 b=xb at *;by_cases f:xa=0
  ·by_cases n:xb=0
   ·have m:=g f;have q:=j n;subst f n;have n1:(Am a).length*25<=140737488355328:=by rw[Ay];omega
    have n2:((Am a).length+(Am b).length)*25<=140737488355328:=by rw[Ay,Ay];omega
    simp only[↓GQ,Hb,simprocAttr,Ab d,ea,eb,CY,Cx,n1,n2,N0,false_or,false_and,QB,ne_eq,Q8,Z5,bO,if_false,Aj];refine aJw (a:=a) (b:=b) (l:=a++b) (e:=(a++b).all (Vr a b)) i c v lb s pb x cb Xc ?_ (λz y w=>?_) (λz y=>?_) (a++b).length 0 _ _ O ?_ rfl rfl rfl rfl
    ·intro r hr;rcases QP.1 hr with h|h
     ·exact s r h
     ·exact pb r h
    ·simp only[↓GQ,GT,y,w]
    ·simp only[↓GQ,GT,reduceIte,Qu,y]
    ·grind [Fz]
   ·simp only[↓GQ,GT,simprocAttr,Ab d,ea,eb,n,f];simp
  ·simp only[↓GQ,GT,simprocAttr,Ab d,ea,f];simp
def PY:=y1 f102 3 [] []
def aPh:=y0 f102 [] [(3,PY)]
def xC(l:List Mt):Nat->Nat->Nat->Nat
 |0,_,a=>a
 |f+1,j,a=>xC l f (j+1) (a+(4+(AU l j).1.length))
def aJB(l:List Mt):Nat:=xC l l.length 0 0
def aJs{S:GR}{ns:Id}{l:List Mt}{nl:Bool}{t:Id}{Q:Ex->St->Prop}{e:Nat}(i:l.length<=1000)(u:∀m∈l,m.1.length<=1000000)
  (fa:∀z,z.s 3= .int .i64 (e:Int)->Q (.exit 0) z):
  ∀(f j a:Nat) z g,l.length=j+f->a<=j*1000004->xC l f j a=e->z.s 3= .int .i64 (a:Int)->z.s 7= .slice nl t (Ax l)->z.s 8= .int .i64 (l.length:Int)->z.s 9= .int .i64 (j:Int)->AK S ns PY Q z g:=by
 intro f;induction f with
 |zero=>
  intro j a z g hf x q d h7 h8 h9;refine Af PY.eq_1 ?_;have:¬((j:Int)<l.length):=O
  simp only[↓GQ,GX,Hf,reduceIte,Qu,h8,h9,this];exact fa _ (by rw[←q];exact d)
 |succ f ih=>
  intro j a z g hf x q d h7 h8 h9;refine Af PY.eq_1 ?_;unfold xC at q;have w:j<l.length:=O
  have v:((j:Int)<l.length):=O
  have n:=nJ (j:=j);have p:=wJ (j:=j) O;have ia:(Ax l)[j]?=some (.agg [.str (AU l j).1,.int .i64 (AU l j).2.1,.bool (AU l j).2.2]):=C4 w;have y:AU l j∈l:=by simp[AU,Qi w]
  have sa:=u _ y;generalize AU l j=m at ia q sa;have o:IntKind.i64.wrap ((4:Int)+(m.1.length:Int))=((4+m.1.length:Nat):Int):=Xg
  have b:IntKind.i64.wrap ((a:Int)+((4+m.1.length:Nat):Int))=((a+(4+m.1.length):Nat):Int):=Xg
  obtain⟨c,k,r⟩:=z;simp only at d h7 h8 h9;simp only[↓GQ,Hb,simprocAttr,d,h7,h8,h9,v,n,p,o,b,Qh,ia,Aj,Ar,As,Qx,ZX,Q3,ZB,Qk];exact ih (j+1) _ _ _ O O q rfl h7 h8 rfl
open Classical in
def aL6:List D->Option D
 |[.agg [.slice _ _ xs]]=>if xs=Ax (B7 xs)∧xs.length<=1000∧∀m∈B7 xs,m.1.length<=1000000 then some (.int .i64 (aJB (B7 xs):Int))else none
 |_=>none
def aV8:Kq aL6 102:=by
 refine AB (S:=λ_=>none) AO (Al func102:Fn Qz 102 21 aPh [.t 2]) (λds r h=>?_) (λds r h=>?_)
 ·unfold aL6 at h;split at h
  ·simp
  ·cases h
 ·unfold aL6 at h;split at h
  ·rename_i nl t xs;split at h
   ·rename_i g;obtain⟨f,hl,o⟩:=g;simp only[Ql]at h;subst h;generalize B7 xs=l at f o;subst f;rw[AC]at hl;unfold aPh;simp only[↓GQ,GX,Hx,simprocAttr,AC,Aj,Qo,Nat.sub_zero,Hs,QC,and_self];refine aJs (l:=l) (nl:=nl) (t:=t) (e:=aJB l) hl o (λz u=>?_) l.length 0 0 _ _ O O rfl rfl rfl rfl rfl;simp only[↓GQ,GT,simprocAttr,u]
   ·cases h
  ·cases h
def aPF:=y0 f158 [] []
def VP:=y1 f159 2 [] []
def aX3:=y0 f159 [] [(2,VP)]
def aPz:=y0 f72 [] []
def P2:=y1 Tryz.f93 2 [] []
def aPy:=y0 Tryz.f93 [] [(2,P2)]
def aMc:List D->Option D
 |[.agg [.str p,.int .i64 q,.bool b]]=>if p.length<=1000000 then some (.int .i64 (Cp p q))else none
 |_=>none
def aWe:Kq aMc 158:=by
 obtain⟨S,v,hl⟩:=A4 (Aa aBT Ae);have c:=hl 201 _ rfl;clear hl;refine AB (S:=S) v (Al func158:Fn Qz 158 20 aPF [.t 2]) (λds r h=>?_) (λds r h=>?_)
 ·unfold aMc at h;split at h
  ·simp
  ·cases h
 ·unfold aMc at h;split at h
  ·rename_i p q b;split at h
   ·rename_i g;simp only[Ql]at h;subst h;unfold aPF;have a:hZ [.str p]=some (.int .i64 (AV p)):=if_pos g;unfold Cp;generalize AV p=e at *;simp only[↓GQ,Hb,simprocAttr,Aj,Ab c,a]
    repeat' (first|(refine aD (λh=>?_) (λh=>?_)<;>try (exfalso;omega))|(simp only[↓GQ,Hb,simprocAttr,h,Aj,Qx]))
    all_goals (first|rfl|(rw[D.int.injEq];refine⟨rfl,?_⟩;(repeat' split)<;>first|rfl|(exfalso;simp_all;done)|(exfalso;simp_all;omega)))
   ·cases h
  ·cases h
def aRo{S:GR}{ns:Id}{l:List Mt}{p:Bs}{nl:Bool}{t:Id}{Q:Ex->St->Prop}(k:l.length<=1000000)
  (oa:∀z,z.s 4= .int .i64 (BP (l.map λm=>decide (m.1=p)))->Q .ret z) (fa:∀z,BP (l.map λm=>decide (m.1=p))=-1->Q (.exit 0) z):
  ∀(f j:Nat) z g,l.length=j+f->(∀i,i<j->(l.map λm=>decide (m.1=p))[i]?=some false)->z.s 0= .slice nl t (Ax l)->z.s 1= .str p->z.s 5= .int .i64 (j:Int)->AK S ns VP Q z g:=by
 intro f;induction f with
 |zero=>
  intro j z g o ka y u b;refine Af VP.eq_1 ?_;have:¬((j:Int)<l.length):=O
  simp only[↓GQ,GX,Hf,simprocAttr,y,b,this,AC];exact fa _ (IS Yx)
 |succ f ih=>
  intro j z g o ka y u b;refine Af VP.eq_1 ?_;have w:j<l.length:=O
  have v:((j:Int)<l.length):=O
  have q:=nJ (j:=j);have x:=wJ (j:=j) O;have ia:(Ax l)[j]?=some (.agg [.str (AU l j).1,.int .i64 (AU l j).2.1,.bool (AU l j).2.2]):=C4 w;have e:(l.map λm=>decide (m.1=p))[j]?=some (decide ((AU l j).1=p)):=by simp[AU,Qi w]
  have a:AU l j∈l:=by simp[AU,Qi w]
  generalize AU l j=m at ia e;obtain⟨c,d,r⟩:=z;simp only at y u b;by_cases hq:m.1=p
  ·have n:=e;simp only[hq,decide_true]at n;simp only[↓GQ,GT,simprocAttr,y,u,b,v,q,Qh,ia,AC,Qo,Hs,Qr,Qt,hq];exact oa _ (by rw[Fv n ka];rfl)
  ·have n:=e;simp only[hq,decide_false]at n;simp only[↓GQ,GT,simprocAttr,y,u,b,v,q,x,Qh,ia,AC,Qo,Hs,Qr,Qt,hq];refine ih (j+1) _ _ O (λi hi=>?_) y u rfl;rcases ZP (ZT hi)with hi|rfl
   ·exact ka i hi
   ·exact n
open Classical in
def F74:List D->Option D
 |[.slice _ _ xs,.str p]=>if xs=Ax (B7 xs)∧xs.length<=1000000 then some (.int .i64 (CH (B7 xs) p))else none
 |_=>none
def aZR:Kq F74 159:=by
 refine AB (S:=λ_=>none) AO (Al func159:Fn Qz 159 20 aX3 [.t 4]) (λds r h=>?_) (λds r h=>?_)
 ·unfold F74 at h;split at h
  ·simp
  ·cases h
 ·unfold F74 at h;split at h
  ·rename_i nl t xs p;split at h
   ·rename_i g;obtain⟨f,hl⟩:=g;simp only[Ql]at h;subst h;generalize B7 xs=l at f;subst f;rw[AC]at hl;unfold aX3 CH;simp only[↓GQ,GX,Qu];refine aRo (l:=l) (p:=p) (nl:=nl) (t:=t) hl (λz u=>?_) (λz u=>?_) l.length 0 _ _ O U rfl rfl rfl
    ·simp only[↓GQ,GT,u]
    ·simp only[↓GQ,GT,reduceIte,Qu,u]
   ·cases h
  ·cases h
def aJx{S:GR}{ns:Id}{l:List Tk}{p:Bs}{nl:Bool}{t:Id}{Q:Ex->St->Prop}(k:l.length<=1000000)
  (oa:∀z,z.s 4= .int .i64 (BP (l.map λm=>decide (m.1=p)))->Q .ret z) (fa:∀z,BP (l.map λm=>decide (m.1=p))=-1->Q (.exit 0) z):
  ∀(f j:Nat) z g,l.length=j+f->(∀i,i<j->(l.map λm=>decide (m.1=p))[i]?=some false)->z.s 0= .slice nl t (Au l)->z.s 1= .str p->z.s 5= .int .i64 (j:Int)->AK S ns P2 Q z g:=by
 intro f;induction f with
 |zero=>
  intro j z g o ka y u b;refine Af P2.eq_1 ?_;have:¬((j:Int)<l.length):=O
  simp only[↓GQ,GX,Hf,simprocAttr,y,b,this,AD];exact fa _ (IS Yx)
 |succ f ih=>
  intro j z g o ka y u b;refine Af P2.eq_1 ?_;have w:j<l.length:=O
  have v:((j:Int)<l.length):=O
  have q:=nJ (j:=j);have x:=wJ (j:=j) O;have ia:(Au l)[j]?=some (.agg [.str (AP l j).1,.str (AP l j).2.1,.slice (AP l j).2.2.1 [] (Am (AP l j).2.2.2)]):=Dp w;have e:(l.map λm=>decide (m.1=p))[j]?=some (decide ((AP l j).1=p)):=by simp[AP,Qi w]
  have a:AP l j∈l:=by simp[AP,Qi w]
  generalize AP l j=m at ia e;obtain⟨c,d,r⟩:=z;simp only at y u b;by_cases hq:m.1=p
  ·have n:=e;simp only[hq,decide_true]at n;simp only[↓GQ,GT,simprocAttr,y,u,b,v,q,Qh,ia,AD,Qo,Hs,Qr,Qt,hq];exact oa _ (by rw[Fv n ka];rfl)
  ·have n:=e;simp only[hq,decide_false]at n;simp only[↓GQ,GT,simprocAttr,y,u,b,v,q,x,Qh,ia,AD,Qo,Hs,Qr,Qt,hq];refine ih (j+1) _ _ O (λi hi=>?_) y u rfl;rcases ZP (ZT hi)with hi|rfl
   ·exact ka i hi
   ·exact n
open Classical in
def aHA:List D->Option D
 |[.slice _ _ xs,.str p]=>if xs=Au (Cj xs)∧xs.length<=1000000 then some (.int .i64 (C0 (Cj xs) p))else none
 |_=>none
def aMK:Kq aHA 93:=by
 refine AB (S:=λ_=>none) AO (Al func93:Fn Qz 93 20 aPy [.t 4]) (λds r h=>?_) (λds r h=>?_)
 ·unfold aHA at h;split at h
  ·simp
  ·cases h
 ·unfold aHA at h;split at h
  ·rename_i nl t xs p;split at h
   ·rename_i g;obtain⟨f,hl⟩:=g;simp only[Ql]at h;subst h;generalize Cj xs=l at f;subst f;rw[AD]at hl;unfold aPy C0;simp only[↓GQ,GX,Qu];refine aJx (l:=l) (p:=p) (nl:=nl) (t:=t) hl (λz u=>?_) (λz u=>?_) l.length 0 _ _ O U rfl rfl rfl
    ·simp only[↓GQ,GT,u]
    ·simp only[↓GQ,GT,reduceIte,Qu,u]
   ·cases h
  ·cases h
def pX:Kq NK 72:=by
 obtain⟨S,x,hl⟩:=A4 (Aa aME (Aa pU Ae));have b:=hl 134 _ rfl;have d:=hl 135 _ rfl;clear hl;refine AB (S:=S) x (Al func72:Fn Qz 72 34 aPz [.t 2]) (λds r h=>?_) (λds r h=>?_)
 ·unfold NK at h;split at h
  ·simp
  ·cases h
 ·unfold NK at h;split at h
  ·rename_i n p nl t xs;split at h
   ·rename_i g;obtain⟨⟨u,hl,o⟩,v,ia⟩:=g;simp only[Ql]at h;subst h;generalize Bc xs=l at u o;subst u;rw[Ay]at hl;have a:nN [.str n]=some (.bool (BJ n)):=rfl;have f:nN [.str p]=some (.bool (BJ p)):=rfl;have c:=Ly (nl:=nl) (t:=[]) hl o;have hu:=Fk l;have k:=DA l;unfold aPz Dc;generalize B4 l=e at *;generalize BJ p=q at *;generalize BJ n=y at *;cases y with
    |false=>simp only[↓GQ,Hb,simprocAttr,Aj,Ab b,a]
    |true=>
     simp only[↓GQ,Hb,simprocAttr,Aj,Qx,Ab b,a,Ab d,c]
     repeat' (first|(refine aD (λh=>?_) (λh=>?_)<;>try (exfalso;omega))|(simp only[↓GQ,Hb,simprocAttr,h,Aj,Qx,false_and,and_false,Ab b,f]))
     all_goals (try simp_all)
   ·cases h
  ·cases h
def P0:=y1 f94 2 [] []
def aPw:=y0 f94 [(4,[(0,5),(4,5),(4,6),(6,4)])] [(2,P0)]
def aYd:=y0 f95 [] []
def aYf:=y0 f30 [] []
def F49:List D->Option D
 |[]=>some (.slice false [] (Au [Bh]))
 |_=>none
def aU8:Kq F49 30:=by
 refine AB (S:=λ_=>none) AO (Al func30:Fn Qz 30 5 aYf [.t 0]) (λds r h=>?_) (λds r h=>?_)
 ·grind [F49]
 ·unfold F49 at h;split at h
  ·simp only[Ql]at h;subst h;unfold aYf;simp only[↓GQ,GT,simprocAttr,Hs,and_self,Q3,ZB,Qr,Zh,Nat.zero_ne_one,Nat.succ_ne_zero,Bw,Eh,QB,Q8,Z5,Au,HD,Bh,Am,bP,Zr,Q8]
  ·cases h
def VT:=y1 f88 8 [] []
def aYh:=y0 f88 [(16,[(0,5),(4,5),(4,6),(6,4)])] [(8,VT)]
def kL(l:List Mt)(p:Bs):∀j,Ti l p j<=j
 |0=>Qv _
 |j+1=>by
  unfold Ti;split
  ·exact Qv _
  ·exact Nat.le_succ_of_le (kL l p j)
def aB3{l:List Mt}{s:Bs}{j:Nat}(w:j<l.length)(h:(AR (AU l j).1 s||AR s (AU l j).1)=true):Ei s (l.map (·.1))=true:=by
 grind [Ei,AU]
def jR{l:List Mt}{s:Bs}(h:∀i,i<l.length->(AR (AU l i).1 s||AR s (AU l i).1)=false):Ei s (l.map (·.1))=false:=by
 unfold Ei;rw[ZR];intro q z;obtain⟨m,r,rfl⟩:=Zi.1 z;obtain⟨i,hi,rfl⟩:=QK r;have:=h i hi;simp only[AU,Q_,Qi hi,Q0]at this;rw[Bool.or_comm,this];exact Q5
def aRs{S:GR}{l:List Mt}{p:Bs}{nl:Bool}{t:Id}{d1 d2:D}{Q:Ex->St->Prop}(k:l.length<=1000)(x:S 160=some (Ac iB))(o:∀m∈l,m.1.length<=1000000)(hs:p.length<=1000000)
  (oa:∀z,Ei p (l.map (·.1))=true->z.s 4= .slice nl t (Ax l)->z.s 5= .int .i64 15->Q .ret z)
  (fa:∀z,Ei p (l.map (·.1))=false->z.s 0= .slice nl t (Ax l)->z.s 3= .ptr [0] 0->z.s 7= .int .i64 (Ti l p l.length:Int)->z.m [0] 0=some (.str p)->z.m [0] 1=some d1->z.m [0] 2=some d2->Q (.exit 0) z):
  ∀(f j:Nat) z g,l.length=j+f->(∀i,i<j->(AR (AU l i).1 p||AR p (AU l i).1)=false)->z.s 0= .slice nl t (Ax l)->z.s 3= .ptr [0] 0->z.s 7= .int .i64 (Ti l p j:Int)->z.s 8= .int .i64 (j:Int)->
   z.m [0] 0=some (.str p)->z.m [0] 1=some d1->z.m [0] 2=some d2->AK S [] VT Q z g:=by
 intro f;induction f with
 |zero=>
  intro j z g hf ka y d h7 h8 n qa e;refine Af VT.eq_1 ?_;have v:¬((j:Int)<l.length):=O
  simp only[↓GQ,GX,Hf,simprocAttr,y,h8,v,AC];obtain rfl:j=l.length:=O
  exact fa _ (jR ka) y d h7 n qa e
 |succ f ih=>
  intro j z g hf ka y d h7 h8 n qa e;refine Af VT.eq_1 ?_;have w:j<l.length:=O
  have v:((j:Int)<l.length):=O
  have ma:=nJ (j:=j);have hw:=wJ (j:=j) O;have ia:(Ax l)[j]?=some (.agg [.str (AU l j).1,.int .i64 (AU l j).2.1,.bool (AU l j).2.2]):=C4 w;have ta:AU l j∈l:=by simp[AU,Qi w]
  have ua:=o _ ta;have q:=aB3 (s:=p) w;have u:Ti l p (j+1)=if Op.bytesLess (AU l j).1 p=true then j+1 else Ti l p j:=rfl
  have b:(AR (AU l j).1 p||AR p (AU l j).1)=false->∀i,i<j+1->(AR (AU l i).1 p||AR p (AU l i).1)=false:=by
   grind
  generalize AU l j=m at ia ua q u b;have a:iB [.str m.1,.str p]=some (.bool (AR m.1 p)):=if_pos ⟨ua,hs⟩;have c:iB [.str p,.str m.1]=some (.bool (AR p m.1)):=if_pos ⟨hs,ua⟩;obtain⟨ja,ga,r⟩:=z;simp only at y d h7 h8 n qa e;cases hwa:AR m.1 p with
  |true=>
   rw[hwa]at q a;simp only[↓GQ,GT,simprocAttr,y,d,h8,v,ma,Qh,ia,AC,n,Ab x,a,Qo,Hs,Qr,Qt];refine AJ ?_;simp only[↓GQ,GX,Hx,simprocAttr,y];exact oa _ (q rfl) rfl rfl
  |false=>
   cases hwb:AR p m.1 with
   |true=>
    rw[hwa,hwb]at q;rw[hwa]at a;rw[hwb]at c;simp only[↓GQ,GT,simprocAttr,y,d,h8,v,ma,Qh,ia,AC,n,Ab x,a,c,Qo,Hs,Qr,Qt];refine AJ ?_;simp only[↓GQ,GX,Hx,simprocAttr,y];exact oa _ (q rfl) rfl rfl
   |false=>
    rw[hwa,hwb]at b;rw[hwa]at a;rw[hwb]at c;cases hbl:Op.bytesLess m.1 p with
    |true=>
     rw[hbl,if_pos rfl]at u;simp only[↓GQ,GT,simprocAttr,y,d,h8,v,ma,Qh,ia,AC,n,Ab x,a,c,Qo,Hs,Qr,Qt];refine AJ ?_;simp only[↓GQ,GX,Hx,simprocAttr,y,d,h8,ma,Qh,ia,n,Qo,Hs,Qr,Qt,Gu,hbl];refine AJ ?_;simp only[↓GQ,GX,Hx,simprocAttr,h8,hw];exact ih (j+1) _ _ O (b rfl) y d (by rw[u];rfl) rfl n qa e
    |false=>
     rw[hbl,if_neg Q5]at u;simp only[↓GQ,GT,simprocAttr,y,d,h8,v,ma,Qh,ia,AC,n,Ab x,a,c,Qo,Hs,Qr,Qt];refine AJ ?_;simp only[↓GQ,GX,Hx,simprocAttr,y,d,h8,ma,Qh,ia,n,Qo,Hs,Qr,Qt,Gu,hbl];refine AJ ?_;simp only[↓GQ,GX,Hx,simprocAttr,h8,hw];exact ih (j+1) _ _ O (b rfl) y d (by rw[u];exact h7) rfl n qa e
end Go.Vd
end
