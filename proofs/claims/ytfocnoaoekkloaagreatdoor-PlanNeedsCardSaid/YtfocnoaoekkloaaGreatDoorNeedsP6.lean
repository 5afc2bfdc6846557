/-
  A part of the proof: the layers over the model. Nothing in it is assumed.
-/
import Derived.Test.YtfocnoaoekkloaaGreatDoorNeedsP5
import Derived.Test.YtfocnoaoekkloaaGreatDoorProg
import Derived.Shelf.Strings.Repeat
import Derived.WalkKit
import Derived.Shelf.Sort.Plain
import Derived.Shelf.Slices.CompactS
import Derived.Deep.LoopGhost
import Derived.Sort.OwnSorted
import Derived.Sort.Grow
import Derived.Lib.OwnBridge
import Derived.Shelf.Slices.In.SortNone
import Derived.RegionTactic
import Derived.ChangeAlike
import Derived.Laws.EntriesVeiled

set_option linter.unusedSimpArgs false
set_option linter.unusedVariables false
set_option linter.defProp false
set_option maxHeartbeats 4000000
set_option maxRecDepth 100000
open Nat renaming le_of_ble_eq_true→Qa,zero_le→Qh,le_refl→Qi,reduceEqDiff→Qs,reduceAdd→QB,le_trans→QN,lt_or_ge→Ze
open Go.Proofs.Tryz renaming prog→Qb
open List renaming length_cons→Qc,mem_cons→Qd,not_mem_nil→Qe,getElem?_eq_getElem→Qf,length_nil→Qj,mem_singleton→Qk,length_append→Ql,length_map→Qm,length_mergeSort→Qo,length_take→Qq,mem_map→Qr,take_succ_eq_append_getElem→Qt,getD_eq_getElem?_getD→Qv,mem_append→Qw,length_drop→Qx,mem_cons_self→Qy,mem_of_getElem?→QA,nodup_iff_pairwise_ne→QC,getElem?_eq_some_iff→QD,mem_of_mem_take→QE,getElem_mem→QF,take_of_length_le→QG,getD→QK,mem_cons_of_mem→QM,length_filterMap_le→QP,drop_eq_nil_of_le→QQ,take_append_drop→QR,take_length→QS,eq_nil_of_length_eq_zero→QT,mem_of_mem_drop→QV,map_append→QW,getElem_of_mem→QY,drop_eq_getElem_cons→QZ,getElem?_append_left→Q_,flatMap_cons→Q0,getElem?_map→Q1,any_eq_false→Q2,all_eq_true→Q4,append_nil→Q5,mem_append_right→Q7,length_singleton→Q8,drop_zero→Q9,replicate→Za,take→Zb,filterMap_cons→Zc
open Option.some renaming injEq→Qg
open Int renaming toNat_natCast→Qn,lt_irrefl→QJ,toNat_zero→QL,toNat_of_nonneg→QX,toNat_one→Zd
open Array renaming getElem?_eq_some_iff→Qp,size_push→QH
open Option renaming map_eq_some_iff→Qu,getD_some→QO,bind_eq_some_iff→Q3,map_some→Q6
open Bool renaming and_eq_true→Qz,or_eq_false_iff→QU
open Prod.mk renaming injEq→QI
open List.cons renaming injEq→Zf
open Go.Proofs.Tryz
noncomputable section
namespace Go.Vd
open Go.Proofs Go.RowKit
def metaT(w:Wb)(p:Bs):Bs×Bool×Bool:=CG w.k (AZ 1 p 0)
def S135:Summs:=AF [(123,Ac B1),(137,Ac Ez),(133,wQ W133),(240,Ac R240)]
def Bv:Wb->Oc->List D->Option WY:=RW S135 dc135 [.cell (some 4) 4,.t 5,.t 6] 42
theorem ko135:(wQ Bv).ok Qb 135:=CU fn135 (Ab ko123 (Ab ko137 (Ab ko133 (Ab ko240 Ad))))
theorem W135_need(w:Wb)(o:Oc)(p:Bs)(h0:Oc0 o)(hp:p.length<=1000000)(hk:w.k.es.length<=1000)(mt:Bs×Bool×Bool)(hm:metaT w p=mt)(hq:mt.2.2=false):Bv w o [.str p]=some (.tup [.agg (scC sc0),.bool false,.bool false],⟨AZ 1 p 0,false,[],true,[],w.v⟩,none):=by
 refine A8 (λ_=>h0.ops) ⟨Qa rfl,λh=>⟨h0.nl.symm,h0.ops.symm⟩,λl h=>(by cases h),λi m fr t ha hfr hni hni0=>?_⟩;have s123:S135 123=some (Ac B1):=rfl;have s137:S135 137=some (Ac Ez):=rfl;have s133:S135 133=some (wQ W133):=rfl;have hW:=Wt.start ha hfr;unfold dc135;obtain⟨text,there,known⟩:=mt;simp only at hq;have h123:=Cy 1 0 p hp;have h137:=R137_eq w.k (AZ 1 p 0) hk;rw[show CG w.k (AZ 1 p 0)=_ from hm]at h137;unfold kwC at h137;have xx:=AO ha.1;subst hq;have h133:=W133_eq w o (AZ 1 p 0) false h0;simp only[gB1,↓go1,go5,reduceIte,simprocAttr,xx,hni0,Aa s123,h123,Aa s137,h137,Ah s133];refine As (hW.put hfr hni0) hfr hni h133 ⟨_,_,_,_,rfl⟩ (λM c1 c2=>?_);simp only[gB1,↓go1,go5,reduceIte,simprocAttr,c2];exact(c1.put hfr hni0).end0 ha.2.2
theorem W135_no(w:Wb)(o:Oc)(p:Bs)(h0:Oc0 o)(hp:p.length<=1000000)(hk:w.k.es.length<=1000)(mt:Bs×Bool×Bool)(hm:metaT w p=mt)(hq:mt.2.2=true)(ht:mt.1.length<=1000000)(hb:mt.2.1=false∨(B3 mt.1).2≠0):Bv w o [.str p]=some (.tup [.agg (scC sc0),.bool false,.bool true],o,none):=by
 refine A8 (λ_=>h0.ops) ⟨Qa rfl,λh=>⟨rfl,rfl⟩,λl h=>(by cases h),λi m fr t ha hfr hni hni0=>?_⟩;have s123:S135 123=some (Ac B1):=rfl;have s137:S135 137=some (Ac Ez):=rfl;have s240:S135 240=some (Ac R240):=rfl;have hW:=Wt.start ha hfr;unfold dc135;obtain⟨text,there,known⟩:=mt;simp only at hq;have h123:=Cy 1 0 p hp;have h137:=R137_eq w.k (AZ 1 p 0) hk;rw[show CG w.k (AZ 1 p 0)=_ from hm]at h137;unfold kwC at h137;have h240:=R240_eq text ht;unfold scC at h240;have xx:=AO ha.1;subst hq;simp only at hb;generalize B3 text=se at *;obtain⟨s,e⟩:=se;simp only at hb h240;cases there with
 |false=>
  simp only[gB1,↓go1,go5,reduceIte,simprocAttr,xx,hni0,Aa s123,h123,Aa s137,h137,Aa s240,h240];exact(((hW.put hfr hni0).put hfr hni0).put hfr hni0).end0 ha.2.2
 |true=>
  have he:(e=0)=False:=eq_false (hb.resolve_left (by simp));simp only[gB1,↓go1,go5,reduceIte,simprocAttr,xx,hni0,Aa s123,h123,Aa s137,h137,Aa s240,h240,he];exact(((hW.put hfr hni0).put hfr hni0).put hfr hni0).end0 ha.2.2
theorem W135_yes(w:Wb)(o:Oc)(p:Bs)(h0:Oc0 o)(hp:p.length<=1000000)(hk:w.k.es.length<=1000)(mt:Bs×Bool×Bool)(hm:metaT w p=mt)(hq:mt.2.2=true)(ht:mt.1.length<=1000000)(hb:mt.2.1=true)(he:(B3 mt.1).2=0):Bv w o [.str p]=some (.tup [.agg (scC (B3 mt.1).1),.bool true,.bool true],o,none):=by
 refine A8 (λ_=>h0.ops) ⟨Qa rfl,λh=>⟨rfl,rfl⟩,λl h=>(by cases h),λi m fr t ha hfr hni hni0=>?_⟩;have s123:S135 123=some (Ac B1):=rfl;have s137:S135 137=some (Ac Ez):=rfl;have s240:S135 240=some (Ac R240):=rfl;have hW:=Wt.start ha hfr;unfold dc135;obtain⟨text,there,known⟩:=mt;simp only at hq;have h123:=Cy 1 0 p hp;have h137:=R137_eq w.k (AZ 1 p 0) hk;rw[show CG w.k (AZ 1 p 0)=_ from hm]at h137;unfold kwC at h137;have h240:=R240_eq text ht;unfold scC at h240;have xx:=AO ha.1;subst hq;simp only at hb he ⊢;generalize B3 text=se at *;obtain⟨s,e⟩:=se;simp only at he h240;subst hb he;simp only[gB1,↓go1,go5,reduceIte,simprocAttr,xx,hni0,Aa s123,h123,Aa s137,h137,Aa s240,h240];exact(((hW.put hfr hni0).put hfr hni0).put hfr hni0).end0 ha.2.2
def turnO'(o:Oc)(p:Bs)(s:Sc)(gone:List Int):Oc:={BE (o.op 1 (AZ 1 p 0) (packB s)) p gone with rep:=ryT .done}
def S141:Summs:=AF [(54,wQ W54),(244,wQ W244),(245,wQ W245),(56,wQ W56)]
def W141:Wb->Oc->List D->Option WY:=RW S141 dc141 [] 31
theorem ko141:(wQ W141).ok Qb 141:=CU fn141 (Ab ko54 (Ab ko244 (Ab ko245 (Ab ko56 Ad))))
theorem W141_fail(w:Wb)(o:Oc)(s:Sc)(gnl:Bool)(gone:List Int)(e:Int)(h0:Oc0 o)(he:1<=e∧e<=99):W141 w o [.agg (scC s),.slice gnl [] (AR gone),.int .i64 e]=some (.tup [],⟨[],false,ryT (.fail e),true,[],w.v⟩,none):=by
 refine A8 (λ_=>h0.ops) ⟨Qa rfl,λh=>⟨h0.nl.symm,h0.ops.symm⟩,λl h=>(by cases h),λi m fr t ha hfr hni hni0=>?_⟩;have s54:S141 54=some (wQ W54):=rfl;have hW:=Wt.start ha hfr;unfold dc141;unfold scC;have h54:=W54_eq w o e h0 he;have he0:(e=0)=False:=eq_false (by omega);simp only[↓go1,gB3,go5,reduceIte,simprocAttr,he0,Ah s54];refine As (hW.put hfr hni0) hfr hni h54 ⟨_,_,_,_,rfl⟩ (λM c1 c2=>?_);simp only[↓go1,go2,simprocAttr];exact c1.end0 ha.2.2
theorem W141_ok(w:Wb)(o:Oc)(s:Sc)(gnl:Bool)(gone:List Int)(h0:Oc0 o)(hg:gone.length<=900)(hs:s.rs.length<=1000)(hp:w.a.pa.length<=1000000):W141 w o [.agg (scC s),.slice gnl [] (AR gone),.int .i64 0]=some (.tup [],turnO' o w.a.pa s gone,some (if gone=[]then [11,12,10]else [11,11*gone.length,18])):=by
 refine A8 (λ_=>h0.ops) ⟨Qa rfl,λh=>(by cases h),λl h=>(by simp only[Qg]at h;subst h;exact⟨rfl,by split<;>simp⟩),λi m fr t ha hfr hni hni0=>?_⟩;have s244:S141 244=some (wQ W244):=rfl;have s245:S141 245=some (wQ W245):=rfl;have s56:S141 56=some (wQ W56):=rfl;have hW:=Wt.start ha hfr;unfold dc141;have xx:=AO ha.1;have h244:=W244_eq w o w.a.pa s (λ_=>h0.ops) (by rw[h0.ops];simp) hs hp;have h245:=W245_eq w (o.op 1 (AZ 1 w.a.pa 0) (packB s)) w.a.pa gnl [] gone (λh=>by cases h) (by simp[Oc.op,h0.ops];omega) hp;have h56:=W56_eq w (BE (o.op 1 (AZ 1 w.a.pa 0) (packB s)) w.a.pa gone) (λh=>by simp[BE,Oc.op]at h);unfold scC at *;simp only[gB1,↓go1,go5,reduceIte,simprocAttr,xx.2.2.2.2.2.2.2.1,hni0,Ah s244];refine Cg (hW.put hfr hni0) hfr hni h244 ⟨_,_,_,_,rfl⟩ (λM u hu c1 c2=>?_);have xx:=AO c1.at_.1;simp only[↓go1,go3,simprocAttr];refine An.intro (λp hp=>by cases hp) ?_;simp only[↓go1,go2,go4,go5,reduceIte,simprocAttr,xx.2.2.2.2.2.2.2.1,Ah s245];refine As c1 hfr hni h245 ⟨_,_,_,_,rfl⟩ (λM2 d1 d2=>?_);simp only[↓go1,go2,go4,reduceIte,simprocAttr,Ah s56];refine As d1 hfr hni h56 ⟨_,_,_,_,rfl⟩ (λM3 e1 e2=>?_);simp only[↓go1,go2,simprocAttr];unfold dropN at e1;split
 ·rename_i hg0;rw[if_pos hg0]at e1;exact e1.endl (l:=[11,12,10]) (by simp)
 ·rename_i hg0;rw[if_neg hg0]at e1;exact e1.endl (l:=[11,11*gone.length,18]) (by simp)
def Fa(l:List Rw):List Int:=(l.filter λx=>!x.2.2).map (·.1)
def purN:List Rw->Nat->List Nat->List Nat
 |[],_,L=>L
 |x::r,c,L=>if x.2.2=true then purN r (c+10) L else purN r (c+20) [11,11,c+17]
theorem purN_ne:∀{l:List Rw} {c:Nat} {L:List Nat},L≠[]->purN l c L≠[]
 |[],_,_,h=>h
 |x::r,c,L,h=>by
  unfold purN;split
  ·exact purN_ne h
  ·exact purN_ne (by simp)
def Fp(o:Oc)(p:Bs)(l:List Rw):Oc:=BE (o.op 2 (AZ 1 p 0) []) p (Fa l)
theorem dropO_app{o:Oc}{p:Bs}{a b:List Int}:BE (BE o p a) p b=BE o p (a++b):=by
 simp only[BE,Bool.and_assoc,QW,List.append_assoc,Oc.mk.injEq,true_and,and_true];cases a<;>cases b<;>simp
theorem aliveN_len(l:List Rw):(Fa l).length<=l.length:=by
 unfold Fa;rw[Qm];exact List.length_filter_le _ _
theorem aliveN_snoc(l:List Rw)(x:Rw):Fa (l++[x])=Fa l++if x.2.2=true then []else [x.1]:=by
 simp only[Fa,List.filter_append,QW];congr 1;cases h:x.2.2<;>simp[h]
theorem purO_nl{o:Oc}{p:Bs}{l:List Rw}:(Fp o p l).nl=false:=by simp[Fp,BE,Oc.op]
theorem purO_ops{o:Oc}{p:Bs}{l:List Rw}:(Fp o p l).ops.length=o.ops.length+1+(Fa l).length:=by simp[Fp,BE,Oc.op];omega
def S142:Summs:=AF [(123,Ac B1),(122,wQ Fc),(245,wQ W245),(56,wQ W56)]
def W142:Wb->Oc->List D->Option WY:=RW S142 dc142 [] 37
theorem ko142:(wQ W142).ok Qb 142:=CU fn142 (Ab ko123 (Ab ko122 (Ab ko245 (Ab ko56 Ad))))
theorem W142_eq(w:Wb)(o:Oc)(s:Sc)(h0:Oc0 o)(hs:s.rs.length<=900)(hp:w.a.pa.length<=1000000):W142 w o [.agg (scC s)]=some (.tup [],{Fp o w.a.pa s.rs with rep:=ryT .done},some (purN s.rs 13 [11,8])):=by
 refine A8 (λ_=>h0.ops) ⟨Qa rfl,λh=>(by cases h),λl h=>(by simp only[Qg]at h;subst h;exact⟨purO_nl (o:=o) (p:=w.a.pa) (l:=s.rs),purN_ne (by simp)⟩),λi m fr t ha hfr hni hni0=>?_⟩;have s123:S142 123=some (Ac B1):=rfl;have s122:S142 122=some (wQ Fc):=rfl;have s245:S142 245=some (wQ W245):=rfl;have s56:S142 56=some (wQ W56):=rfl;have hW:=Wt.start ha hfr;unfold dc142;have xx:=AO ha.1;have h123:=Cy 1 0 w.a.pa hp;have h122:=Dm w o 2 (AZ 1 w.a.pa 0) [] (λ_=>h0.ops) (by rw[h0.ops];simp);unfold scC;simp only[↓go1,gB3,go5,reduceIte,simprocAttr,xx.2.2.2.2.2.2.2.1,hni0,Aa s123,h123,Ah s122];refine As (hW.put hfr hni0) hfr hni h122 ⟨_,_,_,_,rfl⟩ (λM c1 c2=>?_);simp only[↓go1,go2,go4,go5,reduceIte,simprocAttr,c2,AS];refine Bm (n:=s.rs.length) (I:=λj st=>st.s 15= .slice s.nl [] (Ba s.rs)∧st.s 16= .int .i64 s.rs.length∧st.s 17= .int .i64 (j:Int)∧st.s 0= .ptr i 0∧∃L,L≠[]∧purN (s.rs.drop j) st.c L=purN s.rs 13 [11,8]∧Wt i fr m o.nl t st.m w (Fp o w.a.pa (s.rs.take j)) (L++fr)) (λj hj ih st g hI=>?_) (λst g hI=>?_) 0 (Qh _) _ _ ⟨rfl,rfl,rfl,rfl,[11,8],by simp,rfl,by have c3:Wt i fr m o.nl t M w (o.op 2 (AZ 1 w.a.pa 0) []) ([11,8]++fr):=c1;simpa[Fp,Fa,dropO_nil]using c3⟩
 ·obtain⟨st_s,st_m,st_c⟩:=st;obtain⟨h15,h16,h17,hs0,L,hL,hn,hw⟩:=hI;simp only at h15 h16 h17 hs0 hn hw;refine Af dc142l0.eq_1 ?_;have hlt:((j:Int)<(s.rs.length:Int))=True:=eq_true (by omega);have hj0:(0:Int)<=(j:Int):=by omega
  have hat:=EJ (l:=s.rs) (j:=j) hj;have hw1:IntKind.i64.wrap ((j:Int)+1)=((j+1:Nat):Int):=by rw[w64 (by omega) (by omega)];omega
  have hd:s.rs.drop j=s.rs[j]::s.rs.drop (j+1):=QZ hj;have htk:s.rs.take (j+1)=s.rs.take j++[s.rs[j]]:=Qt hj;rw[hd]at hn;generalize s.rs[j]=x at *;obtain⟨n,b,dead⟩:=x;have hal:=aliveN_snoc (s.rs.take j) (n,b,dead);rw[←htk]at hal;simp only at hal hat;have xx:=AO hw.at_.1;cases dead with
  |true=>
   simp only[gB1,↓go1,go5,reduceIte,simprocAttr,h15,h16,h17,hlt,hj0,Qn,hat,hw1];refine ih _ _ ⟨h15,h16,rfl,hs0,L,hL,by simpa[purN]using hn,?_⟩;have e:Fp o w.a.pa (s.rs.take (j+1))=Fp o w.a.pa (s.rs.take j):=by unfold Fp;rw[hal];simp
   rw[e];exact((hw.put hfr hni0).put hfr hni0)
  |false=>
   have e:BE (Fp o w.a.pa (s.rs.take j)) w.a.pa [n]=Fp o w.a.pa (s.rs.take (j+1)):=by unfold Fp;rw[hal,dropO_app];rfl
   have hop:(Fp o w.a.pa (s.rs.take j)).ops.length+1<=1000:=by
    rw[purO_ops,h0.ops];have:=aliveN_len (s.rs.take j);rw[Qq]at this;simp only[Qj];omega
   have h245:=W245_eq w (Fp o w.a.pa (s.rs.take j)) w.a.pa false ((st_c+1+4+3+8)::fr) [n] (λh=>by rw[purO_nl]at h;cases h) hop hp;rw[e]at h245;have h245:W245 w (Fp o w.a.pa (s.rs.take j)) [.str w.a.pa,.slice false ((st_c+1+4+3+8)::fr) [.int .i64 n]]=some (.tup [],Fp o w.a.pa (s.rs.take (j+1)),some [11,11]):=h245;simp only[gB1,↓go1,go5,reduceIte,simprocAttr,hs0,h15,h16,h17,hlt,hj0,Qn,hat,xx.2.2.2.2.2.2.2.1,hni0,Ah s245];refine Cg (((hw.put hfr hni0).put hfr hni0).put hfr hni0) hfr hni h245 ⟨_,_,_,_,rfl⟩ (λM u hu c1 c2=>?_);simp only[↓go1,go3,go4,go5,simprocAttr];refine An.intro (Aj ?_) ?_
   ·simp[Ax,Aq,rds,Ae];show ¬((st_c+1+4+3+8)::fr,0)∈[(i,7)];intro hm;simp only[Qk,QI]at hm;exact(hni0 _).mp hm.1.symm
   simp only[↓go1,go2,reduceIte,simprocAttr,h17,hw1];refine ih _ _ ⟨h15,h16,rfl,hs0,[11,11,st_c+17],by simp,by simpa[purN]using hn,c1⟩
 ·obtain⟨st_s,st_m,st_c⟩:=st;obtain⟨h15,h16,h17,hs0,L,hL,hn,hw⟩:=hI;simp only at h15 h16 h17 hs0 hn hw;refine Af dc142l0.eq_1 ?_;have h56:=W56_eq w (Fp o w.a.pa s.rs) (λh=>by rw[purO_nl]at h;cases h);rw[QS]at hw;rw[List.drop_length]at hn;simp only[↓go1,go2,go4,go5,reduceIte,simprocAttr,hs0,h16,h17,QJ,Ah s56];refine As hw hfr hni h56 ⟨_,_,_,_,rfl⟩ (λM c1 c2=>?_);simp only[↓go1,go2,simprocAttr];rw[←hn];exact c1.endl hL
theorem AT{l:Loc}{i:Id}{o n:Nat}(h:l∈Ae i o n):l.1=i:=by
 simp only[Ae,Qr]at h;obtain⟨_,_,rfl⟩:=h;rfl
theorem AC{l:Loc}{i:Id}{o:Nat}{ds:List D}(h:l∈Aq [(i,o,ds)]):l.1=i:=by
 simp only[Aq,Q0,List.flatMap_nil,Q5]at h;exact AT h
theorem AA{l:Loc}{P:Prop}(h:l∈([]:List Loc)):P:=by cases h
def wriO(o:Oc)(p:Bs)(r:Sc×Int×List Int×Int)(data:Bs):Oc:={BE ((o.op 1 (AZ 1 p 0) (packB r.1)).op 1 (AZ 2 p r.2.1) data) p r.2.2.1 with rep:=ryT (.number r.2.1)}
def S138:Summs:=AF [(140,wQ W140),(243,Ac R243),(54,wQ W54),(244,wQ W244),(123,Ac B1),(122,wQ Fc),(245,wQ W245),(55,wQ W55)]
def W138:Wb->Oc->List D->Option WY:=RW S138 dc138 [] 50
theorem ko138:(wQ W138).ok Qb 138:=CU fn138 (Ab ko140 (Ab ko243 (Ab ko54 (Ab ko244 (Ab ko123 (Ab ko122 (Ab ko245 (Ab ko55 Ad))))))))
theorem W138_fail(w:Wb)(o:Oc)(p:Bs)(s:Sc)(cas:Int)(data:Bs)(h0:Oc0 o)(hs:s.rs.length<=800)(hnl:s.nl=true->s.rs=[])(hp:p.length<=1000000)(hd:data.length<=1000000)(hm:w.v.ms.length<=1000)(r:Sc×Int×List Int×Int)(hr:CI s (B6 w.v p).1 (B6 w.v p).2 cas data.length=r)(he:1<=r.2.2.2∧r.2.2.2<=99):W138 w o [.str p,.agg (scC s),.int .i64 cas,.str data]=some (.tup [],⟨[],false,ryT (.fail r.2.2.2),true,[],w.v⟩,none):=by
 refine A8 (λ_=>h0.ops) ⟨Qa rfl,λh=>⟨h0.nl.symm,h0.ops.symm⟩,λl h=>(by cases h),λi m fr t ha hfr hni hni0=>?_⟩;have s140:S138 140=some (wQ W140):=rfl;have s243:S138 243=some (Ac R243):=rfl;have s54:S138 54=some (wQ W54):=rfl;have hW:=Wt.start ha hfr;unfold dc138;have h243:=R243_eq s (B6 w.v p).1 (B6 w.v p).2 cas data.length (by omega) hnl;rw[hr]at h243;obtain⟨s2,n,gone,e⟩:=r;simp only at he h243 ⊢;have h140:=W140_eq w o p (λ_=>h0.ops) hm;generalize B6 w.v p=qb at *;unfold scC at *;simp only[gB1,↓go1,go5,reduceIte,simprocAttr,Ah s140];refine Cg (hW.put hfr hni0) hfr hni h140 ⟨_,_,_,_,rfl⟩ (λM u hu c1 c2=>?_);simp only[gB1,↓go1,go5,reduceIte,simprocAttr,Aa s243,h243];refine An.intro ?_ ?_
 ·subst hu;have a1:=at24 (hW.put hfr hni0 (q:=0) (p:=0) (ys:=[.int .i64 s.mx,.bool s.cas,.int .i64 s.la,.slice s.nl [] (Ba s.rs)])).at_.1;intro pp hpp l hl;simp only[Qd,Qe,or_false]at hpp;rcases hpp with rfl|rfl|rfl|rfl|rfl|rfl
  ·change l∈Aq [(i,0,wkC w o t)]at hl;refine⟨λh=>?_,λh=>AA h⟩;change l∈Ae (0::fr) 0 4 at h;exact(hni0 0).mp ((AC hl).symm.trans (AT h))
  ·change l∈Aq [(i,0,wkC w o t)]at hl;exact⟨λh=>AA h,λh=>(hni0 14).mp ((AC hl).symm.trans (AC h))⟩
  ·exact AA hl
  ·have hl':l.1=14::fr:=AC hl;refine⟨λh=>?_,λh=>AA h⟩;change l∈Ae (0::fr) 0 4 at h;have:=hl'.symm.trans (AT h);simp at this
  ·have hl':l.1=14::fr:=AC hl;refine⟨λh=>?_,λh=>?_⟩
   ·rcases Qw.1 h with h|h
    ·exact(hni0 14).mp ((AT h).symm.trans hl')
    ·rw[a1]at h;rw[Qk.1 h]at hl';exact hW.loc 14 hl'
   ·change l∈Aq [(i,0,wkC w o t)]at h;exact(hni0 14).mp ((AC h).symm.trans hl')
  ·exact⟨λh=>AA h,λh=>AA h⟩
 have h54:=W54_eq w o e h0 he;have he0:(e=0)=False:=eq_false (by omega);simp only[↓go1,gB3,go5,reduceIte,simprocAttr,he0,Ah s54];refine As ((c1.put hfr hni0).put hfr hni0) hfr hni h54 ⟨_,_,_,_,rfl⟩ (λM2 d1 d2=>?_);simp only[↓go1,go2,simprocAttr];exact d1.end0 ha.2.2
theorem W138_ok(w:Wb)(o:Oc)(p:Bs)(s:Sc)(cas:Int)(data:Bs)(h0:Oc0 o)(hs:s.rs.length<=800)(hnl:s.nl=true->s.rs=[])(hp:p.length<=1000000)(hd:data.length<=1000000)(hm:w.v.ms.length<=1000)(r:Sc×Int×List Int×Int)(hr:CI s (B6 w.v p).1 (B6 w.v p).2 cas data.length=r)(he:r.2.2.2=0)(hs2:r.1.rs.length<=1000)(hg:r.2.2.1.length<=900):W138 w o [.str p,.agg (scC s),.int .i64 cas,.str data]=some (.tup [],wriO o p r data,some (if r.2.2.1=[]then [11,30]else [11,11*r.2.2.1.length,34])):=by
 refine A8 (λ_=>h0.ops) ⟨Qa rfl,λh=>(by cases h),λl h=>(by simp only[Qg]at h;subst h;exact⟨by simp[wriO,BE,Oc.op],by split<;>simp⟩),λi m fr t ha hfr hni hni0=>?_⟩;have s140:S138 140=some (wQ W140):=rfl;have s243:S138 243=some (Ac R243):=rfl;have s244:S138 244=some (wQ W244):=rfl;have s123:S138 123=some (Ac B1):=rfl;have s122:S138 122=some (wQ Fc):=rfl;have s245:S138 245=some (wQ W245):=rfl;have s55:S138 55=some (wQ W55):=rfl;have hW:=Wt.start ha hfr;unfold dc138;have h243:=R243_eq s (B6 w.v p).1 (B6 w.v p).2 cas data.length (by omega) hnl;rw[hr]at h243;obtain⟨s2,n,gone,e⟩:=r;simp only at he h243 hs2 hg ⊢;subst he;have h140:=W140_eq w o p (λ_=>h0.ops) hm;generalize B6 w.v p=qb at *;unfold scC at *;simp only[gB1,↓go1,go5,reduceIte,simprocAttr,Ah s140];refine Cg (hW.put hfr hni0) hfr hni h140 ⟨_,_,_,_,rfl⟩ (λM u hu c1 c2=>?_);simp only[gB1,↓go1,go5,reduceIte,simprocAttr,Aa s243,h243];refine An.intro ?_ ?_
 ·subst hu;have a1:=at24 (hW.put hfr hni0 (q:=0) (p:=0) (ys:=[.int .i64 s.mx,.bool s.cas,.int .i64 s.la,.slice s.nl [] (Ba s.rs)])).at_.1;intro pp hpp l hl;simp only[Qd,Qe,or_false]at hpp;rcases hpp with rfl|rfl|rfl|rfl|rfl|rfl
  ·change l∈Aq [(i,0,wkC w o t)]at hl;refine⟨λh=>?_,λh=>AA h⟩;change l∈Ae (0::fr) 0 4 at h;exact(hni0 0).mp ((AC hl).symm.trans (AT h))
  ·change l∈Aq [(i,0,wkC w o t)]at hl;exact⟨λh=>AA h,λh=>(hni0 14).mp ((AC hl).symm.trans (AC h))⟩
  ·exact AA hl
  ·have hl':l.1=14::fr:=AC hl;refine⟨λh=>?_,λh=>AA h⟩;change l∈Ae (0::fr) 0 4 at h;have:=hl'.symm.trans (AT h);simp at this
  ·have hl':l.1=14::fr:=AC hl;refine⟨λh=>?_,λh=>?_⟩
   ·rcases Qw.1 h with h|h
    ·exact(hni0 14).mp ((AT h).symm.trans hl')
    ·rw[a1]at h;rw[Qk.1 h]at hl';exact hW.loc 14 hl'
   ·change l∈Aq [(i,0,wkC w o t)]at h;exact(hni0 14).mp ((AC h).symm.trans hl')
  ·exact⟨λh=>AA h,λh=>AA h⟩
 have h244:=W244_eq w o p s2 (λ_=>h0.ops) (by rw[h0.ops];simp) hs2 hp;have h123:=Cy 2 n p hp;have h122:=Dm w (o.op 1 (AZ 1 p 0) (packB s2)) 1 (AZ 2 p n) data (λh=>by cases h) (by simp[Oc.op,h0.ops]);have h245:=W245_eq w ((o.op 1 (AZ 1 p 0) (packB s2)).op 1 (AZ 2 p n) data) p (decide (gone=[])) [] gone (λh=>by cases h) (by simp[Oc.op,h0.ops];omega) hp;have h55:=FZ w (BE ((o.op 1 (AZ 1 p 0) (packB s2)).op 1 (AZ 2 p n) data) p gone) (.number n) (λh=>by simp[BE,Oc.op]at h) trivial trivial;unfold scC at h244;unfold ryC at h55;simp only[gB1,↓go1,go5,reduceIte,simprocAttr,Ah s244];refine As ((c1.put hfr hni0).put hfr hni0) hfr hni h244 ⟨_,_,_,_,rfl⟩ (λM2 d1 d2=>?_);simp only[↓go1,gB3,reduceIte,simprocAttr,Aa s123,h123,Ah s122];refine As d1 hfr hni h122 ⟨_,_,_,_,rfl⟩ (λM3 e1 e2=>?_);simp only[↓go1,go2,go4,reduceIte,simprocAttr,Ah s245];refine As e1 hfr hni h245 ⟨_,_,_,_,rfl⟩ (λM4 f1 f2=>?_);simp only[↓go1,gB3,go5,reduceIte,simprocAttr,Ah s55];refine As f1 hfr hni h55 ⟨_,_,_,_,rfl⟩ (λM5 g1 g2=>?_);simp only[↓go1,go2,simprocAttr];unfold dropN at g1;split
 ·rename_i hg0;rw[if_pos hg0]at g1;exact g1.endl (l:=[11,30]) (by simp)
 ·rename_i hg0;rw[if_neg hg0]at g1;exact g1.endl (l:=[11,11*gone.length,34]) (by simp)
end Go.Vd
namespace Go.Vd
open Go.Proofs
def dc64:DC:=(sr [mm 16 0,mm 17 0,nk 18 17,ff 19 5 18,ff 20 2 19,ll 21 20,cc 22 135 [(.t 16),(.t 21)],mm 15 22,xx 23 0 15,xx 24 1 15,xx 25 2 15,oo 2 (.alloc [(.int .i64 0),(.bool false),(.int .i64 0),(.slice true [] [])]),oz (.store 4 (.t 2) (.t 23)),mm 3 24,mm 4 25] (.seq (sr [mm 26 4,oo 27 (.un .not (.t 26))] (cd 27 .ret .skip)) (.block 0 (sr [mm 45 0,nk 46 45,ff 47 5 46,ff 48 0 47,ll 49 48,oo 50 (.bin .eql (.t 49) (.c (.int .u8 10))),mm 44 50] (cd 44 (.drawn [mm 51 0,mm 52 0,nk 53 52,ff 54 5 53,ff 55 2 54,ll 56 55,lk 57 4 2,mm 58 0,nk 59 58,ff 60 5 59,ff 61 5 60,ll 62 61,mm 63 0,nk 64 63,ff 65 5 64,ff 66 8 65,ll 67 66,cc 68 138 [(.t 51),(.t 56),(.t 57),(.t 62),(.t 67)]] []) (sr [mm 70 0,nk 71 70,ff 72 5 71,ff 73 0 72,ll 74 73,oo 75 (.bin .eql (.t 74) (.c (.int .u8 15))),mm 69 75] (cd 69 (.seq (.drawn [lk 77 4 2,mm 78 0,mm 79 0,nk 80 79,ff 81 5 80,ff 82 2 81,ll 83 82,cc 84 140 [(.t 78),(.t 83)],mm 85 0,nk 86 85,ff 87 5 86,ff 88 4 87,ll 89 88,mm 90 0,nk 91 90,ff 92 5 91,ff 93 6 92,ll 94 93,cc 95 139 [(.t 77),(.t 84),(.t 89),(.t 94)],mm 76 95,xx 96 0 76,xx 97 1 76,xx 98 2 76,oo 5 (.alloc [(.int .i64 0),(.bool false),(.int .i64 0),(.slice true [] [])]),oz (.store 4 (.t 5) (.t 96)),mm 6 97,mm 7 98] [(7,0),(7,12),(7,17),(7,23),(18,23),(23,0),(23,6),(23,7),(23,12),(23,17),(23,18)]) (.row [mm 99 0,lk 100 4 5,mm 101 6,mm 102 7,cc 103 141 [(.t 99),(.t 100),(.t 101),(.t 102)]])) (sr [mm 105 3,oo 106 (.un .not (.t 105)),mm 104 106] (cd 104 (.row [mm 107 0,cc 108 54 [(.t 107),(.c (.int .i64 6))]]) (sr [mm 110 0,nk 111 110,ff 112 5 111,ff 113 0 112,ll 114 113,oo 115 (.bin .eql (.t 114) (.c (.int .u8 14))),mm 109 115] (cd 109 (.row [mm 116 0,lk 117 4 2,oo 118 (.build [(.int .u8 0),(.int .i64 0),(.int .i64 0),(.str []),(.slice true [] []),(.int .i64 0),(.bool false),(.int .i64 0),(.slice true [] []),(.bool false)] [(0,1,(.c (.int .u8 4))),(5,4,(.t 117))]),cc 119 55 [(.t 116),(.t 118)]]) (sr [mm 121 0,nk 122 121,ff 123 5 122,ff 124 0 123,ll 125 124,oo 126 (.bin .eql (.t 125) (.c (.int .u8 16))),mm 120 126] (cd 120 (.row [mm 127 0,lk 128 4 2,cc 129 142 [(.t 127),(.t 128)]]) (sr [mm 131 0,nk 132 131,ff 133 5 132,ff 134 0 133,ll 135 134,oo 136 (.bin .eql (.t 135) (.c (.int .u8 11))),mm 130 136] (cd 130 (.seq (.drawn [lk 138 4 2,mm 139 0,nk 140 139,ff 141 5 140,ff 142 7 141,ll 143 142,cc 144 143 [(.t 138),(.t 143)],mm 137 144,xx 145 0 137,xx 146 1 137,oo 8 (.alloc [(.int .i64 0),(.bool false),(.int .i64 0),(.slice true [] [])]),oz (.store 4 (.t 8) (.t 145)),mm 9 146] [(6,10),(10,0),(10,5),(10,6)]) (.row [mm 147 0,lk 148 4 8,mm 149 9,cc 150 141 [(.t 147),(.t 148),(.c (.slice true [] [])),(.t 149)]])) (sr [mm 152 0,nk 153 152,ff 154 5 153,ff 155 0 154,ll 156 155,oo 157 (.bin .eql (.t 156) (.c (.int .u8 12))),mm 151 157] (cd 151 (.seq (.drawn [lk 159 4 2,mm 160 0,nk 161 160,ff 162 5 161,ff 163 7 162,ll 164 163,cc 165 144 [(.t 159),(.t 164)],mm 158 165,xx 166 0 158,xx 167 1 158,oo 10 (.alloc [(.int .i64 0),(.bool false),(.int .i64 0),(.slice true [] [])]),oz (.store 4 (.t 10) (.t 166)),mm 11 167] [(6,10),(10,0),(10,5),(10,6)]) (.row [mm 168 0,lk 169 4 10,mm 170 11,cc 171 141 [(.t 168),(.t 169),(.c (.slice true [] [])),(.t 170)]])) (.seq (.drawn [lk 29 4 2,mm 30 0,nk 31 30,ff 32 5 31,ff 33 7 32,ll 34 33,cc 35 145 [(.t 29),(.t 34)],mm 28 35,xx 36 0 28,xx 37 1 28,xx 38 2 28,oo 12 (.alloc [(.int .i64 0),(.bool false),(.int .i64 0),(.slice true [] [])]),oz (.store 4 (.t 12) (.t 36)),mm 13 37,mm 14 38] [(6,11),(11,0),(11,5),(11,6)]) (.row [mm 39 0,lk 40 4 12,mm 41 13,mm 42 14,cc 43 141 [(.t 39),(.t 40),(.t 41),(.t 42)]])))))))))))))))))))
theorem fn64:Fn Qb 64 172 dc64 []:=Am func64
end Go.Vd
namespace Go.Vd
open Go.Proofs Go.RowKit
def rdQ(F:Wb->Oc->List D->Option WY):Summ where
 rd:=(wQ F).rd
 ex:=λds m fr=>match ds with
  | .ptr i 0::rest=>(pickW (atW m i)).bind λx=>(F x.1 x.2.1 rest).bind λy=>open Classical in if y.2.1=x.2.1∧y.2.2=none then some (y.1,[])else none
  |_=>none
theorem rdQ_loc{F:Wb->Oc->List D->Option WY}(ds:List D)(m m':Mem)(fr:Id)(h:∀l∈(rdQ F).rd ds m,m l.1 l.2=m' l.1 l.2):(rdQ F).ex ds m fr=(rdQ F).ex ds m' fr:=by
 simp only[rdQ,wQ]at h ⊢;split
 ·rename_i i rest;have hr:Ai m i 0 30=Ai m' i 0 30:=Bu (λl hl=>h l (List.mem_append_left _ hl));have hp:atW m i=atW m' i:=by
   funext x;obtain⟨w,o,t⟩:=x;apply propext;unfold atW;rw[hr];have key:Ai m' i 0 30=some (wkC w o t)->BG m 107 o.nl t o.ops.isEmpty=BG m' 107 o.nl t o.ops.isEmpty:=λhc=>by
    refine DN (h (t,0) (Q7 _ ?_));have:=at24 (hr.trans hc);rw[this];simp
   constructor
   ·rintro⟨a,b,c⟩;exact⟨a,by rw[←key a];exact b,c⟩
   ·rintro⟨a,b,c⟩;exact⟨a,by rw[key a];exact b,c⟩
  rw[hp]
 ·rfl
theorem rdq_ok{S:Summs}{f:FuncId}{N:Nat}{dc:DC}{rs:List RV}(hf:Fn Qb f N dc rs)(hS:Summs.ok Qb S):(rdQ (RW S dc rs N)).ok Qb f:=by
 refine opn_ok2 hS hf rdQ_loc (λds m fr r u hex hfr=>?_);simp only[rdQ]at hex;split at hex
 ·rename_i i rest;rw[Q3]at hex;obtain⟨⟨w,o,t⟩,hp,hex⟩:=hex;rw[Q3]at hex;obtain⟨⟨y1,y2,y3⟩,hF,hex⟩:=hex;simp only at hex;split at hex
  ·rename_i hy;obtain⟨rfl,rfl⟩:=hy;simp only[Qg,QI]at hex;obtain⟨rfl,rfl⟩:=hex;have hat:=pickW_get hp;obtain⟨hN,hs1,hs2,hrun⟩:=Ej hF;have hm0:m i 0=some (.bool w.v.se):=wt_bool hat.1;have hni:∀k l,(i=l++k::fr)=False:=λk l=>eq_false (λe=>by
    rw[e,hfr _ _ ⟨l++[k],by simp⟩]at hm0;cases hm0)
   refine⟨hN,wp_mono' (hrun i m fr t hat hfr hni (λk=>hni k [])) (λe st' he=>?_)⟩;obtain⟨he1,d,he2,rfl,hE⟩:=he;refine⟨he1,_,he2,rfl,λj x dd hx=>?_⟩;obtain⟨g1,g2⟩:=hE;have hx':m j x=some dd:=hx;by_cases hj:j≠i∨30<=x
   ·exact g2 j x dd hj hx'
   ·have hji:j=i:=Classical.byContradiction (λh=>hj (.inl h));have hx30:x<30:=Nat.lt_of_not_le (λh=>hj (.inr h));subst hji;obtain⟨v,hv⟩:∃v,(wkC w y2 t)[x]?=some v:=⟨_,Qf (by rw[Cu];exact hx30)⟩;have e1:=Bp hat.1 hv;have e2:=Bp g1 hv;rw[e2,←e1,hx']
  ·cases hex
 ·cases hex
theorem got_rd{F:Wb->Oc->List D->Option WY}{w:Wb}{o:Oc}{t i fr:Id}{m:Mem}{rest:List D}{d:D}{K:D×Upd->Prop}{g}(ha:atW m i (w,o,t))(hF:F w o rest=some (d,o,none))(h:K (d,[])):Got ((rdQ F).ex (.ptr i 0::rest) m fr) K g:=by
 refine Got.intro ?_ h;simp only[rdQ,pickW_eq ha (λz hz=>atW_uniq ha hz),Option.bind_some,hF,and_self,if_true]
theorem Wt.endc{i fr t0:Id}{m0 m:Mem}{nl0:Bool}{w:Wb}{o:Oc}{k:Nat}{d:D}{ol:Option (List Nat)}(h:Wt i fr m0 nl0 t0 m w o (nameW t0 (k::fr) ol))(hn0:nl0=true->t0=[]):WE i fr m0 nl0 t0 w (d,o,ol.map (·++[k])) d m:=by
 cases ol with
 |none=>exact h.end0 hn0
 |some l=>
  have h2:Wt i fr m0 nl0 t0 m w o ((l++[k])++fr):=by simpa[nameW]using h
  exact h2.endl (by simp)
theorem Cl{S:Summs}{dc:DC}{rs:List RV}{N:Nat}{w:Wb}{o o':Oc}{rest:List D}{d:D}{ol:Option (List Nat)}{k:Nat}(hF:RW S dc rs N w o rest=some (d,o',ol))(h:ol.map (·++[k])=none):o'.nl=o.nl∧o'.ops=o.ops:=(Ej hF).2.1 (by simpa using h)
theorem Ck{S:Summs}{dc:DC}{rs:List RV}{N:Nat}{w:Wb}{o o':Oc}{rest:List D}{d:D}{ol:Option (List Nat)}{k:Nat}{l:List Nat}(hF:RW S dc rs N w o rest=some (d,o',ol))(h:ol.map (·++[k])=some l):o'.nl=false∧l≠[]:=by
 cases ol with
 |none=>cases h
 |some l'=>
  simp only[Q6,Qg]at h;subst h;exact⟨((Ej hF).2.2.1 l' rfl).1,by simp⟩
theorem ro140:(rdQ W140).ok Qb 140:=rdq_ok fn140 (Ab ok248 Ad)
def S64:Summs:=AF [(135,wQ Bv),(138,wQ W138),(140,rdQ W140),(139,Ac R139),(141,wQ W141),(54,wQ W54),(55,wQ W55),(142,wQ W142),(143,Ac R143),(144,Ac R144),(145,Ac R145)]
def W64:Wb->Oc->List D->Option WY:=RW S64 dc64 [] 172
theorem ko64:(wQ W64).ok Qb 64:=CU fn64 (Ab ko135 (Ab ko138 (Ab ro140 (Ab ko139 (Ab ko141 (Ab ko54 (Ab ko55 (Ab ko142 (Ab ko143 (Ab ko144 (Ab ko145 Ad)))))))))))
theorem W64_need(w:Wb)(o:Oc)(s:Sc)(is:Bool)(o2:Oc)(ho:o.nl=true->o.ops=[])(h135:Bv w o [.str w.a.pa]=some (.tup [.agg (scC s),.bool is,.bool false],o2,none)):W64 w o []=some (.tup [],o2,none):=by
 refine A8 ho ⟨Qa rfl,λh=>((Ej h135).2.1 rfl),λl h=>(by cases h),λi m fr t ha hfr hni hni0=>?_⟩;have s135:S64 135=some (wQ Bv):=rfl;have hW:=Wt.start ha hfr;unfold dc64;have xx:=AO ha.1;unfold scC at *;simp only[↓go1,go2,go4,go5,reduceIte,simprocAttr,xx,Ah s135];refine As hW hfr hni h135 ⟨_,_,_,_,rfl⟩ (λM c1 c2=>?_);simp only[gB1,↓go1,go5,reduceIte,simprocAttr];exact((c1.put hfr hni0).put hfr hni0).end0 ha.2.2
theorem W64_write(w:Wb)(o:Oc)(s:Sc)(is:Bool)(o2:Oc)(ol:Option (List Nat))(ho:o.nl=true->o.ops=[])(h135:Bv w o [.str w.a.pa]=some (.tup [.agg (scC s),.bool is,.bool true],o,none))(hop:w.a.op=10)(h138:W138 w o [.str w.a.pa,.agg (scC s),.int .i64 w.a.cas,.str w.a.da]=some (.tup [],o2,ol)):W64 w o []=some (.tup [],o2,ol.map (·++[41])):=by
 refine A8 ho ⟨Qa rfl,λh=>Cl h138 h,λl h=>Ck h138 h,λi m fr t ha hfr hni hni0=>?_⟩;have s135:S64 135=some (wQ Bv):=rfl;have s138:S64 138=some (wQ W138):=rfl;have hW:=Wt.start ha hfr;unfold dc64;have xx:=AO ha.1;unfold scC at *;simp only[↓go1,go2,go4,go5,reduceIte,simprocAttr,xx,Ah s135];refine As hW hfr hni h135 ⟨_,_,_,_,rfl⟩ (λM c1 c2=>?_);have xx:=AO c1.at_.1;simp only[gB1,↓go1,go5,reduceIte,simprocAttr,xx,hni0,Ah s138,hop];refine Cg ((c1.put hfr hni0).put hfr hni0) hfr hni h138 ⟨_,_,_,_,rfl⟩ (λM2 u hu d1 d2=>?_);simp only[↓go1,go3,simprocAttr];refine An.intro (λp hp=>by cases hp) ?_;simp only[↓go1,go2,simprocAttr];exact d1.endc ha.2.2
theorem W64_none(w:Wb)(o:Oc)(s:Sc)(o2:Oc)(ol:Option (List Nat))(ho:o.nl=true->o.ops=[])(h135:Bv w o [.str w.a.pa]=some (.tup [.agg (scC s),.bool false,.bool true],o,none))(h10:w.a.op≠10)(h15:w.a.op≠15)(h54:W54 w o [.int .i64 6]=some (.tup [],o2,ol)):W64 w o []=some (.tup [],o2,ol.map (·++[35])):=by
 refine A8 ho ⟨Qa rfl,λh=>Cl h54 h,λl h=>Ck h54 h,λi m fr t ha hfr hni hni0=>?_⟩;have s135:S64 135=some (wQ Bv):=rfl;have s54:S64 54=some (wQ W54):=rfl;have hW:=Wt.start ha hfr;unfold dc64;have xx:=AO ha.1;unfold scC at *;simp only[↓go1,go2,go4,go5,reduceIte,simprocAttr,xx,Ah s135];refine As hW hfr hni h135 ⟨_,_,_,_,rfl⟩ (λM c1 c2=>?_);have xx:=AO c1.at_.1;simp only[gB1,↓go1,go5,reduceIte,simprocAttr,xx,hni0,eq_false h10,eq_false h15,Ah s54];refine As ((c1.put hfr hni0).put hfr hni0) hfr hni h54 ⟨_,_,_,_,rfl⟩ (λM2 d1 d2=>?_);simp only[↓go1,go2,simprocAttr];exact d1.endc ha.2.2
theorem W64_about(w:Wb)(o:Oc)(s:Sc)(o2:Oc)(ol:Option (List Nat))(ho:o.nl=true->o.ops=[])(h135:Bv w o [.str w.a.pa]=some (.tup [.agg (scC s),.bool true,.bool true],o,none))(hop:w.a.op=14)(h55:W55 w o [.agg (ryC (.about s))]=some (.tup [],o2,ol)):W64 w o []=some (.tup [],o2,ol.map (·++[44])):=by
 refine A8 ho ⟨Qa rfl,λh=>Cl h55 h,λl h=>Ck h55 h,λi m fr t ha hfr hni hni0=>?_⟩;have s135:S64 135=some (wQ Bv):=rfl;have s55:S64 55=some (wQ W55):=rfl;have hW:=Wt.start ha hfr;unfold dc64;have xx:=AO ha.1;unfold scC at *;simp only[↓go1,go2,go4,go5,reduceIte,simprocAttr,xx,Ah s135];refine As hW hfr hni h135 ⟨_,_,_,_,rfl⟩ (λM c1 c2=>?_);have xx:=AO c1.at_.1;simp only[gB1,↓go1,go5,reduceIte,simprocAttr,xx,hni0,Ah s55,hop];refine As ((c1.put hfr hni0).put hfr hni0) hfr hni h55 ⟨_,_,_,_,rfl⟩ (λM2 d1 d2=>?_);simp only[↓go1,go2,simprocAttr];exact d1.endc ha.2.2
theorem W64_purge(w:Wb)(o:Oc)(s:Sc)(o2:Oc)(ol:Option (List Nat))(ho:o.nl=true->o.ops=[])(h135:Bv w o [.str w.a.pa]=some (.tup [.agg (scC s),.bool true,.bool true],o,none))(hop:w.a.op=16)(h142:W142 w o [.agg (scC s)]=some (.tup [],o2,ol)):W64 w o []=some (.tup [],o2,ol.map (·++[50])):=by
 refine A8 ho ⟨Qa rfl,λh=>Cl h142 h,λl h=>Ck h142 h,λi m fr t ha hfr hni hni0=>?_⟩;have s135:S64 135=some (wQ Bv):=rfl;have s142:S64 142=some (wQ W142):=rfl;have hW:=Wt.start ha hfr;unfold dc64;have xx:=AO ha.1;unfold scC at *;simp only[↓go1,go2,go4,go5,reduceIte,simprocAttr,xx,Ah s135];refine As hW hfr hni h135 ⟨_,_,_,_,rfl⟩ (λM c1 c2=>?_);have xx:=AO c1.at_.1;simp only[gB1,↓go1,go5,reduceIte,simprocAttr,xx,hni0,Ah s142,hop];refine As ((c1.put hfr hni0).put hfr hni0) hfr hni h142 ⟨_,_,_,_,rfl⟩ (λM2 d1 d2=>?_);simp only[↓go1,go2,simprocAttr];exact d1.endc ha.2.2
theorem W64_config(w:Wb)(o:Oc)(s:Sc)(is:Bool)(o2:Oc)(ol:Option (List Nat))(ho:o.nl=true->o.ops=[])(h135:Bv w o [.str w.a.pa]=some (.tup [.agg (scC s),.bool is,.bool true],o,none))(hop:w.a.op=15)(q:Int)(b:Bool)(s2:Sc)(gnl:Bool)(gone:List Int)(e:Int)(h141:W141 w o [.agg (scC s2),.slice gnl [] (AR gone),.int .i64 e]=some (.tup [],o2,ol))(h140:W140 w o [.str w.a.pa]=some (.agg [.int .i64 q,.bool b],o,none))(h139:R139 [.agg (scC s),.agg [.int .i64 q,.bool b],.int .i64 w.a.n,.bool w.a.fl]=some (.tup [.agg (scC s2),.slice gnl [] (AR gone),.int .i64 e])):W64 w o []=some (.tup [],o2,ol.map (·++[62])):=by
 refine A8 ho ⟨Qa rfl,λh=>Cl h141 h,λl h=>Ck h141 h,λi m fr t ha hfr hni hni0=>?_⟩;have s135:S64 135=some (wQ Bv):=rfl;have s140:S64 140=some (rdQ W140):=rfl;have s139:S64 139=some (Ac R139):=rfl;have s141:S64 141=some (wQ W141):=rfl;have hW:=Wt.start ha hfr;unfold dc64;have xx:=AO ha.1;unfold scC at *;simp only[↓go1,go2,go4,go5,reduceIte,simprocAttr,xx,Ah s135];refine As hW hfr hni h135 ⟨_,_,_,_,rfl⟩ (λM c1 c2=>?_);have xx:=AO c1.at_.1;simp only[gB1,↓go1,go5,reduceIte,simprocAttr,xx,hni0,Ah s140,hop];have a1:=at24 (((c1.put hfr hni0 (q:=11) (p:=0) (ys:=[.int .i64 0,.bool false,.int .i64 0,.slice true [] []])).put hfr hni0 (q:=11) (p:=0) (ys:=[.int .i64 s.mx,.bool s.cas,.int .i64 s.la,.slice s.nl [] (Ba s.rs)])).at_.1);refine got_rd ((c1.put hfr hni0).put hfr hni0).at_ h140 ?_;simp only[gB1,↓go1,go5,reduceIte,simprocAttr,xx,hni0,Aa s139,h139];refine An.intro ?_ ?_
 ·intro pp hpp l hl;simp only[Qd,Qe,or_false]at hpp;rcases hpp with rfl|rfl|rfl|rfl|rfl|rfl|rfl|rfl|rfl|rfl|rfl
  ·exact AA hl
  ·exact AA hl
  ·exact AA hl
  ·exact AA hl
  ·exact AA hl
  ·have hl1:l.1=54::fr:=AC hl;refine⟨λh=>?_,λh=>AA h⟩;change l∈Ae (11::fr) 0 4 at h;have:=hl1.symm.trans (AT h);simp at this
  ·have hl1:l.1=54::fr:=AC hl;refine⟨λh=>?_,λh=>AA h⟩;change l∈Ae i _ 1 at h;exact(hni0 54).mp ((AT h).symm.trans hl1)
  ·have hl1:l.1=54::fr:=AC hl;refine⟨λh=>?_,λh=>AA h⟩;rcases Qw.1 h with h|h
   ·exact(hni0 54).mp ((AT h).symm.trans hl1)
   ·rw[a1]at h;rw[Qk.1 h]at hl1;exact c1.loc 54 hl1
  ·have hl1:l.1=54::fr:=AC hl;refine⟨λh=>?_,λh=>AA h⟩;change l∈Ae i _ 1 at h;exact(hni0 54).mp ((AT h).symm.trans hl1)
  ·have hl1:l.1=54::fr:=AC hl;refine⟨λh=>?_,λh=>AA h⟩;change l∈Ae i _ 1 at h;exact(hni0 54).mp ((AT h).symm.trans hl1)
  ·have hl1:l.1=54::fr:=AC hl;exact⟨λh=>AA h,λh=>AA h⟩
 simp only[gB1,↓go1,go5,reduceIte,simprocAttr,Ah s141];refine As ((((c1.put hfr hni0).put hfr hni0).put hfr hni0).put hfr hni0) hfr hni h141 ⟨_,_,_,_,rfl⟩ (λM2 d1 d2=>?_);simp only[↓go1,go2,simprocAttr];exact d1.endc ha.2.2
theorem W64_delete(w:Wb)(o:Oc)(s:Sc)(o2:Oc)(ol:Option (List Nat))(ho:o.nl=true->o.ops=[])(h135:Bv w o [.str w.a.pa]=some (.tup [.agg (scC s),.bool true,.bool true],o,none))(hop:w.a.op=11)(s2:Sc)(e:Int)(h141:W141 w o [.agg (scC s2),.slice true [] [],.int .i64 e]=some (.tup [],o2,ol))(hf:R143 [.agg (scC s),.slice w.a.nln [] (AR w.a.ns)]=some (.tup [.agg (scC s2),.int .i64 e])):W64 w o []=some (.tup [],o2,ol.map (·++[71])):=by
 refine A8 ho ⟨Qa rfl,λh=>Cl h141 h,λl h=>Ck h141 h,λi m fr t ha hfr hni hni0=>?_⟩;have s135:S64 135=some (wQ Bv):=rfl;have s141:S64 141=some (wQ W141):=rfl;have s143:S64 143=some (Ac R143):=rfl;have hW:=Wt.start ha hfr;unfold dc64;have xx:=AO ha.1;unfold scC at *;simp only[↓go1,go2,go4,go5,reduceIte,simprocAttr,xx,Ah s135];refine As hW hfr hni h135 ⟨_,_,_,_,rfl⟩ (λM c1 c2=>?_);have xx:=AO c1.at_.1;simp only[gB1,↓go1,go5,reduceIte,simprocAttr,xx,hni0,Aa s143,hf,hop];refine An.intro ?_ ?_
 ·intro pp hpp l hl;simp only[Qd,Qe,or_false]at hpp;rcases hpp with rfl|rfl|rfl|rfl
  ·exact AA hl
  ·have hl1:l.1=65::fr:=AC hl;refine⟨λh=>?_,λh=>AA h⟩;change l∈Ae (11::fr) 0 4 at h;have:=hl1.symm.trans (AT h);simp at this
  ·have hl1:l.1=65::fr:=AC hl;refine⟨λh=>?_,λh=>AA h⟩;change l∈Ae i _ 1 at h;exact(hni0 65).mp ((AT h).symm.trans hl1)
  ·have hl1:l.1=65::fr:=AC hl;exact⟨λh=>AA h,λh=>AA h⟩
 simp only[gB1,↓go1,go5,reduceIte,simprocAttr,Ah s141];refine As ((((c1.put hfr hni0).put hfr hni0).put hfr hni0).put hfr hni0) hfr hni h141 ⟨_,_,_,_,rfl⟩ (λM2 d1 d2=>?_);simp only[↓go1,go2,simprocAttr];exact d1.endc ha.2.2
theorem W64_undelete(w:Wb)(o:Oc)(s:Sc)(o2:Oc)(ol:Option (List Nat))(ho:o.nl=true->o.ops=[])(h135:Bv w o [.str w.a.pa]=some (.tup [.agg (scC s),.bool true,.bool true],o,none))(hop:w.a.op=12)(s2:Sc)(e:Int)(h141:W141 w o [.agg (scC s2),.slice true [] [],.int .i64 e]=some (.tup [],o2,ol))(hf:R144 [.agg (scC s),.slice w.a.nln [] (AR w.a.ns)]=some (.tup [.agg (scC s2),.int .i64 e])):W64 w o []=some (.tup [],o2,ol.map (·++[78])):=by
 refine A8 ho ⟨Qa rfl,λh=>Cl h141 h,λl h=>Ck h141 h,λi m fr t ha hfr hni hni0=>?_⟩;have s135:S64 135=some (wQ Bv):=rfl;have s141:S64 141=some (wQ W141):=rfl;have s144:S64 144=some (Ac R144):=rfl;have hW:=Wt.start ha hfr;unfold dc64;have xx:=AO ha.1;unfold scC at *;simp only[↓go1,go2,go4,go5,reduceIte,simprocAttr,xx,Ah s135];refine As hW hfr hni h135 ⟨_,_,_,_,rfl⟩ (λM c1 c2=>?_);have xx:=AO c1.at_.1;simp only[gB1,↓go1,go5,reduceIte,simprocAttr,xx,hni0,Aa s144,hf,hop];refine An.intro ?_ ?_
 ·intro pp hpp l hl;simp only[Qd,Qe,or_false]at hpp;rcases hpp with rfl|rfl|rfl|rfl
  ·exact AA hl
  ·have hl1:l.1=72::fr:=AC hl;refine⟨λh=>?_,λh=>AA h⟩;change l∈Ae (11::fr) 0 4 at h;have:=hl1.symm.trans (AT h);simp at this
  ·have hl1:l.1=72::fr:=AC hl;refine⟨λh=>?_,λh=>AA h⟩;change l∈Ae i _ 1 at h;exact(hni0 72).mp ((AT h).symm.trans hl1)
  ·have hl1:l.1=72::fr:=AC hl;exact⟨λh=>AA h,λh=>AA h⟩
 simp only[gB1,↓go1,go5,reduceIte,simprocAttr,Ah s141];refine As ((((c1.put hfr hni0).put hfr hni0).put hfr hni0).put hfr hni0) hfr hni h141 ⟨_,_,_,_,rfl⟩ (λM2 d1 d2=>?_);simp only[↓go1,go2,simprocAttr];exact d1.endc ha.2.2
theorem W64_destroy(w:Wb)(o:Oc)(s:Sc)(o2:Oc)(ol:Option (List Nat))(ho:o.nl=true->o.ops=[])(h135:Bv w o [.str w.a.pa]=some (.tup [.agg (scC s),.bool true,.bool true],o,none))(hop:w.a.op=13)(s2:Sc)(gnl:Bool)(gone:List Int)(e:Int)(h141:W141 w o [.agg (scC s2),.slice gnl [] (AR gone),.int .i64 e]=some (.tup [],o2,ol))(hf:R145 [.agg (scC s),.slice w.a.nln [] (AR w.a.ns)]=some (.tup [.agg (scC s2),.slice gnl [] (AR gone),.int .i64 e])):W64 w o []=some (.tup [],o2,ol.map (·++[81])):=by
 refine A8 ho ⟨Qa rfl,λh=>Cl h141 h,λl h=>Ck h141 h,λi m fr t ha hfr hni hni0=>?_⟩;have s135:S64 135=some (wQ Bv):=rfl;have s141:S64 141=some (wQ W141):=rfl;have s145:S64 145=some (Ac R145):=rfl;have hW:=Wt.start ha hfr;unfold dc64;have xx:=AO ha.1;unfold scC at *;simp only[↓go1,go2,go4,go5,reduceIte,simprocAttr,xx,Ah s135];refine As hW hfr hni h135 ⟨_,_,_,_,rfl⟩ (λM c1 c2=>?_);have xx:=AO c1.at_.1;simp only[gB1,↓go1,go5,reduceIte,simprocAttr,xx,hni0,Aa s145,hf,hop];refine An.intro ?_ ?_
 ·intro pp hpp l hl;simp only[Qd,Qe,or_false]at hpp;rcases hpp with rfl|rfl|rfl|rfl
  ·exact AA hl
  ·have hl1:l.1=73::fr:=AC hl;refine⟨λh=>?_,λh=>AA h⟩;change l∈Ae (11::fr) 0 4 at h;have:=hl1.symm.trans (AT h);simp at this
  ·have hl1:l.1=73::fr:=AC hl;refine⟨λh=>?_,λh=>AA h⟩;change l∈Ae i _ 1 at h;exact(hni0 73).mp ((AT h).symm.trans hl1)
  ·have hl1:l.1=73::fr:=AC hl;exact⟨λh=>AA h,λh=>AA h⟩
 simp only[gB1,↓go1,go5,reduceIte,simprocAttr,Ah s141];refine As ((((c1.put hfr hni0).put hfr hni0).put hfr hni0).put hfr hni0) hfr hni h141 ⟨_,_,_,_,rfl⟩ (λM2 d1 d2=>?_);simp only[↓go1,go2,simprocAttr];exact d1.endc ha.2.2
def S63:Summs:=AF [(135,wQ Bv),(54,wQ W54),(136,Ac EA),(123,Ac B1),(137,Ac Ez),(133,wQ W133),(55,wQ W55),(138,wQ W138)]
def W63:Wb->Oc->List D->Option WY:=RW S63 dc63 [] 113
theorem ko63:(wQ W63).ok Qb 63:=CU fn63 (Ab ko135 (Ab ko54 (Ab ko136 (Ab ko123 (Ab ko137 (Ab ko133 (Ab ko55 (Ab ko138 Ad))))))))
theorem W63_need(w:Wb)(o:Oc)(s:Sc)(is:Bool)(o2:Oc)(ho:o.nl=true->o.ops=[])(h135:Bv w o [.str w.a.pa]=some (.tup [.agg (scC s),.bool is,.bool false],o2,none)):W63 w o []=some (.tup [],o2,none):=by
 refine A8 ho ⟨Qa rfl,λh=>((Ej h135).2.1 rfl),λl h=>(by cases h),λi m fr t ha hfr hni hni0=>?_⟩;have s135:S63 135=some (wQ Bv):=rfl;have hW:=Wt.start ha hfr;unfold dc63;have xx:=AO ha.1;unfold scC at *;simp only[↓go1,go2,go4,go5,reduceIte,simprocAttr,xx,Ah s135];refine As hW hfr hni h135 ⟨_,_,_,_,rfl⟩ (λM c1 c2=>?_);simp only[gB1,↓go1,go5,reduceIte,simprocAttr];exact((c1.put hfr hni0).put hfr hni0).end0 ha.2.2
theorem W63_none(w:Wb)(o:Oc)(s:Sc)(o2:Oc)(ol:Option (List Nat))(ho:o.nl=true->o.ops=[])(h135:Bv w o [.str w.a.pa]=some (.tup [.agg (scC s),.bool false,.bool true],o,none))(h54:W54 w o [.int .i64 6]=some (.tup [],o2,ol)):W63 w o []=some (.tup [],o2,ol.map (·++[20])):=by
 refine A8 ho ⟨Qa rfl,λh=>Cl h54 h,λl h=>Ck h54 h,λi m fr t ha hfr hni hni0=>?_⟩;have s135:S63 135=some (wQ Bv):=rfl;have s54:S63 54=some (wQ W54):=rfl;have hW:=Wt.start ha hfr;unfold dc63;have xx:=AO ha.1;unfold scC at *;simp only[↓go1,go2,go4,go5,reduceIte,simprocAttr,xx,Ah s135];refine As hW hfr hni h135 ⟨_,_,_,_,rfl⟩ (λM c1 c2=>?_);have xx:=AO c1.at_.1;simp only[gB1,↓go1,go5,reduceIte,simprocAttr,Ah s54];refine As ((c1.put hfr hni0).put hfr hni0) hfr hni h54 ⟨_,_,_,_,rfl⟩ (λM2 d1 d2=>?_);simp only[↓go1,go2,simprocAttr];exact d1.endc ha.2.2
theorem W63_fail9(w:Wb)(o:Oc)(s:Sc)(o2:Oc)(ol:Option (List Nat))(ho:o.nl=true->o.ops=[])(h135:Bv w o [.str w.a.pa]=some (.tup [.agg (scC s),.bool true,.bool true],o,none))(hop:w.a.op=9)(nn e:Int)(ra rb:Bool)(h136:EA [.agg (scC s),.int .i64 (w.a.n)]=some (.tup [.agg [.int .i64 nn,.bool ra,.bool rb],.int .i64 e]))(he:e≠0)(h54:W54 w o [.int .i64 e]=some (.tup [],o2,ol)):W63 w o []=some (.tup [],o2,ol.map (·++[44])):=by
 refine A8 ho ⟨Qa rfl,λh=>Cl h54 h,λl h=>Ck h54 h,λi m fr t ha hfr hni hni0=>?_⟩;have s135:S63 135=some (wQ Bv):=rfl;have s54:S63 54=some (wQ W54):=rfl;have s136:S63 136=some (Ac EA):=rfl;have hW:=Wt.start ha hfr;unfold dc63;have xx:=AO ha.1;unfold scC at *;simp only[↓go1,go2,go4,go5,reduceIte,simprocAttr,xx,Ah s135];refine As hW hfr hni h135 ⟨_,_,_,_,rfl⟩ (λM c1 c2=>?_);have xx:=AO c1.at_.1;simp only[gB1,↓go1,go5,reduceIte,simprocAttr,xx,hni0,Aa s136,h136,eq_false he,Ah s54,hop];refine As ((((c1.put hfr hni0).put hfr hni0).put hfr hni0).put hfr hni0) hfr hni h54 ⟨_,_,_,_,rfl⟩ (λM2 d1 d2=>?_);simp only[↓go1,go2,simprocAttr];exact d1.endc ha.2.2
theorem W63_need9(w:Wb)(o:Oc)(s:Sc)(o2:Oc)(ol:Option (List Nat))(ho:o.nl=true->o.ops=[])(h135:Bv w o [.str w.a.pa]=some (.tup [.agg (scC s),.bool true,.bool true],o,none))(hop:w.a.op=9)(nn:Int)(ra rb:Bool)(h136:EA [.agg (scC s),.int .i64 (w.a.n)]=some (.tup [.agg [.int .i64 nn,.bool ra,.bool rb],.int .i64 0]))(at_ text:Bs)(there:Bool)(h123:B1 [.int .u8 2,.str w.a.pa,.int .i64 nn]=some (.str at_))(h137:Ez [.agg (kwC w.k),.str at_]=some (.tup [.str text,.bool there,.bool false]))(h133:W133 w o [.str at_,.bool false]=some (.tup [],o2,ol)):W63 w o []=some (.tup [],o2,ol.map (·++[69])):=by
 refine A8 ho ⟨Qa rfl,λh=>Cl h133 h,λl h=>Ck h133 h,λi m fr t ha hfr hni hni0=>?_⟩;have s135:S63 135=some (wQ Bv):=rfl;have s136:S63 136=some (Ac EA):=rfl;have s123:S63 123=some (Ac B1):=rfl;have s137:S63 137=some (Ac Ez):=rfl;have s133:S63 133=some (wQ W133):=rfl;have hW:=Wt.start ha hfr;unfold dc63;have xx:=AO ha.1;unfold scC at *;unfold kwC at h137;simp only[↓go1,go2,go4,go5,reduceIte,simprocAttr,xx,Ah s135];refine As hW hfr hni h135 ⟨_,_,_,_,rfl⟩ (λM c1 c2=>?_);have xx:=AO c1.at_.1;simp only[gB1,↓go1,go5,reduceIte,simprocAttr,xx,hni0,Aa s136,h136,Aa s123,h123,hop];refine An.intro (λp hp=>by cases hp) ?_;simp only[gB1,↓go1,go5,reduceIte,simprocAttr,xx,hni0,Aa s137,h137,Ah s133];refine As ((((c1.put hfr hni0).put hfr hni0).put hfr hni0).put hfr hni0) hfr hni h133 ⟨_,_,_,_,rfl⟩ (λM2 d1 d2=>?_);simp only[↓go1,go2,simprocAttr];exact d1.endc ha.2.2
theorem W63_read_in(w:Wb)(o:Oc)(s:Sc)(o2:Oc)(ol:Option (List Nat))(ho:o.nl=true->o.ops=[])(h135:Bv w o [.str w.a.pa]=some (.tup [.agg (scC s),.bool true,.bool true],o,none))(hop:w.a.op=9)(nn:Int)(ra rb:Bool)(h136:EA [.agg (scC s),.int .i64 (w.a.n)]=some (.tup [.agg [.int .i64 nn,.bool ra,.bool rb],.int .i64 0]))(at_ text:Bs)(h123:B1 [.int .u8 2,.str w.a.pa,.int .i64 nn]=some (.str at_))(h137:Ez [.agg (kwC w.k),.str at_]=some (.tup [.str text,.bool true,.bool true]))(h55:W55 w o [.agg (ryC (.found nn text))]=some (.tup [],o2,ol)):W63 w o []=some (.tup [],o2,ol.map (·++[81])):=by
 refine A8 ho ⟨Qa rfl,λh=>Cl h55 h,λl h=>Ck h55 h,λi m fr t ha hfr hni hni0=>?_⟩;have s135:S63 135=some (wQ Bv):=rfl;have s136:S63 136=some (Ac EA):=rfl;have s123:S63 123=some (Ac B1):=rfl;have s137:S63 137=some (Ac Ez):=rfl;have s55:S63 55=some (wQ W55):=rfl;have hW:=Wt.start ha hfr;unfold dc63;have xx:=AO ha.1;unfold scC at *;unfold kwC at h137;simp only[↓go1,go2,go4,go5,reduceIte,simprocAttr,xx,Ah s135];refine As hW hfr hni h135 ⟨_,_,_,_,rfl⟩ (λM c1 c2=>?_);have xx:=AO c1.at_.1;simp only[gB1,↓go1,go5,reduceIte,simprocAttr,xx,hni0,Aa s136,h136,Aa s123,h123,hop];refine An.intro (λp hp=>by cases hp) ?_;simp only[gB1,↓go1,go5,reduceIte,simprocAttr,xx,hni0,Aa s137,h137,Ah s55,hop];refine As ((((c1.put hfr hni0).put hfr hni0).put hfr hni0).put hfr hni0) hfr hni h55 ⟨_,_,_,_,rfl⟩ (λM2 d1 d2=>?_);simp only[↓go1,go2,simprocAttr];exact d1.endc ha.2.2
theorem W63_read_out(w:Wb)(o:Oc)(s:Sc)(o2:Oc)(ol:Option (List Nat))(ho:o.nl=true->o.ops=[])(h135:Bv w o [.str w.a.pa]=some (.tup [.agg (scC s),.bool true,.bool true],o,none))(hop:w.a.op=9)(nn:Int)(ra rb:Bool)(h136:EA [.agg (scC s),.int .i64 (w.a.n)]=some (.tup [.agg [.int .i64 nn,.bool ra,.bool rb],.int .i64 0]))(at_ text:Bs)(h123:B1 [.int .u8 2,.str w.a.pa,.int .i64 nn]=some (.str at_))(h137:Ez [.agg (kwC w.k),.str at_]=some (.tup [.str text,.bool false,.bool true]))(h55:W55 w o [.agg (ryC (.found nn []))]=some (.tup [],o2,ol)):W63 w o []=some (.tup [],o2,ol.map (·++[82])):=by
 refine A8 ho ⟨Qa rfl,λh=>Cl h55 h,λl h=>Ck h55 h,λi m fr t ha hfr hni hni0=>?_⟩;have s135:S63 135=some (wQ Bv):=rfl;have s136:S63 136=some (Ac EA):=rfl;have s123:S63 123=some (Ac B1):=rfl;have s137:S63 137=some (Ac Ez):=rfl;have s55:S63 55=some (wQ W55):=rfl;have hW:=Wt.start ha hfr;unfold dc63;have xx:=AO ha.1;unfold scC at *;unfold kwC at h137;simp only[↓go1,go2,go4,go5,reduceIte,simprocAttr,xx,Ah s135];refine As hW hfr hni h135 ⟨_,_,_,_,rfl⟩ (λM c1 c2=>?_);have xx:=AO c1.at_.1;simp only[gB1,↓go1,go5,reduceIte,simprocAttr,xx,hni0,Aa s136,h136,Aa s123,h123,hop];refine An.intro (λp hp=>by cases hp) ?_;simp only[gB1,↓go1,go5,reduceIte,simprocAttr,xx,hni0,Aa s137,h137,Ah s55,hop];refine As ((((c1.put hfr hni0).put hfr hni0).put hfr hni0).put hfr hni0) hfr hni h55 ⟨_,_,_,_,rfl⟩ (λM2 d1 d2=>?_);simp only[↓go1,go2,simprocAttr];exact d1.endc ha.2.2
theorem W63_fail18(w:Wb)(o:Oc)(s:Sc)(o2:Oc)(ol:Option (List Nat))(ho:o.nl=true->o.ops=[])(h135:Bv w o [.str w.a.pa]=some (.tup [.agg (scC s),.bool true,.bool true],o,none))(hop:w.a.op=18)(nn e:Int)(ra rb:Bool)(h136:EA [.agg (scC s),.int .i64 (0)]=some (.tup [.agg [.int .i64 nn,.bool ra,.bool rb],.int .i64 e]))(he:e≠0)(h54:W54 w o [.int .i64 e]=some (.tup [],o2,ol)):W63 w o []=some (.tup [],o2,ol.map (·++[45])):=by
 refine A8 ho ⟨Qa rfl,λh=>Cl h54 h,λl h=>Ck h54 h,λi m fr t ha hfr hni hni0=>?_⟩;have s135:S63 135=some (wQ Bv):=rfl;have s54:S63 54=some (wQ W54):=rfl;have s136:S63 136=some (Ac EA):=rfl;have hW:=Wt.start ha hfr;unfold dc63;have xx:=AO ha.1;unfold scC at *;simp only[↓go1,go2,go4,go5,reduceIte,simprocAttr,xx,Ah s135];refine As hW hfr hni h135 ⟨_,_,_,_,rfl⟩ (λM c1 c2=>?_);have xx:=AO c1.at_.1;simp only[gB1,↓go1,go5,reduceIte,simprocAttr,xx,hni0,Aa s136,h136,eq_false he,Ah s54,hop];refine As ((((c1.put hfr hni0).put hfr hni0).put hfr hni0).put hfr hni0) hfr hni h54 ⟨_,_,_,_,rfl⟩ (λM2 d1 d2=>?_);simp only[↓go1,go2,simprocAttr];exact d1.endc ha.2.2
theorem W63_need18(w:Wb)(o:Oc)(s:Sc)(o2:Oc)(ol:Option (List Nat))(ho:o.nl=true->o.ops=[])(h135:Bv w o [.str w.a.pa]=some (.tup [.agg (scC s),.bool true,.bool true],o,none))(hop:w.a.op=18)(nn:Int)(ra rb:Bool)(h136:EA [.agg (scC s),.int .i64 (0)]=some (.tup [.agg [.int .i64 nn,.bool ra,.bool rb],.int .i64 0]))(at_ text:Bs)(there:Bool)(h123:B1 [.int .u8 2,.str w.a.pa,.int .i64 nn]=some (.str at_))(h137:Ez [.agg (kwC w.k),.str at_]=some (.tup [.str text,.bool there,.bool false]))(h133:W133 w o [.str at_,.bool false]=some (.tup [],o2,ol)):W63 w o []=some (.tup [],o2,ol.map (·++[70])):=by
 refine A8 ho ⟨Qa rfl,λh=>Cl h133 h,λl h=>Ck h133 h,λi m fr t ha hfr hni hni0=>?_⟩;have s135:S63 135=some (wQ Bv):=rfl;have s136:S63 136=some (Ac EA):=rfl;have s123:S63 123=some (Ac B1):=rfl;have s137:S63 137=some (Ac Ez):=rfl;have s133:S63 133=some (wQ W133):=rfl;have hW:=Wt.start ha hfr;unfold dc63;have xx:=AO ha.1;unfold scC at *;unfold kwC at h137;simp only[↓go1,go2,go4,go5,reduceIte,simprocAttr,xx,Ah s135];refine As hW hfr hni h135 ⟨_,_,_,_,rfl⟩ (λM c1 c2=>?_);have xx:=AO c1.at_.1;simp only[gB1,↓go1,go5,reduceIte,simprocAttr,xx,hni0,Aa s136,h136,Aa s123,h123,hop];refine An.intro (λp hp=>by cases hp) ?_;simp only[gB1,↓go1,go5,reduceIte,simprocAttr,xx,hni0,Aa s137,h137,Ah s133];refine As ((((c1.put hfr hni0).put hfr hni0).put hfr hni0).put hfr hni0) hfr hni h133 ⟨_,_,_,_,rfl⟩ (λM2 d1 d2=>?_);simp only[↓go1,go2,simprocAttr];exact d1.endc ha.2.2
theorem W63_copy_need_in(w:Wb)(o:Oc)(s:Sc)(o2:Oc)(ho:o.nl=true->o.ops=[])(h135:Bv w o [.str w.a.pa]=some (.tup [.agg (scC s),.bool true,.bool true],o,none))(hop:w.a.op=18)(nn:Int)(ra rb:Bool)(h136:EA [.agg (scC s),.int .i64 (0)]=some (.tup [.agg [.int .i64 nn,.bool ra,.bool rb],.int .i64 0]))(at_ text:Bs)(h123:B1 [.int .u8 2,.str w.a.pa,.int .i64 nn]=some (.str at_))(h137:Ez [.agg (kwC w.k),.str at_]=some (.tup [.str text,.bool true,.bool true]))(s2:Sc)(is2:Bool)(h135b:Bv w o [.str w.a.ot]=some (.tup [.agg (scC s2),.bool is2,.bool false],o2,none)):W63 w o []=some (.tup [],o2,none):=by
 refine A8 ho ⟨Qa rfl,λh=>((Ej h135b).2.1 rfl),λl h=>(by cases h),λi m fr t ha hfr hni hni0=>?_⟩;have s135:S63 135=some (wQ Bv):=rfl;have s136:S63 136=some (Ac EA):=rfl;have s123:S63 123=some (Ac B1):=rfl;have s137:S63 137=some (Ac Ez):=rfl;have hW:=Wt.start ha hfr;unfold dc63;have xx:=AO ha.1;unfold scC at *;unfold kwC at h137;simp only[↓go1,go2,go4,go5,reduceIte,simprocAttr,xx,Ah s135];refine As hW hfr hni h135 ⟨_,_,_,_,rfl⟩ (λM c1 c2=>?_);have xx:=AO c1.at_.1;simp only[gB1,↓go1,go5,reduceIte,simprocAttr,xx,hni0,Aa s136,h136,Aa s123,h123,hop];refine An.intro (λp hp=>by cases hp) ?_;simp only[gB1,↓go1,go5,reduceIte,simprocAttr,xx,hni0,Aa s137,h137,Ah s135,hop];refine As ((((c1.put hfr hni0).put hfr hni0).put hfr hni0).put hfr hni0) hfr hni h135b ⟨_,_,_,_,rfl⟩ (λM2 d1 d2=>?_);have xx:=AO d1.at_.1;simp only[gB1,↓go1,go5,reduceIte,simprocAttr];exact((d1.put hfr hni0).put hfr hni0).end0 ha.2.2
theorem W63_copy_in(w:Wb)(o:Oc)(s:Sc)(o2:Oc)(ol:Option (List Nat))(ho:o.nl=true->o.ops=[])(h135:Bv w o [.str w.a.pa]=some (.tup [.agg (scC s),.bool true,.bool true],o,none))(hop:w.a.op=18)(nn:Int)(ra rb:Bool)(h136:EA [.agg (scC s),.int .i64 (0)]=some (.tup [.agg [.int .i64 nn,.bool ra,.bool rb],.int .i64 0]))(at_ text:Bs)(h123:B1 [.int .u8 2,.str w.a.pa,.int .i64 nn]=some (.str at_))(h137:Ez [.agg (kwC w.k),.str at_]=some (.tup [.str text,.bool true,.bool true]))(s2:Sc)(is2:Bool)(h135b:Bv w o [.str w.a.ot]=some (.tup [.agg (scC s2),.bool is2,.bool true],o,none))(h138:W138 w o [.str w.a.ot,.agg (scC s2),.int .i64 (-1),.str text]=some (.tup [],o2,ol)):W63 w o []=some (.tup [],o2,ol.map (·++[101])):=by
 refine A8 ho ⟨Qa rfl,λh=>Cl h138 h,λl h=>Ck h138 h,λi m fr t ha hfr hni hni0=>?_⟩;have s135:S63 135=some (wQ Bv):=rfl;have s136:S63 136=some (Ac EA):=rfl;have s123:S63 123=some (Ac B1):=rfl;have s137:S63 137=some (Ac Ez):=rfl;have s138:S63 138=some (wQ W138):=rfl;have hW:=Wt.start ha hfr;unfold dc63;have xx:=AO ha.1;unfold scC at *;unfold kwC at h137;simp only[↓go1,go2,go4,go5,reduceIte,simprocAttr,xx,Ah s135];refine As hW hfr hni h135 ⟨_,_,_,_,rfl⟩ (λM c1 c2=>?_);have xx:=AO c1.at_.1;simp only[gB1,↓go1,go5,reduceIte,simprocAttr,xx,hni0,Aa s136,h136,Aa s123,h123,hop];refine An.intro (λp hp=>by cases hp) ?_;simp only[gB1,↓go1,go5,reduceIte,simprocAttr,xx,hni0,Aa s137,h137,Ah s135,hop];refine As ((((c1.put hfr hni0).put hfr hni0).put hfr hni0).put hfr hni0) hfr hni h135b ⟨_,_,_,_,rfl⟩ (λM2 d1 d2=>?_);have xx:=AO d1.at_.1;simp only[gB1,↓go1,go5,reduceIte,simprocAttr,xx,hni0,Ah s138];refine Cg ((d1.put hfr hni0).put hfr hni0) hfr hni h138 ⟨_,_,_,_,rfl⟩ (λM3 u hu e1 e2=>?_);simp only[↓go1,go3,simprocAttr];refine An.intro (λp hp=>by cases hp) ?_;simp only[↓go1,go2,simprocAttr];exact e1.endc ha.2.2
theorem W63_copy_need_out(w:Wb)(o:Oc)(s:Sc)(o2:Oc)(ho:o.nl=true->o.ops=[])(h135:Bv w o [.str w.a.pa]=some (.tup [.agg (scC s),.bool true,.bool true],o,none))(hop:w.a.op=18)(nn:Int)(ra rb:Bool)(h136:EA [.agg (scC s),.int .i64 (0)]=some (.tup [.agg [.int .i64 nn,.bool ra,.bool rb],.int .i64 0]))(at_ text:Bs)(h123:B1 [.int .u8 2,.str w.a.pa,.int .i64 nn]=some (.str at_))(h137:Ez [.agg (kwC w.k),.str at_]=some (.tup [.str text,.bool false,.bool true]))(s2:Sc)(is2:Bool)(h135b:Bv w o [.str w.a.ot]=some (.tup [.agg (scC s2),.bool is2,.bool false],o2,none)):W63 w o []=some (.tup [],o2,none):=by
 refine A8 ho ⟨Qa rfl,λh=>((Ej h135b).2.1 rfl),λl h=>(by cases h),λi m fr t ha hfr hni hni0=>?_⟩;have s135:S63 135=some (wQ Bv):=rfl;have s136:S63 136=some (Ac EA):=rfl;have s123:S63 123=some (Ac B1):=rfl;have s137:S63 137=some (Ac Ez):=rfl;have hW:=Wt.start ha hfr;unfold dc63;have xx:=AO ha.1;unfold scC at *;unfold kwC at h137;simp only[↓go1,go2,go4,go5,reduceIte,simprocAttr,xx,Ah s135];refine As hW hfr hni h135 ⟨_,_,_,_,rfl⟩ (λM c1 c2=>?_);have xx:=AO c1.at_.1;simp only[gB1,↓go1,go5,reduceIte,simprocAttr,xx,hni0,Aa s136,h136,Aa s123,h123,hop];refine An.intro (λp hp=>by cases hp) ?_;simp only[gB1,↓go1,go5,reduceIte,simprocAttr,xx,hni0,Aa s137,h137,Ah s135,hop];refine As ((((c1.put hfr hni0).put hfr hni0).put hfr hni0).put hfr hni0) hfr hni h135b ⟨_,_,_,_,rfl⟩ (λM2 d1 d2=>?_);have xx:=AO d1.at_.1;simp only[gB1,↓go1,go5,reduceIte,simprocAttr];exact((d1.put hfr hni0).put hfr hni0).end0 ha.2.2
theorem W63_copy_out(w:Wb)(o:Oc)(s:Sc)(o2:Oc)(ol:Option (List Nat))(ho:o.nl=true->o.ops=[])(h135:Bv w o [.str w.a.pa]=some (.tup [.agg (scC s),.bool true,.bool true],o,none))(hop:w.a.op=18)(nn:Int)(ra rb:Bool)(h136:EA [.agg (scC s),.int .i64 (0)]=some (.tup [.agg [.int .i64 nn,.bool ra,.bool rb],.int .i64 0]))(at_ text:Bs)(h123:B1 [.int .u8 2,.str w.a.pa,.int .i64 nn]=some (.str at_))(h137:Ez [.agg (kwC w.k),.str at_]=some (.tup [.str text,.bool false,.bool true]))(s2:Sc)(is2:Bool)(h135b:Bv w o [.str w.a.ot]=some (.tup [.agg (scC s2),.bool is2,.bool true],o,none))(h138:W138 w o [.str w.a.ot,.agg (scC s2),.int .i64 (-1),.str []]=some (.tup [],o2,ol)):W63 w o []=some (.tup [],o2,ol.map (·++[102])):=by
 refine A8 ho ⟨Qa rfl,λh=>Cl h138 h,λl h=>Ck h138 h,λi m fr t ha hfr hni hni0=>?_⟩;have s135:S63 135=some (wQ Bv):=rfl;have s136:S63 136=some (Ac EA):=rfl;have s123:S63 123=some (Ac B1):=rfl;have s137:S63 137=some (Ac Ez):=rfl;have s138:S63 138=some (wQ W138):=rfl;have hW:=Wt.start ha hfr;unfold dc63;have xx:=AO ha.1;unfold scC at *;unfold kwC at h137;simp only[↓go1,go2,go4,go5,reduceIte,simprocAttr,xx,Ah s135];refine As hW hfr hni h135 ⟨_,_,_,_,rfl⟩ (λM c1 c2=>?_);have xx:=AO c1.at_.1;simp only[gB1,↓go1,go5,reduceIte,simprocAttr,xx,hni0,Aa s136,h136,Aa s123,h123,hop];refine An.intro (λp hp=>by cases hp) ?_;simp only[gB1,↓go1,go5,reduceIte,simprocAttr,xx,hni0,Aa s137,h137,Ah s135,hop];refine As ((((c1.put hfr hni0).put hfr hni0).put hfr hni0).put hfr hni0) hfr hni h135b ⟨_,_,_,_,rfl⟩ (λM2 d1 d2=>?_);have xx:=AO d1.at_.1;simp only[gB1,↓go1,go5,reduceIte,simprocAttr,xx,hni0,Ah s138];refine Cg ((d1.put hfr hni0).put hfr hni0) hfr hni h138 ⟨_,_,_,_,rfl⟩ (λM3 u hu e1 e2=>?_);simp only[↓go1,go3,simprocAttr];refine An.intro (λp hp=>by cases hp) ?_;simp only[↓go1,go2,simprocAttr];exact e1.endc ha.2.2
end Go.Vd
namespace Go.Vd
open Go.Proofs
def dc230:DC:=(sr [cb 2 false] (sr [mm 3 0,bi 4 .geq 3 1,mm 5 4,og 6 (.mv (.t 0)) 2 true,og 7 (.bin .leq (.t 6) (.c (.int .i64 6))) 2 true,oo 8 (.pick (.t 5) (.t 7) (.c (.bool false))),mm 2 8] .ret))
theorem fn230:Fn Qb 230 9 dc230 [.t 2]:=Am func230
def dc125:DC:=(sr [ci 2 0] (.seq (sr [mm 3 0,cc 4 230 [(.t 3)],oo 5 (.un .not (.t 4))] (cd 5 (sr [ci 2 0] .ret) .skip)) (sr [mm 6 0,bi 7 .mul 6 16,oo 8 (.bin .add (.c (.int .i64 1)) (.t 7)),mm 2 8] .ret)))
theorem fn125:Fn Qb 125 9 dc125 [.t 2]:=Am func125
end Go.Vd
namespace Go.Proofs
open Go.Shelf
def lays105_ren:Go.Shelf.Ren:=⟨λ|105=>124|212=>224|99=>225|165=>226|166=>227|170=>228|169=>229|263=>321|264=>322|206=>323|240=>324|241=>325|276=>370|277=>371|n=>n,λ|9=>9|3=>3|4=>4|20=>20|0=>0|46=>137|109=>318|5=>5|72=>322|76=>326|51=>392|146=>398|53=>394|148=>400|70=>320|37=>264|75=>325|127=>402|164=>439|80=>216|n=>n,λ|n=>n⟩
theorem lays105:Go.Proofs.Lays.n105 Qb lays105_ren:={
 mixed:=by kernel_rfl
 f99:=func225.trans (congrArg some (by kernel_rfl))
 f105:=func124.trans (congrArg some (by kernel_rfl))
 f165:=func226.trans (congrArg some (by kernel_rfl))
 f166:=func227.trans (congrArg some (by kernel_rfl))
 f169:=func229.trans (congrArg some (by kernel_rfl))
 f170:=func228.trans (congrArg some (by kernel_rfl))
 f206:=func323.trans (congrArg some (by kernel_rfl))
 f212:=func224.trans (congrArg some (by kernel_rfl))
 f240:=func324.trans (congrArg some (by kernel_rfl))
 f241:=func325.trans (congrArg some (by kernel_rfl))
 f263:=func321.trans (congrArg some (by kernel_rfl))
 f264:=func322.trans (congrArg some (by kernel_rfl))
 f276:=func370.trans (congrArg some (by kernel_rfl))
 f277:=func371.trans (congrArg some (by kernel_rfl))
 t0:=underlying0
 a0:=isAgg0
 z0:=sizeOf0
 v0:=zeroValue0
 t3:=underlying3
 a3:=isAgg3
 z3:=sizeOf3
 v3:=zeroValue3
 t4:=underlying4
 a4:=isAgg4
 z4:=sizeOf4
 v4:=zeroValue4
 t5:=underlying5
 a5:=isAgg5
 z5:=sizeOf5
 v5:=zeroValue5
 t9:=underlying9
 a9:=isAgg9
 z9:=sizeOf9
 v9:=zeroValue9
 t20:=underlying20
 a20:=isAgg20
 z20:=sizeOf20
 v20:=zeroValue20
 t37:=underlying264
 a37:=isAgg264
 z37:=sizeOf264
 v37:=zeroValue264
 t46:=underlying137
 a46:=isAgg137
 z46:=sizeOf137
 v46:=zeroValue137
 t51:=underlying392
 a51:=isAgg392
 z51:=sizeOf392
 v51:=zeroValue392
 t53:=underlying394
 a53:=isAgg394
 z53:=sizeOf394
 v53:=zeroValue394
 t70:=underlying320
 a70:=isAgg320
 z70:=sizeOf320
 v70:=zeroValue320
 t72:=underlying322
 a72:=isAgg322
 z72:=sizeOf322
 v72:=zeroValue322
 t75:=underlying325
 a75:=isAgg325
 z75:=sizeOf325
 v75:=zeroValue325
 t76:=underlying326
 a76:=isAgg326
 z76:=sizeOf326
 v76:=zeroValue326
 t109:=underlying318
 a109:=isAgg318
 z109:=sizeOf318
 v109:=zeroValue318
 t127:=underlying402
 a127:=isAgg402
 z127:=sizeOf402
 v127:=zeroValue402
 t146:=underlying398
 a146:=isAgg398
 z146:=sizeOf398
 v146:=zeroValue398
 t148:=underlying400
 a148:=isAgg400
 z148:=sizeOf400
 v148:=zeroValue400
 t164:=underlying439
 a164:=isAgg439
 z164:=sizeOf439
 v164:=zeroValue439}
theorem Builder_Extra_105:Builder.Extra Qb lays105_ren:={
 sizeBuilder:=by kernel_rfl
 liesBuilder:=by kernel_rfl
 t5:=underlying5
 a5:=isAgg5
 z5:=sizeOf5
 v5:=zeroValue5
 infoByte:=by kernel_rfl
 cellsByte:=by kernel_rfl
 sizeByte:=by kernel_rfl
 neB5:=by decide}
end Go.Proofs
namespace Go.Vd
open Go.Proofs Go.RowKit
def mayB(t:Int):Bool:=decide (1<=t∧t<=6)
def lenK(t:Int):Int:=if mayB t=true then 1+t*16 else 0
def S230:Summs:=AF []
def R230:List D->Option D:=RF S230 dc230 [.t 2] 9
theorem ko230:(Ac R230).ok Qb 230:=AJ fn230 Ad
theorem R230_eq(t:Int):R230 [.int .i64 t]=some (.bool (mayB t)):=by
 refine AH (Qa rfl) ?_;unfold dc230;unfold mayB;by_cases c:1<=t
 ·have c':((1:Int)<=t)=True:=eq_true c;simp only[↓go1,gB3,go5,reduceIte,simprocAttr,c']
  all_goals (first|rfl|exact⟨rfl,rfl⟩|(simp[*];done))
 ·have c':((1:Int)<=t)=False:=eq_false c;simp only[↓go1,gB3,go5,reduceIte,simprocAttr,c']
  all_goals (first|rfl|exact⟨rfl,rfl⟩|(simp[*];done))
def S125:Summs:=AF [(230,Ac R230)]
def R125:List D->Option D:=RF S125 dc125 [.t 2] 9
theorem ko125:(Ac R125).ok Qb 125:=AJ fn125 (Ab ko230 Ad)
theorem R125_eq(t:Int):R125 [.int .i64 t]=some (.int .i64 (lenK t)):=by
 refine AH (Qa rfl) ?_;have s230:S125 230=some (Ac R230):=rfl;unfold dc125;have h230:=R230_eq t;unfold lenK;cases c:mayB t with
 |false=>
  rw[c]at h230;simp only[↓go1,gB3,go5,reduceIte,simprocAttr,Aa s230,h230]
  all_goals (first|rfl|exact⟨rfl,rfl⟩|(simp[*];done))
 |true=>
  have hb:1<=t∧t<=6:=by simpa[mayB]using c
  have w1:IntKind.i64.wrap (t*16)=t*16:=w64 (by omega) (by omega);have w2:IntKind.i64.wrap (1+t*16)=1+t*16:=w64 (by omega) (by omega);rw[c]at h230;simp only[↓go1,gB3,go5,reduceIte,simprocAttr,Aa s230,h230,w1,w2]
  all_goals (first|rfl|exact⟨rfl,rfl⟩|(simp[*];done))
def RP:List D->Option D
 |[.str s,.int .i64 c]=>if 0<=c∧c<=1000000∧s.length*c.toNat<=1000000 then some (.str (Lib.repeatL s c.toNat))else none
 |_=>none
theorem ko124:(Ac RP).ok Qb 124:=pure_ok ⟨_,func124,by kernel_rfl,by kernel_rfl⟩ λds r h=>by
 unfold RP at h;split at h
 ·rename_i s c;split at h
  ·rename_i hc;simp only[Qg]at h;subst h;refine⟨λd hd=>?_,_,λw g=> .str _,λw=>?_⟩
   ·simp only[Qd,List.mem_nil_iff,or_false]at hd;rcases hd with rfl|rfl<;>rfl
   ·have h0:=Go.Proofs.Any.strings_Repeat lays105 Builder_Extra_105 ⟨s.toArray⟩ c.toNat w (by omega) (by show s.toArray.size*_<=_;simp only[List.size_toArray];omega);rw[QX hc.1]at h0;refine h0.mono ?_;rintro e w' ⟨rfl,hb⟩;exact⟨rfl,hb⟩
  ·cases h
 ·cases h
theorem RP_eq{s:Bs}{c:Int}(h:0<=c∧c<=1000000∧s.length*c.toNat<=1000000):RP [.str s,.int .i64 c]=some (.str (Lib.repeatL s c.toNat)):=if_pos h
def rotO(o:Oc)(te:Int):Oc:={({o with vw:={o.vw with te:=te+1}}:Oc).op 1 (AZ 5 [] 0) (Lib.repeatL [0] (lenK (te+1)).toNat)with rep:=ryT .done}
def S57:Summs:=AF [(54,wQ W54),(123,Ac B1),(125,Ac R125),(124,Ac RP),(122,wQ Fc),(56,wQ W56)]
def W57:Wb->Oc->List D->Option WY:=RW S57 dc57 [] 34
theorem ko57:(wQ W57).ok Qb 57:=CU fn57 (Ab ko54 (Ab ko123 (Ab ko125 (Ab ko124 (Ab ko122 (Ab ko56 Ad))))))
theorem W57_fail(w:Wb)(o:Oc)(o2:Oc)(ol:Option (List Nat))(ho:o.nl=true->o.ops=[])(ht:6<=w.v.te)(h54:W54 w o [.int .i64 19]=some (.tup [],o2,ol)):W57 w o []=some (.tup [],o2,ol.map (·++[7])):=by
 refine A8 ho ⟨Qa rfl,λh=>Cl h54 h,λl h=>Ck h54 h,λi m fr t ha hfr hni hni0=>?_⟩;have s54:S57 54=some (wQ W54):=rfl;have hW:=Wt.start ha hfr;unfold dc57;have xx:=AO ha.1;simp only[↓go1,go2,go4,go5,reduceIte,simprocAttr,xx,eq_true ht,Ah s54];refine As hW hfr hni h54 ⟨_,_,_,_,rfl⟩ (λM c1 c2=>?_);simp only[↓go1,go2,simprocAttr];exact c1.endc ha.2.2
theorem W57_ok(w:Wb)(o:Oc)(te:Int)(h0:Oc0 o)(ht:¬6<=w.v.te)(hte:o.vw.te=te)(hb:0<=te∧te<=5):W57 w o []=some (.tup [],rotO o te,some ([11,28])):=by
 refine A8 (λ_=>h0.ops) ⟨Qa rfl,λh=>(by cases h),λl h=>(by simp only[Qg]at h;subst h;exact⟨rfl,by simp⟩),λi m fr t ha hfr hni hni0=>?_⟩;have s123:S57 123=some (Ac B1):=rfl;have s125:S57 125=some (Ac R125):=rfl;have s124:S57 124=some (Ac RP):=rfl;have s122:S57 122=some (wQ Fc):=rfl;have s56:S57 56=some (wQ W56):=rfl;have hW:=Wt.start ha hfr;unfold dc57;have xx:=AO ha.1;have hw:IntKind.i64.wrap (te+1)=te+1:=w64 (by omega) (by omega);have h123:=Cy 5 0 [] (by simp);have h125:=R125_eq (te+1);have hl:0<=lenK (te+1)∧lenK (te+1)<=1000:=by unfold lenK;split<;>omega
 have h124:=RP_eq (s:=[0]) (c:=lenK (te+1)) ⟨hl.1,by omega,by simp only[Q8];omega⟩;have h122:=Dm w {o with vw:={o.vw with te:=te+1}} 1 (AZ 5 [] 0) (Lib.repeatL [0] (lenK (te+1)).toNat) (λ_=>h0.ops) (by simp only[h0.ops];simp);have h56:=W56_eq w (({o with vw:={o.vw with te:=te+1}}:Oc).op 1 (AZ 5 [] 0) (Lib.repeatL [0] (lenK (te+1)).toNat)) (λh=>by cases h);have hc:=hW.cellp (p:=26) (ys:=[.int .i64 (te+1)]) (o':={o with vw:={o.vw with te:=te+1}}) (Qa rfl) rfl rfl rfl;simp only[gB1,↓go1,go5,reduceIte,simprocAttr,xx,eq_false ht,hw,Aa s123,h123,Aa s125,h125,Aa s124,h124,Ah s122,hte];refine Cg hc hfr hni h122 ⟨_,_,_,_,rfl⟩ (λM u hu c1 c2=>?_);simp only[↓go1,go3,simprocAttr];refine An.intro ?_ ?_
 ·intro pp hpp l hl;simp only[Qd,Qe,or_false]at hpp;subst hpp;exact AA hl
 simp only[↓go1,go2,go4,reduceIte,simprocAttr,Ah s56];refine As c1 hfr hni h56 ⟨_,_,_,_,rfl⟩ (λM2 d1 d2=>?_);simp only[↓go1,go2,simprocAttr];exact d1.endl (l:=[11,28]) (by simp)
end Go.Vd
namespace Go.Vd
open Go.Proofs
def dc127:DC:=(sr [oo 2 (.box (.t 0)),oo 4 (.alloc [(.slice true [] [])]),ci 5 0] (sr [lk 7 1 2,mm 8 1,cc 9 103 [(.t 7),(.t 8)],mm 6 9] (.seq (sr [mm 10 6,bi 11 .lss 10 0] (cd 11 (sr [lk 12 1 2,oz (.store 1 (.t 4) (.t 12)),ci 5 14] .ret) .skip)) (.seq (.drawn [ff 13 0 2,ll 14 13,mm 15 6,oo 16 (.cutl 3 (.t 14) none (some (.t 15))),ff 17 0 2,ll 18 17,mm 19 6,bi 20 .add 19 1,oo 21 (.cutl 3 (.t 18) (some (.t 20)) none),oo 22 (.bslice 50 1 [(.t 16),(.t 21)]),cc 23 106 [(.t 22)],oo 24 (.build [(.slice true [] [])] [(0,1,(.t 23))]),oz (.store 1 (.t 4) (.t 24)),ci 5 0] []) .ret))))
theorem fn127:Fn Qb 127 25 dc127 [.cell (some 1) 4,.t 5]:=Am func127
end Go.Vd
namespace Go.Vd
open Go.Proofs Go.RowKit
theorem or_ok{P:Program}{f:FuncId}{A B:List D->Option D}(hA:(Ac A).ok P f)(hB:(Ac B).ok P f):(Ac λds=>(A ds).or (B ds)).ok P f:=by
 refine⟨hA.1,λds m m' fr _=>rfl,?_⟩;intro B' w0 w m g fr ds vs r u hi hfresh hl hrep hex;have h:(Ac A).ex ds m fr=some (r,u)∨(Ac B).ex ds m fr=some (r,u):=by
  simp only[Ac]at hex ⊢;split at hex
  ·rename_i hc;simp only[hc,if_true];cases ha:A (ds.map D.un)with
   |none=>rw[ha]at hex;exact .inr hex
   |some x=>rw[ha]at hex;exact .inl hex
  ·cases hex
 rcases h with h|h
 ·obtain⟨_,_,h3⟩:=hA;exact h3 hi hfresh hl hrep h
 ·obtain⟨_,_,h3⟩:=hB;exact h3 hi hfresh hl hrep h
def growZ:Summ where
 rd:=λ_ _=>[]
 ex:=λds _ _=>match ds with
  |[.slice true _ [],.int .i64 0]=>some (.slice true [] [],[])
  |_=>none
theorem walk207z(w:World):Calls Qb 207 #[.slice none 0 0,.int .i64 0] w λe w'=>e= .returned (.slice none 0 0)∧w'=w:=by
 go_enter func207,ntmps207
 go_wp2
 all_goals go_ret
 all_goals exact⟨rfl,rfl⟩
theorem koGz:growZ.ok Qb 207:=by
 refine⟨⟨_,func207,by kernel_rfl,by kernel_rfl⟩,λds m m' fr _=>rfl,?_⟩;intro B w0 w m g fr ds vs r u hi hfresh hl hrep hex;simp only[growZ]at hex;split at hex
 ·simp only[Qg,QI]at hex;obtain⟨rfl,rfl⟩:=hex
  match vs,hl with
  |[v0,v1],_=>
   have hr0:=hrep 0 _ v0 rfl rfl;have hr1:=(hrep 1 _ v1 rfl rfl).int_inv;subst hr1;have e0:v0= .slice none 0 0:=by
    rcases hr0.slice_inv with ⟨_,_,e⟩|⟨h,_⟩
    ·exact e
    ·cases h
   subst e0;refine(walk207z w).mono ?_;rintro ev w' ⟨rfl,hw⟩;subst hw;have hb:=Below.refl w'.heap.size w';exact⟨_,g.over w' w',rfl,hi.over hb,Ext.over hi.gz hb,.nils _,λi hf _=>hf⟩
 ·cases hex
def S106z:Summs:=AF [(207,growZ)]
def R106z:List D->Option D:=RF S106z (Fz 9 124 3 32 207) [.t 2] 36
theorem ko106z:(Ac R106z).ok Qb 106:=AJ fn106' (Ab koGz Ad)
theorem growZ_ex{m:Mem}{fr:Id}:growZ.ex [.slice true [] [],.int .i64 0] m fr=some (.slice true [] [],[]):=rfl
theorem R106z_eq{t:Id}:R106z [.slice false [] [.slice false [] [],.slice false [] []]]=some (.slice true [] []):=by
 refine AH (Qa rfl) ?_;have s207:S106z 207=some growZ:=rfl;have w0:IntKind.i64.wrap 0=0:=rfl;have w1:IntKind.i64.wrap 1=1:=rfl;have w2:IntKind.i64.wrap 2=2:=rfl;have y0:((0:Nat):Int)=0:=rfl;have y1:((1:Nat):Int)=1:=rfl;have y2:((2:Nat):Int)=2:=rfl;have z1:(0:Int)+1=1:=rfl;have z2:(1:Int)+1=2:=rfl;unfold Fz;simp only[↓go1,go2,go5,reduceIte,simprocAttr,Qj,Qc];refine Af (dcCat0.eq_1 _) ?_;simp only[↓go1,gB3,go5,reduceIte,simprocAttr,y0,w0,w1,z1,QL,Qj,Qc];refine Af (dcCat0.eq_1 _) ?_;simp only[↓go1,gB3,go5,reduceIte,simprocAttr,y0,w0,w2,z2,Zd,Qj,Qc];refine Af (dcCat0.eq_1 _) ?_;simp only[↓go1,gB3,go5,reduceIte,simprocAttr,Ah s207,growZ_ex,Qj,Qc];refine Af (dcCat1.eq_1 _ _ _) ?_;simp only[↓go1,gB3,go5,reduceIte,simprocAttr,w1,z1,QL,Qj,Qc];refine Af (dcCat1.eq_1 _ _ _) ?_;simp only[↓go1,gB3,go5,reduceIte,simprocAttr,w2,z2,Zd,Qj,Qc];refine Af (dcCat1.eq_1 _ _ _) ?_;simp only[↓go1,gB3,go5,reduceIte,simprocAttr]
 all_goals (first|rfl|exact⟨rfl,rfl⟩)
def remL(l:List Mt)(p:Bs):List Mt:=l.take (BR l p).toNat++l.drop ((BR l p).toNat+1)
def F106u:List D->Option D:=λds=>(Fcat3 ds).or (R106z ds)
theorem ko106u:(Ac F106u).ok Qb 106:=or_ok (ok106 ok207) ko106z
theorem F106u_eq{a b:List Mt}(h:a.length+b.length<=1000):F106u [.slice false [] [.slice false [] (Ar a),.slice false [] (Ar b)]]=some (.slice (decide (a++b=[])) [] (Ar (a++b))):=by
 by_cases c:a++b=[]
 ·obtain⟨rfl,rfl⟩:=List.append_eq_nil_iff.1 c;unfold F106u;rw[show Ar []=[]from rfl,R106z_eq (t:=[])];rfl
 ·have h1:Fcat3 [.slice false [] [.slice false [] (Ar a),.slice false [] (Ar b)]]=some (.slice false [] (Ar (a++b))):=by
   have e:Ec [D.slice false [] (Ar a),D.slice false [] (Ar b)]=some (Ar (a++b)):=by simp[Ec,Ar]
   have hp:0<(a++b).length:=List.length_pos_iff.2 c;unfold Fcat3;simp only[e];rw[if_pos ⟨by simp,by rw[Aw];exact hp,by rw[Aw,Ql];omega,mtsD_sz _⟩]
  unfold F106u;rw[h1,decide_eq_false c];rfl
def S127:Summs:=AF [(103,Ac F103),(106,Ac F106u)]
def R127:List D->Option D:=RF S127 dc127 [.cell (some 1) 4,.t 5] 25
theorem ko127:(Ac R127).ok Qb 127:=AJ fn127 (Ab ok103 (Ab ko106u Ad))
theorem R127_no(nl:Bool)(l:List Mt)(p:Bs)(hl:l.length<=1000)(hf:BR l p<0):R127 [.agg [.slice nl [] (Ar l)],.str p]=some (.tup [.agg [.slice nl [] (Ar l)],.int .i64 14]):=by
 refine AH (Qa rfl) ?_;have s103:S127 103=some (Ac F103):=rfl;have s106:S127 106=some (Ac F106u):=rfl;unfold dc127;have h103:=F103_eq (nl:=nl) (t:=[]) (l:=l) (p:=p) (by omega);simp only[gB1,↓go1,go5,reduceIte,simprocAttr,Aa s103,h103,eq_true hf]
 all_goals (first|rfl|exact⟨rfl,rfl⟩|(simp[*];done))
theorem R127_yes(nl:Bool)(l:List Mt)(p:Bs)(hl:l.length<=1000)(hn:nl=true->l=[])(hf:¬BR l p<0)(hi:(BR l p).toNat<l.length):R127 [.agg [.slice nl [] (Ar l)],.str p]=some (.tup [.agg [.slice (decide (remL l p=[])) [] (Ar (remL l p))],.int .i64 0]):=by
 refine AH (Qa rfl) ?_;have s103:S127 103=some (Ac F103):=rfl;have s106:S127 106=some (Ac F106u):=rfl;unfold dc127;have h103:=F103_eq (nl:=nl) (t:=[]) (l:=l) (p:=p) (by omega);have hnl:nl=false:=by
  cases nl with
  |false=>rfl
  |true=>rw[hn rfl]at hi;simp at hi
 subst hnl;unfold remL;generalize BR l p=q at *;have hq:(0:Int)<=q:=by omega
 have e1:((q.toNat:Nat):Int)=q:=QX hq;have hw:IntKind.i64.wrap (q+1)=q+1:=w64 (by omega) (by omega);have e2:(q+1).toNat=q.toNat+1:=by omega
 have h106:=F106u_eq (a:=l.take q.toNat) (b:=l.drop (q.toNat+1)) (by rw[Qq,Qx];omega);have hd:D.headSz (Ar l) 3=3:=by cases l<;>rfl
 have b1:q.toNat<=l.length:=by omega
 have b2:q.toNat+1<=l.length:=by omega
 have i1:(q<=(l.length:Int))=True:=eq_true (by omega);have i2:(q+1<=(l.length:Int))=True:=eq_true (by omega);have b3:(0:Int)<=q+1:=by omega
 have m1:Zb q.toNat (Ar l)=Ar (l.take q.toNat):=(List.map_take ..).symm;have m2:List.drop (q.toNat+1) (Ar l)=Ar (l.drop (q.toNat+1)):=(List.map_drop ..).symm;have m3:Zb (l.length-(q.toNat+1)) (Ar (l.drop (q.toNat+1)))=Ar (l.drop (q.toNat+1)):=QG (by rw[Aw,Qx];omega);simp only[gB1,↓go1,go5,reduceIte,simprocAttr,Aa s103,h103,eq_false hf,hw,Aw,hq,e2,hd,b3,i1,i2,Q9,m1,m2,m3,Qi,Aa s106,h106];refine An.intro (λp hp=>by cases hp) ?_;simp only[gB1,↓go1,go5,reduceIte,simprocAttr]
 all_goals (first|rfl|exact⟨rfl,rfl⟩|(simp[*];done))
def msO(o:Oc)(nl:Bool)(l:List Mt):Oc:={o with vw:={o.vw with nlm:=nl,ms:=l}}
def mntO(o:Oc)(nl:Bool)(l:List Mt):Oc:={(msO o nl l).op 1 (AZ 4 [] 0) (E5 l)with rep:=ryT .done}
def umO(o:Oc)(nl:Bool)(l:List Mt)(p:Bs):Oc:={((((msO o nl l).op 1 (AZ 4 [] 0) (E5 l)).op 3 ([109,47]++p++[47]) []).op 3 ([100,47]++p++[47]) [])with rep:=ryT .done}
def S58:Summs:=AF [(45,Ac F45),(54,wQ W54),(123,Ac B1),(126,Ac F126),(122,wQ Fc),(56,wQ W56)]
def W58:Wb->Oc->List D->Option WY:=RW S58 dc58 [] 48
theorem ko58:(wQ W58).ok Qb 58:=CU fn58 (Ab ok45 (Ab ko54 (Ab ko123 (Ab ok126 (Ab ko122 (Ab ko56 Ad))))))
theorem W58_fail(w:Wb)(o:Oc)(o2:Oc)(ol:Option (List Nat))(ho:o.nl=true->o.ops=[])(nl2:Bool)(l2:List Mt)(e:Int)(h45:F45 [.agg [.slice w.v.nlm [] (Ar w.v.ms)],.agg [.str w.a.pa,.int .i64 w.a.n,.bool w.a.fl]]=some (.tup [.agg [.slice nl2 [] (Ar l2)],.int .i64 e]))(he:e≠0)(h54:W54 w o [.int .i64 e]=some (.tup [],o2,ol)):W58 w o []=some (.tup [],o2,ol.map (·++[33])):=by
 refine A8 ho ⟨Qa rfl,λh=>Cl h54 h,λl h=>Ck h54 h,λi m fr t ha hfr hni hni0=>?_⟩;have s45:S58 45=some (Ac F45):=rfl;have s54:S58 54=some (wQ W54):=rfl;have hW:=Wt.start ha hfr;unfold dc58;have xx:=AO ha.1;simp only[gB1,↓go1,go5,reduceIte,simprocAttr,xx,Aa s45,h45];refine An.intro ?_ ?_
 ·intro pp hpp l hl;simp only[Qd,Qe,or_false]at hpp;rcases hpp with rfl|rfl|rfl|rfl|rfl|rfl
  ·exact AA hl
  ·have hl1:l.1=26::fr:=AC hl;refine⟨λh=>?_,λh=>AA h⟩;change l∈Ae i _ 1 at h;exact(hni0 26).mp ((AT h).symm.trans hl1)
  ·have hl1:l.1=26::fr:=AC hl;refine⟨λh=>?_,λh=>AA h⟩;change l∈Ae i _ 1 at h;exact(hni0 26).mp ((AT h).symm.trans hl1)
  ·have hl1:l.1=26::fr:=AC hl;refine⟨λh=>?_,λh=>AA h⟩;change l∈Ae i _ 1 at h;exact(hni0 26).mp ((AT h).symm.trans hl1)
  ·have hl1:l.1=26::fr:=AC hl;refine⟨λh=>?_,λh=>AA h⟩;change l∈Ae i _ 1 at h;exact(hni0 26).mp ((AT h).symm.trans hl1)
  ·have hl1:l.1=26::fr:=AC hl;exact⟨λh=>AA h,λh=>AA h⟩
 simp only[↓go1,gB3,go5,reduceIte,simprocAttr,eq_false he,Ah s54];refine As ((hW.put hfr hni0).put hfr hni0) hfr hni h54 ⟨_,_,_,_,rfl⟩ (λM c1 c2=>?_);simp only[↓go1,go2,simprocAttr];exact c1.endc ha.2.2
theorem W58_ok(w:Wb)(o:Oc)(nl2:Bool)(l2:List Mt)(h45:F45 [.agg [.slice w.v.nlm [] (Ar w.v.ms)],.agg [.str w.a.pa,.int .i64 w.a.n,.bool w.a.fl]]=some (.tup [.agg [.slice nl2 [] (Ar l2)],.int .i64 0]))(h0:Oc0 o)(hms:MsOk l2):W58 w o []=some (.tup [],mntO o nl2 l2,some ([11,42])):=by
 refine A8 (λ_=>h0.ops) ⟨Qa rfl,λh=>(by cases h),λl h=>(by simp only[Qg]at h;subst h;exact⟨rfl,by simp⟩),λi m fr t ha hfr hni hni0=>?_⟩;have s45:S58 45=some (Ac F45):=rfl;have s123:S58 123=some (Ac B1):=rfl;have s126:S58 126=some (Ac F126):=rfl;have s122:S58 122=some (wQ Fc):=rfl;have s56:S58 56=some (wQ W56):=rfl;have hW:=Wt.start ha hfr;unfold dc58;have xx:=AO ha.1;have hk:=Cy 4 0 [] (by simp);have h123:=hk;have h126:=F126_eq (n:=nl2) hms;have h122:=Dm w (msO o nl2 l2) 1 (AZ 4 [] 0) (E5 l2) (λ_=>h0.ops) (by show o.ops.length<=_;rw[h0.ops];simp);have h56:=W56_eq w ((msO o nl2 l2).op 1 (AZ 4 [] 0) (E5 l2)) (λh=>by cases h);simp only[gB1,↓go1,go5,reduceIte,simprocAttr,xx,Aa s45,h45];refine An.intro ?_ ?_
 ·intro pp hpp l hl;simp only[Qd,Qe,or_false]at hpp;rcases hpp with rfl|rfl|rfl|rfl|rfl|rfl
  ·exact AA hl
  ·have hl1:l.1=26::fr:=AC hl;refine⟨λh=>?_,λh=>AA h⟩;change l∈Ae i _ 1 at h;exact(hni0 26).mp ((AT h).symm.trans hl1)
  ·have hl1:l.1=26::fr:=AC hl;refine⟨λh=>?_,λh=>AA h⟩;change l∈Ae i _ 1 at h;exact(hni0 26).mp ((AT h).symm.trans hl1)
  ·have hl1:l.1=26::fr:=AC hl;refine⟨λh=>?_,λh=>AA h⟩;change l∈Ae i _ 1 at h;exact(hni0 26).mp ((AT h).symm.trans hl1)
  ·have hl1:l.1=26::fr:=AC hl;refine⟨λh=>?_,λh=>AA h⟩;change l∈Ae i _ 1 at h;exact(hni0 26).mp ((AT h).symm.trans hl1)
  ·have hl1:l.1=26::fr:=AC hl;exact⟨λh=>AA h,λh=>AA h⟩
 simp only[gB1,↓go1,go5,reduceIte,simprocAttr,xx,hni0,Aa s123,h123,Aa s126,h126,Ah s122];refine Cg (((hW.put hfr hni0).put hfr hni0).cellp (p:=28) (ys:=[.slice nl2 [] (Ar l2)]) (o':=msO o nl2 l2) (Qa rfl) rfl rfl rfl) hfr hni h122 ⟨_,_,_,_,rfl⟩ (λM u hu c1 c2=>?_);simp only[↓go1,go2,go3,simprocAttr];refine An.intro ?_ ?_
 ·intro pp hpp l hl;simp only[Qd,Qe,or_false]at hpp;subst hpp;exact AA hl
 simp only[↓go1,go2,go4,reduceIte,simprocAttr,Ah s56];refine As c1 hfr hni h56 ⟨_,_,_,_,rfl⟩ (λM2 d1 d2=>?_);simp only[↓go1,go2,simprocAttr];exact d1.endl (l:=[11,42]) (by simp)
def S59:Summs:=AF [(127,Ac R127),(54,wQ W54),(123,Ac B1),(126,Ac F126),(122,wQ Fc),(128,Ac R128),(56,wQ W56)]
def W59:Wb->Oc->List D->Option WY:=RW S59 dc59 [] 53
theorem ko59:(wQ W59).ok Qb 59:=CU fn59 (Ab ko127 (Ab ko54 (Ab ko123 (Ab ok126 (Ab ko122 (Ab ko128 (Ab ko56 Ad)))))))
theorem W59_fail(w:Wb)(o:Oc)(o2:Oc)(ol:Option (List Nat))(ho:o.nl=true->o.ops=[])(nl2:Bool)(l2:List Mt)(e:Int)(h127:R127 [.agg [.slice w.v.nlm [] (Ar w.v.ms)],.str w.a.pa]=some (.tup [.agg [.slice nl2 [] (Ar l2)],.int .i64 e]))(he:e≠0)(h54:W54 w o [.int .i64 e]=some (.tup [],o2,ol)):W59 w o []=some (.tup [],o2,ol.map (·++[21])):=by
 refine A8 ho ⟨Qa rfl,λh=>Cl h54 h,λl h=>Ck h54 h,λi m fr t ha hfr hni hni0=>?_⟩;have s127:S59 127=some (Ac R127):=rfl;have s54:S59 54=some (wQ W54):=rfl;have hW:=Wt.start ha hfr;unfold dc59;have xx:=AO ha.1;simp only[gB1,↓go1,go5,reduceIte,simprocAttr,xx,Aa s127,h127];refine An.intro ?_ ?_
 ·intro pp hpp l hl;simp only[Qd,Qe,or_false]at hpp;rcases hpp with rfl|rfl|rfl|rfl
  ·exact AA hl
  ·have hl1:l.1=14::fr:=AC hl;refine⟨λh=>?_,λh=>AA h⟩;change l∈Ae i _ 1 at h;exact(hni0 14).mp ((AT h).symm.trans hl1)
  ·have hl1:l.1=14::fr:=AC hl;refine⟨λh=>?_,λh=>AA h⟩;change l∈Ae i _ 1 at h;exact(hni0 14).mp ((AT h).symm.trans hl1)
  ·have hl1:l.1=14::fr:=AC hl;exact⟨λh=>AA h,λh=>AA h⟩
 simp only[↓go1,gB3,go5,reduceIte,simprocAttr,eq_false he,Ah s54];refine As ((hW.put hfr hni0).put hfr hni0) hfr hni h54 ⟨_,_,_,_,rfl⟩ (λM c1 c2=>?_);simp only[↓go1,go2,simprocAttr];exact c1.endc ha.2.2
theorem W59_ok(w:Wb)(o:Oc)(nl2:Bool)(l2:List Mt)(h127:R127 [.agg [.slice w.v.nlm [] (Ar w.v.ms)],.str w.a.pa]=some (.tup [.agg [.slice nl2 [] (Ar l2)],.int .i64 0]))(h0:Oc0 o)(hms:MsOk l2)(hp:w.a.pa.length<=1000000):W59 w o []=some (.tup [],umO o nl2 l2 w.a.pa,some ([11,54])):=by
 refine A8 (λ_=>h0.ops) ⟨Qa rfl,λh=>(by cases h),λl h=>(by simp only[Qg]at h;subst h;exact⟨rfl,by simp⟩),λi m fr t ha hfr hni hni0=>?_⟩;have s127:S59 127=some (Ac R127):=rfl;have s123:S59 123=some (Ac B1):=rfl;have s126:S59 126=some (Ac F126):=rfl;have s122:S59 122=some (wQ Fc):=rfl;have s128:S59 128=some (Ac R128):=rfl;have s56:S59 56=some (wQ W56):=rfl;have hW:=Wt.start ha hfr;unfold dc59;have xx:=AO ha.1;have hk:=Cy 4 0 [] (by simp);have h123:=hk;have h126:=F126_eq (n:=nl2) hms;have h122:=Dm w (msO o nl2 l2) 1 (AZ 4 [] 0) (E5 l2) (λ_=>h0.ops) (by show o.ops.length<=_;rw[h0.ops];simp);have h128:=R128_eq w.a.pa hp;generalize hq1:([109,47]++w.a.pa++[47]:Bs)=q1 at h128;generalize hq2:([100,47]++w.a.pa++[47]:Bs)=q2 at h128;have ha1:=Dm w ((msO o nl2 l2).op 1 (AZ 4 [] 0) (E5 l2)) 3 q1 [] (λh=>by cases h) (by simp[Oc.op,msO,h0.ops]);have ha2:=Dm w (((msO o nl2 l2).op 1 (AZ 4 [] 0) (E5 l2)).op 3 q1 []) 3 q2 [] (λh=>by cases h) (by simp[Oc.op,msO,h0.ops]);have h56:=W56_eq w ((((msO o nl2 l2).op 1 (AZ 4 [] 0) (E5 l2)).op 3 q1 []).op 3 q2 []) (λh=>by cases h);have y0:((0:Nat):Int)=0:=rfl;have y1:((1:Nat):Int)=1:=rfl;have y2:((2:Nat):Int)=2:=rfl;have w1:IntKind.i64.wrap 1=1:=rfl;have w2:IntKind.i64.wrap 2=2:=rfl;have z1:(0:Int)+1=1:=rfl;have z2:(1:Int)+1=2:=rfl;unfold umO;rw[hq1,hq2];simp only[gB1,↓go1,go5,reduceIte,simprocAttr,xx,Aa s127,h127];refine An.intro ?_ ?_
 ·intro pp hpp l hl;simp only[Qd,Qe,or_false]at hpp;rcases hpp with rfl|rfl|rfl|rfl
  ·exact AA hl
  ·have hl1:l.1=14::fr:=AC hl;refine⟨λh=>?_,λh=>AA h⟩;change l∈Ae i _ 1 at h;exact(hni0 14).mp ((AT h).symm.trans hl1)
  ·have hl1:l.1=14::fr:=AC hl;refine⟨λh=>?_,λh=>AA h⟩;change l∈Ae i _ 1 at h;exact(hni0 14).mp ((AT h).symm.trans hl1)
  ·have hl1:l.1=14::fr:=AC hl;exact⟨λh=>AA h,λh=>AA h⟩
 simp only[gB1,↓go1,go5,reduceIte,simprocAttr,xx,hni0,Aa s123,h123,Aa s126,h126,Ah s122];refine Cg (((hW.put hfr hni0).put hfr hni0).cellp (p:=28) (ys:=[.slice nl2 [] (Ar l2)]) (o':=msO o nl2 l2) (Qa rfl) rfl rfl rfl) hfr hni h122 ⟨_,_,_,_,rfl⟩ (λM u hu c1 c2=>?_);have xx:=AO c1.at_.1;simp only[↓go1,go2,go3,simprocAttr];refine An.intro ?_ ?_
 ·intro pp hpp l hl;simp only[Qd,Qe,or_false]at hpp;subst hpp;exact AA hl
 simp only[↓go1,gB3,go5,reduceIte,simprocAttr,xx.2.2.2.2.2.2.2.1,Aa s128,h128,Qc,Qj];refine Af dc59l0.eq_1 ?_;simp only[↓go1,gB3,go5,reduceIte,simprocAttr,QL,Qc,Qj,Ah s122];refine As c1 hfr hni ha1 ⟨_,_,_,_,rfl⟩ (λM2 d1 d2=>?_);simp only[↓go1,go2,reduceIte,simprocAttr,w1,z1];refine Af dc59l0.eq_1 ?_;simp only[↓go1,gB3,go5,reduceIte,simprocAttr,Zd,Qc,Qj,Ah s122];refine As d1 hfr hni ha2 ⟨_,_,_,_,rfl⟩ (λM3 e1 e2=>?_);simp only[↓go1,go2,reduceIte,simprocAttr,w2,z2];refine Af dc59l0.eq_1 ?_;simp only[↓go1,gB3,go5,reduceIte,simprocAttr,Ah s56];refine As e1 hfr hni h56 ⟨_,_,_,_,rfl⟩ (λM4 f1 f2=>?_);simp only[↓go1,go2,simprocAttr];exact f1.endl (l:=[11,54]) (by simp)
end Go.Vd
namespace Go.Vd
open Go.Proofs
def dc233l0:DC:=(sr [bt 16 .lss 15 14] (.seq (cd 16 .skip (.exit 0)) (.seq (.block 1 (sr [ii 17 1 13 15,ll 18 17,mm 6 18] (.seq (sr [mm 19 6,nn 20 true 19,bi 21 .gtr 20 65535] (cd 21 (sr [oo 2 (.mv (.c (.slice true [] []))),ci 3 5] .ret) .skip)) (.row [mm 22 4,mm 23 6,nn 24 true 23,oo 25 (.bin .add (.c (.int .i64 2)) (.t 24)),bt 26 .add 22 25,mm 4 26])))) (.row [bi 27 .add 15 1,mm 15 27]))))
def dc233l1:DC:=(sr [bt 33 .lss 32 31] (.seq (cd 33 .skip (.exit 2)) (.seq (.block 3 (sr [ii 34 1 30 32,ll 35 34,mm 9 35] (sr [mm 36 7,mm 37 9,nn 38 true 37,oo 39 (.conv .u64 (.t 38)),cc 40 326 [(.t 36),(.c (.int .i64 2)),(.t 39)],mm 7 40] (.row [mm 41 7,mm 42 9,oo 43 (.app 5 1 1 (.t 41) (.t 42)),mm 7 43])))) (.row [bi 44 .add 32 1,mm 32 44]))))
def dc233:DC:=(sr [oo 2 (.mv (.c (.slice true [] []))),ci 3 0] (.seq (sr [mm 10 0,nn 11 false 10,bi 12 .gtr 11 1024] (cd 12 (sr [oo 2 (.mv (.c (.slice true [] []))),ci 3 24] .ret) .skip)) (sr [ci 4 0] (.seq (sr [mm 13 0,nn 14 false 13,ci 15 0] (.block 0 (.loop dc233l0))) (sr [mm 28 4,oo 29 (.mksl 5 1 1 (.int .u8 0) (.c (.int .i64 0)) (.t 28)),mm 7 29] (.seq (sr [mm 30 0,nn 31 false 30,ci 32 0] (.block 2 (.loop dc233l1))) (sr [mm 45 7,mm 2 45,ci 3 0] .ret)))))))
theorem fn233:Fn Qb 233 46 dc233 [.t 2,.t 3]:=Am func233
def dc130:DC:=(sr [oo 1 (.box (.t 0)),oo 2 (.mv (.c (.str []))),ci 3 0] (.seq (sr [lk 9 3 1,cc 10 113 [(.t 9)],mm 4 10] (sr [mm 11 4,bi 12 .neq 11 0] (cd 12 (sr [mm 13 4,oo 2 (.mv (.c (.str []))),mm 3 13] .ret) .skip))) (sr [ff 15 2 1,ll 16 15,cc 17 232 [(.t 16)],mm 14 17,xx 18 0 14,xx 19 1 14,mm 5 18,mm 6 19] (sr [ff 21 1 1,ll 22 21,mm 23 5,oo 24 (.bslice 9 1 [(.t 22),(.t 23)]),cc 25 233 [(.t 24)],mm 20 25,xx 26 0 20,xx 27 1 20,mm 7 26,mm 8 27] (sr [mm 28 7,oo 29 (.b2s (.t 28)),mm 30 8,mm 2 29,mm 3 30] .ret)))))
theorem fn130:Fn Qb 130 31 dc130 [.t 2,.t 3]:=Am func130
end Go.Vd
namespace Go.Vd
open Go.Proofs Go.RowKit
def rowQ(s:Bs):Bs:=beB 2 (s.length:Int)++s
def CF(l:List Bs):Bs:=l.flatMap rowQ
theorem quillR_snoc(l:List Bs)(s:Bs):CF (l++[s])=CF l++beB 2 (s.length:Int)++s:=by simp[CF,rowQ]
theorem quillR_len:∀{l:List Bs},(∀s∈l,s.length<=60000)->(CF l).length<=60002*l.length
 |[],_=>by simp[CF]
 |x::r,h=>by
  have ih:=quillR_len (l:=r) (λs hs=>h s (QM _ hs));have hx:=h x Qy;have e:CF (x::r)=rowQ x++CF r:=by simp[CF]
  rw[e];simp only[Ql,rowQ,beB_len,Qc];omega
def S233:Summs:=AF [(326,gQ 5 F326)]
def R233:List D->Option D:=RF S233 dc233 [.t 2,.t 3] 46
theorem ko233:(Ac R233).ok Qb 233:=AJ fn233 (Ab ok326 Ad)
theorem R233_eq(nl:Bool)(l:List Bs)(hl:l.length<=1024)(hs:∀s∈l,s.length<=60000):R233 [.slice nl [] (AB l)]=some (.tup [.slice false [] (AI (CF l)),.int .i64 0]):=by
 refine AH (Qa rfl) ?_;have s326:S233 326=some (gQ 5 F326):=rfl;unfold dc233;have hlen:((1024:Int)<(l.length:Int))=False:=eq_false (by omega);simp only[↓go1,go2,go4,go5,reduceIte,Qs,QB,reduceCtorEq,A0,hlen];refine Bm (n:=l.length) (I:=λj st=>st.s 13= .slice nl [] (AB l)∧st.s 14= .int .i64 l.length∧st.s 15= .int .i64 (j:Int)∧st.s 0= .slice nl [] (AB l)∧∃a:Int,st.s 4= .int .i64 a∧0<=a∧a<=60002*(j:Int)) (λj hj ih st g hI=>?_) (λst g hI=>?_) 0 (Qh _) _ _ ⟨rfl,rfl,rfl,rfl,0,rfl,by omega,by omega⟩
 ·obtain⟨st_s,st_m,st_c⟩:=st;obtain⟨h13,h14,h15,h0,a,h4,ha1,ha2⟩:=hI;simp only at h13 h14 h15 h0 h4;refine Af dc233l0.eq_1 ?_;have hlt:((j:Int)<(l.length:Int))=True:=eq_true (by omega);have hj0:(0:Int)<=(j:Int):=by omega
  have hw:IntKind.i64.wrap ((j:Int)+1)=((j+1:Nat):Int):=by rw[w64 (by omega) (by omega)];omega
  have hat:=DI (l:=l) (j:=j) hj;have hx:=hs l[j] (QF hj);generalize l[j]=x at hat hx;have hb:((65535:Int)<(x.length:Int))=False:=eq_false (by omega);have w1:IntKind.i64.wrap (2+(x.length:Int))=2+(x.length:Int):=w64 (by omega) (by omega);have w2:IntKind.i64.wrap (a+(2+(x.length:Int)))=a+(2+(x.length:Int)):=w64 (by omega) (by omega);simp only[↓go1,gB3,go5,reduceIte,Qs,QB,h13,h14,h15,h4,hlt,hj0,Qn,hat,hb,w1,w2,hw];exact ih _ _ ⟨h13,h14,rfl,h0,_,rfl,by omega,by omega⟩
 ·obtain⟨st_s,st_m,st_c⟩:=st;obtain⟨h13,h14,h15,h0,a,h4,ha1,ha2⟩:=hI;simp only at h13 h14 h15 h0 h4;refine Af dc233l0.eq_1 ?_;have ha3:¬(a<0):=by omega
  simp only[↓go1,gB3,go5,reduceIte,Qs,QB,Int.reduceLE,h14,h15,h4,QJ,ha1];refine An.intro (by have e2:((1:Nat):Int)+1=2:=rfl;rw[e2];omega) ?_;simp only[↓go1,go2,go5,reduceIte,Qs,QB,reduceCtorEq,h0,A0,QL,List.replicate_zero];refine Bm (n:=l.length) (I:=λj st=>st.s 30= .slice nl [] (AB l)∧st.s 31= .int .i64 l.length∧st.s 32= .int .i64 (j:Int)∧∃t,st.s 7= .slice false t (AI (CF (l.take j)))∧Gd 5 [] (λ_ _=>none) true [] st.m st.c t) (λj hj ih st g hI=>?_) (λst g hI=>?_) 0 (Qh _) _ _ ⟨rfl,rfl,rfl,_,rfl,⟨[],_,rfl,by simp only;omega⟩,by simp[Mem.put],λi o hi=>absurd ⟨i,by simp⟩ hi⟩
  ·obtain⟨st_s,st_m,st_c⟩:=st;obtain⟨h30,h31,h32,t,h7,hG⟩:=hI;simp only at h30 h31 h32 h7 hG;refine Af dc233l1.eq_1 ?_;have hlt:((j:Int)<(l.length:Int))=True:=eq_true (by omega);have hj0:(0:Int)<=(j:Int):=by omega
   have hw:IntKind.i64.wrap ((j:Int)+1)=((j+1:Nat):Int):=by rw[w64 (by omega) (by omega)];omega
   have hat:=DI (l:=l) (j:=j) hj;have hx:=hs l[j] (QF hj);have htk:l.take (j+1)=l.take j++[l[j]]:=Qt hj;have hle:(CF (l.take j)).length<=60002*j:=by
    have:=quillR_len (l:=l.take j) (λs hh=>hs s (QE hh));rw[Qq]at this;omega
   generalize l[j]=x at hat hx htk;have wu:IntKind.u64.wrap (x.length:Int)=(x.length:Int):=by
    unfold IntKind.wrap;simp only;rw[show IntKind.u64.bits=64 from rfl,show IntKind.u64.signed=false from rfl,Bool.false_and,if_neg Bool.false_ne_true];omega
   have hF:F326 [.int .i64 2,.int .u64 (x.length:Int)]=some (AI (beB 2 (x.length:Int)),[26]):=by
    show(if 1<=(2:Int)∧(2:Int)<=8∧0<=(x.length:Int)then some (AI (beB (2:Int).toNat (x.length:Int)),[13*(2:Int).toNat])else none)=_;rw[if_pos ⟨by omega,by omega,by omega⟩];rfl
   have hG1:=hG.gs;have hg0:BG (λ_ _=>none) 5 true [] true=true:=rfl;simp only[↓go1,gB3,go5,reduceIte,Qs,QB,h30,h31,h32,h7,hlt,hj0,Qn,hat,wu,Ah s326];refine got_g (hG1.grow (λ_ _ _=>rfl) hg0) (λh=>by cases h) (by simp[AI];omega) hF ?_;have hA:=hG1.app (k:=st_c+1+3+4) (c':=st_c+1+3+5) (l:=[26]) (xs:=AI (CF (l.take j))) (by omega) (by omega);simp only[↓go1,go2,go3,go5,reduceIte,Qs,QB];refine An.intro ⟨by simp only[Ql,AI,Qm,beB_len];omega,by cases x<;>rfl,hA.gs.grow (λ_ _ _=>rfl) hg0⟩ ?_;have hB:=hA.gs.app (k:=st_c+1+3+6+2) (c':=st_c+1+3+6+3) (l:=[]) (xs:=AI (CF (l.take j))++AI (beB 2 (x.length:Int))) (by omega) (by omega);simp only[↓go1,go2,go5,reduceIte,Qs,QB,h32,hw];refine ih _ _ ⟨h30,h31,rfl,_,?_,hB.more (by simp only;omega)⟩;rw[htk,quillR_snoc];show D.slice _ _ _=_;simp[AI]
  ·obtain⟨st_s,st_m,st_c⟩:=st;obtain⟨h30,h31,h32,t,h7,hG⟩:=hI;simp only at h30 h31 h32 h7 hG;refine Af dc233l1.eq_1 ?_;rw[QS]at h7;simp only[↓go1,gB3,go5,reduceIte,Qs,QB,h31,h32,h7,QJ]
   all_goals (first|rfl|exact⟨rfl,rfl⟩|(simp[*];done))
def S130:Summs:=AF [(113,Ac F113),(232,Ac F232),(233,Ac R233)]
def R130:List D->Option D:=RF S130 dc130 [.t 2,.t 3] 31
theorem ko130:(Ac R130).ok Qb 130:=AJ fn130 (Ab ok113 (Ab ok232 (Ab ko233 Ad)))
theorem R130_ok(n p:Bs)(rnl:Bool)(rs:List Rl)(rt:Bs)(e2:Int)(h113:F113 [.agg [.str n,.str p,.slice rnl [] (Al rs)]]=some (.int .i64 0))(h232:F232 [.slice rnl [] (Al rs)]=some (.tup [.str rt,.int .i64 e2]))(hp:p.length<=60000)(hr:rt.length<=60000):R130 [.agg [.str n,.str p,.slice rnl [] (Al rs)]]=some (.tup [.str (CF [p,rt]),.int .i64 0]):=by
 refine AH (Qa rfl) ?_;have s113:S130 113=some (Ac F113):=rfl;have s232:S130 232=some (Ac F232):=rfl;have s233:S130 233=some (Ac R233):=rfl;unfold dc130;have h233:R233 [.slice false [] [.str p,.str rt]]=some (.tup [.slice false [] (AI (CF [p,rt])),.int .i64 0]):=R233_eq false [p,rt] (by simp) (by
  intro s hs;simp only[Qd,Qe,or_false]at hs;rcases hs with rfl|rfl
  ·exact hp
  ·exact hr)
 simp only[gB1,↓go1,go5,reduceIte,Qs,QB,Nat.reduceLT,Aa s113,h113,Aa s232,h232,Aa s233,h233,DF]
 all_goals (first|rfl|exact⟨rfl,rfl⟩|(simp[*];done))
def ksO(o:Oc)(nl:Bool)(l:List Tk):Oc:={o with vw:={o.vw with nlt:=nl,ks:=l}}
def mkO(o:Oc)(nl:Bool)(l:List Tk)(n text:Bs):Oc:={(ksO o nl l).op 1 (AZ 3 n 0) text with rep:=ryT .done}
def S60:Summs:=AF [(50,Ac F50),(129,Ac F129),(130,Ac R130),(54,wQ W54),(123,Ac B1),(122,wQ Fc),(56,wQ W56)]
def W60:Wb->Oc->List D->Option WY:=RW S60 dc60 [] 72
theorem ko60:(wQ W60).ok Qb 60:=CU fn60 (Ab ok50 (Ab ok129 (Ab ko130 (Ab ko54 (Ab ko123 (Ab ko122 (Ab ko56 Ad)))))))
theorem W60_fail(w:Wb)(o:Oc)(o2:Oc)(ol:Option (List Nat))(ho:o.nl=true->o.ops=[])(nl2:Bool)(k2:List Tk)(e:Int)(h50:F50 [.agg [.slice w.v.nlt [] (Av w.v.ks)],.agg [.str w.a.ot,.str w.a.tk,.slice w.a.nlr [] (Al w.a.rs)]]=some (.tup [.agg [.slice nl2 [] (Av k2)],.int .i64 e]))(he:e≠0)(h54:W54 w o [.int .i64 e]=some (.tup [],o2,ol)):W60 w o []=some (.tup [],o2,ol.map (·++[47])):=by
 refine A8 ho ⟨Qa rfl,λh=>Cl h54 h,λl h=>Ck h54 h,λi m fr t ha hfr hni hni0=>?_⟩;have s50:S60 50=some (Ac F50):=rfl;have s54:S60 54=some (wQ W54):=rfl;have hW:=Wt.start ha hfr;unfold dc60;have xx:=AO ha.1;simp only[gB1,↓go1,go5,reduceIte,simprocAttr,xx];refine An.intro ?_ ?_
 ·intro pp hpp l hl;simp only[Qd,Qe,or_false]at hpp;rcases hpp with rfl|rfl|rfl
  ·have hl1:l.1=16::fr:=AC hl;refine⟨λh=>?_,λh=>AA h⟩;change l∈Ae i _ 1 at h;exact(hni0 16).mp ((AT h).symm.trans hl1)
  ·have hl1:l.1=16::fr:=AC hl;refine⟨λh=>?_,λh=>AA h⟩;change l∈Ae i _ 1 at h;exact(hni0 16).mp ((AT h).symm.trans hl1)
  ·have hl1:l.1=16::fr:=AC hl;refine⟨λh=>?_,λh=>AA h⟩;change l∈Ae i _ 1 at h;exact(hni0 16).mp ((AT h).symm.trans hl1)
 simp only[gB1,↓go1,go5,reduceIte,simprocAttr,xx,hni0,Aa s50,h50];refine An.intro ?_ ?_
 ·intro pp hpp l hl;simp only[Qd,Qe,or_false]at hpp;rcases hpp with rfl|rfl|rfl|rfl
  ·exact AA hl
  ·have hl1:l.1=28::fr:=AC hl;refine⟨λh=>?_,λh=>AA h⟩;change l∈Ae i _ 1 at h;exact(hni0 28).mp ((AT h).symm.trans hl1)
  ·have hl1:l.1=28::fr:=AC hl;refine⟨λh=>?_,λh=>AA h⟩;change l∈Ae (16::fr) 0 3 at h;have:=hl1.symm.trans (AT h);simp at this
  ·have hl1:l.1=28::fr:=AC hl;exact⟨λh=>AA h,λh=>AA h⟩
 simp only[↓go1,gB3,go5,reduceIte,simprocAttr,eq_false he,Ah s54];refine As ((((hW.put hfr hni0).put hfr hni0).put hfr hni0).put hfr hni0) hfr hni h54 ⟨_,_,_,_,rfl⟩ (λM c1 c2=>?_);simp only[↓go1,go2,simprocAttr];exact c1.endc ha.2.2
theorem W60_many(w:Wb)(o:Oc)(o2:Oc)(ol:Option (List Nat))(ho:o.nl=true->o.ops=[])(nl2:Bool)(k2:List Tk)(h50:F50 [.agg [.slice w.v.nlt [] (Av w.v.ks)],.agg [.str w.a.ot,.str w.a.tk,.slice w.a.nlr [] (Al w.a.rs)]]=some (.tup [.agg [.slice nl2 [] (Av k2)],.int .i64 0]))(nb:Bool)(ns:List D)(h129:F129 [.agg [.slice w.v.nlt [] (Av w.v.ks)]]=some (.slice nb [] ns))(hm:(24:Int)<=(ns.length:Int))(h54:W54 w o [.int .i64 24]=some (.tup [],o2,ol)):W60 w o []=some (.tup [],o2,ol.map (·++[48])):=by
 refine A8 ho ⟨Qa rfl,λh=>Cl h54 h,λl h=>Ck h54 h,λi m fr t ha hfr hni hni0=>?_⟩;have s50:S60 50=some (Ac F50):=rfl;have s129:S60 129=some (Ac F129):=rfl;have s54:S60 54=some (wQ W54):=rfl;have hW:=Wt.start ha hfr;unfold dc60;have xx:=AO ha.1;simp only[gB1,↓go1,go5,reduceIte,simprocAttr,xx];refine An.intro ?_ ?_
 ·intro pp hpp l hl;simp only[Qd,Qe,or_false]at hpp;rcases hpp with rfl|rfl|rfl
  ·have hl1:l.1=16::fr:=AC hl;refine⟨λh=>?_,λh=>AA h⟩;change l∈Ae i _ 1 at h;exact(hni0 16).mp ((AT h).symm.trans hl1)
  ·have hl1:l.1=16::fr:=AC hl;refine⟨λh=>?_,λh=>AA h⟩;change l∈Ae i _ 1 at h;exact(hni0 16).mp ((AT h).symm.trans hl1)
  ·have hl1:l.1=16::fr:=AC hl;refine⟨λh=>?_,λh=>AA h⟩;change l∈Ae i _ 1 at h;exact(hni0 16).mp ((AT h).symm.trans hl1)
 simp only[gB1,↓go1,go5,reduceIte,simprocAttr,xx,hni0,Aa s50,h50];refine An.intro ?_ ?_
 ·intro pp hpp l hl;simp only[Qd,Qe,or_false]at hpp;rcases hpp with rfl|rfl|rfl|rfl
  ·exact AA hl
  ·have hl1:l.1=28::fr:=AC hl;refine⟨λh=>?_,λh=>AA h⟩;change l∈Ae i _ 1 at h;exact(hni0 28).mp ((AT h).symm.trans hl1)
  ·have hl1:l.1=28::fr:=AC hl;refine⟨λh=>?_,λh=>AA h⟩;change l∈Ae (16::fr) 0 3 at h;have:=hl1.symm.trans (AT h);simp at this
  ·have hl1:l.1=28::fr:=AC hl;exact⟨λh=>AA h,λh=>AA h⟩
 simp only[gB1,↓go1,go5,reduceIte,simprocAttr,xx,hni0,Aa s129,h129,eq_true hm,Ah s54];refine As ((((hW.put hfr hni0).put hfr hni0).put hfr hni0).put hfr hni0) hfr hni h54 ⟨_,_,_,_,rfl⟩ (λM c1 c2=>?_);simp only[↓go1,go2,simprocAttr];exact c1.endc ha.2.2
theorem W60_ok(w:Wb)(o:Oc)(nl2:Bool)(k2:List Tk)(h50:F50 [.agg [.slice w.v.nlt [] (Av w.v.ks)],.agg [.str w.a.ot,.str w.a.tk,.slice w.a.nlr [] (Al w.a.rs)]]=some (.tup [.agg [.slice nl2 [] (Av k2)],.int .i64 0]))(nb:Bool)(ns:List D)(h129:F129 [.agg [.slice w.v.nlt [] (Av w.v.ks)]]=some (.slice nb [] ns))(h0:Oc0 o)(hm:¬(24:Int)<=(ns.length:Int))(text:Bs)(e3:Int)(h130:R130 [.agg [.str w.a.ot,.str w.a.tk,.slice w.a.nlr [] (Al w.a.rs)]]=some (.tup [.str text,.int .i64 e3]))(hp:w.a.ot.length<=1000000):W60 w o []=some (.tup [],mkO o nl2 k2 w.a.ot text,some ([11,67])):=by
 refine A8 (λ_=>h0.ops) ⟨Qa rfl,λh=>(by cases h),λl h=>(by simp only[Qg]at h;subst h;exact⟨rfl,by simp⟩),λi m fr t ha hfr hni hni0=>?_⟩;have s50:S60 50=some (Ac F50):=rfl;have s129:S60 129=some (Ac F129):=rfl;have s130:S60 130=some (Ac R130):=rfl;have s123:S60 123=some (Ac B1):=rfl;have s122:S60 122=some (wQ Fc):=rfl;have s56:S60 56=some (wQ W56):=rfl;have hW:=Wt.start ha hfr;unfold dc60;have h123:=Cy 3 0 w.a.ot hp;have h122:=Dm w (ksO o nl2 k2) 1 (AZ 3 w.a.ot 0) text (λ_=>h0.ops) (by show o.ops.length<=_;rw[h0.ops];simp);have h56:=W56_eq w ((ksO o nl2 k2).op 1 (AZ 3 w.a.ot 0) text) (λh=>by cases h);have xx:=AO ha.1;simp only[gB1,↓go1,go5,reduceIte,simprocAttr,xx];refine An.intro ?_ ?_
 ·intro pp hpp l hl;simp only[Qd,Qe,or_false]at hpp;rcases hpp with rfl|rfl|rfl
  ·have hl1:l.1=16::fr:=AC hl;refine⟨λh=>?_,λh=>AA h⟩;change l∈Ae i _ 1 at h;exact(hni0 16).mp ((AT h).symm.trans hl1)
  ·have hl1:l.1=16::fr:=AC hl;refine⟨λh=>?_,λh=>AA h⟩;change l∈Ae i _ 1 at h;exact(hni0 16).mp ((AT h).symm.trans hl1)
  ·have hl1:l.1=16::fr:=AC hl;refine⟨λh=>?_,λh=>AA h⟩;change l∈Ae i _ 1 at h;exact(hni0 16).mp ((AT h).symm.trans hl1)
 simp only[gB1,↓go1,go5,reduceIte,simprocAttr,xx,hni0,Aa s50,h50];refine An.intro ?_ ?_
 ·intro pp hpp l hl;simp only[Qd,Qe,or_false]at hpp;rcases hpp with rfl|rfl|rfl|rfl
  ·exact AA hl
  ·have hl1:l.1=28::fr:=AC hl;refine⟨λh=>?_,λh=>AA h⟩;change l∈Ae i _ 1 at h;exact(hni0 28).mp ((AT h).symm.trans hl1)
  ·have hl1:l.1=28::fr:=AC hl;refine⟨λh=>?_,λh=>AA h⟩;change l∈Ae (16::fr) 0 3 at h;have:=hl1.symm.trans (AT h);simp at this
  ·have hl1:l.1=28::fr:=AC hl;exact⟨λh=>AA h,λh=>AA h⟩
 simp only[gB1,↓go1,go5,reduceIte,simprocAttr,xx,hni0,Aa s129,h129,eq_false hm,Aa s130,h130,Aa s123,h123,Ah s122];refine As (((((hW.put hfr hni0).put hfr hni0).put hfr hni0).put hfr hni0).cellp (p:=29) (ys:=[.slice nl2 [] (Av k2)]) (o':=ksO o nl2 k2) (Qa rfl) rfl rfl rfl) hfr hni h122 ⟨_,_,_,_,rfl⟩ (λM c1 c2=>?_);simp only[↓go1,go2,go4,reduceIte,simprocAttr,Ah s56];refine As c1 hfr hni h56 ⟨_,_,_,_,rfl⟩ (λM2 d1 d2=>?_);simp only[↓go1,go2,simprocAttr];exact d1.endl (l:=[11,67]) (by simp)
end Go.Vd
namespace Go.Vd
open Go.Proofs
def dc382:DC:=(sr [oo 4 (.mv (.c (.str []))),oo 5 (.mv (.c (.str []))),cb 6 false] (.seq (sr [mm 8 0,mm 9 1,cc 10 356 [(.t 8),(.t 9)],mm 7 10] (sr [mm 11 7,bi 12 .geq 11 0] (cd 12 (.seq (.drawn [mm 13 0,mm 14 7,oo 15 (.cuts (.t 13) none (some (.t 14))),mm 16 0,mm 17 7,mm 18 1,nn 19 true 18,bt 20 .add 17 19,oo 21 (.cuts (.t 16) (some (.t 20)) none),mm 4 15,mm 5 21,cb 6 true] []) .ret) .skip))) (sr [mm 22 0,mm 4 22,oo 5 (.mv (.c (.str []))),cb 6 false] .ret)))
theorem fn382:Fn Qb 382 23 dc382 [.t 4,.t 5,.t 6]:=Am func382
def dc332:DC:=(sr [oo 4 (.mv (.c (.str []))),oo 5 (.mv (.c (.str []))),cb 6 false] (sr [mm 7 0,mm 8 1,cc 9 382 [(.t 7),(.t 8)],xx 10 0 9,xx 11 1 9,xx 12 2 9,mm 4 10,mm 5 11,mm 6 12] .ret))
theorem fn332:Fn Qb 332 13 dc332 [.t 4,.t 5,.t 6]:=Am func332
def dc238:DC:=(sr [oo 4 (.mv (.c (.str []))),cb 5 false] (sr [mm 12 0,mm 13 1,cc 14 331 [(.t 12),(.t 13)],mm 11 14,xx 15 0 11,xx 16 1 11,mm 6 15,mm 7 16] (.seq (sr [mm 17 7,oo 18 (.un .not (.t 17))] (cd 18 (sr [oo 4 (.mv (.c (.str []))),cb 5 false] .ret) .skip)) (.seq (sr [mm 20 6,cc 21 332 [(.t 20),(.c (.str [47]))],mm 19 21,xx 22 0 19,xx 23 1 19,xx 24 2 19,mm 8 22,mm 9 23,mm 10 24] (sr [mm 25 10] (cd 25 (sr [mm 26 8,oo 27 (.bin .add (.t 26) (.c (.str [47]))),mm 4 27,cb 5 true] .ret) .skip))) (sr [mm 28 6,mm 4 28,cb 5 true] .ret)))))
theorem fn238:Fn Qb 238 29 dc238 [.t 4,.t 5]:=Am func238
def dc62l0:DC:=(sr [bt 36 .lss 35 34] (.seq (cd 36 .skip (.exit 0)) (.seq (.block 1 (sr [ii 37 1 33 35,ll 38 37,mm 7 38] (sr [mm 40 7,cc 41 38 [(.t 40)],mm 39 41,xx 42 0 39,xx 43 1 39,oo 8 (.alloc [(.int .u8 0),(.str []),(.int .i64 0)]),oz (.store 3 (.t 8) (.t 42)),mm 9 43] (sr [mm 44 9,bi 45 .eql 44 0,mm 46 45,og 47 (.faddr 0 (.t 8)) 2 true,og 48 (.load none (.t 47)) 2 true,og 49 (.bin .eql (.t 48) (.c (.int .u8 1))) 2 true,oo 50 (.pick (.t 46) (.t 49) (.c (.bool false)))] (cd 50 (.row [mm 51 5,ff 52 1 8,ll 53 52,oo 54 (.bslice 9 1 [(.t 53)]),oo 55 (.app 9 1 16 (.t 51) (.t 54)),mm 5 55]) .skip))))) (.row [bi 56 .add 35 1,mm 35 56]))))
def dc62:DC:=(sr [mm 11 0,nk 12 11,ff 13 5 12,ff 14 2 13,ll 15 14,cc 16 128 [(.t 15)],oo 17 (.iaddr 1 (.t 16) (.c (.int .i64 0))),ll 18 17,mm 2 18] (sr [mm 20 0,nk 21 20,ff 22 16 21,lk 23 5 22,mm 24 2,cc 25 132 [(.t 23),(.t 24)],mm 19 25,xx 26 0 19,xx 27 1 19,mm 3 26,mm 4 27] (.seq (sr [mm 28 4,oo 29 (.un .not (.t 28))] (cd 29 (sr [mm 30 0,mm 31 2,cc 32 133 [(.t 30),(.t 31),(.c (.bool true))]] .ret) .skip)) (sr [oo 5 (.mv (.c (.slice true [] [])))] (.seq (sr [mm 33 3,nn 34 false 33,ci 35 0] (.block 0 (.loop dc62l0))) (sr [mm 57 0,nk 58 57,ff 59 5 58,ff 60 2 59,ll 61 60,mm 62 5,cc 63 134 [(.t 61),(.t 62)],mm 10 63] (.row [mm 64 0,mm 65 10,mm 66 10,nn 67 false 66,oo 68 (.mxm false (.t 67) (.c (.int .i64 64))),oo 69 (.cutl 1 (.t 65) none (some (.t 68))),oo 70 (.build [(.int .u8 0),(.int .i64 0),(.int .i64 0),(.str []),(.slice true [] []),(.int .i64 0),(.bool false),(.int .i64 0),(.slice true [] []),(.bool false)] [(0,1,(.c (.int .u8 5))),(4,1,(.t 69))]),cc 71 55 [(.t 64),(.t 70)]])))))))
theorem fn62:Fn Qb 62 72 dc62 []:=Am func62
end Go.Vd
namespace Go.Vd
open Go.Proofs Go.RowKit
theorem ixB_bd:∀(l:Bs)(c:UInt8),Lib.indexByte l c=-1∨(0<=Lib.indexByte l c∧Lib.indexByte l c<(l.length:Int))
 |[],_=> .inl rfl
 |b::l,c=>by
  have ih:=ixB_bd l c;simp only[Lib.indexByte,beq_iff_eq,Qc];split
  ·exact .inr ⟨by omega,by omega⟩
  ·split
   ·exact .inl rfl
   ·rcases ih with h|h
    ·rename_i h2;exact absurd h h2
    ·exact .inr ⟨by omega,by omega⟩
def C7(s:Bs)(c:UInt8):Bs×Bs×Bool:=if Lib.indexByte s c<0 then(s,[],false)else(s.take (Lib.indexByte s c).toNat,s.drop ((Lib.indexByte s c).toNat+1),true)
def B0(s top:Bs):Bs×Bool:=if B9 s top=false then([],false)else if(C7 (CL s top) 47).2.2=true then((C7 (CL s top) 47).1++[47],true)else(CL s top,true)
theorem IX_eq{s:Bs}{c:UInt8}:IX [.str s,.str [c]]=some (.int .i64 (Lib.indexByte s c)):=rfl
def S382:Summs:=AF [(356,Ac IX)]
def R382:List D->Option D:=RF S382 dc382 [.t 4,.t 5,.t 6] 23
theorem ko382:(Ac R382).ok Qb 382:=AJ fn382 (Ab ko356 Ad)
theorem R382_eq(s:Bs)(c:UInt8)(hl:s.length<=1000000):R382 [.str s,.str [c]]=some (.tup [.str (C7 s c).1,.str (C7 s c).2.1,.bool (C7 s c).2.2]):=by
 refine AH (Qa rfl) ?_;have s356:S382 356=some (Ac IX):=rfl;unfold dc382;have h356:=IX_eq (s:=s) (c:=c);have hb:=ixB_bd s c;unfold C7;generalize Lib.indexByte s c=q at *;by_cases hq:q<0
 ·have hq':((0:Int)<=q)=False:=eq_false (by omega);rw[if_pos hq];simp only[↓go1,gB3,go5,reduceIte,simprocAttr,Aa s356,h356,hq']
  all_goals (first|rfl|exact⟨rfl,rfl⟩|(simp[*];done))
 ·have hq':(0:Int)<=q:=by omega
  have e1:(q<=(s.length:Int))=True:=eq_true (by omega);have e2:(q+1<=(s.length:Int))=True:=eq_true (by omega);have e3:(0:Int)<=q+1:=by omega
  have e4:(q+1).toNat=q.toNat+1:=by omega
  have b1:q.toNat<=s.length:=by omega
  have b2:q.toNat+1<=s.length:=by omega
  have hw:IntKind.i64.wrap (q+1)=q+1:=w64 (by omega) (by omega);have y1:((1:Nat):Int)=1:=rfl;have m3:Zb (s.length-(q.toNat+1)) (s.drop (q.toNat+1))=s.drop (q.toNat+1):=QG (by rw[Qx];omega);rw[if_neg hq];simp only[↓go1,gB3,go5,reduceIte,simprocAttr,Aa s356,h356,hq',e1,e2,e3,e4,hw,y1,m3,Q9,Qc,Qj];refine An.intro (λp hp=>by cases hp) ?_;simp only[↓go1,gB3,go5,reduceIte,simprocAttr]
  all_goals (first|rfl|exact⟨rfl,rfl⟩|(simp[*];done))
def S332:Summs:=AF [(382,Ac R382)]
def R332:List D->Option D:=RF S332 dc332 [.t 4,.t 5,.t 6] 13
theorem ko332:(Ac R332).ok Qb 332:=AJ fn332 (Ab ko382 Ad)
theorem R332_eq(s:Bs)(c:UInt8)(hl:s.length<=1000000):R332 [.str s,.str [c]]=some (.tup [.str (C7 s c).1,.str (C7 s c).2.1,.bool (C7 s c).2.2]):=by
 refine AH (Qa rfl) ?_;have s382:S332 382=some (Ac R382):=rfl;unfold dc332;have h382:=R382_eq s c hl;simp only[↓go1,gB3,go5,reduceIte,simprocAttr,Aa s382,h382]
 all_goals (first|rfl|exact⟨rfl,rfl⟩|(simp[*];done))
def S238:Summs:=AF [(331,Ac F331),(332,Ac R332)]
def R238:List D->Option D:=RF S238 dc238 [.t 4,.t 5] 29
theorem ko238:(Ac R238).ok Qb 238:=AJ fn238 (Ab ok331 (Ab ko332 Ad))
theorem R238_eq(s top:Bs)(hl:s.length<=1000000)(hr:(CL s top).length<=s.length):R238 [.str s,.str top]=some (.tup [.str (B0 s top).1,.bool (B0 s top).2]):=by
 refine AH (Qa rfl) ?_;have s331:S238 331=some (Ac F331):=rfl;have s332:S238 332=some (Ac R332):=rfl;unfold dc238;have h331:F331 [.str s,.str top]=some (.tup [.str (CL s top),.bool (B9 s top)]):=rfl;have h332:=R332_eq (CL s top) 47 (by omega);have hcl:(C7 (CL s top) 47).1.length<=(CL s top).length:=by
  unfold C7;split
  ·exact Qi _
  ·simp only[Qq];omega
 unfold B0;generalize C7 (CL s top) 47=q at *;generalize CL s top=r at *;obtain⟨q1,q2,q3⟩:=q;simp only at hcl h332 ⊢;cases hb:B9 s top with
 |false=>
  rw[hb]at h331;simp only[↓go1,gB3,go5,reduceIte,simprocAttr,Aa s331,h331]
  all_goals (first|rfl|exact⟨rfl,rfl⟩|(simp[*];done))
 |true=>
  rw[hb]at h331;have ha:=add_s (a:=q1) (b:=[47]) (by simp only[Q8];omega);cases q3 with
  |false=>
   simp only[↓go1,gB3,go5,reduceIte,simprocAttr,Aa s331,h331,Aa s332,h332]
   all_goals (first|rfl|exact⟨rfl,rfl⟩|(simp[*];done))
  |true=>
   have hle:(q1.length+1<=9223372036854775807)=True:=eq_true (by omega);simp only[↓go1,gB3,go5,reduceIte,simprocAttr,Aa s331,h331,Aa s332,h332,ha]
   all_goals (first|rfl|exact⟨rfl,rfl⟩|(simp[*];done))
end Go.Vd
namespace Go.Vd
open Go.Proofs
def dc65l0:DC:=(sr [bt 14 .lss 13 12] (.seq (cd 14 .skip (.exit 0)) (.seq (.block 1 (sr [mm 15 13,mm 5 15] (.seq (.drawn [mm 16 0,mm 17 5,ii 18 3 16 17,lk 19 3 18,mm 20 1,mm 21 5,ii 22 3 20 21,lk 23 3 22,oo 24 (.seq true [(0,0),(2,1),(2,2)] (.t 19) (.t 23))] []) (cd 24 (sr [cb 4 false] .ret) .skip)))) (.row [bi 25 .add 13 1,mm 13 25]))))
def dc65:DC:=(sr [cb 4 false] (.seq (sr [mm 6 0,nn 7 false 6,mm 8 1,nn 9 false 8,bt 10 .neq 7 9] (cd 10 (sr [cb 4 false] .ret) .skip)) (.seq (sr [mm 11 0,nn 12 false 11,ci 13 0] (.block 0 (.loop dc65l0))) (sr [cb 4 true] .ret))))
theorem fn65:Fn Qb 65 26 dc65 [.t 4]:=Am func65
def dc20:DC:=(sr [cb 4 false] (sr [mm 5 0,mm 6 1,cc 7 65 [(.t 5),(.t 6)],mm 4 7] .ret))
theorem fn20:Fn Qb 20 8 dc20 [.t 4]:=Am func20
end Go.Vd
namespace Go.Vd
open Go.Proofs Go.RowKit
theorem opsD_at{l:List Op1}{j:Nat}(h:j<l.length):(Dr l)[j]?=some (.agg [.int .u8 l[j].1,.str l[j].2.1,.str l[j].2.2]):=by simp[Dr,opD,Qf h]
def S65:Summs:=AF []
def R65:List D->Option D:=RF S65 dc65 [.t 4] 26
theorem ko65:(Ac R65).ok Qb 65:=AJ fn65 Ad
theorem R65_eq{n1 n2:Bool}{l:List Op1}(hl:l.length<=100000):R65 [.slice n1 [] (Dr l),.slice n2 [] (Dr l)]=some (.bool true):=by
 refine AH (Qa rfl) ?_;unfold dc65;simp only[↓go1,go2,go4,go5,reduceIte,simprocAttr,opsD_len];refine Bm (n:=l.length) (I:=λj st=>st.s 0= .slice n1 [] (Dr l)∧st.s 1= .slice n2 [] (Dr l)∧st.s 12= .int .i64 l.length∧st.s 13= .int .i64 (j:Int)) (λj hj ih st g hI=>?_) (λst g hI=>?_) 0 (Qh _) _ _ ⟨rfl,rfl,rfl,rfl⟩
 ·obtain⟨st_s,st_m,st_c⟩:=st;obtain⟨h0,h1,h12,h13⟩:=hI;simp only at h0 h1 h12 h13;refine Af dc65l0.eq_1 ?_;have hlt:((j:Int)<l.length):=by omega
  have hj0:(0:Int)<=(j:Int):=by omega
  have hw:IntKind.i64.wrap ((j:Int)+1)=((j+1:Nat):Int):=w64 (by omega) (by omega);have hat:=opsD_at hj;have hle:Bi [.int .u8 l[j].1,.str l[j].2.1,.str l[j].2.2] [.int .u8 l[j].1,.str l[j].2.1,.str l[j].2.2] [(0,0),(2,1),(2,2)]=some true:=by simp[Bi,leafEq]
  simp only[Q6,↓go1,gB3,go5,reduceIte,simprocAttr,h0,h1,h12,h13,hlt,hj0,Qn,hat,hle]
  (refine An.intro (Aj ?_) ?_;(first|rfl|(simp[Ax,Aq,rds,Ae];done)|(simp[Ax,Aq,rds,Ae,Ac];done)))
  simp only[↓go1,go2,go5,reduceIte,simprocAttr,h13,hw];exact ih _ _ ⟨h0,h1,h12,rfl⟩
 ·obtain⟨h0,h1,h12,h13⟩:=hI;refine Af dc65l0.eq_1 ?_;simp only[↓go1,gB3,go5,reduceIte,simprocAttr,h12,h13,QJ]
  all_goals (first|rfl|exact⟨rfl,rfl⟩|(simp[*];done))
def S20:Summs:=AF [(65,Ac R65)]
def R20:List D->Option D:=RF S20 dc20 [.t 4] 8
theorem ko20:(Ac R20).ok Qb 20:=AJ fn20 (Ab ko65 Ad)
theorem R20_eq{n1 n2:Bool}{l:List Op1}(hl:l.length<=100000):R20 [.slice n1 [] (Dr l),.slice n2 [] (Dr l)]=some (.bool true):=by
 refine AH (Qa rfl) ?_;have s65:S20 65=some (Ac R65):=rfl;unfold dc20;have h65:=R65_eq (n1:=n1) (n2:=n2) hl;simp only[↓go1,gB3,go5,reduceIte,simprocAttr,Aa s65,h65]
 all_goals (first|rfl|exact⟨rfl,rfl⟩|(simp[*];done))
end Go.Vd
namespace Go.Vd
open Go.Proofs
def dc330l0:DC:=(sr [bt 9 .lss 8 7] (.seq (cd 9 .skip (.exit 0)) (.seq (.block 1 (sr [mm 10 8,mm 5 10] (sr [mm 11 1,mm 12 0,mm 13 5,ii 14 1 12 13,ll 15 14,bt 16 .eql 11 15] (cd 16 (sr [mm 17 5,mm 4 17] .ret) .skip)))) (.row [bi 18 .add 8 1,mm 8 18]))))
def dc330:DC:=(sr [ci 4 0] (.seq (sr [mm 6 0,nn 7 false 6,ci 8 0] (.block 0 (.loop dc330l0))) (sr [oo 4 (.mv (.c (.int .i64 (-1))))] .ret)))
theorem fn330:Fn Qb 330 19 dc330 [.t 4]:=Am func330
def dc236:DC:=(sr [cb 4 false] (sr [mm 5 0,mm 6 1,cc 7 330 [(.t 5),(.t 6)],bi 8 .geq 7 0,mm 4 8] .ret))
theorem fn236:Fn Qb 236 9 dc236 [.t 4]:=Am func236
end Go.Vd
namespace Go.Vd
open Go.Proofs Go.RowKit
theorem firstS_at{l:List Bs}{n:Bs}{j:Nat}(hj:j<l.length)(hx:n=l[j])(hall:∀i (h:i<j),n≠l[i]'(by omega)):A9 (l.map λx=>decide (n=x))=j:=by
 unfold A9;have:(l.map λx=>decide (n=x)).findIdx? id=some j:=by
  rw[List.findIdx?_eq_some_iff_getElem];refine⟨by simpa using hj,by simp[hx],λi hi=>?_⟩;have:=hall i hi;simpa using this
 rw[this]
theorem firstS_no{l:List Bs}{n:Bs}(hall:∀i (h:i<l.length),n≠l[i]):A9 (l.map λx=>decide (n=x))=-1:=by
 unfold A9;have:(l.map λx=>decide (n=x)).findIdx? id=none:=by
  rw[List.findIdx?_eq_none_iff];intro b hb;obtain⟨x,hx,rfl⟩:=Qr.1 hb;obtain⟨i,hi,rfl⟩:=QY hx;simpa using hall i hi
 rw[this]
def hasSt(l:List Bs)(n:Bs):Bool:=l.any λx=>decide (n=x)
theorem hasSt_first(l:List Bs)(n:Bs):decide (0<=A9 (l.map λx=>decide (n=x)))=hasSt l n:=by
 rw[FU,List.any_map];rfl
def S330:Summs:=AF []
def R330:List D->Option D:=RF S330 dc330 [.t 4] 19
theorem ko330:(Ac R330).ok Qb 330:=AJ fn330 Ad
theorem R330_eq{nl:Bool}{l:List Bs}(n:Bs)(hl:l.length<=100000):R330 [.slice nl [] (AB l),.str n]=some (.int .i64 (A9 (l.map λx=>decide (n=x)))):=by
 refine AH (Qa rfl) ?_;unfold dc330;simp only[↓go1,go2,reduceIte,simprocAttr,A0];refine Bm (n:=l.length) (I:=λj st=>st.s 0= .slice nl [] (AB l)∧st.s 1= .str n∧st.s 7= .int .i64 l.length∧st.s 8= .int .i64 (j:Int)∧∀i (h:i<j) (h2:i<l.length),n≠l[i]) (λj hj ih st g hI=>?_) (λst g hI=>?_) 0 (Qh _) _ _ ⟨rfl,rfl,rfl,rfl,λi h=>absurd h (Nat.not_lt_zero _)⟩
 ·obtain⟨st_s,st_m,st_c⟩:=st;obtain⟨h0,h1,h7,h8,hall⟩:=hI;simp only at h0 h1 h7 h8;refine Af dc330l0.eq_1 ?_;have hlt:((j:Int)<l.length):=by omega
  have hj0:(0:Int)<=(j:Int):=by omega
  have hw:IntKind.i64.wrap ((j:Int)+1)=((j+1:Nat):Int):=w64 (by omega) (by omega);have hat:=DI (l:=l) (j:=j) hj;by_cases hx:n=l[j]
  ·have e:=firstS_at hj hx (λi h=>hall i h (by omega));have hx':(n=l[j])=True:=eq_true hx;simp only[↓go1,gB3,go5,reduceIte,simprocAttr,h0,h1,h7,h8,hlt,hj0,Qn,hat,hx'];rw[e]
   all_goals (first|rfl|exact⟨rfl,rfl⟩|(simp[*];done))
  ·have hx':(n=l[j])=False:=eq_false hx;simp only[↓go1,gB3,go5,reduceIte,simprocAttr,h0,h1,h7,h8,hlt,hj0,Qn,hat,hx',hw];refine ih _ _ ⟨h0,h1,h7,rfl,λi h h2=>?_⟩;rcases Nat.lt_or_eq_of_le (Nat.le_of_lt_succ h)with h|rfl
   ·exact hall i h h2
   ·exact hx
 ·obtain⟨h0,h1,h7,h8,hall⟩:=hI;refine Af dc330l0.eq_1 ?_;have e:=firstS_no (λi h=>hall i h h);simp only[↓go1,gB3,go5,reduceIte,simprocAttr,h7,h8,QJ];rw[e]
  all_goals (first|rfl|exact⟨rfl,rfl⟩|(simp[*];done))
def S236:Summs:=AF [(330,Ac R330)]
def R236:List D->Option D:=RF S236 dc236 [.t 4] 9
theorem ko236:(Ac R236).ok Qb 236:=AJ fn236 (Ab ko330 Ad)
theorem R236_eq{nl:Bool}{l:List Bs}(n:Bs)(hl:l.length<=100000):R236 [.slice nl [] (AB l),.str n]=some (.bool (hasSt l n)):=by
 refine AH (Qa rfl) ?_;have s330:S236 330=some (Ac R330):=rfl;unfold dc236;have h330:=R330_eq (nl:=nl) n hl;have e:=hasSt_first l n;generalize A9 (l.map λx=>decide (n=x))=i at *;simp only[↓go1,gB3,go5,reduceIte,simprocAttr,Aa s330,h330];rw[←e]
 all_goals (first|rfl|exact⟨rfl,rfl⟩|(simp[*];done))
def BN(l:List Bs):List Bs:=l.filterMap λs=>if(Dd s).2=0∧(Dd s).1.1=1 then some (Dd s).1.2.1 else none
theorem pathsL_snoc(l:List Bs)(s:Bs):BN (l++[s])=BN l++if(Dd s).2=0∧(Dd s).1.1=1 then [(Dd s).1.2.1]else []:=by
 simp only[BN,List.filterMap_append,Zc,List.filterMap_nil];congr 1;split
 ·rename_i h;split at h
  ·cases h
  ·rename_i h2;rw[if_neg h2]
 ·rename_i h;split at h
  ·rename_i h2;rw[if_pos h2];simp only[Qg]at h;rw[h]
  ·cases h
def Gx(e:Nat)(fr:Id)(m:Mem)(c:Nat)(nl:Bool)(t:Id):Prop:=(nl=true∧t=[])∨(nl=false∧∃k,t=k::fr∧k<c∧m t 0=some (.tok (e+1)))
theorem Gx.more{e:Nat}{fr:Id}{m:Mem}{c c':Nat}{nl:Bool}{t:Id}(h:Gx e fr m c nl t)(hc:c<=c'):Gx e fr m c' nl t:=by
 rcases h with h|⟨h1,k,h2,h3,h4⟩
 ·exact .inl h
 ·exact .inr ⟨h1,k,h2,by omega,h4⟩
theorem Gx.put{e:Nat}{fr:Id}{m:Mem}{c:Nat}{nl:Bool}{t:Id}{k o:Nat}{ds:List D}(h:Gx e fr m c nl t)(hk:c<=k):Gx e fr (m.put (k::fr) o ds) c nl t:=by
 rcases h with h|⟨h1,q,h2,h3,h4⟩
 ·exact .inl h
 ·refine .inr ⟨h1,q,h2,h3,?_⟩;rw[Mem.put_other]
  ·exact h4
  ·rw[h2];simp;omega
theorem Gx.grow{e:Nat}{fr:Id}{m:Mem}{c:Nat}{nl:Bool}{t:Id}{xs:List D}(h:Gx e fr m c nl t):Grow m e (.slice nl t xs):=by
 rcases h with h|⟨h1,q,h2,h3,h4⟩
 ·exact .inl h.1
 ·exact .inr ⟨h4,by rw[h2];simp⟩
theorem Gx.app{e:Nat}{fr:Id}{m:Mem}{c' k:Nat}{nl:Bool}{t:Id}{xs:List D}(hk:k<c'):Gx e fr (Upd.app m (Be e (k::fr) (.slice nl t xs))) c' false (k::fr):=
 .inr ⟨rfl,k,rfl,hk,by rw[CM,if_pos ⟨rfl,rfl⟩]⟩
theorem Wt.own{i fr t0 t:Id}{m0 m:Mem}{nl0:Bool}{w:Wb}{o:Oc}{e c k:Nat}{nl:Bool}{t':Id}{xs:List D}(h:Wt i fr m0 nl0 t0 m w o t)(hfr:∀j x,fr<:+j->m0 j x=none)(hni:∀k,(i=k::fr)=False)(hG:Gx e fr m c nl t'):Wt i fr m0 nl0 t0 (Upd.app m (Be e (k::fr) (.slice nl t' xs))) w o t:=by
 rcases hG with ⟨rfl,_⟩|⟨rfl,q,rfl,_,_⟩
 ·exact h.put hfr hni
 ·exact(h.put hfr hni).put hfr hni
def S62(G:List D->Option D):Summs:=AF [(128,Ac R128),(132,Ac R132),(133,wQ W133),(38,Ac R38),(134,Ac G),(55,wQ W55)]
def W62(G:List D->Option D):Wb->Oc->List D->Option WY:=RW (S62 G) dc62 [] 72
theorem ko62{G:List D->Option D}(h:(Ac G).ok Qb 134):(wQ (W62 G)).ok Qb 62:=CU fn62 (Ab ko128 (Ab ko132 (Ab ko133 (Ab ko38 (Ab h (Ab ko55 Ad))))))
theorem W62_need(G:List D->Option D)(w:Wb)(o:Oc)(o2:Oc)(ol:Option (List Nat))(ho:o.nl=true->o.ops=[])(fnl:Bool)(found:List Bs)(hp:w.a.pa.length<=1000000)(h132:R132 [.agg (kwC w.k),.str ([109,47]++w.a.pa++[47])]=some (.tup [.slice fnl [] (AB found),.bool false]))(h133:W133 w o [.str ([109,47]++w.a.pa++[47]),.bool true]=some (.tup [],o2,ol)):W62 G w o []=some (.tup [],o2,ol.map (·++[24])):=by
 refine A8 ho ⟨Qa rfl,λh=>Cl h133 h,λl h=>Ck h133 h,λi m fr t ha hfr hni hni0=>?_⟩;have s128:S62 G 128=some (Ac R128):=rfl;have s132:S62 G 132=some (Ac R132):=rfl;have s133:S62 G 133=some (wQ W133):=rfl;have hW:=Wt.start ha hfr;unfold dc62;have xx:=AO ha.1;have h128:=R128_eq w.a.pa hp;generalize hq1:([109,47]++w.a.pa++[47]:Bs)=q1 at *;generalize ([100,47]++w.a.pa++[47]:Bs)=q2 at *;unfold kwC at h132;have y1:((1:Nat):Int)=1:=rfl;have y2:((2:Nat):Int)=2:=rfl;have ltz:(0:Int)<=0:=Int.le_refl _;simp only[gB1,↓go1,go5,reduceIte,simprocAttr,xx,ltz,QL,Qc,Qj,Aa s128,h128,Aa s132,h132,Ah s133];refine As hW hfr hni h133 ⟨_,_,_,_,rfl⟩ (λM c1 c2=>?_);simp only[↓go1,go2,simprocAttr];exact c1.endc ha.2.2
theorem W62_ok(G:List D->Option D)(w:Wb)(o:Oc)(o2:Oc)(ho:o.nl=true->o.ops=[])(fnl:Bool)(found:List Bs)(hp:w.a.pa.length<=1000000)(h132:R132 [.agg (kwC w.k),.str ([109,47]++w.a.pa++[47])]=some (.tup [.slice fnl [] (AB found),.bool true]))(hl:found.length<=1000)(hs:∀s∈found,s.length<=1000000)(nn:Bool)(names:List Bs)(h134:∀b,(b=true->BN found=[])->G [.str w.a.pa,.slice b [] (AB (BN found))]=some (.slice nn [] (AB names)))(hnn:names.length<=1000)(hnn2:nn=true->names=[])(h55:W55 w o [.agg (ryC (.names nn (names.take 64)))]=some (.tup [],o2,none)):W62 G w o []=some (.tup [],o2,none):=by
 refine A8 ho ⟨Qa rfl,λh=>((Ej h55).2.1 rfl),λl h=>(by cases h),λi m fr t ha hfr hni hni0=>?_⟩;have s128:S62 G 128=some (Ac R128):=rfl;have s132:S62 G 132=some (Ac R132):=rfl;have s38:S62 G 38=some (Ac R38):=rfl;have s134:S62 G 134=some (Ac G):=rfl;have s55:S62 G 55=some (wQ W55):=rfl;have hW:=Wt.start ha hfr;unfold dc62;have xx:=AO ha.1;have h128:=R128_eq w.a.pa hp;generalize hq1:([109,47]++w.a.pa++[47]:Bs)=q1 at *;generalize ([100,47]++w.a.pa++[47]:Bs)=q2 at *;unfold kwC at h132;have y1:((1:Nat):Int)=1:=rfl;have y2:((2:Nat):Int)=2:=rfl;have ltz:(0:Int)<=0:=Int.le_refl _;simp only[gB1,↓go1,go5,reduceIte,simprocAttr,xx,ltz,QL,Qc,Qj,Aa s128,h128,Aa s132,h132,A0];refine Bm (n:=found.length) (I:=λj st=>st.s 33= .slice fnl [] (AB found)∧st.s 34= .int .i64 found.length∧st.s 35= .int .i64 (j:Int)∧st.s 0= .ptr i 0∧∃nl' t',st.s 5= .slice nl' t' (AB (BN (found.take j)))∧(nl'=true->BN (found.take j)=[])∧Gx 9 fr st.m st.c nl' t'∧Wt i fr m o.nl t st.m w o t) (λj hj ih st g hI=>?_) (λst g hI=>?_) 0 (Qh _) _ _ ⟨rfl,rfl,rfl,rfl,true,[],rfl,λ_=>rfl,.inl ⟨rfl,rfl⟩,hW⟩
 ·obtain⟨st_s,st_m,st_c⟩:=st;obtain⟨h33,h34,h35,hs0,nl',t',h5,hn5,hG,hw⟩:=hI;simp only at h33 h34 h35 hs0 h5 hG hw;refine Af dc62l0.eq_1 ?_;have hlt:((j:Int)<(found.length:Int))=True:=eq_true (by omega);have hj0:(0:Int)<=(j:Int):=by omega
  have hw1:IntKind.i64.wrap ((j:Int)+1)=((j+1:Nat):Int):=by rw[w64 (by omega) (by omega)];omega
  have hat:=DI (l:=found) (j:=j) hj;have h38:=R38_eq found[j] (hs _ (QF hj));have htk:found.take (j+1)=found.take j++[found[j]]:=Qt hj;have hle:(BN (found.take j)).length<=j:=by
   have:=QP (λs=>if(Dd s).2=0∧(Dd s).1.1=1 then some (Dd s).1.2.1 else none) (found.take j);rw[Qq]at this;unfold BN;omega
  have hsn:=pathsL_snoc (found.take j) found[j];rw[←htk]at hsn;generalize found[j]=x at *;generalize Dd x=px at *;obtain⟨⟨kk,nm,vv⟩,e⟩:=px;simp only at hsn h38;unfold kyD at h38;by_cases he:e=0
  ·subst he;by_cases hk:kk=1
   ·subst hk;simp only[and_self,if_true]at hsn;simp only[gB1,↓go1,go5,reduceIte,simprocAttr,h33,h34,h35,h5,hlt,hj0,Qn,hat,A0,Aa s38,h38];have hG3:=((hG.put (k:=st_c+1+3+5) (o:=0) (ds:=[.int .u8 0,.str [],.int .i64 0]) (by omega)).put (k:=st_c+1+3+5) (o:=0) (ds:=[.int .u8 1,.str nm,.int .i64 vv]) (by omega)).put (k:=st_c+1+3+8+7+3) (o:=0) (ds:=[.tok 10]) (by omega);have hw3:=((hw.put hfr hni0 (q:=st_c+1+3+5) (p:=0) (ys:=[.int .u8 0,.str [],.int .i64 0])).put hfr hni0 (q:=st_c+1+3+5) (p:=0) (ys:=[.int .u8 1,.str nm,.int .i64 vv])).put hfr hni0 (q:=st_c+1+3+8+7+3) (p:=0) (ys:=[.tok 10]);refine An.intro ⟨by omega,rfl,hG3.grow⟩ ?_;rw[BK (λh=>by rw[hn5 h];rfl),rowU_grow];have hw4:=hw3.own (e:=9) (k:=st_c+1+3+8+7+4) (xs:=AB (BN (found.take j))) hfr hni0 hG3;have hG4:=Gx.app (e:=9) (fr:=fr) (m:=((st_m.put ((st_c+1+3+5)::fr) 0 [D.int .u8 0,.str [],.int .i64 0]).put ((st_c+1+3+5)::fr) 0 [.int .u8 1,.str nm,.int .i64 vv]).put ((st_c+1+3+8+7+3)::fr) 0 [.tok 10]) (k:=st_c+1+3+8+7+4) (c':=st_c+1+3+8+7+5) (nl:=nl') (t:=t') (xs:=AB (BN (found.take j))) (by omega);simp only[↓go1,go2,reduceIte,simprocAttr,h35,hw1];exact ih _ _ ⟨h33,h34,rfl,hs0,false,(st_c+1+3+8+7+4)::fr,(by rw[hsn];show D.slice _ _ _=_;simp[AB]),(λh=>by cases h),hG4.more (c':=st_c+1+3+8+7+6+2) (by omega),hw4⟩
   ·rw[if_neg (λh=>hk h.2),Q5]at hsn;simp only[gB1,↓go1,go5,reduceIte,simprocAttr,h33,h34,h35,hlt,hj0,Qn,hat,Aa s38,h38,eq_false hk,hw1];exact ih _ _ ⟨h33,h34,rfl,hs0,nl',t',by rw[hsn];exact h5,by rw[hsn];exact hn5,((hG.put (by omega)).put (by omega)).more (by simp only;omega),(hw.put hfr hni0).put hfr hni0⟩
  ·rw[if_neg (λh=>he h.1),Q5]at hsn;simp only[gB1,↓go1,go5,reduceIte,simprocAttr,h33,h34,h35,hlt,hj0,Qn,hat,Aa s38,h38,eq_false he,hw1];exact ih _ _ ⟨h33,h34,rfl,hs0,nl',t',by rw[hsn];exact h5,by rw[hsn];exact hn5,((hG.put (by omega)).put (by omega)).more (by simp only;omega),(hw.put hfr hni0).put hfr hni0⟩
 ·obtain⟨st_s,st_m,st_c⟩:=st;obtain⟨h33,h34,h35,hs0,nl',t',h5,hn5,hG,hw⟩:=hI;simp only at h33 h34 h35 hs0 h5 hG hw;refine Af dc62l0.eq_1 ?_;rw[QS]at h5 hn5;have h134':=h134 nl' hn5;have hat64:Zb 64 (AB names)=AB (names.take 64):=(List.map_take ..).symm;have xx:=AO hw.at_.1;have hq:∃q:Int,min (names.length:Int) 64=q∧0<=q∧q<=(names.length:Int)∧q.toNat<=names.length∧Zb q.toNat (AB names)=AB (names.take 64):=by
   refine⟨_,rfl,by omega,by omega,by omega,?_⟩;rw[←hat64];by_cases c:names.length<=64
   ·rw[QG (by rw[A0];omega),QG (by rw[A0];omega)]
   ·rw[show(min (names.length:Int) 64).toNat=64 by omega]
  obtain⟨q,hmin,q0,q1',q2',q3⟩:=hq;have hd:D.headSz (AB names) 1=1:=by cases names<;>rfl
  simp only[ryC]at h55;simp only[↓go1,gB3,go5,reduceIte,simprocAttr,hs0,h34,h35,h5,QJ,xx.2.2.2.2.2.2.2.1,Aa s134,h134',A0,hmin,q0,q1',hd,Q9,q3,Ah s55];refine As hw hfr hni h55 ⟨_,_,_,_,rfl⟩ (λM c1 c2=>?_);simp only[↓go1,go2,simprocAttr];exact c1.end0 ha.2.2
def DO(o:Oc)(l:List Bs):Oc:={o with nl:=o.nl&&l.isEmpty,ops:=o.ops++l.map λn=>(2,AZ 3 n 0,[])}
theorem goneO_op{o:Oc}{l:List Bs}{n:Bs}:(DO o l).op 2 (AZ 3 n 0) []=DO o (l++[n]):=by
 simp[DO,Oc.op]
theorem goneO_nil{o:Oc}:DO o []=o:=by simp[DO]
def revO(o:Oc)(nl:Bool)(k:List Tk)(gnl:Bool)(gone:List Bs):Oc:={DO (ksO o nl k) gone with rep:=ryT (.names gnl gone)}
def S61(G:List D->Option D):Summs:=AF [(131,Ac G),(54,wQ W54),(123,Ac B1),(122,wQ Fc),(55,wQ W55)]
def W61(G:List D->Option D):Wb->Oc->List D->Option WY:=RW (S61 G) dc61 [] 48
theorem ko61{G:List D->Option D}(h:(Ac G).ok Qb 131):(wQ (W61 G)).ok Qb 61:=CU fn61 (Ab h (Ab ko54 (Ab ko123 (Ab ko122 (Ab ko55 Ad)))))
theorem W61_fail(G:List D->Option D)(w:Wb)(o:Oc)(o2:Oc)(ol:Option (List Nat))(ho:o.nl=true->o.ops=[])(nl2:Bool)(k2:List Tk)(gnl:Bool)(gone:List Bs)(e:Int)(h131:G [.agg [.slice w.v.nlt [] (Av w.v.ks)],.str w.a.ot]=some (.tup [.agg [.slice nl2 [] (Av k2)],.slice gnl [] (AB gone),.int .i64 e]))(he:e≠0)(h54:W54 w o [.int .i64 e]=some (.tup [],o2,ol)):W61 G w o []=some (.tup [],o2,ol.map (·++[23])):=by
 refine A8 ho ⟨Qa rfl,λh=>Cl h54 h,λl h=>Ck h54 h,λi m fr t ha hfr hni hni0=>?_⟩;have s131:S61 G 131=some (Ac G):=rfl;have s54:S61 G 54=some (wQ W54):=rfl;have hW:=Wt.start ha hfr;unfold dc61;have xx:=AO ha.1;simp only[gB1,↓go1,go5,reduceIte,simprocAttr,xx,Aa s131,h131];refine An.intro ?_ ?_
 ·intro pp hpp l hl;simp only[Qd,Qe,or_false]at hpp;rcases hpp with rfl|rfl|rfl|rfl
  ·exact AA hl
  ·have hl1:l.1=15::fr:=AC hl;refine⟨λh=>?_,λh=>AA h⟩;change l∈Ae i _ 1 at h;exact(hni0 15).mp ((AT h).symm.trans hl1)
  ·have hl1:l.1=15::fr:=AC hl;refine⟨λh=>?_,λh=>AA h⟩;change l∈Ae i _ 1 at h;exact(hni0 15).mp ((AT h).symm.trans hl1)
  ·have hl1:l.1=15::fr:=AC hl;exact⟨λh=>AA h,λh=>AA h⟩
 simp only[↓go1,gB3,go5,reduceIte,simprocAttr,eq_false he,Ah s54];refine As ((hW.put hfr hni0).put hfr hni0) hfr hni h54 ⟨_,_,_,_,rfl⟩ (λM c1 c2=>?_);simp only[↓go1,go2,simprocAttr];exact c1.endc ha.2.2
theorem W61_ok(G:List D->Option D)(w:Wb)(o:Oc)(nl2:Bool)(k2:List Tk)(gnl:Bool)(gone:List Bs)(h131:G [.agg [.slice w.v.nlt [] (Av w.v.ks)],.str w.a.ot]=some (.tup [.agg [.slice nl2 [] (Av k2)],.slice gnl [] (AB gone),.int .i64 0]))(h0:Oc0 o)(hg:gone≠[])(hl:gone.length<=900)(hs:∀s∈gone,s.length<=1000000)(hgn:gnl=true->gone=[]):W61 G w o []=some (.tup [],revO o nl2 k2 gnl gone,some ([11,28+10*gone.length])):=by
 refine A8 (λ_=>h0.ops) ⟨Qa rfl,λh=>(by cases h),λl h=>(by simp only[Qg]at h;subst h;exact⟨by cases gone with|nil=>exact absurd rfl hg|cons a r=>simp[revO,DO],by simp⟩),λi m fr t ha hfr hni hni0=>?_⟩;have s131:S61 G 131=some (Ac G):=rfl;have s123:S61 G 123=some (Ac B1):=rfl;have s122:S61 G 122=some (wQ Fc):=rfl;have s55:S61 G 55=some (wQ W55):=rfl;have hW:=Wt.start ha hfr;unfold dc61;have xx:=AO ha.1;have h55:=FZ w (DO (ksO o nl2 k2) gone) (.names gnl gone) (λh=>by
  simp only[DO,Qz,List.isEmpty_iff]at h;exact absurd h.2 hg) (by show gone.length<=1000;omega) hgn
 simp only[ryC]at h55;have hks:(ksO o nl2 k2).nl=o.nl∧(ksO o nl2 k2).ops=[]:=⟨rfl,h0.ops⟩;simp only[gB1,↓go1,go5,reduceIte,simprocAttr,xx,Aa s131,h131];refine An.intro ?_ ?_
 ·intro pp hpp l hl;simp only[Qd,Qe,or_false]at hpp;rcases hpp with rfl|rfl|rfl|rfl
  ·exact AA hl
  ·have hl1:l.1=15::fr:=AC hl;refine⟨λh=>?_,λh=>AA h⟩;change l∈Ae i _ 1 at h;exact(hni0 15).mp ((AT h).symm.trans hl1)
  ·have hl1:l.1=15::fr:=AC hl;refine⟨λh=>?_,λh=>AA h⟩;change l∈Ae i _ 1 at h;exact(hni0 15).mp ((AT h).symm.trans hl1)
  ·have hl1:l.1=15::fr:=AC hl;exact⟨λh=>AA h,λh=>AA h⟩
 simp only[gB1,↓go1,go5,reduceIte,simprocAttr,xx,hni0,A0];refine Bm (n:=gone.length) (I:=λj st=>st.s 33= .slice gnl [] (AB gone)∧st.s 34= .int .i64 gone.length∧st.s 35= .int .i64 (j:Int)∧st.s 0= .ptr i 0∧st.s 3= .slice gnl [] (AB gone)∧st.c=31+10*j∧Wt i fr m o.nl t st.m w (DO (ksO o nl2 k2) (gone.take j)) (if j=0 then t else [11,28+10*j]++fr)) (λj hj ih st g hI=>?_) (λst g hI=>?_) 0 (Qh _) _ _ ⟨rfl,rfl,rfl,rfl,rfl,rfl,?_⟩
 ·obtain⟨st_s,st_m,st_c⟩:=st;obtain⟨h33,h34,h35,hs0,h3,hc,hw⟩:=hI;simp only at h33 h34 h35 hs0 h3 hc hw;refine Af dc61l0.eq_1 ?_;have hlt:((j:Int)<(gone.length:Int))=True:=eq_true (by omega);have hj0:(0:Int)<=(j:Int):=by omega
  have hat:=DI (l:=gone) (j:=j) hj;have hw1:IntKind.i64.wrap ((j:Int)+1)=((j+1:Nat):Int):=by rw[w64 (by omega) (by omega)];omega
  have h123:=Cy 3 0 gone[j] (hs _ (QF hj));have hn1:(DO (ksO o nl2 k2) (gone.take j)).nl=true->(DO (ksO o nl2 k2) (gone.take j)).ops=[]:=λh=>by
   simp only[DO,Qz,List.isEmpty_iff]at h ⊢;rw[hks.2,h.2];rfl
  have hn2:(DO (ksO o nl2 k2) (gone.take j)).ops.length<=1000:=by simp[DO,hks.2];omega
  have h122:=Dm w (DO (ksO o nl2 k2) (gone.take j)) 2 (AZ 3 gone[j] 0) [] hn1 hn2;rw[goneO_op,←Qt hj]at h122;simp only[↓go1,gB3,go5,reduceIte,simprocAttr,hs0,h33,h34,h35,hlt,hj0,Qn,hat,Aa s123,h123,Ah s122];refine As hw hfr hni h122 ⟨_,_,_,_,rfl⟩ (λM c1 c2=>?_);have e:nameW (if j=0 then t else [11,28+10*j]++fr) ((st_c+1+3+3)::fr) (some [11])=(if j+1=0 then t else [11,28+10*(j+1)]++fr):=by
   rw[if_neg (Nat.succ_ne_zero j)];show [11]++_::fr=_;rw[show st_c+1+3+3=28+10*(j+1)by omega];rfl
  rw[e]at c1;simp only[↓go1,go2,reduceIte,simprocAttr,h35,hw1];exact ih _ _ ⟨h33,h34,rfl,hs0,h3,by simp only;omega,c1⟩
 ·obtain⟨st_s,st_m,st_c⟩:=st;obtain⟨h33,h34,h35,hs0,h3,hc,hw⟩:=hI;simp only at h33 h34 h35 hs0 h3 hc hw;refine Af dc61l0.eq_1 ?_;have hne:gone.length≠0:=λh=>hg (List.length_eq_zero_iff.1 h)
  rw[QS,if_neg hne]at hw;simp only[↓go1,gB3,go5,reduceIte,simprocAttr,hs0,h34,h35,h3,QJ,Ah s55];refine As hw hfr hni h55 ⟨_,_,_,_,rfl⟩ (λM c1 c2=>?_);simp only[↓go1,go2,simprocAttr];exact c1.endl (l:=[11,28+10*gone.length]) (by simp)
 ·simp only[List.take_zero,goneO_nil,if_true];exact(((hW.put hfr hni0).put hfr hni0).cellp (p:=29) (ys:=[.slice nl2 [] (Av k2)]) (o':=ksO o nl2 k2) (Qa rfl) rfl rfl rfl)
def S19(G1 G2:List D->Option D):Summs:=AF [(25,Ac F25),(54,wQ W54),(55,wQ W55),(56,wQ W56),(57,wQ W57),(58,wQ W58),(59,wQ W59),(60,wQ W60),(61,wQ (W61 G1)),(62,wQ (W62 G2)),(63,wQ W63),(64,wQ W64)]
def R19(G1 G2:List D->Option D):List D->Option D:=RF (S19 G1 G2) dc19 [.cell (some 9) 6] 88
theorem ko19{G1 G2:List D->Option D}(h1:(Ac G1).ok Qb 131)(h2:(Ac G2).ok Qb 134):(Ac (R19 G1 G2)).ok Qb 19:=AJ fn19 (Ab ok25 (Ab ko54 (Ab ko55 (Ab ko56 (Ab ko57 (Ab ko58 (Ab ko59 (Ab ko60 (Ab (ko61 h1) (Ab (ko62 h2) (Ab ko63 (Ab ko64 Ad))))))))))))
def oc0(v:Vw):Oc:=⟨[],false,[],true,[],v⟩
def ocU(o:Oc):List D:=[.str o.need,.bool o.li,.str o.rep,.slice o.nl [] (Dr o.ops)]++vwC o.vw
theorem upd_at{m:Mem}{i:Id}{w:Wb}{o o':Oc}{k:Nat}{d:D}{ol:Option (List Nat)}(ho:o.nl=true)(hi:∀l,i≠l++[k]):Ai (Upd.app m (updW i w o [] [k] (d,o',ol))) i 0 30=some (wkC w o' (nameW [] [k] ol)):=by
 cases ol with
 |none=>exact rdC_same' (Cu _ _ _)
 |some l=>
  show Ai _ i 0 30=some (wkC w o' (l++[k]));rw[←rdC_same' (m:=m) (i:=i) (Cu w o' (l++[k]))];refine Bu (λq hq=>?_);have hq1:q.1=i:=AT hq;show Upd.app (m.put i 0 (wkC w o' (l++[k]))) (Be 107 (l++[k]) (.slice o.nl [] (Dr o.ops))) q.1 q.2=_;rw[FD,hq1,if_neg (λe=>hi l e.1),if_neg (λe=>by rw[ho]at e;cases e.1)]
theorem upd_oth{m:Mem}{i j:Id}{w:Wb}{o o':Oc}{k x:Nat}{d:D}{ol:Option (List Nat)}(ho:o.nl=true)(hi:∀l,j≠l++[k])(hj:j≠i):Upd.app m (updW i w o [] [k] (d,o',ol)) j x=m j x:=by
 cases ol with
 |none=>exact Mem.put_other hj
 |some l=>
  show Upd.app (m.put i 0 (wkC w o' (l++[k]))) (Be 107 (l++[k]) (.slice o.nl [] (Dr o.ops))) j x=_;rw[FD,if_neg (λe=>hi l e.1),if_neg (λe=>by rw[ho]at e;cases e.1),Mem.put_other hj]
theorem one_ne{a k:Nat}(h:a≠k):∀l:List Nat,([a]:Id)≠l++[k]:=λl e=>h (by have:=congrArg List.getLast? e;simpa using this)
theorem got_dec{i:Id}{m:Mem}{w:Wb}{o o':Oc}{rest:List D}{d:D}{ol:Option (List Nat)}{F:Wb->Oc->List D->Option WY}{S:Summs}{c k n:Nat}{ops l:List DOper}{s:Nat->D}{dst:Option Nat}{K:Nat->(Nat->D)->Mem->Prop}{g}
  (hF:F w o rest=some (d,o',ol)) (ha:atW m i (w,o,[])) (ho:o.nl=true) (hi:∀l,i≠l++[n])
  (h:∀M,Ai M i 0 30=some (wkC w o' (nameW [] [n] ol))->(∀j x,(∀l,j≠l++[n])->j≠i->M j x=m j x)->Fm S [] c ops l k (CJ s dst d) M K):
  Got ((wQ F).ex (.ptr i 0::rest) m [n]) (λx=>rowU S [] c ops l k s dst m K x.1 x.2) g:=
 got_w ha hF (h _ (upd_at ho hi) (λ_ _ h1 h2=>upd_oth ho h1 h2))
inductive MO (G1 G2:List D->Option D) (v:Vw):Int->Oc->List D->(Wb->Oc->List D->Option WY)->Prop
 |o1:MO G1 G2 v 1 (oc0 v) [.agg (ryC (.state v.se))] W55
 |o2:MO G1 G2 v 2 {oc0 v with vw:={v with se:=false}} [] W56
 |o3:MO G1 G2 v 3 {oc0 v with vw:={v with se:=true}} [] W56
 |o4:MO G1 G2 v 4 (oc0 v) [] W57
 |o5:MO G1 G2 v 5 (oc0 v) [] W58
 |o6:MO G1 G2 v 6 (oc0 v) [] W59
 |o7:MO G1 G2 v 7 (oc0 v) [] W60
 |o8:MO G1 G2 v 8 (oc0 v) [] (W61 G1)
 |o17:MO G1 G2 v 17 (oc0 v) [] (W62 G2)
 |o9:MO G1 G2 v 9 (oc0 v) [] W63
 |o18:MO G1 G2 v 18 (oc0 v) [] W63
 |o10:MO G1 G2 v 10 (oc0 v) [] W64
 |o11:MO G1 G2 v 11 (oc0 v) [] W64
 |o12:MO G1 G2 v 12 (oc0 v) [] W64
 |o13:MO G1 G2 v 13 (oc0 v) [] W64
 |o14:MO G1 G2 v 14 (oc0 v) [] W64
 |o15:MO G1 G2 v 15 (oc0 v) [] W64
 |o16:MO G1 G2 v 16 (oc0 v) [] W64
theorem Bo{G1 G2:List D->Option D}{v:Vw}{op:Int}{oc:Oc}{rest:List D}{W:Wb->Oc->List D->Option WY}(hM:MO G1 G2 v op oc rest W)(a:Ak)(k:Kn)(hop:a.op=op)(h25:F25 [vwD v,akD a]=some (.int .i64 0))(o2:Oc)(ol:Option (List Nat))(hm:W ⟨v,a,k⟩ oc rest=some (.tup [],o2,ol)):R19 G1 G2 [vwD v,akD a,.agg (kwC k)]=some (.agg (ocU o2)):=by
 refine AH (Qa rfl) ?_;have s25:S19 G1 G2 25=some (Ac F25):=rfl;have s55:S19 G1 G2 55=some (wQ W55):=rfl;have s56:S19 G1 G2 56=some (wQ W56):=rfl;have s57:S19 G1 G2 57=some (wQ W57):=rfl;have s58:S19 G1 G2 58=some (wQ W58):=rfl;have s59:S19 G1 G2 59=some (wQ W59):=rfl;have s60:S19 G1 G2 60=some (wQ W60):=rfl;have s61:S19 G1 G2 61=some (wQ (W61 G1)):=rfl;have s62:S19 G1 G2 62=some (wQ (W62 G2)):=rfl;have s63:S19 G1 G2 63=some (wQ W63):=rfl;have s64:S19 G1 G2 64=some (wQ W64):=rfl;unfold dc19;obtain⟨op,tk,pa,ot,n,cas,fl,nln,ns,da,nlr,rs,key⟩:=a;simp only at hop;subst hop;unfold vwD akD at *;unfold vwC akC kwC at *;cases hM<;>simp only[gB1,↓go1,go5,reduceIte,simprocAttr,Aa s25,h25,Ah s55,Ah s56,Ah s57,Ah s58,Ah s59,Ah s60,Ah s61,Ah s62,Ah s63,Ah s64]
 all_goals
  refine got_dec hm ⟨by first|exact rdC_same' rfl|exact(rd_put (show Ai _ [10] 0 30=some (wkC ⟨v,⟨_,tk,pa,ot,n,cas,fl,nln,ns,da,nlr,rs,key⟩,k⟩ (oc0 v) [])from rdC_same' rfl) (Qa rfl)).trans rfl,rfl,λ_=>rfl⟩ rfl (one_ne (by decide)) (λM c1 c2=>?_);have xx:=AO c1;have c3:∀x,M [3] x=_:=λx=>c2 [3] x (one_ne (by decide)) (by decide)
  simp only[gB1,↓go1,go5,reduceIte,simprocAttr,xx,c3]
  all_goals (first|rfl|exact⟨rfl,rfl⟩|(simp[*];done))
theorem R19_fail(G1 G2:List D->Option D)(v:Vw)(a:Ak)(k:Kn)(e:Int)(he:e≠0)(h25:F25 [vwD v,akD a]=some (.int .i64 e))(o2:Oc)(ol:Option (List Nat))(hm:W54 ⟨v,a,k⟩ (oc0 v) [.int .i64 e]=some (.tup [],o2,ol)):R19 G1 G2 [vwD v,akD a,.agg (kwC k)]=some (.agg (ocU o2)):=by
 refine AH (Qa rfl) ?_;have s25:S19 G1 G2 25=some (Ac F25):=rfl;have s54:S19 G1 G2 54=some (wQ W54):=rfl;unfold dc19;obtain⟨op,tk,pa,ot,n,cas,fl,nln,ns,da,nlr,rs,key⟩:=a;unfold vwD akD at *;unfold vwC akC kwC at *;simp only[gB1,↓go1,go5,reduceIte,simprocAttr,Aa s25,h25,eq_false he,Ah s54];refine got_dec hm ⟨rdC_same' rfl,rfl,λ_=>rfl⟩ rfl (one_ne (by decide)) (λM c1 c2=>?_);have xx:=AO c1;have c3:∀x,M [3] x=_:=λx=>c2 [3] x (one_ne (by decide)) (by decide)
 simp only[gB1,↓go1,go5,reduceIte,simprocAttr,xx,c3]
 all_goals (first|rfl|exact⟨rfl,rfl⟩|(simp[*];done))
def BW(l:List Tk)(s:Bs):List Bs:=(l.filter λt=>decide (t.2.1=s)&&decide (t.1≠s)).map (·.1)
def Eb(l:List Tk):Nat->Bs->List Bs
 |0,s=>[s]
 |f+1,s=>s::(BW l s).flatMap (Eb l f)
structure TreeT (l:List Tk) (r:Bs->Nat):Prop where
 up:∀t∈l,r t.2.1<r t.1
 top:∀t∈l,r t.1<=l.length
 one:l.Pairwise λt u=>t.1≠u.1
theorem TreeT.eq{l:List Tk}{r:Bs->Nat}(h:TreeT l r){t u:Tk}(ht:t∈l)(hu:u∈l)(e:t.1=u.1):t=u:=by
 have h1:=h.one;clear h;induction l with
 |nil=>cases ht
 |cons a l ih=>
  rw[List.pairwise_cons]at h1;rcases Qd.1 ht with ht'|ht'
  ·rcases Qd.1 hu with hu'|hu'
   ·rw[ht',hu']
   ·rw[ht']at e;exact absurd e (h1.1 _ hu')
  ·rcases Qd.1 hu with hu'|hu'
   ·rw[hu']at e;exact absurd e.symm (h1.1 _ ht')
   ·exact ih ht' hu' h1.2
inductive AncT (l:List Tk) (s:Bs):Bs->Prop
 |refl:AncT l s s
 |step (t:Tk):t∈l->AncT l s t.2.1->AncT l s t.1
theorem AncT.trans{l:List Tk}{a b c:Bs}(h:AncT l a b)(k:AncT l b c):AncT l a c:=by
 induction k with
 |refl=>exact h
 |step t ht _ ih=>exact .step t ht ih
theorem kid_mem{l:List Tk}{s c:Bs}(h:c∈BW l s):∃t∈l,t.2.1=s∧t.1=c∧c≠s:=by
 unfold BW at h;obtain⟨t,ht,rfl⟩:=Qr.1 h;obtain⟨h1,h2⟩:=List.mem_filter.1 ht;rw[Qz]at h2;exact⟨t,h1,of_decide_eq_true h2.1,rfl,of_decide_eq_true h2.2⟩
theorem dfs_anc{l:List Tk}:∀(f:Nat)(s x:Bs),x∈Eb l f s->AncT l s x
 |0,s,x,h=>by
  rw[Eb,Qk]at h;subst h;exact .refl
 |f+1,s,x,h=>by
  rw[Eb]at h;rcases Qd.1 h with rfl|h
  ·exact .refl
  ·obtain⟨c,hc,hx⟩:=List.mem_flatMap.1 h;obtain⟨t,ht,rfl,rfl,_⟩:=kid_mem hc;exact(AncT.step t ht .refl).trans (dfs_anc f _ x hx)
section
variable{l:List Tk}{r:Bs->Nat}(T:TreeT l r)
include T
theorem anc_rank{s x:Bs}(h:AncT l s x):r s<=r x:=by
 induction h with
 |refl=>exact Qi _
 |step t ht _ ih=>exact QN ih (Nat.le_of_lt (T.up t ht))
theorem anc_comp{a b x:Bs}(h:AncT l a x)(k:AncT l b x):AncT l a b∨AncT l b a:=by
 induction h with
 |refl=>exact .inr k
 |step t ht h1 ih=>
  generalize e:t.1=y at k;cases k with
  |refl=>subst e;exact .inl (.step t ht h1)
  |step u hu k1=>
   have:=T.eq ht hu e;subst this;exact ih k1
theorem kid_rank{s c:Bs}(h:c∈BW l s):r s<r c∧r c<=l.length:=by
 obtain⟨t,ht,rfl,rfl,_⟩:=kid_mem h;exact⟨T.up t ht,T.top t ht⟩
theorem kid_one{s a b:Bs}(ha:a∈BW l s)(hb:b∈BW l s)(h:AncT l a b):a=b:=by
 have h1:=(kid_rank T ha).1;obtain⟨u,hu,hus,rfl,_⟩:=kid_mem hb;generalize e:u.1=y at h;cases h with
 |refl=>rfl
 |step t ht h2=>
  have:=T.eq ht hu e.symm;subst this;have:=anc_rank T h2;rw[hus]at this;omega
theorem kids_nodup(s:Bs):(BW l s).Nodup:=by
 unfold BW;have h:=(T.one.filter (λt=>decide (t.2.1=s)&&decide (t.1≠s)));rw[QC];exact List.pairwise_map.2 h
theorem dfs_nodup:∀(f:Nat)(s:Bs),(Eb l f s).Nodup
 |0,s=>by simp[Eb]
 |f+1,s=>by
  rw[Eb,List.nodup_cons];refine⟨λh=>?_,?_⟩
  ·obtain⟨c,hc,hx⟩:=List.mem_flatMap.1 h;have:=anc_rank T (dfs_anc f c s hx);have:=(kid_rank T hc).1;omega
  ·rw[QC,List.pairwise_flatMap];refine⟨λc _=>QC.1 (dfs_nodup f c),?_⟩;have hk:=QC.1 (kids_nodup T s);refine List.Pairwise.imp_of_mem ?_ hk;intro a b ha hb hne x hx y hy e;subst e;rcases anc_comp T (dfs_anc f a x hx) (dfs_anc f b x hy)with h|h
   ·exact hne (kid_one T ha hb h)
   ·exact hne (kid_one T hb ha h).symm
omit T in
theorem dfs_mem{f:Nat}{s x:Bs}(h:x∈Eb l f s):x∈s::l.map (·.1):=by
 have:=dfs_anc f s x h;cases this with
 |refl=>exact Qy ..
 |step t ht _=>exact QM _ (Qr.2 ⟨t,ht,rfl⟩)
omit T in
theorem nodup_len:∀(a b:List Bs),a.Nodup->(∀x∈a,x∈b)->a.length<=b.length
 |[],b,_,_=>Qh _
 |x::a,b,h,k=>by
  rw[List.nodup_cons]at h;have hx:=k x (Qy ..);have:=nodup_len a (b.erase x) h.2 (λy hy=>by
   have hy2:=k y (QM _ hy);exact(List.mem_erase_of_ne (λ(e:y=x)=>h.1 (by rw[←e];exact hy))).2 hy2)
  rw[List.length_erase_of_mem hx]at this;have h1:0<b.length:=List.length_pos_of_mem hx;rw[Qc];omega
theorem dfs_len(f:Nat)(s:Bs):(Eb l f s).length<=l.length+1:=by
 have:=nodup_len _ _ (dfs_nodup T f s) (λx hx=>dfs_mem hx);simpa using this
end
end Go.Vd
namespace Go.Proofs
open Go.Shelf
def lays190_ren:Go.Shelf.Ren:=⟨λ|190=>235|125=>209|258=>329|128=>310|129=>311|302=>373|303=>374|304=>375|305=>376|306=>377|307=>378|308=>379|309=>380|310=>381|333=>401|329=>362|330=>363|334=>402|335=>403|336=>210|344=>411|n=>n,λ|31=>28|9=>9|3=>3|46=>137|0=>0|51=>392|53=>394|4=>4|183=>386|182=>385|131=>178|5=>5|218=>429|222=>433|228=>453|229=>435|n=>n,λ|n=>n⟩
theorem lays190:Go.Proofs.Lays.n190 Qb lays190_ren:={
 mixed:=by kernel_rfl
 f125:=func209.trans (congrArg some (by kernel_rfl))
 f128:=func310.trans (congrArg some (by kernel_rfl))
 f129:=func311.trans (congrArg some (by kernel_rfl))
 f190:=func235.trans (congrArg some (by kernel_rfl))
 f258:=func329.trans (congrArg some (by kernel_rfl))
 f302:=func373.trans (congrArg some (by kernel_rfl))
 f303:=func374.trans (congrArg some (by kernel_rfl))
 f304:=func375.trans (congrArg some (by kernel_rfl))
 f305:=func376.trans (congrArg some (by kernel_rfl))
 f306:=func377.trans (congrArg some (by kernel_rfl))
 f307:=func378.trans (congrArg some (by kernel_rfl))
 f308:=func379.trans (congrArg some (by kernel_rfl))
 f309:=func380.trans (congrArg some (by kernel_rfl))
 f310:=func381.trans (congrArg some (by kernel_rfl))
 f329:=func362.trans (congrArg some (by kernel_rfl))
 f330:=func363.trans (congrArg some (by kernel_rfl))
 f333:=func401.trans (congrArg some (by kernel_rfl))
 f334:=func402.trans (congrArg some (by kernel_rfl))
 f335:=func403.trans (congrArg some (by kernel_rfl))
 f336:=func210.trans (congrArg some (by kernel_rfl))
 f344:=func411.trans (congrArg some (by kernel_rfl))
 t0:=underlying0
 a0:=isAgg0
 z0:=sizeOf0
 v0:=zeroValue0
 t3:=underlying3
 a3:=isAgg3
 z3:=sizeOf3
 v3:=zeroValue3
 t4:=underlying4
 a4:=isAgg4
 z4:=sizeOf4
 v4:=zeroValue4
 t5:=underlying5
 a5:=isAgg5
 z5:=sizeOf5
 v5:=zeroValue5
 t9:=underlying9
 a9:=isAgg9
 z9:=sizeOf9
 v9:=zeroValue9
 t31:=underlying28
 a31:=isAgg28
 z31:=sizeOf28
 v31:=zeroValue28
 t46:=underlying137
 a46:=isAgg137
 z46:=sizeOf137
 v46:=zeroValue137
 t51:=underlying392
 a51:=isAgg392
 z51:=sizeOf392
 v51:=zeroValue392
 t53:=underlying394
 a53:=isAgg394
 z53:=sizeOf394
 v53:=zeroValue394
 t131:=underlying178
 a131:=isAgg178
 z131:=sizeOf178
 v131:=zeroValue178
 t182:=underlying385
 a182:=isAgg385
 z182:=sizeOf385
 v182:=zeroValue385
 t183:=underlying386
 a183:=isAgg386
 z183:=sizeOf386
 v183:=zeroValue386
 t218:=underlying429
 a218:=isAgg429
 z218:=sizeOf429
 v218:=zeroValue429
 t222:=underlying433
 a222:=isAgg433
 z222:=sizeOf433
 v222:=zeroValue433
 t228:=underlying453
 a228:=isAgg453
 z228:=sizeOf453
 v228:=zeroValue453
 t229:=underlying435
 a229:=isAgg435
 z229:=sizeOf435
 v229:=zeroValue435}
def lays194_ren:Go.Shelf.Ren:=⟨λ|194=>239|n=>n,λ|31=>28|9=>9|3=>3|4=>4|0=>0|n=>n,λ|n=>n⟩
theorem lays194:Go.Proofs.Lays.n194 Qb lays194_ren:={
 mixed:=by kernel_rfl
 f194:=func239.trans (congrArg some (by kernel_rfl))
 t0:=underlying0
 a0:=isAgg0
 z0:=sizeOf0
 v0:=zeroValue0
 t3:=underlying3
 a3:=isAgg3
 z3:=sizeOf3
 v3:=zeroValue3
 t4:=underlying4
 a4:=isAgg4
 z4:=sizeOf4
 v4:=zeroValue4
 t9:=underlying9
 a9:=isAgg9
 z9:=sizeOf9
 v9:=zeroValue9
 t31:=underlying28
 a31:=isAgg28
 z31:=sizeOf28
 v31:=zeroValue28}
end Go.Proofs
namespace Go.Vd
open Go.Proofs Go.RowKit
def Gh.base(G:Nat->Nat):Gh:={G:=G,G0:=G,dl:=λ_=>none,tb:=λ_=>none}
theorem model_ok {P : Program} {f : FuncId} {F : List D → Option D} (ent : ∃ fn, P.funcs[f]? = some fn ∧ fn.body.isSome = true ∧ (fn.name == "runtime.NumGoroutine") = false)
  (h : ∀ ds r, F ds = some r → ∀ (vs : List Value) (w : World) (G : Nat → Nat), vs.length = ds.length → (∀ (j : Nat) d v, ds[j]? = some d → vs[j]? = some v → Rep w (Gh.base G) d v) → (∀ b, w.heap.size ≤ b → G b = 0) →
   r.calmR = true ∧ Calls P f vs.toArray w fun e w' => ∃ v G', e = .returned v ∧ Below w.heap.size w w' ∧ (∀ b, w'.heap.size ≤ b → G' b = 0) ∧ (∀ b, b < w.heap.size → G' b = G b) ∧ Rep w' (Gh.base G') r v) : (Ac F).ok P f := by
 refine ⟨ent, fun ds m m' fr _ => rfl, ?_⟩
 intro B w0 w m g fr ds vs r u hi hfresh hl hrep hex
 simp only [Ac] at hex
 split at hex
 ·rename_i hcalm
  rw [Qu] at hex
  obtain ⟨r', hr, hex⟩ := hex
  simp only [QI] at hex
  obtain ⟨rfl, rfl⟩ := hex
  have hrep0 : ∀ (j : Nat) d v, (ds.map D.un)[j]? = some d → vs[j]? = some v → Rep w (Gh.base g.G) d v := by
   intro j d v hd hv
   have hc := Q4.1 hcalm d (QA hd)
   rw [Q1, Qu] at hd
   obtain ⟨d', hd', rfl⟩ := hd
   exact (hrep j d' v hd' hv).un.calm_to hc (fun _ _ => rfl) (fun _ => Qi _)
  obtain ⟨hcr, hc⟩ := h _ _ hr vs w g.G (by rw [Qm]; exact hl) hrep0 hi.gz
  refine hc.mono ?_
  rintro e w' ⟨v, G', rfl, hb, hz, ho, hR⟩
  have hGeq : ∀ b, (g.glue w G').G b = G' b := by
   intro b
   simp only [Gh.glue]
   split
   ·rename_i hlt; rw [ho b hlt]
   ·rfl
  refine ⟨v, g.glue w G', rfl, hi.glue hb hz, Ext.glue hi.gz hb, ?_, fun i hf _ => hf⟩
  exact hR.calmR_to hcr (fun _ _ => rfl) (fun b => by rw [hGeq]; exact Qi _)
 ·cases hex
theorem ok_calls{P:Program}{f:FuncId}{F:List D->Option D}(hok:(Ac F).ok P f){ds:List D}{r:D}(hF:F ds=some r)(hcalm:ds.all D.calm=true)(hun:ds.map D.un=ds){vs:List Value}{w:World}{G:Nat->Nat}
  (hl:vs.length=ds.length) (hrep:∀(j:Nat) d v,ds[j]?=some d->vs[j]?=some v->Rep w (Gh.base G) d v) (hgz:∀b,w.heap.size<=b->G b=0):
  Calls P f vs.toArray w λe w'=>∃v g',e= .returned v∧Below w.heap.size w w'∧Rep w' g' r v:=by
 have hi0:InvM P w.heap.size w (λ_ _=>none) w (Gh.base G):=
  ⟨Below.refl _ _,Qi _,hgz,λ_ _=>rfl,λi b h=>by simp[Gh.base]at h,λi i' b h=>by simp[Gh.base]at h,λi o d h=>by simp at h,λi e h=>by simp at h,λi i' e e' b x x' h=>by simp at h,λi s p h=>by simp at h,λi i' s p s' p' b x x' h=>by simp at h⟩
 refine(hok.run (fr:=[0]) (ds:=ds) (r:=r) (u:=[]) hi0 (λi _=>⟨λ_=>rfl,rfl,rfl⟩) hl hrep ?_).mono ?_
 ·simp only[Ac];rw[hun,if_pos hcalm,hF];rfl
 ·rintro e w' ⟨v,g',rfl,hs⟩;exact⟨v,g',rfl,hs.inv.below,hs.rep⟩
theorem plain_calls{P:Program}{f:FuncId}{F:List D->Option D}(hok:(Ac F).ok P f){ds:List D}{r:D}(hF:F ds=some r)(hp:ds.all (λd=>match d with| .str _| .int _ _| .bool _=>true|_=>false)=true)(w:World):
  Calls P f (ds.map plV).toArray w λe w'=>∃v g',e= .returned v∧Below w.heap.size w w'∧Rep w' g' r v:=by
 have h1:∀d∈ds,d.calm=true∧d.un=d∧∀w g,Rep w g d (plV d):=by
  intro d hd;have:=Q4.1 hp d hd;cases d with
  |str s=>exact⟨rfl,rfl,λw g=> .str s⟩
  |int k n=>exact⟨rfl,rfl,λw g=> .int k n⟩
  |bool b=>exact⟨rfl,rfl,λw g=> .bool b⟩
  |_=>cases this
 refine ok_calls hok hF (Q4.2 λd hd=>(h1 d hd).1) ?_ (G:=λ_=>0) (by simp) (λj d v hd hv=>?_) (λ_ _=>rfl)
 ·conv=>rhs;rw[←List.map_id ds]
  exact List.map_congr_left λd hd=>(h1 d hd).2.1
 ·rw[Q1,hd,Q6,Qg]at hv;subst hv;exact(h1 d (QA hd)).2.2 _ _
theorem flat_strsD:∀l:List Bs,flat (AB l)=AB l
 |[]=>rfl
 |s::l=>by
  show(D.str s).cells++flat (AB l)=_;rw[flat_strsD l];rfl
theorem strs_cells{w:World}{g:Gh}{nl:Bool}{t:Id}{l:List Bs}{v:Value}(h:Rep w g (.slice nl t (AB l)) v):
  ∃ao c,v= .slice ao l.length c∧∀j s,l[j]?=some s->∃a,ao=some a∧w.cell? (a.add j)=some (encStr s):=by
 rcases h.slice_inv with ⟨_,h0,rfl⟩|⟨_,ad,n,c,sz,vv,rfl,hn,hc,r3,r4,r5,r6,r7,r8,r9⟩
 ·have:l=[]:=by cases l with|nil=>rfl|cons=>cases h0
  subst this;exact⟨none,0,rfl,λj s h=>by simp at h⟩
 ·rw[A0]at hn;subst hn;refine⟨some ad,c,rfl,λj s hj=>⟨ad,rfl,?_⟩⟩;have hlt:j<l.length:=(QD.1 hj).1;have hsz:sz=1:=(r3 (.str s) (Qr.2 ⟨s,QA hj,rfl⟩)).symm;subst hsz;have h6:=r6 j (.str s) (by rw[flat_strsD];simp[AB,hj]);rw[r4 j (by omega)];cases hv:vv j<;>rw[hv]at h6<;>cases h6;rfl
theorem own_strs{w:World}{B e n b c:Nat}{ys:List Bs}{g:Gh}(h:w.ownsRow B e 1 (.slice (some ⟨b,0,none⟩) n c) n (ys.map encStr))(hG:n<=g.G b):Rep w g (.slice false [] (AB ys)) (.slice (some ⟨b,0,none⟩) n c):=by
 have hn:ys.length=n:=by simpa using h.1
 have hcap:n<=c:=by
  rcases h.2 with ⟨h0,_⟩|⟨g',cap,cur,hv,_,_,hnc,_⟩
  ·cases h0
  ·cases hv;exact hnc
 refine .slice [] _ ⟨b,0,none⟩ n c 1 (λj=>encStr (ys.getD j [])) (by rw[A0,hn]) hcap (λd hd=>?_) (λj hj=>?_) (λj hj=>rfl) (λj d hd=>?_) (λ_=>by simp only;omega) (λh=>absurd rfl h) (λd hd=>?_)
 ·obtain⟨s,_,rfl⟩:=Qr.1 hd;rfl
 ·have hj':j<ys.length:=by omega
  exact h.cells rfl j _ (by simp[QK,hj'])
 ·rw[flat_strsD]at hd;simp only[AB,Q1,Qu]at hd;obtain⟨s,hs,rfl⟩:=hd;have:ys.getD j []=s:=by simp[QK,hs]
  rw[this];exact .str s
 ·obtain⟨s,_,rfl⟩:=Qr.1 hd;rfl
end Go.Vd
namespace Go.Vd
open Go.Proofs Go.RowKit Go.Sort Go.Shelf
def Fu(top:Bs)(l:List Bs):List Bs:=l.filterMap λs=>if(B0 s top).2=true then some (B0 s top).1 else none
theorem kidL_cons(top s:Bs)(l:List Bs):Fu top (s::l)=if(B0 s top).2=true then(B0 s top).1::Fu top l else Fu top l:=by
 unfold Fu;rw[Zc];split
 ·rename_i h;split at h
  ·cases h
  ·rename_i h2;rw[if_neg h2]
 ·rename_i h;split at h
  ·rename_i h2;cases h;rw[if_pos h2]
  ·cases h
def LeftC(w:World)(ss:List Bs)(e:Ending)(w':World):Prop:=
 ∃v,e= .returned v∧Below w.heap.size w w'∧((v= .slice none 0 0∧ss=[])∨(ss≠[]∧∃g cap,v= .slice (some ⟨g,0,none⟩) (Lib.compact (ss.mergeSort λx y=>decide (x<=y))).length cap∧w.heap.size<=g∧g<w'.heap.size∧
  w'.ownsRow w.heap.size 9 1 v (Lib.compact (ss.mergeSort λx y=>decide (x<=y))).length ((Lib.compact (ss.mergeSort λx y=>decide (x<=y))).map encStr)))
theorem leftC_of{w w1:World}{g cap n nn q:Nat}{os:Array Obj}{ss:List (List UInt8)}(hown:w1.ownsRow w.heap.size 9 1 (.slice (some ⟨g,0,none⟩) n cap) n (ss.map encStr))(hbel:Below w.heap.size w w1)(hbg:w.heap.size<=g)(hlen:ss.length=n)(hne:ss≠[]):
  LeftC w ss (.returned (.slice (some ⟨g,0,none⟩) (Lib.compact (ss.mergeSort λx y=>decide (x<=y))).length cap))
   (putRow encStr (Sort.ahead (grow (putRow encStr (Sort.ahead w1 nn) g 0 (ss.mergeSort λx y=>decide (x<=y)).toArray) os) q) g 0 (Lib.compact (ss.mergeSort λx y=>decide (x<=y))++Za (n-(Lib.compact (ss.mergeSort λx y=>decide (x<=y))).length) []).toArray):=by
 have hl2:(ss.mergeSort λx y=>decide (x<=y)).length=ss.length:=Qo ss;have hle:=Lib.compact_length_le (ss.mergeSort λx y=>decide (x<=y));subst hlen;rcases hown.2 with ⟨h0,_⟩|⟨g',cap',cur,hv,hbase,hb,h1,h2,h3,h4⟩
 ·cases h0
 cases hv;have hs:=ownsRow_sorted (n:=nn) (os:=os) (ts:=ss.mergeSort λx y=>decide (x<=y)) hl2 hbase hb h1 h2 h3;have hc:=Lib.ownsRow_putRow (q:=q) (k:=(Lib.compact (ss.mergeSort λx y=>decide (x<=y))).length) (ys:=Lib.compact (ss.mergeSort λx y=>decide (x<=y))++Za (ss.length-(Lib.compact (ss.mergeSort λx y=>decide (x<=y))).length) []) hs (by simp;omega) (by omega);rw[List.take_left]at hc;exact⟨_,rfl,Lib.below_putRow (hbel.grown (grownBy_sorted _) hbel.size (λj hj=>by cases hj;exact hbase)) hbg,.inr ⟨hne,g,cap,rfl,hbg,(hc.lt g rfl).2,hc⟩⟩
theorem info9s:(Tryz.prog.info? 9).map (λi=>(i.zero,i.size,i.bytes))=some (some (.string ByteArray.empty),1,16):=by kernel_rfl
theorem own_em(v:Value):v.ownBlock=none∨v.ownBlock≠none:=Classical.em _
theorem CZ{B:Nat}{w w':World}(h:Below B w w')(hB:w.heap.size<=B)(row:Option Nat)(hs:w.heap.size<=w'.heap.size):w.grownBy w' row:=⟨h.os,h.tape,h.output,hs,λk hk _=>h.block k (by omega)⟩
theorem cellLater{w wx:World}{a:Addr}{v:Value}(hb:Below w.heap.size w wx)(h:w.cell? a=some v):wx.cell? a=some v:=(hb.cell (World.block_lt_of_cell? _ _ h)).trans h
theorem dropAt{α:Type}{l:List α}{j:Nat}{x:α}(h:l[j]?=some x):l.drop j=x::l.drop (j+1):=by
 obtain⟨h1,rfl⟩:=QD.1 h;exact QZ h1
theorem w134(w:World)(top:Bs)(l:List Bs)(ao:Option Addr)(c:Nat)(hl:l.length<=1000)
  (hcell:∀j s,l[j]?=some s->∃a,ao=some a∧w.cell? (a.add j)=some (encStr s))
  (h238:∀s∈l,∀w,Calls Qb 238 #[encStr s,encStr top] w λe w'=>e= .returned (.tuple #[encStr (B0 s top).1,.bool (B0 s top).2])∧Below w.heap.size w w'):
  Calls Qb 134 #[encStr top,.slice ao l.length c] w (LeftC w (Fu top l)):=by
 obtain⟨i0,hi,hx⟩:=Qu.1 info9s;simp only[QI]at hx;obtain⟨hz0,hz1,hz2⟩:=hx;have HC:Aside (∀j s,l[j]?=some s->∃a,ao=some a∧w.cell? (a.add j)=some (encStr s)):=hcell;have H2:Aside (∀s∈l,∀w,Calls Qb 238 #[encStr s,encStr top] w λe w'=>e= .returned (.tuple #[encStr (B0 s top).1,.bool (B0 s top).2])∧Below w.heap.size w w'):=h238;clear hcell h238;generalize htop:encStr top=vt at *;generalize hn:l.length=n at *
 go_enter func134,ntmps134
 go_wp2_with fail
 go_loopg [5,12] n (λg s5 s12 wx=>∃(k:Nat)(ks:List Bs),k+g=n∧s12= .int .i64 k∧Aside (ks++Fu top (l.drop k)=Fu top l)∧ks.length<=k∧
  wx.ownsRow w.heap.size 9 1 s5 ks.length (ks.map encStr)∧Aside (s5= .slice none 0 0↔ks=[])∧Below w.heap.size w wx)
 case atStart=>exact⟨0,[],by omega,rfl,rfl,Qi _,World.ownsRow_nil _ _ _ _,Iff.intro (λ_=>rfl) (λ_=>rfl),Below.refl _ _⟩
 case round=>
  obtain⟨k,ks,hkg,rfl,HI,hkl,hrow,hnn,hbx⟩:=hrel;cases gk with
  |zero=>
   have hkz:¬((k:Int)<(n:Int)):=by omega
   have HK:Aside (ks=Fu top l):=by
    have:=HI.out;rw[QQ (by omega)]at this;show ks=_;simpa[Fu]using this
   by_cases hks:ks=[]
   ·subst hks;have e0:u5= .slice none 0 0:=hnn.out.2 rfl;subst e0;clear hnn
    go_wp2_with (first
     |(go_at_call 235;refine(Any.slices_Sort_string_none lays190 none 0 _).mono ?_;rintro e w2 ⟨rfl,rfl⟩)
     |(go_at_call 239;refine(Any.slices_Compact_string_empty lays194 none 0 _).mono ?_;rintro e w3 ⟨rfl,rfl⟩))
    go_ret
    exact⟨_,rfl,hbx,.inl ⟨rfl,HK.out.symm⟩⟩
   ·have hs5:u5≠ .slice none 0 0:=λe=>hks (hnn.out.1 e)
    obtain⟨g0,cap0,rfl,hbg,hgl,hncap,hcm,hlen,hH⟩:=Lib.holds_of_ownsRow hrow hs5;have cSort:Calls Qb 235 #[.slice (some ⟨g0,0,none⟩) ks.length cap0] wr λe w'=>e= .returned (.tuple #[])∧∃n os,w'=grow (putRow encStr (Sort.ahead wr n) g0 0 (ks.mergeSort λx y=>decide (x<=y)).toArray) os:=Any.slices_Sort_string lays190 g0 0 cap0 ks wr hH hgl (by omega)
    have cComp:∀nn os,Calls Qb 239 #[.slice (some ⟨g0,0,none⟩) ks.length cap0] (grow (putRow encStr (Sort.ahead wr nn) g0 0 (ks.mergeSort λx y=>decide (x<=y)).toArray) os) λe w'=>
      e= .returned (.slice (some ⟨g0,0,none⟩) (Lib.compact (ks.mergeSort λx y=>decide (x<=y))).length cap0)∧∃q,w'=putRow encStr (Sort.ahead (grow (putRow encStr (Sort.ahead wr nn) g0 0 (ks.mergeSort λx y=>decide (x<=y)).toArray) os) q) g0 0 (Lib.compact (ks.mergeSort λx y=>decide (x<=y))++Za (ks.length-(Lib.compact (ks.mergeSort λx y=>decide (x<=y))).length) []).toArray:=λnn os=>by
     have hl2:(ks.mergeSort λx y=>decide (x<=y)).length=ks.length:=Qo ks;have hH2:Go.Sort.Holds encStr (grow (putRow encStr (Sort.ahead wr nn) g0 0 (ks.mergeSort λx y=>decide (x<=y)).toArray) os) g0 0 (ks.mergeSort λx y=>decide (x<=y)).toArray:=
      holds_grow encStr _ os g0 0 _ (by simpa[putRow,mapBlock,Sort.ahead]using hgl) (holds_putRow encStr _ g0 0 _ _ (holds_ahead encStr wr nn g0 0 _ hH) (by simp))
     have:=Any.slices_Compact_string lays194 g0 0 cap0 (ks.mergeSort λx y=>decide (x<=y)) _ hH2 (by omega) (by omega);rw[hl2]at this;exact this
    have X:Aside (wr.ownsRow w.heap.size 9 1 (.slice (some ⟨g0,0,none⟩) ks.length cap0) ks.length (ks.map encStr)∧Below w.heap.size w wr):=⟨hrow,hbx⟩;clear hrow hbx hH hnn hs5
    go_wp2_with (first
     |(go_at_call 235;refine cSort.mono ?_;rintro e w2 ⟨rfl,nn,os,rfl⟩)
     |(go_at_call 239;refine(cComp _ _).mono ?_;rintro e w3 ⟨rfl,q,rfl⟩))
    go_ret
    rw[←HK.out];exact leftC_of X.out.1 X.out.2 hbg rfl hks
  |succ g=>
   have hkz:(k:Int)<(n:Int):=by omega
   obtain⟨s,hs⟩:∃s,l[k]?=some s:=⟨_,Qf (by omega)⟩;obtain⟨a,rfl,hca⟩:=HC.out k s hs;have hcellS:wr.cell? (a.add k)=some (encStr s):=cellLater hbx hca;have hd:Aside (l.drop k=s::l.drop (k+1)):=dropAt hs;have c2:=H2.out s (QA hs) wr;clear hs hca;have hsz:=hbx.size;generalize hvs:encStr s=vs at *;cases hb:(B0 s top).2 with
   |true=>
    rw[hb]at c2;generalize hp:(B0 s top).1=p at c2;have hstep:Aside (Fu top (l.drop k)=p::Fu top (l.drop (k+1))):=by
     show _=_;rw[hd.out,kidL_cons,if_pos hb,hp]
    clear hp hb
    go_wp2_with (first
     |(go_at_call 238;refine c2.mono ?_;rintro e w2 ⟨rfl,hb2⟩;have hs2:=hb2.size;have hrow2:=hrow.kept (CZ hb2 (Qi _) none hs2) (own_em _))
     |(at_builtin;refine wpList_append_own _ rfl _ _ 28 rfl w.heap.size 9 i0 (.string ByteArray.empty) 1 16 underlying28 hi hz0 hz1 hz2 rfl (by decide) _ _ _ rfl (hrow2.alloc _) ⟨w2.heap.size,0,none⟩ 1 1 [encStr p] rfl rfl (cell_one_new _ _ _) (λx hx=>by simp at hx;subst hx;rfl) (by unfold maxLen;omega) (by omega) (by simp;omega) ?_;intro v' w3 hown' hgrow3 hnil3))
    go_roundg g
    case measure=>omega
    case rel=>exact⟨k+1,ks++[p],by omega,by first|rfl|simp,by show _=_;rw[←HI.out,hstep.out];simp,by simp;omega,by simpa using hown',by show _↔_;rw[hnil3];simp,
      ((hbx.grown (CZ hb2 (Qi _) none hs2) hsz (λj hj=>by cases hj)).alloc (by omega) _).grown hgrow3 (by simp;omega) (λj hj=>(hrow2.lt j hj).1)⟩
   |false=>
    rw[hb]at c2;generalize hp:(B0 s top).1=p at c2;have hstep:Aside (Fu top (l.drop k)=Fu top (l.drop (k+1))):=by
     show _=_;rw[hd.out,kidL_cons,if_neg (by rw[hb];decide)]
    clear hp hb
    go_wp2_with (first
     |(go_at_call 238;refine c2.mono ?_;rintro e w2 ⟨rfl,hb2⟩;have hs2:=hb2.size;have hrow2:=hrow.kept (CZ hb2 (Qi _) none hs2) (own_em _)))
    go_roundg g
    case measure=>omega
    case rel=>exact⟨k+1,ks,by omega,by first|rfl|simp,by show _=_;rw[←HI.out,hstep.out],by omega,hrow2,hnn,hbx.grown (CZ hb2 (Qi _) none hs2) hsz (λj hj=>by cases hj)⟩
abbrev pB(b:Nat):Value:= .pointer (some ⟨b,0,none⟩)
section
variable(w0:World)(bg bs bt b4:Nat)(l:List Tk)(ao:Option Addr)(c:Nat)
structure TakeIn (w:World) (vg:Value) (xs:List Bs):Prop where
 own:w.ownsRow w0.heap.size 9 1 vg xs.length (xs.map encStr)
 g:w.heap[bg]?=some (.cells #[vg] 28 (0,0))
 s:w.heap[bs]?=some (.cells #[.slice ao l.length c] 55 (0,0))
 t:w.heap[bt]?=some (.cells #[.func (.func 234) #[] #[pB bg,pB bs,pB bt]] 332 (0,0))
 nl:vg= .slice none 0 0↔xs=[]
 r:w.heap[b4]?=some (.cells #[.slice none 0 0] 55 (0,0))
 below:Below w0.heap.size w0 w
theorem own_ne{w:World}{B e size n b:Nat}{v:Value}{xs:List Value}{cs:Array Value}{T:TypeId}{fr:Nat×Nat}(h:w.ownsRow B e size v n xs)(hb:w.heap[b]?=some (.cells cs T fr))(hT:T≠e):some b≠v.ownBlock:=by
 rcases h.2 with ⟨rfl,_⟩|⟨g,cap,cur,rfl,_,hg,_⟩
 ·intro h;cases h
 ·intro h;simp only[Value.ownBlock,Qg]at h;subst h;rw[hb]at hg;simp only[Qg,Obj.cells.injEq]at hg;exact hT hg.2.1
variable{w0 bg bs bt b4 l ao c}
theorem TakeIn.app{w w3:World}{vg v':Value}{xs:List Bs}{o:Obj}{name:Bs}(hbg:w0.heap.size<=bg)(T:TakeIn w0 bg bs bt b4 l ao c w vg xs)(hown:w3.ownsRow w0.heap.size 9 1 v' (xs.length+1) (xs.map encStr++[encStr name]))(hgrow:(w.alloc o).grownBy w3 vg.ownBlock)(hnil:v'= .slice none 0 0↔vg= .slice none 0 0∧(1:Nat)=0):
  ∃g cap,v'= .slice (some ⟨g,0,none⟩) (xs.length+1) cap∧w3.cell? ⟨bg,0,none⟩=some vg∧w3.frozen? ⟨bg,0,none⟩=false∧(w3.setCell ⟨bg,0,none⟩ v').cell? ⟨bs,0,none⟩=some (.slice ao l.length c)∧TakeIn w0 bg bs bt b4 l ao c (w3.setCell ⟨bg,0,none⟩ v') v' (xs++[name]):=by
 have hl:∀{b:Nat} {cs:Array Value} {T:TypeId},w.heap[b]?=some (.cells cs T (0,0))->T≠9->w3.heap[b]?=some (.cells cs T (0,0)):=λ{b cs Ty} hb hT=>by
  have hlt:b<w.heap.size:=(Qp.1 hb).1;rw[hgrow.block b (by simp;omega) (own_ne T.own hb hT),heap_alloc_old w o hlt];exact hb
 have g1:=hl T.g (by decide);have s1:=hl T.s (by decide);have t1:=hl T.t (by decide);have r1:=hl T.r (by decide);have hne:v'≠ .slice none 0 0:=λe=>by have:=(hnil.1 e).2;omega
 rcases hown.2 with ⟨h0,_⟩|⟨g,cap,cur,hv,hbase,hb,h1,h2,h3,h4⟩
 ·exact absurd h0 hne
 have hgb:g≠bg:=λe=>by
  subst e;rw[g1]at hb;simp only[Qg,Obj.cells.injEq]at hb;exact absurd hb.2.1 (by decide)
 have hoth:∀k,k≠bg->(w3.setCell ⟨bg,0,none⟩ v').heap[k]?=w3.heap[k]?:=λk hk=>heap_setCell_other w3 ⟨bg,0,none⟩ k _ hk
 have hbs:bs≠bg:=λe=>by have:=T.s;rw[e,T.g]at this;simp at this
 have hbt:bt≠bg:=λe=>by have:=T.t;rw[e,T.g]at this;simp at this
 have hbr:b4≠bg:=λe=>by have:=T.r;rw[e,T.g]at this;simp at this
 have s2:(w3.setCell ⟨bg,0,none⟩ v').heap[bs]?=some (.cells #[.slice ao l.length c] 55 (0,0)):=(hoth bs hbs).trans s1;refine⟨g,cap,hv,by simp[World.cell?,g1],by simp[World.frozen?,g1],by simp[World.cell?,s2],⟨?_,?_,s2,(hoth bt hbt).trans t1,⟨λe=>absurd e hne,λe=>by simp at e⟩,(hoth b4 hbr).trans r1,?_⟩⟩
 ·refine⟨by simp,.inr ⟨g,cap,cur,by rw[hv];simp,hbase,?_,by simpa using h1,h2,h3,by simpa using h4⟩⟩;rw[hoth g hgb];exact hb
 ·rw[heap_setCell_same w3 bg 0 _ _ _ g1];rfl
 ·exact((T.below.alloc T.below.size o).grown hgrow (by have:=T.below.size;simp;omega) (λk hk=>(T.own.lt k hk).1)).setCell hbg _
theorem add_add'(a:Addr)(n j:Nat):(a.add n).add j=a.add (n+j):=by
 unfold Addr.add;by_cases h1:n=0
 ·subst h1;simp
 ·by_cases h2:j=0
  ·subst h2;simp[h1]
  ·simp[h1,h2,Nat.add_assoc]
def TkIn(w0:World)(G:Nat->Nat)(l:List Tk)(ao:Option Addr):Prop:=∀j k,l[j]?=some k->∃a ro rn rc,ao=some a∧w0.cell? (a.add (j*3))=some (encStr k.1)∧w0.cell? (a.add (j*3+1))=some (encStr k.2.1)∧w0.cell? (a.add (j*3+2))=some (.slice ro rn rc)∧Rep w0 (Gh.base G) (.slice k.2.2.1 [] (Al k.2.2.2)) (.slice ro rn rc)
theorem TkIn.load{G:Nat->Nat}{w:World}{j:Nat}{k:Tk}(h:TkIn w0 G l ao)(hb:Below w0.heap.size w0 w)(hj:l[j]?=some k):∃a ro rn rc,ao=some a∧w.cell? (a.add (j*3))=some (encStr k.1)∧w.cell? ⟨(a.add (j*3)).block,(a.add (j*3)).off+1,none⟩=some (encStr k.2.1)∧w.cell? ⟨(a.add (j*3)).block,(a.add (j*3)).off+2,none⟩=some (.slice ro rn rc)∧Rep w0 (Gh.base G) (.slice k.2.2.1 [] (Al k.2.2.2)) (.slice ro rn rc):=by
 obtain⟨a,ro,rn,rc,e,c1,c2,c3,c4⟩:=h j k hj;have e1:∀i,i≠0->(⟨(a.add (j*3)).block,(a.add (j*3)).off+i,none⟩:Addr)=a.add (j*3+i):=λi hi=>by
  rw[←add_add'];generalize a.add (j*3)=b;unfold Addr.add;rw[if_neg hi]
 refine⟨a,ro,rn,rc,e,cellLater hb c1,?_,?_,c4⟩
 ·rw[e1 1 (by decide)];exact cellLater hb c2
 ·rw[e1 2 (by decide)];exact cellLater hb c3
theorem kidsT_cons(l:List Tk)(t:Tk)(s:Bs):BW (t::l) s=if t.2.1=s∧t.1≠s then t.1::BW l s else BW l s:=by
 unfold BW;rw[List.filter_cons];by_cases h:t.2.1=s∧t.1≠s
 ·rw[if_pos h,if_pos (by simp[h.1,h.2])];rfl
 ·rw[if_neg h,if_neg (by simpa using h)]
theorem TakeIn.alloc{w:World}{vg:Value}{xs:List Bs}(T:TakeIn w0 bg bs bt b4 l ao c w vg xs)(o:Obj):TakeIn w0 bg bs bt b4 l ao c (w.alloc o) vg xs:=
 have hl:∀{b:Nat} {x:Obj},w.heap[b]?=some x->(w.alloc o).heap[b]?=some x:=λ{b x} h=>by
  rw[heap_alloc_old w o (Qp.1 h).1];exact h
 ⟨T.own.alloc o,hl T.g,hl T.s,hl T.t,T.nl,hl T.r,T.below.alloc T.below.size o⟩
theorem w234 (hg : w0.heap.size ≤ bg) (hl : l.length ≤ 1000) {G : Nat → Nat} (hT : TkIn w0 G l ao) (name : Bs) (sub : Bs → List Bs) (w : World) (vg : Value) (xs : List Bs)
    (hsub : ∀ t ∈ l, t.2.1 = name → t.1 ≠ name → ∀ w vg ys, TakeIn w0 bg bs bt b4 l ao c w vg ys → ys.length + (sub t.1).length ≤ 1000 → Calls Qb 234 #[encStr t.1, pB bg, pB bs, pB bt] w fun e w' => e = .returned (.tuple #[]) ∧ ∃ vg', TakeIn w0 bg bs bt b4 l ao c w' vg' (ys ++ sub t.1))
    (hlen : xs.length + 1 + ((BW l name).flatMap sub).length ≤ 1000) (T : TakeIn w0 bg bs bt b4 l ao c w vg xs) :
    Calls Qb 234 #[encStr name, pB bg, pB bs, pB bt] w fun e w' => e = .returned (.tuple #[]) ∧ ∃ vg', TakeIn w0 bg bs bt b4 l ao c w' vg' (xs ++ name :: (BW l name).flatMap sub) := by
  obtain ⟨i0, hi, hx⟩ := Qu.1 info9s
  simp only [QI] at hx
  obtain ⟨hz0, hz1, hz2⟩ := hx
  have C1 : w.cell? ⟨bg, 0, none⟩ = some vg := by simp [World.cell?, T.g]
  have C3 : w.frozen? ⟨bg, 0, none⟩ = false := by simp [World.frozen?, T.g]
  have hsz : xs.length < 1000 := by omega
  have hBw : w0.heap.size ≤ w.heap.size := T.below.size
  have TT : Aside (TakeIn w0 bg bs bt b4 l ao c w vg xs) := T
  have HT : Aside (TkIn w0 G l ao) := hT
  have HS : Aside (∀ t ∈ l, t.2.1 = name → t.1 ≠ name → ∀ w vg ys, TakeIn w0 bg bs bt b4 l ao c w vg ys → ys.length + (sub t.1).length ≤ 1000 → Calls Qb 234 #[encStr t.1, pB bg, pB bs, pB bt] w fun e w' => e = .returned (.tuple #[]) ∧ ∃ vg', TakeIn w0 bg bs bt b4 l ao c w' vg' (ys ++ sub t.1)) := hsub
  have HL : Aside (xs.length + 1 + ((BW l name).flatMap sub).length ≤ 1000) := hlen
  have hrow := T.own
  clear T hlen hsub hT
  go_enter func234, ntmps234
  go_wp2_with (first
    | (at_builtin; refine wpList_append_own _ rfl _ _ 28 rfl w0.heap.size 9 i0 (.string ByteArray.empty) 1 16 underlying28 hi hz0 hz1 hz2 rfl (by decide) _ _ _ rfl (hrow.alloc _) ⟨w.heap.size, 0, none⟩ 1 1 [encStr name] rfl rfl (cell_one_new _ _ _) (fun x hx => by simp at hx; subst hx; rfl) (by unfold maxLen; omega) (by omega) (by simp; omega) ?_; intro v' w3 hown' hgrow3 hnil3
       obtain ⟨g2, cap2, rfl, D1, D2, D3, T2⟩ := TT.out.app hg hown' hgrow3 hnil3
       have T3 : Aside (TakeIn w0 bg bs bt b4 l ao c (w3.setCell ⟨bg, 0, none⟩ (.slice (some ⟨g2, 0, none⟩) (xs.length + 1) cap2)) (.slice (some ⟨g2, 0, none⟩) (xs.length + 1) cap2) (xs ++ [name])) := T2
       clear hnil3 hown' hgrow3 T2))
  go_loopg [14] l.length (fun g s14 wx => ∃ (k : Nat) (ys : List Bs) (vy : Value), k + g = l.length ∧ s14 = .int .i64 k ∧ Aside (ys ++ (BW (l.drop k) name).flatMap sub = xs ++ name :: (BW l name).flatMap sub) ∧ Aside (TakeIn w0 bg bs bt b4 l ao c wx vy ys))
  case atStart => exact ⟨0, xs ++ [name], _, by omega, rfl, by show _ = _; simp, T3⟩
  case round =>
    obtain ⟨k, ys, vy, hkg, rfl, HI, TY⟩ := hrel
    cases gk with
    | zero =>
      have hkz : ¬ ((k : Int) < (l.length : Int)) := by omega
      go_wp2_with fail
      go_end0
      refine ⟨rfl, vy, ?_⟩
      have := HI.out
      rw [QQ (by omega)] at this
      rw [← this]
      simpa [BW] using TY.out
    | succ g =>
      have hkz : (k : Int) < (l.length : Int) := by omega
      obtain ⟨t, hs⟩ : ∃ t, l[k]? = some t := ⟨_, Qf (by omega)⟩
      obtain ⟨a, ro, rn, rc, rfl, c1, c2, c3, _⟩ := HT.out.load TY.out.below hs
      have hd : Aside (l.drop k = t :: l.drop (k + 1)) := dropAt hs
      have hmem : t ∈ l := QA hs
      by_cases h1 : t.2.1 = name
      · by_cases h2 : t.1 = name
        · have hstep : Aside (BW (l.drop k) name = BW (l.drop (k + 1)) name) := by
            show _ = _
            rw [hd.out, kidsT_cons, if_neg (fun h => h.2 h2)]
          go_wp2_with fail
          go_roundg g
          case measure => omega
          case rel => exact ⟨k + 1, ys, vy, by omega, by first | rfl | simp, by show _ = _; rw [← HI.out, hstep.out], TY.out.alloc _⟩
        · have hstep : Aside (BW (l.drop k) name = t.1 :: BW (l.drop (k + 1)) name) := by
            show _ = _
            rw [hd.out, kidsT_cons, if_pos ⟨h1, h2⟩]
          have hcall : ∀ o, Calls Qb 234 #[encStr t.1, pB bg, pB bs, pB bt] (wr.alloc o) fun e w' => e = .returned (.tuple #[]) ∧ ∃ vg', TakeIn w0 bg bs bt b4 l (some a) c w' vg' (ys ++ sub t.1) := fun o =>
            HS.out t hmem h1 h2 _ vy ys (TY.out.alloc o) (by
              have h3 := congrArg List.length HI.out
              rw [hstep.out] at h3
              have h4 := HL.out
              simp only [Q0, Ql, Qc] at h3
              omega)
          have h2' : (t.1 == name) = false := by simpa using h2
          have F : ∀ o, (wr.alloc o).cell? ⟨bt, 0, none⟩ = some (.func (.func 234) #[] #[pB bg, pB bs, pB bt]) := fun o => by simp [World.cell?, (TY.out.alloc o).t]
          go_wp2_with (go_at_call 234; refine (hcall _).mono ?_; rintro e w' ⟨rfl, vz, TZ⟩)
          go_roundg g
          case measure => omega
          case rel => exact ⟨k + 1, ys ++ sub t.1, vz, by omega, by first | rfl | simp, by show _ = _; rw [← HI.out, hstep.out]; simp, TZ⟩
      · have hstep : Aside (BW (l.drop k) name = BW (l.drop (k + 1)) name) := by
          show _ = _
          rw [hd.out, kidsT_cons, if_neg (fun h => h1 h.1)]
        have h1' : (t.2.1 == name) = false := by simpa using h1
        go_wp2_with fail
        go_roundg g
        case measure => omega
        case rel => exact ⟨k + 1, ys, vy, by omega, by first | rfl | simp, by show _ = _; rw [← HI.out, hstep.out], TY.out.alloc _⟩
theorem TakeIn.kept{w w':World}{vg:Value}{xs:List Bs}{row:Option Nat}(T:TakeIn w0 bg bs bt b4 l ao c w vg xs)(h:w.grownBy w' row)(hr:∀(b:Nat) cs Ty,w.heap[b]?=some (.cells cs Ty (0,0))->Ty≠97->some b≠row)(hB:∀k,row=some k->w0.heap.size<=k):TakeIn w0 bg bs bt b4 l ao c w' vg xs:=by
 have hl:∀{b:Nat} {cs:Array Value} {T:TypeId},w.heap[b]?=some (.cells cs T (0,0))->T≠97->w'.heap[b]?=some (.cells cs T (0,0)):=λ{b cs Ty} hb hT=>by
  rw[h.block b (Qp.1 hb).1 (hr b cs Ty hb hT)];exact hb
 refine⟨T.own.kept h ?_,hl T.g (by decide),hl T.s (by decide),hl T.t (by decide),T.nl,hl T.r (by decide),T.below.grown h T.below.size hB⟩;rcases T.own.2 with ⟨rfl,_⟩|⟨g,cap,cur,rfl,_,hb,_⟩
 ·exact .inl rfl
 ·exact .inr (hr g cur 9 hb (by decide))
theorem TakeIn.sorted{w:World}{vg:Value}{xs:List Bs}(T:TakeIn w0 bg bs bt b4 l ao c w vg xs)(hx:xs≠[]):∃g cap,vg= .slice (some ⟨g,0,none⟩) xs.length cap∧g<w.heap.size∧Go.Sort.Holds encStr w g 0 xs.toArray∧
  ∀nn os,TakeIn w0 bg bs bt b4 l ao c (grow (putRow encStr (Sort.ahead w nn) g 0 (xs.mergeSort λx y=>decide (x<=y)).toArray) os) vg (xs.mergeSort λx y=>decide (x<=y)):=by
 have hne:vg≠ .slice none 0 0:=λe=>hx (T.nl.1 e)
 have hl2:(xs.mergeSort λx y=>decide (x<=y)).length=xs.length:=Qo xs;rcases T.own.2 with ⟨h0,_⟩|⟨g,cap,cur,hv,hbase,hb,h1,h2,h3,h4⟩
 ·exact absurd h0 hne
 refine⟨g,cap,hv,(Qp.1 hb).1,Go.holds_of_block hb (by simpa using h4),λnn os=>?_⟩;have hgr:=Go.grownBy_sorted (w:=w) (g:=g) (n:=nn) (os:=os) (xs.mergeSort λx y=>decide (x<=y)).toArray;have hl:∀{b:Nat} {cs:Array Value} {T:TypeId},w.heap[b]?=some (.cells cs T (0,0))->T≠9->(grow (putRow encStr (Sort.ahead w nn) g 0 (xs.mergeSort λx y=>decide (x<=y)).toArray) os).heap[b]?=some (.cells cs T (0,0)):=λ{b cs Ty} hc hT=>by
  rw[hgr.block b (Qp.1 hc).1 (λe=>by
   have:=own_ne T.own hc hT;rw[hv]at this;exact this e)];exact hc
 refine⟨?_,hl T.g (by decide),hl T.s (by decide),hl T.t (by decide),⟨λe=>absurd e hne,λe=>?_⟩,hl T.r (by decide),T.below.grown hgr T.below.size (λk hk=>by cases hk;exact hbase)⟩
 ·rw[hv,hl2];exact Go.ownsRow_sorted hl2 hbase hb h1 h2 h3
 ·rw[e]at hl2;exact absurd (QT hl2.symm) hx
theorem w234f(hg:w0.heap.size<=bg)(hl:l.length<=1000){G:Nat->Nat}(hT:TkIn w0 G l ao){r:Bs->Nat}(T:TreeT l r):∀(f:Nat)(name:Bs),l.length<=r name+f->∀(w:World)(vg:Value)(xs:List Bs),TakeIn w0 bg bs bt b4 l ao c w vg xs->xs.length+(Eb l f name).length<=1000->
  Calls Qb 234 #[encStr name,pB bg,pB bs,pB bt] w λe w'=>e= .returned (.tuple #[])∧∃vg',TakeIn w0 bg bs bt b4 l ao c w' vg' (xs++Eb l f name)
 |0,name,hr,w,vg,xs,h,hlen=>by
  have hk:BW l name=[]:=by
   cases hc:BW l name with
   |nil=>rfl
   |cons a t=>have:=kid_rank T (show a∈BW l name by rw[hc];exact Qy ..);omega
  have:=w234 hg hl hT name (λ_=>[]) w vg xs (λt ht h1 h2=>by
   have h3:=T.up t ht;have h4:=T.top t ht;rw[h1]at h3;omega) (by rw[hk];simpa[Eb]using hlen) h
  rw[hk]at this;exact this
 |f+1,name,hr,w,vg,xs,h,hlen=>by
  refine w234 hg hl hT name (Eb l f) w vg xs (λt ht h1 h2 w vg ys hy hly=>?_) (by simp only[Eb,Qc]at hlen;omega) h;have h3:=T.up t ht;rw[h1]at h3;exact w234f hg hl hT T f t.1 (by omega) w vg ys hy hly
end
theorem info97s:(Tryz.prog.info? 97).map (λi=>(i.zero,i.size,i.bytes))=some (some (.agg #[.string ByteArray.empty,.string ByteArray.empty,.slice none 0 0]),3,56):=by kernel_rfl
def tkV(p:Tk×Value):List Value:=[encStr p.1.1,encStr p.1.2.1,p.2]
theorem cell3_new(w:World)(a b c:Value)(t:TypeId):∀j u,[a,b,c][j]?=some u->(w.alloc (.cells #[a,b,c] t)).cell? ((⟨w.heap.size,0,none⟩:Addr).add j)=some u:=by
 intro j u hj
 match j,hj with
 |0,hj=>simp at hj;subst hj;simp[Addr.add]
 |1,hj=>simp at hj;subst hj;simp[Addr.add]
 |2,hj=>simp at hj;subst hj;simp[Addr.add]
theorem two_alloc{w w2:World}{o1 o2:Obj}(h:Below ((w.alloc o1).alloc o2).heap.size ((w.alloc o1).alloc o2) w2):w2.heap[w.heap.size]?=some o1∧w2.heap[w.heap.size+1]?=some o2∧Below w.heap.size w w2∧w.heap.size+2<=w2.heap.size:=by
 have hz:(w.alloc o1).heap.size=w.heap.size+1:=QH _;have hz2:((w.alloc o1).alloc o2).heap.size=w.heap.size+2:=(QH _).trans (by rw[hz]);have e1:(w.alloc o1).heap[w.heap.size]?=some o1:=heap_alloc_new w o1;have e2:((w.alloc o1).alloc o2).heap[w.heap.size]?=some o1:=by rw[heap_alloc_old _ _ (by omega)];exact e1
 have e3:((w.alloc o1).alloc o2).heap[w.heap.size+1]?=some o2:=by have:=heap_alloc_new (w.alloc o1) o2;rwa [hz]at this
 exact⟨by rw[h.block _ (by omega)];exact e2,by rw[h.block _ (by omega)];exact e3,(((Below.refl _ w).alloc (Qi _) _).alloc (by omega) _).trans (h.mono (by omega)),by have:=h.size;omega⟩
theorem cellOne{w:World}{b:Nat}{v:Value}{T:TypeId}(h:w.heap[b]?=some (.cells #[v] T (0,0))):w.cell? ⟨b,0,none⟩=some v:=by simp[World.cell?,h]
theorem freeOne{w:World}{b:Nat}{v:Value}{T:TypeId}(h:w.heap[b]?=some (.cells #[v] T (0,0))):w.frozen? ⟨b,0,none⟩=false:=by simp[World.frozen?,h]
theorem w131n(w:World)(l:List Tk)(ao:Option Addr)(c:Nat)(name:Bs)(q:Int)
  (h93:∀wx,Below w.heap.size w wx->Calls Qb 93 #[.agg #[.slice ao l.length c],encStr name] wx λe w'=>e= .returned (.tuple #[.int .i64 q,.bool false])∧Below wx.heap.size wx w'):
  Calls Qb 131 #[.agg #[.slice ao l.length c],encStr name] w λe w'=>e= .returned (.tuple #[.agg #[.slice ao l.length c],.slice none 0 0,.int .i64 6])∧Below w.heap.size w w':=by
 go_enter func131,ntmps131
 go_wp2_with fail
 refine(h93 _ (((Below.refl _ w).alloc (Qi _) _).alloc (by simp) _)).mono ?_;rintro e w2 ⟨rfl,hb2⟩;obtain⟨x1,x2,x3,x4⟩:=two_alloc hb2;have C1:w2.cell? ⟨w.heap.size,0,none⟩=some (.slice ao l.length c):=by simp[World.cell?,x1]
 have C2:w2.cell? ⟨w.heap.size+1,0,none⟩=some (.slice none 0 0):=by simp[World.cell?,x2]
 have C3:w2.frozen? ⟨w.heap.size+1,0,none⟩=false:=by simp[World.frozen?,x2]
 have C4:∀v,(w2.setCell ⟨w.heap.size+1,0,none⟩ v).cell? ⟨w.heap.size+1,0,none⟩=some v:=λv=>World.cell?_setCell_same' _ _ _ (by rw[C2];rfl)
 go_wp2_with fail
 refine bodyPost_ret (v:= .tuple #[.agg #[.slice ao l.length c],.slice none 0 0,.int .i64 6]) (by simp[results,results131,go_sem,C4]) rfl ⟨rfl,x3.setCell (by simp) _⟩
def Dt(l:List Tk)(gone:List Bs):List Tk:=l.filter λt=>!hasSt gone t.1
theorem leftT_cons(t:Tk)(l:List Tk)(gone:List Bs):Dt (t::l) gone=if hasSt gone t.1=true then Dt l gone else t::Dt l gone:=by
 unfold Dt;rw[List.filter_cons];cases hasSt gone t.1<;>rfl
theorem own_setCell{w:World}{B e size n b:Nat}{v u:Value}{xs:List Value}(h:w.ownsRow B e size v n xs)(hne:some b≠v.ownBlock):(w.setCell ⟨b,0,none⟩ u).ownsRow B e size v n xs:=by
 refine⟨h.1,?_⟩;rcases h.2 with h|⟨g,cap,cur,rfl,h1,h2,h3⟩
 ·exact .inl h
 ·refine .inr ⟨g,cap,cur,rfl,h1,?_,h3⟩;rw[heap_setCell_other _ _ _ _ (λe=>hne (congrArg some (show b=g from e.symm)))];exact h2
theorem take_start{w w2:World}{l:List Tk}{ao:Option Addr}{c:Nat}(x1:w2.heap[w.heap.size]?=some (.cells #[.slice ao l.length c] 55 (0,0)))(x2:w2.heap[w.heap.size+1]?=some (.cells #[.slice none 0 0] 55 (0,0)))(x3:Below w.heap.size w w2)(x4:w.heap.size+2<=w2.heap.size):
  TakeIn w w2.heap.size w.heap.size (w2.heap.size+1) (w.heap.size+1) l ao c ((w2.alloc (Obj.cells #[Value.slice none 0 0] 28)).alloc (Obj.cells #[Value.func (Fn.func 234) #[] #[pB w2.heap.size,pB w.heap.size,pB (w2.heap.size+1)]] 332)) (.slice none 0 0) []:=by
 have hz:(w2.alloc (Obj.cells #[Value.slice none 0 0] 28)).heap.size=w2.heap.size+1:=QH _;have old:∀o {k:Nat} {x:Obj},w2.heap[k]?=some x->((w2.alloc (Obj.cells #[Value.slice none 0 0] 28)).alloc o).heap[k]?=some x:=λo k x h=>by
  have hk:=(Qp.1 h).1;rw[heap_alloc_old _ _ (by omega),heap_alloc_old _ _ hk];exact h
 refine⟨World.ownsRow_nil _ _ _ _,?_,old _ x1,?_,⟨λ_=>rfl,λ_=>rfl⟩,old _ x2,(x3.alloc (by omega) _).alloc (by omega) _⟩
 ·rw[heap_alloc_old _ _ (by omega)];exact heap_alloc_new _ _
 ·have:=heap_alloc_new (w2.alloc (Obj.cells #[Value.slice none 0 0] 28)) (Obj.cells #[Value.func (Fn.func 234) #[] #[pB w2.heap.size,pB w.heap.size,pB (w2.heap.size+1)]] 332)
  rwa [hz]at this
theorem w131y(w:World)(G:Nat->Nat)(l:List Tk)(ao:Option Addr)(c:Nat)(name:Bs)(q:Int)(r:Bs->Nat)(hl:l.length<=900)(hT:TkIn w G l ao)(T:TreeT l r)
  (h93:∀wx,Below w.heap.size w wx->Calls Qb 93 #[.agg #[.slice ao l.length c],encStr name] wx λe w'=>e= .returned (.tuple #[.int .i64 q,.bool true])∧Below wx.heap.size wx w')
  (h236:∀(wx:World)(v:Value)(ys:List Bs)(s:Bs),wx.ownsRow w.heap.size 9 1 v ys.length (ys.map encStr)->ys≠[]->ys.length<=1000->(v= .slice none 0 0↔ys=[])->Calls Qb 236 #[v,encStr s] wx λe w'=>e= .returned (.bool (hasSt ys s))∧Below wx.heap.size wx w'):
  Calls Qb 131 #[.agg #[.slice ao l.length c],encStr name] w λe w'=>∃gv lv ps,e= .returned (.tuple #[.agg #[lv],gv,.int .i64 0])∧Below w.heap.size w w'∧
   w'.ownsRow w.heap.size 9 1 gv (Eb l l.length name).length (((Eb l l.length name).mergeSort λx y=>decide (x<=y)).map encStr)∧gv≠ .slice none 0 0∧
   w'.ownsRow w.heap.size 97 3 lv ps.length (ps.flatMap tkV)∧(lv= .slice none 0 0↔ps=[])∧ps.map (·.1)=Dt l ((Eb l l.length name).mergeSort λx y=>decide (x<=y))∧
   ∀p∈ps,Rep w (Gh.base G) (.slice p.1.2.2.1 [] (Al p.1.2.2.2)) p.2:=by
 obtain⟨i0,hi,hx⟩:=Qu.1 info97s;simp only[QI]at hx;obtain⟨hz0,hz1,hz2⟩:=hx;have hdl:=dfs_len T l.length name;have hdn:Eb l l.length name≠[]:=by cases l.length<;>simp[Eb]
 go_enter func131,ntmps131
 go_wp2_with fail
 refine(h93 _ (((Below.refl _ w).alloc (Qi _) _).alloc (by simp) _)).mono ?_;rintro e w2 ⟨rfl,hb2⟩;obtain⟨x1,x2,x3,x4⟩:=two_alloc hb2;clear hb2;have D0:((w2.alloc (Obj.cells #[Value.slice none 0 0] 28)).alloc (Obj.cells #[Value.nilFunc] 332)).heap[w2.heap.size+1]?=some (Obj.cells #[Value.nilFunc] 332):=by
  have:=heap_alloc_new (w2.alloc (Obj.cells #[Value.slice none 0 0] 28)) (Obj.cells #[Value.nilFunc] 332)
  rwa [show(w2.alloc (Obj.cells #[Value.slice none 0 0] 28)).heap.size=w2.heap.size+1 from QH _]at this
 have D1:((w2.alloc (Obj.cells #[Value.slice none 0 0] 28)).alloc (Obj.cells #[Value.nilFunc] 332)).cell? ⟨w2.heap.size+1,0,none⟩=some Value.nilFunc:=cellOne D0;have D2:((w2.alloc (Obj.cells #[Value.slice none 0 0] 28)).alloc (Obj.cells #[Value.nilFunc] 332)).frozen? ⟨w2.heap.size+1,0,none⟩=false:=freeOne D0
 go_wp2_with fail
 have T0:=take_start x1 x2 x3 x4;refine(w234f (by omega) (by omega) hT T l.length name (by omega) _ _ _ T0 (by simp;omega)).mono ?_;rintro e w3 ⟨rfl,v3,T3⟩;clear T0 D0 D1 D2;rw[List.nil_append]at T3;generalize hD:Eb l l.length name=ds at *;obtain⟨g,cap,rfl,hg3,hH,T4⟩:=T3.sorted hdn;have E1:w3.cell? ⟨w2.heap.size,0,none⟩=some (.slice (some ⟨g,0,none⟩) ds.length cap):=cellOne T3.g;have cSort:Calls Qb 235 #[.slice (some ⟨g,0,none⟩) ds.length cap] w3 λe w'=>e= .returned (.tuple #[])∧∃n os,w'=grow (putRow encStr (Sort.ahead w3 n) g 0 (ds.mergeSort λx y=>decide (x<=y)).toArray) os:=Any.slices_Sort_string lays190 g 0 cap ds w3 hH hg3 (by omega)
 go_wp2_with fail
 refine cSort.mono ?_;rintro e w4 ⟨rfl,nn,os,hw4⟩;replace T4:=T4 nn os;rw[←hw4]at T4;clear cSort hw4 T3 hH E1;have hl2:(ds.mergeSort λx y=>decide (x<=y)).length=ds.length:=Qo ds;have hsn:(ds.mergeSort λx y=>decide (x<=y))≠[]:=λe=>by rw[e]at hl2;exact hdn (QT hl2.symm)
 generalize hss:(ds.mergeSort λx y=>decide (x<=y))=ss at *;have E2:w4.cell? ⟨w.heap.size,0,none⟩=some (.slice ao l.length c):=cellOne T4.s;have HT:Aside (TkIn w G l ao):=hT;have H2:Aside (∀(wx:World)(v:Value)(ys:List Bs)(s:Bs),wx.ownsRow w.heap.size 9 1 v ys.length (ys.map encStr)->ys≠[]->ys.length<=1000->(v= .slice none 0 0↔ys=[])->Calls Qb 236 #[v,encStr s] wx λe w'=>e= .returned (.bool (hasSt ys s))∧Below wx.heap.size wx w'):=h236;clear hT h236 h93;generalize hnn0:ds.length=n at *
 go_wp2_with fail
 go_loopg [11,32] l.length (λgg s11 s32 wx=>∃(k:Nat)(ps:List (Tk×Value)),k+gg=l.length∧s32= .int .i64 k∧ps.length<=k∧Aside (ps.map (·.1)++Dt (l.drop k) ss=Dt l ss)∧
  wx.ownsRow w.heap.size 97 3 s11 ps.length (ps.flatMap tkV)∧Aside (s11= .slice none 0 0↔ps=[])∧Aside (∀p∈ps,Rep w (Gh.base G) (.slice p.1.2.2.1 [] (Al p.1.2.2.2)) p.2)∧
  Aside (TakeIn w w2.heap.size w.heap.size (w2.heap.size+1) (w.heap.size+1) l ao c wx (.slice (some ⟨g,0,none⟩) n cap) ss))
 case atStart=>exact⟨0,[],by omega,rfl,Qi _,rfl,World.ownsRow_nil _ _ _ _,Iff.intro (λ_=>rfl) (λ_=>rfl),(by show ∀p∈([]:List (Tk×Value)),_;intro p hp;cases hp),T4⟩
 case round=>
  obtain⟨k,ps,hkg,rfl,hpk,HI,hrow,hnn,HR,TY⟩:=hrel;have hBw:=TY.out.below.size;cases gk with
  |zero=>
   have hkz:¬((k:Int)<(l.length:Int)):=by omega
   have G1:wr.cell? ⟨w2.heap.size,0,none⟩=some (.slice (some ⟨g,0,none⟩) n cap):=cellOne TY.out.g;have G2:wr.cell? ⟨w.heap.size+1,0,none⟩=some (.slice none 0 0):=cellOne TY.out.r;have G3:wr.frozen? ⟨w.heap.size+1,0,none⟩=false:=freeOne TY.out.r;have G0:w.heap.size+1≠w2.heap.size:=by omega
   have G4:∀v,(wr.setCell ⟨w.heap.size+1,0,none⟩ v).cell? ⟨w2.heap.size,0,none⟩=some (.slice (some ⟨g,0,none⟩) n cap):=λv=>(World.cell?_setCell_other _ _ _ _ (λe=>G0 (congrArg Addr.block e))).trans G1
   have G5:∀v,(wr.setCell ⟨w.heap.size+1,0,none⟩ v).cell? ⟨w.heap.size+1,0,none⟩=some v:=λv=>World.cell?_setCell_same' _ _ _ (by rw[G2];rfl)
   obtain⟨lo,ln,lc,rfl⟩:∃lo ln lc,u11= .slice lo ln lc:=by
    rcases hrow.2 with ⟨h,_⟩|⟨_,_,_,h,_⟩<;>exact⟨_,_,_,h⟩
   go_wp2_with fail
   go_region
   all_goals (
    go_wp2_with fail
    have hb4:=own_setCell (u:= .slice lo ln lc) hrow (own_ne hrow TY.out.r (by decide));have hb5:=own_setCell (u:= .slice lo ln lc) TY.out.own (own_ne TY.out.own TY.out.r (by decide));have hbl:=TY.out.below.setCell (p:=⟨w.heap.size+1,0,none⟩) (by simp) (.slice lo ln lc);refine bodyPost_ret (v:= .tuple #[.agg #[.slice lo ln lc],.slice (some ⟨g,0,none⟩) n cap,.int .i64 0]) (by simp[results,results131,go_sem,G5]) rfl ⟨_,_,ps,rfl,⟨hbl.os,hbl.tape,hbl.output,hbl.size,hbl.block⟩,?_,by simp,hb4,hnn.out,?_,HR.out⟩
    ·rw[hl2]at hb5;rw[hD,hss,hnn0];exact hb5
    ·have:=HI.out;rw[QQ (by omega)]at this;rw[hD,hss,←this];simp[Dt])
  |succ gg=>
   have hkz:(k:Int)<(l.length:Int):=by omega
   obtain⟨t,hs⟩:∃t,l[k]?=some t:=⟨_,Qf (by omega)⟩;obtain⟨a,ro,rn,rc,rfl,c1,c2,c3,c4⟩:=HT.out.load TY.out.below hs;have hd:Aside (l.drop k=t::l.drop (k+1)):=dropAt hs;have c236:∀o,Calls Qb 236 #[.slice (some ⟨g,0,none⟩) n cap,encStr t.1] (wr.alloc o) λe w'=>e= .returned (.bool (hasSt ss t.1))∧Below (wr.alloc o).heap.size (wr.alloc o) w':=λo=>
    H2.out _ _ ss t.1 (TY.out.alloc o).own hsn (by omega) ⟨λe=>by simp at e,λe=>absurd e hsn⟩
   have E3:∀o,(wr.alloc o).cell? ⟨w2.heap.size,0,none⟩=some (.slice (some ⟨g,0,none⟩) n cap):=λo=>cellOne (TY.out.alloc o).g
   have C4:Aside (Rep w (Gh.base G) (.slice t.2.2.1 [] (Al t.2.2.2)) (.slice ro rn rc)):=c4;clear c4 hs
   go_wp2_with fail
   refine(c236 _).mono ?_;rintro e w5 ⟨rfl,hb5⟩;generalize ho:Obj.cells #[encStr t.1,encStr t.2.1,.slice ro rn rc] 97 (0,0)=ob at *;have hsz5:=hb5.size;have hsz6:(wr.alloc ob).heap.size=wr.heap.size+1:=QH _;have T5:Aside (TakeIn w w2.heap.size w.heap.size (w2.heap.size+1) (w.heap.size+1) l (some a) c w5 (.slice (some ⟨g,0,none⟩) n cap) ss):=
    (TY.out.alloc ob).kept (CZ hb5 (Qi _) none hsz5) (λ_ _ _ _ _ h=>by cases h) (λ_ h=>by cases h)
   have hrow5:=(hrow.alloc ob).kept (CZ hb5 (Qi _) none hsz5) (own_em _);have F0:w5.heap[wr.heap.size]?=some ob:=by rw[hb5.block _ (by omega)];exact heap_alloc_new _ _
   subst ho;have F1:w5.cell? ⟨wr.heap.size,0,none⟩=some (encStr t.1):=by simp[World.cell?,F0]
   have F2:w5.cell? ⟨wr.heap.size,1,none⟩=some (encStr t.2.1):=by simp[World.cell?,F0]
   have F3:w5.cell? ⟨wr.heap.size,2,none⟩=some (.slice ro rn rc):=by simp[World.cell?,F0]
   clear c236 E3 hb5 F0;cases hb:hasSt ss t.1 with
   |true=>
    have hstep:Aside (Dt (l.drop k) ss=Dt (l.drop (k+1)) ss):=by show _=_;rw[hd.out,leftT_cons,if_pos hb]
    clear hb
    go_wp2_with fail
    go_roundg gg
    case measure=>omega
    case rel=>exact⟨k+1,ps,by omega,by first|rfl|simp,by omega,by show _=_;rw[←HI.out,hstep.out],hrow5,hnn,HR,T5⟩
   |false=>
    have hstep:Aside (Dt (l.drop k) ss=t::Dt (l.drop (k+1)) ss):=by show _=_;rw[hd.out,leftT_cons,if_neg (by rw[hb];decide)]
    clear hb
    go_wp2_with (at_builtin;refine wpList_append_own _ rfl _ _ 53 rfl w.heap.size 97 i0 (.agg #[.string ByteArray.empty,.string ByteArray.empty,.slice none 0 0]) 3 56 underlying53 hi hz0 hz1 hz2 rfl (by decide) _ _ _ rfl (hrow5.alloc _) ⟨w5.heap.size,0,none⟩ 1 1 [encStr t.1,encStr t.2.1,.slice ro rn rc] rfl rfl (cell3_new _ _ _ _ _) (λx hx=>by simp at hx;rcases hx with rfl|rfl|rfl<;>rfl) (by unfold maxLen;omega) (by omega) (by simp;omega) ?_;intro v' w6 hown' hgrow6 hnil6)
    have hsz7:(w5.alloc (Obj.cells #[encStr t.1,encStr t.2.1,.slice ro rn rc] 97 (0,0))).heap.size=w5.heap.size+1:=QH _;have T6:Aside (TakeIn w w2.heap.size w.heap.size (w2.heap.size+1) (w.heap.size+1) l (some a) c w6 (.slice (some ⟨g,0,none⟩) n cap) ss):=
     (T5.out.alloc _).kept hgrow6 (λb cs Ty hb hT=>own_ne (hrow5.alloc _) hb hT) (λj hj=>(hrow5.lt j hj).1)
    go_roundg gg
    case measure=>omega
    case rel=>exact⟨k+1,ps++[(t,.slice ro rn rc)],by omega,by first|rfl|simp,by simp;omega,by show _=_;rw[←HI.out,hstep.out];simp,by simpa[tkV]using hown',by show _↔_;rw[hnil6];simp,(by
      show ∀p∈_,_;intro p hp;rcases Qw.1 hp with h|h
      ·exact HR.out p h
      ·rw[Qk.1 h];exact C4.out),T6⟩
theorem rep_later{w wx:World}{G:Nat->Nat}{d:D}{v:Value}(h:Rep w (Gh.base G) d v)(hc:d.calm=true)(hgz:∀b,w.heap.size<=b->G b=0)(hb:Below w.heap.size w wx){G':Nat->Nat}(hG:∀b,b<w.heap.size->G b<=G' b):Rep wx (Gh.base G') d v:=
 h.calm_to hc (λp hp=>by
  have hlt:p.block<w.heap.size:=by
   rcases Ze p.block w.heap.size with h|h
   ·exact h
   ·have:=hgz _ h;simp only[Gh.base]at hp;omega
  exact hb.cell hlt) (λb=>by
  rcases Ze b w.heap.size with h|h
  ·exact hG b h
  ·show G b<=_;rw[hgz b h];exact Qh _)
theorem tks_cells{w:World}{G:Nat->Nat}{nl:Bool}{t:Id}{l:List Tk}{v:Value}(h:Rep w (Gh.base G) (.slice nl t (Av l)) v):∃ao c,v= .slice ao l.length c∧TkIn w G l ao:=by
 rcases h.slice_inv with ⟨_,h0,rfl⟩|⟨_,ad,n,c,sz,vv,rfl,hn,hc,r3,r4,r5,r6,r7,r8,r9⟩
 ·have:l=[]:=by cases l with|nil=>rfl|cons=>cases h0
  subst this;exact⟨none,0,rfl,λj s h=>by simp at h⟩
 ·rw[show(Av l).length=l.length from Qm ..]at hn;subst hn;refine⟨some ad,c,rfl,λj k hj=>?_⟩;have hlt:j<l.length:=(QD.1 hj).1;have hsz:sz=3:=(r3 (tkD k) (Qr.2 ⟨k,QA hj,rfl⟩)).symm;subst hsz;have hk:l[j]=k:=(QD.1 hj).2;have hget:∀i,i<3->(flat (Av l))[j*3+i]?=(tkD k).cells[i]?:=λi hi=>by
   rw[DP r3 (by simpa[Av]using hlt) hi];simp[Av,hk]
  have e0:=(r6 _ _ ((hget 0 (by decide)).trans rfl)).str_inv;have e1:=(r6 _ _ ((hget 1 (by decide)).trans rfl)).str_inv;have e2:=r6 _ _ ((hget 2 (by decide)).trans rfl);obtain⟨ro,rc,ev,_⟩:=e2.len_slice;rw[ev]at e2;exact⟨ad,ro,_,rc,rfl,by rw[r4 _ (by omega)];exact congrArg some e0,by rw[r4 _ (by omega)];exact congrArg some e1,by rw[r4 _ (by omega),ev],e2⟩
theorem flat_tks{w:World}{g:Gh}:∀(ps:List (Tk×Value))(_:∀p∈ps,Rep w g (.slice p.1.2.2.1 [] (Al p.1.2.2.2)) p.2)(j:Nat)(d:D),(flat (Av (ps.map (·.1))))[j]?=some d->∃v,(ps.flatMap tkV)[j]?=some v∧v.oneCell'=true∧Rep w g d v
 |[],_,j,d,h=>by simp[Av,flat]at h
 |p::ps,hp,j,d,h=>by
  have e:flat (Av ((p::ps).map (·.1)))=[D.str p.1.1,D.str p.1.2.1,D.slice p.1.2.2.1 [] (Al p.1.2.2.2)]++flat (Av (ps.map (·.1))):=rfl;rw[e]at h;rw[Q0];have hr:=hp p (Qy ..)
  match j,h with
  |0,h=>cases h;exact⟨_,rfl,rfl,.str _⟩
  |1,h=>cases h;exact⟨_,rfl,rfl,.str _⟩
  |2,h=>
   cases h;refine⟨p.2,rfl,?_,hr⟩;obtain⟨_,_,ev,_⟩:=hr.len_slice;rw[ev];rfl
  |j+3,h=>exact flat_tks ps (λq hq=>hp q (QM _ hq)) j d h
theorem own_tks{w:World}{B e:Nat}{lv:Value}{ps:List (Tk×Value)}{g:Gh}(h:w.ownsRow B e 3 lv ps.length (ps.flatMap tkV))(hnil:lv= .slice none 0 0↔ps=[])(hp:∀p∈ps,Rep w g (.slice p.1.2.2.1 [] (Al p.1.2.2.2)) p.2)(hG:∀b,lv.ownBlock=some b->ps.length*3<=g.G b):Rep w g (.slice (decide (ps.map (·.1)=[])) [] (Av (ps.map (·.1)))) lv:=by
 rcases h.2 with ⟨h0,hz⟩|⟨b,c,cur,hv,_,_,hnc,_⟩
 ·have:=hnil.1 h0;subst this;subst h0;exact .nils _
 ·have hne:ps≠[]:=λe=>by rw[hnil.2 e]at hv;cases hv
  have hb:=hG b (by rw[hv];rfl);rw[decide_eq_false (by simpa using hne)];have hown:=h;subst hv;refine .slice [] _ ⟨b,0,none⟩ ps.length c 3 (λj=>(ps.flatMap tkV).getD j .nilFunc) (by simp[Av]) hnc (λd hd=>?_) (λj hj=>?_) (λj hj=>?_) (λj d hd=>?_) (λ_=>by simp only;omega) (λh=>absurd rfl h) (λd hd=>?_)
  ·obtain⟨s,_,rfl⟩:=Qr.1 hd;rfl
  ·have hj':j<(ps.flatMap tkV).length:=by rw[h.1];exact hj
   exact hown.cells rfl j _ (by simp only[QK];rw[Qf hj'];rfl)
  ·have hj2:j<(flat (Av (ps.map (·.1)))).length:=by
    rw[BQ (sz:=3) (λd hd=>by obtain⟨s,_,rfl⟩:=Qr.1 hd;rfl)];simpa[Av]using hj
   obtain⟨v,hv1,hv2,_⟩:=flat_tks ps hp j _ (Qf hj2);simp only[QK,hv1,QO];exact hv2
  ·obtain⟨v,hv1,_,hv3⟩:=flat_tks ps hp j d hd;simp only[QK,hv1,QO];exact hv3
  ·obtain⟨s,_,rfl⟩:=Qr.1 hd;rfl
theorem restB_len(s top:Bs):(CL s top).length<=s.length:=by
 unfold CL;split
 ·exact Qi _
 ·split
  ·split<;>(simp only[Qx];omega)
  ·exact Qh _
def srtB(l:List Bs):List Bs:=l.mergeSort λx y=>decide (x<=y)
def chB(top:Bs)(l:List Bs):List Bs:=Lib.compact (srtB (Fu top l))
def mk134(p:Bs×Bool×List Bs):List D:=[.str p.1,.slice p.2.1 [] (AB p.2.2)]
theorem strsD_inj{a b:List Bs}(h:AB a=AB b):a=b:=by
 unfold AB at h;exact List.map_inj_right (λx y e=>by cases e;rfl) |>.1 h
theorem mk134_inj(x y)(h:mk134 x=mk134 y):x=y:=by
 obtain⟨a,b,c⟩:=x;obtain⟨a',b',c'⟩:=y;simp only[mk134,Zf,D.str.injEq,D.slice.injEq,true_and,and_true]at h;obtain⟨rfl,rfl,h⟩:=h;rw[strsD_inj h]
def Ee:List D->Option D:=FX mk134 (λp=>p.2.2.length<=1000∧∀s∈p.2.2,s.length<=1000000) λp=> .slice (decide (Fu p.1 p.2.2=[])) [] (AB (chB p.1 p.2.2))
theorem G134_eq{top:Bs}{nl:Bool}{l:List Bs}(h:l.length<=1000)(hs:∀s∈l,s.length<=1000000):Ee [.str top,.slice nl [] (AB l)]=some (.slice (decide (Fu top l=[])) [] (AB (chB top l))):=
 BA (mk:=mk134) (a:=(top,nl,l)) mk134_inj ⟨h,hs⟩
theorem ok134:(Ac Ee).ok Qb 134:=by
 refine model_ok ⟨_,func134,by kernel_rfl,by kernel_rfl⟩ λds r hF vs w G hl hrep hgz=>⟨?_,?_⟩
 ·obtain⟨p,_,_,rfl⟩:=F6 hF;rfl
 ·obtain⟨⟨top,nl,l⟩,⟨hlen,hs⟩,rfl,rfl⟩:=F6 hF;simp only at hlen hs
  match vs,hl with
  |[v0,v1],_=>
   have e0:=(hrep 0 _ v0 rfl rfl).str_inv;subst e0;obtain⟨ao,c,rfl,hcell⟩:=strs_cells (hrep 1 _ v1 rfl rfl);refine(w134 w top l ao c hlen hcell (λs hsm w=>?_)).mono ?_
   ·refine(plain_calls ko238 (R238_eq s top (hs s hsm) (restB_len s top)) rfl w).mono ?_;rintro e w' ⟨v,g',rfl,hb,hR⟩;refine⟨?_,hb⟩;obtain⟨us,rfl,hul,hu⟩:=hR.tup_inv
    match us,hul with
    |[u0,u1],_=>
     rw[(hu 0 _ u0 rfl rfl).str_inv,(hu 1 _ u1 rfl rfl).bool_inv]
   ·rintro e w' ⟨v,rfl,hb,⟨rfl,hk⟩|⟨hk,g,cap,rfl,hg1,hg2,hown⟩⟩
    ·refine⟨_,G,rfl,hb,λb h=>hgz b (QN hb.size h),λ_ _=>rfl,?_⟩;have e:chB top l=[]:=by unfold chB srtB;rw[hk,List.mergeSort_nil];rfl
     rw[e,decide_eq_true hk];exact .nils _
    ·refine⟨_,λb=>if b<w.heap.size then G b else if b=g then(chB top l).length else 0,rfl,hb,λb h=>?_,λb h=>if_pos h,?_⟩
     ·show(if _ then _ else _)=_;rw[if_neg (by have:=hb.size;omega),if_neg (by omega)]
     ·rw[decide_eq_false hk];exact own_strs hown (by simp only[Gh.base];rw[if_neg (by omega),if_pos trivial];exact Qi _)
def C_(l:List Tk)(s:Bs):List Bs:=srtB (Eb l l.length s)
def mk131(p:Bool×List Tk×Bs):List D:=[.agg [.slice p.1 [] (Av p.2.1)],.str p.2.2]
theorem mk131_inj(x y)(h:mk131 x=mk131 y):x=y:=by
 obtain⟨a,b,c⟩:=x;obtain⟨a',b',c'⟩:=y;simp only[mk131,Zf,D.str.injEq,D.slice.injEq,D.agg.injEq,true_and,and_true]at h;obtain⟨⟨rfl,h⟩,rfl⟩:=h;rw[tksD_inj h]
def res131(p:Bool×List Tk×Bs):D:=if AW p.2.1 p.2.2=false then .tup [.agg [.slice p.1 [] (Av p.2.1)],.slice true [] (AB []),.int .i64 6]
 else .tup [.agg [.slice (decide (Dt p.2.1 (C_ p.2.1 p.2.2)=[])) [] (Av (Dt p.2.1 (C_ p.2.1 p.2.2)))],.slice false [] (AB (C_ p.2.1 p.2.2)),.int .i64 0]
def DW:List D->Option D:=FX mk131 (λp=>p.2.1.length<=900∧∃r,TreeT p.2.1 r) res131
theorem G131_no{nl:Bool}{l:List Tk}{s:Bs}{r:Bs->Nat}(h:l.length<=900)(hr:TreeT l r)(hf:AW l s=false):DW [.agg [.slice nl [] (Av l)],.str s]=some (.tup [.agg [.slice nl [] (Av l)],.slice true [] (AB []),.int .i64 6]):=by
 have:=BA (mk:=mk131) (ok:=λp=>p.2.1.length<=900∧∃r,TreeT p.2.1 r) (res:=res131) (a:=(nl,l,s)) mk131_inj ⟨h,r,hr⟩;rw[show res131 (nl,l,s)=_ from if_pos hf]at this;exact this
theorem G131_yes{nl:Bool}{l:List Tk}{s:Bs}{r:Bs->Nat}(h:l.length<=900)(hr:TreeT l r)(hf:AW l s=true):DW [.agg [.slice nl [] (Av l)],.str s]=some (.tup [.agg [.slice (decide (Dt l (C_ l s)=[])) [] (Av (Dt l (C_ l s)))],.slice false [] (AB (C_ l s)),.int .i64 0]):=by
 have:=BA (mk:=mk131) (ok:=λp=>p.2.1.length<=900∧∃r,TreeT p.2.1 r) (res:=res131) (a:=(nl,l,s)) mk131_inj ⟨h,r,hr⟩;rw[show res131 (nl,l,s)=_ from if_neg (by rw[hf];decide)]at this;exact this
theorem ok131:(Ac DW).ok Qb 131:=by
 refine model_ok ⟨_,func131,by kernel_rfl,by kernel_rfl⟩ λds r hF vs w G hl hrep hgz=>⟨?_,?_⟩
 ·obtain⟨p,_,_,rfl⟩:=F6 hF;unfold res131;split<;>rfl
 ·obtain⟨⟨nl,l,s⟩,⟨hlen,rk,hT⟩,rfl,rfl⟩:=F6 hF;simp only at hlen hT
  match vs,hl with
  |[v0,v1],_=>
   have e1:=(hrep 1 _ v1 rfl rfl).str_inv;subst e1;have hr0:=hrep 0 _ v0 rfl rfl;obtain⟨us,rfl,hul,hu1,hu⟩:=A1.ofAgg hr0
   match us,hul with
   |[u0],_=>
    have hr1:=hu 0 _ u0 rfl rfl;obtain⟨ao,c,rfl,hin⟩:=tks_cells hr1;have h93:∀wx,Below w.heap.size w wx->Calls Qb 93 #[.agg #[.slice ao l.length c],encStr s] wx λe w'=>e= .returned (.tuple #[.int .i64 (bsE l s:Int),.bool (AW l s)])∧Below wx.heap.size wx w':=λwx hb=>by
     refine(ok_calls (vs:=[.agg #[.slice ao l.length c],encStr s]) (G:=G) ok93 (F93_eq (nl:=nl) (t:=[]) (l:=l) (s:=s) (by omega)) rfl rfl rfl (λj d v hd hv=>?_) (λb h=>hgz b (QN hb.size h))).mono ?_
     ·match j,hd,hv with
      |0,hd,hv=>cases hd;cases hv;exact rep_later hr0 rfl hgz hb (λ_ _=>Qi _)
      |1,hd,hv=>cases hd;cases hv;exact .str _
     ·rintro e w' ⟨v,g',rfl,hb',hR⟩;refine⟨?_,hb'⟩;obtain⟨us,rfl,hul,hu⟩:=hR.tup_inv
      match us,hul with
      |[u0,u1],_=>rw[(hu 0 _ u0 rfl rfl).int_inv,(hu 1 _ u1 rfl rfl).bool_inv]
    cases hf:AW l s with
    |false=>
     rw[hf]at h93;refine(w131n w l ao c s _ h93).mono ?_;rintro e w' ⟨rfl,hb⟩;refine⟨_,G,rfl,hb,λb h=>hgz b (QN hb.size h),λ_ _=>rfl,?_⟩;rw[show res131 (nl,l,s)=_ from if_pos hf];refine .tup _ [_,_,_] rfl (λj d v hd hv=>?_)
     match j,hd,hv with
     |0,hd,hv=>cases hd;cases hv;exact rep_later hr0 rfl hgz hb (λ_ _=>Qi _)
     |1,hd,hv=>cases hd;cases hv;exact .nils _
     |2,hd,hv=>cases hd;cases hv;exact .int _ _
    |true=>
     rw[hf]at h93;have h236:∀(wx:World)(v:Value)(ys:List Bs)(n:Bs),wx.ownsRow w.heap.size 9 1 v ys.length (ys.map encStr)->ys≠[]->ys.length<=1000->(v= .slice none 0 0↔ys=[])->Calls Qb 236 #[v,encStr n] wx λe w'=>e= .returned (.bool (hasSt ys n))∧Below wx.heap.size wx w':=λwx v ys n ho hne hle hnil=>by
      obtain⟨g,cap,rfl,hg1,hg2,_⟩:=Lib.holds_of_ownsRow ho (λe=>hne (hnil.1 e));refine(ok_calls (vs:=[.slice (some ⟨g,0,none⟩) ys.length cap,encStr n]) (G:=λb=>if b=g then ys.length else 0) ko236 (R236_eq (nl:=false) (l:=ys) n (by omega)) rfl rfl rfl (λj d v hd hv=>?_) (λb h=>if_neg (by omega))).mono ?_
      ·match j,hd,hv with
       |0,hd,hv=>cases hd;cases hv;exact own_strs ho (by simp[Gh.base])
       |1,hd,hv=>cases hd;cases hv;exact .str _
      ·rintro e w' ⟨v,g',rfl,hb',hR⟩;exact⟨by rw[hR.bool_inv],hb'⟩
     refine(w131y w G l ao c s _ rk hlen hin hT h93 h236).mono ?_;rintro e w' ⟨gv,lv,ps,rfl,hb,hog,hgn,hol,hln,hps,hRp⟩;have hl2:(C_ l s).length=(Eb l l.length s).length:=Qo _;rw[←hl2]at hog;obtain⟨gb,cap,rfl,hg1,hg2,_⟩:=Lib.holds_of_ownsRow hog hgn;have hlt:=hol.lt;rw[show res131 (nl,l,s)=_ from if_neg (show ¬AW l s=false by rw[hf];decide)];have hne:lv.ownBlock≠some gb:=λe=>by
      rcases hog.2 with ⟨h0,_⟩|⟨g',cap',cur,hv,_,hh,_⟩
      ·cases h0
      ·cases hv;exact own_ne hol hh (by decide) e.symm
     have hsz:=hb.size
     let G':Nat->Nat:=λb=>if b<w.heap.size then G b else if b=gb then(C_ l s).length else if some b=lv.ownBlock then ps.length*3 else 0
     have hG1:∀b,b<w.heap.size->G' b=G b:=λb h=>if_pos h
     refine⟨_,G',rfl,hb,λb h=>?_,hG1,?_⟩
     ·show(if _ then _ else _)=_;rw[if_neg (by omega),if_neg (by omega),if_neg (λe=>by have:=(hlt b e.symm).2;omega)]
     ·refine .tup _ [_,_,_] rfl (λj d v hd hv=>?_)
      match j,hd,hv with
      |0,hd,hv=>
       cases hd;cases hv;refine .agg _ [lv] rfl (λv hv=>?_) (λj d v hd hv=>?_)
       ·rw[Qk.1 hv];rcases hol.2 with ⟨h,_⟩|⟨_,_,_,h,_⟩<;>rw[h]<;>rfl
       ·match j,hd,hv with
        |0,hd,hv=>
         cases hd;cases hv;have:=own_tks (g:=Gh.base G') hol hln (λp hp=>rep_later (hRp p hp) rfl hgz hb (λb h=>Nat.le_of_eq (hG1 b h).symm)) (λb hbk=>by
          show _<=(if _ then _ else _);rw[if_neg (by have:=(hlt b hbk).1;omega),if_neg (λe=>hne (by rw[hbk,e])),if_pos hbk.symm];exact Qi _)
         rw[hps]at this;exact this
      |1,hd,hv=>
       cases hd;cases hv;exact own_strs hog (by
        show _<=(if _ then _ else _);rw[if_neg (by omega),if_pos rfl];exact Qi _)
      |2,hd,hv=>cases hd;cases hv;exact .int _ _
end Go.Vd
namespace Go.Vd
open Go.Proofs Go.RowKit
theorem chk_mem{a:Ak}:∀{l:Bs} {b:Ak},(chkR a b l).1=0->∀c∈l,BO a (c.toNat:Int)=0
 |[],b,h,c,hc=>by cases hc
 |x::r,b,h,c,hc=>by
  unfold chkR at h;split at h
  ·rename_i h1;exact absurd h h1
  ·rename_i h1;rcases Qd.1 hc with rfl|hc
   ·exact Decidable.not_not.1 h1
   ·exact chk_mem h c hc
theorem check_field{a:Ak}(h:B8 a=0){c:UInt8}(hc:c∈CA a.op):BO a (c.toNat:Int)=0:=by
 unfold B8 at h;split at h
 ·cases h
 ·split at h
  ·rename_i h1;exact absurd h h1
  ·rename_i h1;exact chk_mem (Decidable.not_not.1 h1) c hc
theorem check_path{a:Ak}(h:B8 a=0)(hc:(112:UInt8)∈CA a.op):AV a.pa=0:=check_field h hc
theorem check_other{a:Ak}(h:B8 a=0)(hc:(113:UInt8)∈CA a.op):AV a.ot=0:=check_field h hc
theorem forms_112:∀op:Nat,9<=op->op<=18->(112:UInt8)∈CA (op:Int):=by
 intro op h1 h2;have:∀op,op<19->9<=op->(112:UInt8)∈CA (op:Nat):=by decide+kernel
 exact this op (by omega) h1
theorem path_of{a:Ak}(h:B8 a=0)(h1:9<=a.op)(h2:a.op<=18):AV a.pa=0:=by
 have:=forms_112 a.op.toNat (by omega) (by omega);rw[QX (by omega)]at this;exact check_path h this
theorem other_of{a:Ak}(h:B8 a=0)(h1:a.op=18):AV a.ot=0:=by
 refine check_other h ?_;rw[h1];decide+kernel
theorem route_len{s:Bs}(h:AV s=0):s.length<=64:=by
 unfold AV at h;split at h
 ·cases h
 ·omega
theorem Ei{y:Ry}(h:ryE y=0):ryT y≠[]:=by
 unfold ryT;rw[if_pos h];intro e;have h2:=ryW_ne y;cases y<;>simp[ryW,spJ,Lib.join]at e<;>(try split at e)<;>simp[]at e
def CleanB(s:Bs):Prop:=∀c∈s,c≠32∧c≠44
theorem clean_at{s:Bs}(h:∀j,j<s.length->at' s j≠32∧at' s j≠44):CleanB s:=λc hc=>by
 obtain⟨j,hj,rfl⟩:=QY hc;have:=h j hj;unfold at' at this;rw[Qv,Qf hj]at this;simp only[QO]at this;exact⟨λe=>by rw[e]at this;exact this.1 rfl,λe=>by rw[e]at this;exact this.2 rfl⟩
theorem clean_has{s:Bs}(h:CleanB s):hasB1 s 32=false∧hasB1 s 44=false:=by
 constructor<;>(unfold hasB1;rw[Q2];intro c hc;simp only[beq_iff_eq])
 ·exact(h c hc).1
 ·exact(h c hc).2
theorem nmB_of{s:Bs}(h:CleanB s)(h1:s≠[])(h2:s≠[45])(h3:s.length<=64):nmB s=true:=by
 unfold nmB;obtain⟨a,b⟩:=clean_has h;simp[h1,h2,h3,a,b]
theorem next_clean{s:Bs}{i:Nat}(hi:i<s.length)(h:CQ (Cr s i).1=true):1<=(Cr s i).2∧∀j,i<=j->j<i+(Cr s i).2->at' s j≠32∧at' s j≠44:=by
 have b0:=at_lt s i;have c1:=@Ce s (i+1);have c2:=@Ce s (i+2);have c3:=@Ce s (i+3);have hcase:∀j,j<i+4->i<=j->j=i∨j=i+1∨j=i+2∨j=i+3:=by omega
 unfold Cr at h ⊢;simp only at h ⊢;split at h
 ·rename_i h1;rw[if_pos h1];refine⟨Qi _,λj h2 h3=>?_⟩;obtain rfl:j=i:=by omega
  unfold CQ at h;simp only[Bool.or_eq_true,decide_eq_true_eq]at h;omega
 ·rename_i h0;rw[if_neg h0];split at h
  ·rename_i h1;rw[if_pos h1];refine⟨by simp only;omega,λj h2 h3=>?_⟩;have:=c1.1 h1.2.2.1;rcases hcase j (by simp only at h3;omega) h2 with rfl|rfl|rfl|rfl<;>first|omega|(simp only at h3;omega)
  ·rename_i h1;rw[if_neg h1];split at h
   ·rename_i h2;rw[if_pos h2];have:=c1.1 h2.2.2.1;have:=c2.1 h2.2.2.2.1;refine⟨by simp only;omega,λj h4 h3=>?_⟩;rcases hcase j (by simp only at h3;omega) h4 with rfl|rfl|rfl|rfl<;>first|omega|(simp only at h3;omega)
   ·rename_i h2;rw[if_neg h2];split at h
    ·rename_i h3;rw[if_pos h3];have:=c1.1 h3.2.2.1;have:=c2.1 h3.2.2.2.1;have:=c3.1 h3.2.2.2.2.1;refine⟨by simp only;omega,λj h4 h5=>?_⟩;rcases hcase j (by simp only at h5;omega) h4 with rfl|rfl|rfl|rfl<;>first|omega|(simp only at h5;omega)
    ·cases h
theorem signs_clean{s:Bs}:∀(f p n:Nat),s.length<=p+f->CP s f p n≠4->∀j,p<=j->j<s.length->at' s j≠32∧at' s j≠44
 |0,p,n,hf,h,j,h1,h2=>by omega
 |f+1,p,n,hf,h,j,h1,h2=>by
  unfold CP at h;rw[if_pos (by omega)]at h;split at h
  ·rename_i h3;obtain⟨hw,hc⟩:=next_clean (by omega) h3;by_cases hj:j<p+(Cr s p).2
   ·exact hc j h1 hj
   ·exact signs_clean f _ _ (by omega) h j (by omega) h2
  ·exact absurd rfl h
theorem part_clean{s:Bs}(h:D_ s=0):CleanB s∧s≠[]∧s≠[45]:=by
 unfold D_ at h;split at h
 ·cases h
 ·rename_i h1;exact⟨clean_at λj hj=>signs_clean s.length 0 0 (by omega) (by rw[h];decide) j (Qh _) hj,λe=>h1 (.inl e),λe=>h1 (.inr (.inr (.inr e)))⟩
theorem grade_parts:∀{l:List Bs} {w:Bool},Dz w l=some false->∀p∈l,D_ p=0
 |[],w,h,p,hp=>by cases hp
 |x::r,w,h,p,hp=>by
  unfold Dz at h;split at h
  ·cases h
  ·rename_i h1;have h5:∀{w:Bool} {l:List Bs},Dz w l=some false->w=false:=by
    intro w l;induction l generalizing w with
    |nil=>intro h;simpa[Dz]using h
    |cons y t ih=>
     intro h;unfold Dz at h;split at h
     ·cases h
     ·have:=ih h;rw[QU]at this;exact this.1
   rcases Qd.1 hp with rfl|hp
   ·have:=h5 h;rw[QU,decide_eq_false_iff_not]at this;rcases partE_cases p with e|e|e
    ·exact absurd e h1
    ·exact absurd e this.2
    ·exact e
   ·exact grade_parts h p hp
theorem route_parts{s:Bs}(h:AV s=0):∀p∈splitB s,D_ p=0:=by
 unfold AV at h;split at h
 ·cases h
 ·unfold FT at h;split at h
  ·cases h
  ·rename_i w hw;cases w with
   |true=>simp at h
   |false=>exact grade_parts hw
theorem split_mid:∀(a b:Bs),splitB (a++47::b)=splitB a++splitB b
 |[],b=>by
  show splitB (47::b)=_
  conv=>lhs;unfold splitB
  rfl
 |c::r,b=>by
  have ih:=split_mid r b;show splitB (c::(r++47::b))=_
  conv=>lhs;unfold splitB
  conv=>rhs;arg 1;unfold splitB
  rw[ih];split
  ·rfl
  ·cases hr:splitB r with
   |nil=>exact absurd hr (splitB_ne r)
   |cons h t=>rfl
theorem split_cut:∀(s:Bs),∃t,splitB s=(C7 s 47).1::t∧((C7 s 47).2.2=true->(C7 s 47).1.length+1<=s.length)∧((C7 s 47).2.2=false->(C7 s 47).1=s)
 |[]=>⟨[],rfl,λh=>by simp[C7,Lib.indexByte]at h,λ_=>rfl⟩
 |c::r=>by
  obtain⟨t,h1,h2,h3⟩:=split_cut r;by_cases hc:c=47
  ·subst hc;have e:Lib.indexByte (47::r) 47=0:=by unfold Lib.indexByte;simp
   refine⟨splitB r,?_,?_,?_⟩
   ·unfold C7;rw[e];conv=>lhs;unfold splitB
    rfl
   ·intro _;unfold C7;rw[e];simp
   ·intro h;unfold C7 at h;rw[e]at h;simp at h
  ·have hcb:(c==47)=false:=by simpa using hc
   unfold splitB;rw[if_neg hc,h1];refine⟨t,?_⟩;have e:Lib.indexByte (c::r) 47=if Lib.indexByte r 47==-1 then-1 else Lib.indexByte r 47+1:=by
    conv=>lhs;unfold Lib.indexByte
    rw[hcb];rfl
   rcases ixB_bd r 47 with e1|⟨e1,e2⟩
   ·have e3:C7 r 47=(r,[],false):=by unfold C7;rw[e1];rfl
    have e4:C7 (c::r) 47=(c::r,[],false):=by unfold C7;rw[e,e1];rfl
    rw[e3,e4];exact⟨rfl,λh=>(by cases h),λ_=>rfl⟩
   ·have e0:(Lib.indexByte r 47==-1)=false:=by rw[beq_eq_false_iff_ne];omega
    have e5:Lib.indexByte (c::r) 47=Lib.indexByte r 47+1:=by rw[e,e0];rfl
    generalize hq:Lib.indexByte r 47=q at *;have e6:(q+1).toNat=q.toNat+1:=by omega
    have e3:C7 r 47=(r.take q.toNat,r.drop (q.toNat+1),true):=by unfold C7;rw[hq,if_neg (by omega)]
    have e4:C7 (c::r) 47=(c::r.take q.toNat,r.drop (q.toNat+1),true):=by unfold C7;rw[e5,if_neg (by omega),e6];rfl
    rw[e3,e4];refine⟨rfl,λ_=>?_,λh=>(by cases h)⟩;simp only[Qc,Qq];omega
theorem below_mid{s top:Bs}(h:B9 s top=true):CL s top=s∨s=top++47::CL s top:=by
 unfold B9 at h;unfold CL;by_cases ht:top=[]
 ·rw[if_pos ht];exact .inl rfl
 ·rw[if_neg ht]at h ⊢;rw[Qz]at h;rw[if_pos h.1,if_pos h.2];right;have h1:s.take top.length=top:=by simpa[BP]using h.1
  have h2:(s.drop top.length).take 1=[47]:=by simpa[BP]using h.2
  have e1:s=top++s.drop top.length:=by
   conv=>lhs;rw[←QR top.length s,h1]
  have e2:s.drop top.length=47::(s.drop top.length).drop 1:=by
   conv=>lhs;rw[←QR 1 (s.drop top.length),h2]
   rfl
  conv=>lhs;rw[e1,e2]
theorem child_name{s top:Bs}(hr:AV s=0)(h:(B0 s top).2=true):nmB (B0 s top).1=true:=by
 have hlen:=route_len hr;have hp:=route_parts hr;have hb:B9 s top=true:=by
  unfold B0 at h;split at h
  ·cases h
  ·rename_i h1;simpa using h1
 have hm:=below_mid hb;have hl:=restB_len s top;obtain⟨t,e1,e2,e3⟩:=split_cut (CL s top);have hmem:(C7 (CL s top) 47).1∈splitB s:=by
  rcases hm with e|e
  ·rw[e]at e1 ⊢;rw[e1];exact Qy ..
  ·rw[e,split_mid,←e,e1];exact Q7 _ (Qy ..)
 obtain⟨c1,c2,c3⟩:=part_clean (hp _ hmem);unfold B0;rw[if_neg (by rw[hb];decide)];split
 ·rename_i h1;have:=e2 h1;refine nmB_of (λc hc=>?_) (by simp) (λe=>?_) (by simp;omega)
  ·rcases Qw.1 hc with h|h
   ·exact c1 c h
   ·rw[Qk.1 h];decide
  ·have:=congrArg List.getLast? e;simp at this
 ·rename_i h1;have:=e3 (by simpa using h1);rw[this]at c1 c2 c3;exact nmB_of c1 c2 c3 (show(CL s top).length<=64 by omega)
theorem name_clean{s:Bs}:∀(f p:Nat),s.length<=p+f->EN s f p=true->∀j,p<=j->j<s.length->Ci (at' s j)=true
 |0,p,hf,h,j,h1,h2=>by omega
 |f+1,p,hf,h,j,h1,h2=>by
  unfold EN at h;rw[if_pos (by omega),Qz]at h;by_cases e:j=p
  ·rw[e];exact h.1
  ·exact name_clean f (p+1) (by omega) h.2 j (by omega) h2
theorem name_nm{s:Bs}(h:BC s=true):nmB s=true:=by
 unfold BC at h;simp only[Qz,decide_eq_true_eq]at h;have hc:∀j,j<s.length->Ci (at' s j)=true:=λj hj=>name_clean s.length 0 (by omega) h.2 j (Qh _) hj
 have hb:∀j,j<s.length->at' s j≠32∧at' s j≠44∧at' s j≠45:=λj hj=>by
  have:=hc j hj;unfold Ci at this;simp only[Bool.or_eq_true,decide_eq_true_eq]at this;omega
 refine nmB_of (clean_at λj hj=>⟨(hb j hj).1,(hb j hj).2.1⟩) (λe=>by rw[e]at h;simp at h) (λe=>?_) (by omega);have:=(hb 0 (by omega)).2.2;rw[e]at this;exact this rfl
theorem compact_mem{zs:List Bs}{x:Bs}(h:x∈Lib.compact zs):x∈zs:=by
 unfold Lib.compact Lib.compactUpTo at h;obtain⟨j,hj,rfl⟩:=Qr.1 h;have h1:=List.mem_range.1 (List.mem_filter.1 hj).1;rw[getElem!_pos _ _ (by simpa using h1)];simp
theorem srt_mem{l:List Bs}{x:Bs}(h:x∈srtB l):x∈l:=(List.mergeSort_perm l _).mem_iff.1 h
theorem ch_mem{top:Bs}{l:List Bs}{x:Bs}(h:x∈chB top l):∃s∈l,(B0 s top).2=true∧(B0 s top).1=x:=by
 have:=srt_mem (compact_mem h);unfold Fu at this;obtain⟨s,hs,e⟩:=List.mem_filterMap.1 this;split at e
 ·rename_i h1;exact⟨s,hs,h1,by simpa using e⟩
 ·cases e
theorem ch_len(top:Bs)(l:List Bs):(chB top l).length<=l.length:=by
 unfold chB;refine QN (Lib.compact_length_le _) ?_;unfold srtB;rw[Qo];exact QP _ _
theorem paths_route{l:List Bs}{s:Bs}(h:s∈BN l):AV s=0:=by
 unfold BN at h;obtain⟨x,hx,e⟩:=List.mem_filterMap.1 h;split at e
 ·rename_i hc;simp only[Qg]at e;subst e;obtain⟨h1,h2⟩:=hc;unfold Dd at h1 h2 ⊢;split at h1
  ·cases h1
  ·rename_i h3;rw[if_neg h3]at h2 ⊢;have h4:=Decidable.not_not.1 h3;unfold DK at h4;rw[if_pos h2]at h4;split at h4
   ·rename_i h5;exact h5.2
   ·cases h4
 ·cases e
theorem paths_len(l:List Bs):(BN l).length<=l.length:=QP _ _
theorem ch_names(top:Bs)(l:List Bs):(((chB top (BN l)).take 64).any λs=>!nmB s)=false:=by
 rw[Q2];intro x hx;obtain⟨s,hs,h1,rfl⟩:=ch_mem (QE hx);rw[child_name (paths_route hs) h1];decide
theorem gradeE_bd(l:List Bs):0<=FT l∧FT l<=99:=by
 unfold FT;split
 ·decide
 ·repeat' split
  all_goals decide
theorem routeE_bd(s:Bs):0<=AV s∧AV s<=99:=by
 unfold AV;split
 ·decide
 ·exact gradeE_bd _
theorem fineE_bd(b:Bool):0<=EU b∧EU b<=99:=by cases b<;>decide
theorem ruleE_bd(r:Rl)(l:List Rl):0<=Fl r l∧Fl r l<=99:=by
 unfold Fl;have:=routeE_bd r.1
 repeat' split
 all_goals omega
theorem rulesE_bd(l:List Rl):∀f j,0<=Db l f j∧Db l f j<=99
 |0,j=>by unfold Db;decide
 |f+1,j=>by
  unfold Db;have:=ruleE_bd (Bl l j) (l.take j);have:=rulesE_bd l f (j+1)
  repeat' split
  all_goals omega
theorem polE_bd(l:List Rl):0<=Cq l∧Cq l<=99:=by
 unfold Cq;have:=rulesE_bd l l.length 0;split<;>omega
theorem fieldE_bd(a:Ak)(c:Int):0<=BO a c∧BO a c<=99:=by
 unfold BO;have:=routeE_bd a.pa;have:=routeE_bd a.ot;have:=polE_bd a.rs
 repeat' split
 all_goals first|exact fineE_bd _|omega
theorem chkR_bd(a:Ak):∀(l:Bs)(b:Ak),0<=(chkR a b l).1∧(chkR a b l).1<=99
 |[],b=>by unfold chkR;simp
 |c::r,b=>by
  unfold chkR;have:=fieldE_bd a (c.toNat:Int);have:=chkR_bd a r (DH b (c.toNat:Int));split<;>omega
theorem checkA_bd(a:Ak):0<=B8 a∧B8 a<=99:=by
 unfold B8;have:=chkR_bd a (CA a.op) (bareA a)
 repeat' split
 all_goals omega
theorem refA_bd(v:Vw)(a:Ak):0<=refA v a∧refA v a<=99:=by
 unfold refA;have:=checkA_bd a
 repeat' split
 all_goals omega
theorem check_zero{v:Vw}{a:Ak}(h:refA v a=0):B8 a=0:=by
 unfold refA at h;split at h
 ·rename_i h1;exact absurd h h1
 ·rename_i h1;exact Decidable.not_not.1 h1
theorem op_of{a:Ak}(h:B8 a=0)(h0:0<=a.op):1<=a.op∧a.op<=18:=by
 have hf:formW a.op≠[]:=λe=>by unfold B8 at h;rw[if_pos e]at h;cases h
 unfold formW at hf;have h1:a.op.toNat<19:=by
  rcases Ze a.op.toNat 19 with h|h
  ·exact h
  ·rw[Qv,List.getElem?_eq_none (by simpa[forms]using h)]at hf;exact absurd rfl hf
 have h2:a.op.toNat≠0:=λe=>by rw[e]at hf;exact hf rfl
 omega
theorem tokE_bd(n p:Bs)(l:List Rl):0<=FG n p l∧FG n p l<=99:=by
 unfold FG;have:=polE_bd l
 repeat' split
 all_goals omega
theorem tokE_name{n p:Bs}{l:List Rl}(h:FG n p l=0):BC n=true:=by
 unfold FG at h;split at h
 ·cases h
 ·rename_i h1;simpa using h1
theorem makeT_bd(l:List Tk)(k:Tk):((∃l',Ds l k=(some l',0))∧FG k.1 k.2.1 k.2.2.2=0∧k.2.1≠[]∧AW l k.1=false∧AW l k.2.1=true∧(Ds l k).1=some (Eg l k))∨((Ds l k).1=none∧1<=(Ds l k).2∧(Ds l k).2<=99):=by
 unfold Ds;have h:=tokE_bd k.1 k.2.1 k.2.2.2;by_cases h1:FG k.1 k.2.1 k.2.2.2≠0
 ·rw[if_pos h1];exact .inr ⟨rfl,by simp only;omega⟩
 rw[if_neg h1];by_cases h2:k.2.1=[]
 ·rw[if_pos h2];exact .inr ⟨rfl,by decide,by decide⟩
 rw[if_neg h2];by_cases h3:AW l k.1=true
 ·rw[if_pos h3];exact .inr ⟨rfl,by decide,by decide⟩
 rw[if_neg h3];by_cases h4:AW l k.2.1=false
 ·rw[if_pos h4];exact .inr ⟨rfl,by decide,by decide⟩
 rw[if_neg h4];by_cases h5:Dj k.2.2.2 (A4 l (bsE l k.2.1)).2.2.2=false
 ·rw[if_pos h5];exact .inr ⟨rfl,by decide,by decide⟩
 rw[if_neg h5];exact .inl ⟨⟨_,rfl⟩,Decidable.not_not.1 h1,h2,by simpa using h3,by simpa using h4,rfl⟩
structure InvT (l:List Tk):Prop where
 sort:CN l
 tree:∃r,TreeT l r∧r []=0
 name:∀k∈l,BC k.1=true
 par:∀k∈l,k.2.1=[]∨∃u∈l,u.1=k.2.1
theorem sort_pair{l:List Tk}(h:CN l):l.Pairwise λt u=>t.1≠u.1:=by
 rw[List.pairwise_iff_getElem];intro i j hi hj hij e;have:=h i j hij hj;unfold A4 at this;rw[Qv,Qv,Qf hi,Qf hj]at this;simp only[QO]at this;rw[e,bl_irr]at this;cases this
theorem found_mem{l:List Tk}{s:Bs}(h:AW l s=true):∃k∈l,k.1=s:=by
 unfold AW at h;rw[Qz,decide_eq_true_eq,cmpS_zero,decide_eq_true_eq]at h;exact⟨_,tkAt_mem h.1,h.2⟩
theorem found_no{l:List Tk}{s:Bs}(hs:CN l)(h:AW l s=false):∀k∈l,k.1≠s:=λk hk e=>by
 obtain⟨j,hj,rfl⟩:=QY hk;have:=(found_at hs hj).2;unfold A4 at this;rw[Qv,Qf hj]at this;simp only[QO]at this;rw[e,h]at this;cases this
theorem name_ne{s:Bs}(h:BC s=true):s≠[]:=λe=>by rw[e]at h;cases h
theorem Ff{l:List Tk}{k x:Tk}:x∈Eg l k↔x∈l∨x=k:=by
 unfold Eg;rw[Qw,Qd];constructor
 ·rintro(h|h|h)
  ·exact .inl (QE h)
  ·exact .inr h
  ·exact .inl (QV h)
 ·rintro(h|h)
  ·rw[←QR (bsE l k.1) l,Qw]at h;rcases h with h|h
   ·exact .inl h
   ·exact .inr (.inr h)
  ·exact .inr (.inl h)
theorem with_len(l:List Tk)(k:Tk):(Eg l k).length=l.length+1:=by
 unfold Eg;rw[Ql,Qc,Qq,Qx];omega
theorem inv_with{l:List Tk}{k:Tk}(h:InvT l)(h1:FG k.1 k.2.1 k.2.2.2=0)(h2:AW l k.1=false)(h3:AW l k.2.1=true):InvT (Eg l k):=by
 obtain⟨r,hr,r0⟩:=h.tree;have hn:=tokE_name h1;have hs:CN (Eg l k):=sortT_mid h.sort h2;have hno:=found_no h.sort h2;obtain⟨u,hu,hu2⟩:=found_mem h3;have hpk:k.2.1≠k.1:=λe=>hno u hu (hu2.trans e)
 refine⟨hs,⟨λs=>if s=k.1 then l.length+1 else r s,⟨λt ht=>?_,λt ht=>?_,sort_pair hs⟩,?_⟩,λt ht=>?_,λt ht=>?_⟩
 ·rcases Ff.1 ht with ht|rfl
  ·have e1:t.1≠k.1:=hno t ht;have e2:t.2.1≠k.1:=λe=>by
    rcases h.par t ht with e3|⟨x,hx,e3⟩
    ·exact name_ne hn (e.symm.trans e3)
    ·exact hno x hx (e3.trans e)
   simp only[if_neg e1,if_neg e2];exact hr.up t ht
  ·simp only[if_neg hpk,if_true];have:=hr.top u hu;rw[hu2]at this;omega
 ·rw[with_len];rcases Ff.1 ht with ht|rfl
  ·simp only[if_neg (hno t ht)];have:=hr.top t ht;omega
  ·simp
 ·show(if([]:Bs)=k.1 then _ else _)=_;rw[if_neg (λe=>name_ne hn e.symm)];exact r0
 ·rcases Ff.1 ht with ht|rfl
  ·exact h.name t ht
  ·exact hn
 ·rcases Ff.1 ht with ht|rfl
  ·rcases h.par t ht with e|⟨x,hx,e⟩
   ·exact .inl e
   ·exact .inr ⟨x,Ff.2 (.inl hx),e⟩
  ·exact .inr ⟨u,Ff.2 (.inl hu),hu2⟩
theorem inv_first:InvT [firstTk]:=by
 refine⟨λi j h1 h2=>by simp at h2;omega,⟨λs=>if s=[]then 0 else 1,⟨λt ht=>?_,λt ht=>?_,List.pairwise_singleton _ _⟩,rfl⟩,λt ht=>?_,λt ht=>?_⟩
 ·rw[Qk.1 ht];decide
 ·rw[Qk.1 ht];decide
 ·rw[Qk.1 ht];decide
 ·rw[Qk.1 ht];exact .inl rfl
theorem inv_fold:∀(ks:List Tk)(s:Bool×List Tk),InvT s.2->s.1=false->InvT (ks.foldl Bh s).2∧(ks.foldl Bh s).1=false∧(ks.foldl Bh s).2.length<=s.2.length+ks.length
 |[],s,h,h0=>⟨h,h0,Qi _⟩
 |k::ks,s,h,h0=>by
  rw[List.foldl_cons];have step:InvT (Bh s k).2∧(Bh s k).1=false∧(Bh s k).2.length<=s.2.length+1:=by
   unfold Bh;rcases makeT_bd s.2 (ownT k)with ⟨_,h1,_,h2,h3,h4⟩|⟨h1,_⟩
   ·rw[h4];exact⟨inv_with h h1 h2 h3,rfl,by rw[with_len];exact Qi _⟩
   ·rw[h1];exact⟨h,h0,Nat.le_succ _⟩
  obtain⟨a,b,c⟩:=inv_fold ks _ step.1 step.2.1;exact⟨a,b,by rw[Qc];omega⟩
theorem addE_mem{l l':List Mt}{m:Mt}(h:SortM l)(e:(Fb l m).1=some l'):∀x∈l',x∈l∨x=m:=by
 rw[addE_addR h]at e;unfold addR at e
 repeat' split at e
 all_goals first|cases e|skip
 intro x hx;rcases Qw.1 hx with h1|h1
 ·exact .inl (QE h1)
 ·rcases Qd.1 h1 with h1|h1
  ·exact .inr h1
  ·exact .inl (QV h1)
theorem addE_bd2(l:List Mt)(m:Mt):(∃l',(Fb l m).1=some l'∧(Fb l m).2=0∧l'.length=l.length+1)∨((Fb l m).1=none∧1<=(Fb l m).2∧(Fb l m).2<=99):=by
 unfold Fb;have h:=routeE_bd m.1;by_cases h1:CR m.1 m.2.1≠0
 ·rw[if_pos h1];right;refine⟨rfl,?_⟩;unfold CR at h1 ⊢;simp only
  repeat' split
  all_goals (first|omega|(rename_i a b;simp_all))
 rw[if_neg h1];by_cases h2:0<=BR l m.1
 ·rw[if_pos h2];exact .inr ⟨rfl,by decide,by decide⟩
 rw[if_neg h2];by_cases h3:En m.1 (l.map (·.1))=true
 ·rw[if_pos h3];exact .inr ⟨rfl,by decide,by decide⟩
 rw[if_neg h3];by_cases h4:4<=l.length
 ·rw[if_pos h4];exact .inr ⟨rfl,by decide,by decide⟩
 rw[if_neg h4];exact .inl ⟨_,rfl,rfl,by rw[FO,Ql];rfl⟩
structure ViewI (v:Vw):Prop where
 ok:VwOk v
 inv:InvT v.ks
 srt:SortM v.ms
 nlm:v.nlm=true->v.ms=[]
 te:1<=v.te∧v.te<=6
 kl:v.ks.length<=60
 ml:v.ms.length<=900
structure AskI (a:Ak):Prop where
 ok:AkOk a
 cap:DB a.rs
 nlr:a.nlr=true->a.rs=[]
structure KnOk (k:Kn):Prop where
 es:k.es.length<=20
 ls:k.ls.length<=20
 et:∀x∈k.es,x.2.1.length<=400
 lt:∀x∈k.ls,x.2.2.length<=1000∧∀s∈x.2.2,s.length<=1000000
def SimK(k k':Kn):Prop:=(∀q:Bs,q.head?≠some 116->CG k q=CG k' q)∧∀q,EB k q=EB k' q
structure DecOk (v:Vw) (a:Ak) (dec:Kn->Oc) (R:Kn->Nat):Prop where
 run:∀k,KnOk k->R19 DW Ee [vwD v,akD a,.agg (kwC k)]=some (.agg (ocU (dec k)))
 le:∀k,R k<=3
 less:∀k d,KnOk k->(dec k).need≠[]->R (Bj k (dec k).need (dec k).li d)<R k
 rep:∀k,KnOk k->(dec k).need=[]->(dec k).rep≠[]
 sim:∀k k',SimK k k'->dec k=dec k'
 ops:∀k,KnOk k->(dec k).ops.length<=1000
 nlen:∀k,KnOk k->(dec k).need.length<=100000
theorem Bt{v:Vw}{a:Ak}(o:Oc)(run:∀k,KnOk k->R19 DW Ee [vwD v,akD a,.agg (kwC k)]=some (.agg (ocU o)))(hn:o.need=[])(hr:o.rep≠[])(ho:o.ops.length<=1000):DecOk v a (λ_=>o) (λ_=>0):=
 ⟨run,λ_=>by decide,λk d _ h=>absurd hn h,λ_ _ _=>hr,λ_ _ _=>rfl,λ_ _=>ho,λ_ _=>by rw[hn];exact Qh _⟩
def failO(v:Vw)(e:Int):Oc:=⟨[],false,ryT (.fail e),true,[],v⟩
def EM(v:Vw)(q:Bs)(li:Bool):Oc:=⟨q,li,[],true,[],v⟩
theorem Cc{v:Vw}{e:Int}(he:1<=e∧e<=99):(failO v e).rep≠[]:=Ei (y:= .fail e) (if_pos he)
theorem oc00(v:Vw):Oc0 (oc0 v):=⟨rfl,rfl⟩
theorem w54(v:Vw)(a:Ak)(k:Kn){e:Int}(he:1<=e∧e<=99):W54 ⟨v,a,k⟩ (oc0 v) [.int .i64 e]=some (.tup [],failO v e,none):=W54_eq ⟨v,a,k⟩ (oc0 v) e (oc00 v) he
theorem dec_fail{v:Vw}{a:Ak}{e:Int}(h25:F25 [vwD v,akD a]=some (.int .i64 e))(he:1<=e∧e<=99):DecOk v a (λ_=>failO v e) (λ_=>0):=
 Bt _ (λk _=>R19_fail DW Ee v a k e (by omega) h25 _ _ (w54 v a k he)) rfl (Cc he) (Qh _)
theorem dec_sys{v:Vw}{a:Ak}(hv:ViewI v)(ha:AskI a)(h25:F25 [vwD v,akD a]=some (.int .i64 0))(h1:1<=a.op)(h8:a.op<=8):∃dec R,DecOk v a dec R:=by
 have hnil:∀o:Oc,(oc0 v).nl=true->(oc0 v).ops=[]:=λ_ _=>rfl
 rcases(by omega:a.op=1∨a.op=2∨a.op=3∨a.op=4∨a.op=5∨a.op=6∨a.op=7∨a.op=8)with h|h|h|h|h|h|h|h
 ·exact⟨_,_,Bt _ (λk _=>Bo .o1 a k h h25 _ _ (FZ ⟨v,a,k⟩ (oc0 v) (.state v.se) (λ_=>rfl) trivial trivial)) rfl (Ei (y:= .state v.se) rfl) (Qh _)⟩
 ·exact⟨_,_,Bt _ (λk _=>Bo .o2 a k h h25 _ _ (W56_eq ⟨v,a,k⟩ _ (λ_=>rfl))) rfl (Ei (y:= .done) rfl) (Qh _)⟩
 ·exact⟨_,_,Bt _ (λk _=>Bo .o3 a k h h25 _ _ (W56_eq ⟨v,a,k⟩ _ (λ_=>rfl))) rfl (Ei (y:= .done) rfl) (Qh _)⟩
 ·have ht:=hv.te;by_cases h6:6<=v.te
  ·exact⟨_,_,Bt _ (λk _=>Bo .o4 a k h h25 _ _ (W57_fail ⟨v,a,k⟩ (oc0 v) _ _ (λ_=>rfl) h6 (w54 v a k (by decide)))) rfl (Cc (by decide)) (Qh _)⟩
  ·exact⟨_,_,Bt _ (λk _=>Bo .o4 a k h h25 _ _ (W57_ok ⟨v,a,k⟩ (oc0 v) v.te (oc00 v) h6 rfl (by omega))) rfl (Ei (y:= .done) rfl) (by simp[rotO,Oc.op,oc0])⟩
 ·have hl:=hv.ml;have h45:=F45_eq (nl:=v.nlm) (t:=[]) (l:=v.ms) (m:=(a.pa,a.n,a.fl)) (by omega) hv.nlm (by have:=ha.ok.pa;simp only;omega);rcases addE_bd2 v.ms (a.pa,a.n,a.fl)with ⟨l',e1,e2,e3⟩|⟨e1,e2⟩
  ·rw[e1,e2]at h45;have hms:MsOk l':=⟨by omega,λm hm=>by
    rcases addE_mem hv.srt e1 m hm with h|h
    ·exact hv.ok.mp m h
    ·rw[h];exact ha.ok.pa⟩
   exact⟨_,_,Bt _ (λk _=>Bo .o5 a k h h25 _ _ (W58_ok ⟨v,a,k⟩ (oc0 v) false l' h45 (oc00 v) hms)) rfl (Ei (y:= .done) rfl) (by simp[mntO,msO,Oc.op,oc0])⟩
  ·rw[e1]at h45;exact⟨_,_,Bt _ (λk _=>Bo .o5 a k h h25 _ _ (W58_fail ⟨v,a,k⟩ (oc0 v) _ _ (λ_=>rfl) v.nlm v.ms _ h45 (by omega) (w54 v a k e2))) rfl (Cc e2) (Qh _)⟩
 ·have hl:=hv.ml;by_cases hf:BR v.ms a.pa<0
  ·have h127:=R127_no v.nlm v.ms a.pa (by omega) hf;exact⟨_,_,Bt _ (λk _=>Bo .o6 a k h h25 _ _ (W59_fail ⟨v,a,k⟩ (oc0 v) _ _ (λ_=>rfl) v.nlm v.ms 14 h127 (by decide) (w54 v a k (by decide)))) rfl (Cc (by decide)) (Qh _)⟩
  ·have hi:(BR v.ms a.pa).toNat<v.ms.length:=by
    have:=findE_lt v.ms a.pa;omega
   have h127:=R127_yes v.nlm v.ms a.pa (by omega) hv.nlm hf hi;have hms:MsOk (remL v.ms a.pa):=⟨by unfold remL;rw[Ql,Qq,Qx];omega,λm hm=>by
    rcases Qw.1 hm with h|h
    ·exact hv.ok.mp m (QE h)
    ·exact hv.ok.mp m (QV h)⟩
   exact⟨_,_,Bt (umO (oc0 v) (decide (remL v.ms a.pa=[])) (remL v.ms a.pa) a.pa) (λk _=>Bo .o6 a k h h25 _ _ (W59_ok ⟨v,a,k⟩ (oc0 v) _ _ h127 (oc00 v) hms (by have:=ha.ok.pa;simp only;omega))) rfl (Ei (y:= .done) rfl) (by simp[umO,msO,Oc.op,oc0])⟩
 ·have hkl:=hv.kl;have hr:El a.rs:=⟨by have:=ha.ok.rl;omega,λr hr=>QN (ha.ok.rs r hr).1 (by decide),ha.cap⟩;have h50:=F50_eq (nl0:=v.nlt) (nl:=a.nlr) (l:=v.ks) (n:=a.ot) (p:=a.tk) (rs:=a.rs) (by omega) (λk hk=>(hv.ok.kp k hk).2) ha.nlr hr (by have:=ha.ok.ot;omega) (by have:=ha.ok.tk;omega);have h129:=F129_eq (nl:=v.nlt) (l:=v.ks) (by omega);rcases makeT_bd v.ks (a.ot,a.tk,a.nlr,a.rs)with ⟨⟨l',e1⟩,e2,e3,e4,e5,e6⟩|⟨e1,e2⟩
  ·rw[e1]at h50;by_cases hm:(24:Int)<=((v.ks.map λk=>D.str k.1).length:Int)
   ·exact⟨_,_,Bt _ (λk _=>Bo .o7 a k h h25 _ _ (W60_many ⟨v,a,k⟩ (oc0 v) _ _ (λ_=>rfl) false l' h50 _ _ h129 hm (w54 v a k (by decide)))) rfl (Cc (by decide)) (Qh _)⟩
   ·have h113:=F113_eq (n:=a.ot) (p:=a.tk) (nl:=a.nlr) (t:=[]) (l:=a.rs) (by have:=ha.ok.rl;omega) hr.2.1 (by have:=ha.ok.ot;omega) (by have:=ha.ok.tk;omega);simp only at e2;rw[e2]at h113;have h232:=F232_eq (nl:=a.nlr) (l:=a.rs) (by have:=ha.ok.rl;omega) ha.ok.rs;have hrt:(if Cq a.rs=0 then De (B5 a.rs)else []).length<=60000:=by
     split
     ·rename_i hp;have h4:=(polE_zero hp).1;have hs:Cw (B5 a.rs)<=1007*(B5 a.rs).length:=sumL_le λx hx=>by
       obtain⟨r,hr,rfl⟩:=Qr.1 hx;have:=(ha.ok.rs r hr).1;have:=EP r.2.toNat;simp only[ruleB,Ql,Qc,Qj];omega
      have:=Fv (B5 a.rs);rw[Cp]at *;omega
     ·decide
    have h130:=R130_ok a.ot a.tk a.nlr a.rs _ _ h113 h232 (by have:=ha.ok.tk;omega) hrt;exact⟨_,_,Bt (mkO (oc0 v) false l' a.ot (CF [a.tk,if Cq a.rs=0 then De (B5 a.rs)else []])) (λk _=>Bo .o7 a k h h25 _ _ (W60_ok ⟨v,a,k⟩ (oc0 v) false l' h50 _ _ h129 (oc00 v) hm _ _ h130 (by have:=ha.ok.ot;simp only;omega))) rfl (Ei (y:= .done) rfl) (by simp[mkO,ksO,Oc.op,oc0])⟩
  ·rw[e1]at h50;exact⟨_,_,Bt _ (λk _=>Bo .o7 a k h h25 _ _ (W60_fail ⟨v,a,k⟩ (oc0 v) _ _ (λ_=>rfl) v.nlt v.ks _ h50 (by omega) (w54 v a k e2))) rfl (Cc e2) (Qh _)⟩
 ·obtain⟨r,hr,_⟩:=hv.inv.tree;have hkl:=hv.kl;cases hf:AW v.ks a.ot with
  |false=>
   have h131:=G131_no (nl:=v.nlt) (by omega) hr hf;exact⟨_,_,Bt _ (λk _=>Bo .o8 a k h h25 _ _ (W61_fail DW ⟨v,a,k⟩ (oc0 v) _ _ (λ_=>rfl) v.nlt v.ks true [] 6 h131 (by decide) (w54 v a k (by decide)))) rfl (Cc (by decide)) (Qh _)⟩
  |true=>
   have h131:=G131_yes (nl:=v.nlt) (by omega) hr hf;have hgl:(C_ v.ks a.ot).length<=v.ks.length+1:=by
    unfold C_ srtB;rw[Qo];exact dfs_len hr _ _
   have hgm:∀s∈C_ v.ks a.ot,BC s=true:=λs hs=>by
    have:=dfs_mem (srt_mem hs);obtain⟨u,hu,e⟩:=found_mem hf;rcases Qd.1 this with rfl|h
    ·rw[←e];exact hv.inv.name u hu
    ·obtain⟨t,ht,rfl⟩:=Qr.1 h;exact hv.inv.name t ht
   have hgn:C_ v.ks a.ot≠[]:=λe=>by
    have h1:(C_ v.ks a.ot).length=(Eb v.ks v.ks.length a.ot).length:=Qo _;rw[e]at h1;cases hk:v.ks.length<;>rw[hk]at h1<;>simp[Eb]at h1
   have hgs:∀s∈C_ v.ks a.ot,s.length<=1000000:=λs hs=>by
    have:=hgm s hs;unfold BC at this;simp only[Qz,decide_eq_true_eq]at this;omega
   have hy:ryE (.names false (C_ v.ks a.ot))=0:=if_pos ⟨by omega,by
    rw[Q2];intro x hx;rw[name_nm (hgm x hx)];decide⟩
   exact⟨_,_,Bt (revO (oc0 v) (decide (Dt v.ks (C_ v.ks a.ot)=[])) (Dt v.ks (C_ v.ks a.ot)) false (C_ v.ks a.ot)) (λk _=>Bo .o8 a k h h25 _ _ (W61_ok DW ⟨v,a,k⟩ (oc0 v) _ _ false (C_ v.ks a.ot) h131 (oc00 v) hgn (by omega) hgs (λe=>by cases e))) rfl (Ei (y:= .names false (C_ v.ks a.ot)) hy) (by simp[revO,DO,ksO,oc0];omega)⟩
theorem lastI_snoc(q q':Bs):∀l:List Bs,BD (l++[q]) q'=if q=q' then(l.length:Int)else BD l q'
 |[]=>by simp[BD]
 |x::r=>by
  have ih:=lastI_snoc q q' r;show BD (x::(r++[q])) q'=_;unfold BD;rw[ih];by_cases h:q=q'
  ·simp only[if_pos h];rw[if_pos (by omega)];simp
  ·simp only[if_neg h]
theorem ent_snoc(k:Kn)(q:Bs)(t:Bs)(b:Bool)(q':Bs):CG {k with es:=k.es++[(q,t,b)]} q'=if q=q' then(t,b,true)else CG k q':=by
 unfold CG EQ;simp only[QW,List.map_cons,List.map_nil,lastI_snoc,Qm];by_cases h:q=q'
 ·simp only[if_pos h];rw[if_neg (by omega)];simp[QK]
 ·simp only[if_neg h];by_cases h2:BD (k.es.map (·.1)) q'<0
  ·rw[if_pos h2,if_pos h2]
  ·rw[if_neg h2,if_neg h2];have:=(Et (k.es.map (·.1)) q').2;rw[Qm]at this;have e:∀x,(k.es++[(q,t,b)]).getD (BD (k.es.map (·.1)) q').toNat x=k.es.getD (BD (k.es.map (·.1)) q').toNat x:=λx=>by
    simp only[QK];rw[Q_ (by omega)]
   rw[e]
theorem lst_snoc(k:Kn)(q:Bs)(nl:Bool)(l:List Bs)(q':Bs):EB {k with ls:=k.ls++[(q,nl,l)]} q'=if q=q' then(nl,l,true)else EB k q':=by
 unfold EB;simp only[QW,List.map_cons,List.map_nil,lastI_snoc,Qm];by_cases h:q=q'
 ·simp only[if_pos h];rw[if_neg (by omega)];simp[QK]
 ·simp only[if_neg h];by_cases h2:BD (k.ls.map (·.1)) q'<0
  ·rw[if_pos h2,if_pos h2]
  ·rw[if_neg h2,if_neg h2];have:=(Et (k.ls.map (·.1)) q').2;rw[Qm]at this;have e:∀x,(k.ls++[(q,nl,l)]).getD (BD (k.ls.map (·.1)) q').toNat x=k.ls.getD (BD (k.ls.map (·.1)) q').toNat x:=λx=>by
    simp only[QK];rw[Q_ (by omega)]
   rw[e]
theorem ent_len{k:Kn}(h:KnOk k)(q:Bs):(CG k q).1.length<=400:=by
 unfold CG;split
 ·decide
 ·rename_i h2;have:=(Et (EQ k) q).2;unfold EQ at this h2;rw[Qm]at this;simp only[QK,EQ];rw[Qf (by omega)];exact h.et _ (QF (by omega))
theorem lst_ok{k:Kn}(h:KnOk k)(q:Bs):(EB k q).2.1.length<=1000∧∀s∈(EB k q).2.1,s.length<=1000000:=by
 unfold EB;split
 ·exact⟨by decide,λs hs=>by cases hs⟩
 ·rename_i h2;have:=(Et (k.ls.map (·.1)) q).2;rw[Qm]at this;simp only[QK];rw[Qf (by omega)];exact h.lt _ (QF (by omega))
theorem FN(k:Kn)(q:Bs)(d:Dk)(q':Bs):(q'=q->(CG (Bj k q false d) q').2.2=true)∧(q'≠q->CG (Bj k q false d) q'=CG k q'):=by
 have e:Bj k q false d={k with es:=k.es++[(q,((d.its.find? λx=>decide (x.1=q)).getD ([],[],false)).2)]}:=rfl;rw[e,ent_snoc];exact⟨λh=>by rw[if_pos h.symm],λh=>if_neg (λe=>h e.symm)⟩
theorem learn_l(k:Kn)(q:Bs)(d:Dk):(EB (Bj k q true d) q).2.2=true:=by
 have e:Bj k q true d={k with ls:=k.ls++[(q,((d.lss.find? λx=>decide (x.1=q)).getD ([],true,[])).2)]}:=rfl;rw[e,lst_snoc,if_pos rfl]
structure ScI (s:Sc):Prop where
 bad:Dl s 6=false
 nl:s.nl=true->s.rs=[]
theorem bad_out{s:Sc}{q:Int}(h:Dl s q=false):(1<=q∧q<=6)∧(0<=s.mx∧s.mx<=6)∧(0<=s.la∧s.la<=30)∧(s.rs.length:Int)<=6∧risB s.rs 0=true∧newE s.rs=s.la:=by
 unfold Dl at h;simp only[QU,Bool.not_eq_false',decide_eq_true_eq,decide_eq_false_iff_not]at h;obtain⟨h1,h2,h3,h4,h5,h6⟩:=h;refine⟨h1,h2,h3,?_,h5,h6⟩;unfold BX at h4;split at h4<;>omega
theorem ScI.len{s:Sc}(h:ScI s):s.rs.length<=6:=by have:=(bad_out h.bad).2.2.2.1;omega
theorem sc0_ok:ScI sc0:=⟨by decide,λ_=>rfl⟩
theorem unpack_ok{t:Bs}(h:(B3 t).2=0):ScI (B3 t).1:=by
 unfold B3 at h ⊢;split at h
 ·cases h
 ·rename_i h1;rw[if_neg h1];split at h
  ·cases h
  ·rename_i h2;rw[if_neg h2];refine⟨by
    cases hb:Dl (unpS t) 6 with
    |false=>rfl
    |true=>exact absurd (.inr (.inr hb)) h2,λhn=>?_⟩
   simp only[unpS,decide_eq_true_eq]at hn;show(Fh t).1=[];unfold Fh;rw[hn];rfl
def Dp(mt:Bs×Bool×Bool):Option Sc:=if mt.2.1=false∨(B3 mt.1).2≠0 then none else some (B3 mt.1).1
def secG(o:Option Sc):Sc:=o.getD sc0
theorem secT_ok{mt:Bs×Bool×Bool}{s:Sc}(h:Dp mt=some s):ScI s:=by
 unfold Dp at h;split at h
 ·cases h
 ·rename_i h1;simp only[Qg]at h;subst h;exact unpack_ok (Decidable.not_not.1 (λe=>h1 (.inr e)))
theorem FJ(mt:Bs×Bool×Bool):ScI (secG (Dp mt)):=by
 cases h:Dp mt with
 |none=>exact sc0_ok
 |some s=>exact secT_ok h
def AM(k:Kn)(p:Bs):Bs×Bool×Bool:=CG k (AZ 1 p 0)
section
variable{v:Vw}{a:Ak}{k:Kn}
theorem w135_need(hk:KnOk k){p:Bs}(hp:p.length<=1000000)(h:(AM k p).2.2=false):Bv ⟨v,a,k⟩ (oc0 v) [.str p]=some (.tup [.agg (scC sc0),.bool false,.bool false],EM v (AZ 1 p 0) false,none):=
 W135_need ⟨v,a,k⟩ (oc0 v) p (oc00 v) hp (by have:=hk.es;simp only;omega) (AM k p) rfl h
theorem FE(hk:KnOk k){p:Bs}(hp:p.length<=1000000)(h:(AM k p).2.2=true):Bv ⟨v,a,k⟩ (oc0 v) [.str p]=some (.tup [.agg (scC (secG (Dp (AM k p)))),.bool (Dp (AM k p)).isSome,.bool true],oc0 v,none):=by
 have hl:(AM k p).1.length<=1000000:=by have:=ent_len hk (AZ 1 p 0);unfold AM;omega
 have hkl:(Wb.mk v a k).k.es.length<=1000:=by have:=hk.es;simp only;omega
 by_cases hc:(AM k p).2.1=false∨(B3 (AM k p).1).2≠0
 ·have e:Dp (AM k p)=none:=if_pos hc;rw[e];exact W135_no ⟨v,a,k⟩ (oc0 v) p (oc00 v) hp hkl (AM k p) rfl h hl hc
 ·have e:Dp (AM k p)=some (B3 (AM k p).1).1:=if_neg hc;rw[e];rw[not_or]at hc;exact W135_yes ⟨v,a,k⟩ (oc0 v) p (oc00 v) hp hkl (AM k p) rfl h hl (by simpa using hc.1) (Decidable.not_not.1 hc.2)
def writeE(v:Vw)(p:Bs)(s:Sc)(cas:Int)(data:Bs):Oc:=
 if(CI s (B6 v p).1 (B6 v p).2 cas data.length).2.2.2≠0 then failO v (CI s (B6 v p).1 (B6 v p).2 cas data.length).2.2.2 else wriO (oc0 v) p (CI s (B6 v p).1 (B6 v p).2 cas data.length) data
theorem refE_bd(s:Sc)(q:Int)(b:Bool)(cas size:Int):0<=refE s q b cas size∧refE s q b cas size<=99:=by
 unfold refE
 repeat' split
 all_goals decide
theorem writ_bd{s:Sc}(hs:s.rs.length<=6)(q:Int)(b:Bool)(cas size:Int):(0<=(CI s q b cas size).2.2.2∧(CI s q b cas size).2.2.2<=99)∧(CI s q b cas size).1.rs.length<=7∧(CI s q b cas size).2.2.1.length<=7∧((CI s q b cas size).2.2.2=0->0<=(CI s q b cas size).2.1∧(CI s q b cas size).2.1<=31):=by
 have hb:=refE_bd s q b cas size;unfold CI;by_cases h:refE s q b cas size≠0
 ·rw[if_pos h];exact⟨hb,by simp only;omega,by simp,λe=>absurd e h⟩
 ·rw[if_neg h];refine⟨by simp only;omega,?_,?_,λ_=>?_⟩
  ·simp only[fewS,EO,Qx,Ql,Qc,Qj];omega
  ·simp only[fewL,EO,Qm,Qq,Ql,Qc,Qj];omega
  ·have h0:=Decidable.not_not.1 h;unfold refE at h0;split at h0
   ·cases h0
   ·rename_i h1;have:Dl s q=false:=by
     cases hq:Dl s q with
     |false=>rfl
     |true=>exact absurd (.inl hq) h1
    have:=(bad_out this).2.2.1;simp only;omega
theorem w138(hv:ViewI v){p:Bs}(hp:p.length<=1000000){s:Sc}(hs:ScI s){cas:Int}{data:Bs}(hd:data.length<=1000000):∃ol,W138 ⟨v,a,k⟩ (oc0 v) [.str p,.agg (scC s),.int .i64 cas,.str data]=some (.tup [],writeE v p s cas data,ol):=by
 have hl:=hs.len;obtain⟨h1,h2,h3,h4⟩:=writ_bd hl (B6 v p).1 (B6 v p).2 cas data.length;have hm:(Wb.mk v a k).v.ms.length<=1000:=by have:=hv.ml;simp only;omega
 unfold writeE;by_cases h:(CI s (B6 v p).1 (B6 v p).2 cas data.length).2.2.2≠0
 ·rw[if_pos h];exact⟨_,W138_fail ⟨v,a,k⟩ (oc0 v) p s cas data (oc00 v) (by omega) hs.nl hp hd hm _ rfl (by omega)⟩
 ·rw[if_neg h];exact⟨_,W138_ok ⟨v,a,k⟩ (oc0 v) p s cas data (oc00 v) (by omega) hs.nl hp hd hm _ rfl (Decidable.not_not.1 h) (by omega) (by omega)⟩
theorem writeE_ok{p:Bs}{s:Sc}(hs:ScI s){cas:Int}{data:Bs}:(writeE v p s cas data).need=[]∧(writeE v p s cas data).rep≠[]∧(writeE v p s cas data).ops.length<=1000:=by
 have hl:=hs.len;obtain⟨h1,h2,h3,h4⟩:=writ_bd hl (B6 v p).1 (B6 v p).2 cas data.length;unfold writeE;by_cases h:(CI s (B6 v p).1 (B6 v p).2 cas data.length).2.2.2≠0
 ·rw[if_pos h];exact⟨rfl,Cc (by omega),Qh _⟩
 ·rw[if_neg h];have:=h4 (Decidable.not_not.1 h);refine⟨rfl,Ei (y:= .number _) (if_pos ⟨by omega,by omega⟩),?_⟩;simp only[wriO,BE,Oc.op,oc0,Ql,Qc,Qj,Qm];omega
def turnE(v:Vw)(p:Bs)(s:Sc)(gone:List Int)(e:Int):Oc:=if e≠0 then failO v e else turnO' (oc0 v) p s gone
theorem w141{s:Sc}(hs:s.rs.length<=1000){gnl:Bool}{gone:List Int}(hg:gone.length<=900){e:Int}(he:0<=e∧e<=99)(hp:a.pa.length<=1000000):∃ol,W141 ⟨v,a,k⟩ (oc0 v) [.agg (scC s),.slice gnl [] (AR gone),.int .i64 e]=some (.tup [],turnE v a.pa s gone e,ol):=by
 unfold turnE;by_cases h:e≠0
 ·rw[if_pos h];exact⟨_,W141_fail ⟨v,a,k⟩ (oc0 v) s gnl gone e (oc00 v) (by omega)⟩
 ·rw[if_neg h];obtain rfl:=Decidable.not_not.1 h;exact⟨_,W141_ok ⟨v,a,k⟩ (oc0 v) s gnl gone (oc00 v) hg hs hp⟩
theorem turnE_ok{p:Bs}{s:Sc}{gone:List Int}(hg:gone.length<=900){e:Int}(he:0<=e∧e<=99):(turnE v p s gone e).need=[]∧(turnE v p s gone e).rep≠[]∧(turnE v p s gone e).ops.length<=1000:=by
 unfold turnE;by_cases h:e≠0
 ·rw[if_pos h];exact⟨rfl,Cc (by omega),Qh _⟩
 ·rw[if_neg h];refine⟨rfl,Ei (y:= .done) rfl,?_⟩;simp only[turnO',BE,Oc.op,oc0,Ql,Qc,Qj,Qm];omega
theorem turnO_len(ns:List Int)(n:Nat):∀(l:List Rw)(j:Nat),(EF ns n j l).length<=l.length
 |[],j=>Qi _
 |x::r,j=>by
  unfold EF;have:=turnO_len ns n r (j+1);split<;>simp only[Qc]<;>omega
theorem Fj{s:Sc}(hs:s.rs.length<=6)(ns:List Int)(c:Nat):(0<=(BB s ns c).2.2∧(BB s ns c).2.2<=99)∧(BB s ns c).1.rs.length<=6∧(BB s ns c).2.1.length<=6:=by
 unfold BB
 repeat' split
 ·exact⟨(by decide:(0:Int)<=2∧(2:Int)<=99),hs,Qh _⟩
 ·exact⟨(by decide:(0:Int)<=6∧(6:Int)<=99),hs,Qh _⟩
 ·exact⟨(by decide:(0:Int)<=0∧(0:Int)<=99),by simp only[turnR_len];exact hs,QN (turnO_len _ _ _ _) hs⟩
theorem confS_bd{s:Sc}(hs:s.rs.length<=6)(q most:Int)(b:Bool):(0<=(D4 s q most b).2.2∧(D4 s q most b).2.2<=99)∧(D4 s q most b).1.rs.length<=6∧(D4 s q most b).2.1.length<=6:=by
 unfold D4;split
 ·exact⟨(by decide:(0:Int)<=2∧(2:Int)<=99),hs,Qh _⟩
 ·refine⟨(by decide:(0:Int)<=0∧(0:Int)<=99),?_,?_⟩
  ·simp only[fewS,Qx];omega
  ·simp only[fewL,Qm,Qq];omega
end
end Go.Vd
end
