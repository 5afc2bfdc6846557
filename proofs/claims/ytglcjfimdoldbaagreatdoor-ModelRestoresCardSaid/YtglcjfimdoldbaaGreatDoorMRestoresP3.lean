/- A part of the proof; nothing in it is assumed. -/
import Derived.Test.YtglcjfimdoldbaaGreatDoorMRestoresP2
import Derived.Lib.AppendZeros
import Derived.Shelf.Strings.BuilderRune

set_option linter.unusedSimpArgs false
set_option linter.unusedVariables false
set_option linter.defProp false
set_option maxHeartbeats 4000000
set_option maxRecDepth 100000
open List renaming getElem?_cons_succ→Qh,getElem?_eq_getElem→Qq,getElem?_cons_zero→Qu,length_cons→Qv,length_append→Qw,take_zero→Qz,take_succ_cons→QB,length_nil→QE,drop_succ_cons→QG,length_map→QJ,take_of_length_le→QK,drop_zero→QM,map_cons→QN,map_nil→QP,take_succ_eq_append_getElem→QQ,all_nil→QT,mem_map→QU,findIdx?_eq_some_iff_getElem→QW,getElem?_eq_some_iff→QX,nil_append→QY,mem_cons→QZ,all_eq_true→Q_,length_eq_zero_iff→Q0,getElem_mem→Q1,map_map→Q5,append_nil→Q6,mem_nil_iff→Q8,drop_eq_getElem_cons→Q9,map_append→Za,all_cons→Zc,append_inj→Zd,map_congr_left→Ze,mem_singleton→Zh,take_add_one→Zi,take_length→Zk,isEmpty_nil→Zl,head?_cons→Zm,length_set→Zn,getD→Zp,getElem_of_mem→Zq,mem_cons_self→Zt,getElem?_map→Zu,map→Zv,length_drop→Zw,cons_append→Zx,not_mem_nil→Zz,all_append→ZA,nil_suffix→ZC,mem_append→ZD,range→ZF,map_take→ZG,map_drop→ZH,any_cons→ZI,any_map→ZM
open Nat renaming le_of_ble_eq_true→Qi,reduceEqDiff→Qj,reduceAdd→Ql,succ_ne_zero→Qn,zero_ne_one→Qr,reduceLeDiff→Qx,reduceLT→Qy,zero_le→QH,le_refl→QL,zero_add→QR,reduceSub→QS,sub_zero→Q3,add_zero→Zf,lt_of_not_le→Zy,one_ne_zero→ZB,sub_self→ZN,mul_add→ZQ
open List.cons renaming injEq→Qk
open Option renaming bind_some→Qm,isSome_some→Qp,map_some→QD,map_eq_some_iff→Q4
open Go.Proofs.Tryz renaming prog→Qo
open Int renaming toNat_natCast→Qs,toNat_of_nonneg→QC,lt_irrefl→QI,le_refl→Zo,cast_ofNat_Int→Zs,toNat_zero→ZE,reduceLT→ZK,reduceLE→ZL,reduceNe→ZO
open Option.some renaming injEq→Qt,inj→ZR
open Bool renaming false_eq_true→QA,false_and→QF,and_false→QO,and_eq_true→Q2,false_ne_true→Zg,and_self→Zj,true_and→Zr,false_or→ZJ,true_or→ZP
open Prod.mk renaming injEq→QV
open Prod renaming ext→Q7
open Array renaming size_append→Zb
open Go.Proofs.Tryz
noncomputable section
namespace Go.Vd
open Go.Proofs Go.RowKit
abbrev sz3:D->Bool:=iQ 3
def gZ:List D->Option D
 |[.slice _ _ L]=>match FP L with
  |some ys=>if L.length<=1000∧0<ys.length∧ys.length<=100000∧ys.all sz3=true then some (.slice false [] ys)else none
  |none=>none
 |_=>none
set_option maxRecDepth 20000 in
def WK(w:World)(k:Nat)(y:0<k)(s:k<=1000000):
  Calls Qo 292 #[.slice none 0 0,.int .i64 (k:Int)] w λe w'=>e= .returned (.slice (some ⟨w.heap.size,0,none⟩) 0 (grownCap w k 0 68))∧w'=w.drew.alloc (.cells (Builtin.zeroCells #[.string .empty,.string .empty,.slice none 0 0] k++Builtin.zeroCells #[.string .empty,.string .empty,.slice none 0 0] (grownCap w k 0 68-k)) 68):=by
 have v:=Lib.run_append_nil_zeros (P:=Qo) w 38 3 38 68 t68 (.agg #[.string .empty,.string .empty,.slice none 0 0]) .i64 .i64 underlying38 underlying3 Xa Xa k y Z O (by show k*56<=_;omega)
 go_enter func292,ntmps292
 go_wp2_with (first|(at_builtin;refine Lib.wpList_append_run _ rfl _ _ _ _ rfl _ _ rfl rfl _ _ v ?_))
 all_goals go_ret
 all_goals exact⟨rfl,rfl⟩
def aVp:(Ez 68).ok Qo 292:=by
 refine Pr (sz:=3) ⟨_,func292,Xa,Xa⟩ Z ⟨t68,(.agg #[.string .empty,.string .empty,.slice none 0 0]),Xa,Xa,Xa,Xa⟩ (λw k y s=>?_);refine(WK w k y s).mono ?_;rintro e w' ⟨rfl,rfl⟩;refine⟨_,_,grownCap_le_maxLen w k 0 68 Xt,?_,rfl,rfl⟩;have c:=grownCap_ge w k 0 68;simp only[Zb,size_zeroCells];simp;omega
def xV{ds:List D}{r:D}(h:gZ ds=some r):∃nl t L ys,ds=[.slice nl t L]∧FP L=some ys∧L.length<=1000∧0<ys.length∧ys.length<=100000∧ys.all (iQ 3)=true∧r= .slice false [] ys:=by
 unfold gZ at h;split at h
 ·grind
 ·cases h
def aVL(a:(Ez 68).ok Qo 292):Kq gZ 220:=aJ7 (pt:=9) (bytes:=56) (Al func220:Fn Qo 220 36 aYt [.t 2]) O a λ_ _ h=>xV h
set_option maxRecDepth 20000 in
def WL(w:World)(k:Nat)(y:0<k)(s:k<=1000000):
  Calls Qo 213 #[.slice none 0 0,.int .i64 (k:Int)] w λe w'=>e= .returned (.slice (some ⟨w.heap.size,0,none⟩) 0 (grownCap w k 0 154))∧w'=w.drew.alloc (.cells (Builtin.zeroCells #[.string .empty,.int .i64 0,.bool false] k++Builtin.zeroCells #[.string .empty,.int .i64 0,.bool false] (grownCap w k 0 154-k)) 154):=by
 have v:=Lib.run_append_nil_zeros (P:=Qo) w 35 3 35 154 t154 (.agg #[.string .empty,.int .i64 0,.bool false]) .i64 .i64 underlying35 underlying3 Xa Xa k y Z O (by show k*32<=_;omega)
 go_enter func213,ntmps213
 go_wp2_with (first|(at_builtin;refine Lib.wpList_append_run _ rfl _ _ _ _ rfl _ _ rfl rfl _ _ v ?_))
 all_goals go_ret
 all_goals exact⟨rfl,rfl⟩
def aVS:(Ez 154).ok Qo 213:=by
 refine Pr (sz:=3) ⟨_,func213,Xa,Xa⟩ Z ⟨t154,(.agg #[.string .empty,.int .i64 0,.bool false]),Xa,Xa,Xa,Xa⟩ (λw k y s=>?_);refine(WL w k y s).mono ?_;rintro e w' ⟨rfl,rfl⟩;refine⟨_,_,grownCap_le_maxLen w k 0 154 Xt,?_,rfl,rfl⟩;have c:=grownCap_ge w k 0 154;simp only[Zb,size_zeroCells];simp;omega
def Bh:Tk:=([114,111,111,116],[],false,[([],63)])
def nO:List D->Option D
 |[]=>some (HD Bh)
 |_=>none
def aMM:Kq nO 56:=by
 refine AB (S:=λ_=>none) AO (Al func56:Fn Qo 56 4 aPD [.cell (some 3) 0]) (λds r h=>?_) (λds r h=>?_)
 ·grind [nO]
 ·unfold nO at h;split at h
  ·simp only[Qt]at h;subst h;unfold aPD;simp only[↓GQ,Hb,simprocAttr,Aj,Ar,As,Qh,Qm,QB,Qz,Qp,QM,QG,Qk,Qr,and_false,Qn,Bo,AY,Bw,Eh,QY,QP,QT,HD,Bh,Am,bP,QN,QP]
  ·cases h
def F48:List D->Option D
 |[]=>some (.agg [.slice false [] (Au [Bh])])
 |_=>none
def aU9:Kq F48 21:=by
 obtain⟨S,v,hl⟩:=A4 (Aa aMM Ae);have a:=hl 56 _ rfl;clear hl;refine AB (S:=S) v (Al func21:Fn Qo 21 4 aYg [.cell (some 1) 0]) (λds r h=>?_) (λds r h=>?_)
 ·grind [F48]
 ·unfold F48 at h;split at h
  ·simp only[Qt]at h;subst h;have y:nO []=some (.agg [.str [114,111,111,116],.str [],.slice false [] [.agg [.str [],.int .u8 63]]]):=rfl;unfold aYg;simp only[↓GQ,Hb,simprocAttr,Aj,Ar,As,Qm,Qz,Qp,QM,QG,Qk,Qr,Qn,Bo,AY,Bw,Eh,QY,QP,QT,Ab a,y,Au,HD,Bh,Am,bP,QN,QP]
  ·cases h
def BD(l:List Tk)(k:Tk):List Tk:=l.take (HT l k.1)++k::l.drop (HT l k.1)
open Classical in
def aAD:List D->Option D
 |[.agg [.slice _ _ xs],.agg [.str n,.str p,.slice nl _ ys]]=>if Et xs∧xs.length<=90000∧LM nl ys then some (.agg [.slice false [] (Au (BD (Cj xs) (n,p,nl,Bc ys)))])else none
 |_=>none
open Classical in
def uI{nl0 nl:Bool}{t0 t:Id}{l:List Tk}{n p:Bs}{rs:List Rl}(hl:l.length<=90000)(j:rs.length<=1000000)(c:nl=true->rs=[]):
  aAD [.agg [.slice nl0 t0 (Au l)],.agg [.str n,.str p,.slice nl t (Am rs)]]=some (.agg [.slice false [] (Au (BD l (n,p,nl,rs)))]):=by
 have h:Et (Au l)∧(Au l).length<=90000∧LM nl (Am rs):=⟨Ee O,Yd,Is j c⟩;show(if _ then _ else _)=_;rw[if_pos h,Bg,AS]
def aML:Kq aAD 154:=by
 obtain⟨S,hS,hl⟩:=A4 (Aa aIP (Aa aU7 (Aa (aVL aVp) Ae)));have w:=hl 57 _ rfl;have b:=hl 58 _ rfl;have c:=hl 220 _ rfl;clear hl;refine AB (S:=S) hS (Al func154:Fn Qo 154 28 aPA [.cell (some 1) 4]) (λds r h=>?_) (λds r h=>?_)
 ·unfold aAD at h;split at h
  ·simp
  ·cases h
 ·unfold aAD at h;split at h
  ·rename_i nl0 t0 xs n p nl t ys;split at h
   ·rename_i g;obtain⟨g,h9,j⟩:=g;obtain⟨l,rfl,hl,e⟩:=D3 g;obtain⟨rs,rfl,k,q,m⟩:=F0 j;rw[e,m]at h;rw[AD]at h9;simp only[Qt]at h;subst h;have a:=Tb (nl:=nl0) (t:=[]) (s:=n) hl;have o:=aHb (n:=n) (p:=p) (t:=[]) k q;have ta:HT l n<=l.length:=Wa l n _ _ _ O;unfold BD;generalize HT l n=i at a ta;generalize AN l n=fd at a;have z:(0:Int)<=(i:Int):=by omega
    have v:(i:Int)<=(l.length:Int):=O
    have ya:l.length<=l.length:=QL _;have na:(Au l).take i=Au (l.take i):=(ZG ..).symm;have pa:((Au l).drop i).take (l.length-i)=Au (l.drop i):=by
     rw[QK (by rw[Zw,AD];omega)];exact(ZH ..).symm
    have d:gZ [.slice false [] [.slice nl0 [] (Au (l.take i)),.slice false [] [.agg [.str n,.str p,.slice nl [] (Am rs)]],.slice nl0 [] (Au (l.drop i))]]=some (.slice false [] (Au (l.take i++(n,p,nl,rs)::l.drop i))):=by
     have u:FP [.slice nl0 [] (Au (l.take i)),.slice false [] [.agg [.str n,.str p,.slice nl [] (Am rs)]],.slice nl0 [] (Au (l.drop i))]=some (Au (l.take i++(n,p,nl,rs)::l.drop i)):=by
      simp[FP,Au,HD]
     simp only[gZ,u];rw[if_pos];refine⟨U,?_,?_,?_⟩
     ·grind [AD]
     ·grind [AD]
     ·rw[Q_];intro x f;obtain⟨y,_,rfl⟩:=QU.1 f;rfl
    unfold aPA;simp only[↓GQ,Hb,simprocAttr,Aj,Ar,As,Qh,Qm,Qz,Qp,QM,QG,Qk,Qr,and_false,Qn,Bw,Eh,TC,QY,QP,QT,Ab w,a,Ab b,o,Ab c,d,AD,z,v,na,pa,Qs,QL];refine AJ ?_;simp only[↓GQ,GT,simprocAttr,Aj,Ar,As,Q3,Hs,Qu,and_self,Qm,QM,Qk,Qn,Bo,AY,QP,QT,na,pa,QL]
   ·cases h
  ·cases h
def cV{S:GR}{ns:Id}{a b l:List Rl}{nl na nb:Bool}{t ta tb:Id}{Q:Ex->St->Prop}{e:Bool}{u:D}{i:Int}(qa:S 294=some (Ac F95))(c:S 293=some (Ac aHp))
  (la:a.length<=1000000) (lb:b.length<=1000000) (pb:BR b) (x:Fd a) (cb:Fd b) (hb:l.length<=1000000) (sa:BR l)
  (oa:∀z,e=false->z.s 4= .bool false->Q .ret z) (fa:∀z,e=true->z.s 0= .slice na ta (Am a)->z.s 1= .slice nb tb (Am b)->z.s 19=u->z.s 20= .int .i64 i->Q (.exit 2) z):
  ∀(f j:Nat) z g,l.length=j+f->DQ a b l f j=e->z.s 0= .slice na ta (Am a)->z.s 1= .slice nb tb (Am b)->z.s 19=u->z.s 20= .int .i64 i->z.s 23= .slice nl t (Am l)->z.s 24= .int .i64 (l.length:Int)->z.s 25= .int .i64 (j:Int)->AK S ns P4 Q z g:=by
 intro f;induction f with
 |zero=>
  intro j z g hf he h0 y m d o n ka;refine Af P4.eq_1 ?_;have:¬((j:Int)<l.length):=O
  simp only[↓GQ,GX,Hf,reduceIte,Ql,n,ka,this];exact fa _ he.symm h0 y m d
 |succ f ih=>
  intro j z g hf he h0 y m d o n ka;refine Af P4.eq_1 ?_;unfold DQ at he;have hj:j<l.length:=O
  have v:((j:Int)<l.length):=O
  have ma:=nJ (j:=j);have hw:=wJ (j:=j) O;have ia:(Am l)[j]?=some (.agg [.str (Bx l j).1,.int .u8 (Bx l j).2]):=DL hj;have hq:=Ix sa hj;unfold Vr at he;generalize Bx l j=r at ia hq he;obtain⟨q,k⟩:=r;simp only at ia hq he;have p:=nH (nl:=na) (t:=[]) (s:=q) la;have w:=P9 (s:=q) x;have h:=aLK (nl:=nb) (t:=[]) (s:=q) lb cb pb hq w.1 w.2;unfold Nw at h;generalize MQ (Cy b q).toNat (Cy a q).toNat=hh at he h;obtain⟨ja,ga,da⟩:=z;simp only at h0 y m d o n ka;cases hh with
  |true=>
   rw[if_pos rfl]at he;simp only[↓GQ,Hb,reduceIte,Qj,Ql,h0,y,o,n,ka,v,ma,Qs,ia,Ab qa,p,Ab c,h,Aj,Ar,As,Qy,Qx,Qh,Qm,QB,Qz,Qp];refine AJ ?_;simp only[↓GQ,GX,Hx,reduceIte,Qj,Ql,ka,hw];exact ih (j+1) _ _ O he h0 y m d o n rfl
  |false=>
   rw[if_neg U]at he;simp only[↓GQ,Hb,reduceIte,Qj,Ql,h0,y,o,n,ka,v,ma,Qs,ia,Ab qa,p,Ab c,h,Aj,Ar,As,Qy,Qx,Qh,Qm,QB,Qz,Qp];refine AJ ?_;simp only[↓GQ,GX,Hx,reduceIte,Qj,Ql];exact oa _ he.symm rfl
def aWd:Kq aHz 221:=by
 obtain⟨S,hS,hl⟩:=A4 (Aa cF (Aa aQ9 (Aa aVM Ae)));have da:=hl 121 _ rfl;have w:=hl 294 _ rfl;have c:=hl 293 _ rfl;clear hl;refine AB (S:=S) hS (Al func221:Fn Qo 221 40 aPB [.t 4]) (λds r h=>?_) (λds r h=>?_)
 ·grind [NJ]
 ·obtain⟨na,ta,a,nb,tb,b,rfl,v,lb,s,pb,x,cb,rfl⟩:=NJ h;have g:=Ly (nl:=na) (t:=[]) v s;have eb:=Ly (nl:=nb) (t:=[]) lb pb;have o:=DA a;have k:=DA b;have p:=Fk a;have u:=Fk b;unfold aPB CD;generalize B4 a=j at *;generalize B4 b=xb at *;by_cases f:j=0
  ·by_cases n:xb=0
   ·subst f n;have z2:((2:Nat):Int)=2:=rfl;have w1:IntKind.i64.wrap ((0:Int)+1)=1:=Hg O O;have w2:IntKind.i64.wrap ((1:Int)+1)=2:=Hg O O;rw[ZA];have ha:a.all (Vr a b)=DQ a b a a.length 0:=by rw[Fz _ _ _ _ _ O];rfl
    have i:b.all (Vr a b)=DQ a b b b.length 0:=by rw[Fz _ _ _ _ _ O];rfl
    rw[ha,i];simp only[↓GQ,GT,reduceIte,Qj,Ql,Ab da,g,eb,Bw,Eh,Qx,Hs,and_self,QB,Qz,QM,QG];refine Af P3.eq_1 ?_;simp only[↓GQ,GX,Hf,reduceIte,Qj,Ql,Ay,z2,ZK,ZE,Zo,Qu,and_self];refine cV (a:=a) (b:=b) (l:=a) (e:=DQ a b a a.length 0) w c v lb pb x cb v s (λz y q=>?_) (λz he h0 y m d=>?_) a.length 0 _ _ O rfl rfl rfl rfl rfl rfl rfl rfl
    ·simp only[↓GQ,GT,y,q,QF,QO]
    ·simp only[↓GQ,GT,reduceIte,Qj,Ql,d,he,w1];refine Af P3.eq_1 ?_;simp only[↓GQ,GX,Hf,reduceIte,Qj,Ql,m,d,Ay,z2,ZK,Int.toNat_one,ZL,Qu,Qh,and_self];refine cV (a:=a) (b:=b) (l:=b) (e:=DQ a b b b.length 0) w c v lb pb x cb lb pb (λz y q=>?_) (λz ga h0 y m d=>?_) b.length 0 _ _ O rfl h0 y m rfl rfl rfl rfl
     ·simp only[↓GQ,GT,y,q,he,QO]
     ·simp only[↓GQ,GT,reduceIte,Qj,Ql,d,he,ga,w2];refine Af P3.eq_1 ?_;simp only[↓GQ,GT,reduceIte,Qj,Ql,d,he,ga,QI]
   ·simp only[↓GQ,GT,reduceIte,Qj,Ql,Ab da,g,eb,n,f]
    try simp
  ·simp only[↓GQ,GT,reduceIte,Qj,Ql,Ab da,g,f]
   try simp
def BO(l:List Tk)(k:Tk):Option (List Tk)×Int:=
 if Dc k.1 k.2.1 k.2.2.2≠0 then(none,Dc k.1 k.2.1 k.2.2.2)else if k.2.1=[]then(none,2)else if AN l k.1=true then(none,20)else if AN l k.2.1=false then(none,6)
 else if CD k.2.2.2 (AP l (HT l k.2.1)).2.2.2=false then(none,13)else(some (BD l k),0)
def Rv(nl:Bool)(l:List Tk)(o:Option (List Tk)):D:=match o with
 |none=> .agg [.slice nl [] (Au l)]
 |some z=> .agg [.slice false [] (Au z)]
def Dg(l:List Rl):Prop:=l.length<=1000000∧BR l∧Fd l
open Classical in
def F50:List D->Option D
 |[.agg [.slice nl0 _ xs],.agg [.str n,.str p,.slice nl _ ys]]=>if(Et xs∧xs.length<=90000∧∀k∈Cj xs,Dg k.2.2.2)∧LM nl ys∧Dg (Bc ys)∧n.length<=1000000∧p.length<=1000000
   then some (.tup [Rv nl0 (Cj xs) (BO (Cj xs) (n,p,nl,Bc ys)).1,.int .i64 (BO (Cj xs) (n,p,nl,Bc ys)).2])else none
 |_=>none
def aZX:Kq F50 155:=by
 obtain⟨S,hS,hl⟩:=A4 (Aa aBV (Aa aIP (Aa aWd (Aa aML Ae))));have c:=hl 59 _ rfl;have w:=hl 57 _ rfl;have d:=hl 221 _ rfl;have f:=hl 154 _ rfl;clear hl;refine AB (S:=S) hS (Al func155:Fn Qo 155 54 aYe [.cell (some 1) 4,.t 5]) (λds r h=>?_) (λds r h=>?_)
 ·unfold F50 at h;split at h
  ·simp
  ·cases h
 ·unfold F50 at h;split at h
  ·rename_i nl0 t0 xs n p nl t ys;split at h
   ·rename_i hc;obtain⟨⟨hc,h9,u⟩,hr,q,hn,z⟩:=hc;obtain⟨l,rfl,hl,e⟩:=D3 hc;obtain⟨rs,rfl,ka,x,e2⟩:=F0 hr;rw[e,e2]at h;rw[e]at u;rw[e2]at q;rw[AD]at h9;simp only[Qt]at h;subst h;have v:=HV (n:=n) (p:=p) (nl:=nl) (t:=[]) ka q.2.1 hn z;have b:=Tb (nl:=nl0) (t:=[]) (s:=n) hl;have a:=Tb (nl:=nl0) (t:=[]) (s:=p) hl;have m:=uI (nl0:=nl0) (t0:=[]) (n:=n) (p:=p) (t:=[]) h9 ka x;unfold aYe BO;simp only;generalize Dc n p rs=e at *;by_cases he:e=0
    ·subst he;by_cases o:p=[]
     ·subst o;simp only[↓GQ,Hb,simprocAttr,Aj,Ar,As,Qh,Qm,Qp,Qk,Qr,and_false,Qn,AY,Bi,Ab c,v,ne_eq];simp[Rv];rfl
     ·cases h1:AN l n with
      |true=>
       rw[h1]at b;simp only[↓GQ,Hb,simprocAttr,Aj,Ar,As,Qh,Qm,Qp,Qk,Qr,and_false,Qn,AY,Bi,Ab c,v,Ab w,b,ne_eq,o];simp[Rv];rfl
      |false=>
       rw[h1]at b;cases h2:AN l p with
       |false=>
        rw[h2]at a;simp only[↓GQ,Hb,simprocAttr,Aj,Ar,As,Qh,Qm,Qp,Qk,Qr,and_false,Qn,AY,Bi,Ab c,v,Ab w,b,a,ne_eq,o];simp[Rv];rfl
       |true=>
        have hi:HT l p<l.length:=by
         grind [AN]
        rw[h2]at a;generalize HT l p=i at a hi;have ua:(0:Int)<=(i:Int):=O
        have ia:=Dp (l:=l) (j:=i) hi;have y:AP l i∈l:=by simp[AP,Qq hi]
        have ea:=u _ y;generalize AP l i=k at ia ea;obtain⟨n2,p2,da,g⟩:=k;replace ia:(Au l)[i]?=some (.agg [.str n2,.str p2,.slice da [] (Am g)]):=ia;have ga:=uH (na:=nl) (nb:=da) (ta:=[]) (tb:=[]) ka ea.1 q.2.1 ea.2.1 q.2.2 ea.2.2;simp only at ga;cases h3:CD rs g with
        |false=>
         rw[h3]at ga;simp only[↓GQ,Hb,simprocAttr,Aj,Ar,As,Qh,Qm,QM,QG,Zm,Qk,Qr,and_false,Qn,Ab c,v,Ab w,b,a,ne_eq,o,ua,ia,Qs,Ab d,ga];refine AJ ?_;simp only[↓GQ,Hb,simprocAttr,Aj,Ar,As,Qm,Qp,Qk,Qr,Qn,AY,Bi,o];simp[Rv];rfl
        |true=>
         rw[h3]at ga;simp only[↓GQ,Hb,simprocAttr,Aj,Ar,As,Qh,Qm,QM,QG,Zm,Qk,Qr,and_false,Qn,Ab c,v,Ab w,b,a,ne_eq,o,ua,ia,Qs,Ab d,ga];refine AJ ?_;simp only[↓GQ,Hb,simprocAttr,Aj,Ar,As,Qh,Qm,Qp,Qk,Qr,and_false,Qn,AY,Bi,Ab f,m,o];simp[Rv];rfl
    ·simp only[↓GQ,Hb,simprocAttr,Aj,Ar,As,Qh,Qm,Qp,Qk,Qr,and_false,Qn,AY,Bi,Ab c,v,ne_eq,he];simp[Rv];rfl
   ·cases h
  ·cases h
def aJt{S:GR}{l:List Tk}{nl0:Bool}{t0:Id}{Q:Ex->St->Prop}(i:l.length<=1000000)
  (b:∀z nl t,nl=decide (l.length=0)->z.s 3= .slice nl t (l.map λk=> .str k.1)->Q (.exit 0) z):
  ∀(f j:Nat) nl t z g,l.length=j+f->nl=decide (j=0)->Gw z.m z.c 9 nl t->z.s 3= .slice nl t ((l.take j).map λk=> .str k.1)->z.s 7= .slice nl0 t0 (Au l)->z.s 8= .int .i64 (l.length:Int)->z.s 9= .int .i64 (j:Int)->AK S [] PZ Q z g:=by
 intro f;induction f with
 |zero=>
  intro j nl t z g o q hG d e h8 y;refine Af PZ.eq_1 ?_;have:¬((j:Int)<l.length):=O
  simp only[↓GQ,GX,Hf,reduceIte,Ql,h8,y,this];refine b _ nl t (by rw[q,show j=l.length by omega]) ?_;rw[show j=l.length by omega,Zk]at d;exact d
 |succ f ih=>
  intro j nl t z g o q hG d e h8 y;refine Af PZ.eq_1 ?_;have w:j<l.length:=O
  have v:((j:Int)<l.length):=O
  have u:=nJ (j:=j);have x:=wJ (j:=j) O;have ia:=Dp (l:=l) (j:=j) w;have na:(l.take (j+1)).map (λk:Tk=>D.str k.1)=(l.take j).map (λk:Tk=>D.str k.1)++[.str (AP l j).1]:=by
   rw[QQ w,Za];simp[AP,Qq w]
  have wa:((l.take j).map (λk:Tk=>D.str k.1)).length=j:=Xc
  have oa:nl=true->(l.take j).map (λk:Tk=>D.str k.1)=[]:=by
   simp_all
  generalize (l.take j).map (λk:Tk=>D.str k.1)=acc at d na wa oa;generalize AP l j=k at ia na;obtain⟨n,p,ka,rs⟩:=k;replace ia:(Au l)[j]?=some (.agg [.str n,.str p,.slice ka [] (Am rs)]):=ia;obtain⟨ja,a,r⟩:=z;simp only at d e h8 y hG na;simp only[↓GQ,Hb,simprocAttr,d,e,h8,y,v,u,Qs,ia,Aj,Ar,As,Qh,Qm,QB,Qz,Qp,and_false];refine aA ⟨O,rfl,?_⟩ ?_
  ·first
    |exact(hG.put.put.more O).grow O
    |exact(Gw.put (Gw.put hG O) O).grow O
  rw[Ba oa,←na];simp only[↓GQ,GT,simprocAttr,y,x];refine ih (j+1) false _ _ _ O U ?_ rfl e h8 rfl;exact Gw.new Xb
open Classical in
def aMb:List D->Option D
 |[.agg [.slice _ _ xs]]=>if Et xs then some (.slice (decide ((Cj xs).length=0)) [] ((Cj xs).map λk=> .str k.1))else none
 |_=>none
def aWb:Kq aMb 103:=by
 refine AB (S:=λ_=>none) AO (Al func103:Fn Qo 103 20 aPp [.t 2]) (λds r h=>?_) (λds r h=>?_)
 ·unfold aMb at h;split at h
  ·simp
  ·cases h
 ·unfold aMb at h;split at h
  ·rename_i nl t xs;split at h
   ·rename_i g;obtain⟨l,rfl,hl,e⟩:=D3 g;rw[e]at h;simp only[Qt]at h;subst h;unfold aPp;simp only[↓GQ,GX,Hx,simprocAttr,AD,Aj,QH,Q3,Hs,Qu,and_self];refine aJt (l:=l) (nl0:=nl) (t0:=t) hl (λz nl' n u q=>?_) l.length 0 true [] _ _ O U (.inl rfl) rfl rfl rfl rfl;simp only[↓GQ,GT,simprocAttr,q];rw[u]
    first|done|rfl|exact⟨rfl,rfl⟩
   ·cases h
  ·cases h
def aPj:=y0 f99 [] []
def aOm:=y0 Tryz.f165 [] []
def aO7:=y0 f310 [] []
def aNI:=y0 f300 [] []
def aOh:=y0 f230 [] []
def aAw:List D->Option D
 |[.int .i64 n,.int .i64 lo,.int .i64 hi]=>some (.bool (decide (lo<=n∧n<=hi)))
 |_=>none
def aMy:Kq aAw 230:=by
 refine AB (S:=λ_=>none) AO (Al func230:Fn Qo 230 15 aOh [.t 6]) (λds r h=>?_) (λds r h=>?_)
 ·unfold aAw at h;split at h
  ·simp
  ·cases h
 ·unfold aAw at h;split at h
  ·rename_i n lo hi;simp only[Qt]at h;subst h;unfold aOh;simp only[↓GQ,GX,simprocAttr]
   repeat' (first|(refine aD (λh=>?_) (λh=>?_)<;>try (exfalso;omega))|(simp only[↓GQ,GT,simprocAttr,h,and_self,false_and]))
   all_goals (simp_all<;>omega)
  ·cases h
def aAp:D->D->Option D
 | .junk,.int .i64 x=>some (.bool (!decide (1<=x∧x<=999)))
 |_,_=>none
def aSV:(IZ aAp).ok Qo 300:=by
 obtain⟨S,v,hl⟩:=A4 (Aa aMy Ae);have e:=hl 230 _ rfl;clear hl;refine Ov (S:=S) v (Al func300:Fn Qo 300 6 aNI [.t 2]) (λx caps m fr c d k j na hl=>⟨O,?_⟩);unfold aAp at j;split at j
 ·rename_i n;simp only[Qt]at j;subst j;have a:∀n lo hi,aAw [.int .i64 n,.int .i64 lo,.int .i64 hi]=some (.bool (decide (lo<=n∧n<=hi))):=λ_ _ _=>rfl
  unfold aNI;simp only[↓GQ,GT,simprocAttr,Ab e,a]
  try exact λi o y h=>h
 ·cases j
def aSB:(FO 300 none aAp).ok Qo 351:=Oe O aXP rfl aSV
def aYz:(iD 300 none aAp).ok Qo 299:=rN O aXQ aSB
def TV(l:List Mt):aF (Ax l) 3=3:=XB
def OP(nl:Bool)(xs:List D):Prop:=xs=Ax (B7 xs)∧xs.length<=1000000∧(nl=true->xs=[])
def MH{nl:Bool}{l:List Mt}(hl:l.length<=1000000)(c:nl=true->l=[]):OP nl (Ax l):=⟨by rw[Bd],by rw[AC];exact hl,λh=>by rw[c h];rfl⟩
def Lm{nl:Bool}{xs:List D}(h:OP nl xs):∃l:List Mt,xs=Ax l∧l.length<=1000000∧(nl=true->l=[])∧B7 xs=l:=by
 refine⟨B7 xs,h.1,?_,λc=>?_,rfl⟩
 ·have:=h.2.1;rw[h.1,AC]at this;exact this
 ·rw[h.2.2 c];rfl
open Classical in
def aLH:List D->Option D
 |[.slice nl _ xs]=>if OP nl xs then some (.slice nl [] xs)else none
 |_=>none
open Classical in
def aLG{nl:Bool}{t:Id}{l:List Mt}(hl:l.length<=1000000)(c:nl=true->l=[]):aLH [.slice nl t (Ax l)]=some (.slice nl [] (Ax l)):=by
 show(if _ then _ else _)=_;rw[if_pos (MH hl c)]
def aVH:Kq aLH 165:=by
 refine AB (S:=λ_=>none) AO (Al func165:Fn Qo 165 8 aOm [.t 2]) (λds r h=>?_) (λds r h=>?_)
 ·unfold aLH at h;split at h
  ·simp
  ·cases h
 ·unfold aLH at h;split at h
  ·rename_i nl t xs;split at h
   ·rename_i g;obtain⟨l,rfl,hl,c,e⟩:=Lm g;simp only[Qt]at h;subst h;have n1:(Ax l).length*33<=140737488355328:=by rw[AC];omega
    unfold aOm;cases nl with
    |true=>
     have:=c rfl;subst this;simp only[↓GQ,GT,simprocAttr,GM,ID];rfl
    |false=>simp only[↓GQ,Hb,simprocAttr,Aj,false_and,aFm,n1,TV,CY,Cx,false_or,QY,ne_eq,QP,QT,ID]
   ·cases h
  ·cases h
open Classical in
def aL9:List D->Option D
 |[.agg [.slice nl _ xs]]=>if OP nl xs then some (.slice nl [] xs)else none
 |_=>none
def aWa:Kq aL9 99:=by
 obtain⟨S,v,hl⟩:=A4 (Aa aVH Ae);have b:=hl 165 _ rfl;clear hl;refine AB (S:=S) v (Al func99:Fn Qo 99 6 aPj [.t 2]) (λds r h=>?_) (λds r h=>?_)
 ·unfold aL9 at h;split at h
  ·simp
  ·cases h
 ·unfold aL9 at h;split at h
  ·rename_i nl t xs;split at h
   ·rename_i g;obtain⟨l,rfl,hl,c,e⟩:=Lm g;simp only[Qt]at h;subst h;have a:=aLG (t:=[]) hl c;unfold aPj;simp only[↓GQ,Hb,simprocAttr,Aj,Ab b,a]
   ·cases h
  ·cases h
def Ur(bs:List Bool):BP bs<bs.length:=by
 unfold BP;cases h:bs.findIdx? id with
 |none=>simp only;omega
 |some k=>
  rw[QW]at h;obtain⟨s,_⟩:=h;simp only;omega
def aDt(l:List Mt)(p:Bs):CH l p<l.length:=by
 have:=Ur (l.map λm=>decide (m.1=p));rw[QJ]at this;exact this
open Classical in
def aHu:List D->Option D
 |[.agg [.slice _ _ xs],.str p]=>if xs=Ax (B7 xs)∧xs.length<=1000000 then some (.tup (if CH (B7 xs) p<0 then [HI ([],0,false),.int .i64 14]else [HI (AU (B7 xs) (CH (B7 xs) p).toNat),.int .i64 0]))else none
 |_=>none
def aV1:Kq aHu 310:=by
 obtain⟨S,x,hl⟩:=A4 (Aa aMO Ae);have g:=hl 143 _ rfl;clear hl;refine AB (S:=S) x (Al func310:Fn Qo 310 18 aO7 [.cell (some 3) 4,.t 5]) (λds r h=>?_) (λds r h=>?_)
 ·unfold aHu at h;split at h
  ·simp
  ·cases h
 ·unfold aHu at h;split at h
  ·rename_i nl t xs p;split at h
   ·rename_i hc;obtain⟨f,hl⟩:=hc;simp only[Qt]at h;subst h;generalize B7 xs=l at f;subst f;rw[AC]at hl;have c:=uJ (nl:=nl) (t:=[]) (p:=p) hl;have v:=aDt l p;unfold aO7;generalize CH l p=i at c v;by_cases hi:i<0
    ·simp only[↓GQ,Hb,simprocAttr,Aj,Ar,As,Qh,Qm,Qp,Qk,Qr,ZB,and_false,AY,Bi,Bw,Ab g,c,hi];simp[HI];rfl
    ·obtain⟨j,rfl⟩:=Int.eq_ofNat_of_zero_le (show 0<=i by omega);have w:j<l.length:=by omega
     have q:=nJ (j:=j);have ia:(Ax l)[j]?=some (.agg [.str (AU l j).1,.int .i64 (AU l j).2.1,.bool (AU l j).2.2]):=C4 w;simp only[↓GQ,Hb,simprocAttr,Aj,Ar,As,Qh,Qm,QB,Qz,Qp,Qk,Qr,ZB,and_false,AY,Bi,Ab g,c,hi,q,ia,Qs];simp[HI];rfl
   ·cases h
  ·cases h
def Fv{bs:List Bool}{j:Nat}(h:bs[j]?=some true)(p:∀i,i<j->bs[i]?=some false):BP bs=j:=by
 have w:j<bs.length:=(QX.1 h).1;have:bs.findIdx? id=some j:=by
  rw[QW];refine⟨w,by rw[Qq w]at h;simpa using h,λi hi=>?_⟩;have:=p i hi;rw[Qq O]at this;simp[Qt]at this;simp[this]
 simp only[BP,this]
def IS{bs:List Bool}(p:∀i,i<bs.length->bs[i]?=some false):BP bs=-1:=by
 have:bs.findIdx? id=none:=List.findIdx?_eq_none_iff.2 λb q=>by
  obtain⟨i,hi,rfl⟩:=Zq q;have:=p i hi;rw[Qq hi]at this;simpa using ZR this
 simp only[BP,this]
def BN(l:List Mt)(p:Bs):Int:=BP (l.map λm=>Ck p m.1)
def aPI:=y0 f147 [] []
def rG:=y1 f214 2 [] []
def aOO:=y0 f214 [] [(2,rG)]
def PE:=y1 f279 4 [] []
def PD:=y1 f279 1 [] [(4,PE)]
def aN2:=y0 f279 [] [(1,PD)]
def aON:=y0 f215 [] []
def aN1:=y0 f288 [] []
def aYj:=y0 f82 [(6,[(3,1)])] []
def m0t:Mt:=([],0,false)
def kD(a b:Mt):Bool:=decide (C6 a.1 b.1<0)
def bAW(i:Id)(m:GV)(xs:List Mt):Prop:=∀j,j<xs.length->m i (j*3)=some (.str (xs.getD j m0t).1)∧m i (j*3+1)=some (.int .i64 (xs.getD j m0t).2.1)∧m i (j*3+2)=some (.bool (xs.getD j m0t).2.2)
structure OC (i:Id) (m0 m:GV) (xs:List Mt):Prop where
 row:bAW i m xs
 out:∀i' o,(i'≠i∨xs.length*3<=o)->m i' o=m0 i' o
def OC.put{i:Id}{m0 m:GV}{xs:List Mt}(h:OC i m0 m xs){j:Nat}(w:j<xs.length){p:Bs}{q:Int}{b:Bool}:OC i m0 (m.put i (j*3) [.str p,.int .i64 q,.bool b]) (xs.set j (p,q,b)):=by
 refine⟨λk s=>?_,λu o ho=>?_⟩
 ·rw[Zn]at s;by_cases e:k=j
  ·grind [m0t,Aj]
  ·have a:(xs.set j (p,q,b)).getD k m0t=xs.getD k m0t:=by simp[Zp,List.getElem?_set_ne (Ne.symm e)]
   rw[a];have c:∀d,d<3->¬(i=i∧j*3<=k*3+d∧k*3+d<j*3+[D.str p,.int .i64 q,.bool b].length):=by
    intro d z;simp;omega
   obtain⟨a1,t,n⟩:=h.row k s;exact⟨by rw[Aj,if_neg (by have:=c 0 O;rwa [Zf]at this)];exact a1,by rw[Aj,if_neg (c 1 O)];exact t,by rw[Aj,if_neg (c 2 O)];exact n⟩
 ·rw[Zn]at ho;rw[Aj,if_neg (by rintro⟨e,h1,h2⟩;simp at h2;rcases ho with ho|ho;exact ho e;omega)];exact h.out u o ho
def OC.swp{i:Id}{m0 m:GV}{xs:List Mt}(h:OC i m0 m xs){j:Nat}(w:j+1<xs.length){x y:Mt}(f:xs.getD j m0t=x)(d:xs.getD (j+1) m0t=y):
  OC i m0 ((m.put i ((j+1)*3) [.str x.1,.int .i64 x.2.1,.bool x.2.2]).put i (j*3) [.str y.1,.int .i64 y.2.1,.bool y.2.2]) (Go.Vd.swp m0t xs j):=by
 unfold Go.Vd.swp;rw[f,d];exact(h.put (j:=j+1) w).put (by rw[Zn];omega)
def h108(a b:Mt):aAE [HI a,HI b]=some (.int .i64 (C6 a.1 b.1)):=rfl
def aCn{S:GR}{fr i:Id}{n:Nat}{m0:GV}{i8:Nat}{Q:Ex->St->Prop}(a:S 148=some (Ac aAE))(hn:n<=1000):
  ∀(j:Nat)(xs:List Mt) z g,xs.length=n->j<n->z.s 0= .row i n->z.s 1= .int .i64 0->z.s 2= .int .i64 (n:Int)->z.s 3= .fn 148 []->z.s 8= .int .i64 (i8:Int)->z.s 9= .int .i64 (j:Int)->OC i m0 z.m xs->
   (∀o,o.s 0= .row i n->o.s 1= .int .i64 0->o.s 2= .int .i64 (n:Int)->o.s 3= .fn 148 []->o.s 8= .int .i64 (i8:Int)->OC i m0 o.m (Se kD m0t xs j)->Q (.exit 2) o)->AK S fr PE Q z g:=by
 intro j;induction j with
 |zero=>
  intro xs z g hl e r u q k h8 h9 I w;refine Af PE.eq_1 ?_;have c:¬((0:Int)<((0:Nat):Int)):=O
  simp only[↓GQ,GX,Hf,simprocAttr,u,h9,c];refine AJ ?_;simp only[↓GQ,GX,reduceIte,Qj];exact w _ r u q k h8 I
 |succ j ih=>
  intro xs z g hl e r u q k h8 h9 I w;refine Af PE.eq_1 ?_;have c:((0:Int)<((j+1:Nat):Int)):=O
  have w1:IntKind.i64.wrap (((j+1:Nat):Int)-1)=(j:Int):=Xg
  have ma:=nJ (j:=j);have d:(0:Int)<=((j+1:Nat):Int):=O
  have l:((j:Int)<(n:Int)):=O
  have b:(((j+1:Nat):Int)<(n:Int)):=O
  have bn:(3=1)=False:=U
  obtain⟨a0,a1,a2⟩:=I.row j O;obtain⟨b0,b1,b2⟩:=I.row (j+1) O;obtain⟨x,f⟩:∃x,xs.getD j m0t=x:=⟨_,rfl⟩;obtain⟨y,hy⟩:∃y,xs.getD (j+1) m0t=y:=⟨_,rfl⟩;have la:=w;unfold Se at la;have v:kD (xs.getD (j+1) m0t) (xs.getD j m0t)=decide (C6 (xs.getD (j+1) m0t).1 (xs.getD j m0t).1<0):=rfl;rw[v]at la;rw[f]at a0 a1 a2 la;rw[hy]at b0 b1 b2 la;clear v;have p:=h108 y x;simp only[HI]at p;obtain⟨ja,ga,t⟩:=z;simp only at r u q k h8 h9 a0 a1 a2 b0 b1 b2 I;by_cases v:C6 y.1 x.1<0
  ·rw[if_pos (by simpa using v)]at la;have q1:((j+1)*3<=j*3)=False:=eq_false O;have q2:((j+1)*3<=j*3+1)=False:=eq_false O;have q3:((j+1)*3<=j*3+1+1)=False:=eq_false O;have ha:decide (C6 y.1 x.1<0)=true:=by simpa using v
   simp only[↓GQ,GT,simprocAttr,r,u,k,h9,c,ma,d,l,b,w1,bn,Qs,a0,a1,a2,b0,b1,b2,v,Ab a,p,Ar,As,and_self,Qm];refine AJ ?_;simp only[↓GQ,GX,Hx,simprocAttr,r,h9,ma,d,l,b,w1,bn,Qs,a0,a1,a2,b0,b1,b2,q1,q2,q3,false_and,and_false,Aj,Ar,As,Hs,and_self,Qm,Qp];refine AJ ?_;simp only[↓GQ,GX,simprocAttr,h9,w1,bn];refine ih _ _ _ (by rw[oL];exact hl) O r u q k h8 rfl ?_ la;exact I.swp O f hy
  ·rw[if_neg (by simpa using v)]at la;simp only[↓GQ,GT,simprocAttr,r,u,k,h9,c,ma,d,l,b,w1,bn,Qs,a0,a1,a2,b0,b1,b2,v,Ab a,p,Ar,As,and_self,Qm];refine AJ ?_;simp only[↓GQ,GX,reduceIte,Qj,bn];exact la _ r u q k h8 I
def aCm{S:GR}{fr i:Id}{n:Nat}{m0:GV}{Q:Ex->St->Prop}(a:S 148=some (Ac aAE))(c:n<=1000){zs:List Mt}
  (b:∀z,OC i m0 z.m zs->Q (.exit 0) z):
  ∀(f k:Nat)(xs:List Mt) z g,xs.length=n->k+f=n->Dv kD m0t f k xs=zs->z.s 0= .row i n->z.s 1= .int .i64 0->z.s 2= .int .i64 (n:Int)->z.s 3= .fn 148 []->z.s 8= .int .i64 (k:Int)->OC i m0 z.m xs->
   AK S fr PD Q z g:=by
 intro f;induction f with
 |zero=>
  intro k xs z g hl j e y u q d w I;refine Af PD.eq_1 ?_;have:¬((k:Int)<n):=O
  simp only[↓GQ,GX,Hf,simprocAttr,q,w,this];exact b _ (by rw[←e];exact I)
 |succ f ih=>
  intro k xs z g hl j e y u q d w I;refine Af PD.eq_1 ?_;have v:((k:Int)<n):=O
  have t:IntKind.i64.wrap ((k:Int)+1)=((k+1:Nat):Int):=Hg O O;simp only[↓GQ,GX,Hf,simprocAttr,q,w,v];refine aCn (i8:=k) (m0:=m0) a c k xs _ _ hl O y u q d w rfl I (λo g0 r x p g8 I'=>?_);simp only[↓GQ,GX,simprocAttr,g8,t];exact ih (k+1) _ _ _ (by rw[Sd];exact hl) O e g0 r x p rfl I'
def NZ(m:GV)(i:Id):Nat->Nat->Option (List Mt)
 |0,_=>some []
 |f+1,j=>match m i (j*3),m i (j*3+1),m i (j*3+2),NZ m i f (j+1)with
  |some (.str p),some (.int .i64 q),some (.bool b),some l=>some ((p,q,b)::l)
  |_,_,_,_=>none
def TL{m:GV}{i:Id}:∀{f j:Nat} {xs:List Mt},NZ m i f j=some xs->xs.length=f∧∀k,k<f->m i ((j+k)*3)=some (.str (xs.getD k m0t).1)∧m i ((j+k)*3+1)=some (.int .i64 (xs.getD k m0t).2.1)∧m i ((j+k)*3+2)=some (.bool (xs.getD k m0t).2.2)
 |0,j,xs,h=>by
  simp only[NZ,Qt]at h;subst h;exact⟨rfl,λk s=>absurd s (Nat.not_lt_zero _)⟩
 |f+1,j,xs,h=>by
  unfold NZ at h;split at h
  ·rename_i p q b l n t c g;simp only[Qt]at h;subst h;obtain⟨r,a⟩:=TL g;refine⟨by simp[r],λk s=>?_⟩;cases k with
   |zero=>exact⟨n,t,c⟩
   |succ k=>
    have:=a k O;rw[show j+1+k=j+(k+1)by omega]at this;exact this
  ·cases h
def bL{m m':GV}{i:Id}:∀{f j n:Nat},j+f<=n->(∀o,o<n*3->m i o=m' i o)->NZ m i f j=NZ m' i f j
 |0,j,n,_,_=>rfl
 |f+1,j,n,hn,h=>by
  unfold NZ;rw[h (j*3) O,h (j*3+1) O,h (j*3+2) O,bL (f:=f) (j:=j+1) O h]
def aIv{m:GV}{i:Id}{xs:List Mt}(h:∀j d,(flat (Ax xs))[j]?=some d->m i j=some d):NZ m i xs.length 0=some xs:=by
 have key:∀(ys k:List Mt),k++ys=xs->NZ m i ys.length k.length=some ys:=by
  intro ys;induction ys with
  |nil=>intro k _;rfl
  |cons y r ih=>
   intro k o;have c:∀x∈Ax xs,x.cells.length=3:=λx f=>Y8
   have v:k.length<(Ax xs).length:=by rw[AC,←o];simp
   have a:(Ax xs)[k.length]=HI y:=by simp[Ax,←o]
   have b:=h _ _ ((E3 c v (j:=0) O).trans (by rw[a];rfl));have p:=h _ _ ((E3 c v (j:=1) O).trans (by rw[a];rfl));have t:=h _ _ ((E3 c v (j:=2) O).trans (by rw[a];rfl));have:=ih (k++[y]) (by rw[←o];simp);rw[Qw]at this;rw[Zf]at b;have this:NZ m i r.length (k.length+1)=some r:=this;simp only[Qv,NZ,b,p,t,this]
 exact key xs [] rfl
def TF(m:GV)(i:Id)(n:Nat):Option (D×Ha):=if n<=12∧1<=n then(NZ m i n 0).map λxs=>(.tup [],[(i,0,flat (Ax (Dv kD m0t (n-1) 1 xs)))])else none
def EQ(y:List D->Option (Id×Nat)):HA where
 rd:=λds _=>match y ds with
  |some (i,n)=>(ZF (n*3)).map λo=>(i,o)
  |none=>[]
 ex:=λds m _=>match y ds with
  |some (i,n)=>TF m i n
  |none=>none
def NW(y:List D->Option (Id×Nat)):∀ds m m' fr,(∀l∈(EQ y).rd ds m,m l.1 l.2=m' l.1 l.2)->(EQ y).ex ds m fr=(EQ y).ex ds m' fr:=by
 intro ds m m' fr h;simp only[EQ]at h ⊢;cases hs:y ds with
 |none=>rfl
 |some p=>
  obtain⟨i,n⟩:=p;simp only[hs]at h ⊢;unfold TF;split
  ·rw[bL (m:=m) (m':=m') (n:=n) O λo r=>h (i,o) (QU.2 ⟨o,by simpa using r,rfl⟩)]
  ·rfl
def LY{y:List D->Option (Id×Nat)}{ds:List D}{m:GV}{fr:Id}{r:D}{u:Ha}(h:(EQ y).ex ds m fr=some (r,u)):
  ∃i n xs,y ds=some (i,n)∧n<=12∧1<=n∧NZ m i n 0=some xs∧xs.length=n∧OC i m m xs∧r= .tup []∧u=[(i,0,flat (Ax (Dv kD m0t (n-1) 1 xs)))]:=by
 simp only[EQ]at h;cases hs:y ds with
 |none=>rw[hs]at h;cases h
 |some p=>
  obtain⟨i,n⟩:=p;simp only[hs]at h;unfold TF at h;split at h
  ·rename_i g;rw[Q4]at h;obtain⟨xs,f,h⟩:=h;simp only[QV]at h;obtain⟨rfl,rfl⟩:=h;obtain⟨k,a⟩:=TL f;exact⟨i,n,xs,rfl,g.1,g.2,f,k,⟨λj w=>by have:=a j O;rwa [QR]at this,λ_ _ _=>rfl⟩,rfl,rfl⟩
  ·cases h
def OC.fin{i:Id}{m0 m:GV}{xs:List Mt}(h:OC i m0 m xs):∀u o x,(m0.put i 0 (flat (Ax xs))) u o=some x->m u o=some x:=by
 intro u o x f;have c:∀x∈Ax xs,x.cells.length=3:=λx f=>Y8
 have q:=C_ c;rw[AC]at q;rw[Aj]at f;split at f
 ·rename_i g;obtain⟨rfl,_,r⟩:=g;rw[Q3]at f;have s:o / 3<xs.length:=by omega
  have v:o / 3<(Ax xs).length:=by rw[AC];exact s
  have a:(Ax xs)[o / 3]=HI (xs.getD (o / 3) m0t):=by simp[Ax,Qq s]
  obtain⟨b,a1,t⟩:=h.row (o / 3) s;have w:o % 3<3:=Nat.mod_lt _ O;have e:o / 3*3+o % 3=o:=O
  have:=E3 c v w;rw[e,f,a]at this;have h3:o % 3=0∨o % 3=1∨o % 3=2:=O
  rcases h3 with h3|h3|h3
  ·rw[h3]at this e;rw[Zf]at e;rw[←e,b,this];rfl
  ·rw[h3]at this e;rw[←e,a1,this];rfl
  ·rw[h3]at this e;rw[←e,t,this];rfl
 ·rename_i g;rw[←f];refine h.out u o ?_;by_cases e:u=i
  ·simp_all
  ·exact .inl e
def oU:List D->Option (Id×Nat)
 |[.row i n,.int .i64 0,.int .i64 k,.fn 148 []]=>if k=(n:Int)then some (i,n)else none
 |_=>none
def aVu:(EQ oU).ok Qo 279:=by
 obtain⟨S,v,hl⟩:=A4 (Aa aWf Ae);have a:=hl 148 _ rfl;clear hl;refine N4 v (Al func279:Fn Qo 279 53 aN2 []) (NW _) (λds m fr r u w na=>?_);obtain⟨i,n,xs,y,c,pa,j,hl,I,rfl,rfl⟩:=LY w;unfold oU at y;split at y
 ·split at y
  ·rename_i s;simp only[Qt,QV]at y;obtain⟨rfl,rfl⟩:=y;subst s;refine⟨U,?_⟩;rename_i i n;have t:IntKind.i64.wrap ((0:Int)+1)=((1:Nat):Int):=rfl;unfold aN2;simp only[↓GQ,GX,simprocAttr,t];refine aCm (m0:=m) (zs:=Dv kD m0t (n-1) 1 xs) a O (λo b=>?_) (n-1) 1 xs _ _ hl O rfl rfl rfl rfl rfl rfl I;simp only[↓GQ,GX,Hf,reduceIte];exact b.fin
  ·cases y
 ·cases y
def oV:List D->Option (Id×Nat)
 |[.row i n,.int .i64 0,.int .i64 k,.int .i64 _,.fn 148 []]=>if k=(n:Int)then some (i,n)else none
 |_=>none
def aVR:(EQ oV).ok Qo 214:=by
 obtain⟨S,v,hl⟩:=A4 (Aa aVu Ae);have a:=hl 279 _ rfl;clear hl;refine N4 v (Al func214:Fn Qo 214 148 aOO []) (NW _) (λds m fr r u w na=>?_);obtain⟨i,n,xs,y,c,pa,j,hl,I,rfl,rfl⟩:=LY w;unfold oV at y;split at y
 ·split at y
  ·rename_i s;simp only[Qt,QV]at y;obtain⟨rfl,rfl⟩:=y;subst s;refine⟨U,?_⟩;rename_i i n _;have t:IntKind.i64.wrap ((n:Int)-0)=(n:Int):=by rw[Hg O O];omega
   have ta:((n:Int)<=12):=O
   have z:∀fr,(EQ oU).ex ([.row i n,.int .i64 0,.int .i64 (n:Int),.fn 148 []]++[]) m fr=some (.tup [],[(i,0,flat (Ax (Dv kD m0t (n-1) 1 xs)))]):=by
    grind [EQ,oU,TF]
   unfold aOO;simp only[↓GQ,GX,Ql];refine Af rG.eq_1 ?_;simp only[↓GQ,GX,Hf,simprocAttr,t,ta];rw[A7 a];refine aI (z _) ?_;simp only[↓GQ,GX,Hf];exact λ_ _ _ h=>h
  ·cases y
 ·cases y
def aZk:List D->Option D:=Ol (λ_=>none) 25 aN1 [.t 2] 60
def aVt:Kq aZk 288:=Ok AO (Al func288:Fn Qo 288 25 aN1 [.t 2]) 60
def aK5:List D->Option D:=Ol (Az [(288,Ac aZk)]) 8 aON [.t 2] 60
def aVQ:Kq aK5 215:=Ok (Aa aVt Ae) (Al func215:Fn Qo 215 8 aON [.t 2]) 60
def isI:Option D->Bool
 |some (.int .i64 _)=>true
 |_=>false
def aFX:(ZF 13).all (λn=>isI (aK5 [.int .u64 (n:Nat)]))=true:=Xa
def aFW{n:Nat}(h:n<=12):∃k,aK5 [.int .u64 (n:Nat)]=some (.int .i64 k):=by
 have:=Q_.1 aFX n Xc;generalize aK5 [.int .u64 (n:Nat)]=r at this;unfold isI at this;split at this
 ·exact⟨_,rfl⟩
 ·cases this
def oX:List D->Option (Id×Nat)
 |[.row i n,.fn 148 []]=>some (i,n)
 |_=>none
def aWg:(EQ oX).ok Qo 147:=by
 obtain⟨S,v,hl⟩:=A4 (Aa aVQ (Aa aVR Ae));have a:=hl 215 _ rfl;have b:=hl 214 _ rfl;clear hl;refine N4 v (Al func147:Fn Qo 147 14 aPI []) (NW _) (λds m fr r u w na=>?_);obtain⟨i,n,xs,y,c,pa,j,hl,I,rfl,rfl⟩:=LY w;unfold oX at y;split at y
 ·simp only[Qt,QV]at y;obtain⟨rfl,rfl⟩:=y;refine⟨U,?_⟩;rename_i i n;have t:IntKind.u64.wrap ((n:Nat):Int)=((n:Nat):Int):=by simp only[IntKind.wrap,IntKind.signed,IntKind.bits,QF,QA,if_false];omega
  obtain⟨k,s⟩:=aFW c;have z:∀fr,(EQ oV).ex ([.row i n,.int .i64 0,.int .i64 (n:Int),.int .i64 k,.fn 148 []]++[]) m fr=some (.tup [],[(i,0,flat (Ax (Dv kD m0t (n-1) 1 xs)))]):=by
   grind [EQ,oV,TF]
  unfold aPI;simp only[↓GQ,GT,simprocAttr,t,Ab a,s];rw[A7 b];refine aI (z _) ?_;simp only[↓GQ,GX,Hf];exact λ_ _ _ h=>h
 ·cases y
def aSK:Fn Qo 146 36 (MS 9 154 3 32 213) [.t 2]:=(Al func146:Fn Qo 146 36 aYw [.t 2])
def aQ8:(wC λds=>(UP 3 ds).bind λys=>if(flat ys).all D.plain=true then some ys else none).ok Qo 146:=aJ6 aSK O aVS
def FC:List D->Option (List D):=λds=>(UP 3 ds).bind λys=>if(flat ys).all D.plain=true then some ys else none
def jS(l:List Mt):(flat (Ax l)).all D.plain=true:=by
 induction l with
 |nil=>rfl
 |cons m r ih=>simp only[Ax,QN,flat,HI,D.cells,ZA,Zc,QT,D.plain,Zj,Zr];exact ih
def cK(a b:List Mt):Ax (a++b)=Ax a++Ax b:=Za
def aIY(l:List Mt):(Ax l).all (iQ 3)=true:=Ya
def aZp{l:List Mt}{m:Mt}{nl:Bool}(hl:l.length<=1000):FC [.slice false [] [.slice nl [] (Ax l),.slice false [] [HI m]]]=some (Ax (l++[m])):=by
 have g:FP [.slice nl [] (Ax l),.slice false [] [HI m]]=some (Ax (l++[m])):=by
  simp only[FP,QD,Q6,cK];rfl
 have y:(Ax (l++[m])).length=l.length+1:=by rw[AC,Qw];rfl
 simp only[FC,UP,g];rw[if_pos ⟨U,O,O,aIY _⟩,Qm,if_pos (jS _)]
def CK(l:List Mt)(m:Mt):Option (List Mt)×Int:=
 if Cp m.1 m.2.1≠0 then(none,Cp m.1 m.2.1)else if 0<=CH l m.1 then(none,20)else if Ei m.1 (l.map (·.1))=true then(none,15)else if 4<=l.length then(none,24)
 else(some (Dv kD m0t l.length 1 (l++[m])),0)
def iP(nl:Bool)(l:List Mt)(o:Option (List Mt)):D:=match o with
 |none=> .agg [.slice nl [] (Ax l)]
 |some z=> .agg [.slice false [] (Ax z)]
open Classical in
def F45:List D->Option D
 |[.agg [.slice nl _ xs],.agg [.str p,.int .i64 q,.bool b]]=>if OP nl xs∧xs.length<=1000∧p.length<=1000000 then some (.tup [iP nl (B7 xs) (CK (B7 xs) (p,q,b)).1,.int .i64 (CK (B7 xs) (p,q,b)).2])else none
 |_=>none
open Classical in
def aHc{nl:Bool}{t:Id}{l:List Mt}{m:Mt}(hl:l.length<=1000)(c:nl=true->l=[])(o:m.1.length<=1000000):F45 [.agg [.slice nl t (Ax l)],HI m]=some (.tup [iP nl l (CK l m).1,.int .i64 (CK l m).2]):=by
 have h:OP nl (Ax l)∧(Ax l).length<=1000∧m.1.length<=1000000:=⟨MH O c,by rw[AC];exact hl,o⟩;show(if _ then _ else _)=_;rw[if_pos h,Bd]
def aBn{i:Id}{n:Nat}:(D.row i n).data=true:=rfl
def vM{i:Id}{n:Nat}:(D.row i n).cells=[.row i n]:=rfl
def jT(nl:Bool)(l:List Mt)(o:Option (List Mt))(e:Int):(D.tup [iP nl l o,.int .i64 e]).calmR=true:=by
 cases o<;>rfl
def aVa:Kq F45 82:=by
 obtain⟨S,hS,hl⟩:=A4 (Aa aWj (Aa aMO (Aa aWi (Aa aWh (Aa aQ8 (Aa aWg Ae))))));have i:=hl 142 _ rfl;have g:=hl 143 _ rfl;have o:=hl 144 _ rfl;have n:=hl 145 _ rfl;have w:=hl 146 _ rfl;have v:=hl 147 _ rfl;clear hl;refine qR hS (Al func82:Fn Qo 82 44 aYj [.cell (some 1) 4,.t 5]) (λds r h=>?_) (λds r h=>?_)
 ·unfold F45 at h;split at h
  ·simp
  ·cases h
 ·unfold F45 at h;split at h
  ·rename_i nl t xs p q b;split at h
   ·rename_i hc;obtain⟨hc,ea,hp⟩:=hc;obtain⟨l,rfl,hl,hn,e⟩:=Lm hc;rw[e]at h;rw[AC]at ea;simp only[Qt]at h;subst h;refine⟨jT ..,?_⟩;have f:aMh [.agg [.str p,.int .i64 q,.bool b]]=some (.int .i64 (Cp p q)):=if_pos hp;have c:=uJ (nl:=nl) (t:=[]) (p:=p) hl;have k:=aMd (nl:=nl) (t:=t) hl;have a:=aMf (s:=p) (nl:=false) (t:=[]) (l:=l.map (·.1)) Xo;have fa:∀mm fr,(wC FC).ex [D.slice false [30] [D.slice nl [] (Ax l),D.slice false [] [D.agg [D.str p,D.int IntKind.i64 q,D.bool b]]]] mm fr=some (.row fr (l.length+1),[(fr,0,flat (Ax (l++[(p,q,b)])))]):=by
     intro mm fr;have h1:FC ([D.slice false [30] [D.slice nl [] (Ax l),D.slice false [] [D.agg [D.str p,D.int IntKind.i64 q,D.bool b]]]].map D.un)=some (Ax (l++[(p,q,b)])):=aZp (m:=(p,q,b)) ea;simp only[wC,h1];refine(if_pos rfl).trans ?_;rw[QD,AC,Qw];rfl
    have u:l.length<4->∀mm fr,(∀(j:Nat) d,(flat (Ax (l++[(p,q,b)])))[j]?=some d->mm [31] j=some d)->(EQ oX).ex [.row [31] (l.length+1),.fn 148 []] mm fr=some (.tup [],[([31],0,flat (Ax (Dv kD m0t l.length 1 (l++[(p,q,b)]))))]):=by
     intro z mm fr hm;have hr:=aIv hm;rw[Qw]at hr;simp only[EQ,oX,TF];rw[if_pos ⟨O,O⟩,show l.length+1=l.length+[(p,q,b)].length from rfl,hr];rfl
    unfold aYj CK;simp only;generalize Cp p q=e1 at *;generalize CH l p=e2 at *;generalize Ei p (l.map (·.1))=e3 at *;by_cases he:e1=0
    ·subst he;by_cases ga:0<=e2
     ·simp only[↓GQ,Hb,simprocAttr,Ab i,f,Ab g,c,ne_eq,Aj,Ar,As,Qh,Qm,Qp,Qk,Qr,and_false,Qn,AY,Bi,ga];exact .inr ⟨_,_,rfl,rfl,.inl (.inl rfl),.inl (.inl rfl),trivial⟩
     ·cases e3 with
      |true=>
       simp only[↓GQ,Hb,simprocAttr,Ab i,f,Ab g,c,Ab o,a,A7 n,U9,k,ne_eq,Aj,Ar,As,Qh,Qm,Qk,Qr,and_false,Qn,ga];refine AJ ?_;simp only[↓GQ,Hb,simprocAttr,Aj,Ar,As,Qm,Qp,Qk,Qr,Qn,AY,Bi,ga];exact .inr ⟨_,_,rfl,rfl,.inl (.inl rfl),.inl (.inl rfl),trivial⟩
      |false=>
       by_cases h4:4<=l.length
       ·have ba:(4:Int)<=(l.length:Int):=by omega
        simp only[↓GQ,Hb,simprocAttr,Ab i,f,Ab g,c,Ab o,a,A7 n,U9,k,ne_eq,Aj,Ar,As,Qh,Qm,Qk,Qr,and_false,Qn,ga];refine AJ ?_;simp only[↓GQ,Hb,simprocAttr,AC,Aj,Ar,As,Qm,Qp,Qk,Qr,Qn,AY,Bi,ga,ba,h4];exact .inr ⟨_,_,rfl,rfl,.inl (.inl rfl),.inl (.inl rfl),trivial⟩
       ·have ba:¬(4:Int)<=(l.length:Int):=by omega
        simp only[↓GQ,Hb,simprocAttr,Ab i,f,Ab g,c,Ab o,a,A7 n,U9,k,ne_eq,Aj,Ar,As,Qh,Qm,Qk,Qr,and_false,Qn,ga];refine AJ ?_;simp only[↓GQ,Hb,simprocAttr,A7 w,AC,Aj,Ar,As,Qh,Qm,Qk,Qr,and_false,Qn,ba];refine aI (fa _ _) ?_;simp only[↓GQ,GT,simprocAttr,A7 v];refine aI (u O _ _ (λj d hd=>?_)) ?_
        ·grind [Aj]
        simp only[↓GQ,Hb,simprocAttr,aBn,vM,Bw,Eh,Aj,Ar,As,Qm,Qz,Qp,QM,QG,Qk,false_and,Qn,AY,Bi,ga,h4];refine .inr ⟨_,_,rfl,rfl,.inr ⟨_,_,rfl,rfl,.inr (.inl ⟨[31],_,3,?_,rfl,?_,?_⟩),trivial⟩,.inl (.inl rfl),trivial⟩
        ·grind [AC,isortR_len]
        ·intro x hx;obtain⟨y,_,rfl⟩:=QU.1 hx;exact⟨rfl,rfl⟩
        ·grind [aB,Aj]
    ·simp only[↓GQ,Hb,simprocAttr,Ab i,f,ne_eq,Aj,Ar,As,Qh,Qm,Qp,Qk,Qr,and_false,Qn,AY,Bi,he];exact .inr ⟨_,_,rfl,rfl,.inl (.inl rfl),.inl (.inl rfl),trivial⟩
   ·cases h
  ·cases h
def PI:=y1 f325 2 [] []
def aOn:=y0 f325 [] [(2,PI)]
def aEc:=y0 f311 [] []
def aJe{S:GR}{l:List Mt}{p:Bs}{nl:Bool}{t:Id}{Q:Ex->St->Prop}(k:l.length<=1000000)(d:S 278=some (Ac aAv))
  (oa:∀z (m:Mt),BN l p≠-1->m=AU l (BN l p).toNat->z.s 4= .ptr [1] 0->z.s 5= .int .i64 0->z.m [1] 0=some (.str m.1)->z.m [1] 1=some (.int .i64 m.2.1)->z.m [1] 2=some (.bool m.2.2)->Q .ret z)
  (fa:∀z a b c,BN l p=-1->z.s 4= .ptr [1] 0->z.m [1] 0=some a->z.m [1] 1=some b->z.m [1] 2=some c->Q (.exit 0) z):
  ∀(f j:Nat) z g a b c,l.length=j+f->(∀i,i<j->(l.map λm=>Ck p m.1)[i]?=some false)->2<=z.c->z.s 1= .str p->z.s 4= .ptr [1] 0->z.s 9= .slice nl t (Ax l)->z.s 10= .int .i64 (l.length:Int)->z.s 11= .int .i64 (j:Int)->
   z.m [1] 0=some a->z.m [1] 1=some b->z.m [1] 2=some c->AK S [] PI Q z g:=by
 intro f;induction f with
 |zero=>
  intro j z g a b c hf ka hc u x h9 w o y qa sa;refine Af PI.eq_1 ?_;have v:¬((j:Int)<l.length):=O
  simp only[↓GQ,GX,Hf,reduceIte,Ql,w,o,v];exact fa _ a b c (IS Yx) x y qa sa
 |succ f ih=>
  intro j z g a b c hf ka hc u x h9 w o y qa sa;refine Af PI.eq_1 ?_;have hj:j<l.length:=O
  have v:((j:Int)<l.length):=O
  have n:=nJ (j:=j);have hw:=wJ (j:=j) O;have ia:(Ax l)[j]?=some (.agg [.str (AU l j).1,.int .i64 (AU l j).2.1,.bool (AU l j).2.2]):=C4 hj;have e:(l.map λm=>Ck p m.1)[j]?=some (Ck p (AU l j).1):=by simp[AU,Qq hj]
  have ta:([z.c+1+2]=([1]:Id))=False:=eq_false U;have na:(([1]:Id)=[z.c+1+2])=False:=eq_false U;obtain⟨m,q⟩:∃m,AU l j=m:=⟨_,rfl⟩;rw[q]at ia e;have h:aAv [.str p,.str m.1]=some (.bool (Ck p m.1)):=rfl;obtain⟨ja,ga,r⟩:=z;simp only at u x h9 w o y qa sa ta na hc;cases hq:Ck p m.1 with
  |true=>
   rw[hq]at e h;have hr:BN l p=(j:Int):=Fv e ka;simp only[↓GQ,Hb,simprocAttr,u,x,h9,w,o,v,n,Qs,ia,na,y,qa,sa,Ab d,h,QL,Aj,Ar,As,Qh,Qm,QB,Qz,Qp];refine oa _ m (by rw[hr];omega) (by rw[hr];exact q.symm) x rfl ?_ ?_ ?_<;>simp only[Hf,simprocAttr,na,y,qa,sa,QL,Aj,QH,Q3,Hs,Qu,Qh,and_self]
  |false=>
   rw[hq]at e h;simp only[↓GQ,Hb,simprocAttr,u,h9,w,o,v,n,hw,Qs,ia,Ab d,h,QL,Aj,Ar,As,Qh,Qm,QB,Qz,Qp];refine ih (j+1) _ _ a b c O (λi hi=>?_) Xb u x h9 w rfl ?_ ?_ ?_
   ·grind
   all_goals simp only[Hx,Hf,simprocAttr,na,y,qa,sa,QL,Aj,QH,Q3,Hs,Qu,Qh,and_self]
def L_(l:List Mt)(p:Bs):D:=if BN l p=-1 then .tup [HI m0t,.int .i64 14]else .tup [HI (AU l (BN l p).toNat),.int .i64 0]
open Classical in
def aHm:List D->Option D
 |[.agg [.slice _ _ xs],.str p]=>if xs=Ax (B7 xs)∧xs.length<=1000000 then some (L_ (B7 xs) p)else none
 |_=>none
open Classical in
def uD{nl:Bool}{t:Id}{l:List Mt}{p:Bs}(hl:l.length<=1000000):aHm [.agg [.slice nl t (Ax l)],.str p]=some (L_ l p):=by
 have h:Ax l=Ax (B7 (Ax l))∧(Ax l).length<=1000000:=XO
 show(if _ then _ else _)=_;rw[if_pos h,Bd]
def aMB:Kq aHm 325:=by
 obtain⟨S,v,hl⟩:=A4 (Aa aMx Ae);have d:=hl 278 _ rfl;clear hl;refine AB (S:=S) v (Al func325:Fn Qo 325 22 aOn [.cell (some 3) 4,.t 5]) (λds r h=>?_) (λds r h=>?_)
 ·unfold aHm at h;split at h
  ·simp
  ·cases h
 ·unfold aHm at h;split at h
  ·rename_i nl t xs p;split at h
   ·rename_i g;obtain⟨f,hl⟩:=g;simp only[Qt]at h;subst h;generalize B7 xs=l at f;subst f;rw[AC]at hl;unfold aOn;simp only[↓GQ,Hb,simprocAttr,AC,Aj,Qk,Qr];refine aJe (l:=l) (p:=p) (nl:=nl) (t:=t) hl d (λz m y u x k m0 e w=>?_) (λz a b c y x m0 e w=>?_) l.length 0 _ _ (.str []) (.int .i64 0) (.bool false) O U Xb rfl rfl rfl rfl rfl ?_ ?_ ?_
    ·unfold L_;rw[if_neg y,←u];simp only[↓GQ,GT,Ql,x,k,m0,e,w,Ar,As,QR,Qm,AY,Bi];exact⟨rfl,rfl⟩
    ·unfold L_;rw[if_pos y];simp only[↓GQ,Hb,simprocAttr,x,m0,e,w,Bw,Aj,Ar,As,Qh,Qm,Qp,AY,Bi];exact⟨rfl,rfl⟩
    all_goals simp only[Hx,Hf,simprocAttr,Aj,QH,Q3,Hs,Qu,Qh,and_self,Qk,and_false,Qn]
   ·cases h
  ·cases h
open Classical in
def aHt:List D->Option D
 |[.agg [.bool se,.int .i64 te,.str key,.slice nlm tm xs,.slice nlt tt ys],.str p]=>if xs=Ax (B7 xs)∧xs.length<=1000000 then some (.bool (decide (BN (B7 xs) p≠-1)))else none
 |_=>none
def aV0:Kq aHt 311:=by
 obtain⟨S,v,hl⟩:=A4 (Aa aMB Ae);have b:=hl 325 _ rfl;clear hl;refine AB (S:=S) v (Al func311:Fn Qo 311 16 aEc [.t 4]) (λds r h=>?_) (λds r h=>?_)
 ·unfold aHt at h;split at h
  ·simp
  ·cases h
 ·unfold aHt at h;split at h
  ·rename_i y n key c q xs d u ys p;split at h
   ·rename_i g;obtain⟨f,hl⟩:=g;simp only[Qt]at h;subst h;generalize B7 xs=l at f;subst f;rw[AC]at hl;have a:=uD (nl:=c) (t:=[]) (p:=p) hl;unfold L_ at a;by_cases j:BN l p=-1
    ·rw[if_pos j]at a;simp only[j,ne_eq,not_true_eq_false,decide_false];unfold aEc;simp only[↓GQ,Hb,simprocAttr,Ab b,a,HI,Aj,Ar,As,Qh,Qm,Qp,Qk,Qn]
     all_goals rfl
    ·rw[if_neg j]at a;simp only[j,ne_eq,not_false_eq_true,decide_true];unfold aEc;simp only[↓GQ,Hb,simprocAttr,Ab b,a,HI,Aj,Ar,As,Qh,Qm,Qp,Qk,Qn]
     all_goals rfl
   ·cases h
  ·cases h
def Ti(l:List Mt)(p:Bs):Nat->Nat
 |0=>0
 |j+1=>if Op.bytesLess (AU l j).1 p=true then j+1 else Ti l p j
def SO(l:List Mt)(m:Mt):Option (List Mt)×Int:=
 if Cp m.1 m.2.1≠0 then(none,Cp m.1 m.2.1)else if 0<=CH l m.1 then(none,20)else if Ei m.1 (l.map (·.1))=true then(none,15)else if 4<=l.length then(none,24)
 else(some (l.take (Ti l m.1 l.length)++m::l.drop (Ti l m.1 l.length)),0)
def aOj:=y0 Tryz.f169 [] []
def aOi:=y0 f229 [] []
def aOg:=y0 f231 [] []
def rE:=y1 f353 4 [] []
def aOf:=y0 f353 [] [(4,rE)]
def aNG:=y0 f374 [] []
def HP:=y1 f373 3 [] []
def aNH:=y0 f373 [] [(3,HP)]
def eS:=y0 f219 [] []
def aNj:Fn Qo 219 8 eS [.t 4]:=Al func219
def HQ:=y1 f291 4 [] []
def eQ:=y0 f291 [] [(4,HQ)]
def aNe:Fn Qo 291 26 eQ [.t 4]:=Al func291
def PA:=y1 f237 3 [] []
def aNW:=y0 f237 [] [(3,PA)]
def Pw:=y1 f375 3 [] []
def aNF:=y0 f375 [] [(3,Pw)]
def PJ:=y1 f60 6 [(8,[(7,3)])] []
def aOy:=y0 f60 [] [(6,PJ)]
structure Ak where
 op:Int
 tk:Bs
 pa:Bs
 ot:Bs
 n:Int
 cas:Int
 fl:Bool
 nln:Bool
 ns:List Int
 da:Bs
 nlr:Bool
 rs:List Rl
 key:Bs
def Bk(l:List Int):List D:=l.map (.int .i64)
def EM(l:List Int):(Bk l).length=l.length:=QJ ..
def Ln:∀{a b:List Int},Bk a=Bk b->a=b
 |[],[],_=>rfl
 |[],_::_,h=>by simp[Bk]at h
 |_::_,[],h=>by simp[Bk]at h
 |x::a,y::b,h=>by
  simp only[Bk,QN,Qk,D.int.injEq,true_and]at h;rw[h.1,Ln (a:=a) (b:=b) h.2]
def aC9(l:List Int):(Bk l).all (qZ none)=true:=Ya
theorem It{a b:List Rl}(h:Am a=Am b):a=b:=by rw[←AS a,h,AS]
theorem IE{a b:List Mt}(h:Ax a=Ax b):a=b:=by rw[←Bd a,h,Bd]
def Mu{a b:List Tk}(h:Au a=Au b):a=b:=by rw[←Bg a,h,Bg]
def Hq(a:Ak):List D:=[.int .u8 a.op,.str a.tk,.str a.pa,.str a.ot,.int .i64 a.n,.int .i64 a.cas,.bool a.fl,.slice a.nln [] (Bk a.ns),.str a.da,.slice a.nlr [] (Am a.rs),.str a.key]
def Hu(a:Ak):D:= .agg (Hq a)
theorem FG{a b:Ak}(h:Hu a=Hu b):a=b:=by
 cases a;cases b;simp only[Hu,Hq,D.agg.injEq,Qk,D.int.injEq,D.str.injEq,D.bool.injEq,D.slice.injEq,true_and,and_true]at h;obtain⟨u,q,d,x,k,i,p,⟨h8,y⟩,w,⟨o,v⟩,s⟩:=h;have t:=Ln y;have c:=It v;subst u q d x k i p h8 w o s t c;rfl
def Dj(b:Bool):Int:=if b=true then 0 else 4
def aUe:List D->Option D:=FX (λb:Bool=>[.bool b]) (λ_=>True) (λb=> .int .i64 (Dj b))
def HC(b:Bool):aUe [.bool b]=some (.int .i64 (Dj b)):=BG (mk:=λb:Bool=>[.bool b]) (λa b h=>Xp) trivial
def aMz:Kq aUe 169:=by
 refine B1 (S:=λ_=>none) AO (Al func169:Fn Qo 169 4 aOj [.t 2]) (λ_=>U) (λb _=>?_);unfold aOj;cases b<;>simp only[↓GQ,GT,reduceIte,Qj,Ql]
 all_goals exact Qe
def aZt:List D->Option D:=FX (λs:Bs=>[.str s]) (λs=>s.length<=1000000) (λs=> .bool (BJ s))
def uC{s:Bs}(h:s.length<=1000000):aZt [.str s]=some (.bool (BJ s)):=BG (mk:=λs:Bs=>[.str s]) (λa b h=>Xp) h
def aVE:Kq aZt 229:=by
 obtain⟨S,x,hl⟩:=A4 (Aa aIO Ae);have a:=hl 127 _ rfl;clear hl;refine B1 x (Al func229:Fn Qo 229 7 aOi [.t 2]) (λ_=>U) (λs g=>?_);have v:F98 [.agg [.int .u8 3,.str s,.int .i64 0]]=some (.int .i64 (Br 3 s 0)):=if_pos g;have j:Br 3 s 0=if BJ s=true then 0 else 2:=by simp[Br]
 rw[j]at v;unfold aOi;cases hn:BJ s<;>rw[hn]at v<;>simp only[if_true,QA,if_false]at v
 ·simp only[↓GQ,GT,reduceIte,Qj,Ql,Ab a,v,Bw,Eh,Qx,Hs,and_self,QB,Qz,QM,QG]
  all_goals exact Qe
 ·simp only[↓GQ,GT,reduceIte,Qj,Ql,Ab a,v,Bw,Eh,Qx,Hs,and_self,QB,Qz,QM,QG]
  all_goals exact Qe
def countB(l:List Int):Bool:=decide (l.length<=6)&&!(l.any λx=>!decide (1<=x∧x<=999))
def aZs:List D->Option D:=FX (λp:Bool×List Int=>[.slice p.1 [] (Bk p.2)]) (λp=>p.2.length<=1000000) (λp=> .bool (countB p.2))
def aLD{nl:Bool}{l:List Int}(h:l.length<=1000000):aZs [.slice nl [] (Bk l)]=some (.bool (countB l)):=
 BG (mk:=λp:Bool×List Int=>[.slice p.1 [] (Bk p.2)]) (a:=(nl,l)) (λa b h=>by
  simp only[Qk,D.slice.injEq,true_and,and_true]at h;exact Q7 h.1 (Ln h.2)) h
def aE6{l:List Int}{nl:Bool}{t:Id}(hl:l.length<=1000000)(m:GV)(fr:Id):
  (iD 300 none aAp).ex [.slice nl t (Bk l),.fn 300 []] m fr=some (.bool (l.any λx=>!decide (1<=x∧x<=999)),[]):=by
 have e:(Bk l).map (aAp .junk)=(l.map λx=>!decide (1<=x∧x<=999)).map λb=>some (.bool b):=by
  simp only[Bk,Q5];exact Ze λr _=>rfl
 simp only[iD,EM,hl,aC9,and_self,if_true,FQ,Qm,e,DE,QD,ZM];rfl
def aVD:Kq aZs 231:=by
 obtain⟨S,v,hl⟩:=A4 (Aa aYz Ae);have c:=hl 299 _ rfl;clear hl;refine B1 v (Al func231:Fn Qo 231 11 aOg [.t 2]) (λ_=>U) (λp g=>?_);obtain⟨nl,l⟩:=p;have a:=aE6 (nl:=nl) (t:=[]) g;unfold aOg countB;simp only;generalize (l.any λx=>!decide (1<=x∧x<=999))=b at a;by_cases i:l.length<=6
 ·have e:((l.length:Int)<=6):=by omega
  simp only[↓GQ,GT,reduceIte,Qj,Ql,A7 c,a,i,e,EM]
  all_goals exact Qe
 ·have e:¬((l.length:Int)<=6):=by omega
  simp only[↓GQ,GT,reduceIte,Qj,Ql,i,e,EM,QF,and_self]
  all_goals exact Qe
def aLC:List D->Option D:=FX (λp:Bool×List D×Bool=>[.slice p.1 [] p.2.1,.slice p.2.2 [] []]) (λp=>p.2.1.length<=1000000) (λp=> .bool p.2.1.isEmpty)
def Wy{nl nl':Bool}{l:List D}(h:l.length<=1000000):aLC [.slice nl [] l,.slice nl' [] []]=some (.bool l.isEmpty):=
 BG (mk:=λp:Bool×List D×Bool=>[.slice p.1 [] p.2.1,.slice p.2.2 [] []]) (a:=(nl,l,nl')) (λa b h=>by
  simp only[Qk,D.slice.injEq,true_and,and_true]at h;exact Q7 h.1.1 (Q7 h.1.2 h.2)) h
def aVC:Kq aLC 353:=by
 refine B1 (S:=λ_=>none) AO (Al func353:Fn Qo 353 26 aOf [.t 4]) (λ_=>U) (λp g=>?_);obtain⟨nl,l,nl'⟩:=p;unfold aOf;cases l with
 |nil=>
  simp only[↓GQ,GX,Hf,reduceIte,Qj,Ql,QE];have a:((0:Int)<((0:Nat):Int))=False:=U
  refine Af rE.eq_1 ?_;simp only[↓GQ,GT,reduceIte,Qj,Ql,a]
  all_goals exact Qe
 |cons x r=>
  have v:(((r.length+1:Nat):Int)=((0:Nat):Int))=False:=eq_false O;simp only[↓GQ,GT,reduceIte,Qj,Ql,Qv,QE,v]
  all_goals exact Qe
def aVk:Kq aLC 291:=by
 refine B1 (S:=λ_=>none) AO aNe (λ_=>U) (λp g=>?_);obtain⟨nl,l,nl'⟩:=p;unfold eQ;cases l with
 |nil=>
  simp only[↓GQ,GX,Hf,reduceIte,Qj,Ql,QE];have a:((0:Int)<((0:Nat):Int))=False:=U
  refine Af HQ.eq_1 ?_;simp only[↓GQ,GT,reduceIte,Qj,Ql,a]
  all_goals exact Qe
 |cons x r=>
  have v:(((r.length+1:Nat):Int)=((0:Nat):Int))=False:=eq_false O;simp only[↓GQ,GT,reduceIte,Qj,Ql,Qv,QE,v]
  all_goals exact Qe
structure LG (c0:Nat) (m0:GV) (e:Nat) (m:GV) (c:Nat) (nl:Bool) (t:Id):Prop where
 low:∀q o,q<c0->m [q] o=m0 [q] o
 tok:nl=true∨∃j,t=[j]∧c0<=j∧j<c∧m t 0=some (.tok (e+1))
 le:c0<=c
section
variable{c0 e c c' c2 o:Nat}{m0 m:GV}{nl:Bool}{t:Id}{ds xs:List D}
def LG.start(h:c0<=c):LG c0 m0 e m0 c true t:=⟨λ_ _ _=>rfl,.inl rfl,h⟩
def LG.put(h:LG c0 m0 e m c nl t)(g:c<=c':=by omega):LG c0 m0 e (m.put [c'] o ds) c nl t:=by
 obtain⟨u,z,d⟩:=h;refine⟨λq o' v=>?_,?_,d⟩
 ·grind [aB]
 ·grind [aB]
def LG.more(h:LG c0 m0 e m c nl t)(g:c<=c'):LG c0 m0 e m c' nl t:=by
 obtain⟨u,h2,k⟩:=h;refine⟨u,?_,O⟩;rcases h2 with h2|⟨j,a,b,r,d⟩
 ·exact .inl h2
 ·grind
def LG.grow(h:LG c0 m0 e m c nl t):I9 m e (.slice nl t xs):=by
 rcases h.tok with h|⟨j,rfl,_,_,d⟩
 ·exact .inl h
 ·exact .inr ⟨d,U⟩
def LG.app(h:LG c0 m0 e m c nl t)(g:c<=c')(z:c'<c2):LG c0 m0 e (Ha.app m (Be e [c'] (.slice nl t xs))) c2 false [c']:=by
 obtain⟨u,w,d⟩:=h;refine⟨λq o v=>?_,.inr ⟨c',rfl,O,z,?_⟩,O⟩
 ·grind [CZ]
 ·rw[CZ,if_pos ⟨rfl,rfl⟩]
def LG.appf(h:LG c0 m0 e m c false t)(g:c<=c')(q:c'<c2):LG c0 m0 e ((m.put t 0 [.tok 0]).put [c'] 0 [.tok (e+1)]) c2 false [c']:=LG.app (xs:=[]) h g q
def LG.nil(h:LG c0 m0 e m c nl t):LG c0 m0 e (Ha.app m []) c nl t:=h
def LG.rd(h:LG c0 m0 e m c nl t){q p n:Nat}(z:q<c0):Ai m [q] p n=Ai m0 [q] p n:=by
 have:∀n p,Ai m [q] p n=Ai m0 [q] p n:=by
  intro n;induction n with
  |zero=>intro p;rfl
  |succ n ih=>intro p;simp only[Ai,h.low q p z,ih]
 exact this n p
end
def Pm(l:List Rw):aF (BS l) 3=3:=XB
def aFd{m:GV}{caps:List D}{k:IntKind}{n:Int}(h:FQ m caps=some (.int k n)):∃i,caps=[.ptr i 0]∧m i 0=some (.int k n):=by
 unfold FQ at h;split at h
 ·simp at h
 ·simp_all
 ·cases h
def aAq:D->D->Option D
 | .int .i64 n,.agg [.int .i64 a,.bool _,.bool _]=>some (.bool (decide (a=n)))
 |_,_=>none
def aSW:(IZ aAq).ok Qo 362:=by
 refine Ov (S:=λ_=>none) AO (Al func362:Fn Qo 362 8 aNM [.t 3]) (λx caps m fr c d k j na hl=>⟨O,?_⟩);unfold aAq at j;split at j
 ·simp only[Qt]at j;subst j;obtain⟨i,rfl,r⟩:=aFd k;have hi:i≠0::fr:=by rintro rfl;have:=na 0 (0::fr) 0 (List.suffix_refl _);rw[r]at this;cases this
  unfold aNM;simp only[↓GQ,GT,GS,simprocAttr,r,hi];intro i o y h;split
  ·grind
  ·exact h
 ·cases j
def aXR:Fn Qo 361 19 (dcI 3 (some 3)) [.t 4]:=⟨f361,_,func361,rfl,Xa,rfl,Xa,Xa⟩
def aSC:(FO 362 (some 3) aAq).ok Qo 361:=Oe O aXR rfl aSW
def Vk(l:List Rw)(n:Int):Int:=BP (l.map λr=>decide (r.1=n))
def xM{l:List Rw}{nl:Bool}{t:Id}(hl:l.length<=1000000){n:Int}(m:GV)(fr i:Id)(a:m i 0=some (.int .i64 n)):
  (FO 362 (some 3) aAq).ex [.slice nl t (BS l),.fn 362 [.ptr i 0]] m fr=some (.int .i64 (Vk l n),[]):=by
 have e:(BS l).map (aAq (.int .i64 n))=(l.map λr=>decide (r.1=n)).map λb=>some (.bool b):=by
  simp only[BS,Q5];exact Ze λr _=>rfl
 have q:(BS l).all (qZ (some 3))=true:=by
  rw[Q_];intro x f;obtain⟨r,_,rfl⟩:=QU.1 f;rfl
 simp only[FO,A5,hl,q,and_self,if_true,FQ,a,Qm,e,DE,QD];rfl
def Gl(s:Sc)(n:Int):Int:=if n=0 then(s.rs.length:Int)-1 else Vk s.rs n
def aYV:=Az [(361,FO 362 (some 3) aAq)]
def aTS:=RF aYV aOt [.t 4] 15
def aXl:Kq aTS 320:=Av (Al func320) (Aa aSC Ae)
def aKW(s:Sc)(n:Int)(hl:s.rs.length<=1000):aTS [.agg (Hw s),.int .i64 n]=some (.int .i64 (Gl s n)):=by
 refine Aq (Qi rfl) ?_;unfold aOt;have c:IntKind.i64.wrap ((s.rs.length:Int)-1)=(s.rs.length:Int)-1:=Hg O O;unfold Gl Hw;by_cases c1:n=0
 ·simp only[↓GQ,GT,GS,simprocAttr,c1,c,A5]
  all_goals exact Qd
 ·simp only[↓GQ,GT,GS,simprocAttr,c1,Bu aYV 361,xM (n:=n) (show s.rs.length<=1000000 by omega)]
  all_goals exact Qd
def rw0:Rw:=(0,false,false)
def H1(s:Sc)(n:Int):Rw×Int:=if EJ s 6=true then(rw0,2)else if Gl s n<0 then(rw0,6)else
 if((s.rs.getD (Gl s n).toNat rw0).2.1||(s.rs.getD (Gl s n).toNat rw0).2.2)=true then(s.rs.getD (Gl s n).toNat rw0,21)else(s.rs.getD (Gl s n).toNat rw0,0)
def TQ(l:List Rw)(n:Int):Vk l n<l.length:=by
 unfold Vk BP;split
 ·rename_i k h;rw[QW]at h;obtain⟨s,_⟩:=h;rw[QJ]at s;omega
 ·omega
def aDs(s:Sc)(n:Int):Gl s n<s.rs.length:=by
 unfold Gl;split
 ·omega
 ·exact TQ _ _
def Wl:=Az [(207,Ac nB),(319,Ac aTT),(320,Ac aTS)]
def nD:=RF Wl aPm [.cell (some 3) 4,.t 5] 32
def aXA:Kq nD 253:=Av (Al func253) (Aa dI (Aa aXm (Aa aXl Ae)))
def aLd(s:Sc)(n:Int)(hl:s.rs.length<=1000):nD [.agg (Hw s),.int .i64 n]=some (.tup [rwD (H1 s n).1,.int .i64 (H1 s n).2]):=by
 refine Aq (Qi rfl) ?_;unfold aPm;have w:=ND s 6 false hl;have c:=aKX;have b:=aKW s n hl;have v:=aDs s n;unfold H1;unfold iZ at w;unfold Hw at w b ⊢;generalize Gl s n=i at b v;cases hb:EJ s 6 with
 |true=>
  rw[hb]at w;simp only[if_true]at w;simp only[↓GQ,GT,GS,simprocAttr,Ad Wl 207,w,Ad Wl 319,c];refine AJ ?_;simp only[↓GQ,GT,GS,simprocAttr]
  all_goals exact Qd
 |false=>
  rw[hb]at w;simp only[if_false,QA]at w;simp only[↓GQ,GT,GS,simprocAttr,Ad Wl 207,w,Ad Wl 319,c];refine AJ ?_;by_cases c1:i<0
  ·simp only[↓GQ,GT,GS,simprocAttr,Ad Wl 320,b,c1]
   all_goals exact Qd
  ·have p:0<=i:=by omega
   have e:i.toNat<s.rs.length:=O
   have ia:=GE e;have z:s.rs.getD i.toNat rw0=s.rs[i.toNat]:=by simp[Zp,Qq e]
   rw[z];generalize s.rs[i.toNat]=x at ia;obtain⟨a,g,d⟩:=x;simp only at ia;cases g with
   |true=>
    simp only[↓GQ,GT,GS,simprocAttr,Ad Wl 320,b,c1,p,ia]
    all_goals exact Qd
   |false=>
    cases d with
    |true=>
     simp only[↓GQ,GT,GS,simprocAttr,Ad Wl 320,b,c1,p,ia]
     all_goals exact Qd
    |false=>
     simp only[↓GQ,GT,GS,simprocAttr,Ad Wl 320,b,c1,p,ia]
     all_goals exact Qd
def LB(s:Sc)(q:Int)(b:Bool)(cas v:Int):Int:=if EJ s q=true∨cas< -1∨v<0 then 2 else if 96<v then 18 else if cas=-1∧(s.cas=true∨b=true)then 17 else if cas≠-1∧cas≠s.la then 16 else if s.la=30 then 19 else 0
def Pg:=Az [(207,Ac nB)]
def aTD:=RF Pg aNL [.t 8] 49
def aWZ:Kq aTD 363:=Av (Al func363) (Aa dI Ae)
def aKC(s:Sc)(q:Int)(b:Bool)(cas v:Int)(hl:s.rs.length<=1000):aTD [.agg (Hw s),.agg [.int .i64 q,.bool b],.int .i64 cas,.int .i64 v]=some (.int .i64 (LB s q b cas v)):=by
 refine Aq (Qi rfl) ?_;unfold aNL;have w:=ND s q b hl;unfold LB;unfold iZ at w;unfold Hw at w ⊢;generalize EJ s q=na at w;cases na with
 |true=>
  simp only[if_true]at w;simp only[↓GQ,GT,GS,simprocAttr,Ad Pg 207,w,ne_eq]
  all_goals exact Qd
 |false=>
  simp only[if_false,QA]at w;by_cases c1:cas< -1
  ·simp only[↓GQ,GT,GS,simprocAttr,Ad Pg 207,w,ne_eq,c1]
   all_goals exact Qd
  by_cases c2:v<0
  ·simp only[↓GQ,GT,GS,simprocAttr,Ad Pg 207,w,ne_eq,c1,c2]
   all_goals exact Qd
  by_cases n:96<v
  ·simp only[↓GQ,GT,GS,simprocAttr,Ad Pg 207,w,ne_eq,c1,c2,n]
   all_goals exact Qd
  by_cases k:cas=-1
  ·have f:(cas=-1)=True:=eq_true k;cases h1:s.cas with
   |true=>
    rw[h1]at w;simp only[↓GQ,GT,GS,simprocAttr,Ad Pg 207,w,ne_eq,c1,c2,n,f]
    all_goals exact Qd
   |false=>
    rw[h1]at w;cases b with
    |true=>
     simp only[↓GQ,GT,GS,simprocAttr,Ad Pg 207,w,ne_eq,c1,c2,n,f]
     all_goals exact Qd
    |false=>
     by_cases r:s.la=30
     ·have e:(s.la=30)=True:=eq_true r;simp only[↓GQ,GT,GS,simprocAttr,Ad Pg 207,w,ne_eq,c1,c2,n,f,e]
      all_goals exact Qd
     ·have e:(s.la=30)=False:=eq_false r;simp only[↓GQ,GT,GS,simprocAttr,Ad Pg 207,w,ne_eq,c1,c2,n,f,e]
      all_goals exact Qd
  ·have f:(cas=-1)=False:=eq_false k;by_cases o:cas=s.la
   ·have g:(cas=s.la)=True:=eq_true o;by_cases r:s.la=30
    ·have e:(s.la=30)=True:=eq_true r;simp only[↓GQ,GT,GS,simprocAttr,Ad Pg 207,w,ne_eq,c1,c2,n,f,g,e]
     all_goals exact Qd
    ·have e:(s.la=30)=False:=eq_false r;simp only[↓GQ,GT,GS,simprocAttr,Ad Pg 207,w,ne_eq,c1,c2,n,f,g,e]
     all_goals exact Qd
   ·have g:(cas=s.la)=False:=eq_false o;simp only[↓GQ,GT,GS,simprocAttr,Ad Pg 207,w,ne_eq,c1,c2,n,f,g]
    all_goals exact Qd
def bAI:=Az []
def aTC:=RF bAI eR [.t 2] 8
def aWY:Kq aTC 364:=Av aNf Ae
def aKB{nl:Bool}{l:List Rw}(hl:l.length<=100000)(c:nl=true->l=[]):aTC [.slice nl [] (BS l)]=some (.slice nl [] (BS l)):=by
 refine Aq (Qi rfl) ?_;unfold eR;cases nl with
 |true=>
  rw[c rfl];simp only[↓GQ,GX,Hx,GS,simprocAttr]
  all_goals exact Qd
 |false=>
  simp only[↓GQ,GX,Hf,GS,simprocAttr];refine aA ⟨Ye,Pm l,.inr ⟨rfl,U⟩⟩ ?_;simp only[↓GQ,GT,GS,simprocAttr]
def DM(s:Sc)(q:Int):Nat:=s.rs.length-(Cr s q).toNat
def eF(s:Sc)(q:Int):Sc:={s with rs:=s.rs.drop (DM s q)}
def Tn(s:Sc)(q:Int):List Int:=(s.rs.take (DM s q)).map (·.1)
def aTm:=Az [(274,Ac aKN),(364,Ac aTC)]
def aTQ:=RF aTm aOo [.cell (some 4) 4,.t 5] 41
def aXh:Kq aTQ 324:=Av (Al func324) (Aa aMV (Aa aWY Ae))
def aKV(s:Sc)(q:Int)(b:Bool)(hl:s.rs.length<=1000)(hk:0<=Cr s q∧Cr s q<=1000)(qa:s.nl=true->s.rs=[]):aTQ [.agg (Hw s),.agg [.int .i64 q,.bool b]]=some (.tup [.agg (Hw (eF s q)),.slice (decide (DM s q=0)) [] (Bk (Tn s q))]):=by
 refine Aq (Qi rfl) ?_;unfold aOo;have d:=sD s q b;have a:=aKB (nl:=s.nl) (l:=s.rs.drop (DM s q)) XN (λh=>by rw[qa h,List.drop_nil]);have hw:IntKind.i64.wrap ((s.rs.length:Int)-Cr s q)=(s.rs.length:Int)-Cr s q:=Hg O O;have y:max 0 ((s.rs.length:Int)-Cr s q)=(DM s q:Int):=by unfold DM;omega
 have hn:DM s q<=s.rs.length:=by unfold DM;omega
 have ca:(0:Int)<=(DM s q:Int)∧(DM s q:Int)<=((s.rs.length:Nat):Int):=⟨O,O⟩;have na:(BS s.rs).take (DM s q)=BS (s.rs.take (DM s q)):=ZG.symm;have pa:(BS s.rs).drop (DM s q)=BS (s.rs.drop (DM s q)):=ZH.symm;have f:eF s q={s with rs:=s.rs.drop (DM s q)}:=rfl;unfold Tn;rw[f];unfold Hw at d ⊢;generalize DM s q=n at *;generalize Cr s q=kp at *;clear f;simp only[↓GQ,GT,GS,simprocAttr,Ad aTm 274,d,A5,hw,y];refine AJ ?_;simp only[↓GQ,GT,GS,simprocAttr,A5,Pm,ca,Qs,na,Q3,List.length_take,Nat.min_eq_left hn];refine By (n:=n) (I:=λj z=>z.s 21= .slice s.nl [] (BS (s.rs.take n))∧z.s 22= .int .i64 (n:Int)∧z.s 23= .int .i64 (j:Int)∧z.s 2= .ptr [0] 0∧z.s 4= .ptr [2] 0∧z.s 6= .int .i64 (n:Int)∧∃nl t,z.s 7= .slice nl t (Bk (((s.rs.take n).take j).map (·.1)))∧nl=decide (j=0)∧LG 4 _ 3 z.m z.c nl t) (λj hj ih z g hI=>?_) (λz g hI=>?_) 0 (QH _) _ _ ⟨(by show D.slice _ _ (List.take n (List.drop 0 (BS s.rs)))=_;rw[QM,na]),rfl,rfl,rfl,rfl,rfl,true,[],rfl,rfl,LG.start Xb⟩
 ·obtain⟨ja,ga,r⟩:=z;obtain⟨e,w,o,h2,h4,h6,nl,t,h7,u,hG⟩:=hI;simp only at e w o h2 h4 h6 h7 hG;refine Af VZ.eq_1 ?_;have v:((j:Int)<n):=by omega
  have ma:=nJ (j:=j);have hw:=wJ (j:=j) O;have ea:(s.rs.take n).length=n:=Xn
  generalize s.rs.take n=l at *;have ia:=GE (l:=l) (j:=j) O;have na:Bk ((l.take (j+1)).map (·.1))=Bk ((l.take j).map (·.1))++[.int .i64 (l[j]' O).1]:=by
   rw[QQ O,Za];simp[Bk]
  have wa:(Bk ((l.take j).map (·.1))).length=j:=by simp[Bk];omega
  have oa:nl=true->Bk ((l.take j).map (·.1))=[]:=by
   grind
  generalize Bk ((l.take j).map (·.1))=acc at h7 na wa oa;generalize l[j]' O=x at ia na;simp only[↓GQ,GT,GS,simprocAttr,e,w,o,h7,v,ma,Qs,ia];refine aA ⟨O,rfl,Qa⟩ ?_;rw[Ba oa,←na];simp only[↓GQ,GX,simprocAttr,o,hw];exact ih _ _ ⟨e,w,rfl,h2,h4,h6,false,_,rfl,U,Qb⟩
 ·obtain⟨ja,ga,r⟩:=z;obtain⟨e,w,o,h2,h4,h6,nl,t,h7,u,hG⟩:=hI;simp only at e w o h2 h4 h6 h7 hG;refine Af VZ.eq_1 ?_;have m0:∀k,ga [0] k=_:=λk=>hG.low 0 k O
  have m2:∀k,ga [2] k=_:=λk=>hG.low 2 k O
  have ta:(BS s.rs).take s.rs.length=BS s.rs:=QK Ye;have i:(BS (s.rs.drop n)).take (s.rs.length-n)=BS (s.rs.drop n):=QK (by rw[A5,Zw];omega);have p:(s.rs.take n).take n=s.rs.take n:=QK Xn;rw[p]at h7;simp only[↓GQ,GT,GS,simprocAttr,w,o,h2,h4,h6,h7,QI,m0,m2,A5,Pm,ca,Qs,i,pa,Ad aTm 364,a];subst u
  all_goals exact Qd
def clQ:HA where
 rd:=λ_ _=>[]
 ex:=λds _ fr=>match ds with
  |[.slice nl _ xs]=>if xs.length<=100000∧(nl=true->xs=[])∧aF xs 3=3 then(if nl=true then some (.slice true [] [],[])else some (.slice false (5::fr) xs,[(5::fr,0,[.tok 329])]))else none
  |_=>none
def aE8{nl:Bool}{t:Id}{xs:List D}{m:GV}{fr:Id}(u:xs.length<=100000)(q:nl=true->xs=[])(d:aF xs 3=3)(S:GR){R:D->GV->Prop}(g:if nl=true then R (.slice true [] []) m else R (.slice false (5::fr) xs) (((m.put (3::fr) 0 [.tok 329]).put (3::fr) 0 [.tok 0]).put (5::fr) 0 [.tok 329])):eR.wp S fr (DV [.t 2] R) ⟨Bz [.slice nl t xs],m,0⟩:=by
 unfold eR;cases nl with
 |true=>
  simp only[↓GQ,GX,GS,reduceIte,Qj,Ql,reduceCtorEq];simpa using g
 |false=>
  simp only[↓GQ,GX,Hf,GS,reduceIte,Qj,Ql,reduceCtorEq];refine aA ⟨O,d,.inr ⟨Bp ..▸by simp,U⟩⟩ ?_;simp only[↓GQ,GX,Hf,GS,reduceIte,Qj,Ql];simp only[QA,if_false]at g;exact g
def aRb:clQ.ok Qo 364:=by
 refine GI (S:=λ_=>none) AO aNf (λds m m' fr _=>rfl) (λds m fr r u w na=>?_);simp only[clQ]at w;split at w
 ·rename_i nl t xs;split at w
  ·rename_i g;obtain⟨y,q,d⟩:=g;refine⟨U,aE8 y q d _ ?_⟩;cases nl with
   |true=>
    simp only[if_true,Qt,QV]at w ⊢;obtain⟨rfl,rfl⟩:=w;exact⟨rfl,λ_ _ _ h=>h⟩
   |false=>
    simp only[QA,if_false,Qt,QV]at w ⊢;obtain⟨rfl,rfl⟩:=w;refine⟨rfl,λi o x h=>?_⟩;have j:(m.put (5::fr) 0 [.tok 329]) i o=some x:=h;rw[Bp]at j ⊢;split at j
    ·simp_all
    ·grind [Bp]
  ·cases w
 ·cases w
def aS0{nl:Bool}{t:Id}{l:List Rw}{m:GV}{fr:Id}(u:l.length<=1000)(q:nl=true->l=[]):clQ.ex [.slice nl t (BS l)] m fr=if nl=true then some (.slice true [] [],[])else some (.slice false (5::fr) (BS l),[(5::fr,0,[.tok 329])]):=
 if_pos ⟨Ye,λh=>by rw[q h];rfl,Pm l⟩
def SK{s:Sc}{q:Int}(h:EJ s q=false):(1<=q∧q<=6)∧(0<=s.mx∧s.mx<=6)∧(0<=s.la∧s.la<=30)∧(s.rs.length:Int)<=Cr s q∧Iu s.rs 0=true∧RL s.rs=s.la:=by
 simpa[EJ]using h
def aBB{s:Sc}{q:Int}{b:Bool}{cas v:Int}(h:LB s q b cas v=0):EJ s q=false:=by
 grind [LB,EJ]
def aCV{s:Sc}{q:Int}(u:1<=q∧q<=6)(z:0<=s.mx∧s.mx<=6):0<=Cr s q∧Cr s q<=1000:=by
 grind [Cr]
def Ej(s:Sc):Sc:={s with la:=s.la+1,nl:=false,rs:=s.rs++[(s.la+1,false,false)]}
def CL(s:Sc)(q:Int)(b:Bool)(cas v:Int):Sc×Int×List Int×Int:=if LB s q b cas v≠0 then(s,0,[],LB s q b cas v)else(eF (Ej s) q,s.la+1,Tn (Ej s) q,0)
def aDv{s:Sc}{q:Int}:(Tn s q=[])=(DM s q=0):=by
 simp_all [Tn,DM]
def fR:=Az [(363,Ac aTD),(324,Ac aTQ),(364,clQ)]
def aTR:=RF fR aOs [.cell (some 4) 8,.t 9,.t 10,.t 11] 47
def aXk:Kq aTR 321:=Av (Al func321) (Aa aWZ (Aa aXh (Aa aRb Ae)))
def sE(s:Sc)(q:Int)(b:Bool)(cas v:Int)(hl:s.rs.length<=900)(w:s.nl=true->s.rs=[]):aTR [.agg (Hw s),.agg [.int .i64 q,.bool b],.int .i64 cas,.int .i64 v]=some (.tup [.agg (Hw (CL s q b cas v).1),.int .i64 (CL s q b cas v).2.1,.slice (decide ((CL s q b cas v).2.2.1=[])) [] (Bk (CL s q b cas v).2.2.1),.int .i64 (CL s q b cas v).2.2.2]):=by
 refine Aq (Qi rfl) ?_;unfold aOs;have c:=aKC s q b cas v O;have a:=λ(m:GV)(fr:Id)=>aS0 (nl:=s.nl) (t:=[]) (l:=s.rs) (m:=m) (fr:=fr) O w
 unfold CL;by_cases n:LB s q b cas v=0
 ·obtain⟨g,b2,u,_⟩:=SK (aBB n);have j:Cr (Ej s) q=Cr s q:=rfl;have d:=aKV (Ej s) q b (by simp[Ej];omega) (by rw[j];exact aCV g b2) (by simp[Ej]);have x:IntKind.i64.wrap (s.la+1)=s.la+1:=Hg O O;have z:(eF (Ej s) q).la=s.la+1:=rfl;have f:=aDv (s:=Ej s) (q:=q);rw[n]at c;rw[n];simp only[ne_eq,not_true_eq_false,if_false,f];generalize decide (DM (Ej s) q=0)=r at d ⊢;generalize Tn (Ej s) q=l2 at *;generalize eF (Ej s) q=s2 at *;have i:BS (s.rs++[(s.la+1,false,false)])=BS s.rs++[.agg [.int .i64 (s.la+1),.bool false,.bool false]]:=by simp[BS,rwD]
  unfold Ej Hw at d;simp only[i]at d;unfold Hw at c ⊢;rw[z]at d;clear j;have k:(BS s.rs).length=s.rs.length:=A5 _;cases hn:s.nl with
  |true=>
   rw[hn]at c a;rw[w hn]at c d a k ⊢;simp only[if_true]at a;have y:BS []=[]:=rfl;rw[y]at c d a k ⊢;rw[QY]at d;simp only[↓GQ,GT,GS,reduceIte,Qj,Ql,Qy,Qx,QS,reduceCtorEq,Ad fR 363,c,Bu fR 364,a,x];refine aA ⟨U,rfl,.inl rfl⟩ ?_;simp only[↓GQ,GT,GS,reduceIte,Qj,Ql,Qy,Qx,QS,reduceCtorEq];refine AJ ?_;simp only[↓GQ,GT,GS,reduceIte,Qj,Ql,Qy,Qx,QS,reduceCtorEq,Ad fR 324,d];refine AJ ?_;simp only[↓GQ,GT,GS,reduceIte,Qj,Ql,Qy,Qx,QS,z]
   all_goals exact Qd
  |false=>
   rw[hn]at c a;simp only[if_false,QA]at a;simp only[↓GQ,GT,GS,reduceIte,Qj,Ql,Qy,Qx,QS,reduceCtorEq,Ad fR 363,c,Bu fR 364,a,x];refine aA ⟨by simp only[k];omega,rfl,.inr ⟨XU,U⟩⟩ ?_;simp only[↓GQ,GT,GS,reduceIte,Qj,Ql,Qy,Qx,QS,reduceCtorEq];refine AJ ?_;simp only[↓GQ,GT,GS,reduceIte,Qj,Ql,Qy,Qx,QS,reduceCtorEq,Ad fR 324,d];refine AJ ?_;simp only[↓GQ,GT,GS,reduceIte,Qj,Ql,Qy,Qx,QS,reduceCtorEq,z]
   all_goals exact Qd
 ·have p:(LB s q b cas v=0)=False:=eq_false n;unfold Hw at c ⊢;simp only[ne_eq,p,not_false_eq_true,if_true];generalize LB s q b cas v=e at *;simp only[↓GQ,GT,GS,reduceIte,Qj,Ql,Qy,reduceCtorEq,Ad fR 363,c,p]
  all_goals exact Qd
def aSI{α:Type}{mk:α->List D}{ok:α->Prop}{res:α->D}{P:Program}{S:GR}{f:FuncId}{N:Nat}{b:DC}{rs:List RV}(v:GR.ok P S)(o:Fn P f N b rs)(e:∀a,(mk a).length<=N)
  (j:∀a,ok a->(res a).calmR=true∧b.wp S [] (DV rs λd m'=>aYM m' d (res a)) ⟨Bz (mk a),λ_ _=>none,0⟩):(Ac (FX mk ok res)).ok P f:=by
 refine qR v o (λds r h=>?_) (λds r h=>?_)
 ·obtain⟨a,_,rfl,_⟩:=Dy h;exact e a
 ·obtain⟨a,x,rfl,rfl⟩:=Dy h;exact j a x
def xH{l:List Int}{j:Nat}(h:j<l.length):(Bk l)[j]?=some (.int .i64 l[j]):=by simp[Bk,Qq h]
def SX(m:GV)(i:Id)(l:List Rw):Prop:=∀k x,l[k]?=some x->Ai m i (k*3) 3=some [.int .i64 x.1,.bool x.2.1,.bool x.2.2]
def jG{m:GV}{i:Id}{o:Nat}{a b c:D}:Ai m i o 3=some [a,b,c]↔(m i o=some a∧m i (o+1)=some b∧m i (o+2)=some c):=by
 simp only[Ai];cases m i o<;>cases m i (o+1)<;>cases m i (o+1+1)<;>simp
def SX.of{m:GV}{i:Id}:∀{l:List Rw} {p:Nat},(∀(j:Nat) d,(flat (BS l))[j]?=some d->m i (p+j)=some d)->∀k x,l[k]?=some x->Ai m i (p+k*3) 3=some [.int .i64 x.1,.bool x.2.1,.bool x.2.2]
 |[],p,_,k,x,h=>Xf
 |y::r,p,hr,k,x,h=>by
  match k,h with
  |0,h=>
   simp only[Qu,Qt]at h;subst h;exact jG.2 ⟨by simpa using hr 0 _ rfl,by simpa using hr 1 _ rfl,by simpa using hr 2 _ rfl⟩
  |k+1,h=>
   have:=SX.of (p:=p+3) (l:=r) (λj d w=>by
    have:=hr (j+3) d w;rw[show p+(j+3)=p+3+j by omega]at this;exact this) k x Xp
   rw[show p+3+k*3=p+(k+1)*3 by omega]at this;exact this
def SX.set{m:GV}{i:Id}{A B:List Rw}{x y:Rw}(h:SX m i (A++x::B)):SX (m.put i (A.length*3) [.int .i64 y.1,.bool y.2.1,.bool y.2.2]) i (A++y::B):=by
 intro k z j;by_cases s:k=A.length
 ·subst s;rw[List.getElem?_append_right (QL _),ZN,Qu,Qt]at j;subst j;refine jG.2 ⟨?_,?_,?_⟩<;>simp[GV.put]
 ·have c:(A++x::B)[k]?=some z:=by
   rcases Nat.lt_or_gt_of_ne s with h1|h1
   ·grind
   ·grind
  obtain⟨b,a1,t⟩:=jG.1 (h k z c);have r:∀o,(o=k*3∨o=k*3+1∨o=k*3+2)->(m.put i (A.length*3) [.int .i64 y.1,.bool y.2.1,.bool y.2.2]) i o=m i o:=λo r=>by
   refine aE ?_;simp only[Qv,QE];omega
  exact jG.2 ⟨by rw[r _ (.inl rfl)];exact b,by rw[r _ (.inr (.inl rfl))];exact a1,by rw[r _ (.inr (.inr rfl))];exact t⟩
def SX.other{m:GV}{i j:Id}{o:Nat}{ds:List D}{l:List Rw}(h:SX m i l)(v:i≠j):SX (m.put j o ds) i l:=λk x s=>by
 obtain⟨b,a1,t⟩:=jG.1 (h k x s);exact jG.2 ⟨by rw[aB v];exact b,by rw[aB v];exact a1,by rw[aB v];exact t⟩
def SX.grow{m:GV}{i f t:Id}{e:Nat}{nl:Bool}{xs:List D}{l:List Rw}(h:SX m i l)(u:i≠f)(q:nl=false->i≠t):SX (Ha.app m (Be e f (.slice nl t xs))) i l:=by
 cases nl with
 |true=>exact h.other u
 |false=>exact(h.other (q rfl)).other u
def LG.row{c0 e c r o:Nat}{m0 m:GV}{nl:Bool}{t:Id}{ds:List D}(h:LG c0 m0 e m c nl t)(j:c0<=r)(w:nl=false->t≠[r]):LG c0 m0 e (m.put [r] o ds) c nl t:=by
 obtain⟨u,z,d⟩:=h;refine⟨λq o' v=>?_,?_,d⟩
 ·grind [aB]
 ·grind [aB]
def aZN{m:GV}{i:Id}{o:Nat}{a b c:D}(h:Ai m i o 3=some [a,b,c]):m i o=some a∧m i (o+1)=some b∧m i (o+1+1)=some c:=jG.1 h
def mH(b:Bool):Int:=if b=true then 1 else 0
def fD(l:List Int):List D:=l.map (.int .u8)
def aS1(l:List Int):Bs:=l.map λn=>UInt8.ofNat n.toNat
def aFj(l:List Int):(fD l).length=l.length:=QJ ..
def rQ:∀l:List Int,BM (fD l)=some (aS1 l)
 |[]=>rfl
 |n::r=>by
  show(BM (fD r)).map _=_;rw[rQ r];rfl
def aBp(x:Rw):List Int:=[IntKind.u8.wrap x.1,bits .or .u8 (mH x.2.1) (IntKind.u8.wrap (mH x.2.2*2))]
def OI:List Rw->List Int
 |[]=>[]
 |x::r=>aBp x++OI r
theorem rowsI_len:∀l:List Rw,(OI l).length=2*l.length
 |[]=>rfl
 |x::r=>by simp[OI,aBp,rowsI_len r];omega
def IA(s:Sc):Bs:=if EJ s 6=true then []else aS1 ([IntKind.u8.wrap s.mx,mH s.cas,IntKind.u8.wrap s.la,IntKind.u8.wrap s.rs.length]++OI s.rs)
def aMp(s:Sc):Int:=if EJ s 6=true then 2 else 0
def bAC:=Az []
def aTx:=RF bAC aNu [.t 2] 4
def aWR:Kq aTx 385:=Av (Al func385) Ae
def aKu(b:Bool):aTx [.bool b]=some (.int .u8 (mH b)):=by
 refine Aq (Qi rfl) ?_;unfold aNu;cases b with
 |true=>
  simp only[↓GQ,GX,Hx,GS,simprocAttr]
  all_goals exact Qd
 |false=>
  simp only[↓GQ,GX,Hx,GS,simprocAttr]
  all_goals exact Qd
def mR:=Az [(207,Ac nB),(360,Ac aKD),(385,Ac aTx)]
def aTB:=RF mR aNK [.t 2,.t 3] 49
def aWX:Kq aTB 365:=Av (Al func365) (Aa dI (Aa aMT (Aa aWR Ae)))
def aKA(s:Sc)(hl:s.rs.length<=1000):aTB [.agg (Hw s)]=some (.tup [.str (IA s),.int .i64 (aMp s)]):=by
 refine Aq (Qi rfl) ?_;unfold aNK;have w:=ND s 6 false hl;have l:=sB;have e:=aKu;unfold IA aMp;unfold iZ at w;unfold Hw at *;cases hb:EJ s 6 with
 |true=>
  rw[hb]at w;simp only[if_true]at w;simp only[↓GQ,GT,GS,simprocAttr,Ad mR 207,w,Ad mR 360,l];refine AJ ?_;simp only[↓GQ,GT,GS,simprocAttr]
  all_goals exact Qd
 |false=>
  rw[hb]at w;simp only[if_false,QA]at w;simp only[↓GQ,GT,GS,simprocAttr,Ad mR 207,w,Ad mR 360,l];refine AJ ?_;simp only[↓GQ,GT,GS,simprocAttr,Ad mR 385,e,A5];refine AJ ?_;simp only[↓GQ,GT,GS,simprocAttr,A5];refine By (n:=s.rs.length) (I:=λj z=>z.s 26= .slice s.nl [] (BS s.rs)∧z.s 27= .int .i64 s.rs.length∧z.s 28= .int .i64 (j:Int)∧∃B t,B.length=4+2*j∧B++OI (s.rs.drop j)=[IntKind.u8.wrap s.mx,mH s.cas,IntKind.u8.wrap s.la,IntKind.u8.wrap s.rs.length]++OI s.rs∧z.s 4= .slice false t (fD B)∧LG 1 _ 5 z.m z.c false t) (λj hj ih z g hI=>?_) (λz g hI=>?_) 0 (QH _) _ _ ⟨rfl,rfl,rfl,_,_,rfl,rfl,rfl,⟨λ_ _ _=>rfl,.inr ⟨_,rfl,O,Xb,by simp[GV.put,Ha.app]⟩,Xb⟩⟩
  ·obtain⟨ja,k,r⟩:=z;obtain⟨b,q,d,B,t,f,hB,o,i⟩:=hI;simp only at b q d o i;refine Af VV.eq_1 ?_;have v:((j:Int)<s.rs.length):=by omega
   have u:=nJ (j:=j);have p:=wJ (j:=j) O;have ia:=GE hj;have hd:s.rs.drop j=s.rs[j]::s.rs.drop (j+1):=Q9 hj;rw[hd]at hB;generalize s.rs[j]=x at ia hB;have y:fD B++[.int .u8 (IntKind.u8.wrap x.1),.int .u8 (bits .or .u8 (mH x.2.1) (IntKind.u8.wrap (mH x.2.2*2)))]=fD (B++aBp x):=by simp[fD,aBp]
   have ea:∀a:Int,AQ .shl (.int .u8 a) (.int .u64 1)=some (.int .u8 (IntKind.u8.wrap (a*2))):=λa=>rfl
   have bb:(fD B).length=4+2*j:=by rw[aFj];exact f
   simp only[↓GQ,GT,GS,simprocAttr,b,q,d,o,v,u,Qs,ia,Ad mR 385,e,ea];refine aA ⟨by simp only[bb];omega,rfl,(by first|exact i.grow|exact i.put.grow|exact i.put.put.grow|exact i.put.put.put.grow|exact i.put.put.put.put.grow|exact i.put.put.put.put.put.grow)⟩ ?_;rw[y];simp only[↓GQ,GT,GS,simprocAttr];refine AJ ?_;simp only[↓GQ,GX,simprocAttr,d,p];exact ih _ _ ⟨b,q,rfl,_,_,by rw[Qw,f];simp[aBp];omega,by rw[←hB,OI,List.append_assoc],rfl,(by first|exact LG.nil (i.appf O Xb)|exact LG.nil (i.put.appf O Xb)|exact LG.nil (i.put.put.appf O Xb)|exact LG.nil (i.put.put.put.appf O Xb)|exact LG.nil (i.put.put.put.put.appf O Xb)|exact LG.nil (i.put.put.put.put.put.appf O Xb))⟩
  ·obtain⟨b,q,d,B,t,f,hB,o,i⟩:=hI;refine Af VV.eq_1 ?_;rw[List.drop_length,OI,Q6]at hB;subst hB;simp only[↓GQ,GT,GS,simprocAttr,q,d,o,QI,rQ]
   all_goals exact Qd
def aNw:=y0 f205 [] []
def aNv:=y0 f203 [] []
def aDP:=y0 f206 [] []
def aNq:=y0 f204 [] []
def Ls:=y1 f141 9 [] []
def rB:=y0 f141 [] [(9,Ls)]
def aDQ:=y0 f358 [] []
def aNO:=y0 f359 [] []
def V0:=y1 f318 7 [] []
def aOv:=y0 f318 [(15,[(7,6)])] [(7,V0)]
def VW:=y1 f301 4 [] []
def aN9:=y0 f301 [] [(4,VW)]
def VU:=y1 f352 4 [] []
def aNC:=y0 f352 [] [(4,VU)]
def aN8:=y0 f302 [] []
def aO3:=y0 f232 [] []
def aO2:=y0 f233 [] []
def Hr(s:Bs)(p:Nat)(e:Int):List D:=[.str s,.int .i64 (p:Int),.int .i64 e]
def or0:∀n:Fin 256,bits .or .u64 0 ((n.val:Nat):Int)=n.val:=Z
def aZQ(x:UInt8):bits .or .u64 0 (x.toNat:Int)=x.toNat:=or0 ⟨x.toNat,x.toNat_lt⟩
def A0(s:Bs)(p:Nat)(e:Int):Int×Nat×Int:=if e≠0 then(0,p,e)else if h:p<s.length then(s[p].toNat,p+1,0)else(0,p,3)
def bAE:=Az []
def aKv:=RF bAE aNw [.t 2] 14
def aMS:Kq aKv 205:=Av (Al func205) Ae
def Rd(s:Bs)(p:Nat)(e:Int)(o:p<=s.length):aKv [.agg (Hr s p e)]=some (.bool true):=by
 refine Aq (Qi rfl) ?_;unfold aNw;have u:(0:Int)<=(p:Int):=O
 have q:(p:Int)<=(s.length:Int):=O
 unfold Hr;simp only[↓GQ,GT,GS,reduceIte,Qj,Ql,Qy,u,q]
 all_goals exact Qd
def bAD:=Az []
def fY:=RF bAD aNv [.t 2] 9
def qH:Kq fY 203:=Av (Al func203) Ae
def FH(s:Bs)(p:Nat)(e:Int)(hl:s.length<=1000000)(o:p<=s.length):fY [.agg (Hr s p e)]=some (.int .i64 ((s.length-p:Nat):Int)):=by
 refine Aq (Qi rfl) ?_;unfold aNv;have t:IntKind.i64.wrap ((s.length:Int)-(p:Int))=((s.length-p:Nat):Int):=Xg
 unfold Hr;simp only[↓GQ,GT,GS,reduceIte,Qj,Ql,Qy,t]
 all_goals exact Qd
def bAB:=Az []
def aKt:=RF bAB aDP [.t 2] 9
def aWQ:Kq aKt 206:=Av (Al func206) Ae
def aKs:aKt [.int .i64 1]=some (.bool true):=by
 refine Aq (Qi rfl) ?_;unfold aDP;simp only[↓GQ,GT,GS,reduceIte,Qj,Ql,reduceCtorEq,ZL]
 all_goals exact Qd
def bAA:=Az []
def aKr:=RF bAA aNq [.cell (some 3) 4] 8
def aMR:Kq aKr 204:=Av (Al func204) Ae
def Wm(s:Bs)(p:Nat)(e x:Int):aKr [.agg (Hr s p e),.int .i64 x]=some (.agg (Hr s p x)):=by
 refine Aq (Qi rfl) ?_;unfold aNq;unfold Hr;simp only[↓GQ,GT,GS,reduceIte,Qj,Ql,Qy,Qx,QS]
 all_goals exact Qd
def Mi:=Az [(205,Ac aKv),(206,Ac aKt),(204,Ac aKr),(203,Ac fY)]
def mV:=RF Mi rB [.t 4,.cell (some 3) 5] 60
def aCF:Kq mV 141:=Av (Al func141) (Aa aMS (Aa aWQ (Aa aMR (Aa qH Ae))))
def Wn(s:Bs)(p:Nat)(e:Int)(hl:s.length<=1000000)(o:p<=s.length):mV [.agg (Hr s p e),.int .i64 1]=some (.tup [.int .u64 (A0 s p e).1,.agg (Hr s (A0 s p e).2.1 (A0 s p e).2.2)]):=by
 refine Aq (Qi rfl) ?_;unfold rB;have w:=Rd s p e o;have v:=FH s p e hl o;have c:=aKs;have b:=λx=>Wm s p e x
 unfold A0 Hr at *;by_cases c1:e=0
 ·subst c1;by_cases c2:p<s.length
  ·have n:(((s.length-p:Nat):Int)<1)=False:=eq_false O;have t:IntKind.i64.wrap ((p:Int)+1)=((p+1:Nat):Int):=Hg O O;have g:((0:Int)<=((p+1:Nat):Int)∧((p+1:Nat):Int)<=((s.length:Nat):Int))=True:=eq_true O;have b2:((0:Int)<=(p:Int)∧(p:Int)<=((p+1:Nat):Int))=True:=eq_true O;have d:(s.drop p).take (p+1-p)=[s[p]]:=by rw[Q9 c2,show p+1-p=1 by omega];rfl
   have na:Aw [s[p]]=[.int .u8 (s[p].toNat:Int)]:=rfl;have y:AQ .shl (.int .u64 0) (.int .u64 8)=some (.int .u64 0):=rfl;have u:=aZQ s[p];have a:IntKind.u64.wrap (s[p].toNat:Int)=(s[p].toNat:Int):=B3 O (by have:=s[p].toNat_lt;omega);have f:IntKind.i64.wrap ((0:Int)+1)=1:=rfl;simp only[ne_eq,not_true_eq_false,if_false,dif_pos c2];generalize s[p]=x at *;simp only[↓GQ,GT,GS,reduceIte,Qj,Ql,Qy,reduceCtorEq,Ad Mi 205,w,Ad Mi 203,v,Ad Mi 206,c,n,t,g,b2,Qs,d,na];refine Af Ls.eq_1 ?_;simp only[↓GQ,GT,GS,reduceIte,Qj,Ql,y,u,a,f,ZE,d,Int.zero_lt_one,Zs,Zo];refine Af Ls.eq_1 ?_;simp only[↓GQ,GT,GS,simprocAttr,QI,t]
   repeat refine AJ ?_
   simp only[↓GQ,GT,GS,reduceIte,Qj,Ql,Qy,Qx,QS]
   all_goals exact Qd
  ·have n:(((s.length-p:Nat):Int)<1)=True:=eq_true O;simp only[ne_eq,not_true_eq_false,if_false,dif_neg c2];simp only[↓GQ,GT,GS,reduceIte,Qj,Ql,Qy,reduceCtorEq,Ad Mi 205,w,Ad Mi 203,v,Ad Mi 206,c,Ad Mi 204,b,n]
   all_goals exact Qd
 ·have k:(e=0)=False:=eq_false c1;simp only[ne_eq,k,not_false_eq_true,if_true];simp only[↓GQ,GT,GS,reduceIte,Qj,Ql,Qy,reduceCtorEq,k]
  repeat refine AJ ?_
  simp only[↓GQ,GT,GS,reduceIte,Qj,Ql,Qy]
  all_goals exact Qd
def aFH:=Az [(205,Ac aKv),(203,Ac fY)]
def aKF:=RF aFH aNO [.t 2] 17
def aW0:Kq aKF 359:=Av (Al func359) (Aa aMS (Aa qH Ae))
def aKE(s:Bs)(p:Nat)(e:Int)(hl:s.length<=1000000)(o:p<=s.length):aKF [.agg (Hr s p e)]=some (.int .i64 (if e≠0 then e else if p<s.length then 4 else 0)):=by
 refine Aq (Qi rfl) ?_;unfold aNO;have w:=Rd s p e o;have v:=FH s p e hl o;unfold Hr at *;by_cases c1:e=0
 ·subst c1;have n:((0:Int)<((s.length-p:Nat):Int))=(p<s.length):=propext O;by_cases c2:p<s.length
  ·simp only[↓GQ,GT,GS,reduceIte,Qj,Ql,Qy,ZO,Ad aFH 205,w,Ad aFH 203,v,n,c2]
   all_goals exact Qd
  ·simp only[↓GQ,GT,GS,reduceIte,Qj,Ql,Qy,ZO,Ad aFH 205,w,Ad aFH 203,v,n,c2]
   all_goals exact Qd
 ·have k:(e=0)=False:=eq_false c1;simp only[↓GQ,GT,GS,reduceIte,Qj,Ql,Qy,k];simp[c1]
def EF{s:Bs}{p:Nat}{e:Int}(o:p<=s.length):(A0 s p e).2.1<=s.length∧0<=(A0 s p e).1∧(A0 s p e).1<256:=by
 unfold A0;split
 ·exact⟨o,U,U⟩
 ·split
  ·rename_i h;have:=s[p].toNat_lt;exact⟨h,by first|(simp;done)|(simp;omega),by first|(simp;done)|(simp;omega)⟩
  ·exact⟨o,U,U⟩
def aYN:=Az [(141,Ac mV)]
def nF:List D->List D->Option (D×List D):=RM aYN aDQ [.t 2] 17 3
def aW1:(mQ 3 nF).ok Qo 358:=aUY (Al func358:Fn Qo 358 17 aDQ [.t 2]) Z (Aa aCF Ae)
theorem Po{m:GV}{i j:Id}{o:Nat}{ds:List D}(h:j≠i):∀{n p:Nat},Ai (m.put i o ds) j p n=Ai m j p n
 |0,p=>rfl
 |n+1,p=>by simp only[Ai,aB h,Po h]
def aU1{i fr:Id}(h:∀k,(i=k::fr)=False)(m:GV)(k o:Nat)(ys:List D)(p n:Nat):Ai (m.put (k::fr) o ys) i p n=Ai m i p n:=Po (λe=>(h k).mp e)
def Lx(s:Bs)(p:Nat)(e:Int)(hl:s.length<=1000000)(o:p<=s.length):nF (Hr s p e) []=some (.int .i64 (A0 s p e).1,Hr s (A0 s p e).2.1 (A0 s p e).2.2):=by
 refine aUZ Z rfl (Qi rfl) (λi m fr n na k n0=>?_);have a:=Wn s p e hl o;obtain⟨_,g,b2⟩:=EF (e:=e) o;have t:IntKind.i64.wrap (A0 s p e).1=(A0 s p e).1:=Hg O O;generalize A0 s p e=r at *;unfold Hr at *;obtain⟨b,a1,z⟩:=aZN n;unfold aDQ;simp only[↓GQ,GT,GS,reduceIte,Qj,Ql,Qy,reduceCtorEq,b,a1,z,aU1 n0,n0,Ad aYN 141,a,t]
 first|exact Fe.own (bC na (bC na Fe.refl)) U|exact Fe.own (bC na Fe.refl) U
structure LX (ex:List Nat) (c0:Nat) (m0:GV) (e:Nat) (m:GV) (c:Nat) (nl:Bool) (t:Id):Prop where
 low:∀q o,q<c0->q∉ex->m [q] o=m0 [q] o
 tok:nl=true∨∃j,t=[j]∧c0<=j∧j<c∧m t 0=some (.tok (e+1))
 le:c0<=c
section
variable{ex:List Nat}{c0 e c c' c2 o q:Nat}{m0 m:GV}{nl:Bool}{t:Id}{ds xs:List D}
def LX.start(h:c0<=c):LX ex c0 m0 e m0 c true t:=⟨λ_ _ _ _=>rfl,.inl rfl,h⟩
def LX.put(h:LX ex c0 m0 e m c nl t)(g:c<=c':=by omega):LX ex c0 m0 e (m.put [c'] o ds) c nl t:=by
 obtain⟨u,z,d⟩:=h;refine⟨λq o' v f=>?_,?_,d⟩
 ·grind [aB]
 ·grind [aB]
def LX.putx(h:LX ex c0 m0 e m c nl t)(v:q∈ex)(hl:q<c0):LX ex c0 m0 e (m.put [q] o ds) c nl t:=by
 obtain⟨u,z,k⟩:=h;refine⟨λg o' d f=>?_,?_,k⟩
 ·grind [aB]
 ·grind [aB]
def LX.more(h:LX ex c0 m0 e m c nl t)(g:c<=c'):LX ex c0 m0 e m c' nl t:=by
 obtain⟨u,h2,k⟩:=h;refine⟨u,?_,O⟩;rcases h2 with h2|⟨j,a,b,r,d⟩
 ·exact .inl h2
 ·grind
def LX.grow(h:LX ex c0 m0 e m c nl t):I9 m e (.slice nl t xs):=by
 rcases h.tok with h|⟨j,rfl,_,_,d⟩
 ·exact .inl h
 ·exact .inr ⟨d,U⟩
def LX.app(h:LX ex c0 m0 e m c nl t)(g:c<=c')(z:c'<c2):LX ex c0 m0 e (Ha.app m (Be e [c'] (.slice nl t xs))) c2 false [c']:=by
 obtain⟨u,w,d⟩:=h;refine⟨λq o v f=>?_,.inr ⟨c',rfl,O,z,?_⟩,O⟩
 ·grind [CZ]
 ·rw[CZ,if_pos ⟨rfl,rfl⟩]
def aV(h:LX ex c0 m0 e m c nl t)(g:c<=c')(z:q<c0):Ha.app m (Be e [c'] (.slice nl t xs)) [q] o=m [q] o:=by
 obtain⟨u,w,k⟩:=h;rw[CZ,if_neg Xc];rcases w with rfl|⟨j,rfl,a,b,d⟩
 ·rw[if_neg U]
 ·rw[if_neg Xc]
end
def CV{m:GV}{i:Id}{o:Nat}{d:D}:m.put i o [d] i o=some d:=XU
def Mq(s:Bs):Nat->Nat->Int->List Rw×Bool×Nat×Int
 |0,p,e=>([],false,p,e)
 |k+1,p,e=>(((A0 s p e).1,decide (bits .and .i64 (A0 s (A0 s p e).2.1 (A0 s p e).2.2).1 1≠0),decide (bits .and .i64 (A0 s (A0 s p e).2.1 (A0 s p e).2.2).1 2≠0))::(Mq s k (A0 s (A0 s p e).2.1 (A0 s p e).2.2).2.1 (A0 s (A0 s p e).2.1 (A0 s p e).2.2).2.2).1,
   decide (3<(A0 s (A0 s p e).2.1 (A0 s p e).2.2).1)||(Mq s k (A0 s (A0 s p e).2.1 (A0 s p e).2.2).2.1 (A0 s (A0 s p e).2.1 (A0 s p e).2.2).2.2).2.1,(Mq s k (A0 s (A0 s p e).2.1 (A0 s p e).2.2).2.1 (A0 s (A0 s p e).2.1 (A0 s p e).2.2).2.2).2.2)
def sc0:Sc:=⟨0,false,0,true,[]⟩
def N7(s:Bs):=A0 s 0 0
def MG(s:Bs):=A0 s (N7 s).2.1 (N7 s).2.2
def N6(s:Bs):=A0 s (MG s).2.1 (MG s).2.2
def H9(s:Bs):=A0 s (N6 s).2.1 (N6 s).2.2
def FV(s:Bs):=Mq s (H9 s).1.toNat (H9 s).2.1 (H9 s).2.2
def iK(s:Bs):Sc:=⟨(N7 s).1,decide ((MG s).1=1),(N6 s).1,decide ((H9 s).1.toNat=0),(FV s).1⟩
def aJW(n p:Nat)(e:Int):Int:=if e≠0 then e else if p<n then 4 else 0
def Cz(s:Bs):Sc×Int:=if aJW s.length (FV s).2.2.1 (FV s).2.2.2=3 then(sc0,3)else if aJW s.length (FV s).2.2.1 (FV s).2.2.2≠0∨(decide (1<(MG s).1)||(FV s).2.1)=true∨EJ (iK s) 6=true then(sc0,4)else(iK s,0)
def nX{s:Bs}:∀{k p:Nat} {e:Int},p<=s.length->(Mq s k p e).2.2.1<=s.length
 |0,p,e,h=>h
 |k+1,p,e,h=>by
  show(Mq s k (A0 s (A0 s p e).2.1 (A0 s p e).2.2).2.1 (A0 s (A0 s p e).2.1 (A0 s p e).2.2).2.2).2.2.1<=_;exact nX (EF (EF h).1).1
def WP{s:Bs}:∀{k p:Nat} {e:Int},(Mq s k p e).1.length=k
 |0,p,e=>rfl
 |k+1,p,e=>by simp[Mq,WP]
def Ny:=Az [(358,mQ 3 nF),(359,Ac aKF),(360,Ac aKD),(207,Ac nB)]
def aTU:=RF Ny aOv [.cell (some 4) 2,.t 3] 77
def aXn:Kq aTU 318:=Av (Al func318) (Aa aW1 (Aa aW0 (Aa aMT (Aa dI Ae))))
def sG(s:Bs)(hl:s.length<=1000000):aTU [.str s]=some (.tup [.agg (Hw (Cz s).1),.int .i64 (Cz s).2]):=by
 refine Aq (Qi rfl) ?_;unfold aOv;have b1:(N7 s).2.1<=s.length∧0<=(N7 s).1∧(N7 s).1<256:=EF (QH _);have b2:(MG s).2.1<=s.length∧0<=(MG s).1∧(MG s).1<256:=EF b1.1;have b3:(N6 s).2.1<=s.length∧0<=(N6 s).1∧(N6 s).1<256:=EF b2.1;have b4:(H9 s).2.1<=s.length∧0<=(H9 s).1∧(H9 s).1<256:=EF b3.1;have g1:nF [.str s,.int .i64 0,.int .i64 0] []=some (.int .i64 (N7 s).1,Hr s (N7 s).2.1 (N7 s).2.2):=Lx s 0 0 hl (QH _);have g2:nF (Hr s (N7 s).2.1 (N7 s).2.2) []=some (.int .i64 (MG s).1,Hr s (MG s).2.1 (MG s).2.2):=Lx s _ _ hl b1.1;have g3:nF (Hr s (MG s).2.1 (MG s).2.2) []=some (.int .i64 (N6 s).1,Hr s (N6 s).2.1 (N6 s).2.2):=Lx s _ _ hl b2.1;have g4:nF (Hr s (N6 s).2.1 (N6 s).2.2) []=some (.int .i64 (H9 s).1,Hr s (H9 s).2.1 (H9 s).2.2):=Lx s _ _ hl b3.1;have hn:((H9 s).1.toNat:Int)=(H9 s).1:=QC b4.2.1;have pa:(FV s).2.2.1<=s.length:=nX b4.1;have ob:(FV s).1.length=(H9 s).1.toNat:=WP;have f:aKF [.agg [.str s,.int .i64 ((FV s).2.2.1:Int),.int .i64 (FV s).2.2.2]]=some (.int .i64 (aJW s.length (FV s).2.2.1 (FV s).2.2.2)):=aKE s _ _ hl pa;have l:=sB;have ba:=ND (iK s) 6 false (by show(FV s).1.length<=1000;omega);have hA:FV s=Mq s (H9 s).1.toNat (H9 s).2.1 (H9 s).2.2:=rfl;unfold Cz;unfold iZ at ba;unfold Hr at g1 g2 g3 g4;have hS:iK s=⟨(N7 s).1,decide ((MG s).1=1),(N6 s).1,decide ((H9 s).1.toNat=0),(FV s).1⟩:=rfl;unfold Hw at ba ⊢;generalize EJ (iK s) 6=na at *;generalize aJW s.length (FV s).2.2.1 (FV s).2.2.2=en at *;rw[hS]at ba ⊢;clear hS;generalize FV s=tot at *;generalize N7 s=n1 at *;generalize MG s=n2 at *;generalize N6 s=n3 at *;generalize H9 s=n4 at *;obtain⟨v4,p4,e4⟩:=n4;simp only at *;generalize la:v4.toNat=n at *;rw[←hn]at g4;simp only[GU,↓GQ,GS,simprocAttr,Bu Ny 358,Vz,g1,g2,g3,g4];refine By (n:=n) (I:=λj st=>st.s 28= .int .i64 (n:Int)∧st.s 29= .int .i64 (j:Int)∧st.s 4= .ptr [4] 0∧st.s 5= .ptr [9] 0∧st.s 2= .ptr [0] 0∧∃A od p e nl t,A.length=j∧p<=s.length∧A++(Mq s (n-j) p e).1=tot.1∧(od||(Mq s (n-j) p e).2.1)=(decide (1<n2.1)||tot.2.1)∧(Mq s (n-j) p e).2.2=tot.2.2∧st.s 7= .bool od∧(st.m [4] 0=some (.str s)∧st.m [4] 1=some (.int .i64 (p:Int))∧st.m [4] 2=some (.int .i64 e))∧(st.m [9] 0=some (.int .i64 n1.1)∧st.m [9] 1=some (.bool (decide (n2.1=1)))∧st.m [9] 2=some (.int .i64 n3.1)∧st.m [9] 3=some (.slice nl t (BS A)))∧nl=decide (j=0)∧LX [4,9] 10 _ 328 st.m st.c nl t) (λj hj ih st g hI=>?_) (λst g hI=>?_) 0 (QH _) _ _ ⟨rfl,rfl,rfl,rfl,rfl,[],decide (1<n2.1),p4,e4,true,[],rfl,b4.1,by rw[hA];rfl,by rw[hA];rfl,by rw[hA];rfl,rfl,?_,?_,rfl,LX.start Xb⟩
 rotate_left 2
 ·grind [GV.put]
 ·simp_all [GV.put,BS]
 ·obtain⟨ja,ga,da⟩:=st;obtain⟨d,i,h4,h5,h2,A,od,p,e,nl,t,w,hp,v,r,ia,h7,⟨x0,x1,x2⟩,⟨y0,y1,y2,y3⟩,qa,hG⟩:=hI;simp only at d i h4 h5 h2 h7 x0 x1 x2 y0 y1 y2 y3 hG;refine Af V0.eq_1 ?_;have aa:((j:Int)<n):=by omega
  have ma:=nJ (j:=j);have hw:=wJ (j:=j) O;have q1:=EF (e:=e) hp;have k1:=Lx s p e hl hp;have k2:=Lx s _ (A0 s p e).2.2 hl q1.1;have q2:=EF (e:=(A0 s p e).2.2) q1.1;have ra:n-j=(n-(j+1))+1:=O
  rw[ra]at v r ia;unfold Mq at v r ia;simp only at v r ia;generalize A0 s p e=a at *;generalize A0 s a.2.1 a.2.2=b at *;unfold Hr at k1 k2;have ha:=(hG.putx (q:=4) (o:=0) (ds:=[.str s,.int .i64 (a.2.1:Int),.int .i64 a.2.2]) U O).putx (q:=4) (o:=0) (ds:=[.str s,.int .i64 (b.2.1:Int),.int .i64 b.2.2]) U O;have ea:nl=true->BS A=[]:=by
   rw[qa];intro h;have:A=[]:=Q0.1 (by rw[w];simpa using h);rw[this];rfl
  have y:BS A++[.agg [.int .i64 a.1,.bool (decide (bits .and .i64 b.1 1≠0)),.bool (decide (bits .and .i64 b.1 2≠0))]]=BS (A++[(a.1,decide (bits .and .i64 b.1 1≠0),decide (bits .and .i64 b.1 2≠0))]):=by simp[BS,rwD]
  have oa:(BS A).length<256:=Ye
  have u:(9=4)=False:=U
  have ca:(4=9)=False:=U
  cases od with
  |true=>
   simp only[GU,↓GQ,GS,simprocAttr,d,i,aa,h4,h5,h7,Bu Ny 358,Vz,x0,x1,x2,y3,k1,k2];refine aA ⟨O,rfl,(LX.put ha O).grow⟩ ?_;rw[Ba ea,y];have z:∀(c1 c2 k:Nat)(ds:List D)(xs:List D),da<=c1->da<=c2->∀q,q<10->Ha.app ((((ga.put [4] 0 [.str s,.int .i64 (a.2.1:Int),.int .i64 a.2.2]).put [4] 0 [.str s,.int .i64 (b.2.1:Int),.int .i64 b.2.2]).put [c1] 0 ds)) (Be 328 [c2] (.slice nl t xs)) [q] k=((ga.put [4] 0 [.str s,.int .i64 (a.2.1:Int),.int .i64 a.2.2]).put [4] 0 [.str s,.int .i64 (b.2.1:Int),.int .i64 b.2.2]) [q] k:=λc1 c2 k ds xs e1 e2 q hq=>by
    have:=hG.le;rw[aV (LX.put ha e1) e2 hq,aB Xc]
   have zz:=λ(c1 c2 k:Nat)(ds:List D)(xs:List D) e1 e2=>z c1 c2 k ds xs e1 e2 9 O
   have z4:=λ(c1 c2 k:Nat)(ds:List D)(xs:List D) e1 e2=>z c1 c2 k ds xs e1 e2 4 O
   have x:∀(c1 c2:Nat)(ds xs:List D),da<=c1->da<=c2->(Ai (Ha.app ((((ga.put [4] 0 [.str s,.int .i64 (a.2.1:Int),.int .i64 a.2.2]).put [4] 0 [.str s,.int .i64 (b.2.1:Int),.int .i64 b.2.2]).put [c1] 0 ds)) (Be 328 [c2] (.slice nl t xs))) [9] 3 1).isSome=true:=λc1 c2 ds xs e1 e2=>by
    simp only[Ai,zz c1 c2 3 ds xs e1 e2];simp[GV.put,y3]
   simp only[↓GQ,GT,h5,simprocAttr,QR];refine aA (x _ _ _ _ O O) ?_;simp only[↓GQ,GX,simprocAttr,i,hw];refine ih _ _ ⟨d,rfl,h4,h5,h2,A++[(a.1,decide (bits .and .i64 b.1 1≠0),decide (bits .and .i64 b.1 2≠0))],true,b.2.1,b.2.2,false,_,by simp[w],q2.1,by rw[←v];simp,by rw[←r];simp[],ia,rfl,⟨?_,?_,?_⟩,⟨?_,?_,?_,?_⟩,U,LX.putx (LX.app (LX.put ha O) O Xb) U O⟩
   ·simp only;rw[aB U,z4 _ _ _ _ _ O O];simp[GV.put]
   ·simp only;rw[aB U,z4 _ _ _ _ _ O O];simp[GV.put]
   ·simp only;rw[aB U,z4 _ _ _ _ _ O O];simp[GV.put]
   ·simp only;rw[aE U,zz _ _ _ _ _ O O];simp[GV.put,y0]
   ·simp only;rw[aE U,zz _ _ _ _ _ O O];simp[GV.put,y1]
   ·simp only;rw[aE U,zz _ _ _ _ _ O O];simp[GV.put,y2]
   ·simp only;rw[FA];exact CV
  |false=>
   by_cases c3:3<b.1
   ·simp only[GU,↓GQ,GS,simprocAttr,d,i,aa,h4,h5,h7,Bu Ny 358,Vz,x0,x1,x2,y3,k1,k2,c3];refine aA ⟨O,rfl,(LX.put ha O).grow⟩ ?_;rw[Ba ea,y];have z:∀(c1 c2 k:Nat)(ds:List D)(xs:List D),da<=c1->da<=c2->∀q,q<10->Ha.app ((((ga.put [4] 0 [.str s,.int .i64 (a.2.1:Int),.int .i64 a.2.2]).put [4] 0 [.str s,.int .i64 (b.2.1:Int),.int .i64 b.2.2]).put [c1] 0 ds)) (Be 328 [c2] (.slice nl t xs)) [q] k=((ga.put [4] 0 [.str s,.int .i64 (a.2.1:Int),.int .i64 a.2.2]).put [4] 0 [.str s,.int .i64 (b.2.1:Int),.int .i64 b.2.2]) [q] k:=λc1 c2 k ds xs e1 e2 q hq=>by
     have:=hG.le;rw[aV (LX.put ha e1) e2 hq,aB Xc]
    have zz:=λ(c1 c2 k:Nat)(ds:List D)(xs:List D) e1 e2=>z c1 c2 k ds xs e1 e2 9 O
    have z4:=λ(c1 c2 k:Nat)(ds:List D)(xs:List D) e1 e2=>z c1 c2 k ds xs e1 e2 4 O
    have x:∀(c1 c2:Nat)(ds xs:List D),da<=c1->da<=c2->(Ai (Ha.app ((((ga.put [4] 0 [.str s,.int .i64 (a.2.1:Int),.int .i64 a.2.2]).put [4] 0 [.str s,.int .i64 (b.2.1:Int),.int .i64 b.2.2]).put [c1] 0 ds)) (Be 328 [c2] (.slice nl t xs))) [9] 3 1).isSome=true:=λc1 c2 ds xs e1 e2=>by
     simp only[Ai,zz c1 c2 3 ds xs e1 e2];simp[GV.put,y3]
    simp only[↓GQ,GT,h5,simprocAttr,QR];refine aA (x _ _ _ _ O O) ?_;simp only[↓GQ,GX,simprocAttr,i,hw];refine ih _ _ ⟨d,rfl,h4,h5,h2,A++[(a.1,decide (bits .and .i64 b.1 1≠0),decide (bits .and .i64 b.1 2≠0))],true,b.2.1,b.2.2,false,_,by simp[w],q2.1,by rw[←v];simp,by rw[←r];simp[c3],ia,rfl,⟨?_,?_,?_⟩,⟨?_,?_,?_,?_⟩,U,LX.putx (LX.app (LX.put ha O) O Xb) U O⟩
    ·simp only;rw[aB U,z4 _ _ _ _ _ O O];simp[GV.put]
    ·simp only;rw[aB U,z4 _ _ _ _ _ O O];simp[GV.put]
    ·simp only;rw[aB U,z4 _ _ _ _ _ O O];simp[GV.put]
    ·simp only;rw[aE U,zz _ _ _ _ _ O O];simp[GV.put,y0]
    ·simp only;rw[aE U,zz _ _ _ _ _ O O];simp[GV.put,y1]
    ·simp only;rw[aE U,zz _ _ _ _ _ O O];simp[GV.put,y2]
    ·simp only;rw[FA];exact CV
   ·simp only[GU,↓GQ,GS,simprocAttr,d,i,aa,h4,h5,h7,Bu Ny 358,Vz,x0,x1,x2,y3,k1,k2,c3];refine aA ⟨O,rfl,(LX.put ha O).grow⟩ ?_;rw[Ba ea,y];have z:∀(c1 c2 k:Nat)(ds:List D)(xs:List D),da<=c1->da<=c2->∀q,q<10->Ha.app ((((ga.put [4] 0 [.str s,.int .i64 (a.2.1:Int),.int .i64 a.2.2]).put [4] 0 [.str s,.int .i64 (b.2.1:Int),.int .i64 b.2.2]).put [c1] 0 ds)) (Be 328 [c2] (.slice nl t xs)) [q] k=((ga.put [4] 0 [.str s,.int .i64 (a.2.1:Int),.int .i64 a.2.2]).put [4] 0 [.str s,.int .i64 (b.2.1:Int),.int .i64 b.2.2]) [q] k:=λc1 c2 k ds xs e1 e2 q hq=>by
     have:=hG.le;rw[aV (LX.put ha e1) e2 hq,aB Xc]
    have zz:=λ(c1 c2 k:Nat)(ds:List D)(xs:List D) e1 e2=>z c1 c2 k ds xs e1 e2 9 O
    have z4:=λ(c1 c2 k:Nat)(ds:List D)(xs:List D) e1 e2=>z c1 c2 k ds xs e1 e2 4 O
    have x:∀(c1 c2:Nat)(ds xs:List D),da<=c1->da<=c2->(Ai (Ha.app ((((ga.put [4] 0 [.str s,.int .i64 (a.2.1:Int),.int .i64 a.2.2]).put [4] 0 [.str s,.int .i64 (b.2.1:Int),.int .i64 b.2.2]).put [c1] 0 ds)) (Be 328 [c2] (.slice nl t xs))) [9] 3 1).isSome=true:=λc1 c2 ds xs e1 e2=>by
     simp only[Ai,zz c1 c2 3 ds xs e1 e2];simp[GV.put,y3]
    simp only[↓GQ,GT,h5,simprocAttr,QR];refine aA (x _ _ _ _ O O) ?_;simp only[↓GQ,GX,simprocAttr,i,hw];refine ih _ _ ⟨d,rfl,h4,h5,h2,A++[(a.1,decide (bits .and .i64 b.1 1≠0),decide (bits .and .i64 b.1 2≠0))],false,b.2.1,b.2.2,false,_,by simp[w],q2.1,by rw[←v];simp,by rw[←r];simp[c3],ia,rfl,⟨?_,?_,?_⟩,⟨?_,?_,?_,?_⟩,U,LX.putx (LX.app (LX.put ha O) O Xb) U O⟩
    ·simp only;rw[aB U,z4 _ _ _ _ _ O O];simp[GV.put]
    ·simp only;rw[aB U,z4 _ _ _ _ _ O O];simp[GV.put]
    ·simp only;rw[aB U,z4 _ _ _ _ _ O O];simp[GV.put]
    ·simp only;rw[aE U,zz _ _ _ _ _ O O];simp[GV.put,y0]
    ·simp only;rw[aE U,zz _ _ _ _ _ O O];simp[GV.put,y1]
    ·simp only;rw[aE U,zz _ _ _ _ _ O O];simp[GV.put,y2]
    ·simp only;rw[FA];exact CV
 ·obtain⟨ja,ga,da⟩:=st;obtain⟨d,i,h4,h5,h2,A,od,p,e,nl,t,w,hp,v,r,ia,h7,⟨x0,x1,x2⟩,⟨y0,y1,y2,y3⟩,qa,hG⟩:=hI;simp only at d i h4 h5 h2 h7 x0 x1 x2 y0 y1 y2 y3 hG;refine Af V0.eq_1 ?_;have m0:∀k,ga [0] k=_:=λk=>hG.low 0 k O U
  rw[ZN]at v r ia;unfold Mq at v r ia;simp only[Q6,Bool.or_false]at v r ia;rw[←r];rw[←v]at ba ⊢;rw[←ia]at f;simp only at f;rw[←qa]at ba ⊢;by_cases c1:en=3
  ·simp only[GU,↓GQ,GS,simprocAttr,d,i,h4,h2,QI,x0,x1,x2,m0,Ad Ny 359,f,c1]
   all_goals (first|rfl|exact⟨rfl,rfl⟩|(simp[*,sc0];done)|(simp[*,sc0];rfl))
  ·have ka:(en=3)=False:=eq_false c1;by_cases c2:en=0
   ·subst c2;cases od with
    |true=>
     simp only[GU,↓GQ,GS,simprocAttr,d,i,h4,h7,QI,x0,x1,x2,Ad Ny 359,f];refine AJ ?_;simp only[GU,↓GQ,GS,simprocAttr,h2,m0]
     all_goals (first|rfl|exact⟨rfl,rfl⟩|(simp[*,sc0];done)|(simp[*,sc0];rfl))
    |false=>
     cases na with
     |true=>
      simp only[if_true]at ba;simp only[GU,↓GQ,GS,simprocAttr,d,i,h4,h5,h7,QI,x0,x1,x2,y0,y1,y2,y3,Ad Ny 359,f,Ad Ny 360,l,Ad Ny 207,ba];refine AJ ?_;simp only[GU,↓GQ,GS,simprocAttr,h2,m0]
      all_goals (first|rfl|exact⟨rfl,rfl⟩|(simp[*,sc0];done)|(simp[*,sc0];rfl))
     |false=>
      simp only[if_false,QA]at ba;simp only[GU,↓GQ,GS,simprocAttr,d,i,h4,h5,h7,QI,x0,x1,x2,y0,y1,y2,y3,Ad Ny 359,f,Ad Ny 360,l,Ad Ny 207,ba];refine AJ ?_;simp only[GU,↓GQ,GS,simprocAttr,h2,h5,m0,y0,y1,y2,y3]
      all_goals (first|rfl|exact⟨rfl,rfl⟩|(simp[*,sc0];done)|(simp[*,sc0];rfl))
   ·have fa:(en=0)=False:=eq_false c2;simp only[GU,↓GQ,GS,simprocAttr,d,i,h4,QI,x0,x1,x2,Ad Ny 359,f,ka,fa];refine AJ ?_;simp only[GU,↓GQ,GS,simprocAttr,h2,m0]
    all_goals (first|rfl|exact⟨rfl,rfl⟩|(simp[*,sc0];done)|(simp[*,sc0];rfl))
def aXY:=y0 f149 [] []
def aYl:=y0 f83 [] []
def aX2:=y0 f173 [(3,[(2,0)])] []
def PB:=y1 f236 2 [] []
def aNX:=y0 f236 [] [(2,PB)]
def V4:=y1 f174 14 [] []
def aOC:=y0 f174 [(18,[(3,6),(3,10),(7,10)])] [(14,V4)]
def aPu:=y0 f110 [] []
def aPv:=y0 f52 [] []
def aOB:=y0 f63 [] []
def aPs:=y0 f245 [] []
def aPt:=y0 f244 [] []
def V1:=y1 f315 2 [] []
def aOw:=y0 f315 [] [(2,V1)]
def aPl:=y0 f254 [] []
def aYv:=y0 f187 [] []
def A9(k:Int)(name:Bs)(n:Int):Bs:=if Br k name n≠0 then []else if k=1 then [109,47]++name else if k=2 then [100,47]++name++[0,UInt8.ofNat (IntKind.u8.wrap n).toNat]else if k=3 then [116,47]++name else if k=4 then [115,47,109,111,117,110,116,115]else [115,47,114,105,110,103]
def aHa{k n:Int}{name:Bs}(h:name.length<=1000000):F98 [.agg [.int .u8 k,.str name,.int .i64 n]]=some (.int .i64 (Br k name n)):=if_pos h
def LS{a b:Bs}(h:a.length+b.length<=9223372036854775807):AQ .add (.str a) (.str b)=some (.str (a++b)):=by simp[AQ,h]
def mS:=Az [(127,Ac F98)]
def aK3:=RF mS aOB [.t 2,.t 3] 35
def aMW:Kq aK3 63:=Av (Al func63) (Aa aIO Ae)
def sH(k n:Int)(name:Bs)(hl:name.length<=1000000):aK3 [.agg [.int .u8 k,.str name,.int .i64 n]]=some (.tup [.str (A9 k name n),.int .i64 (Br k name n)]):=by
 refine Aq (Qi rfl) ?_;unfold aOB;have v:=aHa (k:=k) (n:=n) hl;have a1:∀x y,AQ .add (.str [x,y]) (.str name)=some (.str ([x,y]++name)):=λx y=>LS YQ
 have i:∀a,BM [.int .u8 0,.int .u8 a]=some [0,UInt8.ofNat a.toNat]:=λ_=>rfl
 unfold A9;generalize Br k name n=e at *;by_cases c0:e=0
 ·subst c0;by_cases c1:k=1
  ·have p:=eq_true c1;simp only[GU,↓GQ,GS,simprocAttr,Ad mS 127,v,p,a1]
   all_goals exact Qd
  have p:=eq_false c1;by_cases c2:k=2
  ·have m:=eq_true c2;have t:=λz (j:z.length<=100)=>LS (a:=[100,47]++name) (b:=z) YR
   have r:=λc d=>t [c,d] U
   simp only[GU,↓GQ,GS,simprocAttr,Ad mS 127,v,p,m,a1,r,i]
   all_goals exact Qd
  have m:=eq_false c2;by_cases q:k=3
  ·have o:=eq_true q;simp only[GU,↓GQ,GS,simprocAttr,Ad mS 127,v,p,m,o,a1]
   all_goals exact Qd
  have o:=eq_false q;by_cases u:k=4
  ·have f:=eq_true u;simp only[GU,↓GQ,GS,simprocAttr,Ad mS 127,v,p,m,o,f]
   all_goals exact Qd
  ·have f:=eq_false u;simp only[GU,↓GQ,GS,simprocAttr,Ad mS 127,v,p,m,o,f]
   all_goals exact Qd
 ·have h:=eq_false c0;simp only[GU,↓GQ,GS,simprocAttr,Ad mS 127,v,h]
  all_goals exact Qd
def aY8:=Az [(63,Ac aK3)]
def S2:=RF aY8 aPs [.t 6] 18
def Ub:Kq S2 245:=Av (Al func245) (Aa aMW Ae)
def FI(k n:Int)(name:Bs)(hl:name.length<=1000000):S2 [.int .u8 k,.str name,.int .i64 n]=some (.str (A9 k name n)):=by
 refine Aq (Qi rfl) ?_;unfold aPs;have a:=sH k n name hl;simp only[↓GQ,GT,GS,simprocAttr,Ad aY8 63,a]
 all_goals exact Qd
def AH(s:Bs):Int×Bs×Int:=if s=[115,47,109,111,117,110,116,115]then(4,[],0)else if s=[115,47,114,105,110,103]then(5,[],0)else if A2 s [109,47]=true then(1,s.drop 2,0)else if A2 s [116,47]=true then(3,s.drop 2,0)else
 if A2 s [100,47]=true∧2<(s.drop 2).length∧(s.drop 2).getD ((s.drop 2).length-2) 0=0 then(2,(s.drop 2).take ((s.drop 2).length-2),((s.drop 2).getD ((s.drop 2).length-1) 0).toNat)else(0,[],0)
def A8(s:Bs):(Int×Bs×Int)×Int:=if Br (AH s).1 (AH s).2.1 (AH s).2.2≠0 then((0,[],0),4)else(AH s,0)
def xD(k:Int×Bs×Int):D:= .agg [.int .u8 k.1,.str k.2.1,.int .i64 k.2.2]
def Uh(s:Bs):(AH s).2.1.length<=s.length:=by
 grind [AH]
def S97:=Az [(216,Ac aAA)]
def R97:=RF S97 aXY [.cell (some 3) 2] 64
def bAf:Kq R97 149:=Av (Al func149) (Aa aMG Ae)
def aTt(s:Bs)(hl:s.length<=1000000):R97 [.str s]=some (xD (AH s)):=by
 refine Aq (Qi rfl) ?_;unfold aXY;have c:∀a b:UInt8,aAA [.str s,.str [a,b]]=some (.tup [.str (if A2 s [a,b]=true then s.drop 2 else s),.bool (A2 s [a,b])]):=λ_ _=>rfl
 unfold AH xD;by_cases c1:s=[115,47,109,111,117,110,116,115]
 ·have p:=eq_true c1;simp only[GU,↓GQ,GS,simprocAttr,p]
  all_goals exact Qd
 have p:=eq_false c1;by_cases c2:s=[115,47,114,105,110,103]
 ·have m:=eq_true c2;simp only[GU,↓GQ,GS,simprocAttr,p,m]
  all_goals exact Qd
 have m:=eq_false c2;cases c3:A2 s [109,47]with
 |true=>
  simp only[GU,↓GQ,GS,simprocAttr,Ad S97 216,c,p,m,c3]
  all_goals exact Qd
 |false=>
  cases c4:A2 s [116,47]with
  |true=>
   simp only[GU,↓GQ,GS,simprocAttr,Ad S97 216,c,p,m,c3,c4]
   all_goals exact Qd
  |false=>
   cases c5:A2 s [100,47]with
   |false=>
    simp only[GU,↓GQ,GS,simprocAttr,Ad S97 216,c,p,m,c3,c4,c5]
    all_goals exact Qd
   |true=>
    have z:(s.drop 2).length<=1000000:=XN
    generalize j:s.drop 2=r at *;by_cases n:2<r.length
    ·have e:((2:Int)<(r.length:Int))=True:=eq_true O;have i:IntKind.i64.wrap ((r.length:Int)-2)=((r.length-2:Nat):Int):=by rw[Hg O O];omega
     have t:IntKind.i64.wrap (((r.length-2:Nat):Int)+1)=((r.length-1:Nat):Int):=Xg
     have k:(0:Int)<=((r.length-2:Nat):Int):=O
     have v:(0:Int)<=((r.length-1:Nat):Int):=O
     have q:(((r.length-2:Nat):Int)<=((r.length:Nat):Int))=True:=eq_true O;have g:r[r.length-2]?=some (r.getD (r.length-2) 0):=by simp[Zp,Qq (show r.length-2<r.length by omega)]
     have u:r[r.length-1]?=some (r.getD (r.length-1) 0):=by simp[Zp,Qq (show r.length-1<r.length by omega)]
     have hz:((r.getD (r.length-2) 0).toNat:Int)=0↔r.getD (r.length-2) 0=0:=by
      constructor
      ·intro h;exact UInt8.toNat_inj.1 (by
        have:(r.getD (r.length-2) 0).toNat=0:=O
        rw[this];rfl)
      ·intro h;rw[h];rfl
     have f:IntKind.i64.wrap ((r.getD (r.length-1) 0).toNat:Int)=((r.getD (r.length-1) 0).toNat:Int):=Hg O (by have:=(r.getD (r.length-1) 0).toNat_lt;omega);generalize r.getD (r.length-1) 0=y at *;generalize r.getD (r.length-2) 0=x at *;by_cases w:x=0
     ·have d:((x.toNat:Int)=0)=True:=eq_true (hz.2 w);simp only[GU,↓GQ,GS,simprocAttr,Ad S97 216,c,p,m,c3,c4,c5,e,i,t,k,v,q,g,u,d,f,Qs];refine AJ ?_;simp only[GU,↓GQ,GS,simprocAttr]
      all_goals exact Qd
     ·have d:((x.toNat:Int)=0)=False:=eq_false (λh=>w (hz.1 h));simp only[GU,↓GQ,GS,simprocAttr,Ad S97 216,c,p,m,c3,c4,c5,e,i,k,g,d,Qs]
      all_goals exact Qd
    ·have e:((2:Int)<(r.length:Int))=False:=eq_false O;simp only[GU,↓GQ,GS,simprocAttr,Ad S97 216,c,p,m,c3,c4,c5,e]
     all_goals exact Qd
def S38:=Az [(149,Ac R97),(127,Ac F98)]
def R38:=RF S38 aYl [.cell (some 3) 2,.t 3] 12
def bAn:Kq R38 83:=Av (Al func83) (Aa bAf (Aa aIO Ae))
def aTw(s:Bs)(hl:s.length<=1000000):R38 [.str s]=some (.tup [xD (A8 s).1,.int .i64 (A8 s).2]):=by
 refine Aq (Qi rfl) ?_;unfold aYl;have a:=aTt s hl;have v:=aHa (k:=(AH s).1) (n:=(AH s).2.2) (name:=(AH s).2.1) (by have:=Uh s;omega);unfold A8;unfold xD at *;generalize Br (AH s).1 (AH s).2.1 (AH s).2.2=e at *;generalize AH s=g at *;by_cases c0:e=0
 ·subst c0;simp only[GU,↓GQ,GS,simprocAttr,Ad S38 149,a,Ad S38 127,v]
  all_goals exact Qd
 ·have h:=eq_false c0;simp only[GU,↓GQ,GS,simprocAttr,Ad S38 149,a,Ad S38 127,v,h]
  all_goals exact Qd
def aHR(w:World)(k:Nat)(y:0<k)(s:k<=1000000):
  Calls Qo 330 #[.slice none 0 0,.int .i64 (k:Int)] w λe w'=>e= .returned (.slice (some ⟨w.heap.size,0,none⟩) 0 (grownCap w k 0 9))∧w'=w.drew.alloc (.cells (Builtin.zeroCells #[.string .empty] k++Builtin.zeroCells #[.string .empty] (grownCap w k 0 9-k)) 9):=by
 have v:=Lib.run_append_nil_zeros (P:=Qo) w 160 3 160 9 Tryz.t9 (.string .empty) .i64 .i64 underlying160 underlying3 Xa Xa k y Z O (by show k*16<=_;omega)
 go_enter func330,ntmps330
 go_wp2_with (first|(at_builtin;refine Lib.wpList_append_run _ rfl _ _ _ _ rfl _ _ rfl rfl _ _ v ?_))
 all_goals go_ret
 all_goals exact⟨rfl,rfl⟩
def bAe:(Ez 9).ok Qo 330:=by
 refine Pr (sz:=1) ⟨_,func330,Xa,Xa⟩ Z ⟨Tryz.t9,(.string .empty),Xa,Xa,Xa,Xa⟩ (λw k y s=>?_);refine(aHR w k y s).mono ?_;rintro e w' ⟨rfl,rfl⟩;refine⟨_,_,grownCap_le_maxLen w k 0 9 Xt,?_,rfl,rfl⟩;have c:=grownCap_ge w k 0 9;simp only[Zb,size_zeroCells];simp;omega
def aAL(w:World)(k:Nat)(y:0<k)(s:k<=1000000):
  Calls Qo 331 #[.slice none 0 0,.int .i64 (k:Int)] w λe w'=>e= .returned (.slice (some ⟨w.heap.size,0,none⟩) 0 (grownCap w k 0 4))∧w'=w.drew.alloc (.cells (Builtin.zeroCells #[.bool false] k++Builtin.zeroCells #[.bool false] (grownCap w k 0 4-k)) 4):=by
 have v:=Lib.run_append_nil_zeros (P:=Qo) w 224 3 224 4 Tryz.t4 (.bool false) .i64 .i64 underlying224 underlying3 Xa Xa k y Z O (by show k*1<=_;omega)
 go_enter func331,ntmps331
 go_wp2_with (first|(at_builtin;refine Lib.wpList_append_run _ rfl _ _ _ _ rfl _ _ rfl rfl _ _ v ?_))
 all_goals go_ret
 all_goals exact⟨rfl,rfl⟩
def aXD:(Ez 4).ok Qo 331:=by
 refine Pr (sz:=1) ⟨_,func331,Xa,Xa⟩ Z ⟨Tryz.t4,(.bool false),Xa,Xa,Xa,Xa⟩ (λw k y s=>?_);refine(aAL w k y s).mono ?_;rintro e w' ⟨rfl,rfl⟩;refine⟨_,_,grownCap_le_maxLen w k 0 4 Xt,?_,rfl,rfl⟩;have c:=grownCap_ge w k 0 4;simp only[Zb,size_zeroCells];simp;omega
def aXO:Fn Qo 263 36 (MS 9 9 1 16 330) [.t 2]:=⟨f263,_,func263,rfl,Xa,rfl,Xa,Xa⟩
def S39:=Az [(330,Ez 9)]
def R39:=RF S39 (MS 9 9 1 16 330) [.t 2] 36
def bAm:Kq R39 263:=Av aXO (Aa bAe Ae)
def aFQ{nl:Bool}{xs:List D}{x:D}(hl:xs.length<=1000)(g:(xs++[x]).all (iQ 1)=true):R39 [.slice false [] [.slice nl [] xs,.slice false [] [x]]]=some (.slice false [] (xs++[x])):=
 Aq (Qi rfl) (V9 (P:=Qo) (f:=39) O rfl (by simp[FP]) (Qi rfl) U Xc g λt m q=>⟨rfl,rfl⟩)
def aXN:Fn Qo 264 36 (MS 9 4 1 1 331) [.t 2]:=⟨f264,_,func264,rfl,Xa,rfl,Xa,Xa⟩
def S40:=Az [(331,Ez 4)]
def R40:=RF S40 (MS 9 4 1 1 331) [.t 2] 36
def bAl:Kq R40 264:=Av aXN (Aa aXD Ae)
def aTv{nl:Bool}{xs:List D}{x:D}(hl:xs.length<=1000)(g:(xs++[x]).all (iQ 1)=true):R40 [.slice false [] [.slice nl [] xs,.slice false [] [x]]]=some (.slice false [] (xs++[x])):=
 Aq (Qi rfl) (V9 (P:=Qo) (f:=40) O rfl (by simp[FP]) (Qi rfl) U Xc g λt m q=>⟨rfl,rfl⟩)
def AL(l:List Bs):List D:=l.map .str
def Bb(l:List Bs):(AL l).length=l.length:=QJ ..
def Ik{l:List Bs}{j:Nat}(h:j<l.length):(AL l)[j]?=some (.str l[j]):=by simp[AL,Qq h]
structure Kn where
 es:List (Bs×Bs×Bool)
 ls:List (Bs×Bool×List Bs)
def lsD(x:Bs×Bool×List Bs):D:= .slice x.2.1 [] (AL x.2.2)
def Ie(k:Kn):List D:=[.slice k.es.isEmpty [] (k.es.map λx=> .str x.1),.slice k.es.isEmpty [] (k.es.map λx=> .str x.2.1),.slice k.es.isEmpty [] (k.es.map λx=> .bool x.2.2),.slice k.ls.isEmpty [] (k.ls.map λx=> .str x.1),.slice k.ls.isEmpty [] (k.ls.map lsD)]
def aS9{α:Type}{f:α->D}(h:∀x,iQ 1 (f x)=true)(l:List α)(y:α):(l.map f++[f y]).all (iQ 1)=true:=by
 simp_all
def bAz{α:Type}(l:List α)(x:α):(l++[x]).isEmpty=false:=XB
def S12:=Az [(263,Ac R39),(264,Ac R40)]
def R12:=RF S12 aYv [.cell (some 5) 8] 31
def bAp:Kq R12 187:=Av (Al func187) (Aa bAm (Aa bAl Ae))
def aT0(k:Kn)(key r:Bs)(y:Bool)(hl:k.es.length<=1000):R12 [.agg (Ie k),.str key,.str r,.bool y]=some (.agg (Ie {k with es:=k.es++[(key,r,y)]})):=by
 refine Aq (Qi rfl) ?_;unfold aYv;have u:=aFQ (nl:=k.es.isEmpty) (xs:=k.es.map λx=> .str x.1) (x:= .str key) Xo (aS9 (f:=λx:Bs×Bs×Bool=> .str x.1) (λ_=>rfl) k.es (key,r,y));have q:=aFQ (nl:=k.es.isEmpty) (xs:=k.es.map λx=> .str x.2.1) (x:= .str r) Xo (aS9 (f:=λx:Bs×Bs×Bool=> .str x.2.1) (λ_=>rfl) k.es (key,r,y));have d:=aTv (nl:=k.es.isEmpty) (xs:=k.es.map λx=> .bool x.2.2) (x:= .bool y) Xo (aS9 (f:=λx:Bs×Bs×Bool=> .bool x.2.2) (λ_=>rfl) k.es (key,r,y));unfold Ie;simp only[Za,QN,QP,bAz];simp only[GU,↓GQ,GS,simprocAttr,Ad S12 263,u,q,Ad S12 264,d]
 all_goals exact Qd
def CG:List Bs->Bs->Int
 |[],_=>-1
 |x::r,s=>if 0<=CG r s then CG r s+1 else if x=s then 0 else-1
def MP:∀(l:List Bs)(s:Bs),-1<=CG l s∧CG l s<l.length
 |[],s=>by simp[CG]
 |x::r,s=>by
  have:=MP r s;unfold CG;simp only[Qv];split
  ·omega
  ·split<;>omega
def R7:∀{l:List Bs} {s:Bs},(∀i (h:i<l.length),l[i]≠s)->CG l s=-1
 |[],s,_=>rfl
 |x::r,s,h=>by
  have ih:=R7 (l:=r) (s:=s) (λi hi=>h (i+1) (by simpa using hi));have y:x≠s:=h 0 U;simp[CG,ih,y]
def dH:∀{l:List Bs} {s:Bs} {j:Nat} (w:j<l.length),l[j]=s->(∀i (h:i<l.length),j<i->l[i]≠s)->CG l s=j
 |x::r,s,0,w,hx,h=>by
  have ih:=R7 (l:=r) (s:=s) (λi hi=>h (i+1) (by simpa using hi) O);have y:x=s:=hx;simp[CG,ih,y]
 |x::r,s,j+1,w,hx,h=>by
  have ih:=dH (l:=r) (s:=s) (j:=j) XZ (by simpa using hx) (λi hi t=>h (i+1) (by simpa using hi) O);unfold CG;rw[if_pos O,ih];omega
def bAR:=Az []
def aKZ:=RF bAR aOw [.t 4] 20
def aXo:Kq aKZ 315:=Av (Al func315) Ae
def aKY{nl:Bool}{l:List Bs}(q:Bs)(hl:l.length<=1000):aKZ [.slice nl [] (AL l),.str q]=some (.int .i64 (CG l q)):=by
 refine Aq (Qi rfl) ?_;unfold aOw;have o:IntKind.i64.wrap ((l.length:Int)-1)=(l.length:Int)-1:=Hg O O;simp only[↓GQ,GX,simprocAttr,Bb,o];refine By (n:=l.length) (I:=λj z=>z.s 0= .slice nl [] (AL l)∧z.s 1= .str q∧z.s 5= .int .i64 ((l.length:Int)-1-j)∧∀i (h:i<l.length),l.length<=i+j->l[i]≠q) (λj d ih z g hI=>?_) (λz g hI=>?_) 0 (QH _) _ _ ⟨rfl,rfl,by rw[show((0:Nat):Int)=0 from rfl,Int.sub_zero];rfl,λi h w=>O⟩
 ·obtain⟨ja,a,r⟩:=z;obtain⟨y,u,k,p⟩:=hI;simp only at y u k;refine Af V1.eq_1 ?_;have c:(0:Int)<=(l.length:Int)-1-j:=by omega
  have t:IntKind.i64.wrap ((l.length:Int)-1-j-1)=(l.length:Int)-1-((j+1:Nat):Int):=Xg
  have hi:((l.length:Int)-1-j).toNat=l.length-1-j:=O
  have ia:=Ik (l:=l) (j:=l.length-1-j) O;by_cases f:l[l.length-1-j]' O=q
  ·have e:=dH O f (λi h w=>p i h O);have b:=eq_true f;have m:((l.length-1-j:Nat):Int)=(l.length:Int)-1-j:=by omega
   simp only[↓GQ,GT,GS,simprocAttr,y,u,k,c,hi,ia,b];rw[e,m]
   all_goals exact Qd
  ·have b:=eq_false f;simp only[↓GQ,GT,GS,simprocAttr,y,u,k,c,hi,ia,b,t];refine ih _ _ ⟨y,u,rfl,λi h w=>?_⟩;by_cases x:l.length<=i+j
   ·exact p i h x
   ·grind
 ·obtain⟨y,u,k,p⟩:=hI;refine Af V1.eq_1 ?_;have c:¬(0:Int)<=(l.length:Int)-1-(l.length:Int):=by omega
  have e:=R7 (l:=l) (s:=q) (λi h=>p i h O);simp only[↓GQ,GT,GS,simprocAttr,k,c];rw[e]
  all_goals exact Qd
def Fo(k:Kn):List Bs:=k.es.map (·.1)
def Dx(k:Kn)(q:Bs):Bs×Bool×Bool:=if CG (Fo k) q<0 then([],false,false)else((k.es.getD (CG (Fo k) q).toNat ([],[],false)).2.1,(k.es.getD (CG (Fo k) q).toNat ([],[],false)).2.2,true)
def aTr:=Az [(315,Ac aKZ)]
def nC:=RF aTr aPl [.t 4,.t 5,.t 6] 37
def aMY:Kq nC 254:=Av (Al func254) (Aa aXo Ae)
def Rf(k:Kn)(q:Bs)(hl:k.es.length<=1000):nC [.agg (Ie k),.str q]=some (.tup [.str (Dx k q).1,.bool (Dx k q).2.1,.bool (Dx k q).2.2]):=by
 refine Aq (Qi rfl) ?_;unfold aPl;have a:aKZ [.slice k.es.isEmpty [] (k.es.map λx=> .str x.1),.str q]=some (.int .i64 (CG (Fo k) q)):=by
  have e:=aKY (nl:=k.es.isEmpty) (l:=Fo k) q (by simpa[Fo]using hl);simpa[AL,Fo,Function.comp_def]using e
 have f:=MP (Fo k) q;have ia:(Fo k).length=k.es.length:=QJ ..;rw[ia]at f;unfold Dx Ie;generalize CG (Fo k) q=i at *;by_cases c:i<0
 ·simp only[↓GQ,GT,GS,simprocAttr,Ad aTr 315,a,c]
  all_goals exact Qd
 ·have hi:i.toNat<k.es.length:=by omega
  have c0:(0:Int)<=i:=O
  have c1:(i<(k.es.length:Int))=True:=eq_true O;have r:(k.es.map λx=>D.str x.2.1)[i.toNat]?=some (.str (k.es.getD i.toNat ([],[],false)).2.1):=by simp[Qq hi]
  have u:(k.es.map λx=>D.bool x.2.2)[i.toNat]?=some (.bool (k.es.getD i.toNat ([],[],false)).2.2):=by simp[Qq hi]
  generalize k.es.getD i.toNat ([],[],false)=x at *;simp only[↓GQ,GT,GS,simprocAttr,Ad aTr 315,a,c,c0,c1,r,u,QJ];refine AJ ?_;simp only[↓GQ,GT,GS,simprocAttr]
  all_goals exact Qd
structure Dk where
 n1:Bool
 its:List (Bs×Bs×Bool)
 n2:Bool
 lss:List (Bs×Bool×List Bs)
def Bv(k:Kn)(q:Bs)(li:Bool)(d:Dk):Kn:=
 if li=true then {k with ls:=k.ls++[(q,((d.lss.find? λx=>decide (x.1=q)).getD ([],true,[])).2)]}else {k with es:=k.es++[(q,((d.its.find? λx=>decide (x.1=q)).getD ([],[],false)).2)]}
def aN6:=y0 f303 [] []
def aO0:=y0 f235 [] []
def aO1:=y0 f234 [] []
def aNV:=y0 f238 [] []
def aNU:=y0 f239 [] []
def aNT:=y0 Tryz.f240 [] []
def plV:D->Value
 | .str s=> .string ⟨s.toArray⟩
 | .int k n=> .int k n
 | .bool b=> .bool b
 |_=>undef
def aQZ{w:World}{g:Gh}{d:D}{v:Value}(h:Rep w g d v)(o:d.plain=true):v=plV d:=by
 cases h with
 |bool b=>rfl
 |int k n=>rfl
 |str s=>rfl
 |_=>cases o
def Vg {P:Program} {f:FuncId} {F:List D→Option D} (ja:∃n,P.funcs[f]?=some n∧n.body.isSome=true∧(n.name== "runtime.NumGoroutine")=false)
  (h:∀ds r,F ds=some r->(∀d∈ds,d.plain=true)∧∃v,(∀w g,Rep w g r v)∧∀w:World,Calls P f (ds.map plV).toArray w λe w'=>e= .returned v∧Below w.heap.size w w'):(Ac F).ok P f:=by
 refine⟨ja,λds m m' fr _=>rfl,?_⟩;intro B w0 w m g fr ds vs r u hi t hl b z;simp only[Ac]at z;split at z
 ·rename_i q;rw[Q4]at z;obtain⟨r',c,z⟩:=z;simp only[QV]at z;obtain⟨rfl,rfl⟩:=z;obtain⟨o,v,y,p⟩:=h _ _ c;have a:vs=(ds.map D.un).map plV:=by
   apply List.ext_getElem?;intro j;by_cases hj:j<vs.length
   ·have x:j<ds.length:=by omega
    have e:=(b j _ _ (Qq x) (Qq hj)).un;have s:(ds.map D.un)[j]?=some ds[j].un:=by rw[Zu,Qq x];rfl
    rw[Qq hj,Zu,s,aQZ e (o _ (List.mem_of_getElem? s))];rfl
   ·simp_all
  subst a;refine(p w).mono ?_;rintro ev w' ⟨rfl,k⟩;exact⟨_,g.over w w',rfl,hi.over k,Hk.over hi.gz k,y _ _,λi hf _=>hf⟩
 ·cases z
def IX:List D->Option D
 |[.str s,.str [c]]=>some (.int .i64 (Lib.indexByte s c))
 |_=>none
def aXc:Kq IX 227:=Vg ⟨_,func227,Xa,Xa⟩ λds r h=>by
 unfold IX at h;split at h
 ·rename_i s c;simp only[Qt]at h;subst h;refine⟨λd z=>?_,_,λw g=> .int _ _,λw=>?_⟩
  ·simp only[QZ,Q8,or_false]at z;rcases z with rfl|rfl<;>rfl
  ·refine(Go.Proofs.Any.strings_Index_one (P:=Qo) (ρ:=aN) {aS with} ⟨s.toArray⟩ c w).mono ?_;rintro e w' ⟨rfl,rfl⟩;exact⟨rfl,Below.refl _ _⟩
 ·cases h
def aWV:Kq IX 298:=Vg ⟨_,func298,Xa,Xa⟩ λds r h=>by
 unfold IX at h;split at h
 ·rename_i s c;simp only[Qt]at h;subst h;refine⟨λd z=>?_,_,λw g=> .int _ _,λw=>?_⟩
  ·simp only[QZ,Q8,or_false]at z;rcases z with rfl|rfl<;>rfl
  ·refine(Go.Proofs.Any.stringslite_Index_one (P:=Qo) (ρ:=aN) {aS with} ⟨s.toArray⟩ c w).mono ?_;rintro e w' ⟨rfl,rfl⟩;exact⟨rfl,Below.refl _ _⟩
 ·cases h
def VF:∀(s:Bs)(c:UInt8),decide (0<=Lib.indexByte s c)=s.any (·==c)
 |[],c=>rfl
 |b::l,c=>by
  have ih:=VF l c;unfold Lib.indexByte;cases hb:b==c with
  |true=>simp[hb]
  |false=>
   simp only[ZI,hb,ZJ,←ih];rw[if_neg Zg];cases h1:Lib.indexByte l c==-1 with
   |true=>rw[if_pos rfl];have:=beq_iff_eq.1 h1;rw[this]
   |false=>
    rw[if_neg Zg];have v:Lib.indexByte l c≠-1:=by intro e;rw[e]at h1;simp at h1
    have w:-1<=Lib.indexByte l c:=by
     clear ih hb h1 v;induction l with
     |nil=>simp[Lib.indexByte]
     |cons x r ih=>unfold Lib.indexByte;split<;>first|omega|(split<;>omega)
    congr 1;exact propext O
def qO(s:Bs)(c:UInt8):Bool:=s.any (·==c)
def nmB(s:Bs):Bool:=decide (s≠[])&&(decide (s≠[45])&&(decide (s.length<=64)&&(!qO s 32&&!qO s 44)))
def aYR:=Az [(227,Ac IX)]
def aTI:=RF aYR aN6 [.t 4] 9
def aW6:Kq aTI 303:=Av (Al func303) (Aa aXc Ae)
def aKK(s:Bs)(c:UInt8):aTI [.str s,.str [c]]=some (.bool (qO s c)):=by
 refine Aq (Qi rfl) ?_;unfold aN6;have a:IX [.str s,.str [c]]=some (.int .i64 (Lib.indexByte s c)):=rfl;have e:=VF s c;simp only[↓GQ,GT,GS,simprocAttr,Ad aYR 227,a];rw[e]
 all_goals exact Qd
def aTo:=Az [(303,Ac aTI)]
def aZl:=RF aTo aO0 [.t 2] 24
def aXs:Kq aZl 235:=Av (Al func235) (Aa aW6 Ae)
def aK6(s:Bs):aZl [.str s]=some (.bool (nmB s)):=by
 refine Aq (Qi rfl) ?_;unfold aO0;have a:=aKK s;unfold nmB;by_cases c1:s=[]
 ·have p:=eq_true c1;simp only[↓GQ,GT,GS,simprocAttr,p]
  all_goals exact Qd
 have p:=eq_false c1;by_cases c2:s=[45]
 ·have m:=eq_true c2;simp only[↓GQ,GT,GS,simprocAttr,p,m]
  all_goals exact Qd
 have m:=eq_false c2;by_cases n:s.length<=64
 ·have o:((s.length:Int)<=64)=True:=eq_true O;cases c4:qO s 32 with
  |true=>
   simp only[↓GQ,GT,GS,simprocAttr,p,m,o,c4,Ad aTo 303,a]
   all_goals exact Qd
  |false=>
   simp only[↓GQ,GT,GS,simprocAttr,p,m,o,c4,Ad aTo 303,a]
   all_goals exact Qd
 ·have o:((s.length:Int)<=64)=False:=eq_false O;simp only[↓GQ,GT,GS,simprocAttr,p,m,o]
  all_goals exact Qd
def aSZ:(IZ λc x=>match x with| .str s=>some (.bool (!nmB s))|_=>none).ok Qo 234:=by
 obtain⟨S,v,hl⟩:=A4 (Aa aXs Ae);have b:=hl 235 _ rfl;clear hl;refine Ov (S:=S) v (Al func234:Fn Qo 234 6 aO1 [.t 2]) (λx caps m fr c d k j na hl=>⟨O,?_⟩);split at j
 ·rename_i s;simp only[Qt]at j;subst j;have a:=aK6 s;unfold aO1;simp only[↓GQ,GT,GS,simprocAttr,Ab b,a]
  try exact λi o y h=>h
 ·cases j
def KN:D->D->Option D:=λc x=>match x with| .str s=>some (.bool (!nmB s))|_=>none
def aJP:(FO 234 none KN).ok Qo 277:=Oe O aNg rfl aSZ
def aST:(iD 234 none KN).ok Qo 210:=rN O aNl aJP
def yU{l:List Bs}{nl:Bool}{t:Id}(hl:l.length<=1000000)(m:GV)(fr:Id):
  (iD 234 none KN).ex [.slice nl t (AL l),.fn 234 []] m fr=some (.bool (l.any λs=>!nmB s),[]):=by
 have e:(AL l).map (KN .junk)=(l.map λs=>!nmB s).map λb=>some (.bool b):=by
  simp only[AL,Q5];exact Ze λr _=>rfl
 have q:(AL l).all (qZ none)=true:=by
  rw[Q_];intro x f;obtain⟨r,_,rfl⟩:=QU.1 f;rfl
 simp only[iD,Bb,hl,q,and_self,if_true,FQ,Qm,e,DE,QD];simp only[ZM];rfl
def bAO:=Az []
def aTM:=RF bAO aN9 [.t 4] 26
def aXa:Kq aTM 301:=Av (Al func301) Ae
def aKP{n1 n2:Bool}{l:List Bs}(hl:l.length<=100000):aTM [.slice n1 [] (AL l),.slice n2 [] (AL l)]=some (.bool true):=by
 refine Aq (Qi rfl) ?_;unfold aN9;simp only[↓GQ,GX,Hf,GS,simprocAttr,Bb];refine By (n:=l.length) (I:=λj z=>z.s 0= .slice n1 [] (AL l)∧z.s 1= .slice n2 [] (AL l)∧z.s 12= .int .i64 l.length∧z.s 13= .int .i64 (j:Int)) (λj w ih z g a=>?_) (λz g a=>?_) 0 (QH _) _ _ ⟨rfl,rfl,rfl,rfl⟩
 ·obtain⟨m,d,r⟩:=z;obtain⟨y,u,f,c⟩:=a;simp only at y u f c;refine Af VW.eq_1 ?_;have v:((j:Int)<l.length):=by omega
  have q:=nJ (j:=j);have t:=wJ (j:=j) O;have ia:=Ik w;simp only[↓GQ,GT,GS,simprocAttr,y,u,f,c,v,q,Qs,ia];refine AJ ?_;simp only[↓GQ,GX,GS,simprocAttr,c,t];exact ih _ _ ⟨y,u,f,rfl⟩
 ·obtain⟨y,u,f,c⟩:=a;refine Af VW.eq_1 ?_;simp only[↓GQ,GT,GS,simprocAttr,f,c,QI]
  all_goals exact Qd
def bAF:=Az []
def aTz:=RF bAF aNC [.t 4] 26
def aWT:Kq aTz 352:=Av (Al func352) Ae
def aKx{n1 n2:Bool}{l:List Rw}(hl:l.length<=100000):aTz [.slice n1 [] (BS l),.slice n2 [] (BS l)]=some (.bool true):=by
 refine Aq (Qi rfl) ?_;unfold aNC;simp only[↓GQ,GX,Hf,GS,simprocAttr,A5];refine By (n:=l.length) (I:=λj z=>z.s 0= .slice n1 [] (BS l)∧z.s 1= .slice n2 [] (BS l)∧z.s 12= .int .i64 l.length∧z.s 13= .int .i64 (j:Int)) (λj w ih z g a=>?_) (λz g a=>?_) 0 (QH _) _ _ ⟨rfl,rfl,rfl,rfl⟩
 ·obtain⟨m,d,r⟩:=z;obtain⟨y,u,f,c⟩:=a;simp only at y u f c;refine Af VU.eq_1 ?_;have v:((j:Int)<l.length):=by omega
  have q:=nJ (j:=j);have t:=wJ (j:=j) O;have ia:=GE w;have ta:AW [.int .i64 l[j].1,.bool l[j].2.1,.bool l[j].2.2] [.int .i64 l[j].1,.bool l[j].2.1,.bool l[j].2.2] [(0,0),(1,1),(1,2)]=some true:=by simp[AW,Dt]
  simp only[QD,↓GQ,GT,GS,simprocAttr,y,u,f,c,v,q,Qs,ia,ta];refine AJ ?_;simp only[↓GQ,GX,GS,simprocAttr,c,t];exact ih _ _ ⟨y,u,f,rfl⟩
 ·obtain⟨y,u,f,c⟩:=a;refine Af VU.eq_1 ?_;simp only[↓GQ,GT,GS,simprocAttr,f,c,QI]
  all_goals exact Qd
def aYS:=Az [(352,Ac aTz)]
def aTL:=RF aYS aN8 [.t 4] 31
def aW9:Kq aTL 302:=Av (Al func302) (Aa aWT Ae)
def aKO(s:Sc)(hl:s.rs.length<=100000):aTL [.agg (Hw s),.agg (Hw s)]=some (.bool true):=by
 refine Aq (Qi rfl) ?_;unfold aN8;have a:=aKx (n1:=s.nl) (n2:=s.nl) hl;unfold Hw;simp only[↓GQ,GT,GS,simprocAttr,Ad aYS 352,a]
 all_goals exact Qd
def aZr:List D->Option D:=FX (λs:Bs=>[.str s]) (λ_=>True) (λs=> .str (if s=[]then [45]else s))
def Wu(s:Bs):aZr [.str s]=some (.str (if s=[]then [45]else s)):=BG (mk:=λs:Bs=>[.str s]) (λa b h=>Xp) trivial
def aVj:Kq aZr 374:=by
 refine B1 (S:=λ_=>none) AO (Al func374:Fn Qo 374 6 aNG [.t 2]) (λ_=>U) (λs _=>?_);unfold aNG;cases s with
 |nil=>
  simp only[↓GQ,GT,reduceIte,Qj,Ql,and_self]
  all_goals exact Qe
 |cons x r=>
  have q:((x::r)==([]:Bs))=false:=rfl;simp only[↓GQ,GT,reduceIte,Qj,Ql,reduceCtorEq]
  all_goals exact Qe
def F9(n:Nat):Bs:=if n<10 then [Of n]else if n<100 then [Of (n / 10),Of (n % 10)]else [Of (n / 100),Of (n / 10 % 10),Of (n % 10)]
def aUc:List D->Option D:=FX (λn:Nat=>[.int .i64 (n:Int)]) (λn=>n<1000) (λn=> .str (F9 n))
def Wv{n:Nat}(h:n<1000):aUc [.int .i64 (n:Int)]=some (.str (F9 n)):=BG (mk:=λn:Nat=>[.int .i64 (n:Int)]) (λa b h=>by simp only[Qk,D.int.injEq,true_and,and_true]at h;omega) h
def UW(n:Nat):(n:Int).tmod 10=((n % 10:Nat):Int):=by rw[Int.tmod_eq_emod_of_nonneg O];omega
def UY(n:Nat)(h:n<1000):IntKind.i64.wrap ((n:Int).tdiv 10)=((n / 10:Nat):Int):=by
 grind [Hg]
def aMt:Kq aUc 373:=by
 refine B1 (S:=λ_=>none) AO (Al func373:Fn Qo 373 23 aNH [.t 2]) (λ_=>U) (λn c=>?_);have t0:=Sf (n % 10) O;have j:=Sf (n / 10 % 10) O;have o:=Sf (n / 10 / 10 % 10) O;have m0:=UW n;have a:=UW (n / 10);have w:=UW (n / 10 / 10);have x:=UY n c;have d1:=UY (n / 10) O;have d2:=UY (n / 10 / 10) O;have z0:(0:Int)<=((n % 10:Nat):Int):=O
 have m:(0:Int)<=((n / 10 % 10:Nat):Int):=O
 have v:(0:Int)<=((n / 10 / 10 % 10:Nat):Int):=O
 have ten:((10:Int)=0)=False:=U
 unfold aNH F9;by_cases u:n<10
 ·have g:¬((0:Int)<((n / 10:Nat):Int)):=by omega
  have e:n % 10=n:=O
  simp only[↓GQ,GT,reduceIte,Qj,Ql,m0,z0,t0,x,ten,ne_eq,Qs,Hs];refine Af HP.eq_1 ?_;simp only[↓GQ,GT,reduceIte,Qj,Ql,g,u];rw[e,UInt8.ofNat_toNat]
  all_goals exact Qe
 ·have g:((0:Int)<((n / 10:Nat):Int)):=by omega
  by_cases q:n<100
  ·have i:¬((0:Int)<((n / 10 / 10:Nat):Int)):=by omega
   have e:n / 10 % 10=n / 10:=O
   rw[e]at j a m;simp only[↓GQ,GT,reduceIte,Qj,Ql,m0,z0,t0,x,ten,ne_eq,Qs,Hs];refine Af HP.eq_1 ?_;simp only[↓GQ,GT,reduceIte,Qj,Ql,g,a,m,j,d1,ten,ne_eq,Qs,Qx,Hs,Qn];refine Af HP.eq_1 ?_;simp only[↓GQ,GT,reduceIte,Qj,Ql,i,u,q,UInt8.ofNat_toNat,Zx,QY]
   all_goals exact Qe
  ·have i:((0:Int)<((n / 10 / 10:Nat):Int)):=by omega
   have f:¬((0:Int)<((n / 10 / 10 / 10:Nat):Int)):=O
   have e:n / 10 / 10 % 10=n / 100:=O
   rw[e]at o w v;simp only[↓GQ,GT,reduceIte,Qj,Ql,m0,z0,t0,x,ten,ne_eq,Qs,Hs];refine Af HP.eq_1 ?_;simp only[↓GQ,GT,reduceIte,Qj,Ql,g,a,m,j,d1,ten,ne_eq,Qs,Qx,Hs,Qn];refine Af HP.eq_1 ?_;simp only[↓GQ,GT,reduceIte,Qj,Ql,i,w,v,o,d2,ten,ne_eq,Qs,Qw,Qx,Hs,Qn];refine Af HP.eq_1 ?_;simp only[↓GQ,GT,reduceIte,Qj,Ql,f,u,q,UInt8.ofNat_toNat,Zx,QY]
   all_goals exact Qe
def aUd:List D->Option D:=FX (λs:Bs=>[.str s]) (λs=>s.length<=1000000) (λs=> .str (Pe s))
def Ww{s:Bs}(h:s.length<=1000000):aUd [.str s]=some (.str (Pe s)):=BG (mk:=λs:Bs=>[.str s]) (λa b h=>Xp) h
def aI8{S:GR}{l:Bs}{Q:Ex->St->Prop}(i:l.length<=1000000)
  (b:∀z t,z.s 3= .slice false t (Aw (Pe l))->Q (.exit 0) z):
  ∀(n k:Nat)(t:Id) z g,n=l.length-k->k<=l.length->z.s 13= .int .i64 (k:Int)->z.s 12= .int .i64 (l.length:Int)->z.s 11= .slice false [] (Aw l)->z.s 3= .slice false t (Aw (Pe (l.take k)))->Gw z.m z.c 5 false t->
   AK S [] PA Q z g:=by
 intro n;induction n with
 |zero=>
  intro k t z g q j w e o d hg;refine Af PA.eq_1 ?_;have:¬((k:Int)<l.length):=O
  simp only[↓GQ,GX,Hf,reduceIte,Ql,w,e,this];refine b _ t ?_;rw[QK O]at d;simp only[↓GQ,reduceIte,Qj,d]
 |succ n ih=>
  intro k t z g q j w e o d hg;refine Af PA.eq_1 ?_;have v:((k:Int)<l.length):=O
  have u:(0:Int)<=(k:Int):=O
  have ia:k<l.length:=O
  have f:(Aw l)[(k:Int).toNat]?=some (.int .u8 (l[k].toNat:Int)):=by simp[Aw,ia]
  have x:IntKind.i64.wrap ((k:Int)+1)=(k:Int)+1:=IntWalk.i64_in _ ⟨O,O⟩;have p:=l[k].toNat_lt;have na:l.take (k+1)=l.take k++[l[k]]:=by rw[Zi,Qq ia];rfl
  have y:(l.take k).length=k:=Xc
  have a:(0:Int)<=4:=Z
  have a1:=aZG l[k].toNat O;have a2:=aYI l[k].toNat O;have p1:(0:Int)<=((l[k].toNat / 16:Nat):Int):=O
  have p2:(0:Int)<=((l[k].toNat % 16:Nat):Int):=O
  have q1:(((l[k].toNat / 16:Nat):Int)).toNat=l[k].toNat / 16:=Qs _;have q2:(((l[k].toNat % 16:Nat):Int)).toNat=l[k].toNat % 16:=Qs _;have r:=Sf (l[k].toNat / 16) O;have t2:=Sf (l[k].toNat % 16) O;simp only[↓GQ,GT,reduceIte,Qj,Ql,Qv,QE,w,e,o,d,v,u,f,a,a1,a2,p1,p2,q1,q2,r,t2,false_and,reduceCtorEq];refine aA ⟨by rw[BA,hexB_len,y];omega,rfl,hg.grow O⟩ ?_;simp only[↓GQ,GT,reduceIte,Qj,Ql];refine AJ ?_;simp only[↓GQ,GT,reduceIte,Qj,Ql,w,x];refine ih (k+1) [z.c+1+3+8] _ _ O O rfl e o ?_ ?_
  ·rw[na,xO,C1];rfl
  ·grind [Gw.new]
def aMw:Kq aUd 237:=by
 refine B1 (S:=λ_=>none) AO (Al func237:Fn Qo 237 29 aNW [.t 2]) (λ_=>U) (λs f=>?_);have p:IntKind.i64.wrap (2*(s.length:Int))=2*(s.length:Int):=IntWalk.i64_in _ ⟨O,O⟩;have g:(0:Int)<=0:=Z
 have b2:(0:Int)<=2*(s.length:Int):=O
 have w:2*(s.length:Int)*2<=140737488355328:=O
 have b:(0:Int).toNat=0:=rfl;unfold aNW;simp only[↓GQ,GT,reduceIte,Qj,Ql,p,g,b2];refine aA O ?_;simp only[↓GQ,GX,reduceIte,Qj,Ql,b,List.replicate_zero,BA];refine aI8 (l:=s) f (λz n u=>?_) s.length 0 [4] _ _ rfl O rfl rfl rfl rfl (.inr ⟨4,rfl,Xb,by simp[Bp]⟩);simp only[↓GQ,GT,reduceIte,Qj,Ql,u,Ci]
 all_goals exact Qe
end Go.Vd
namespace Go.Proofs
open Go.Shelf
def aP:Go.Shelf.Ren:=⟨λ|156=>123|165=>66|166=>67|169=>69|240=>131|241=>132|276=>199|277=>200|n=>n,λ|31=>160|9=>9|3=>3|4=>4|0=>0|20=>20|72=>144|76=>148|70=>142|37=>87|75=>147|127=>249|164=>299|5=>5|80=>78|n=>n,λ|n=>n⟩
def aX:Go.Proofs.Lays.n156 Qo aP:={
 mixed:=Xa
 f156:=func123.trans (congrArg some Xa)
 f165:=func66.trans (congrArg some Xa)
 f166:=func67.trans (congrArg some Xa)
 f169:=func69.trans (congrArg some Xa)
 f240:=func131.trans (congrArg some Xa)
 f241:=func132.trans (congrArg some Xa)
 f276:=func199.trans (congrArg some Xa)
 f277:=func200.trans (congrArg some Xa)
 t0:=underlying0
 a0:=isAgg0
 z0:=sizeOf0
 v0:=zeroValue0
 t3:=underlying3
 a3:=isAgg3
 z3:=sizeOf3
 v3:=zeroValue3
 t4:=underlying4
 a4:=isAgg4
 z4:=sizeOf4
 v4:=zeroValue4
 t9:=underlying9
 a9:=isAgg9
 z9:=sizeOf9
 v9:=zeroValue9
 t20:=underlying20
 a20:=isAgg20
 z20:=sizeOf20
 v20:=zeroValue20
 t31:=underlying160
 a31:=isAgg160
 z31:=sizeOf160
 v31:=zeroValue160
 t37:=underlying87
 a37:=isAgg87
 z37:=sizeOf87
 v37:=zeroValue87
 t70:=underlying142
 a70:=isAgg142
 z70:=sizeOf142
 v70:=zeroValue142
 t72:=underlying144
 a72:=isAgg144
 z72:=sizeOf144
 v72:=zeroValue144
 t75:=underlying147
 a75:=isAgg147
 z75:=sizeOf147
 v75:=zeroValue147
 t76:=underlying148
 a76:=isAgg148
 z76:=sizeOf148
 v76:=zeroValue148
 t127:=underlying249
 a127:=isAgg249
 z127:=sizeOf249
 v127:=zeroValue249
 t164:=underlying299
 a164:=isAgg299
 z164:=sizeOf299
 v164:=zeroValue299}
def aL:Builder.Extra Qo aP:={
 sizeBuilder:=Xa
 liesBuilder:=Xa
 t5:=underlying5
 a5:=isAgg5
 z5:=sizeOf5
 v5:=zeroValue5
 infoByte:=Xa
 cellsByte:=Xa
 sizeByte:=Xa
 neB5:=Z}
end Go.Proofs
namespace Go.Vd
open Go.Proofs Go.RowKit
inductive Ry where
 |fail (e:Int)
 |done
 |number (n:Int)
 |found (n:Int) (d:Bs)
 |about (s:Sc)
 |names (nl:Bool) (l:List Bs)
 |state (b:Bool)
def z0:List D:=[.int .i64 0,.bool false,.int .i64 0,.slice true [] []]
def HJ:Ry->List D
 | .fail e=>[.int .u8 0,.int .i64 e,.int .i64 0,.str [],.slice true [] [],.int .i64 0,.bool false,.int .i64 0,.slice true [] [],.bool false]
 | .done=>[.int .u8 1,.int .i64 0,.int .i64 0,.str [],.slice true [] [],.int .i64 0,.bool false,.int .i64 0,.slice true [] [],.bool false]
 | .number n=>[.int .u8 2,.int .i64 0,.int .i64 n,.str [],.slice true [] [],.int .i64 0,.bool false,.int .i64 0,.slice true [] [],.bool false]
 | .found n d=>[.int .u8 3,.int .i64 0,.int .i64 n,.str d,.slice true [] [],.int .i64 0,.bool false,.int .i64 0,.slice true [] [],.bool false]
 | .about s=>[.int .u8 4,.int .i64 0,.int .i64 0,.str [],.slice true [] [],.int .i64 s.mx,.bool s.cas,.int .i64 s.la,.slice s.nl [] (BS s.rs),.bool false]
 | .names nl l=>[.int .u8 5,.int .i64 0,.int .i64 0,.str [],.slice nl [] (AL l),.int .i64 0,.bool false,.int .i64 0,.slice true [] [],.bool false]
 | .state b=>[.int .u8 6,.int .i64 0,.int .i64 0,.str [],.slice true [] [],.int .i64 0,.bool false,.int .i64 0,.slice true [] [],.bool b]
def aIr:Ry->Prop
 | .about s=>s.rs.length<=1000
 | .names _ l=>l.length<=1000
 |_=>True
def NN:Ry->Int
 | .fail e=>if 1<=e∧e<=99 then 0 else 2
 | .number n=>if 0<=n∧n<=999 then 0 else 2
 | .found n d=>if 0<=n∧n<=999∧d.length<=400 then 0 else 2
 | .about s=>if EJ s 6=true then 2 else 0
 | .names _ l=>if l.length<=64∧(l.any λs=>!nmB s)=false then 0 else 2
 |_=>0
def aTp:=Az [(301,Ac aTM),(302,Ac aTL)]
def aK8:=RF aTp aO3 [.t 4] 52
def aXu:Kq aK8 232:=Av (Al func232) (Aa aXa (Aa aW9 Ae))
def GP(k e n:Int)(r:Bs)(nl:Bool)(l:List Bs)(s:Sc)(fl:Bool)(hl:l.length<=1000)(g:s.rs.length<=1000):aK8 [.agg [.int .u8 k,.int .i64 e,.int .i64 n,.str r,.slice nl [] (AL l),.int .i64 s.mx,.bool s.cas,.int .i64 s.la,.slice s.nl [] (BS s.rs),.bool fl],.agg [.int .u8 k,.int .i64 e,.int .i64 n,.str r,.slice nl [] (AL l),.int .i64 s.mx,.bool s.cas,.int .i64 s.la,.slice s.nl [] (BS s.rs),.bool fl]]=some (.bool true):=by
 refine Aq (Qi rfl) ?_;unfold aO3;have b:=aKP (n1:=nl) (n2:=nl) (l:=l) O;have a:=aKO s O;unfold Hw at a;simp only[GU,↓GQ,GS,simprocAttr,Ad aTp 301,b,Ad aTp 302,a]
 all_goals exact Qd
def aIp(y:Ry)(h:aIr y):aK8 [.agg (HJ y),.agg (HJ y)]=some (.bool true):=by
 have w:AL []=[]:=rfl;have p:BS []=[]:=rfl;cases y with
 |fail e=>exact GP 0 e 0 [] true [] sc0 false U XF
 |done=>exact GP 1 0 0 [] true [] sc0 false U XF
 |number n=>exact GP 2 0 n [] true [] sc0 false U XF
 |found n d=>exact GP 3 0 n d true [] sc0 false U XF
 |about s=>exact GP 4 0 0 [] true [] s false U h
 |names nl l=>exact GP 5 0 0 [] nl l sc0 false h XF
 |state b=>exact GP 6 0 0 [] true [] sc0 b U XF
def bAT:=Az []
def aTX:=RF bAT aO2 [.cell (some 10) 2] 52
def aXt:Kq aTX 233:=Av (Al func233) Ae
def aK7(y:Ry):aTX [.agg (HJ y)]=some (.agg (HJ y)):=by
 refine Aq (Qi rfl) ?_;unfold aO2;cases y<;>unfold HJ
 all_goals
  simp only[GU,↓GQ,GS,simprocAttr]
  all_goals exact Qd
def Wk:=Az [(233,Ac aTX),(232,Ac aK8),(207,Ac nB),(210,iD 234 none KN)]
def R92:=RF Wk aX2 [.t 2] 73
def bAg:Kq R92 173:=Av (Al func173) (Aa aXt (Aa aXu (Aa dI (Aa aST Ae))))
def aTu(y:Ry)(h:aIr y):R92 [.agg (HJ y)]=some (.int .i64 (NN y)):=by
 refine Aq (Qi rfl) ?_;unfold aX2;have c:=aK7 y;have a:=aIp y h;cases y with
 |fail e=>
  unfold HJ NN at *;simp only[GU,↓GQ,GS,simprocAttr,Ad Wk 233,c,Ad Wk 232,a];refine AJ ?_;by_cases c1:1<=e
  ·by_cases c2:e<=99
   ·simp only[↓GQ,GT,GS,simprocAttr,c1,c2]
    all_goals exact Qd
   ·simp only[↓GQ,GT,GS,simprocAttr,c1,c2]
    all_goals exact Qd
  ·simp only[↓GQ,GT,GS,simprocAttr,c1]
   all_goals exact Qd
 |done=>
  unfold HJ NN at *;simp only[GU,↓GQ,GS,simprocAttr,Ad Wk 233,c,Ad Wk 232,a];refine AJ ?_;simp only[↓GQ,GT,GS,simprocAttr]
  all_goals exact Qd
 |number n=>
  unfold HJ NN at *;simp only[GU,↓GQ,GS,simprocAttr,Ad Wk 233,c,Ad Wk 232,a];refine AJ ?_;by_cases c1:0<=n
  ·by_cases c2:n<=999
   ·simp only[↓GQ,GT,GS,simprocAttr,c1,c2,QE,Zs]
    all_goals exact Qd
   ·simp only[↓GQ,GT,GS,simprocAttr,c1,c2]
    all_goals exact Qd
  ·simp only[↓GQ,GT,GS,simprocAttr,c1]
   all_goals exact Qd
 |found n d=>
  unfold HJ NN at *;simp only[GU,↓GQ,GS,simprocAttr,Ad Wk 233,c,Ad Wk 232,a];refine AJ ?_;by_cases c1:0<=n
  ·by_cases c2:n<=999
   ·by_cases q:d.length<=400
    ·have o:((d.length:Int)<=400)=True:=eq_true O;simp only[↓GQ,GT,GS,simprocAttr,c1,c2,o]
     all_goals exact Qd
    ·have o:((d.length:Int)<=400)=False:=eq_false O;simp only[↓GQ,GT,GS,simprocAttr,c1,c2,o]
     all_goals exact Qd
   ·simp only[↓GQ,GT,GS,simprocAttr,c1,c2]
    all_goals exact Qd
  ·simp only[↓GQ,GT,GS,simprocAttr,c1]
   all_goals exact Qd
 |about s=>
  have w:=ND s 6 false h;unfold iZ Hw at w;unfold HJ NN at *;simp only[GU,↓GQ,GS,simprocAttr,Ad Wk 233,c,Ad Wk 232,a];refine AJ ?_;cases hb:EJ s 6 with
  |true=>
   rw[hb]at w;simp only[if_true]at w;simp only[GU,↓GQ,GS,simprocAttr,Ad Wk 207,w]
   all_goals exact Qd
  |false=>
   rw[hb]at w;simp only[if_false,QA]at w;simp only[GU,↓GQ,GS,simprocAttr,Ad Wk 207,w]
   all_goals exact Qd
 |names nl l=>
  have f:=λ(m:GV)(fr:Id)=>yU (l:=l) (nl:=nl) (t:=[]) (by have:l.length<=1000:=h;omega) m fr
  unfold HJ NN at *;simp only[GU,↓GQ,GS,simprocAttr,Ad Wk 233,c,Ad Wk 232,a];refine AJ ?_;by_cases c1:l.length<=64
  ·have p:((l.length:Int)<=64)=True:=eq_true O;cases c2:l.any λs=>!nmB s with
   |true=>
    rw[c2]at f;simp only[↓GQ,GT,GS,simprocAttr,p,Bb,Bu Wk 210,f]
    all_goals exact Qd
   |false=>
    rw[c2]at f;simp only[↓GQ,GT,GS,simprocAttr,p,Bb,Bu Wk 210,f]
    all_goals exact Qd
  ·have p:((l.length:Int)<=64)=False:=eq_false O;simp only[↓GQ,GT,GS,simprocAttr,p,Bb]
   all_goals exact Qd
 |state b=>
  unfold HJ NN at *;simp only[GU,↓GQ,GS,simprocAttr,Ad Wk 233,c,Ad Wk 232,a];refine AJ ?_;simp only[↓GQ,GT,GS,simprocAttr]
  all_goals exact Qd
def dgB:∀d:Fin 10,UInt8.ofNat (IntKind.u8.wrap (48+((d.val:Nat):Int))).toNat=Of d.val:=Z
def dgO(n:Nat):UInt8.ofNat (IntKind.u8.wrap (IntKind.i64.wrap (48+((n % 10:Nat):Int)))).toNat=Of (n % 10):=by
 rw[Hg O O];exact dgB ⟨n % 10,O⟩
def un1(a:Int):BM [.int .u8 a]=some [UInt8.ofNat a.toNat]:=rfl
theorem EV(n:Nat):(F9 n).length<=3:=by
 grind [F9]
def bAL:=Az []
def aKJ:=RF bAL aNX [.t 2] 17
def aMU:Kq aKJ 236:=Av (Al func236) Ae
def Lw(n:Nat)(h:n<1000):aKJ [.int .i64 (n:Int)]=some (.str (F9 n)):=by
 refine Aq (Qi rfl) ?_;unfold aNX;have p:∀k:Nat,k<1000->IntKind.i64.wrap ((k:Int).tdiv 10)=((k / 10:Nat):Int):=UY;have u:=p n h;have o:=p (n / 10) O;have y:=p (n / 10 / 10) O;have b:∀c:UInt8,AQ .add (.str [c]) (.str [])=some (.str [c]):=λc=>LS U
 have a1:∀c d:UInt8,AQ .add (.str [c]) (.str [d])=some (.str [c,d]):=λc d=>LS U
 have t:∀c d e:UInt8,AQ .add (.str [c]) (.str [d,e])=some (.str [c,d,e]):=λc d e=>LS U
 have j:∀k:Nat,AQ .rem (.int .i64 (k:Int)) (.int .i64 10)=some (.int .i64 ((k % 10:Nat):Int)):=λk=>by rw[←UW];rfl
 have z:∀k:Nat,AQ .quo (.int .i64 (k:Int)) (.int .i64 10)=some (.int .i64 (IntKind.i64.wrap ((k:Int).tdiv 10))):=λk=>rfl
 unfold F9;simp only[↓GQ,GX,simprocAttr];refine Af PB.eq_1 ?_;by_cases c1:n<10
 ·have m:(((n / 10:Nat):Int)=0)=True:=eq_true O;have v:n % 10=n:=by omega
  simp only[QD,↓GQ,GT,GS,simprocAttr,j,z,u,dgO,b,m];rw[v,if_pos c1]
 ·have m:(((n / 10:Nat):Int)=0)=False:=eq_false O;simp only[QD,↓GQ,GT,GS,simprocAttr,j,z,u,dgO,b,m];refine Af PB.eq_1 ?_;by_cases c2:n<100
  ·have v:(((n / 10 / 10:Nat):Int)=0)=True:=eq_true O;have g:n / 10 % 10=n / 10:=by omega
   simp only[QD,↓GQ,GT,GS,simprocAttr,j,z,o,dgO,a1,v];rw[g,if_neg c1,if_pos c2]
  ·have v:(((n / 10 / 10:Nat):Int)=0)=False:=eq_false O;simp only[QD,↓GQ,GT,GS,simprocAttr,j,z,o,dgO,a1,v];refine Af PB.eq_1 ?_;have a:(((n / 10 / 10 / 10:Nat):Int)=0)=True:=eq_true O;have z5:n / 10 / 10 % 10=n / 100:=by omega
   simp only[QD,↓GQ,GT,GS,simprocAttr,j,z,y,dgO,t,a];rw[z5,if_neg c1,if_neg c2]
def Eu(x:Rw):Bs:=F9 x.1.toNat++(if x.2.1=true then [33]else [])++(if x.2.2=true then [35]else [])
def aYQ:=Az [(236,Ac aKJ)]
def aTH:=RF aYQ aNV [.t 2] 16
def aW5:Kq aTH 238:=Av (Al func238) (Aa aMU Ae)
def aKI(x:Rw)(h:0<=x.1∧x.1<1000):aTH [.agg [.int .i64 x.1,.bool x.2.1,.bool x.2.2]]=some (.str (Eu x)):=by
 refine Aq (Qi rfl) ?_;unfold aNV;have a:=Lw x.1.toNat O;rw[QC h.1]at a;have hl:=EV x.1.toNat;unfold Eu;generalize F9 x.1.toNat=s at *;have a1:∀c:UInt8,AQ .add (.str s) (.str [c])=some (.str (s++[c])):=λc=>LS Xc
 have t:∀c d:UInt8,AQ .add (.str (s++[c])) (.str [d])=some (.str (s++[c]++[d])):=λc d=>LS Xc
 obtain⟨n,g,d⟩:=x;simp only at *;cases g<;>cases d
 all_goals
  simp only[↓GQ,GT,GS,simprocAttr,Ad aYQ 236,a,a1,t]
  all_goals exact Qd
def bAK:=Az []
def aTG:=RF bAK aNU [.t 2] 4
def aW4:Kq aTG 239:=Av (Al func239) Ae
def aKH(b:Bool):aTG [.bool b]=some (.str [if b=true then 49 else 48]):=by
 refine Aq (Qi rfl) ?_;unfold aNU;cases b
 all_goals
  simp only[↓GQ,GX,Hx,GS,simprocAttr]
  all_goals exact Qd
def TZ(l:List Bs):Bs:=if l=[]then [45]else Lib.join l [44]
def aMX:Kq dL 123:=aC0 aX aL ⟨_,func123,Xa,Xa⟩
def dJ{l:List Bs}{s:Bs}(h:l≠[]∧l.length<=1000∧C3 l<=1000000∧s.length<=1000∧(Lib.join l s).length<=10000000):dL [.slice false [] (AL l),.str s]=some (.str (Lib.join l s)):=BG (mk:=mkJ) (a:=(l,s)) aI0 h
def aYP:=Az [(123,Ac dL)]
def aTF:=RF aYP aNT [.t 2] 8
def aW3:Kq aTF 240:=Av (Al func240) (Aa aMX Ae)
def sC(nl:Bool)(l:List Bs)(v:nl=true->l=[])(h:l.length<=1000∧C3 l<=1000000∧(Lib.join l [44]).length<=10000000):aTF [.slice nl [] (AL l)]=some (.str (TZ l)):=by
 refine Aq (Qi rfl) ?_;unfold aNT;unfold TZ;by_cases c:l=[]
 ·have c':((l.length:Int)=0)=True:=eq_true (by rw[c];rfl);simp only[↓GQ,GT,GS,simprocAttr,c',Bb];simp[c]
 ·have c':((l.length:Int)=0)=False:=eq_false (by
   intro e;exact c (Q0.1 O))
  have x:nl=false:=by
   simp_all
  subst x;have m:=dJ (l:=l) (s:=[44]) ⟨c,h.1,h.2.1,U,h.2.2⟩;simp only[↓GQ,GT,GS,simprocAttr,c',Bb,Ad aYP 123,m];simp[c]
def OF:Ry->List Bs
 | .fail e=>[[101,114,114,111,114],F9 e.toNat]
 | .done=>[[111,107]]
 | .number n=>[[111,107],[110,117,109,98,101,114],F9 n.toNat]
 | .found n d=>[[111,107],[102,111,117,110,100],F9 n.toNat,if d=[]then [45]else Pe d]
 | .about s=>[[111,107],[97,98,111,117,116],F9 s.mx.toNat,[if s.cas=true then 49 else 48],F9 s.la.toNat,TZ (s.rs.map Eu)]
 | .names _ l=>[[111,107],[110,97,109,101,115],TZ l]
 | .state b=>if b=true then [[111,107],[115,101,97,108,101,100]]else [[111,107],[111,112,101,110]]
def ryG:Ry->Prop
 | .fail e=>0<=e∧e<1000
 | .number n=>0<=n∧n<1000
 | .found n d=>0<=n∧n<1000∧d.length<=1000
 | .about s=>s.rs.length<=100∧(0<=s.mx∧s.mx<1000)∧(0<=s.la∧s.la<1000)∧∀x∈s.rs,0<=x.1∧x.1<1000
 | .names nl l=>l.length<=1000∧(nl=true->l=[])∧C3 l<=1000000
 |_=>True
theorem join_len:∀(l:List Bs)(s:Bs),(Lib.join l s).length<=C3 l+l.length*s.length
 |[],s=>by simp[Lib.join]
 |[x],s=>by simp[Lib.join,C3]
 |x::y::r,s=>by
  have ih:=join_len (y::r) s;have e:Lib.join (x::y::r) s=x++s++Lib.join (y::r) s:=by simp[Lib.join]
  rw[e,Qw,Qw];simp only[C3,Qv]at ih ⊢;rw[Nat.succ_mul];omega
def vN(x:Rw):(Eu x).length<=5:=by
 grind [EV,Eu]
def Rt:∀l:List Rw,C3 (l.map Eu)<=5*l.length
 |[]=>by simp[C3]
 |x::r=>by
  have:=Rt r;have:=vN x;simp only[QN,C3,Qv];omega
def SS:=Az [(236,Ac aKJ),(239,Ac aTG),(240,Ac aTF),(238,Ac aTH),(237,Ac aUd)]
def aTW:=RF SS aOC [.t 2] 78
def aXr:Kq aTW 174:=Av (Al func174) (Aa aMU (Aa aW4 (Aa aW3 (Aa aW5 (Aa aMw Ae)))))
def aK4(y:Ry)(h:ryG y):aTW [.agg (HJ y)]=some (.slice false [] (AL (OF y))):=by
 refine Aq (Qi rfl) ?_;unfold aOC;cases y with
 |fail e=>
  have a:=Lw e.toNat YE;rw[QC h.1]at a;unfold HJ OF AL;simp only[↓GQ,GT,GS,simprocAttr,Ad SS 236,a]
  all_goals exact Qd
 |done=>
  unfold HJ OF AL;simp only[↓GQ,GT,GS,simprocAttr]
  all_goals exact Qd
 |number n=>
  have a:=Lw n.toNat YE;rw[QC h.1]at a;unfold HJ OF AL;simp only[↓GQ,GT,GS,simprocAttr,Ad SS 236,a]
  all_goals exact Qd
 |found n d=>
  have a:=Lw n.toNat YE;rw[QC h.1]at a;have o:=Ww (s:=d) (by have:=h.2.2;omega);unfold HJ OF AL;by_cases c:d=[]
  ·have c':=eq_true c;simp only[↓GQ,GT,GS,simprocAttr,Ad SS 236,a,c'];simp[]
  ·have c':=eq_false c;simp only[↓GQ,GT,GS,simprocAttr,Ad SS 236,a,Ad SS 237,o,c'];simp[]
 |names nl l=>
  obtain⟨h1,w,h3⟩:=h;have p:=sC nl l w ⟨h1,h3,by have:=join_len l [44];simp at this;omega⟩;unfold HJ OF;simp only[↓GQ,GT,GS,simprocAttr,Ad SS 240,p]
  all_goals exact Qd
 |state b=>
  unfold HJ OF AL;cases b with
  |true=>
   simp only[↓GQ,GT,GS,simprocAttr]
   all_goals exact Qd
  |false=>
   simp only[↓GQ,GT,GS,simprocAttr]
   all_goals exact Qd
 |about s=>
  obtain⟨g1,g2,g3,g4⟩:=h;have h1:=Lw s.mx.toNat O;rw[QC g2.1]at h1;have w:=Lw s.la.toNat O;rw[QC g3.1]at w;have u:=aKH s.cas;have v:=Rt s.rs;have p:=λnl hn=>sC nl (s.rs.map Eu) hn ⟨Xc,O,by have:=join_len (s.rs.map Eu) [44];simp at this;omega⟩
  unfold HJ OF;simp only[↓GQ,GT,GS,simprocAttr,A5];refine By (n:=s.rs.length) (I:=λj z=>z.s 38= .slice s.nl [] (BS s.rs)∧z.s 39= .int .i64 s.rs.length∧z.s 40= .int .i64 (j:Int)∧z.s 1= .ptr [0] 0∧∃nl t,z.s 4= .slice nl t (AL ((s.rs.take j).map Eu))∧nl=decide (j=0)∧LG 1 _ 9 z.m z.c nl t) (λj hj ih z g hI=>?_) (λz g hI=>?_) 0 (QH _) _ _ ⟨rfl,rfl,rfl,rfl,true,[],rfl,rfl,LG.start Xb⟩
  ·obtain⟨ja,ga,da⟩:=z;obtain⟨f,i,q,hp,nl,t,h4,qa,hG⟩:=hI;simp only at f i q hp h4 hG;refine Af V4.eq_1 ?_;have aa:((j:Int)<s.rs.length):=by omega
   have ma:=nJ (j:=j);have hw:=wJ (j:=j) O;have ia:=GE hj;have r:=aKI s.rs[j] (g4 _ (Q1 hj));have na:AL ((s.rs.take (j+1)).map Eu)=AL ((s.rs.take j).map Eu)++[.str (Eu s.rs[j])]:=by
    rw[QQ hj,Za];simp[AL]
   have wa:(AL ((s.rs.take j).map Eu)).length=j:=by simp[AL];omega
   have oa:nl=true->AL ((s.rs.take j).map Eu)=[]:=by
    grind
   generalize AL ((s.rs.take j).map Eu)=acc at h4 na wa oa;generalize s.rs[j]=x at ia na r;simp only[GU,↓GQ,GS,simprocAttr,f,i,q,h4,aa,ma,Qs,ia,Ad SS 238,r];refine aA ⟨O,rfl,Qa⟩ ?_;rw[Ba oa,←na];simp only[↓GQ,GX,simprocAttr,q,hw];exact ih _ _ ⟨f,i,rfl,hp,false,_,rfl,U,Qb⟩
  ·obtain⟨ja,ga,da⟩:=z;obtain⟨f,i,q,hp,nl,t,h4,qa,hG⟩:=hI;simp only at f i q hp h4 hG;refine Af V4.eq_1 ?_;have m0:∀k,ga [0] k=_:=λk=>hG.low 0 k O
   rw[Zk]at h4;have hh:=p nl (by
    rw[qa];intro h;have:s.rs.length=0:=Xp
    simp[Q0.1 this])
   unfold AL at h4 hh ⊢;simp only[↓GQ,GT,GS,simprocAttr,i,q,hp,h4,QI,m0,Ad SS 236,h1,w,Ad SS 239,u,Ad SS 240,hh];refine AJ ?_;simp only[↓GQ,GX,Hx,GS,simprocAttr]
   all_goals exact Qd
def spJ(l:List Bs):Bs:=Lib.join l [32]
def NM(y:Ry):Bs:=if NN y=0 then spJ (OF y)else []
def aBg(y:Ry):OF y≠[]:=by
 cases y<;>simp[OF];split<;>simp
end Go.Vd
namespace Go.Proofs
open Go.Shelf
def aO:Go.Shelf.Ren:=⟨λ|168=>193|169=>69|240=>131|242=>269|276=>199|278=>334|277=>200|n=>n,λ|31=>160|9=>9|3=>3|4=>4|0=>0|20=>20|21=>21|72=>144|76=>148|70=>142|37=>87|75=>147|127=>249|164=>299|5=>5|80=>78|46=>138|51=>244|n=>n,λ|n=>n⟩
def bA:Go.Proofs.Lays.n168 Qo aO:={
 mixed:=Xa
 f168:=func193.trans (congrArg some Xa)
 f240:=func131.trans (congrArg some Xa)
 f242:=func269.trans (congrArg some Xa)
 f276:=func199.trans (congrArg some Xa)
 f278:=func334.trans (congrArg some Xa)
 t0:=underlying0
 a0:=isAgg0
 z0:=sizeOf0
 v0:=zeroValue0
 t3:=underlying3
 a3:=isAgg3
 z3:=sizeOf3
 v3:=zeroValue3
 t4:=underlying4
 a4:=isAgg4
 z4:=sizeOf4
 v4:=zeroValue4
 t5:=underlying5
 a5:=isAgg5
 z5:=sizeOf5
 v5:=zeroValue5
 t9:=underlying9
 a9:=isAgg9
 z9:=sizeOf9
 v9:=zeroValue9
 t20:=underlying20
 a20:=isAgg20
 z20:=sizeOf20
 v20:=zeroValue20
 t21:=underlying21
 a21:=isAgg21
 z21:=sizeOf21
 v21:=zeroValue21
 t37:=underlying87
 a37:=isAgg87
 z37:=sizeOf87
 v37:=zeroValue87
 t46:=underlying138
 a46:=isAgg138
 z46:=sizeOf138
 v46:=zeroValue138
 t51:=underlying244
 a51:=isAgg244
 z51:=sizeOf244
 v51:=zeroValue244
 t70:=underlying142
 a70:=isAgg142
 z70:=sizeOf142
 v70:=zeroValue142
 t72:=underlying144
 a72:=isAgg144
 z72:=sizeOf144
 v72:=zeroValue144
 t75:=underlying147
 a75:=isAgg147
 z75:=sizeOf147
 v75:=zeroValue147
 t164:=underlying299
 a164:=isAgg299
 z164:=sizeOf299
 v164:=zeroValue299}
def bB:Go.Proofs.Lays.n169 Qo aO:={
 mixed:=Xa
 f169:=func69.trans (congrArg some Xa)
 t0:=underlying0
 a0:=isAgg0
 z0:=sizeOf0
 v0:=zeroValue0
 t3:=underlying3
 a3:=isAgg3
 z3:=sizeOf3
 v3:=zeroValue3
 t9:=underlying9
 a9:=isAgg9
 z9:=sizeOf9
 v9:=zeroValue9
 t37:=underlying87
 a37:=isAgg87
 z37:=sizeOf87
 v37:=zeroValue87
 t70:=underlying142
 a70:=isAgg142
 z70:=sizeOf142
 v70:=zeroValue142
 t72:=underlying144
 a72:=isAgg144
 z72:=sizeOf144
 v72:=zeroValue144
 t127:=underlying249
 a127:=isAgg249
 z127:=sizeOf249
 v127:=zeroValue249}
def aY:Builder.Extra Qo aO:={
 sizeBuilder:=Xa
 liesBuilder:=Xa
 t5:=underlying5
 a5:=isAgg5
 z5:=sizeOf5
 v5:=zeroValue5
 infoByte:=Xa
 cellsByte:=Xa
 sizeByte:=Xa
 neB5:=Z}
end Go.Proofs
namespace Go.Ve
open Go.Vd
open Go.Proofs Go.RowKit
def six:List UInt8:=[114,119,100,120,108,115]
def Ew(c:Nat):Nat->List UInt8
 |0=>[]
 |k+1=>Ew c k++(if c / 2 ^ k % 2=1 then [six.getD k 0]else [])
structure bAX (w0:World) (c k:Nat) (a:Act) (w:World):Prop where
 slots:∃x4 x5 x7 x8 x9 x10 x11 x12 x13 x14 x15 x16 x17:Value,a={tmps:=#[.int .u8 (c:Int),undef,.string ⟨#[]⟩,.pointer (some ⟨w0.heap.size,0,none⟩),x4,x5,.pointer (some ⟨w0.heap.size+1,0,none⟩),x7,x8,x9,x10,x11,x12,x13,x14,x15,x16,x17,undef],defers:=[]}
 iter:w.heap[w0.heap.size+1]?=some (.stringIter ⟨#[114,119,100,120,108,115]⟩ k)
 bld:Lib.IsBuilderF 144 5 w0.heap.size w0.heap.size (Lib.byteCells (Ew c k)) w
 bel:Below w0.heap.size w0 w
def bI{P:Program}{w:World}{b:Nat}{s:ByteArray}{z:Nat}{ty:TypeId}(h:w.heap[b]?=some (.stringIter s z))(o:z<s.size):
  (Instr.next (.pointer (some ⟨b,0,none⟩)) true ty).run P w= .ok (.tuple #[.bool true,.int .i64 (z:Nat),.int .i32 (Utf8.decode s z).1]) {w with heap:=w.heap.setIfInBounds b (.stringIter s (z+(Utf8.decode s z).2))}:=by
 have r:(getObj b).run P w= .ok (.stringIter s z) w:=by simp[getObj,Sem.run,h]
 have u:∀o',(setObj b o').run P w= .ok () {w with heap:=w.heap.setIfInBounds b o'}:=by intro o';simp[setObj,Sem.run,h]
 simp only[Instr.next,Sem.run_bind,r,Result.andThen_ok,o,if_true];cases hd:Utf8.decode s z with
 |mk c t=>
  simp only[u,Result.andThen_ok,Sem.run_pure];rfl
def U2{P:Program}{w:World}{b:Nat}{s:ByteArray}{z:Nat}{ty:TypeId}(h:w.heap[b]?=some (.stringIter s z))(o:¬z<s.size):
  (Instr.next (.pointer (some ⟨b,0,none⟩)) true ty).run P w= .ok (.tuple #[.bool false]) w:=by
 have r:(getObj b).run P w= .ok (.stringIter s z) w:=by simp[getObj,Sem.run,h]
 simp only[Instr.next,Sem.run_bind,r,Result.andThen_ok,o,if_false,Sem.run_pure]
def aJY:∀k,k<6->Utf8.decode ⟨#[114,119,100,120,108,115]⟩ k=((six.getD k 0).toNat,1):=Xj
def aKd:∀c:Nat,c<64->∀k,k<6->(bits BinOp.and IntKind.u8 ((c:Int) / 2 ^ k) 1==1)=decide (c / 2 ^ k % 2=1):=Xj
def aBj:∀k,k<6->Lib.runeCells (((six[k]?.getD 0).toNat:Nat):Int)=Lib.byteCells [six.getD k 0]
 |0,_=>rfl
 |1,_=>rfl
 |2,_=>rfl
 |3,_=>rfl
 |4,_=>rfl
 |5,_=>rfl
 |k+6,h=>absurd h O
def TR(c:Nat):∀k,(Ew c k).length<=k
 |0=>QL _
 |k+1=>by
  have:=TR c k;unfold Ew;rw[Qw];split<;>simp<;>omega
def NX{w:World}{t j:Nat}{o:Obj}(h:j≠t):(w.heap.setIfInBounds t o)[j]?=w.heap[j]?:=by
 grind
def aFn{w:World}{B b t:Nat}{bs:List Value}{o:Obj}{s:ByteArray}{p:Nat}(h:Lib.IsBuilderF 144 5 B b bs w)(hi:w.heap[t]?=some (.stringIter s p)):Lib.IsBuilderF 144 5 B b bs {w with heap:=w.heap.setIfInBounds t o}:=by
 have key:∀q,Lib.BuilderAtF 144 5 B b q bs w->Lib.BuilderAtF 144 5 B b q bs {w with heap:=w.heap.setIfInBounds t o}:=by
  rintro q ⟨u,v,z,d,h4⟩;have f:b≠t:=λe=>by rw[e,hi]at z;cases z
  refine⟨u,v,by show(w.heap.setIfInBounds t o)[b]?=_;rw[NX f];exact z,⟨d.1,?_⟩,h4⟩;rcases d.2 with h|⟨g,cap,cur,fz,n,m,c,e4⟩
  ·exact .inl h
  ·have a:g≠t:=λe=>by rw[e,hi]at c;cases c
   exact .inr ⟨g,cap,cur,fz,n,m,by show(w.heap.setIfInBounds t o)[g]?=_;rw[NX a];exact c,e4⟩
 exact h.elim (λx=> .inl (key _ x)) (λx=> .inr (key _ x))
theorem zN {B t : Nat} {w i : World} {o : Obj} (h : Below B w i) (f : B ≤ t) : Below B w { i with heap := i.heap.setIfInBounds t o } :=
 ⟨h.os, h.tape, h.output, by show _ ≤ (i.heap.setIfInBounds t o).size; rw [Array.size_setIfInBounds]; exact h.size, fun k s => by
  show (i.heap.setIfInBounds t o)[k]? = _
  rw [NX O]
  exact h.block k s⟩
theorem aZB(w:World)(c:Nat)(r:c<64):
  Calls Qo 122 #[.int .u8 (c:Int)] w λe w'=>e= .returned (.string ⟨(Ew c 6).toArray⟩)∧Below w.heap.size w w':=by
 have y:(w.alloc (Obj.cells #[Value.pointer none,Value.slice none 0 0] 144)).heap.size=w.heap.size+1:=Array.size_push _
 go_enter func122,ntmps122
 go_wp2
 refine Le (λn a w'=>∃k,k<=6∧n=6-k∧bAX w c k a w') ?_ (n:=6) ⟨0,O,rfl,⟨⟨_,_,_,_,_,_,_,_,_,_,_,_,_,rfl⟩,?_,?_,?_⟩⟩
 ·rintro n a v ⟨k,s,rfl,⟨x4,x5,x7,x8,x9,h,m,j,l,q,i,g,d,rfl⟩,hi,hb,x⟩
  go_wp2
  by_cases h6:k<6
  ·rw[bI hi (by show k<6;exact h6),aJY k h6];simp only[Result.andThen];rw[Oper.upon_value];have z:=aKd c r k h6;have sa:=TR c k;have f:(v.heap.setIfInBounds (w.heap.size+1) (.stringIter ⟨#[114,119,100,120,108,115]⟩ (k+1)))[w.heap.size+1]?=some (.stringIter ⟨#[114,119,100,120,108,115]⟩ (k+1)):=by
    grind
   have ra:=aFn (o:= .stringIter ⟨#[114,119,100,120,108,115]⟩ (k+1)) hb hi;have p:=zN (o:= .stringIter ⟨#[114,119,100,120,108,115]⟩ (k+1)) x (Nat.le_succ w.heap.size);by_cases b:c / 2 ^ k % 2=1
   ·rw[decide_eq_true b]at z
    go_wp2_with fail
    refine(Go.Proofs.Any.Builder_WriteRune_k bA aY w.heap.size w.heap.size (Lib.byteCells (Ew c k)) _ Y_ Y_ _ ra (by simp[Lib.byteCells];omega) p.size).mono ?_;rintro e w3 ⟨rfl,h3,u,pa⟩;rw[aBj k h6]at h3
    go_wp2
    refine⟨6-(k+1),O,k+1,O,rfl,⟨⟨_,_,_,_,_,_,_,_,_,_,_,_,_,rfl⟩,?_,?_,p.trans u⟩⟩
    ·exact pa _ _ f U (λ_ _=>U)
    ·refine .inr ?_;have e:Ew c (k+1)=Ew c k++[six.getD k 0]:=by simp only[Ew,b,if_true]
     rw[e];have t:Lib.byteCells (Ew c k++[six.getD k 0])=Lib.byteCells (Ew c k)++Lib.byteCells [six.getD k 0]:=by simp[Lib.byteCells]
     rw[t];exact h3
   ·rw[decide_eq_false b]at z
    go_wp2_with fail
    refine⟨6-(k+1),O,k+1,O,rfl,⟨⟨_,_,_,_,_,_,_,_,_,_,_,_,_,rfl⟩,f,?_,p⟩⟩;have e:Ew c (k+1)=Ew c k:=by simp only[Ew,b,if_false,Q6]
    rw[e];exact ra
  ·rw[U2 hi (by show ¬k<6;exact h6)];simp only[Result.andThen];rw[Oper.upon_value];obtain rfl:k=6:=by omega
   go_wp2_with fail
   refine(Go.Proofs.Any.Builder_String_any_f bB aY w.heap.size w.heap.size (Ew c 6) v hb x.size).mono ?_;rintro e w3 ⟨rfl,_,u⟩
   go_wp2
   go_ret
   exact⟨rfl,x.trans u⟩
 ·have e:=heap_alloc_new (w.alloc (Obj.cells #[Value.pointer none,Value.slice none 0 0] 144)) (.stringIter ⟨#[114,119,100,120,108,115]⟩ 0);rw[y]at e;exact e
 ·refine .inl ⟨QL _,.slice none 0 0,?_,World.ownsRowF_nil _ _ _ _,by simp[Value.ownBlock]⟩;have:=heap_alloc_new w (Obj.cells #[Value.pointer none,Value.slice none 0 0] 144);exact(Below.heap_alloc _ _ _ (by rw[y];omega)).trans this
 ·exact((Below.refl _ w).alloc (QL _) _).alloc (by rw[y];omega) _
def eqBs:List UInt8->List UInt8->Bool
 |[],[]=>true
 |a::r,b::s=>a==b&&eqBs r s
 |_,_=>false
def eqBs_eq:∀{a b:List UInt8},eqBs a b=true->a=b
 |[],[],_=>rfl
 |a::r,b::s,h=>by
  simp only[eqBs,Q2,beq_iff_eq]at h;rw[h.1,eqBs_eq h.2]
 |[],_::_,h=>Xd
 |_::_,[],h=>Xd
def lettersN(c:Nat):List UInt8:=
 (if c % 2=1 then [114]else [])++((if c / 2 % 2=1 then [119]else [])++((if c / 4 % 2=1 then [100]else [])++((if c / 8 % 2=1 then [120]else [])++((if c / 16 % 2=1 then [108]else [])++(if c / 32 % 2=1 then [115]else [])))))
theorem pick_letters:∀c:Nat,c<64->Ew c 6=lettersN c:=Xj
def lay_calls{c:Nat}(h:c<64)(w:World):Calls Qo 122 #[.int .u8 (c:Nat)] w λe w'=>e= .returned (.string ⟨(lettersN c).toArray⟩)∧Below w.heap.size w w':=by
 grind [aZB,pick_letters]
end Go.Ve
namespace Go.Vd
open Go.Proofs Go.RowKit
def qL:Ud.ok Qo 123:=aCZ aX aL ⟨_,func123,Xa,Xa⟩
def dK{m:GV}{i fr:Id}{n:Nat}{l:List Bs}(c:n=l.length)(h:∀k x,l[k]?=some x->m i k=some (.str x))(u:l.length<=1000)(q:C3 l<=1000000):
  Ud.ex ([.row i n,.str [44]]++[]) m fr=some (.str (B0 l),[]):=by
 subst c;simp only[Ud,Q6];rw[oN (j:=0) (λk x f=>by rw[QR];exact h k x f),Qm,if_pos ⟨u,q⟩]
def RI.strs{r:Id}{m0 m:GV}{l:List Bs}(h:RI [] r m0 m l l.length):∀k x,l[k]?=some x->m r k=some (.str x):=by
 intro k x f;have s:=(QX.1 f).1;rw[h.row k s,if_pos s];simp[Zp,f]
def Mw{l:List Bs}{b:Nat}(h:∀x∈l,x.length<=b):C3 l<=b*l.length:=by
 induction l with
 |nil=>simp[C3]
 |cons x r ih=>
  have u:=h x (Zt ..);have q:=ih λy d=>h y (List.mem_cons_of_mem _ d)
  simp only[C3,Qv,ZQ];omega
def MF(n:Nat):(F9 n).length<=3:=by
 grind [F9]
def F7(l:List Int):List Bs:=l.map λx=>F9 x.toNat
theorem D6(l:List Int):(F7 l).length=l.length:=QJ ..
def aZq:List D->Option D:=FX (λp:Bool×List Int=>[.slice p.1 [] (Bk p.2)]) (λp=>p.2.length<=1000∧∀x∈p.2,0<=x∧x<1000) (λp=> .str (B0 (F7 p.2)))
def aLr{nl:Bool}{l:List Int}(h:l.length<=1000)(q:∀x∈l,0<=x∧x<1000):aZq [.slice nl [] (Bk l)]=some (.str (B0 (F7 l))):=
 BG (mk:=λp:Bool×List Int=>[.slice p.1 [] (Bk p.2)]) (a:=(nl,l)) (λa b h=>by
  simp only[Qk,D.slice.injEq,true_and,and_true]at h;exact Q7 h.1 (Ln h.2)) ⟨h,q⟩
def aI6{S:GR}{l:List Int}{nl:Bool}{m0:GV}{Q:Ex->St->Prop}(i:l.length<=1000)(p:∀x∈l,0<=x∧x<1000)(d:S 373=some (Ac aUc))
  (u:∀z,z.s 3= .row [3] l.length->RI [] [3] m0 z.m (F7 l) l.length->Q (.exit 0) z):
  ∀(f j:Nat) z g,l.length=j+f->z.s 3= .row [3] l.length->z.s 9= .slice nl [] (Bk l)->z.s 10= .int .i64 (l.length:Int)->z.s 11= .int .i64 (j:Int)->RI [] [3] m0 z.m (F7 l) j->AK S [] Pw Q z g:=by
 intro f;induction f with
 |zero=>
  intro j z g hf k h9 w o I;refine Af Pw.eq_1 ?_;have:¬((j:Int)<l.length):=O
  simp only[↓GQ,GX,Hf,reduceIte,Ql,w,o,this];exact u _ k X9
 |succ f ih=>
  intro j z g hf k h9 w o I;refine Af Pw.eq_1 ?_;have e:j<l.length:=O
  have v:((j:Int)<l.length):=O
  have ma:=nJ (j:=j);have t:=wJ (j:=j) O;have ta:=p l[j] (Q1 e);obtain⟨n,c⟩:∃n:Nat,l[j]=(n:Int):=⟨l[j].toNat,O⟩;have ia:(Bk l)[j]?=some (.int .i64 (n:Int)):=by simp[Bk,Qq e,c]
  have y:(F7 l).getD j []=F9 n:=by simp[F7,Qq e,c]
  have b:=Wv (n:=n) O;have q:=I.row j (by rw[D6];exact e);rw[if_neg O]at q;obtain⟨ja,a,r⟩:=z;simp only at k h9 w o q I;simp only[↓GQ,GT,reduceIte,Qj,Ql,k,h9,w,o,v,ma,t,Qs,ia,q,Ab d,b,Ar,As,Hs,and_self,Qm,Qp,Zm];refine ih (j+1) _ _ O k h9 w rfl ?_;rw[←y];exact I.fill (ZC)
def aVi:Kq aZq 375:=by
 obtain⟨S,v,hl⟩:=A4 (Aa aMt (Aa qL Ae));have d:=hl 373 _ rfl;have a:=hl 123 _ rfl;clear hl;refine B1 v (Al func375:Fn Qo 375 24 aNF [.t 2]) (λ_=>U) (λp o=>?_);obtain⟨nl,l⟩:=p;obtain⟨hl,f⟩:=o;simp only at hl f;have w:((0:Int)<=(l.length:Int)):=O
 have c:((l.length:Int)*(((16:Nat):Int)+1)<=140737488355328)=True:=eq_true O;unfold aNF;simp only[↓GQ,GX,Hx,reduceIte,Qj,Ql,w,c,EM,Qs,Zo,Hs,and_self];refine aI6 (l:=l) (nl:=nl) (m0:=λ_ _=>none) hl f d (λz m I=>?_) l.length 0 _ _ O rfl rfl rfl rfl ?_
 ·simp only[↓GQ,GX,Hf,reduceIte,Ql,m];rw[A7 a];rw[←D6]at I;have g:C3 (F7 l)<=1000000:=by
   have:=Mw (l:=F7 l) (b:=3) λx f=>by
    obtain⟨y,_,rfl⟩:=QU.1 f;exact MF _
   rw[D6]at this;omega
  refine aI (dK (D6 l).symm I.strs (by rw[D6];exact hl) g) ?_;simp only[↓GQ,GT,reduceIte,Qj,Ql]
  all_goals exact Qe
 ·grind [RI.start,D6]
open Classical in
def aLu:List D->Option D
 |[.int .u8 c]=>if 0<=c∧c<64 then some (.str (Go.Ve.lettersN c.toNat))else none
 |_=>none
def aVn:Kq aLu 122:=by
 refine⟨⟨_,func122,Xa,Xa⟩,λds m m' fr _=>rfl,?_⟩;intro B w0 w m g fr ds vs r u hi t hl b z;simp only[Ac]at z;split at z
 ·rw[Q4]at z;obtain⟨n,j,z⟩:=z;simp only[QV]at z;obtain⟨rfl,rfl⟩:=z;unfold aLu at j;split at j
  ·rename_i c e;split at j
   ·rename_i p;simp only[Qt]at j;subst j
    match ds,vs,hl with
    |[d],[v],_=>
     have s:d= .int .u8 c:=by
      simp only[QN,QP,Qk,and_true]at e;cases d<;>simp[D.un]at e;rw[e.1,e.2]
     subst s;have y:=(b 0 _ v rfl rfl).int_inv;subst y;have pa:((c.toNat:Nat):Int)=c:=QC p.1;have:=Go.Ve.lay_calls (c:=c.toNat) O w;rw[pa]at this;refine this.mono ?_;rintro e w' ⟨rfl,f⟩;exact⟨_,g.over w w',rfl,hi.over f,Hk.over hi.gz f,.str _,λi o _=>o⟩
    |[],_,_=>simp at e
    |_::_::_,_,_=>simp at e
   ·cases j
  ·cases j
 ·cases z
def OH{l:List Rl}:∀f j,DJ l f j=0->∀i,j<=i->i<j+f->i<l.length->(Bx l i).2<=63
 |0,j,_,i,h1,h2,_=>O
 |f+1,j,h,i,h1,h2,hi=>by
  unfold DJ at h;rw[if_pos O]at h;split at h
  ·omega
  ·rename_i g;rcases Nat.eq_or_lt_of_le h1 with rfl|h1
   ·grind [Io,Bx]
   ·exact OH f (j+1) h i O O hi
def Li{l:List Rl}(h:B4 l=0):l.length<=4∧∀r∈l,r.2<=63:=by
 unfold B4 at h;split at h
 ·cases h
 ·refine⟨O,λr j=>?_⟩;obtain⟨i,hi,rfl⟩:=Zq j;have:=OH l.length 0 h i (QH _) O hi;simpa[Bx,Qq hi]using this
def Co(r:Rl):Bs:=r.1++[58]++Go.Ve.lettersN r.2.toNat
def Bn(l:List Rl):List Bs:=l.map Co
theorem CC(l:List Rl):(Bn l).length=l.length:=QJ ..
def DD(n:Nat):(Go.Ve.lettersN n).length<=6:=by
 unfold Go.Ve.lettersN;have h:∀(c:Prop)[Decidable c](x:UInt8),(if c then [x]else []).length<=1:=by
  intro c _ x;split<;>simp
 simp only[Qw];have u:=h (n % 2=1) 114;have q:=h (n / 2 % 2=1) 119;have d:=h (n / 4 % 2=1) 100;have o:=h (n / 8 % 2=1) 120;have k:=h (n / 16 % 2=1) 108;have i:=h (n / 32 % 2=1) 115;omega
def aJf{S:GR}{l:List Rl}{nl:Bool}{m0:GV}{Q:Ex->St->Prop}(i:l.length<=4)(p:∀r∈l,r.1.length<=1000∧0<=r.2∧r.2<64)(h:S 122=some (Ac aLu))
  (u:∀z,z.s 5= .row [9] l.length->RI [] [9] m0 z.m (Bn l) l.length->Q (.exit 0) z):
  ∀(f j:Nat) z g,l.length=j+f->10<=z.c->z.s 5= .row [9] l.length->z.s 16= .slice nl [] (Am l)->z.s 17= .int .i64 (l.length:Int)->z.s 18= .int .i64 (j:Int)->RI [] [9] m0 z.m (Bn l) j->AK S [] PJ Q z g:=by
 intro f;induction f with
 |zero=>
  intro j z g o hc k y ra w I;refine Af PJ.eq_1 ?_;have:¬((j:Int)<l.length):=O
  simp only[↓GQ,GX,Hf,reduceIte,Ql,ra,w,this];exact u _ k X9
 |succ f ih=>
  intro j z g o hc k y ra w I;refine Af PJ.eq_1 ?_;have e:j<l.length:=O
  have v:((j:Int)<l.length):=O
  have q:=nJ (j:=j);have hw:=wJ (j:=j) O;obtain⟨qa,n,b⟩:=p l[j] (Q1 e);have ia:(Am l)[j]?=some (.agg [.str l[j].1,.int .u8 l[j].2]):=by simp[Am,bP,Qq e]
  have hg:(Bn l).getD j []=Co l[j]:=by simp[Bn,Qq e]
  generalize l[j]=r at qa n b ia hg;have a:aLu [.int .u8 r.2]=some (.str (Go.Ve.lettersN r.2.toNat)):=if_pos ⟨n,b⟩;have x:=I.row j (by rw[CC];exact e);rw[if_neg O]at x;have ya:=DD r.2.toNat;have l1:(r.1.length+1<=9223372036854775807)=True:=eq_true O;have l2:(r.1.length+1+(Go.Ve.lettersN r.2.toNat).length<=9223372036854775807)=True:=eq_true O;have ta:([z.c+1+3]=([9]:Id))=False:=eq_false Xc;have na:(([9]:Id)=[z.c+1+3])=False:=eq_false Xc;obtain⟨ja,d,t⟩:=z;simp only at k y ra w x I hc ta na;simp only[↓GQ,Hb,reduceIte,Qj,Ql,k,y,ra,w,v,q,Qs,ia,x,Ab h,a,na,l1,l2,QL,Qw,Aj,Ar,As,Qy,Qh,Qm,QB,Qz,Qp,false_and];refine AJ ?_;simp only[↓GQ,GX,Hx,reduceIte,Qj,Ql,w,hw];refine ih (j+1) _ _ O Xb k y ra rfl ?_;have va:r.1++[58]++Go.Ve.lettersN r.2.toNat=(Bn l).getD j []:=hg.symm;rw[va];exact((I.put Xc).put Xc).fill (ZC)
def nM:List D->Option D:=FX (λp:Bool×List Rl=>[.slice p.1 [] (Am p.2)]) (λp=>p.2.length<=1000000∧∀r∈p.2,r.1.length<=1000∧0<=r.2)
 (λp=> .tup [.str (if B4 p.2=0 then B0 (Bn p.2)else []),.int .i64 (B4 p.2)])
def Wz{nl:Bool}{l:List Rl}(h:l.length<=1000000)(q:∀r∈l,r.1.length<=1000∧0<=r.2):nM [.slice nl [] (Am l)]=some (.tup [.str (if B4 l=0 then B0 (Bn l)else []),.int .i64 (B4 l)]):=
 BG (mk:=λp:Bool×List Rl=>[.slice p.1 [] (Am p.2)]) (a:=(nl,l)) (λa b h=>by
  simp only[Qk,D.slice.injEq,true_and,and_true]at h;exact Q7 h.1 (It h.2)) ⟨h,q⟩
open Classical in
def La{nl:Bool}{l:List Rl}(h:l.length<=1000000)(q:∀r∈l,r.1.length<=1000∧0<=r.2):gY [.slice nl [] (Am l)]=some (.int .i64 (B4 l)):=by
 have g:Am l=Am (Bc (Am l))∧(Am l).length<=1000000∧BR (Bc (Am l)):=by
  rw[AS,Ay];exact⟨rfl,h,λr j=>Nat.le_trans (q r j).1 O⟩
 show(if _ then _ else _)=_;rw[if_pos g,AS]
def aMD:Kq nM 60:=by
 obtain⟨S,hS,hl⟩:=A4 (Aa cF (Aa aVn (Aa qL Ae)));have n:=hl 121 _ rfl;have h:=hl 122 _ rfl;have a:=hl 123 _ rfl;clear hl;refine B1 hS (Al func60:Fn Qo 60 36 aOy [.t 2,.t 3]) (λ_=>U) (λp hp=>?_);obtain⟨nl,l⟩:=p;obtain⟨hl,f⟩:=hp;simp only at hl f;have d:=La (nl:=nl) hl f;have hz:=Li (l:=l);simp only;unfold aOy;generalize B4 l=e at d hz;by_cases m:e=0
 ·subst m;obtain⟨o,v⟩:=hz rfl;have w:((0:Int)<=(l.length:Int)):=by omega
  have c:((l.length:Int)*(((16:Nat):Int)+1)<=140737488355328)=True:=eq_true O;simp only[↓GQ,GT,reduceIte,Qj,Ql,Ab n,d,w,c,Ay,Qs,Zo,Hs,and_self];refine aJf (l:=l) (nl:=nl) (m0:=λ_ _=>none) o (λr j=>⟨(f r j).1,(f r j).2,by have:=v r j;omega⟩) h (λz k I=>?_) l.length 0 _ _ O Xb rfl rfl rfl rfl ?_
  ·simp only[↓GQ,GX,Hf,reduceIte,Ql,k];rw[A7 a];rw[←CC]at I;have g:C3 (Bn l)<=1000000:=by
    have:=Mw (l:=Bn l) (b:=1007) λx oa=>by
     obtain⟨y,i,rfl⟩:=QU.1 oa;have u:=(f y i).1;have q:=DD y.2.toNat;simp only[Co,Qw,Qv,QE];omega
    rw[CC]at this;omega
   refine aI (dK (CC l).symm I.strs (by rw[CC];omega) g) ?_;simp only[↓GQ,GT,reduceIte,Qj,Ql]
   all_goals exact Qe
  ·grind [RI.start,CC]
 ·simp only[↓GQ,GT,reduceIte,Qj,Ql,Ab n,d,m,and_self]
  all_goals exact Qe
def aPe:=y0 f108 [] []
def aPd:=y0 f172 [] []
def aPc:=y0 f304 [] []
def aPb:=y0 f305 [] []
def PX:=y1 f306 4 [] []
def aPa:=y0 f306 [] [(4,PX)]
def aOe:=y0 f354 [] []
def VQ:=y1 Tryz.f241 7 [] []
def aX6:=y0 Tryz.f241 [] [(7,VQ)]
def Oz{s:Bs}{p:Nat}{c:UInt8}(h:s[p]?=some c)(g:c.toNat<128):Utf8.decode ⟨s.toArray⟩ p=(c.toNat,1):=by
 have o:=(QX.1 h).1;have x:Hm s p=c.toNat:=by simp[Hm,h]
 unfold Utf8.decode;simp only[Oj,Zf,x,g,if_true]
def Um:List (Bs×Bs):=[([],[]),([115,116,97,116,117,115],[]),([117,110,115,101,97,108],[107]),([115,101,97,108],[116]),([114,111,116,97,116,101],[116]),([109,111,117,110,116],[116,112,110,102]),([117,110,109,111,117,110,116],[116,112]),([109,97,107,101],[116,109,114]),([114,101,118,111,107,101],[116,109]),([114,101,97,100],[116,112,110]),([119,114,105,116,101],[116,112,99,100]),([100,101,108,101,116,101],[116,112,108]),([117,110,100,101,108,101,116,101],[116,112,108]),([100,101,115,116,114,111,121],[116,112,108]),([109,101,116,97],[116,112]),([99,111,110,102,105,103],[116,112,110,102]),([112,117,114,103,101],[116,112]),([108,105,115,116],[116,112]),([99,111,112,121],[116,112,113])]
def Ft(op:Int):Bs:=(Um.getD op.toNat ([],[])).1
def Ch(op:Int):Bs:=(Um.getD op.toNat ([],[])).2
def aC7(p:Bs×Bs):Option D->Bool
 |some (.agg [.str a,.str b])=>Go.Ve.eqBs a p.1&&Go.Ve.eqBs b p.2
 |_=>false
def aAd:List D->Option D:=Ol (λ_=>none) 30 aPe [.cell (some 2) 2] 60
def pW:Kq aAd 108:=Ok AO (Al func108:Fn Qo 108 30 aPe [.cell (some 2) 2]) 60
def aGi:(ZF 256).all (λop=>aC7 (Um.getD op ([],[])) (aAd [.int .u8 (op:Nat)]))=true:=Xa
def Re{op:Int}(y:0<=op)(h:op<256):aAd [.int .u8 op]=some (.agg [.str (Ft op),.str (Ch op)]):=by
 have:=Q_.1 aGi op.toNat Xc;rw[QC y]at this;unfold Ft Ch;generalize aAd [.int .u8 op]=r at this;unfold aC7 at this;split at this
 ·rw[Q2]at this;rw[Go.Ve.eqBs_eq this.1,Go.Ve.eqBs_eq this.2]
 ·cases this
structure HB (a:Ak):Prop where
 op0:0<=a.op
 op:a.op<256
 tk:a.tk.length<=1000
 pa:a.pa.length<=1000
 ot:a.ot.length<=1000
 ns:a.ns.length<=1000
 da:a.da.length<=1000
 rl:a.rs.length<=1000
 rs:∀r∈a.rs,r.1.length<=1000∧0<=r.2
 key:a.key.length<=1000
def BE(a:Ak)(c:Int):Int:=if c=116 then Dj (BJ a.tk)else if c=109 then Dj (BJ a.ot)else if c=112 then AV a.pa else if c=113 then AV a.ot else if c=110 then Dj (decide (0<=a.n∧a.n<=999))else if c=99 then Dj (decide (-1<=a.cas∧a.cas<=999))else if c=108 then Dj (countB a.ns)else if c=114 then B4 a.rs else if c=107 then Dj (decide ((a.key.length:Int)=16))else 0
def aHw:List D->Option D:=FX (λp:Ak×Int=>[Hu p.1,.int .i32 p.2]) (λp=>HB p.1) (λp=> .int .i64 (BE p.1 p.2))
def HF{a:Ak}{c:Int}(h:HB a):aHw [Hu a,.int .i32 c]=some (.int .i64 (BE a c)):=
 BG (mk:=λp:Ak×Int=>[Hu p.1,.int .i32 p.2]) (a:=(a,c)) (λx y e=>by
  simp only[Qk,D.int.injEq,true_and,and_true]at e;exact Q7 (FG e.1) e.2) h
def aMI:Kq aHw 172:=by
 obtain⟨S,hS,hl⟩:=A4 (Aa aVE (Aa aMz (Aa pV (Aa aMy (Aa aVD (Aa cF Ae))))));have f:=hl 229 _ rfl;have b:=hl 169 _ rfl;have x:=hl 197 _ rfl;have e:=hl 230 _ rfl;have g:=hl 231 _ rfl;have da:=hl 121 _ rfl;clear hl;refine B1 hS (Al func172:Fn Qo 172 58 aPd [.t 4]) (λ_=>U) (λp z=>?_);obtain⟨a,c⟩:=p;simp only at z;have hT:=uC (s:=a.tk) (by have:=z.tk;omega);have hO:=uC (s:=a.ot) (by have:=z.ot;omega);have hP:iA [.str a.pa]=some (.int .i64 (AV a.pa)):=if_pos (by have:=z.pa;omega);have hQ:iA [.str a.ot]=some (.int .i64 (AV a.ot)):=if_pos (by have:=z.ot;omega);have hN:aAw [.int .i64 a.n,.int .i64 0,.int .i64 999]=some (.bool (decide (0<=a.n∧a.n<=999))):=rfl;have hC:aAw [.int .i64 a.cas,.int .i64 (-1),.int .i64 999]=some (.bool (decide (-1<=a.cas∧a.cas<=999))):=rfl;have hL:=aLD (nl:=a.nln) (l:=a.ns) (by have:=z.ns;omega);have hR:=La (nl:=a.nlr) (l:=a.rs) (by have:=z.rl;omega) z.rs;unfold BE aPd Hu Hq;simp only;by_cases w:c=116
 ·subst w;simp only[↓GQ,Hb,simprocAttr,Ab f,hT,Ab b,HC,Aj,Qh]
  all_goals exact Qe
 have k:decide (c=116)=false:=XZ
 by_cases fa:c=109
 ·subst fa;simp only[↓GQ,Hb,simprocAttr,Ab f,hO,Ab b,HC,Aj,Qh]
  all_goals exact Qe
 have m:decide (c=109)=false:=by simpa using fa
 by_cases y:c=112
 ·subst y;simp only[↓GQ,Hb,simprocAttr,Ab x,hP,Aj,Qh]
  all_goals exact Qe
 have r:decide (c=112)=false:=XY
 by_cases v:c=113
 ·subst v;simp only[↓GQ,Hb,simprocAttr,Ab x,hQ,Aj,Qh]
  all_goals exact Qe
 have o:decide (c=113)=false:=by simpa using v
 by_cases ja:c=110
 ·subst ja;simp only[↓GQ,Hb,simprocAttr,Ab e,hN,Ab b,HC,Aj,Qh]
  all_goals exact Qe
 have i:decide (c=110)=false:=by simpa using ja
 by_cases ia:c=99
 ·subst ia;simp only[↓GQ,Hb,simprocAttr,Ab e,hC,Ab b,HC,Aj,Qh]
  all_goals exact Qe
 have u:decide (c=99)=false:=by simpa using ia
 by_cases h108:c=108
 ·subst h108;simp only[↓GQ,Hb,simprocAttr,Ab g,hL,Ab b,HC,Aj,Qh]
  all_goals exact Qe
 have j:decide (c=108)=false:=by simpa using h108
 by_cases ga:c=114
 ·subst ga;simp only[↓GQ,Hb,simprocAttr,Ab da,hR,Aj,Qh]
  all_goals exact Qe
 have q:decide (c=114)=false:=by simpa using ga
 by_cases d:c=107
 ·subst d;simp only[↓GQ,Hb,simprocAttr,Ab b,HC,Aj,Qh]
  all_goals exact Qe
 have h:decide (c=107)=false:=XS
 simp only[↓GQ,GT,simprocAttr,w,fa,y,v,ja,ia,h108,ga,d,QR,and_self]
 all_goals exact Qe
def EO(a:Ak)(c:Int):Ak:=if c=116 then {a with tk:=[]}else if c=112 then {a with pa:=[]}else if c=109∨c=113 then {a with ot:=[]}else if c=110 then {a with n:=0}else if c=99 then {a with cas:=0}else if c=102 then {a with fl:=false}else if c=108 then {a with nln:=true,ns:=[]}else if c=100 then {a with da:=[]}else if c=114 then {a with nlr:=true,rs:=[]}else if c=107 then {a with key:=[]}else a
def aL1:List D->Option D:=FX (λp:Ak×Int=>[Hu p.1,.int .i32 p.2]) (λp=>True) (λp=>Hu (EO p.1 p.2))
def aL0{a:Ak}{c:Int}:aL1 [Hu a,.int .i32 c]=some (Hu (EO a c)):=
 BG (mk:=λp:Ak×Int=>[Hu p.1,.int .i32 p.2]) (a:=(a,c)) (λx y e=>by
  simp only[Qk,D.int.injEq,true_and,and_true]at e;exact Q7 (FG e.1) e.2) trivial
def aV5:Kq aL1 304:=by
 refine B1 (S:=λ_=>none) AO (Al func304:Fn Qo 304 38 aPc [.cell (some 11) 4]) (λ_=>U) (λp z=>?_);obtain⟨a,c⟩:=p;unfold EO aPc Hu Hq;simp only;by_cases w:c=116
 ·subst w;simp only[↓GQ,Hb,simprocAttr,or_self,Aj,Ar,As,Qh,Qm,Qp,Qk,Qr,and_false,Qn,Bo,AY]
  all_goals exact Qe
 by_cases y:c=112
 ·subst y;simp only[↓GQ,Hb,simprocAttr,or_self,Aj,Ar,As,Qh,Qm,Qp,Qk,Qr,and_false,Qn,Bo,AY]
  all_goals exact Qe
 by_cases m:c=109
 ·subst m;simp only[↓GQ,Hb,simprocAttr,true_or,Aj,Ar,As,Qh,Qm,Qp,Qk,Qr,and_false,Qn,Bo,AY]
  all_goals exact Qe
 by_cases v:c=113
 ·subst v;simp only[↓GQ,Hb,simprocAttr,or_true,Aj,Ar,As,Qh,Qm,Qp,Qk,Qr,and_false,Qn,Bo,AY]
  all_goals exact Qe
 by_cases u:c=110
 ·subst u;simp only[↓GQ,Hb,simprocAttr,or_self,Aj,Ar,As,Qh,Qm,Qp,Qk,Qr,and_false,Qn,Bo,AY]
  all_goals exact Qe
 by_cases ia:c=99
 ·subst ia;simp only[↓GQ,Hb,simprocAttr,or_self,Aj,Ar,As,Qh,Qm,Qp,Qk,Qr,and_false,Qn,Bo,AY]
  all_goals exact Qe
 by_cases f:c=102
 ·subst f;simp only[↓GQ,Hb,simprocAttr,or_self,Aj,Ar,As,Qh,Qm,Qp,Qk,Qr,and_false,Qn,Bo,AY]
  all_goals exact Qe
 by_cases h108:c=108
 ·subst h108;simp only[↓GQ,Hb,simprocAttr,or_self,Aj,Ar,As,Qh,Qm,Qp,Qk,Qr,and_false,Qn,Bo,AY]
  all_goals exact Qe
 by_cases o:c=100
 ·subst o;simp only[↓GQ,Hb,simprocAttr,or_self,Aj,Ar,As,Qh,Qm,Qp,Qk,Qr,and_false,Qn,Bo,AY]
  all_goals exact Qe
 by_cases k:c=114
 ·subst k;simp only[↓GQ,Hb,simprocAttr,or_self,Aj,Ar,As,Qh,Qm,Qp,Qk,Qr,and_false,Qn,Bo,AY]
  all_goals exact Qe
 by_cases d:c=107
 ·subst d;simp only[↓GQ,Hb,simprocAttr,or_self,Aj,Ar,As,Qh,Qm,Qp,Qk,Qr,and_false,Qn,Bo,AY]
  all_goals exact Qe
 simp only[↓GQ,Hb,simprocAttr,w,y,m,v,u,ia,f,h108,o,k,d,or_self,Aj,Ar,As,Qh,Qm,Qp,Qk,Qr,Qn,Bo,AY]
 all_goals exact Qe
def orN(s:Bs):Bs:=if s=[]then [45]else s
def MN(a:Ak)(c:Int):Bs:=if c=116 then a.tk else if c=112 then a.pa else if c=109∨c=113 then a.ot else if c=110 then F9 a.n.toNat else if c=99 then(if a.cas=-1 then [45]else F9 a.cas.toNat)
 else if c=102 then(if a.fl=true then [49]else [48])else if c=108 then orN (B0 (F7 a.ns))else if c=100 then orN (Pe a.da)else if c=114 then orN (if B4 a.rs=0 then B0 (Bn a.rs)else [])else Pe a.key
structure UN (a:Ak) (c:Int):Prop where
 n:c=110->0<=a.n∧a.n<1000
 cas:c=99->-1<=a.cas∧a.cas<1000
 ns:c=108->∀x∈a.ns,0<=x∧x<1000
def aLB:List D->Option D:=FX (λp:Ak×Int=>[Hu p.1,.int .i32 p.2]) (λp=>HB p.1∧UN p.1 p.2) (λp=> .str (MN p.1 p.2))
def aLA{a:Ak}{c:Int}(h:HB a)(q:UN a c):aLB [Hu a,.int .i32 c]=some (.str (MN a c)):=
 BG (mk:=λp:Ak×Int=>[Hu p.1,.int .i32 p.2]) (a:=(a,c)) (λx y e=>by
  simp only[Qk,D.int.injEq,true_and,and_true]at e;exact Q7 (FG e.1) e.2) ⟨h,q⟩
def aVA:Kq aLB 354:=by
 obtain⟨S,hS,hl⟩:=A4 (Aa aMt (Aa aVj (Aa aVi (Aa aMw (Aa aMD Ae)))));have d:=hl 373 _ rfl;have g:=hl 374 _ rfl;have i:=hl 375 _ rfl;have h:=hl 237 _ rfl;have k:=hl 60 _ rfl;clear hl;refine B1 hS (Al func354:Fn Qo 354 63 aOe [.t 4]) (λ_=>U) (λp z=>?_);obtain⟨a,c⟩:=p;obtain⟨z,hN,hC,hL⟩:=z;simp only at z hN hC hL;unfold MN orN aOe Hu Hq;simp only;by_cases w:c=116
 ·subst w;simp only[↓GQ,Hb,simprocAttr,or_self,Aj,Qh]
  all_goals exact Qe
 by_cases y:c=112
 ·subst y;simp only[↓GQ,Hb,simprocAttr,or_self,Aj,Qh]
  all_goals exact Qe
 by_cases m:c=109
 ·subst m;simp only[↓GQ,Hb,simprocAttr,true_or,Aj,Qh]
  all_goals exact Qe
 by_cases v:c=113
 ·subst v;simp only[↓GQ,Hb,simprocAttr,or_true,Aj,Qh]
  all_goals exact Qe
 by_cases ja:c=110
 ·subst ja;have q:=hN rfl;obtain⟨n,ra⟩:∃n:Nat,a.n=(n:Int):=⟨a.n.toNat,O⟩;have b:=Wv (n:=n) O;rw[ra];simp only[↓GQ,Hb,simprocAttr,Ab d,b,Qs,or_self,Aj,Qh]
  all_goals exact Qe
 by_cases ia:c=99
 ·subst ia;have r:=hC rfl;by_cases u:a.cas=-1
  ·rw[u];simp only[↓GQ,Hb,simprocAttr,or_self,Aj,Qh]
   all_goals exact Qe
  ·obtain⟨n,ra⟩:∃n:Nat,a.cas=(n:Int):=⟨a.cas.toNat,O⟩;have b:=Wv (n:=n) O;rw[ra]at u ⊢;simp only[↓GQ,Hb,simprocAttr,u,Ab d,b,Qs,or_self,Aj,Qh]
   all_goals exact Qe
 by_cases f:c=102
 ·subst f;cases a.fl<;>simp only[↓GQ,Hb,simprocAttr,or_self,Aj,Qh]
  all_goals exact Qe
 by_cases h108:c=108
 ·subst h108;have hl:=hL rfl;have j:=aLr (nl:=a.nln) (l:=a.ns) z.ns hl;simp only[↓GQ,Hb,simprocAttr,Ab i,j,Ab g,Wu,or_self,Aj,Qh]
  all_goals exact Qe
 by_cases x:c=100
 ·subst x;have o:=Ww (s:=a.da) (by have:=z.da;omega);simp only[↓GQ,Hb,simprocAttr,Ab h,o,Ab g,Wu,or_self,Aj,Qh]
  all_goals exact Qe
 by_cases ga:c=114
 ·subst ga;have e:=Wz (nl:=a.nlr) (l:=a.rs) (by have:=z.rl;omega) z.rs;simp only[↓GQ,Hb,simprocAttr,Ab k,e,Ab g,Wu,or_self,Aj,Qh]
  all_goals exact Qe
 have o:=Ww (s:=a.key) (by have:=z.key;omega);simp only[↓GQ,Hb,simprocAttr,Ab h,o,w,y,m,v,ja,ia,f,h108,x,ga,or_self,Aj,Qh]
 all_goals exact Qe
def Tv(a:Ak):Bool:=a.ns.isEmpty&&(a.rs.isEmpty&&(decide (a.op=0)&&(decide (a.tk=[])&&(decide (a.pa=[])&&(decide (a.ot=[])&&(decide (a.n=0)&&(decide (a.cas=0)&&(!a.fl&&(decide (a.da=[])&&decide (a.key=[]))))))))))
def ak0:Ak:=⟨0,[],[],[],0,0,false,true,[],[],true,[],[]⟩
def aUh:List D->Option D:=FX (λa:Ak=>[Hu a,Hu ak0]) (λa=>HB a) (λa=> .bool (Tv a))
def aLZ{a:Ak}(h:HB a):aUh [Hu a,Hu ak0]=some (.bool (Tv a)):=
 BG (mk:=λa:Ak=>[Hu a,Hu ak0]) (λx y e=>by
  simp only[Qk,and_true]at e;exact FG e) h
def aVB:Kq aLC 219:=by
 obtain⟨S,v,hl⟩:=A4 (Aa aVk Ae);have b:=hl 291 _ rfl;clear hl;refine B1 v aNj (λ_=>U) (λp g=>?_);have a:=Wy (nl:=p.1) (nl':=p.2.2) (l:=p.2.1) g;unfold eS;by_cases lb:(([D.slice p.1 [] p.2.1,.slice p.2.2 [] []]:List D).map D.un).all D.calm=true
 ·simp only[↓GQ,GT,simprocAttr,Ab b,a,and_self]
  all_goals exact Qe
 ·exact absurd rfl lb
def aV4:Kq aUh 305:=by
 obtain⟨S,v,hl⟩:=A4 (Aa aVC (Aa aVB Ae));have d:=hl 353 _ rfl;have e:=hl 219 _ rfl;clear hl;refine B1 v (Al func305:Fn Qo 305 82 aPb [.t 4]) (λ_=>U) (λa o=>?_);have b:=Wy (nl:=a.nln) (nl':=true) (l:=Bk a.ns) (by rw[EM];have:=o.ns;omega);have c:=Wy (nl:=a.nlr) (nl':=true) (l:=Am a.rs) (by rw[Ay];have:=o.rl;omega);have p:(Bk a.ns).isEmpty=a.ns.isEmpty:=by cases a.ns<;>rfl
 have m:(Am a.rs).isEmpty=a.rs.isEmpty:=by cases a.rs<;>rfl
 rw[p]at b;rw[m]at c;unfold Tv aPb Hu Hq ak0;simp only;generalize a.ns.isEmpty=g at b;generalize a.rs.isEmpty=b2 at c;have n1:Bk ([]:List Int)=[]:=rfl;have n2:Am ([]:List Rl)=[]:=rfl;cases g with
 |false=>
  simp only[↓GQ,Hb,simprocAttr,n1,n2,Ab d,b,QF,Aj,Qh,Qk,Qr,Qn]
  all_goals exact Qe
 |true=>
  cases b2 with
  |false=>
   simp only[↓GQ,Hb,simprocAttr,n1,n2,Ab d,b,Ab e,c,QF,QO,Aj,Qh,Qk,Qr,Qn]
   all_goals exact Qe
  |true=>
   simp only[Zr];by_cases r:a.op=0
   ·by_cases i:a.tk=[]
    ·by_cases f:a.pa=[]
     ·by_cases g4:a.ot=[]
      ·by_cases g5:a.n=0
       ·by_cases y:a.cas=0
        ·cases g7:a.fl with
         |false=>
          by_cases u:a.da=[]
          ·simp only[↓GQ,Hb,simprocAttr,n1,n2,Ab d,b,Ab e,c,Aj,Qh,Qk,Qr,Qn,r,i,f,g4,g5,y,u]
           trace_state
           all_goals exact Qe
          ·simp only[↓GQ,Hb,simprocAttr,n1,n2,Ab d,b,Ab e,c,QF,QO,Aj,Qh,Qk,Qr,Qn,r,i,f,g4,g5,y,u]
           all_goals exact Qe
         |true=>
          simp only[↓GQ,Hb,simprocAttr,n1,n2,Ab d,b,Ab e,c,QF,QO,Aj,Qh,Qk,Qr,Qn,r,i,f,g4,g5,y]
          all_goals exact Qe
        ·simp only[↓GQ,Hb,simprocAttr,n1,n2,Ab d,b,Ab e,c,QF,QO,Aj,Qh,Qk,Qr,Qn,r,i,f,g4,g5,y]
         all_goals exact Qe
       ·simp only[↓GQ,Hb,simprocAttr,n1,n2,Ab d,b,Ab e,c,QF,QO,Aj,Qh,Qk,Qr,Qn,r,i,f,g4,g5]
        all_goals exact Qe
      ·simp only[↓GQ,Hb,simprocAttr,n1,n2,Ab d,b,Ab e,c,QF,QO,Aj,Qh,Qk,Qr,Qn,r,i,f,g4]
       all_goals exact Qe
     ·simp only[↓GQ,Hb,simprocAttr,n1,n2,Ab d,b,Ab e,c,QF,QO,Aj,Qh,Qk,Qr,Qn,r,i,f]
      all_goals exact Qe
    ·simp only[↓GQ,Hb,simprocAttr,n1,n2,Ab d,b,Ab e,c,QF,QO,Aj,Qh,Qk,Qr,Qn,r,i]
     all_goals exact Qe
   ·simp only[↓GQ,Hb,simprocAttr,n1,n2,Ab d,b,Ab e,c,QF,Aj,Qh,Qk,Qr,Qn,r]
    all_goals exact Qe
theorem AI{m:GV}{i j:Id}{o:Nat}{ds:List D}(h:j≠i):∀{n p:Nat},Ai (m.put i o ds) j p n=Ai m j p n
 |0,p=>rfl
 |n+1,p=>by
  simp only[Ai,aB h];rw[AI h]
theorem Vf{i:Id}:∀{ds:List D} {m:GV} {p:Nat},(∀k d,ds[k]?=some d->m i (p+k)=some d)->Ai m i p ds.length=some ds
 |[],m,p,_=>rfl
 |d::r,m,p,h=>by
  have y:=h 0 d rfl;rw[Zf]at y;have j:=Vf (ds:=r) (m:=m) (p:=p+1) λk x f=>by
   have:=h (k+1) x (by simpa using f);rw[show p+1+k=p+(k+1)by omega];exact this
  simp only[Qv,Ai,y,j,QD]
theorem AM{m:GV}{i:Id}{ds:List D}{n:Nat}(h:ds.length=n):Ai (m.put i 0 ds) i 0 n=some ds:=by
 grind [Vf,Aj]
def MC{m:GV}{i:Id}{o:Nat}:Ai m i o 1=(m i o).map λd=>[d]:=by
 grind [Ai]
def BU(a:Ak):(Hq a).map D.un1=Hq a:=rfl
def BV(a:Ak):(Hq a).all D.calm1=true:=rfl
def AT(a:Ak):D.cells (.agg (Hq a))=Hq a:=rfl
theorem AZ(a:Ak):(Hq a).length=11:=rfl
def dG{a:Ak}{c:Int}(h:HB a):(MN a c).length<=100000:=by
 obtain⟨_,_,u,q,d,o,k,i,e,w⟩:=h;have n1:=MF a.n.toNat;have n2:=MF a.cas.toNat;have z:∀s:Bs,s.length<=100000->(orN s).length<=100000:=by
  grind [orN]
 have g:(B0 (F7 a.ns)).length<=100000:=by
  have p:=Gc (F7 a.ns);have m:=Mw (l:=F7 a.ns) (b:=3) λx f=>by
   obtain⟨y,_,rfl⟩:=QU.1 f;exact MF _
  rw[D6]at p m;omega
 have r:(if B4 a.rs=0 then B0 (Bn a.rs)else []).length<=100000:=by
  split
  ·rename_i j;have e0:=(Li j).1;have p:=Gc (Bn a.rs);have m:=Mw (l:=Bn a.rs) (b:=1007) λx f=>by
    obtain⟨y,hy,rfl⟩:=QU.1 f;have u:=(e y hy).1;have q:=DD y.2.toNat;simp only[Co,Qw,Qv,QE];omega
   rw[CC]at p m;omega
  ·simp
 have t:=hexB_len a.da;have v:=hexB_len a.key;unfold MN;split
 ·omega
 ·grind
def OS(a:Ak):Bs:=Ft a.op++(Ch a.op).flatMap λc=>32::MN a (c.toNat:Int)
theorem forms_ok:Um.all (λp=>decide (p.1.length<=20)&&(decide (p.2.length<=20)&&p.2.all λc=>decide (c.toNat<128)))=true:=Xj
def qS(op:Int):(Ft op).length<=20∧(Ch op).length<=20∧∀c∈Ch op,c.toNat<128:=by
 unfold Ft Ch;have:∀p:Bs×Bs,p=([],[])∨p∈Um->p.1.length<=20∧p.2.length<=20∧∀c∈p.2,c.toNat<128:=by
  grind [forms_ok]
 refine this _ ?_;by_cases h:op.toNat<Um.length
 ·simp_all
 ·simp_all
def aJr{S:GR}{a:Ak}(q:HB a)(i:S 354=some (Ac aLB)){ls:Bs}(ka:ls.length<=20)(k:∀c∈ls,c.toNat<128)(b:∀c∈ls,UN a (c.toNat:Int)){ki:Id}(j:([0]:Id)≠ki){w0:Bs}(o:w0.length<=20){Q:Ex->St->Prop}
  (fa:∀z,z.s 4= .str (w0++ls.flatMap λc=>32::MN a (c.toNat:Int))->Q (.exit 0) z):
  ∀(f p:Nat) z g,ls.length=p+f->z.s 1= .ptr [0] 0->z.s 4= .str (w0++(ls.take p).flatMap λc=>32::MN a (c.toNat:Int))->z.s 14= .itp ki->Ai z.m [0] 0 11=some (Hq a)->z.m ki 1=some (.it ls p)->
   AK S [] PX Q z g:=by
 intro f;induction f with
 |zero=>
  intro p z g hf u w d y n;refine Af PX.eq_1 ?_;have hp:¬(p<ls.length):=O
  simp only[↓GQ,GX,simprocAttr,d,hp,n,Qu];refine fa _ ?_;simp only[↓GQ,reduceIte,Qj,w];rw[QK O]
 |succ f ih=>
  intro p z g hf u w d y n;refine Af PX.eq_1 ?_;have hp:p<ls.length:=O
  have ia:ls[p]?=some ls[p]:=Qq hp;have ta:ls[p]∈ls:=Q1 hp;have v:=Oz ia (k _ ta);have e:aLB [.agg (Hq a),.int .i32 (ls[p].toNat:Int)]=some (.str (MN a (ls[p].toNat:Int))):=aLA q (b _ ta);have ya:=dG (c:=(ls[p].toNat:Int)) q;have na:ls.take (p+1)=ls.take p++[ls[p]]:=by rw[Zi,ia];rfl
  have qa:((ls.take p).flatMap λc=>32::MN a (c.toNat:Int)).length<=100001*20:=by
   have:∀(l:Bs),((l.flatMap λc=>32::MN a (c.toNat:Int))).length<=100001*l.length:=by
    intro l;induction l with
    |nil=>simp
    |cons x r ih=>
     have:=dG (c:=(x.toNat:Int)) q;simp only[List.flatMap_cons,Qw,Qv,ZQ];omega
   have h:=this (ls.take p);have h':(ls.take p).length<=20:=Xn
   omega
  have ca:(1+(MN a (ls[p].toNat:Int)).length<=9223372036854775807)=True:=eq_true O;have ra:(w0.length+((ls.take p).flatMap λc=>32::MN a (c.toNat:Int)).length+(1+(MN a (ls[p].toNat:Int)).length)<=9223372036854775807)=True:=eq_true O;generalize ls[p]=c at v e na ca ra;obtain⟨ja,ga,t⟩:=z;simp only at u w d y n;simp only[↓GQ,GT,simprocAttr,u,w,d,y,v,AI j,Ab i,e,ca,ra,BU,BV,hp,n,Qw,Hs,Qu,Qh];refine ih (p+1) _ _ O ?_ ?_ ?_ ?_ ?_
  ·exact u
  ·simp only[↓GQ,reduceIte,Qj];rw[na];simp
  ·exact d
  ·grind [AI]
  ·grind [Aj]
def aUg:List D->Option D:=FX (λa:Ak=>[Hu a]) (λa=>HB a∧∀c∈Ch a.op,UN a (c.toNat:Int)) (λa=> .str (OS a))
def aLY{a:Ak}(h:HB a)(q:∀c∈Ch a.op,UN a (c.toNat:Int)):aUg [Hu a]=some (.str (OS a)):=
 BG (mk:=λa:Ak=>[Hu a]) (λx y e=>by
  simp only[Qk,and_true]at e;exact FG e) ⟨h,q⟩
def aV3:Kq aUg 306:=by
 obtain⟨S,v,hl⟩:=A4 (Aa pW (Aa aVA Ae));have e:=hl 108 _ rfl;have i:=hl 354 _ rfl;clear hl;refine B1 v (Al func306:Fn Qo 306 25 aPa [.t 2]) (λ_=>U) (λa u=>?_);obtain⟨x,b⟩:=u;have o:=Re x.op0 x.op;obtain⟨g,d,n⟩:=qS a.op;have f:Hq a= .int .u8 a.op::(Hq a).tail:=rfl;unfold OS aPa Hu;have y:∀m:GV,m.put [0] 0 (Hq a) [0] 0=some (.int .u8 a.op):=λm=>by
  rw[Aj,if_pos ⟨rfl,QL _,by rw[AZ];omega⟩];rfl
 simp only[↓GQ,Hb,simprocAttr,Ab e,o,y,AT,AZ,Aj,Ar,As,Qh,Qm,Qp,Qk,Qn];refine aJr (ls:=Ch a.op) (w0:=Ft a.op) x i d n b (ki:=_) ?_ g (λz w=>?_) (Ch a.op).length 0 _ _ O rfl ?_ rfl ?_ ?_
 ·decide
 ·simp only[↓GQ,GT,simprocAttr,w]
  all_goals exact Qe
 ·simp only[↓GQ,GX,reduceIte,Qj,Qz,List.flatMap_nil,Q6]
 ·simp only[AI (show([0]:Id)≠[12]by decide),AI (show([0]:Id)≠[5]by decide),AM (AZ a)]
 ·simp only[Hx,Hf,simprocAttr,Aj,QH,Q3,Hs,Qu,Qh,and_self,Qk,false_and,Qn]
def eW(a:Ak):Ak->Bs->Int×Ak
 |b,[]=>(0,b)
 |b,c::r=>if BE a (c.toNat:Int)≠0 then(BE a (c.toNat:Int),b)else eW a (EO b (c.toNat:Int)) r
def LR(a:Ak):Ak:={a with op:=0}
def Mf(a:Ak):Int:=if Ft a.op=[]then 22 else if(eW a (LR a) (Ch a.op)).1≠0 then(eW a (LR a) (Ch a.op)).1 else if Tv (eW a (LR a) (Ch a.op)).2=false then 2 else if 400<(OS a).length then 5 else 0
def HB.without{a:Ak}(h:HB a)(c:Int):HB (EO a c):=by
 unfold EO;obtain⟨y,u,q,d,x,k,i,p,w,f⟩:=h
 repeat' split
 all_goals exact⟨by first|exact y|simp,by first|exact u|simp,by first|exact q|simp,by first|exact d|simp,by first|exact x|simp,by first|exact k|simp,by first|exact i|simp,by first|exact p|simp,by first|exact w|simp,by first|exact f|simp⟩
def aBE{m:GV}{i:Id}(a:Ak):Ai ((m.put i 0 (Hq a)).put i 0 [.int .u8 0]) i 0 11=some (Hq (LR a)):=by
 grind [Vf,Hq,LR,AZ,Aj]
def aRp{S:GR}{a:Ak}(q:HB a)(i:S 172=some (Ac aHw))(j:S 304=some (Ac aL1)){ls:Bs}(k:∀c∈ls,c.toNat<128){r:Int×Ak}{Q:Ex->St->Prop}
  (oa:∀z,r.1≠0->z.s 2= .int .i64 r.1->Q .ret z)
  (fa:∀z,r.1=0->(∀c∈ls,BE a (c.toNat:Int)=0)->HB r.2->z.s 1= .ptr [0] 0->z.s 4= .ptr [11] 0->Ai z.m [0] 0 11=some (Hq a)->Ai z.m [11] 0 11=some (Hq r.2)->Q (.exit 0) z):
  ∀(f p:Nat)(b:Ak) z g,ls.length=p+f->eW a b (ls.drop p)=r->(∀c∈ls.take p,BE a (c.toNat:Int)=0)->HB b->z.s 1= .ptr [0] 0->z.s 4= .ptr [11] 0->z.s 18= .itp [17]->Ai z.m [0] 0 11=some (Hq a)->Ai z.m [11] 0 11=some (Hq b)->z.m [17] 1=some (.it ls p)->
   AK S [] VQ Q z g:=by
 have ma:([0]:Id)≠[17]:=Z
 have fb:([11]:Id)≠[17]:=Z
 have gb:([0]:Id)≠[11]:=Z
 have l:([17]:Id)≠[11]:=Z
 intro f;induction f with
 |zero=>
  intro p b z g hf hr hz hb u o w y sa ea;refine Af VQ.eq_1 ?_;have hp:¬(p<ls.length):=O
  simp only[↓GQ,GX,simprocAttr,w,hp,ea,Qu];rw[List.drop_of_length_le O]at hr;rw[QK O]at hz;simp only[eW]at hr;subst hr;exact fa _ rfl hz hb u o y sa
 |succ f ih=>
  intro p b z g hf hr hz hb u o w y sa ea;refine Af VQ.eq_1 ?_;have hp:p<ls.length:=O
  have ia:ls[p]?=some ls[p]:=Qq hp;have ta:ls[p]∈ls:=Q1 hp;have v:=Oz ia (k _ ta);have d:aHw [.agg (Hq a),.int .i32 (ls[p].toNat:Int)]=some (.int .i64 (BE a (ls[p].toNat:Int))):=HF q;have e:aL1 [.agg (Hq b),.int .i32 (ls[p].toNat:Int)]=some (.agg (Hq (EO b (ls[p].toNat:Int)))):=aL0;have na:ls.take (p+1)=ls.take p++[ls[p]]:=by rw[Zi,ia];rfl
  have pa:ls.drop p=ls[p]::ls.drop (p+1):=Q9 hp;have va:=hb.without (ls[p].toNat:Int);rw[pa]at hr;unfold eW at hr;generalize ls[p]=c at v d e na hr va;obtain⟨ja,ga,t⟩:=z;simp only at u o w y sa ea;by_cases n:BE a (c.toNat:Int)=0
  ·rw[if_neg (λh=>h n)]at hr;rw[n]at d;simp only[↓GQ,GT,simprocAttr,u,o,w,y,sa,v,AI ma,AI fb,Ab i,d,Ab j,e,BU,BV,AT,AZ,hp,ea,and_self,Qu,Qh,Qp];refine ih (p+1) _ _ _ O hr (λx hx=>?_) va ?_ ?_ ?_ ?_ ?_ ?_
   ·grind
   ·exact u
   ·exact o
   ·exact w
   ·grind [AI]
   ·grind [AM,AZ]
   ·grind [aB,Aj]
  ·rw[if_pos n]at hr;simp only[↓GQ,GT,simprocAttr,u,w,y,v,AI ma,Ab i,d,n,BU,BV,hp,ea,Qu,Qh];exact oa _ (by rw[←hr];exact n) (by rw[←hr];rfl)
def L7{b:Bool}(h:Dj b=0):b=true:=by cases b with
 |true=>rfl
 |false=>cases h
def aCA{a:Ak}{c:Int}(h:BE a c=0):UN a c:=by
 refine⟨?_,?_,?_⟩
 ·rintro rfl;have e:BE a 110=Dj (decide (0<=a.n∧a.n<=999)):=by simp[BE]
  rw[e]at h;have:=of_decide_eq_true (L7 h);omega
 ·rintro rfl;have e:BE a 99=Dj (decide (-1<=a.cas∧a.cas<=999)):=by simp[BE]
  rw[e]at h;have:=of_decide_eq_true (L7 h);omega
 ·rintro rfl;have e:BE a 108=Dj (countB a.ns):=by simp[BE]
  rw[e]at h;have q:=L7 h;unfold countB at q;rw[Q2]at q;intro x f;have d:(a.ns.any λx=>!decide (1<=x∧x<=999))=false:=by simpa using q.2
  rw[List.any_eq_false]at d;have o:=d x f;have k:1<=x∧x<=999:=XE
  omega
def F68:List D->Option D:=FX (λa:Ak=>[Hu a]) (λa=>HB a) (λa=> .int .i64 (Mf a))
def aT5{a:Ak}(h:HB a):F68 [Hu a]=some (.int .i64 (Mf a)):=
 BG (mk:=λa:Ak=>[Hu a]) (λx y e=>by
  simp only[Qk,and_true]at e;exact FG e) h
def aZU:Kq F68 241:=by
 obtain⟨S,hS,hl⟩:=A4 (Aa pW (Aa aMI (Aa aV5 (Aa aV4 (Aa aV3 Ae)))));have e:=hl 108 _ rfl;have i:=hl 172 _ rfl;have j:=hl 304 _ rfl;have g:=hl 305 _ rfl;have k:=hl 306 _ rfl;clear hl;refine B1 hS (Al func241:Fn Qo 241 39 aX6 [.t 2]) (λ_=>U) (λa x=>?_);have o:=Re x.op0 x.op;obtain⟨f1,f2,f3⟩:=qS a.op;have ea:∀m:GV,m.put [0] 0 (Hq a) [0] 0=some (.int .u8 a.op):=λm=>by
  rw[Aj,if_pos ⟨rfl,QL _,by rw[AZ];omega⟩];rfl
 have ma:([0]:Id)≠[17]:=Z
 have fb:([11]:Id)≠[17]:=Z
 have gb:([0]:Id)≠[11]:=Z
 have l:([0]:Id)≠[5]:=Z
 have qa:∀m:GV,m.put [11] 0 (Hq a) [11] 0=some (.int .u8 a.op):=λm=>by
  rw[Aj,if_pos ⟨rfl,QL _,by rw[AZ];omega⟩];rfl
 have la:HB (LR a):=⟨by simp[LR],by simp[LR],x.tk,x.pa,x.ot,x.ns,x.da,x.rl,x.rs,x.key⟩;have b:(∀c∈Ch a.op,BE a (c.toNat:Int)=0)->aUg [.agg (Hq a)]=some (.str (OS a)):=λh=>aLY x λc p=>aCA (h c p)
 unfold Mf aX6 Hu;by_cases hw:Ft a.op=[]
 ·have n:(Ft a.op==([]:Bs))=true:=by rw[hw];rfl
  simp only[↓GQ,Hb,simprocAttr,AT,AZ,Ab e,o,ea,AM,Aj,Qp,Qk,Qn,hw]
  all_goals exact Qe
 ·have n:(Ft a.op==([]:Bs))=false:=by simpa using hw
  simp only[↓GQ,Hb,simprocAttr,AT,AZ,Ab e,o,ea,qa,MC,AM,Aj,Qh,Qp,Qk,and_false,Qn,hw,AI l,AM (AZ a)];generalize hr:eW a (LR a) (Ch a.op)=r;refine aRp (r:=r) x i j f3 (λz u q=>?_) (λz u hz hb s w y sa=>?_) (Ch a.op).length 0 (LR a) _ _ O hr U la rfl rfl rfl ?_ ?_ ?_
  ·simp only[↓GQ,GT,reduceIte,u,q,ne_eq];rw[if_neg hw]
  ·have f:=b hz;have d:aUh [.agg (Hq r.2),.agg [.int .u8 0,.str [],.str [],.str [],.int .i64 0,.int .i64 0,.bool false,.slice true [] [],.str [],.slice true [] [],.str []]]=some (.bool (Tv r.2)):=aLZ hb;cases hzb:Tv r.2 with
   |false=>
    rw[hzb]at d;simp only[↓GQ,GT,simprocAttr,BU,BV,ne_eq,QN,QP,Zc,QT,Zj,u,w,sa,Ab g,d,Bw,D.un1,D.calm1,Zl];rw[if_neg hw]
   |true=>
    rw[hzb]at d;by_cases hl:400<(OS a).length
    ·have v:((400:Int)<((OS a).length:Int)):=by omega
     simp only[↓GQ,GT,simprocAttr,BU,BV,ne_eq,QN,QP,Zc,QT,Zj,u,s,w,y,sa,Ab g,d,Ab k,f,Bw,hl,v,D.un1,D.calm1,Zl];rw[if_neg hw]
    ·have v:¬((400:Int)<((OS a).length:Int)):=by omega
     simp only[↓GQ,GT,simprocAttr,BU,BV,ne_eq,QN,QP,Zc,QT,Zj,u,s,w,y,sa,Ab g,d,Ab k,f,Bw,hl,v,D.un1,D.calm1,Zl];rw[if_neg hw]
  ·grind [AI,AM,AZ]
  ·simp only[AI fb];exact aBE a
  ·grind [Aj]
def ryN:Ry->Prop
 | .names nl l=>nl=true->l=[]
 |_=>True
def jC:∀{l:List Rw} {a:Int},Iu l a=true->∀x∈l,a<x.1∧x.1<=(l.getLast?.map (·.1)).getD 0
 |[],a,_,x,hx=>by cases hx
 |y::r,a,h,x,hx=>by
  simp only[Iu,Q2,decide_eq_true_eq]at h;cases r with
  |nil=>
   rw[Zh.1 hx];exact⟨h.1,U⟩
  |cons z q=>
   have ih:=jC h.2;have j:=ih z (Zt ..);rw[List.getLast?_cons_cons];rcases QZ.1 hx with rfl|hx
   ·exact⟨h.1,O⟩
   ·grind
def aB2(l:List Rw):RL l=(l.getLast?.map (·.1)).getD 0:=by
 grind [RL]
def Uz{s:Sc}{q:Int}(h:EJ s q=false)(z:q<=6):s.rs.length<=6∧∀x∈s.rs,1<=x.1∧x.1<=30:=by
 obtain⟨g,b2,w,n,y,t⟩:=SK h;have j:Cr s q<=6:=by unfold Cr;split<;>omega
 refine⟨O,λx f=>?_⟩;have:=jC y x f;rw[←aB2,t]at this;omega
theorem sum_64:∀l:List Bs,(l.any λs=>!nmB s)=false->C3 l<=64*l.length
 |[],_=>by simp[C3]
 |x::r,h=>by
  simp only[ZI,Bool.or_eq_false_iff,Bool.not_eq_false']at h;have ih:=sum_64 r h.2;have f:x.length<=64:=by
   grind [nmB]
  simp only[C3,Qv];omega
def oZ{y:Ry}(h:NN y=0)(v:ryN y):ryG y:=by
 cases y with
 |fail e=>simp only[NN]at h;split at h;(rename_i c;exact⟨O,O⟩);omega
 |done=>trivial
 |number n=>simp only[NN]at h;split at h;(rename_i c;exact⟨O,O⟩);omega
 |found n d=>simp only[NN]at h;split at h;(rename_i c;exact⟨O,O,O⟩);omega
 |about s=>
  simp only[NN]at h;cases hb:EJ s 6 with
  |true=>rw[hb]at h;simp at h
  |false=>
   obtain⟨g,b2,w,_⟩:=SK hb;obtain⟨r,a⟩:=Uz hb O;exact⟨O,O,O,λx f=>by have:=a x f;omega⟩
 |names nl l=>
  simp only[NN]at h;split at h
  ·rename_i c;have:=sum_64 l c.2;exact⟨O,v,O⟩
  ·omega
 |state b=>trivial
theorem TY(l:List Bs):(TZ l).length<=1+C3 l+l.length:=by
 grind [TZ,join_len]
def aIq{y:Ry}(h:NN y=0)(c:ryN y):(OF y).length<=6∧C3 (OF y)<=100000:=by
 cases y with
 |fail e=>have:=EV e.toNat;simp only[OF,C3,Qv,QE];omega
 |done=>simp[OF,C3]
 |number n=>have:=EV n.toNat;simp only[OF,C3,Qv,QE];omega
 |found n d=>
  have:=EV n.toNat;simp only[NN]at h;split at h
  ·grind [hexB_len,OF,C3]
  ·omega
 |about s=>
  have k:=EV s.mx.toNat;have q2:=EV s.la.toNat;obtain⟨r,_⟩:=oZ h c;have:=TY (s.rs.map Eu);have:=Rt s.rs;rw[QJ]at *;simp only[OF,C3,Qv,QE];omega
 |names nl l=>
  simp only[NN]at h;split at h
  ·grind [sum_64,TY,OF,C3]
  ·omega
 |state b=>cases b<;>simp[OF,C3]
def aFK:=Az [(173,Ac R92),(174,Ac aTW),(123,Ac dL)]
def aLg:=RF aFK aPu [.t 2,.t 3] 13
def aM2:Kq aLg 110:=Av (Al func110) (Aa bAg (Aa aXr (Aa aMX Ae)))
def sT(y:Ry)(h:aIr y)(v:ryN y):aLg [.agg (HJ y)]=some (.tup [.str (NM y),.int .i64 (NN y)]):=by
 refine Aq (Qi rfl) ?_;unfold aPu;have n:=aTu y h;have e0:∃a b c d e f g i j k,HJ y=[a,b,c,d,e,f,g,i,j,k]:=Qc
 have d0:∀x∈HJ y,x.un1=x∧x.calm1=true:=by
  cases y<;>(intro x p;simp only[HJ,QZ,Q8,or_false]at p;rcases p with rfl|rfl|rfl|rfl|rfl|rfl|rfl|rfl|rfl|rfl<;>exact⟨rfl,rfl⟩)
 unfold NM;by_cases c:NN y=0
 ·have o:=aK4 y (oZ c v);obtain⟨w,w2⟩:=aIq c v;have m:=dJ (l:=OF y) (s:=[32]) ⟨aBg y,O,O,U,by have:=join_len (OF y) [32];simp only[Qv,QE]at this;omega⟩;obtain⟨a,b,cc,d,e,f,g,i,j,k,r⟩:=e0;have u:=λx p=>d0 x p
  rw[r]at n o d0 ⊢;rw[c]at n ⊢;simp only[QZ,Q8,or_false,forall_eq_or_imp,forall_eq]at d0;obtain⟨⟨a1,z⟩,⟨b1,b2⟩,⟨c1,c2⟩,⟨d1,d2⟩,⟨e1,t⟩,⟨f1,f2⟩,⟨g1,g2⟩,⟨i1,i2⟩,⟨j1,j2⟩,k1,k2⟩:=d0;have q:((AL (OF y)).all D.calm)=true:=by simp[AL,Q_];intros;rfl
  simp only[GU,↓GQ,GS,simprocAttr,Ad aFK 173,n,a1,z,b1,b2,c1,c2,d1,d2,e1,t,f1,f2,g1,g2,i1,i2,j1,j2,k1,k2,Ad aFK 174,o,Ad aFK 123,m,spJ]
  all_goals exact Qd
 ·have c':=eq_false c;obtain⟨a,b,cc,d,e,f,g,i,j,k,r⟩:=e0;rw[r]at n d0 ⊢;simp only[QZ,Q8,or_false,forall_eq_or_imp,forall_eq]at d0;obtain⟨⟨a1,z⟩,⟨b1,b2⟩,⟨c1,c2⟩,⟨d1,d2⟩,⟨e1,t⟩,⟨f1,f2⟩,⟨g1,g2⟩,⟨i1,i2⟩,⟨j1,j2⟩,k1,k2⟩:=d0;simp only[GU,↓GQ,GS,simprocAttr,Ad aFK 173,n,a1,z,b1,b2,c1,c2,d1,d2,e1,t,f1,f2,g1,g2,i1,i2,j1,j2,k1,k2,c']
  all_goals exact Qd
def aY9:=Az [(110,Ac aLg)]
def aLh:=RF aY9 aPv [.t 2] 17
def aM3:Kq aLh 52:=Av (Al func52) (Aa aM2 Ae)
def Wo(e:Int)(h:1<=e∧e<=99):aLh [.int .i64 e]=some (.str (NM (.fail e))):=by
 refine Aq (Qi rfl) ?_;unfold aPv;have n:=sT (.fail e) trivial trivial;have q:NN (.fail e)=0:=if_pos h;rw[q]at n;have c':(e=0)=False:=eq_false O;unfold HJ at n;simp only[GU,↓GQ,GS,simprocAttr,Ad aY9 110,n,c']
 all_goals exact Qd
def aSQ{b:Bool}:decide (b=true)=b:=by cases b<;>rfl
def aO9:=y0 f307 [] []
def aO8:=y0 f308 [] []
def aX5:=y0 Tryz.f242 [(4,[(6,0),(6,2)])] []
def aX4:=y0 f243 [] []
def aYq:=y0 f175 [] []
def aYr:=y0 f50 [] []
structure Vw where
 se:Bool
 te:Int
 key:Bs
 nlm:Bool
 ms:List Mt
 nlt:Bool
 ks:List Tk
def HG(v:Vw):List D:=[.bool v.se,.int .i64 v.te,.str v.key,.slice v.nlm [] (Ax v.ms),.slice v.nlt [] (Au v.ks)]
def HN(v:Vw):D:= .agg (HG v)
theorem Mp{a b:Vw}(h:HN a=HN b):a=b:=by
 cases a;cases b;simp only[HN,HG,D.agg.injEq,Qk,D.int.injEq,D.str.injEq,D.bool.injEq,D.slice.injEq,true_and,and_true]at h;obtain⟨u,q,d,⟨x,k⟩,i,p⟩:=h;have v:=IE k;have n:=Mu p;subst u q d x i v n;rfl
def Ih(v:Vw):(HG v).map D.un1=HG v:=rfl
def Ii(v:Vw):(HG v).all D.calm1=true:=rfl
def BB(v:Vw):D.cells (.agg (HG v))=HG v:=rfl
theorem CN(v:Vw):(HG v).length=5:=rfl
structure SR (v:Vw):Prop where
 ml:v.ms.length<=1000
 mp:∀m∈v.ms,m.1.length<=1000
 kl:v.ks.length<=1000
 kp:∀k∈v.ks,aA1 k∧Dg k.2.2.2
theorem Rs{l:List Tk}{j:Nat}(h:j<l.length):AP l j∈l:=by simp[AP,Qq h]
def SR.set{v:Vw}(h:SR v):Et (Au v.ks):=Ee (by have:=h.kl;omega)
def FS(i:List Tk)(n p:Bs)(c:Int):Bool:=AN i n&&MQ (Cy (AP i (HT i n)).2.2.2 p).toNat c.toNat
open Classical in
def nK{nl:Bool}{l:List Tk}{s:Bs}(hl:l.length<=1000000)(j:∀k∈l,aA1 k):F35 [.agg [.slice nl [] (Au l)],.str s]=some (.tup (if AN l s=true then [HD (AP l (HT l s)),.bool true]else [.agg [.str [],.str [],.slice true [] []],.bool false])):=by
 have h:Et (Au l)∧∀k∈Cj (Au l),aA1 k:=⟨Ee hl,by rw[Bg];exact j⟩;show(if _ then _ else _)=_;rw[if_pos h,Bg]
open Classical in
def aUb{nl:Bool}{l:List Tk}{s p:Bs}(hl:l.length<=1000000)(j:∀k∈l,k.2.2.2.length<=1000000):F36 [.agg [.slice nl [] (Au l)],.str s,.str p]=some (.int .u8 (if AN l s=true then Cy (AP l (HT l s)).2.2.2 p else 0)):=by
 have h:Et (Au l)∧∀k∈Cj (Au l),k.2.2.2.length<=1000000:=⟨Ee hl,by rw[Bg];exact j⟩;show(if _ then _ else _)=_;rw[if_pos h,Bg]
def aJ8{l:List Rl}(h:Fd l)(s:Bs):0<=Cy l s∧Cy l s<256:=by
 unfold Cy;split
 ·omega
 ·generalize (E_ s (l.map (·.1))).toNat=j;by_cases w:j<l.length
  ·have:Bx l j=l[j]:=by simp[Bx,Qq w]
   rw[this];exact h _ (Q1 w)
  ·grind [Bx]
def kA(p:Vw×Bs×Bs×Int):List D:=[HN p.1,.str p.2.1,.str p.2.2.1,.int .u8 p.2.2.2]
def aCe(x y:Vw×Bs×Bs×Int)(e:kA x=kA y):x=y:=by
 grind [kA,Mp]
def aLX:List D->Option D:=FX kA (λp=>SR p.1∧0<=p.2.2.2∧p.2.2.2<256) (λp=> .bool (FS p.1.ks p.2.1 p.2.2.1 p.2.2.2))
def uF{v:Vw}{n p:Bs}{c:Int}(h:SR v)(u:0<=c∧c<256):aLX [HN v,.str n,.str p,.int .u8 c]=some (.bool (FS v.ks n p c)):=BG (mk:=kA) (a:=(v,n,p,c)) aCe ⟨h,u⟩
def aV2:Kq aLX 308:=by
 obtain⟨S,hS,hl⟩:=A4 (Aa aRa (Aa aZ0 Ae));have d:=hl 22 _ rfl;have b:=hl 355 _ rfl;clear hl;refine B1 hS (Al func308:Fn Qo 308 29 aO8 [.t 8]) (λ_=>by simp[kA]) (λp z=>?_);obtain⟨v,n,q,c⟩:=p;obtain⟨i,g⟩:=z;simp only at i g;have ia:=i.kl;have x:=nK (nl:=v.nlt) (l:=v.ks) (s:=n) O (λk j=>(i.kp k j).1);have y:=aUb (nl:=v.nlt) (l:=v.ks) (s:=n) (p:=q) O (λk j=>(i.kp k j).2.1);unfold aO8 kA HN HG FS;simp only;cases hf:AN v.ks n with
 |false=>
  rw[hf]at x;simp only[QA,if_false]at x;simp only[↓GQ,Hb,simprocAttr,Ab d,x,QF,Aj,Ar,As,Qh,Qm,Qp,Qk,Qn]
  all_goals exact Qe
 |true=>
  rw[hf]at x y;simp only[if_true]at x y;have f:HT v.ks n<v.ks.length:=by
   grind [AN]
  have o:=(i.kp _ (Rs f)).2.2.2;generalize AP v.ks (HT v.ks n)=k at x y o;have u:=aJ8 o q;generalize Cy k.2.2.2 q=r at y u;have w:=SM (a:=r.toNat) (c:=c.toNat) O O;rw[QC g.1,QC u.1]at w;have e:(((Nat.land c.toNat (255-r.toNat):Nat):Int)=0)=(MQ r.toNat c.toNat=true):=by
   simp_all [MQ]
  simp only[HD]at x;simp only[↓GQ,Hb,simprocAttr,Ab d,x,Ab b,y,WN,w,e,aSQ,Aj,Ar,As,Qh,Qm,Qp,Qk,and_false,Qn]
  all_goals exact Qe
def aIi:Bs:=[115,121,115]
def atA(a:Ak):Bs:=if a.op<=8 then aIi else a.pa
def TS(v:Vw)(a:Ak):Bool:=FS v.ks a.tk (atA a) (I_ a.op)&&(decide (a.op≠18)||FS v.ks a.tk a.ot 2)
def L2(p:Vw×Ak):List D:=[HN p.1,Hu p.2]
def RO(x y:Vw×Ak)(e:L2 x=L2 y):x=y:=by
 grind [L2,Mp,FG]
def aFb(op:Int):0<=I_ op∧I_ op<256:=by
 grind [I_]
def aHv:List D->Option D
 |[.int .u8 op]=>some (.bool (decide (op<=8)))
 |_=>none
def aMH:Kq aHv 307:=by
 refine AB (S:=λ_=>none) AO (Al func307:Fn Qo 307 5 aO9 [.t 2]) (λds r h=>?_) (λds r h=>?_)
 ·unfold aHv at h;split at h
  ·simp
  ·cases h
 ·unfold aHv at h;split at h
  ·simp only[Qt]at h;subst h;unfold aO9;simp only[↓GQ,GT,simprocAttr]
   all_goals exact Qe
  ·cases h
def F69:List D->Option D:=FX L2 (λp=>SR p.1) (λp=> .bool (TS p.1 p.2))
def aT4{v:Vw}{a:Ak}(h:SR v):F69 [HN v,Hu a]=some (.bool (TS v a)):=BG (mk:=L2) (a:=(v,a)) RO h
def aZT:Kq F69 242:=by
 obtain⟨S,n,hl⟩:=A4 (Aa aMH (Aa aZ1 (Aa aV2 Ae)));have g:=hl 307 _ rfl;have i:=hl 309 _ rfl;have h:=hl 308 _ rfl;clear hl;refine B1 n (Al func242:Fn Qo 242 32 aX5 [.t 4]) (λ_=>by simp[L2]) (λp y=>?_);obtain⟨v,a⟩:=p;simp only at y;have c:aHv [.int .u8 a.op]=some (.bool (decide (a.op<=8))):=rfl;have x:F27 [.int .u8 a.op]=some (.int .u8 (I_ a.op)):=rfl;have j:∀q,aLX [.agg (HG v),.str a.tk,.str q,.int .u8 (I_ a.op)]=some (.bool (FS v.ks a.tk q (I_ a.op))):=λq=>uF y (aFb _)
 have e:aLX [.agg (HG v),.str a.tk,.str a.ot,.int .u8 2]=some (.bool (FS v.ks a.tk a.ot 2)):=uF y O;have l:∀m:GV,Ai (m.put [1] 0 (Hq a)) [0] 0 5=Ai m [0] 0 5:=λm=>AI Z
 have o:Ai (GV.put (λ_ _=>none) [0] 0 (HG v)) [0] 0 5=some (HG v):=AM (CN v);have r:∀m:GV,∀k d,(Hq a)[k]?=some d->(m.put [1] 0 (Hq a)) [1] k=some d:=λm k d z=>by
  have s:=(QX.1 z).1;rw[Aj,if_pos ⟨rfl,QH _,O⟩];exact z
 have m0:=λm=>r m 0 _ rfl
 have m1:=λm=>r m 1 _ rfl
 have m2:=λm=>r m 2 _ rfl
 have m3:=λm=>r m 3 _ rfl
 unfold aX5 L2 HN Hu TS atA;simp only;by_cases h8:a.op<=8
 ·have w:¬a.op=18:=by omega
  rw[decide_eq_true h8]at c;have u:=j aIi;simp only[h8,if_true];generalize FS v.ks a.tk aIi (I_ a.op)=b at u;unfold aIi at u;cases b<;>simp only[↓GQ,GT,simprocAttr,m0,m1,m2,l,o,Ih,Ii,BB,AT,QR,ne_eq,w,Ab g,c,Ab i,x,Ab h,u]<;>refine AJ ?_<;>simp only[↓GQ,GT,reduceIte,Qj,ZP,w]
  all_goals exact Qe
 ·rw[decide_eq_false h8]at c;have u:=j a.pa;simp only[h8,if_false];generalize FS v.ks a.tk a.pa (I_ a.op)=b at u;generalize FS v.ks a.tk a.ot 2=b2 at e;by_cases w:a.op=18
  ·have f:(a.op=18)=True:=eq_true w;clear w;cases b<;>cases b2<;>simp only[↓GQ,GT,simprocAttr,m0,m1,m2,m3,l,o,Ih,Ii,BB,AT,QR,ne_eq,Ab g,c,Ab i,x,Ab h,u,e,f]<;>refine AJ ?_<;>simp only[↓GQ,GT,reduceIte,Qj,ZJ,QO,f]
   all_goals exact Qe
  ·cases b<;>simp only[↓GQ,GT,simprocAttr,m0,m1,m2,l,o,Ih,Ii,BB,AT,QR,ne_eq,w,Ab g,c,Ab i,x,Ab h,u]<;>refine AJ ?_<;>simp only[↓GQ,GT,reduceIte,Qj,ZP,w]
   all_goals exact Qe
abbrev Op1:=Int×Bs×Bs
def opD(x:Op1):D:= .agg [.int .u8 x.1,.str x.2.1,.str x.2.2]
def opsD(l:List Op1):List D:=l.map opD
def aIM{x y:Op1}(h:opD x=opD y):x=y:=by
 grind [opD]
def aBO{a b:List Op1}(h:opsD a=opsD b):a=b:=(List.map_inj_right (λ_ _ e=>aIM e)).1 h
def B5(l:List Op1):(opsD l).length=l.length:=QJ ..
structure Oc where
 need:Bs
 li:Bool
 rep:Bs
 nl:Bool
 ops:List Op1
 vw:Vw
structure Wb where
 v:Vw
 a:Ak
 k:Kn
def ocC(o:Oc)(t:Id):List D:=[.str o.need,.bool o.li,.str o.rep,.slice o.nl t (opsD o.ops)]++HG o.vw
def HL(w:Wb)(o:Oc)(t:Id):List D:=HG w.v++(Hq w.a++(Ie w.k++ocC o t))
theorem Dn(w:Wb)(o:Oc)(t:Id):(HL w o t).length=30:=rfl
def IF{α:Type}{f:α->Bs}{a b:List α}(h:a.map (λx=>D.str (f x))=b.map λx=>D.str (f x)):a.map f=b.map f:=by
 have:=congrArg (Zv λd=>match d with|D.str s=>s|_=>[]) h;simpa[Q5,Function.comp_def]using this
def Vy{α:Type}{f:α->Bool}{a b:List α}(h:a.map (λx=>D.bool (f x))=b.map λx=>D.bool (f x)):a.map f=b.map f:=by
 have:=congrArg (Zv λd=>match d with|D.bool s=>s|_=>false) h;simpa[Q5,Function.comp_def]using this
def aI1{a b:List (Bs×Bool×List Bs)}(h:a.map lsD=b.map lsD):a.map (·.2)=b.map (·.2):=by
 have:=congrArg (Zv λd=>match d with|D.slice nl _ xs=>(nl,xs.map λd=>match d with|D.str s=>s|_=>[])|_=>(false,[])) h;simpa[Q5,Function.comp_def,lsD,AL]using this
def aQh{α β γ:Type}:∀{a b:List (α×β×γ)},a.map (·.1)=b.map (·.1)->a.map (·.2.1)=b.map (·.2.1)->a.map (·.2.2)=b.map (·.2.2)->a=b
 |[],[],_,_,_=>rfl
 |[],_::_,h,_,_=>Xf
 |_::_,[],h,_,_=>Xf
 |x::a,y::b,h1,h2,h3=>by
  simp only[QN,Qk]at h1 h2 h3;rw[aQh h1.2 h2.2 h3.2,Q7 h1.1 (Q7 h2.1 h3.1)]
def qG{a b:Kn}(h:Ie a=Ie b):a=b:=by
 cases a;cases b;simp only[Ie,Qk,D.slice.injEq,true_and,and_true]at h;obtain⟨⟨_,u⟩,⟨_,q⟩,⟨_,d⟩,⟨_,x⟩,_,k⟩:=h;have p:=aQh (IF u) (IF q) (Vy d);have g:=aI1 k;have m:=aQh (IF x) (by have:=congrArg (Zv Prod.fst) g;simpa[Q5,Function.comp_def]using this) (by have:=congrArg (Zv Prod.snd) g;simpa[Q5,Function.comp_def]using this);rw[p,m]
def Mo{w w':Wb}{o o':Oc}{t n:Id}(h:HL w o t=HL w' o' n):w=w'∧o=o'∧t=n:=by
 unfold HL at h;obtain⟨u,h⟩:=Zd h rfl;obtain⟨q,h⟩:=Zd h rfl;obtain⟨d,h⟩:=Zd h rfl;have p:=Mp (congrArg D.agg u);have m:=FG (congrArg D.agg q);have c:=qG d;unfold ocC at h;obtain⟨x,k⟩:=Zd h rfl;have v:=Mp (congrArg D.agg k);simp only[Qk,D.str.injEq,D.bool.injEq,D.slice.injEq,and_true]at x;obtain⟨r,i,f,g4,g5,y⟩:=x;have a:=aBO y;cases w;cases w';cases o;cases o';simp only at p m c v r i f g4 a;subst p m c v r i f g4 a g5;exact⟨rfl,rfl,rfl⟩
abbrev WY:=D×Oc×Option (List Nat)
def WO(i:Id)(w:Wb)(o:Oc)(t fr:Id)(y:WY):Ha:=match y.2.2 with
 |none=>[(i,0,HL w y.2.1 t)]
 |some l=>(i,0,HL w y.2.1 (l++fr))::Be 88 (l++fr) (.slice o.nl t (opsD o.ops))
def rR(m:GV)(i:Id)(x:Wb×Oc×Id):Prop:=Ai m i 0 30=some (HL x.1 x.2.1 x.2.2)∧Cg m 88 x.2.1.nl x.2.2 x.2.1.ops.isEmpty=true∧(x.2.1.nl=true->x.2.2=[])
open Classical in
def bW(p:Wb×Oc×Id->Prop):Option (Wb×Oc×Id):=if h:∃x,p x then some (Classical.choose h)else none
def aBL{p:Wb×Oc×Id->Prop}{x:Wb×Oc×Id}(h:p x)(a:∀y,p y->y=x):bW p=some x:=by
 have f:∃x,p x:=⟨x,h⟩;unfold bW;rw[dif_pos f,a _ (Classical.choose_spec f)]
def vZ{p:Wb×Oc×Id->Prop}{x:Wb×Oc×Id}(h:bW p=some x):p x:=by
 unfold bW at h;split at h
 ·grind
 ·cases h
def wQ(F:Wb->Oc->List D->Option WY):HA where
 rd:=λds m=>match ds with
  | .ptr i 0::_=>Ag i 0 30++(match m i 24 with|some (.slice _ t _)=>[(t,0)]|_=>[])
  |_=>[]
 ex:=λds m fr=>match ds with
  | .ptr i 0::rest=>(bW (rR m i)).bind λx=>(F x.1 x.2.1 rest).map λy=>(y.1,WO i x.1 x.2.1 x.2.2 fr y)
  |_=>none
def aS6{m:GV}{i:Id}{w:Wb}{o:Oc}{t:Id}(h:Ai m i 0 30=some (HL w o t)):m i 24=some (.slice o.nl t (opsD o.ops)):=A_ h rfl
def aQv{F:Wb->Oc->List D->Option WY}(ds:List D)(m m':GV)(fr:Id)(h:∀l∈(wQ F).rd ds m,m l.1 l.2=m' l.1 l.2):(wQ F).ex ds m fr=(wQ F).ex ds m' fr:=by
 simp only[wQ]at h ⊢;split
 ·rename_i i v;have j:Ai m i 0 30=Ai m' i 0 30:=B_ (λl hl=>h l (List.mem_append_left _ hl));have z:rR m i=rR m' i:=by
   funext x;obtain⟨w,o,t⟩:=x;apply propext;unfold rR;rw[j];have key:Ai m' i 0 30=some (HL w o t)->Cg m 88 o.nl t o.ops.isEmpty=Cg m' 88 o.nl t o.ops.isEmpty:=λg=>by
    refine Fq (h (t,0) (List.mem_append_right _ ?_));have:=aS6 (j.trans g);rw[this];simp
   constructor
   ·rintro⟨a,b,c⟩;exact⟨a,by rw[←key a];exact b,c⟩
   ·rintro⟨a,b,c⟩;exact⟨a,by rw[key a];exact b,c⟩
  rw[z]
 ·rfl
def aFr{m:GV}{i:Id}{x y:Wb×Oc×Id}(f:rR m i x)(d:rR m i y):y=x:=by
 have:=d.1.symm.trans f.1;simp only[Qt]at this;obtain⟨a,b,c⟩:=Mo this;exact Q7 a (Q7 b c)
structure Wt (i fr:Id) (m0:GV) (nl0:Bool) (t0:Id) (m:GV) (w:Wb) (o:Oc) (t:Id):Prop where
 at_:rR m i (w,o,t)
 loc:∀q,t≠q::fr
 sub0:nl0=false->¬fr<:+t0
 ch:(t=t0∧o.nl=nl0∧∀j x d,(j≠i∨30<=x)->m0 j x=some d->m j x=some d)∨
  ((∃l k,t=l++k::fr)∧o.nl=false∧(nl0=false->m t0 0=some (.tok 0))∧∀j x d,(j≠i∨30<=x)->(nl0=true∨j≠t0∨x≠0)->m0 j x=some d->m j x=some d)
def WE(i fr:Id)(m0:GV)(nl0:Bool)(t0:Id)(w:Wb)(y:WY)(d:D)(m':GV):Prop:=d=y.1∧match y.2.2 with
 |none=>Ai m' i 0 30=some (HL w y.2.1 t0)∧∀j x d,(j≠i∨30<=x)->m0 j x=some d->m' j x=some d
 |some l=>Ai m' i 0 30=some (HL w y.2.1 (l++fr))∧m' (l++fr) 0=some (.tok 89)∧(nl0=false->m' t0 0=some (.tok 0))∧∀j x d,(j≠i∨30<=x)->(nl0=true∨j≠t0∨x≠0)->m0 j x=some d->m' j x=some d
section
variable{i fr t0 t:Id}{m0 m m':GV}{nl0:Bool}{w:Wb}{o o':Oc}
def UQ(h:Ai m i 0 30=some (HL w o t)):m i 0=some (.bool w.v.se):=A_ h rfl
def iL(h:rR m i (w,o,t))(c:o.nl=false):i≠t:=by
 rintro rfl;have u:=UQ h.1;have q:=EN h.2.1 c;rw[u]at q;cases q
def nR(h:Ai m i 0 30=some (HL w o t))(q:m t0 0=some (.tok 0)):t0≠i:=by
 rintro rfl;rw[UQ h]at q;cases q
def Wt.put(h:Wt i fr m0 nl0 t0 m w o t)(na:∀j x,fr<:+j->m0 j x=none:=by assumption)(s:∀k,(i=k::fr)=False:=by assumption){q p:Nat}{ys:List D}:Wt i fr m0 nl0 t0 (m.put (q::fr) p ys) w o t:=by
 obtain⟨⟨a1,z,n⟩,hl,y,g⟩:=h;have hi:i≠q::fr:=λe=>(s q).mp e
 have a:∀j x d,m0 j x=some d->j≠q::fr:=λj x d r e=>by
  rw[e,na (q::fr) _ ⟨[q],rfl⟩]at r;cases r
 refine⟨⟨by rw[Po hi];exact a1,?_,n⟩,hl,y,?_⟩
 ·grind [Fq,aB]
 ·grind [aB]
def Wt.cell(h:Wt i fr m0 nl0 t0 m w o t)(z:Ai m' i 0 30=some (HL w o' t))(u:o'.nl=o.nl)(q:o'.ops=o.ops)(ia:∀j x,(j≠i∨30<=x)->m' j x=m j x):Wt i fr m0 nl0 t0 m' w o' t:=by
 obtain⟨a,hl,hs,g⟩:=h;refine⟨⟨z,?_,by show o'.nl=true->t=[];rw[u];exact a.2.2⟩,hl,hs,?_⟩
 ·show Cg m' 88 o'.nl t o'.ops.isEmpty=true;rw[u,q];have s:=a.2.1;cases hn:o.nl with
  |true=>simp only[hn,Cg,if_true]at s ⊢;exact s
  |false=>
   have v:=iL a hn;simp only[hn]at s;rw[←s];exact Fq (ia t 0 (.inl (λe=>v e.symm)))
 ·rcases g with ⟨c1,c0,c2⟩|⟨c1,c2,n,k⟩
  ·simp_all
  ·exact .inr ⟨c1,by rw[u];exact c2,λy=>by rw[ia t0 0 (.inl (nR a.1 (n y)))];exact n y,λj x d hj f r=>by rw[ia j x hj];exact k j x d hj f r⟩
theorem pK{cs:List D}(hl:cs.length=30):∀j x,(j≠i∨30<=x)->(m.put i 0 cs) j x=m j x:=λj x h=>by
 rcases h with h|h
 ·rw[aB h]
 ·grind [aE,aB]
def Gq{nl:Bool}{xs:List D}{e:Nat}{f:Id}{j:Id}{x:Nat}:Ha.app m (Be e f (.slice nl t xs)) j x=if j=f∧x=0 then some (.tok (e+1))else if nl=false∧j=t∧x=0 then some (.tok 0)else m j x:=CZ
def OO(t fr:Id):Option (List Nat)->Id
 |none=>t
 |some l=>l++fr
def Wt.call(h:Wt i fr m0 nl0 t0 m w o t)(na:∀j x,fr<:+j->m0 j x=none)(p:∀k l,(i=l++k::fr)=False){k:Nat}{d:D}{ol:Option (List Nat)}
  (ja:ol=none->o'.nl=o.nl∧o'.ops=o.ops) (ta:∀l,ol=some l->o'.nl=false∧l≠[]):
  Wt i fr m0 nl0 t0 (Ha.app m (WO i w o t (k::fr) (d,o',ol))) w o' (OO t (k::fr) ol)∧∀q x,Ha.app m (WO i w o t (k::fr) (d,o',ol)) (q::fr) x=m (q::fr) x:=by
 cases ol with
 |none=>
  obtain⟨u,z⟩:=ja rfl;refine⟨h.cell (Ht (Dn _ _ _)) u z (pK (Dn _ _ _)),λq x=>?_⟩;have e0:q::fr≠i:=λe=>(p q []).mp e.symm
  show(m.put i 0 _) (q::fr) x=_;rw[aB e0]
 |some l=>
  obtain⟨v,sa⟩:=ta l rfl;obtain⟨a,hl,hs,g⟩:=h;have n:i≠l++k::fr:=λe=>(p k l).mp e
  have key:∀j x,Ha.app m (WO i w o t (k::fr) (d,o',some l)) j x=if j=l++k::fr∧x=0 then some (.tok 89)else if o.nl=false∧j=t∧x=0 then some (.tok 0)else(m.put i 0 (HL w o' (l++k::fr))) j x:=λj x=>Gq (m:=m.put i 0 (HL w o' (l++k::fr)))
  have ma:∀q,q::fr≠l++k::fr:=λq e=>by
   have:=congrArg List.length e;simp only[Qw,Qv]at this;exact sa (Q0.1 O)
  have c:fr<:+l++k::fr:=⟨l++[k],U⟩;refine⟨⟨⟨?_,?_,λh=>absurd h (by rw[v];simp)⟩,λq e=>ma q e.symm,hs,.inr ⟨⟨l,k,rfl⟩,v,λy=>?_,λj x dd hj qa r=>?_⟩⟩,λq x=>?_⟩
  ·show Ai _ i 0 30=some (HL w o' (l++k::fr));rw[←Ht (m:=m) (i:=i) (Dn w o' (l++k::fr))];refine B_ (λq hq=>?_);have b:q.1=i:=by
    grind [Ag]
   rw[key,b,if_neg (λe=>n e.1),if_neg (λe=>iL a e.1 e.2.1)]
  ·show Cg _ 88 o'.nl (l++k::fr) _=true;rw[v];unfold Cg;rw[if_neg Zg];simp only[key,and_self,if_true];cases l<;>simp
  ·have la:t0≠l++k::fr:=λe=>hs y (e▸c)
   rw[key,if_neg (λe=>la e.1)];rcases g with ⟨c1,c0,c2⟩|⟨c1,c2,c3,c4⟩
   ·simp_all
   ·split
    ·rfl
    ·rw[aB (nR a.1 (c3 y))];exact c3 y
  ·have la:j≠l++k::fr:=λe=>by rw[e,na _ _ c]at r;cases r
   rw[key,if_neg (λe=>la e.1)];have f:m j x=some dd:=by
    grind
   rw[if_neg]
   ·grind [pK,Dn]
   ·rintro⟨e1,e2,e3⟩;rcases g with ⟨c1,c0,c2⟩|⟨⟨s,k',c1⟩,c2,c3,c4⟩
    ·simp_all
    ·rw[e2,c1,na _ _ ⟨s++[k'],U⟩]at r;cases r
  ·have e0:q::fr≠i:=λe=>(p q []).mp e.symm
   rw[key,if_neg (λe=>ma q e.1),if_neg (λe=>hl q e.2.1.symm),aB e0]
def Wt.start(h:rR m i (w,o,t))(na:∀j x,fr<:+j->m j x=none):Wt i fr m o.nl t m w o t:=by
 have g:o.nl=false->¬fr<:+t:=λc g=>by
  have:=EN h.2.1 c;rw[na _ _ g]at this;cases this
 refine⟨h,λq e=>?_,g,.inl ⟨rfl,rfl,λ_ _ _ _ h=>h⟩⟩;cases c:o.nl with
 |true=>have:=h.2.2 c;simp only at this;rw[this]at e;cases e
 |false=>exact g c (by rw[e];exact⟨[q],rfl⟩)
def Wt.end0(h:Wt i fr m0 nl0 t0 m w o t0)(z:nl0=true->t0=[]){d:D}:WE i fr m0 nl0 t0 w (d,o,none) d m:=by
 refine⟨rfl,h.at_.1,?_⟩;rcases h.ch with ⟨c1,c0,c2⟩|⟨⟨l,k,c1⟩,c2,n,u⟩
 ·exact c2
 ·exfalso;cases hn:nl0 with
  |true=>rw[z hn]at c1;simp at c1
  |false=>exact h.sub0 hn (c1▸⟨l++[k],U⟩)
def Wt.endl{l:List Nat}(h:Wt i fr m0 nl0 t0 m w o (l++fr))(hl:l≠[]){d:D}:WE i fr m0 nl0 t0 w (d,o,some l) d m:=by
 refine⟨rfl,h.at_.1,?_⟩;rcases h.ch with ⟨c1,c0,c2⟩|⟨⟨z,k,c1⟩,c2,n,u⟩
 ·exfalso;cases hn:nl0 with
  |true=>
   have:=h.at_.2.2 (c0.trans hn);simp only[List.append_eq_nil_iff]at this;exact hl this.1
  |false=>exact h.sub0 hn (c1▸⟨l,rfl⟩)
 ·exact⟨EN h.at_.2.1 c2,n,u⟩
end
def pA(S:GR)(b:DC)(rs:List RV)(N:Nat)(w:Wb)(o:Oc)(v:List D)(y:WY):Prop:=v.length+1<=N∧(y.2.2=none->y.2.1.nl=o.nl∧y.2.1.ops=o.ops)∧(∀l,y.2.2=some l->y.2.1.nl=false∧l≠[])∧
 ∀(i:Id)(m:GV)(fr t:Id),rR m i (w,o,t)->(∀j x,fr<:+j->m j x=none)->(∀k l,(i=l++k::fr)=False)->(∀k,(i=k::fr)=False)->
  b.wp S fr (DV rs (WE i fr m o.nl t w y)) ⟨Bz (.ptr i 0::v),m,0⟩
open Classical in
def RW(S:GR)(b:DC)(rs:List RV)(N:Nat):Wb->Oc->List D->Option WY:=λw o v=>if h:∃y,pA S b rs N w o v y then some (Classical.choose h)else none
def LZ{S:GR}{b:DC}{rs:List RV}{N:Nat}{w:Wb}{o:Oc}{v:List D}{y:WY}(h:RW S b rs N w o v=some y):pA S b rs N w o v y:=by
 unfold RW at h;split at h
 ·grind
 ·cases h
def aU6(w:Wb)(o:Oc)(r:o.nl=true->o.ops=[]):∃(m:GV)(t:Id),rR m [0] (w,o,t)∧(∀j x,[1]<:+j->m j x=none)∧¬[1]<:+t:=by
 have n1:¬[1]<:+[0]:=Z
 have n2:¬[1]<:+[2]:=Z
 cases hn:o.nl with
 |true=>
  refine⟨GV.put (λ_ _=>none) [0] 0 (HL w o []),[],⟨Ht (Dn _ _ _),?_,λ_=>rfl⟩,λj x d=>?_,Z⟩
  ·grind [Cg]
  ·rw[aB (λe=>n1 (by rw[←e];exact d))]
 |false=>
  refine⟨(GV.put (λ_ _=>none) [0] 0 (HL w o [2])).put [2] 0 [.tok 89],[2],⟨?_,?_,λh=>?_⟩,λj x d=>?_,n2⟩
  ·grind [Po,Ht,Dn]
  ·grind [Cg,GV.put]
  ·simp only at h;rw[hn]at h;cases h
  ·rw[aB (λe=>n2 (by rw[←e];exact d)),aB (λe=>n1 (by rw[←e];exact d))]
def C8{S:GR}{x:DC}{rs:List RV}{N:Nat}{w:Wb}{o:Oc}{v:List D}{y:WY}(r:o.nl=true->o.ops=[])(i:pA S x rs N w o v y):RW S x rs N w o v=some y:=by
 have f:∃y,pA S x rs N w o v y:=⟨y,i⟩;unfold RW;rw[dif_pos f];obtain⟨m,t,u,q,h3⟩:=aU6 w o r;have p:∀k l,(([0]:Id)=l++k::[1])=False:=λk l=>eq_false (λe=>by
  have:=congrArg List.getLast? e;simp at this)
 have j:∀k,(([0]:Id)=k::[1])=False:=λk=>eq_false (λe=>by simp at e)
 obtain⟨d,m',a,b⟩:=So ((Classical.choose_spec f).2.2.2 [0] m [1] t u q p j) (i.2.2.2 [0] m [1] t u q p j);generalize Classical.choose f=z at *;obtain⟨z1,n,z3⟩:=z;obtain⟨y1,y2,y3⟩:=y;obtain⟨rfl,a⟩:=a;obtain⟨s,b⟩:=b;simp only at s;subst s;cases z3 with
 |none=>
  cases y3 with
  |none=>
   have:=a.1.symm.trans b.1;simp only[Qt]at this;rw[(Mo this).2.1]
  |some l=>
   have:=a.1.symm.trans b.1;simp only[Qt]at this;exact absurd ⟨l,(Mo this).2.2.symm⟩ h3
 |some l=>
  cases y3 with
  |none=>
   have:=a.1.symm.trans b.1;simp only[Qt]at this;exact absurd ⟨l,(Mo this).2.2⟩ h3
  |some l2=>
   have:=a.1.symm.trans b.1;simp only[Qt]at this;obtain⟨_,c,g⟩:=Mo this;rw[c,List.append_cancel_right g]
def FZ{S:GR}{f:FuncId}{N:Nat}{dc:DC}{rs:List RV}(hf:Fn Qo f N dc rs)(hS:GR.ok Qo S):(wQ (RW S dc rs N)).ok Qo f:=by
 refine GI hS hf aQv (λds m fr r u z na=>?_);simp only[wQ]at z;split at z
 ·rename_i i aa;rw[Option.bind_eq_some_iff]at z;obtain⟨⟨w,o,t⟩,hp,z⟩:=z;rw[Q4]at z;obtain⟨y,hF,z⟩:=z;simp only[QV]at z;obtain⟨rfl,rfl⟩:=z;have ia:=vZ hp;obtain⟨hN,ja,ta,ma⟩:=LZ hF;have g:m i 0=some (.bool w.v.se):=UQ ia.1;have s:∀k l,(i=l++k::fr)=False:=λk l=>eq_false (λe=>by
   rw[e,na _ _ ⟨l++[k],U⟩]at g;cases g)
  refine⟨hN,Ri (ma i m fr t ia na s (λk=>s k [])) (λe ca q=>?_)⟩;obtain⟨c,d,ga,rfl,hE⟩:=q;refine⟨c,_,ga,rfl,λj x dd p=>?_⟩;obtain⟨y1,y2,y3⟩:=y;cases y3 with
  |none=>
   obtain⟨g1,g2⟩:=hE;have b:(m.put i 0 (HL w y2 t)) j x=some dd:=p;by_cases hj:j≠i∨30<=x
   ·grind [pK,Dn]
   ·have cb:j=i:=Classical.byContradiction (λh=>hj (.inl h));have a:x<30:=Zy (λh=>hj (.inr h));subst cb;have n:=aG (m:=m) (i:=j) (o:=0) (j:=x) (ds:=HL w y2 t) (by rw[Dn];exact a);rw[QR]at n;rw[n]at b;exact A_ g1 b
  |some l=>
   obtain⟨g1,g2,g3,g4⟩:=hE;obtain⟨hn,sa⟩:=ta l rfl;have b:Ha.app (m.put i 0 (HL w y2 (l++fr))) (Be 88 (l++fr) (.slice o.nl t (opsD o.ops))) j x=some dd:=p;rw[Gq]at b;split at b
   ·simp_all
   ·split at b
    ·simp_all
    ·rename_i e1 e2;by_cases hj:j≠i∨30<=x
     ·rw[pK (Dn _ _ _) j x hj]at b;refine g4 j x dd hj ?_ b;cases ho:o.nl with
      |true=>exact .inl rfl
      |false=>
       by_cases h1:j=t
       ·simp_all
       ·exact .inr (.inl h1)
     ·have cb:j=i:=Classical.byContradiction (λh=>hj (.inl h));have a:x<30:=Zy (λh=>hj (.inr h));subst cb;have n:=aG (m:=m) (i:=j) (o:=0) (j:=x) (ds:=HL w y2 (l++fr)) (by rw[Dn];exact a);rw[QR]at n;rw[n]at b;exact A_ g1 b
 ·cases z
def qP{F:Wb->Oc->List D->Option WY}{w:Wb}{o:Oc}{t i fr:Id}{m:GV}{v:List D}{y:WY}{K:D×Ha->Prop}{g}(x:rR m i (w,o,t))(k:F w o v=some y)(h:K (y.1,WO i w o t fr y)):Hl ((wQ F).ex (.ptr i 0::v) m fr) K g:=by
 refine aI ?_ h;simp only[wQ,aBL x (λz j=>aFr x j),Qm,k,QD]
def aPk:=y0 f257 [] []
def aOr:=y0 f322 [] []
def V_:=y1 f323 1 [] []
def aOq:=y0 f323 [] [(1,V_)]
def aEd:=y0 f255 [(1,[(3,0),(3,13),(7,13),(13,0),(13,3),(13,7)])] []
abbrev y2(f:Func)(ps:List (Nat×List (Nat×Nat)))(ls:List (Nat×DC)){c:DC}(_:tQ ps ls (bAt f)=c:=by exact Eq.trans (by conv=>lhs;whnf) (by simp only[tQ,qX,List.append_eq,tR,tO,tAt,tAi,tAb,tAs,tAf,tAl,tAp,tAn,tAu,tAg,zT,Tz.k,Tz.z,Tz.n,Tz.d,tL,tP,tB,tE,tX,tS,tI,tG,tC,tM,fAt,RK,lk,ofVal,List.getD_cons_zero,List.getD_cons_succ,List.map_cons,List.map_nil,List.length_cons,List.length_nil,List.headD_cons,List.cons_append,List.nil_append,Option.map_some,Option.map_none,Option.getD_some,Bool.false_eq_true,reduceIte,Nat.reduceAdd,Nat.reduceMul,Nat.reduceEqDiff]<;>rfl)):DC:=c
abbrev y3(f:Func)(k:Nat)(ps:List (Nat×List (Nat×Nat)))(ls:List (Nat×DC)){c:DC}(_:tQ ps ls ((cS k (bAt f)).getD .skip)=c:=by exact Eq.trans (by conv=>lhs;whnf) (by simp only[tQ,qX,List.append_eq,tR,tO,tAt,tAi,tAb,tAs,tAf,tAl,tAp,tAn,tAu,tAg,zT,Tz.k,Tz.z,Tz.n,Tz.d,tL,tP,tB,tE,tX,tS,tI,tG,tC,tM,fAt,RK,lk,ofVal,List.getD_cons_zero,List.getD_cons_succ,List.map_cons,List.map_nil,List.length_cons,List.length_nil,List.headD_cons,List.cons_append,List.nil_append,Option.map_some,Option.map_none,Option.getD_some,Bool.false_eq_true,reduceIte,Nat.reduceAdd,Nat.reduceMul,Nat.reduceEqDiff]<;>rfl)):DC:=c
def aYc:=y0 f176 [(0,[(2,6)])] []
def aYb:=y0 f177 [] []
def aYa:=y0 f178 [] []
def aPn:=y0 f250 [] []
def rJ:=y0 f252 [] []
def aX9:=y0 f180 [(0,[(22,26),(26,4),(26,9),(26,14),(26,19),(26,22)]),(4,[(1,2)])] []
def lQ:=y0 f185 [] []
def aYu:=y0 f111 [] []
def CM{m:GV}{i:Id}{w:Wb}{o:Oc}{t:Id}(h:Ai m i 0 30=some (HL w o t)):m i 0=some (.bool w.v.se)∧m i 1=some (.int .i64 w.v.te)∧m i 2=some (.str w.v.key)∧m i 3=some (.slice w.v.nlm [] (Ax w.v.ms))∧m i 4=some (.slice w.v.nlt [] (Au w.v.ks))∧m i 5=some (.int .u8 w.a.op)∧m i 6=some (.str w.a.tk)∧m i 7=some (.str w.a.pa)∧m i 8=some (.str w.a.ot)∧m i 9=some (.int .i64 w.a.n)∧m i 10=some (.int .i64 w.a.cas)∧m i 11=some (.bool w.a.fl)∧m i 12=some (.slice w.a.nln [] (Bk w.a.ns))∧m i 13=some (.str w.a.da)∧m i 14=some (.slice w.a.nlr [] (Am w.a.rs))∧m i 15=some (.str w.a.key)∧m i 16=some (.slice w.k.es.isEmpty [] (w.k.es.map λx=> .str x.1))∧m i 17=some (.slice w.k.es.isEmpty [] (w.k.es.map λx=> .str x.2.1))∧m i 18=some (.slice w.k.es.isEmpty [] (w.k.es.map λx=> .bool x.2.2))∧m i 19=some (.slice w.k.ls.isEmpty [] (w.k.ls.map λx=> .str x.1))∧m i 20=some (.slice w.k.ls.isEmpty [] (w.k.ls.map lsD))∧m i 21=some (.str o.need)∧m i 22=some (.bool o.li)∧m i 23=some (.str o.rep)∧m i 24=some (.slice o.nl t (opsD o.ops))∧m i 25=some (.bool o.vw.se)∧m i 26=some (.int .i64 o.vw.te)∧m i 27=some (.str o.vw.key)∧m i 28=some (.slice o.vw.nlm [] (Ax o.vw.ms))∧m i 29=some (.slice o.vw.nlt [] (Au o.vw.ks)):=
 ⟨A_ h rfl,A_ h rfl,A_ h rfl,A_ h rfl,A_ h rfl,A_ h rfl,A_ h rfl,A_ h rfl,A_ h rfl,A_ h rfl,A_ h rfl,A_ h rfl,A_ h rfl,A_ h rfl,A_ h rfl,A_ h rfl,A_ h rfl,A_ h rfl,A_ h rfl,A_ h rfl,A_ h rfl,A_ h rfl,A_ h rfl,A_ h rfl,A_ h rfl,A_ h rfl,A_ h rfl,A_ h rfl,A_ h rfl,A_ h rfl⟩
def Wt.cellp{i fr t0 t:Id}{m0 m:GV}{nl0:Bool}{w:Wb}{o o':Oc}{p:Nat}{ys:List D}(h:Wt i fr m0 nl0 t0 m w o t)(hl:p+ys.length<=30)(g:(HL w o t).take p++ys++(HL w o t).drop (p+ys.length)=HL w o' t)(u:o'.nl=o.nl)(q:o'.ops=o.ops):Wt i fr m0 nl0 t0 (m.put i p ys) w o' t:=by
 refine h.cell (by rw[jF h.at_.1 hl,g]) u q (λj x hj=>?_);rcases hj with hj|hj
 ·rw[aB hj]
 ·grind [aE,aB]
structure Oc0 (o:Oc):Prop where
 nl:o.nl=true
 ops:o.ops=[]
def S54:=Az [(52,Ac aLh)]
def W54:Wb->Oc->List D->Option WY:=RW S54 aYc [] 14
def aRE:(wQ W54).ok Qo 176:=FZ (Al func176) (Aa aM3 Ae)
def aFE(w:Wb)(o:Oc)(e:Int)(y:Oc0 o)(q:1<=e∧e<=99):W54 w o [.int .i64 e]=some (.tup [],⟨[],false,NM (.fail e),true,[],w.v⟩,none):=by
 refine C8 (λ_=>y.ops) ⟨Qi rfl,λh=>⟨y.nl.symm,y.ops.symm⟩,λl h=>Xd,λi m fr t x na p n0=>?_⟩;have d:=Wt.start x na;unfold aYc;have g:=CM x.1;have c:=Wo e q;have s:t=[]:=x.2.2 y.nl;simp only[GU,↓GQ,GS,simprocAttr,g,Ad S54 52,c];refine AJ ?_;simp only[↓GQ,GX,Hx,simprocAttr];subst s;exact(d.cellp (o':=⟨[],false,NM (.fail e),true,[],w.v⟩) (Qi rfl) rfl y.nl.symm y.ops.symm).end0 (λ_=>rfl)
def S55:=Az [(110,Ac aLg)]
def W55:Wb->Oc->List D->Option WY:=RW S55 aYb [] 13
def aRD:(wQ W55).ok Qo 177:=FZ (Al func177) (Aa aM2 Ae)
def Wj(w:Wb)(o:Oc)(y:Ry)(r:o.nl=true->o.ops=[])(h:aIr y)(v:ryN y):W55 w o [.agg (HJ y)]=some (.tup [],{o with rep:=NM y},none):=by
 refine C8 r ⟨Qi rfl,λh=>⟨rfl,rfl⟩,λl h=>Xd,λi m fr t x na s n0=>?_⟩;have q:=Wt.start x na;unfold aYb;have z:=CM x.1;have n:=sT y h v;have d0:((HJ y).map D.un1=HJ y∧(HJ y).all D.calm1=true)∧D.data (.agg (HJ y))=true∧(D.agg (HJ y)).cells=HJ y∧(HJ y).length=10:=by cases y<;>exact⟨⟨rfl,rfl⟩,rfl,rfl,rfl⟩
 obtain⟨⟨d1,d2⟩,d3,d4,d5⟩:=d0;obtain⟨a,b,cc,d,e,f,g,u,j,k,p⟩:∃a b c d e f g i j k,HJ y=[a,b,c,d,e,f,g,i,j,k]:=Qc
 rw[p]at d1 d2 n ⊢;simp only[QN,QP,Qk,and_true]at d1;simp only[Zc,QT,Bool.and_true,Q2]at d2;obtain⟨u0,u1,u2,u3,u4,u5,u6,u7,u8,u9⟩:=d1;obtain⟨k0,k1,k2,k3,k4,k5,k6,k7,k8,k9⟩:=d2;simp only[GU,↓GQ,GS,simprocAttr,z.2.2.2.2.2.2.2.2.2.2.2.2.2.2.2.2.2.2.2.2.2.2.2.1,n0,Ad S55 110,n,u0,u1,u2,u3,u4,u5,u6,u7,u8,u9,k0,k1,k2,k3,k4,k5,k6,k7,k8,k9];exact(q.put.cellp (o':={o with rep:=NM y}) (Qi rfl) rfl rfl rfl).end0 x.2.2
def S56:=Az [(177,wQ W55)]
def W56:Wb->Oc->List D->Option WY:=RW S56 aYa [] 5
def bAk:(wQ W56).ok Qo 178:=FZ (Al func178) (Aa aRD Ae)
def aTc(w:Wb)(o:Oc)(r:o.nl=true->o.ops=[]):W56 w o []=some (.tup [],{o with rep:=NM .done},none):=by
 refine C8 r ⟨Qi rfl,λh=>⟨rfl,rfl⟩,λl h=>Xd,λi m fr t x na p n0=>?_⟩;have y:=Wt.start x na;unfold aYa;have a:=Wj w o .done r trivial trivial;unfold HJ at a;simp only[↓GQ,GT,GS,simprocAttr,Bu S56 177];refine qP x a ?_;obtain⟨c1,c2⟩:=y.call (o':={o with rep:=NM .done}) (d:= .tup []) (ol:=none) (k:=2) na p (λ_=>⟨rfl,rfl⟩) (λl h=>Xd);simp only[↓GQ,GX,simprocAttr];exact c1.end0 x.2.2
def bAU:=Az []
def aFG:Wb->Oc->List D->Option WY:=RW bAU aPn [] 16
def aM0:(wQ aFG).ok Qo 250:=FZ (Al func250) Ae
def rU(w:Wb)(o:Oc)(q:Bs)(li:Bool)(y:Oc0 o):aFG w o [.str q,.bool li]=some (.tup [],⟨q,li,[],true,[],w.v⟩,none):=by
 refine C8 (λ_=>y.ops) ⟨Qi rfl,λh=>⟨y.nl.symm,y.ops.symm⟩,λl h=>Xd,λi m fr t x na p n0=>?_⟩;have d:=Wt.start x na;unfold aPn;have g:=CM x.1;have s:t=[]:=x.2.2 y.nl;simp only[GU,↓GQ,GS,simprocAttr,g];subst s;exact(d.cellp (o':=⟨q,li,[],true,[],w.v⟩) (Qi rfl) rfl y.nl.symm y.ops.symm).end0 (λ_=>rfl)
def bAV:=Az []
def mO:Wb->Oc->List D->Option WY:=RW bAV aPt [] 23
def qI:(wQ mO).ok Qo 244:=FZ (Al func244) Ae
def aKn(w:Wb)(o:Oc)(k:Int)(key v:Bs)(ho:o.nl=true->o.ops=[])(hl:o.ops.length<=1000):mO w o [.int .u8 k,.str key,.str v]=some (.tup [],{o with nl:=false,ops:=o.ops++[(k,key,v)]},some ([11])):=by
 refine C8 ho ⟨Qi rfl,λh=>Xd,λl h=>Yo,λi m fr t z na s n0=>?_⟩;have hW:=Wt.start z na;unfold aPt;have xx:=CM z.1;have la:o.nl=false->i≠t:=λh=>iL z h
 have f:o.nl=false->m t 0=some (.tok 89):=λh=>EN z.2.1 h
 have c:∀q,t≠q::fr:=hW.loc;have n:o.nl=true->opsD o.ops=[]:=λh=>by rw[ho h];rfl
 have u:opsD (o.ops++[(k,key,v)])=opsD o.ops++[.agg [.int .u8 k,.str key,.str v]]:=by simp[opsD,opD]
 have y:(opsD o.ops).length=o.ops.length:=B5 _;simp only[↓GQ,GT,GS,simprocAttr,xx.2.2.2.2.2.2.2.2.2.2.2.2.2.2.2.2.2.2.2.2.2.2.2.2.1];refine aA ⟨by simp only[y];omega,rfl,?_⟩ ?_
 ·cases hn:o.nl with
  |true=>exact .inl rfl
  |false=>exact .inr ⟨by rw[aB (c _)];exact f hn,by
    have:=EN z.2.1 hn;unfold rR Cg at z;simp only[hn,QA,if_false,this,beq_self_eq_true,Zr]at z;intro e;rw[e]at z;simp at z⟩
 rw[Ba n,TK];have key1:∀j x,Ha.app (m.put (10::fr) 0 [.tok 89]) (Be 88 (11::fr) (.slice o.nl t (opsD o.ops))) j x=if j=11::fr∧x=0 then some (.tok 89)else if o.nl=false∧j=t∧x=0 then some (.tok 0)else(m.put (10::fr) 0 [.tok 89]) j x:=λj x=>Gq
 generalize hM:Ha.app (m.put (10::fr) 0 [.tok 89]) (Be 88 (11::fr) (.slice o.nl t (opsD o.ops)))=M at *;have b:∀x,M i x=m i x:=λx=>by
  rw[key1,if_neg (λe=>(n0 11).mp e.1),if_neg (λe=>la e.1 e.2.1),aB (λe=>(n0 10).mp e)]
 have g:Ai M i 0 30=some (HL w o t):=by
  rw[←z.1];exact B_ (λl hl=>by
   simp only[Ag,QU]at hl;obtain⟨_,_,rfl⟩:=hl;exact b _)
 simp only[GU,↓GQ,GS,simprocAttr,xx.2.2.2.2.2.2.2.2.2.2.2.2.2.2.2.2.2.2.2.2.2.2.2.2.1,b];refine⟨rfl,?_,?_,λh=>?_,λj x d hj qa r=>?_⟩
 ·rw[jF g (Qi rfl),←u];rfl
 ·grind [aB]
 ·grind [aB]
 ·have a:∀q,j≠q::fr:=λq e=>by rw[e,na (q::fr) _ ⟨[q],rfl⟩]at r;cases r
  have p:(M.put i 24 [.slice false (11::fr) (opsD o.ops++[.agg [.int .u8 k,.str key,.str v]])]) j x=M j x:=by
   grind [aB,aE]
  refine(show _=_ from p).trans ?_;rw[key1,if_neg (λe=>a 11 e.1),if_neg,aB (a 10)]
  ·exact r
  ·grind
def Oc.op(o:Oc)(k:Int)(key v:Bs):Oc:={o with nl:=false,ops:=o.ops++[(k,key,v)]}
def C9(o:Oc)(p:Bs)(ns:List Int):Oc:={o with nl:=o.nl&&ns.isEmpty,ops:=o.ops++ns.map λn=>(2,A9 2 p n,[])}
def aDC{o:Oc}{p:Bs}{ns:List Int}{n:Int}:(C9 o p ns).op 2 (A9 2 p n) []=C9 o p (ns++[n]):=by
 simp[C9,Oc.op]
def yA{o:Oc}{p:Bs}:C9 o p []=o:=by simp[C9]
def eL(ns:List Int):Option (List Nat):=if ns=[]then none else some [11,11*ns.length]
def Cv(v:Vw)(p:Bs):Int×Bool:=if BN v.ms p=-1 then(0,false)else(AU v.ms (BN v.ms p).toNat).2
def aQY(v:Vw)(p:Bs):Bs×Int:=if BN v.ms p=-1 then([],14)else((AU v.ms (BN v.ms p).toNat).1,0)
def aBq(v:Vw)(p:Bs):L_ v.ms p= .tup [.agg [.str (aQY v p).1,.int .i64 (Cv v p).1,.bool (Cv v p).2],.int .i64 (aQY v p).2]:=by
 unfold L_ Cv aQY;split<;>rfl
def BF{i fr t0 t:Id}{m0 m:GV}{nl0:Bool}{w:Wb}{o o':Oc}{v:List D}{d:D}{ol:Option (List Nat)}{F:Wb->Oc->List D->Option WY}{S:GR}{c k n:Nat}{ops l:List DOper}{s:Nat->D}{dst:Option Nat}{K:Nat->(Nat->D)->GV->Prop}{g}
  (hw:Wt i fr m0 nl0 t0 m w o t) (y:F w o v=some (d,o',ol))
  (h:∀M,Wt i fr m0 nl0 t0 M w o' (OO t (n::fr) ol)->(∀q x,M (q::fr) x=m (q::fr) x)->F_ S fr c ops l k (AG s dst d) M K) (na:∀j x,fr<:+j->m0 j x=none:=by assumption) (p:∀k l,(i=l++k::fr)=False:=by assumption) (a:∃S b rs N,F=RW S b rs N:=by exact⟨_,_,_,_,rfl⟩):
  Hl ((wQ F).ex (.ptr i 0::v) m (n::fr)) (λx=>bK S fr c ops l k s dst m K x.1 x.2) g:=by
 obtain⟨e,b,rs,N,rfl⟩:=a;obtain⟨_,u,ta,_⟩:=LZ y;refine qP hw.at_ y ?_;obtain⟨c1,c2⟩:=hw.call (o':=o') (d:=d) (ol:=ol) (k:=n) na p u ta;exact h _ c1 c2
def Lq{i fr t0 t:Id}{m0 m:GV}{nl0:Bool}{w:Wb}{o o':Oc}{v:List D}{d:D}{ol:Option (List Nat)}{F:Wb->Oc->List D->Option WY}{S:GR}{c k n:Nat}{ops l:List DOper}{s:Nat->D}{dst:Option Nat}{op:DOp}{K:Nat->(Nat->D)->GV->List Ml->Prop}{g}
  (hw:Wt i fr m0 nl0 t0 m w o t) (y:F w o v=some (d,o',ol))
  (h:∀M u,u=WO i w o t (n::fr) (d,o',ol)->Wt i fr m0 nl0 t0 M w o' (OO t (n::fr) ol)->(∀q x,M (q::fr) x=m (q::fr) x)->Ct S fr c ops l k (AG s dst d) M λr z m' f=>K r z m' ((GZ S s m op,An u)::f)) (na:∀j x,fr<:+j->m0 j x=none:=by assumption) (p:∀k l,(i=l++k::fr)=False:=by assumption) (a:∃S b rs N,F=RW S b rs N:=by exact⟨_,_,_,_,rfl⟩):
  Hl ((wQ F).ex (.ptr i 0::v) m (n::fr)) (λx=>Om S fr c ops l k s dst m op K x.1 x.2) g:=by
 obtain⟨e,b,rs,N,rfl⟩:=a;obtain⟨_,ja,ta,_⟩:=LZ y;refine qP hw.at_ y ?_;obtain⟨c1,c2⟩:=hw.call (o':=o') (d:=d) (ol:=ol) (k:=n) na p ja ta;exact h _ _ rfl c1 c2
def Rc(w:Wb)(o:Oc)(k:Int)(key v:Bs)(r:o.nl=true->o.ops=[])(hl:o.ops.length<=1000):mO w o [.int .u8 k,.str key,.str v]=some (.tup [],o.op k key v,some [11]):=aKn w o k key v r hl
def aY6:=Az [(325,Ac aHm)]
def aTf:Wb->Oc->List D->Option WY:=RW aY6 aPk [.cell (some 2) 4] 19
def aXy:(wQ aTf).ok Qo 257:=FZ (Al func257) (Aa aMB Ae)
def rT(w:Wb)(o:Oc)(p:Bs)(u:o.nl=true->o.ops=[])(r:w.v.ms.length<=1000):aTf w o [.str p]=some (.agg [.int .i64 (Cv w.v p).1,.bool (Cv w.v p).2],o,none):=by
 refine C8 u ⟨Qi rfl,λh=>⟨rfl,rfl⟩,λl h=>Xd,λi m fr t x na k n0=>?_⟩;have d:=Wt.start x na;unfold aPk;have g:=CM x.1;have a:=uD (nl:=w.v.nlm) (t:=[]) (l:=w.v.ms) (p:=p) O;rw[aBq]at a;simp only[GU,↓GQ,GS,simprocAttr,g,n0,Ad aY6 325,a];exact d.put.put.put.put.end0 x.2.2
def aKo:=Az [(365,Ac aTB),(245,Ac S2),(244,wQ mO)]
def aTe:Wb->Oc->List D->Option WY:=RW aKo aOr [] 18
def aXj:(wQ aTe).ok Qo 322:=FZ (Al func322) (Aa aWX (Aa Ub (Aa qI Ae)))
def aKk(w:Wb)(o:Oc)(p:Bs)(s:Sc)(r:o.nl=true->o.ops=[])(hl:o.ops.length<=1000)(g:s.rs.length<=1000)(z:p.length<=1000000):aTe w o [.str p,.agg (Hw s)]=some (.tup [],o.op 1 (A9 1 p 0) (IA s),some ([11,12])):=by
 refine C8 r ⟨Qi rfl,λh=>Xd,λl h=>Yo,λi m fr t q na k n0=>?_⟩;have d:=Wt.start q na;unfold aOr;have a:=aKA s g;have x:=FI 1 0 p z;have y:=Rc w o 1 (A9 1 p 0) (IA s) r hl;unfold Hw at *;simp only[GU,↓GQ,GS,simprocAttr,Ad aKo 365,a,Ad aKo 245,x,Bu aKo 244];refine BF d.put y (λM c1 c2=>?_);simp only[↓GQ,GX,simprocAttr];exact c1.endl (l:=[11,12]) U
def aTn:=Az [(245,Ac S2),(244,wQ mO)]
def aTd:Wb->Oc->List D->Option WY:=RW aTn aOq [] 20
def aXi:(wQ aTd).ok Qo 323:=FZ (Al func323) (Aa Ub (Aa qI Ae))
def aKj(w:Wb)(o:Oc)(p:Bs)(nl:Bool)(tq:Id)(ns:List Int)(ho:o.nl=true->o.ops=[])(hl:o.ops.length+ns.length<=1000)(hp:p.length<=1000000):aTd w o [.str p,.slice nl tq (Bk ns)]=some (.tup [],C9 o p ns,eL ns):=by
 refine C8 ho ⟨Qi rfl,λh=>(by unfold eL at h;split at h<;>simp_all [C9]),λl h=>(by unfold eL at h;split at h<;>simp_all [C9];subst h;simp),λi m fr t q na ka n0=>?_⟩;have hW:=Wt.start q na;unfold aOq;simp only[↓GQ,GX,simprocAttr,EM];refine By (n:=ns.length) (I:=λj z=>z.s 8= .slice nl tq (Bk ns)∧z.s 9= .int .i64 ns.length∧z.s 10= .int .i64 (j:Int)∧z.s 0= .ptr i 0∧z.s 1= .str p∧z.c=3+11*j∧Wt i fr m o.nl t z.m w (C9 o p (ns.take j)) (if j=0 then t else [11,11*j]++fr)) (λj d ih z g hI=>?_) (λz g hI=>?_) 0 (QH _) _ _ ⟨rfl,rfl,rfl,rfl,rfl,rfl,by simp only[Qz,yA,if_true];exact hW⟩
 ·obtain⟨ja,k,da⟩:=z;obtain⟨h8,f,ba,y,u,hc,hw⟩:=hI;simp only at h8 f ba y u hc hw;refine Af V_.eq_1 ?_;have v:((j:Int)<(ns.length:Int))=True:=eq_true O;have ma:=nJ (j:=j);have ia:=xH (l:=ns) (j:=j) d;have b:IntKind.i64.wrap ((j:Int)+1)=((j+1:Nat):Int):=by rw[Hg O O];omega
  have x:=FI 2 ns[j] p hp;have pa:(C9 o p (ns.take j)).nl=true->(C9 o p (ns.take j)).ops=[]:=λh=>by
   simp only[C9,Q2,List.isEmpty_iff]at h ⊢;rw[ho h.1,h.2];rfl
  have xa:(C9 o p (ns.take j)).ops.length<=1000:=by simp[C9];omega
  have ea:=Rc w (C9 o p (ns.take j)) 2 (A9 2 p ns[j]) [] pa xa;rw[aDC,←QQ d]at ea;simp only[↓GQ,GT,GS,simprocAttr,y,u,h8,f,ba,v,ma,Qs,ia,Ad aTn 245,x,Bu aTn 244];refine BF hw ea (λM c1 c2=>?_);have e:OO (if j=0 then t else [11,11*j]++fr) ((da+1+3+4)::fr) (some [11])=(if j+1=0 then t else [11,11*(j+1)]++fr):=by
   rw[if_neg (Qn j)];show [11]++_::fr=_;rw[show da+1+3+4=11*(j+1)by omega];rfl
  rw[e]at c1;simp only[↓GQ,GX,simprocAttr,ba,b];exact ih _ _ ⟨h8,f,rfl,y,u,Xb,c1⟩
 ·obtain⟨ja,k,da⟩:=z;obtain⟨h8,f,ba,y,u,hc,hw⟩:=hI;simp only at h8 f ba y u hc hw;refine Af V_.eq_1 ?_;simp only[↓GQ,GX,Hf,GS,simprocAttr,f,ba,QI];rw[Zk]at hw;unfold eL;cases ns with
  |nil=>exact hw.end0 q.2.2
  |cons a r=>exact hw.endl (l:=[11,11*(r.length+1)]) U
def aCf(w:Wb)(p:Bs):Bs×Bool×Bool:=Dx w.k (A9 1 p 0)
def OB:=Az [(245,Ac S2),(254,Ac nC),(250,wQ aFG),(318,Ac aTU)]
def LC:Wb->Oc->List D->Option WY:=RW OB rJ [.cell (some 4) 4,.t 5,.t 6] 42
def aMZ:(wQ LC).ok Qo 252:=FZ (Al func252) (Aa Ub (Aa aMY (Aa aM0 (Aa aXn Ae))))
def zU(w:Wb)(o:Oc)(p:Bs)(y:Oc0 o)(u:p.length<=1000000)(s:w.k.es.length<=1000)(f:Bs×Bool×Bool)(a:aCf w p=f)(j:f.2.2=false):LC w o [.str p]=some (.tup [.agg (Hw sc0),.bool false,.bool false],⟨A9 1 p 0,false,[],true,[],w.v⟩,none):=by
 refine C8 (λ_=>y.ops) ⟨Qi rfl,λh=>⟨y.nl.symm,y.ops.symm⟩,λl h=>Xd,λi m fr t q na ka n0=>?_⟩;have d:=Wt.start q na;unfold rJ;obtain⟨r,n,b⟩:=f;simp only at j;have x:=FI 1 0 p u;have ba:=Rf w.k (A9 1 p 0) s;rw[show Dx w.k (A9 1 p 0)=_ from a]at ba;unfold Ie at ba;have g:=CM q.1;subst j;have z:=rU w o (A9 1 p 0) false y;simp only[GU,↓GQ,GS,simprocAttr,g,n0,Ad OB 245,x,Ad OB 254,ba,Bu OB 250];refine BF d.put z (λM c1 c2=>?_);simp only[GU,↓GQ,GS,simprocAttr,c2];exact c1.put.end0 q.2.2
def aKm(w:Wb)(o:Oc)(p:Bs)(y:Oc0 o)(u:p.length<=1000000)(j:w.k.es.length<=1000)(mt:Bs×Bool×Bool)(hm:aCf w p=mt)(v:mt.2.2=true)(ht:mt.1.length<=1000000)(f:mt.2.1=false∨(Cz mt.1).2≠0):LC w o [.str p]=some (.tup [.agg (Hw sc0),.bool false,.bool true],o,none):=by
 refine C8 (λ_=>y.ops) ⟨Qi rfl,λh=>⟨rfl,rfl⟩,λl h=>Xd,λi m fr t q na ka n0=>?_⟩;have d:=Wt.start q na;unfold rJ;obtain⟨r,g,b⟩:=mt;simp only at v;have x:=FI 1 0 p u;have z:=Rf w.k (A9 1 p 0) j;rw[show Dx w.k (A9 1 p 0)=_ from hm]at z;unfold Ie at z;have a:=sG r ht;unfold Hw at a;have c:=CM q.1;subst v;simp only at f;generalize Cz r=se at *;obtain⟨s,e⟩:=se;simp only at f a;cases g with
 |false=>
  simp only[GU,↓GQ,GS,simprocAttr,c,n0,Ad OB 245,x,Ad OB 254,z,Ad OB 318,a];exact d.put.put.put.end0 q.2.2
 |true=>
  have n:(e=0)=False:=eq_false (f.resolve_left U);simp only[GU,↓GQ,GS,simprocAttr,c,n0,Ad OB 245,x,Ad OB 254,z,Ad OB 318,a,n];exact d.put.put.put.end0 q.2.2
def aFF(w:Wb)(o:Oc)(p:Bs)(y:Oc0 o)(u:p.length<=1000000)(j:w.k.es.length<=1000)(mt:Bs×Bool×Bool)(hm:aCf w p=mt)(v:mt.2.2=true)(ht:mt.1.length<=1000000)(f:mt.2.1=true)(n:(Cz mt.1).2=0):LC w o [.str p]=some (.tup [.agg (Hw (Cz mt.1).1),.bool true,.bool true],o,none):=by
 refine C8 (λ_=>y.ops) ⟨Qi rfl,λh=>⟨rfl,rfl⟩,λl h=>Xd,λi m fr t q na ka n0=>?_⟩;have d:=Wt.start q na;unfold rJ;obtain⟨r,g,b⟩:=mt;simp only at v;have x:=FI 1 0 p u;have z:=Rf w.k (A9 1 p 0) j;rw[show Dx w.k (A9 1 p 0)=_ from hm]at z;unfold Ie at z;have a:=sG r ht;unfold Hw at a;have c:=CM q.1;subst v;simp only at f n ⊢;generalize Cz r=se at *;obtain⟨s,e⟩:=se;simp only at n a;subst f n;simp only[GU,↓GQ,GS,simprocAttr,c,n0,Ad OB 245,x,Ad OB 254,z,Ad OB 318,a];exact d.put.put.put.end0 q.2.2
theorem E8{l:Loc}{i:Id}{o n:Nat}(h:l∈Ag i o n):l.1=i:=by
 grind [Ag]
def D_{l:Loc}{i:Id}{o:Nat}{ds:List D}(h:l∈An [(i,o,ds)]):l.1=i:=by
 grind [An,E8]
def Ey{l:Loc}{P:Prop}(h:l∈([]:List Loc)):P:=Xd
def feN{p K:Prop}{t:Tag K}(k:K) (h:p:=by
 intro pp hpp l hl;simp only[List.mem_cons,List.not_mem_nil,or_false]at hpp
 repeat (rcases hpp with rfl|hpp;· first|exact Ey hl|exact⟨λh=>Ey h,λh=>Ey h⟩|(have ia:=D_ hl;refine⟨λh=>?_,λh=>Ey h⟩;first|(change l∈Ag _ _ _ at h;first|exact(n0 _).mp ((E8 h).symm.trans ia)|(have:=ia.symm.trans (E8 h);simp at this;done))|(rcases List.mem_append.1 h with h|h;exact(n0 _).mp ((E8 h).symm.trans ia);rw[a1]at h;rw[List.mem_singleton.1 h]at ia;exact c1.loc _ ia)))):Ao p K t:=⟨h,k⟩
def uL(o:Oc)(p:Bs)(r:Sc×Int×List Int×Int)(data:Bs):Oc:={C9 ((o.op 1 (A9 1 p 0) (IA r.1)).op 1 (A9 2 p r.2.1) data) p r.2.2.1 with rep:=NM (.number r.2.1)}
def SU:=Az [(257,wQ aTf),(321,Ac aTR),(176,wQ W54),(322,wQ aTe),(245,Ac S2),(244,wQ mO),(323,wQ aTd),(177,wQ W55)]
def zS:Wb->Oc->List D->Option WY:=RW SU aEd [] 50
def aXz:(wQ zS).ok Qo 255:=FZ (Al func255) (Aa aXy (Aa aXk (Aa aRE (Aa aXj (Aa Ub (Aa qI (Aa aXi (Aa aRD Ae))))))))
def zR(w:Wb)(o:Oc)(p:Bs)(s:Sc)(cas:Int)(data:Bs)(h0:Oc0 o)(g:s.rs.length<=800)(f:s.nl=true->s.rs=[])(hp:p.length<=1000000)(hd:data.length<=1000000)(hm:w.v.ms.length<=1000)(r:Sc×Int×List Int×Int)(j:CL s (Cv w.v p).1 (Cv w.v p).2 cas data.length=r)(he:1<=r.2.2.2∧r.2.2.2<=99):zS w o [.str p,.agg (Hw s),.int .i64 cas,.str data]=some (.tup [],⟨[],false,NM (.fail r.2.2.2),true,[],w.v⟩,none):=by
 refine C8 (λ_=>h0.ops) ⟨Qi rfl,λh=>⟨h0.nl.symm,h0.ops.symm⟩,λl h=>Xd,λi m fr t x na k n0=>?_⟩;have hW:=Wt.start x na;unfold aEd;have a:=sE s (Cv w.v p).1 (Cv w.v p).2 cas data.length O f;rw[j]at a;obtain⟨s2,n,z,e⟩:=r;simp only at he a ⊢;have c:=rT w o p (λ_=>h0.ops) hm;generalize Cv w.v p=qb at *;unfold Hw at *;simp only[GU,↓GQ,GS,simprocAttr,Bu SU 257];refine Lq hW.put c (λM u hu c1 c2=>?_);simp only[GU,↓GQ,GS,simprocAttr,Ad SU 321,a];refine aA ?_ ?_
 ·subst hu;have a1:=aS6 (hW.put (q:=0) (p:=0) (ys:=[.int .i64 s.mx,.bool s.cas,.int .i64 s.la,.slice s.nl [] (BS s.rs)])).at_.1;intro pp ia l hl;simp only[QZ,Zz,or_false]at ia;rcases ia with rfl|rfl|rfl|rfl|rfl|rfl
  ·change l∈An [(i,0,HL w o t)]at hl;refine⟨λh=>?_,λh=>Ey h⟩;change l∈Ag (0::fr) 0 4 at h;exact(n0 0).mp ((D_ hl).symm.trans (E8 h))
  ·change l∈An [(i,0,HL w o t)]at hl;exact⟨λh=>Ey h,λh=>(n0 14).mp ((D_ hl).symm.trans (D_ h))⟩
  ·exact Ey hl
  ·have y:l.1=14::fr:=D_ hl;refine⟨λh=>?_,λh=>Ey h⟩;change l∈Ag (0::fr) 0 4 at h;have:=y.symm.trans (E8 h);simp at this
  ·have y:l.1=14::fr:=D_ hl;refine⟨λh=>?_,λh=>?_⟩
   ·rcases ZD.1 h with h|h
    ·grind [E8]
    ·rw[a1]at h;rw[Zh.1 h]at y;exact hW.loc 14 y
   ·change l∈An [(i,0,HL w o t)]at h;exact(n0 14).mp ((D_ h).symm.trans y)
  ·exact⟨λh=>Ey h,λh=>Ey h⟩
 have b:=aFE w o e h0 he;have d:(e=0)=False:=eq_false O;simp only[↓GQ,GT,GS,simprocAttr,d,Bu SU 176];refine BF c1.put.put b (λM2 d1 d2=>?_);simp only[↓GQ,GX,simprocAttr];exact d1.end0 x.2.2
def aKl(w:Wb)(o:Oc)(p:Bs)(s:Sc)(cas:Int)(data:Bs)(h0:Oc0 o)(hs:s.rs.length<=800)(f:s.nl=true->s.rs=[])(hp:p.length<=1000000)(hd:data.length<=1000000)(hm:w.v.ms.length<=1000)(r:Sc×Int×List Int×Int)(j:CL s (Cv w.v p).1 (Cv w.v p).2 cas data.length=r)(he:r.2.2.2=0)(ta:r.1.rs.length<=1000)(hg:r.2.2.1.length<=900):zS w o [.str p,.agg (Hw s),.int .i64 cas,.str data]=some (.tup [],uL o p r data,some (if r.2.2.1=[]then [11,30]else [11,11*r.2.2.1.length,34])):=by
 refine C8 (λ_=>h0.ops) ⟨Qi rfl,λh=>Xd,λl h=>(by simp only[Qt]at h;subst h;exact⟨by simp[uL,C9,Oc.op],by split<;>simp⟩),λi m fr t ha na ka n0=>?_⟩;have hW:=Wt.start ha na;unfold aEd;have a:=sE s (Cv w.v p).1 (Cv w.v p).2 cas data.length O f;rw[j]at a;obtain⟨s2,n,z,e⟩:=r;simp only at he a ta hg ⊢;subst he;have c:=rT w o p (λ_=>h0.ops) hm;generalize Cv w.v p=qb at *;unfold Hw at *;simp only[GU,↓GQ,GS,simprocAttr,Bu SU 257];refine Lq hW.put c (λM u hu c1 c2=>?_);simp only[GU,↓GQ,GS,simprocAttr,Ad SU 321,a];refine aA ?_ ?_
 ·subst hu;have a1:=aS6 (hW.put (q:=0) (p:=0) (ys:=[.int .i64 s.mx,.bool s.cas,.int .i64 s.la,.slice s.nl [] (BS s.rs)])).at_.1;intro pp ia l hl;simp only[QZ,Zz,or_false]at ia;rcases ia with rfl|rfl|rfl|rfl|rfl|rfl
  ·change l∈An [(i,0,HL w o t)]at hl;refine⟨λh=>?_,λh=>Ey h⟩;change l∈Ag (0::fr) 0 4 at h;exact(n0 0).mp ((D_ hl).symm.trans (E8 h))
  ·change l∈An [(i,0,HL w o t)]at hl;exact⟨λh=>Ey h,λh=>(n0 14).mp ((D_ hl).symm.trans (D_ h))⟩
  ·exact Ey hl
  ·have y:l.1=14::fr:=D_ hl;refine⟨λh=>?_,λh=>Ey h⟩;change l∈Ag (0::fr) 0 4 at h;have:=y.symm.trans (E8 h);simp at this
  ·have y:l.1=14::fr:=D_ hl;refine⟨λh=>?_,λh=>?_⟩
   ·rcases ZD.1 h with h|h
    ·grind [E8]
    ·rw[a1]at h;rw[Zh.1 h]at y;exact hW.loc 14 y
   ·change l∈An [(i,0,HL w o t)]at h;exact(n0 14).mp ((D_ h).symm.trans y)
  ·exact⟨λh=>Ey h,λh=>Ey h⟩
 have b:=aKk w o p s2 (λ_=>h0.ops) (by rw[h0.ops];simp) ta hp;have x:=FI 2 n p hp;have g:=Rc w (o.op 1 (A9 1 p 0) (IA s2)) 1 (A9 2 p n) data (λh=>Xd) (by simp[Oc.op,h0.ops]);have d:=aKj w ((o.op 1 (A9 1 p 0) (IA s2)).op 1 (A9 2 p n) data) p (decide (z=[])) [] z (λh=>Xd) (by simp[Oc.op,h0.ops];omega) hp;have k:=Wj w (C9 ((o.op 1 (A9 1 p 0) (IA s2)).op 1 (A9 2 p n) data) p z) (.number n) (λh=>by simp[C9,Oc.op]at h) trivial trivial;unfold Hw at b;unfold HJ at k;simp only[GU,↓GQ,GS,simprocAttr,Bu SU 322];refine BF c1.put.put b (λM2 d1 d2=>?_);simp only[↓GQ,GT,simprocAttr,Ad SU 245,x,Bu SU 244];refine BF d1 g (λM3 e1 e2=>?_);simp only[↓GQ,GX,Hf,simprocAttr,Bu SU 323];refine BF e1 d (λM4 f1 f2=>?_);simp only[↓GQ,GT,GS,simprocAttr,Bu SU 177];refine BF f1 k (λM5 g1 g2=>?_);simp only[↓GQ,GX,simprocAttr];unfold eL at g1;split
 ·rename_i ab;rw[if_pos ab]at g1;exact g1.endl (l:=[11,30]) U
 ·rename_i ab;rw[if_neg ab]at g1;exact g1.endl (l:=[11,11*z.length,34]) U
def aSR:=y0 f186 [(7,[(7,0),(7,12),(7,17),(7,23),(18,23),(23,0),(23,6),(23,7),(23,12),(23,17),(23,18)]),(16,[(6,10),(10,0),(10,5),(10,6)]),(19,[(6,10),(10,0),(10,5),(10,6)]),(2,[(6,11),(11,0),(11,5),(11,6)])] []
def Wt.endc{i fr t0:Id}{m0 m:GV}{nl0:Bool}{w:Wb}{o:Oc}{k:Nat}{d:D}{ol:Option (List Nat)}(h:Wt i fr m0 nl0 t0 m w o (OO t0 (k::fr) ol))(z:nl0=true->t0=[]):WE i fr m0 nl0 t0 w (d,o,ol.map (·++[k])) d m:=by
 cases ol with
 |none=>exact h.end0 z
 |some l=>
  have q:Wt i fr m0 nl0 t0 m w o ((l++[k])++fr):=by simpa[OO]using h
  exact q.endl U
def TI{S:GR}{b:DC}{rs:List RV}{N:Nat}{w:Wb}{o o':Oc}{v:List D}{d:D}{ol:Option (List Nat)}{k:Nat}(j:RW S b rs N w o v=some (d,o',ol))(h:ol.map (·++[k])=none):o'.nl=o.nl∧o'.ops=o.ops:=(LZ j).2.1 Xp
def TH{S:GR}{b:DC}{rs:List RV}{N:Nat}{w:Wb}{o o':Oc}{v:List D}{d:D}{ol:Option (List Nat)}{k:Nat}{l:List Nat}(j:RW S b rs N w o v=some (d,o',ol))(h:ol.map (·++[k])=some l):o'.nl=false∧l≠[]:=by
 cases ol with
 |none=>cases h
 |some z=>
  simp only[QD,Qt]at h;subst h;exact⟨((LZ j).2.2.1 z rfl).1,U⟩
def S64:=Az [(252,wQ LC),(255,wQ zS)]
def W64:Wb->Oc->List D->Option WY:=RW S64 aSR [] 172
def bAh:(wQ W64).ok Qo 186:=FZ (Al func186) (Aa aMZ (Aa aXz Ae))
def aFB(w:Wb)(o:Oc)(s:Sc)(y:Bool)(e:Oc)(r:o.nl=true->o.ops=[])(v:LC w o [.str w.a.pa]=some (.tup [.agg (Hw s),.bool y,.bool false],e,none)):W64 w o []=some (.tup [],e,none):=by
 refine C8 r ⟨Qi rfl,λh=>((LZ v).2.1 rfl),λl h=>Xd,λi m fr t x na p n0=>?_⟩;have d:=Wt.start x na;unfold aSR;have g:=CM x.1;unfold Hw at *;simp only[↓GQ,GX,Hf,GS,simprocAttr,g,Bu S64 252];refine BF d v (λM c1 c2=>?_);simp only[GU,↓GQ,GS,simprocAttr];exact c1.put.put.end0 x.2.2
def zO(w:Wb)(o:Oc)(s:Sc)(y:Bool)(e:Oc)(ol:Option (List Nat))(r:o.nl=true->o.ops=[])(v:LC w o [.str w.a.pa]=some (.tup [.agg (Hw s),.bool y,.bool true],o,none))(f:w.a.op=10)(b:zS w o [.str w.a.pa,.agg (Hw s),.int .i64 w.a.cas,.str w.a.da]=some (.tup [],e,ol)):W64 w o []=some (.tup [],e,ol.map (·++[41])):=by
 refine C8 r ⟨Qi rfl,λh=>TI b h,λl h=>TH b h,λi m fr t x na k n0=>?_⟩;have d:=Wt.start x na;unfold aSR;have g:=CM x.1;unfold Hw at *;simp only[↓GQ,GX,Hf,GS,simprocAttr,g,Bu S64 252];refine BF d v (λM c1 c2=>?_);have g:=CM c1.at_.1;simp only[GU,↓GQ,GS,simprocAttr,g,n0,Bu S64 255,f];refine Lq c1.put.put b (λj u n d1 d2=>?_);simp only[↓GQ,Hx,simprocAttr];refine aA (λp z=>by cases z) ?_;simp only[↓GQ,GX,simprocAttr];exact d1.endc x.2.2
def Td:=Az [(252,wQ LC),(176,wQ W54),(253,Ac nD),(245,Ac S2),(254,Ac nC),(250,wQ aFG),(177,wQ W55)]
def W63:Wb->Oc->List D->Option WY:=RW Td lQ [] 113
def bAi:(wQ W63).ok Qo 185:=FZ (Al func185) (Aa aMZ (Aa aRE (Aa aXA (Aa Ub (Aa aMY (Aa aM0 (Aa aRD Ae)))))))
def aFD(w:Wb)(o:Oc)(s:Sc)(y:Bool)(e:Oc)(r:o.nl=true->o.ops=[])(v:LC w o [.str w.a.pa]=some (.tup [.agg (Hw s),.bool y,.bool false],e,none)):W63 w o []=some (.tup [],e,none):=by
 refine C8 r ⟨Qi rfl,λh=>((LZ v).2.1 rfl),λl h=>Xd,λi m fr t x na p n0=>?_⟩;have d:=Wt.start x na;unfold lQ;have g:=CM x.1;unfold Hw at *;simp only[↓GQ,GX,Hf,GS,simprocAttr,g,Bu Td 252];refine BF d v (λM c1 c2=>?_);simp only[GU,↓GQ,GS,simprocAttr];exact c1.put.put.end0 x.2.2
def aFC(w:Wb)(o:Oc)(s:Sc)(e:Oc)(ol:Option (List Nat))(r:o.nl=true->o.ops=[])(v:LC w o [.str w.a.pa]=some (.tup [.agg (Hw s),.bool false,.bool true],o,none))(b:W54 w o [.int .i64 6]=some (.tup [],e,ol)):W63 w o []=some (.tup [],e,ol.map (·++[20])):=by
 refine C8 r ⟨Qi rfl,λh=>TI b h,λl h=>TH b h,λi m fr t x na p n0=>?_⟩;have d:=Wt.start x na;unfold lQ;have g:=CM x.1;unfold Hw at *;simp only[↓GQ,GX,Hf,GS,simprocAttr,g,Bu Td 252];refine BF d v (λM c1 c2=>?_);have g:=CM c1.at_.1;simp only[GU,↓GQ,GS,simprocAttr,Bu Td 176];refine BF c1.put.put b (λj d1 d2=>?_);simp only[↓GQ,GX,simprocAttr];exact d1.endc x.2.2
def zQ(w:Wb)(o:Oc)(s:Sc)(y:Oc)(ol:Option (List Nat))(r:o.nl=true->o.ops=[])(v:LC w o [.str w.a.pa]=some (.tup [.agg (Hw s),.bool true,.bool true],o,none))(f:w.a.op=9)(nn e:Int)(z j:Bool)(u:nD [.agg (Hw s),.int .i64 (w.a.n)]=some (.tup [.agg [.int .i64 nn,.bool z,.bool j],.int .i64 e]))(q:e≠0)(b:W54 w o [.int .i64 e]=some (.tup [],y,ol)):W63 w o []=some (.tup [],y,ol.map (·++[44])):=by
 refine C8 r ⟨Qi rfl,λh=>TI b h,λl h=>TH b h,λi m fr t x na p n0=>?_⟩;have d:=Wt.start x na;unfold lQ;have g:=CM x.1;unfold Hw at *;simp only[↓GQ,GX,Hf,GS,simprocAttr,g,Bu Td 252];refine BF d v (λM c1 c2=>?_);have g:=CM c1.at_.1;simp only[GU,↓GQ,GS,simprocAttr,g,n0,Ad Td 253,u,eq_false q,Bu Td 176,f];refine BF c1.put.put.put.put b (λk d1 d2=>?_);simp only[↓GQ,GX,simprocAttr];exact d1.endc x.2.2
def zP(w:Wb)(o:Oc)(s:Sc)(e:Oc)(ol:Option (List Nat))(c:o.nl=true->o.ops=[])(v:LC w o [.str w.a.pa]=some (.tup [.agg (Hw s),.bool true,.bool true],o,none))(f:w.a.op=9)(nn:Int)(j rb:Bool)(b:nD [.agg (Hw s),.int .i64 (w.a.n)]=some (.tup [.agg [.int .i64 nn,.bool j,.bool rb],.int .i64 0]))(at_ r:Bs)(y:Bool)(x:S2 [.int .u8 2,.str w.a.pa,.int .i64 nn]=some (.str at_))(ba:nC [.agg (Ie w.k),.str at_]=some (.tup [.str r,.bool y,.bool false]))(z:aFG w o [.str at_,.bool false]=some (.tup [],e,ol)):W63 w o []=some (.tup [],e,ol.map (·++[69])):=by
 refine C8 c ⟨Qi rfl,λh=>TI z h,λl h=>TH z h,λi m fr t q na ka n0=>?_⟩;have d:=Wt.start q na;unfold lQ;have g:=CM q.1;unfold Hw at *;unfold Ie at ba;simp only[↓GQ,GX,Hf,GS,simprocAttr,g,Bu Td 252];refine BF d v (λM c1 c2=>?_);have g:=CM c1.at_.1;simp only[GU,↓GQ,GS,simprocAttr,g,n0,Ad Td 253,b,Ad Td 245,x,f];refine aA (λp u=>by cases u) ?_;simp only[GU,↓GQ,GS,simprocAttr,g,n0,Ad Td 254,ba,Bu Td 250];refine BF c1.put.put.put.put z (λM2 d1 d2=>?_);simp only[↓GQ,GX,simprocAttr];exact d1.endc q.2.2
def fO(w:Wb)(o:Oc)(s:Sc)(e:Oc)(ol:Option (List Nat))(c:o.nl=true->o.ops=[])(v:LC w o [.str w.a.pa]=some (.tup [.agg (Hw s),.bool true,.bool true],o,none))(f:w.a.op=9)(nn:Int)(j rb:Bool)(b:nD [.agg (Hw s),.int .i64 (w.a.n)]=some (.tup [.agg [.int .i64 nn,.bool j,.bool rb],.int .i64 0]))(at_ r:Bs)(x:S2 [.int .u8 2,.str w.a.pa,.int .i64 nn]=some (.str at_))(z:nC [.agg (Ie w.k),.str at_]=some (.tup [.str r,.bool true,.bool true]))(d:W55 w o [.agg (HJ (.found nn r))]=some (.tup [],e,ol)):W63 w o []=some (.tup [],e,ol.map (·++[81])):=by
 refine C8 c ⟨Qi rfl,λh=>TI d h,λl h=>TH d h,λi m fr t q na ka n0=>?_⟩;have y:=Wt.start q na;unfold lQ;have g:=CM q.1;unfold Hw at *;unfold Ie at z;simp only[↓GQ,GX,Hf,GS,simprocAttr,g,Bu Td 252];refine BF y v (λM c1 c2=>?_);have g:=CM c1.at_.1;simp only[GU,↓GQ,GS,simprocAttr,g,n0,Ad Td 253,b,Ad Td 245,x,f];refine aA (λp u=>by cases u) ?_;simp only[GU,↓GQ,GS,simprocAttr,g,n0,Ad Td 254,z,Bu Td 177,f];refine BF c1.put.put.put.put d (λM2 d1 d2=>?_);simp only[↓GQ,GX,simprocAttr];exact d1.endc q.2.2
def Wi(w:Wb)(o:Oc)(s:Sc)(e:Oc)(ol:Option (List Nat))(c:o.nl=true->o.ops=[])(v:LC w o [.str w.a.pa]=some (.tup [.agg (Hw s),.bool true,.bool true],o,none))(f:w.a.op=9)(nn:Int)(j rb:Bool)(b:nD [.agg (Hw s),.int .i64 (w.a.n)]=some (.tup [.agg [.int .i64 nn,.bool j,.bool rb],.int .i64 0]))(at_ r:Bs)(x:S2 [.int .u8 2,.str w.a.pa,.int .i64 nn]=some (.str at_))(z:nC [.agg (Ie w.k),.str at_]=some (.tup [.str r,.bool false,.bool true]))(d:W55 w o [.agg (HJ (.found nn []))]=some (.tup [],e,ol)):W63 w o []=some (.tup [],e,ol.map (·++[82])):=by
 refine C8 c ⟨Qi rfl,λh=>TI d h,λl h=>TH d h,λi m fr t q na ka n0=>?_⟩;have y:=Wt.start q na;unfold lQ;have g:=CM q.1;unfold Hw at *;unfold Ie at z;simp only[↓GQ,GX,Hf,GS,simprocAttr,g,Bu Td 252];refine BF y v (λM c1 c2=>?_);have g:=CM c1.at_.1;simp only[GU,↓GQ,GS,simprocAttr,g,n0,Ad Td 253,b,Ad Td 245,x,f];refine aA (λp u=>by cases u) ?_;simp only[GU,↓GQ,GS,simprocAttr,g,n0,Ad Td 254,z,Bu Td 177,f];refine BF c1.put.put.put.put d (λM2 d1 d2=>?_);simp only[↓GQ,GX,simprocAttr];exact d1.endc q.2.2
def aOA:=y0 f70 [] []
def aPr:=y0 f27 [] []
end Go.Vd
end
