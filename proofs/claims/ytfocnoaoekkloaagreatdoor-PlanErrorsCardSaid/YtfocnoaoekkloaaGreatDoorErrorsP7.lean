/-
  A part of the proof: the program at hand. Nothing in it is assumed.
-/
import Derived.Test.YtfocnoaoekkloaaGreatDoorErrorsP6
import Derived.Test.YtfocnoaoekkloaaGreatDoorProg
import Derived.Lib.AppendZeros
import Derived.WalkKit
import Derived.Deep.Slices
import Derived.Deep.Fields
import Derived.ChangeSame
import Derived.ChangeArms

set_option linter.unusedSimpArgs false
set_option linter.unusedVariables false
set_option linter.defProp false
set_option maxHeartbeats 4000000
set_option maxRecDepth 100000
open Go.Proofs.Tryz renaming prog→Qa
open List renaming getElem?_eq_getElem→Qb,getElem?_cons_zero→Qc,getElem?_append_right→Qg,getElem?_append_left→Qh,drop_succ_cons→Qj,getElem?_cons_succ→Qk,mem_singleton→Qm,drop_zero→Qo,head?_cons→Qq,length_append→Qs,getElem_of_mem→Qu,getElem?_eq_some_iff→Qx,mem_cons_of_mem→QC,take_succ_cons→QD,map_cons→QE,map_nil→QG,mem_map→QH
open Nat renaming zero_add→Qd,zero_le→Qe,le_trans→Qy,le_of_ble_eq_true→QA,le_refl→QB
open Option renaming isSome_some→Qf,map_some→Qr,getD_some→Qt
open Option.some renaming injEq→Qi,inj→QI
open Bool renaming and_eq_true→Ql,or_eq_false_iff→Qp
open Int renaming toNat_natCast→Qn,lt_irrefl→QF
open Array renaming getD_eq_getD_getElem?→Qv,getElem?_eq_some_iff→Qw
open List.cons renaming injEq→Qz
open Go.Proofs.Tryz
noncomputable section
namespace Go.Vd
open Go.Proofs Go.RowKit
def numA(a:Ak):Int:=if a.op=18 then 0 else a.n
def rowE(k:Kn)(a:Ak):Rw×Int:=readS (secG (Dw (A9 k a.pa))) (numA a)
def dataK(k:Kn)(a:Ak):Bs:=Bn 2 a.pa (rowE k a).1.1
def textE(k:Kn)(a:Ak):Bs:=if(entE k (dataK k a)).2.1=true then(entE k (dataK k a)).1 else []
def dataE(v:Vw)(a:Ak)(k:Kn):Oc:=
 if(A9 k a.pa).2.2=false then Dz v (Bn 1 a.pa 0) false
 else if(Dw (A9 k a.pa)).isSome=false then failO v 6
 else if(rowE k a).2≠0 then failO v (rowE k a).2
 else if(entE k (dataK k a)).2.2=false then Dz v (dataK k a) false
 else if a.op=9 then {oc0 v with rep:=ryT (.found (rowE k a).1.1 (textE k a))}
 else if(A9 k a.ot).2.2=false then Dz v (Bn 1 a.ot 0) false
 else writeE v a.ot (secG (Dw (A9 k a.ot))) (-1) (textE k a)
section
variable{v:Vw}{a:Ak}{k:Kn}
def text_len(hk:KnOk k):(textE k a).length<=400:=by
 unfold textE;split
 ·exact ent_len hk _
 ·exact Qe _
def rwd_eta(r:Rw):rwD r= .agg [.int .i64 r.1,.bool r.2.1,.bool r.2.2]:=rfl
def wc63(hv:ViewI v)(ha:AskI a)(hk:KnOk k)(hop:a.op=9∨a.op=18):∃ol,W63 ⟨v,a,k⟩ (oc0 v) []=some (.tup [],dataE v a k,ol):=by
 have hp:a.pa.length<=1000000:=by have:=ha.ok.pa;omega
 have hq:a.ot.length<=1000000:=by have:=ha.ok.ot;omega
 have hkl:k.es.length<=1000:=by have:=hk.es;omega
 have htl:=text_len (a:=a) hk;unfold dataE;cases hm:(A9 k a.pa).2.2 with
 |false=>
  rw[if_pos rfl];exact⟨_,W63_need ⟨v,a,k⟩ (oc0 v) _ _ _ (λ_=>rfl) (w135_need hk hp hm)⟩
 |true=>
  rw[if_neg (by decide)];have h135:=Ga (v:=v) (a:=a) hk hp hm;have hsg:=Gl (A9 k a.pa);have hl:=hsg.len;cases hs:(Dw (A9 k a.pa)).isSome with
  |false=>
   rw[if_pos rfl];rw[hs]at h135;exact⟨_,W63_none ⟨v,a,k⟩ (oc0 v) _ _ _ (λ_=>rfl) h135 (w54 v a k (by decide))⟩
  |true=>
   rw[if_neg (by decide)];rw[hs]at h135;have h136:=R136_eq (secG (Dw (A9 k a.pa))) (numA a) (by omega);rw[rwd_eta]at h136;have hrb:=read_bd (secG (Dw (A9 k a.pa))) (numA a);have h123:=CP 2 (rowE k a).1.1 a.pa hp;have h137:=R137_eq k (dataK k a) hkl;unfold textE at htl ⊢;unfold rowE dataK rowE at *;generalize readS (secG (Dw (A9 k a.pa))) (numA a)=row at *;obtain⟨⟨n,r1,r2⟩,e⟩:=row;simp only at *;by_cases he:e≠0
   ·rw[if_pos he];rcases hop with h9|h18
    ·have hnum:numA a=a.n:=by unfold numA;rw[h9];rfl
     rw[hnum]at h136;exact⟨_,W63_fail9 ⟨v,a,k⟩ (oc0 v) _ _ _ (λ_=>rfl) h135 h9 n e r1 r2 h136 he (w54 v a k (by omega))⟩
    ·have hnum:numA a=0:=by unfold numA;rw[if_pos h18]
     rw[hnum]at h136;exact⟨_,W63_fail18 ⟨v,a,k⟩ (oc0 v) _ _ _ (λ_=>rfl) h135 h18 n e r1 r2 h136 he (w54 v a k (by omega))⟩
   ·rw[if_neg he];obtain rfl:=Decidable.not_not.1 he;generalize Bn 2 a.pa n=q at *;generalize entE k q=en at *;obtain⟨t1,t2,t3⟩:=en;simp only at *;rcases hop with h9|h18
    ·have hnum:numA a=a.n:=by unfold numA;rw[h9];rfl
     rw[hnum]at h136;cases t3 with
     |false=>
      rw[if_pos rfl];exact⟨_,W63_need9 ⟨v,a,k⟩ (oc0 v) _ _ _ (λ_=>rfl) h135 h9 n r1 r2 h136 q _ _ h123 h137 (W133_eq ⟨v,a,k⟩ (oc0 v) q false (oc00 v))⟩
     |true=>
      rw[if_neg (by decide),if_pos h9];cases t2 with
      |true=>exact⟨_,W63_read_in ⟨v,a,k⟩ (oc0 v) _ _ _ (λ_=>rfl) h135 h9 n r1 r2 h136 q _ h123 h137 (GF ⟨v,a,k⟩ (oc0 v) (.found n t1) (λ_=>rfl) trivial trivial)⟩
      |false=>exact⟨_,W63_read_out ⟨v,a,k⟩ (oc0 v) _ _ _ (λ_=>rfl) h135 h9 n r1 r2 h136 q _ h123 h137 (GF ⟨v,a,k⟩ (oc0 v) (.found n []) (λ_=>rfl) trivial trivial)⟩
    ·have hnum:numA a=0:=by unfold numA;rw[if_pos h18]
     have h9:¬a.op=9:=by omega
     rw[hnum]at h136;cases t3 with
     |false=>
      rw[if_pos rfl];exact⟨_,W63_need18 ⟨v,a,k⟩ (oc0 v) _ _ _ (λ_=>rfl) h135 h18 n r1 r2 h136 q _ _ h123 h137 (W133_eq ⟨v,a,k⟩ (oc0 v) q false (oc00 v))⟩
     |true=>
      rw[if_neg (by decide),if_neg h9];cases hm2:(A9 k a.ot).2.2 with
      |false=>
       rw[if_pos rfl];have h135b:=w135_need (v:=v) (a:=a) hk hq hm2;cases t2 with
       |true=>exact⟨_,W63_copy_need_in ⟨v,a,k⟩ (oc0 v) _ _ (λ_=>rfl) h135 h18 n r1 r2 h136 q _ h123 h137 _ _ h135b⟩
       |false=>exact⟨_,W63_copy_need_out ⟨v,a,k⟩ (oc0 v) _ _ (λ_=>rfl) h135 h18 n r1 r2 h136 q _ h123 h137 _ _ h135b⟩
      |true=>
       rw[if_neg (by decide)];have h135b:=Ga (v:=v) (a:=a) hk hq hm2;cases t2 with
       |true=>
        obtain⟨ol,h138⟩:=w138 (a:=a) (k:=k) hv hq (Gl (A9 k a.ot)) (cas:=-1) (data:=t1) (by simp only[if_true]at htl;omega);exact⟨_,W63_copy_in ⟨v,a,k⟩ (oc0 v) _ _ _ (λ_=>rfl) h135 h18 n r1 r2 h136 q _ h123 h137 _ _ h135b h138⟩
       |false=>
        obtain⟨ol,h138⟩:=w138 (a:=a) (k:=k) hv hq (Gl (A9 k a.ot)) (cas:=-1) (data:=[]) (Qe _);exact⟨_,W63_copy_out ⟨v,a,k⟩ (oc0 v) _ _ _ (λ_=>rfl) h135 h18 n r1 r2 h136 q _ h123 h137 _ _ h135b h138⟩
def data_ok(hk:KnOk k)(hr:AP a.pa=0)(hr2:a.op=18->AP a.ot=0)(hop:a.op=9∨a.op=18):((dataE v a k).need=[]->Good v a (dataE v a k))∧((dataE v a k).need≠[]->∃q li,dataE v a k=Dz v q li):=by
 have htl:=text_len (a:=a) hk;have fin:∀{o:Oc},o.need=[]->Good v a o->(o.need=[]->Good v a o)∧(o.need≠[]->∃q li,o=Dz v q li):=λh1 h2=>⟨λ_=>h2,λh=>absurd h1 h⟩
 have fin2:∀{q:Bs} {li:Bool},q≠[]->((Dz v q li).need=[]->Good v a (Dz v q li))∧((Dz v q li).need≠[]->∃q' li',Dz v q li=Dz v q' li'):=λh=>⟨λe=>absurd e h,λ_=>⟨_,_,rfl⟩⟩
 unfold dataE;cases hm:(A9 k a.pa).2.2 with
 |false=>rw[if_pos rfl];exact fin2 (key_ne (row1 hr))
 |true=>
  rw[if_neg (by decide)];cases hs:(Dw (A9 k a.pa)).isSome with
  |false=>rw[if_pos rfl];exact fin rfl (BP (by decide))
  |true=>
   rw[if_neg (by decide)];have hrb:=read_bd (secG (Dw (A9 k a.pa))) (numA a);by_cases he:(rowE k a).2≠0
   ·rw[if_pos he];exact fin rfl (BP ⟨by unfold rowE at *;omega,hrb.2⟩)
   rw[if_neg he];have hrow:1<=(rowE k a).1.1∧(rowE k a).1.1<=30:=read_row (Gl _) (Decidable.not_not.1 he);cases ht:(entE k (dataK k a)).2.2 with
   |false=>rw[if_pos rfl];exact fin2 (key_ne (row2 hr hrow))
   |true=>
    rw[if_neg (by decide)];by_cases h9:a.op=9
    ·rw[if_pos h9];exact fin rfl (F_ (.found _ _) (if_pos ⟨by omega,by omega,htl⟩) trivial rfl (by intro e h;cases h) (wr_no (by omega)) rfl v.se rfl)
    rw[if_neg h9];have h18:a.op=18:=by omega
    cases hm2:(A9 k a.ot).2.2 with
    |false=>rw[if_pos rfl];exact fin2 (key_ne (row1 (hr2 h18)))
    |true=>
     rw[if_neg (by decide)];obtain⟨w1,w2⟩:=writeE_ok (v:=v) (a:=a) (p:=a.ot) (Gl (A9 k a.ot)) (cas:=-1) (data:=textE k a) (hr2 h18) (wr_of (by omega));exact fin w1 w2
end
def dec_data{v:Vw}{a:Ak}(hv:ViewI v)(ha:AskI a)(h25:F25 [vwD v,akD a]=some (.int .i64 0))(hr:AP a.pa=0)(hr2:a.op=18->AP a.ot=0)(hop:a.op=9∨a.op=18):DecOk v a (dataE v a):=by
 refine⟨λk hk=>?_,λk hk hn=>(data_ok hk hr hr2 hop).1 hn,λk hk hn=>(data_ok hk hr hr2 hop).2 hn⟩;obtain⟨ol,h⟩:=wc63 hv ha hk hop;rcases hop with e|e
 ·exact Bv .o9 a k e h25 _ _ h
 ·exact Bv .o18 a k e h25 _ _ h
def dec_all{v:Vw}{a:Ak}(hv:ViewI v)(ha:AskI a):∃dec,DecOk v a dec∧(Ds v a≠0->∀k,dec k=failO v (Ds v a)):=by
 have h25:=F25_eq hv.ok ha.ok;have hb:=refA_bd v a;by_cases h:Ds v a=0
 ·rw[h]at h25;have hc:=check_zero h;obtain⟨h1,h2⟩:=op_of hc ha.ok.op0;by_cases h8:a.op<=8
  ·obtain⟨dec,X⟩:=dec_sys hv ha h25 hc h1 h8;exact⟨dec,X,λe=>absurd h e⟩
  have hr:=path_of hc (by omega) h2;by_cases h17:a.op=17
  ·exact⟨_,dec_list hv ha h25 h17,λe=>absurd h e⟩
  by_cases h9:a.op=9∨a.op=18
  ·exact⟨_,dec_data hv ha h25 hr (λe=>other_of hc e) h9,λe=>absurd h e⟩
  ·exact⟨_,dec_change hv ha h25 hr (by omega),λe=>absurd h e⟩
 ·exact⟨_,dec_fail h25 (by omega),λ_ _=>rfl⟩
def n0:Vw:=keyV [107] false
def nT:List Mt:=[([97],2,false)]
def n1:Vw:={n0 with nlm:=false,ms:=nT}
def qA(op:Int)(tk pa:Bs)(n:Int):Ak:=⟨op,tk,pa,[],n,0,false,true,[],[],true,[],[]⟩
def rt:Bs:=[114,111,111,116]
def pab:Bs:=[97,47,98]
def nK0:Kn:=⟨[],[]⟩
def nK1:Kn:=⟨[([109,47,97,47,98],[],false)],[]⟩
def DL(w r:Bs)(nl:Bool)(t:Id)(xs:List D)(v:Vw):List D:=[.str w,.bool false,.str r,.slice nl t xs]++vwC v
def outN_cells(w r:Bs)(nl:Bool)(t:Id)(xs:List D)(v:Vw):D.cells (.agg (DL w r nl t xs v))=DL w r nl t xs v:=rfl
def outN_len(w r:Bs)(nl:Bool)(t:Id)(xs:List D)(v:Vw):(DL w r nl t xs v).length=9:=rfl
def rd_vwN{m:Mem}{i:Id}(v:Vw):Ag (m.put i 0 (vwC v)) i 0 5=some (vwC v):=AO rfl
def Ez{m:Mem}{i:Id}{cs:List D}{k:Nat}{d:D}(h:cs[k]?=some d):(m.put i 0 cs) i k=some d:=by
 have hk:=(Qx.1 h).1;have:=Mem.put_same (m:=m) (i:=i) (o:=0) hk;rw[Qd]at this;rw[this,h]
def nv_ok(ms:List Mt)(nl:Bool)(h:ms.length<=1000∧∀m∈ms,m.1.length<=1000):VwOk {n0 with nlm:=nl,ms:=ms}:=⟨h.1,h.2,(show n0.ks.length<=1000 by decide),λk hk=>by
 have e:k=firstTk:=by simpa[n0,keyV]using hk
 subst e;exact⟨⟨by decide,by decide⟩,⟨by decide,λr hr=>by rw[Qm.1 hr];decide,λr hr=>by rw[Qm.1 hr];decide⟩⟩⟩
def n0_ok:VwOk n0:=nv_ok [] true ⟨by decide,λm hm=>by cases hm⟩
def n1_ok:VwOk n1:=nv_ok nT false ⟨by decide,λm hm=>by rw[Qm.1 hm];decide⟩
def qA_ok{op:Int}{tk pa:Bs}{n:Int}(h0:0<=op)(h1:op<256)(h2:tk.length<=1000)(h3:pa.length<=1000):AkOk (qA op tk pa n):=⟨h0,h1,h2,h3,Qe _,Qe _,Qe _,Qe _,λr hr=>(by cases hr),Qe _⟩
def nk_ok(k:Kn)(h:k=nK0∨k=nK1):KnOk k:=by
 rcases h with rfl|rfl
 ·exact⟨by decide,by decide,λx hx=>(by cases hx),λx hx=>(by cases hx)⟩
 ·exact⟨by decide,by decide,λx hx=>by rw[Qm.1 hx];decide,λx hx=>(by cases hx)⟩
def n19a:R19 En EH [vwD n0,akD (qA 1 [] [] 0),.agg (kwC nK0)]=some (.agg (DL [] [111,107,32,111,112,101,110] true [] [] n0)):=by
 have h25:=F25_eq n0_ok (qA_ok (op:=1) (tk:=[]) (pa:=[]) (n:=0) (by decide) (by decide) (by decide) (by decide));rw[show Ds n0 (qA 1 [] [] 0)=0 by kernel_rfl]at h25;have h:=Bv (G1:=En) (G2:=EH) (v:=n0) .o1 (qA 1 [] [] 0) nK0 rfl h25 _ _ (GF ⟨n0,qA 1 [] [] 0,nK0⟩ (oc0 n0) (.state n0.se) (λ_=>rfl) trivial trivial);rw[show ocU {oc0 n0 with rep:=ryT (.state n0.se)}=DL [] [111,107,32,111,112,101,110] true [] [] n0 by kernel_rfl]at h;exact h
def n19b:R19 En EH [vwD n0,akD (qA 9 rt pab 0),.agg (kwC nK0)]=some (.agg (DL [] [101,114,114,111,114,32,49,52] true [] [] n0)):=by
 have h25:=F25_eq n0_ok (qA_ok (op:=9) (tk:=rt) (pa:=pab) (n:=0) (by decide) (by decide) (by decide) (by decide));rw[show Ds n0 (qA 9 rt pab 0)=14 by kernel_rfl]at h25;have h:=R19_fail En EH n0 (qA 9 rt pab 0) nK0 14 (by decide) h25 _ _ (w54 n0 _ nK0 (by decide));rw[show ocU (failO n0 14)=DL [] [101,114,114,111,114,32,49,52] true [] [] n0 by kernel_rfl]at h;exact h
def n19c:R19 En EH [vwD n0,akD (qA 5 rt [97] 2),.agg (kwC nK0)]=some (.agg (DL [] [111,107] false [] [.agg [.int .u8 1,.str [115,47,109,111,117,110,116,115],.str (Cp nT)]] n1)):=by
 have h25:=F25_eq n0_ok (qA_ok (op:=5) (tk:=rt) (pa:=[97]) (n:=2) (by decide) (by decide) (by decide) (by decide));rw[show Ds n0 (qA 5 rt [97] 2)=0 by kernel_rfl]at h25;have h45:=F45_eq (nl:=true) (t:=[]) (l:=[]) (m:=([97],2,false)) (by decide) (λ_=>rfl) (by decide);rw[show E_ [] ([97],2,false)=(some nT,0)by kernel_rfl]at h45;have h:=Bv (G1:=En) (G2:=EH) (v:=n0) .o5 (qA 5 rt [97] 2) nK0 rfl h25 _ _ (W58_ok ⟨n0,qA 5 rt [97] 2,nK0⟩ (oc0 n0) false nT h45 (oc00 n0) ⟨by decide,λm hm=>by rw[Qm.1 hm];decide⟩);rw[show ocU (mntO (oc0 n0) false nT)=DL [] [111,107] false [] [.agg [.int .u8 1,.str [115,47,109,111,117,110,116,115],.str (Cp nT)]] n1 by kernel_rfl]at h;exact h
def n19d:R19 En EH [vwD n1,akD (qA 9 rt pab 0),.agg (kwC nK0)]=some (.agg (DL [109,47,97,47,98] [] true [] [] n1)):=by
 have h25:=F25_eq n1_ok (qA_ok (op:=9) (tk:=rt) (pa:=pab) (n:=0) (by decide) (by decide) (by decide) (by decide));rw[show Ds n1 (qA 9 rt pab 0)=0 by kernel_rfl]at h25;have h:=Bv (G1:=En) (G2:=EH) (v:=n1) .o9 (qA 9 rt pab 0) nK0 rfl h25 _ _ (W63_need ⟨n1,qA 9 rt pab 0,nK0⟩ (oc0 n1) _ _ _ (λ_=>rfl) (w135_need (nk_ok _ (.inl rfl)) (p:=pab) (by decide) (by kernel_rfl)));rw[show ocU (Dz n1 (Bn 1 pab 0) false)=DL [109,47,97,47,98] [] true [] [] n1 by kernel_rfl]at h;exact h
def n19e:R19 En EH [vwD n1,akD (qA 9 rt pab 0),.agg (kwC nK1)]=some (.agg (DL [] [101,114,114,111,114,32,54] true [] [] n1)):=by
 have h25:=F25_eq n1_ok (qA_ok (op:=9) (tk:=rt) (pa:=pab) (n:=0) (by decide) (by decide) (by decide) (by decide));rw[show Ds n1 (qA 9 rt pab 0)=0 by kernel_rfl]at h25;have h135:=Ga (v:=n1) (a:=qA 9 rt pab 0) (nk_ok _ (.inr rfl)) (p:=pab) (by decide) (by kernel_rfl);rw[show(Dw (A9 nK1 pab)).isSome=false by kernel_rfl]at h135;have h:=Bv (G1:=En) (G2:=EH) (v:=n1) .o9 (qA 9 rt pab 0) nK1 rfl h25 _ _ (W63_none ⟨n1,qA 9 rt pab 0,nK1⟩ (oc0 n1) _ _ _ (λ_=>rfl) h135 (w54 n1 _ nK1 (by decide)));rw[show ocU (failO n1 6)=DL [] [101,114,114,111,114,32,54] true [] [] n1 by kernel_rfl]at h;exact h
def ok10n:(Ac trueF).ok Qa 10:=by
 obtain⟨S,hS,hl⟩:=A6 (Ab ok23 (Ab (ko19 ok131 ok134) (Ab ko12 (Ab ok27 (Ab ok29 (Ab ok25 Ad))))));have s23:=hl 23 _ rfl;have s19:=hl 19 _ rfl;have s12:=hl 12 _ rfl;have s27:=hl 27 _ rfl;have s29:=hl 29 _ rfl;have s25:=hl 25 _ rfl;clear hl;refine Az hS fn10 (λds r h=>?_) (λds r h=>?_)
 ·unfold trueF at h;split at h
  ·simp
  ·cases h
 ·unfold trueF at h;split at h
  ·simp only[Qi]at h;subst h;have h23:F23 [.str [107]]=some (.agg (vwC n0)):=rfl;have ha:R19 En EH [.agg (vwC n0),.agg [.int .u8 1,.str [],.str [],.str [],.int .i64 0,.int .i64 0,.bool false,.slice true [] [],.str [],.slice true [] [],.str []],.agg [.slice true [] [],.slice true [] [],.slice true [] [],.slice true [] [],.slice true [] []]]=some (.agg (DL [] [111,107,32,111,112,101,110] true [] [] n0)):=n19a;have hb:R19 En EH [.agg (vwC n0),.agg [.int .u8 9,.str [114,111,111,116],.str [97,47,98],.str [],.int .i64 0,.int .i64 0,.bool false,.slice true [] [],.str [],.slice true [] [],.str []],.agg [.slice true [] [],.slice true [] [],.slice true [] [],.slice true [] [],.slice true [] []]]=some (.agg (DL [] [101,114,114,111,114,32,49,52] true [] [] n0)):=n19b;have hc:R19 En EH [.agg (vwC n0),.agg [.int .u8 5,.str [114,111,111,116],.str [97],.str [],.int .i64 2,.int .i64 0,.bool false,.slice true [] [],.str [],.slice true [] [],.str []],.agg [.slice true [] [],.slice true [] [],.slice true [] [],.slice true [] [],.slice true [] []]]=some (.agg (DL [] [111,107] false [] [.agg [.int .u8 1,.str [115,47,109,111,117,110,116,115],.str (Cp nT)]] n1)):=n19c;have hd:R19 En EH [.agg (vwC n1),.agg [.int .u8 9,.str [114,111,111,116],.str [97,47,98],.str [],.int .i64 0,.int .i64 0,.bool false,.slice true [] [],.str [],.slice true [] [],.str []],.agg [.slice true [] [],.slice true [] [],.slice true [] [],.slice true [] [],.slice true [] []]]=some (.agg (DL [109,47,97,47,98] [] true [] [] n1)):=n19d;have he:R19 En EH [.agg (vwC n1),.agg [.int .u8 9,.str [114,111,111,116],.str [97,47,98],.str [],.int .i64 0,.int .i64 0,.bool false,.slice true [] [],.str [],.slice true [] [],.str []],.agg [.slice false [] [.str [109,47,97,47,98]],.slice false [] [.str []],.slice false [] [.bool false],.slice true [] [],.slice true [] []]]=some (.agg (DL [] [101,114,114,111,114,32,54] true [] [] n1)):=n19e;have h12:R12 [.agg [.slice true [] [],.slice true [] [],.slice true [] [],.slice true [] [],.slice true [] []],.str [109,47,97,47,98],.str [],.bool false]=some (.agg [.slice false [] [.str [109,47,97,47,98]],.slice false [] [.str []],.slice false [] [.bool false],.slice true [] [],.slice true [] []]):=R12_eq nK0 [109,47,97,47,98] [] false (by decide);have h27:F27 [.int .u8 10]=some (.int .u8 2):=by kernel_rfl
   have h29:F29 [.int .u8 18]=some (.bool true):=by kernel_rfl
   have h29b:F29 [.int .u8 9]=some (.bool false):=by kernel_rfl
   have h25:F25 [.agg (vwC n0),.agg [.int .u8 0,.str [],.str [],.str [],.int .i64 0,.int .i64 0,.bool false,.slice true [] [],.str [],.slice true [] [],.str []]]=some (.int .i64 22):=by
    have e:=F25_eq n0_ok (qA_ok (op:=0) (tk:=[]) (pa:=[]) (n:=0) (by decide) (by decide) (by decide) (by decide));rw[show Ds n0 (qA 0 [] [] 0)=22 by kernel_rfl]at e;exact e
   have q0:∀(m:Mem)(i:Id)(w r:Bs)(nl:Bool)(t:Id)(xs:List D)(v:Vw),(m.put i 0 (DL w r nl t xs v)) i 0=some (.str w):=λm i w r nl t xs v=>Ez rfl
   have q1:∀(m:Mem)(i:Id)(w r:Bs)(nl:Bool)(t:Id)(xs:List D)(v:Vw),(m.put i 0 (DL w r nl t xs v)) i 1=some (.bool false):=λm i w r nl t xs v=>Ez rfl
   have q2:∀(m:Mem)(i:Id)(w r:Bs)(nl:Bool)(t:Id)(xs:List D)(v:Vw),(m.put i 0 (DL w r nl t xs v)) i 2=some (.str r):=λm i w r nl t xs v=>Ez rfl
   have q3:∀(m:Mem)(i:Id)(w r:Bs)(nl:Bool)(t:Id)(xs:List D)(v:Vw),(m.put i 0 (DL w r nl t xs v)) i 3=some (.slice nl t xs):=λm i w r nl t xs v=>Ez rfl
   have q4:∀(m:Mem)(i:Id)(w r:Bs)(nl:Bool)(t:Id)(xs:List D)(v:Vw),Ag (m.put i 0 (DL w r nl t xs v)) i 4 5=some (vwC v):=λm i w r nl t xs v=>by
    simp only[Ag];rw[Ez (k:=4) (cs:=DL w r nl t xs v) rfl,Ez (k:=4+1) (cs:=DL w r nl t xs v) rfl,Ez (k:=4+1+1) (cs:=DL w r nl t xs v) rfl,Ez (k:=4+1+1+1) (cs:=DL w r nl t xs v) rfl,Ez (k:=4+1+1+1+1) (cs:=DL w r nl t xs v) rfl];rfl
   unfold dc10;simp only[↓go1,gB2,simprocAttr,ha,hb,hc,hd,he,Aa s23,h23,Aa s12,h12,q4,Aa s19,BK,C0,Cv,Ci,AZ,BI,outN_cells,outN_len,rd_vwN,AJ,ne_eq,gB3,Qd,and_self,QD,List.take_zero,Qf,Qo,Qj,Qz,AO];refine Ao.intro (Aj ?_) ?_
   ·simp only[A2,List.all_cons,List.all_nil,List.getD,Qc,Qk,Qt,AL,QE,QG,gB3,List.flatMap_cons,List.flatMap_nil,rds,↓go1,go2,reduceIte,Nat.reduceEqDiff];simp[Ai,Ac,s19,s12]
   simp only[↓go1,gB2,simprocAttr,Aa s27,h27,Aa s29,h29,Aa s25,h25,h29b,q0,q1,q2,q3,BK,Cv,Ci,rd_vwN,AJ,Mem.put_other,Int.toNat_zero,Int.cast_ofNat_Int,Int.le_refl,ne_eq,gB3,Qd,Qc,and_self,Qo,Qj,Qq,Qz]
   all_goals first|rfl|exact⟨rfl,rfl⟩
  ·cases h
def much_its{d:Dk}(h:muchB d=false):∀x∈d.its,x.1.length<=200∧x.2.1.length<=200:=λx hx=>by
 unfold muchB at h;simp only[Qp]at h;have:=List.any_eq_false.1 h.1.2 x hx;simp only[bigI,Bool.or_eq_true,decide_eq_true_eq]at this;omega
def much_lss{d:Dk}(h:muchB d=false):∀x∈d.lss,x.2.2.length<=100∧∀s∈x.2.2,s.length<=200:=λx hx=>by
 unfold muchB at h;simp only[Qp]at h;have:=List.any_eq_false.1 h.2 x hx;simp only[bigL,Bool.or_eq_true,decide_eq_true_eq,not_or]at this;refine⟨by omega,λs hs=>?_⟩;have h2:=this.2;rw[List.any_eq_true]at h2;rcases Nat.lt_or_ge 200 s.length with h3|h3
 ·exact absurd ⟨s,hs,by simpa using h3⟩ h2
 ·exact h3
def fold_mt:∀(ms:List Mt)(s:Bool×List Mt),(s.1=true->s.2=[])->((ms.foldl BA s).1=true->(ms.foldl BA s).2=[])∧(ms.foldl BA s).2.length<=s.2.length+ms.length
 |[],s,h=>⟨h,QB _⟩
 |m::ms,s,h=>by
  rw[List.foldl_cons];have step:((BA s m).1=true->(BA s m).2=[])∧(BA s m).2.length<=s.2.length+1:=by
   unfold BA;rcases addE_bd2 s.2 m with ⟨l',e1,_,e3⟩|⟨e1,_⟩
   ·rw[e1];exact⟨λe=>(by cases e),Nat.le_of_eq e3⟩
   ·rw[e1];exact⟨h,Nat.le_succ _⟩
  obtain⟨a,b⟩:=fold_mt ms _ step.1;exact⟨a,by rw[List.length_cons];omega⟩
def teV_bd(n:Int):1<=teV n∧teV n<=6:=by
 unfold teV;have h0:0<=IntKind.u64.wrap n:=by
  show 0<=n % (2 ^ 64:Int);exact Int.emod_nonneg _ (by decide)
 have h1:0<=(IntKind.u64.wrap n).tmod 6∧(IntKind.u64.wrap n).tmod 6<=5:=⟨Int.tmod_nonneg _ h0,by have:=Int.tmod_lt_of_pos (IntKind.u64.wrap n) (show(0:Int)<6 by decide);omega⟩;generalize (IntKind.u64.wrap n).tmod 6=q at h1;have e1:IntKind.i64.wrap q=q:=w64 (by omega) (by omega);rw[e1,w64 (by omega) (by omega)];omega
def fold_m64:∀(ms:List Mt)(s:Bool×List Mt),Fz s.2->s.2.length<=4->(∀m∈s.2,m.1.length<=64)->(ms.foldl BA s).2.length<=4∧∀m∈(ms.foldl BA s).2,m.1.length<=64
 |[],s,_,h,h'=>⟨h,h'⟩
 |m::ms,s,hs,h,h'=>by
  rw[List.foldl_cons];have hsort:Fz (BA s m).2:=by rw[addSt_addRt hs];exact addRt_sort hs
  have step:(BA s m).2.length<=4∧∀x∈(BA s m).2,x.1.length<=64:=by
   unfold BA;rcases addE_bd2 s.2 m with ⟨l',e1,_,e3⟩|⟨e1,_⟩
   ·rw[e1];obtain⟨r1,r2⟩:=addE_ok e1;refine⟨by simp only;omega,λx hx=>?_⟩;rcases addE_mem hs e1 x hx with hx|hx
    ·exact h' x hx
    ·rw[hx];exact B8 r1
   ·rw[e1];exact⟨h,h'⟩
  exact fold_m64 ms _ hsort step.1 step.2
def see_view{v:Vw}(h:SeenOk v):ViewI (E6 v):=by
 have h1:=inv_fold v.ks (false,[firstTk]) inv_first rfl;have h2:=Fc v.ms;have h3:=fold_mt v.ms (true,[]) (λ_=>rfl);have h4:=fold_m64 v.ms (true,[]) (λi j _ h=>absurd h (Nat.not_lt_zero _)) (Qe _) (λ_ h=>nomatch h);have hk:=h.kl;have hm:=h.ml;refine⟨see_ok h,h1.1,?_,h3.1,teV_bd v.te,?_,h4.1,h4.2⟩
 ·show Fz (v.ms.foldl BA (true,[])).2;rw[h2.1];exact h2.2
 ·have:=h1.2.2;show(v.ks.foldl Bg (false,[firstTk])).2.length<=39;simp only[gB3]at this;omega
def own_ask{a:Ak}(h:AkOk a)(hc:DW a.rs):AskI (ownA a):=⟨⟨h.op0,h.op,h.tk,h.pa,h.ot,h.ns,h.da,h.rl,h.rs,h.key⟩,hc,λe=>List.isEmpty_iff.1 e⟩
def much_dk{d:Dk}(h:muchB d=false)(hn:∀x∈d.lss,x.2.1=true->x.2.2=[]):DkOk d:=by
 have h2:=much_lss h;unfold muchB at h;simp only[Qp,decide_eq_false_iff_not]at h;exact⟨by omega,by omega,λx hx=>⟨by have:=(h2 x hx).1;omega,hn x hx⟩⟩
def rE4{m:Mem}{i j:Nat}{x:List D}{n:Nat}(h:j≠i):Ag (m.put [i] 0 x) [j] 0 n=Ag m [j] 0 n:=AJ (by simp[h])
def kwC_u1(k:Kn):(kwC k).map D.un1=kwC k:=rfl
def kwC_c1(k:Kn):(kwC k).all D.calm1=true:=rfl
def ocU_len(o:Oc):(ocU o).length=9:=rfl
def ocU_u1(o:Oc):(ocU o).map D.un1=ocU o:=rfl
def ocU_c1(o:Oc):(ocU o).all D.calm1=true:=rfl
def ocU_0(o:Oc):(ocU o)[0]?=some (.str o.need):=rfl
def ocU_2(o:Oc):(ocU o)[2]?=some (.str o.rep):=rfl
def ocU_3(o:Oc):(ocU o)[3]?=some (.slice o.nl [] (Da o.ops)):=rfl
def ownK_ok{d:Dk}(h:muchB d=false):KnOk (ownK d):=by
 have h1:=much_its h;have h2:=much_lss h;unfold muchB at h;simp only[Qp,decide_eq_false_iff_not]at h;exact⟨by show d.its.length<=20;omega,by show d.lss.length<=20;omega,λx hx=>Qy (h1 x hx).2 (by decide),λx hx=>⟨Qy (h2 x hx).1 (by decide),λs hs=>Qy ((h2 x hx).2 s hs) (by decide)⟩⟩
end Go.Vd
namespace Go.Vd
open Go.RowKit
section
variable{P:Program}{B:Nat}{w0:World}{N:Nat}{S:Summs}
def piece(hS:Summs.ok P S){code:Code}{dc:DC}{t:Nat}(htr:AD P N code=some dc)(hk:Dc t code=true){st:St}{a:Act}{w:World}{g:Gh}(hx:Holds P B w0 N [] st a w g){Q:Ex->St->Prop}(h:dc.wp S [] Q st):
  code.wp P (λe' a' w'=>∃e st' g',e'=e.toExit∧Q e st'∧Holds P B w0 N [] st' a' w' g'∧g'.G0=g.G0∧a'.tmps[t]?=a.tmps[t]?) a w:=by
 obtain⟨e,st',hev,hq⟩:=h;refine wp_mono (ev_keeps hS code dc htr hk st e st' hev a w g hx) ?_;rintro e' a' w' ⟨⟨rfl,g',hh,hxt,_⟩,hfr⟩;exact⟨e,st',g',rfl,hq,hh,hxt.G0,hfr⟩
end
end Go.Vd
namespace Go.Vd
open Go.Proofs Go.RowKit
def mk147(p:Bool×List Mt):List D:=[.slice p.1 [] (Ar p.2)]
def mk147_inj(x y:Bool×List Mt)(e:mk147 x=mk147 y):x=y:=by
 simp only[mk147,Qz,D.slice.injEq,true_and,and_true]at e;exact Prod.ext e.1 (mtsD_inj e.2)
def F147:List D->Option D:=FX mk147 (λp=>MsOk p.2) (λp=> .str (Cp p.2))
def F147_eq{n:Bool}{l:List Mt}(h:MsOk l):F147 [.slice n [] (Ar l)]=some (.str (Cp l)):=Bq (mk:=mk147) (a:=(n,l)) mk147_inj h
def d147a:DC:=(.seq (.row [⟨some 5,.mv (.t 4),[],none⟩,⟨some 6,.mv (.t 0),[],none⟩,⟨some 7,.len false (.t 6),[],none⟩,⟨some 8,.bin .lss (.t 5) (.t 7),[],none⟩]) (.cond (.t 8) .skip (.exit 0)))
def d147b:DC:=(.row [⟨some 12,.mv (.t 3),[],none⟩,⟨some 13,.mv (.t 0),[],none⟩,⟨some 14,.mv (.t 4),[],none⟩,⟨some 15,.iaddr 3 (.t 13) (.t 14),[],none⟩,⟨some 16,.faddr 0 (.t 15),[],none⟩,⟨some 17,.load none (.t 16),[],none⟩,⟨some 18,.call (.c (.fn 254 [])) [(.t 12),(.t 17)],[],none⟩,⟨some 11,.mv (.t 18),[],none⟩,⟨some 19,.ext 0 (.t 11),[],none⟩,⟨some 20,.ext 1 (.t 11),[],none⟩,⟨some 3,.mv (.t 19),[],none⟩])
def d147c:DC:=(.row [⟨some 21,.mv (.t 3),[],none⟩,⟨some 22,.mv (.t 0),[],none⟩,⟨some 23,.mv (.t 4),[],none⟩,⟨some 24,.iaddr 3 (.t 22) (.t 23),[],none⟩,⟨some 25,.faddr 1 (.t 24),[],none⟩,⟨some 26,.faddr 0 (.t 25),[],none⟩,⟨some 27,.load none (.t 26),[],none⟩,⟨some 28,.conv .u8 (.t 27),[],none⟩,⟨some 29,.bslice 5 1 [(.t 28),(.c (.int .u8 0))],[],none⟩,⟨some 30,.app 5 1 1 (.t 21) (.t 29),[],none⟩,⟨some 3,.mv (.t 30),[],none⟩])
def d147d:DC:=(.row [⟨some 31,.mv (.t 0),[],none⟩,⟨some 32,.mv (.t 4),[],none⟩,⟨some 33,.iaddr 3 (.t 31) (.t 32),[],none⟩,⟨some 34,.faddr 1 (.t 33),[],none⟩,⟨some 35,.faddr 1 (.t 34),[],none⟩,⟨some 36,.load none (.t 35),[],none⟩])
def d147e:DC:=(.row [⟨some 9,.mv (.t 4),[],none⟩,⟨some 10,.bin .add (.t 9) (.c (.int .i64 1)),[],none⟩,⟨some 4,.mv (.t 10),[],none⟩])
section
variable{S:Summs}{l:List Mt}{n1:Bool}{j:Nat}{st:St}{n:Bool}{t:Id}{bs:Bs}
def K147(n1:Bool)(l:List Mt)(j:Nat)(n:Bool)(t:Id)(bs:Bs)(st:St):Prop:=
 st.s 0= .slice n1 [] (Ar l)∧st.s 3= .slice n t (Au bs)∧st.s 4= .int .i64 (j:Int)
def k147a(h:K147 n1 l j n t bs st)(hj:j<l.length):d147a.wp S [] (λe st'=>e= .normal∧K147 n1 l j n t bs st') st:=by
 obtain⟨h0,h3,h4⟩:=h;have hlt:((j:Int)<l.length):=by omega
 simp only[↓go1,go2,go4,simprocAttr,d147a,h0,h4,hlt,Av];exact⟨h0,h3,h4⟩
def k147z(h:K147 n1 l j n t bs st)(hj:¬j<l.length):d147a.wp S [] (λe st'=>e= .exit 0∧K147 n1 l j n t bs st') st:=by
 obtain⟨h0,h3,h4⟩:=h;have hlt:¬((j:Int)<l.length):=by omega
 simp only[↓go1,go2,go4,simprocAttr,d147a,h0,h4,hlt,Av];exact⟨h0,h3,h4⟩
def k147b(s254:S 254=some (cQ 5 rowW F254))(h:K147 n1 l j n t bs st)(hj:j<l.length)(hb:bs.length<=10000000)(hp:(A0 l j).1.length<=1000):
  d147b.wp S [] (λe st'=>e= .normal∧∃t',K147 n1 l j false t' (bs++rowB (A0 l j).1) st'∧t'≠[]∧st'.m t' 0=some (.tok 6)) st:=by
 obtain⟨h0,h3,h4⟩:=h;have hlt:((j:Int)<l.length):=by omega
 have hj0:=nJ (j:=j);have hat:(Ar l)[j]?=some (.agg [.str (A0 l j).1,.int .i64 (A0 l j).2.1,.bool (A0 l j).2.2]):=DA hj;generalize A0 l j=m at hat hp ⊢;obtain⟨p,k,b⟩:=m;simp only at hp hat;have hF:F254 [.str p]=some (Au (rowB p),[11]):=if_pos (by omega);obtain⟨st_s,st_m,st_c⟩:=st;simp only at h0 h3 h4;simp only[↓go1,gB2,simprocAttr,d147b,h0,h3,h4,hj0,Qn,hat,Ah s254,Qe,gB3,Qd,Qo,Qq];refine got_c (bytes_all _) (by rw[Bu];omega) hF ?_;simp only[↓go1,gB0,simprocAttr,rowW,Af,Qk];refine⟨_,⟨h0,sl_of rfl (by rw[CK]),h4⟩,?_,?_⟩
 ·simp
 ·simp only[];simp
def k147c(h:K147 n1 l j false t bs st)(hj:j<l.length)(hb:bs.length<=10000000)(ht:t≠[])(hm:st.m t 0=some (.tok 6)):
  d147c.wp S [] (λe st'=>e= .normal∧∃t',K147 n1 l j false t' (bs++[UInt8.ofNat ((A0 l j).2.1 % 256).toNat,0]) st'∧t'≠[]∧st'.m t' 0=some (.tok 6)) st:=by
 obtain⟨h0,h3,h4⟩:=h;have hlt:((j:Int)<l.length):=by omega
 have hj0:=nJ (j:=j);have hat:(Ar l)[j]?=some (.agg [.str (A0 l j).1,.int .i64 (A0 l j).2.1,.bool (A0 l j).2.2]):=DA hj;generalize A0 l j=m at hat ⊢;obtain⟨p,k,b⟩:=m;simp only at hat;obtain⟨st_s,st_m,st_c⟩:=st;simp only at h0 h3 h4 hm;simp only[↓go1,gB2,simprocAttr,d147c,h0,h3,h4,hj0,Qn,hat,u8_wrap,Qe,gB3,Qd,and_self,Qo,Qj,Qq];refine Ao.intro ⟨by simp only[Bu];omega,rfl,.inr ⟨?_,ht⟩⟩ ?_
 ·rw[Bf];split
  ·rfl
  ·exact hm
 simp only[↓go1,gB2,simprocAttr];refine⟨[st_c+9],⟨h0,sl_of rfl ?_,h4⟩,?_,?_⟩
 ·rw[CK];simp only[Au,QE,QG];rw[D6 (by omega)];rfl
 ·simp
 ·first|rfl|(simp only[Bi,Upd.app,Bf];simp)
def k147d(h:K147 n1 l j false t bs st)(hj:j<l.length):
  d147d.wp S [] (λe st'=>e= .normal∧K147 n1 l j false t bs st'∧st'.m=st.m∧st'.s 36= .bool (A0 l j).2.2) st:=by
 obtain⟨h0,h3,h4⟩:=h;have hlt:((j:Int)<l.length):=by omega
 have hj0:=nJ (j:=j);have hat:(Ar l)[j]?=some (.agg [.str (A0 l j).1,.int .i64 (A0 l j).2.1,.bool (A0 l j).2.2]):=DA hj;generalize A0 l j=m at hat ⊢;obtain⟨p,k,b⟩:=m;simp only at hat;obtain⟨st_s,st_m,st_c⟩:=st;simp only at h0 h3 h4;simp only[↓go1,gB2,simprocAttr,d147d,h0,h4,hj0,Qn,hat,gB3,Qd,and_self,Qo,Qj,Qq];exact⟨h0,h3,h4⟩
def k147e(h:K147 n1 l j n t bs st)(hj:j<l.length)(hl:l.length<=1000):
  d147e.wp S [] (λe st'=>e= .normal∧K147 n1 l (j+1) n t bs st') st:=by
 obtain⟨h0,h3,h4⟩:=h;have hw:=wJ (j:=j) (by omega);simp only[↓go1,go2,go4,simprocAttr,d147e,h4,hw];exact⟨h0,h3,rfl⟩
end
def keeps147:(f147.body.map (Dc 0))=some true:=by kernel_rfl
def ok147:(Ac F147).ok Qa 147:=by
 obtain⟨S,hS,hl⟩:=A6 (Ab ok254 Ad);have s254:=hl 254 _ rfl;clear hl;refine fun_ok_wp fn147 (λds r h=>?_) (λds r h fn code a w g hf hbody htr hdl htb hG hst=>?_)
 ·obtain⟨p,_,rfl,_⟩:=E5 h;simp[mk147]
 ·obtain⟨⟨n1,l⟩,hl,rfl,rfl⟩:=E5 h;replace hl:MsOk l:=hl;have hk:Dc 0 code=true:=by
   have e:fn=f147:=(QI (func147.symm.trans hf)).symm;have hk0:=keeps147;rw[e]at hbody;rw[hbody]at hk0;exact QI hk0
  unfold dc147 at htr;obtain⟨c1,y,rfl,t1,htr1⟩:=Ge htr;obtain⟨c2,y,rfl,t2,htr2⟩:=Ge htr1;obtain⟨c34,y3,rfl,t34,ty⟩:=Ge htr2;obtain⟨c3,y4,rfl,t3,t4⟩:=Ge t34;obtain⟨c4,rfl,t4b⟩:=tr_block t4;obtain⟨c5,rfl,t5⟩:=tr_loop t4b;unfold dc147l0 at t5;obtain⟨cA,y,rfl,tA,tB⟩:=Ge t5;obtain⟨cB,c9,rfl,tB2,t9⟩:=Ge tB;obtain⟨cC,rfl,tC⟩:=tr_block tB2;obtain⟨k1,y,rfl,u1,tD⟩:=Ge tC;obtain⟨k2,y,rfl,u2,tE⟩:=Ge tD;obtain⟨k3,k4,rfl,u3,tF⟩:=Ge tE;obtain⟨o,kx,ky,rfl,uo,ux,uy⟩:=tr_cond tF;obtain⟨i,os,dops,rfl,hops,hd⟩:=tr_row ux;simp only[Dc,Ql]at hk;obtain⟨q1,q2,⟨q3,qA,⟨w1',w2',w3',_,wy⟩,q9⟩,qy⟩:=hk;have hs0:=hst.slots 0;have hgz:=hst.inv.gz;refine wp_seq (wp_mono (piece hS t1 q1 hst (Q:=λe st'=>e= .normal∧st'.s 0= .slice n1 [] (Ar l)) (by simp only[↓go1,go2,simprocAttr,mk147,and_self])) ?_);rintro e1 a1 w1 ⟨e,st1,g1,rfl,⟨rfl,r1⟩,h1,G1,T1⟩;refine wp_seq (wp_mono (piece hS t2 q2 h1 (Q:=λe st'=>e= .normal∧st'.s 0= .slice n1 [] (Ar l)∧st'.s 3= .slice true [] []) (by simp only[↓go1,go2,simprocAttr,r1,and_self])) ?_);rintro e1 a2 w2 ⟨e,st2,g2,rfl,⟨rfl,r2,r2'⟩,h2,G2,T2⟩;refine wp_seq (wp_seq (wp_mono (piece hS t3 q3 h2 (Q:=λe st'=>e= .normal∧K147 n1 l 0 true [] [] st') (by simp only[↓go1,go2,go4,simprocAttr,K147,r2,r2'];first|done|exact⟨r2,r2',rfl⟩|exact⟨rfl,rfl⟩|exact⟨rfl,rfl,rfl⟩|rfl)) ?_));rintro e1 a3 w3 ⟨e,st3,g3,rfl,⟨rfl,r3⟩,h3,G3,T3⟩
  let J:Nat->Act->World->Prop:=λn a' w'=>∃st g' j nl t,Holds Qa w.heap.size w 44 [] st a' w' g'∧g'.G0=g.G0∧a'.tmps[0]?=a.tmps[0]?∧K147 n1 l j nl t (Cp (l.take j)) st∧n=l.length-j∧j<=l.length
  refine wp_block (wp_loop_n J ?_ (n:=l.length) ⟨st3,g3,0,true,[],h3,by rw[G3,G2,G1],by rw[T3,T2,T1],r3,by omega,by omega⟩);rintro n a4 w4 ⟨st,g4,j,nl,t,h4,G4,T4,K4,rfl,hj⟩;rcases Nat.lt_or_ge j l.length with hlt|hge
  ·have hb:=tabB_le hl j hj;have hl0:=hl.1;have hp:=hl.2 _ (mtAt_mem hlt);refine wp_seq (wp_mono (piece hS tA qA h4 (k147a K4 hlt)) ?_);rintro e1 a5 w5 ⟨e,st5,g5,rfl,⟨rfl,r5⟩,h5,G5,T5⟩;refine wp_seq (wp_block ?_);refine wp_seq (wp_mono (piece hS u1 w1' h5 (k147b s254 r5 hlt (by omega) hp)) ?_);rintro e1 a6 w6 ⟨e,st6,g6,rfl,⟨rfl,t6,r6,n6,m6⟩,h6,G6,T6⟩;refine wp_seq (wp_mono (piece hS u2 w2' h6 (k147c r6 hlt (by rw[Qs,rowB_len];omega) n6 m6)) ?_);rintro e1 a7 w7 ⟨e,st7,g7,rfl,⟨rfl,t7,r7,n7,m7⟩,h7,G7,T7⟩;refine wp_seq (wp_mono (piece hS u3 w3' h7 (k147d r7 hlt)) ?_);rintro e1 a8 w8 ⟨e,st8,g8,rfl,⟨rfl,r8,m8,c8⟩,h8,G8,T8⟩;have hG8:g8.G0=g.G0:=by rw[G8,G7,G6,G5,G4]
   have hT8:a8.tmps[0]?=a.tmps[0]?:=by rw[T8,T7,T6,T5,T4]
   have fin:∀(a':Act)(w':World)(st':St)(g':Gh)(n':Bool)(t':Id),Holds Qa w.heap.size w 44 [] st' a' w' g'->g'.G0=g.G0->a'.tmps[0]?=a.tmps[0]?->K147 n1 l j n' t' (Cp (l.take (j+1))) st'->
     c9.wp Qa (Exit.then (λa' w'=>∃k,k<l.length-j∧J k a' w') (Exit.inBlock 0 (Exit.then (y3.wp Qa (λe a' w'=>(e= .normal∨e= .ret)∧∃st' g' d,Holds Qa w.heap.size w 44 [] st' a' w' g'∧g'.G0=g.G0∧BY [RV.t 2] st'.s st'.m=some d∧d.unR= .str (Cp l)∧(D.str (Cp l)).calmR=true)) (λe a' w'=>(e= .normal∨e= .ret)∧∃st' g' d,Holds Qa w.heap.size w 44 [] st' a' w' g'∧g'.G0=g.G0∧BY [RV.t 2] st'.s st'.m=some d∧d.unR= .str (Cp l)∧(D.str (Cp l)).calmR=true)))) a' w':=by
    intro a' w' st' g' n' t' hh hg ht hk';refine wp_mono (piece hS t9 q9 hh (k147e hk' hlt hl0)) ?_;rintro e1 a9 w9 ⟨e,st9,g9,rfl,⟨rfl,r9⟩,h9,G9,T9⟩;exact⟨l.length-(j+1),by omega,st9,g9,j+1,n',t',h9,by rw[G9,hg],by rw[T9,ht],r9,rfl,by omega⟩
   have htk:=tabB_take hlt;have hc8:=h8.slots.arg uo;rw[show Arg.ev st8.s (.t 36)=st8.s 36 from rfl,c8]at hc8;cases hb2:(A0 l j).2.2 with
   |true=>
    rw[hb2]at hc8;refine wp_cond_true hc8.bool_inv ?_;have hlw:=last_wp (id:=i) (e:=5) (g0:=g) (w0:=w) hS hops hd.symm h8 hdl htb hG hgz hG8 (by
     rw[r8.1];rw[show a8.tmps.getD 0 undef=a.tmps.getD 0 undef by rw[Qv,Qv,hT8]];exact hs0) (bs:=Cp (l.take j)++rowB (A0 l j).1++[UInt8.ofNat ((A0 l j).2.1 % 256).toNat,0]) (by simp) (by simp only[Qs,rowB_len,gB3];omega) n7 r8.2.1 r8.2.2 (by rw[m8];exact m7)
    refine wp_mono hlw ?_;rintro e1 a9 w9 ⟨rfl,T9,st9,g9,h9,G9,z0,z4,z3⟩;refine fin a9 w9 st9 g9 false [] h9 G9 (T9.trans hT8) ⟨z0.trans r8.1,?_,z4.trans r8.2.2⟩;rw[z3,set_end,htk];simp only[mtB,hb2,if_true,List.append_assoc]
   |false=>
    rw[hb2]at hc8;refine wp_cond_false hc8.bool_inv ?_;refine wp_mono (piece hS uy wy h8 (Q:=λe st'=>e= .normal∧st'=st8) ⟨_,_,⟨rfl,rfl⟩,rfl,rfl⟩) ?_;rintro e1 a9 w9 ⟨e,st9,g9,rfl,⟨rfl,rfl⟩,h9,G9,T9⟩;refine fin a9 w9 st9 g9 false t7 h9 (G9.trans hG8) (T9.trans hT8) ⟨r8.1,?_,r8.2.2⟩;rw[r8.2.1,htk];simp only[mtB,hb2,if_false,Bool.false_eq_true,List.append_assoc]
  ·refine wp_seq (wp_mono (piece hS tA qA h4 (k147z K4 (by omega))) ?_);rintro e1 a5 w5 ⟨e,st5,g5,rfl,⟨rfl,r5⟩,h5,G5,T5⟩;have hje:j=l.length:=by omega
   rw[hje,List.take_of_length_le (QB _)]at r5;simp only[Ex.toExit,Exit.then,Exit.inBlock,if_true];refine wp_mono (piece hS ty qy h5 (Q:=λe st'=>(e= .ret∨e= .normal)∧st'.s 2= .str (Cp l)) (by
    obtain⟨z0,z3,z4⟩:=r5;simp only[↓go1,go2,go4,simprocAttr,z3,b2sV,Cr]
    first|done|exact⟨.inl rfl,rfl⟩|simp)) ?_
   rintro e1 a6 w6 ⟨e,st6,g6,rfl,⟨he,r6⟩,h6,G6,T6⟩;refine⟨?_,st6,g6,.str (Cp l),h6,by rw[G6,G5,G4],?_,rfl,rfl⟩
   ·rcases he with rfl|rfl
    ·exact .inr rfl
    ·exact .inl rfl
   ·show BY [RV.t 2] st6.s st6.m=_;simp only[BY,Ff,RV.of,r6]
def lv3{p:Bs}{q:Int}{b:Bool}:Bl [.str p,.int .i64 q,.bool b] [.str p,.int .i64 q,.bool b] [(2,0),(0,1),(1,2)]=some true:=by simp[Bl,leafEq]
def loop66{S:Summs}{l:List Mt}{n2 n5:Bool}{Q:Ex->St->Prop}{M:Mem}(s46:S 46=some (Ac F46))(hl:l.length<=1000)(hexit:∀st,st.m=M->st.s 1= .slice n2 [] (Ar l)->st.s 2= .ptr [0] 0->Q (.exit 0) st):
  ∀(f j:Nat)(st:St) g,l.length=j+f->st.m=M->st.s 1= .slice n2 [] (Ar l)->st.s 2= .ptr [0] 0->st.s 5= .slice n5 [] (Ar l)->st.s 6= .int .i64 (j:Int)->A4 S [] dc66l0 Q st g:=by
 intro f;induction f with
 |zero=>
  intro j st g hf hm h1 h2 h5 h6;refine Ae dc66l0.eq_1 ?_;have:¬((j:Int)<l.length):=by omega
  simp only[↓go1,go2,go4,simprocAttr,h1,h6,this,Av];exact hexit _ hm h1 h2
 |succ f ih=>
  intro j st g hf hm h1 h2 h5 h6;refine Ae dc66l0.eq_1 ?_;have hj:j<l.length:=by omega
  have hlt:((j:Int)<l.length):=by omega
  have hj0:=nJ (j:=j);have hw:=wJ (j:=j) (by omega);have hat:(Ar l)[j]?=some (.agg [.str (A0 l j).1,.int .i64 (A0 l j).2.1,.bool (A0 l j).2.2]):=DA hj;generalize A0 l j=m at hat;obtain⟨p,q,b⟩:=m;simp only at hat;have h46:F46 [.agg [.str p,.int .i64 q,.bool b]]=some (.agg [.str p,.int .i64 q,.bool b]):=F46_eq (m:=(p,q,b));obtain⟨st_s,st_m,st_c⟩:=st;simp only at hm h1 h2 h5 h6;simp only[↓go1,gB2,simprocAttr,h1,h5,h6,hlt,hj0,Qn,hat,Av,Aa s46,h46,lv3,bne_self_eq_false,gB3,Qd,QB,QD,List.take_zero];refine Ao.intro (Aj ?_) ?_
  ·first|rfl|(simp[A2,AL,rds,Ai,s46,Ac];done)
  simp only[↓go1,go2,go3,simprocAttr,h6,hw];exact ih (j+1) _ _ (by omega) hm h1 h2 h5 rfl
open Classical in
def F146_eq{n:Bool}{l:List Mt}(hl:MsOk l)(hn:n=true->l=[]):F146 [.agg [.slice n [] (Ar l)]]=some (.slice n [] (Ar l)):=by
 show(if _ then _ else _)=_;rw[if_pos (mtsOk_mk (by have:=hl.1;omega) hn)]
open Classical in
def F148_eq{n:Bool}{l:List Mt}(hl:MsOk l):F148 [.agg [.slice n [] (Ar l)]]=some (.int .i64 ((Cp l).length:Int)):=by
 have h:Ar l=Ar (BU (Ar l))∧(Ar l).length<=1000∧∀m∈BU (Ar l),m.1.length<=1000000:=⟨by rw[Bc],by rw[Av];exact hl.1,λm hm=>by rw[Bc]at hm;have:=hl.2 m hm;omega⟩;show(if _ then _ else _)=_;rw[if_pos h,Bc,lenM_eq]
def ok66:(Ac F66).ok Qa 66:=by
 obtain⟨S,hS,hl⟩:=A6 (Ab ok146 (Ab ok46 (Ab ok126 (Ab ok147 (Ab ok148 Ad)))));have s146:=hl 146 _ rfl;have s46:=hl 46 _ rfl;have s126:=hl 126 _ rfl;have s147:=hl 147 _ rfl;have s148:=hl 148 _ rfl;clear hl;refine Bx hS fn66 (λ_=>by simp[mkMM]) (λp hp=>?_);obtain⟨n1,n2,l⟩:=p;obtain⟨hl,hn⟩:=hp;replace hl:MsOk l:=hl;replace hn:n1=true->l=[]:=hn;have h146:=F146_eq hl hn;have h126:=F126_eq (n:=n1) hl;have h147:=F147_eq (n:=n2) hl;have h148:=F148_eq (n:=n1) hl;unfold dc66 mkMM;simp only;simp only[↓go1,gB0,simprocAttr,Av,Aa s146,h146,Af,Ap,Aq,Option.bind_some];refine loop66 (l:=l) (n2:=n2) (n5:=n1) s46 hl.1 (λst hm h1 h2=>?_) l.length 0 _ _ (by omega) rfl rfl rfl rfl rfl;simp only[↓go1,gB0,simprocAttr,h1,h2,hm,Aa s126,h126,Aa s147,h147,Aa s148,h148,Af,Ap,Aq,Option.bind_some]
end Go.Vd
namespace Go.Vd
open Go.Proofs
def dc8l0:=y1 Tryz.f8 19 [] []
def dc8:=y0 Tryz.f8 [(5,[(3,0),(3,1),(3,5),(4,5),(5,0),(5,1),(5,2),(5,3),(5,4)]),(16,[(6,8)])] [(19,dc8l0)]
def fn8:Fn Qa 8 184 dc8 [.t 6]:=Am func8
end Go.Vd
namespace Go.Vd
open Go.Proofs Go.RowKit
def see8{v:Vw}{a:Ak}{dec:Kn->Oc}(X:DecOk v a dec)(hf:Ds v a≠0->∀k,dec k=failO v (Ds v a)){k:Kn}(hk:KnOk k):
  (∃q li,q≠[]∧dec k=Dz v q li)∨(dec k).need=[]∧∃y,F34 [.str (dec k).rep]=some (.tup [.agg (ryC (ryQ y)),.int .i64 0])∧
   ((∃e,y= .fail e∧(Ds v a=0∨Ds v a=e)∧(dec k).ops=[]∧(dec k).vw=v)∨(Ds v a=0∧(∃kd:Int,kd≠0∧(ryC (ryQ y))[0]?=some (.int .u8 kd))∧((BX a.op=false∧(dec k).ops=[]∧∃b,(dec k).vw={v with se:=b})∨(BX a.op=true∧(dec k).ops≠[]∧OpsV (dec k).ops)))):=by
 by_cases hr:Ds v a=0
 ·by_cases hn:(dec k).need=[]
  ·obtain⟨y,h1,h2,h3,h4⟩:=X.rep k hk hn;obtain⟨p,q⟩:=psd_T h1 h2;refine .inr ⟨hn,y,by rw[h3];exact F34_eq q p,?_⟩;rcases h4 with ⟨⟨e,rfl⟩,h5,h6⟩|⟨h5,h6⟩
   ·exact .inl ⟨e,rfl,.inl hr,h5,h6⟩
   ·refine .inr ⟨hr,?_,h6⟩;cases y with
    |fail e=>exact absurd rfl (h5 e)
    |_=>exact⟨_,by decide,rfl⟩
  ·obtain⟨q,li,h1⟩:=X.nd k hk hn;exact .inl ⟨q,li,λe=>hn (by rw[h1];exact e),h1⟩
 ·obtain⟨b1,b2⟩:=refA_bd v a;obtain⟨p,q⟩:=psd_T (y:= .fail (Ds v a)) (if_pos ⟨by omega,by omega⟩) trivial;rw[hf hr k];exact .inr ⟨rfl,.fail (Ds v a),F34_eq q p,.inl ⟨_,rfl,.inr rfl,rfl,rfl⟩⟩
def alike_se{v r:Vw}(b:Bool)(h:AlikeV v r):AlikeV {v with se:=b} {r with se:=b}:=⟨rfl,h.te,h.key,h.ms,h.mo,h.mn,h.ks⟩
def putSe8{m:Mem}{k:Nat}{v:Vw}{b:Bool}:Ag ((m.put [k] 0 (vwC v)).put [k] 0 [.bool b]) [k] 0 5=some (vwC {v with se:=b}):=by
 simp[Ag,Af,vwC]
def rdVw8{m:Mem}{k:Nat}{o:Oc}:Ag (m.put [k] 0 (ocU o)) [k] 4 5=some (vwC o.vw):=by
 simp[Ag,Af,ocU,vwC]
def pE{m:Mem}{i j o p:Nat}{x:List D}(h:j≠i):m.put [i] o x [j] p=m [j] p:=Mem.put_other (by simp[h])
def rE5{m:Mem}{i j o p n:Nat}{x:List D}(h:j≠i):Ag (m.put [i] o x) [j] p n=Ag m [j] p n:=AJ (by simp[h])
def ocU_4(o:Oc):(ocU o)[4]?=some (.bool o.vw.se):=rfl
def S8:Summs:=AF [(15,Ac F15),(16,Ac F16),(9,Ac R9),(10,Ac trueF),(17,Ac F17),(18,Ac F18),(11,Ac R11),(19,Ac (R19 En EH)),(22,Ac F22),(34,Ac F34),(25,Ac F25),(29,Ac F29),(37,Ac R37),(38,Ac R38)]
def R8:List D->Option D:=RF S8 dc8 [.t 6] 184
def ko8:(Ac R8).ok Qa 8:=AH fn8 (Ab ok15 (Ab ok16 (Ab ko9 (Ab ok10n (Ab ok17 (Ab ok18 (Ab ko11 (Ab (ko19 ok131 ok134) (Ab (ok22 ok66) (Ab ok34 (Ab ok25 (Ab ok29 (Ab ko37 (Ab ko38 Ad))))))))))))))
def R8_eq(v:Vw)(a:Ak)(d:Dk)(hr:∀k∈v.ks,rawT k)(h0:0<=a.op)(h1:a.op<256)(hc:DW a.rs)(hd:∀x∈d.lss,x.2.1=true->x.2.2=[]):R8 [vwD v,akD a,.agg (dkC d)]=some (.bool true):=by
 refine AG (QA rfl) ?_;have s16:S8 16=some (Ac F16):=rfl;have s9:S8 9=some (Ac R9):=rfl;have s10:S8 10=some (Ac trueF):=rfl;have s17:S8 17=some (Ac F17):=rfl;have s18:S8 18=some (Ac F18):=rfl;have s11:S8 11=some (Ac R11):=rfl;have s19:S8 19=some (Ac (R19 En EH)):=rfl;have s22:S8 22=some (Ac F22):=rfl;have s34:S8 34=some (Ac F34):=rfl;have s25:S8 25=some (Ac F25):=rfl;have s29:S8 29=some (Ac F29):=rfl;have s37:S8 37=some (Ac R37):=rfl;have s38:S8 38=some (Ac R38):=rfl;unfold dc8;have h15:F15 [.agg (vwC v)]=some (oneI (overS v)):=F15_eq;have h16:F16 [.agg (akC a)]=some (oneI (overA a)):=F16_eq;have h9:=R9_eq d;have h10':trueF []=some (.bool true):=rfl;have q0:Ag (((Mem.put (λ_ _=>none) [0] 0 (vwC v)).put [1] 0 (akC a)).put [2] 0 (dkC d)) [0] 0 5=some (vwC v):=by rw[AJ (by decide),AJ (by decide)];exact AO rfl
 have q1:Ag (((Mem.put (λ_ _=>none) [0] 0 (vwC v)).put [1] 0 (akC a)).put [2] 0 (dkC d)) [1] 0 11=some (akC a):=by rw[AJ (by decide)];exact AO rfl
 have q2:Ag (((Mem.put (λ_ _=>none) [0] 0 (vwC v)).put [1] 0 (akC a)).put [2] 0 (dkC d)) [2] 0 2=some (dkC d):=AO rfl;have hdc:(D.agg (dkC d)).cells=dkC d:=rfl;have hdu:List.map D.un1 (dkC d)=dkC d:=rfl;have hda:(dkC d).all D.calm1=true:=rfl;have z5:∀{m:Mem} {i:Id} {x0 x1 x2 x3 x4:D},Ag (m.put i 0 [x0,x1,x2,x3,x4]) i 0 5=some [x0,x1,x2,x3,x4]:=AO rfl;have z9:∀{m:Mem} {i:Id} {x0 x1 x2 x3 x4 x5 x6 x7 x8:D},Ag (m.put i 0 [x0,x1,x2,x3,x4,x5,x6,x7,x8]) i 0 9=some [x0,x1,x2,x3,x4,x5,x6,x7,x8]:=AO rfl;have z10:∀{m:Mem} {i:Id} {x0 x1 x2 x3 x4 x5 x6 x7 x8 x9:D},Ag (m.put i 0 [x0,x1,x2,x3,x4,x5,x6,x7,x8,x9]) i 0 10=some [x0,x1,x2,x3,x4,x5,x6,x7,x8,x9]:=AO rfl;have z11:∀{m:Mem} {i:Id} {x0 x1 x2 x3 x4 x5 x6 x7 x8 x9 xa:D},Ag (m.put i 0 [x0,x1,x2,x3,x4,x5,x6,x7,x8,x9,xa]) i 0 11=some [x0,x1,x2,x3,x4,x5,x6,x7,x8,x9,xa]:=AO rfl;have za:∀{m:Mem} {i:Id} {a:Ak},Ag (m.put i 0 (akC a)) i 0 11=some (akC a):=AO rfl;have z3:∀{m:Mem} {i:Id} {x0 x1 x2:D},Ag (m.put i 0 [x0,x1,x2]) i 0 3=some [x0,x1,x2]:=AO rfl;have zv:∀{m:Mem} {i:Id} {v:Vw},Ag (m.put i 0 (vwC v)) i 0 5=some (vwC v):=AO rfl;have zo:∀{m:Mem} {i:Id} {o:Oc},Ag (m.put i 0 (ocU o)) i 0 9=some (ocU o):=AO rfl;have zr:∀{m:Mem} {i:Id} {y:Ry},Ag (m.put i 0 (ryC y)) i 0 10=some (ryC y):=AO (ryC_len _);unfold vwD akD;cases hs:overS v with
 |true=>
  rw[hs]at h15;simp only[↓go1,gB2,simprocAttr,DS,An S8 15,h15,Aa s10,h10',hdc,q0,Cv,Ci,AZ,AN]
  all_goals first|rfl|exact⟨rfl,rfl⟩
 |false=>
  rw[hs]at h15;cases ho:overA a with
  |true=>
   rw[ho]at h16;simp only[↓go1,gB2,simprocAttr,DS,oneI_f,An S8 15,h15,Aa s16,h16,Aa s10,h10',hdc,q0,q1,Cv,Ci,AZ,B4,B5,AN]
   all_goals first|rfl|exact⟨rfl,rfl⟩
  |false=>
   rw[ho]at h16;cases hm:muchB d with
   |true=>
    rw[hm]at h9;simp only[↓go1,gB2,simprocAttr,oneI_f,An S8 15,h15,Aa s16,h16,Aa s9,h9,Aa s10,h10',hdc,hdu,hda,q0,q1,q2,Cv,Ci,AZ,B4,B5,AN]
    all_goals first|rfl|exact⟨rfl,rfl⟩
   |false=>
    rw[hm]at h9;have sv:=seen_of hs hr;have sa:=ask_of ho h0 h1 hc;have h17:F17 [.agg (vwC v)]=some (.tup [.agg (vwC (E6 v)),.agg (vwC (docV v))]):=F17_eq sv;have h18:F18 [.agg (akC a)]=some (.agg (akC (ownA a))):=F18_eq sa.rl;have h11:=R11_eq d (much_dk hm hd);obtain⟨dec,X,hfail⟩:=dec_all (see_view sv) (own_ask sa hc);have hko:=ownK_ok hm;have h19:=X.run _ hko;unfold vwD akD at h19;have h25:F25 [.agg (vwC (E6 v)),.agg (akC (ownA a))]=some (.int .i64 (Ds (E6 v) (ownA a))):=F25_eq (see_ok sv) (own_ask sa hc).ok;have h29:F29 [.int .u8 a.op]=some (.bool (BX a.op)):=rfl;have h22:=alike_view sv;have hse:(docV v).se=(E6 v).se:=rfl;have s8:=see8 X hfail hko;have hwo:BX (ownA a).op=BX a.op:=rfl;rw[hwo]at s8;clear X hfail;generalize dec (ownK d)=o at *;generalize E6 v=V at *;generalize docV v=R at *;generalize ownA a=A at *;rcases s8 with ⟨q,li,hq,rfl⟩|⟨hn,y,h34,h8⟩
    ·have hqF:=eq_false hq;have h34:=trivial;have hid:∀(x y:Nat),([x]=[y])=(x=y):=λx y=>by simp
     have l22:F22 [.agg (vwC V),.agg (vwC R)]=some (.bool true):=F22_eq h22;simp (disch:=omega)only[↓go1,gB2,simprocAttr,oneI_f,An S8 15,h15,Aa s16,h16,Aa s9,h9,Aa s17,h17,Aa s18,h18,hdc,hdu,hda,q0,q1,q2,Cv,Ci,AZ,B4,B5,AN,rE4,z5,z9,z10,z11,za,zv,zo,zr,BI,Ba,ne_eq,and_self,Qf,gB3,Qd,Aa s11,h11,Aa s19,h19,kwC_u1,kwC_c1,ocU_u1,ocU_c1,ocU_len]
     (refine Ao.intro (Aj ?_) ?_;first|rfl|simp[A2,AL,rds,Ai,Ac])
     simp (disch:=omega)only[↓go1,gB2,simprocAttr,Af,ocU_2,ocU_0,ocU_3,ocU_4,Aa s34,h34,ryC_len,z5,z9,z10,z11,za,zr,D_,Qr,Cv,Ci,B4,B5,ocU_len,Ba,BI,and_self,Qf,gB3,Qd,hid,false_and,EZ,EJ,vw_g2,Dz,Da,QG,hqF,rE5,rdVw8,zv,Aa s22,l22,Aa s10,h10']
     all_goals first|rfl|exact⟨rfl,rfl⟩
    have hnT:=eq_true hn;have hlen:(Da o.ops).length=o.ops.length:=List.length_map ..;have hall:o.ops.length<=40∧∀x∈o.ops,opK x:=by
     rcases h8 with ⟨_,_,_,ho,_⟩|⟨_,_,⟨_,ho,_⟩|⟨_,_,hv⟩⟩
     ·rw[ho];exact⟨Qe _,λ_ h=>nomatch h⟩
     ·rw[ho];exact⟨Qe _,λ_ h=>nomatch h⟩
     ·exact⟨hv.n,hv.ok⟩
    have h37:=R37_eq o.nl o.ops hall.1 (λx hx=>(hall.2 x hx).1);have hid:∀(x y:Nat),([x]=[y])=(x=y):=λx y=>by simp
    have he1:∃e,(ryC (ryQ y))[1]?=some (.int .i64 e):=by cases y<;>exact⟨_,rfl⟩
    rcases h8 with ⟨e,rfl,hre,ho,hw⟩|⟨hz,⟨kd,hk1,hk0⟩,⟨hwr,ho,b,hw⟩|⟨hwr,ho,hv⟩⟩
    case' inl=>
     have l22:F22 [.agg (vwC V),.agg (vwC R)]=some (.bool true):=F22_eq h22;have e3:({R with se:=V.se}:Vw)=R:=by rw[←hse]
     have hlF:((0:Int)<(o.ops.length:Int))=False:=eq_false (by rw[ho];decide);have hk0:(ryC (ryQ (.fail e)))[0]?=some (.int .u8 0):=rfl;have hk1:(ryC (ryQ (.fail e)))[1]?=some (.int .i64 e):=rfl;have hkF:((0:Int)=0)=True:=eq_true rfl;have hrF:((Ds V A=0)=False∧(e=Ds V A)=True)∨(Ds V A=0∧True):=by
      rcases hre with h|h
      ·exact .inr ⟨h,trivial⟩
      ·by_cases h2:Ds V A=0
       ·exact .inr ⟨h2,trivial⟩
       ·exact .inl ⟨eq_false h2,eq_true h.symm⟩
     clear hre;cases hwr:BX a.op<;>rw[hwr]at h29<;>rcases hrF with ⟨hrF,hre⟩|⟨hrF,hre⟩
    case' inr.inl=>
     have l22:F22 [.agg (vwC {V with se:=b}),.agg (vwC {R with se:=b})]=some (.bool true):=F22_eq (alike_se b h22);have hlF:((0:Int)<(o.ops.length:Int))=False:=eq_false (by rw[ho];decide);have hkF:=eq_false hk1;obtain⟨e,hk1⟩:=he1;rw[hwr]at h29;have e3:=trivial;have hre:=trivial;have hrF:=hz
    case' inr.inr=>
     have hlF:((0:Int)<(o.ops.length:Int))=True:=eq_true (by have:=List.length_pos_iff.2 ho;omega);have hkF:=eq_false hk1;obtain⟨e,hk1⟩:=he1;rw[hwr]at h29;have e3:=trivial;have hre:=trivial;have hrF:=hz;have hw:=trivial;have l22:=h29
    all_goals
     simp (disch:=omega)only[↓go1,gB2,simprocAttr,oneI_f,An S8 15,h15,Aa s16,h16,Aa s9,h9,Aa s17,h17,Aa s18,h18,hdc,hdu,hda,q0,q1,q2,Cv,Ci,AZ,B4,B5,AN,rE4,z5,z9,z10,z11,za,zv,zo,zr,BI,Ba,ne_eq,and_self,Qf,gB3,Qd,Aa s11,h11,Aa s19,h19,kwC_u1,kwC_c1,ocU_u1,ocU_c1,ocU_len]
     (refine Ao.intro (Aj ?_) ?_;first|rfl|simp[A2,AL,rds,Ai,Ac])
     simp (disch:=omega)only[↓go1,gB2,simprocAttr,Af,ocU_2,ocU_0,ocU_3,ocU_4,Aa s34,h34,ryC_len,z5,z9,z10,z11,za,zr,D_,Qr,Cv,Ci,B4,B5,ocU_len,Ba,BI,and_self,Qf,gB3,Qd,hid,false_and,EZ,EJ,vw_g2,hnT,hlen,hlF,hkF,hk0,hk1,hrF,hre,hw,e3,rE5,rdVw8,putSe8,zo,zv,QF,Aa s22,l22,Aa s25,h25,Aa s29,h29,Aa s37,h37]
     (refine Ao.intro (Aj ?_) ?_;first|rfl|simp[A2,AL,rds,Ai,Ac])
     simp (disch:=omega)only[↓go1,gB2,simprocAttr,Af,ocU_2,ocU_0,ocU_3,ocU_4,Aa s34,h34,ryC_len,z5,z9,z10,z11,za,zr,D_,Qr,Cv,Ci,B4,B5,ocU_len,Ba,BI,and_self,Qf,gB3,Qd,hid,false_and,EZ,EJ,vw_g2,hnT,hlen,hlF,hkF,hk0,hk1,hrF,hre,hw,e3,rE5,rdVw8,putSe8,zo,zv,QF,Aa s22,l22,Aa s25,h25,Aa s29,h29,Aa s37,h37];refine Bm (n:=o.ops.length) (I:=λj st=>st.s 10= .ptr [34] 0∧st.s 15= .int .i64 (j:Int)∧38<=st.c∧Ag st.m [34] 0 9=some (ocU o)) (λj hj ih st g hI=>?_) (λst g hI=>?_) 0 (Qe _) _ _ ⟨rfl,rfl,QA rfl,by simp (disch:=omega)only[↓go1,gB2,simprocAttr,rE5,zo]⟩
     ·obtain⟨st_s,st_m,st_c⟩:=st;obtain⟨h10,h15,hc,hm⟩:=hI;simp only at h10 h15 hc hm;refine Ae dc8l0.eq_1 ?_;have hlt:((j:Int)<o.ops.length):=by omega
      have hj0:=nJ (j:=j);have hw:=wJ (j:=j) (by omega);have hat:=opsD_at hj;have hm3:st_m [34] 3=some (.slice o.nl [] (Da o.ops)):=rdC_at (k:=3) hm rfl;obtain⟨hx1,hx2⟩:=hall.2 _ (List.getElem_mem hj);have h38:=R38_eq o.ops[j].2.1 (Qy hx1.1 (by decide));generalize o.ops[j]=x at hat hx1 hx2 h38;have cs:(Cx x.2.1).2=0∧True∨((Cx x.2.1).2=0)=False∧(x.1=3)=True:=by
       by_cases c3:(Cx x.2.1).2=0
       ·exact .inl ⟨c3,trivial⟩
       ·by_cases c4:x.1=3
        ·exact .inr ⟨eq_false c3,eq_true c4⟩
        ·exact absurd (by unfold Cx;rw[if_neg (λh=>h (hx2 c4))]) c3
      rcases cs with ⟨hpz,c3'⟩|⟨hpz,c3'⟩
      all_goals
       unfold kyD at h38;simp (disch:=omega)only[↓go1,gB2,simprocAttr,h10,h15,hlen,hlt,hj0,Qn,hat,go5,Qj,Qo,Qq,D_,Qr,hm3,pE,z3,Aa s38,h38,c3',hpz,hw];exact ih _ _ ⟨h10,rfl,by simp only;omega,by simp (disch:=omega)only[rE5];exact hm⟩
     ·obtain⟨st_s,st_m,st_c⟩:=st;obtain⟨h10,h15,hc,hm⟩:=hI;simp only at h10 h15 hc hm;have hm3:st_m [34] 3=some (.slice o.nl [] (Da o.ops)):=rdC_at (k:=3) hm rfl;refine Ae dc8l0.eq_1 ?_;simp only[↓go1,gB2,simprocAttr,h10,h15,hlen,D_,Qr,hm3,QF,Aa s10,h10']
      all_goals first|rfl|exact⟨rfl,rfl⟩
end Go.Vd
namespace Go.Vd
open Go.Proofs
end Go.Vd
namespace Go.Vd
open Go.Proofs Go.RowKit
def rE{m:Mem}{i j:Nat}{x:List D}{n:Nat}(h:j≠i):Ag (m.put [i] 0 x) [j] 0 n=Ag m [j] 0 n:=AJ (by simp[h])
def e1{m:Mem}{x:List D}{n:Nat}:Ag (m.put [16] 0 x) [0] 0 n=Ag m [0] 0 n:=rE (by decide)
def e2{m:Mem}{x:List D}{n:Nat}:Ag (m.put [17] 0 x) [0] 0 n=Ag m [0] 0 n:=rE (by decide)
def e3{m:Mem}{x:List D}{n:Nat}:Ag (m.put [16] 0 x) [1] 0 n=Ag m [1] 0 n:=rE (by decide)
def e4{m:Mem}{x:List D}{n:Nat}:Ag (m.put [17] 0 x) [1] 0 n=Ag m [1] 0 n:=rE (by decide)
def e5{m:Mem}{x:List D}{n:Nat}:Ag (m.put [17] 0 x) [16] 0 n=Ag m [16] 0 n:=rE (by decide)
def e6{m:Mem}{x:List D}{n:Nat}:Ag (m.put [16] 0 x) [17] 0 n=Ag m [17] 0 n:=rE (by decide)
def e7{m:Mem}{v:Vw}{i:Id}:Ag (m.put i 0 (vwC v)) i 0 5=some (vwC v):=AO rfl
def v0:Vw:=keyV [107] false
def t1:List Mt:=[([97],2,false)]
def v1:Vw:=⟨false,1,[107],false,t1,false,[firstTk]⟩
end Go.Vd
namespace Go.Vd
open Go.RowKit Go.ChangeShapes Go.WideShapes Go.Deep
def allG(w:World)(b:Nat):Nat:=match w.heap[b]? with
 |some (.cells c _ _)=>c.size
 |_=>0
def allG_out(w:World)(b:Nat)(h:w.heap.size<=b):allG w b=0:=by
 simp[allG,Array.getElem?_eq_none h]
def cell_in{w:World}{p:Addr}{v:Value}(h:w.cell? p=some v):p.off<allG w p.block:=by
 unfold World.cell? at h;unfold allG;split at h
 ·rename_i c e fz hh;split at h
  ·cases h
  ·rw[hh];exact(Qw.1 h).1
 ·cases h
def exists_list{α:Type}{p:Nat->α->Prop}:∀n,(∀i,i<n->∃x,p i x)->∃l:List α,l.length=n∧∀i x,l[i]?=some x->p i x
 |0,_=>⟨[],rfl,by simp⟩
 |n+1,h=>by
  obtain⟨l,h1,h2⟩:=exists_list n (λi hi=>h i (by omega));obtain⟨x,hx⟩:=h n (by omega);refine⟨l++[x],by simp[h1],λi y hy=>?_⟩;by_cases hi:i<l.length
  ·rw[Qh hi]at hy;exact h2 i y hy
  ·rw[Qg (by omega)]at hy;have hi0:i-l.length=0:=by
    rcases Nat.eq_zero_or_pos (i-l.length)with e|e
    ·exact e
    ·rw[List.getElem?_eq_none (by simp;omega)]at hy;cases hy
   rw[hi0]at hy;simp only[Qc,Qi]at hy;subst hy;have:i=n:=by omega
   subst this;exact hx
def isSt(P:Program)(t:TypeId):Bool:=match P.underlying t with
 |some (.struct _)=>true
 |_=>false
def wrapD:Bool->List D->D
 |true,cs=> .agg cs
 |false,[d]=>d
 |false,_=> .junk
def FitL(F:TypeId->List D->Prop):List TypeId->List D->Prop
 |[],ds=>ds=[]
 |t::r,ds=>∃a b,ds=a++b∧F t a∧FitL F r b
def Fit(P:Program):Nat->TypeId->List D->Prop
 |0,_,_=>False
 |n+1,t,ds=>match P.underlying t with
  |some .string=>∃s,ds=[.str s]
  |some .bool=>∃b,ds=[.bool b]
  |some (.int k)=>∃x,ds=[.int k x]∧(Lit.int k x).wf=true
  |some (.struct fs)=>FitL (Fit P n) (fs.toList.map (·.type)) ds
  |some (.slice e)=>∃nl xs,ds=[.slice nl [] xs]∧(nl=true->xs=[])∧∀x∈xs,∃cs,x=wrapD (isSt P e) cs∧Fit P n e cs
  |_=>False
def tile(P:Program)(c:Nat):List Field->Nat->Bool
 |[],o=>o==c
 |f::r,o=>f.offset==o&&tile P c r (o+P.cellsOf f.type)
def plainT(P:Program):Nat->TypeId->Bool
 |0,_=>false
 |n+1,t=>match P.underlying t with
  |some .string=>P.cellsOf t==1
  |some .bool=>P.cellsOf t==1
  |some (.int _)=>P.cellsOf t==1
  |some (.struct fs)=>tile P (P.cellsOf t) fs.toList 0&&fs.toList.all λf=>plainT P n f.type
  |some (.slice e)=>P.cellsOf t==1&&plainT P n e
  |_=>false
structure Says (w:World) (ds:List D) (cs:List Value):Prop where
 len:ds.length=cs.length
 calm:∀d∈ds,d.calm1=true
 un:ds.map D.un1=ds
 rep:∀(j:Nat) d v,ds[j]?=some d->cs[j]?=some v->Rep w (CV (allG w)) d v∧v.oneCell'=true
theorem Says.one {w : World} {d : D} {v : Value} (h1 : d.calm1 = true) (h2 : d.un1 = d) (h3 : Rep w (CV (allG w)) d v) (h4 : v.oneCell' = true) : Says w [d] [v] :=
 ⟨rfl, fun x hx => by simp only [List.mem_cons, List.mem_nil_iff, or_false] at hx; subst hx; exact h1, by simp [h2], fun j x y hx hy => by
  match j with
  | 0 => simp only [Qc, Qi] at hx hy; subst hx hy; exact ⟨h3, h4⟩
  | j + 1 => simp at hx⟩
def flat_wrap{c:Nat}{b:Bool}:∀(l:List (List D))(j:Nat)(d:D),(∀ds∈l,ds.length=c∧(wrapD b ds).cells=ds)->(flat (l.map (wrapD b)))[j]?=some d->∃i k ds,l[i]?=some ds∧ds[k]?=some d∧j=i*c+k
 |[],j,d,_,h=>by simp[flat]at h
 |x::r,j,d,hl,h=>by
  obtain⟨h1,h2⟩:=hl x (List.mem_cons_self ..);simp only[QE,flat,h2]at h;by_cases hj:j<x.length
  ·rw[Qh hj]at h;exact⟨0,j,x,rfl,h,by omega⟩
  ·rw[Qg (by omega)]at h;obtain⟨i,k,ds,e1,e2,e3⟩:=flat_wrap r _ d (λds hd=>hl ds (QC _ hd)) h;refine⟨i+1,k,ds,by simpa using e1,e2,?_⟩;rw[Nat.succ_mul];omega
section
variable{H:Type}{enc:TypeId×Value->H}{P:Program}{w:World}{base:Nat}{spare:Nat->Bool}{held:Bool}
def read_fields{n:Nat}{cs:List Value}{fuel:Nat}(ih:∀t,plainT P n t=true->∀(fuel:Nat)(cs:List Value) x,DataW.trod enc P w base spare held fuel t cs=some x->cs.length=P.cellsOf t∧∃ds,Fit P n t ds∧Says w ds cs):
  ∀(fs:List Field)(o:Nat),tile P cs.length fs o=true->(fs.all λf=>plainT P n f.type)=true->(∀(j:Nat) f,fs[j]?=some f->∃y,DataW.trod enc P w base spare held fuel f.type ((cs.drop f.offset).take (P.cellsOf f.type))=some y)->
   o<=cs.length∧∃ds,FitL (Fit P n) (fs.map (·.type)) ds∧Says w ds (cs.drop o)
 |[],o,ht,_,_=>by
  simp only[tile,beq_iff_eq]at ht;subst ht;refine⟨QB _,[],rfl,by simp,by simp,rfl,by simp⟩
 |f::r,o,ht,hp,hf=>by
  simp only[tile,Ql,beq_iff_eq]at ht;obtain⟨rfl,ht⟩:=ht;simp only[List.all_cons,Ql]at hp;obtain⟨y,hy⟩:=hf 0 f rfl;obtain⟨h1,a,fa,sa⟩:=ih _ hp.1 _ _ _ hy;obtain⟨h2,b,fb,sb⟩:=read_fields ih r _ ht hp.2 (λj g hg=>hf (j+1) g (by simpa using hg));have hsplit:cs.drop f.offset=(cs.drop f.offset).take (P.cellsOf f.type)++cs.drop (f.offset+P.cellsOf f.type):=by
   rw[←List.drop_drop,List.take_append_drop]
  refine⟨by omega,a++b,⟨a,b,rfl,fa,fb⟩,?_⟩;rw[hsplit];refine⟨by rw[Qs,Qs,sa.len,sb.len],λd hd=>?_,by rw[List.map_append,sa.un,sb.un],λj d v hd hv=>?_⟩
  ·rcases List.mem_append.1 hd with h|h
   ·exact sa.calm d h
   ·exact sb.calm d h
  ·have hl:=sa.len;by_cases hj:j<a.length
   ·rw[Qh hj]at hd;rw[Qh (by omega)]at hv;exact sa.rep j d v hd hv
   ·rw[Qg (by omega)]at hd;rw[Qg (by omega),←hl]at hv;exact sb.rep _ d v hd hv
def wrap_cells{n:Nat}{e:TypeId}{ds:List D}(h:Fit P n e ds):(wrapD (isSt P e) ds).cells=ds∧(ds.all D.calm1=true->(wrapD (isSt P e) ds).calm=true):=by
 cases n with
 |zero=>exact h.elim
 |succ n=>
  unfold Fit at h;unfold isSt;split at h
  ·rename_i he;rw[he];obtain⟨s,rfl⟩:=h;exact⟨rfl,λ_=>rfl⟩
  ·rename_i he;rw[he];obtain⟨s,rfl⟩:=h;exact⟨rfl,λ_=>rfl⟩
  ·rename_i he;rw[he];obtain⟨s,rfl,_⟩:=h;exact⟨rfl,λ_=>rfl⟩
  ·rename_i fs he;rw[he];exact⟨rfl,λhc=>by simpa[wrapD,D.calm]using hc⟩
  ·rename_i he;rw[he];obtain⟨nl,xs,rfl,_⟩:=h;exact⟨rfl,λ_=>rfl⟩
  ·exact h.elim
def read_fit:∀(n:Nat)(t:TypeId),plainT P n t=true->∀(fuel:Nat)(cs:List Value) x,DataW.trod enc P w base spare held fuel t cs=some x->cs.length=P.cellsOf t∧∃ds,Fit P n t ds∧Says w ds cs
 |0,t,hp=>by simp[plainT]at hp
 |n+1,t,hp=>by
  intro fuel cs x h;unfold plainT at hp;unfold Fit;split at hp
  ·rename_i ht;simp only[beq_iff_eq]at hp;obtain⟨s,rfl,_⟩:=DataW.trod_string ht h;exact⟨hp.symm,_,⟨s.data.toList,rfl⟩,Says.one rfl rfl (.str _) rfl⟩
  ·rename_i ht;simp only[beq_iff_eq]at hp;obtain⟨b,rfl,_⟩:=DataW.trod_bool ht h;exact⟨hp.symm,_,⟨b,rfl⟩,Says.one rfl rfl (.bool _) rfl⟩
  ·rename_i k ht;simp only[beq_iff_eq]at hp;obtain⟨b,rfl,_,hw⟩:=DataW.trod_int ht h;exact⟨hp.symm,_,⟨b,rfl,hw⟩,Says.one rfl rfl (.int _ _) rfl⟩
  ·rename_i fs ht;simp only[Ql]at hp;obtain⟨ys,n',_,_,hl,hyl,hf⟩:=DataW.trod_struct ht h;rw[←hl]at hp;have:=read_fields (fuel:=n') (read_fit n) fs.toList 0 hp.1 hp.2 (λj f hj=>by
    have hj':fs[j]?=some f:=by simpa using hj
    have hjl:j<fs.size:=(Qw.1 hj').1;have hys:ys[j]?=some (ys[j]'(by omega)):=Qb (by omega);exact⟨_,(hf j f hj').trans hys⟩)
   obtain⟨_,ds,h1,h2⟩:=this;exact⟨hl,ds,h1,by simpa using h2⟩
  ·rename_i e ht;simp only[Ql,beq_iff_eq]at hp;rcases open_slice ht h with ⟨rfl,_⟩|⟨a,len,cap,m,n',D',Pl,rfl,_,hl,_,hm,_,hi⟩
   ·exact⟨hp.1.symm,_,⟨true,[],rfl,(λ_=>rfl),(λx hx=>by cases hx)⟩,Says.one rfl rfl (.nils []) rfl⟩
   ·have hlm:len<=m:=by rw[hm];split<;>omega
    have hc:=exists_list (p:=λi (ds:List D)=>Fit P n e ds∧ds.length=P.cellsOf e∧ds.all D.calm1=true∧∀(j:Nat) d,ds[j]?=some d->∃v,w.cell? (a.add (i*P.cellsOf e+j))=some v∧Rep w (CV (allG w)) d v∧v.oneCell'=true) len (λi hil=>by
     obtain⟨cs',h1,h2⟩:=hi i (by omega);obtain⟨h3,ds,h4,h5⟩:=read_fit n e hp.2 _ _ _ h2;refine⟨ds,h4,h5.len.trans h3,List.all_eq_true.2 h5.calm,λj d hd=>?_⟩;have hj:j<ds.length:=(Qx.1 hd).1;have hjc:j<cs'.length:=by rw[←h5.len];exact hj
     obtain⟨_,_,hat⟩:=World.cells?_some h1;obtain⟨r1,r2⟩:=h5.rep j d _ hd (Qb hjc);refine⟨_,?_,r1,r2⟩;rw[←Go.Deep.add_add,hat j (by omega),Qb hjc])
    obtain⟨l,hll,hlp⟩:=hc;have key:∀j,j<len*P.cellsOf e->∃v,w.cell? (a.add j)=some v∧v.oneCell'=true:=by
     intro j hj;have hc0:0<P.cellsOf e:=by
      rcases Nat.eq_zero_or_pos (P.cellsOf e)with h0|h0
      ·rw[h0]at hj;simp at hj
      ·exact h0
     have hi:j / P.cellsOf e<l.length:=by rw[hll];exact Nat.div_lt_of_lt_mul (by rw[Nat.mul_comm];exact hj)
     obtain⟨_,q2,_,q4⟩:=hlp _ _ (Qb hi);have hk:j % P.cellsOf e<(l[j / P.cellsOf e]).length:=by rw[q2];exact Nat.mod_lt _ hc0
     obtain⟨v,h1,_,h3⟩:=q4 _ _ (Qb hk);rw[Nat.mul_comm,Nat.div_add_mod]at h1;exact⟨v,h1,h3⟩
    have hall:∀ds∈l,ds.length=P.cellsOf e∧(wrapD (isSt P e) ds).cells=ds∧(wrapD (isSt P e) ds).calm=true:=λds hd=>by
     obtain⟨i,hi,rfl⟩:=Qu hd;obtain⟨q1,q2,q3,_⟩:=hlp i _ (Qb hi);exact⟨q2,(wrap_cells q1).1,(wrap_cells q1).2 q3⟩
    refine⟨hp.1.symm,[.slice false [] (l.map (wrapD (isSt P e)))],⟨false,_,rfl,(λh0=>by cases h0),λx hx=>?_⟩,Says.one rfl rfl ?_ rfl⟩
    ·obtain⟨ds,hd,rfl⟩:=QH.1 hx;obtain⟨i,hi,rfl⟩:=Qu hd;exact⟨_,rfl,(hlp i _ (Qb hi)).1⟩
    ·refine .slice [] _ a len cap (P.cellsOf e) (λj=>(w.cell? (a.add j)).getD undef) (by simp[hll]) hl (λd hd=>?_) (λj hj=>?_) (λj hj=>?_) (λj d hd=>?_) (λh0=>?_) (λh=>absurd rfl h) (λd hd=>?_)
     ·obtain⟨ds,hds,rfl⟩:=QH.1 hd;obtain⟨q1,q2,_⟩:=hall ds hds;rw[q2,q1]
     ·obtain⟨v,hv,_⟩:=key j hj;simp only[hv,Qt]
     ·obtain⟨v,hv,ho⟩:=key j hj;simp only[hv,Qt,ho]
     ·obtain⟨i,k,ds,e1,e2,rfl⟩:=flat_wrap (c:=P.cellsOf e) l j d (λds hds=>⟨(hall ds hds).1,(hall ds hds).2.1⟩) hd;obtain⟨_,_,_,q4⟩:=hlp i ds e1;obtain⟨v,h1,h2,_⟩:=q4 k d e2;simp only[h1,Qt];exact h2
     ·obtain⟨v,hv,_⟩:=key (len*P.cellsOf e-1) (by omega);have:=cell_in hv;rw[GE,DX]at this;show a.off+len*P.cellsOf e<=allG w a.block;omega
     ·obtain⟨ds,hds,rfl⟩:=QH.1 hd;exact(hall ds hds).2.2
  ·cases hp
def agg_fit{n:Nat}{r:Reach}{b0:Nat}{t:TypeId}{fs:Array Field}{v:Value}{d:DataW H}{p:List MemPlace}(ht:P.underlying t=some (.struct fs))(hp:plainT P n t=true)(hv:Value.okWide P w r b0 t v)(h:DataW.Trod enc P w base spare held t v d p):
  ∃ds,Fit P n t ds∧Rep w (CV (allG w)) (.agg ds) v∧(D.agg ds).un= .agg ds∧(D.agg ds).calm=true:=by
 obtain⟨cs,rfl,hsz⟩:=okWide_struct ht hv;obtain⟨fuel,hf⟩:=h;obtain⟨_,ds,h1,h2⟩:=read_fit n t hp _ _ _ hf;have hl:ds.length=cs.toList.length:=h2.len;refine⟨ds,h1,.agg ds cs.toList hl.symm (λv hv=>?_) (λj d v hd hv=>(h2.rep j d v hd hv).1),?_,?_⟩
 ·obtain⟨j,hj,rfl⟩:=Qu hv;exact(h2.rep j _ _ (Qb (by omega)) (Qb hj)).2
 ·have:=h2.un;show D.agg _=_
  first|exact congrArg D.agg this|rfl
 ·exact List.all_eq_true.2 h2.calm
end
end Go.Vd
namespace Go.Vd
open Go.Proofs Go.RowKit
section
variable{P:Program}{n:Nat}{t:TypeId}{ds:List D}
def Fit.str(hu:P.underlying t=some .string)(h:Fit P (n+1) t ds):∃s,ds=[.str s]:=by unfold Fit at h;rw[hu]at h;exact h
def Fit.bool(hu:P.underlying t=some .bool)(h:Fit P (n+1) t ds):∃b,ds=[.bool b]:=by unfold Fit at h;rw[hu]at h;exact h
def Fit.int{k:IntKind}(hu:P.underlying t=some (.int k))(h:Fit P (n+1) t ds):∃x,ds=[.int k x]∧(Lit.int k x).wf=true:=by unfold Fit at h;rw[hu]at h;exact h
def Fit.struct{fs:Array Field}(hu:P.underlying t=some (.struct fs))(h:Fit P (n+1) t ds):FitL (Fit P n) (fs.toList.map (·.type)) ds:=by unfold Fit at h;rw[hu]at h;exact h
def Fit.slice{e:TypeId}(hu:P.underlying t=some (.slice e))(h:Fit P (n+1) t ds):∃nl xs,ds=[.slice nl [] xs]∧(nl=true->xs=[])∧∀x∈xs,∃cs,x=wrapD (isSt P e) cs∧Fit P n e cs:=by unfold Fit at h;rw[hu]at h;exact h
end
def all_map{α:Type}{f:α->D}{p:α->Prop}:∀{xs:List D},(∀x∈xs,∃y,x=f y∧p y)->∃l:List α,xs=l.map f∧∀y∈l,p y
 |[],_=>⟨[],rfl,λy hy=>by cases hy⟩
 |x::r,h=>by
  obtain⟨y,rfl,hp⟩:=h x (List.mem_cons_self ..);obtain⟨l,rfl,hl⟩:=all_map (f:=f) (p:=p) (xs:=r) (λz hz=>h z (QC _ hz));exact⟨y::l,rfl,λz hz=>by
   rcases List.mem_cons.1 hz with rfl|hz
   ·exact hp
   ·exact hl z hz⟩
def wf_u8{x:Int}(h:(Lit.int .u8 x).wf=true):0<=x∧x<256:=by
 simp only[Lit.wf,Ql,decide_eq_true_eq]at h;have h1:=h.1;have h2:=h.2;simp[IntKind.min,IntKind.max,IntKind.bits,IntKind.signed]at h1 h2;omega
section
variable{n:Nat}{ds:List D}
def fit_rules(h:Fit Qa (n+3) 45 ds):∃nl l,ds=[.slice nl [] (Al l)]∧(nl=true->l=[])∧DW l:=by
 obtain⟨nl,xs,rfl,hn,hx⟩:=Fit.slice underlying45 h;obtain⟨l,rfl,hl⟩:=all_map (f:=rlD) (p:=λr=>0<=r.2∧r.2<256) (xs:=xs) (λx hxx=>by
  obtain⟨cs,rfl,hf⟩:=hx x hxx;rw[show isSt Qa 191=true by kernel_rfl];have hf:=Fit.struct underlying191 hf;obtain⟨a,b,rfl,f1,a2,b2,rfl,f2,rfl⟩:=hf;obtain⟨s,rfl⟩:=Fit.str underlying9 f1;obtain⟨x,rfl,hw⟩:=Fit.int underlying5 f2;exact⟨(s,x),rfl,wf_u8 hw⟩)
 exact⟨nl,l,rfl,λe=>by simpa using hn e,hl⟩
def fit_mounts(h:Fit Qa (n+4) 40 ds):∃nl l,ds=[.slice nl [] (Ar l)]:=by
 obtain⟨nl,xs,rfl,hn,hx⟩:=Fit.slice underlying40 h;obtain⟨l,rfl,hl⟩:=all_map (f:=mtD) (p:=λ_=>True) (xs:=xs) (λx hxx=>by
  obtain⟨cs,rfl,hf⟩:=hx x hxx;rw[show isSt Qa 118=true by kernel_rfl];have hf:=Fit.struct underlying118 hf;obtain⟨a,b,rfl,f1,a2,b2,rfl,f2,rfl⟩:=hf;obtain⟨s,rfl⟩:=Fit.str underlying9 f1;have g:=Fit.struct underlying116 f2;obtain⟨a',b',rfl,g1,a2',b2',rfl,g2,rfl⟩:=g;obtain⟨x,rfl,_⟩:=Fit.int underlying3 g1;obtain⟨c,rfl⟩:=Fit.bool underlying4 g2;exact⟨(s,x,c),rfl,trivial⟩)
 exact⟨nl,l,rfl⟩
def fit_tokens(h:Fit Qa (n+6) 41 ds):∃nl l,ds=[.slice nl [] (Ax l)]∧∀k∈l,rawT k:=by
 obtain⟨nl,xs,rfl,hn,hx⟩:=Fit.slice underlying41 h;obtain⟨l,rfl,hl⟩:=all_map (f:=tkD) (p:=rawT) (xs:=xs) (λx hxx=>by
  obtain⟨cs,rfl,hf⟩:=hx x hxx;rw[show isSt Qa 134=true by kernel_rfl];have hf:=Fit.struct underlying134 hf;obtain⟨a,b,rfl,f1,a2,b2,rfl,f2,a3,b3,rfl,f3,rfl⟩:=hf;obtain⟨s,rfl⟩:=Fit.str underlying9 f1;obtain⟨s2,rfl⟩:=Fit.str underlying9 f2;obtain⟨nr,lr,rfl,h1,h2⟩:=fit_rules f3;exact⟨(s,s2,nr,lr),rfl,h1,h2⟩)
 exact⟨nl,l,rfl,hl⟩
def fit_ints(h:Fit Qa (n+2) 44 ds):∃nl l,ds=[.slice nl [] (AT l)]:=by
 obtain⟨nl,xs,rfl,hn,hx⟩:=Fit.slice underlying44 h;obtain⟨l,rfl,hl⟩:=all_map (f:=λx=>D.int .i64 x) (p:=λ_=>True) (xs:=xs) (λx hxx=>by
  obtain⟨cs,rfl,hf⟩:=hx x hxx;rw[show isSt Qa 3=false by kernel_rfl];obtain⟨x,rfl,_⟩:=Fit.int underlying3 hf;exact⟨x,rfl,trivial⟩)
 exact⟨nl,l,rfl⟩
def fit_sight(h:Fit Qa 8 43 ds):∃v:Vw,ds=vwC v∧∀k∈v.ks,rawT k:=by
 have h:=Fit.struct underlying43 h;obtain⟨a1,b1,rfl,f1,a2,b2,rfl,f2,a3,b3,rfl,f3,a4,b4,rfl,f4,a5,b5,rfl,f5,rfl⟩:=h;obtain⟨x1,rfl⟩:=Fit.bool underlying4 f1;obtain⟨x2,rfl,_⟩:=Fit.int underlying3 f2;obtain⟨x3,rfl⟩:=Fit.str underlying9 f3;obtain⟨n4,x4,rfl⟩:=fit_mounts f4;obtain⟨n5,x5,rfl,h5⟩:=fit_tokens f5;exact⟨⟨x1,x2,x3,n4,x4,n5,x5⟩,rfl,h5⟩
def fit_ask(h:Fit Qa 8 47 ds):∃a:Ak,ds=akC a∧DW a.rs∧0<=a.op∧a.op<256:=by
 have h:=Fit.struct underlying47 h;obtain⟨a1,b1,rfl,f1,a2,b2,rfl,f2,a3,b3,rfl,f3,a4,b4,rfl,f4,a5,b5,rfl,f5,a6,b6,rfl,f6,a7,b7,rfl,f7,a8,b8,rfl,f8,a9,b9,rfl,f9,a10,b10,rfl,f10,a11,b11,rfl,f11,rfl⟩:=h;obtain⟨x1,rfl,w1⟩:=Fit.int underlying5 f1;obtain⟨x2,rfl⟩:=Fit.str underlying9 f2;obtain⟨x3,rfl⟩:=Fit.str underlying9 f3;obtain⟨x4,rfl⟩:=Fit.str underlying9 f4;obtain⟨x5,rfl,_⟩:=Fit.int underlying3 f5;obtain⟨x6,rfl,_⟩:=Fit.int underlying3 f6;obtain⟨x7,rfl⟩:=Fit.bool underlying4 f7;obtain⟨n8,x8,rfl⟩:=fit_ints f8;obtain⟨x9,rfl⟩:=Fit.str underlying9 f9;obtain⟨n10,x10,rfl,_,h10⟩:=fit_rules f10;obtain⟨x11,rfl⟩:=Fit.str underlying9 f11;obtain⟨w2,w3⟩:=wf_u8 w1;exact⟨⟨x1,x2,x3,x4,x5,x6,x7,n8,x8,x9,n10,x10,x11⟩,rfl,h10,w2,w3⟩
end
section
variable{n:Nat}{ds:List D}
def fit_items(h:Fit Qa (n+3) 22 ds):∃(nl:Bool)(l:List (Bs×Bs×Bool)),ds=[.slice nl [] (l.map itD)]:=by
 obtain⟨nl,xs,rfl,hn,hx⟩:=Fit.slice underlying22 h;obtain⟨l,rfl,hl⟩:=all_map (f:=itD) (p:=λ_=>True) (xs:=xs) (λx hxx=>by
  obtain⟨cs,rfl,hf⟩:=hx x hxx;rw[show isSt Qa 38=true by kernel_rfl];have hf:=Fit.struct underlying38 hf;obtain⟨a,b,rfl,f1,a2,b2,rfl,f2,a3,b3,rfl,f3,rfl⟩:=hf;obtain⟨s,rfl⟩:=Fit.str underlying9 f1;obtain⟨s2,rfl⟩:=Fit.str underlying9 f2;obtain⟨c,rfl⟩:=Fit.bool underlying4 f3;exact⟨(s,s2,c),rfl,trivial⟩)
 exact⟨nl,l,rfl⟩
def fit_strs(h:Fit Qa (n+2) 28 ds):∃nl l,ds=[.slice nl [] (Ay l)]∧(nl=true->l=[]):=by
 obtain⟨nl,xs,rfl,hn,hx⟩:=Fit.slice underlying28 h;obtain⟨l,rfl,hl⟩:=all_map (f:=D.str) (p:=λ_=>True) (xs:=xs) (λx hxx=>by
  obtain⟨cs,rfl,hf⟩:=hx x hxx;rw[show isSt Qa 9=false by kernel_rfl];obtain⟨s,rfl⟩:=Fit.str underlying9 hf;exact⟨s,rfl,trivial⟩)
 exact⟨nl,l,rfl,λe=>by simpa using hn e⟩
def fit_lists(h:Fit Qa (n+5) 24 ds):∃(nl:Bool)(l:List (Bs×Bool×List Bs)),ds=[.slice nl [] (l.map ltD)]∧∀x∈l,x.2.1=true->x.2.2=[]:=by
 obtain⟨nl,xs,rfl,hn,hx⟩:=Fit.slice underlying24 h;obtain⟨l,rfl,hl⟩:=all_map (f:=ltD) (p:=λx=>x.2.1=true->x.2.2=[]) (xs:=xs) (λx hxx=>by
  obtain⟨cs,rfl,hf⟩:=hx x hxx;rw[show isSt Qa 109=true by kernel_rfl];have hf:=Fit.struct underlying109 hf;obtain⟨a,b,rfl,f1,a2,b2,rfl,f2,rfl⟩:=hf;obtain⟨s,rfl⟩:=Fit.str underlying9 f1;obtain⟨nl2,l2,rfl,h2⟩:=fit_strs f2;exact⟨(s,nl2,l2),rfl,h2⟩)
 exact⟨nl,l,rfl,hl⟩
def fit_known(h:Fit Qa 8 26 ds):∃d:Dk,ds=dkC d∧∀x∈d.lss,x.2.1=true->x.2.2=[]:=by
 have h:=Fit.struct underlying26 h;obtain⟨a1,b1,rfl,f1,a2,b2,rfl,f2,rfl⟩:=h;obtain⟨n1,l1,rfl⟩:=fit_items f1;obtain⟨n2,l2,rfl,h2⟩:=fit_lists f2;exact⟨⟨n1,l1,n2,l2⟩,rfl,h2⟩
end
def errors_law{w:World}{v0 v1 v2:Value}(h0:∃v:Vw,(∀k∈v.ks,rawT k)∧Rep w (CV (allG w)) (.agg (vwC v)) v0)(h1:∃a:Ak,DW a.rs∧0<=a.op∧a.op<256∧Rep w (CV (allG w)) (.agg (akC a)) v1)(h2:∃d:Dk,(∀x∈d.lss,x.2.1=true->x.2.2=[])∧Rep w (CV (allG w)) (.agg (dkC d)) v2):
  Calls Qa 8 #[v0,v1,v2] w λe w'=>e= .returned (.bool true)∧Below w.heap.size w w':=by
 obtain⟨v,hv,r0⟩:=h0;obtain⟨a,ha,ho,ho2,r1⟩:=h1;obtain⟨d,hd,r2⟩:=h2;refine row_true ko8 (G:=allG w) (λb hb=>allG_out w b hb) (ds:=[.agg (vwC v),.agg (akC a),.agg (dkC d)]) (vs:=[v0,v1,v2]) rfl (λj d x hd hx=>?_) rfl rfl (R8_eq v a d hv ho ho2 ha hd)
 match j with
 |0=>simp only[Qc,Qi]at hd hx;subst hd hx;exact r0
 |1=>simp only[Qk,Qc,Qi]at hd hx;subst hd hx;exact r1
 |2=>simp only[Qk,Qc,Qi]at hd hx;subst hd hx;exact r2
 |j+3=>simp at hd
end Go.Vd
end
