/- A part of the proof; nothing in it is assumed. -/
import Derived.Test.YtpiplnfjodahpaaGreatDoorMReadsP5
import Derived.Deep.Fields

set_option linter.unusedSimpArgs false
set_option linter.unusedVariables false
set_option linter.defProp false
set_option maxHeartbeats 4000000
set_option maxRecDepth 100000
open List renaming length_append→Qa,getElem?_eq_getElem→Qc,getElem?_cons_zero→Qe,nil_append→Qf,cons_append→Qg,length_nil→Qh,length_cons→Qi,getElem?_append_right→Ql,getElem?_append_left→Qm,mem_cons_self→Qn,mem_cons_of_mem→Qq,mem_singleton→Qs,getElem?_cons_succ→Qt,getD→Qu,length_pos_iff→Qv,getElem_of_mem→Qw,getLast?_map→Qx,mem_map→Qy,all_eq_true→Qz,map_cons→QA,length→QD,take→QE
open Bool renaming and_eq_true→Qb
open Nat renaming le_of_ble_eq_true→Qd,le_trans→Qr,mul_comm→QC
open Option renaming isSome_some→Qj,getD_some→Qp
open Int renaming toNat_natCast→Qk
open Option.some renaming injEq→Qo
open Go.Proofs.Tryz renaming prog→QB
open List.cons renaming injEq→QF
noncomputable section
namespace Go.Vd
open Go.Proofs Go.RowKit
def LN(q:UInt8):∀(a b:Bs),splitC q (a++q::b)=splitC q a++splitC q b
 |[],b=>by
  show splitC q (q::b)=_
  conv=>lhs;unfold splitC
  rw[if_pos rfl];rfl
 |c::r,b=>by
  have ih:=LN q r b;show splitC q (c::(r++q::b))=_
  conv=>lhs;unfold splitC
  conv=>rhs;arg 1;unfold splitC
  rw[ih];split
  ·rfl
  ·grind [splitC,Ci]
def jE{q:UInt8}{s:Bs}(h:(splitC q s).length=1):q∉s:=λj=>by
 obtain⟨a,b,rfl⟩:=List.append_of_mem j;rw[LN,Qa]at h;have u:=Qv.2 (Ci (q:=q) a);have f:=Qv.2 (Ci (q:=q) b);omega
def Nt(data:Bs):Bs:=if data=[]then [45]else Cl data
def pN(p w:Bs):Bs:=[119,114,105,116,101,32,114,111,111,116,32]++p++[32,45,32]++w
def vC(p:Bs):Bs:=[114,101,97,100,32,114,111,111,116,32]++p++[32,48]
def lpD(p:Bs):Bs:=[100,101,108,101,116,101,32,114,111,111,116,32]++p++[32,45]
def lpQ(p:Bs):Bs:=[117,110,100,101,108,101,116,101,32,114,111,111,116,32]++p++[32,45]
def lpX(p:Bs):Bs:=[100,101,115,116,114,111,121,32,114,111,111,116,32]++p++[32,45]
def fX(p data:Bs):Ak:={akZ with op:=10,tk:=Hg,pa:=p,cas:=-1,da:=data}
def apR(p:Bs):Ak:={akZ with op:=9,tk:=Hg,pa:=p}
def apT(k:Int)(p:Bs):Ak:={akZ with op:=k,tk:=Hg,pa:=p}
def aSA(data:Bs):(32:UInt8)∉Nt data:=by
 unfold Nt;split
 ·decide
 ·exact aIf
def aAd(data:Bs)(h:data.length<=96):(Nt data).length<=192:=by
 unfold Nt;split
 ·decide
 ·have:=Gm data;omega
def aSz{data:Bs}(h:data≠[]):Cl data≠[45]:=λe=>by
 have:=congrArg QD e;rw[Gm]at this;simp only[Qi,Qh]at this;omega
def aKS{a:Ak}:A1 a 116 Hg=({a with tk:=Hg},0):=rfl
def aA2{a:Ak}(p:Bs):A1 a 112 p=({a with pa:=p},AF p):=rfl
def aPo{a:Ak}:A1 a 99 [45]=({a with cas:=-1},0):=rfl
def aTf{a:Ak}(x:a.da=[])(data:Bs):A1 a 100 (Nt data)=({a with da:=data},0):=by
 unfold Nt;by_cases h:data=[]
 ·rw[if_pos h];cases a;simp only at x;subst x h;rfl
 ·rw[if_neg h];show(if Cl data=[45]then(a,0)else({a with da:=(CX (Cl data)).getD []},BK ((CX (Cl data)).isSome&&decide (Cl data≠[]))))=_;rw[if_neg (aSz h),nX];have:Cl data≠[]:=λe=>h (by
   have f:=congrArg QD e;rw[Gm]at f;simp only[Qh]at f;exact List.length_eq_zero_iff.1 O)
  rw[decide_eq_true this];rfl
def aTc{a:Ak}(x:a.n=0):A1 a 110 [48]=(a,0):=by
 show({a with n:=HU [48]},A7 {a with n:=HU [48]} 110)=_;rw[show HU [48]=0 by kernel_rfl,←x];show(a,A7 a 110)=_;unfold A7;rw[x];rfl
def aA3{a:Ak}(x:a.ns=[]):A1 a 108 [45]=(a,0):=by
 show(a,A7 a 108)=_;unfold A7;rw[x];rfl
def LQ{a b:Ak}{c:UInt8}{r:Bs}{w:Bs}{k:List Bs}(h:A1 a (c.toNat:Int) w=(b,0)):AD a (c::r) (w::k)=AD b r k:=by
 show(if(A1 a (c.toNat:Int) w).2≠0 then _ else AD (A1 a (c.toNat:Int) w).1 r k)=_;rw[h,if_neg (λh=>h rfl)]
def aHj{a b:Ak}{c:UInt8}{r:Bs}{w:Bs}{k:List Bs}{e:Int}(h:A1 a (c.toNat:Int) w=(b,e))(v:e≠0):AD a (c::r) (w::k)=(akZ,e):=by
 show(if(A1 a (c.toNat:Int) w).2≠0 then(akZ,(A1 a (c.toNat:Int) w).2)else _)=_;rw[h,if_pos v]
def pQ{p data:Bs}(c:p.length<=64)(t:data.length<=96):(pN p (Nt data)).length<=400:=by
 have:=aAd data t;unfold pN;simp only[Qa,Qi,Qh];omega
def aWB{p data:Bs}(k:p.length<=64)(t:data.length<=96):(Cd (pN p (Nt data))).2≠0∨(AF p=0∧(32:UInt8)∉p∧Cd (pN p (Nt data))=(fX p data,0)):=by
 have hl:=pQ k t;have j:splitC 32 (pN p (Nt data))=[119,114,105,116,101]::Hg::(splitC 32 p++[[45],Nt data]):=by
  have e:pN p (Nt data)=[119,114,105,116,101]++32::(Hg++32::(p++32::([45]++32::Nt data))):=by simp[pN,Hg]
  rw[e,split_word V,split_word V,LN,split_word V,split_one (aSA data)]
 have y:jT [119,114,105,116,101]=10:=Z
 have d:Bk 10=[116,112,99,100]:=rfl;by_cases g:(splitC 32 p).length=1
 ·have q:=jE g;rw[split_one q]at j;have n:Cd (pN p (Nt data))=AD {akZ with op:=10} [116,112,99,100] [Hg,p,[45],Nt data]:=by
   unfold Cd;rw[j,if_neg O];simp only[Qu,Qe,Qp,y];rw[if_neg V,d];have r:([119,114,105,116,101]::Hg::([p]++[[45],Nt data])).length=1+([116,112,99,100]:Bs).length:=rfl;rw[if_neg (λh=>h r)];rfl
  rw[n,LQ (c:=116) (b:={akZ with op:=10,tk:=Hg}) aKS];by_cases i:AF p=0
  ·rw[LQ (c:=112) (b:={akZ with op:=10,tk:=Hg,pa:=p}) ((aA2 p).trans (by rw[i])),LQ (c:=99) (b:={akZ with op:=10,tk:=Hg,pa:=p,cas:=-1}) aPo,LQ (c:=100) (b:=fX p data) (aTf rfl data)];exact .inr ⟨i,q,rfl⟩
  ·rw[aHj (c:=112) (aA2 p) i];exact .inl i
 ·have n:Cd (pN p (Nt data))=(akZ,4):=by
   unfold Cd;rw[j,if_neg O];simp only[Qu,Qe,Qp,y];rw[if_neg V,d];rw[if_pos (by simp only[Qi,Qa,Qh];omega)]
  rw[n];exact .inl V
def rK{W p z:Bs}{op:Int}{c:UInt8}{b:Ak}(k:p.length<=64)(q:(32:UInt8)∉p)(i:AF p=0)(s:(32:UInt8)∉W)(a:W.length<=20)(y:jT W=op)(t:op≠0)(d:Bk op=[116,112,c])(o:(32:UInt8)∉z)(u:z.length<=10)
  (m:A1 {akZ with op:=op,tk:=Hg,pa:=p} (c.toNat:Int) z=(b,0)):Cd (W++32::(Hg++32::(p++32::z)))=(b,0):=by
 have j:splitC 32 (W++32::(Hg++32::(p++32::z)))=[W,Hg,p,z]:=by
  rw[split_word s,split_word V,split_word q,split_one o]
 unfold Cd;rw[j,if_neg (by simp only[Qa,Qi,Hg,Qh];omega)];simp only[Qu,Qe,Qp,y];rw[if_neg t,d];have r:([W,Hg,p,z]:List Bs).length=1+([116,112,c]:Bs).length:=rfl;rw[if_neg (λh=>h r)];show AD {akZ with op:=op} [116,112,c] [Hg,p,z]=_;rw[LQ (c:=116) (b:={akZ with op:=op,tk:=Hg}) aKS,LQ (c:=112) (b:={akZ with op:=op,tk:=Hg,pa:=p}) ((aA2 p).trans (by rw[i])),LQ m];rfl
def aWC{p:Bs}(k:p.length<=64)(q:(32:UInt8)∉p)(i:AF p=0):Cd (vC p)=(apR p,0):=by
 have e:vC p=[114,101,97,100]++32::(Hg++32::(p++32::[48])):=by simp[vC,Hg]
 rw[e];exact rK (op:=9) (c:=110) k q i V V Z V rfl V V (aTc rfl)
def aWE{p:Bs}(k:p.length<=64)(q:(32:UInt8)∉p)(i:AF p=0):Cd (lpD p)=(apT 11 p,0):=by
 have e:lpD p=[100,101,108,101,116,101]++32::(Hg++32::(p++32::[45])):=by simp[lpD,Hg]
 rw[e];exact rK (op:=11) (c:=108) k q i V V Z V rfl V V (aA3 rfl)
def aWD{p:Bs}(k:p.length<=64)(q:(32:UInt8)∉p)(i:AF p=0):Cd (lpQ p)=(apT 12 p,0):=by
 have e:lpQ p=[117,110,100,101,108,101,116,101]++32::(Hg++32::(p++32::[45])):=by simp[lpQ,Hg]
 rw[e];exact rK (op:=12) (c:=108) k q i V V Z V rfl V V (aA3 rfl)
def aWA{p:Bs}(k:p.length<=64)(q:(32:UInt8)∉p)(i:AF p=0):Cd (lpX p)=(apT 13 p,0):=by
 have e:lpX p=[100,101,115,116,114,111,121]++32::(Hg++32::(p++32::[45])):=by simp[lpX,Hg]
 rw[e];exact rK (op:=13) (c:=108) k q i V V Z V rfl V V (aA3 rfl)
def xR(p:Bs):Db [([],63)] p=63:=by
 have h:Ch p []=true:=by
  unfold Ch Cu;by_cases e:p=[]
  ·rw[decide_eq_true e];rfl
  ·rw[if_pos rfl,decide_eq_true e,Bool.or_true]
 have e:Gj p [[]]=0:=by
  show(if(-1:Int)<((([[]]:List Bs).getD 0 []).length:Int)∧Ch p (([[]]:List Bs).getD 0 [])=true then _ else _)=(0:Int);rw[if_pos ⟨V,h⟩];rfl
 unfold Db;rw[show([(([]:Bs),(63:Int))].map (·.1))=[[]]from rfl,e];rfl
structure aES (v:Vw) (p:Bs):Prop where
 se:v.se=false
 fd:A0 v.ks Hg=true
 mt:Ct v.ms p≠-1
def aHd{v:Vw}{p data:Bs}(h:F8 v (fX p data)=0):aES v p:=by
 unfold F8 at h;by_cases w:BQ (fX p data)≠0
 ·rw[if_pos w]at h;exact absurd h w
 rw[if_neg w,if_neg (show ¬((fX p data).op=1)from(by decide:¬((10:Int)=1))),if_neg (show ¬((fX p data).op=2)from(by decide:¬((10:Int)=2)))]at h;by_cases j:v.se=true
 ·rw[if_pos j]at h;cases h
 rw[if_neg j]at h;by_cases c:IC v (fX p data)=false
 ·rw[if_pos c]at h;cases h
 rw[if_neg c]at h;by_cases a:FO v (fX p data)=false
 ·rw[if_pos a]at h;cases h
 refine⟨by simpa using j,?_,λe=>a ?_⟩
 ·have c:IC v (fX p data)=true:=by simpa using c
  unfold IC EI at c;simp only[Qb]at c;exact c.1.1
 ·unfold FO;rw[show(fX p data).pa=p from rfl,e];rfl
def W7{v:Vw}{p:Bs}(hi:SP v.ks)(h:aES v p){a:Ak}{s:Bs}(x:Cd s=(a,0))(q:a.tk=Hg)(c:a.pa=p)(g:a.op=9∨a.op=11∨a.op=12∨a.op=13):F8 v a=0:=by
 have k:Ir v.ks Hg<v.ks.length:=by
  have d:=h.fd;unfold A0 at d;simp only[Qb,decide_eq_true_eq]at d;exact d.1
 have y:(Bo v.ks (Ir v.ks Hg)).1=Hg:=by
  have d:=h.fd;unfold A0 at d;rw[Qb,N_]at d;exact of_decide_eq_true d.2
 have z:=hi.rt _ (PL k) y;have u:IC v a=true:=by
  unfold IC EI atA;rw[q,h.fd,z,if_neg O,xR,decide_eq_true (by omega:a.op≠18)];rcases g with e|e|e|e<;>rw[e]<;>rfl
 have f:FO v a=true:=by
  unfold FO;rw[c,decide_eq_true h.mt,decide_eq_true (by omega:a.op≠18)];simp
 unfold F8;rw[if_neg (by rw[(yG x).1];decide),if_neg O,if_neg O,if_neg (by rw[h.se];decide),if_neg (by rw[u];decide),if_neg (by rw[f];decide)]
def pS(t:Tr)(p:Bs):Kn:=AY kn0 (Aw 1 p 0) false (En t (Aw 1 p 0))
def OO(t:Tr)(p:Bs):Bs×Bool×Bool:=((t.get (Aw 1 p 0)).getD [],(t.get (Aw 1 p 0)).isSome,true)
def P6(t:Tr)(p:Bs):¬((OO t p).2.2=false):=λh=>Xc
def Lq(k:Kn)(t:Tr)(q w:Bs):C5 (AY k q false (En t q)) w=if q=w then((t.get q).getD [],(t.get q).isSome,true)else C5 k w:=by
 rw[dJ];exact eQ k q _ _ w
def aBD(t:Tr)(p:Bs):AK (pS t p) p=OO t p:=by
 unfold AK pS;rw[Lq,if_pos rfl];rfl
def MK{k n:Int}{name:Bs}{p r:Int}{a:Bs}(h:Ca k name n=0)(z:Ca p a r=0)(e:Aw k name n=Aw p a r):k=p∧name=a∧n=r:=by
 have u:=Lo h;rw[e,Lo z]at u;simp only[Prod.mk.injEq]at u;exact⟨u.1.symm,u.2.1.symm,u.2.2.symm⟩
def PR{z:Kn->Oc}{t:Tr}{f:Nat}{k:Kn}{v:Vw}{q:Bs}(h:z k=CI v q false)(y:q≠[]):Mq z t (f+1) k=Mq z t f (AY k q false (En t q)):=by
 show(if(z k).need=[]then z k else Mq z t f (AY k (z k).need (z k).li (En t (z k).need)))=_;rw[h];exact if_neg y
def WZ{z:Kn->Oc}{t:Tr}{f:Nat}{k:Kn}(h:(z k).need=[]):Mq z t f k=z k:=by
 cases f with
 |zero=>rfl
 |succ f=>exact if_pos h
def P0{m:Md}{z:Kn->Oc}{p:Bs}(i:AF p=0)(h:z kn0=CI m.vw (Aw 1 p 0) false)(f:(z (pS m.tr p)).need=[]):ED z m=z (pS m.tr p):=by
 show Mq z m.tr (3+1) kn0=_;rw[PR h (IN (OK i))];exact WZ f
def rC{v:Vw}{a:Ak}:B2 v a kn0=CI v (Aw 1 a.pa 0) false:=if_pos rfl
def iN(v:Vw)(p:Bs)(s:Sc)(c:Int)(d:Bs):(DE v p s c d).need=[]:=by
 unfold DE;split
 ·rfl
 ·rfl
def tU(v:Vw)(p:Bs)(s:Sc)(g:List Int)(e:Int):(E_ v p s g e).need=[]:=by
 unfold E_;split
 ·rfl
 ·rfl
def fI{v:Vw}{a:Ak}{t:Tr}(y:a.op=10):B2 v a (pS t a.pa)=DE v a.pa (Ik (CM (OO t a.pa))) a.cas a.da:=by
 unfold B2;rw[aBD,if_neg (P6 _ _),if_pos y]
def fJ{v:Vw}{a:Ak}{t:Tr}{s:Sc}{c:Nat}(j:CM (OO t a.pa)=some s)(y:(a.op=11∧c=280)∨(a.op=12∧c=281)∨(a.op=13∧c=282)):B2 v a (pS t a.pa)=E_ v a.pa (Bg s a.ns c).1 (if a.op=13 then(Bg s a.ns c).2.1 else []) (Bg s a.ns c).2.2:=by
 unfold B2;rw[aBD,if_neg (P6 _ _),if_neg O,if_neg O,j];simp only;rw[if_neg O,if_neg O];rcases y with ⟨h,rfl⟩|⟨h,rfl⟩|⟨h,rfl⟩
 ·rw[if_pos h,if_neg O]
 ·rw[if_neg O,if_pos h,if_neg O]
 ·rw[if_neg O,if_neg O,if_pos h]
def aTh{m:Md}{a:Ak}(i:AF a.pa=0)(y:a.op=10):ED (B2 m.vw a) m=DE m.vw a.pa (Ik (CM (OO m.tr a.pa))) a.cas a.da:=by
 rw[P0 i rC (by rw[fI y];exact iN _ _ _ _ _),fI y]
def aTi{m:Md}{a:Ak}{s:Sc}{c:Nat}(i:AF a.pa=0)(j:CM (OO m.tr a.pa)=some s)(y:(a.op=11∧c=280)∨(a.op=12∧c=281)∨(a.op=13∧c=282)):ED (B2 m.vw a) m=E_ m.vw a.pa (Bg s a.ns c).1 (if a.op=13 then(Bg s a.ns c).2.1 else []) (Bg s a.ns c).2.2:=by
 rw[P0 i rC (by rw[fJ j y];exact tU _ _ _ _ _),fJ j y]
def aTj{m:Md}{a:Ak}{s:Sc}{row:Rw}{e:Int}(hr:AF a.pa=0)(r:a.op=9)(k:CM (OO m.tr a.pa)=some s)(f:EK s a.n=(row,e))(o:e=0->1<=row.1∧row.1<=30):
  ED (B4 m.vw a) m=if e=0 then {Hd m.vw with rep:=HD (.found row.1 ((m.tr.get (Aw 2 a.pa row.1)).getD []))}else EM m.vw e:=by
 have t:B4 m.vw a kn0=CI m.vw (Aw 1 a.pa 0) false:=if_pos rfl;have c:LS a=a.n:=by unfold LS;rw[if_neg O]
 have w:=aBD m.tr a.pa;have d:EC (pS m.tr a.pa) a=(row,e):=by
  unfold EC;rw[w,k,c];exact f
 by_cases v:e=0
 ·subst v;rw[if_pos rfl];have z:=o rfl;have hk:=UM hr z;have q:Aw 2 a.pa row.1≠Aw 1 a.pa 0:=λe=>by have:=(MK hk (OK hr) e).1;omega
  have j:BZ (pS m.tr a.pa) a=Aw 2 a.pa row.1:=by unfold BZ;rw[d]
  have u:B4 m.vw a (pS m.tr a.pa)=CI m.vw (Aw 2 a.pa row.1) false:=by
   unfold B4;rw[w,if_neg (P6 _ _),k,if_neg U,d,if_neg (λh=>h rfl),j];have:C5 (pS m.tr a.pa) (Aw 2 a.pa row.1)=([],false,false):=by
    unfold pS;rw[Lq,if_neg (λe=>q e.symm)];rfl
   rw[this,if_pos rfl]
  show Mq (B4 m.vw a) m.tr (2+1+1) kn0=_;rw[PR t (IN (OK hr))];show Mq (B4 m.vw a) m.tr (2+1) (pS m.tr a.pa)=_;rw[PR u (IN hk)];generalize g:AY (pS m.tr a.pa) (Aw 2 a.pa row.1) false (En m.tr (Aw 2 a.pa row.1))=k2;have p:AK k2 a.pa=OO m.tr a.pa:=by
   rw[←g];unfold AK;rw[Lq,if_neg q];exact w
  have b:EC k2 a=(row,0):=by
   unfold EC;rw[p,k,c];exact f
  have i:BZ k2 a=Aw 2 a.pa row.1:=by unfold BZ;rw[b]
  have fa:C5 k2 (Aw 2 a.pa row.1)=((m.tr.get (Aw 2 a.pa row.1)).getD [],(m.tr.get (Aw 2 a.pa row.1)).isSome,true):=by
   rw[←g,Lq,if_pos rfl]
  have y:B4 m.vw a k2={Hd m.vw with rep:=HD (.found row.1 ((m.tr.get (Aw 2 a.pa row.1)).getD []))}:=by
   unfold B4 PM;rw[p,if_neg (P6 _ _),k,if_neg U,b,if_neg (λh=>h rfl),i,fa,if_neg (show ¬(true=false)by decide),if_pos r];cases m.tr.get (Aw 2 a.pa row.1)with
   |none=>rfl
   |some x=>rfl
  rw[WZ Xw,y]
 ·rw[if_neg v];have u:B4 m.vw a (pS m.tr a.pa)=EM m.vw e:=by
   unfold B4;rw[w,if_neg (P6 _ _),k,if_neg U,d,if_pos v]
  rw[P0 hr t (by rw[u];rfl),u]
def lW{m:Md}(j:Sr m)(i:m.room≠0){s:Bs}(hl:s.length<=1000000){a:Ak}(v:Cd s=(a,0)){z:Kn->Oc}(X:HO m.vw a z){o:Oc}(y:ED z m=o):BF [.agg (Hl m),.str s]=some (.tup [.agg (Hl (Dw m o).1),.str (Dw m o).2])∧aXv m a (Dw m o):=by
 have h:=Lt i hl v j X;rw[y]at h;refine⟨h,?_⟩;obtain⟨g,k,n,f⟩:=P_ j X;have x:Iq m.vw a (ED z m):=by rw[f];exact X.rep k n (by rw[←f];exact g)
 rw[y]at x;exact MR j x
structure rO (m:Md) (p:Bs) (s:Sc) (rs:List Rw) (n:Int) (g d:Bool) (data:Bs):Prop where
 md:Sr m
 rm:m.room≠0
 rt:aES m.vw p
 len:p.length<=64
 n32:(32:UInt8)∉p
 ro:AF p=0
 mt:m.tr.get (Aw 1 p 0)=some (A9 s)
 ok:Ww s
 nl:s.nl=false
 rs:s.rs=rs++[(n,g,d)]
 dt:d=false->m.tr.get (Aw 2 p n)=some data
section
variable{m:Md}{p:Bs}{s:Sc}{rs:List Rw}{n:Int}{g d:Bool}{data:Bs}
def rO.sec(h:rO m p s rs n g d data):CM (OO m.tr p)=some s:=by
 unfold OO;rw[h.mt];unfold CM;show(if true=false∨(BV (A9 s)).2≠0 then none else some (BV (A9 s)).1)=some s;rw[aAj h.ok,if_neg U];have:decide (s.rs=[])=s.nl:=by rw[h.nl,h.rs];simp
 rw[this]
def rO.nb(h:rO m p s rs n g d data):1<=n∧n<=30:=by
 have:=Lf h.ok (n,g,d) XN;exact this
def rO.read(h:rO m p s rs n g d data):EK s 0=((n,g,d),if(g||d)=true then 21 else 0):=by
 have r:s.rs.length=rs.length+1:=XN
 have e:Ff s 0=(rs.length:Int):=by
  unfold Ff;rw[if_pos rfl,r];omega
 have a:s.rs.getD (rs.length:Int).toNat rw0=(n,g,d):=by
  rw[Qk,h.rs];simp[Qu]
 unfold EK;rw[if_neg (by rw[h.ok.bad];decide),e,if_neg O,a];simp only;split<;>rfl
def Iw(h:rO m p s rs n g d data):BF [.agg (Hl m),.str (vC p)]=some (.tup [.agg (Hl m),.str (HD (if(g||d)=true then .fail 21 else .found n data))]):=by
 have x:=aWC h.len h.n32 h.ro;have q:H7 (apR p):=by have:=(OC (vC p)).1;rw[x]at this;exact this
 have o:=W7 h.md.vw.inv h.rt x rfl rfl (.inl rfl);have ia:=I8 h.md.vw.ok q.ok;rw[o]at ia;have X:=RH h.md.vw q ia h.ro (λe=>absurd e (show ¬((9:Int)=18)by decide)) (.inl rfl);have y:=aTj (m:=m) (a:=apR p) h.ro rfl h.sec (show EK s (apR p).n=_ from h.read) (λ_=>h.nb);have hl:(vC p).length<=1000000:=by
  have:=h.len;unfold vC;simp only[Qa,Qi,Qh];omega
 have i:=(lW h.md h.rm hl x X y).1;cases hgd:(g||d)with
 |true=>
  rw[hgd]at i;exact i
 |false=>
  rw[hgd]at i;have t:d=false:=by cases d<;>simp_all
  have b:=h.dt t;rw[if_neg (show ¬(false=true)by decide),if_pos rfl]at i;rw[show Aw 2 (apR p).pa (n,g,d).1=Aw 2 p n from rfl,b]at i;exact i
def PG(c N:Nat)(x:Rw):∀(l:List Rw)(j:Nat),N=j+l.length+1->FY [] c N j (l++[x])=l++[if x.2.2=true then x else Wu c x]
 |[],j,h=>by
  have e:D_ [] N j x=!x.2.2:=by
   simp only[Qh]at h;unfold D_;rw[decide_eq_true (by omega:j+1=N)];simp
  show [if D_ [] N j x=true then Wu c x else x]=[_];rw[e];cases x.2.2<;>rfl
 |y::l,j,h=>by
  have e:D_ [] N j y=false:=by
   simp only[Qi]at h;unfold D_;rw[decide_eq_false (by omega:¬(j+1=N))];simp[vS]
  show(if D_ [] N j y=true then Wu c y else y)::FY [] c N (j+1) (l++[x])=_;rw[e,PG c N x l (j+1) XL];rfl
def PH(N:Nat)(x:Rw):∀(l:List Rw)(j:Nat),N=j+l.length+1->DH [] N j (l++[x])=if x.2.2=true then []else [x.1]
 |[],j,h=>by
  have e:D_ [] N j x=!x.2.2:=by
   simp only[Qh]at h;unfold D_;rw[decide_eq_true (by omega:j+1=N)];simp
  show(if D_ [] N j x=true then x.1::[]else [])=_;rw[e];cases x.2.2<;>rfl
 |y::l,j,h=>by
  have e:D_ [] N j y=false:=by
   simp only[Qi]at h;unfold D_;rw[decide_eq_false (by omega:¬(j+1=N))];simp[vS]
  show(if D_ [] N j y=true then y.1::DH [] N (j+1) (l++[x])else DH [] N (j+1) (l++[x]))=_;rw[e,if_neg V,PH N x l (j+1) XL]
def bO:∀{a b:List Rw} {k:Int},a.map (·.1)=b.map (·.1)->CQ a k=CQ b k
 |[],[],k,_=>rfl
 |[],y::b,k,h=>Xc
 |x::a,[],k,h=>Xc
 |x::a,y::b,k,h=>by
  simp only[QA,QF]at h;unfold CQ;rw[h.1,bO h.2]
def aBx{a b:List Rw}(h:a.map (·.1)=b.map (·.1)):Ly a=Ly b:=by
 rw[Em,Em,←Qx,←Qx,h]
def aEg{s:Sc}{r:List Rw}(h:r.map (·.1)=s.rs.map (·.1))(q:Int):CV {s with rs:=r} q=CV s q:=by
 have hl:r.length=s.rs.length:=YR
 unfold CV;simp only[hl,bO h,aBx h];rfl
def aIz(c:Nat)(x:Rw):(Wu c x).1=x.1:=by
 unfold Wu
 repeat' split
 all_goals rfl
def Mo(h:rO m p s rs n g d data){a:Ak}{ln:Bs}{c:Nat}(hl:ln.length<=1000000)(ha:Cd ln=(a,0))(ht:a.tk=Hg)(hp:a.pa=p)(r:a.ns=[])(ho:(a.op=11∧c=280)∨(a.op=12∧c=281)∨(a.op=13∧c=282)):
  ∃m' s',BF [.agg (Hl m),.str ln]=some (.tup [.agg (Hl m'),.str [111,107]])∧rO m' p s' rs n (if d=true then(n,g,d)else Wu c (n,g,d)).2.1 (if d=true then(n,g,d)else Wu c (n,g,d)).2.2 data:=by
 subst hp;have hI:H7 a:=by have:=(OC ln).1;rw[ha]at this;exact this
 have hz:=W7 h.md.vw.inv h.rt ha ht rfl O;have ia:=I8 h.md.vw.ok hI.ok;rw[hz]at ia;have X:=GS h.md.vw hI ia h.ro O;have b:=aTi (m:=m) (a:=a) (c:=c) h.ro h.sec ho;have ga:s.rs≠[]:=XN
 have y:s.rs.length=0+rs.length+1:=XN
 have hT:Bg s a.ns c=({s with rs:=rs++[if d=true then(n,g,d)else Wu c (n,g,d)]},(if d=true then []else [n]),0):=by
  unfold Bg;rw[if_neg (by rw[h.ok.bad];decide),if_neg ga,r]
  conv=>lhs;rw[h.rs]
  rw[←h.rs,y,h.rs,PG c _ _ rs 0 rfl,PH _ _ rs 0 rfl]
 rw[hT]at b;simp only at b;have mb:(if d=true then(n,g,d)else Wu c (n,g,d)).1=n:=by
  split
  ·rfl
  ·exact aIz _ _
 have qa:(if d=true then(n,g,d)else Wu c (n,g,d)).2.2=false->d=false∧a.op≠13:=λhx=>by
  cases d with
  |true=>cases hx
  |false=>
   refine⟨rfl,λra=>?_⟩;rcases ho with ⟨e,rfl⟩|⟨e,rfl⟩|⟨e,rfl⟩
   ·omega
   ·omega
   ·cases hx
 generalize (if d=true then(n,g,d)else Wu c (n,g,d))=x at *;obtain⟨x1,x2,x3⟩:=x;simp only at mb qa;subst mb;have ka:(rs++[(x1,x2,x3)]).map (·.1)=s.rs.map (·.1):=XN
 have t:Ww {s with rs:=rs++[(x1,x2,x3)]}:=⟨by rw[aEg ka];exact h.ok.bad,λe=>by have:=h.nl;simp only at e;rw[e]at this;cases this⟩;obtain⟨ma,ea⟩:=lW h.md h.rm hl ha X b;have oa:=h.md.tr.ord;have ab:(A9 {s with rs:=rs++[(x1,x2,x3)]}).length=(A9 s).length:=by
  rw[Tp t,Tp h.ok,h.rs];simp
 have na:=Tr.weigh_put oa (v:=A9 {s with rs:=rs++[(x1,x2,x3)]}) h.mt ab;have j:Tr.Ord (m.tr.put (Aw 1 a.pa 0) (A9 {s with rs:=rs++[(x1,x2,x3)]})).lst:=by
  rw[←U5];exact(DP _ oa).1
 have ua:∀q,q≠Aw 1 a.pa 0->(m.tr.put (Aw 1 a.pa 0) (A9 {s with rs:=rs++[(x1,x2,x3)]})).get q=m.tr.get q:=λq hq=>by
  rw[Tr.get_put oa,if_neg hq]
 have sa:(m.tr.put (Aw 1 a.pa 0) (A9 {s with rs:=rs++[(x1,x2,x3)]})).get (Aw 1 a.pa 0)=some (A9 {s with rs:=rs++[(x1,x2,x3)]}):=by
  rw[Tr.get_put oa,if_pos rfl]
 have ta:=h.nb;have k:Aw 2 a.pa x1≠Aw 1 a.pa 0:=λe=>by have:=(MK (UM h.ro ta) (OK h.ro) e).1;omega
 have u:=h.md.tr.wgt;generalize i:(if a.op=13 then(if d=true then([]:List Int)else [x1])else [])=gone at *;have ja:∀q∈gone,q=x1:=λq hq=>by
  rw[←i]at hq;split at hq
  ·split at hq
   ·cases hq
   ·exact Qs.1 hq
  ·cases hq
 have fa:(E_ m.vw a.pa {s with rs:=rs++[(x1,x2,x3)]} gone 0)={(Hd m.vw)with nl:=false,ops:=[(1,Aw 1 a.pa 0,A9 {s with rs:=rs++[(x1,x2,x3)]})]++gone.map (λn=>((2:Int),Aw 2 a.pa n,([]:Bs))),rep:=[111,107]}:=by
  unfold E_;rw[if_neg (λh=>h rfl)];unfold Ny Bn Oc.op Hd;have:HD .done=[111,107]:=Z
  simp[this]
 rw[fa]at ma ea;have ca:CD ([(1,Aw 1 a.pa 0,A9 {s with rs:=rs++[(x1,x2,x3)]})]++gone.map (λn=>((2:Int),Aw 2 a.pa n,([]:Bs)))) m.tr=CD (gone.map (λn=>((2:Int),Aw 2 a.pa n,([]:Bs)))) (m.tr.put (Aw 1 a.pa 0) (A9 {s with rs:=rs++[(x1,x2,x3)]})):=by
  rw[P1];rfl
 have o:=PC (f:=λn=>Aw 2 a.pa n) gone j;have l:Dw m {(Hd m.vw)with nl:=false,ops:=[(1,Aw 1 a.pa 0,A9 {s with rs:=rs++[(x1,x2,x3)]})]++gone.map (λn=>((2:Int),Aw 2 a.pa n,([]:Bs))),rep:=[111,107]}=(⟨m.vw,CD (gone.map (λn=>((2:Int),Aw 2 a.pa n,([]:Bs)))) (m.tr.put (Aw 1 a.pa 0) (A9 {s with rs:=rs++[(x1,x2,x3)]})),m.room⟩,[111,107]):=by
  unfold Dw;simp only[ca];rw[if_neg (λw=>by
   have:=w.2;omega)]
  rfl
 rw[l]at ma ea;refine⟨_,{s with rs:=rs++[(x1,x2,x3)]},ma,⟨ea.md,h.rm,h.rt,h.len,h.n32,h.ro,?_,t,h.nl,rfl,λhx=>?_⟩⟩
 ·show(CD (gone.map (λn=>((2:Int),Aw 2 a.pa n,([]:Bs)))) _).get _=_;rw[MN (f:=λn=>Aw 2 a.pa n) gone j (λq hq=>by rw[ja q hq];exact k)];exact sa
 ·obtain⟨z,ra⟩:=qa hx;have:gone=[]:=by rw[←i,if_neg ra]
  rw[this];show(m.tr.put _ _).get _=_;rw[ua _ k];exact h.dt z
end
def TU{s:Sc}{q:Int}(d:1<=Bc s q):∃rs,(EG (Bd s) q).rs=rs++[(s.la+1,false,false)]:=by
 unfold EG;simp only;have o:Bc (Bd s) q=Bc s q:=rfl;have hl:(Bd s).rs.length=s.rs.length+1:=by simp[Bd]
 have y:Ce (Bd s) q<=s.rs.length:=by unfold Ce;rw[o,hl];omega
 refine⟨s.rs.drop (Ce (Bd s) q),?_⟩;show List.drop _ (s.rs++_)=_;rw[List.drop_append_of_le_length y]
def bM:∀(k:Nat){l:List Rw}{a:Int},0<=a->CQ l a=true->CQ (l.drop k) 0=true
 |0,[],a,_,_=>rfl
 |0,x::l,a,ha,h=>by
  simp only[CQ,Qb,decide_eq_true_eq]at h;show CQ (x::l) 0=true;simp only[CQ,Qb,decide_eq_true_eq];exact⟨O,h.2⟩
 |k+1,[],a,_,_=>rfl
 |k+1,x::l,a,ha,h=>by
  simp only[CQ,Qb,decide_eq_true_eq]at h;exact bM k O h.2
def bL:∀{l:List Rw} {a:Int} {x:Rw},CQ l a=true->a<x.1->Ly l<x.1->CQ (l++[x]) a=true
 |[],a,x,_,h,_=>by
  show(decide (a<x.1)&&true)=true;rw[decide_eq_true h];rfl
 |[y],a,x,h,_,f=>by
  simp only[CQ,Qb,decide_eq_true_eq]at h;have f:y.1<x.1:=f;show(decide (a<y.1)&&(decide (y.1<x.1)&&true))=true;rw[decide_eq_true h.1,decide_eq_true f];rfl
 |y::z::l,a,x,h,h1,f=>by
  simp only[CQ,Qb,decide_eq_true_eq]at h;have o:CQ (z::l) y.1=true:=by
   simp only[CQ,Qb,decide_eq_true_eq];exact h.2
  have g:Ly (z::l)<x.1:=by rw[Em]at f ⊢;rw[List.getLast?_cons_cons]at f;exact f
  have m:=PU o z Qn;rw[Em]at g;have b:y.1<x.1:=Int.lt_trans m.1 (Int.lt_of_le_of_lt m.2 g);have:=bL o b (by rw[Em];exact g);show(decide (a<y.1)&&CQ (z::l++[x]) y.1)=true;rw[this,decide_eq_true h.1];rfl
def aQK{s:Sc}(j:Ww s){q:Int}(y:CV s q=false)(hl:s.la≠30):Ww (EG (Bd s) q)∧(EG (Bd s) q).nl=false:=by
 refine⟨?_,rfl⟩;obtain⟨z,w,m,g,f,i⟩:=Gz y;have o:Bc (Bd s) q=Bc s q:=rfl;have d:1<=Bc s q∧Bc s q<=6∧(s.mx≠0->Bc s q=s.mx):=by
  unfold Bc;split
  ·exact⟨z.1,z.2,λh=>absurd ‹_› h⟩
  ·exact⟨O,w.2,λ_=>rfl⟩
 have p:(EG (Bd s) q).rs.length<=(Bc s q).toNat:=by
  unfold EG;simp only[List.length_drop];unfold Ce;rw[o];omega
 obtain⟨rs,k⟩:=TU (s:=s) (q:=q) d.1;have a:CQ (Bd s).rs 0=true:=bL f (by show 0<s.la+1;omega) (by rw[i];show s.la<s.la+1;omega);have b:CQ (EG (Bd s) q).rs 0=true:=bM _ (Int.le_refl 0) a;have l:Ly (EG (Bd s) q).rs=s.la+1:=by rw[Em,k];simp
 refine⟨?_,λh=>Xc⟩;have r:Bc (EG (Bd s) q) 6=if s.mx=0 then 6 else s.mx:=rfl
 unfold CV;rw[b,l,r];have n:(EG (Bd s) q).mx=s.mx:=rfl;have v:(EG (Bd s) q).la=s.la+1:=rfl;rw[n,v,decide_eq_true (by omega:0<=s.mx∧s.mx<=6),decide_eq_true (by omega:0<=s.la+1∧s.la+1<=30),decide_eq_true (rfl:s.la+1=s.la+1)];have:decide ((if s.mx=0 then(6:Int)else s.mx)<((EG (Bd s) q).rs.length:Int))=false:=by
  refine decide_eq_false λh=>?_
  have:=d.2.2;split at h
  ·omega
  ·rename_i c;have:=this c;omega
 rw[this];rfl
def aYB{m:Md}(hm:Sr m)(hr:m.room≠0){p data:Bs}(hp:p.length<=64)(hd:data.length<=96):
  ∃m' y,BF [.agg (Hl m),.str (pN p (Nt data))]=some (.tup [.agg (Hl m'),.str (HD y)])∧H3 y=0∧oO y∧((∃e,y= .fail e)∨∃n s rs,y= .number n∧rO m' p s rs n false false data):=by
 have hl:(pN p (Nt data)).length<=1000000:=Qr (pQ hp hd) V;rcases aWB hp hd with hbad|⟨w,ga,ha⟩
 ·obtain⟨m',y,T⟩:=WR hm hr _ hl;exact⟨m',y,T.run,T.e,T.n,.inl ⟨_,(T.bad hbad).1⟩⟩
 have hI:H7 (fX p data):=by have:=(OC (pN p (Nt data))).1;rw[ha]at this;exact this
 by_cases hz:F8 m.vw (fX p data)=0
 ·have ia:=I8 hm.vw.ok hI.ok;rw[hz]at ia;have z:=aHd hz;have X:=GS hm.vw hI ia w (show 10<=(10:Int)∧(10:Int)<=16 by decide);have ho:=aTh (m:=m) (a:=fX p data) w rfl;obtain⟨ma,ea⟩:=lW hm hr hl ha X ho;obtain⟨y,e1,e2,e3,e4⟩:=ea.rep;rw[show(fX p data).pa=p from rfl,show(fX p data).cas=-1 from rfl,show(fX p data).da=data from rfl]at ma ea e3 e4;have ya:=Fv (OO m.tr p);generalize Ik (CM (OO m.tr p))=s at *;by_cases hf:(B3 s (Bj m.vw p).1 (Bj m.vw p).2 (-1) data.length).2.2.2≠0
  ·have hw:DE m.vw p s (-1) data=EM m.vw (B3 s (Bj m.vw p).1 (Bj m.vw p).2 (-1) data.length).2.2.2:=if_pos hf;rw[hw]at ma;have hb:=(Up ya.len (Bj m.vw p).1 (Bj m.vw p).2 (-1) data.length).1;rw[show ∀e,Dw m (EM m.vw e)=(m,HD (.fail e))from λe=>if_neg (λh=>h.1 rfl)]at ma;exact⟨_,_,ma,if_pos ⟨O,hb.2⟩,trivial,.inl ⟨_,rfl⟩⟩
  ·have hw:DE m.vw p s (-1) data=Uq (Hd m.vw) p (B3 s (Bj m.vw p).1 (Bj m.vw p).2 (-1) data.length) data:=if_neg hf;have xa:Il s (Bj m.vw p).1 (Bj m.vw p).2 (-1) data.length=0:=by
    apply Classical.byContradiction;intro h2;apply hf;unfold B3;rw[if_pos h2];exact h2
   have u:B3 s (Bj m.vw p).1 (Bj m.vw p).2 (-1) data.length=(EG (Bd s) (Bj m.vw p).1,s.la+1,Lz (Bd s) (Bj m.vw p).1,0):=by unfold B3;rw[if_neg (λc=>c xa)]
   rw[hw,u]at ma ea;generalize hq:(Bj m.vw p).1=q at *;generalize (Bj m.vw p).2=b at *;have o:CV s q=false∧s.la≠30:=by
    refine⟨bQ xa,λv=>?_⟩;unfold Il at xa
    repeat' split at xa
    all_goals first|(cases xa;done)|exact absurd v ‹_›
   obtain⟨t,qa⟩:=aQK ya o.1 o.2;obtain⟨g0,g1,g2,g3,g4,g5⟩:=Gz o.1;have d:1<=Bc s q:=by unfold Bc;split<;>omega
   obtain⟨rs,sa⟩:=TU (s:=s) (q:=q) d;have i:∀x∈Lz (Bd s) q,1<=x∧x<s.la+1:=λx hx=>by
    obtain⟨r,na,rfl⟩:=Qy.1 hx;have hk:Bc (Bd s) q=Bc s q:=rfl;have g:Ce (Bd s) q<=s.rs.length:=by unfold Ce;rw[hk];simp only[Bd,Qa,Qi,Qh];omega
    have:(Bd s).rs.take (Ce (Bd s) q)=s.rs.take (Ce (Bd s) q):=by
     show QE _ (s.rs++_)=_;rw[List.take_append_of_le_length g]
    rw[this]at na;have ra:=List.mem_of_mem_take na;have h3:=PU g4 r ra;rw[←Em,g5]at h3;omega
   have oa:=hm.tr.ord;have ta:1<=s.la+1∧s.la+1<=30:=O
   have k:Aw 2 p (s.la+1)≠Aw 1 p 0:=λe=>by have:=(MK (UM w ta) (OK w) e).1;omega
   generalize Lz (Bd s) q=gone at *;generalize va:EG (Bd s) q=s' at *;have fa:(Uq (Hd m.vw) p (s',s.la+1,gone,0) data)={(Hd m.vw)with nl:=false,ops:=[(1,Aw 1 p 0,A9 s'),(1,Aw 2 p (s.la+1),data)]++gone.map (λn=>((2:Int),Aw 2 p n,([]:Bs))),rep:=HD (.number (s.la+1))}:=by
    unfold Uq Bn Oc.op Hd;simp
   rw[fa]at ma ea;have ca:CD ([(1,Aw 1 p 0,A9 s'),(1,Aw 2 p (s.la+1),data)]++gone.map (λn=>((2:Int),Aw 2 p n,([]:Bs)))) m.tr=CD (gone.map (λn=>((2:Int),Aw 2 p n,([]:Bs)))) ((m.tr.put (Aw 1 p 0) (A9 s')).put (Aw 2 p (s.la+1)) data):=by
    rw[P1];rfl
   have l:Tr.Ord (m.tr.put (Aw 1 p 0) (A9 s')).lst:=by rw[←U5];exact(DP _ oa).1
   have j:Tr.Ord ((m.tr.put (Aw 1 p 0) (A9 s')).put (Aw 2 p (s.la+1)) data).lst:=by rw[←U5 _ data];exact(DP _ l).1
   by_cases g:m.room<Tr.weighL (CD ([(1,Aw 1 p 0,A9 s'),(1,Aw 2 p (s.la+1),data)]++gone.map (λn=>((2:Int),Aw 2 p n,([]:Bs)))) m.tr).lst
   ·rw[show Dw m {(Hd m.vw)with nl:=false,ops:=[(1,Aw 1 p 0,A9 s'),(1,Aw 2 p (s.la+1),data)]++gone.map (λn=>((2:Int),Aw 2 p n,([]:Bs))),rep:=HD (.number (s.la+1))}=(m,HD (.fail 7))from if_pos ⟨U,g⟩]at ma;exact⟨_,.fail 7,ma,rfl,trivial,.inl ⟨_,rfl⟩⟩
   ·rw[show Dw m {(Hd m.vw)with nl:=false,ops:=[(1,Aw 1 p 0,A9 s'),(1,Aw 2 p (s.la+1),data)]++gone.map (λn=>((2:Int),Aw 2 p n,([]:Bs))),rep:=HD (.number (s.la+1))}=(⟨m.vw,CD ([(1,Aw 1 p 0,A9 s'),(1,Aw 2 p (s.la+1),data)]++gone.map (λn=>((2:Int),Aw 2 p n,([]:Bs)))) m.tr,m.room⟩,HD (.number (s.la+1)))from if_neg (λh=>g h.2)]at ma ea;refine⟨_,.number (s.la+1),ma,if_pos ⟨O,O⟩,trivial,.inr ⟨s.la+1,s',rs,rfl,⟨ea.md,hr,z,hp,ga,w,?_,t,qa,sa,λ_=>?_⟩⟩⟩
    ·show(CD _ m.tr).get _=_;rw[ca,MN (f:=λn=>Aw 2 p n) gone j (λx hx e=>by
      have hb:=i x hx;have:=(MK (UM w O) (OK w) e).1;omega),Tr.get_put l,if_neg (λe=>k e.symm),Tr.get_put oa,if_pos rfl]
    ·show(CD _ m.tr).get _=_;rw[ca,MN (f:=λn=>Aw 2 p n) gone j (λx hx e=>by
      have hb:=i x hx;have:=(MK (UM w O) (UM w ta) e).2.2;omega),Tr.get_put l,if_pos rfl]
 ·have hb:=UQ m.vw (fX p data);have h:=aIj hm hr hl ha rfl O;exact⟨_,_,h,if_pos ⟨O,hb.2⟩,trivial,.inl ⟨_,rfl⟩⟩
def Nd:=y3 Tryz.f6 10 [] []
def mB:=y2 Tryz.f6 [] [(10,Nd)]
def aDO:=y2 Tryz.f12 [] []
def aPD{m:G6}{i:Id}{a b c d e f g:D}:Ag (m.put i 0 [a,b,c,d,e,f,g]) i 0 7=some [a,b,c,d,e,f,g]:=Ay rfl
def aGm{m:G6}{i:Id}{a b c d e f g h j k:D}:Ag (m.put i 0 [a,b,c,d,e,f,g,h,j,k]) i 0 10=some [a,b,c,d,e,f,g,h,j,k]:=Ay rfl
def aSm{m:G6}{i:Id}{a b c d e f g h j k:D}:m.put i 0 [a,b,c,d,e,f,g,h,j,k] i 0=some a:=Bh (k:=0) aGm rfl
def pO{m:G6}{i j o:Nat}{x:List D}(h:j≠i):m.put [i] 0 x [j] o=m [j] o:=aA (by simp[h])
def lnM:Bs:=[109,111,117,110,116,32,114,111,111,116,32,97,32,50,32,48]
def lnW:Bs:=[119,114,105,116,101,32,114,111,111,116,32,97,47,120,32,45,32,54,49,54,50]
def lnR:Bs:=[114,101,97,100,32,114,111,111,116,32,97,47,120,32,48]
def lnN:Bs:=[110,111,110,115,101,110,115,101]
def aM:Ak:={akZ with op:=5,tk:=Hg,pa:=[97],n:=2}
def aW:Ak:={akZ with op:=10,tk:=Hg,pa:=[97,47,120],cas:=-1,da:=[97,98]}
def aR:Ak:={akZ with op:=9,tk:=Hg,pa:=[97,47,120]}
def aWH:Cd lnM=(aM,0):=Z
def aWF:Cd lnW=(aW,0):=Z
def aWG:Cd lnR=(aR,0):=Z
def aYH:(Cd lnN).2=22:=Z
def m0A:Md:=Re Vp 2000
def aBG:Sr m0A:=aLb (r:=1700) V V
def v1A:Vw:={m0A.vw with nlm:=false,ms:=[([97],2,false)]}
def aXM:F8 m0A.vw aM=0:=Z
def nTA:List Mt:=[([97],2,false)]
def oM:Oc:=cM (Hd m0A.vw) false nTA
def XM:HO m0A.vw aM (λ_=>oM):=by
 have r:=aBG.vw;have ia:=I8 r.ok (by have:=(OC lnM).1.ok;rw[aWH]at this;exact this);rw[aXM]at ia;have y:=aF0 (nl:=true) (t:=[]) (l:=[]) (m:=([97],2,false)) V (λ_=>rfl) V;rw[show Io [] ([97],2,false)=(some nTA,0)by kernel_rfl]at y;have x:Sl nTA:=⟨V,λm a=>by rw[Qs.1 a];decide⟩;have b:∀m∈nTA,m.1.length<=64:=λm a=>by rw[Qs.1 a];decide
 exact By _ (λk _=>BM (v:=m0A.vw) .o5 aM k rfl ia _ _ (aEG ⟨m0A.vw,aM,k⟩ (Hd m0A.vw) false nTA y (Im m0A.vw) x)) rfl (DT .done rfl trivial rfl Xo (Ob V) (by simp[oM,cM,Sx,Oc.op,Hd]) ⟨by simp[oM,cM,Sx,Oc.op,Hd],by
    simp only[oM,cM,Sx,Oc.op,Hd,Qf,List.forall_mem_cons];have:=OY b;exact⟨DO (.inl rfl) rfl (Nat.zero_le _) (by have:nTA.length=1:=rfl;omega),λ_ h=>nomatch h⟩⟩ (Us r x (λi j u f=>absurd f (by show ¬j<1;omega)) (λe=>Xt) V b))
def m1A:Md:=⟨v1A,CD oM.ops firstE,2000⟩
def dnM:Dw m0A oM=(m1A,[111,107]):=Z
def cO:Sr m1A:=by
 have h:=(MR aBG (XM.rep kn0 ⟨V,V,λx q=>XG,λx q=>XG⟩ rfl)).md;rw[dnM]at h;exact h
def aXK:F8 m1A.vw aW=0:=Z
def oW:Oc:=ED (B2 m1A.vw aW) m1A
def aWL:H7 aW:=by have:=(OC lnW).1;rw[aWF]at this;exact this
def aWM:H7 aR:=by have:=(OC lnR).1;rw[aWG]at this;exact this
def XW:HO m1A.vw aW (B2 m1A.vw aW):=by
 have ia:=I8 cO.vw.ok aWL.ok;rw[aXK]at ia;exact GS cO.vw aWL ia Xi V
def m2A:Md:=(Dw m1A oW).1
def dnW:(Dw m1A oW).2=[111,107,32,110,117,109,98,101,114,32,49]:=Z
def m2v:m2A.vw=m1A.vw:=Z
def m2r:m2A.room=m1A.room:=Z
def m2c:m2A.tr.cnt=5:=Z
def m1c:m1A.tr.cnt=3:=Z
def aXL:F8 m2A.vw aR=0:=Z
def V1:Sr m2A:=by
 obtain⟨g,k,o,y⟩:=P_ cO XW;have a:Iq m1A.vw aW (ED (B2 m1A.vw aW) m1A):=by rw[y];exact XW.rep k o (by rw[←y];exact g)
 exact(MR cO a).md
def XR:HO m2A.vw aR (B4 m2A.vw aR):=by
 have ia:=I8 V1.vw.ok aWM.ok;rw[aXL]at ia;exact RH V1.vw aWM ia Xi (λh=>Xc) (.inl rfl)
def oR:Oc:=ED (B4 m2A.vw aR) m2A
def dnR:Dw m2A oR=(m2A,[111,107,32,102,111,117,110,100,32,49,32,54,49,54,50]):=by
 obtain⟨g,k,o,y⟩:=P_ V1 XR;have a:Iq m2A.vw aR (ED (B4 m2A.vw aR) m2A):=by rw[y];exact XR.rep k o (by rw[←y];exact g)
 refine Prod.ext ((MR V1 a).ro (.inr (.inl rfl))) ?_
 kernel_rfl
def aKR:m0A.room≠0:=V
def dM:BF [.agg (Hl m0A),.str lnM]=some (.tup [.agg (Hl m1A),.str [111,107]]):=by
 have h:=Lt aKR (s:=lnM) V aWH aBG XM;rw[show ED (λ_=>oM) m0A=oM from rfl,dnM]at h;exact h
def dW:BF [.agg (Hl m1A),.str lnW]=some (.tup [.agg (Hl m2A),.str [111,107,32,110,117,109,98,101,114,32,49]]):=by
 have h:=Lt (m:=m1A) V (s:=lnW) V aWF cO XW;rw[show(Dw m1A (ED (B2 m1A.vw aW) m1A)).2=_ from dnW]at h;exact h
def dR:BF [.agg (Hl m2A),.str lnR]=some (.tup [.agg (Hl m2A),.str [111,107,32,102,111,117,110,100,32,49,32,54,49,54,50]]):=by
 have h:=Lt (m:=m2A) (by rw[m2r];decide) (s:=lnR) V aWG V1 XR;rw[show Dw m2A (ED (B4 m2A.vw aR) m2A)=_ from dnR]at h;exact h
def dN:BF [.agg (Hl m2A),.str lnN]=some (.tup [.agg (Hl m2A),.str [101,114,114,111,114,32,50,50]]):=by
 have h:=sQ (m:=m2A) (by rw[m2r];decide) (s:=lnN) V aYH V;rw[show HD (.fail 22)=_ by kernel_rfl]at h;exact h
def sF:Sk [.agg (Hl m2A),.agg (Hl m1A)]=some (.bool false):=
 aJY m2A m1A m2v m2r (Qr V1.vw.ml V) (Qr V1.vw.kl V) (λk o=>(V1.vw.ok.kp k o).1.1) (by rw[m2c,m1c];decide)
def sZ:Sk [.agg (Hl zS),.agg (Hl zS)]=some (.bool true):=
 sP zS V V (λk o=>by cases o) List.Pairwise.nil V
def OF:=Ao [(34,Ac Ns),(11,Ac BF),(16,Ac Sk),(17,Ac aFK),(36,Ac sN),(35,Ac Un),(18,Ac sO)]
def aFP:=RF OF aDQ [.t 0] 113
def aQw:Kq aFP 9:=Am (Ai Tryz.func9) (Aa aCb (Aa kQ (Aa aQs (Aa aQr (Aa aCa (Aa U8 (Aa aQq Ad)))))))
def hU:aFP []=some (.bool true):=by
 refine Al (Qd rfl) ?_;unfold aDQ;have n1:Ns [.str [48,49,50,51,52,53,54,55,56,57,97,98,99,100,101,102],.int .i64 2000]=some (.tup [.agg (Hl m0A),.int .i64 0]):=gX Vp 2000 rfl V (by have:=Vu;omega);have n2:Ns [.str [115,104,111,114,116],.int .i64 2000]=some (.tup [.agg (Hl zS),.int .i64 2]):=yZ [115,104,111,114,116] 2000 V;have z:Ns [.str [48,49,50,51,52,53,54,55,56,57,97,98,99,100,101,102],.int .i64 20]=some (.tup [.agg (Hl zS),.int .i64 7]):=nL Vp 20 rfl V (by have:=aCI;omega);have j:BF [.agg (Hl m0A),.str [109,111,117,110,116,32,114,111,111,116,32,97,32,50,32,48]]=_:=dM;have f:BF [.agg (Hl m1A),.str [119,114,105,116,101,32,114,111,111,116,32,97,47,120,32,45,32,54,49,54,50]]=_:=dW;have k:BF [.agg (Hl m2A),.str [114,101,97,100,32,114,111,111,116,32,97,47,120,32,48]]=_:=dR;have s:BF [.agg (Hl m2A),.str [110,111,110,115,101,110,115,101]]=_:=dN;have w:BF [.agg (Hl zS),.str [115,116,97,116,117,115]]=some (.tup [.agg (Hl zS),.str []]):=aJZ rfl [115,116,97,116,117,115];have a:=V1.same;have r:=sF;have n:=sZ;have c:=aFJ m0A aKR O5;have m:=Sj;have u:=I7 O5;have g:sO [.agg (Hl m0A)]=some (.int .i64 2000):=aFI m0A;have z5:m0A.tr=firstE:=rfl;rw[z5]at c;generalize t:((Tr.weighL firstE.lst:Nat):Int)=W at c u;generalize firstE=F at m u;generalize m0A=A at *;generalize m1A=B at *;generalize m2A=C at *;simp only[Hl,zS,HN,AA,AL,List.map_nil,Qg,Qf,Lb]at n1 n2 z j f k s w a r n c m u g;simp (config:={maxSteps:=20000000}) (disch:=first|assumption|omega)only[G7,↓C2,GY,simprocAttr,Hk,Ae OF 34,n1,n2,z,Ae OF 11,j,f,k,s,w,Ae OF 16,a,r,n,Ae OF 17,c,Ae OF 36,m,Ae OF 35,u,Ae OF 18,g,beq_self_eq_true]
def aXh:=Ao []
def aFN:=RF aXh aDO [.cell (some 5) 2] 5
def aQu:Kq aFN 12:=Am (Ai Tryz.func12) Ad
def aFM(m:Md):aFN [.agg (Hl m)]=some (H4 m.vw):=by
 refine Al (Qd rfl) ?_;unfold aDO;simp only[Hl,H4,HN,Qg,Qf];simp (disch:=first|assumption|omega)only[G7,↓C2,GY,simprocAttr,Hk]
 all_goals exact Y0
def sX:Md->List Bs->Md->Prop
 |m,[],z=>z=m
 |m,s::l,z=>∃w y,aN8 m s w y∧sX w l z
def T7:∀(l:List Bs){m:Md},Sr m->m.room≠0->(∀s∈l,s.length<=500)->∃z,sX m l z∧Sr z∧z.room=m.room∧z.vw.key=m.vw.key
 |[],m,hm,_,_=>⟨m,rfl,hm,rfl,rfl⟩
 |s::l,m,hm,hr,hl=>by
  obtain⟨w,y,T⟩:=WR hm hr s (Qr (hl s Qn) V);obtain⟨z,u,f,i,p⟩:=T7 l T.md (by rw[T.room];exact hr) λx q=>hl x (Qq _ q)
  exact⟨z,⟨w,y,T,u⟩,f,i.trans T.room,p.trans T.key⟩
def aBR{S:GZ}(r:S 11=some (Ac BF)){l:List Bs}{nl:Bool}{z:Md}{Q:Ex->St->Prop}(hn:l.length<=40)(hQ:∀p,p.s 6= .ptr [9] 0->p.s 4= .ptr [0] 0->p.s 7= .int .i64 0->Ag p.m [9] 0 7=some (Hl z)->(∃q,Ag p.m [0] 0 7=some q)->Q (.exit 0) p):
  ∀(f j:Nat)(m:Md)(v:St) g,l.length=j+f->sX m (l.drop j) z->10<=v.c->v.s 1= .slice nl [] (strsD l)->v.s 6= .ptr [9] 0->v.s 4= .ptr [0] 0->v.s 7= .int .i64 0->v.s 8= .int .i64 (j:Int)->Ag v.m [9] 0 7=some (Hl m)->(∃q,Ag v.m [0] 0 7=some q)->Ba S [] Nb Q v g:=by
 intro f;induction f with
 |zero=>
  intro j m v g hf a w u h6 t h7 h8 m0 mq;refine Af Nb.eq_1 ?_;have d1:((j:Int)<l.length)=False:=eq_false O;have ba:=AS l;rw[List.drop_eq_nil_of_le O]at a;obtain rfl:z=m:=a;simp only[G7,↓C2,GY,simprocAttr,u,h8,ba,d1];exact hQ _ h6 t h7 m0 mq
 |succ f ih=>
  intro j m v g hf a w u h6 t h7 h8 m0 mq;refine Af Nb.eq_1 ?_;have d1:((j:Int)<l.length)=True:=eq_true O;have ba:=AS l;have e:j<l.length:=O
  have d:=DK e;rw[List.drop_eq_getElem_cons e]at a;obtain⟨m1,y,T,a⟩:=a;generalize l[j]=x at d T;have ih:=ih (j+1) m1;have i:=T.run;obtain⟨ka,b,da⟩:=v;obtain⟨q,mq⟩:=mq;simp only at w u h6 t h7 h8 m0 mq;have n:∀k,(9=da+k)=False:=λk=>eq_false O
  have o:∀k,(da+k=9)=False:=λk=>eq_false O
  have oa:=nJ (j:=j);have na:IntKind.i64.wrap ((j:Int)+1)=((j+1:Nat):Int):=Hu O O;generalize HD y=rt at i;simp only[Hl,HN,Qg,Qf]at i m0
  repeat' (first|(refine As.intro (An (by simp[AX,AI,Hr,Aj,Ac,G9.ev,CL,h6,n,o,r])) ?_)|simp (disch:=first|assumption|omega)only[↓C2,G_,simprocAttr,Hk,u,h6,t,h7,h8,ba,d1,d,oa,Qk,na,m0,Ab r,i,aPD,iS,pO,Qj,and_self])
  refine ih _ _ O a Xa u h6 t h7 rfl (Ay rfl) ⟨q,?_⟩;simp (disch:=omega)only[iS];exact mq
def aJ0(r:Int)(t:0<=r)(u:r<65536)(nl:Bool)(l:List Bs)(o:l.length<=40){z:Md}(hz:sX (Re Vp (300+r)) l z):aFO [.int .u16 r,.slice nl [] (strsD l)]=some (.tup [.agg (Hl z),.bool true]):=by
 refine Al (Qd rfl) ?_;have h:aER 11=some (Ac BF):=rfl;unfold aDP;have k:=gX Vp (300+r) rfl O (by have:=Vu;omega);have s:IntKind.i64.wrap r=r:=Hu O O;have y:IntKind.i64.wrap (300+r)=300+r:=Hu O O;generalize Re Vp (300+r)=m at *;unfold Vp at k;simp only[Hl,HN,Qg,Qf]at k ⊢;simp (disch:=first|assumption|omega)only[G7,↓C2,GY,simprocAttr,Hk,Ae aER 34,k,s,y];refine aBR h (z:=z) o (λx h6 p h7 v n=>?_) l.length 0 m _ _ O hz (Qd rfl) rfl rfl rfl rfl rfl (Ay rfl) ⟨[.bool false,.int .i64 0,.str [],.slice true [] [],.slice true [] [],.nilptr,.int .i64 0],?_⟩
 ·obtain⟨q,n⟩:=n;simp only[Hl,HN,Qg,Qf]at v;have w:∀{m:G6} {i:Id} {a b c d e f g:D},Ag (m.put i 0 [a,b,c,d,e,f,g]) i 0 7=some [a,b,c,d,e,f,g]:=Ay rfl
  repeat' (first|(refine As.intro (An ?_) ?_;first|rfl|simp[AX,AI,Hr,Aj,Ac])|simp (disch:=first|assumption|omega)only[↓C2,G_,simprocAttr,Hk,h6,p,h7,v,n,w,HY,AW,Option.map_some,Qj,and_self])
  all_goals exact Y0
 ·simp (disch:=decide)only[AH];exact Ay rfl
def aOT{m:G6}:Ha.app m []=m:=rfl
def oZ(l:List Bs):Tq l=1∨(Tq l=0∧l.length<=40∧∀s∈l,s.length<=500):=by
 unfold Tq;by_cases c1:40<l.length
 ·exact .inl (if_pos c1)
 rw[if_neg c1];by_cases p:l.all (λs=>decide (s.length<=500))=true
 ·exact .inr ⟨if_pos p,O,λs j=>of_decide_eq_true (Qz.1 p s j)⟩
 ·exact .inl (if_neg p)
def Dn:GZ:=Ao [(8,Ac aFQ),(9,Ac aFP),(10,Ac aFO),(11,Ac BF),(12,Ac aFN),(14,Ac aKb),(28,Ac F34),(30,Ac nK),(29,Ac aGh)]
def aFS:List D->Option D:=RF Dn mB [.t 6] 207
def aQy:Kq aFS 6:=Am (Ai Tryz.func6) (Aa aQx (Aa aQw (Aa aQv (Aa kQ (Aa aQu (Aa aBj (Aa aX4 (Aa aB3 (Aa aT9 Ad)))))))))
def uS{m:Md}(g:Sr m)(i:m.room≠0){p data:Bs}(k:p.length<=64)(t:data.length<=96):
  ∃a y,BF [.agg (Hl m),.str (pN p (Nt data))]=some (.tup [.agg (Hl a),.str (HD y)])∧H3 y=0∧oO y∧((∃e,y= .fail e)∨∃n d u x z,y= .number n∧1<=n∧n<=30∧
   BF [.agg (Hl a),.str (vC p)]=some (.tup [.agg (Hl a),.str (HD (.found n data))])∧BF [.agg (Hl a),.str (lpD p)]=some (.tup [.agg (Hl d),.str [111,107]])∧
   BF [.agg (Hl d),.str (vC p)]=some (.tup [.agg (Hl d),.str (HD (.fail 21))])∧BF [.agg (Hl d),.str (lpQ p)]=some (.tup [.agg (Hl u),.str [111,107]])∧
   BF [.agg (Hl u),.str (vC p)]=some (.tup [.agg (Hl u),.str (HD (.found n data))])∧BF [.agg (Hl u),.str (lpX p)]=some (.tup [.agg (Hl x),.str [111,107]])∧
   BF [.agg (Hl x),.str (vC p)]=some (.tup [.agg (Hl x),.str (HD (.fail 21))])∧BF [.agg (Hl x),.str (lpQ p)]=some (.tup [.agg (Hl z),.str [111,107]])∧
   BF [.agg (Hl z),.str (vC p)]=some (.tup [.agg (Hl z),.str (HD (.fail 21))])):=by
 obtain⟨a,y,q,f,j,h4⟩:=aYB g i k t;refine⟨a,y,q,f,j,h4.imp id ?_⟩;rintro⟨n,s,rs,hy,S⟩;have ll:∀{A B:Bs},A.length<=20->B.length<=10->(A++p++B).length<=1000000:=λ{A B} hA b=>by simp only[Qa];omega
 have hD:=aWE S.len S.n32 S.ro;have o:=aWD S.len S.n32 S.ro;have hX:=aWA S.len S.n32 S.ro;obtain⟨d,w,r,S2⟩:=Mo S (c:=280) (ln:=lpD p) (ll V V) hD rfl rfl rfl (.inl ⟨rfl,rfl⟩);replace S2:rO d p w rs n true false data:=S2;obtain⟨u,s3,v,S3⟩:=Mo S2 (c:=281) (ln:=lpQ p) (ll V V) o rfl rfl rfl (.inr (.inl ⟨rfl,rfl⟩));replace S3:rO u p s3 rs n false false data:=S3;obtain⟨x,s4,r4,S4⟩:=Mo S3 (c:=282) (ln:=lpX p) (ll V V) hX rfl rfl rfl (.inr (.inr ⟨rfl,rfl⟩));replace S4:rO x p s4 rs n false true data:=S4;obtain⟨z,s5,r5,S5⟩:=Mo S4 (c:=281) (ln:=lpQ p) (ll V V) o rfl rfl rfl (.inr (.inl ⟨rfl,rfl⟩));replace S5:rO z p s5 rs n false true data:=S5;exact⟨n,d,u,x,z,hy,S.nb.1,S.nb.2,Iw S,r,Iw S2,v,Iw S3,r4,Iw S4,r5,Iw S5⟩
def dE{S:GZ}(aa:S 11=some (Ac BF))(eb:S 28=some (Ac F34))(ib:S 30=some (Ac nK)){l:List Mt}{nl:Bool}{m:Md}(hm:Sr m)(hr:m.room≠0){data:Bs}(hd:data.length<=96)(hl:∀x∈l,x.1.length<=64)(xa:l.length<=4){Q:Ex->St->Prop}(hQ:∀ha,Q (.exit 0) ha):
  ∀(f j:Nat)(st:St) g,l.length=j+f->16<=st.c->st.s 2= .str data->st.s 7= .ptr [15] 0->st.s 9= .str (Nt data)->st.s 61= .slice nl [] (AA l)->st.s 62= .int .i64 (l.length:Int)->st.s 63= .int .i64 (j:Int)->Ag st.m [15] 0 7=some (Hl m)->Ba S [] Nd Q st g:=by
 intro f;induction f with
 |zero=>
  intro j st g hf hc h2 h7 h9 t r ba m7;refine Af Nd.eq_1 ?_;have d1:((j:Int)<l.length)=False:=eq_false O;simp only[G7,↓C2,GY,simprocAttr,r,ba,d1];exact hQ _
 |succ f ih=>
  intro j st g hf hc h2 h7 h9 t r ba m7;refine Af Nd.eq_1 ?_;have d1:((j:Int)<l.length)=True:=eq_true O;have hj:j<l.length:=O
  have hx:=ME hj;have ra:=hl (Cw l j) (by unfold Cw;rw[Qu,Qc hj];exact List.getElem_mem hj);generalize Cw l j=x at hx ra;obtain⟨p0,q0,b0⟩:=x;unfold MF at hx;simp only at hx ra;have ih:=ih (j+1);obtain⟨ka,fa,da⟩:=st;simp only at hc h2 h7 h9 t r ba m7;have ca:∀k,(15=da+k)=False:=λk=>eq_false O
  have o:∀k,(da+k=15)=False:=λk=>eq_false O
  have oa:=nJ (j:=j);have na:IntKind.i64.wrap ((j:Int)+1)=((j+1:Nat):Int):=Hu O O;have ma:p0.length+([47,113]:Bs).length<=9223372036854775807:=by show p0.length+2<=_;omega
  have ab:(p0++[47,113]).length=p0.length+2:=by rw[Qa];rfl
  generalize hp:p0++[47,113]=p at ab;have za:=m7;have zc:(D.agg [.str p0,.int .i64 q0,.bool b0]).cells=[.str p0,.int .i64 q0,.bool b0]:=rfl;have zt:QE 3 [D.str p0,.int .i64 q0,.bool b0]=[.str p0,.int .i64 q0,.bool b0]:=rfl;have zl:[D.str p0,.int .i64 q0,.bool b0].length=3:=rfl;have z3:∀{m:G6} {i:Id} {a b c:D},Ag (m.put i 0 [a,b,c]) i 0 3=some [a,b,c]:=Ay rfl;have qa:∀{m:G6} {i:Id} {a b c:D},m.put i 0 [a,b,c] i 0=some a:=Bh (k:=0) (Ay (ds:=[_,_,_]) rfl) rfl;simp only[Hl,HN,Qg,Qf]at m7;by_cases ga:64<p.length
  ·have c1:((64:Int)<(p.length:Int))=True:=eq_true O
   repeat' (first|(refine As.intro (An Yg) ?_)|simp (disch:=first|assumption|omega)only[↓C2,G_,simprocAttr,Hk,h2,h7,h9,t,r,ba,d1,hx,oa,Qk,na,m7,ma,hp,c1,zc,zt,zl,z3,qa,iS,pO,Qj,and_self])
   refine ih _ _ O Xa h2 h7 h9 t r rfl ?_;simp (disch:=omega)only[aOT,iS];exact za
  ·have c1:((64:Int)<(p.length:Int))=False:=eq_false O;obtain⟨a,y,hW,e1,e2,ea⟩:=uS hm hr (p:=p) (data:=data) O hd;have sa:F34 [.str (HD y)]=some (.tup [.agg (Hy (Sq y)),.int .i64 0]):=aSh (aKT e1 e2).2 (aKT e1 e2).1;have ya:=aAd data hd;have va:([119,114,105,116,101,32,114,111,111,116,32]:Bs)++p++[32,45,32]++Nt data=pN p (Nt data):=rfl;have ia:([119,114,105,116,101,32,114,111,111,116,32]:Bs).length+p.length<=9223372036854775807:=by show 11+p.length<=_;omega
   have pa:(([119,114,105,116,101,32,114,111,111,116,32]:Bs)++p).length+([32,45,32]:Bs).length<=9223372036854775807:=by rw[Qa];show 11+p.length+3<=_;omega
   have bb:(([119,114,105,116,101,32,114,111,111,116,32]:Bs)++p++[32,45,32]).length+(Nt data).length<=9223372036854775807:=by rw[Qa,Qa];show 11+p.length+3+_<=_;omega
   generalize Nt data=wd at hW va bb h9 ih;rcases ea with ⟨e,rfl⟩|⟨n,d,u,x,z,rfl,n1,n2,w,hD,ta,hN,cb,hX,la,db,ua⟩
   ·simp only[Sq,Hy]at sa;generalize HD (.fail e)=yt at hW sa;simp only[Hl,HN,Qg,Qf]at hW
    repeat' (first|(refine As.intro (An Yg) ?_)|simp (disch:=first|assumption|omega)only[↓C2,G_,simprocAttr,Hk,h2,h7,h9,t,r,ba,d1,hx,oa,Qk,na,m7,ma,hp,c1,zc,zt,zl,z3,qa,iS,pO,va,ia,pa,bb,Ab aa,hW,Ab eb,sa,aPD,aGm,aSm,Qj,and_self])
    refine ih _ _ O Xa h2 h7 h9 t r rfl ?_;simp (disch:=omega)only[aOT,iS];exact za
   ·have v:HD (.fail 21)=[101,114,114,111,114,32,50,49]:=by kernel_rfl
    have hb:H3 (.found n data)=0:=if_pos ⟨O,O,O⟩;have q:=We (.found n data) trivial trivial;rw[hb]at q;simp only[Sq,Hy]at sa q;rw[v]at ta la ua;have gb:([114,101,97,100,32,114,111,111,116,32]:Bs)++p++[32,48]=vC p:=rfl;have jb:([100,101,108,101,116,101,32,114,111,111,116,32]:Bs)++p++[32,45]=lpD p:=rfl;have fb:([117,110,100,101,108,101,116,101,32,114,111,111,116,32]:Bs)++p++[32,45]=lpQ p:=rfl;have kb:([100,101,115,116,114,111,121,32,114,111,111,116,32]:Bs)++p++[32,45]=lpX p:=rfl;have g1:([114,101,97,100,32,114,111,111,116,32]:Bs).length+p.length<=9223372036854775807:=by show 10+p.length<=_;omega
    have g2:(([114,101,97,100,32,114,111,111,116,32]:Bs)++p).length+([32,48]:Bs).length<=9223372036854775807:=by rw[Qa];show 10+p.length+2<=_;omega
    have g3:([100,101,108,101,116,101,32,114,111,111,116,32]:Bs).length+p.length<=9223372036854775807:=by show 12+p.length<=_;omega
    have g4:(([100,101,108,101,116,101,32,114,111,111,116,32]:Bs)++p).length+([32,45]:Bs).length<=9223372036854775807:=by rw[Qa];show 12+p.length+2<=_;omega
    have g5:([117,110,100,101,108,101,116,101,32,114,111,111,116,32]:Bs).length+p.length<=9223372036854775807:=by show 14+p.length<=_;omega
    have g6:(([117,110,100,101,108,101,116,101,32,114,111,111,116,32]:Bs)++p).length+([32,45]:Bs).length<=9223372036854775807:=by rw[Qa];show 14+p.length+2<=_;omega
    have g7:([100,101,115,116,114,111,121,32,114,111,111,116,32]:Bs).length+p.length<=9223372036854775807:=by show 13+p.length<=_;omega
    have g8:(([100,101,115,116,114,111,121,32,114,111,111,116,32]:Bs)++p).length+([32,45]:Bs).length<=9223372036854775807:=by rw[Qa];show 13+p.length+2<=_;omega
    generalize HD (.number n)=yt at hW sa;generalize HD (.found n data)=yf at w cb q;have wa:Cn [D.int .u8 0,.int .i64 0,.int .i64 0,.str [],.slice true [] [],.int .i64 0,.bool false,.int .i64 0,.slice true [] [],.bool false] [(0,1,.int .u8 3),(2,1,.int .i64 n),(3,1,.str data)]=some [.int .u8 3,.int .i64 0,.int .i64 n,.str data,.slice true [] [],.int .i64 0,.bool false,.int .i64 0,.slice true [] [],.bool false]:=rfl;have ja:∀{m:G6} {i:Id} {a b c d e f g h j k:D},m.put i 0 [a,b,c,d,e,f,g,h,j,k] i 2=some c:=Bh (k:=2) aGm rfl;simp only[Hl,HN,Qg,Qf]at hW w ta cb la ua hD hN hX db
    repeat' (first|(refine As.intro (An Yg) ?_)|simp (disch:=first|assumption|omega)only[↓C2,G_,simprocAttr,Hk,h2,h7,h9,t,r,ba,d1,hx,oa,Qk,na,m7,ma,hp,c1,zc,zt,zl,z3,qa,iS,pO,va,ia,pa,bb,Ab aa,hW,Ab eb,sa,aPD,aGm,aSm,ja,wa,Qj,and_self,Ab ib,q,gb,jb,fb,kb,g1,g2,g3,g4,g5,g6,g7,g8,w,ta,cb,la,ua,hD,hN,hX,db])
    refine ih _ _ O Xa h2 h7 h9 t r rfl ?_;simp (disch:=omega)only[aOT,iS];exact za
def PW(r:Int)(nl:Bool)(l:List Bs)(data:Bs)(y:Tq l=1∨96<data.length):aFS [.int .u16 r,.slice nl [] (strsD l),.str data]=some (.bool true):=by
 refine Al (Qd rfl) ?_;unfold mB;have w:=hZ nl l;have q:=hU;rcases oZ l with h1|⟨z,_,_⟩
 ·rw[h1]at w;simp (disch:=first|assumption|omega)only[G7,↓C2,GY,simprocAttr,Hk,Ae Dn 8,w,Ae Dn 9,q]
  all_goals exact Y0
 ·rw[z]at w;have p:96<data.length:=by
   rcases y with h|h
   ·rw[z]at h;cases h
   ·exact h
  have c1:((96:Int)<(data.length:Int))=True:=eq_true O;simp (disch:=first|assumption|omega)only[G7,↓C2,GY,simprocAttr,Hk,Ae Dn 8,w,Ae Dn 9,q,c1]
  all_goals exact Y0
def aFR(r:Int)(t:0<=r)(u:r<65536)(nl:Bool)(l:List Bs)(data:Bs):aFS [.int .u16 r,.slice nl [] (strsD l),.str data]=some (.bool true):=by
 rcases oZ l with ho|⟨ho,o,hl⟩
 ·exact PW r nl l data (.inl ho)
 by_cases p:96<data.length
 ·exact PW r nl l data (.inr p)
 refine Al (Qd rfl) ?_;have h:Dn 11=some (Ac BF):=rfl;have g:Dn 28=some (Ac F34):=rfl;have d:Dn 30=some (Ac nK):=rfl;unfold mB;have w:=hZ nl l;have q:=hU;rw[ho]at w;have c1:((96:Int)<(data.length:Int))=False:=eq_false O;have j:=aLb t u;have f:(Re Vp (300+r)).room≠0:=by show(300:Int)+r≠0;omega
 obtain⟨z,m,a,c,k⟩:=T7 l j f hl;have n:=aJ0 r t u nl l o m;have b:z.room≠0:=by rw[c];exact f
 have ia:=aFM z;have e:aGh [.agg [.slice z.vw.nlm [] (AA z.vw.ms)]]=some (.slice z.vw.nlm [] (AA z.vw.ms)):=if_pos (P5 (Qr a.vw.ml V) a.vw.nlm);have i:=Px (s:=data) O;have y:=AU z.vw.ms;simp only[Hl,HN,H4,Qg,Qf]at n ia;by_cases v:data=[]
 ·have ce:(data=[])=True:=eq_true v;simp (disch:=first|assumption|omega)only[G7,↓C2,GY,simprocAttr,Hk,Ae Dn 8,w,Ae Dn 9,q,Ae Dn 10,n,Ae Dn 12,ia,Ae Dn 29,e,c1,ce,y];refine dE h g d a b (data:=data) O a.vw.mr a.vw.ml (λx=>?_) z.vw.ms.length 0 _ _ O (Qd rfl) rfl rfl (by unfold Nt;rw[if_pos v];rfl) rfl rfl rfl ?_
  ·simp (disch:=first|assumption|omega)only[G7,↓C2,GY,simprocAttr,Hk,Ae Dn 9,q]
   all_goals exact Y0
  ·exact Ay (ds:=Hl z) rfl
 ·have ce:(data=[])=False:=eq_false v;simp (disch:=first|assumption|omega)only[G7,↓C2,GY,simprocAttr,Hk,Ae Dn 8,w,Ae Dn 9,q,Ae Dn 10,n,Ae Dn 12,ia,Ae Dn 29,e,Ae Dn 14,i,c1,ce,y];refine dE h g d a b (data:=data) O a.vw.mr a.vw.ml (λx=>?_) z.vw.ms.length 0 _ _ O (Qd rfl) rfl rfl (by unfold Nt;rw[if_neg v];rfl) rfl rfl rfl ?_
  ·simp (disch:=first|assumption|omega)only[G7,↓C2,GY,simprocAttr,Hk,Ae Dn 9,q]
   all_goals exact Y0
  ·exact Ay (ds:=Hl z) rfl
end Go.Vd
namespace Go.Vd
open Go.RowKit Go.ChangeShapes Go.WideShapes Go.Deep
def allG(w:World)(b:Nat):Nat:=match w.heap[b]? with
 |some (.cells c _ _)=>c.size
 |_=>0
def aEo(w:World)(b:Nat)(h:w.heap.size<=b):allG w b=0:=by
 grind [allG]
def aIA{w:World}{p:Addr}{v:Value}(h:w.cell? p=some v):p.off<allG w p.block:=by
 unfold World.cell? at h;unfold allG;split at h
 ·grind
 ·cases h
def Ov{α:Type}{p:Nat->α->Prop}:∀n,(∀i,i<n->∃x,p i x)->∃l:List α,l.length=n∧∀i x,l[i]?=some x->p i x
 |0,_=>⟨[],rfl,U⟩
 |n+1,h=>by
  obtain⟨l,u,f⟩:=Ov n (λi hi=>h i O);obtain⟨x,q⟩:=h n O;refine⟨l++[x],by simp[u],λi y j=>?_⟩;by_cases hi:i<l.length
  ·grind
  ·grind
def Vr(P:Program)(t:TypeId):Bool:=match P.underlying t with
 |some (.struct _)=>true
 |_=>false
def LC:Bool->List D->D
 |true,cs=> .agg cs
 |false,[d]=>d
 |false,_=> .junk
def aSb(F:TypeId->List D->Prop):List TypeId->List D->Prop
 |[],ds=>ds=[]
 |t::r,ds=>∃a b,ds=a++b∧F t a∧aSb F r b
def Fit(P:Program):Nat->TypeId->List D->Prop
 |0,_,_=>False
 |n+1,t,ds=>match P.underlying t with
  |some .string=>∃s,ds=[.str s]
  |some .bool=>∃b,ds=[.bool b]
  |some (.int k)=>∃x,ds=[.int k x]∧(Lit.int k x).wf=true
  |some (.struct fs)=>aSb (Fit P n) (fs.toList.map (·.type)) ds
  |some (.slice e)=>∃nl xs,ds=[.slice nl [] xs]∧(nl=true->xs=[])∧∀x∈xs,∃cs,x=LC (Vr P e) cs∧Fit P n e cs
  |_=>False
def aAu(P:Program)(c:Nat):List Field->Nat->Bool
 |[],o=>o==c
 |f::r,o=>f.offset==o&&aAu P c r (o+P.cellsOf f.type)
def IA(P:Program):Nat->TypeId->Bool
 |0,_=>false
 |n+1,t=>match P.underlying t with
  |some .string=>P.cellsOf t==1
  |some .bool=>P.cellsOf t==1
  |some (.int _)=>P.cellsOf t==1
  |some (.struct fs)=>aAu P (P.cellsOf t) fs.toList 0&&fs.toList.all λf=>IA P n f.type
  |some (.slice e)=>P.cellsOf t==1&&IA P n e
  |_=>false
structure SK (w:World) (ds:List D) (cs:List Value):Prop where
 len:ds.length=cs.length
 calm:∀d∈ds,d.calm1=true
 un:ds.map D.un1=ds
 rep:∀(j:Nat) d v,ds[j]?=some d->cs[j]?=some v->Rep w (startG (allG w)) d v∧v.oneCell'=true
theorem SK.one {w : World} {d : D} {v : Value} (u : d.calm1 = true) (f : d.un1 = d) (i : Rep w (startG (allG w)) d v) (p : v.oneCell' = true) : SK w [d] [v] :=
 ⟨rfl, fun x q => by simp only [List.mem_cons, List.mem_nil_iff, or_false] at q; subst q; exact u, by simp [f], fun j x y q a => by
  match j with
  | 0 => simp only [Qe, Qo] at q a; subst q a; exact ⟨i, p⟩
  | j + 1 => simp at q⟩
def TN{c:Nat}{b:Bool}:∀(l:List (List D))(j:Nat)(d:D),(∀ds∈l,ds.length=c∧(LC b ds).cells=ds)->(flat (l.map (LC b)))[j]?=some d->∃i k ds,l[i]?=some ds∧ds[k]?=some d∧j=i*c+k
 |[],j,d,_,h=>by simp[flat]at h
 |x::r,j,d,hl,h=>by
  obtain⟨u,f⟩:=hl x (Qn ..);simp only[QA,flat,f]at h;by_cases e:j<x.length
  ·rw[Qm e]at h;exact⟨0,j,x,rfl,h,O⟩
  ·rw[Ql O]at h;obtain⟨i,k,ds,n,v,e3⟩:=TN r _ d (λds p=>hl ds (Qq _ p)) h;refine⟨i+1,k,ds,by simpa using n,v,?_⟩;rw[Nat.succ_mul];omega
section
variable{H:Type}{enc:TypeId×Value->H}{P:Program}{w:World}{base:Nat}{spare:Nat->Bool}{held:Bool}
def Oi{n:Nat}{cs:List Value}{fuel:Nat}(ih:∀t,IA P n t=true->∀(fuel:Nat)(cs:List Value) x,DataW.trod enc P w base spare held fuel t cs=some x->cs.length=P.cellsOf t∧∃ds,Fit P n t ds∧SK w ds cs):
  ∀(s:List Field)(o:Nat),aAu P cs.length s o=true->(s.all λf=>IA P n f.type)=true->(∀(j:Nat) f,s[j]?=some f->∃y,DataW.trod enc P w base spare held fuel f.type ((cs.drop f.offset).take (P.cellsOf f.type))=some y)->
   o<=cs.length∧∃ds,aSb (Fit P n) (s.map (·.type)) ds∧SK w ds (cs.drop o)
 |[],o,q,_,_=>by
  simp only[aAu,beq_iff_eq]at q;subst q;refine⟨Nat.le_refl _,[],rfl,U,U,rfl,U⟩
 |f::r,o,q,hp,hf=>by
  simp only[aAu,Qb,beq_iff_eq]at q;obtain⟨rfl,q⟩:=q;simp only[List.all_cons,Qb]at hp;obtain⟨y,z⟩:=hf 0 f rfl;obtain⟨u,a,m,k⟩:=ih _ hp.1 _ _ _ z;obtain⟨h2,b,fb,sb⟩:=Oi ih r _ q hp.2 (λj g hg=>hf (j+1) g (by simpa using hg));have c:cs.drop f.offset=(cs.drop f.offset).take (P.cellsOf f.type)++cs.drop (f.offset+P.cellsOf f.type):=by
   rw[←List.drop_drop,List.take_append_drop]
  refine⟨O,a++b,⟨a,b,rfl,m,fb⟩,?_⟩;rw[c];refine⟨by rw[Qa,Qa,k.len,sb.len],λd p=>?_,by rw[List.map_append,k.un,sb.un],λj d v p i=>?_⟩
  ·rcases List.mem_append.1 p with h|h
   ·exact k.calm d h
   ·exact sb.calm d h
  ·have hl:=k.len;by_cases e:j<a.length
   ·rw[Qm e]at p;rw[Qm O]at i;exact k.rep j d v p i
   ·rw[Ql O]at p;rw[Ql O,←hl]at i;exact sb.rep _ d v p i
def PA{n:Nat}{e:TypeId}{ds:List D}(h:Fit P n e ds):(LC (Vr P e) ds).cells=ds∧(ds.all D.calm1=true->(LC (Vr P e) ds).calm=true):=by
 cases n with
 |zero=>exact h.elim
 |succ n=>
  unfold Fit at h;unfold Vr;split at h
  ·rename_i v;rw[v];obtain⟨s,rfl⟩:=h;exact⟨rfl,λ_=>rfl⟩
  ·rename_i v;rw[v];obtain⟨s,rfl⟩:=h;exact⟨rfl,λ_=>rfl⟩
  ·rename_i v;rw[v];obtain⟨s,rfl,_⟩:=h;exact⟨rfl,λ_=>rfl⟩
  ·rename_i k v;rw[v];exact⟨rfl,λw=>by simpa[LC,D.calm]using w⟩
  ·rename_i v;rw[v];obtain⟨nl,xs,rfl,_⟩:=h;exact⟨rfl,λ_=>rfl⟩
  ·exact h.elim
def PX:∀(n:Nat)(t:TypeId),IA P n t=true->∀(fuel:Nat)(cs:List Value) x,DataW.trod enc P w base spare held fuel t cs=some x->cs.length=P.cellsOf t∧∃ds,Fit P n t ds∧SK w ds cs
 |0,t,hp=>by simp[IA]at hp
 |n+1,t,hp=>by
  intro fuel cs x h;unfold IA at hp;unfold Fit;split at hp
  ·rename_i ht;simp only[beq_iff_eq]at hp;obtain⟨s,rfl,_⟩:=DataW.trod_string ht h;exact⟨hp.symm,_,⟨s.data.toList,rfl⟩,SK.one rfl rfl (.str _) rfl⟩
  ·rename_i ht;simp only[beq_iff_eq]at hp;obtain⟨b,rfl,_⟩:=DataW.trod_bool ht h;exact⟨hp.symm,_,⟨b,rfl⟩,SK.one rfl rfl (.bool _) rfl⟩
  ·rename_i k ht;simp only[beq_iff_eq]at hp;obtain⟨b,rfl,_,hw⟩:=DataW.trod_int ht h;exact⟨hp.symm,_,⟨b,rfl,hw⟩,SK.one rfl rfl (.int _ _) rfl⟩
  ·rename_i fs ht;simp only[Qb]at hp;obtain⟨ys,n',_,_,hl,y,hf⟩:=DataW.trod_struct ht h;rw[←hl]at hp;have:=Oi (fuel:=n') (PX n) fs.toList 0 hp.1 hp.2 (λj f hj=>by
    have sa:fs[j]?=some f:=by simpa using hj
    have ra:j<fs.size:=(Array.getElem?_eq_some_iff.1 sa).1;have eb:ys[j]?=some (ys[j]' O):=Qc O;exact⟨_,(hf j f sa).trans eb⟩)
   obtain⟨_,ds,h1,h2⟩:=this;exact⟨hl,ds,h1,by simpa using h2⟩
  ·rename_i e ht;simp only[Qb,beq_iff_eq]at hp;rcases open_slice ht h with ⟨rfl,_⟩|⟨a,len,cap,m,n',D',Pl,rfl,_,hl,_,hm,_,hi⟩
   ·exact⟨hp.1.symm,_,⟨true,[],rfl,(λ_=>rfl),(λx hx=>by cases hx)⟩,SK.one rfl rfl (.nils []) rfl⟩
   ·have o:len<=m:=by rw[hm];split<;>omega
    have hc:=Ov (p:=λi (ds:List D)=>Fit P n e ds∧ds.length=P.cellsOf e∧ds.all D.calm1=true∧∀(j:Nat) d,ds[j]?=some d->∃v,w.cell? (a.add (i*P.cellsOf e+j))=some v∧Rep w (startG (allG w)) d v∧v.oneCell'=true) len (λi g=>by
     obtain⟨da,h1,h2⟩:=hi i O;obtain⟨h3,ds,h4,h5⟩:=PX n e hp.2 _ _ _ h2;refine⟨ds,h4,h5.len.trans h3,Qz.2 h5.calm,λj d hd=>?_⟩;have hj:j<ds.length:=(List.getElem?_eq_some_iff.1 hd).1;have u:j<da.length:=by rw[←h5.len];exact hj
     obtain⟨_,_,ja⟩:=World.cells?_some h1;obtain⟨r1,r2⟩:=h5.rep j d _ hd (Qc u);refine⟨_,?_,r1,r2⟩;rw[←Go.Deep.add_add,ja j O,Qc u])
    obtain⟨l,xa,r⟩:=hc;have z:∀j,j<len*P.cellsOf e->∃v,w.cell? (a.add j)=some v∧v.oneCell'=true:=by
     intro j hj;have ea:0<P.cellsOf e:=by
      grind
     have hi:j / P.cellsOf e<l.length:=by rw[xa];exact Nat.div_lt_of_lt_mul (by rw[QC];exact hj)
     obtain⟨_,q2,_,q4⟩:=r _ _ (Qc hi);have hk:j % P.cellsOf e<(l[j / P.cellsOf e]).length:=by rw[q2];exact Nat.mod_lt _ ea
     obtain⟨v,h1,_,h3⟩:=q4 _ _ (Qc hk);rw[QC,Nat.div_add_mod]at h1;exact⟨v,h1,h3⟩
    have ia:∀ds∈l,ds.length=P.cellsOf e∧(LC (Vr P e) ds).cells=ds∧(LC (Vr P e) ds).calm=true:=λds hd=>by
     obtain⟨i,hi,rfl⟩:=Qw hd;obtain⟨q1,q2,q3,_⟩:=r i _ (Qc hi);exact⟨q2,(PA q1).1,(PA q1).2 q3⟩
    refine⟨hp.1.symm,[.slice false [] (l.map (LC (Vr P e)))],⟨false,_,rfl,(λh0=>by cases h0),λx hx=>?_⟩,SK.one rfl rfl ?_ rfl⟩
    ·obtain⟨ds,hd,rfl⟩:=Qy.1 hx;obtain⟨i,hi,rfl⟩:=Qw hd;exact⟨_,rfl,(r i _ (Qc hi)).1⟩
    ·refine .slice [] _ a len cap (P.cellsOf e) (λj=>(w.cell? (a.add j)).getD undef) (by simp[xa]) hl (λd hd=>?_) (λj hj=>?_) (λj hj=>?_) (λj d hd=>?_) (λh0=>?_) (λh=>absurd rfl h) (λd hd=>?_)
     ·grind
     ·grind
     ·grind
     ·obtain⟨i,k,ds,e1,e2,rfl⟩:=TN (c:=P.cellsOf e) l j d (λds q=>⟨(ia ds q).1,(ia ds q).2.1⟩) hd;obtain⟨_,_,_,q4⟩:=r i ds e1;obtain⟨v,h1,h2,_⟩:=q4 k d e2;simp only[h1,Qp];exact h2
     ·obtain⟨v,hv,_⟩:=z (len*P.cellsOf e-1) O;have:=aIA hv;rw[FL,Dy]at this;show a.off+len*P.cellsOf e<=allG w a.block;omega
     ·obtain⟨ds,q,rfl⟩:=Qy.1 hd;exact(ia ds q).2.2
  ·cases hp
end
end Go.Vd
namespace Go.Vd
open Go.Proofs Go.RowKit
section
variable{n:Nat}{ds:List D}
def Fit.slice{P:Program}{t e:TypeId}(u:P.underlying t=some (.slice e))(h:Fit P (n+1) t ds):∃nl xs,ds=[.slice nl [] xs]∧(nl=true->xs=[])∧∀x∈xs,∃cs,x=LC (Vr P e) cs∧Fit P n e cs:=by
 unfold Fit at h;rw[u]at h;exact h
def Fit.str{P:Program}{t:TypeId}(u:P.underlying t=some .string)(h:Fit P (n+1) t ds):∃s,ds=[.str s]:=by
 unfold Fit at h;rw[u]at h;exact h
def Fit.int{P:Program}{t:TypeId}{k:IntKind}(u:P.underlying t=some (.int k))(h:Fit P (n+1) t ds):∃x,ds=[.int k x]∧(Lit.int k x).wf=true:=by
 unfold Fit at h;rw[u]at h;exact h
def all_map{α β:Type}{f:α->β}:∀{xs:List β},(∀x∈xs,∃a,x=f a)->∃l:List α,xs=l.map f
 |[],_=>⟨[],rfl⟩
 |x::r,h=>by
  obtain⟨a,rfl⟩:=h x Qn;obtain⟨l,rfl⟩:=all_map λy j=>h y (Qq _ j)
  exact⟨a::l,rfl⟩
def fit_strs{P:Program}{t e:TypeId}(u:P.underlying t=some (.slice e))(v:P.underlying e=some .string)(hi:Vr P e=false)(h:Fit P (n+2) t ds):∃nl l,ds=[.slice nl [] (strsD l)]:=by
 obtain⟨nl,xs,rfl,g,q⟩:=Fit.slice u h;obtain⟨l,rfl⟩:=all_map (f:=D.str) (xs:=xs) (λx a=>by
  obtain⟨cs,rfl,d⟩:=q x a;rw[hi];obtain⟨s,rfl⟩:=Fit.str v d;exact⟨s,rfl⟩)
 exact⟨nl,l,rfl⟩
end
def cell_fit{H:Type}{c:TypeId×Value->H}{P:Program}{w:World}{base:Nat}{a:Nat->Bool}{b:Bool}{n:Nat}{t:TypeId}{v:Value}{d:DataW H}{p:List MemPlace}(k:IA P n t=true)(y:v.cells=#[v])(h:DataW.Trod c P w base a b t v d p):
  ∃ds,Fit P n t ds∧∀r,ds=[r]->Rep w (startG (allG w)) r v:=by
 obtain⟨fuel,o⟩:=h;rw[y]at o;obtain⟨_,ds,u,f⟩:=PX n t k _ _ _ o;exact⟨ds,u,λr e=>by subst e;exact(f.rep 0 r v rfl rfl).1⟩
def u16_wf{x:Int}(h:(Lit.int .u16 x).wf=true):0<=x∧x<65536:=by
 simp[Lit.wf,IntKind.min,IntKind.max,IntKind.signed,IntKind.bits]at h;omega
def cL{F:List D->Option D}{f:FuncId}(k:(Ac F).ok QB f)(a:∀(r:Int)(nl:Bool)(l:List Bs)(s:Bs),0<=r->r<65536->F [.int .u16 r,.slice nl [] (strsD l),.str s]=some (.bool true)){w:World}{o c g:Value}(t:∃r:Int,o= .int .u16 r∧0<=r∧r<65536)(u:∃(nl:Bool)(l:List Bs),Rep w (startG (allG w)) (.slice nl [] (strsD l)) c)(y:∃s:Bs,Rep w (startG (allG w)) (.str s) g):
  Calls QB f #[o,c,g] w λe w'=>e= .returned (.bool true)∧Below w.heap.size w w':=by
 obtain⟨r,rfl,v,n⟩:=t;obtain⟨nl,l,i⟩:=u;obtain⟨s,z⟩:=y;refine aAK k (G:=allG w) (λb m=>aEo w b m) (ds:=[.int .u16 r,.slice nl [] (strsD l),.str s]) (vs:=[.int .u16 r,c,g]) rfl (λj d x p q=>?_) rfl rfl (a r nl l s v n)
 match j with
 |0=>simp only[Qe,Qo]at p q;subst p q;exact .int _ _
 |1=>simp only[Qt,Qe,Qo]at p q;subst p q;exact i
 |2=>simp only[Qt,Qe,Qo]at p q;subst p q;exact z
 |j+3=>simp at p
def reads_law{w:World}{o c g:Value}(z:∃r:Int,o= .int .u16 r∧0<=r∧r<65536)(u:∃(nl:Bool)(l:List Bs),Rep w (startG (allG w)) (.slice nl [] (strsD l)) c)(f:∃s:Bs,Rep w (startG (allG w)) (.str s) g):
  Calls QB 6 #[o,c,g] w λe t=>e= .returned (.bool true)∧Below w.heap.size w t:=cL aQy (λr nl l s z u=>aFR r z u nl l s) z u f
end Go.Vd
end
