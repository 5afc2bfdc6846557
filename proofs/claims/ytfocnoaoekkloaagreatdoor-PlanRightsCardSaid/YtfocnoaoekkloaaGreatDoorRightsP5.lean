/-
  A part of the proof: the layers over the model. Nothing in it is assumed.
-/
import Derived.Test.YtfocnoaoekkloaaGreatDoorRightsP4
import Derived.Test.YtfocnoaoekkloaaGreatDoorProg
import Derived.Shelf.Strings.Repeat
import Derived.WalkKit

set_option linter.unusedSimpArgs false
set_option linter.unusedVariables false
set_option linter.defProp false
set_option maxHeartbeats 4000000
set_option maxRecDepth 100000
open Nat renaming le_of_ble_eq_true→Qa,succ_ne_zero→Qd,zero_ne_one→Qh,reduceEqDiff→Qi,reduceAdd→Qn,zero_add→Qq,zero_le→Qr,reduceLeDiff→QD,reduceLT→QJ,sub_zero→QO,le_refl→QS,le_succ_of_le→Q8,lt_of_not_le→Zp
open List.cons renaming injEq→Qb
open Go.Proofs.Tryz renaming prog→Qc
open Option renaming isSome_some→Qe,bind_some→Qk,bind_eq_some_iff→Q6,map_some→Zr
open List renaming getElem?_cons_zero→Qf,length_cons→Qg,getElem?_eq_getElem→Qj,length_nil→Ql,getElem?_cons_succ→Qm,map_cons→Qs,map_nil→Qt,take_succ_cons→Qu,take_of_length_le→Qv,drop_zero→Qw,mem_cons→Qx,getElem?_eq_some_iff→Qz,mem_singleton→QA,take_zero→QB,getElem_mem→QC,drop_succ_cons→QF,length_append→QL,take_add_one→QN,not_mem_nil→QR,mem_append→QT,head?_cons→QU,length_take→QV,tail_cons→QW,take_succ_eq_append_getElem→QY,mem_map→Q0,mem_nil_iff→Q1,any_eq_true→Q3,nil_append→Q4,mem_cons_self→Q5,append_eq_nil_iff→Q7,foldl_append→Q9,all_eq_true→Za,isEmpty_iff→Zb,length_drop→Zc,all_cons→Zd,append_inj→Ze,map_append→Zf,all_nil→Zg,map_map→Zh,exists_cons_of_ne_nil→Zi,drop_eq_getElem_cons→Zj,flatMap_cons→Zk,flatMap_nil→Zm,isEmpty_nil→Zn,length_eq_zero_iff→Zo,take_length→Zq,length_map→Zs,any_append→Zt,getElem?_eq_none→Zu,mem_append_right→Zv,map→Zw,mem_append_left→Zx,mem_of_mem_take→Zy,mem_of_mem_drop→Zz,getD→ZA
open Int renaming toNat_natCast→Qo,toNat_of_nonneg→QE,cast_ofNat_Int→QI,reduceLE→QP,reduceToNat→QQ,reduceEq→Q2,lt_irrefl→ZC,toNat→ZD
open Option.some renaming injEq→Qp
open Bool renaming false_and→Qy,true_or→QG,or_true→QH,and_false→QK,and_eq_true→QM,or_false→QZ,false_or→Q_,and_self→ZB
open Prod renaming ext→QX
open Prod.mk renaming injEq→Zl
open Go.Proofs.Tryz
noncomputable section
namespace Go.Vd
open Go.Proofs Go.RowKit
def ascii_dec{s:Bs}{p:Nat}{c:UInt8}(h:s[p]?=some c)(hc:c.toNat<128):Utf8.decode ⟨s.toArray⟩ p=(c.toNat,1):=by
 have hp:=(Qz.1 h).1;have ha:at' s p=c.toNat:=by simp[at',h]
 unfold Utf8.decode;simp only[get_at,Nat.add_zero,ha,hc,if_true]
def forms:List (Bs×Bs):=[([],[]),([115,116,97,116,117,115],[]),([117,110,115,101,97,108],[107]),([115,101,97,108],[116]),([114,111,116,97,116,101],[116]),([109,111,117,110,116],[116,112,110,102]),([117,110,109,111,117,110,116],[116,112]),([109,97,107,101],[116,109,114]),([114,101,118,111,107,101],[116,109]),([114,101,97,100],[116,112,110]),([119,114,105,116,101],[116,112,99,100]),([100,101,108,101,116,101],[116,112,108]),([117,110,100,101,108,101,116,101],[116,112,108]),([100,101,115,116,114,111,121],[116,112,108]),([109,101,116,97],[116,112]),([99,111,110,102,105,103],[116,112,110,102]),([112,117,114,103,101],[116,112]),([108,105,115,116],[116,112]),([99,111,112,121],[116,112,113])]
def formW(op:Int):Bs:=(forms.getD op.toNat ([],[])).1
def CD(op:Int):Bs:=(forms.getD op.toNat ([],[])).2
def isForm(p:Bs×Bs):Option D->Bool
 |some (.agg [.str a,.str b])=>Go.Ve.eqBs a p.1&&Go.Ve.eqBs b p.2
 |_=>false
def R151:List D->Option D:=funRun (λ_=>none) 30 dc151 [.cell (some 2) 2] 60
def ok151:(Ac R151).ok Qc 151:=funRun_ok AL fn151 60
def R151_all:(List.range 256).all (λop=>isForm (forms.getD op ([],[])) (R151 [.int .u8 (op:Nat)]))=true:=by kernel_rfl
def R151_eq{op:Int}(h0:0<=op)(h:op<256):R151 [.int .u8 op]=some (.agg [.str (formW op),.str (CD op)]):=by
 have:=Za.1 R151_all op.toNat (by simp;omega);rw[QE h0]at this;unfold formW CD;generalize R151 [.int .u8 op]=r at this;unfold isForm at this;split at this
 ·rw[QM]at this;rw[Go.Ve.eqBs_eq this.1,Go.Ve.eqBs_eq this.2]
 ·cases this
structure AkOk (a:Ak):Prop where
 op0:0<=a.op
 op:a.op<256
 tk:a.tk.length<=1000
 pa:a.pa.length<=1000
 ot:a.ot.length<=1000
 ns:a.ns.length<=1000
 da:a.da.length<=1000
 rl:a.rs.length<=1000
 rs:∀r∈a.rs,r.1.length<=1000∧0<=r.2
 key:a.key.length<=1000
def BR(a:Ak)(c:Int):Int:=if c=116 then E8 (BD a.tk)else if c=109 then E8 (BD a.ot)else if c=112 then AW a.pa else if c=113 then AW a.ot else if c=110 then E8 (decide (0<=a.n∧a.n<=999))else if c=99 then E8 (decide (-1<=a.cas∧a.cas<=999))else if c=108 then E8 (countB a.ns)else if c=114 then Cr a.rs else if c=107 then E8 (decide ((a.key.length:Int)=16))else 0
def F152:List D->Option D:=FX (λp:Ak×Int=>[akD p.1,.int .i32 p.2]) (λp=>AkOk p.1) (λp=> .int .i64 (BR p.1 p.2))
def F152_eq{a:Ak}{c:Int}(h:AkOk a):F152 [akD a,.int .i32 c]=some (.int .i64 (BR a c)):=
 BB (mk:=λp:Ak×Int=>[akD p.1,.int .i32 p.2]) (a:=(a,c)) (λx y e=>by
  simp only[Qb,D.int.injEq,true_and,and_true]at e;exact QX (Eo e.1) e.2) h
def ok152:(Ac F152).ok Qc 152:=by
 obtain⟨S,hS,hl⟩:=A7 (Ab ok258 (Ab ok257 (Ab ok201 (Ab ok259 (Ab ok260 (Ab ok214 Ad))))));have s258:=hl 258 _ rfl;have s257:=hl 257 _ rfl;have s201:=hl 201 _ rfl;have s259:=hl 259 _ rfl;have s260:=hl 260 _ rfl;have s214:=hl 214 _ rfl;clear hl;refine BM hS fn152 (λ_=>by simp) (λp hp=>?_);obtain⟨a,c⟩:=p;simp only at hp;have hT:=F258_eq (s:=a.tk) (by have:=hp.tk;omega);have hO:=F258_eq (s:=a.ot) (by have:=hp.ot;omega);have hP:F201 [.str a.pa]=some (.int .i64 (AW a.pa)):=if_pos (by have:=hp.pa;omega);have hQ:F201 [.str a.ot]=some (.int .i64 (AW a.ot)):=if_pos (by have:=hp.ot;omega);have hN:F259 [.int .i64 a.n,.int .i64 0,.int .i64 999]=some (.bool (decide (0<=a.n∧a.n<=999))):=rfl;have hC:F259 [.int .i64 a.cas,.int .i64 (-1),.int .i64 999]=some (.bool (decide (-1<=a.cas∧a.cas<=999))):=rfl;have hL:=F260_eq (nl:=a.nln) (l:=a.ns) (by have:=hp.ns;omega);have hR:=Fpol_eq' (nl:=a.nlr) (l:=a.rs) (by have:=hp.rl;omega) hp.rs;unfold BR dc152 akD akC;simp only;by_cases h116:c=116
 ·subst h116;simp only[↓go1,gB0,simprocAttr,Aa s258,hT,Aa s257,F257_eq,Af]
  all_goals first|rfl|exact⟨rfl,rfl⟩
 have g116:decide (c=116)=false:=by simpa using h116
 by_cases h109:c=109
 ·subst h109;simp only[↓go1,gB0,simprocAttr,Aa s258,hO,Aa s257,F257_eq,Af]
  all_goals first|rfl|exact⟨rfl,rfl⟩
 have g109:decide (c=109)=false:=by simpa using h109
 by_cases h112:c=112
 ·subst h112;simp only[↓go1,gB0,simprocAttr,Aa s201,hP,Af]
  all_goals first|rfl|exact⟨rfl,rfl⟩
 have g112:decide (c=112)=false:=by simpa using h112
 by_cases h113:c=113
 ·subst h113;simp only[↓go1,gB0,simprocAttr,Aa s201,hQ,Af]
  all_goals first|rfl|exact⟨rfl,rfl⟩
 have g113:decide (c=113)=false:=by simpa using h113
 by_cases h110:c=110
 ·subst h110;simp only[↓go1,gB0,simprocAttr,Aa s259,hN,Aa s257,F257_eq,Af]
  all_goals first|rfl|exact⟨rfl,rfl⟩
 have g110:decide (c=110)=false:=by simpa using h110
 by_cases h99:c=99
 ·subst h99;simp only[↓go1,gB0,simprocAttr,Aa s259,hC,Aa s257,F257_eq,Af]
  all_goals first|rfl|exact⟨rfl,rfl⟩
 have g99:decide (c=99)=false:=by simpa using h99
 by_cases h108:c=108
 ·subst h108;simp only[↓go1,gB0,simprocAttr,Aa s260,hL,Aa s257,F257_eq,Af]
  all_goals first|rfl|exact⟨rfl,rfl⟩
 have g108:decide (c=108)=false:=by simpa using h108
 by_cases h114:c=114
 ·subst h114;simp only[↓go1,gB0,simprocAttr,Aa s214,hR,Af]
  all_goals first|rfl|exact⟨rfl,rfl⟩
 have g114:decide (c=114)=false:=by simpa using h114
 by_cases h107:c=107
 ·subst h107;simp only[↓go1,gB0,simprocAttr,Aa s257,F257_eq,Af]
  all_goals first|rfl|exact⟨rfl,rfl⟩
 have g107:decide (c=107)=false:=by simpa using h107
 simp only[↓go1,gB3,simprocAttr,h116,h109,h112,h113,h110,h99,h108,h114,h107,Qq,and_self]
 all_goals first|rfl|exact⟨rfl,rfl⟩
def DQ(a:Ak)(c:Int):Ak:=if c=116 then {a with tk:=[]}else if c=112 then {a with pa:=[]}else if c=109∨c=113 then {a with ot:=[]}else if c=110 then {a with n:=0}else if c=99 then {a with cas:=0}else if c=102 then {a with fl:=false}else if c=108 then {a with nln:=true,ns:=[]}else if c=100 then {a with da:=[]}else if c=114 then {a with nlr:=true,rs:=[]}else if c=107 then {a with key:=[]}else a
def F153:List D->Option D:=FX (λp:Ak×Int=>[akD p.1,.int .i32 p.2]) (λp=>True) (λp=>akD (DQ p.1 p.2))
def F153_eq{a:Ak}{c:Int}:F153 [akD a,.int .i32 c]=some (akD (DQ a c)):=
 BB (mk:=λp:Ak×Int=>[akD p.1,.int .i32 p.2]) (a:=(a,c)) (λx y e=>by
  simp only[Qb,D.int.injEq,true_and,and_true]at e;exact QX (Eo e.1) e.2) trivial
def ok153:(Ac F153).ok Qc 153:=by
 refine BM (S:=λ_=>none) AL fn153 (λ_=>by simp) (λp hp=>?_);obtain⟨a,c⟩:=p;unfold DQ dc153 akD akC;simp only;by_cases h116:c=116
 ·subst h116;simp only[↓go1,gB0,simprocAttr,or_self,Af,Ap,Aq,Qk,Qe,Qb,Qh,and_false,Qd,Bf,AX]
  all_goals first|rfl|exact⟨rfl,rfl⟩
 by_cases h112:c=112
 ·subst h112;simp only[↓go1,gB0,simprocAttr,or_self,Af,Ap,Aq,Qk,Qe,Qb,Qh,and_false,Qd,Bf,AX]
  all_goals first|rfl|exact⟨rfl,rfl⟩
 by_cases h109:c=109
 ·subst h109;simp only[↓go1,gB0,simprocAttr,true_or,Af,Ap,Aq,Qk,Qe,Qb,Qh,and_false,Qd,Bf,AX]
  all_goals first|rfl|exact⟨rfl,rfl⟩
 by_cases h113:c=113
 ·subst h113;simp only[↓go1,gB0,simprocAttr,or_true,Af,Ap,Aq,Qk,Qe,Qb,Qh,and_false,Qd,Bf,AX]
  all_goals first|rfl|exact⟨rfl,rfl⟩
 by_cases h110:c=110
 ·subst h110;simp only[↓go1,gB0,simprocAttr,or_self,Af,Ap,Aq,Qk,Qe,Qb,Qh,and_false,Qd,Bf,AX]
  all_goals first|rfl|exact⟨rfl,rfl⟩
 by_cases h99:c=99
 ·subst h99;simp only[↓go1,gB0,simprocAttr,or_self,Af,Ap,Aq,Qk,Qe,Qb,Qh,and_false,Qd,Bf,AX]
  all_goals first|rfl|exact⟨rfl,rfl⟩
 by_cases h102:c=102
 ·subst h102;simp only[↓go1,gB0,simprocAttr,or_self,Af,Ap,Aq,Qk,Qe,Qb,Qh,and_false,Qd,Bf,AX]
  all_goals first|rfl|exact⟨rfl,rfl⟩
 by_cases h108:c=108
 ·subst h108;simp only[↓go1,gB0,simprocAttr,or_self,Af,Ap,Aq,Qk,Qe,Qb,Qh,and_false,Qd,Bf,AX]
  all_goals first|rfl|exact⟨rfl,rfl⟩
 by_cases h100:c=100
 ·subst h100;simp only[↓go1,gB0,simprocAttr,or_self,Af,Ap,Aq,Qk,Qe,Qb,Qh,and_false,Qd,Bf,AX]
  all_goals first|rfl|exact⟨rfl,rfl⟩
 by_cases h114:c=114
 ·subst h114;simp only[↓go1,gB0,simprocAttr,or_self,Af,Ap,Aq,Qk,Qe,Qb,Qh,and_false,Qd,Bf,AX]
  all_goals first|rfl|exact⟨rfl,rfl⟩
 by_cases h107:c=107
 ·subst h107;simp only[↓go1,gB0,simprocAttr,or_self,Af,Ap,Aq,Qk,Qe,Qb,Qh,and_false,Qd,Bf,AX]
  all_goals first|rfl|exact⟨rfl,rfl⟩
 simp only[↓go1,gB0,simprocAttr,h116,h112,h109,h113,h110,h99,h102,h108,h100,h114,h107,or_self,Af,Ap,Aq,Qk,Qe,Qb,Qh,Qd,Bf,AX]
 all_goals first|rfl|exact⟨rfl,rfl⟩
def orN(s:Bs):Bs:=if s=[]then [45]else s
def layA(a:Ak)(c:Int):Bs:=if c=116 then a.tk else if c=112 then a.pa else if c=109∨c=113 then a.ot else if c=110 then BT a.n.toNat else if c=99 then(if a.cas=-1 then [45]else BT a.cas.toNat)
 else if c=102 then(if a.fl=true then [49]else [48])else if c=108 then orN (Dq (FF a.ns))else if c=100 then orN (EQ a.da)else if c=114 then orN (if Cr a.rs=0 then Dq (B8 a.rs)else [])else EQ a.key
structure LayOk (a:Ak) (c:Int):Prop where
 n:c=110->0<=a.n∧a.n<1000
 cas:c=99->-1<=a.cas∧a.cas<1000
 ns:c=108->∀x∈a.ns,0<=x∧x<1000
def F263:List D->Option D:=FX (λp:Ak×Int=>[akD p.1,.int .i32 p.2]) (λp=>AkOk p.1∧LayOk p.1 p.2) (λp=> .str (layA p.1 p.2))
def F263_eq{a:Ak}{c:Int}(h:AkOk a)(h2:LayOk a c):F263 [akD a,.int .i32 c]=some (.str (layA a c)):=
 BB (mk:=λp:Ak×Int=>[akD p.1,.int .i32 p.2]) (a:=(a,c)) (λx y e=>by
  simp only[Qb,D.int.injEq,true_and,and_true]at e;exact QX (Eo e.1) e.2) ⟨h,h2⟩
def ok263:(Ac F263).ok Qc 263:=by
 obtain⟨S,hS,hl⟩:=A7 (Ab ok346 (Ab ok347 (Ab ok348 (Ab ok317 (Ab ok232 Ad)))));have s346:=hl 346 _ rfl;have s347:=hl 347 _ rfl;have s348:=hl 348 _ rfl;have s317:=hl 317 _ rfl;have s232:=hl 232 _ rfl;clear hl;refine BM hS fn263 (λ_=>by simp) (λp hp=>?_);obtain⟨a,c⟩:=p;obtain⟨hp,hN,hC,hL⟩:=hp;simp only at hp hN hC hL;unfold layA orN dc263 akD akC;simp only;by_cases h116:c=116
 ·subst h116;simp only[↓go1,gB0,simprocAttr,or_self,Af]
  all_goals first|rfl|exact⟨rfl,rfl⟩
 by_cases h112:c=112
 ·subst h112;simp only[↓go1,gB0,simprocAttr,or_self,Af]
  all_goals first|rfl|exact⟨rfl,rfl⟩
 by_cases h109:c=109
 ·subst h109;simp only[↓go1,gB0,simprocAttr,true_or,Af]
  all_goals first|rfl|exact⟨rfl,rfl⟩
 by_cases h113:c=113
 ·subst h113;simp only[↓go1,gB0,simprocAttr,or_true,Af]
  all_goals first|rfl|exact⟨rfl,rfl⟩
 by_cases h110:c=110
 ·subst h110;have hn:=hN rfl;obtain⟨n,hn'⟩:∃n:Nat,a.n=(n:Int):=⟨a.n.toNat,by omega⟩;have h346:=F346_eq (n:=n) (by omega);rw[hn'];simp only[↓go1,gB0,simprocAttr,Aa s346,h346,Qo,or_self,Af]
  all_goals first|rfl|exact⟨rfl,rfl⟩
 by_cases h99:c=99
 ·subst h99;have hc:=hC rfl;by_cases h1:a.cas=-1
  ·rw[h1];simp only[↓go1,gB0,simprocAttr,or_self,Af]
   all_goals first|rfl|exact⟨rfl,rfl⟩
  ·obtain⟨n,hn'⟩:∃n:Nat,a.cas=(n:Int):=⟨a.cas.toNat,by omega⟩;have h346:=F346_eq (n:=n) (by omega);rw[hn']at h1 ⊢;simp only[↓go1,gB0,simprocAttr,h1,Aa s346,h346,Qo,or_self,Af]
   all_goals first|rfl|exact⟨rfl,rfl⟩
 by_cases h102:c=102
 ·subst h102;cases a.fl<;>simp only[↓go1,gB0,simprocAttr,or_self,Af]
  all_goals first|rfl|exact⟨rfl,rfl⟩
 by_cases h108:c=108
 ·subst h108;have hl:=hL rfl;have h348:=F348_eq (nl:=a.nln) (l:=a.ns) hp.ns hl;simp only[↓go1,gB0,simprocAttr,Aa s348,h348,Aa s347,F347_eq,or_self,Af]
  all_goals first|rfl|exact⟨rfl,rfl⟩
 by_cases h100:c=100
 ·subst h100;have h317:=F317_eq (s:=a.da) (by have:=hp.da;omega);simp only[↓go1,gB0,simprocAttr,Aa s317,h317,Aa s347,F347_eq,or_self,Af]
  all_goals first|rfl|exact⟨rfl,rfl⟩
 by_cases h114:c=114
 ·subst h114;have h232:=F232_eq (nl:=a.nlr) (l:=a.rs) (by have:=hp.rl;omega) hp.rs;simp only[↓go1,gB0,simprocAttr,Aa s232,h232,Aa s347,F347_eq,or_self,Af]
  all_goals first|rfl|exact⟨rfl,rfl⟩
 have h317:=F317_eq (s:=a.key) (by have:=hp.key;omega);simp only[↓go1,gB0,simprocAttr,Aa s317,h317,h116,h112,h109,h113,h110,h99,h102,h108,h100,h114,or_self,Af]
 all_goals first|rfl|exact⟨rfl,rfl⟩
def zeroB(a:Ak):Bool:=a.ns.isEmpty&&(a.rs.isEmpty&&(decide (a.op=0)&&(decide (a.tk=[])&&(decide (a.pa=[])&&(decide (a.ot=[])&&(decide (a.n=0)&&(decide (a.cas=0)&&(!a.fl&&(decide (a.da=[])&&decide (a.key=[]))))))))))
def ak0:Ak:=⟨0,[],[],[],0,0,false,true,[],[],true,[],[]⟩
def F154:List D->Option D:=FX (λa:Ak=>[akD a,akD ak0]) (λa=>AkOk a) (λa=> .bool (zeroB a))
def F154_eq{a:Ak}(h:AkOk a):F154 [akD a,akD ak0]=some (.bool (zeroB a)):=
 BB (mk:=λa:Ak=>[akD a,akD ak0]) (λx y e=>by
  simp only[Qb,and_true]at e;exact Eo e) h
def ok262:(Ac F261).ok Qc 262:=by
 obtain⟨S,hS,hl⟩:=A7 (Ab ok345 Ad);have s345:=hl 345 _ rfl;clear hl;refine BM hS fn262 (λ_=>by simp) (λp hs=>?_);have h345:=F261_eq (nl:=p.1) (nl':=p.2.2) (l:=p.2.1) hs;unfold dc262;by_cases hcm:(([D.slice p.1 [] p.2.1,.slice p.2.2 [] []]:List D).map D.un).all D.calm=true
 ·simp only[↓go1,gB3,simprocAttr,Aa s345,h345,and_self]
  all_goals first|rfl|exact⟨rfl,rfl⟩
 ·exact absurd rfl hcm
theorem ok154 : (Ac F154).ok Qc 154 := by
  obtain ⟨S, hS, hl⟩ := A7 (Ab ok261 (Ab ok262 Ad))
  have s261 := hl 261 _ rfl
  have s262 := hl 262 _ rfl
  clear hl
  refine BM hS fn154 (fun _ => by simp) (fun a hp => ?_)
  have h261 := F261_eq (nl := a.nln) (nl' := true) (l := AS a.ns) (by rw [B2]; have := hp.ns; omega)
  have h262 := F261_eq (nl := a.nlr) (nl' := true) (l := An a.rs) (by rw [Av]; have := hp.rl; omega)
  have e1 : (AS a.ns).isEmpty = a.ns.isEmpty := by cases a.ns <;> rfl
  have e2 : (An a.rs).isEmpty = a.rs.isEmpty := by cases a.rs <;> rfl
  rw [e1] at h261
  rw [e2] at h262
  unfold zeroB dc154 akD akC ak0
  simp only
  generalize a.ns.isEmpty = b1 at h261
  generalize a.rs.isEmpty = b2 at h262
  have n1 : AS ([] : List Int) = [] := rfl
  have n2 : An ([] : List Rl) = [] := rfl
  cases b1 with
  | false => simp only [↓go1, gB0, simprocAttr, n1, n2, Aa s261, h261, Qy, Af, Qb, Qh, Qd]
             all_goals first | rfl | exact ⟨rfl, rfl⟩
  | true =>
    cases b2 with
    | false => simp only [↓go1, gB0, simprocAttr, n1, n2, Aa s261, h261, Aa s262, h262, Qy, QK, Af, Qb, Qh, Qd]
               all_goals first | rfl | exact ⟨rfl, rfl⟩
    | true =>
      simp only [Bool.true_and]
      by_cases g1 : a.op = 0
      · by_cases g2 : a.tk = []
        · by_cases g3 : a.pa = []
          · by_cases g4 : a.ot = []
            · by_cases g5 : a.n = 0
              · by_cases g6 : a.cas = 0
                · cases g7 : a.fl with
                  | false =>
                    by_cases g8 : a.da = []
                    · simp only [↓go1, gB0, simprocAttr, n1, n2, Aa s261, h261, Aa s262, h262, Af, Qb, Qh, Qd, g1, g2, g3, g4, g5, g6, g8]
                      trace_state
                      all_goals first | rfl | exact ⟨rfl, rfl⟩
                    · simp only [↓go1, gB0, simprocAttr, n1, n2, Aa s261, h261, Aa s262, h262, Qy, QK, Af, Qb, Qh, Qd, g1, g2, g3, g4, g5, g6, g8]
                      all_goals first | rfl | exact ⟨rfl, rfl⟩
                  | true => simp only [↓go1, gB0, simprocAttr, n1, n2, Aa s261, h261, Aa s262, h262, Qy, QK, Af, Qb, Qh, Qd, g1, g2, g3, g4, g5, g6]
                            all_goals first | rfl | exact ⟨rfl, rfl⟩
                · simp only [↓go1, gB0, simprocAttr, n1, n2, Aa s261, h261, Aa s262, h262, Qy, QK, Af, Qb, Qh, Qd, g1, g2, g3, g4, g5, g6]
                  all_goals first | rfl | exact ⟨rfl, rfl⟩
              · simp only [↓go1, gB0, simprocAttr, n1, n2, Aa s261, h261, Aa s262, h262, Qy, QK, Af, Qb, Qh, Qd, g1, g2, g3, g4, g5]
                all_goals first | rfl | exact ⟨rfl, rfl⟩
            · simp only [↓go1, gB0, simprocAttr, n1, n2, Aa s261, h261, Aa s262, h262, Qy, QK, Af, Qb, Qh, Qd, g1, g2, g3, g4]
              all_goals first | rfl | exact ⟨rfl, rfl⟩
          · simp only [↓go1, gB0, simprocAttr, n1, n2, Aa s261, h261, Aa s262, h262, Qy, QK, Af, Qb, Qh, Qd, g1, g2, g3]
            all_goals first | rfl | exact ⟨rfl, rfl⟩
        · simp only [↓go1, gB0, simprocAttr, n1, n2, Aa s261, h261, Aa s262, h262, Qy, QK, Af, Qb, Qh, Qd, g1, g2]
          all_goals first | rfl | exact ⟨rfl, rfl⟩
      · simp only [↓go1, gB0, simprocAttr, n1, n2, Aa s261, h261, Aa s262, h262, Qy, Af, Qb, Qh, Qd, g1]
        all_goals first | rfl | exact ⟨rfl, rfl⟩
def AI{m:Mem}{i j:Id}{o:Nat}{ds:List D}(h:j≠i):∀{n p:Nat},Ah (m.put i o ds) j p n=Ah m j p n
 |0,p=>rfl
 |n+1,p=>by
  simp only[Ah,Mem.put_other h];rw[AI h]
def rdC_aux{i:Id}:∀{ds:List D} {m:Mem} {p:Nat},(∀k d,ds[k]?=some d->m i (p+k)=some d)->Ah m i p ds.length=some ds
 |[],m,p,_=>rfl
 |d::r,m,p,h=>by
  have h0:=h 0 d rfl;rw[Nat.add_zero]at h0;have hr:=rdC_aux (ds:=r) (m:=m) (p:=p+1) λk x hx=>by
   have:=h (k+1) x (by simpa using hx);rw[show p+1+k=p+(k+1)by omega];exact this
  simp only[Qg,Ah,h0,hr,Zr]
def AQ{m:Mem}{i:Id}{ds:List D}{n:Nat}(h:ds.length=n):Ah (m.put i 0 ds) i 0 n=some ds:=by
 subst h;exact rdC_aux λk d hd=>by
  have hk:=(Qz.1 hd).1;rw[Af,if_pos ⟨rfl,Qr _,by omega⟩];simpa using hd
def rdC_one{m:Mem}{i:Id}{o:Nat}:Ah m i o 1=(m i o).map λd=>[d]:=by
 simp only[Ah];cases m i o<;>rfl
def Cv(a:Ak):(akC a).map D.un1=akC a:=rfl
def Cw(a:Ak):(akC a).all D.calm1=true:=rfl
def AK(a:Ak):D.cells (.agg (akC a))=akC a:=rfl
def Bc(a:Ak):(akC a).length=11:=rfl
def layA_len{a:Ak}{c:Int}(h:AkOk a):(layA a c).length<=100000:=by
 obtain⟨_,_,h1,h2,h3,h4,h5,h6,h7,h8⟩:=h;have n1:=numB_len a.n.toNat;have n2:=numB_len a.cas.toNat;have oN:∀s:Bs,s.length<=100000->(orN s).length<=100000:=by
  intro s hs;unfold orN;split
  ·simp
  ·exact hs
 have j1:(Dq (FF a.ns)).length<=100000:=by
  have e1:=FH (FF a.ns);have e2:=sumL_le (l:=FF a.ns) (b:=3) λx hx=>by
   obtain⟨y,_,rfl⟩:=Q0.1 hx;exact numB_len _
  rw[DK]at e1 e2;omega
 have j2:(if Cr a.rs=0 then Dq (B8 a.rs)else []).length<=100000:=by
  split
  ·rename_i hz;have e0:=(polE_zero hz).1;have e1:=FH (B8 a.rs);have e2:=sumL_le (l:=B8 a.rs) (b:=1007) λx hx=>by
    obtain⟨y,hy,rfl⟩:=Q0.1 hx;have h1:=(h7 y hy).1;have h2:=E0 y.2.toNat;simp only[ruleB,QL,Qg,Ql];omega
   rw[Cq]at e1 e2;omega
  ·simp
 have x1:=DX a.da;have x2:=DX a.key;unfold layA;split
 ·omega
 ·split
  ·omega
  ·split
   ·omega
   ·split
    ·omega
    ·split
     ·split
      ·simp
      ·omega
     ·split
      ·split<;>simp
      ·split
       ·exact oN _ j1
       ·split
        ·exact oN _ (by omega)
        ·split
         ·exact oN _ j2
         ·omega
def lineA(a:Ak):Bs:=formW a.op++(CD a.op).flatMap λc=>32::layA a (c.toNat:Int)
def forms_ok:forms.all (λp=>decide (p.1.length<=20)&&(decide (p.2.length<=20)&&p.2.all λc=>decide (c.toNat<128)))=true:=by decide+kernel
def form_at(op:Int):(formW op).length<=20∧(CD op).length<=20∧∀c∈CD op,c.toNat<128:=by
 unfold formW CD;have:∀p:Bs×Bs,p=([],[])∨p∈forms->p.1.length<=20∧p.2.length<=20∧∀c∈p.2,c.toNat<128:=by
  intro p hp;rcases hp with rfl|hp
  ·simp
  ·have h:=Za.1 forms_ok p hp;simp only[QM,decide_eq_true_eq,Za]at h;exact h
 refine this _ ?_;by_cases h:op.toNat<forms.length
 ·right;simp[ZA,Qj h]
 ·left;simp[ZA,Zu (Nat.le_of_not_lt h)]
def loop155{S:Summs}{a:Ak}(ha:AkOk a)(s263:S 263=some (Ac F263)){ls:Bs}(hls:ls.length<=20)(has:∀c∈ls,c.toNat<128)(hlay:∀c∈ls,LayOk a (c.toNat:Int)){ki:Id}(hki:([0]:Id)≠ki){w0:Bs}(hw0:w0.length<=20){Q:Ex->St->Prop}
  (hexit:∀st,st.s 4= .str (w0++ls.flatMap λc=>32::layA a (c.toNat:Int))->Q (.exit 0) st):
  ∀(f p:Nat) st g,ls.length=p+f->st.s 1= .ptr [0] 0->st.s 4= .str (w0++(ls.take p).flatMap λc=>32::layA a (c.toNat:Int))->st.s 14= .itp ki->Ah st.m [0] 0 11=some (akC a)->st.m ki 1=some (.it ls p)->
   A8 S [] dc155l0 Q st g:=by
 intro f;induction f with
 |zero=>
  intro p st g hf h1 h4 h14 hm hit;refine Ae dc155l0.eq_1 ?_;have hp:¬(p<ls.length):=by omega
  simp only[↓go1,go2,simprocAttr,h14,hp,hit,Qf];refine hexit _ ?_;simp only[↓go1,reduceIte,Qi,h4];rw[Qv (by omega)]
 |succ f ih=>
  intro p st g hf h1 h4 h14 hm hit;refine Ae dc155l0.eq_1 ?_;have hp:p<ls.length:=by omega
  have hat:ls[p]?=some ls[p]:=Qj hp;have hmem:ls[p]∈ls:=QC hp;have hdec:=ascii_dec hat (has _ hmem);have h263:F263 [.agg (akC a),.int .i32 (ls[p].toNat:Int)]=some (.str (layA a (ls[p].toNat:Int))):=F263_eq ha (hlay _ hmem);have hll:=layA_len (c:=(ls[p].toNat:Int)) ha;have htk:ls.take (p+1)=ls.take p++[ls[p]]:=by rw[QN,hat];rfl
  have hacc:((ls.take p).flatMap λc=>32::layA a (c.toNat:Int)).length<=100001*20:=by
   have:∀(l:Bs),((l.flatMap λc=>32::layA a (c.toNat:Int))).length<=100001*l.length:=by
    intro l;induction l with
    |nil=>simp
    |cons x r ih=>
     have:=layA_len (c:=(x.toNat:Int)) ha;simp only[Zk,QL,Qg,Nat.mul_add];omega
   have h:=this (ls.take p);have h':(ls.take p).length<=20:=by rw[QV];omega
   omega
  have hb1:(1+(layA a (ls[p].toNat:Int)).length<=9223372036854775807)=True:=eq_true (by omega);have hb2:(w0.length+((ls.take p).flatMap λc=>32::layA a (c.toNat:Int)).length+(1+(layA a (ls[p].toNat:Int)).length)<=9223372036854775807)=True:=eq_true (by omega);generalize ls[p]=c at hdec h263 htk hb1 hb2;obtain⟨st_s,st_m,st_c⟩:=st;simp only at h1 h4 h14 hm hit;simp only[↓go1,gB2,go4,simprocAttr,h1,h4,h14,hm,hdec,AI hki,Aa s263,h263,hb1,hb2,Cv,Cw,hp,hit,QL,Qf,Qm];refine ih (p+1) _ _ (by omega) ?_ ?_ ?_ ?_ ?_
  ·exact h1
  ·simp only[↓go1,reduceIte,Qi];rw[htk];simp
  ·exact h14
  ·simp only[hm,AI hki]
  ·simp only[reduceIte,Qn,Af,QS,and_self,Qg,Ql,Nat.lt_add_one,Nat.sub_self,Qf,hdec]
def F155:List D->Option D:=FX (λa:Ak=>[akD a]) (λa=>AkOk a∧∀c∈CD a.op,LayOk a (c.toNat:Int)) (λa=> .str (lineA a))
def F155_eq{a:Ak}(h:AkOk a)(h2:∀c∈CD a.op,LayOk a (c.toNat:Int)):F155 [akD a]=some (.str (lineA a)):=
 BB (mk:=λa:Ak=>[akD a]) (λx y e=>by
  simp only[Qb,and_true]at e;exact Eo e) ⟨h,h2⟩
def ok155:(Ac F155).ok Qc 155:=by
 obtain⟨S,hS,hl⟩:=A7 (Ab ok151 (Ab ok263 Ad));have s151:=hl 151 _ rfl;have s263:=hl 263 _ rfl;clear hl;refine BM hS fn155 (λ_=>by simp) (λa hp=>?_);obtain⟨ha,hlay⟩:=hp;have h151:=R151_eq ha.op0 ha.op;obtain⟨f1,f2,f3⟩:=form_at a.op;have hop:akC a= .int .u8 a.op::(akC a).tail:=rfl;unfold lineA dc155 akD;have hm0:∀m:Mem,m.put [0] 0 (akC a) [0] 0=some (.int .u8 a.op):=λm=>by
  rw[Af,if_pos ⟨rfl,QS _,by rw[Bc];omega⟩];rfl
 simp only[↓go1,gB0,simprocAttr,Aa s151,h151,hm0,AK,Bc,Af,Ap,Aq,Qk,Qe,Qb,Qd];refine loop155 (ls:=CD a.op) (w0:=formW a.op) ha s263 f2 f3 hlay (ki:=_) ?_ f1 (λst h4=>?_) (CD a.op).length 0 _ _ (by omega) rfl ?_ rfl ?_ ?_
 ·decide
 ·simp only[↓go1,gB3,simprocAttr,h4]
  all_goals first|rfl|exact⟨rfl,rfl⟩
 ·simp only[↓go1,go2,reduceIte,Qi,QB,Zm,List.append_nil]
 ·simp only[AI (show([0]:Id)≠[12]by decide),AI (show([0]:Id)≠[5]by decide),AQ (Bc a)]
 ·simp only[go3,go4,simprocAttr,Af,Qr,QO,Qg,Ql,Qq,Qf,Qm,and_self,Qb,false_and,Qd]
def chkR(a:Ak):Ak->Bs->Int×Ak
 |b,[]=>(0,b)
 |b,c::r=>if BR a (c.toNat:Int)≠0 then(BR a (c.toNat:Int),b)else chkR a (DQ b (c.toNat:Int)) r
def bareA(a:Ak):Ak:={a with op:=0}
def Cb(a:Ak):Int:=if formW a.op=[]then 22 else if(chkR a (bareA a) (CD a.op)).1≠0 then(chkR a (bareA a) (CD a.op)).1 else if zeroB (chkR a (bareA a) (CD a.op)).2=false then 2 else if 400<(lineA a).length then 5 else 0
def AkOk.without{a:Ak}(h:AkOk a)(c:Int):AkOk (DQ a c):=by
 unfold DQ;obtain⟨h0,h1,h2,h3,h4,h5,h6,h7,h8,h9⟩:=h
 repeat' split
 all_goals exact⟨by first|exact h0|simp,by first|exact h1|simp,by first|exact h2|simp,by first|exact h3|simp,by first|exact h4|simp,by first|exact h5|simp,by first|exact h6|simp,by first|exact h7|simp,by first|exact h8|simp,by first|exact h9|simp⟩
def rdC_bare{m:Mem}{i:Id}(a:Ak):Ah ((m.put i 0 (akC a)).put i 0 [.int .u8 0]) i 0 11=some (akC (bareA a)):=by
 have:=rdC_aux (i:=i) (ds:=akC (bareA a)) (m:=(m.put i 0 (akC a)).put i 0 [.int .u8 0]) (p:=0) λk d hd=>by
  have hk:=(Qz.1 hd).1;rw[Bc]at hk;rw[Qq];cases k with
  |zero=>
   rw[Af,if_pos ⟨rfl,QS _,by simp⟩];exact hd
  |succ k=>
   rw[Af,if_neg (by simp),Af,if_pos ⟨rfl,Qr _,by rw[Bc];omega⟩];exact hd
 exact this
def loop68{S:Summs}{a:Ak}(ha:AkOk a)(s152:S 152=some (Ac F152))(s153:S 153=some (Ac F153)){ls:Bs}(has:∀c∈ls,c.toNat<128){r:Int×Ak}{Q:Ex->St->Prop}
  (hret:∀st,r.1≠0->st.s 2= .int .i64 r.1->Q .ret st)
  (hexit:∀st,r.1=0->(∀c∈ls,BR a (c.toNat:Int)=0)->AkOk r.2->st.s 1= .ptr [0] 0->st.s 4= .ptr [11] 0->Ah st.m [0] 0 11=some (akC a)->Ah st.m [11] 0 11=some (akC r.2)->Q (.exit 0) st):
  ∀(f p:Nat)(b:Ak) st g,ls.length=p+f->chkR a b (ls.drop p)=r->(∀c∈ls.take p,BR a (c.toNat:Int)=0)->AkOk b->st.s 1= .ptr [0] 0->st.s 4= .ptr [11] 0->st.s 18= .itp [17]->Ah st.m [0] 0 11=some (akC a)->Ah st.m [11] 0 11=some (akC b)->st.m [17] 1=some (.it ls p)->
   A8 S [] dc68l0 Q st g:=by
 have ne1:([0]:Id)≠[17]:=by decide
 have ne2:([11]:Id)≠[17]:=by decide
 have ne3:([0]:Id)≠[11]:=by decide
 have ne4:([17]:Id)≠[11]:=by decide
 intro f;induction f with
 |zero=>
  intro p b st g hf hr hz hb h1 h4 h18 hm hm2 hit;refine Ae dc68l0.eq_1 ?_;have hp:¬(p<ls.length):=by omega
  simp only[↓go1,go2,simprocAttr,h18,hp,hit,Qf];rw[List.drop_of_length_le (by omega)]at hr;rw[Qv (by omega)]at hz;simp only[chkR]at hr;subst hr;exact hexit _ rfl hz hb h1 h4 hm hm2
 |succ f ih=>
  intro p b st g hf hr hz hb h1 h4 h18 hm hm2 hit;refine Ae dc68l0.eq_1 ?_;have hp:p<ls.length:=by omega
  have hat:ls[p]?=some ls[p]:=Qj hp;have hmem:ls[p]∈ls:=QC hp;have hdec:=ascii_dec hat (has _ hmem);have h152:F152 [.agg (akC a),.int .i32 (ls[p].toNat:Int)]=some (.int .i64 (BR a (ls[p].toNat:Int))):=F152_eq ha;have h153:F153 [.agg (akC b),.int .i32 (ls[p].toNat:Int)]=some (.agg (akC (DQ b (ls[p].toNat:Int)))):=F153_eq;have htk:ls.take (p+1)=ls.take p++[ls[p]]:=by rw[QN,hat];rfl
  have hdr:ls.drop p=ls[p]::ls.drop (p+1):=Zj hp;have hb':=hb.without (ls[p].toNat:Int);rw[hdr]at hr;unfold chkR at hr;generalize ls[p]=c at hdec h152 h153 htk hr hb';obtain⟨st_s,st_m,st_c⟩:=st;simp only at h1 h4 h18 hm hm2 hit;by_cases he:BR a (c.toNat:Int)=0
  ·rw[if_neg (λh=>h he)]at hr;rw[he]at h152;simp only[↓go1,gB3,simprocAttr,h1,h4,h18,hm,hm2,hdec,AI ne1,AI ne2,Aa s152,h152,Aa s153,h153,Cv,Cw,AK,Bc,hp,hit,and_self,Qf,Qm,Qe];refine ih (p+1) _ _ _ (by omega) hr (λx hx=>?_) hb' ?_ ?_ ?_ ?_ ?_ ?_
   ·rw[htk]at hx;rcases QT.1 hx with hx|hx
    ·exact hz x hx
    ·simp only[Qx,Q1,or_false]at hx;rw[hx];exact he
   ·exact h1
   ·exact h4
   ·exact h18
   ·simp only[AI ne3,AI ne1,hm]
   ·simp only[AQ (Bc _)]
   ·simp only[reduceIte,Qn,Mem.put_other ne4,Af,QS,and_self,Qg,Ql,Nat.lt_add_one,Nat.sub_self,Qf,hdec]
  ·rw[if_pos he]at hr;simp only[↓go1,gB3,simprocAttr,h1,h18,hm,hdec,AI ne1,Aa s152,h152,he,Cv,Cw,hp,hit,Qf,Qm];exact hret _ (by rw[←hr];exact he) (by rw[←hr];rfl)
def fineE_zero{b:Bool}(h:E8 b=0):b=true:=by cases b with
 |true=>rfl
 |false=>cases h
def layOk_of{a:Ak}{c:Int}(h:BR a c=0):LayOk a c:=by
 refine⟨?_,?_,?_⟩
 ·rintro rfl;have e:BR a 110=E8 (decide (0<=a.n∧a.n<=999)):=by simp[BR]
  rw[e]at h;have:=of_decide_eq_true (fineE_zero h);omega
 ·rintro rfl;have e:BR a 99=E8 (decide (-1<=a.cas∧a.cas<=999)):=by simp[BR]
  rw[e]at h;have:=of_decide_eq_true (fineE_zero h);omega
 ·rintro rfl;have e:BR a 108=E8 (countB a.ns):=by simp[BR]
  rw[e]at h;have h2:=fineE_zero h;unfold countB at h2;rw[QM]at h2;intro x hx;have h3:(a.ns.any λx=>!decide (1<=x∧x<=999))=false:=by simpa using h2.2
  rw[List.any_eq_false]at h3;have h4:=h3 x hx;have h5:1<=x∧x<=999:=by simpa using h4
  omega
def F68:List D->Option D:=FX (λa:Ak=>[akD a]) (λa=>AkOk a) (λa=> .int .i64 (Cb a))
def F68_eq{a:Ak}(h:AkOk a):F68 [akD a]=some (.int .i64 (Cb a)):=
 BB (mk:=λa:Ak=>[akD a]) (λx y e=>by
  simp only[Qb,and_true]at e;exact Eo e) h
def ok68:(Ac F68).ok Qc 68:=by
 obtain⟨S,hS,hl⟩:=A7 (Ab ok151 (Ab ok152 (Ab ok153 (Ab ok154 (Ab ok155 Ad)))));have s151:=hl 151 _ rfl;have s152:=hl 152 _ rfl;have s153:=hl 153 _ rfl;have s154:=hl 154 _ rfl;have s155:=hl 155 _ rfl;clear hl;refine BM hS fn68 (λ_=>by simp) (λa ha=>?_);have h151:=R151_eq ha.op0 ha.op;obtain⟨f1,f2,f3⟩:=form_at a.op;have hm0:∀m:Mem,m.put [0] 0 (akC a) [0] 0=some (.int .u8 a.op):=λm=>by
  rw[Af,if_pos ⟨rfl,QS _,by rw[Bc];omega⟩];rfl
 have ne1:([0]:Id)≠[17]:=by decide
 have ne2:([11]:Id)≠[17]:=by decide
 have ne3:([0]:Id)≠[11]:=by decide
 have ne4:([0]:Id)≠[5]:=by decide
 have hm1:∀m:Mem,m.put [11] 0 (akC a) [11] 0=some (.int .u8 a.op):=λm=>by
  rw[Af,if_pos ⟨rfl,QS _,by rw[Bc];omega⟩];rfl
 have hb0:AkOk (bareA a):=⟨by simp[bareA],by simp[bareA],ha.tk,ha.pa,ha.ot,ha.ns,ha.da,ha.rl,ha.rs,ha.key⟩;have hlay:(∀c∈CD a.op,BR a (c.toNat:Int)=0)->F155 [.agg (akC a)]=some (.str (lineA a)):=λh=>F155_eq ha λc hc=>layOk_of (h c hc)
 unfold Cb dc68 akD;by_cases hw:formW a.op=[]
 ·have hw':(formW a.op==([]:Bs))=true:=by rw[hw];rfl
  simp only[↓go1,gB2,go4,simprocAttr,AK,Bc,Aa s151,h151,hm0,AQ,Af,Qr,QO,Qf,and_self,Qe,Qb,Qd,hw]
  all_goals first|rfl|exact⟨rfl,rfl⟩
 ·have hw':(formW a.op==([]:Bs))=false:=by simpa using hw
  simp only[↓go1,gB0,simprocAttr,AK,Bc,Aa s151,h151,hm0,hm1,rdC_one,AQ,Af,Qe,Qb,and_false,Qd,hw,AI ne4,AQ (Bc a)];generalize hr:chkR a (bareA a) (CD a.op)=r;refine loop68 (r:=r) ha s152 s153 f3 (λst h1 h2=>?_) (λst h1 hz hb h1' h4 hm hm2=>?_) (CD a.op).length 0 (bareA a) _ _ (by omega) hr (by simp) hb0 rfl rfl rfl ?_ ?_ ?_
  ·simp only[↓go1,gB3,reduceIte,h1,h2,ne_eq];rw[if_neg hw]
  ·have h155:=hlay hz;have h154:F154 [.agg (akC r.2),.agg [.int .u8 0,.str [],.str [],.str [],.int .i64 0,.int .i64 0,.bool false,.slice true [] [],.str [],.slice true [] [],.str []]]=some (.bool (zeroB r.2)):=F154_eq hb;cases hzb:zeroB r.2 with
   |false=>
    rw[hzb]at h154;simp only[↓go1,gB3,simprocAttr,Cv,Cw,ne_eq,Qs,Qt,Zd,Zg,ZB,h1,h4,hm2,Aa s154,h154,BK,D.un1,D.calm1,Zn];rw[if_neg hw]
   |true=>
    rw[hzb]at h154;by_cases hl:400<(lineA a).length
    ·have hl':((400:Int)<((lineA a).length:Int)):=by omega
     simp only[↓go1,gB3,simprocAttr,Cv,Cw,ne_eq,Qs,Qt,Zd,Zg,ZB,h1,h1',h4,hm,hm2,Aa s154,h154,Aa s155,h155,BK,hl,hl',D.un1,D.calm1,Zn];rw[if_neg hw]
    ·have hl':¬((400:Int)<((lineA a).length:Int)):=by omega
     simp only[↓go1,gB3,simprocAttr,Cv,Cw,ne_eq,Qs,Qt,Zd,Zg,ZB,h1,h1',h4,hm,hm2,Aa s154,h154,Aa s155,h155,BK,hl,hl',D.un1,D.calm1,Zn];rw[if_neg hw]
  ·simp only[AI ne1,AI ne3,AI ne4,AQ (Bc a)]
  ·simp only[AI ne2];exact rdC_bare a
  ·simp only[go3,go4,simprocAttr,Af,Qr,QO,Qg,Ql,Qq,Qf,Qm,and_self,Qb,false_and,and_false,Qd]
def ryN:Ry->Prop
 | .names nl l=>nl=true->l=[]
 |_=>True
def ris_bd:∀{l:List Rw} {a:Int},risB l a=true->∀x∈l,a<x.1∧x.1<=(l.getLast?.map (·.1)).getD 0
 |[],a,_,x,hx=>by cases hx
 |y::r,a,h,x,hx=>by
  simp only[risB,QM,decide_eq_true_eq]at h;cases r with
  |nil=>
   rw[QA.1 hx];exact⟨h.1,by simp⟩
  |cons z q=>
   have ih:=ris_bd h.2;have hz:=ih z (Q5 ..);rw[List.getLast?_cons_cons];rcases Qx.1 hx with rfl|hx
   ·exact⟨h.1,by omega⟩
   ·have:=ih x hx;exact⟨by omega,this.2⟩
def new_last(l:List Rw):newE l=(l.getLast?.map (·.1)).getD 0:=by
 unfold newE;cases l.getLast?<;>rfl
def badS_rows{s:Sc}{q:Int}(h:Dx s q=false)(hq:q<=6):s.rs.length<=6∧∀x∈s.rs,1<=x.1∧x.1<=30:=by
 obtain⟨b1,b2,b3,b4,b5,b6⟩:=badS_get h;have hk:B1 s q<=6:=by unfold B1;split<;>omega
 refine⟨by omega,λx hx=>?_⟩;have:=ris_bd b5 x hx;rw[←new_last,b6]at this;omega
def sum_64:∀l:List Bs,(l.any λs=>!nmB s)=false->Cp l<=64*l.length
 |[],_=>by simp[Cp]
 |x::r,h=>by
  simp only[List.any_cons,Bool.or_eq_false_iff,Bool.not_eq_false']at h;have ih:=sum_64 r h.2;have hx:x.length<=64:=by
   have:=h.1;simp only[nmB,QM,decide_eq_true_eq]at this;exact this.2.2.1
  simp only[Cp,Qg];omega
def ry_good{y:Ry}(h:ryE y=0)(hn:ryN y):ryG y:=by
 cases y with
 |fail e=>simp only[ryE]at h;split at h;(rename_i c;exact⟨by omega,by omega⟩);omega
 |done=>trivial
 |number n=>simp only[ryE]at h;split at h;(rename_i c;exact⟨by omega,by omega⟩);omega
 |found n d=>simp only[ryE]at h;split at h;(rename_i c;exact⟨by omega,by omega,by omega⟩);omega
 |about s=>
  simp only[ryE]at h;cases hb:Dx s 6 with
  |true=>rw[hb]at h;simp at h
  |false=>
   obtain⟨b1,b2,b3,_⟩:=badS_get hb;obtain⟨r1,r2⟩:=badS_rows hb (by omega);exact⟨by omega,by omega,by omega,λx hx=>by have:=r2 x hx;omega⟩
 |names nl l=>
  simp only[ryE]at h;split at h
  ·rename_i c;have:=sum_64 l c.2;exact⟨by omega,hn,by omega⟩
  ·omega
 |state b=>trivial
def listW_len(l:List Bs):(C8 l).length<=1+Cp l+l.length:=by
 unfold C8;split
 ·simp;omega
 ·have:=DV l [44];simp only[Qg,Ql]at this;omega
def ryW_sum{y:Ry}(h:ryE y=0)(hn:ryN y):(ryW y).length<=6∧Cp (ryW y)<=100000:=by
 cases y with
 |fail e=>have:=Dp e.toNat;simp only[ryW,Cp,Qg,Ql];omega
 |done=>simp[ryW,Cp]
 |number n=>have:=Dp n.toNat;simp only[ryW,Cp,Qg,Ql];omega
 |found n d=>
  have:=Dp n.toNat;simp only[ryE]at h;split at h
  ·rename_i c;have:=DX d;simp only[ryW,Cp,Qg,Ql];split<;>simp<;>omega
  ·omega
 |about s=>
  have q1:=Dp s.mx.toNat;have q2:=Dp s.la.toNat;obtain⟨g1,_⟩:=ry_good h hn;have:=listW_len (s.rs.map rowW1);have:=sum_rows s.rs;rw[Zs]at *;simp only[ryW,Cp,Qg,Ql];omega
 |names nl l=>
  simp only[ryE]at h;split at h
  ·rename_i c;have:=sum_64 l c.2;have:=listW_len l;simp only[ryW,Cp,Qg,Ql];omega
  ·omega
 |state b=>cases b<;>simp[ryW,Cp]
def S121:Summs:=AC [(92,Ac R92),(222,Ac R222),(221,Ac joinF)]
def R121:List D->Option D:=RF S121 dc121 [.t 2,.t 3] 13
def ko121:(Ac R121).ok Qc 121:=AH fn121 (Ab ko92 (Ab ko222 (Ab ko221 Ad)))
def R121_eq(y:Ry)(h:ryOk y)(hn:ryN y):R121 [.agg (ryC y)]=some (.tup [.str (ryT y),.int .i64 (ryE y)]):=by
 refine AE (Qa rfl) ?_;have s222:S121 222=some (Ac R222):=rfl;have s221:S121 221=some (Ac joinF):=rfl;unfold dc121;have h92:=R92_eq y h;have e0:∃a b c d e f g i j k,ryC y=[a,b,c,d,e,f,g,i,j,k]:=by cases y<;>exact⟨_,_,_,_,_,_,_,_,_,_,rfl⟩
 have d0:∀x∈ryC y,x.un1=x∧x.calm1=true:=by
  cases y<;>(intro x hx;simp only[ryC,Qx,Q1,or_false]at hx;rcases hx with rfl|rfl|rfl|rfl|rfl|rfl|rfl|rfl|rfl|rfl<;>exact⟨rfl,rfl⟩)
 unfold ryT;by_cases c:ryE y=0
 ·have h222:=R222_eq y (ry_good c hn);obtain⟨w1,w2⟩:=ryW_sum c hn;have h221:=joinW_eq (l:=ryW y) (s:=[32]) ⟨ryW_ne y,by omega,by omega,by simp,by have:=DV (ryW y) [32];simp only[Qg,Ql]at this;omega⟩;obtain⟨a,b,cc,d,e,f,g,i,j,k,hc⟩:=e0;have u:=λx hx=>d0 x hx
  rw[hc]at h92 h222 d0 ⊢;rw[c]at h92 ⊢;simp only[Qx,Q1,or_false,forall_eq_or_imp,forall_eq]at d0;obtain⟨⟨a1,a2⟩,⟨b1,b2⟩,⟨c1,c2⟩,⟨d1,d2⟩,⟨e1,e2⟩,⟨f1,f2⟩,⟨g1,g2⟩,⟨i1,i2⟩,⟨j1,j2⟩,k1,k2⟩:=d0;have hcalm:((Au (ryW y)).all D.calm)=true:=by simp[Au,Za];intros;rfl
  simp only[gB1,↓go1,go5,simprocAttr,Al S121 92,h92,a1,a2,b1,b2,c1,c2,d1,d2,e1,e2,f1,f2,g1,g2,i1,i2,j1,j2,k1,k2,Aa s222,h222,Aa s221,h221,spJ]
  all_goals first|rfl|exact⟨rfl,rfl⟩|simp[*]
 ·have c':=eq_false c;obtain⟨a,b,cc,d,e,f,g,i,j,k,hc⟩:=e0;rw[hc]at h92 d0 ⊢;simp only[Qx,Q1,or_false,forall_eq_or_imp,forall_eq]at d0;obtain⟨⟨a1,a2⟩,⟨b1,b2⟩,⟨c1,c2⟩,⟨d1,d2⟩,⟨e1,e2⟩,⟨f1,f2⟩,⟨g1,g2⟩,⟨i1,i2⟩,⟨j1,j2⟩,k1,k2⟩:=d0;simp only[gB1,↓go1,go5,simprocAttr,Al S121 92,h92,a1,a2,b1,b2,c1,c2,d1,d2,e1,e2,f1,f2,g1,g2,i1,i2,j1,j2,k1,k2,c']
  all_goals first|rfl|exact⟨rfl,rfl⟩|simp[*]
def S120:Summs:=AC [(121,Ac R121)]
def R120:List D->Option D:=RF S120 dc120 [.t 2] 17
def ko120:(Ac R120).ok Qc 120:=AH fn120 (Ab ko121 Ad)
def R120_eq(e:Int)(h:1<=e∧e<=99):R120 [.int .i64 e]=some (.str (ryT (.fail e))):=by
 refine AE (Qa rfl) ?_;unfold dc120;have h121:=R121_eq (.fail e) trivial trivial;have he:ryE (.fail e)=0:=if_pos h;rw[he]at h121;have c':(e=0)=False:=eq_false (by omega);unfold ryC at h121;simp only[gB1,↓go1,go5,simprocAttr,Al S120 121,h121,c']
 all_goals first|rfl|exact⟨rfl,rfl⟩|simp[*]
end Go.Vd
namespace Go.Vd
open Go.Proofs
end Go.Vd
namespace Go.Vd
open Go.Proofs Go.RowKit
end Go.Vd
namespace Go.Vd
open Go.Proofs
end Go.Vd
namespace Go.Vd
open Go.Proofs Go.RowKit
def dec_em{b:Bool}:decide (b=true)=b:=by cases b<;>rfl
end Go.Vd
namespace Go.Vd
open Go.Proofs
def dc156:DC:=(sr [cb 2 false] (sr [mm 3 0,bu 4 .leq 3 8,mm 2 4] .ret))
def fn156:Fn Qc 156 5 dc156 [.t 2]:=Am func156
def dc157:DC:=(sr [ob 4 0,cb 8 false] (sr [ff 12 4 4,lk 13 1 12,mm 14 1,c2 15 35 13 14,mm 11 15,xx 16 0 11,xx 17 1 11,al 9 [zs,zs,zn],st 3 9 16,mm 10 17] (sr [mm 18 10,mm 19 18,gm 20 3 1 true,gf 21 4 4 1 true,og 22 (.load (some 1) (.t 21)) 1 true,gm 23 1 1 true,gm 24 2 1 true,gc 25 36 [(.t 22),(.t 23),(.t 24)] 1 true,gt 26 .andNot 20 25 1 true,gu 27 .eql 26 0 1 true,pa 28 19 27,mm 8 28] .ret)))
def fn157:Fn Qc 157 29 dc157 [.t 8]:=Am func157
def dc69:DC:=(sr [ob 2 0,ob 3 1,cb 4 false] (sr [ff 6 2 3,ll 7 6,mm 5 7] (.seq (sr [ff 8 0 3,ll 9 8,c1 10 156 9] (cd 10 (.row [cs 5 [115,121,115]]) .skip)) (.seq (.drawn [lk 11 5 2,ff 12 1 3,ll 13 12,mm 14 5,ff 15 0 3,ll 16 15,c1 17 27 16,cc 18 157 [(.t 11),(.t 13),(.t 14),(.t 17)],mm 19 18,gf 20 0 3 8 true,gl 21 20 8 true,gu 22 .neq 21 18 8 true,gm 23 22 8 true,og 24 (.load (some 5) (.t 2)) 12 false,gf 25 1 3 12 false,gl 26 25 12 false,gf 27 3 3 12 false,gl 28 27 12 false,gc 29 157 [(.t 24),(.t 26),(.t 28),(.c (.int .u8 2))] 12 false,og 30 (.pick (.t 23) (.c (.bool true)) (.t 29)) 8 true,pa 31 19 30,mm 4 31] [(6,0),(6,2)]) .ret))))
def fn69:Fn Qc 69 32 dc69 [.t 4]:=Am func69
def dc70:DC:=(sr [ob 2 0,ob 3 1,cb 4 false] (.seq (sr [ff 8 0 3,ll 9 8,c1 10 156 9] (cd 10 (sr [cb 4 true] .ret) .skip)) (sr [ff 12 3 2,lk 13 1 12,ff 14 2 3,ll 15 14,c2 16 158 13 15,mm 11 16,xx 17 0 11,xx 18 1 11,al 5 [zs,zi,zb],st 3 5 17,mm 6 18] (sr [ff 19 0 3,ll 20 19,bu 21 .eql 20 17,mm 22 21,gm 23 6 3 true,gi 24 .eql 23 0 3 true,pa 25 22 24,mm 7 25] (sr [mm 26 7,mm 27 26,og 28 (.load (some 5) (.t 2)) 1 false,gf 29 2 3 1 false,gl 30 29 1 false,gc 31 159 [(.t 28),(.t 30)] 1 false,po 32 27 31,mm 33 32,gf 34 0 3 7 true,gl 35 34 7 true,gu 36 .neq 35 18 7 true,gm 37 36 7 true,og 38 (.load (some 5) (.t 2)) 11 false,gf 39 3 3 11 false,gl 40 39 11 false,gc 41 159 [(.t 38),(.t 40)] 11 false,og 42 (.pick (.t 37) (.c (.bool true)) (.t 41)) 7 true,pa 43 33 42,mm 4 43] .ret)))))
def fn70:Fn Qc 70 44 dc70 [.t 4]:=Am func70
def dc25:DC:=(sr [ob 2 0,ob 3 1,ci 4 0] (.seq (sr [lk 6 11 3,c1 7 68 6,mm 5 7] (sr [mm 8 5,bi 9 .neq 8 0] (cd 9 (sr [mm 10 5,mm 4 10] .ret) .skip))) (.seq (.block 0 (sr [ff 12 0 3,ll 13 12,bu 14 .eql 13 1,mm 11 14] (cd 11 (sr [ci 4 0] .ret) (sr [ff 16 0 3,ll 17 16,bu 18 .eql 17 2,mm 19 18,gf 20 0 2 3 true,gl 21 20 3 true,og 22 (.un .not (.t 21)) 3 true,pa 23 19 22,mm 15 23] (cd 15 (sr [ci 4 9] .ret) (sr [ff 25 0 3,ll 26 25,bu 27 .eql 26 2,mm 28 27,gf 29 10 3 3 true,gl 30 29 3 true,gf 31 2 2 3 true,gl 32 31 3 true,gt 33 .neq 30 32 3 true,pa 34 28 33,mm 24 34] (cd 24 (sr [ci 4 11] .ret) (sr [ff 36 0 3,ll 37 36,bu 38 .eql 37 2,mm 35 38] (cd 35 (sr [ci 4 0] .ret) (sr [ff 40 0 2,ll 41 40,mm 39 41] (cd 39 (sr [ci 4 12] .ret) (sr [lk 43 5 2,lk 44 11 3,c2 45 69 43 44,nt 46 45,mm 42 46] (cd 42 (sr [ci 4 13] .ret) (sr [lk 48 5 2,lk 49 11 3,c2 50 70 48 49,nt 51 50,mm 47 51] (cd 47 (sr [ci 4 14] .ret) .skip))))))))))))))) (sr [ci 4 0] .ret))))
def fn25:Fn Qc 25 52 dc25 [.t 4]:=Am func25
def dc23:DC:=(sr [al 2 [zb,zi,zs,zn,zn]] (sr [mm 3 0,cc 4 48 [],oo 5 (.build [zb,zi,zs,zn,zn] [(1,1,(.c (.int .i64 1))),(2,1,(.t 3)),(4,1,(.t 4))]),st 5 2 5] .ret))
def fn23:Fn Qc 23 6 dc23 [.cell (some 5) 2]:=Am func23
end Go.Vd
namespace Go.Vd
open Go.Proofs Go.RowKit
structure Vw where
 se:Bool
 te:Int
 key:Bs
 nlm:Bool
 ms:List Mt
 nlt:Bool
 ks:List Tk
def vwC(v:Vw):List D:=[.bool v.se,.int .i64 v.te,.str v.key,.slice v.nlm [] (Ar v.ms),.slice v.nlt [] (Aw v.ks)]
def vwD(v:Vw):D:= .agg (vwC v)
def vwD_inj{a b:Vw}(h:vwD a=vwD b):a=b:=by
 cases a;cases b;simp only[vwD,vwC,D.agg.injEq,Qb,D.int.injEq,D.str.injEq,D.bool.injEq,D.slice.injEq,true_and,and_true]at h;obtain⟨h1,h2,h3,⟨h4,h5⟩,h6,h7⟩:=h;have e5:=mtsD_inj h5;have e7:=tksD_inj h7;subst h1 h2 h3 h4 h6 e5 e7;rfl
def Df(v:Vw):(vwC v).map D.un1=vwC v:=rfl
def CT(v:Vw):(vwC v).all D.calm1=true:=rfl
def A_(v:Vw):D.cells (.agg (vwC v))=vwC v:=rfl
def BH(v:Vw):(vwC v).length=5:=rfl
structure VwOk (v:Vw):Prop where
 ml:v.ms.length<=1000
 mp:∀m∈v.ms,m.1.length<=1000
 kl:v.ks.length<=1000
 kp:∀k∈v.ks,tkOk k∧Ey k.2.2.2
def tkAt_mem{l:List Tk}{j:Nat}(h:j<l.length):A2 l j∈l:=by simp[A2,Qj h]
def VwOk.set{v:Vw}(h:VwOk v):Eb (Aw v.ks):=DS (by have:=h.kl;omega)
def EL(ks:List Tk)(n p:Bs)(c:Int):Bool:=AR ks n&&FI (BA (A2 ks (bsE ks n)).2.2.2 p).toNat c.toNat
open Classical in
def F35_eq{nl:Bool}{l:List Tk}{s:Bs}(hl:l.length<=1000000)(hk:∀k∈l,tkOk k):F35 [.agg [.slice nl [] (Aw l)],.str s]=some (.tup (if AR l s=true then [tkD (A2 l (bsE l s)),.bool true]else [.agg [.str [],.str [],.slice true [] []],.bool false])):=by
 have h:Eb (Aw l)∧∀k∈BX (Aw l),tkOk k:=⟨DS hl,by rw[Bd];exact hk⟩;show(if _ then _ else _)=_;rw[if_pos h,Bd]
open Classical in
def F36_eq{nl:Bool}{l:List Tk}{s p:Bs}(hl:l.length<=1000000)(hk:∀k∈l,k.2.2.2.length<=1000000):F36 [.agg [.slice nl [] (Aw l)],.str s,.str p]=some (.int .u8 (if AR l s=true then BA (A2 l (bsE l s)).2.2.2 p else 0)):=by
 have h:Eb (Aw l)∧∀k∈BX (Aw l),k.2.2.2.length<=1000000:=⟨DS hl,by rw[Bd];exact hk⟩;show(if _ then _ else _)=_;rw[if_pos h,Bd]
def caps_bd{l:List Rl}(h:DM l)(s:Bs):0<=BA l s∧BA l s<256:=by
 unfold BA;split
 ·omega
 ·generalize (ED s (l.map (·.1))).toNat=j;by_cases hj:j<l.length
  ·have:Bl l j=l[j]:=by simp[Bl,Qj hj]
   rw[this];exact h _ (QC hj)
  ·have:Bl l j=([],0):=by simp[Bl,ZA,Zu (Nat.le_of_not_lt hj)]
   rw[this];decide
def mkAl(p:Vw×Bs×Bs×Int):List D:=[vwD p.1,.str p.2.1,.str p.2.2.1,.int .u8 p.2.2.2]
def mkAl_inj(x y:Vw×Bs×Bs×Int)(e:mkAl x=mkAl y):x=y:=by
 simp only[mkAl,Qb,D.int.injEq,D.str.injEq,true_and,and_true]at e;exact QX (vwD_inj e.1) (QX e.2.1 (QX e.2.2.1 e.2.2.2))
def F157:List D->Option D:=FX mkAl (λp=>VwOk p.1∧0<=p.2.2.2∧p.2.2.2<256) (λp=> .bool (EL p.1.ks p.2.1 p.2.2.1 p.2.2.2))
def F157_eq{v:Vw}{n p:Bs}{c:Int}(h:VwOk v)(h1:0<=c∧c<256):F157 [vwD v,.str n,.str p,.int .u8 c]=some (.bool (EL v.ks n p c)):=BB (mk:=mkAl) (a:=(v,n,p,c)) mkAl_inj ⟨h,h1⟩
def ok157:(Ac F157).ok Qc 157:=by
 obtain⟨S,hS,hl⟩:=A7 (Ab ok35 (Ab ok36 Ad));have s35:=hl 35 _ rfl;have s36:=hl 36 _ rfl;clear hl;refine BM hS fn157 (λ_=>by simp[mkAl]) (λp hp=>?_);obtain⟨v,n,q,c⟩:=p;obtain⟨hv,hc⟩:=hp;simp only at hv hc;have hkl:=hv.kl;have h35:=F35_eq (nl:=v.nlt) (l:=v.ks) (s:=n) (by omega) (λk hk=>(hv.kp k hk).1);have h36:=F36_eq (nl:=v.nlt) (l:=v.ks) (s:=n) (p:=q) (by omega) (λk hk=>(hv.kp k hk).2.1);unfold dc157 mkAl vwD vwC EL;simp only;cases hf:AR v.ks n with
 |false=>
  rw[hf]at h35;simp only[Bool.false_eq_true,if_false]at h35;simp only[↓go1,gB0,simprocAttr,Aa s35,h35,Qy,Af,Ap,Aq,Qk,Qe,Qb,Qd]
  all_goals first|rfl|exact⟨rfl,rfl⟩
 |true=>
  rw[hf]at h35 h36;simp only[if_true]at h35 h36;have hb:bsE v.ks n<v.ks.length:=by
   unfold AR at hf;rw[QM,decide_eq_true_iff]at hf;exact hf.1
  have hcap:=(hv.kp _ (tkAt_mem hb)).2.2.2;generalize A2 v.ks (bsE v.ks n)=k at h35 h36 hcap;have hbd:=caps_bd hcap q;generalize BA k.2.2.2 q=cp at h36 hbd;have hbit:=andNot_nat (a:=cp.toNat) (c:=c.toNat) (by omega) (by omega);rw[QE hc.1,QE hbd.1]at hbit;have hz:(((Nat.land c.toNat (255-cp.toNat):Nat):Int)=0)=(FI cp.toNat c.toNat=true):=by
   unfold FI;rw[Nat.beq_eq];exact propext ⟨λh=>by omega,λh=>by omega⟩
  simp only[tkD]at h35;simp only[↓go1,gB0,simprocAttr,Aa s35,h35,Aa s36,h36,v_andNot,hbit,hz,dec_em,Af,Ap,Aq,Qk,Qe,Qb,and_false,Qd]
  all_goals first|rfl|exact⟨rfl,rfl⟩
def sysB:Bs:=[115,121,115]
def atA(a:Ak):Bs:=if a.op<=8 then sysB else a.pa
def permA(v:Vw)(a:Ak):Bool:=EL v.ks a.tk (atA a) (Dw a.op)&&(decide (a.op≠18)||EL v.ks a.tk a.ot 2)
def mkVa(p:Vw×Ak):List D:=[vwD p.1,akD p.2]
def mkVa_inj(x y:Vw×Ak)(e:mkVa x=mkVa y):x=y:=by
 simp only[mkVa,Qb,and_true]at e;exact QX (vwD_inj e.1) (Eo e.2)
def capsF_bd(op:Int):0<=Dw op∧Dw op<256:=by
 unfold Dw
 repeat' split
 all_goals omega
def F156:List D->Option D
 |[.int .u8 op]=>some (.bool (decide (op<=8)))
 |_=>none
def ok156:(Ac F156).ok Qc 156:=by
 refine Ay (S:=λ_=>none) AL fn156 (λds r h=>?_) (λds r h=>?_)
 ·unfold F156 at h;split at h
  ·simp
  ·cases h
 ·unfold F156 at h;split at h
  ·simp only[Qp]at h;subst h;unfold dc156;simp only[↓go1,gB3,simprocAttr]
   all_goals first|rfl|exact⟨rfl,rfl⟩
  ·cases h
def F69:List D->Option D:=FX mkVa (λp=>VwOk p.1) (λp=> .bool (permA p.1 p.2))
def F69_eq{v:Vw}{a:Ak}(h:VwOk v):F69 [vwD v,akD a]=some (.bool (permA v a)):=BB (mk:=mkVa) (a:=(v,a)) mkVa_inj h
def ok69:(Ac F69).ok Qc 69:=by
 obtain⟨S,hS,hl⟩:=A7 (Ab ok156 (Ab ok27 (Ab ok157 Ad)));have s156:=hl 156 _ rfl;have s27:=hl 27 _ rfl;have s157:=hl 157 _ rfl;clear hl;refine BM hS fn69 (λ_=>by simp[mkVa]) (λp hv=>?_);obtain⟨v,a⟩:=p;simp only at hv;have h156:F156 [.int .u8 a.op]=some (.bool (decide (a.op<=8))):=rfl;have h27:F27 [.int .u8 a.op]=some (.int .u8 (Dw a.op)):=rfl;have h157:∀q,F157 [.agg (vwC v),.str a.tk,.str q,.int .u8 (Dw a.op)]=some (.bool (EL v.ks a.tk q (Dw a.op))):=λq=>F157_eq hv (capsF_bd _)
 have h157':F157 [.agg (vwC v),.str a.tk,.str a.ot,.int .u8 2]=some (.bool (EL v.ks a.tk a.ot 2)):=F157_eq hv (by omega);have hv0:∀m:Mem,Ah (m.put [1] 0 (akC a)) [0] 0 5=Ah m [0] 0 5:=λm=>AI (by decide)
 have hv1:Ah (Mem.put (λ_ _=>none) [0] 0 (vwC v)) [0] 0 5=some (vwC v):=AQ (BH v);have hm:∀m:Mem,∀k d,(akC a)[k]?=some d->(m.put [1] 0 (akC a)) [1] k=some d:=λm k d hd=>by
  have hk:=(Qz.1 hd).1;rw[Af,if_pos ⟨rfl,Qr _,by omega⟩];exact hd
 have m0:=λm=>hm m 0 _ rfl
 have m1:=λm=>hm m 1 _ rfl
 have m2:=λm=>hm m 2 _ rfl
 have m3:=λm=>hm m 3 _ rfl
 unfold dc69 mkVa vwD akD permA atA;simp only;by_cases h8:a.op<=8
 ·have h18:¬a.op=18:=by omega
  rw[decide_eq_true h8]at h156;have hh:=h157 sysB;simp only[h8,if_true];generalize EL v.ks a.tk sysB (Dw a.op)=b at hh;unfold sysB at hh;cases b<;>simp only[↓go1,gB3,simprocAttr,m0,m1,m2,hv0,hv1,Df,CT,A_,AK,Qq,ne_eq,h18,Aa s156,h156,Aa s27,h27,Aa s157,hh]<;>refine Ao.intro (Aj rfl) ?_<;>simp only[↓go1,gB3,reduceIte,Qi,QG,h18]
  all_goals first|rfl|exact⟨rfl,rfl⟩
 ·rw[decide_eq_false h8]at h156;have hh:=h157 a.pa;simp only[h8,if_false];generalize EL v.ks a.tk a.pa (Dw a.op)=b at hh;generalize EL v.ks a.tk a.ot 2=b2 at h157';by_cases h18:a.op=18
  ·have h18':(a.op=18)=True:=eq_true h18;clear h18;cases b<;>cases b2<;>simp only[↓go1,gB3,simprocAttr,m0,m1,m2,m3,hv0,hv1,Df,CT,A_,AK,Qq,ne_eq,Aa s156,h156,Aa s27,h27,Aa s157,hh,h157',h18']<;>refine Ao.intro (Aj rfl) ?_<;>simp only[↓go1,gB3,reduceIte,Qi,Q_,QK,h18']
   all_goals first|rfl|exact⟨rfl,rfl⟩
  ·cases b<;>simp only[↓go1,gB3,simprocAttr,m0,m1,m2,hv0,hv1,Df,CT,A_,AK,Qq,ne_eq,h18,Aa s156,h156,Aa s27,h27,Aa s157,hh]<;>refine Ao.intro (Aj rfl) ?_<;>simp only[↓go1,gB3,reduceIte,Qi,QG,h18]
   all_goals first|rfl|exact⟨rfl,rfl⟩
abbrev Op1:=Int×Bs×Bs
def opD(x:Op1):D:= .agg [.int .u8 x.1,.str x.2.1,.str x.2.2]
def F_(l:List Op1):List D:=l.map opD
def opD_inj{x y:Op1}(h:opD x=opD y):x=y:=by
 simp only[opD,D.agg.injEq,Qb,D.int.injEq,D.str.injEq,true_and,and_true]at h;exact QX h.1 (QX h.2.1 h.2.2)
def opsD_inj{a b:List Op1}(h:F_ a=F_ b):a=b:=(List.map_inj_right (λ_ _ e=>opD_inj e)).1 h
def opsD_len(l:List Op1):(F_ l).length=l.length:=Zs ..
structure Oc where
 need:Bs
 li:Bool
 rep:Bs
 nl:Bool
 ops:List Op1
 vw:Vw
structure Wb where
 v:Vw
 a:Ak
 k:Kn
def ocC(o:Oc)(t:Id):List D:=[.str o.need,.bool o.li,.str o.rep,.slice o.nl t (F_ o.ops)]++vwC o.vw
def wkC(w:Wb)(o:Oc)(t:Id):List D:=vwC w.v++(akC w.a++(kwC w.k++ocC o t))
def Cy(w:Wb)(o:Oc)(t:Id):(wkC w o t).length=30:=rfl
def map_str_inj{α:Type}{f:α->Bs}{a b:List α}(h:a.map (λx=>D.str (f x))=b.map λx=>D.str (f x)):a.map f=b.map f:=by
 have:=congrArg (Zw λd=>match d with|D.str s=>s|_=>[]) h;simpa[Zh,Function.comp_def]using this
def map_bool_inj{α:Type}{f:α->Bool}{a b:List α}(h:a.map (λx=>D.bool (f x))=b.map λx=>D.bool (f x)):a.map f=b.map f:=by
 have:=congrArg (Zw λd=>match d with|D.bool s=>s|_=>false) h;simpa[Zh,Function.comp_def]using this
def lsD_get{a b:List (Bs×Bool×List Bs)}(h:a.map lsD=b.map lsD):a.map (·.2)=b.map (·.2):=by
 have:=congrArg (Zw λd=>match d with|D.slice nl _ xs=>(nl,xs.map λd=>match d with|D.str s=>s|_=>[])|_=>(false,[])) h;simpa[Zh,Function.comp_def,lsD,Au]using this
def zip3{α β γ:Type}:∀{a b:List (α×β×γ)},a.map (·.1)=b.map (·.1)->a.map (·.2.1)=b.map (·.2.1)->a.map (·.2.2)=b.map (·.2.2)->a=b
 |[],[],_,_,_=>rfl
 |[],_::_,h,_,_=>by simp at h
 |_::_,[],h,_,_=>by simp at h
 |x::a,y::b,h1,h2,h3=>by
  simp only[Qs,Qb]at h1 h2 h3;rw[zip3 h1.2 h2.2 h3.2,QX h1.1 (QX h2.1 h3.1)]
def kwC_inj{a b:Kn}(h:kwC a=kwC b):a=b:=by
 cases a;cases b;simp only[kwC,Qb,D.slice.injEq,true_and,and_true]at h;obtain⟨⟨_,h1⟩,⟨_,h2⟩,⟨_,h3⟩,⟨_,h4⟩,_,h5⟩:=h;have e1:=zip3 (map_str_inj h1) (map_str_inj h2) (map_bool_inj h3);have g:=lsD_get h5;have e2:=zip3 (map_str_inj h4) (by have:=congrArg (Zw Prod.fst) g;simpa[Zh,Function.comp_def]using this) (by have:=congrArg (Zw Prod.snd) g;simpa[Zh,Function.comp_def]using this);rw[e1,e2]
def wkC_inj{w w':Wb}{o o':Oc}{t t':Id}(h:wkC w o t=wkC w' o' t'):w=w'∧o=o'∧t=t':=by
 unfold wkC at h;obtain⟨h1,h⟩:=Ze h rfl;obtain⟨h2,h⟩:=Ze h rfl;obtain⟨h3,h⟩:=Ze h rfl;have e1:=vwD_inj (congrArg D.agg h1);have e2:=Eo (congrArg D.agg h2);have e3:=kwC_inj h3;unfold ocC at h;obtain⟨h4,h5⟩:=Ze h rfl;have e5:=vwD_inj (congrArg D.agg h5);simp only[Qb,D.str.injEq,D.bool.injEq,D.slice.injEq,and_true]at h4;obtain⟨g1,g2,g3,g4,g5,g6⟩:=h4;have e6:=opsD_inj g6;cases w;cases w';cases o;cases o';simp only at e1 e2 e3 e5 g1 g2 g3 g4 e6;subst e1 e2 e3 e5 g1 g2 g3 g4 e6 g5;exact⟨rfl,rfl,rfl⟩
abbrev WY:=D×Oc×Option (List Nat)
def updW(i:Id)(w:Wb)(o:Oc)(t fr:Id)(y:WY):Upd:=match y.2.2 with
 |none=>[(i,0,wkC w y.2.1 t)]
 |some l=>(i,0,wkC w y.2.1 (l++fr))::Bg 107 (l++fr) (.slice o.nl t (F_ o.ops))
def atW(m:Mem)(i:Id)(x:Wb×Oc×Id):Prop:=Ah m i 0 30=some (wkC x.1 x.2.1 x.2.2)∧BJ m 107 x.2.1.nl x.2.2 x.2.1.ops.isEmpty=true∧(x.2.1.nl=true->x.2.2=[])
open Classical in
def pickW(p:Wb×Oc×Id->Prop):Option (Wb×Oc×Id):=if h:∃x,p x then some (Classical.choose h)else none
def pickW_eq{p:Wb×Oc×Id->Prop}{x:Wb×Oc×Id}(h:p x)(hu:∀y,p y->y=x):pickW p=some x:=by
 have hx:∃x,p x:=⟨x,h⟩;unfold pickW;rw[dif_pos hx,hu _ (Classical.choose_spec hx)]
def pickW_get{p:Wb×Oc×Id->Prop}{x:Wb×Oc×Id}(h:pickW p=some x):p x:=by
 unfold pickW at h;split at h
 ·rename_i hx;simp only[Qp]at h;subst h;exact Classical.choose_spec hx
 ·cases h
def wQ(F:Wb->Oc->List D->Option WY):Summ where
 rd:=λds m=>match ds with
  | .ptr i 0::_=>Ai i 0 30++(match m i 24 with|some (.slice _ t _)=>[(t,0)]|_=>[])
  |_=>[]
 ex:=λds m fr=>match ds with
  | .ptr i 0::rest=>(pickW (atW m i)).bind λx=>(F x.1 x.2.1 rest).map λy=>(y.1,updW i x.1 x.2.1 x.2.2 fr y)
  |_=>none
def at24{m:Mem}{i:Id}{w:Wb}{o:Oc}{t:Id}(h:Ah m i 0 30=some (wkC w o t)):m i 24=some (.slice o.nl t (F_ o.ops)):=Bq h rfl
def wQ_loc{F:Wb->Oc->List D->Option WY}(ds:List D)(m m':Mem)(fr:Id)(h:∀l∈(wQ F).rd ds m,m l.1 l.2=m' l.1 l.2):(wQ F).ex ds m fr=(wQ F).ex ds m' fr:=by
 simp only[wQ]at h ⊢;split
 ·rename_i i rest;have hr:Ah m i 0 30=Ah m' i 0 30:=Bu (λl hl=>h l (Zx _ hl));have hp:atW m i=atW m' i:=by
   funext x;obtain⟨w,o,t⟩:=x;apply propext;unfold atW;rw[hr];have key:Ah m' i 0 30=some (wkC w o t)->BJ m 107 o.nl t o.ops.isEmpty=BJ m' 107 o.nl t o.ops.isEmpty:=λhc=>by
    refine DY (h (t,0) (Zv _ ?_));have:=at24 (hr.trans hc);rw[this];simp
   constructor
   ·rintro⟨a,b,c⟩;exact⟨a,by rw[←key a];exact b,c⟩
   ·rintro⟨a,b,c⟩;exact⟨a,by rw[key a];exact b,c⟩
  rw[hp]
 ·rfl
def atW_uniq{m:Mem}{i:Id}{x y:Wb×Oc×Id}(hx:atW m i x)(hy:atW m i y):y=x:=by
 have:=hy.1.symm.trans hx.1;simp only[Qp]at this;obtain⟨a,b,c⟩:=wkC_inj this;exact QX a (QX b c)
structure Wt (i fr:Id) (m0:Mem) (nl0:Bool) (t0:Id) (m:Mem) (w:Wb) (o:Oc) (t:Id):Prop where
 at_:atW m i (w,o,t)
 loc:∀q,t≠q::fr
 sub0:nl0=false->¬fr<:+t0
 ch:(t=t0∧o.nl=nl0∧∀j x d,(j≠i∨30<=x)->m0 j x=some d->m j x=some d)∨
  ((∃l k,t=l++k::fr)∧o.nl=false∧(nl0=false->m t0 0=some (.tok 0))∧∀j x d,(j≠i∨30<=x)->(nl0=true∨j≠t0∨x≠0)->m0 j x=some d->m j x=some d)
def WE(i fr:Id)(m0:Mem)(nl0:Bool)(t0:Id)(w:Wb)(y:WY)(d:D)(m':Mem):Prop:=d=y.1∧match y.2.2 with
 |none=>Ah m' i 0 30=some (wkC w y.2.1 t0)∧∀j x d,(j≠i∨30<=x)->m0 j x=some d->m' j x=some d
 |some l=>Ah m' i 0 30=some (wkC w y.2.1 (l++fr))∧m' (l++fr) 0=some (.tok 108)∧(nl0=false->m' t0 0=some (.tok 0))∧∀j x d,(j≠i∨30<=x)->(nl0=true∨j≠t0∨x≠0)->m0 j x=some d->m' j x=some d
section
variable{i fr t0 t:Id}{m0 m m':Mem}{nl0:Bool}{w:Wb}{o o':Oc}
def wt_bool(h:Ah m i 0 30=some (wkC w o t)):m i 0=some (.bool w.v.se):=Bq h rfl
def tok_ne(h:atW m i (w,o,t))(hn:o.nl=false):i≠t:=by
 rintro rfl;have h1:=wt_bool h.1;have h2:=Er h.2.1 hn;rw[h1]at h2;cases h2
def zero_ne(h:Ah m i 0 30=some (wkC w o t))(h2:m t0 0=some (.tok 0)):t0≠i:=by
 rintro rfl;rw[wt_bool h]at h2;cases h2
def Wt.put(h:Wt i fr m0 nl0 t0 m w o t)(hfr:∀j x,fr<:+j->m0 j x=none)(hni:∀k,(i=k::fr)=False){q p:Nat}{ys:List D}:Wt i fr m0 nl0 t0 (m.put (q::fr) p ys) w o t:=by
 obtain⟨⟨a1,a2,a3⟩,hl,hs,hc⟩:=h;have hi:i≠q::fr:=λe=>(hni q).mp e
 have hout:∀j x d,m0 j x=some d->j≠q::fr:=λj x d hm e=>by
  rw[e,hfr (q::fr) _ ⟨[q],rfl⟩]at hm;cases hm
 refine⟨⟨by rw[rdC_oth hi];exact a1,?_,a3⟩,hl,hs,?_⟩
 ·rw[←a2];exact DY (by rw[Mem.put_other (hl q)])
 ·rcases hc with ⟨c1,c0,c2⟩|⟨c1,c2,c3,c4⟩
  ·refine .inl ⟨c1,c0,λj x d hj hm=>?_⟩;rw[Mem.put_other (hout j x d hm)];exact c2 j x d hj hm
  ·refine .inr ⟨c1,c2,λh0=>?_,λj x d hj hj2 hm=>?_⟩
   ·rw[Mem.put_other (λe=>hs h0 (by rw[e];exact⟨[q],rfl⟩))];exact c3 h0
   ·rw[Mem.put_other (hout j x d hm)];exact c4 j x d hj hj2 hm
def Wt.cell(h:Wt i fr m0 nl0 t0 m w o t)(hcell:Ah m' i 0 30=some (wkC w o' t))(h1:o'.nl=o.nl)(h2:o'.ops=o.ops)(hm':∀j x,(j≠i∨30<=x)->m' j x=m j x):Wt i fr m0 nl0 t0 m' w o' t:=by
 obtain⟨a,hl,hs,hc⟩:=h;refine⟨⟨hcell,?_,by show o'.nl=true->t=[];rw[h1];exact a.2.2⟩,hl,hs,?_⟩
 ·show BJ m' 107 o'.nl t o'.ops.isEmpty=true;rw[h1,h2];have ht:=a.2.1;cases hn:o.nl with
  |true=>simp only[hn,BJ,if_true]at ht ⊢;exact ht
  |false=>
   have hne:=tok_ne a hn;simp only[hn]at ht;rw[←ht];exact DY (hm' t 0 (.inl (λe=>hne e.symm)))
 ·rcases hc with ⟨c1,c0,c2⟩|⟨c1,c2,c3,c4⟩
  ·exact .inl ⟨c1,by rw[h1];exact c0,λj x d hj hm=>by rw[hm' j x hj];exact c2 j x d hj hm⟩
  ·exact .inr ⟨c1,by rw[h1];exact c2,λh0=>by rw[hm' t0 0 (.inl (zero_ne a.1 (c3 h0)))];exact c3 h0,λj x d hj hj2 hm=>by rw[hm' j x hj];exact c4 j x d hj hj2 hm⟩
def put_i{cs:List D}(hl:cs.length=30):∀j x,(j≠i∨30<=x)->(m.put i 0 cs) j x=m j x:=λj x h=>by
 rcases h with h|h
 ·rw[Mem.put_other h]
 ·by_cases hj:j=i
  ·subst hj;rw[Mem.put_out (by omega)]
  ·rw[Mem.put_other hj]
def FP{nl:Bool}{xs:List D}{e:Nat}{f:Id}{j:Id}{x:Nat}:Upd.app m (Bg e f (.slice nl t xs)) j x=if j=f∧x=0 then some (.tok (e+1))else if nl=false∧j=t∧x=0 then some (.tok 0)else m j x:=CQ
def nameW(t fr:Id):Option (List Nat)->Id
 |none=>t
 |some l=>l++fr
def Wt.call(h:Wt i fr m0 nl0 t0 m w o t)(hfr:∀j x,fr<:+j->m0 j x=none)(hni:∀k l,(i=l++k::fr)=False){k:Nat}{d:D}{ol:Option (List Nat)}
  (hs1:ol=none->o'.nl=o.nl∧o'.ops=o.ops) (hs2:∀l,ol=some l->o'.nl=false∧l≠[]):
  Wt i fr m0 nl0 t0 (Upd.app m (updW i w o t (k::fr) (d,o',ol))) w o' (nameW t (k::fr) ol)∧∀q x,Upd.app m (updW i w o t (k::fr) (d,o',ol)) (q::fr) x=m (q::fr) x:=by
 cases ol with
 |none=>
  obtain⟨h1,h2⟩:=hs1 rfl;refine⟨h.cell (rdC_same' (Cy _ _ _)) h1 h2 (put_i (Cy _ _ _)),λq x=>?_⟩;have e0:q::fr≠i:=λe=>(hni q []).mp e.symm
  show(m.put i 0 _) (q::fr) x=_;rw[Mem.put_other e0]
 |some l=>
  obtain⟨hn,hl0⟩:=hs2 l rfl;obtain⟨a,hl,hs,hc⟩:=h;have hit:i≠l++k::fr:=λe=>(hni k l).mp e
  have key:∀j x,Upd.app m (updW i w o t (k::fr) (d,o',some l)) j x=if j=l++k::fr∧x=0 then some (.tok 108)else if o.nl=false∧j=t∧x=0 then some (.tok 0)else(m.put i 0 (wkC w o' (l++k::fr))) j x:=λj x=>FP (m:=m.put i 0 (wkC w o' (l++k::fr)))
  have ne1:∀q,q::fr≠l++k::fr:=λq e=>by
   have:=congrArg List.length e;simp only[QL,Qg]at this;exact hl0 (Zo.1 (by omega))
  have suf:fr<:+l++k::fr:=⟨l++[k],by simp⟩;refine⟨⟨⟨?_,?_,λh=>absurd h (by rw[hn];simp)⟩,λq e=>ne1 q e.symm,hs,.inr ⟨⟨l,k,rfl⟩,hn,λh0=>?_,λj x dd hj hj2 hm=>?_⟩⟩,λq x=>?_⟩
  ·show Ah _ i 0 30=some (wkC w o' (l++k::fr));rw[←rdC_same' (m:=m) (i:=i) (Cy w o' (l++k::fr))];refine Bu (λq hq=>?_);have hq1:q.1=i:=by
    simp only[Ai,Q0]at hq;obtain⟨_,_,rfl⟩:=hq;rfl
   rw[key,hq1,if_neg (λe=>hit e.1),if_neg (λe=>tok_ne a e.1 e.2.1)]
  ·show BJ _ 107 o'.nl (l++k::fr) _=true;rw[hn];unfold BJ;rw[if_neg Bool.false_ne_true];simp only[key,and_self,if_true];cases l<;>simp
  ·have hne:t0≠l++k::fr:=λe=>hs h0 (e▸suf)
   rw[key,if_neg (λe=>hne e.1)];rcases hc with ⟨c1,c0,c2⟩|⟨c1,c2,c3,c4⟩
   ·rw[if_pos ⟨c0.trans h0,c1.symm,rfl⟩]
   ·split
    ·rfl
    ·rw[Mem.put_other (zero_ne a.1 (c3 h0))];exact c3 h0
  ·have hne:j≠l++k::fr:=λe=>by rw[e,hfr _ _ suf]at hm;cases hm
   rw[key,if_neg (λe=>hne e.1)];have hold:m j x=some dd:=by
    rcases hc with ⟨c1,c0,c2⟩|⟨c1,c2,c3,c4⟩
    ·exact c2 j x dd hj hm
    ·exact c4 j x dd hj hj2 hm
   rw[if_neg]
   ·rw[put_i (Cy _ _ _) j x hj];exact hold
   ·rintro⟨e1,e2,e3⟩;rcases hc with ⟨c1,c0,c2⟩|⟨⟨l',k',c1⟩,c2,c3,c4⟩
    ·rcases hj2 with h|h|h
     ·rw[←c0,e1]at h;cases h
     ·exact h (e2.trans c1)
     ·exact h e3
    ·rw[e2,c1,hfr _ _ ⟨l'++[k'],by simp⟩]at hm;cases hm
  ·have e0:q::fr≠i:=λe=>(hni q []).mp e.symm
   rw[key,if_neg (λe=>ne1 q e.1),if_neg (λe=>hl q e.2.1.symm),Mem.put_other e0]
def Wt.start(h:atW m i (w,o,t))(hfr:∀j x,fr<:+j->m j x=none):Wt i fr m o.nl t m w o t:=by
 have hs:o.nl=false->¬fr<:+t:=λhn hs=>by
  have:=Er h.2.1 hn;rw[hfr _ _ hs]at this;cases this
 refine⟨h,λq e=>?_,hs,.inl ⟨rfl,rfl,λ_ _ _ _ h=>h⟩⟩;cases hn:o.nl with
 |true=>have:=h.2.2 hn;simp only at this;rw[this]at e;cases e
 |false=>exact hs hn (by rw[e];exact⟨[q],rfl⟩)
def Wt.end0(h:Wt i fr m0 nl0 t0 m w o t0)(hn0:nl0=true->t0=[]){d:D}:WE i fr m0 nl0 t0 w (d,o,none) d m:=by
 refine⟨rfl,h.at_.1,?_⟩;rcases h.ch with ⟨c1,c0,c2⟩|⟨⟨l,k,c1⟩,c2,c3,c4⟩
 ·exact c2
 ·exfalso;cases hn:nl0 with
  |true=>rw[hn0 hn]at c1;simp at c1
  |false=>exact h.sub0 hn (c1▸⟨l++[k],by simp⟩)
def Wt.endl{l:List Nat}(h:Wt i fr m0 nl0 t0 m w o (l++fr))(hl:l≠[]){d:D}:WE i fr m0 nl0 t0 w (d,o,some l) d m:=by
 refine⟨rfl,h.at_.1,?_⟩;rcases h.ch with ⟨c1,c0,c2⟩|⟨⟨l',k,c1⟩,c2,c3,c4⟩
 ·exfalso;cases hn:nl0 with
  |true=>
   have:=h.at_.2.2 (c0.trans hn);simp only[Q7]at this;exact hl this.1
  |false=>exact h.sub0 hn (c1▸⟨l,rfl⟩)
 ·exact⟨Er h.at_.2.1 c2,c3,c4⟩
end
def runsW(S:Summs)(dc:DC)(rs:List RV)(N:Nat)(w:Wb)(o:Oc)(rest:List D)(y:WY):Prop:=rest.length+1<=N∧(y.2.2=none->y.2.1.nl=o.nl∧y.2.1.ops=o.ops)∧(∀l,y.2.2=some l->y.2.1.nl=false∧l≠[])∧
 ∀(i:Id)(m:Mem)(fr t:Id),atW m i (w,o,t)->(∀j x,fr<:+j->m j x=none)->(∀k l,(i=l++k::fr)=False)->(∀k,(i=k::fr)=False)->
  dc.wp S fr (DO rs (WE i fr m o.nl t w y)) ⟨Bx (.ptr i 0::rest),m,0⟩
open Classical in
def RW(S:Summs)(dc:DC)(rs:List RV)(N:Nat):Wb->Oc->List D->Option WY:=λw o rest=>if h:∃y,runsW S dc rs N w o rest y then some (Classical.choose h)else none
def Eu{S:Summs}{dc:DC}{rs:List RV}{N:Nat}{w:Wb}{o:Oc}{rest:List D}{y:WY}(h:RW S dc rs N w o rest=some y):runsW S dc rs N w o rest y:=by
 unfold RW at h;split at h
 ·rename_i hx;simp only[Qp]at h;subst h;exact Classical.choose_spec hx
 ·cases h
def one_w(w:Wb)(o:Oc)(ho:o.nl=true->o.ops=[]):∃(m:Mem)(t:Id),atW m [0] (w,o,t)∧(∀j x,[1]<:+j->m j x=none)∧¬[1]<:+t:=by
 have n1:¬[1]<:+[0]:=by decide
 have n2:¬[1]<:+[2]:=by decide
 cases hn:o.nl with
 |true=>
  refine⟨Mem.put (λ_ _=>none) [0] 0 (wkC w o []),[],⟨rdC_same' (Cy _ _ _),?_,λ_=>rfl⟩,λj x hj=>?_,by decide⟩
  ·show BJ _ 107 o.nl [] o.ops.isEmpty=true;rw[hn,ho hn];rfl
  ·rw[Mem.put_other (λe=>n1 (by rw[←e];exact hj))]
 |false=>
  refine⟨(Mem.put (λ_ _=>none) [0] 0 (wkC w o [2])).put [2] 0 [.tok 108],[2],⟨?_,?_,λh=>?_⟩,λj x hj=>?_,n2⟩
  ·rw[rdC_oth (by decide)];exact rdC_same' (Cy _ _ _)
  ·show BJ _ 107 o.nl [2] o.ops.isEmpty=true;rw[hn];unfold BJ;rw[if_neg Bool.false_ne_true];simp[Mem.put]
  ·simp only at h;rw[hn]at h;cases h
  ·rw[Mem.put_other (λe=>n2 (by rw[←e];exact hj)),Mem.put_other (λe=>n1 (by rw[←e];exact hj))]
def Ba{S:Summs}{dc:DC}{rs:List RV}{N:Nat}{w:Wb}{o:Oc}{rest:List D}{y:WY}(ho:o.nl=true->o.ops=[])(hy:runsW S dc rs N w o rest y):RW S dc rs N w o rest=some y:=by
 have hx:∃y,runsW S dc rs N w o rest y:=⟨y,hy⟩;unfold RW;rw[dif_pos hx];obtain⟨m,t,h1,h2,h3⟩:=one_w w o ho;have e1:∀k l,(([0]:Id)=l++k::[1])=False:=λk l=>eq_false (λe=>by
  have:=congrArg List.getLast? e;simp at this)
 have e2:∀k,(([0]:Id)=k::[1])=False:=λk=>eq_false (λe=>by simp at e)
 obtain⟨d,m',a,b⟩:=ends_det ((Classical.choose_spec hx).2.2.2 [0] m [1] t h1 h2 e1 e2) (hy.2.2.2 [0] m [1] t h1 h2 e1 e2);generalize Classical.choose hx=z at *;obtain⟨z1,z2,z3⟩:=z;obtain⟨y1,y2,y3⟩:=y;obtain⟨rfl,a⟩:=a;obtain⟨hd,b⟩:=b;simp only at hd;subst hd;cases z3 with
 |none=>
  cases y3 with
  |none=>
   have:=a.1.symm.trans b.1;simp only[Qp]at this;rw[(wkC_inj this).2.1]
  |some l=>
   have:=a.1.symm.trans b.1;simp only[Qp]at this;exact absurd ⟨l,(wkC_inj this).2.2.symm⟩ h3
 |some l=>
  cases y3 with
  |none=>
   have:=a.1.symm.trans b.1;simp only[Qp]at this;exact absurd ⟨l,(wkC_inj this).2.2⟩ h3
  |some l2=>
   have:=a.1.symm.trans b.1;simp only[Qp]at this;obtain⟨_,e3,e4⟩:=wkC_inj this;rw[e3,List.append_cancel_right e4]
def C_{S:Summs}{f:FuncId}{N:Nat}{dc:DC}{rs:List RV}(hf:Fn Qc f N dc rs)(hS:Summs.ok Qc S):(wQ (RW S dc rs N)).ok Qc f:=by
 refine opn_ok2 hS hf wQ_loc (λds m fr r u hex hfr=>?_);simp only[wQ]at hex;split at hex
 ·rename_i i rest;rw[Q6]at hex;obtain⟨⟨w,o,t⟩,hp,hex⟩:=hex;rw[Option.map_eq_some_iff]at hex;obtain⟨y,hF,hex⟩:=hex;simp only[Zl]at hex;obtain⟨rfl,rfl⟩:=hex;have hat:=pickW_get hp;obtain⟨hN,hs1,hs2,hrun⟩:=Eu hF;have hm0:m i 0=some (.bool w.v.se):=wt_bool hat.1;have hni:∀k l,(i=l++k::fr)=False:=λk l=>eq_false (λe=>by
   rw[e,hfr _ _ ⟨l++[k],by simp⟩]at hm0;cases hm0)
  refine⟨hN,wp_mono' (hrun i m fr t hat hfr hni (λk=>hni k [])) (λe st' he=>?_)⟩;obtain⟨he1,d,he2,rfl,hE⟩:=he;refine⟨he1,_,he2,rfl,λj x dd hx=>?_⟩;obtain⟨y1,y2,y3⟩:=y;cases y3 with
  |none=>
   obtain⟨g1,g2⟩:=hE;have hx':(m.put i 0 (wkC w y2 t)) j x=some dd:=hx;by_cases hj:j≠i∨30<=x
   ·rw[put_i (Cy _ _ _) j x hj]at hx';exact g2 j x dd hj hx'
   ·have hji:j=i:=Classical.byContradiction (λh=>hj (.inl h));have hx30:x<30:=Zp (λh=>hj (.inr h));subst hji;have hput:=Mem.put_same (m:=m) (i:=j) (o:=0) (j:=x) (ds:=wkC w y2 t) (by rw[Cy];exact hx30);rw[Qq]at hput;rw[hput]at hx';exact Bq g1 hx'
  |some l=>
   obtain⟨g1,g2,g3,g4⟩:=hE;obtain⟨hn,hl0⟩:=hs2 l rfl;have hx':Upd.app (m.put i 0 (wkC w y2 (l++fr))) (Bg 107 (l++fr) (.slice o.nl t (F_ o.ops))) j x=some dd:=hx;rw[FP]at hx';split at hx'
   ·rename_i e;rw[e.1,e.2];rw[g2];exact hx'
   ·split at hx'
    ·rename_i e;rw[e.2.1,e.2.2,g3 e.1];exact hx'
    ·rename_i e1 e2;by_cases hj:j≠i∨30<=x
     ·rw[put_i (Cy _ _ _) j x hj]at hx';refine g4 j x dd hj ?_ hx';cases ho:o.nl with
      |true=>exact .inl rfl
      |false=>
       by_cases h1:j=t
       ·by_cases h2:x=0
        ·exact absurd ⟨ho,h1,h2⟩ e2
        ·exact .inr (.inr h2)
       ·exact .inr (.inl h1)
     ·have hji:j=i:=Classical.byContradiction (λh=>hj (.inl h));have hx30:x<30:=Zp (λh=>hj (.inr h));subst hji;have hput:=Mem.put_same (m:=m) (i:=j) (o:=0) (j:=x) (ds:=wkC w y2 (l++fr)) (by rw[Cy];exact hx30);rw[Qq]at hput;rw[hput]at hx';exact Bq g1 hx'
 ·cases hex
def got_w{F:Wb->Oc->List D->Option WY}{w:Wb}{o:Oc}{t i fr:Id}{m:Mem}{rest:List D}{y:WY}{K:D×Upd->Prop}{g}(ha:atW m i (w,o,t))(hF:F w o rest=some y)(h:K (y.1,updW i w o t fr y)):Got ((wQ F).ex (.ptr i 0::rest) m fr) K g:=by
 refine Got.intro ?_ h;simp only[wQ,pickW_eq ha (λz hz=>atW_uniq ha hz),Qk,hF,Zr]
end Go.Vd
namespace Go.Vd
open Go.Proofs
def dc140:DC:=(sr [al 4 [zi,zb]] (sr [mm 8 0,nk 9 8,ff 10 0 9,ff 11 3 10,lk 12 1 11,mm 13 1,c2 14 248 12 13,mm 7 14,xx 15 0 7,xx 16 1 7,al 5 [zs,zi,zb],st 3 5 15,mm 6 16] (sr [ff 17 1 5,lk 18 2 17,st 2 4 18] .ret)))
def fn140:Fn Qc 140 19 dc140 [.cell (some 2) 4]:=Am func140
def dc244:DC:=(sr [ob 5 2] (sr [lk 9 4 5,c1 10 340 9,mm 8 10,xx 11 0 8,xx 12 1 8,mm 6 11,mm 7 12] (.row [mm 13 0,mm 14 1,cc 15 123 [(.c (.int .u8 1)),(.t 14),(.c (.int .i64 0))],mm 16 6,cc 17 122 [(.t 13),(.c (.int .u8 1)),(.t 15),(.t 16)]])))
def fn244:Fn Qc 244 18 dc244 []:=Am func244
def dc245l0:DC:=(sr [bt 11 .lss 10 9] (.seq (cd 11 .skip (.exit 0)) (.seq (.block 1 (sr [ii 12 1 8 10,ll 13 12,mm 7 13] (.row [mm 14 0,mm 15 1,mm 16 7,cc 17 123 [(.c (.int .u8 2)),(.t 15),(.t 16)],cc 18 122 [(.t 14),(.c (.int .u8 2)),(.t 17),(.c (.str []))]]))) (.row [bi 19 .add 10 1,mm 10 19]))))
def dc245:DC:=(sr [mm 8 2,nn 9 false 8,ci 10 0] (.block 0 (.loop dc245l0)))
def fn245:Fn Qc 245 20 dc245 []:=Am func245
def dc138:DC:=(sr [ob 7 2] (.seq (.drawn [lk 15 4 7,mm 16 0,mm 17 1,c2 18 140 16 17,mm 19 3,mm 20 4,nn 21 true 20,cc 22 243 [(.t 15),(.t 18),(.t 19),(.t 21)],mm 14 22,xx 23 0 14,xx 24 1 14,xx 25 2 14,xx 26 3 14,al 10 [zi,zb,zi,zn],st 4 10 23,mm 11 24,mm 12 25,mm 13 26] [(3,0),(3,13),(7,13),(13,0),(13,3),(13,7)]) (.seq (sr [mm 27 13,bi 28 .neq 27 0] (cd 28 (sr [mm 29 0,mm 30 13,c2 31 54 29 30] .ret) .skip)) (sr [mm 32 0,mm 33 1,lk 34 4 10,c3 35 244 32 33 34] (sr [mm 36 0,mm 37 1,mm 38 11,cc 39 123 [(.c (.int .u8 2)),(.t 37),(.t 38)],mm 40 4,cc 41 122 [(.t 36),(.c (.int .u8 1)),(.t 39),(.t 40)]] (sr [mm 42 0,mm 43 1,mm 44 12,c3 45 245 42 43 44] (.row [mm 46 0,mm 47 11,oo 48 (.build [zu,zi,zi,zs,zn,zi,zb,zi,zn,zb] [(0,1,(.c (.int .u8 2))),(2,1,(.t 47))]),c2 49 55 46 48])))))))
def fn138:Fn Qc 138 50 dc138 []:=Am func138
def dc141:DC:=(sr [ob 5 1] (.seq (sr [mm 8 3,bi 9 .neq 8 0] (cd 9 (sr [mm 10 0,mm 11 3,c2 12 54 10 11] .ret) .skip)) (.seq (.drawn [mm 13 0,mm 14 0,nk 15 14,ff 16 5 15,ff 17 2 16,ll 18 17,lk 19 4 5,c3 20 244 13 18 19] []) (sr [mm 21 0,mm 22 0,nk 23 22,ff 24 5 23,ff 25 2 24,ll 26 25,mm 27 2,c3 28 245 21 26 27] (.row [mm 29 0,c1 30 56 29])))))
def fn141:Fn Qc 141 31 dc141 []:=Am func141
def dc142l0:DC:=(sr [bt 18 .lss 17 16] (.seq (cd 18 .skip (.exit 0)) (.seq (.block 1 (sr [ii 19 3 15 17,lk 20 3 19,al 5 [zi,zb,zb],st 3 5 20] (sr [ff 21 2 5,ll 22 21,nt 23 22] (cd 23 (.drawn [mm 24 0,mm 25 0,nk 26 25,ff 27 5 26,ff 28 2 27,ll 29 28,ff 30 0 5,ll 31 30,bl 32 3 1 31,c3 33 245 24 29 32] [(8,5)]) .skip)))) (.row [bi 34 .add 17 1,mm 17 34]))))
def dc142:DC:=(sr [ob 3 1] (sr [mm 6 0,mm 7 0,nk 8 7,ff 9 5 8,ff 10 2 9,ll 11 10,cc 12 123 [(.c (.int .u8 1)),(.t 11),(.c (.int .i64 0))],cc 13 122 [(.t 6),(.c (.int .u8 2)),(.t 12),(.c (.str []))]] (.seq (sr [ff 14 3 3,ll 15 14,nn 16 false 15,ci 17 0] (.block 0 (.loop dc142l0))) (.row [mm 35 0,c1 36 56 35]))))
def fn142:Fn Qc 142 37 dc142 []:=Am func142
def dc54:DC:=(.drawn [mm 4 0,mm 5 1,c1 6 120 5,mm 7 0,nk 8 7,ff 9 0 8,lk 10 5 9,oo 11 (.build [zs,zb,zs,zn,zb,zi,zs,zn,zn] [(2,1,(.t 6)),(4,5,(.t 10))]),nk 12 4,ff 13 21 12,st 9 13 11] [(2,6)])
def fn54:Fn Qc 54 14 dc54 []:=Am func54
def dc55:DC:=(sr [ob 3 1] (.row [mm 5 0,lk 6 10 3,c1 7 121 6,mm 4 7,xx 8 0 4,xx 9 1 4,nk 10 5,ff 11 21 10,ff 12 2 11,st 1 12 8]))
def fn55:Fn Qc 55 13 dc55 []:=Am func55
def dc56:DC:=(.row [mm 2 0,oo 3 (.build [zu,zi,zi,zs,zn,zi,zb,zi,zn,zb] [(0,1,(.c (.int .u8 1)))]),c2 4 55 2 3])
def fn56:Fn Qc 56 5 dc56 []:=Am func56
def dc133:DC:=(.row [mm 6 0,mm 7 1,mm 8 2,mm 9 0,nk 10 9,ff 11 0 10,lk 12 5 11,oo 13 (.build [zs,zb,zs,zn,zb,zi,zs,zn,zn] [(0,1,(.t 7)),(1,1,(.t 8)),(4,5,(.t 12))]),nk 14 6,ff 15 21 14,st 9 15 13])
def fn133:Fn Qc 133 16 dc133 []:=Am func133
def dc135:DC:=(sr [al 4 [zi,zb,zi,zn],cb 5 false,cb 6 false] (sr [mm 11 1,cc 12 123 [(.c (.int .u8 1)),(.t 11),(.c (.int .i64 0))],mm 7 12] (sr [mm 14 0,nk 15 14,ff 16 16 15,lk 17 5 16,mm 18 7,c2 19 137 17 18,mm 13 19,xx 20 0 13,xx 21 1 13,xx 22 2 13,mm 8 20,mm 9 21,mm 6 22] (.seq (sr [mm 23 6,nt 24 23] (cd 24 (sr [mm 25 0,mm 26 7,cc 27 133 [(.t 25),(.t 26),(.c (.bool false))]] (sr [oo 28 (.build [zi,zb,zi,zn] []),st 4 4 28,cb 5 false,cb 6 false] .ret)) .skip)) (sr [mm 30 8,c1 31 240 30,mm 29 31,xx 32 0 29,xx 33 1 29,st 4 4 32,mm 10 33] (.seq (sr [mm 34 9,nt 35 34,mm 36 35,gm 37 10 2 false,gi 38 .neq 37 0 2 false,po 39 36 38] (cd 39 (sr [oo 40 (.build [zi,zb,zi,zn] []),st 4 4 40,cb 5 false,cb 6 true] .ret) .skip)) (sr [lk 41 4 4,st 4 4 41,cb 5 true,cb 6 true] .ret)))))))
def fn135:Fn Qc 135 42 dc135 [.cell (some 4) 4,.t 5,.t 6]:=Am func135
def dc58:DC:=(.seq (.drawn [mm 5 0,nk 6 5,ff 7 0 6,ff 8 3 7,lk 9 1 8,mm 10 0,nk 11 10,ff 12 5 11,ff 13 2 12,ll 14 13,mm 15 0,nk 16 15,ff 17 5 16,ff 18 4 17,ll 19 18,mm 20 0,nk 21 20,ff 22 5 21,ff 23 6 22,ll 24 23,oo 25 (.build [zi,zb] [(0,1,(.t 19)),(1,1,(.t 24))]),oo 26 (.build [zs,zi,zb] [(0,1,(.t 14)),(1,2,(.t 25))]),c2 27 45 9 26,mm 4 27,xx 28 0 4,xx 29 1 4,al 2 [zn],st 1 2 28,mm 3 29] [(22,26),(26,4),(26,9),(26,14),(26,19),(26,22)]) (.seq (sr [mm 30 3,bi 31 .neq 30 0] (cd 31 (sr [mm 32 0,mm 33 3,c2 34 54 32 33] .ret) .skip)) (sr [mm 35 0,lk 36 1 2,nk 37 35,ff 38 21 37,ff 39 4 38,ff 40 3 39,st 1 40 36] (.seq (.drawn [mm 41 0,cc 42 123 [(.c (.int .u8 4)),(.c (.str [])),(.c (.int .i64 0))],lk 43 1 2,c1 44 126 43,cc 45 122 [(.t 41),(.c (.int .u8 1)),(.t 42),(.t 44)]] [(1,2)]) (.row [mm 46 0,c1 47 56 46])))))
def fn58:Fn Qc 58 48 dc58 []:=Am func58
def dc63:DC:=(sr [mm 15 0,mm 16 0,nk 17 16,ff 18 5 17,ff 19 2 18,ll 20 19,c2 21 135 15 20,mm 14 21,xx 22 0 14,xx 23 1 14,xx 24 2 14,al 2 [zi,zb,zi,zn],st 4 2 22,mm 3 23,mm 4 24] (.seq (sr [mm 25 4,nt 26 25] (cd 26 .ret .skip)) (.seq (sr [mm 27 3,nt 28 27] (cd 28 (sr [mm 29 0,cc 30 54 [(.t 29),(.c (.int .i64 6))]] .ret) .skip)) (sr [mm 31 0,nk 32 31,ff 33 5 32,ff 34 4 33,ll 35 34,mm 5 35] (.seq (sr [mm 36 0,nk 37 36,ff 38 5 37,ff 39 0 38,ll 40 39,bu 41 .eql 40 18] (cd 41 (.row [ci 5 0]) .skip)) (sr [lk 43 4 2,mm 44 5,c2 45 136 43 44,mm 42 45,xx 46 0 42,xx 47 1 42,al 6 [zi,zb,zb],st 3 6 46,mm 7 47] (.seq (sr [mm 48 7,bi 49 .neq 48 0] (cd 49 (sr [mm 50 0,mm 51 7,c2 52 54 50 51] .ret) .skip)) (.seq (.drawn [mm 53 0,nk 54 53,ff 55 5 54,ff 56 2 55,ll 57 56,ff 58 0 6,ll 59 58,cc 60 123 [(.c (.int .u8 2)),(.t 57),(.t 59)],mm 8 60] []) (sr [mm 62 0,nk 63 62,ff 64 16 63,lk 65 5 64,mm 66 8,c2 67 137 65 66,mm 61 67,xx 68 0 61,xx 69 1 61,xx 70 2 61,mm 9 68,mm 10 69,mm 4 70] (.seq (.block 0 (sr [mm 72 4,nt 73 72,mm 71 73] (cd 71 (sr [mm 74 0,mm 75 8,cc 76 133 [(.t 74),(.t 75),(.c (.bool false))]] .ret) (sr [mm 78 10,nt 79 78,mm 77 79] (cd 77 (.row [cs 9 []]) .skip))))) (.seq (sr [mm 80 0,nk 81 80,ff 82 5 81,ff 83 0 82,ll 84 83,bu 85 .eql 84 9] (cd 85 (sr [mm 86 0,ff 87 0 6,ll 88 87,mm 89 9,oo 90 (.build [zu,zi,zi,zs,zn,zi,zb,zi,zn,zb] [(0,1,(.c (.int .u8 3))),(2,1,(.t 88)),(3,1,(.t 89))]),c2 91 55 86 90] .ret) .skip)) (sr [mm 93 0,mm 94 0,nk 95 94,ff 96 5 95,ff 97 3 96,ll 98 97,c2 99 135 93 98,mm 92 99,xx 100 0 92,xx 101 1 92,xx 102 2 92,al 11 [zi,zb,zi,zn],st 4 11 100,mm 12 101,mm 13 102] (sr [mm 103 13] (cd 103 (.drawn [mm 104 0,mm 105 0,nk 106 105,ff 107 5 106,ff 108 3 107,ll 109 108,lk 110 4 11,mm 111 9,cc 112 138 [(.t 104),(.t 109),(.t 110),(.c (.int .i64 (-1))),(.t 111)]] []) .skip))))))))))))))
def fn63:Fn Qc 63 113 dc63 []:=Am func63
def dc19:DC:=(sr [ob 3 0,ob 4 1,ob 5 2,al 6 [zs,zb,zs,zn,zb,zi,zs,zn,zn]] (sr [lk 9 5 3,lk 10 11 4,lk 11 5 5,lk 12 5 3,oo 13 (.build [zs,zb,zs,zn,zb,zi,zs,zn,zn] [(4,5,(.t 12))]),oo 14 (.build [zb,zi,zs,zn,zn,zu,zs,zs,zs,zi,zi,zb,zn,zs,zn,zs,zn,zn,zn,zn,zn,zs,zb,zs,zn,zb,zi,zs,zn,zn] [(0,5,(.t 9)),(5,11,(.t 10)),(16,5,(.t 11)),(21,9,(.t 13))]),ob 15 14,mm 7 15] (.seq (sr [lk 16 5 3,lk 17 11 4,c2 18 25 16 17,mm 8 18] (sr [mm 19 8,bi 20 .neq 19 0] (cd 20 (sr [mm 21 7,mm 22 8,c2 23 54 21 22] (sr [mm 24 7,nk 25 24,ff 26 21 25,lk 27 9 26,st 9 6 27] .ret)) .skip))) (.seq (sr [ff 28 0 4,ll 29 28] (.block 0 (sr [bu 33 .eql 29 1,mm 32 33] (cd 32 (.row [mm 34 7,mm 35 7,nk 36 35,ff 37 0 36,ff 38 0 37,ll 39 38,oo 40 (.build [zu,zi,zi,zs,zn,zi,zb,zi,zn,zb] [(0,1,(.c (.int .u8 6))),(9,1,(.t 39))]),c2 41 55 34 40]) (.seq (sr [bu 43 .eql 29 2,mm 42 43] (cd 42 .skip (.row [bu 44 .eql 29 3,mm 42 44]))) (cd 42 (sr [mm 45 7,ff 46 0 4,ll 47 46,bu 48 .eql 47 3,nk 49 45,ff 50 21 49,ff 51 4 50,ff 52 0 51,st 1 52 48] (.row [mm 53 7,c1 54 56 53])) (sr [bu 56 .eql 29 4,mm 55 56] (cd 55 (.row [mm 57 7,c1 58 57 57]) (sr [bu 60 .eql 29 5,mm 59 60] (cd 59 (.row [mm 61 7,c1 62 58 61]) (sr [bu 64 .eql 29 6,mm 63 64] (cd 63 (.row [mm 65 7,c1 66 59 65]) (sr [bu 68 .eql 29 7,mm 67 68] (cd 67 (.row [mm 69 7,c1 70 60 69]) (sr [bu 72 .eql 29 8,mm 71 72] (cd 71 (.row [mm 73 7,c1 74 61 73]) (sr [bu 76 .eql 29 17,mm 75 76] (cd 75 (.row [mm 77 7,c1 78 62 77]) (.seq (sr [bu 80 .eql 29 9,mm 79 80] (cd 79 .skip (.row [bu 81 .eql 29 18,mm 79 81]))) (cd 79 (.row [mm 82 7,c1 83 63 82]) (.row [mm 30 7,c1 31 64 30]))))))))))))))))))))) (sr [mm 84 7,nk 85 84,ff 86 21 85,lk 87 9 86,st 9 6 87] .ret)))))
def fn19:Fn Qc 19 88 dc19 [.cell (some 9) 6]:=Am func19
def dc10:DC:=(sr [cb 0 false] (sr [cc 7 23 [(.c (.str [107]))],al 1 [zb,zi,zs,zn,zn],st 5 1 7] (sr [lk 8 5 1,oo 9 (.build [zu,zs,zs,zs,zi,zi,zb,zn,zs,zn,zs] [(0,1,(.c (.int .u8 1)))]),oo 10 (.build [zn,zn,zn,zn,zn] []),c3 11 19 8 9 10,al 2 [zs,zb,zs,zn,zb,zi,zs,zn,zn],st 9 2 11] (sr [lk 12 5 1,oo 13 (.build [zu,zs,zs,zs,zi,zi,zb,zn,zs,zn,zs] [(0,1,(.c (.int .u8 9))),(1,1,(.c (.str [114,111,111,116]))),(2,1,(.c (.str [97,47,98])))]),oo 14 (.build [zn,zn,zn,zn,zn] []),c3 15 19 12 13 14,al 3 [zs,zb,zs,zn,zb,zi,zs,zn,zn],st 9 3 15] (sr [lk 16 5 1,oo 17 (.build [zu,zs,zs,zs,zi,zi,zb,zn,zs,zn,zs] [(0,1,(.c (.int .u8 5))),(1,1,(.c (.str [114,111,111,116]))),(2,1,(.c (.str [97]))),(4,1,(.c (.int .i64 2)))]),oo 18 (.build [zn,zn,zn,zn,zn] []),c3 19 19 16 17 18,al 4 [zs,zb,zs,zn,zb,zi,zs,zn,zn],st 9 4 19] (sr [ff 20 4 4,lk 21 5 20,oo 22 (.build [zu,zs,zs,zs,zi,zi,zb,zn,zs,zn,zs] [(0,1,(.c (.int .u8 9))),(1,1,(.c (.str [114,111,111,116]))),(2,1,(.c (.str [97,47,98])))]),oo 23 (.build [zn,zn,zn,zn,zn] []),c3 24 19 21 22 23,al 5 [zs,zb,zs,zn,zb,zi,zs,zn,zn],st 9 5 24] (.seq (.drawn [ff 25 4 4,lk 26 5 25,oo 27 (.build [zu,zs,zs,zs,zi,zi,zb,zn,zs,zn,zs] [(0,1,(.c (.int .u8 9))),(1,1,(.c (.str [114,111,111,116]))),(2,1,(.c (.str [97,47,98])))]),oo 28 (.build [zn,zn,zn,zn,zn] []),cc 29 12 [(.t 28),(.c (.str [109,47,97,47,98])),(.c (.str [])),(.c (.bool false))],c3 30 19 26 27 29,al 6 [zs,zb,zs,zn,zb,zi,zs,zn,zn],st 9 6 30] [(4,1),(4,6),(5,6),(6,1),(6,4),(6,5)]) (sr [ff 31 2 2,ll 32 31,bs 33 .eql 32 [111,107,32,111,112,101,110],mm 34 33,gf 35 2 3 3 true,gl 36 35 3 true,gs 37 .eql 36 [101,114,114,111,114,32,49,52] 3 true,pa 38 34 37,mm 39 38,gf 40 2 4 8 true,gl 41 40 8 true,gs 42 .eql 41 [111,107] 8 true,pa 43 39 42,mm 44 43,gf 45 3 4 13 true,gl 46 45 13 true,gn 47 false 46 13 true,gi 48 .eql 47 1 13 true,pa 49 44 48,mm 50 49,gf 51 3 4 19 true,gl 52 51 19 true,og 53 (.iaddr 3 (.t 52) (.c (.int .i64 0))) 19 true,gf 54 1 53 19 true,gl 55 54 19 true,gs 56 .eql 55 [115,47,109,111,117,110,116,115] 19 true,pa 57 50 56,mm 58 57,gf 59 0 5 27 true,gl 60 59 27 true,gs 61 .eql 60 [109,47,97,47,98] 27 true,pa 62 58 61,mm 63 62,gf 64 1 5 32 true,gl 65 64 32 true,og 66 (.un .not (.t 65)) 32 true,pa 67 63 66,mm 68 67,gf 69 2 5 37 true,gl 70 69 37 true,gs 71 .eql 70 [] 37 true,pa 72 68 71,mm 73 72,gf 74 2 6 42 true,gl 75 74 42 true,gs 76 .eql 75 [101,114,114,111,114,32,54] 42 true,pa 77 73 76,mm 78 77,gc 79 27 [(.c (.int .u8 10))] 47 true,gu 80 .eql 79 2 47 true,pa 81 78 80,mm 82 81,gc 83 29 [(.c (.int .u8 18))] 51 true,pa 84 82 83,mm 85 84,gc 86 29 [(.c (.int .u8 9))] 54 true,og 87 (.un .not (.t 86)) 54 true,pa 88 85 87,mm 89 88,og 90 (.load (some 5) (.t 1)) 58 true,og 91 (.build [zu,zs,zs,zs,zi,zi,zb,zn,zs,zn,zs] []) 58 true,gc 92 25 [(.t 90),(.t 91)] 58 true,gi 93 .eql 92 22 58 true,pa 94 89 93,mm 95 94,oo 96 (.pick (.t 95) (.c (.bool true)) (.c (.bool false))),mm 97 96,oo 98 (.pick (.t 97) (.c (.bool true)) (.c (.bool false))),mm 99 98,oo 100 (.pick (.t 99) (.c (.bool true)) (.c (.bool false))),mm 0 100] .ret))))))))
def fn10:Fn Qc 10 101 dc10 [.t 0]:=Am func10
end Go.Vd
namespace Go.Vd
open Go.Proofs Go.RowKit
def AO{m:Mem}{i:Id}{w:Wb}{o:Oc}{t:Id}(h:Ah m i 0 30=some (wkC w o t)):m i 0=some (.bool w.v.se)∧m i 1=some (.int .i64 w.v.te)∧m i 2=some (.str w.v.key)∧m i 3=some (.slice w.v.nlm [] (Ar w.v.ms))∧m i 4=some (.slice w.v.nlt [] (Aw w.v.ks))∧m i 5=some (.int .u8 w.a.op)∧m i 6=some (.str w.a.tk)∧m i 7=some (.str w.a.pa)∧m i 8=some (.str w.a.ot)∧m i 9=some (.int .i64 w.a.n)∧m i 10=some (.int .i64 w.a.cas)∧m i 11=some (.bool w.a.fl)∧m i 12=some (.slice w.a.nln [] (AS w.a.ns))∧m i 13=some (.str w.a.da)∧m i 14=some (.slice w.a.nlr [] (An w.a.rs))∧m i 15=some (.str w.a.key)∧m i 16=some (.slice w.k.es.isEmpty [] (w.k.es.map λx=> .str x.1))∧m i 17=some (.slice w.k.es.isEmpty [] (w.k.es.map λx=> .str x.2.1))∧m i 18=some (.slice w.k.es.isEmpty [] (w.k.es.map λx=> .bool x.2.2))∧m i 19=some (.slice w.k.ls.isEmpty [] (w.k.ls.map λx=> .str x.1))∧m i 20=some (.slice w.k.ls.isEmpty [] (w.k.ls.map lsD))∧m i 21=some (.str o.need)∧m i 22=some (.bool o.li)∧m i 23=some (.str o.rep)∧m i 24=some (.slice o.nl t (F_ o.ops))∧m i 25=some (.bool o.vw.se)∧m i 26=some (.int .i64 o.vw.te)∧m i 27=some (.str o.vw.key)∧m i 28=some (.slice o.vw.nlm [] (Ar o.vw.ms))∧m i 29=some (.slice o.vw.nlt [] (Aw o.vw.ks)):=
 ⟨Bq h rfl,Bq h rfl,Bq h rfl,Bq h rfl,Bq h rfl,Bq h rfl,Bq h rfl,Bq h rfl,Bq h rfl,Bq h rfl,Bq h rfl,Bq h rfl,Bq h rfl,Bq h rfl,Bq h rfl,Bq h rfl,Bq h rfl,Bq h rfl,Bq h rfl,Bq h rfl,Bq h rfl,Bq h rfl,Bq h rfl,Bq h rfl,Bq h rfl,Bq h rfl,Bq h rfl,Bq h rfl,Bq h rfl,Bq h rfl⟩
def Wt.cellp{i fr t0 t:Id}{m0 m:Mem}{nl0:Bool}{w:Wb}{o o':Oc}{p:Nat}{ys:List D}(h:Wt i fr m0 nl0 t0 m w o t)(hl:p+ys.length<=30)(hc:(wkC w o t).take p++ys++(wkC w o t).drop (p+ys.length)=wkC w o' t)(h1:o'.nl=o.nl)(h2:o'.ops=o.ops):Wt i fr m0 nl0 t0 (m.put i p ys) w o' t:=by
 refine h.cell (by rw[rd_put h.at_.1 hl,hc]) h1 h2 (λj x hj=>?_);rcases hj with hj|hj
 ·rw[Mem.put_other hj]
 ·by_cases e:j=i
  ·subst e;rw[Mem.put_out (by omega)]
  ·rw[Mem.put_other e]
structure Oc0 (o:Oc):Prop where
 nl:o.nl=true
 ops:o.ops=[]
def S54:Summs:=AC [(120,Ac R120)]
def W54:Wb->Oc->List D->Option WY:=RW S54 dc54 [] 14
def ko54:(wQ W54).ok Qc 54:=C_ fn54 (Ab ko120 Ad)
def W54_eq(w:Wb)(o:Oc)(e:Int)(h0:Oc0 o)(he:1<=e∧e<=99):W54 w o [.int .i64 e]=some (.tup [],⟨[],false,ryT (.fail e),true,[],w.v⟩,none):=by
 refine Ba (λ_=>h0.ops) ⟨Qa rfl,λh=>⟨h0.nl.symm,h0.ops.symm⟩,λl h=>(by cases h),λi m fr t ha hfr hni hni0=>?_⟩;have hW:=Wt.start ha hfr;unfold dc54;have xx:=AO ha.1;have h120:=R120_eq e he;have ht:t=[]:=ha.2.2 h0.nl;simp only[gB1,↓go1,go5,simprocAttr,xx,Al S54 120,h120]
 (refine Ao.intro (Aj ?_) ?_;first|rfl|simp[A5,AM,rds,Ai,Ac])
 simp only[↓go1,go2,go3,simprocAttr];subst ht;exact(hW.cellp (o':=⟨[],false,ryT (.fail e),true,[],w.v⟩) (Qa rfl) rfl h0.nl.symm h0.ops.symm).end0 (λ_=>rfl)
def S55:Summs:=AC [(121,Ac R121)]
def W55:Wb->Oc->List D->Option WY:=RW S55 dc55 [] 13
def ko55:(wQ W55).ok Qc 55:=C_ fn55 (Ab ko121 Ad)
def Gi(w:Wb)(o:Oc)(y:Ry)(ho:o.nl=true->o.ops=[])(h:ryOk y)(hn:ryN y):W55 w o [.agg (ryC y)]=some (.tup [],{o with rep:=ryT y},none):=by
 refine Ba ho ⟨Qa rfl,λh=>⟨rfl,rfl⟩,λl h=>(by cases h),λi m fr t ha hfr hni hni0=>?_⟩;have hW:=Wt.start ha hfr;unfold dc55;have xx:=AO ha.1;have h121:=R121_eq y h hn;have d0:((ryC y).map D.un1=ryC y∧(ryC y).all D.calm1=true)∧D.data (.agg (ryC y))=true∧(D.agg (ryC y)).cells=ryC y∧(ryC y).length=10:=by cases y<;>exact⟨⟨rfl,rfl⟩,rfl,rfl,rfl⟩
 obtain⟨⟨d1,d2⟩,d3,d4,d5⟩:=d0;obtain⟨a,b,cc,d,e,f,g,i',j,k,hc⟩:∃a b c d e f g i j k,ryC y=[a,b,c,d,e,f,g,i,j,k]:=by cases y<;>exact⟨_,_,_,_,_,_,_,_,_,_,rfl⟩
 rw[hc]at d1 d2 h121 ⊢;simp only[Qs,Qt,Qb,and_true]at d1;simp only[Zd,Zg,Bool.and_true,QM]at d2;obtain⟨u0,u1,u2,u3,u4,u5,u6,u7,u8,u9⟩:=d1;obtain⟨k0,k1,k2,k3,k4,k5,k6,k7,k8,k9⟩:=d2;simp only[gB1,↓go1,go5,simprocAttr,xx.2.2.2.2.2.2.2.2.2.2.2.2.2.2.2.2.2.2.2.2.2.2.2.1,hni0,Al S55 121,h121,u0,u1,u2,u3,u4,u5,u6,u7,u8,u9,k0,k1,k2,k3,k4,k5,k6,k7,k8,k9];exact((hW.put hfr hni0).cellp (o':={o with rep:=ryT y}) (Qa rfl) rfl rfl rfl).end0 ha.2.2
def S56:Summs:=AC [(55,wQ W55)]
def W56:Wb->Oc->List D->Option WY:=RW S56 dc56 [] 5
def ko56:(wQ W56).ok Qc 56:=C_ fn56 (Ab ko55 Ad)
def W56_eq(w:Wb)(o:Oc)(ho:o.nl=true->o.ops=[]):W56 w o []=some (.tup [],{o with rep:=ryT .done},none):=by
 refine Ba ho ⟨Qa rfl,λh=>⟨rfl,rfl⟩,λl h=>(by cases h),λi m fr t ha hfr hni hni0=>?_⟩;have s55:S56 55=some (wQ W55):=rfl;have hW:=Wt.start ha hfr;unfold dc56;have h55:=Gi w o .done ho trivial trivial;unfold ryC at h55;simp only[↓go1,gB3,go5,simprocAttr,Ag s55];refine got_w ha h55 ?_;obtain⟨c1,c2⟩:=hW.call (o':={o with rep:=ryT .done}) (d:= .tup []) (ol:=none) (k:=2) hfr hni (λ_=>⟨rfl,rfl⟩) (λl h=>by cases h);simp only[↓go1,go2,simprocAttr];exact c1.end0 ha.2.2
def S133:Summs:=AC []
def W133:Wb->Oc->List D->Option WY:=RW S133 dc133 [] 16
def ko133:(wQ W133).ok Qc 133:=C_ fn133 Ad
def W133_eq(w:Wb)(o:Oc)(q:Bs)(li:Bool)(h0:Oc0 o):W133 w o [.str q,.bool li]=some (.tup [],⟨q,li,[],true,[],w.v⟩,none):=by
 refine Ba (λ_=>h0.ops) ⟨Qa rfl,λh=>⟨h0.nl.symm,h0.ops.symm⟩,λl h=>(by cases h),λi m fr t ha hfr hni hni0=>?_⟩;have hW:=Wt.start ha hfr;unfold dc133;have xx:=AO ha.1;have ht:t=[]:=ha.2.2 h0.nl;simp only[gB1,↓go1,go5,simprocAttr,xx];subst ht;exact(hW.cellp (o':=⟨q,li,[],true,[],w.v⟩) (Qa rfl) rfl h0.nl.symm h0.ops.symm).end0 (λ_=>rfl)
def S122:Summs:=AC []
def Fq:Wb->Oc->List D->Option WY:=RW S122 dc122 [] 23
def ko122:(wQ Fq).ok Qc 122:=C_ fn122 Ad
def W122_eq(w:Wb)(o:Oc)(k:Int)(key val:Bs)(ho:o.nl=true->o.ops=[])(hl:o.ops.length<=1000):Fq w o [.int .u8 k,.str key,.str val]=some (.tup [],{o with nl:=false,ops:=o.ops++[(k,key,val)]},some ([11])):=by
 refine Ba ho ⟨Qa rfl,λh=>(by cases h),λl h=>(by simp only[Qp]at h;subst h;exact⟨rfl,by simp⟩),λi m fr t ha hfr hni hni0=>?_⟩;have hW:=Wt.start ha hfr;unfold dc122;have xx:=AO ha.1;have hne:o.nl=false->i≠t:=λh=>tok_ne ha h
 have hnt:o.nl=false->m t 0=some (.tok 108):=λh=>Er ha.2.1 h
 have hti:∀q,t≠q::fr:=hW.loc;have hon:o.nl=true->F_ o.ops=[]:=λh=>by rw[ho h];rfl
 have hops:F_ (o.ops++[(k,key,val)])=F_ o.ops++[.agg [.int .u8 k,.str key,.str val]]:=by simp[F_,opD]
 have hlen:(F_ o.ops).length=o.ops.length:=opsD_len _;simp only[↓go1,gB3,go5,simprocAttr,xx.2.2.2.2.2.2.2.2.2.2.2.2.2.2.2.2.2.2.2.2.2.2.2.2.1];refine Ao.intro ⟨by simp only[hlen];omega,rfl,?_⟩ ?_
 ·cases hn:o.nl with
  |true=>exact .inl rfl
  |false=>exact .inr ⟨by rw[Mem.put_other (hti _)];exact hnt hn,by
    have:=Er ha.2.1 hn;unfold atW BJ at ha;simp only[hn,Bool.false_eq_true,if_false,this,beq_self_eq_true,Bool.true_and]at ha;intro e;rw[e]at ha;simp at ha⟩
 rw[BG hon,rowU_grow];have key1:∀j x,Upd.app (m.put (10::fr) 0 [.tok 108]) (Bg 107 (11::fr) (.slice o.nl t (F_ o.ops))) j x=if j=11::fr∧x=0 then some (.tok 108)else if o.nl=false∧j=t∧x=0 then some (.tok 0)else(m.put (10::fr) 0 [.tok 108]) j x:=λj x=>FP
 generalize hM:Upd.app (m.put (10::fr) 0 [.tok 108]) (Bg 107 (11::fr) (.slice o.nl t (F_ o.ops)))=M at *;have hMi:∀x,M i x=m i x:=λx=>by
  rw[key1,if_neg (λe=>(hni0 11).mp e.1),if_neg (λe=>hne e.1 e.2.1),Mem.put_other (λe=>(hni0 10).mp e)]
 have hMc:Ah M i 0 30=some (wkC w o t):=by
  rw[←ha.1];exact Bu (λl hl=>by
   simp only[Ai,Q0]at hl;obtain⟨_,_,rfl⟩:=hl;exact hMi _)
 simp only[gB1,↓go1,go5,simprocAttr,xx.2.2.2.2.2.2.2.2.2.2.2.2.2.2.2.2.2.2.2.2.2.2.2.2.1,hMi];refine⟨rfl,?_,?_,λh=>?_,λj x d hj hj2 hm=>?_⟩
 ·rw[rd_put hMc (Qa rfl),←hops];rfl
 ·show(M.put i 24 _) (11::fr) 0=_;rw[Mem.put_other (λe=>(hni0 11).mp e.symm),key1,if_pos ⟨rfl,rfl⟩]
 ·rw[Mem.put_other (λe=>hne h e.symm),key1,if_neg (λe=>hti 11 e.1),if_pos ⟨h,rfl,rfl⟩]
 ·have hjf:∀q,j≠q::fr:=λq e=>by rw[e,hfr (q::fr) _ ⟨[q],rfl⟩]at hm;cases hm
  have e1:(M.put i 24 [.slice false (11::fr) (F_ o.ops++[.agg [.int .u8 k,.str key,.str val]])]) j x=M j x:=by
   rcases hj with hj|hj
   ·rw[Mem.put_other hj]
   ·by_cases e:j=i
    ·subst e;rw[Mem.put_out (by simp;omega)]
    ·rw[Mem.put_other e]
  refine(show _=_ from e1).trans ?_;rw[key1,if_neg (λe=>hjf 11 e.1),if_neg,Mem.put_other (hjf 10)]
  ·exact hm
  ·rintro⟨a1,a2,a3⟩;rcases hj2 with h|h|h
   ·rw[a1]at h;cases h
   ·exact h a2
   ·exact h a3
end Go.Vd
namespace Go.Vd
open Go.Proofs
def dc57:DC:=(.seq (sr [mm 2 0,nk 3 2,ff 4 0 3,ff 5 1 4,ll 6 5,bi 7 .geq 6 6] (cd 7 (sr [mm 8 0,cc 9 54 [(.t 8),(.c (.int .i64 19))]] .ret) .skip)) (sr [mm 10 0,nk 11 10,ff 12 21 11,ff 13 4 12,ff 14 1 13,ll 15 14,bi 16 .add 15 1,nk 17 10,ff 18 21 17,ff 19 4 18,ff 20 1 19,st 1 20 16] (.seq (.drawn [mm 21 0,cc 22 123 [(.c (.int .u8 5)),(.c (.str [])),(.c (.int .i64 0))],mm 23 0,nk 24 23,ff 25 21 24,ff 26 4 25,ff 27 1 26,ll 28 27,c1 29 125 28,cc 30 124 [(.c (.str [0])),(.t 29)],cc 31 122 [(.t 21),(.c (.int .u8 1)),(.t 22),(.t 30)]] [(1,7)]) (.row [mm 32 0,c1 33 56 32]))))
def fn57:Fn Qc 57 34 dc57 []:=Am func57
def dc59l0:DC:=(sr [bt 44 .lss 43 42] (.seq (cd 44 .skip (.exit 0)) (.seq (.block 1 (sr [ii 45 1 41 43,ll 46 45,mm 5 46] (.row [mm 47 0,mm 48 5,cc 49 122 [(.t 47),(.c (.int .u8 3)),(.t 48),(.c (.str []))]]))) (.row [bi 50 .add 43 1,mm 43 50]))))
def dc59:DC:=(.seq (.drawn [mm 7 0,nk 8 7,ff 9 0 8,ff 10 3 9,lk 11 1 10,mm 12 0,nk 13 12,ff 14 5 13,ff 15 2 14,ll 16 15,c2 17 127 11 16,mm 6 17,xx 18 0 6,xx 19 1 6,al 2 [zn],st 1 2 18,mm 3 19] [(10,14),(14,4),(14,9),(14,10)]) (.seq (sr [mm 20 3,bi 21 .neq 20 0] (cd 21 (sr [mm 22 0,mm 23 3,c2 24 54 22 23] .ret) .skip)) (sr [mm 25 0,lk 26 1 2,nk 27 25,ff 28 21 27,ff 29 4 28,ff 30 3 29,st 1 30 26] (.seq (.drawn [mm 31 0,cc 32 123 [(.c (.int .u8 4)),(.c (.str [])),(.c (.int .i64 0))],lk 33 1 2,c1 34 126 33,cc 35 122 [(.t 31),(.c (.int .u8 1)),(.t 32),(.t 34)]] [(1,2)]) (.seq (sr [mm 36 0,nk 37 36,ff 38 5 37,ff 39 2 38,ll 40 39,c1 41 128 40,nn 42 false 41,ci 43 0] (.block 0 (.loop dc59l0))) (.row [mm 51 0,c1 52 56 51]))))))
def fn59:Fn Qc 59 53 dc59 []:=Am func59
def dc60:DC:=(.seq (.drawn [mm 7 0,nk 8 7,ff 9 5 8,ff 10 3 9,ll 11 10,mm 12 0,nk 13 12,ff 14 5 13,ff 15 1 14,ll 16 15,mm 17 0,nk 18 17,ff 19 5 18,ff 20 9 19,ll 21 20,oo 22 (.build [zs,zs,zn] [(0,1,(.t 11)),(1,1,(.t 16)),(2,1,(.t 21))]),al 2 [zs,zs,zn],st 3 2 22] [(16,4),(16,9),(16,14)]) (.seq (.drawn [mm 24 0,nk 25 24,ff 26 0 25,ff 27 4 26,lk 28 1 27,lk 29 3 2,c2 30 50 28 29,mm 23 30,xx 31 0 23,xx 32 1 23,al 3 [zn],st 1 3 31,mm 4 32] [(6,10),(10,4),(10,5),(10,6)]) (.seq (sr [mm 33 4,bi 34 .eql 33 0,mm 35 34,gm 36 0 2 true,og 37 (.nilchk (.t 36)) 2 true,gf 38 0 37 2 true,gf 39 4 38 2 true,og 40 (.load (some 1) (.t 39)) 2 true,gc 41 129 [(.t 40)] 2 true,gn 42 false 41 2 true,gi 43 .geq 42 24 2 true,pa 44 35 43] (cd 44 (.row [ci 4 24]) .skip)) (.seq (sr [mm 45 4,bi 46 .neq 45 0] (cd 46 (sr [mm 47 0,mm 48 4,c2 49 54 47 48] .ret) .skip)) (sr [lk 51 3 2,c1 52 130 51,mm 50 52,xx 53 0 50,xx 54 1 50,mm 5 53,mm 6 54] (sr [mm 55 0,lk 56 1 3,nk 57 55,ff 58 21 57,ff 59 4 58,ff 60 4 59,st 1 60 56] (sr [mm 61 0,mm 62 0,nk 63 62,ff 64 5 63,ff 65 3 64,ll 66 65,cc 67 123 [(.c (.int .u8 3)),(.t 66),(.c (.int .i64 0))],mm 68 5,cc 69 122 [(.t 61),(.c (.int .u8 1)),(.t 67),(.t 68)]] (.row [mm 70 0,c1 71 56 70]))))))))
def fn60:Fn Qc 60 72 dc60 []:=Am func60
def dc61l0:DC:=(sr [bt 36 .lss 35 34] (.seq (cd 36 .skip (.exit 0)) (.seq (.block 1 (sr [ii 37 1 33 35,ll 38 37,mm 6 38] (.row [mm 39 0,mm 40 6,cc 41 123 [(.c (.int .u8 3)),(.t 40),(.c (.int .i64 0))],cc 42 122 [(.t 39),(.c (.int .u8 2)),(.t 41),(.c (.str []))]]))) (.row [bi 43 .add 35 1,mm 35 43]))))
def dc61:DC:=(.seq (.drawn [mm 8 0,nk 9 8,ff 10 0 9,ff 11 4 10,lk 12 1 11,mm 13 0,nk 14 13,ff 15 5 14,ff 16 3 15,ll 17 16,c2 18 131 12 17,mm 7 18,xx 19 0 7,xx 20 1 7,xx 21 2 7,al 2 [zn],st 1 2 19,mm 3 20,mm 4 21] [(10,15),(15,4),(15,9),(15,10)]) (.seq (sr [mm 22 4,bi 23 .neq 22 0] (cd 23 (sr [mm 24 0,mm 25 4,c2 26 54 24 25] .ret) .skip)) (sr [mm 27 0,lk 28 1 2,nk 29 27,ff 30 21 29,ff 31 4 30,ff 32 4 31,st 1 32 28] (.seq (sr [mm 33 3,nn 34 false 33,ci 35 0] (.block 0 (.loop dc61l0))) (.row [mm 44 0,mm 45 3,oo 46 (.build [zu,zi,zi,zs,zn,zi,zb,zi,zn,zb] [(0,1,(.c (.int .u8 5))),(4,1,(.t 45))]),c2 47 55 44 46])))))
def fn61:Fn Qc 61 48 dc61 []:=Am func61
end Go.Vd
namespace Go.Vd
open Go.Proofs Go.RowKit
def Oc.op(o:Oc)(k:Int)(key val:Bs):Oc:={o with nl:=false,ops:=o.ops++[(k,key,val)]}
def BF(o:Oc)(p:Bs)(ns:List Int):Oc:={o with nl:=o.nl&&ns.isEmpty,ops:=o.ops++ns.map λn=>(2,AZ 2 p n,[])}
def dropO_op{o:Oc}{p:Bs}{ns:List Int}{n:Int}:(BF o p ns).op 2 (AZ 2 p n) []=BF o p (ns++[n]):=by
 simp[BF,Oc.op]
def dropO_nil{o:Oc}{p:Bs}:BF o p []=o:=by simp[BF]
def dropN(ns:List Int):Option (List Nat):=if ns=[]then none else some [11,11*ns.length]
def B9(v:Vw)(p:Bs):Int×Bool:=if Ci v.ms p=-1 then(0,false)else(Bj v.ms (Ci v.ms p).toNat).2
def rouE(v:Vw)(p:Bs):Bs×Int:=if Ci v.ms p=-1 then([],14)else((Bj v.ms (Ci v.ms p).toNat).1,0)
def route_eq(v:Vw)(p:Bs):routeD v.ms p= .tup [.agg [.str (rouE v p).1,.int .i64 (B9 v p).1,.bool (B9 v p).2],.int .i64 (rouE v p).2]:=by
 unfold routeD B9 rouE;split<;>rfl
def As{i fr t0 t:Id}{m0 m:Mem}{nl0:Bool}{w:Wb}{o o':Oc}{rest:List D}{d:D}{ol:Option (List Nat)}{F:Wb->Oc->List D->Option WY}{S:Summs}{c k n:Nat}{ops l:List DOper}{s:Nat->D}{dst:Option Nat}{K:Nat->(Nat->D)->Mem->Prop}{g}
  (hw:Wt i fr m0 nl0 t0 m w o t) (hfr:∀j x,fr<:+j->m0 j x=none) (hni:∀k l,(i=l++k::fr)=False) (hF:F w o rest=some (d,o',ol)) (hR:∃S dc rs N,F=RW S dc rs N)
  (h:∀M,Wt i fr m0 nl0 t0 M w o' (nameW t (n::fr) ol)->(∀q x,M (q::fr) x=m (q::fr) x)->Fz S fr c ops l k (CM s dst d) M K):
  Got ((wQ F).ex (.ptr i 0::rest) m (n::fr)) (λx=>rowU S fr c ops l k s dst m K x.1 x.2) g:=by
 obtain⟨S',dc,rs,N,rfl⟩:=hR;obtain⟨_,hs1,hs2,_⟩:=Eu hF;refine got_w hw.at_ hF ?_;obtain⟨c1,c2⟩:=hw.call (o':=o') (d:=d) (ol:=ol) (k:=n) hfr hni hs1 hs2;exact h _ c1 c2
def Ch{i fr t0 t:Id}{m0 m:Mem}{nl0:Bool}{w:Wb}{o o':Oc}{rest:List D}{d:D}{ol:Option (List Nat)}{F:Wb->Oc->List D->Option WY}{S:Summs}{c k n:Nat}{ops l:List DOper}{s:Nat->D}{dst:Option Nat}{op:DOp}{K:Nat->(Nat->D)->Mem->List Foot->Prop}{g}
  (hw:Wt i fr m0 nl0 t0 m w o t) (hfr:∀j x,fr<:+j->m0 j x=none) (hni:∀k l,(i=l++k::fr)=False) (hF:F w o rest=some (d,o',ol)) (hR:∃S dc rs N,F=RW S dc rs N)
  (h:∀M u,u=updW i w o t (n::fr) (d,o',ol)->Wt i fr m0 nl0 t0 M w o' (nameW t (n::fr) ol)->(∀q x,M (q::fr) x=m (q::fr) x)->B4 S fr c ops l k (CM s dst d) M λk' s' m' f=>K k' s' m' ((rds S s m op,AM u)::f)):
  Got ((wQ F).ex (.ptr i 0::rest) m (n::fr)) (λx=>drawnU S fr c ops l k s dst m op K x.1 x.2) g:=by
 obtain⟨S',dc,rs,N,rfl⟩:=hR;obtain⟨_,hs1,hs2,_⟩:=Eu hF;refine got_w hw.at_ hF ?_;obtain⟨c1,c2⟩:=hw.call (o':=o') (d:=d) (ol:=ol) (k:=n) hfr hni hs1 hs2;exact h _ _ rfl c1 c2
def Dy(w:Wb)(o:Oc)(k:Int)(key val:Bs)(ho:o.nl=true->o.ops=[])(hl:o.ops.length<=1000):Fq w o [.int .u8 k,.str key,.str val]=some (.tup [],o.op k key val,some [11]):=W122_eq w o k key val ho hl
def S140:Summs:=AC [(248,Ac F248)]
def W140:Wb->Oc->List D->Option WY:=RW S140 dc140 [.cell (some 2) 4] 19
def ko140:(wQ W140).ok Qc 140:=C_ fn140 (Ab ok248 Ad)
def W140_eq(w:Wb)(o:Oc)(p:Bs)(ho:o.nl=true->o.ops=[])(hm:w.v.ms.length<=1000):W140 w o [.str p]=some (.agg [.int .i64 (B9 w.v p).1,.bool (B9 w.v p).2],o,none):=by
 refine Ba ho ⟨Qa rfl,λh=>⟨rfl,rfl⟩,λl h=>(by cases h),λi m fr t ha hfr hni hni0=>?_⟩;have hW:=Wt.start ha hfr;unfold dc140;have xx:=AO ha.1;have h248:=F248_eq (nl:=w.v.nlm) (t:=[]) (l:=w.v.ms) (p:=p) (by omega);rw[route_eq]at h248;simp only[gB1,↓go1,go5,simprocAttr,xx,hni0,Al S140 248,h248];exact((((hW.put hfr hni0).put hfr hni0).put hfr hni0).put hfr hni0).end0 ha.2.2
def S244:Summs:=AC [(340,Ac R340),(123,Ac Cx),(122,wQ Fq)]
def W244:Wb->Oc->List D->Option WY:=RW S244 dc244 [] 18
def ko244:(wQ W244).ok Qc 244:=C_ fn244 (Ab ko340 (Ab ko123 (Ab ko122 Ad)))
def W244_eq(w:Wb)(o:Oc)(p:Bs)(s:Sc)(ho:o.nl=true->o.ops=[])(hl:o.ops.length<=1000)(hs:s.rs.length<=1000)(hp:p.length<=1000000):W244 w o [.str p,.agg (scC s)]=some (.tup [],o.op 1 (AZ 1 p 0) (packB s),some ([11,12])):=by
 refine Ba ho ⟨Qa rfl,λh=>(by cases h),λl h=>(by simp only[Qp]at h;subst h;exact⟨rfl,by simp⟩),λi m fr t ha hfr hni hni0=>?_⟩;have s123:S244 123=some (Ac Cx):=rfl;have s122:S244 122=some (wQ Fq):=rfl;have hW:=Wt.start ha hfr;unfold dc244;have h340:=R340_eq s hs;have h123:=CB 1 0 p hp;have h122:=Dy w o 1 (AZ 1 p 0) (packB s) ho hl;unfold scC at *;simp only[gB1,↓go1,go5,simprocAttr,Al S244 340,h340,Aa s123,h123,Ag s122];refine As (hW.put hfr hni0) hfr hni h122 ⟨_,_,_,_,rfl⟩ (λM c1 c2=>?_);simp only[↓go1,go2,simprocAttr];exact c1.endl (l:=[11,12]) (by simp)
def S245:Summs:=AC [(123,Ac Cx),(122,wQ Fq)]
def W245:Wb->Oc->List D->Option WY:=RW S245 dc245 [] 20
def ko245:(wQ W245).ok Qc 245:=C_ fn245 (Ab ko123 (Ab ko122 Ad))
def W245_eq(w:Wb)(o:Oc)(p:Bs)(nl:Bool)(tq:Id)(ns:List Int)(ho:o.nl=true->o.ops=[])(hl:o.ops.length+ns.length<=1000)(hp:p.length<=1000000):W245 w o [.str p,.slice nl tq (AS ns)]=some (.tup [],BF o p ns,dropN ns):=by
 refine Ba ho ⟨Qa rfl,λh=>(by unfold dropN at h;split at h<;>simp_all [BF]),λl h=>(by unfold dropN at h;split at h<;>simp_all [BF];subst h;simp),λi m fr t ha hfr hni hni0=>?_⟩;have s122:S245 122=some (wQ Fq):=rfl;have hW:=Wt.start ha hfr;unfold dc245;simp only[↓go1,go2,simprocAttr,B2];refine Bk (n:=ns.length) (I:=λj st=>st.s 8= .slice nl tq (AS ns)∧st.s 9= .int .i64 ns.length∧st.s 10= .int .i64 (j:Int)∧st.s 0= .ptr i 0∧st.s 1= .str p∧st.c=3+11*j∧Wt i fr m o.nl t st.m w (BF o p (ns.take j)) (if j=0 then t else [11,11*j]++fr)) (λj hj ih st g hI=>?_) (λst g hI=>?_) 0 (Qr _) _ _ ⟨rfl,rfl,rfl,rfl,rfl,rfl,by simp only[QB,dropO_nil,if_true];exact hW⟩
 ·obtain⟨st_s,st_m,st_c⟩:=st;obtain⟨h8,h9,h10,h0,h1,hc,hw⟩:=hI;simp only at h8 h9 h10 h0 h1 hc hw;refine Ae dc245l0.eq_1 ?_;have hlt:((j:Int)<(ns.length:Int))=True:=eq_true (by omega);have hj0:=nJ (j:=j);have hat:=intsD_at' (l:=ns) (j:=j) hj;have hw1:IntKind.i64.wrap ((j:Int)+1)=((j+1:Nat):Int):=by rw[w64 (by omega) (by omega)];omega
  have h123:=CB 2 ns[j] p hp;have hn1:(BF o p (ns.take j)).nl=true->(BF o p (ns.take j)).ops=[]:=λh=>by
   simp only[BF,QM,Zb]at h ⊢;rw[ho h.1,h.2];rfl
  have hn2:(BF o p (ns.take j)).ops.length<=1000:=by simp[BF];omega
  have h122:=Dy w (BF o p (ns.take j)) 2 (AZ 2 p ns[j]) [] hn1 hn2;rw[dropO_op,←QY hj]at h122;simp only[↓go1,gB3,go5,simprocAttr,h0,h1,h8,h9,h10,hlt,hj0,Qo,hat,Al S245 123,h123,Ag s122];refine As hw hfr hni h122 ⟨_,_,_,_,rfl⟩ (λM c1 c2=>?_);have e:nameW (if j=0 then t else [11,11*j]++fr) ((st_c+1+3+4)::fr) (some [11])=(if j+1=0 then t else [11,11*(j+1)]++fr):=by
   rw[if_neg (Qd j)];show [11]++_::fr=_;rw[show st_c+1+3+4=11*(j+1)by omega];rfl
  rw[e]at c1;simp only[↓go1,go2,simprocAttr,h10,hw1];exact ih _ _ ⟨h8,h9,rfl,h0,h1,by simp only;omega,c1⟩
 ·obtain⟨st_s,st_m,st_c⟩:=st;obtain⟨h8,h9,h10,h0,h1,hc,hw⟩:=hI;simp only at h8 h9 h10 h0 h1 hc hw;refine Ae dc245l0.eq_1 ?_;simp only[↓go1,go2,go4,go5,simprocAttr,h9,h10,ZC];rw[Zq]at hw;unfold dropN;cases ns with
  |nil=>exact hw.end0 ha.2.2
  |cons a r=>exact hw.endl (l:=[11,11*(r.length+1)]) (by simp)
def metaT(w:Wb)(p:Bs):Bs×Bool×Bool:=CI w.k (AZ 1 p 0)
def S135:Summs:=AC [(123,Ac Cx),(137,Ac EN),(133,wQ W133),(240,Ac R240)]
def Bv:Wb->Oc->List D->Option WY:=RW S135 dc135 [.cell (some 4) 4,.t 5,.t 6] 42
def ko135:(wQ Bv).ok Qc 135:=C_ fn135 (Ab ko123 (Ab ko137 (Ab ko133 (Ab ko240 Ad))))
def W135_need(w:Wb)(o:Oc)(p:Bs)(h0:Oc0 o)(hp:p.length<=1000000)(hk:w.k.es.length<=1000)(mt:Bs×Bool×Bool)(hm:metaT w p=mt)(hq:mt.2.2=false):Bv w o [.str p]=some (.tup [.agg (scC sc0),.bool false,.bool false],⟨AZ 1 p 0,false,[],true,[],w.v⟩,none):=by
 refine Ba (λ_=>h0.ops) ⟨Qa rfl,λh=>⟨h0.nl.symm,h0.ops.symm⟩,λl h=>(by cases h),λi m fr t ha hfr hni hni0=>?_⟩;have s137:S135 137=some (Ac EN):=rfl;have s133:S135 133=some (wQ W133):=rfl;have hW:=Wt.start ha hfr;unfold dc135;obtain⟨text,there,known⟩:=mt;simp only at hq;have h123:=CB 1 0 p hp;have h137:=R137_eq w.k (AZ 1 p 0) hk;rw[show CI w.k (AZ 1 p 0)=_ from hm]at h137;unfold kwC at h137;have xx:=AO ha.1;subst hq;have h133:=W133_eq w o (AZ 1 p 0) false h0;simp only[gB1,↓go1,go5,simprocAttr,xx,hni0,Al S135 123,h123,Aa s137,h137,Ag s133];refine As (hW.put hfr hni0) hfr hni h133 ⟨_,_,_,_,rfl⟩ (λM c1 c2=>?_);simp only[gB1,↓go1,go5,simprocAttr,c2];exact(c1.put hfr hni0).end0 ha.2.2
def W135_no(w:Wb)(o:Oc)(p:Bs)(h0:Oc0 o)(hp:p.length<=1000000)(hk:w.k.es.length<=1000)(mt:Bs×Bool×Bool)(hm:metaT w p=mt)(hq:mt.2.2=true)(ht:mt.1.length<=1000000)(hb:mt.2.1=false∨(B6 mt.1).2≠0):Bv w o [.str p]=some (.tup [.agg (scC sc0),.bool false,.bool true],o,none):=by
 refine Ba (λ_=>h0.ops) ⟨Qa rfl,λh=>⟨rfl,rfl⟩,λl h=>(by cases h),λi m fr t ha hfr hni hni0=>?_⟩;have s137:S135 137=some (Ac EN):=rfl;have s240:S135 240=some (Ac R240):=rfl;have hW:=Wt.start ha hfr;unfold dc135;obtain⟨text,there,known⟩:=mt;simp only at hq;have h123:=CB 1 0 p hp;have h137:=R137_eq w.k (AZ 1 p 0) hk;rw[show CI w.k (AZ 1 p 0)=_ from hm]at h137;unfold kwC at h137;have h240:=R240_eq text ht;unfold scC at h240;have xx:=AO ha.1;subst hq;simp only at hb;generalize B6 text=se at *;obtain⟨s,e⟩:=se;simp only at hb h240;cases there with
 |false=>
  simp only[gB1,↓go1,go5,simprocAttr,xx,hni0,Al S135 123,h123,Aa s137,h137,Aa s240,h240];exact(((hW.put hfr hni0).put hfr hni0).put hfr hni0).end0 ha.2.2
 |true=>
  have he:(e=0)=False:=eq_false (hb.resolve_left (by simp));simp only[gB1,↓go1,go5,simprocAttr,xx,hni0,Al S135 123,h123,Aa s137,h137,Aa s240,h240,he];exact(((hW.put hfr hni0).put hfr hni0).put hfr hni0).end0 ha.2.2
def W135_yes(w:Wb)(o:Oc)(p:Bs)(h0:Oc0 o)(hp:p.length<=1000000)(hk:w.k.es.length<=1000)(mt:Bs×Bool×Bool)(hm:metaT w p=mt)(hq:mt.2.2=true)(ht:mt.1.length<=1000000)(hb:mt.2.1=true)(he:(B6 mt.1).2=0):Bv w o [.str p]=some (.tup [.agg (scC (B6 mt.1).1),.bool true,.bool true],o,none):=by
 refine Ba (λ_=>h0.ops) ⟨Qa rfl,λh=>⟨rfl,rfl⟩,λl h=>(by cases h),λi m fr t ha hfr hni hni0=>?_⟩;have s137:S135 137=some (Ac EN):=rfl;have s240:S135 240=some (Ac R240):=rfl;have hW:=Wt.start ha hfr;unfold dc135;obtain⟨text,there,known⟩:=mt;simp only at hq;have h123:=CB 1 0 p hp;have h137:=R137_eq w.k (AZ 1 p 0) hk;rw[show CI w.k (AZ 1 p 0)=_ from hm]at h137;unfold kwC at h137;have h240:=R240_eq text ht;unfold scC at h240;have xx:=AO ha.1;subst hq;simp only at hb he ⊢;generalize B6 text=se at *;obtain⟨s,e⟩:=se;simp only at he h240;subst hb he;simp only[gB1,↓go1,go5,simprocAttr,xx,hni0,Al S135 123,h123,Aa s137,h137,Aa s240,h240];exact(((hW.put hfr hni0).put hfr hni0).put hfr hni0).end0 ha.2.2
def turnO'(o:Oc)(p:Bs)(s:Sc)(gone:List Int):Oc:={BF (o.op 1 (AZ 1 p 0) (packB s)) p gone with rep:=ryT .done}
def S141:Summs:=AC [(54,wQ W54),(244,wQ W244),(245,wQ W245),(56,wQ W56)]
def W141:Wb->Oc->List D->Option WY:=RW S141 dc141 [] 31
def ko141:(wQ W141).ok Qc 141:=C_ fn141 (Ab ko54 (Ab ko244 (Ab ko245 (Ab ko56 Ad))))
def W141_fail(w:Wb)(o:Oc)(s:Sc)(gnl:Bool)(gone:List Int)(e:Int)(h0:Oc0 o)(he:1<=e∧e<=99):W141 w o [.agg (scC s),.slice gnl [] (AS gone),.int .i64 e]=some (.tup [],⟨[],false,ryT (.fail e),true,[],w.v⟩,none):=by
 refine Ba (λ_=>h0.ops) ⟨Qa rfl,λh=>⟨h0.nl.symm,h0.ops.symm⟩,λl h=>(by cases h),λi m fr t ha hfr hni hni0=>?_⟩;have s54:S141 54=some (wQ W54):=rfl;have hW:=Wt.start ha hfr;unfold dc141;unfold scC;have h54:=W54_eq w o e h0 he;have he0:(e=0)=False:=eq_false (by omega);simp only[↓go1,gB3,go5,simprocAttr,he0,Ag s54];refine As (hW.put hfr hni0) hfr hni h54 ⟨_,_,_,_,rfl⟩ (λM c1 c2=>?_);simp only[↓go1,go2,simprocAttr];exact c1.end0 ha.2.2
def W141_ok(w:Wb)(o:Oc)(s:Sc)(gnl:Bool)(gone:List Int)(h0:Oc0 o)(hg:gone.length<=900)(hs:s.rs.length<=1000)(hp:w.a.pa.length<=1000000):W141 w o [.agg (scC s),.slice gnl [] (AS gone),.int .i64 0]=some (.tup [],turnO' o w.a.pa s gone,some (if gone=[]then [11,12,10]else [11,11*gone.length,18])):=by
 refine Ba (λ_=>h0.ops) ⟨Qa rfl,λh=>(by cases h),λl h=>(by simp only[Qp]at h;subst h;exact⟨rfl,by split<;>simp⟩),λi m fr t ha hfr hni hni0=>?_⟩;have s244:S141 244=some (wQ W244):=rfl;have s245:S141 245=some (wQ W245):=rfl;have s56:S141 56=some (wQ W56):=rfl;have hW:=Wt.start ha hfr;unfold dc141;have xx:=AO ha.1;have h244:=W244_eq w o w.a.pa s (λ_=>h0.ops) (by rw[h0.ops];simp) hs hp;have h245:=W245_eq w (o.op 1 (AZ 1 w.a.pa 0) (packB s)) w.a.pa gnl [] gone (λh=>by cases h) (by simp[Oc.op,h0.ops];omega) hp;have h56:=W56_eq w (BF (o.op 1 (AZ 1 w.a.pa 0) (packB s)) w.a.pa gone) (λh=>by simp[BF,Oc.op]at h);unfold scC at *;simp only[gB1,↓go1,go5,simprocAttr,xx.2.2.2.2.2.2.2.1,hni0,Ag s244];refine Ch (hW.put hfr hni0) hfr hni h244 ⟨_,_,_,_,rfl⟩ (λM u hu c1 c2=>?_);have xx:=AO c1.at_.1;simp only[↓go1,go3,simprocAttr];refine Ao.intro (λp hp=>by cases hp) ?_;simp only[↓go1,go2,go4,go5,simprocAttr,xx.2.2.2.2.2.2.2.1,Ag s245];refine As c1 hfr hni h245 ⟨_,_,_,_,rfl⟩ (λM2 d1 d2=>?_);simp only[↓go1,go2,go4,simprocAttr,Ag s56];refine As d1 hfr hni h56 ⟨_,_,_,_,rfl⟩ (λM3 e1 e2=>?_);simp only[↓go1,go2,simprocAttr];unfold dropN at e1;split
 ·rename_i hg0;rw[if_pos hg0]at e1;exact e1.endl (l:=[11,12,10]) (by simp)
 ·rename_i hg0;rw[if_neg hg0]at e1;exact e1.endl (l:=[11,11*gone.length,18]) (by simp)
def Fo(l:List Rw):List Int:=(l.filter λx=>!x.2.2).map (·.1)
def purN:List Rw->Nat->List Nat->List Nat
 |[],_,L=>L
 |x::r,c,L=>if x.2.2=true then purN r (c+10) L else purN r (c+20) [11,11,c+17]
def purN_ne:∀{l:List Rw} {c:Nat} {L:List Nat},L≠[]->purN l c L≠[]
 |[],_,_,h=>h
 |x::r,c,L,h=>by
  unfold purN;split
  ·exact purN_ne h
  ·exact purN_ne (by simp)
def FB(o:Oc)(p:Bs)(l:List Rw):Oc:=BF (o.op 2 (AZ 1 p 0) []) p (Fo l)
def dropO_app{o:Oc}{p:Bs}{a b:List Int}:BF (BF o p a) p b=BF o p (a++b):=by
 simp only[BF,Bool.and_assoc,Zf,List.append_assoc,Oc.mk.injEq,true_and,and_true];cases a<;>cases b<;>simp
def aliveN_len(l:List Rw):(Fo l).length<=l.length:=by
 unfold Fo;rw[Zs];exact List.length_filter_le _ _
def aliveN_snoc(l:List Rw)(x:Rw):Fo (l++[x])=Fo l++if x.2.2=true then []else [x.1]:=by
 simp only[Fo,List.filter_append,Zf];congr 1;cases h:x.2.2<;>simp[h]
def purO_nl{o:Oc}{p:Bs}{l:List Rw}:(FB o p l).nl=false:=by simp[FB,BF,Oc.op]
def purO_ops{o:Oc}{p:Bs}{l:List Rw}:(FB o p l).ops.length=o.ops.length+1+(Fo l).length:=by simp[FB,BF,Oc.op];omega
def S142:Summs:=AC [(123,Ac Cx),(122,wQ Fq),(245,wQ W245),(56,wQ W56)]
def W142:Wb->Oc->List D->Option WY:=RW S142 dc142 [] 37
def ko142:(wQ W142).ok Qc 142:=C_ fn142 (Ab ko123 (Ab ko122 (Ab ko245 (Ab ko56 Ad))))
def W142_eq(w:Wb)(o:Oc)(s:Sc)(h0:Oc0 o)(hs:s.rs.length<=900)(hp:w.a.pa.length<=1000000):W142 w o [.agg (scC s)]=some (.tup [],{FB o w.a.pa s.rs with rep:=ryT .done},some (purN s.rs 13 [11,8])):=by
 refine Ba (λ_=>h0.ops) ⟨Qa rfl,λh=>(by cases h),λl h=>(by simp only[Qp]at h;subst h;exact⟨purO_nl (o:=o) (p:=w.a.pa) (l:=s.rs),purN_ne (by simp)⟩),λi m fr t ha hfr hni hni0=>?_⟩;have s122:S142 122=some (wQ Fq):=rfl;have s245:S142 245=some (wQ W245):=rfl;have s56:S142 56=some (wQ W56):=rfl;have hW:=Wt.start ha hfr;unfold dc142;have xx:=AO ha.1;have h123:=CB 1 0 w.a.pa hp;have h122:=Dy w o 2 (AZ 1 w.a.pa 0) [] (λ_=>h0.ops) (by rw[h0.ops];simp);unfold scC;simp only[↓go1,gB3,go5,simprocAttr,xx.2.2.2.2.2.2.2.1,hni0,Al S142 123,h123,Ag s122];refine As (hW.put hfr hni0) hfr hni h122 ⟨_,_,_,_,rfl⟩ (λM c1 c2=>?_);simp only[↓go1,go2,go4,go5,simprocAttr,c2,AU];refine Bk (n:=s.rs.length) (I:=λj st=>st.s 15= .slice s.nl [] (A6 s.rs)∧st.s 16= .int .i64 s.rs.length∧st.s 17= .int .i64 (j:Int)∧st.s 0= .ptr i 0∧∃L,L≠[]∧purN (s.rs.drop j) st.c L=purN s.rs 13 [11,8]∧Wt i fr m o.nl t st.m w (FB o w.a.pa (s.rs.take j)) (L++fr)) (λj hj ih st g hI=>?_) (λst g hI=>?_) 0 (Qr _) _ _ ⟨rfl,rfl,rfl,rfl,[11,8],by simp,rfl,by have c3:Wt i fr m o.nl t M w (o.op 2 (AZ 1 w.a.pa 0) []) ([11,8]++fr):=c1;simpa[FB,Fo,dropO_nil]using c3⟩
 ·obtain⟨st_s,st_m,st_c⟩:=st;obtain⟨h15,h16,h17,hs0,L,hL,hn,hw⟩:=hI;simp only at h15 h16 h17 hs0 hn hw;refine Ae dc142l0.eq_1 ?_;have hlt:((j:Int)<(s.rs.length:Int))=True:=eq_true (by omega);have hj0:=nJ (j:=j);have hat:=EW (l:=s.rs) (j:=j) hj;have hw1:IntKind.i64.wrap ((j:Int)+1)=((j+1:Nat):Int):=by rw[w64 (by omega) (by omega)];omega
  have hd:s.rs.drop j=s.rs[j]::s.rs.drop (j+1):=Zj hj;have htk:s.rs.take (j+1)=s.rs.take j++[s.rs[j]]:=QY hj;rw[hd]at hn;generalize s.rs[j]=x at *;obtain⟨n,b,dead⟩:=x;have hal:=aliveN_snoc (s.rs.take j) (n,b,dead);rw[←htk]at hal;simp only at hal hat;have xx:=AO hw.at_.1;cases dead with
  |true=>
   simp only[gB1,↓go1,go5,simprocAttr,h15,h16,h17,hlt,hj0,Qo,hat,hw1];refine ih _ _ ⟨h15,h16,rfl,hs0,L,hL,by simpa[purN]using hn,?_⟩;have e:FB o w.a.pa (s.rs.take (j+1))=FB o w.a.pa (s.rs.take j):=by unfold FB;rw[hal];simp
   rw[e];exact((hw.put hfr hni0).put hfr hni0)
  |false=>
   have e:BF (FB o w.a.pa (s.rs.take j)) w.a.pa [n]=FB o w.a.pa (s.rs.take (j+1)):=by unfold FB;rw[hal,dropO_app];rfl
   have hop:(FB o w.a.pa (s.rs.take j)).ops.length+1<=1000:=by
    rw[purO_ops,h0.ops];have:=aliveN_len (s.rs.take j);rw[QV]at this;simp only[Ql];omega
   have h245:=W245_eq w (FB o w.a.pa (s.rs.take j)) w.a.pa false ((st_c+1+4+3+8)::fr) [n] (λh=>by rw[purO_nl]at h;cases h) hop hp;rw[e]at h245;have h245:W245 w (FB o w.a.pa (s.rs.take j)) [.str w.a.pa,.slice false ((st_c+1+4+3+8)::fr) [.int .i64 n]]=some (.tup [],FB o w.a.pa (s.rs.take (j+1)),some [11,11]):=h245;simp only[gB1,↓go1,go5,simprocAttr,hs0,h15,h16,h17,hlt,hj0,Qo,hat,xx.2.2.2.2.2.2.2.1,hni0,Ag s245];refine Ch (((hw.put hfr hni0).put hfr hni0).put hfr hni0) hfr hni h245 ⟨_,_,_,_,rfl⟩ (λM u hu c1 c2=>?_);simp only[↓go1,go3,go4,go5,simprocAttr];refine Ao.intro (Aj ?_) ?_
   ·simp[A5,AM,rds,Ai];show ¬((st_c+1+4+3+8)::fr,0)∈[(i,7)];intro hm;simp only[QA,Zl]at hm;exact(hni0 _).mp hm.1.symm
   simp only[↓go1,go2,simprocAttr,h17,hw1];refine ih _ _ ⟨h15,h16,rfl,hs0,[11,11,st_c+17],by simp,by simpa[purN]using hn,c1⟩
 ·obtain⟨st_s,st_m,st_c⟩:=st;obtain⟨h15,h16,h17,hs0,L,hL,hn,hw⟩:=hI;simp only at h15 h16 h17 hs0 hn hw;refine Ae dc142l0.eq_1 ?_;have h56:=W56_eq w (FB o w.a.pa s.rs) (λh=>by rw[purO_nl]at h;cases h);rw[Zq]at hw;rw[List.drop_length]at hn;simp only[↓go1,go2,go4,go5,simprocAttr,hs0,h16,h17,ZC,Ag s56];refine As hw hfr hni h56 ⟨_,_,_,_,rfl⟩ (λM c1 c2=>?_);simp only[↓go1,go2,simprocAttr];rw[←hn];exact c1.endl hL
def AT{l:Loc}{i:Id}{o n:Nat}(h:l∈Ai i o n):l.1=i:=by
 simp only[Ai,Q0]at h;obtain⟨_,_,rfl⟩:=h;rfl
def AB{l:Loc}{i:Id}{o:Nat}{ds:List D}(h:l∈AM [(i,o,ds)]):l.1=i:=by
 simp only[AM,Zk,Zm,List.append_nil]at h;exact AT h
def Az{l:Loc}{P:Prop}(h:l∈([]:List Loc)):P:=by cases h
def wriO(o:Oc)(p:Bs)(r:Sc×Int×List Int×Int)(data:Bs):Oc:={BF ((o.op 1 (AZ 1 p 0) (packB r.1)).op 1 (AZ 2 p r.2.1) data) p r.2.2.1 with rep:=ryT (.number r.2.1)}
def S138:Summs:=AC [(140,wQ W140),(243,Ac R243),(54,wQ W54),(244,wQ W244),(123,Ac Cx),(122,wQ Fq),(245,wQ W245),(55,wQ W55)]
def W138:Wb->Oc->List D->Option WY:=RW S138 dc138 [] 50
def ko138:(wQ W138).ok Qc 138:=C_ fn138 (Ab ko140 (Ab ko243 (Ab ko54 (Ab ko244 (Ab ko123 (Ab ko122 (Ab ko245 (Ab ko55 Ad))))))))
def W138_fail(w:Wb)(o:Oc)(p:Bs)(s:Sc)(cas:Int)(data:Bs)(h0:Oc0 o)(hs:s.rs.length<=800)(hnl:s.nl=true->s.rs=[])(hp:p.length<=1000000)(hd:data.length<=1000000)(hm:w.v.ms.length<=1000)(r:Sc×Int×List Int×Int)(hr:CK s (B9 w.v p).1 (B9 w.v p).2 cas data.length=r)(he:1<=r.2.2.2∧r.2.2.2<=99):W138 w o [.str p,.agg (scC s),.int .i64 cas,.str data]=some (.tup [],⟨[],false,ryT (.fail r.2.2.2),true,[],w.v⟩,none):=by
 refine Ba (λ_=>h0.ops) ⟨Qa rfl,λh=>⟨h0.nl.symm,h0.ops.symm⟩,λl h=>(by cases h),λi m fr t ha hfr hni hni0=>?_⟩;have s140:S138 140=some (wQ W140):=rfl;have s54:S138 54=some (wQ W54):=rfl;have hW:=Wt.start ha hfr;unfold dc138;have h243:=R243_eq s (B9 w.v p).1 (B9 w.v p).2 cas data.length (by omega) hnl;rw[hr]at h243;obtain⟨s2,n,gone,e⟩:=r;simp only at he h243 ⊢;have h140:=W140_eq w o p (λ_=>h0.ops) hm;generalize B9 w.v p=qb at *;unfold scC at *;simp only[gB1,↓go1,go5,simprocAttr,Ag s140];refine Ch (hW.put hfr hni0) hfr hni h140 ⟨_,_,_,_,rfl⟩ (λM u hu c1 c2=>?_);simp only[gB1,↓go1,go5,simprocAttr,Al S138 243,h243];refine Ao.intro ?_ ?_
 ·subst hu;have a1:=at24 (hW.put hfr hni0 (q:=0) (p:=0) (ys:=[.int .i64 s.mx,.bool s.cas,.int .i64 s.la,.slice s.nl [] (A6 s.rs)])).at_.1;intro pp hpp l hl;simp only[Qx,QR,or_false]at hpp;rcases hpp with rfl|rfl|rfl|rfl|rfl|rfl
  ·change l∈AM [(i,0,wkC w o t)]at hl;refine⟨λh=>?_,λh=>Az h⟩;change l∈Ai (0::fr) 0 4 at h;exact(hni0 0).mp ((AB hl).symm.trans (AT h))
  ·change l∈AM [(i,0,wkC w o t)]at hl;exact⟨λh=>Az h,λh=>(hni0 14).mp ((AB hl).symm.trans (AB h))⟩
  ·exact Az hl
  ·have hl':l.1=14::fr:=AB hl;refine⟨λh=>?_,λh=>Az h⟩;change l∈Ai (0::fr) 0 4 at h;have:=hl'.symm.trans (AT h);simp at this
  ·have hl':l.1=14::fr:=AB hl;refine⟨λh=>?_,λh=>?_⟩
   ·rcases QT.1 h with h|h
    ·exact(hni0 14).mp ((AT h).symm.trans hl')
    ·rw[a1]at h;rw[QA.1 h]at hl';exact hW.loc 14 hl'
   ·change l∈AM [(i,0,wkC w o t)]at h;exact(hni0 14).mp ((AB h).symm.trans hl')
  ·exact⟨λh=>Az h,λh=>Az h⟩
 have h54:=W54_eq w o e h0 he;have he0:(e=0)=False:=eq_false (by omega);simp only[↓go1,gB3,go5,simprocAttr,he0,Ag s54];refine As ((c1.put hfr hni0).put hfr hni0) hfr hni h54 ⟨_,_,_,_,rfl⟩ (λM2 d1 d2=>?_);simp only[↓go1,go2,simprocAttr];exact d1.end0 ha.2.2
def W138_ok(w:Wb)(o:Oc)(p:Bs)(s:Sc)(cas:Int)(data:Bs)(h0:Oc0 o)(hs:s.rs.length<=800)(hnl:s.nl=true->s.rs=[])(hp:p.length<=1000000)(hd:data.length<=1000000)(hm:w.v.ms.length<=1000)(r:Sc×Int×List Int×Int)(hr:CK s (B9 w.v p).1 (B9 w.v p).2 cas data.length=r)(he:r.2.2.2=0)(hs2:r.1.rs.length<=1000)(hg:r.2.2.1.length<=900):W138 w o [.str p,.agg (scC s),.int .i64 cas,.str data]=some (.tup [],wriO o p r data,some (if r.2.2.1=[]then [11,30]else [11,11*r.2.2.1.length,34])):=by
 refine Ba (λ_=>h0.ops) ⟨Qa rfl,λh=>(by cases h),λl h=>(by simp only[Qp]at h;subst h;exact⟨by simp[wriO,BF,Oc.op],by split<;>simp⟩),λi m fr t ha hfr hni hni0=>?_⟩;have s140:S138 140=some (wQ W140):=rfl;have s244:S138 244=some (wQ W244):=rfl;have s123:S138 123=some (Ac Cx):=rfl;have s122:S138 122=some (wQ Fq):=rfl;have s245:S138 245=some (wQ W245):=rfl;have s55:S138 55=some (wQ W55):=rfl;have hW:=Wt.start ha hfr;unfold dc138;have h243:=R243_eq s (B9 w.v p).1 (B9 w.v p).2 cas data.length (by omega) hnl;rw[hr]at h243;obtain⟨s2,n,gone,e⟩:=r;simp only at he h243 hs2 hg ⊢;subst he;have h140:=W140_eq w o p (λ_=>h0.ops) hm;generalize B9 w.v p=qb at *;unfold scC at *;simp only[gB1,↓go1,go5,simprocAttr,Ag s140];refine Ch (hW.put hfr hni0) hfr hni h140 ⟨_,_,_,_,rfl⟩ (λM u hu c1 c2=>?_);simp only[gB1,↓go1,go5,simprocAttr,Al S138 243,h243];refine Ao.intro ?_ ?_
 ·subst hu;have a1:=at24 (hW.put hfr hni0 (q:=0) (p:=0) (ys:=[.int .i64 s.mx,.bool s.cas,.int .i64 s.la,.slice s.nl [] (A6 s.rs)])).at_.1;intro pp hpp l hl;simp only[Qx,QR,or_false]at hpp;rcases hpp with rfl|rfl|rfl|rfl|rfl|rfl
  ·change l∈AM [(i,0,wkC w o t)]at hl;refine⟨λh=>?_,λh=>Az h⟩;change l∈Ai (0::fr) 0 4 at h;exact(hni0 0).mp ((AB hl).symm.trans (AT h))
  ·change l∈AM [(i,0,wkC w o t)]at hl;exact⟨λh=>Az h,λh=>(hni0 14).mp ((AB hl).symm.trans (AB h))⟩
  ·exact Az hl
  ·have hl':l.1=14::fr:=AB hl;refine⟨λh=>?_,λh=>Az h⟩;change l∈Ai (0::fr) 0 4 at h;have:=hl'.symm.trans (AT h);simp at this
  ·have hl':l.1=14::fr:=AB hl;refine⟨λh=>?_,λh=>?_⟩
   ·rcases QT.1 h with h|h
    ·exact(hni0 14).mp ((AT h).symm.trans hl')
    ·rw[a1]at h;rw[QA.1 h]at hl';exact hW.loc 14 hl'
   ·change l∈AM [(i,0,wkC w o t)]at h;exact(hni0 14).mp ((AB h).symm.trans hl')
  ·exact⟨λh=>Az h,λh=>Az h⟩
 have h244:=W244_eq w o p s2 (λ_=>h0.ops) (by rw[h0.ops];simp) hs2 hp;have h123:=CB 2 n p hp;have h122:=Dy w (o.op 1 (AZ 1 p 0) (packB s2)) 1 (AZ 2 p n) data (λh=>by cases h) (by simp[Oc.op,h0.ops]);have h245:=W245_eq w ((o.op 1 (AZ 1 p 0) (packB s2)).op 1 (AZ 2 p n) data) p (decide (gone=[])) [] gone (λh=>by cases h) (by simp[Oc.op,h0.ops];omega) hp;have h55:=Gi w (BF ((o.op 1 (AZ 1 p 0) (packB s2)).op 1 (AZ 2 p n) data) p gone) (.number n) (λh=>by simp[BF,Oc.op]at h) trivial trivial;unfold scC at h244;unfold ryC at h55;simp only[gB1,↓go1,go5,simprocAttr,Ag s244];refine As ((c1.put hfr hni0).put hfr hni0) hfr hni h244 ⟨_,_,_,_,rfl⟩ (λM2 d1 d2=>?_);simp only[↓go1,gB3,simprocAttr,Aa s123,h123,Ag s122];refine As d1 hfr hni h122 ⟨_,_,_,_,rfl⟩ (λM3 e1 e2=>?_);simp only[↓go1,go2,go4,simprocAttr,Ag s245];refine As e1 hfr hni h245 ⟨_,_,_,_,rfl⟩ (λM4 f1 f2=>?_);simp only[↓go1,gB3,go5,simprocAttr,Ag s55];refine As f1 hfr hni h55 ⟨_,_,_,_,rfl⟩ (λM5 g1 g2=>?_);simp only[↓go1,go2,simprocAttr];unfold dropN at g1;split
 ·rename_i hg0;rw[if_pos hg0]at g1;exact g1.endl (l:=[11,30]) (by simp)
 ·rename_i hg0;rw[if_neg hg0]at g1;exact g1.endl (l:=[11,11*gone.length,34]) (by simp)
def FV{q:UInt8}:∀{l:List Bs},l≠[]->(∀w∈l,q∉w)->splitC q (Lib.join l [q])=l
 |[],h,_=>absurd rfl h
 |[x],_,h=>by
  have e:Lib.join [x] [q]=x:=by simp[Lib.join]
  rw[e];exact split_one (h x (List.mem_singleton_self _))
 |x::y::r,_,h=>by
  have e:Lib.join (x::y::r) [q]=x++q::Lib.join (y::r) [q]:=by simp[Lib.join]
  rw[e,split_word (h x (Q5 ..)),FV (by simp) (λw hw=>h w (List.mem_cons_of_mem _ hw))]
def rowW1_ne(x:Rw)(h:0<=x.1∧x.1<1000):∀c∈rowW1 x,c=33∨c=35∨48<=c.toNat∧c.toNat<=57:=by
 intro c hc;unfold rowW1 at hc;rcases QT.1 hc with hc|hc
 ·rcases QT.1 hc with hc|hc
  ·exact .inr (.inr (numB_dig _ (by omega) c hc))
  ·split at hc
   ·exact .inl (QA.1 hc)
   ·cases hc
 ·split at hc
  ·exact .inr (.inl (QA.1 hc))
  ·cases hc
def row_44(x:Rw)(h:0<=x.1∧x.1<1000):(44:UInt8)∉rowW1 x:=λhc=>by
 rcases rowW1_ne x h 44 hc with h|h|h
 ·cases h
 ·cases h
 ·exact absurd h.1 (by decide)
def row_n45(x:Rw)(h:0<=x.1∧x.1<1000)(l:List Rw):Lib.join ((x::l).map rowW1) [44]≠[45]:=λe=>by
 have h1:=rowW1_ne x h;have h2:rowW1 x≠[]:=by
  have:=numB_one x.1.toNat;unfold rowW1;intro e;simp only[Q7]at e;rw[e.1.1]at this;simp at this
 obtain⟨c,r,hr⟩:=Zi h2;have:∃r',Lib.join ((x::l).map rowW1) [44]=c::r':=by
  cases l with
  |nil=>exact⟨r,by simp[Lib.join,hr]⟩
  |cons y l=>exact⟨r++[44]++Lib.join ((y::l).map rowW1) [44],by simp[Lib.join,hr]⟩
 obtain⟨r',hr'⟩:=this;rw[hr']at e;have hc:c=45:=(List.cons.inj e).1;rcases h1 c (by rw[hr];exact Q5 ..)with h|h|h
 ·rw[hc]at h;cases h
 ·rw[hc]at h;cases h
 ·rw[hc]at h;exact absurd h.1 (by decide)
def Fsplit_eq{s:Bs}{q:UInt8}(h:s.length<=1000000):CZ [.str s,.str [q]]=some (.slice false [] (Au (splitC q s))):=if_pos h
def S188:Summs:=AC [(90,Ac R90),(290,Ac R290),(291,Ac R291),(88,Ac CZ)]
def R188:List D->Option D:=RF S188 dc188 [.cell (some 4) 2] 42
def ko188:(Ac R188).ok Qc 188:=AH fn188 (Ab ko90 (Ab ko290 (Ab ko291 (Ab ok88 Ad))))
def R188_eq(s:Sc)(g1:s.rs.length<=100)(g2:0<=s.mx∧s.mx<1000)(g3:0<=s.la∧s.la<1000)(g4:∀x∈s.rs,0<=x.1∧x.1<1000):R188 [.slice false [] [.str (BT s.mx.toNat),.str [if s.cas=true then 49 else 48],.str (BT s.la.toNat),.str (C8 (s.rs.map rowW1))]]=some (.agg (scC {s with nl:=decide (s.rs=[])})):=by
 refine AE (Qa rfl) ?_;have s290:S188 290=some (Ac R290):=rfl;have s291:S188 291=some (Ac R291):=rfl;have s88:S188 88=some (Ac CZ):=rfl;unfold dc188;obtain⟨mx,cas,la,nl,rs⟩:=s;simp only at g1 g2 g3 g4;have a1:=Fg mx.toNat (by omega);rw[QE g2.1]at a1;have a2:=Fg la.toNat (by omega);rw[QE g3.1]at a2;have a3:R290 [.str [if cas=true then 49 else 48]]=some (.bool cas):=by
  rw[←R290_eq cas];cases cas<;>rfl
 have i0:∀a b c d:D,[a,b,c,d][ZD 0]?=some a:=λ_ _ _ _=>rfl
 have i1:∀a b c d:D,[a,b,c,d][ZD 1]?=some b:=λ_ _ _ _=>rfl
 have i2:∀a b c d:D,[a,b,c,d][ZD 2]?=some c:=λ_ _ _ _=>rfl
 have i3:∀a b c d:D,[a,b,c,d][ZD 3]?=some d:=λ_ _ _ _=>rfl
 by_cases hrs:rs=[]
 ·subst hrs;have e:(C8 (Zw rowW1 [])=[45])=True:=eq_true rfl;simp only[gB1,↓go1,go5,reduceIte,Qi,Qn,QJ,QD,reduceCtorEq,QP,i0,i1,i2,Al S188 90,a1,a2,Aa s290,a3]
  (refine Ao.intro (Aj ?_) ?_;first|rfl|simp[A5,AM,rds,Ai,Ac])
  simp only[gB1,↓go1,go5,reduceIte,Qi,Qn,QJ,reduceCtorEq,QP,i3,e]
  all_goals first|rfl|exact⟨rfl,rfl⟩|simp[*]
 ·have e:(C8 (rs.map rowW1)=[45])=False:=eq_false (λh=>by
   obtain⟨x,l,rfl⟩:=Zi hrs;exact row_n45 x (g4 x (Q5 ..)) l h)
  have hw:C8 (rs.map rowW1)=Lib.join (rs.map rowW1) [44]:=if_neg (by simpa using hrs);have hsr:=sum_rows rs;have hjl:=DV (rs.map rowW1) [44];have h88:=Fsplit_eq (s:=C8 (rs.map rowW1)) (q:=44) (by rw[hw];simp at hjl;omega);have hsp:splitC 44 (C8 (rs.map rowW1))=rs.map rowW1:=by
   rw[hw];exact FV (by simpa using hrs) λw hx=>by obtain⟨x,hx',rfl⟩:=Q0.1 hx;exact row_44 x (g4 x hx')
  rw[hsp]at h88;have hsl:(Au (rs.map rowW1)).length=rs.length:=by simp[Au]
  have hdc:decide (rs=[])=false:=decide_eq_false hrs;have a4:=λx hx=>R291_eq x (g4 x hx)
  simp only[gB1,↓go1,go5,reduceIte,Qi,Qn,QJ,QD,reduceCtorEq,QP,i0,i1,i2,Al S188 90,a1,a2,Aa s290,a3]
  (refine Ao.intro (Aj ?_) ?_;first|rfl|simp[A5,AM,rds,Ai,Ac])
  simp only[↓go1,gB3,go5,reduceIte,Qi,Qn,reduceCtorEq,QP,i3,e,Aa s88,h88,hsl];refine Bk (n:=rs.length) (I:=λj st=>st.s 27= .slice false [] (Au (rs.map rowW1))∧st.s 28= .int .i64 rs.length∧st.s 29= .int .i64 (j:Int)∧st.s 2= .ptr [0] 0∧st.s 3= .ptr [14] 0∧(st.m [0] 0=some (.int .i64 0)∧st.m [0] 1=some (.bool false)∧st.m [0] 2=some (.int .i64 0)∧st.m [0] 3=some (.slice true [] []))∧st.m [14] 0=some (.int .i64 mx)∧st.m [14] 1=some (.bool cas)∧st.m [14] 2=some (.int .i64 la)∧26<=st.c∧∃t,st.m [14] 3=some (.slice (decide (j=0)) t (A6 (rs.take j)))∧(decide (j=0)=true∨∃i,t=[i]∧26<=i∧i<st.c∧st.m t 0=some (.tok 229))) (λj hj ih st g hI=>?_) (λst g hI=>?_) 0 (Qr _) _ _ ⟨rfl,rfl,rfl,rfl,rfl,⟨rfl,rfl,rfl,rfl⟩,rfl,rfl,rfl,QS 26,_,rfl,.inl rfl⟩
  ·obtain⟨st_s,st_m,st_c⟩:=st;obtain⟨h27,h28,h29,h2,h3,⟨z0,z1,z2,z3⟩,m1,m2,m3,hc,t,m4,hT⟩:=hI;simp only at h27 h28 h29 h2 h3 z0 z1 z2 z3 m1 m2 m3 hc m4 hT;refine Ae dc188l0.eq_1 ?_;have hlt:((j:Int)<rs.length):=by omega
   have hj0:=nJ (j:=j);have hw:=wJ (j:=j) (by omega);have hat:(Au (rs.map rowW1))[j]?=some (.str (rowW1 rs[j])):=by simp[Au,hj]
   have h291:=a4 rs[j] (QC hj);have htk:A6 (rs.take (j+1))=A6 (rs.take j)++[.agg [.int .i64 rs[j].1,.bool rs[j].2.1,.bool rs[j].2.2]]:=by
    unfold A6;rw[QY hj,Zf];rfl
   have hnil:decide (j=0)=true->A6 (rs.take j)=[]:=λh=>by
    have:j=0:=by simpa using h
    subst this;rfl
   have hal:(A6 (rs.take j)).length=j:=by simp[A6];omega
   generalize hacc:A6 (rs.take j)=acc at m4 htk hal hnil;generalize decide (j=0)=nb at m4 hnil hT;generalize rs[j]=x at hat htk h291;have oth:∀{o y p},(st_m.put [st_c+p] 0 y) [14] o=st_m [14] o:=Mem.put_other (by simp;omega);simp only[↓go1,gB3,go5,reduceIte,Qi,Qn,reduceCtorEq,h27,h28,h29,h3,m4,hlt,hj0,Qo,hat,Aa s291,h291];have hGr:Grow (st_m.put [st_c+1+3+4] 0 [.tok 229]) 228 (.slice nb t acc):=by
    rcases hT with h|⟨i,rfl,h1,h2,h3⟩
    ·exact .inl h
    ·exact .inr ⟨by rw[Mem.put_other (by simp;omega)];exact h3,by simp⟩
   refine Ao.intro ⟨by omega,rfl,hGr⟩ ?_;rw[BG hnil,←htk];obtain⟨M,hMe,M14,M0,Mt⟩:∃M,Upd.app (st_m.put [st_c+1+3+4] 0 [D.tok 229]) (Bg 228 [st_c+1+3+5] (D.slice nb t acc))=M∧(∀o,M [14] o=st_m [14] o)∧(∀o,M [0] o=st_m [0] o)∧M [st_c+1+3+5] 0=some (.tok 229):=by
    have p:∀(m:Mem)(k o:Nat)(y:List D),26<=k->(∀q,m.put [k] o y [14] q=m [14] q)∧(∀q,m.put [k] o y [0] q=m [0] q):=λm k o y hk=>⟨λq=>Mem.put_other (by simp;omega),λq=>Mem.put_other (by simp;omega)⟩
    refine⟨_,rfl,?_⟩;cases nb with
    |true=>
     show(∀o,((st_m.put [st_c+1+3+4] 0 [D.tok 229]).put [st_c+1+3+5] 0 [.tok 229]) [14] o=_)∧(∀o,((st_m.put [st_c+1+3+4] 0 [D.tok 229]).put [st_c+1+3+5] 0 [.tok 229]) [0] o=_)∧((st_m.put [st_c+1+3+4] 0 [D.tok 229]).put [st_c+1+3+5] 0 [.tok 229]) [st_c+1+3+5] 0=_;exact⟨λo=>((p _ _ _ _ (by omega)).1 o).trans ((p _ _ _ _ (by omega)).1 o),λo=>((p _ _ _ _ (by omega)).2 o).trans ((p _ _ _ _ (by omega)).2 o),by rw[Bm,if_pos ⟨rfl,rfl⟩]⟩
    |false=>
     rcases hT with h|⟨i,rfl,h1,h2,h3⟩
     ·cases h
     show(∀o,(((st_m.put [st_c+1+3+4] 0 [D.tok 229]).put [i] 0 [.tok 0]).put [st_c+1+3+5] 0 [.tok 229]) [14] o=_)∧(∀o,(((st_m.put [st_c+1+3+4] 0 [D.tok 229]).put [i] 0 [.tok 0]).put [st_c+1+3+5] 0 [.tok 229]) [0] o=_)∧(((st_m.put [st_c+1+3+4] 0 [D.tok 229]).put [i] 0 [.tok 0]).put [st_c+1+3+5] 0 [.tok 229]) [st_c+1+3+5] 0=_;exact⟨λo=>((p _ _ _ _ (by omega)).1 o).trans (((p _ _ _ _ h1).1 o).trans ((p _ _ _ _ (by omega)).1 o)),λo=>((p _ _ _ _ (by omega)).2 o).trans (((p _ _ _ _ h1).2 o).trans ((p _ _ _ _ (by omega)).2 o)),by rw[Bm,if_pos ⟨rfl,rfl⟩]⟩
   simp only[gB1,↓go1,go5,reduceIte,Qi,Qn,h3,hMe,M14,m4,Qe];refine Ao.intro ?_ ?_
   ·intro pp hpp l hl;simp only[Qx,QR,or_false]at hpp;rcases hpp with rfl|rfl
    ·exact Az hl
    ·have hl1:l.1=[st_c+1+3+4]:=AB hl;refine⟨λh=>?_,λh=>Az h⟩;change l∈Ai [14] 3 1 at h;have:=hl1.symm.trans (AT h);simp at this;omega
   have hj1:decide (j+1=0)=false:=decide_eq_false (by omega);rw[hj1]at ih;simp only[↓go1,gB3,reduceIte,Qi,Qn,h29,hw];subst hMe;refine ih _ _ ?_;exact⟨h27,h28,rfl,h2,h3,⟨(M0 0).trans z0,(M0 1).trans z1,(M0 2).trans z2,(M0 3).trans z3⟩,(M14 0).trans m1,(M14 1).trans m2,(M14 2).trans m3,Nat.le_trans hc (by show st_c<=st_c+1+3+8+2;omega),[st_c+1+3+5],rfl,.inr ⟨_,rfl,by omega,by show _<st_c+1+3+8+2;omega,(Mem.put_other (by simp;omega)).trans Mt⟩⟩
  ·obtain⟨st_s,st_m,st_c⟩:=st;obtain⟨h27,h28,h29,h2,h3,⟨z0,z1,z2,z3⟩,m1,m2,m3,hc,t,m4,hT⟩:=hI;simp only at h27 h28 h29 h2 h3 z0 z1 z2 z3 m1 m2 m3 hc m4 hT;refine Ae dc188l0.eq_1 ?_;rw[Zq]at m4;have hdj:decide (rs.length=0)=false:=decide_eq_false (λh=>hrs (Zo.1 h));rw[hdj]at m4;unfold scC;rw[hdc];simp only[gB1,↓go1,go5,reduceIte,Qi,Qn,QJ,h28,h29,ZC,h2,h3,z0,z1,z2,z3,m1,m2,m3,m4,Qe]
   all_goals first|rfl|exact⟨rfl,rfl⟩|simp[*]
def ryQ:Ry->Ry
 | .about s=> .about {s with nl:=decide (s.rs=[])}
 | .names _ l=> .names (decide (l=[])) l
 |y=>y
def ryS:Ry->Prop
 | .fail _=>False
 | .names _ l=>(∀w∈l,(44:UInt8)∉w)∧l≠[[45]]∧Cp l<=900000
 |_=>True
def S91:Summs:=AC [(89,Ac R89),(90,Ac R90),(187,Ac R187),(188,Ac R188),(88,Ac CZ)]
def R91:List D->Option D:=RF S91 dc91 [.cell (some 10) 2] 96
def ko91:(Ac R91).ok Qc 91:=AH fn91 (Ab ko89 (Ab ko90 (Ab ko187 (Ab ko188 (Ab ok88 Ad)))))
def R91_eq(y:Ry)(h:ryG y)(hs:ryS y):R91 [.slice false [] (Au (ryW y).tail)]=some (.agg (ryC (ryQ y))):=by
 refine AE (Qa rfl) ?_;have s90:S91 90=some (Ac R90):=rfl;have s187:S91 187=some (Ac R187):=rfl;have s188:S91 188=some (Ac R188):=rfl;have s88:S91 88=some (Ac CZ):=rfl;unfold dc91;have h89:=R89_eq;have y0:((0:Nat):Int)=0:=rfl;have y1:((1:Nat):Int)=1:=rfl;have c1:(decide (([115,101,97,108,101,100]:Bs)=[115,101,97,108,101,100]))=true:=rfl;have c2:(decide (([111,112,101,110]:Bs)=[115,101,97,108,101,100]))=false:=rfl;have c3:(decide (([111,112,101,110]:Bs)=[111,112,101,110]))=true:=rfl;have c4:(decide (([110,117,109,98,101,114]:Bs)=[110,117,109,98,101,114]))=true:=rfl;have c5:(decide (([110,97,109,101,115]:Bs)=[110,117,109,98,101,114]))=false:=rfl;have c6:(decide (([110,97,109,101,115]:Bs)=[110,97,109,101,115]))=true:=rfl;have c7:(decide (([102,111,117,110,100]:Bs)=[102,111,117,110,100]))=true:=rfl;have c8:(decide (([97,98,111,117,116]:Bs)=[97,98,111,117,116]))=true:=rfl;cases y with
 |fail e=>exact hs.elim
 |done=>
  unfold ryW ryQ ryC Au;simp only[gB1,↓go1,go5,reduceIte,Qi,Qn,QJ,QD,reduceCtorEq,QW,Qt,Qs,Ql,Qg,Qf,Qm,QI,y0]
  all_goals first|rfl|exact⟨rfl,rfl⟩|simp[*]
 |state b=>
  unfold ryW ryQ ryC Au;cases b with
  |true=>
   simp only[gB1,↓go1,go5,reduceIte,Qi,Qn,QJ,QD,reduceCtorEq,Q2,QP,QW,Qt,Qs,Ql,Qg,QQ,Qf,Qm,QI,y1,Al S91 89,h89]
   all_goals first|rfl|exact⟨rfl,rfl⟩|simp[*]
  |false=>
   simp only[gB1,↓go1,go5,reduceIte,Qi,Qn,QJ,QD,reduceCtorEq,Q2,QP,QW,Qt,Qs,Ql,Qg,QQ,Qf,Qm,QI,y1,c2,Al S91 89,h89]
   all_goals first|rfl|exact⟨rfl,rfl⟩|simp[*]
 |number n=>
  have h90:=Fg n.toNat (by have:=h.1;have:=h.2;omega);rw[QE h.1]at h90;unfold ryW ryQ ryC Au;simp only[gB1,↓go1,go5,reduceIte,Qi,Qn,QJ,QD,reduceCtorEq,Q2,QP,QW,Qt,Qs,Ql,Qg,QQ,Qf,Qm,QI,Aa s90,h90]
  all_goals first|rfl|exact⟨rfl,rfl⟩|simp[*]
 |found n d=>
  have h90:=Fg n.toNat (by have:=h.1;have:=h.2;omega);rw[QE h.1]at h90;have h187:=R187_eq d (by have:=h.2.2;omega);unfold ryW ryQ ryC Au;simp only[gB1,↓go1,go5,reduceIte,Qi,Qn,QJ,QD,reduceCtorEq,Q2,QP,QW,Qt,Qs,Ql,Qg,QQ,Qf,Qm,QI,Aa s90,h90,Aa s187,h187]
  (refine Ao.intro (Aj ?_) ?_;first|rfl|simp[A5,AM,rds,Ai,Ac])
  simp only[gB1,↓go1,go5,reduceIte,Qi,Qn,QJ]
  all_goals first|rfl|exact⟨rfl,rfl⟩|simp[*]
 |about s=>
  obtain⟨g1,g2,g3,g4⟩:=h;have h188:=R188_eq s g1 g2 g3 g4;unfold ryW ryQ ryC Au;unfold scC at h188;simp only[↓go1,gB3,go5,reduceIte,Qi,Qn,reduceCtorEq,Q2,QP,QW,Qt,Qs,Ql,Qg,QQ,Qf,QI];refine Ao.intro rfl ?_;simp only[gB1,↓go1,go5,reduceIte,Qi,Qn,QJ,QD,Nat.reduceSub,QP,Qt,Qs,Ql,Qg,QQ,Qf,Qm,QI,QQ,QF,Qw,Qu,QB,Aa s188,h188]
  all_goals first|rfl|exact⟨rfl,rfl⟩|simp[*]
 |names nl l=>
  have hs1:∀w∈l,(44:UInt8)∉w:=hs.1;have hjl:=DV l [44];have h88:=Fsplit_eq (s:=C8 l) (q:=44) (by have:=hs.2.2;have:=h.1;unfold C8;split<;>simp at hjl ⊢;omega);unfold ryW ryQ ryC;by_cases hl:l=[]
  ·subst hl;have e:(C8 []=[45])=True:=eq_true rfl;unfold Au;simp only[gB1,↓go1,go5,reduceIte,Qi,Qn,QJ,QD,reduceCtorEq,Q2,QP,QW,Qt,Qs,Ql,Qg,QQ,Qf,Qm,QI,c5,Al S91 89,h89,e]
   all_goals first|rfl|exact⟨rfl,rfl⟩|simp[*]
  ·have hw:C8 l=Lib.join l [44]:=if_neg hl;have hsp:splitC 44 (C8 l)=l:=by rw[hw];exact FV hl hs1
   have e:(C8 l=[45])=False:=eq_false (λh=>by
    rw[h]at hsp;exact hs.2.1 (hsp.symm.trans rfl))
   rw[hsp]at h88;have hdl:decide (l=[])=false:=decide_eq_false hl;unfold Au at *;simp only[gB1,↓go1,go5,reduceIte,Qi,Qn,QJ,QD,reduceCtorEq,Q2,QP,QW,Qt,Qs,Ql,Qg,QQ,Qf,Qm,QI,c5,Al S91 89,h89,e,hdl,Aa s88,h88]
   all_goals first|rfl|exact⟨rfl,rfl⟩|simp[*]
end Go.Vd
namespace Go.Vd
open Go.Proofs
def dc64:DC:=(sr [mm 16 0,mm 17 0,nk 18 17,ff 19 5 18,ff 20 2 19,ll 21 20,c2 22 135 16 21,mm 15 22,xx 23 0 15,xx 24 1 15,xx 25 2 15,al 2 [zi,zb,zi,zn],st 4 2 23,mm 3 24,mm 4 25] (.seq (sr [mm 26 4,nt 27 26] (cd 27 .ret .skip)) (.block 0 (sr [mm 45 0,nk 46 45,ff 47 5 46,ff 48 0 47,ll 49 48,bu 50 .eql 49 10,mm 44 50] (cd 44 (.drawn [mm 51 0,mm 52 0,nk 53 52,ff 54 5 53,ff 55 2 54,ll 56 55,lk 57 4 2,mm 58 0,nk 59 58,ff 60 5 59,ff 61 5 60,ll 62 61,mm 63 0,nk 64 63,ff 65 5 64,ff 66 8 65,ll 67 66,cc 68 138 [(.t 51),(.t 56),(.t 57),(.t 62),(.t 67)]] []) (sr [mm 70 0,nk 71 70,ff 72 5 71,ff 73 0 72,ll 74 73,bu 75 .eql 74 15,mm 69 75] (cd 69 (.seq (.drawn [lk 77 4 2,mm 78 0,mm 79 0,nk 80 79,ff 81 5 80,ff 82 2 81,ll 83 82,c2 84 140 78 83,mm 85 0,nk 86 85,ff 87 5 86,ff 88 4 87,ll 89 88,mm 90 0,nk 91 90,ff 92 5 91,ff 93 6 92,ll 94 93,cc 95 139 [(.t 77),(.t 84),(.t 89),(.t 94)],mm 76 95,xx 96 0 76,xx 97 1 76,xx 98 2 76,al 5 [zi,zb,zi,zn],st 4 5 96,mm 6 97,mm 7 98] [(7,0),(7,12),(7,17),(7,23),(18,23),(23,0),(23,6),(23,7),(23,12),(23,17),(23,18)]) (.row [mm 99 0,lk 100 4 5,mm 101 6,mm 102 7,cc 103 141 [(.t 99),(.t 100),(.t 101),(.t 102)]])) (sr [mm 105 3,nt 106 105,mm 104 106] (cd 104 (.row [mm 107 0,cc 108 54 [(.t 107),(.c (.int .i64 6))]]) (sr [mm 110 0,nk 111 110,ff 112 5 111,ff 113 0 112,ll 114 113,bu 115 .eql 114 14,mm 109 115] (cd 109 (.row [mm 116 0,lk 117 4 2,oo 118 (.build [zu,zi,zi,zs,zn,zi,zb,zi,zn,zb] [(0,1,(.c (.int .u8 4))),(5,4,(.t 117))]),c2 119 55 116 118]) (sr [mm 121 0,nk 122 121,ff 123 5 122,ff 124 0 123,ll 125 124,bu 126 .eql 125 16,mm 120 126] (cd 120 (.row [mm 127 0,lk 128 4 2,c2 129 142 127 128]) (sr [mm 131 0,nk 132 131,ff 133 5 132,ff 134 0 133,ll 135 134,bu 136 .eql 135 11,mm 130 136] (cd 130 (.seq (.drawn [lk 138 4 2,mm 139 0,nk 140 139,ff 141 5 140,ff 142 7 141,ll 143 142,c2 144 143 138 143,mm 137 144,xx 145 0 137,xx 146 1 137,al 8 [zi,zb,zi,zn],st 4 8 145,mm 9 146] [(6,10),(10,0),(10,5),(10,6)]) (.row [mm 147 0,lk 148 4 8,mm 149 9,cc 150 141 [(.t 147),(.t 148),(.c (.slice true [] [])),(.t 149)]])) (sr [mm 152 0,nk 153 152,ff 154 5 153,ff 155 0 154,ll 156 155,bu 157 .eql 156 12,mm 151 157] (cd 151 (.seq (.drawn [lk 159 4 2,mm 160 0,nk 161 160,ff 162 5 161,ff 163 7 162,ll 164 163,c2 165 144 159 164,mm 158 165,xx 166 0 158,xx 167 1 158,al 10 [zi,zb,zi,zn],st 4 10 166,mm 11 167] [(6,10),(10,0),(10,5),(10,6)]) (.row [mm 168 0,lk 169 4 10,mm 170 11,cc 171 141 [(.t 168),(.t 169),(.c (.slice true [] [])),(.t 170)]])) (.seq (.drawn [lk 29 4 2,mm 30 0,nk 31 30,ff 32 5 31,ff 33 7 32,ll 34 33,c2 35 145 29 34,mm 28 35,xx 36 0 28,xx 37 1 28,xx 38 2 28,al 12 [zi,zb,zi,zn],st 4 12 36,mm 13 37,mm 14 38] [(6,11),(11,0),(11,5),(11,6)]) (.row [mm 39 0,lk 40 4 12,mm 41 13,mm 42 14,cc 43 141 [(.t 39),(.t 40),(.t 41),(.t 42)]])))))))))))))))))))
def fn64:Fn Qc 64 172 dc64 []:=Am func64
end Go.Vd
namespace Go.Vd
open Go.Proofs Go.RowKit
def rdQ(F:Wb->Oc->List D->Option WY):Summ where
 rd:=(wQ F).rd
 ex:=λds m fr=>match ds with
  | .ptr i 0::rest=>(pickW (atW m i)).bind λx=>(F x.1 x.2.1 rest).bind λy=>open Classical in if y.2.1=x.2.1∧y.2.2=none then some (y.1,[])else none
  |_=>none
def rdQ_loc{F:Wb->Oc->List D->Option WY}(ds:List D)(m m':Mem)(fr:Id)(h:∀l∈(rdQ F).rd ds m,m l.1 l.2=m' l.1 l.2):(rdQ F).ex ds m fr=(rdQ F).ex ds m' fr:=by
 simp only[rdQ,wQ]at h ⊢;split
 ·rename_i i rest;have hr:Ah m i 0 30=Ah m' i 0 30:=Bu (λl hl=>h l (Zx _ hl));have hp:atW m i=atW m' i:=by
   funext x;obtain⟨w,o,t⟩:=x;apply propext;unfold atW;rw[hr];have key:Ah m' i 0 30=some (wkC w o t)->BJ m 107 o.nl t o.ops.isEmpty=BJ m' 107 o.nl t o.ops.isEmpty:=λhc=>by
    refine DY (h (t,0) (Zv _ ?_));have:=at24 (hr.trans hc);rw[this];simp
   constructor
   ·rintro⟨a,b,c⟩;exact⟨a,by rw[←key a];exact b,c⟩
   ·rintro⟨a,b,c⟩;exact⟨a,by rw[key a];exact b,c⟩
  rw[hp]
 ·rfl
def rdq_ok{S:Summs}{f:FuncId}{N:Nat}{dc:DC}{rs:List RV}(hf:Fn Qc f N dc rs)(hS:Summs.ok Qc S):(rdQ (RW S dc rs N)).ok Qc f:=by
 refine opn_ok2 hS hf rdQ_loc (λds m fr r u hex hfr=>?_);simp only[rdQ]at hex;split at hex
 ·rename_i i rest;rw[Q6]at hex;obtain⟨⟨w,o,t⟩,hp,hex⟩:=hex;rw[Q6]at hex;obtain⟨⟨y1,y2,y3⟩,hF,hex⟩:=hex;simp only at hex;split at hex
  ·rename_i hy;obtain⟨rfl,rfl⟩:=hy;simp only[Qp,Zl]at hex;obtain⟨rfl,rfl⟩:=hex;have hat:=pickW_get hp;obtain⟨hN,hs1,hs2,hrun⟩:=Eu hF;have hm0:m i 0=some (.bool w.v.se):=wt_bool hat.1;have hni:∀k l,(i=l++k::fr)=False:=λk l=>eq_false (λe=>by
    rw[e,hfr _ _ ⟨l++[k],by simp⟩]at hm0;cases hm0)
   refine⟨hN,wp_mono' (hrun i m fr t hat hfr hni (λk=>hni k [])) (λe st' he=>?_)⟩;obtain⟨he1,d,he2,rfl,hE⟩:=he;refine⟨he1,_,he2,rfl,λj x dd hx=>?_⟩;obtain⟨g1,g2⟩:=hE;have hx':m j x=some dd:=hx;by_cases hj:j≠i∨30<=x
   ·exact g2 j x dd hj hx'
   ·have hji:j=i:=Classical.byContradiction (λh=>hj (.inl h));have hx30:x<30:=Zp (λh=>hj (.inr h));subst hji;obtain⟨v,hv⟩:∃v,(wkC w y2 t)[x]?=some v:=⟨_,Qj (by rw[Cy];exact hx30)⟩;have e1:=Bq hat.1 hv;have e2:=Bq g1 hv;rw[e2,←e1,hx']
  ·cases hex
 ·cases hex
def got_rd{F:Wb->Oc->List D->Option WY}{w:Wb}{o:Oc}{t i fr:Id}{m:Mem}{rest:List D}{d:D}{K:D×Upd->Prop}{g}(ha:atW m i (w,o,t))(hF:F w o rest=some (d,o,none))(h:K (d,[])):Got ((rdQ F).ex (.ptr i 0::rest) m fr) K g:=by
 refine Got.intro ?_ h;simp only[rdQ,pickW_eq ha (λz hz=>atW_uniq ha hz),Qk,hF,and_self,if_true]
def Wt.endc{i fr t0:Id}{m0 m:Mem}{nl0:Bool}{w:Wb}{o:Oc}{k:Nat}{d:D}{ol:Option (List Nat)}(h:Wt i fr m0 nl0 t0 m w o (nameW t0 (k::fr) ol))(hn0:nl0=true->t0=[]):WE i fr m0 nl0 t0 w (d,o,ol.map (·++[k])) d m:=by
 cases ol with
 |none=>exact h.end0 hn0
 |some l=>
  have h2:Wt i fr m0 nl0 t0 m w o ((l++[k])++fr):=by simpa[nameW]using h
  exact h2.endl (by simp)
def Cm{S:Summs}{dc:DC}{rs:List RV}{N:Nat}{w:Wb}{o o':Oc}{rest:List D}{d:D}{ol:Option (List Nat)}{k:Nat}(hF:RW S dc rs N w o rest=some (d,o',ol))(h:ol.map (·++[k])=none):o'.nl=o.nl∧o'.ops=o.ops:=(Eu hF).2.1 (by simpa using h)
def Cl{S:Summs}{dc:DC}{rs:List RV}{N:Nat}{w:Wb}{o o':Oc}{rest:List D}{d:D}{ol:Option (List Nat)}{k:Nat}{l:List Nat}(hF:RW S dc rs N w o rest=some (d,o',ol))(h:ol.map (·++[k])=some l):o'.nl=false∧l≠[]:=by
 cases ol with
 |none=>cases h
 |some l'=>
  simp only[Zr,Qp]at h;subst h;exact⟨((Eu hF).2.2.1 l' rfl).1,by simp⟩
def ro140:(rdQ W140).ok Qc 140:=rdq_ok fn140 (Ab ok248 Ad)
def S64:Summs:=AC [(135,wQ Bv),(138,wQ W138),(140,rdQ W140),(139,Ac R139),(141,wQ W141),(54,wQ W54),(55,wQ W55),(142,wQ W142),(143,Ac R143),(144,Ac R144),(145,Ac R145)]
def W64:Wb->Oc->List D->Option WY:=RW S64 dc64 [] 172
def ko64:(wQ W64).ok Qc 64:=C_ fn64 (Ab ko135 (Ab ko138 (Ab ro140 (Ab ko139 (Ab ko141 (Ab ko54 (Ab ko55 (Ab ko142 (Ab ko143 (Ab ko144 (Ab ko145 Ad)))))))))))
def W64_need(w:Wb)(o:Oc)(s:Sc)(is:Bool)(o2:Oc)(ho:o.nl=true->o.ops=[])(h135:Bv w o [.str w.a.pa]=some (.tup [.agg (scC s),.bool is,.bool false],o2,none)):W64 w o []=some (.tup [],o2,none):=by
 refine Ba ho ⟨Qa rfl,λh=>((Eu h135).2.1 rfl),λl h=>(by cases h),λi m fr t ha hfr hni hni0=>?_⟩;have s135:S64 135=some (wQ Bv):=rfl;have hW:=Wt.start ha hfr;unfold dc64;have xx:=AO ha.1;unfold scC at *;simp only[↓go1,go2,go4,go5,simprocAttr,xx,Ag s135];refine As hW hfr hni h135 ⟨_,_,_,_,rfl⟩ (λM c1 c2=>?_);simp only[gB1,↓go1,go5,simprocAttr];exact((c1.put hfr hni0).put hfr hni0).end0 ha.2.2
def W64_write(w:Wb)(o:Oc)(s:Sc)(is:Bool)(o2:Oc)(ol:Option (List Nat))(ho:o.nl=true->o.ops=[])(h135:Bv w o [.str w.a.pa]=some (.tup [.agg (scC s),.bool is,.bool true],o,none))(hop:w.a.op=10)(h138:W138 w o [.str w.a.pa,.agg (scC s),.int .i64 w.a.cas,.str w.a.da]=some (.tup [],o2,ol)):W64 w o []=some (.tup [],o2,ol.map (·++[41])):=by
 refine Ba ho ⟨Qa rfl,λh=>Cm h138 h,λl h=>Cl h138 h,λi m fr t ha hfr hni hni0=>?_⟩;have s135:S64 135=some (wQ Bv):=rfl;have s138:S64 138=some (wQ W138):=rfl;have hW:=Wt.start ha hfr;unfold dc64;have xx:=AO ha.1;unfold scC at *;simp only[↓go1,go2,go4,go5,simprocAttr,xx,Ag s135];refine As hW hfr hni h135 ⟨_,_,_,_,rfl⟩ (λM c1 c2=>?_);have xx:=AO c1.at_.1;simp only[gB1,↓go1,go5,simprocAttr,xx,hni0,Ag s138,hop];refine Ch ((c1.put hfr hni0).put hfr hni0) hfr hni h138 ⟨_,_,_,_,rfl⟩ (λM2 u hu d1 d2=>?_);simp only[↓go1,go3,simprocAttr];refine Ao.intro (λp hp=>by cases hp) ?_;simp only[↓go1,go2,simprocAttr];exact d1.endc ha.2.2
def W64_none(w:Wb)(o:Oc)(s:Sc)(o2:Oc)(ol:Option (List Nat))(ho:o.nl=true->o.ops=[])(h135:Bv w o [.str w.a.pa]=some (.tup [.agg (scC s),.bool false,.bool true],o,none))(h10:w.a.op≠10)(h15:w.a.op≠15)(h54:W54 w o [.int .i64 6]=some (.tup [],o2,ol)):W64 w o []=some (.tup [],o2,ol.map (·++[35])):=by
 refine Ba ho ⟨Qa rfl,λh=>Cm h54 h,λl h=>Cl h54 h,λi m fr t ha hfr hni hni0=>?_⟩;have s135:S64 135=some (wQ Bv):=rfl;have s54:S64 54=some (wQ W54):=rfl;have hW:=Wt.start ha hfr;unfold dc64;have xx:=AO ha.1;unfold scC at *;simp only[↓go1,go2,go4,go5,simprocAttr,xx,Ag s135];refine As hW hfr hni h135 ⟨_,_,_,_,rfl⟩ (λM c1 c2=>?_);have xx:=AO c1.at_.1;simp only[gB1,↓go1,go5,simprocAttr,xx,hni0,eq_false h10,eq_false h15,Ag s54];refine As ((c1.put hfr hni0).put hfr hni0) hfr hni h54 ⟨_,_,_,_,rfl⟩ (λM2 d1 d2=>?_);simp only[↓go1,go2,simprocAttr];exact d1.endc ha.2.2
def W64_about(w:Wb)(o:Oc)(s:Sc)(o2:Oc)(ol:Option (List Nat))(ho:o.nl=true->o.ops=[])(h135:Bv w o [.str w.a.pa]=some (.tup [.agg (scC s),.bool true,.bool true],o,none))(hop:w.a.op=14)(h55:W55 w o [.agg (ryC (.about s))]=some (.tup [],o2,ol)):W64 w o []=some (.tup [],o2,ol.map (·++[44])):=by
 refine Ba ho ⟨Qa rfl,λh=>Cm h55 h,λl h=>Cl h55 h,λi m fr t ha hfr hni hni0=>?_⟩;have s135:S64 135=some (wQ Bv):=rfl;have s55:S64 55=some (wQ W55):=rfl;have hW:=Wt.start ha hfr;unfold dc64;have xx:=AO ha.1;unfold scC at *;simp only[↓go1,go2,go4,go5,simprocAttr,xx,Ag s135];refine As hW hfr hni h135 ⟨_,_,_,_,rfl⟩ (λM c1 c2=>?_);have xx:=AO c1.at_.1;simp only[gB1,↓go1,go5,simprocAttr,xx,hni0,Ag s55,hop];refine As ((c1.put hfr hni0).put hfr hni0) hfr hni h55 ⟨_,_,_,_,rfl⟩ (λM2 d1 d2=>?_);simp only[↓go1,go2,simprocAttr];exact d1.endc ha.2.2
def W64_purge(w:Wb)(o:Oc)(s:Sc)(o2:Oc)(ol:Option (List Nat))(ho:o.nl=true->o.ops=[])(h135:Bv w o [.str w.a.pa]=some (.tup [.agg (scC s),.bool true,.bool true],o,none))(hop:w.a.op=16)(h142:W142 w o [.agg (scC s)]=some (.tup [],o2,ol)):W64 w o []=some (.tup [],o2,ol.map (·++[50])):=by
 refine Ba ho ⟨Qa rfl,λh=>Cm h142 h,λl h=>Cl h142 h,λi m fr t ha hfr hni hni0=>?_⟩;have s135:S64 135=some (wQ Bv):=rfl;have s142:S64 142=some (wQ W142):=rfl;have hW:=Wt.start ha hfr;unfold dc64;have xx:=AO ha.1;unfold scC at *;simp only[↓go1,go2,go4,go5,simprocAttr,xx,Ag s135];refine As hW hfr hni h135 ⟨_,_,_,_,rfl⟩ (λM c1 c2=>?_);have xx:=AO c1.at_.1;simp only[gB1,↓go1,go5,simprocAttr,xx,hni0,Ag s142,hop];refine As ((c1.put hfr hni0).put hfr hni0) hfr hni h142 ⟨_,_,_,_,rfl⟩ (λM2 d1 d2=>?_);simp only[↓go1,go2,simprocAttr];exact d1.endc ha.2.2
def W64_config(w:Wb)(o:Oc)(s:Sc)(is:Bool)(o2:Oc)(ol:Option (List Nat))(ho:o.nl=true->o.ops=[])(h135:Bv w o [.str w.a.pa]=some (.tup [.agg (scC s),.bool is,.bool true],o,none))(hop:w.a.op=15)(q:Int)(b:Bool)(s2:Sc)(gnl:Bool)(gone:List Int)(e:Int)(h141:W141 w o [.agg (scC s2),.slice gnl [] (AS gone),.int .i64 e]=some (.tup [],o2,ol))(h140:W140 w o [.str w.a.pa]=some (.agg [.int .i64 q,.bool b],o,none))(h139:R139 [.agg (scC s),.agg [.int .i64 q,.bool b],.int .i64 w.a.n,.bool w.a.fl]=some (.tup [.agg (scC s2),.slice gnl [] (AS gone),.int .i64 e])):W64 w o []=some (.tup [],o2,ol.map (·++[62])):=by
 refine Ba ho ⟨Qa rfl,λh=>Cm h141 h,λl h=>Cl h141 h,λi m fr t ha hfr hni hni0=>?_⟩;have s135:S64 135=some (wQ Bv):=rfl;have s140:S64 140=some (rdQ W140):=rfl;have s141:S64 141=some (wQ W141):=rfl;have hW:=Wt.start ha hfr;unfold dc64;have xx:=AO ha.1;unfold scC at *;simp only[↓go1,go2,go4,go5,simprocAttr,xx,Ag s135];refine As hW hfr hni h135 ⟨_,_,_,_,rfl⟩ (λM c1 c2=>?_);have xx:=AO c1.at_.1;simp only[gB1,↓go1,go5,simprocAttr,xx,hni0,Ag s140,hop];have a1:=at24 (((c1.put hfr hni0 (q:=11) (p:=0) (ys:=[.int .i64 0,.bool false,.int .i64 0,.slice true [] []])).put hfr hni0 (q:=11) (p:=0) (ys:=[.int .i64 s.mx,.bool s.cas,.int .i64 s.la,.slice s.nl [] (A6 s.rs)])).at_.1);refine got_rd ((c1.put hfr hni0).put hfr hni0).at_ h140 ?_;simp only[gB1,↓go1,go5,simprocAttr,xx,hni0,Al S64 139,h139];refine Ao.intro ?_ ?_
 ·intro pp hpp l hl;simp only[Qx,QR,or_false]at hpp;rcases hpp with rfl|rfl|rfl|rfl|rfl|rfl|rfl|rfl|rfl|rfl|rfl
  ·exact Az hl
  ·exact Az hl
  ·exact Az hl
  ·exact Az hl
  ·exact Az hl
  ·have hl1:l.1=54::fr:=AB hl;refine⟨λh=>?_,λh=>Az h⟩;change l∈Ai (11::fr) 0 4 at h;have:=hl1.symm.trans (AT h);simp at this
  ·have hl1:l.1=54::fr:=AB hl;refine⟨λh=>?_,λh=>Az h⟩;change l∈Ai i _ 1 at h;exact(hni0 54).mp ((AT h).symm.trans hl1)
  ·have hl1:l.1=54::fr:=AB hl;refine⟨λh=>?_,λh=>Az h⟩;rcases QT.1 h with h|h
   ·exact(hni0 54).mp ((AT h).symm.trans hl1)
   ·rw[a1]at h;rw[QA.1 h]at hl1;exact c1.loc 54 hl1
  ·have hl1:l.1=54::fr:=AB hl;refine⟨λh=>?_,λh=>Az h⟩;change l∈Ai i _ 1 at h;exact(hni0 54).mp ((AT h).symm.trans hl1)
  ·have hl1:l.1=54::fr:=AB hl;refine⟨λh=>?_,λh=>Az h⟩;change l∈Ai i _ 1 at h;exact(hni0 54).mp ((AT h).symm.trans hl1)
  ·have hl1:l.1=54::fr:=AB hl;exact⟨λh=>Az h,λh=>Az h⟩
 simp only[gB1,↓go1,go5,simprocAttr,Ag s141];refine As ((((c1.put hfr hni0).put hfr hni0).put hfr hni0).put hfr hni0) hfr hni h141 ⟨_,_,_,_,rfl⟩ (λM2 d1 d2=>?_);simp only[↓go1,go2,simprocAttr];exact d1.endc ha.2.2
def W64_delete(w:Wb)(o:Oc)(s:Sc)(o2:Oc)(ol:Option (List Nat))(ho:o.nl=true->o.ops=[])(h135:Bv w o [.str w.a.pa]=some (.tup [.agg (scC s),.bool true,.bool true],o,none))(hop:w.a.op=11)(s2:Sc)(e:Int)(h141:W141 w o [.agg (scC s2),.slice true [] [],.int .i64 e]=some (.tup [],o2,ol))(hf:R143 [.agg (scC s),.slice w.a.nln [] (AS w.a.ns)]=some (.tup [.agg (scC s2),.int .i64 e])):W64 w o []=some (.tup [],o2,ol.map (·++[71])):=by
 refine Ba ho ⟨Qa rfl,λh=>Cm h141 h,λl h=>Cl h141 h,λi m fr t ha hfr hni hni0=>?_⟩;have s135:S64 135=some (wQ Bv):=rfl;have s141:S64 141=some (wQ W141):=rfl;have hW:=Wt.start ha hfr;unfold dc64;have xx:=AO ha.1;unfold scC at *;simp only[↓go1,go2,go4,go5,simprocAttr,xx,Ag s135];refine As hW hfr hni h135 ⟨_,_,_,_,rfl⟩ (λM c1 c2=>?_);have xx:=AO c1.at_.1;simp only[gB1,↓go1,go5,simprocAttr,xx,hni0,Al S64 143,hf,hop];refine Ao.intro ?_ ?_
 ·intro pp hpp l hl;simp only[Qx,QR,or_false]at hpp;rcases hpp with rfl|rfl|rfl|rfl
  ·exact Az hl
  ·have hl1:l.1=65::fr:=AB hl;refine⟨λh=>?_,λh=>Az h⟩;change l∈Ai (11::fr) 0 4 at h;have:=hl1.symm.trans (AT h);simp at this
  ·have hl1:l.1=65::fr:=AB hl;refine⟨λh=>?_,λh=>Az h⟩;change l∈Ai i _ 1 at h;exact(hni0 65).mp ((AT h).symm.trans hl1)
  ·have hl1:l.1=65::fr:=AB hl;exact⟨λh=>Az h,λh=>Az h⟩
 simp only[gB1,↓go1,go5,simprocAttr,Ag s141];refine As ((((c1.put hfr hni0).put hfr hni0).put hfr hni0).put hfr hni0) hfr hni h141 ⟨_,_,_,_,rfl⟩ (λM2 d1 d2=>?_);simp only[↓go1,go2,simprocAttr];exact d1.endc ha.2.2
def W64_undelete(w:Wb)(o:Oc)(s:Sc)(o2:Oc)(ol:Option (List Nat))(ho:o.nl=true->o.ops=[])(h135:Bv w o [.str w.a.pa]=some (.tup [.agg (scC s),.bool true,.bool true],o,none))(hop:w.a.op=12)(s2:Sc)(e:Int)(h141:W141 w o [.agg (scC s2),.slice true [] [],.int .i64 e]=some (.tup [],o2,ol))(hf:R144 [.agg (scC s),.slice w.a.nln [] (AS w.a.ns)]=some (.tup [.agg (scC s2),.int .i64 e])):W64 w o []=some (.tup [],o2,ol.map (·++[78])):=by
 refine Ba ho ⟨Qa rfl,λh=>Cm h141 h,λl h=>Cl h141 h,λi m fr t ha hfr hni hni0=>?_⟩;have s135:S64 135=some (wQ Bv):=rfl;have s141:S64 141=some (wQ W141):=rfl;have hW:=Wt.start ha hfr;unfold dc64;have xx:=AO ha.1;unfold scC at *;simp only[↓go1,go2,go4,go5,simprocAttr,xx,Ag s135];refine As hW hfr hni h135 ⟨_,_,_,_,rfl⟩ (λM c1 c2=>?_);have xx:=AO c1.at_.1;simp only[gB1,↓go1,go5,simprocAttr,xx,hni0,Al S64 144,hf,hop];refine Ao.intro ?_ ?_
 ·intro pp hpp l hl;simp only[Qx,QR,or_false]at hpp;rcases hpp with rfl|rfl|rfl|rfl
  ·exact Az hl
  ·have hl1:l.1=72::fr:=AB hl;refine⟨λh=>?_,λh=>Az h⟩;change l∈Ai (11::fr) 0 4 at h;have:=hl1.symm.trans (AT h);simp at this
  ·have hl1:l.1=72::fr:=AB hl;refine⟨λh=>?_,λh=>Az h⟩;change l∈Ai i _ 1 at h;exact(hni0 72).mp ((AT h).symm.trans hl1)
  ·have hl1:l.1=72::fr:=AB hl;exact⟨λh=>Az h,λh=>Az h⟩
 simp only[gB1,↓go1,go5,simprocAttr,Ag s141];refine As ((((c1.put hfr hni0).put hfr hni0).put hfr hni0).put hfr hni0) hfr hni h141 ⟨_,_,_,_,rfl⟩ (λM2 d1 d2=>?_);simp only[↓go1,go2,simprocAttr];exact d1.endc ha.2.2
def W64_destroy(w:Wb)(o:Oc)(s:Sc)(o2:Oc)(ol:Option (List Nat))(ho:o.nl=true->o.ops=[])(h135:Bv w o [.str w.a.pa]=some (.tup [.agg (scC s),.bool true,.bool true],o,none))(hop:w.a.op=13)(s2:Sc)(gnl:Bool)(gone:List Int)(e:Int)(h141:W141 w o [.agg (scC s2),.slice gnl [] (AS gone),.int .i64 e]=some (.tup [],o2,ol))(hf:R145 [.agg (scC s),.slice w.a.nln [] (AS w.a.ns)]=some (.tup [.agg (scC s2),.slice gnl [] (AS gone),.int .i64 e])):W64 w o []=some (.tup [],o2,ol.map (·++[81])):=by
 refine Ba ho ⟨Qa rfl,λh=>Cm h141 h,λl h=>Cl h141 h,λi m fr t ha hfr hni hni0=>?_⟩;have s135:S64 135=some (wQ Bv):=rfl;have s141:S64 141=some (wQ W141):=rfl;have hW:=Wt.start ha hfr;unfold dc64;have xx:=AO ha.1;unfold scC at *;simp only[↓go1,go2,go4,go5,simprocAttr,xx,Ag s135];refine As hW hfr hni h135 ⟨_,_,_,_,rfl⟩ (λM c1 c2=>?_);have xx:=AO c1.at_.1;simp only[gB1,↓go1,go5,simprocAttr,xx,hni0,Al S64 145,hf,hop];refine Ao.intro ?_ ?_
 ·intro pp hpp l hl;simp only[Qx,QR,or_false]at hpp;rcases hpp with rfl|rfl|rfl|rfl
  ·exact Az hl
  ·have hl1:l.1=73::fr:=AB hl;refine⟨λh=>?_,λh=>Az h⟩;change l∈Ai (11::fr) 0 4 at h;have:=hl1.symm.trans (AT h);simp at this
  ·have hl1:l.1=73::fr:=AB hl;refine⟨λh=>?_,λh=>Az h⟩;change l∈Ai i _ 1 at h;exact(hni0 73).mp ((AT h).symm.trans hl1)
  ·have hl1:l.1=73::fr:=AB hl;exact⟨λh=>Az h,λh=>Az h⟩
 simp only[gB1,↓go1,go5,simprocAttr,Ag s141];refine As ((((c1.put hfr hni0).put hfr hni0).put hfr hni0).put hfr hni0) hfr hni h141 ⟨_,_,_,_,rfl⟩ (λM2 d1 d2=>?_);simp only[↓go1,go2,simprocAttr];exact d1.endc ha.2.2
def S63:Summs:=AC [(135,wQ Bv),(54,wQ W54),(136,Ac R136),(123,Ac Cx),(137,Ac EN),(133,wQ W133),(55,wQ W55),(138,wQ W138)]
def W63:Wb->Oc->List D->Option WY:=RW S63 dc63 [] 113
def ko63:(wQ W63).ok Qc 63:=C_ fn63 (Ab ko135 (Ab ko54 (Ab ko136 (Ab ko123 (Ab ko137 (Ab ko133 (Ab ko55 (Ab ko138 Ad))))))))
def W63_need(w:Wb)(o:Oc)(s:Sc)(is:Bool)(o2:Oc)(ho:o.nl=true->o.ops=[])(h135:Bv w o [.str w.a.pa]=some (.tup [.agg (scC s),.bool is,.bool false],o2,none)):W63 w o []=some (.tup [],o2,none):=by
 refine Ba ho ⟨Qa rfl,λh=>((Eu h135).2.1 rfl),λl h=>(by cases h),λi m fr t ha hfr hni hni0=>?_⟩;have s135:S63 135=some (wQ Bv):=rfl;have hW:=Wt.start ha hfr;unfold dc63;have xx:=AO ha.1;unfold scC at *;simp only[↓go1,go2,go4,go5,simprocAttr,xx,Ag s135];refine As hW hfr hni h135 ⟨_,_,_,_,rfl⟩ (λM c1 c2=>?_);simp only[gB1,↓go1,go5,simprocAttr];exact((c1.put hfr hni0).put hfr hni0).end0 ha.2.2
def W63_none(w:Wb)(o:Oc)(s:Sc)(o2:Oc)(ol:Option (List Nat))(ho:o.nl=true->o.ops=[])(h135:Bv w o [.str w.a.pa]=some (.tup [.agg (scC s),.bool false,.bool true],o,none))(h54:W54 w o [.int .i64 6]=some (.tup [],o2,ol)):W63 w o []=some (.tup [],o2,ol.map (·++[20])):=by
 refine Ba ho ⟨Qa rfl,λh=>Cm h54 h,λl h=>Cl h54 h,λi m fr t ha hfr hni hni0=>?_⟩;have s135:S63 135=some (wQ Bv):=rfl;have s54:S63 54=some (wQ W54):=rfl;have hW:=Wt.start ha hfr;unfold dc63;have xx:=AO ha.1;unfold scC at *;simp only[↓go1,go2,go4,go5,simprocAttr,xx,Ag s135];refine As hW hfr hni h135 ⟨_,_,_,_,rfl⟩ (λM c1 c2=>?_);have xx:=AO c1.at_.1;simp only[gB1,↓go1,go5,simprocAttr,Ag s54];refine As ((c1.put hfr hni0).put hfr hni0) hfr hni h54 ⟨_,_,_,_,rfl⟩ (λM2 d1 d2=>?_);simp only[↓go1,go2,simprocAttr];exact d1.endc ha.2.2
def W63_fail9(w:Wb)(o:Oc)(s:Sc)(o2:Oc)(ol:Option (List Nat))(ho:o.nl=true->o.ops=[])(h135:Bv w o [.str w.a.pa]=some (.tup [.agg (scC s),.bool true,.bool true],o,none))(hop:w.a.op=9)(nn e:Int)(ra rb:Bool)(h136:R136 [.agg (scC s),.int .i64 (w.a.n)]=some (.tup [.agg [.int .i64 nn,.bool ra,.bool rb],.int .i64 e]))(he:e≠0)(h54:W54 w o [.int .i64 e]=some (.tup [],o2,ol)):W63 w o []=some (.tup [],o2,ol.map (·++[44])):=by
 refine Ba ho ⟨Qa rfl,λh=>Cm h54 h,λl h=>Cl h54 h,λi m fr t ha hfr hni hni0=>?_⟩;have s135:S63 135=some (wQ Bv):=rfl;have s54:S63 54=some (wQ W54):=rfl;have hW:=Wt.start ha hfr;unfold dc63;have xx:=AO ha.1;unfold scC at *;simp only[↓go1,go2,go4,go5,simprocAttr,xx,Ag s135];refine As hW hfr hni h135 ⟨_,_,_,_,rfl⟩ (λM c1 c2=>?_);have xx:=AO c1.at_.1;simp only[gB1,↓go1,go5,simprocAttr,xx,hni0,Al S63 136,h136,eq_false he,Ag s54,hop];refine As ((((c1.put hfr hni0).put hfr hni0).put hfr hni0).put hfr hni0) hfr hni h54 ⟨_,_,_,_,rfl⟩ (λM2 d1 d2=>?_);simp only[↓go1,go2,simprocAttr];exact d1.endc ha.2.2
def W63_need9(w:Wb)(o:Oc)(s:Sc)(o2:Oc)(ol:Option (List Nat))(ho:o.nl=true->o.ops=[])(h135:Bv w o [.str w.a.pa]=some (.tup [.agg (scC s),.bool true,.bool true],o,none))(hop:w.a.op=9)(nn:Int)(ra rb:Bool)(h136:R136 [.agg (scC s),.int .i64 (w.a.n)]=some (.tup [.agg [.int .i64 nn,.bool ra,.bool rb],.int .i64 0]))(at_ text:Bs)(there:Bool)(h123:Cx [.int .u8 2,.str w.a.pa,.int .i64 nn]=some (.str at_))(h137:EN [.agg (kwC w.k),.str at_]=some (.tup [.str text,.bool there,.bool false]))(h133:W133 w o [.str at_,.bool false]=some (.tup [],o2,ol)):W63 w o []=some (.tup [],o2,ol.map (·++[69])):=by
 refine Ba ho ⟨Qa rfl,λh=>Cm h133 h,λl h=>Cl h133 h,λi m fr t ha hfr hni hni0=>?_⟩;have s135:S63 135=some (wQ Bv):=rfl;have s123:S63 123=some (Ac Cx):=rfl;have s137:S63 137=some (Ac EN):=rfl;have s133:S63 133=some (wQ W133):=rfl;have hW:=Wt.start ha hfr;unfold dc63;have xx:=AO ha.1;unfold scC at *;unfold kwC at h137;simp only[↓go1,go2,go4,go5,simprocAttr,xx,Ag s135];refine As hW hfr hni h135 ⟨_,_,_,_,rfl⟩ (λM c1 c2=>?_);have xx:=AO c1.at_.1;simp only[gB1,↓go1,go5,simprocAttr,xx,hni0,Al S63 136,h136,Aa s123,h123,hop];refine Ao.intro (λp hp=>by cases hp) ?_;simp only[gB1,↓go1,go5,simprocAttr,xx,hni0,Aa s137,h137,Ag s133];refine As ((((c1.put hfr hni0).put hfr hni0).put hfr hni0).put hfr hni0) hfr hni h133 ⟨_,_,_,_,rfl⟩ (λM2 d1 d2=>?_);simp only[↓go1,go2,simprocAttr];exact d1.endc ha.2.2
def W63_read_in(w:Wb)(o:Oc)(s:Sc)(o2:Oc)(ol:Option (List Nat))(ho:o.nl=true->o.ops=[])(h135:Bv w o [.str w.a.pa]=some (.tup [.agg (scC s),.bool true,.bool true],o,none))(hop:w.a.op=9)(nn:Int)(ra rb:Bool)(h136:R136 [.agg (scC s),.int .i64 (w.a.n)]=some (.tup [.agg [.int .i64 nn,.bool ra,.bool rb],.int .i64 0]))(at_ text:Bs)(h123:Cx [.int .u8 2,.str w.a.pa,.int .i64 nn]=some (.str at_))(h137:EN [.agg (kwC w.k),.str at_]=some (.tup [.str text,.bool true,.bool true]))(h55:W55 w o [.agg (ryC (.found nn text))]=some (.tup [],o2,ol)):W63 w o []=some (.tup [],o2,ol.map (·++[81])):=by
 refine Ba ho ⟨Qa rfl,λh=>Cm h55 h,λl h=>Cl h55 h,λi m fr t ha hfr hni hni0=>?_⟩;have s135:S63 135=some (wQ Bv):=rfl;have s123:S63 123=some (Ac Cx):=rfl;have s137:S63 137=some (Ac EN):=rfl;have s55:S63 55=some (wQ W55):=rfl;have hW:=Wt.start ha hfr;unfold dc63;have xx:=AO ha.1;unfold scC at *;unfold kwC at h137;simp only[↓go1,go2,go4,go5,simprocAttr,xx,Ag s135];refine As hW hfr hni h135 ⟨_,_,_,_,rfl⟩ (λM c1 c2=>?_);have xx:=AO c1.at_.1;simp only[gB1,↓go1,go5,simprocAttr,xx,hni0,Al S63 136,h136,Aa s123,h123,hop];refine Ao.intro (λp hp=>by cases hp) ?_;simp only[gB1,↓go1,go5,simprocAttr,xx,hni0,Aa s137,h137,Ag s55,hop];refine As ((((c1.put hfr hni0).put hfr hni0).put hfr hni0).put hfr hni0) hfr hni h55 ⟨_,_,_,_,rfl⟩ (λM2 d1 d2=>?_);simp only[↓go1,go2,simprocAttr];exact d1.endc ha.2.2
def W63_read_out(w:Wb)(o:Oc)(s:Sc)(o2:Oc)(ol:Option (List Nat))(ho:o.nl=true->o.ops=[])(h135:Bv w o [.str w.a.pa]=some (.tup [.agg (scC s),.bool true,.bool true],o,none))(hop:w.a.op=9)(nn:Int)(ra rb:Bool)(h136:R136 [.agg (scC s),.int .i64 (w.a.n)]=some (.tup [.agg [.int .i64 nn,.bool ra,.bool rb],.int .i64 0]))(at_ text:Bs)(h123:Cx [.int .u8 2,.str w.a.pa,.int .i64 nn]=some (.str at_))(h137:EN [.agg (kwC w.k),.str at_]=some (.tup [.str text,.bool false,.bool true]))(h55:W55 w o [.agg (ryC (.found nn []))]=some (.tup [],o2,ol)):W63 w o []=some (.tup [],o2,ol.map (·++[82])):=by
 refine Ba ho ⟨Qa rfl,λh=>Cm h55 h,λl h=>Cl h55 h,λi m fr t ha hfr hni hni0=>?_⟩;have s135:S63 135=some (wQ Bv):=rfl;have s123:S63 123=some (Ac Cx):=rfl;have s137:S63 137=some (Ac EN):=rfl;have s55:S63 55=some (wQ W55):=rfl;have hW:=Wt.start ha hfr;unfold dc63;have xx:=AO ha.1;unfold scC at *;unfold kwC at h137;simp only[↓go1,go2,go4,go5,simprocAttr,xx,Ag s135];refine As hW hfr hni h135 ⟨_,_,_,_,rfl⟩ (λM c1 c2=>?_);have xx:=AO c1.at_.1;simp only[gB1,↓go1,go5,simprocAttr,xx,hni0,Al S63 136,h136,Aa s123,h123,hop];refine Ao.intro (λp hp=>by cases hp) ?_;simp only[gB1,↓go1,go5,simprocAttr,xx,hni0,Aa s137,h137,Ag s55,hop];refine As ((((c1.put hfr hni0).put hfr hni0).put hfr hni0).put hfr hni0) hfr hni h55 ⟨_,_,_,_,rfl⟩ (λM2 d1 d2=>?_);simp only[↓go1,go2,simprocAttr];exact d1.endc ha.2.2
def W63_fail18(w:Wb)(o:Oc)(s:Sc)(o2:Oc)(ol:Option (List Nat))(ho:o.nl=true->o.ops=[])(h135:Bv w o [.str w.a.pa]=some (.tup [.agg (scC s),.bool true,.bool true],o,none))(hop:w.a.op=18)(nn e:Int)(ra rb:Bool)(h136:R136 [.agg (scC s),.int .i64 (0)]=some (.tup [.agg [.int .i64 nn,.bool ra,.bool rb],.int .i64 e]))(he:e≠0)(h54:W54 w o [.int .i64 e]=some (.tup [],o2,ol)):W63 w o []=some (.tup [],o2,ol.map (·++[45])):=by
 refine Ba ho ⟨Qa rfl,λh=>Cm h54 h,λl h=>Cl h54 h,λi m fr t ha hfr hni hni0=>?_⟩;have s135:S63 135=some (wQ Bv):=rfl;have s54:S63 54=some (wQ W54):=rfl;have hW:=Wt.start ha hfr;unfold dc63;have xx:=AO ha.1;unfold scC at *;simp only[↓go1,go2,go4,go5,simprocAttr,xx,Ag s135];refine As hW hfr hni h135 ⟨_,_,_,_,rfl⟩ (λM c1 c2=>?_);have xx:=AO c1.at_.1;simp only[gB1,↓go1,go5,simprocAttr,xx,hni0,Al S63 136,h136,eq_false he,Ag s54,hop];refine As ((((c1.put hfr hni0).put hfr hni0).put hfr hni0).put hfr hni0) hfr hni h54 ⟨_,_,_,_,rfl⟩ (λM2 d1 d2=>?_);simp only[↓go1,go2,simprocAttr];exact d1.endc ha.2.2
def W63_need18(w:Wb)(o:Oc)(s:Sc)(o2:Oc)(ol:Option (List Nat))(ho:o.nl=true->o.ops=[])(h135:Bv w o [.str w.a.pa]=some (.tup [.agg (scC s),.bool true,.bool true],o,none))(hop:w.a.op=18)(nn:Int)(ra rb:Bool)(h136:R136 [.agg (scC s),.int .i64 (0)]=some (.tup [.agg [.int .i64 nn,.bool ra,.bool rb],.int .i64 0]))(at_ text:Bs)(there:Bool)(h123:Cx [.int .u8 2,.str w.a.pa,.int .i64 nn]=some (.str at_))(h137:EN [.agg (kwC w.k),.str at_]=some (.tup [.str text,.bool there,.bool false]))(h133:W133 w o [.str at_,.bool false]=some (.tup [],o2,ol)):W63 w o []=some (.tup [],o2,ol.map (·++[70])):=by
 refine Ba ho ⟨Qa rfl,λh=>Cm h133 h,λl h=>Cl h133 h,λi m fr t ha hfr hni hni0=>?_⟩;have s135:S63 135=some (wQ Bv):=rfl;have s123:S63 123=some (Ac Cx):=rfl;have s137:S63 137=some (Ac EN):=rfl;have s133:S63 133=some (wQ W133):=rfl;have hW:=Wt.start ha hfr;unfold dc63;have xx:=AO ha.1;unfold scC at *;unfold kwC at h137;simp only[↓go1,go2,go4,go5,simprocAttr,xx,Ag s135];refine As hW hfr hni h135 ⟨_,_,_,_,rfl⟩ (λM c1 c2=>?_);have xx:=AO c1.at_.1;simp only[gB1,↓go1,go5,simprocAttr,xx,hni0,Al S63 136,h136,Aa s123,h123,hop];refine Ao.intro (λp hp=>by cases hp) ?_;simp only[gB1,↓go1,go5,simprocAttr,xx,hni0,Aa s137,h137,Ag s133];refine As ((((c1.put hfr hni0).put hfr hni0).put hfr hni0).put hfr hni0) hfr hni h133 ⟨_,_,_,_,rfl⟩ (λM2 d1 d2=>?_);simp only[↓go1,go2,simprocAttr];exact d1.endc ha.2.2
def W63_copy_need_in(w:Wb)(o:Oc)(s:Sc)(o2:Oc)(ho:o.nl=true->o.ops=[])(h135:Bv w o [.str w.a.pa]=some (.tup [.agg (scC s),.bool true,.bool true],o,none))(hop:w.a.op=18)(nn:Int)(ra rb:Bool)(h136:R136 [.agg (scC s),.int .i64 (0)]=some (.tup [.agg [.int .i64 nn,.bool ra,.bool rb],.int .i64 0]))(at_ text:Bs)(h123:Cx [.int .u8 2,.str w.a.pa,.int .i64 nn]=some (.str at_))(h137:EN [.agg (kwC w.k),.str at_]=some (.tup [.str text,.bool true,.bool true]))(s2:Sc)(is2:Bool)(h135b:Bv w o [.str w.a.ot]=some (.tup [.agg (scC s2),.bool is2,.bool false],o2,none)):W63 w o []=some (.tup [],o2,none):=by
 refine Ba ho ⟨Qa rfl,λh=>((Eu h135b).2.1 rfl),λl h=>(by cases h),λi m fr t ha hfr hni hni0=>?_⟩;have s135:S63 135=some (wQ Bv):=rfl;have s123:S63 123=some (Ac Cx):=rfl;have s137:S63 137=some (Ac EN):=rfl;have hW:=Wt.start ha hfr;unfold dc63;have xx:=AO ha.1;unfold scC at *;unfold kwC at h137;simp only[↓go1,go2,go4,go5,simprocAttr,xx,Ag s135];refine As hW hfr hni h135 ⟨_,_,_,_,rfl⟩ (λM c1 c2=>?_);have xx:=AO c1.at_.1;simp only[gB1,↓go1,go5,simprocAttr,xx,hni0,Al S63 136,h136,Aa s123,h123,hop];refine Ao.intro (λp hp=>by cases hp) ?_;simp only[gB1,↓go1,go5,simprocAttr,xx,hni0,Aa s137,h137,Ag s135,hop];refine As ((((c1.put hfr hni0).put hfr hni0).put hfr hni0).put hfr hni0) hfr hni h135b ⟨_,_,_,_,rfl⟩ (λM2 d1 d2=>?_);have xx:=AO d1.at_.1;simp only[gB1,↓go1,go5,simprocAttr];exact((d1.put hfr hni0).put hfr hni0).end0 ha.2.2
def W63_copy_in(w:Wb)(o:Oc)(s:Sc)(o2:Oc)(ol:Option (List Nat))(ho:o.nl=true->o.ops=[])(h135:Bv w o [.str w.a.pa]=some (.tup [.agg (scC s),.bool true,.bool true],o,none))(hop:w.a.op=18)(nn:Int)(ra rb:Bool)(h136:R136 [.agg (scC s),.int .i64 (0)]=some (.tup [.agg [.int .i64 nn,.bool ra,.bool rb],.int .i64 0]))(at_ text:Bs)(h123:Cx [.int .u8 2,.str w.a.pa,.int .i64 nn]=some (.str at_))(h137:EN [.agg (kwC w.k),.str at_]=some (.tup [.str text,.bool true,.bool true]))(s2:Sc)(is2:Bool)(h135b:Bv w o [.str w.a.ot]=some (.tup [.agg (scC s2),.bool is2,.bool true],o,none))(h138:W138 w o [.str w.a.ot,.agg (scC s2),.int .i64 (-1),.str text]=some (.tup [],o2,ol)):W63 w o []=some (.tup [],o2,ol.map (·++[101])):=by
 refine Ba ho ⟨Qa rfl,λh=>Cm h138 h,λl h=>Cl h138 h,λi m fr t ha hfr hni hni0=>?_⟩;have s135:S63 135=some (wQ Bv):=rfl;have s123:S63 123=some (Ac Cx):=rfl;have s137:S63 137=some (Ac EN):=rfl;have s138:S63 138=some (wQ W138):=rfl;have hW:=Wt.start ha hfr;unfold dc63;have xx:=AO ha.1;unfold scC at *;unfold kwC at h137;simp only[↓go1,go2,go4,go5,simprocAttr,xx,Ag s135];refine As hW hfr hni h135 ⟨_,_,_,_,rfl⟩ (λM c1 c2=>?_);have xx:=AO c1.at_.1;simp only[gB1,↓go1,go5,simprocAttr,xx,hni0,Al S63 136,h136,Aa s123,h123,hop];refine Ao.intro (λp hp=>by cases hp) ?_;simp only[gB1,↓go1,go5,simprocAttr,xx,hni0,Aa s137,h137,Ag s135,hop];refine As ((((c1.put hfr hni0).put hfr hni0).put hfr hni0).put hfr hni0) hfr hni h135b ⟨_,_,_,_,rfl⟩ (λM2 d1 d2=>?_);have xx:=AO d1.at_.1;simp only[gB1,↓go1,go5,simprocAttr,xx,hni0,Ag s138];refine Ch ((d1.put hfr hni0).put hfr hni0) hfr hni h138 ⟨_,_,_,_,rfl⟩ (λM3 u hu e1 e2=>?_);simp only[↓go1,go3,simprocAttr];refine Ao.intro (λp hp=>by cases hp) ?_;simp only[↓go1,go2,simprocAttr];exact e1.endc ha.2.2
def W63_copy_need_out(w:Wb)(o:Oc)(s:Sc)(o2:Oc)(ho:o.nl=true->o.ops=[])(h135:Bv w o [.str w.a.pa]=some (.tup [.agg (scC s),.bool true,.bool true],o,none))(hop:w.a.op=18)(nn:Int)(ra rb:Bool)(h136:R136 [.agg (scC s),.int .i64 (0)]=some (.tup [.agg [.int .i64 nn,.bool ra,.bool rb],.int .i64 0]))(at_ text:Bs)(h123:Cx [.int .u8 2,.str w.a.pa,.int .i64 nn]=some (.str at_))(h137:EN [.agg (kwC w.k),.str at_]=some (.tup [.str text,.bool false,.bool true]))(s2:Sc)(is2:Bool)(h135b:Bv w o [.str w.a.ot]=some (.tup [.agg (scC s2),.bool is2,.bool false],o2,none)):W63 w o []=some (.tup [],o2,none):=by
 refine Ba ho ⟨Qa rfl,λh=>((Eu h135b).2.1 rfl),λl h=>(by cases h),λi m fr t ha hfr hni hni0=>?_⟩;have s135:S63 135=some (wQ Bv):=rfl;have s123:S63 123=some (Ac Cx):=rfl;have s137:S63 137=some (Ac EN):=rfl;have hW:=Wt.start ha hfr;unfold dc63;have xx:=AO ha.1;unfold scC at *;unfold kwC at h137;simp only[↓go1,go2,go4,go5,simprocAttr,xx,Ag s135];refine As hW hfr hni h135 ⟨_,_,_,_,rfl⟩ (λM c1 c2=>?_);have xx:=AO c1.at_.1;simp only[gB1,↓go1,go5,simprocAttr,xx,hni0,Al S63 136,h136,Aa s123,h123,hop];refine Ao.intro (λp hp=>by cases hp) ?_;simp only[gB1,↓go1,go5,simprocAttr,xx,hni0,Aa s137,h137,Ag s135,hop];refine As ((((c1.put hfr hni0).put hfr hni0).put hfr hni0).put hfr hni0) hfr hni h135b ⟨_,_,_,_,rfl⟩ (λM2 d1 d2=>?_);have xx:=AO d1.at_.1;simp only[gB1,↓go1,go5,simprocAttr];exact((d1.put hfr hni0).put hfr hni0).end0 ha.2.2
def W63_copy_out(w:Wb)(o:Oc)(s:Sc)(o2:Oc)(ol:Option (List Nat))(ho:o.nl=true->o.ops=[])(h135:Bv w o [.str w.a.pa]=some (.tup [.agg (scC s),.bool true,.bool true],o,none))(hop:w.a.op=18)(nn:Int)(ra rb:Bool)(h136:R136 [.agg (scC s),.int .i64 (0)]=some (.tup [.agg [.int .i64 nn,.bool ra,.bool rb],.int .i64 0]))(at_ text:Bs)(h123:Cx [.int .u8 2,.str w.a.pa,.int .i64 nn]=some (.str at_))(h137:EN [.agg (kwC w.k),.str at_]=some (.tup [.str text,.bool false,.bool true]))(s2:Sc)(is2:Bool)(h135b:Bv w o [.str w.a.ot]=some (.tup [.agg (scC s2),.bool is2,.bool true],o,none))(h138:W138 w o [.str w.a.ot,.agg (scC s2),.int .i64 (-1),.str []]=some (.tup [],o2,ol)):W63 w o []=some (.tup [],o2,ol.map (·++[102])):=by
 refine Ba ho ⟨Qa rfl,λh=>Cm h138 h,λl h=>Cl h138 h,λi m fr t ha hfr hni hni0=>?_⟩;have s135:S63 135=some (wQ Bv):=rfl;have s123:S63 123=some (Ac Cx):=rfl;have s137:S63 137=some (Ac EN):=rfl;have s138:S63 138=some (wQ W138):=rfl;have hW:=Wt.start ha hfr;unfold dc63;have xx:=AO ha.1;unfold scC at *;unfold kwC at h137;simp only[↓go1,go2,go4,go5,simprocAttr,xx,Ag s135];refine As hW hfr hni h135 ⟨_,_,_,_,rfl⟩ (λM c1 c2=>?_);have xx:=AO c1.at_.1;simp only[gB1,↓go1,go5,simprocAttr,xx,hni0,Al S63 136,h136,Aa s123,h123,hop];refine Ao.intro (λp hp=>by cases hp) ?_;simp only[gB1,↓go1,go5,simprocAttr,xx,hni0,Aa s137,h137,Ag s135,hop];refine As ((((c1.put hfr hni0).put hfr hni0).put hfr hni0).put hfr hni0) hfr hni h135b ⟨_,_,_,_,rfl⟩ (λM2 d1 d2=>?_);have xx:=AO d1.at_.1;simp only[gB1,↓go1,go5,simprocAttr,xx,hni0,Ag s138];refine Ch ((d1.put hfr hni0).put hfr hni0) hfr hni h138 ⟨_,_,_,_,rfl⟩ (λM3 u hu e1 e2=>?_);simp only[↓go1,go3,simprocAttr];refine Ao.intro (λp hp=>by cases hp) ?_;simp only[↓go1,go2,simprocAttr];exact e1.endc ha.2.2
end Go.Vd
namespace Go.Vd
open Go.Proofs
def dc230:DC:=(sr [cb 2 false] (sr [mm 3 0,bi 4 .geq 3 1,mm 5 4,gm 6 0 2 true,gi 7 .leq 6 6 2 true,pa 8 5 7,mm 2 8] .ret))
def fn230:Fn Qc 230 9 dc230 [.t 2]:=Am func230
def dc125:DC:=(sr [ci 2 0] (.seq (sr [mm 3 0,c1 4 230 3,nt 5 4] (cd 5 (sr [ci 2 0] .ret) .skip)) (sr [mm 6 0,bi 7 .mul 6 16,oo 8 (.bin .add (.c (.int .i64 1)) (.t 7)),mm 2 8] .ret)))
def fn125:Fn Qc 125 9 dc125 [.t 2]:=Am func125
end Go.Vd
namespace Go.Proofs
open Go.Shelf
def lays105_ren:Go.Shelf.Ren:=⟨λ|105=>124|212=>224|99=>225|165=>226|166=>227|170=>228|169=>229|263=>321|264=>322|206=>323|240=>324|241=>325|276=>370|277=>371|n=>n,λ|9=>9|3=>3|4=>4|20=>20|0=>0|46=>137|109=>318|5=>5|72=>322|76=>326|51=>392|146=>398|53=>394|148=>400|70=>320|37=>264|75=>325|127=>402|164=>439|80=>216|n=>n,λ|n=>n⟩
def lays105:Go.Proofs.Lays.n105 Qc lays105_ren:={
 mixed:=by kernel_rfl
 f99:=func225.trans (congrArg some (by kernel_rfl))
 f105:=func124.trans (congrArg some (by kernel_rfl))
 f165:=func226.trans (congrArg some (by kernel_rfl))
 f166:=func227.trans (congrArg some (by kernel_rfl))
 f169:=func229.trans (congrArg some (by kernel_rfl))
 f170:=func228.trans (congrArg some (by kernel_rfl))
 f206:=func323.trans (congrArg some (by kernel_rfl))
 f212:=func224.trans (congrArg some (by kernel_rfl))
 f240:=func324.trans (congrArg some (by kernel_rfl))
 f241:=func325.trans (congrArg some (by kernel_rfl))
 f263:=func321.trans (congrArg some (by kernel_rfl))
 f264:=func322.trans (congrArg some (by kernel_rfl))
 f276:=func370.trans (congrArg some (by kernel_rfl))
 f277:=func371.trans (congrArg some (by kernel_rfl))
 t0:=underlying0
 a0:=isAgg0
 z0:=sizeOf0
 v0:=zeroValue0
 t3:=underlying3
 a3:=isAgg3
 z3:=sizeOf3
 v3:=zeroValue3
 t4:=underlying4
 a4:=isAgg4
 z4:=sizeOf4
 v4:=zeroValue4
 t5:=underlying5
 a5:=isAgg5
 z5:=sizeOf5
 v5:=zeroValue5
 t9:=underlying9
 a9:=isAgg9
 z9:=sizeOf9
 v9:=zeroValue9
 t20:=underlying20
 a20:=isAgg20
 z20:=sizeOf20
 v20:=zeroValue20
 t37:=underlying264
 a37:=isAgg264
 z37:=sizeOf264
 v37:=zeroValue264
 t46:=underlying137
 a46:=isAgg137
 z46:=sizeOf137
 v46:=zeroValue137
 t51:=underlying392
 a51:=isAgg392
 z51:=sizeOf392
 v51:=zeroValue392
 t53:=underlying394
 a53:=isAgg394
 z53:=sizeOf394
 v53:=zeroValue394
 t70:=underlying320
 a70:=isAgg320
 z70:=sizeOf320
 v70:=zeroValue320
 t72:=underlying322
 a72:=isAgg322
 z72:=sizeOf322
 v72:=zeroValue322
 t75:=underlying325
 a75:=isAgg325
 z75:=sizeOf325
 v75:=zeroValue325
 t76:=underlying326
 a76:=isAgg326
 z76:=sizeOf326
 v76:=zeroValue326
 t109:=underlying318
 a109:=isAgg318
 z109:=sizeOf318
 v109:=zeroValue318
 t127:=underlying402
 a127:=isAgg402
 z127:=sizeOf402
 v127:=zeroValue402
 t146:=underlying398
 a146:=isAgg398
 z146:=sizeOf398
 v146:=zeroValue398
 t148:=underlying400
 a148:=isAgg400
 z148:=sizeOf400
 v148:=zeroValue400
 t164:=underlying439
 a164:=isAgg439
 z164:=sizeOf439
 v164:=zeroValue439}
def Builder_Extra_105:Builder.Extra Qc lays105_ren:={
 sizeBuilder:=by kernel_rfl
 liesBuilder:=by kernel_rfl
 t5:=underlying5
 a5:=isAgg5
 z5:=sizeOf5
 v5:=zeroValue5
 infoByte:=by kernel_rfl
 cellsByte:=by kernel_rfl
 sizeByte:=by kernel_rfl
 neB5:=by decide}
end Go.Proofs
namespace Go.Vd
open Go.Proofs Go.RowKit
def mayB(t:Int):Bool:=decide (1<=t∧t<=6)
def lenK(t:Int):Int:=if mayB t=true then 1+t*16 else 0
def S230:Summs:=AC []
def R230:List D->Option D:=RF S230 dc230 [.t 2] 9
def ko230:(Ac R230).ok Qc 230:=AH fn230 Ad
def R230_eq(t:Int):R230 [.int .i64 t]=some (.bool (mayB t)):=by
 refine AE (Qa rfl) ?_;unfold dc230;unfold mayB;by_cases c:1<=t
 ·have c':((1:Int)<=t)=True:=eq_true c;simp only[↓go1,gB3,go5,simprocAttr,c']
  all_goals first|rfl|exact⟨rfl,rfl⟩|simp[*]
 ·have c':((1:Int)<=t)=False:=eq_false c;simp only[↓go1,gB3,go5,simprocAttr,c']
  all_goals first|rfl|exact⟨rfl,rfl⟩|simp[*]
def S125:Summs:=AC [(230,Ac R230)]
def R125:List D->Option D:=RF S125 dc125 [.t 2] 9
def ko125:(Ac R125).ok Qc 125:=AH fn125 (Ab ko230 Ad)
def R125_eq(t:Int):R125 [.int .i64 t]=some (.int .i64 (lenK t)):=by
 refine AE (Qa rfl) ?_;unfold dc125;have h230:=R230_eq t;unfold lenK;cases c:mayB t with
 |false=>
  rw[c]at h230;simp only[↓go1,gB3,go5,simprocAttr,Al S125 230,h230]
  all_goals first|rfl|exact⟨rfl,rfl⟩|simp[*]
 |true=>
  have hb:1<=t∧t<=6:=by simpa[mayB]using c
  have w1:IntKind.i64.wrap (t*16)=t*16:=w64 (by omega) (by omega);have w2:IntKind.i64.wrap (1+t*16)=1+t*16:=w64 (by omega) (by omega);rw[c]at h230;simp only[↓go1,gB3,go5,simprocAttr,Al S125 230,h230,w1,w2]
  all_goals first|rfl|exact⟨rfl,rfl⟩|simp[*]
def RP:List D->Option D
 |[.str s,.int .i64 c]=>if 0<=c∧c<=1000000∧s.length*c.toNat<=1000000 then some (.str (Lib.repeatL s c.toNat))else none
 |_=>none
def ko124:(Ac RP).ok Qc 124:=pure_ok ⟨_,func124,by kernel_rfl,by kernel_rfl⟩ λds r h=>by
 unfold RP at h;split at h
 ·rename_i s c;split at h
  ·rename_i hc;simp only[Qp]at h;subst h;refine⟨λd hd=>?_,_,λw g=> .str _,λw=>?_⟩
   ·simp only[Qx,Q1,or_false]at hd;rcases hd with rfl|rfl<;>rfl
   ·have h0:=Go.Proofs.Any.strings_Repeat lays105 Builder_Extra_105 ⟨s.toArray⟩ c.toNat w (by omega) (by show s.toArray.size*_<=_;simp only[List.size_toArray];omega);rw[QE hc.1]at h0;refine h0.mono ?_;rintro e w' ⟨rfl,hb⟩;exact⟨rfl,hb⟩
  ·cases h
 ·cases h
def RP_eq{s:Bs}{c:Int}(h:0<=c∧c<=1000000∧s.length*c.toNat<=1000000):RP [.str s,.int .i64 c]=some (.str (Lib.repeatL s c.toNat)):=if_pos h
def rotO(o:Oc)(te:Int):Oc:={({o with vw:={o.vw with te:=te+1}}:Oc).op 1 (AZ 5 [] 0) (Lib.repeatL [0] (lenK (te+1)).toNat)with rep:=ryT .done}
def S57:Summs:=AC [(54,wQ W54),(123,Ac Cx),(125,Ac R125),(124,Ac RP),(122,wQ Fq),(56,wQ W56)]
def W57:Wb->Oc->List D->Option WY:=RW S57 dc57 [] 34
def ko57:(wQ W57).ok Qc 57:=C_ fn57 (Ab ko54 (Ab ko123 (Ab ko125 (Ab ko124 (Ab ko122 (Ab ko56 Ad))))))
def W57_fail(w:Wb)(o:Oc)(o2:Oc)(ol:Option (List Nat))(ho:o.nl=true->o.ops=[])(ht:6<=w.v.te)(h54:W54 w o [.int .i64 19]=some (.tup [],o2,ol)):W57 w o []=some (.tup [],o2,ol.map (·++[7])):=by
 refine Ba ho ⟨Qa rfl,λh=>Cm h54 h,λl h=>Cl h54 h,λi m fr t ha hfr hni hni0=>?_⟩;have s54:S57 54=some (wQ W54):=rfl;have hW:=Wt.start ha hfr;unfold dc57;have xx:=AO ha.1;simp only[↓go1,go2,go4,go5,simprocAttr,xx,eq_true ht,Ag s54];refine As hW hfr hni h54 ⟨_,_,_,_,rfl⟩ (λM c1 c2=>?_);simp only[↓go1,go2,simprocAttr];exact c1.endc ha.2.2
def W57_ok(w:Wb)(o:Oc)(te:Int)(h0:Oc0 o)(ht:¬6<=w.v.te)(hte:o.vw.te=te)(hb:0<=te∧te<=5):W57 w o []=some (.tup [],rotO o te,some ([11,28])):=by
 refine Ba (λ_=>h0.ops) ⟨Qa rfl,λh=>(by cases h),λl h=>(by simp only[Qp]at h;subst h;exact⟨rfl,by simp⟩),λi m fr t ha hfr hni hni0=>?_⟩;have s125:S57 125=some (Ac R125):=rfl;have s124:S57 124=some (Ac RP):=rfl;have s122:S57 122=some (wQ Fq):=rfl;have s56:S57 56=some (wQ W56):=rfl;have hW:=Wt.start ha hfr;unfold dc57;have xx:=AO ha.1;have hw:IntKind.i64.wrap (te+1)=te+1:=w64 (by omega) (by omega);have h123:=CB 5 0 [] (by simp);have h125:=R125_eq (te+1);have hl:0<=lenK (te+1)∧lenK (te+1)<=1000:=by unfold lenK;split<;>omega
 have h124:=RP_eq (s:=[0]) (c:=lenK (te+1)) ⟨hl.1,by omega,by simp only[List.length_singleton];omega⟩;have h122:=Dy w {o with vw:={o.vw with te:=te+1}} 1 (AZ 5 [] 0) (Lib.repeatL [0] (lenK (te+1)).toNat) (λ_=>h0.ops) (by simp only[h0.ops];simp);have h56:=W56_eq w (({o with vw:={o.vw with te:=te+1}}:Oc).op 1 (AZ 5 [] 0) (Lib.repeatL [0] (lenK (te+1)).toNat)) (λh=>by cases h);have hc:=hW.cellp (p:=26) (ys:=[.int .i64 (te+1)]) (o':={o with vw:={o.vw with te:=te+1}}) (Qa rfl) rfl rfl rfl;simp only[gB1,↓go1,go5,simprocAttr,xx,eq_false ht,hw,Al S57 123,h123,Aa s125,h125,Aa s124,h124,Ag s122,hte];refine Ch hc hfr hni h122 ⟨_,_,_,_,rfl⟩ (λM u hu c1 c2=>?_);simp only[↓go1,go3,simprocAttr];refine Ao.intro ?_ ?_
 ·intro pp hpp l hl;simp only[Qx,QR,or_false]at hpp;subst hpp;exact Az hl
 simp only[↓go1,go2,go4,simprocAttr,Ag s56];refine As c1 hfr hni h56 ⟨_,_,_,_,rfl⟩ (λM2 d1 d2=>?_);simp only[↓go1,go2,simprocAttr];exact d1.endl (l:=[11,28]) (by simp)
end Go.Vd
namespace Go.Vd
open Go.Proofs
def dc127:DC:=(sr [ob 2 0,al 4 [zn],ci 5 0] (sr [lk 7 1 2,mm 8 1,c2 9 103 7 8,mm 6 9] (.seq (sr [mm 10 6,bi 11 .lss 10 0] (cd 11 (sr [lk 12 1 2,st 1 4 12,ci 5 14] .ret) .skip)) (.seq (.drawn [ff 13 0 2,ll 14 13,mm 15 6,oo 16 (.cutl 3 (.t 14) none (some (.t 15))),ff 17 0 2,ll 18 17,mm 19 6,bi 20 .add 19 1,oo 21 (.cutl 3 (.t 18) (some (.t 20)) none),oo 22 (.bslice 50 1 [(.t 16),(.t 21)]),c1 23 106 22,oo 24 (.build [zn] [(0,1,(.t 23))]),st 1 4 24,ci 5 0] []) .ret))))
def fn127:Fn Qc 127 25 dc127 [.cell (some 1) 4,.t 5]:=Am func127
end Go.Vd
namespace Go.Vd
open Go.Proofs Go.RowKit
def or_ok{P:Program}{f:FuncId}{A B:List D->Option D}(hA:(Ac A).ok P f)(hB:(Ac B).ok P f):(Ac λds=>(A ds).or (B ds)).ok P f:=by
 refine⟨hA.1,λds m m' fr _=>rfl,?_⟩;intro B' w0 w m g fr ds vs r u hi hfresh hl hrep hex;have h:(Ac A).ex ds m fr=some (r,u)∨(Ac B).ex ds m fr=some (r,u):=by
  simp only[Ac]at hex ⊢;split at hex
  ·rename_i hc;simp only[hc,if_true];cases ha:A (ds.map D.un)with
   |none=>rw[ha]at hex;exact .inr hex
   |some x=>rw[ha]at hex;exact .inl hex
  ·cases hex
 rcases h with h|h
 ·obtain⟨_,_,h3⟩:=hA;exact h3 hi hfresh hl hrep h
 ·obtain⟨_,_,h3⟩:=hB;exact h3 hi hfresh hl hrep h
def growZ:Summ where
 rd:=λ_ _=>[]
 ex:=λds _ _=>match ds with
  |[.slice true _ [],.int .i64 0]=>some (.slice true [] [],[])
  |_=>none
def walk207z(w:World):Calls Qc 207 #[.slice none 0 0,.int .i64 0] w λe w'=>e= .returned (.slice none 0 0)∧w'=w:=by
 go_enter func207,ntmps207
 go_wp2
 all_goals go_ret
 all_goals exact⟨rfl,rfl⟩
def koGz:growZ.ok Qc 207:=by
 refine⟨⟨_,func207,by kernel_rfl,by kernel_rfl⟩,λds m m' fr _=>rfl,?_⟩;intro B w0 w m g fr ds vs r u hi hfresh hl hrep hex;simp only[growZ]at hex;split at hex
 ·simp only[Qp,Zl]at hex;obtain⟨rfl,rfl⟩:=hex
  match vs,hl with
  |[v0,v1],_=>
   have hr0:=hrep 0 _ v0 rfl rfl;have hr1:=(hrep 1 _ v1 rfl rfl).int_inv;subst hr1;have e0:v0= .slice none 0 0:=by
    rcases hr0.slice_inv with ⟨_,_,e⟩|⟨h,_⟩
    ·exact e
    ·cases h
   subst e0;refine(walk207z w).mono ?_;rintro ev w' ⟨rfl,hw⟩;subst hw;have hb:=Below.refl w'.heap.size w';exact⟨_,g.over w' w',rfl,hi.over hb,Ext.over hi.gz hb,.nils _,λi hf _=>hf⟩
 ·cases hex
def S106z:Summs:=AC [(207,growZ)]
def R106z:List D->Option D:=RF S106z (FM 9 124 3 32 207) [.t 2] 36
def ko106z:(Ac R106z).ok Qc 106:=AH fn106' (Ab koGz Ad)
def growZ_ex{m:Mem}{fr:Id}:growZ.ex [.slice true [] [],.int .i64 0] m fr=some (.slice true [] [],[]):=rfl
def R106z_eq{t:Id}:R106z [.slice false [] [.slice false [] [],.slice false [] []]]=some (.slice true [] []):=by
 refine AE (Qa rfl) ?_;have s207:S106z 207=some growZ:=rfl;have w0:IntKind.i64.wrap 0=0:=rfl;have w1:IntKind.i64.wrap 1=1:=rfl;have w2:IntKind.i64.wrap 2=2:=rfl;have y0:((0:Nat):Int)=0:=rfl;have y1:((1:Nat):Int)=1:=rfl;have y2:((2:Nat):Int)=2:=rfl;have z1:(0:Int)+1=1:=rfl;have z2:(1:Int)+1=2:=rfl;unfold FM;simp only[↓go1,go2,go5,simprocAttr,Ql,Qg];refine Ae (dcCat0.eq_1 _) ?_;simp only[↓go1,gB3,go5,simprocAttr,y0,w0,w1,z1,Int.toNat_zero,Ql,Qg];refine Ae (dcCat0.eq_1 _) ?_;simp only[↓go1,gB3,go5,simprocAttr,y0,w0,w2,z2,Int.toNat_one,Ql,Qg];refine Ae (dcCat0.eq_1 _) ?_;simp only[↓go1,gB3,go5,simprocAttr,Ag s207,growZ_ex,Ql,Qg];refine Ae (dcCat1.eq_1 _ _ _) ?_;simp only[↓go1,gB3,go5,simprocAttr,w1,z1,Int.toNat_zero,Ql,Qg];refine Ae (dcCat1.eq_1 _ _ _) ?_;simp only[↓go1,gB3,go5,simprocAttr,w2,z2,Int.toNat_one,Ql,Qg];refine Ae (dcCat1.eq_1 _ _ _) ?_;simp only[↓go1,gB3,go5,simprocAttr]
 all_goals first|rfl|exact⟨rfl,rfl⟩
def remL(l:List Mt)(p:Bs):List Mt:=l.take (BW l p).toNat++l.drop ((BW l p).toNat+1)
def F106u:List D->Option D:=λds=>(Fcat3 ds).or (R106z ds)
def ko106u:(Ac F106u).ok Qc 106:=or_ok (ok106 ok207) ko106z
def F106u_eq{a b:List Mt}(h:a.length+b.length<=1000):F106u [.slice false [] [.slice false [] (Ar a),.slice false [] (Ar b)]]=some (.slice (decide (a++b=[])) [] (Ar (a++b))):=by
 by_cases c:a++b=[]
 ·obtain⟨rfl,rfl⟩:=Q7.1 c;unfold F106u;rw[show Ar []=[]from rfl,R106z_eq (t:=[])];rfl
 ·have h1:Fcat3 [.slice false [] [.slice false [] (Ar a),.slice false [] (Ar b)]]=some (.slice false [] (Ar (a++b))):=by
   have e:En [D.slice false [] (Ar a),D.slice false [] (Ar b)]=some (Ar (a++b)):=by simp[En,Ar]
   have hp:0<(a++b).length:=List.length_pos_iff.2 c;unfold Fcat3;simp only[e];rw[if_pos ⟨by simp,by rw[Ax];exact hp,by rw[Ax,QL];omega,mtsD_sz _⟩]
  unfold F106u;rw[h1,decide_eq_false c];rfl
def S127:Summs:=AC [(103,Ac F103),(106,Ac F106u)]
def R127:List D->Option D:=RF S127 dc127 [.cell (some 1) 4,.t 5] 25
def ko127:(Ac R127).ok Qc 127:=AH fn127 (Ab ok103 (Ab ko106u Ad))
def R127_no(nl:Bool)(l:List Mt)(p:Bs)(hl:l.length<=1000)(hf:BW l p<0):R127 [.agg [.slice nl [] (Ar l)],.str p]=some (.tup [.agg [.slice nl [] (Ar l)],.int .i64 14]):=by
 refine AE (Qa rfl) ?_;have s106:S127 106=some (Ac F106u):=rfl;unfold dc127;have h103:=F103_eq (nl:=nl) (t:=[]) (l:=l) (p:=p) (by omega);simp only[gB1,↓go1,go5,simprocAttr,Al S127 103,h103,eq_true hf]
 all_goals first|rfl|exact⟨rfl,rfl⟩|simp[*]
def R127_yes(nl:Bool)(l:List Mt)(p:Bs)(hl:l.length<=1000)(hn:nl=true->l=[])(hf:¬BW l p<0)(hi:(BW l p).toNat<l.length):R127 [.agg [.slice nl [] (Ar l)],.str p]=some (.tup [.agg [.slice (decide (remL l p=[])) [] (Ar (remL l p))],.int .i64 0]):=by
 refine AE (Qa rfl) ?_;have s106:S127 106=some (Ac F106u):=rfl;unfold dc127;have h103:=F103_eq (nl:=nl) (t:=[]) (l:=l) (p:=p) (by omega);have hnl:nl=false:=by
  cases nl with
  |false=>rfl
  |true=>rw[hn rfl]at hi;simp at hi
 subst hnl;unfold remL;generalize BW l p=q at *;have hq:(0:Int)<=q:=by omega
 have e1:((q.toNat:Nat):Int)=q:=QE hq;have hw:IntKind.i64.wrap (q+1)=q+1:=w64 (by omega) (by omega);have e2:(q+1).toNat=q.toNat+1:=by omega
 have h106:=F106u_eq (a:=l.take q.toNat) (b:=l.drop (q.toNat+1)) (by rw[QV,Zc];omega);have hd:D.headSz (Ar l) 3=3:=by cases l<;>rfl
 have b1:q.toNat<=l.length:=by omega
 have b2:q.toNat+1<=l.length:=by omega
 have i1:(q<=(l.length:Int))=True:=eq_true (by omega);have i2:(q+1<=(l.length:Int))=True:=eq_true (by omega);have b3:(0:Int)<=q+1:=by omega
 have m1:List.take q.toNat (Ar l)=Ar (l.take q.toNat):=(List.map_take ..).symm;have m2:List.drop (q.toNat+1) (Ar l)=Ar (l.drop (q.toNat+1)):=(List.map_drop ..).symm;have m3:List.take (l.length-(q.toNat+1)) (Ar (l.drop (q.toNat+1)))=Ar (l.drop (q.toNat+1)):=Qv (by rw[Ax,Zc];omega);simp only[gB1,↓go1,go5,simprocAttr,Al S127 103,h103,eq_false hf,hw,Ax,hq,e2,hd,b3,i1,i2,Qw,m1,m2,m3,QS,Aa s106,h106];refine Ao.intro (λp hp=>by cases hp) ?_;simp only[gB1,↓go1,go5,simprocAttr]
 all_goals first|rfl|exact⟨rfl,rfl⟩|simp[*]
def EM(a:Ak):(akC a)[0]?=some (.int .u8 a.op):=rfl
def ak_g1(a:Ak):(akC a)[1]?=some (.str a.tk):=rfl
def ak_g2(a:Ak):(akC a)[2]?=some (.str a.pa):=rfl
def ak_g3(a:Ak):(akC a)[3]?=some (.str a.ot):=rfl
def ak_g10(a:Ak):(akC a)[10]?=some (.str a.key):=rfl
def ES(v:Vw):(vwC v)[0]?=some (.bool v.se):=rfl
def vw_g2(v:Vw):(vwC v)[2]?=some (.str v.key):=rfl
def vw_g3(v:Vw):(vwC v)[3]?=some (.slice v.nlm [] (Ar v.ms)):=rfl
def rdC0{m:Mem}{v:Vw}{a:Ak}:Ah ((m.put [0] 0 (vwC v)).put [1] 0 (akC a)) [0] 0 5=some (vwC v):=by
 rw[AI (by decide),AQ (BH v)]
def rdCA{m:Mem}{a:Ak}:Ah (m.put [1] 0 (akC a)) [1] 0 11=some (akC a):=AQ (Bc a)
def rdP0{m:Mem}{x:List D}{n:Nat}:Ah (m.put [14] 0 x) [0] 0 n=Ah m [0] 0 n:=AI (by decide)
open Classical in
def F158_eq{nl:Bool}{l:List Mt}{p:Bs}(hl:l.length<=1000000):F158 [.agg [.slice nl [] (Ar l)],.str p]=some (.tup (if BW l p<0 then [mtD ([],0,false),.int .i64 14]else [mtD (Bj l (BW l p).toNat),.int .i64 0])):=by
 have h:Ar l=Ar (Ca (Ar l))∧(Ar l).length<=1000000:=by rw[Bh,Ax];exact⟨rfl,hl⟩
 show(if _ then _ else _)=_;rw[if_pos h,Bh]
open Classical in
def F159_eq{v:Vw}{p:Bs}(hl:v.ms.length<=1000000):F159 [vwD v,.str p]=some (.bool (decide (Ci v.ms p≠-1))):=by
 have h:Ar v.ms=Ar (Ca (Ar v.ms))∧(Ar v.ms).length<=1000000:=by rw[Bh,Ax];exact⟨rfl,hl⟩
 show(if _ then _ else _)=_;rw[if_pos h,Bh]
def mountA(v:Vw)(a:Ak):Bool:=decide (a.op<=8)||(((decide (a.op=17)&&decide (0<=BW v.ms a.pa))||decide (Ci v.ms a.pa≠-1))&&(decide (a.op≠18)||decide (Ci v.ms a.ot≠-1)))
def F70:List D->Option D:=FX mkVa (λp=>VwOk p.1) (λp=> .bool (mountA p.1 p.2))
def F70_eq{v:Vw}{a:Ak}(h:VwOk v):F70 [vwD v,akD a]=some (.bool (mountA v a)):=BB (mk:=mkVa) (a:=(v,a)) mkVa_inj h
def ok70:(Ac F70).ok Qc 70:=by
 obtain⟨S,hS,hl⟩:=A7 (Ab ok156 (Ab ok158 (Ab ok159 Ad)));have s156:=hl 156 _ rfl;have s158:=hl 158 _ rfl;have s159:=hl 159 _ rfl;clear hl;refine BM hS fn70 (λ_=>by simp[mkVa]) (λp hv=>?_);obtain⟨v,a⟩:=p;simp only at hv;have hml:=hv.ml;have h156:F156 [.int .u8 a.op]=some (.bool (decide (a.op<=8))):=rfl;have h158:=F158_eq (nl:=v.nlm) (l:=v.ms) (p:=a.pa) (by omega);have h159:∀q,F159 [.agg (vwC v),.str q]=some (.bool (decide (Ci v.ms q≠-1))):=λq=>F159_eq (by omega)
 have h159a:=h159 a.pa;have h159b:=h159 a.ot;unfold dc70 mkVa vwD akD mountA;simp only;by_cases h8:a.op<=8
 ·rw[decide_eq_true h8]at h156;simp only[↓go1,gB3,simprocAttr,EM,ES,A_,BH,AK,Bc,Qq,ne_eq,QG,Af,Qr,QO,Qq,and_self,Qb,Qd,h8,Aa s156,h156]
 ·rw[decide_eq_false h8]at h156;generalize decide (Ci v.ms a.pa≠-1)=b1 at h159a ⊢;generalize decide (Ci v.ms a.ot≠-1)=b2 at h159b ⊢;generalize BW v.ms a.pa=fi at h158 ⊢;clear h159;by_cases h17:a.op=17
  ·have h17':(a.op=17)=True:=eq_true h17;have h18':(a.op=18)=False:=eq_false (by omega);clear h17;by_cases hf:fi<0
   ·have hf':¬0<=fi:=by omega
    rw[if_pos hf]at h158;cases b1<;>simp only[↓go1,gB0,simprocAttr,EM,ak_g2,ak_g3,ES,vw_g2,vw_g3,rdC_one,rdP0,AQ,rdC0,Df,CT,A_,BH,AK,Bc,ne_eq,QG,Q_,QH,QK,Af,Qe,Qb,Qh,Qd,h8,hf',h17',h18',Aa s156,h156,Aa s158,h158,Aa s159,h159a,mtD]
   ·have hf':0<=fi:=by omega
    rw[if_neg hf]at h158;generalize Bj v.ms fi.toNat=mt at h158;simp only[↓go1,gB0,simprocAttr,EM,ak_g2,ak_g3,ES,vw_g2,vw_g3,rdC_one,AQ,A_,BH,AK,Bc,ne_eq,QG,QH,Af,Qe,Qb,Qh,Qd,h8,hf',h17',h18',Aa s156,h156,Aa s158,h158,mtD]
  ·have h17':(a.op=17)=False:=eq_false h17;obtain⟨mt,e,he⟩:∃(mt:Mt)(e:Int),F158 [.agg [.slice v.nlm [] (Ar v.ms)],.str a.pa]=some (.tup [mtD mt,.int .i64 e]):=by
    rw[h158];split
    ·exact⟨_,_,rfl⟩
    ·exact⟨_,_,rfl⟩
   clear h158;by_cases h18:a.op=18
   ·have h18':(a.op=18)=True:=eq_true h18;clear h18 h17;cases b1<;>cases b2<;>simp only[↓go1,gB0,simprocAttr,EM,ak_g2,ak_g3,ES,vw_g2,vw_g3,rdC_one,rdP0,AQ,rdC0,Df,CT,A_,BH,AK,Bc,ne_eq,Qy,Q_,QH,QK,Af,Qe,Qb,Qh,and_false,Qd,h8,h17',h18',Aa s156,h156,Aa s158,he,Aa s159,h159a,h159b,mtD]
   ·have h18':(a.op=18)=False:=eq_false h18;clear h18 h17;cases b1<;>simp only[↓go1,gB0,simprocAttr,EM,ak_g2,ak_g3,ES,vw_g2,vw_g3,rdC_one,rdP0,AQ,rdC0,Df,CT,A_,BH,AK,Bc,ne_eq,Qy,QG,Q_,QH,Af,Qe,Qb,Qh,Qd,h8,h17',h18',Aa s156,h156,Aa s158,he,Aa s159,h159a,mtD]
def DI(v:Vw)(a:Ak):Int:=if Cb a≠0 then Cb a else if a.op=1 then 0 else if a.op=2 then(if v.se=false then 9 else if a.key≠v.key then 11 else 0)else if v.se=true then 12 else if permA v a=false then 13 else if mountA v a=false then 14 else 0
def F25:List D->Option D:=FX mkVa (λp=>VwOk p.1∧AkOk p.2) (λp=> .int .i64 (DI p.1 p.2))
def F25_eq{v:Vw}{a:Ak}(h:VwOk v)(h2:AkOk a):F25 [vwD v,akD a]=some (.int .i64 (DI v a)):=BB (mk:=mkVa) (a:=(v,a)) mkVa_inj ⟨h,h2⟩
def ok25:(Ac F25).ok Qc 25:=by
 obtain⟨S,hS,hl⟩:=A7 (Ab ok68 (Ab ok69 (Ab ok70 Ad)));have s68:=hl 68 _ rfl;have s69:=hl 69 _ rfl;have s70:=hl 70 _ rfl;clear hl;refine BM hS fn25 (λ_=>by simp[mkVa]) (λp hp=>?_);obtain⟨v,a⟩:=p;obtain⟨hv,ha⟩:=hp;simp only at hv ha;have h68:F68 [.agg (akC a)]=some (.int .i64 (Cb a)):=F68_eq ha;have h69:F69 [.agg (vwC v),.agg (akC a)]=some (.bool (permA v a)):=F69_eq hv;have h70:F70 [.agg (vwC v),.agg (akC a)]=some (.bool (mountA v a)):=F70_eq hv;unfold dc25 mkVa vwD akD DI;simp only;generalize Cb a=e at h68 ⊢;generalize permA v a=b1 at h69 ⊢;generalize mountA v a=b2 at h70 ⊢;by_cases he:e=0
 ·subst he;by_cases h1:a.op=1
  ·have h1':(a.op=1)=True:=eq_true h1;clear h1;simp only[↓go1,gB3,simprocAttr,EM,ES,rdCA,A_,BH,Cv,Cw,AK,Bc,Qq,ne_eq,Af,Qr,QO,Qq,and_self,Qb,Qd,h1',Aa s68,h68]
  ·have h1':(a.op=1)=False:=eq_false h1;by_cases h2:a.op=2
   ·have h2':(a.op=2)=True:=eq_true h2;clear h1 h2;cases hse:v.se with
    |false=>
     simp only[↓go1,gB3,simprocAttr,EM,ES,rdCA,A_,BH,Cv,Cw,AK,Bc,Qq,ne_eq,Af,Qr,QO,Qq,and_self,Qb,Qh,Qd,h1',h2',hse,Aa s68,h68]
    |true=>
     by_cases hk:a.key=v.key
     ·have hk':(a.key=v.key)=True:=eq_true hk;have hk2:(a.key==v.key)=true:=by rw[hk];simp
      clear hk;simp only[↓go1,gB3,simprocAttr,EM,ak_g2,ak_g10,ES,vw_g2,rdCA,A_,BH,Cv,Cw,AK,Bc,Qq,ne_eq,Af,Qr,QO,Qq,and_self,Qb,Qh,and_false,Qd,h1',h2',hse,hk',Aa s68,h68]
     ·have hk':(a.key=v.key)=False:=eq_false hk;have hk2:(a.key==v.key)=false:=by simpa using hk
      clear hk;simp only[↓go1,gB3,simprocAttr,EM,ak_g2,ak_g10,ES,vw_g2,rdCA,A_,BH,Cv,Cw,AK,Bc,Qq,ne_eq,Af,Qr,QO,Qq,and_self,Qb,Qh,and_false,Qd,h1',h2',hse,hk',Aa s68,h68]
   ·have h2':(a.op=2)=False:=eq_false h2;clear h1 h2;cases hse:v.se with
    |true=>
     simp only[↓go1,gB3,simprocAttr,EM,ES,rdCA,A_,BH,Cv,Cw,AK,Bc,Qq,ne_eq,Af,Qr,QO,Qq,and_self,Qb,Qh,Qd,h1',h2',hse,Aa s68,h68]
    |false=>
     cases b1 with
     |false=>
      simp only[↓go1,gB3,simprocAttr,EM,ES,rdCA,rdC0,Df,CT,A_,BH,Cv,Cw,AK,Bc,Qq,ne_eq,Af,Qr,QO,Qq,and_self,Qb,Qh,Qd,h1',h2',hse,Aa s68,h68,Aa s69,h69]
     |true=>
      cases b2<;>simp only[↓go1,gB3,simprocAttr,EM,ES,rdCA,rdC0,Df,CT,A_,BH,Cv,Cw,AK,Bc,Qq,ne_eq,Af,Qr,QO,Qq,and_self,Qb,Qh,Qd,h1',h2',hse,Aa s68,h68,Aa s69,h69,Aa s70,h70]
 ·simp only[↓go1,gB3,simprocAttr,rdCA,A_,Cv,Cw,AK,Qq,ne_eq,Qq,and_self,he,Aa s68,h68]
end Go.Vd
namespace Go.Vd
open Go.Proofs
def dc43l0:DC:=(.seq (sr [mm 7 3,mm 8 0,nn 9 false 8,bt 10 .lss 7 9] (cd 10 .skip (.exit 0))) (.seq (.block 1 (sr [mm 13 0,mm 14 3,ii 15 3 13 14,ff 16 0 15,ll 17 16,nn 18 true 17,bi 19 .gtr 18 40,mm 20 19,gm 21 0 7 false,gm 22 3 7 false,og 23 (.iaddr 3 (.t 21) (.t 22)) 7 false,gf 24 1 23 7 false,gl 25 24 7 false,gn 26 true 25 7 false,gi 27 .gtr 26 40 7 false,po 28 20 27,mm 29 28,gm 30 0 16 false,gm 31 3 16 false,og 32 (.iaddr 3 (.t 30) (.t 31)) 16 false,gf 33 2 32 16 false,gl 34 33 16 false,gc 35 44 [(.t 34)] 16 false,gi 36 .gtr 35 0 16 false,po 37 29 36] (cd 37 (sr [ci 2 1] .ret) .skip))) (.row [mm 11 3,bi 12 .add 11 1,mm 3 12])))
def dc43:DC:=(sr [ci 2 0] (.seq (sr [mm 4 0,nn 5 false 4,bi 6 .gtr 5 12] (cd 6 (sr [ci 2 1] .ret) .skip)) (.seq (sr [ci 3 0] (.block 0 (.loop dc43l0))) (sr [ci 2 0] .ret))))
def fn43:Fn Qc 43 38 dc43 [.t 2]:=Am func43
def dc15l0:DC:=(.seq (sr [mm 20 3,ff 21 3 1,ll 22 21,nn 23 false 22,bt 24 .lss 20 23] (cd 24 .skip (.exit 0))) (.seq (.block 1 (sr [ff 27 3 1,ll 28 27,mm 29 3,ii 30 3 28 29,ff 31 0 30,ll 32 31,nn 33 true 32,bi 34 .gtr 33 200] (cd 34 (sr [ci 2 1] .ret) .skip))) (.row [mm 25 3,bi 26 .add 25 1,mm 3 26])))
def dc15:DC:=(sr [ob 1 0,ci 2 0] (.seq (sr [ff 4 2 1,ll 5 4,nn 6 true 5,bi 7 .gtr 6 40,mm 8 7,gf 9 3 1 4 false,gl 10 9 4 false,gn 11 false 10 4 false,gi 12 .gtr 11 8 4 false,po 13 8 12,mm 14 13,gf 15 4 1 10 false,gl 16 15 10 false,gc 17 43 [(.t 16)] 10 false,gi 18 .gtr 17 0 10 false,po 19 14 18] (cd 19 (sr [ci 2 1] .ret) .skip)) (.seq (sr [ci 3 0] (.block 0 (.loop dc15l0))) (sr [ci 2 0] .ret))))
def fn15:Fn Qc 15 35 dc15 [.t 2]:=Am func15
def dc16:DC:=(sr [ob 1 0,ci 2 0] (.seq (sr [ff 3 1 1,ll 4 3,nn 5 true 4,bi 6 .gtr 5 100,mm 7 6,gf 8 2 1 4 false,gl 9 8 4 false,gn 10 true 9 4 false,gi 11 .gtr 10 200 4 false,po 12 7 11,mm 13 12,gf 14 3 1 10 false,gl 15 14 10 false,gn 16 true 15 10 false,gi 17 .gtr 16 200 10 false,po 18 13 17,mm 19 18,gf 20 7 1 16 false,gl 21 20 16 false,gn 22 false 21 16 false,gi 23 .gtr 22 20 16 false,po 24 19 23,mm 25 24,gf 26 8 1 22 false,gl 27 26 22 false,gn 28 true 27 22 false,gi 29 .gtr 28 300 22 false,po 30 25 29,mm 31 30,gf 32 9 1 28 false,gl 33 32 28 false,gc 34 44 [(.t 33)] 28 false,gi 35 .gtr 34 0 28 false,po 36 31 35,mm 37 36,gf 38 10 1 34 false,gl 39 38 34 false,gn 40 true 39 34 false,gi 41 .gtr 40 100 34 false,po 42 37 41] (cd 42 (sr [ci 2 1] .ret) .skip)) (sr [ci 2 0] .ret)))
def fn16:Fn Qc 16 43 dc16 [.t 2]:=Am func16
def dc53l0:DC:=(.seq (sr [mm 5 4,mm 6 0,nn 7 false 6,bt 8 .lss 5 7] (cd 8 .skip (.exit 0))) (.seq (.block 1 (.row [mm 11 3,mm 12 0,mm 13 4,ii 14 2 12 13,lk 15 2 14,bl 16 209 2 15,ap 17 209 2 24 11 16,mm 3 17])) (.row [mm 9 4,bi 10 .add 9 1,mm 4 10])))
def dc53:DC:=(sr [oo 2 (.mv (.c (.slice true [] [])))] (sr [oo 3 (.mv (.c (.slice true [] [])))] (.seq (sr [ci 4 0] (.block 0 (.loop dc53l0))) (sr [mm 18 3,mm 2 18] .ret))))
def fn53:Fn Qc 53 19 dc53 [.t 2]:=Am func53
def dc51:DC:=(sr [ob 1 0,al 2 [zs,zs,zn]] (.seq (.drawn [ff 3 0 1,ll 4 3,ff 5 1 1,ll 6 5,ff 7 2 1,ll 8 7,c1 9 53 8,oo 10 (.build [zs,zs,zn] [(0,1,(.t 4)),(1,1,(.t 6)),(2,1,(.t 9))]),st 3 2 10] [(6,1),(6,3)]) .ret))
def fn51:Fn Qc 51 11 dc51 [.cell (some 3) 2]:=Am func51
def dc46:DC:=(sr [ob 1 0,al 2 [zs,zi,zb]] (sr [ff 3 0 1,ll 4 3,ff 5 1 1,lk 6 2 5,oo 7 (.build [zs,zi,zb] [(0,1,(.t 4)),(1,2,(.t 6))]),st 3 2 7] .ret))
def fn46:Fn Qc 46 8 dc46 [.cell (some 3) 2]:=Am func46
def dc18:DC:=(sr [ob 1 0,al 2 [zu,zs,zs,zs,zi,zi,zb,zn,zs,zn,zs]] (.seq (.drawn [ff 3 0 1,ll 4 3,ff 5 1 1,ll 6 5,ff 7 2 1,ll 8 7,ff 9 3 1,ll 10 9,ff 11 4 1,ll 12 11,ff 13 5 1,ll 14 13,ff 15 6 1,ll 16 15,ff 17 7 1,ll 18 17,ff 19 8 1,ll 20 19,ff 21 9 1,ll 22 21,c1 23 53 22,ff 24 10 1,ll 25 24,oo 26 (.build [zu,zs,zs,zs,zi,zi,zb,zn,zs,zn,zs] [(0,1,(.t 4)),(1,1,(.t 6)),(2,1,(.t 8)),(3,1,(.t 10)),(4,1,(.t 12)),(5,1,(.t 14)),(6,1,(.t 16)),(7,1,(.t 18)),(8,1,(.t 20)),(9,1,(.t 23)),(10,1,(.t 25))]),st 11 2 26] [(20,1),(20,3),(20,5),(20,7),(20,9),(20,11),(20,13),(20,15),(20,17),(20,22)]) .ret))
def fn18:Fn Qc 18 27 dc18 [.cell (some 11) 2]:=Am func18
def dc17l0:DC:=(.seq (sr [mm 11 6,ff 12 3 1,ll 13 12,nn 14 false 13,bt 15 .lss 11 14] (cd 15 .skip (.exit 0))) (.seq (.block 1 (.seq (.drawn [lk 19 1 4,ff 20 3 1,ll 21 20,mm 22 6,ii 23 3 21 22,lk 24 3 23,c1 25 46 24,c2 26 45 19 25,mm 18 26,xx 27 0 18,xx 28 1 18,st 1 4 27] [(6,0)]) (.row [mm 30 5,ff 31 3 1,ll 32 31,mm 33 6,ii 34 3 32 33,lk 35 3 34,c2 36 47 30 35,mm 29 36,xx 37 0 29,xx 38 1 29,mm 5 37]))) (.row [mm 16 6,bi 17 .add 16 1,mm 6 17])))
def dc17l1:DC:=(.seq (sr [mm 41 9,ff 42 4 1,ll 43 42,nn 44 false 43,bt 45 .lss 41 44] (cd 45 .skip (.exit 2))) (.seq (.block 3 (.seq (.drawn [lk 49 1 7,ff 50 4 1,ll 51 50,mm 52 9,ii 53 3 51 52,lk 54 3 53,c1 55 51 54,c2 56 50 49 55,mm 48 56,xx 57 0 48,xx 58 1 48,st 1 7 57] [(6,0)]) (.row [mm 60 8,ff 61 4 1,ll 62 61,mm 63 9,ii 64 3 62 63,lk 65 3 64,c2 66 52 60 65,mm 59 66,xx 67 0 59,xx 68 1 59,mm 8 67]))) (.row [mm 46 9,bi 47 .add 46 1,mm 9 47])))
def dc17:DC:=(sr [ob 1 0,al 2 [zb,zi,zs,zn,zn],al 3 [zb,zi,zs,zn,zn]] (sr [al 4 [zn]] (sr [oo 5 (.mv (.c (.slice true [] [])))] (.seq (sr [ci 6 0] (.block 0 (.loop dc17l0))) (sr [cc 39 48 [],cc 40 49 [],al 7 [zn],st 1 7 39,mm 8 40] (.seq (sr [ci 9 0] (.block 2 (.loop dc17l1))) (sr [ff 69 1 1,ll 70 69,oo 71 (.conv .u64 (.t 70)),oo 72 (.bin .rem (.t 71) (.c (.int .u64 6))),oo 73 (.conv .i64 (.t 72)),oo 74 (.bin .add (.c (.int .i64 1)) (.t 73)),mm 10 74] (.seq (.drawn [ff 75 0 1,ll 76 75,mm 77 10,ff 78 2 1,ll 79 78,lk 80 1 4,lk 81 1 7,oo 82 (.build [zb,zi,zs,zn,zn] [(0,1,(.t 76)),(1,1,(.t 77)),(2,1,(.t 79)),(3,1,(.t 80)),(4,1,(.t 81))]),ff 83 0 1,ll 84 83,mm 85 10,ff 86 2 1,ll 87 86,mm 88 5,mm 89 8,oo 90 (.build [zb,zi,zs,zn,zn] [(0,1,(.t 84)),(1,1,(.t 85)),(2,1,(.t 87)),(3,1,(.t 88)),(4,1,(.t 89))]),st 5 2 82,st 5 3 90] [(16,9),(16,12)]) .ret))))))))
def fn17:Fn Qc 17 91 dc17 [.cell (some 5) 2,.cell (some 5) 3]:=Am func17
end Go.Vd
namespace Go.Vd
open Go.Proofs Go.RowKit
def bigR(r:Rl):Bool:=decide (100<r.1.length)
def overR(l:List Rl):Bool:=decide (8<l.length)||l.any bigR
def mkRl(p:Bool×List Rl):List D:=[.slice p.1 [] (An p.2)]
def mkRl_inj(x y:Bool×List Rl)(e:mkRl x=mkRl y):x=y:=by
 simp only[mkRl,Qb,D.slice.injEq,true_and,and_true]at e;exact QX e.1 (rlsD_inj e.2)
def oneI(b:Bool):D:= .int .i64 (if b=true then 1 else 0)
def F44:List D->Option D:=FX mkRl (λ_=>True) (λp=>oneI (overR p.2))
def F44_eq{nl:Bool}{l:List Rl}:F44 [.slice nl [] (An l)]=some (oneI (overR l)):=BB (mk:=mkRl) (a:=(nl,l)) mkRl_inj trivial
def loop44{S:Summs}{l:List Rl}{nl:Bool}{Q:Ex->St->Prop}(hb:l.length<=8)
  (hret:∀st,l.any bigR=true->st.s 2= .int .i64 1->Q .ret st) (hexit:∀st,l.any bigR=false->Q (.exit 0) st):
  ∀(f j:Nat) st g,l.length=j+f->(l.take j).any bigR=false->st.s 0= .slice nl [] (An l)->st.s 3= .int .i64 (j:Int)->A8 S [] dc44l0 Q st g:=by
 intro f;induction f with
 |zero=>
  intro j st g hf ha h0 h3;refine Ae dc44l0.eq_1 ?_;have:¬((j:Int)<l.length):=by omega
  simp only[↓go1,go2,go4,simprocAttr,h0,h3,this,Av];rw[Qv (by omega)]at ha;exact hexit _ ha
 |succ f ih=>
  intro j st g hf ha h0 h3;refine Ae dc44l0.eq_1 ?_;have hj:j<l.length:=by omega
  have hlt:((j:Int)<l.length):=by omega
  have hj0:=nJ (j:=j);have hw:=wJ (j:=j) (by omega);have hat:(An l)[j]?=some (.agg [.str l[j].1,.int .u8 l[j].2]):=by simp[An,Qj hj,rlD]
  have htk:l.take (j+1)=l.take j++[l[j]]:=by rw[QN,Qj hj];rfl
  have hmem:l[j]∈l:=QC hj;generalize l[j]=x at hat htk hmem;obtain⟨st_s,st_m,st_c⟩:=st;simp only at h0 h3;by_cases hx:100<x.1.length
  ·have hx':(100:Int)<(x.1.length:Int):=by omega
   simp only[↓go1,gB2,go4,simprocAttr,h0,h3,hlt,hj0,Qo,hat,Av,hx',Qr,Qw,QU];refine hret _ ?_ rfl;rw[Q3];exact⟨x,hmem,by simp[bigR,hx]⟩
  ·have hx':¬(100:Int)<(x.1.length:Int):=by omega
   simp only[↓go1,gB2,go4,simprocAttr,h0,h3,hlt,hj0,hw,Qo,hat,Av,hx',Qr,Qw,QU];refine ih (j+1) _ _ (by omega) ?_ h0 rfl;rw[htk,Zt,ha];simp[bigR,hx]
def ok44:(Ac F44).ok Qc 44:=by
 refine BM (S:=λ_=>none) AL fn44 (λ_=>by simp[mkRl]) (λp _=>?_);obtain⟨nl,l⟩:=p;unfold dc44 overR mkRl;simp only;by_cases h8:8<l.length
 ·have h8':(8:Int)<(l.length:Int):=by omega
  simp only[↓go1,gB3,simprocAttr,h8',Av];exact⟨by simp[oneI,h8],rfl⟩
 ·have h8':¬(8:Int)<(l.length:Int):=by omega
  simp only[↓go1,go2,go4,simprocAttr,h8',Av];refine loop44 (l:=l) (nl:=nl) (by omega) (λst h1 h2=>?_) (λst h1=>?_) l.length 0 _ _ (by omega) (by simp) rfl rfl
  ·simp only[↓go1,go2,go3,h1,h2,QH]
   all_goals first|rfl|exact⟨rfl,rfl⟩
  ·simp only[↓go1,gB3,reduceIte,Qn,h1,h8,Q_]
   all_goals first|rfl|exact⟨rfl,rfl⟩
def bigT(k:Tk):Bool:=decide (40<k.1.length)||decide (40<k.2.1.length)||overR k.2.2.2
def overT(l:List Tk):Bool:=decide (12<l.length)||l.any bigT
def mkTl(p:Bool×List Tk):List D:=[.slice p.1 [] (Aw p.2)]
def mkTl_inj(x y:Bool×List Tk)(e:mkTl x=mkTl y):x=y:=by
 simp only[mkTl,Qb,D.slice.injEq,true_and,and_true]at e;exact QX e.1 (tksD_inj e.2)
def F43:List D->Option D:=FX mkTl (λ_=>True) (λp=>oneI (overT p.2))
def F43_eq{nl:Bool}{l:List Tk}:F43 [.slice nl [] (Aw l)]=some (oneI (overT l)):=BB (mk:=mkTl) (a:=(nl,l)) mkTl_inj trivial
def DJ:oneI true= .int .i64 1:=rfl
def oneI_f:oneI false= .int .i64 0:=rfl
def loop43{S:Summs}{l:List Tk}{nl:Bool}{Q:Ex->St->Prop}(s44:S 44=some (Ac F44))(hb:l.length<=12)
  (hret:∀st,l.any bigT=true->st.s 2= .int .i64 1->Q .ret st) (hexit:∀st,l.any bigT=false->Q (.exit 0) st):
  ∀(f j:Nat) st g,l.length=j+f->(l.take j).any bigT=false->st.s 0= .slice nl [] (Aw l)->st.s 3= .int .i64 (j:Int)->A8 S [] dc43l0 Q st g:=by
 intro f;induction f with
 |zero=>
  intro j st g hf ha h0 h3;refine Ae dc43l0.eq_1 ?_;have:¬((j:Int)<l.length):=by omega
  simp only[↓go1,go2,go4,simprocAttr,h0,h3,this,AP];rw[Qv (by omega)]at ha;exact hexit _ ha
 |succ f ih=>
  intro j st g hf ha h0 h3;refine Ae dc43l0.eq_1 ?_;have hj:j<l.length:=by omega
  have hlt:((j:Int)<l.length):=by omega
  have hj0:=nJ (j:=j);have hw:=wJ (j:=j) (by omega);have hat:(Aw l)[j]?=some (.agg [.str l[j].1,.str l[j].2.1,.slice l[j].2.2.1 [] (An l[j].2.2.2)]):=by simp[Aw,Qj hj,tkD]
  have htk:l.take (j+1)=l.take j++[l[j]]:=by rw[QN,Qj hj];rfl
  have hmem:l[j]∈l:=QC hj;generalize l[j]=x at hat htk hmem;obtain⟨x1,x2,x3,x4⟩:=x;simp only at hat;have hx4:(bigT (x1,x2,x3,x4))=(decide (40<x1.length)||decide (40<x2.length)||overR x4):=rfl;have h44:=F44_eq (nl:=x3) (l:=x4);generalize overR x4=b at h44 hx4;obtain⟨st_s,st_m,st_c⟩:=st;simp only at h0 h3;by_cases hx:40<x1.length
  ·have hx':(40:Int)<(x1.length:Int):=by omega
   simp only[↓go1,gB2,go4,simprocAttr,h0,h3,hlt,hj0,Qo,hat,AP,Qr,Qw,QU,hx'];refine hret _ ?_ rfl;rw[Q3];exact⟨_,hmem,by rw[hx4,decide_eq_true hx];rfl⟩
  ·have hx':¬(40:Int)<(x1.length:Int):=by omega
   by_cases hy:40<x2.length
   ·have hy':(40:Int)<(x2.length:Int):=by omega
    simp only[↓go1,gB2,go4,simprocAttr,h0,h3,hlt,hj0,Qo,hat,AP,Qr,Qw,QF,QU,hx',hy'];refine hret _ ?_ rfl;rw[Q3];exact⟨_,hmem,by rw[hx4,decide_eq_true hy];simp⟩
   ·have hy':¬(40:Int)<(x2.length:Int):=by omega
    cases b with
    |true=>
     simp only[↓go1,gB2,go4,simprocAttr,h0,h3,hlt,hj0,Qo,hat,AP,Aa s44,h44,DJ,Qr,Qw,QF,QU,hx',hy'];refine hret _ ?_ rfl;rw[Q3];exact⟨_,hmem,by rw[hx4];simp⟩
    |false=>
     simp only[↓go1,gB2,go4,simprocAttr,h0,h3,hlt,hj0,hw,Qo,hat,AP,Aa s44,h44,oneI_f,Qr,Qw,QF,QU,hx',hy'];refine ih (j+1) _ _ (by omega) ?_ h0 rfl;rw[htk,Zt,ha,List.any_cons,hx4,decide_eq_false hx,decide_eq_false hy];rfl
def ok43:(Ac F43).ok Qc 43:=by
 obtain⟨S,hS,hl⟩:=A7 (Ab ok44 Ad);have s44:=hl 44 _ rfl;clear hl;refine BM hS fn43 (λ_=>by simp[mkTl]) (λp _=>?_);obtain⟨nl,l⟩:=p;unfold dc43 overT mkTl;simp only;by_cases h8:12<l.length
 ·have h8':(12:Int)<(l.length:Int):=by omega
  simp only[↓go1,gB3,simprocAttr,h8',AP];exact⟨by simp[oneI,h8],rfl⟩
 ·have h8':¬(12:Int)<(l.length:Int):=by omega
  simp only[↓go1,go2,go4,simprocAttr,h8',AP];refine loop43 (l:=l) (nl:=nl) s44 (by omega) (λst h1 h2=>?_) (λst h1=>?_) l.length 0 _ _ (by omega) (by simp) rfl rfl
  ·simp only[↓go1,go2,go3,h1,h2,QH]
   all_goals first|rfl|exact⟨rfl,rfl⟩
  ·simp only[↓go1,gB3,reduceIte,Qn,h1,h8,Q_]
   all_goals first|rfl|exact⟨rfl,rfl⟩
def bigM(m:Mt):Bool:=decide (200<m.1.length)
def overS(v:Vw):Bool:=decide (40<v.key.length)||decide (8<v.ms.length)||overT v.ks||v.ms.any bigM
def mkV(v:Vw):List D:=[vwD v]
def mkV_inj(x y:Vw)(e:mkV x=mkV y):x=y:=by
 simp only[mkV,Qb,and_true]at e;exact vwD_inj e
def F15:List D->Option D:=FX mkV (λ_=>True) (λv=>oneI (overS v))
def F15_eq{v:Vw}:F15 [vwD v]=some (oneI (overS v)):=BB (mk:=mkV) (a:=v) mkV_inj trivial
def vwP{m:Mem}{v:Vw}{k:Nat}{d:D}(hd:(vwC v)[k]?=some d):(m.put [0] 0 (vwC v)) [0] k=some d:=by
 have hk:=(Qz.1 hd).1;rw[Af,if_pos ⟨rfl,Qr _,by omega⟩];exact hd
def loop15{S:Summs}{v:Vw}{Q:Ex->St->Prop}(hb:v.ms.length<=8)
  (hret:∀st,v.ms.any bigM=true->st.s 2= .int .i64 1->Q .ret st) (hexit:∀st,v.ms.any bigM=false->Q (.exit 0) st):
  ∀(f j:Nat) st g,v.ms.length=j+f->(v.ms.take j).any bigM=false->st.s 1= .ptr [0] 0->st.m [0] 3=some (.slice v.nlm [] (Ar v.ms))->st.s 3= .int .i64 (j:Int)->A8 S [] dc15l0 Q st g:=by
 intro f;induction f with
 |zero=>
  intro j st g hf ha h1 hm h3;refine Ae dc15l0.eq_1 ?_;have:¬((j:Int)<v.ms.length):=by omega
  simp only[↓go1,go2,go4,simprocAttr,h1,hm,h3,this,Ax];rw[Qv (by omega)]at ha;exact hexit _ ha
 |succ f ih=>
  intro j st g hf ha h1 hm h3;refine Ae dc15l0.eq_1 ?_;have hj:j<v.ms.length:=by omega
  have hlt:((j:Int)<v.ms.length):=by omega
  have hj0:=nJ (j:=j);have hw:=wJ (j:=j) (by omega);have hat:(Ar v.ms)[j]?=some (.agg [.str v.ms[j].1,.int .i64 v.ms[j].2.1,.bool v.ms[j].2.2]):=by simp[Ar,Qj hj,mtD]
  have htk:v.ms.take (j+1)=v.ms.take j++[v.ms[j]]:=by rw[QN,Qj hj];rfl
  have hmem:v.ms[j]∈v.ms:=QC hj;generalize v.ms[j]=x at hat htk hmem;obtain⟨st_s,st_m,st_c⟩:=st;simp only at h1 hm h3;by_cases hx:200<x.1.length
  ·have hx':(200:Int)<(x.1.length:Int):=by omega
   simp only[↓go1,gB2,go4,simprocAttr,h1,hm,h3,hlt,hj0,Qo,hat,Ax,hx',Qr,Qw,QU];refine hret _ ?_ rfl;rw[Q3];exact⟨x,hmem,by simp[bigM,hx]⟩
  ·have hx':¬(200:Int)<(x.1.length:Int):=by omega
   simp only[↓go1,gB2,go4,simprocAttr,h1,hm,h3,hlt,hj0,hw,Qo,hat,Ax,hx',Qr,Qw,QU];refine ih (j+1) _ _ (by omega) ?_ h1 hm rfl;rw[htk,Zt,ha];simp[bigM,hx]
def ok15:(Ac F15).ok Qc 15:=by
 obtain⟨S,hS,hl⟩:=A7 (Ab ok43 Ad);have s43:=hl 43 _ rfl;clear hl;refine BM hS fn15 (λ_=>by simp[mkV]) (λv _=>?_);have h43:=F43_eq (nl:=v.nlt) (l:=v.ks);have m2:=λm:Mem=>vwP (m:=m) (v:=v) (k:=2) rfl
 have m3:=λm:Mem=>vwP (m:=m) (v:=v) (k:=3) rfl
 have m4:=λm:Mem=>vwP (m:=m) (v:=v) (k:=4) rfl
 unfold dc15 overS mkV vwD;generalize overT v.ks=b at h43;by_cases h1:40<v.key.length
 ·have h1':(40:Int)<(v.key.length:Int):=by omega
  simp only[↓go1,gB3,simprocAttr,m2,A_,DJ,QG,h1',h1]
  all_goals first|rfl|exact⟨rfl,rfl⟩
 ·have h1':¬(40:Int)<(v.key.length:Int):=by omega
  by_cases h2:8<v.ms.length
  ·have h2':(8:Int)<(v.ms.length:Int):=by omega
   simp only[↓go1,gB3,simprocAttr,m2,m3,Ax,A_,DJ,QG,QH,h1',h1,h2',h2]
   all_goals first|rfl|exact⟨rfl,rfl⟩
  ·have h2':¬(8:Int)<(v.ms.length:Int):=by omega
   cases b with
   |true=>
    simp only[↓go1,gB3,simprocAttr,m2,m3,m4,h43,Aa s43,Ax,A_,DJ,QG,QH,QZ,h1',h1,h2',h2]
    all_goals first|rfl|exact⟨rfl,rfl⟩
   |false=>
    simp only[↓go1,gB3,simprocAttr,m2,m3,m4,h43,Aa s43,Ax,A_,oneI_f,h1',h2'];refine loop15 (v:=v) (by omega) (λst h3 h4=>?_) (λst h3=>?_) v.ms.length 0 _ _ (by omega) (by simp) rfl (m3 (λ_ _=>none)) rfl
    ·simp only[↓go1,go2,go3,h3,h4,QH]
     all_goals first|rfl|exact⟨rfl,rfl⟩
    ·simp only[↓go1,gB3,reduceIte,Qn,h3,h1,h2,Q_]
     all_goals first|rfl|exact⟨rfl,rfl⟩
def overA(a:Ak):Bool:=decide (100<a.tk.length)||decide (200<a.pa.length)||decide (200<a.ot.length)||decide (20<a.ns.length)||decide (300<a.da.length)||overR a.rs||decide (100<a.key.length)
def mkA(a:Ak):List D:=[akD a]
def mkA_inj(x y:Ak)(e:mkA x=mkA y):x=y:=by
 simp only[mkA,Qb,and_true]at e;exact Eo e
def akP{m:Mem}{a:Ak}{k:Nat}{d:D}(hd:(akC a)[k]?=some d):(m.put [0] 0 (akC a)) [0] k=some d:=by
 have hk:=(Qz.1 hd).1;rw[Af,if_pos ⟨rfl,Qr _,by omega⟩];exact hd
def F16:List D->Option D:=FX mkA (λ_=>True) (λa=>oneI (overA a))
def F16_eq{a:Ak}:F16 [akD a]=some (oneI (overA a)):=BB (mk:=mkA) (a:=a) mkA_inj trivial
def ok16:(Ac F16).ok Qc 16:=by
 obtain⟨S,hS,hl⟩:=A7 (Ab ok44 Ad);have s44:=hl 44 _ rfl;clear hl;refine BM hS fn16 (λ_=>by simp[mkA]) (λa _=>?_);have h44:=F44_eq (nl:=a.nlr) (l:=a.rs);have m1:=λm:Mem=>akP (m:=m) (a:=a) (k:=1) rfl
 have m2:=λm:Mem=>akP (m:=m) (a:=a) (k:=2) rfl
 have m3:=λm:Mem=>akP (m:=m) (a:=a) (k:=3) rfl
 have m7:=λm:Mem=>akP (m:=m) (a:=a) (k:=7) rfl
 have m8:=λm:Mem=>akP (m:=m) (a:=a) (k:=8) rfl
 have m9:=λm:Mem=>akP (m:=m) (a:=a) (k:=9) rfl
 have m10:=λm:Mem=>akP (m:=m) (a:=a) (k:=10) rfl
 have q1:((100:Int)<(a.tk.length:Int))=(100<a.tk.length):=propext (by omega);have q2:((200:Int)<(a.pa.length:Int))=(200<a.pa.length):=propext (by omega);have q3:((200:Int)<(a.ot.length:Int))=(200<a.ot.length):=propext (by omega);have q4:((20:Int)<(a.ns.length:Int))=(20<a.ns.length):=propext (by omega);have q5:((300:Int)<(a.da.length:Int))=(300<a.da.length):=propext (by omega);have q6:((100:Int)<(a.key.length:Int))=(100<a.key.length):=propext (by omega);unfold dc16 overA mkA akD;generalize overR a.rs=b at h44;by_cases h1:100<a.tk.length
 ·simp only[↓go1,gB3,simprocAttr,m1,q1,AK,DJ,QG,h1]
  all_goals first|rfl|exact⟨rfl,rfl⟩
 by_cases h2:200<a.pa.length
 ·simp only[↓go1,gB3,simprocAttr,m1,m2,q1,q2,AK,DJ,QG,QH,h1,h2]
  all_goals first|rfl|exact⟨rfl,rfl⟩
 by_cases h3:200<a.ot.length
 ·simp only[↓go1,gB3,simprocAttr,m1,m2,m3,q1,q2,q3,AK,DJ,QG,QH,QZ,h1,h2,h3]
  all_goals first|rfl|exact⟨rfl,rfl⟩
 by_cases h4:20<a.ns.length
 ·simp only[↓go1,gB3,simprocAttr,m1,m2,m3,m7,q1,q2,q3,q4,B2,AK,DJ,QG,QH,QZ,h1,h2,h3,h4]
  all_goals first|rfl|exact⟨rfl,rfl⟩
 by_cases h5:300<a.da.length
 ·simp only[↓go1,gB3,simprocAttr,m1,m2,m3,m7,m8,q1,q2,q3,q4,q5,B2,AK,DJ,QG,QH,QZ,h1,h2,h3,h4,h5]
  all_goals first|rfl|exact⟨rfl,rfl⟩
 cases b with
 |true=>
  simp only[↓go1,gB3,simprocAttr,m1,m2,m3,m7,m8,m9,q1,q2,q3,q4,q5,h44,Aa s44,B2,AK,DJ,QG,QH,QZ,h1,h2,h3,h4,h5]
  all_goals first|rfl|exact⟨rfl,rfl⟩
 |false=>
  by_cases h6:100<a.key.length
  ·simp only[↓go1,gB3,simprocAttr,m1,m2,m3,m7,m8,m9,m10,q1,q2,q3,q4,q5,q6,h44,Aa s44,B2,AK,DJ,oneI_f,QH,QZ,h1,h2,h3,h4,h5,h6]
   all_goals first|rfl|exact⟨rfl,rfl⟩
  ·simp only[↓go1,gB3,simprocAttr,m1,m2,m3,m7,m8,m9,m10,q1,q2,q3,q4,q5,q6,h44,Aa s44,B2,AK,oneI_f,QZ,h1,h2,h3,h4,h5,h6]
   all_goals first|rfl|exact⟨rfl,rfl⟩
def F53:List D->Option D:=FX mkRl (λp=>p.2.length<=1000) (λp=> .slice p.2.isEmpty [] (An p.2))
def F53_eq{nl:Bool}{l:List Rl}(h:l.length<=1000):F53 [.slice nl [] (An l)]=some (.slice l.isEmpty [] (An l)):=BB (mk:=mkRl) (a:=(nl,l)) mkRl_inj h
def isE_take{l:List Rl}{j:Nat}(h:j<l.length):(l.take (j+1)).isEmpty=false:=by
 cases l with
 |nil=>simp at h
 |cons x r=>rfl
def loop53{S:Summs}{l:List Rl}{nl:Bool}{Q:Ex->St->Prop}(hb:l.length<=1000)
  (hexit:∀st t,st.s 3= .slice l.isEmpty t (An l)->Q (.exit 0) st):
  ∀(f j:Nat)(t:Id) st g,l.length=j+f->st.s 0= .slice nl [] (An l)->st.s 3= .slice (l.take j).isEmpty t (An (l.take j))->Gw st.m st.c 209 (l.take j).isEmpty t->st.s 4= .int .i64 (j:Int)->A8 S [] dc53l0 Q st g:=by
 intro f;induction f with
 |zero=>
  intro j t st g hf h0 h3 hg h4;refine Ae dc53l0.eq_1 ?_;have:¬((j:Int)<l.length):=by omega
  simp only[↓go1,go2,go4,simprocAttr,h0,h4,this,Av];rw[Qv (by omega)]at h3;exact hexit _ t h3
 |succ f ih=>
  intro j t st g hf h0 h3 hg h4;refine Ae dc53l0.eq_1 ?_;have hj:j<l.length:=by omega
  have hlt:((j:Int)<l.length):=by omega
  have hj0:=nJ (j:=j);have hw:=wJ (j:=j) (by omega);have hat:(An l)[j]?=some (.agg [.str l[j].1,.int .u8 l[j].2]):=by simp[An,Qj hj,rlD]
  have htk:An (l.take (j+1))=An (l.take j)++[.agg [.str l[j].1,.int .u8 l[j].2]]:=by
   have e:l.take (j+1)=l.take j++[l[j]]:=by rw[QN,Qj hj];rfl
   rw[e];unfold An;rw[Zf];rfl
  have hn:(l.take j).isEmpty=true->An (l.take j)=[]:=λh=>by rw[Zb.1 h];rfl
  have hlen:(An (l.take j)).length<=1000:=by rw[Av,QV];omega
  have hlen2:(l.take j).length<=1000:=by rw[QV];omega
  have hem:=isE_take hj;obtain⟨st_s,st_m,st_c⟩:=st;simp only at h0 h3 hg h4;simp only[↓go1,gB2,go4,simprocAttr,h0,h3,h4,hlt,hj0,Qo,hat,Av,and_false,Qu,QB,and_false];refine Ao.intro ⟨by omega,rfl,hg.grow (by omega)⟩ ?_;rw[BG hn];simp only[↓go1,gB3,simprocAttr,h4,hw];refine ih (j+1) [st_c+4+6] _ _ (by omega) h0 ?_ ?_ rfl
  ·rw[hem,htk];rfl
  ·rw[hem];exact Gw.new (by simp only;omega)
def ok53:(Ac F53).ok Qc 53:=by
 refine BM (S:=λ_=>none) AL fn53 (λ_=>by simp[mkRl]) (λp hp=>?_);obtain⟨nl,l⟩:=p;simp only at hp;unfold dc53 mkRl;simp only[↓go1,go2,Qn];refine loop53 (l:=l) (nl:=nl) hp (λst t h=>?_) l.length 0 [] _ _ (by omega) rfl rfl (.inl rfl) rfl;simp only[↓go1,gB3,simprocAttr,h]
def ownT(k:Tk):Tk:=(k.1,k.2.1,k.2.2.2.isEmpty,k.2.2.2)
def F51:List D->Option D:=FX (λk:Tk=>[tkD k]) (λk=>k.2.2.2.length<=1000) (λk=>tkD (ownT k))
def tkD_inj1(x y:Tk)(e:[tkD x]=[tkD y]):x=y:=by
 simp only[Qb,and_true]at e;have:Aw [x]=Aw [y]:=by simp[Aw,e]
 simpa using tksD_inj this
def F51_eq{k:Tk}(h:k.2.2.2.length<=1000):F51 [tkD k]=some (tkD (ownT k)):=BB (mk:=λk:Tk=>[tkD k]) (a:=k) tkD_inj1 h
def ok51:(Ac F51).ok Qc 51:=by
 obtain⟨S,hS,hl⟩:=A7 (Ab ok53 Ad);have s53:=hl 53 _ rfl;clear hl;refine BM hS fn51 (λ_=>by simp) (λk hk=>?_);obtain⟨x1,x2,x3,x4⟩:=k;simp only at hk;have h53:=F53_eq (nl:=x3) (l:=x4) hk;unfold dc51 tkD ownT;simp only;simp only[↓go1,gB0,simprocAttr,BK,C5,Q4,Qs,Qt,Aa s53,h53,Af,Ap,Aq,Qk,Qu,QB,Qe,Qw,QF,Qb,Qh,Qd];refine Ao.intro (Aj rfl) ?_;simp only[↓go1,gB0,simprocAttr,Qs,Qt,Af,Ap,Aq,Qk,Qb,Qd,Bf,AX]
 all_goals first|rfl|exact⟨rfl,rfl⟩
def F46:List D->Option D:=FX (λm:Mt=>[mtD m]) (λ_=>True) (λm=>mtD m)
def mtD_inj1(x y:Mt)(e:[mtD x]=[mtD y]):x=y:=by
 simp only[Qb,and_true]at e;have:Ar [x]=Ar [y]:=by simp[Ar,e]
 simpa using mtsD_inj this
def F46_eq{m:Mt}:F46 [mtD m]=some (mtD m):=BB (mk:=λm:Mt=>[mtD m]) (a:=m) mtD_inj1 trivial
def ok46:(Ac F46).ok Qc 46:=by
 refine BM (S:=λ_=>none) AL fn46 (λ_=>by simp) (λm _=>?_);obtain⟨x1,x2,x3⟩:=m;unfold dc46 mtD;simp only;simp only[↓go1,gB0,simprocAttr,BK,C5,Q4,Qs,Qt,Af,Ap,Aq,Qk,Qu,QB,Qe,Qw,QF,Qb,Qh,Qd,Bf,AX]
 all_goals first|rfl|exact⟨rfl,rfl⟩
def ownA(a:Ak):Ak:={a with nlr:=a.rs.isEmpty}
def F18:List D->Option D:=FX mkA (λa=>a.rs.length<=1000) (λa=>akD (ownA a))
def F18_eq{a:Ak}(h:a.rs.length<=1000):F18 [akD a]=some (akD (ownA a)):=BB (mk:=mkA) (a:=a) mkA_inj h
def ok18:(Ac F18).ok Qc 18:=by
 obtain⟨S,hS,hl⟩:=A7 (Ab ok53 Ad);have s53:=hl 53 _ rfl;clear hl;refine BM hS fn18 (λ_=>by simp[mkA]) (λa ha=>?_);have h53:=F53_eq (nl:=a.nlr) (l:=a.rs) ha;unfold dc18 mkA akD akC ownA;simp only[↓go1,gB0,simprocAttr,BK,C5,Q4,Qs,Qt,Aa s53,h53,Af,Ap,Aq,Qk,Qu,QB,Qe,Qw,QF,Qb,Qh,Qd];refine Ao.intro (Aj rfl) ?_;simp only[↓go1,gB0,simprocAttr,Qs,Qt,Af,Ap,Aq,Qk,Qb,Qd,Bf,AX]
 all_goals first|rfl|exact⟨rfl,rfl⟩
def keyV(k:Bs)(nl:Bool):Vw:=⟨false,1,k,true,[],nl,[firstTk]⟩
def F23:List D->Option D
 |[.str k]=>some (vwD (keyV k false))
 |_=>none
def ok23:(Ac F23).ok Qc 23:=by
 obtain⟨S,hS,hl⟩:=A7 (Ab ok48 Ad);have s48:=hl 48 _ rfl;clear hl;refine Ay (S:=S) hS fn23 (λds r h=>?_) (λds r h=>?_)
 ·unfold F23 at h;split at h
  ·simp
  ·cases h
 ·unfold F23 at h;split at h
  ·simp only[Qp]at h;subst h;have h48:F48 []=some (.agg [.slice false [] (Aw [firstTk])]):=rfl;unfold dc23;simp only[↓go1,gB0,simprocAttr,BK,C5,Q4,Qs,Qt,Aa s48,h48,Af,Ap,Aq,Qk,Qu,QB,Qe,Qw,QF,Bf,AX]
   all_goals first|rfl|exact⟨rfl,rfl⟩
  ·cases h
def putS{m:Mem}{i:Id}{x y:D}:(m.put i 0 [x]).put i 0 [y]=m.put i 0 [y]:=by
 funext j p;rw[Af,Af,Af];by_cases h:j=i∧0<=p∧p<0+[y].length
 ·rw[if_pos h,if_pos h]
 ·rw[if_neg h,if_neg h];exact if_neg h
def BP(s:Bool×List Mt)(m:Mt):Bool×List Mt:=match (Fp s.2 m).1 with
 |none=>s
 |some l=>(false,l)
def B_(s:Bool×List Mt)(m:Mt):Bool×List Mt:=match (addR s.2 m).1 with
 |none=>s
 |some l=>(false,l)
def tabD_st(s:Bool×List Mt)(m:Mt):tabD s.1 s.2 (Fp s.2 m).1= .agg [.slice (BP s m).1 [] (Ar (BP s m).2)]:=by
 unfold BP;cases(Fp s.2 m).1<;>rfl
def tabR_st(s:Bool×List Mt)(m:Mt):tabR s.1 s.2 (addR s.2 m).1= .slice (B_ s m).1 [] (Ar (B_ s m).2):=by
 unfold B_;cases(addR s.2 m).1<;>rfl
def MtOk(s:Bool×List Mt)(n:Nat):Prop:=s.2.length<=n∧(s.1=true->s.2=[])
def addSt_ok{s:Bool×List Mt}{m:Mt}{n:Nat}(h:MtOk s n):MtOk (BP s m) (n+1):=by
 unfold BP Fp
 repeat' split
 all_goals first|exact⟨Q8 h.1,h.2⟩|skip
 all_goals (rename_i he;revert he;repeat' split)
 all_goals intro he
 all_goals (cases he)
 all_goals exact⟨by rw[F5,QL];exact Nat.succ_le_succ h.1,λh=>by cases h⟩
def addRt_ok{s:Bool×List Mt}{m:Mt}{n:Nat}(h:MtOk s n)(hp:∀x∈s.2,x.1.length<=1000)(hm:m.1.length<=1000):MtOk (B_ s m) (n+1)∧∀x∈(B_ s m).2,x.1.length<=1000:=by
 unfold B_ addR
 repeat' split
 all_goals first|exact⟨⟨Q8 h.1,h.2⟩,hp⟩|skip
 all_goals (rename_i he;revert he;repeat' split)
 all_goals intro he
 all_goals (cases he)
 all_goals
  refine⟨⟨?_,λh=>by cases h⟩,λx hx=>?_⟩
  ·have:=h.1;simp only[QL,Qg,QV,Zc];omega
  ·rcases QT.1 hx with h1|h1
   ·exact hp x (Zy h1)
   ·rcases Qx.1 h1 with rfl|h1
    ·exact hm
    ·exact hp x (Zz h1)
def Bi(s:Bool×List Tk)(k:Tk):Bool×List Tk:=match (DD s.2 (ownT k)).1 with
 |none=>s
 |some l=>(false,l)
def BY(s:Bool×List Tk)(k:Tk):Bool×List Tk:=match (makeR s.2 k).1 with
 |none=>s
 |some l=>(false,l)
def setD_st(s:Bool×List Tk)(k:Tk):setD s.1 s.2 (DD s.2 (ownT k)).1= .agg [.slice (Bi s k).1 [] (Aw (Bi s k).2)]:=by
 unfold Bi;cases(DD s.2 (ownT k)).1<;>rfl
def setR_st(s:Bool×List Tk)(k:Tk):setR s.1 s.2 (makeR s.2 k).1= .slice (BY s k).1 [] (Aw (BY s k).2):=by
 unfold BY;cases(makeR s.2 k).1<;>rfl
def TkG(k:Tk):Prop:=k.1.length<=1000∧k.2.1.length<=1000∧tkOk k∧Ey k.2.2.2
def TksOk(s:Bool×List Tk)(n:Nat):Prop:=s.2.length<=n∧∀k∈s.2,TkG k
def ownT_ok{k:Tk}(h:TkG k):TkG (ownT k):=⟨h.1,h.2.1,⟨h.2.2.1.1,λe=>Zb.1 e⟩,h.2.2.2⟩
def mid_ok{l:List Tk}{k:Tk}{j n:Nat}(h:l.length<=n)(hl:∀k∈l,TkG k)(hk:TkG k):TksOk (false,l.take j++k::l.drop j) (n+1):=by
 refine⟨?_,λx hx=>?_⟩
 ·simp only[QL,Qg,QV,Zc];omega
 ·rcases QT.1 hx with h1|h1
  ·exact hl x (Zy h1)
  ·rcases Qx.1 h1 with rfl|h1
   ·exact hk
   ·exact hl x (Zz h1)
def makeSt_ok{s:Bool×List Tk}{k:Tk}{n:Nat}(h:TksOk s n)(hk:TkG k):TksOk (Bi s k) (n+1):=by
 unfold Bi DD
 repeat' split
 all_goals first|exact⟨Q8 h.1,h.2⟩|skip
 all_goals (rename_i he;revert he;repeat' split)
 all_goals intro he
 all_goals (cases he)
 all_goals exact mid_ok h.1 h.2 (ownT_ok hk)
def makeRt_ok{s:Bool×List Tk}{k:Tk}{n:Nat}(h:TksOk s n)(hk:TkG k):TksOk (BY s k) (n+1):=by
 unfold BY makeR
 repeat' split
 all_goals first|exact⟨Q8 h.1,h.2⟩|skip
 all_goals (rename_i he;revert he;repeat' split)
 all_goals intro he
 all_goals (cases he)
 all_goals exact mid_ok h.1 h.2 hk
open Classical in
def F50_eq{nl0 nl:Bool}{l:List Tk}{n p:Bs}{rs:List Rl}(hl:l.length<=90000)(hk:∀k∈l,Ey k.2.2.2)(hn:nl=true->rs=[])(hr:Ey rs)(h1:n.length<=1000000)(h2:p.length<=1000000):
  F50 [.agg [.slice nl0 [] (Aw l)],.agg [.str n,.str p,.slice nl [] (An rs)]]=some (.tup [setD nl0 l (DD l (n,p,nl,rs)).1,.int .i64 (DD l (n,p,nl,rs)).2]):=by
 have h:(Eb (Aw l)∧(Aw l).length<=90000∧∀k∈BX (Aw l),Ey k.2.2.2)∧rlsOk nl (An rs)∧Ey (A9 (An rs))∧n.length<=1000000∧p.length<=1000000:=
  ⟨⟨DS (by omega),by rw[AP];exact hl,by rw[Bd];exact hk⟩,rlsOk_mk hr.1 hn,by rw[AN];exact hr,h1,h2⟩
 show(if _ then _ else _)=_;rw[if_pos h,Bd,AN]
open Classical in
def F52_eq{nl0 nl:Bool}{l:List Tk}{n p:Bs}{rs:List Rl}(hl:l.length<=90000)(hk:∀k∈l,Ey k.2.2.2)(hn:nl=true->rs=[])(hr:Ey rs)(h1:n.length<=1000000)(h2:p.length<=1000000):
  F52 [.slice nl0 [] (Aw l),.agg [.str n,.str p,.slice nl [] (An rs)]]=some (.tup [setR nl0 l (makeR l (n,p,nl,rs)).1,.int .i64 (makeR l (n,p,nl,rs)).2]):=by
 have h:(Eb (Aw l)∧(Aw l).length<=90000∧∀k∈BX (Aw l),Ey k.2.2.2)∧rlsOk nl (An rs)∧Ey (A9 (An rs))∧n.length<=1000000∧p.length<=1000000:=
  ⟨⟨DS (by omega),by rw[AP];exact hl,by rw[Bd];exact hk⟩,rlsOk_mk hr.1 hn,by rw[AN];exact hr,h1,h2⟩
 show(if _ then _ else _)=_;rw[if_pos h,Bd,AN]
structure SeenOk (v:Vw):Prop where
 ml:v.ms.length<=8
 mp:∀m∈v.ms,m.1.length<=1000
 kl:v.ks.length<=12
 kp:∀k∈v.ks,TkG k
 kr:∀k∈v.ks,k.2.2.2.length<=1000
def z5:List D:=[.bool false,.int .i64 0,.str [],.slice true [] [],.slice true [] []]
def FR(v:Vw):Mem:=(((Mem.put (λ_ _=>none) [0] 0 (vwC v)).put [1] 0 z5).put [2] 0 z5)
def vM0{v:Vw}{k:Nat}{d:D}(hd:(vwC v)[k]?=some d):FR v [0] k=some d:=by
 unfold FR;rw[Mem.put_other (by decide),Mem.put_other (by decide)];have hk:=(Qz.1 hd).1;rw[Af,if_pos ⟨rfl,Qr _,by omega⟩];exact hd
def loop17a{S:Summs}{v:Vw}{Q:Ex->St->Prop}(s46:S 46=some (Ac F46))(s45:S 45=some (Ac F45))(s47:S 47=some (Ac F47))(hv:SeenOk v)
  (hexit:∀st:St,6<=st.c->st.s 1= .ptr [0] 0->st.s 2= .ptr [1] 0->st.s 3= .ptr [2] 0->st.s 4= .ptr [3] 0->st.s 5= .slice (v.ms.foldl B_ (true,[])).1 [] (Ar (v.ms.foldl B_ (true,[])).2)->st.m=(FR v).put [3] 0 [.slice (v.ms.foldl BP (true,[])).1 [] (Ar (v.ms.foldl BP (true,[])).2)]->Q (.exit 0) st):
  ∀(f j:Nat)(a r:Bool×List Mt)(st:St) g,v.ms.length=j+f->a=(v.ms.take j).foldl BP (true,[])->r=(v.ms.take j).foldl B_ (true,[])->MtOk a j->MtOk r j->(∀x∈r.2,x.1.length<=1000)->
   6<=st.c->st.s 1= .ptr [0] 0->st.s 2= .ptr [1] 0->st.s 3= .ptr [2] 0->st.s 4= .ptr [3] 0->st.s 5= .slice r.1 [] (Ar r.2)->st.s 6= .int .i64 (j:Int)->st.m=(FR v).put [3] 0 [.slice a.1 [] (Ar a.2)]->A8 S [] dc17l0 Q st g:=by
 have hml:=hv.ml;have m3:∀x,(FR v).put [3] 0 [x] [0] 3=some (.slice v.nlm [] (Ar v.ms)):=λx=>by rw[Mem.put_other (by decide)];exact vM0 rfl
 intro f;induction f with
 |zero=>
  intro j a r st g hf ha hr oa or hp hc h1 h2 h3 h4 h5 h6 hm;refine Ae dc17l0.eq_1 ?_;have:¬((j:Int)<v.ms.length):=by omega
  rw[Qv (by omega)]at ha hr;subst ha hr;simp only[↓go1,go2,go4,simprocAttr,h1,h6,hm,m3,Ax,this];exact hexit _ (by simp only;omega) h1 h2 h3 h4 h5 rfl
 |succ f ih=>
  intro j a r st g hf ha hr oa or hp hc h1 h2 h3 h4 h5 h6 hm;refine Ae dc17l0.eq_1 ?_;have hj:j<v.ms.length:=by omega
  have hlt:((j:Int)<v.ms.length):=by omega
  have hj0:=nJ (j:=j);have hw:=wJ (j:=j) (by omega);have hat:(Ar v.ms)[j]?=some (.agg [.str v.ms[j].1,.int .i64 v.ms[j].2.1,.bool v.ms[j].2.2]):=by simp[Ar,Qj hj,mtD]
  have htk:v.ms.take (j+1)=v.ms.take j++[v.ms[j]]:=by rw[QN,Qj hj];rfl
  have hmem:=hv.mp _ (QC hj);generalize v.ms[j]=x at hat htk hmem;have ha':BP a x=(v.ms.take (j+1)).foldl BP (true,[]):=by rw[htk,Q9,←ha];rfl
  have hr':B_ r x=(v.ms.take (j+1)).foldl B_ (true,[]):=by rw[htk,Q9,←hr];rfl
  have oa':=addSt_ok (m:=x) oa;have or':=addRt_ok or hp hmem;have h46:F46 [.agg [.str x.1,.int .i64 x.2.1,.bool x.2.2]]=some (.agg [.str x.1,.int .i64 x.2.1,.bool x.2.2]):=F46_eq (m:=x);have l1:=oa.1;have l2:=or.1;have h45:F45 [.agg [.slice a.1 [] (Ar a.2)],.agg [.str x.1,.int .i64 x.2.1,.bool x.2.2]]=some (.tup [.agg [.slice (BP a x).1 [] (Ar (BP a x).2)],.int .i64 (Fp a.2 x).2]):=by
   rw[←tabD_st];exact F45_eq (m:=x) (by omega) oa.2 (by omega)
  have h47:F47 [.slice r.1 [] (Ar r.2),.agg [.str x.1,.int .i64 x.2.1,.bool x.2.2]]=some (.tup [.slice (B_ r x).1 [] (Ar (B_ r x).2),.int .i64 (addR r.2 x).2]):=by
   rw[←tabR_st];exact F47_eq (m:=x) (by omega) or.2 (by omega) (λy hy=>Nat.le_trans (hp y hy) (by omega))
  generalize (Fp a.2 x).2=e1 at h45;generalize (addR r.2 x).2=e2 at h47;generalize BP a x=a' at ha' oa' h45;generalize B_ r x=r' at hr' or' h47;obtain⟨st_s,st_m,st_c⟩:=st;simp only at hc h1 h2 h3 h4 h5 h6 hm;subst hm;simp only[↓go1,gB0,simprocAttr,h1,h4,h6,m3,Ax,hlt,hj0,Qo,hat,Aa s46,h46,Aa s45,h45,Af,Ap,Aq,Qk,Qu,QB,Qe];refine Ao.intro (Aj (by simp[A5,AM,rds,Ai];done)) ?_;simp only[↓go1,gB2,go4,simprocAttr,h1,h5,h6,m3,hj0,hw,Qo,hat,Aa s47,h47,putS,Qf,Qm,Qu,QB];exact ih (j+1) a' r' _ _ (by omega) ha' hr' oa' or'.1 or'.2 (by simp only;omega) h1 h2 h3 h4 rfl rfl putS
def loop17b{S:Summs}{v:Vw}{M:Mem}{q:Nat}{s5:D}{Q:Ex->St->Prop}(s51:S 51=some (Ac F51))(s50:S 50=some (Ac F50))(s52:S 52=some (Ac F52))(hv:SeenOk v)(hq:4<=q)(hM:∀k d,(vwC v)[k]?=some d->M [0] k=some d)
  (hexit:∀st:St,q<st.c->st.s 1= .ptr [0] 0->st.s 2= .ptr [1] 0->st.s 3= .ptr [2] 0->st.s 4= .ptr [3] 0->st.s 7= .ptr [q] 0->st.s 8= .slice (v.ks.foldl BY (false,[firstTk])).1 [] (Aw (v.ks.foldl BY (false,[firstTk])).2)->st.s 5=s5->st.m=M.put [q] 0 [.slice (v.ks.foldl Bi (false,[firstTk])).1 [] (Aw (v.ks.foldl Bi (false,[firstTk])).2)]->Q (.exit 2) st):
  ∀(f j:Nat)(a r:Bool×List Tk)(st:St) g,v.ks.length=j+f->a=(v.ks.take j).foldl Bi (false,[firstTk])->r=(v.ks.take j).foldl BY (false,[firstTk])->TksOk a (j+1)->TksOk r (j+1)->
   q<st.c->st.s 1= .ptr [0] 0->st.s 2= .ptr [1] 0->st.s 3= .ptr [2] 0->st.s 4= .ptr [3] 0->st.s 5=s5->st.s 7= .ptr [q] 0->st.s 8= .slice r.1 [] (Aw r.2)->st.s 9= .int .i64 (j:Int)->st.m=M.put [q] 0 [.slice a.1 [] (Aw a.2)]->A8 S [] dc17l1 Q st g:=by
 have hkl:=hv.kl;have m4:∀x,M.put [q] 0 [x] [0] 4=some (.slice v.nlt [] (Aw v.ks)):=λx=>by rw[Mem.put_other (by simp;omega)];exact hM _ _ rfl
 intro f;induction f with
 |zero=>
  intro j a r st g hf ha hr oa or hc h1 h2 h3 h4 h5 h7 h8 h9 hm;refine Ae dc17l1.eq_1 ?_;have:¬((j:Int)<v.ks.length):=by omega
  rw[Qv (by omega)]at ha hr;subst ha hr;simp only[↓go1,go2,go4,simprocAttr,h1,h9,hm,m4,AP,this];exact hexit _ (by simp only;omega) h1 h2 h3 h4 h7 h8 h5 rfl
 |succ f ih=>
  intro j a r st g hf ha hr oa or hc h1 h2 h3 h4 h5 h7 h8 h9 hm;refine Ae dc17l1.eq_1 ?_;have hj:j<v.ks.length:=by omega
  have hlt:((j:Int)<v.ks.length):=by omega
  have hj0:=nJ (j:=j);have hw:=wJ (j:=j) (by omega);have hat:(Aw v.ks)[j]?=some (.agg [.str v.ks[j].1,.str v.ks[j].2.1,.slice v.ks[j].2.2.1 [] (An v.ks[j].2.2.2)]):=by simp[Aw,Qj hj,tkD]
  have htk:v.ks.take (j+1)=v.ks.take j++[v.ks[j]]:=by rw[QN,Qj hj];rfl
  have hmem:=hv.kp _ (QC hj);have hx4:=hv.kr _ (QC hj);generalize v.ks[j]=x at hat htk hmem hx4;have ha':Bi a x=(v.ks.take (j+1)).foldl Bi (false,[firstTk]):=by rw[htk,Q9,←ha];rfl
  have hr':BY r x=(v.ks.take (j+1)).foldl BY (false,[firstTk]):=by rw[htk,Q9,←hr];rfl
  have oa':=makeSt_ok oa hmem;have or':=makeRt_ok or hmem;obtain⟨x1,x2,x3,x4⟩:=x;obtain⟨p1,p2,⟨p3,p4⟩,p5⟩:=hmem;simp only at p1 p2 p3 p4 p5;simp only at hat;simp only at hx4;have h51:F51 [.agg [.str x1,.str x2,.slice x3 [] (An x4)]]=some (.agg [.str x1,.str x2,.slice x4.isEmpty [] (An x4)]):=F51_eq (k:=(x1,x2,x3,x4)) hx4;have l1:=oa.1;have l2:=or.1;have h50:F50 [.agg [.slice a.1 [] (Aw a.2)],.agg [.str x1,.str x2,.slice x4.isEmpty [] (An x4)]]=some (.tup [.agg [.slice (Bi a (x1,x2,x3,x4)).1 [] (Aw (Bi a (x1,x2,x3,x4)).2)],.int .i64 (DD a.2 (x1,x2,x4.isEmpty,x4)).2]):=by
   rw[←setD_st];exact F50_eq (by omega) (λk hk=>(oa.2 k hk).2.2.2) (λe=>Zb.1 e) p5 (by omega) (by omega)
  have h52:F52 [.slice r.1 [] (Aw r.2),.agg [.str x1,.str x2,.slice x3 [] (An x4)]]=some (.tup [.slice (BY r (x1,x2,x3,x4)).1 [] (Aw (BY r (x1,x2,x3,x4)).2),.int .i64 (makeR r.2 (x1,x2,x3,x4)).2]):=by
   rw[←setR_st];exact F52_eq (by omega) (λk hk=>(or.2 k hk).2.2.2) p4 p5 (by omega) (by omega)
  generalize (DD a.2 (x1,x2,x4.isEmpty,x4)).2=e1 at h50;generalize (makeR r.2 (x1,x2,x3,x4)).2=e2 at h52;generalize Bi a (x1,x2,x3,x4)=a' at ha' oa' h50;generalize BY r (x1,x2,x3,x4)=r' at hr' or' h52;obtain⟨st_s,st_m,st_c⟩:=st;simp only at hc h1 h2 h3 h4 h5 h7 h8 h9 hm;subst hm;simp only[↓go1,gB0,simprocAttr,h1,h7,h9,m4,AP,hlt,hj0,Qo,hat,Aa s51,h51,Aa s50,h50,Af,Ap,Aq,Qk,Qu,QB,Qe];refine Ao.intro (Aj (by simp[A5,AM,rds,Ai];done)) ?_;simp only[↓go1,gB2,go4,simprocAttr,h1,h8,h9,m4,hj0,hw,Qo,hat,Aa s52,h52,putS,Qf,Qm,Qu,QB];exact ih (j+1) a' r' _ _ (by omega) ha' hr' oa' or' (by simp only;omega) h1 h2 h3 h4 h5 h7 rfl rfl putS
def res_cells{s:Nat->D}{m:Mem}{k k':Option Nat}{a b:Nat}:Cn [.cell k a,.cell k' b] s m=(ldD m k (s a)).bind λd=>(ldD m k' (s b)).map λd'=> .tup [d,d']:=by
 simp only[Cn,Fx,RV.of];cases ldD m k (s a)<;>cases ldD m k' (s b)<;>rfl
def teV(n:Int):Int:=IntKind.i64.wrap (1+IntKind.i64.wrap ((IntKind.u64.wrap n).tmod 6))
def seeV(v:Vw):Vw:=⟨v.se,teV v.te,v.key,(v.ms.foldl BP (true,[])).1,(v.ms.foldl BP (true,[])).2,(v.ks.foldl Bi (false,[firstTk])).1,(v.ks.foldl Bi (false,[firstTk])).2⟩
def docV(v:Vw):Vw:=⟨v.se,teV v.te,v.key,(v.ms.foldl B_ (true,[])).1,(v.ms.foldl B_ (true,[])).2,(v.ks.foldl BY (false,[firstTk])).1,(v.ks.foldl BY (false,[firstTk])).2⟩
def F17:List D->Option D:=FX mkV SeenOk (λv=> .tup [vwD (seeV v),vwD (docV v)])
def F17_eq{v:Vw}(h:SeenOk v):F17 [vwD v]=some (.tup [vwD (seeV v),vwD (docV v)]):=BB (mk:=mkV) (a:=v) mkV_inj h
def first_ok:TksOk (false,[firstTk]) 1:=⟨by decide,λk hk=>by
 rw[QA.1 hk];refine⟨by decide,by decide,⟨by decide,by decide⟩,⟨by decide,λr hr=>?_,λr hr=>?_⟩⟩
 ·rw[QA.1 hr];decide
 ·rw[QA.1 hr];decide⟩
def ok17:(Ac F17).ok Qc 17:=by
 obtain⟨S,hS,hl⟩:=A7 (Ab ok46 (Ab ok45 (Ab ok47 (Ab ok48 (Ab ok49 (Ab ok51 (Ab ok50 (Ab ok52 Ad))))))));have s46:=hl 46 _ rfl;have s45:=hl 45 _ rfl;have s47:=hl 47 _ rfl;have s48:=hl 48 _ rfl;have s49:=hl 49 _ rfl;have s51:=hl 51 _ rfl;have s50:=hl 50 _ rfl;have s52:=hl 52 _ rfl;clear hl;refine BM hS fn17 (λ_=>by simp[mkV]) (λv hv=>?_);have h48:F48 []=some (.agg [.slice false [] (Aw [firstTk])]):=rfl;have h49:F49 []=some (.slice false [] (Aw [firstTk])):=rfl;unfold dc17 mkV vwD;simp only[↓go1,go2,go3,Qn,A_];refine loop17a (v:=v) s46 s45 s47 hv (λst hc h1 h2 h3 h4 h5 hm=>?_) v.ms.length 0 (true,[]) (true,[]) _ _ (by omega) rfl rfl ⟨QS _,λ_=>rfl⟩ ⟨QS _,λ_=>rfl⟩ (λx hx=>by cases hx) (by simp only;omega) rfl rfl rfl rfl rfl rfl rfl;obtain⟨st_s,st_m,st_c⟩:=st;simp only at hc h1 h2 h3 h4 h5 hm;subst hm;have hM:∀x k d,(vwC v)[k]?=some d->(FR v).put [3] 0 [x] [0] k=some d:=λx k d hd=>by rw[Mem.put_other (by decide)];exact vM0 hd
 generalize hA:v.ms.foldl BP (true,[])=A;generalize hR:v.ms.foldl B_ (true,[])=R at h5;simp only[↓go1,gB2,go4,reduceIte,Qi,Qn,Aa s48,h48,Aa s49,h49,Af,Ap,Aq,Qr,QJ,QO,Qf,and_self,Qk,Qe,Qb];refine loop17b (v:=v) (M:=(FR v).put [3] 0 [.slice A.1 [] (Ar A.2)]) (q:=st_c+2) (s5:= .slice R.1 [] (Ar R.2)) s51 s50 s52 hv (by omega) (hM _) (λst hc1 h1 h2 h3 h4 h7 h8 h5 hm=>?_) v.ks.length 0 (false,[firstTk]) (false,[firstTk]) _ _ (by omega) rfl rfl first_ok first_ok (by simp only;omega) h1 h2 h3 h4 h5 rfl rfl rfl putS;obtain⟨u_s,u_m,u_c⟩:=st;simp only at hc1 h1 h2 h3 h4 h5 h7 h8 hm;have hA1:Ah u_m [3] 0 1=some [.slice A.1 [] (Ar A.2)]:=by rw[hm,AI (by simp<;>omega)];exact AQ rfl
 have hT1:Ah u_m [st_c+2] 0 1=some [.slice (seeV v).nlt [] (Aw (seeV v).ks)]:=by rw[hm];exact AQ rfl
 have k0:u_m [0] 0=some (.bool v.se):=by rw[hm,Mem.put_other (by simp<;>omega)]<;>exact hM _ _ _ rfl
 have k1:u_m [0] 1=some (.int .i64 v.te):=by rw[hm,Mem.put_other (by simp<;>omega)]<;>exact hM _ _ _ rfl
 have k2:u_m [0] 2=some (.str v.key):=by rw[hm,Mem.put_other (by simp<;>omega)]<;>exact hM _ _ _ rfl
 have z1:Ah u_m [1] 0 5=some z5:=by rw[hm,AI (by simp<;>omega),AI (by decide)];unfold FR;rw[AI (by decide)];exact AQ rfl
 have z2:Ah u_m [2] 0 5=some z5:=by rw[hm,AI (by simp<;>omega),AI (by decide)];unfold FR;exact AQ rfl
 have o1:∀x,Ah (u_m.put [1] 0 x) [2] 0 5=some z5:=λx=>by rw[AI (by decide)];exact z2
 have e1:∀x y,x.length=5->Ah ((u_m.put [1] 0 x).put [2] 0 y) [1] 0 5=some x:=λx y hx=>by rw[AI (by decide),AQ hx]
 have e2:∀x y,y.length=5->Ah ((u_m.put [1] 0 x).put [2] 0 y) [2] 0 5=some y:=λx y hy=>by rw[AQ hy]
 have hA2:A.1=(seeV v).nlm∧A.2=(seeV v).ms:=by subst hA;exact⟨rfl,rfl⟩
 have hR2:R.1=(docV v).nlm∧R.2=(docV v).ms:=by subst hR;exact⟨rfl,rfl⟩
 rw[hA2.1,hA2.2]at hA1;rw[hR2.1,hR2.2]at h5;have hU:st_c+2≠1∧st_c+2≠2:=by omega
 replace h8:u_s 8= .slice (docV v).nlt [] (Aw (docV v).ks):=h8;clear hm hA2 hR2 hA hR hM;simp only[↓go1,go2,reduceIte,Qi,Qn,h1,k1,Qq];refine Ao.intro (by decide) ?_;simp only[↓go1,gB2,go4,reduceIte,Qi,Qn,h1,h2,h3,h4,h5,h7,h8,hA1,hT1,k0,k2,z1,o1,BK,C5,Q4,Qs,Qt,QD,and_self,Qu,QB,Qe,Qw,QF];refine Ao.intro (Aj ?_) ?_
 ·simp only[A5,Zd,Zg,ZA,Qf,Qm,Option.getD_some,AM,Qg,Ql,Zk,Zm,rds,↓go1,reduceIte,Qi,h2,h3,h4,h7];simp[Ai]
  try omega
 simp only[↓go1,gB2,go4,reduceIte,Qi,Qn,h2,h3,e1,e2,CT,res_cells,ldD,Qs,Qt,Qk];rfl
end Go.Vd
namespace Go.Vd
open Go.Proofs
end Go.Vd
namespace Go.Vd
open Go.Proofs Go.RowKit
open Classical in
def F129_eq{nl:Bool}{l:List Tk}(hl:l.length<=1000000):F129 [.agg [.slice nl [] (Aw l)]]=some (.slice (decide (l.length=0)) [] (l.map λk=> .str k.1)):=by
 have h:Eb (Aw l):=DS hl;show(if _ then _ else _)=_;rw[if_pos h,Bd]
def bl_irr:∀a:Bs,Op.bytesLess a a=false
 |[]=>rfl
 |x::r=>by simp[Op.bytesLess,bl_irr r]
def bl_tri:∀{a b:Bs},a≠b->Op.bytesLess a b=!Op.bytesLess b a
 |[],[],h=>absurd rfl h
 |[],y::s,_=>rfl
 |x::r,[],_=>rfl
 |x::r,y::s,h=>by
  simp only[Op.bytesLess];by_cases hxy:x=y
  ·subst hxy;have hrs:r≠s:=λe=>h (by rw[e])
   have:=bl_tri hrs;simp[this]
  ·have hyx:¬y=x:=λe=>hxy e.symm
   have h1:(x==y)=false:=by simpa using hxy
   have h2:(y==x)=false:=by simpa using hyx
   rw[h1,h2];simp only[Qy,QZ];have hn:x.toNat≠y.toNat:=λe=>hxy (UInt8.toNat_inj.1 e)
   by_cases hlt:x<y
   ·have h3:¬y<x:=by rw[UInt8.lt_iff_toNat_lt]at hlt ⊢;omega
    simp[hlt,h3]
   ·have h3:y<x:=by rw[UInt8.lt_iff_toNat_lt]at hlt ⊢;omega
    simp[hlt,h3]
def bl_trans:∀{a b c:Bs},Op.bytesLess a b=true->Op.bytesLess b c=true->Op.bytesLess a c=true
 |a,b,[],h1,h2=>by simp[Op.bytesLess]at h2
 |a,[],z::t,h1,h2=>by cases a<;>simp[Op.bytesLess]at h1
 |[],y::s,z::t,h1,h2=>rfl
 |x::r,y::s,z::t,h1,h2=>by
  simp only[Op.bytesLess,Bool.or_eq_true,QM,decide_eq_true_eq,beq_iff_eq]at h1 h2 ⊢;rcases h1 with h1|⟨rfl,h1⟩
  ·rcases h2 with h2|⟨rfl,h2⟩
   ·left;rw[UInt8.lt_iff_toNat_lt]at h1 h2 ⊢;omega
   ·left;exact h1
  ·rcases h2 with h2|⟨rfl,h2⟩
   ·left;exact h2
   ·right;exact⟨rfl,bl_trans h1 h2⟩
def SortM(l:List Mt):Prop:=∀i j,i<j->j<l.length->Op.bytesLess (l.getD i m0t).1 (l.getD j m0t).1=true
def cmpS_lt{a b:Bs}:decide (FN a b<0)=Op.bytesLess a b:=by
 unfold FN;split
 ·rename_i h;rw[h];rfl
 ·rename_i h;have:Op.bytesLess a b=false:=by simpa using h
  rw[this];split<;>rfl
def kFr_kR{l:List Mt}{m:Mt}(hn:∀i,i<l.length->(l.getD i m0t).1≠m.1):∀j,j<=l.length->kR ltM m0t l m j=kFr l m.1 j
 |0,_=>rfl
 |j+1,hj=>by
  have ih:=kFr_kR hn j (by omega);have ht:=bl_tri (hn j (by omega));have hlt:ltM m (l.getD j m0t)=Op.bytesLess m.1 (l.getD j m0t).1:=cmpS_lt;unfold kR kFr;rw[hlt,show Bj l j=l.getD j m0t from rfl,ht];cases Op.bytesLess m.1 (l.getD j m0t).1
  ·simp
  ·simpa using ih
def find_none{l:List Mt}{p:Bs}(h:¬0<=BW l p):∀i,i<l.length->(l.getD i m0t).1≠p:=by
 have h1:=Gc (l.map λm=>decide (m.1=p));have h2:decide (0<=Bb (l.map λm=>decide (m.1=p)))=false:=decide_eq_false h;rw[h2]at h1;intro i hi e;have h3:=List.any_eq_false.1 h1.symm (decide ((l.getD i m0t).1=p)) (Q0.2 ⟨l[i],QC hi,by simp[ZA,hi]⟩);exact h3 (decide_eq_true e)
def addE_addR{l:List Mt}{m:Mt}(h:SortM l):Fp l m=addR l m:=by
 unfold Fp addR;split
 ·rfl
 split
 ·rfl
 rename_i hf;split
 ·rfl
 split
 ·rfl
 have hs:∀i,i+1<l.length->ltM (l.getD (i+1) m0t) (l.getD i m0t)=false:=λi hi=>by
  have h1:=h i (i+1) (by omega) hi;unfold ltM;rw[cmpS_lt];have hne:(l.getD (i+1) m0t).1≠(l.getD i m0t).1:=λe=>by rw[e,bl_irr]at h1;cases h1
  rw[bl_tri hne,h1];rfl
 have hi:=isort_app ltM m0t l m hs l.length 1 (QS _) (by omega);rw[hi,kFr_kR (find_none hf) l.length (QS _)];split
 ·rename_i h0;have:l=[]:=List.eq_nil_of_length_eq_zero h0;subst this;rfl
 ·rfl
end Go.Vd
end
