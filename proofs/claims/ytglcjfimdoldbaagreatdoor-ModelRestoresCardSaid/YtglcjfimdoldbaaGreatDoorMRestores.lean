/-
  PROVED: the law ModelRestores holds of the given program, for every row of ops, every text, and with or without the first entries: the call returns true, and the arguments read as they did. Conditions: those of the given row alone.
-/
import Derived.Test.YtglcjfimdoldbaaGreatDoorMRestoresP6
import Derived.Test.YtglcjfimdoldbaaGreatDoorCards
import Derived.Test.YtglcjfimdoldbaaGreatDoorTie
import Derived.WalkKit
import Derived.ProofKit
import Derived.OpenShut
import Derived.ChangeMaps5
import Derived.Deep.DeepHandedRow
import Derived.Lib.LaidTab
import Derived.Carry
import Derived.Test.YtglcjfimdoldbaaGreatDoorMRestoresF
import Derived.Test.YtglcjfimdoldbaaGreatDoorMRestoresG
namespace Go.Proofs.YtglcjfimdoldbaaGreatDoor.modelRestores
open Go.ChangeShapes Go.ChangeMaps Go.WideShapes Go.ChangeAt Go.RowKit Go.Deep
set_option maxRecDepth 100000
theorem own:ownKnob Tryz.prog.godebug=none:=by kernel_rfl
theorem keptBut_of_below {W W':World} (h:Below W.heap.size W W') (may:MemPlace→Prop):W.keptBut W' may:=by
  refine⟨h.os,h.output,fun i hi=>?_⟩;rw[h.block i hi];cases W.heap[i]? with
  |none=>rfl
  |some o=>
    cases o with
    |cells c t fr=>exact⟨rfl,rfl,rfl,fun _ _=>rfl⟩
    |map es clock=>exact .inr ⟨rfl,rfl⟩
    |_=>rfl
theorem laid:laidOutB Tryz.prog=true:=by kernel_rfl
theorem contract (H:Type) (enc:TypeId×Value→H) (W:World) (base:Nat) (args:Array Value) (ds gs:List (DataW H)) (before:List MemPlace)
    (hval:∀(j:Nat) t v,Tryz.f3.params[j]?=some t→args[j]?=some v→Value.okWide Tryz.prog W .any base t v)
    (hW:DataW.Whole enc Tryz.prog Tryz.f3.params.toList Rows.modelRestoresSpec.vars false W args.toList ds gs before):
    Calls Tryz.prog 3 args W fun e W'=>∃v,e= .returned v∧Rows.modelRestoresSpec.post enc Tryz.prog Tryz.f3 false true false false W args v W':=by
  have hW':=hW;obtain⟨p,q,hA0,hV,rfl,hfz,hnd⟩:=hW;have hA:DataW.TrodAll enc Tryz.prog W 0 (fun _=>true) true Tryz.f3.params.toList args.toList ds p:=hA0;rw[Tryz.params3]at hA hval;obtain⟨v0,vs0,d0,ds0,p0,q0,hargs,rfl,rfl,h0,r0⟩:=trodAll_cons hA;obtain⟨v1,vs1,d1,ds1,p1,q1,hargs1,rfl,rfl,h1,r1⟩:=trodAll_cons r0;obtain⟨v2,vs2,d2,ds2,p2,q2,hargs2,rfl,rfl,h2,r2⟩:=trodAll_cons r1;obtain⟨rfl,rfl,rfl⟩:=trodAll_nil r2;subst hargs2;subst hargs1;obtain rfl:args=#[v0,v1,v2]:=by cases args;simp_all
  obtain⟨rfl,rfl⟩:=trodVars_none hV;clear hA0;simp only[List.append_nil]at hW';have hlt0:∀x∈p0,x.block<W.heap.size:=fun x hx=>by simpa using hW'.lt x (by simp[hx])
  have hlt1:∀x∈p1,x.block<W.heap.size:=fun x hx=>by simpa using hW'.lt x (by simp[hx])
  have hlt2:∀x∈p2,x.block<W.heap.size:=fun x hx=>by simpa using hW'.lt x (by simp[hx])
  have e0:∃(nl:Bool) (l:List Go.Vd.Op1),Go.Vd.Rep W (Go.Vd.startG (Go.Vd.allG W)) (.slice nl [] (Go.Vd.opsD l)) v0:=by
    obtain⟨a0,len0,cap0,rfl⟩:=okWide_slice Tryz.underlying22 (hval 0 22 v0 rfl rfl);obtain⟨ds,hf,hr⟩:=Go.Vd.cell_fit (n:=8) (by kernel_rfl) rfl h0;obtain⟨nl,l,rfl⟩:=Go.Vd.fit_ops hf;exact⟨nl,l,hr _ rfl⟩
  have e1:∃s:Go.Vd.Bs,Go.Vd.Rep W (Go.Vd.startG (Go.Vd.allG W)) (.str s) v1:=by
    obtain⟨s1,rfl⟩:=okWide_string Tryz.underlying9 (hval 1 9 v1 rfl rfl);obtain⟨ds,hf,hr⟩:=Go.Vd.cell_fit (n:=8) (by kernel_rfl) rfl h1;obtain⟨s,rfl⟩:=Go.Vd.Fit.str Tryz.underlying9 hf;exact⟨s,hr _ rfl⟩
  have e2:∃b:Bool,v2= .bool b:=okWide_bool Tryz.underlying4 (hval 2 4 v2 rfl rfl);refine(Go.Vd.restores_law e0 e1 e2).mono fun e W' ⟨he,hb⟩=>?_
  subst he;refine⟨_,rfl,[d0,d1,d2],[],p0++(p1++p2),[],p0++(p1++p2),[],hW',?_,?_,?_,keptBut_of_below hb _,fun h=>by cases h⟩
  · exact trodAll_cons_mk (shut_bool Tryz.underlying4 _) trodAll_mk0
  · have:=trodAll_cons_mk (Below.trod laid (by kernel_rfl) (of_decide_eq_true (by kernel_rfl)) h0 hb hlt0) (trodAll_cons_mk (Below.trod laid (by kernel_rfl) (of_decide_eq_true (by kernel_rfl)) h1 hb hlt1) (trodAll_cons_mk (Below.trod laid (by kernel_rfl) (of_decide_eq_true (by kernel_rfl)) h2 hb hlt2) trodAll_mk0));simp only[List.append_nil]at this;exact this
  · rfl
/-! A world for the witness: the two tables hold what their initialisers lay. -/
def litV {H:Type}:DataW H→Value
  | .lit (.int k n)=> .int k n
  |_=> .bool false
def flat1 {H:Type}:DataW H→List Value
  | .agg l=>l.map litV
  |d=>[litV d]
def flat2 {H:Type}:DataW H→List Value
  | .agg l=>l.flatMap flat1
  |d=>[litV d]
def putCells (l:List Value):Obj→Obj
  | .cells _ t frozen=> .cells l.toArray t frozen
  |o=>o
noncomputable def laidWorld (os:Os):World:=
  {World.holding Tryz.prog os ⟨#[],#[],[]⟩with heap:=((World.holding Tryz.prog os ⟨#[],#[],[]⟩).heap.modify 1 (putCells (flat2 Rows.laid_unicode_utf8_first))).modify 2 (putCells (flat2 (Rows.laid_unicode_utf8_acceptRanges (H:=Unit))))}
theorem laid_met (os:Os):laidMet Tryz.prog Rows.modelRestoresRow.laid ((laidWorld os).forCall (fun _ _=>0) ⟨#[],#[.slice none 0 0,.string ⟨#[]⟩,.bool false],[]⟩).memory:=
  laidMet_of_run' 8 (by kernel_rfl) (by kernel_rfl)
theorem reads (os:Os) {H:Type} (enc:TypeId×Value→H):∃places,DataW.whole enc Tryz.prog ((laidWorld os).forCall (fun _ _=>0) ⟨#[],#[.slice none 0 0,.string ⟨#[]⟩,.bool false],[]⟩).memory Tryz.f3.params.toList Rows.modelRestoresSpec.vars false #[Value.slice none 0 0,.string ⟨#[]⟩,.bool false].toList 8=some ([.nil,.lit (.string []),.lit (.bool false)],[],places):=
  ⟨[],by kernel_rfl⟩
set_option maxRecDepth 100000 in
theorem lifted (os:Os) (started:os.Started) (H:Type) (enc:TypeId×Value→H) (F:Stop.Interp):
    ReturnsInHanded {} Tryz.checked os 3 .any ((OpenSpec.ofChange Rows.modelRestoresSpec).preRow enc Tryz.prog Tryz.f3 Rows.modelRestoresRow.domain false Rows.modelRestoresRow.laid) (((OpenSpec.ofChange Rows.modelRestoresSpec).at F).post enc Tryz.prog Tryz.f3 false true false false):=by
  obtain⟨places,hx⟩:=reads os enc;refine returnsInHanded_of_row (C:=Tryz.checked) (s:=OpenSpec.ofChange Rows.modelRestoresSpec) own started (by kernel_rfl) Tryz.func3
    (witness_row_at (enc:=enc) (C:=Tryz.checked) false (laidWorld os) #[.slice none 0 0,.string ⟨#[]⟩,.bool false] rfl (by kernel_rfl) (by kernel_rfl) (by kernel_rfl)
      (OpenSpec.preRow_of_cond 8 hx (by kernel_rfl) (fun k hk=>by cases hk) (by kernel_rfl) (laid_met os))) ?_
  intro W base args ds gs before hval hW _ _ _ _ _ _;exact contract H enc W base args ds gs before hval hW
theorem said:Rows.ModelRestoresSaid:=
  OpenClaim.holds_of_cond 3 Tryz.f3 rfl rfl rfl rfl rfl rfl rfl ⟨rfl,rfl,rfl,rfl,rfl⟩ rfl rfl rfl rfl rfl (by kernel_rfl) Tryz.func3 facts
    (of_decide_eq_true (by kernel_rfl)) (by unfold Func.isWrapper;first|(rw[if_pos (by decide+kernel)];kernel_rfl)|(rw[if_neg (by decide+kernel)];exact⟨rfl,rfl⟩))
    (fun os started H enc _ F=>by rw[OpenClaim.pre_eq_preRow];exact lifted os started H enc F)
theorem plain (f:FuncId) (fn:Func) (hf:Tryz.pinned.checked.prog.funcNamed "padlock/padlocklaw34.ModelRestores" =some f) (hfn:Tryz.pinned.checked.prog.funcs[f]?=some fn):
    Tryz.pinned.checked.prog.looks []=Tryz.pinned.checked.prog.looks []∧∀(j:Nat) t,fn.params[j]?=some t→Tryz.pinned.checked.prog.wantsStandIn t=false:=by
  obtain rfl:f=3:=Option.some.inj ((show Tryz.prog.funcNamed "padlock/padlocklaw34.ModelRestores" =some 3 by kernel_rfl).symm.trans hf) |>.symm
  obtain rfl:fn=Tryz.f3:=(Option.some.inj (Tryz.func3.symm.trans hfn)).symm;refine⟨rfl,fun j t ht=>?_⟩;rw[Tryz.params3]at ht;have:=Array.mem_of_getElem? ht;simp only[List.mem_toArray,List.mem_cons,List.mem_nil_iff,or_false]at this;rcases this with rfl|rfl|rfl
  · exact(show Tryz.prog.wantsStandIn 22=false by kernel_rfl)
  · exact(show Tryz.prog.wantsStandIn 9=false by kernel_rfl)
  · exact(show Tryz.prog.wantsStandIn 4=false by kernel_rfl)
theorem card:Rows.ModelRestoresCardSaid:=
  Claim7.holds_tied_plain_at .later [] _ _ _ _ said (fun _ h=>by cases h) (by kernel_rfl) (fun _ h=>by cases h) modelRestores_row_tie rfl ⟨rfl,rfl⟩ (by kernel_rfl) rfl (fun f fn hf hfn=>⟨by kernel_rfl,(plain f fn hf hfn).2⟩) goes
end Go.Proofs.YtglcjfimdoldbaaGreatDoor.modelRestores
