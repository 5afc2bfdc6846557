/-
  A part of the proof: the layers over the model. Nothing in it is assumed.
-/
import Derived.Test.YtcjfmpodkafceaaGreatDoorLinesP5
import Derived.Scope
import Derived.Test.YtcjfmpodkafceaaGreatDoorProg

set_option linter.unusedSimpArgs false
set_option linter.unusedVariables false

namespace Go.Ve
open Go.RowKit
set_option linter.unusedSimpArgs false
set_option linter.unusedVariables false
def trGuard (ops : List Oper) : Option (Nat × Bool) → Option (Option (Nat × Bool))
 | none => some none
 | some (j, b) => match (ops[j]?).bind (·.dst) with
  | some t => some (some (t, b))
  | none => none
def trROp (P : Program) (N : Nat) (ops : List Oper) (o : Oper) : Option ROp :=
 if Vd.dstOk N o.dst = true then (trGuard ops o.guard).map fun g => ⟨o.dst, (tr P o.op).getD .stop, g⟩ else none
def trROps (P : Program) (N : Nat) (ops : List Oper) : List Oper → Option (List ROp)
 | [] => some []
 | o :: r => match trROp P N ops o, trROps P N ops r with
  | some d, some l => some (d :: l)
  | _, _ => none
theorem trROp_some {P : Program} {N : Nat} {ops : List Oper} {o : Oper} {d : ROp} (h : trROp P N ops o = some d) : (tr P o.op).getD .stop = d.op ∧ d.dst = o.dst ∧ trGuard ops o.guard = some d.guard ∧ ∀ t, o.dst = some t → t < N := by
 unfold trROp at h
 split at h
 ·rename_i hc
  rw [Option.map_eq_some_iff] at h
  obtain ⟨g, hg, rfl⟩ := h
  refine ⟨rfl, rfl, hg, fun t ht => ?_⟩
  rw [ht] at hc
  simpa [Vd.dstOk] using hc
 ·cases h
theorem trROps_some {P : Program} {N : Nat} {ops : List Oper} : ∀ {l : List Oper} {dl : List ROp}, trROps P N ops l = some dl → dl.length = l.length ∧ ∀ (i : Nat) o, l[i]? = some o → ∃ d, dl[i]? = some d ∧ trROp P N ops o = some d
 | [], dl, h => by simp only [trROps, Option.some.injEq] at h; subst h; simp
 | o :: r, dl, h => by
  unfold trROps at h
  split at h
  ·rename_i d l h1 h2
   simp only [Option.some.injEq] at h; subst h
   obtain ⟨p, q⟩ := trROps_some h2
   refine ⟨by simp [p], fun i o' hi => ?_⟩
   cases i with
   | zero => simp only [List.getElem?_cons_zero, Option.some.injEq] at hi; subst hi; exact ⟨d, rfl, h1⟩
   | succ i => simp only [List.getElem?_cons_succ] at hi ⊢; exact q i o' hi
  ·cases h
theorem tr_runs {P : Program} {op : Op} {d : DOp} {s : Nat → D} {m : Mem} {n : Nat} {x : D × Upd × Nat} (h : (tr P op).getD .stop = d) (he : exec s m n d = some x) : tr P op = some d := by
 cases htr : tr P op with
 | none => rw [htr] at h; simp only [Option.getD_none] at h; subst h; simp [exec] at he
 | some d' => rw [htr] at h; simp only [Option.getD_some] at h; rw [h]
theorem tr_call {P : Program} {op : Op} {f : Arg} {xs : List Arg} (h : (tr P op).getD .stop = .call f xs) : ∃ c, op = .call c ∧ trCall P c = some (.call f xs) := by
 have h : tr P op = some (.call f xs) := by
  cases htr : tr P op with
  | none => rw [htr] at h; cases h
  | some d => rw [htr] at h; simp only [Option.getD_some] at h; rw [h]
 cases op with
 | call c => exact ⟨c, rfl, h⟩
 | binOp op t x y yt =>
  exfalso
  cases op <;> simp only [tr, trEq] at h <;> repeat' (split at h)
  all_goals first | (simp at h; done) | (rw [Option.map_eq_some_iff] at h; obtain ⟨_, _, h⟩ := h; cases h)
 | makeFunc fn x y =>
  exfalso
  cases fn <;> simp only [tr] at h <;> repeat' (split at h)
  all_goals first | (simp at h; done) | (rw [Option.map_eq_some_iff] at h; obtain ⟨_, _, h⟩ := h; cases h)
 | slice t x lo hi mx =>
  exfalso
  cases mx <;> simp only [tr] at h <;> repeat' (split at h)
  all_goals first | (simp at h; done) | (rw [Option.map_eq_some_iff] at h; obtain ⟨_, _, h⟩ := h; cases h)
 | makeMap t r =>
  exfalso
  cases r <;> simp [tr] at h
 | next x b =>
  exfalso
  cases b <;> simp only [tr] at h
  all_goals first | (simp at h; done) | (rw [Option.map_eq_some_iff] at h; obtain ⟨_, _, h⟩ := h; cases h)
 | _ =>
  exfalso
  simp only [tr] at h <;> repeat' (split at h)
  all_goals first | (simp at h; done) | (rw [Option.map_eq_some_iff] at h; obtain ⟨_, _, h⟩ := h; cases h)
section
variable {P : Program} {B : Nat} {w0 w : World} {M : Mem} {g : Gm} {n n' : Nat} {s : Nat → D} {a : Act} {d : D} {call : CallF} {K : Act → World → Prop} {Q : Exit → Act → World → Prop} {o : Oper} {op : DOp}
theorem prim_wp (hnc : ∀ f xs, op ≠ .call f xs) (htr : (tr P o.op).getD .stop = op) {u : Upd} (hex : exec s M n op = some (d, u, n')) (hall : (u.all fun p => Nat.blt p.1 n') = true) (hi : Inv P B w0 M w g) (hs : Slots g s a)
  (hf : ∀ i, n ≤ i → i < n' → M i = none ∧ g i = none)
  (hK : ∀ v w' g', After P B w0 M g n (Upd.app M u) n' (updOld u n) (Upd.app M u) w' g' → Rep g' d v → K (a.put o.dst v) w') : o.wp P a w K Q := by
 obtain ⟨v', w', g', r, e1, e2, e3⟩ := op_does ⟨hi, hs, hf⟩ (tr_runs htr hex) hnc hex
 obtain ⟨_, _, q⟩ := prim_facts hex hall
 have hA : After P B w0 M g n (Upd.app M u) n' (updOld u n) (Upd.app M u) w' g' :=
  ⟨e3.inv, fun i ob h => h, e3.le, e3.out, fun i h1 h2 => app_out u _ i (fun hi => by rcases (q i).1 hi with h3 | h3; exact h1 h3; exact h2 h3)⟩
 unfold Oper.wp
 rw [e1]
 rcases e2 with rfl | ⟨rfl, rfl⟩
 ·exact hK v' w' g' hA e3.rep
 ·exact hK undef w' g' hA e3.rep
theorem step_wp (hc : CallOk P call) (htr : (tr P o.op).getD .stop = op) {m m' : Mt} {W : List Nat} (hst : stepOp call s m n op = some (d, m', n', W)) (hsub : Sub m.get M) (hi : Inv P B w0 M w g) (hs : Slots g s a)
  (hf : ∀ i, n ≤ i → i < n' → M i = none ∧ g i = none)
  (hK : ∀ v w' M' g', After P B w0 M g n m'.get n' W M' w' g' → Rep g' d v → K (a.put o.dst v) w') : o.wp P a w K Q := by
 by_cases hcall : ∃ f xs, op = .call f xs
 ·obtain ⟨f, xs, rfl⟩ := hcall
  obtain ⟨c, hop, htc⟩ := tr_call htr
  simp only [stepOp] at hst
  split at hst
  ·rename_i fid caps ef
   obtain ⟨_, _, _, hrun⟩ := hc _ _ _ _ _ _ _ _ hst
   refine call_wp hop htc hs ef (fun vs h1 h2 => hrun B w0 w M g vs hsub hi hf h1 h2) ?_
   rintro v w' ⟨M', g', hA, hr⟩
   exact hK v w' M' g' hA hr
  ·cases hst
 ·have hnc : ∀ f xs, op ≠ .call f xs := fun f xs e => hcall ⟨f, xs, e⟩
  obtain ⟨u, hex, hall, rfl, rfl⟩ := stepOp_prim_some hnc hst
  refine prim_wp hnc htr (exec_mono (fun i _ ob h => hsub i ob h) hex) hall hi hs hf (fun v w' g' hA hr => hK v w' _ g' ⟨hA.inv, fun i ob hm => ?_, hA.le, hA.out, hA.keep⟩ hr)
  rw [Mt.app_get] at hm
  by_cases hiu : i ∈ u.map (·.1)
  ·rw [app_in u M m.get i hiu]; exact hm
  ·rw [app_out u _ i hiu] at hm ⊢
   exact hsub i ob hm
theorem wanted_guard {ops : Array Oper} {gd : Option (Nat × Bool)} (hs : Slots g s a) (hg : trGuard ops.toList o.guard = some gd) {b : Bool} (h : guardG s gd = some b) : Region.wanted o (yielded ops a.tmps) = b := by
 unfold Region.wanted
 cases hgd : o.guard with
 | none =>
  rw [hgd] at hg
  simp only [trGuard, Option.some.injEq] at hg
  subst hg
  simp only [guardG, Option.some.injEq] at h
  exact h
 | some p =>
  obtain ⟨j, want⟩ := p
  rw [hgd] at hg
  simp only [trGuard] at hg
  split at hg
  ·rename_i t ht
   simp only [Option.some.injEq] at hg
   subst hg
   have ht' : (ops[j]?).bind (·.dst) = some t := by simpa using ht
   simp only [guardG] at h
   have hr := hs t
   split at h
   ·rename_i b' hb'
    simp only [Option.some.injEq] at h
    rw [hb'] at hr
    have hv := hr.bool_inv
    have hin : a.tmps[t]? = some (.bool b') := by
     rw [Array.getD_eq_getD_getElem?] at hv
     cases hh : a.tmps[t]? with
     | none => rw [hh] at hv; simp [undef] at hv
     | some x => rw [hh] at hv; simp at hv; rw [hv]
    have hy : yielded ops a.tmps j = some b' := by
     unfold yielded
     rw [ht']; simp [hin]
    simp only
    rw [hy, ← h]
    cases b' <;> cases want <;> rfl
   ·rename_i hb'
    simp only [Option.some.injEq] at h; subst h
    rw [hb'] at hr
    obtain ⟨us, hv, hl, _⟩ := hr.tup_inv
    have hu : us = [] := List.eq_nil_of_length_eq_zero (by simpa using hl)
    subst hu
    have hy : yielded ops a.tmps j = none := by
     unfold yielded
     rw [ht']
     split
     ·rename_i b2 e
      exfalso
      simp only [Option.bind_some] at e
      rw [Array.getD_eq_getD_getElem?, e] at hv
      cases hv
     ·rfl
    simp only
    rw [hy]; rfl
   ·cases h
  ·cases hg
theorem Slots.put {dst : Option Nat} {v : Value} (h : Slots g s a) (hr : Rep g d v) (hlt : ∀ t, dst = some t → t < a.tmps.size) : Slots g (setS s dst d) (a.put dst v) := by
 intro t
 cases dst with
 | none => exact h t
 | some t' =>
  have ht' := hlt t' rfl
  simp only [setS, Act.put]
  by_cases ht : t = t'
  ·subst ht
   rw [if_pos rfl]
   have : (a.tmps.setIfInBounds t v).getD t undef = v := by simp [Array.getD_eq_getD_getElem?, ht']
   rw [this]; exact hr
  ·rw [if_neg ht]
   have hne : ¬ t' = t := fun e => ht e.symm
   have : (a.tmps.setIfInBounds t' v).getD t undef = a.tmps.getD t undef := by simp [Array.getD_eq_getD_getElem?, Array.getElem?_setIfInBounds, hne]
   rw [this]; exact h t
end
structure InS (P : Program) (B : Nat) (w0 : World) (N nE : Nat) (s : Sl) (m : Mt) (n : Nat) (M : Mem) (a : Act) (w : World) (g : Gm) : Prop where
 inv : Inv P B w0 M w g
 sub : Sub m.get M
 slots : Slots g (sg s) a
 size : a.tmps.size = N
 defers : a.defers = []
 fresh : ∀ i, n ≤ i → i < nE → M i = none ∧ g i = none
structure Went (n n' : Nat) (W : List Nat) (M : Mem) (g : Gm) (M' : Mem) (g' : Gm) : Prop where
 le : g.le g'
 out : ∀ i, ¬ (n ≤ i ∧ i < n') → g' i = g i
 keep : ∀ i, i ∉ W → ¬ (n ≤ i ∧ i < n') → M' i = M i
theorem Went.refl (n n' : Nat) (W : List Nat) (M : Mem) (g : Gm) : Went n n' W M g M g := ⟨Gm.le.refl g, fun _ _ => rfl, fun _ _ _ => rfl⟩
theorem Went.trans {n n1 n2 : Nat} {W W' : List Nat} {M M1 M2 : Mem} {g g1 g2 : Gm} (h : Went n n1 W M g M1 g1) (k : Went n1 n2 W' M1 g1 M2 g2) (h1 : n ≤ n1) (h2 : n1 ≤ n2) (hw : ∀ i ∈ W, i ∈ W') : Went n n2 W' M g M2 g2 :=
 ⟨h.le.trans k.le, fun i hi => (k.out i (by omega)).trans (h.out i (by omega)), fun i hi hn => (k.keep i hi (by omega)).trans (h.keep i (fun e => hi (hw i e)) (by omega))⟩
structure Facts (m : Mt) (n : Nat) (w : List Nat) (m' : Mt) (n' : Nat) (w' : List Nat) : Prop where
 le : n ≤ n'
 sub : ∀ i ∈ w, i ∈ w'
 lt : (∀ i ∈ w, i < n) → ∀ i ∈ w', i < n'
 same : ∀ i, i ∉ w' → ¬ (n ≤ i ∧ i < n') → m'.get i = m.get i
theorem Facts.refl (m : Mt) (n : Nat) (w : List Nat) : Facts m n w m n w := ⟨Nat.le_refl _, fun _ h => h, fun h => h, fun _ _ _ => rfl⟩
theorem Facts.trans {m m1 m2 : Mt} {n n1 n2 : Nat} {w w1 w2 : List Nat} (h : Facts m n w m1 n1 w1) (k : Facts m1 n1 w1 m2 n2 w2) : Facts m n w m2 n2 w2 := by
 have := h.le
 have := k.le
 exact ⟨by omega, fun i hi => k.sub i (h.sub i hi), fun hw => k.lt (h.lt hw), fun i h1 h2 => (k.same i h1 (by omega)).trans (h.same i (fun e => h1 (k.sub i e)) (by omega))⟩
theorem row_facts {P : Program} {call : CallF} (hc : CallOk P call) : ∀ {l : List ROp} {s : Sl} {m : Mt} {n : Nat} {w : List Nat} {s' : Sl} {m' : Mt} {n' : Nat} {w' : List Nat}, rowR call l s m n w = some (s', m', n', w') → Facts m n w m' n' w'
 | [], s, m, n, w, s', m', n', w', h => by
  simp only [rowR, Option.some.injEq, Prod.mk.injEq] at h
  obtain ⟨_, rfl, rfl, rfl⟩ := h
  exact .refl _ _ _
 | o :: l, s, m, n, w, s', m', n', w', h => by
  simp only [rowR] at h
  split at h
  ·split at h
   ·rename_i d m1 n1 w1 he
    obtain ⟨p1, p2, p3⟩ := stepOp_facts hc he
    have h1 : Facts m n w m1 n1 (w1 ++ w) := ⟨p1, fun i hi => List.mem_append_right _ hi, fun hw i hi => by
     rcases List.mem_append.1 hi with hi | hi
     ·have := p2 i hi; omega
     ·have := hw i hi; omega, fun i hi hn => p3 i (fun e => hi (List.mem_append_left _ e)) hn⟩
    exact h1.trans (row_facts hc h)
   ·cases h
  ·exact row_facts hc h
  ·cases h
section
variable {P : Program} {B : Nat} {w0 : World} {N nE : Nat} {call : CallF} {Q : Exit → Act → World → Prop}
theorem put_size (a : Act) (dst : Option Nat) (v : Value) : (a.put dst v).tmps.size = a.tmps.size ∧ (a.put dst v).defers = a.defers := by
 cases dst <;> simp [Act.put]
theorem row_wp (hc : CallOk P call) {ops : Array Oper} {rops : List ROp} (hops : trROps P N ops.toList ops.toList = some rops) : ∀ (l : List ROp) (k : Nat) (s : Sl) (m : Mt) (n : Nat) (w : List Nat) (s' : Sl) (m' : Mt) (n' : Nat) (w' : List Nat) (M : Mem) (a : Act) (W : World) (g : Gm),
  l = rops.drop k → rowR call l s m n w = some (s', m', n', w') → n' ≤ nE → InS P B w0 N nE s m n M a W g →
  (∀ a' W' M' g', InS P B w0 N nE s' m' n' M' a' W' g' → Went n n' w' M g M' g' → Q .normal a' W') → wpOps P ops Q (List.range' k l.length) a W
 | [], k, s, m, n, w, s', m', n', w', M, a, W, g, _, he, _, hx, hq => by
  simp only [rowR, Option.some.injEq, Prod.mk.injEq] at he
  obtain ⟨rfl, rfl, rfl, rfl⟩ := he
  exact hq a W M g hx (Went.refl ..)
 | r :: l, k, s, m, n, w, s', m', n', w', M, a, W, g, hl, he, hnE, hx, hq => by
  obtain ⟨hlen, hall⟩ := trROps_some hops
  have hrk : rops[k]? = some r := by
   have : (rops.drop k)[0]? = some r := by rw [← hl]; rfl
   rw [List.getElem?_drop] at this
   simpa using this
  have hl' : l = rops.drop (k + 1) := by
   have : (rops.drop k).drop 1 = rops.drop (k + 1) := by rw [List.drop_drop]
   rw [← this, ← hl]; rfl
  have hk : k < ops.toList.length := by have := (List.getElem?_eq_some_iff.1 hrk).1; omega
  have ho' : ops.toList[k]? = some ops.toList[k] := List.getElem?_eq_getElem hk
  obtain ⟨r2, q1, q2⟩ := hall k _ ho'
  rw [hrk] at q1
  simp only [Option.some.injEq] at q1
  subst q1
  generalize ho2 : ops.toList[k] = o at ho' q2
  have ho : ops[k]? = some o := by simpa using ho'
  obtain ⟨t1, t2, t3, t4⟩ := trROp_some q2
  have hdst : ∀ t, o.dst = some t → t < a.tmps.size := fun t ht => by rw [hx.size]; exact t4 t ht
  rw [List.length_cons, List.range'_succ]
  simp only [wpOps, ho]
  simp only [rowR] at he
  split at he
  ·rename_i hg
   rw [wanted_guard hx.slots t3 hg]
   simp only [if_true]
   split at he
   ·rename_i d m1 n1 w1 hst
    left
    have hf1 := row_facts hc he
    obtain ⟨p1, p2, p3⟩ := stepOp_facts hc hst
    refine step_wp hc t1 hst hx.sub hx.inv hx.slots (fun i h1 h2 => hx.fresh i h1 (by have := hf1.le; omega)) (fun v W' M1 g1 hA hr => ?_)
    have hps := put_size a o.dst v
    refine row_wp hc hops l (k + 1) _ m1 n1 (w1 ++ w) s' m' n' w' M1 _ W' g1 hl' he hnE ⟨hA.inv, hA.sub, ?_, by rw [hps.1]; exact hx.size, by rw [hps.2]; exact hx.defers, fun i h1 h2 => ?_⟩ (fun a' W2 M2 g2 h1 h2 => hq a' W2 M2 g2 h1 ?_)
    ·rw [sg_set, t2]
     exact (hx.slots.ext hA.le).put hr hdst
    ·rw [hA.keep i (fun e => by have := p2 i e; omega) (by omega), hA.out i (by omega)]
     exact hx.fresh i (by omega) h2
    ·have hw : Went n n1 (w1 ++ w) M g M1 g1 := ⟨hA.le, hA.out, fun i hi => hA.keep i (fun e => hi (List.mem_append_left _ e))⟩
     exact hw.trans h2 p1 hf1.le hf1.sub
   ·cases he
  ·rename_i hg
   rw [wanted_guard hx.slots t3 hg]
   simp only [Bool.false_eq_true, if_false]
   have hps := put_size a o.dst undef
   refine row_wp hc hops l (k + 1) _ m n w s' m' n' w' M _ W g hl' he hnE ⟨hx.inv, hx.sub, ?_, by rw [hps.1]; exact hx.size, by rw [hps.2]; exact hx.defers, hx.fresh⟩ hq
   rw [sg_set, t2]
   exact hx.slots.put (.tup [] [] rfl (by simp)) hdst
  ·cases he
end
end Go.Ve

namespace Go.Ve
open Go.RowKit
set_option linter.unusedSimpArgs false
set_option linter.unusedVariables false
def befB (befs : List (List Nat)) (j k : Nat) : Bool := (befs.getD k []).contains j
def apart (befs : List (List Nat)) (j k : Nat) : Bool := !befB befs j k && !befB befs k j
def gslot (o : ROp) : Option Nat := o.guard.map (·.1)
def slotsOk (rops : List ROp) (befs : List (List Nat)) : Bool :=
 (List.range rops.length).all fun j => (List.range rops.length).all fun k => match rops[j]?, rops[k]? with
  | some oj, some ok => match oj.dst with
   | some t => j == k || !apart befs j k || !(ok.op.uses.contains t || gslot ok == some t || ok.dst == some t)
   | none => true
  | _, _ => true
def DOp.ownW : DOp → Bool
 | .alloc .. | .box .. | .bslice .. | .mksl .. | .s2b .. | .range _ => true
 | _ => false
def clash (a b : DOp) : Bool := a.mayW && (b.mayR || b.mayW) && !(a.ownW && b.ownW)
def pairsOf (rops : List ROp) (befs : List (List Nat)) : List (Nat × Nat) :=
 (List.range rops.length).flatMap fun j => ((List.range rops.length).filter fun k => j != k && apart befs j k && (match rops[j]?, rops[k]? with
  | some oj, some ok => clash oj.op ok.op
  | _, _ => false)).map fun k => (j, k)
theorem own_new {op : DOp} {s : Nat → D} {m : Mem} {n : Nat} {d : D} {u : Upd} {n' : Nat} (ho : op.ownW = true) (hr : exec s m n op = some (d, u, n')) : updOld u n = [] := by
 have done1 : ∀ {d0 : D} {x : Option Ob}, some (d0, [(n, x)], n + 1) = some (d, u, n') → updOld u n = [] := by
  intro d0 x e
  simp only [Option.some.injEq, Prod.mk.injEq] at e
  obtain ⟨_, rfl, rfl⟩ := e
  have : Nat.blt n n = false := by rw [Bool.eq_false_iff]; intro h; have := Nat.le_of_ble_eq_true h; omega
  simp [updOld, this]
 cases op <;> first | (simp [DOp.ownW] at ho; done) | skip
 all_goals simp only [exec] at hr
 all_goals repeat' (split at hr)
 all_goals first | exact done1 hr | (cases hr; done)
section
variable (dst : Nat → Option Nat) (ed : Nat → D) (lk : Nat → Nat → Option (Option Ob))
def lastS (X : Nat → Bool) (t : Nat) : Nat → Option D
 | 0 => none
 | k + 1 => if X k = true ∧ dst k = some t then some (ed k) else lastS X t k
def lastM (X : Nat → Bool) (i : Nat) : Nat → Option (Option Ob)
 | 0 => none
 | k + 1 => if X k = true then match lk k i with
  | some d => some d
  | none => lastM X i k
  else lastM X i k
variable (s0 : Nat → D) (m0 : Mem)
def stS (X : Nat → Bool) (n : Nat) : Nat → D := fun t => (lastS dst ed X t n).getD (s0 t)
def stM (X : Nat → Bool) (n : Nat) : Mem := fun i => match lastM lk X i n with | some d => d | none => m0 i
variable {dst ed lk s0 m0}
theorem lastS_congr {X Y : Nat → Bool} {t : Nat} : ∀ {n : Nat}, (∀ k, k < n → dst k = some t → X k = Y k) → lastS dst ed X t n = lastS dst ed Y t n
 | 0, _ => rfl
 | n + 1, h => by
  have ih := lastS_congr (X := X) (Y := Y) (t := t) (n := n) (fun k hk => h k (by omega))
  simp only [lastS]
  by_cases hd : dst n = some t
  ·rw [h n (by omega) hd, ih]
  ·simp [hd, ih]
theorem lastM_congr {X Y : Nat → Bool} {i : Nat} : ∀ {n : Nat}, (∀ k, k < n → lk k i ≠ none → X k = Y k) → lastM lk X i n = lastM lk Y i n
 | 0, _ => rfl
 | n + 1, h => by
  have ih := lastM_congr (X := X) (Y := Y) (i := i) (n := n) (fun k hk => h k (by omega))
  simp only [lastM]
  cases hl : lk n i with
  | none => simp [ih]
  | some d => rw [h n (by omega) (by rw [hl]; simp)]; simp [ih]
theorem lastS_ins {X : Nat → Bool} {t k : Nat} (hX : X k = false) : ∀ {n : Nat}, k < n → (dst k = some t → ∀ j, k < j → j < n → X j = true → dst j ≠ some t) →
  lastS dst ed (Vd.ins X k) t n = if dst k = some t then some (ed k) else lastS dst ed X t n
 | n + 1, hk, h => by
  by_cases hd : dst k = some t
  ·rw [if_pos hd]
   by_cases hn : k = n
   ·subst hn
    simp [lastS, Vd.ins, hd]
   ·have ih := lastS_ins hX (n := n) (by omega) (fun hd' j h1 h2 h3 => h hd' j h1 (by omega) h3)
    rw [if_pos hd] at ih
    simp only [lastS]
    have : ¬ (Vd.ins X k n = true ∧ dst n = some t) := by
     rintro ⟨h1, h2⟩
     simp only [Vd.ins, Bool.or_eq_true, beq_iff_eq] at h1
     rcases h1 with h1 | h1
     ·exact h hd n (by omega) (by omega) h1 h2
     ·omega
    rw [if_neg this, ih]
  ·rw [if_neg hd]
   refine lastS_congr (fun j hj hdj => ?_)
   have : j ≠ k := by rintro rfl; exact hd hdj
   simp [Vd.ins, this]
theorem lastM_ins {X : Nat → Bool} {i k : Nat} (hX : X k = false) : ∀ {n : Nat}, k < n → (lk k i ≠ none → ∀ j, k < j → j < n → X j = true → lk j i = none) →
  lastM lk (Vd.ins X k) i n = match lk k i with | some d => some d | none => lastM lk X i n
 | n + 1, hk, h => by
  cases hl : lk k i with
  | none =>
   simp only
   refine lastM_congr (fun j hj hdj => ?_)
   have : j ≠ k := by rintro rfl; exact hdj hl
   simp [Vd.ins, this]
  | some d =>
   simp only
   by_cases hn : k = n
   ·subst hn
    simp [lastM, Vd.ins, hl]
   ·have ih := lastM_ins (i := i) hX (n := n) (by omega) (fun hd' j h1 h2 h3 => h hd' j h1 (by omega) h3)
    rw [hl] at ih
    simp only at ih
    simp only [lastM]
    split
    ·rename_i h1
     simp only [Vd.ins, Bool.or_eq_true, beq_iff_eq] at h1
     rcases h1 with h1 | h1
     ·rw [h (by rw [hl]; simp) n (by omega) (by omega) h1]; exact ih
     ·omega
    ·exact ih
theorem stS_ins {X : Nat → Bool} {k n : Nat} (hX : X k = false) (hk : k < n) (h : ∀ t, dst k = some t → ∀ j, k < j → j < n → X j = true → dst j ≠ some t) :
  stS dst ed s0 (Vd.ins X k) n = setS (stS dst ed s0 X n) (dst k) (ed k) := by
 funext t
 simp only [stS]
 rw [lastS_ins hX hk (h t)]
 cases hd : dst k with
 | none => simp [setS, stS]
 | some t' =>
  simp only [setS, stS, Option.some.injEq]
  by_cases ht : t = t'
  ·subst ht; simp
  ·rw [if_neg (fun e => ht e.symm), if_neg ht]
theorem stM_ins {X : Nat → Bool} {k n : Nat} (hX : X k = false) (hk : k < n) (h : ∀ i, lk k i ≠ none → ∀ j, k < j → j < n → X j = true → lk j i = none) (i : Nat) :
  stM lk m0 (Vd.ins X k) n i = match lk k i with | some d => d | none => stM lk m0 X n i := by
 simp only [stM]
 rw [lastM_ins hX hk (h i)]
 cases lk k i <;> rfl
end
structure Indep (bef : Nat → Nat → Prop) (l : List ROp) (rs : List Rec) : Prop where
 lt : ∀ j k, bef j k → j < k
 slot : ∀ j k t oj ok, j ≠ k → l[j]? = some oj → l[k]? = some ok → oj.dst = some t → (t ∈ ok.op.uses ∨ gslot ok = some t ∨ ok.dst = some t) → bef j k ∨ bef k j
 mem : ∀ j k rj rk i, j ≠ k → rs[j]? = some rj → rs[k]? = some rk → rj.touch i → (rk.rd.has i = true ∨ rk.touch i) → bef j k ∨ bef k j
theorem befs_cases {befs : List (List Nat)} {j k : Nat} (h : apart befs j k = false) : Vd.befOf befs j k ∨ Vd.befOf befs k j := by
 unfold apart befB at h
 simp only [Bool.and_eq_false_iff, Bool.not_eq_false', List.contains_iff_mem] at h
 exact h
theorem mono_nn {call : CallF} {P : Program} (hc : CallOk P call) {l : List ROp} {rs : List Rec} {S : Nat → Sl} {C : Nat → Mt} {nn : Nat → Nat} (hch : Chain call l rs S C nn) : ∀ {j k : Nat}, j ≤ k → k ≤ l.length → nn j ≤ nn k := by
 have step : ∀ k, k < l.length → nn k ≤ nn (k + 1) := by
  intro k hk
  have ho : l[k]? = some l[k] := List.getElem?_eq_getElem hk
  have hr : rs[k]? = some (rs[k]'(by rw [hch.len]; exact hk)) := List.getElem?_eq_getElem _
  obtain ⟨_, _, e1, e2, hf, _⟩ := hch.at_ k _ _ ho hr
  rw [← e1, ← e2]
  generalize rs[k]'(by rw [hch.len]; exact hk) = r at hf
  cases hon : r.on with
  | false => obtain ⟨_, _, _, e, _⟩ := hf.off hon; omega
  | true => obtain ⟨_, e⟩ := hf.step hon; exact (stepOp_facts hc e).1
 intro j k hjk hk
 induction k with
 | zero =>
  have e : j = 0 := by omega
  subst e
  exact Nat.le_refl _
 | succ k ih =>
  by_cases hj : j = k + 1
  ·subst hj; exact Nat.le_refl _
  ·exact Nat.le_trans (ih (by omega) (by omega)) (step k (by omega))
theorem touch_kind {call : CallF} {P : Program} (hc : CallOk P call) {o : ROp} {r : Rec} (hf : OpFact call o r) {i : Nat} (ht : r.touch i) : r.on = true ∧ o.op.mayW = true ∧ (o.op.ownW = true → r.w = []) := by
 cases hon : r.on with
 | false =>
  obtain ⟨_, _, e1, e2, _⟩ := hf.off hon
  simp only [Rec.touch, e1, e2] at ht
  rcases ht with h | h
  ·cases h
  ·omega
 | true =>
  refine ⟨rfl, ?_⟩
  obtain ⟨_, he⟩ := hf.step hon
  by_cases hcall : ∃ f xs, o.op = .call f xs
  ·obtain ⟨f, xs, e⟩ := hcall
   rw [e]; exact ⟨rfl, by simp [DOp.ownW]⟩
  ·obtain ⟨u, hex, hall, _, hw⟩ := stepOp_prim_some (fun f xs e => hcall ⟨f, xs, e⟩) he
   refine ⟨?_, fun how => by rw [hw]; exact own_new how hex⟩
   cases hm : o.op.mayW with
   | true => rfl
   | false =>
    obtain ⟨rfl, e⟩ := exec_still hm hex
    simp only [Rec.touch, hw, e] at ht
    rcases ht with h | h
    ·simp [updOld] at h
    ·omega
theorem has_kind {call : CallF} {o : ROp} {r : Rec} (hf : OpFact call o r) {i : Nat} (hh : r.rd.has i = true) : r.on = true ∧ o.op.mayR = true := by
 cases hon : r.on with
 | false =>
  obtain ⟨_, _, _, _, e⟩ := hf.off hon
  rw [e] at hh; simp [Rd.has] at hh
 | true =>
  refine ⟨rfl, ?_⟩
  cases hcl : isCall o.op with
  | true => cases hop : o.op <;> first | rfl | (rw [hop] at hcl; simp [isCall] at hcl)
  | false =>
   obtain ⟨_, e⟩ := hf.prim hon hcl
   rw [e] at hh
   cases hm : o.op.mayR with
   | true => rfl
   | false => rw [rds_still hm] at hh; simp [Rd.has] at hh
theorem chk_spec {r q : Rec} (h : chk r q = true) {i : Nat} (ht : r.touch i) : q.rd.has i = false ∧ i ∉ (if i ∈ r.w then q.w else []) ∧ (¬ i ∈ r.w → i ∉ q.w) := by
 unfold chk at h
 simp only [Bool.and_eq_true] at h
 obtain ⟨⟨h1, h2⟩, h3⟩ := h
 have inr : inR r i = true ↔ (r.n0 ≤ i ∧ i < r.n1) := by
  unfold inR
  rw [Bool.and_eq_true]
  exact ⟨fun h => ⟨Nat.le_of_ble_eq_true h.1, Nat.le_of_ble_eq_true h.2⟩, fun h => ⟨Nat.ble_eq_true_of_le h.1, Nat.ble_eq_true_of_le h.2⟩⟩
 rcases ht with ht | ht
 ·have := List.all_eq_true.1 h1 i ht
  simp only [Bool.and_eq_true, Bool.not_eq_true', List.contains_eq_mem, decide_eq_false_iff_not] at this
  refine ⟨this.1, by rw [if_pos ht]; exact this.2, fun hn => absurd ht hn⟩
 ·have hin := inr.2 ht
  have hw : i ∉ q.w := by
   intro hi
   have := List.all_eq_true.1 h2 i hi
   simp [hin] at this
  refine ⟨?_, by split <;> simp [hw], fun _ => hw⟩
  cases hrd : q.rd with
  | ids l =>
   rw [hrd] at h3
   cases hc : (Rd.ids l).has i with
   | false => rfl
   | true =>
    simp only [Rd.has, List.contains_iff_mem] at hc
    have := List.all_eq_true.1 h3 i hc
    simp [hin] at this
  | mem m =>
   rw [hrd] at h3
   have := List.all_eq_true.1 h3 i (by rw [List.mem_range']; exact ⟨i - r.n0, by omega, by omega⟩)
   simp only [Option.isNone_iff_eq_none] at this
   simp [Rd.has, this]
theorem indep_of {call : CallF} {P : Program} (hc : CallOk P call) {l : List ROp} {rs : List Rec} {S : Nat → Sl} {C : Nat → Mt} {nn : Nat → Nat} (hch : Chain call l rs S C nn) {befs ps : List (List Nat)} (hb : Vd.befsOk ps befs = true)
  (hs : slotsOk l befs = true) (hk : chkAll rs (pairsOf l befs) = true) : Indep (Vd.befOf befs) l rs := by
 refine ⟨fun j k h => (Vd.befs_lt hb h).1, fun j k t oj ok hjk hj hk' hd hu => ?_, fun j k rj rk i hjk hj hk' ht hu => ?_⟩
 ·have hjl : j < l.length := (List.getElem?_eq_some_iff.1 hj).1
  have hkl : k < l.length := (List.getElem?_eq_some_iff.1 hk').1
  have h1 := List.all_eq_true.1 hs j (List.mem_range.2 hjl)
  have h2 := List.all_eq_true.1 h1 k (List.mem_range.2 hkl)
  rw [hj, hk'] at h2
  simp only [hd, Bool.or_eq_true, beq_iff_eq, Bool.not_eq_true', Bool.or_eq_false_iff, List.contains_eq_mem, decide_eq_false_iff_not, beq_eq_false_iff_ne] at h2
  rcases h2 with (h2 | h2) | h2
  ·exact absurd h2 hjk
  ·exact befs_cases h2
  ·exfalso
   rcases hu with hu | hu | hu
   ·exact h2.1.1 hu
   ·exact h2.1.2 hu
   ·exact h2.2 hu
 ·cases ha : apart befs j k with
  | false => exact befs_cases ha
  | true =>
   exfalso
   have hjl : j < l.length := by rw [← hch.len]; exact (List.getElem?_eq_some_iff.1 hj).1
   have hkl : k < l.length := by rw [← hch.len]; exact (List.getElem?_eq_some_iff.1 hk').1
   have hoj : l[j]? = some l[j] := List.getElem?_eq_getElem hjl
   have hok : l[k]? = some l[k] := List.getElem?_eq_getElem hkl
   obtain ⟨_, _, aj0, aj1, hfj, _⟩ := hch.at_ j _ _ hoj hj
   obtain ⟨_, _, ak0, ak1, hfk, _⟩ := hch.at_ k _ _ hok hk'
   obtain ⟨_, kj2, kj3⟩ := touch_kind hc hfj ht
   have pair : ∀ x y rx ry, x ≠ y → apart befs x y = true → x < l.length → y < l.length → rs[x]? = some rx → rs[y]? = some ry → ∀ ox oy, l[x]? = some ox → l[y]? = some oy → clash ox.op oy.op = true → chk rx ry = true := by
    intro x y rx ry hxy hap hx hy hrx hry ox oy hox hoy hcl
    have hin : (x, y) ∈ pairsOf l befs := by
     unfold pairsOf
     rw [List.mem_flatMap]
     refine ⟨x, List.mem_range.2 hx, ?_⟩
     rw [List.mem_map]
     refine ⟨y, ?_, rfl⟩
     rw [List.mem_filter]
     refine ⟨List.mem_range.2 hy, ?_⟩
     rw [hox, hoy]
     simp [hxy, hap, hcl]
    have := List.all_eq_true.1 hk _ hin
    simpa [hrx, hry] using this
   have hap' : apart befs k j = true := by unfold apart at ha ⊢; rw [Bool.and_comm]; exact ha
   -- the new ones of two places are apart
   have newnew : ¬ ((rj.n0 ≤ i ∧ i < rj.n1) ∧ (rk.n0 ≤ i ∧ i < rk.n1)) := by
    rintro ⟨h1, h2⟩
    rcases Nat.lt_or_gt_of_ne hjk with h | h
    ·have := mono_nn hc hch (j := j + 1) (k := k) (by omega) (by omega); omega
    ·have := mono_nn hc hch (j := k + 1) (k := j) (by omega) (by omega); omega
   by_cases hown : l[j].op.ownW = true ∧ l[k].op.ownW = true
   ·have hwj := kj3 hown.1
    rcases hu with hu | hu
    ·obtain ⟨_, hR⟩ := has_kind hfk hu
     have : l[k].op.mayR = false := by cases hop : l[k].op <;> first | rfl | (have h2 := hown.2; rw [hop] at h2; simp [DOp.ownW] at h2)
     rw [this] at hR; cases hR
    ·obtain ⟨_, _, kk3⟩ := touch_kind hc hfk hu
     have hwk := kk3 hown.2
     simp only [Rec.touch, hwj, hwk, List.not_mem_nil, false_or] at ht hu
     exact newnew ⟨ht, hu⟩
   ·have hno : (!(l[j].op.ownW && l[k].op.ownW)) = true := by
     simp only [Bool.not_eq_true', Bool.and_eq_false_iff]
     by_cases h1 : l[j].op.ownW = true
     ·exact .inr (by cases h2 : l[k].op.ownW with | false => rfl | true => exact absurd ⟨h1, h2⟩ hown)
     ·exact .inl (by simpa using h1)
    rcases hu with hu | hu
    ·obtain ⟨_, hR⟩ := has_kind hfk hu
     have hcl : clash l[j].op l[k].op = true := by unfold clash; rw [kj2, hR, hno]; rfl
     have := (chk_spec (pair j k rj rk hjk ha hjl hkl hj hk' _ _ hoj hok hcl) ht).1
     rw [this] at hu; cases hu
    ·obtain ⟨_, kk2, kk3⟩ := touch_kind hc hfk hu
     have hcl : clash l[j].op l[k].op = true := by unfold clash; rw [kj2, kk2, hno]; simp
     have hcl' : clash l[k].op l[j].op = true := by unfold clash; rw [kj2, kk2, Bool.and_comm l[k].op.ownW, hno]; simp
     have c1 := chk_spec (pair j k rj rk hjk ha hjl hkl hj hk' _ _ hoj hok hcl) ht
     have c2 := chk_spec (pair k j rk rj (fun e => hjk e.symm) hap' hkl hjl hk' hj _ _ hok hoj hcl') hu
     have nwk : i ∉ rk.w := by
      by_cases hi : i ∈ rj.w
      ·have := c1.2.1; rw [if_pos hi] at this; exact this
      ·exact c1.2.2 hi
     have nwj : i ∉ rj.w := by
      by_cases hi : i ∈ rk.w
      ·exact absurd hi nwk
      ·exact c2.2.2 hi
     rcases ht with ht | ht
     ·exact nwj ht
     ·rcases hu with hu | hu
      ·exact nwk hu
      ·exact newnew ⟨ht, hu⟩
end Go.Ve

namespace Go.Ve
open Go.RowKit
set_option linter.unusedSimpArgs false
set_option linter.unusedVariables false
def dstAt (rops : List ROp) (k : Nat) : Option Nat := (rops[k]?).bind (·.dst)
def edAt (rs : List Rec) (k : Nat) : D := match rs[k]? with | some r => r.d | none => .junk
def lkAt (rs : List Rec) (k i : Nat) : Option (Option Ob) := match rs[k]? with
 | some r => if r.touch i then some (r.mv.get i) else none
 | none => none
theorem lkAt_some {rs : List Rec} {k i : Nat} {r : Rec} (hr : rs[k]? = some r) : lkAt rs k i = if r.touch i then some (r.mv.get i) else none := by simp [lkAt, hr]
theorem lkAt_ne {rs : List Rec} {k i : Nat} (h : lkAt rs k i ≠ none) : ∃ r, rs[k]? = some r ∧ r.touch i := by
 unfold lkAt at h
 split at h
 ·rename_i r hr
  split at h
  ·rename_i ht; exact ⟨r, hr, ht⟩
  ·exact absurd rfl h
 ·exact absurd rfl h
structure InX (P : Program) (B : Nat) (w0 : World) (N : Nat) (rops : List ROp) (rs : List Rec) (s0 : Nat → D) (M0 : Mem) (X : Nat → Bool) (a : Act) (w : World) (g : Gm) : Prop where
 inv : Inv P B w0 (stM (lkAt rs) M0 X rops.length) w g
 slots : Slots g (stS (dstAt rops) (edAt rs) s0 X rops.length) a
 size : a.tmps.size = N
 defers : a.defers = []
 fresh : ∀ k r, rs[k]? = some r → X k = false → ∀ i, r.n0 ≤ i → i < r.n1 → stM (lkAt rs) M0 X rops.length i = none ∧ g i = none
section
variable {P : Program} {B : Nat} {w0 : World} {N : Nat} {call : CallF} {Q : Exit → Act → World → Prop} {rops : List ROp} {rs : List Rec} {S : Nat → Sl} {C : Nat → Mt} {nn : Nat → Nat} {M0 : Mem} {bef : Nat → Nat → Prop}
theorem chain_at (hch : Chain call rops rs S C nn) {k : Nat} (hk : k < rops.length) : ∃ o r, rops[k]? = some o ∧ rs[k]? = some r ∧ r.s = S k ∧ r.c = C k ∧ r.n0 = nn k ∧ r.n1 = nn (k + 1) ∧ OpFact call o r ∧ S (k + 1) = setD (S k) o.dst r.d ∧
  ∀ i, (C (k + 1)).get i = if r.touch i then r.mv.get i else (C k).get i := by
 have ho : rops[k]? = some rops[k] := List.getElem?_eq_getElem hk
 have hr : rs[k]? = some (rs[k]'(by rw [hch.len]; exact hk)) := List.getElem?_eq_getElem _
 exact ⟨_, _, ho, hr, hch.at_ k _ _ ho hr⟩
theorem below_S (hch : Chain call rops rs S C nn) : ∀ k, k ≤ rops.length → sg (S k) = stS (dstAt rops) (edAt rs) (sg (S 0)) (Vd.below k) rops.length
 | 0, _ => by
  funext t
  have h0 : ∀ n, lastS (dstAt rops) (edAt rs) (Vd.below 0) t n = none := by
   intro n
   induction n with
   | zero => rfl
   | succ n ih => simp [lastS, Vd.below] at ih ⊢; exact ih
  simp [stS, h0]
 | k + 1, hk => by
  obtain ⟨o, r, ho, hr, _, _, _, _, _, e, _⟩ := chain_at hch (k := k) (by omega)
  rw [e, sg_set, below_S hch k (by omega), ← Vd.ins_below, stS_ins (by simp [Vd.below]) (by omega) (fun t _ j h1 h2 h3 => by simp [Vd.below] at h3; omega)]
  have e1 : dstAt rops k = o.dst := by simp [dstAt, ho]
  have e2 : edAt rs k = r.d := by simp [edAt, hr]
  rw [e1, e2]
theorem below_C (hch : Chain call rops rs S C nn) (h0 : Sub (C 0).get M0) : ∀ k, k ≤ rops.length → Sub (C k).get (stM (lkAt rs) M0 (Vd.below k) rops.length)
 | 0, _ => by
  intro i ob hi
  have hn : ∀ n, lastM (lkAt rs) (Vd.below 0) i n = none := by
   intro n
   induction n with
   | zero => rfl
   | succ n ih => simp [lastM, Vd.below] at ih ⊢; exact ih
  simp only [stM, hn]
  exact h0 i ob hi
 | k + 1, hk => by
  intro i ob hi
  obtain ⟨o, r, ho, hr, _, _, _, _, _, _, e⟩ := chain_at hch (k := k) (by omega)
  rw [e i] at hi
  rw [← Vd.ins_below, stM_ins (by simp [Vd.below]) (by omega) (fun t _ j h1 h2 h3 => by simp [Vd.below] at h3; omega), lkAt_some hr]
  split at hi
  ·rename_i ht; rw [if_pos ht]; exact hi
  ·rename_i ht; rw [if_neg ht]; exact below_C hch h0 k (by omega) i ob hi
theorem sched_wp (hc : CallOk P call) {ops : Array Oper} (hops : trROps P N ops.toList ops.toList = some rops) (hch : Chain call rops rs S C nn) (hI : Indep bef rops rs) (h0 : Sub (C 0).get M0) {dd : List Vd.DOper} (hdd : dd.length = rops.length) :
  ∀ (l : List Nat) (X : Nat → Bool) (a : Act) (w : World) (g : Gm), Vd.Closed bef X → Vd.Goes dd bef X l → InX P B w0 N rops rs (sg (S 0)) M0 X a w g →
  (∀ a' w' g', InX P B w0 N rops rs (sg (S 0)) M0 (l.foldl Vd.ins X) a' w' g' → g.le g' → (∀ i, ¬ (nn 0 ≤ i ∧ i < nn rops.length) → g' i = g i) → Q .normal a' w') → wpOps P ops Q l a w
 | [], X, a, w, g, _, _, hx, hq => hq a w g hx (Gm.le.refl g) (fun _ _ => rfl)
 | k :: l, X, a, w, g, hX, hgo, hx, hq => by
  obtain ⟨hkd, hkX, hpre, hgo'⟩ := hgo
  rw [hdd] at hkd
  obtain ⟨hlen, hall⟩ := trROps_some hops
  obtain ⟨ro, r, hro, hr, es, ec, en0, en1, hf, eS, eC⟩ := chain_at hch hkd
  have hk : k < ops.toList.length := by omega
  have ho' : ops.toList[k]? = some ops.toList[k] := List.getElem?_eq_getElem hk
  obtain ⟨r2, q1, q2⟩ := hall k _ ho'
  rw [hro] at q1
  simp only [Option.some.injEq] at q1
  subst q1
  generalize ho2 : ops.toList[k] = o at ho' q2
  have ho : ops[k]? = some o := by simpa using ho'
  obtain ⟨t1, t2, t3, t4⟩ := trROp_some q2
  have hdst : ∀ t, o.dst = some t → t < a.tmps.size := fun t ht => by rw [hx.size]; exact t4 t ht
  have hcl : Vd.Closed bef (Vd.ins X k) := hX.ins hpre
  -- who is apart from k says nothing to it
  have key : ∀ j, (bef j k ∨ bef k j) ∨ j = k → Vd.below k j = X j := by
   intro j hj
   rcases hj with (h1 | h1) | rfl
   ·rw [hpre j h1]; simp [Vd.below, hI.lt j k h1]
   ·have hlt := hI.lt k j h1
    have hxj : X j = false := by
     cases hxj : X j with
     | false => rfl
     | true => rw [hX k j hxj h1] at hkX; cases hkX
    rw [hxj]; simp [Vd.below]; omega
   ·rw [hkX]; simp [Vd.below]
  have oj : ∀ j t, dstAt rops j = some t → ∃ x, rops[j]? = some x ∧ x.dst = some t := by
   intro j t h
   simp only [dstAt, Option.bind_eq_some_iff] at h
   exact h
  have hslot : ∀ t, (t ∈ ro.op.uses ∨ gslot ro = some t) → sg r.s t = stS (dstAt rops) (edAt rs) (sg (S 0)) X rops.length t := by
   intro t ht
   rw [es, below_S hch k (by omega)]
   simp only [stS]
   rw [lastS_congr (fun j hj hd => ?_)]
   obtain ⟨x, hx1, hx2⟩ := oj j t hd
   refine key j ?_
   by_cases hjk : j = k
   ·exact .inr hjk
   ·exact .inl (hI.slot j k t x ro hjk hx1 hro hx2 (by rcases ht with ht | ht; exact .inl ht; exact .inr (.inl ht)))
  have hmem : ∀ i, r.rd.has i = true → stM (lkAt rs) M0 (Vd.below k) rops.length i = stM (lkAt rs) M0 X rops.length i := by
   intro i hi
   simp only [stM]
   rw [lastM_congr (fun j hj hd => ?_)]
   obtain ⟨rj, hrj, htj⟩ := lkAt_ne hd
   refine key j ?_
   by_cases hjk : j = k
   ·exact .inr hjk
   ·exact .inl (hI.mem j k rj r i hjk hrj hr htj (.inl hi))
  have hguard : ∀ b, guardG (sg r.s) ro.guard = some b → Region.wanted o (yielded ops a.tmps) = b := by
   intro b hg
   refine wanted_guard hx.slots t3 ?_
   rw [← hg]
   unfold guardG
   cases hgd : ro.guard with
   | none => rfl
   | some p =>
    simp only
    rw [hslot p.1 (.inr (by simp [gslot, hgd]))]
  -- nothing of X behind k has to do with what k fills
  have hS' : stS (dstAt rops) (edAt rs) (sg (S 0)) (Vd.ins X k) rops.length = setS (stS (dstAt rops) (edAt rs) (sg (S 0)) X rops.length) ro.dst r.d := by
   rw [stS_ins hkX hkd (fun t hd j h1 h2 h3 hd' => ?_)]
   ·have e1 : dstAt rops k = ro.dst := by simp [dstAt, hro]
    have e2 : edAt rs k = r.d := by simp [edAt, hr]
    rw [e1, e2]
   ·obtain ⟨x, hx1, hx2⟩ := oj j t hd'
    have hrt : ro.dst = some t := by simpa [dstAt, hro] using hd
    rcases hI.slot j k t x ro (by omega) hx1 hro hx2 (.inr (.inr hrt)) with h4 | h4
    ·have := hI.lt j k h4; omega
    ·rw [hX k j h3 h4] at hkX; cases hkX
  have hM' : ∀ i, stM (lkAt rs) M0 (Vd.ins X k) rops.length i = if r.touch i then r.mv.get i else stM (lkAt rs) M0 X rops.length i := by
   intro i
   rw [stM_ins hkX hkd (fun i hl j h1 h2 h3 => ?_), lkAt_some hr]
   ·by_cases ht : r.touch i
    ·rw [if_pos ht, if_pos ht]
    ·rw [if_neg ht, if_neg ht]
   ·obtain ⟨rk, hrk, htk⟩ := lkAt_ne hl
    rw [hr] at hrk
    simp only [Option.some.injEq] at hrk; subst hrk
    cases hlj : lkAt rs j i with
    | none => rfl
    | some x =>
     exfalso
     obtain ⟨rj, hrj, htj⟩ := lkAt_ne (rs := rs) (k := j) (i := i) (by rw [hlj]; simp)
     rcases hI.mem j k rj r i (by omega) hrj hr htj (.inr htk) with h4 | h4
     ·have := hI.lt j k h4; omega
     ·rw [hX k j h3 h4] at hkX; cases hkX
  have hrange : nn 0 ≤ r.n0 ∧ r.n0 ≤ r.n1 ∧ r.n1 ≤ nn rops.length := by
   rw [en0, en1]
   exact ⟨mono_nn hc hch (by omega) (by omega), mono_nn hc hch (by omega) (by omega), mono_nn hc hch (by omega) (Nat.le_refl _)⟩
  -- the places that are left are fresh still
  have hfresh : ∀ g' : Gm, (∀ i, ¬ (r.n0 ≤ i ∧ i < r.n1) → g' i = g i) → (∀ i ∈ r.w, i < r.n0) → ∀ k' r', rs[k']? = some r' → Vd.ins X k k' = false → ∀ i, r'.n0 ≤ i → i < r'.n1 → stM (lkAt rs) M0 (Vd.ins X k) rops.length i = none ∧ g' i = none := by
   intro g' hout hwl k' r' hr' hX' i h1 h2
   simp only [Vd.ins, Bool.or_eq_false_iff, beq_eq_false_iff_ne] at hX'
   have hk'l : k' < rops.length := by rw [← hch.len]; exact (List.getElem?_eq_some_iff.1 hr').1
   obtain ⟨_, r2, _, hr2, _, _, f0, f1, _⟩ := chain_at hch hk'l
   rw [hr'] at hr2
   simp only [Option.some.injEq] at hr2; subst hr2
   have hnot : ¬ (r.n0 ≤ i ∧ i < r.n1) := by
    rcases Nat.lt_or_gt_of_ne hX'.2 with h | h
    ·have := mono_nn hc hch (j := k' + 1) (k := k) (by omega) (by omega); omega
    ·have := mono_nn hc hch (j := k + 1) (k := k') (by omega) (by omega); omega
   have hnt : ¬ r.touch i := by
    rintro (h | h)
    ·rcases Nat.lt_or_gt_of_ne hX'.2 with h3 | h3
     ·rcases hI.mem k k' r r' i (by omega) hr hr' (.inl h) (.inr (.inr ⟨h1, h2⟩)) with h4 | h4
      ·have := hI.lt k k' h4; omega
      ·rw [hpre k' h4] at hX'; cases hX'.1
     ·have := hwl i h
      have := mono_nn hc hch (j := k) (k := k') (by omega) (by omega)
      omega
    ·exact hnot h
   rw [hM' i, if_neg hnt, hout i hnot]
   exact hx.fresh k' r' hr' hX'.1 i h1 h2
  simp only [wpOps, ho]
  cases hon : r.on with
  | false =>
   obtain ⟨hg, ed, ew, e1, _⟩ := hf.off hon
   rw [hguard false hg]
   simp only [Bool.false_eq_true, if_false]
   have hps := put_size a o.dst undef
   have hM'' : stM (lkAt rs) M0 (Vd.ins X k) rops.length = stM (lkAt rs) M0 X rops.length := by
    funext i
    rw [hM' i, if_neg]
    simp only [Rec.touch, ew, e1]
    rintro (h | h)
    ·cases h
    ·omega
   refine sched_wp hc hops hch hI h0 hdd l (Vd.ins X k) _ w g hcl hgo' ⟨by rw [hM'']; exact hx.inv, ?_, by rw [hps.1]; exact hx.size, by rw [hps.2]; exact hx.defers, hfresh g (fun _ _ => rfl) (by rw [ew]; simp)⟩ hq
   rw [hS', t2, ed]
   exact hx.slots.put (.tup [] [] rfl (by simp)) hdst
  | true =>
   obtain ⟨hg, hst⟩ := hf.step hon
   rw [hguard true hg]
   simp only [if_true]
   left
   obtain ⟨p1, p2, p3⟩ := stepOp_facts hc hst
   have hfr := hx.fresh k r hr hkX
   -- how it goes on
   have hgoOn : ∀ v w' g' (M' : Mem), Inv P B w0 M' w' g' → Sub (stM (lkAt rs) M0 (Vd.ins X k) rops.length) M' → g.le g' → (∀ i, ¬ (r.n0 ≤ i ∧ i < r.n1) → g' i = g i) → Rep g' r.d v → wpOps P ops Q l (a.put o.dst v) w' := by
    intro v w' g' M' hi hsb hle hout hrp
    have hps := put_size a o.dst v
    refine sched_wp hc hops hch hI h0 hdd l (Vd.ins X k) _ w' g' hcl hgo' ⟨hi.less hsb, ?_, by rw [hps.1]; exact hx.size, by rw [hps.2]; exact hx.defers, hfresh g' hout p2⟩ (fun a'' w'' g'' h1 h2 h3 => hq a'' w'' g'' h1 (hle.trans h2) (fun i hi => ?_))
    ·rw [hS', t2]
     exact (hx.slots.ext hle).put hrp hdst
    ·rw [h3 i hi, hout i (by omega)]
   cases hcall : isCall ro.op with
   | true =>
    obtain ⟨hrd, hv⟩ := hf.view hon hcall
    have hst' : stepOp call (stS (dstAt rops) (edAt rs) (sg (S 0)) X rops.length) r.v r.n0 ro.op = some (r.d, r.mv, r.n1, r.w) := by
     rw [← hst]
     cases hop : ro.op <;> first | (rw [hop] at hcall; simp [isCall] at hcall; done) | skip
     rename_i f xs
     simp only [stepOp]
     rw [Arg.ev_congr (x := f) (s := sg r.s) (s' := stS (dstAt rops) (edAt rs) (sg (S 0)) X rops.length) (fun t ht => hslot t (.inl (by rw [hop]; simp [DOp.uses, ht]))),
      args_congr (xs := xs) (s := sg r.s) (s' := stS (dstAt rops) (edAt rs) (sg (S 0)) X rops.length) (fun t ht => hslot t (.inl (by rw [hop]; simp only [DOp.uses]; exact List.mem_append_right _ ht)))]
    have hsub : Sub r.v.get (stM (lkAt rs) M0 X rops.length) := by
     intro i ob hi
     rw [← hmem i (by rw [hrd]; simp [Rd.has, hi])]
     have := hv i ob hi
     rw [ec] at this
     exact below_C hch h0 k (by omega) i ob this
    refine step_wp hc t1 hst' hsub hx.inv hx.slots hfr (fun v w' M' g' hA hrp => hgoOn v w' g' M' hA.inv (fun i ob hi => ?_) hA.le hA.out hrp)
    rw [hM' i] at hi
    split at hi
    ·exact hA.sub i ob hi
    ·rename_i ht
     rw [hA.keep i (fun e => ht (.inl e)) (fun e => ht (.inr e))]
     exact hi
   | false =>
    obtain ⟨hvc, hrd⟩ := hf.prim hon hcall
    have hnc := isCall_not hcall
    obtain ⟨u, hex, hal, hmv, hw⟩ := stepOp_prim_some hnc hst
    have hex' : exec (stS (dstAt rops) (edAt rs) (sg (S 0)) X rops.length) (stM (lkAt rs) M0 X rops.length) r.n0 ro.op = some (r.d, u, r.n1) := by
     rw [← exec_slots (s := sg r.s) (fun t ht => hslot t (.inl ht))]
     refine exec_mono (fun i hi ob hob => ?_) hex
     rw [← hmem i (by rw [hrd]; simpa [Rd.has] using hi)]
     rw [hvc, ec] at hob
     exact below_C hch h0 k (by omega) i ob hob
    obtain ⟨_, _, f3⟩ := prim_facts hex hal
    refine prim_wp hnc t1 hex' hal hx.inv hx.slots hfr (fun v w' g' hA hrp => hgoOn v w' g' _ hA.inv (fun i ob hi => ?_) hA.le hA.out hrp)
    rw [hM' i] at hi
    split at hi
    ·rename_i ht
     have hiu : i ∈ u.map (·.1) := (f3 i).2 (by rw [← hw]; exact ht)
     rw [hmv, Mt.app_get] at hi
     rw [← hi]
     exact app_in u _ _ i hiu
    ·rename_i ht
     rw [app_out u _ i (fun e => ht (by rw [Rec.touch, hw]; exact (f3 i).1 e))]
     exact hi
end
end Go.Ve

namespace Go.Ve
open Go.RowKit
set_option linter.unusedSimpArgs false
set_option linter.unusedVariables false
inductive DC where
 | skip
 | stop
 | ret
 | exit (i : Nat)
 | row (ops : List ROp)
 | drawn (ops : List ROp) (hids : List (List Nat)) (ps : List (Nat × Nat))
 | seq (a b : DC)
 | cond (c : Arg) (a b : DC)
 | block (i : Nat) (c : DC)
 | loop (c : DC)
 | scope (c : DC)
structure St where
 s : Sl
 m : Mt
 n : Nat
 w : List Nat
inductive Ex where
 | normal
 | ret
 | exit (i : Nat)
def Ex.toExit : Ex → Exit
 | .normal => .normal
 | .ret => .ret
 | .exit i => .exit i
def iter (f : St → Option (Ex × St)) : Nat → St → Option (Ex × St)
 | 0, _ => none
 | k + 1, st => match f st with
  | some (.normal, st') => iter f k st'
  | r => r
def run (call : CallF) (fuel : Nat) : DC → St → Option (Ex × St)
 | .skip, st => some (.normal, st)
 | .stop, _ => none
 | .ret, st => some (.ret, st)
 | .exit i, st => some (.exit i, st)
 | .row ops, st => match rowR call ops st.s st.m st.n st.w with
  | some (s, m, n, w) => some (.normal, ⟨s, m, n, w⟩)
  | none => none
 | .drawn ops hids ps, st => match drawR call ops hids [] st.s st.m st.n with
  | some (s, m, n, rs) => bif chkAll rs ps then some (.normal, ⟨s, m, n, rs.flatMap (·.w) ++ st.w⟩) else none
  | none => none
 | .seq a b, st => match run call fuel a st with
  | some (.normal, st') => run call fuel b st'
  | r => r
 | .cond c a b, st => match c.ev (sg st.s) with
  | .bool true => run call fuel a st
  | .bool false => run call fuel b st
  | _ => none
 | .block i c, st => match run call fuel c st with
  | some (.exit j, st') => if j = i then some (.normal, st') else some (.exit j, st')
  | r => r
 | .loop c, st => iter (run call fuel c) fuel st
 | .scope c, st => run call fuel c st
def hidsOf (rops : List ROp) (befs : List (List Nat)) : List (List Nat) :=
 (List.range rops.length).map fun k => match rops[k]? with
  | some o => if isCall o.op then (List.range k).filter fun j => !befB befs j k && (match rops[j]? with | some x => x.op.mayW | none => false) else []
  | none => []
def mkDrawn (P : Program) (N : Nat) (ops : Array Oper) : Option DC :=
 match trROps P N ops.toList ops.toList with
 | some rops =>
  if Vd.befsOk (ops.toList.map Vd.preds) (Vd.befsFrom (ops.toList.map Vd.preds)) = true ∧ slotsOk rops (Vd.befsFrom (ops.toList.map Vd.preds)) = true ∧ Vd.goodOrd .any ops (Region.linearise .any ops 0) = true ∧
   Vd.goodOrd .text ops (Region.linearise .text ops 0) = true ∧ Vd.goodOrd .gc ops (Region.linearise .gc ops 0) = true
  then some (.drawn rops (hidsOf rops (Vd.befsFrom (ops.toList.map Vd.preds))) (pairsOf rops (Vd.befsFrom (ops.toList.map Vd.preds)))) else none
 | none => none
def trCode (P : Program) (N : Nat) : Code → Option DC
 | .skip => some .skip
 | .label _ => some .skip
 | .ret => some .ret
 | .exit i => some (.exit i)
 | .region _ ops false => (trROps P N ops.toList ops.toList).map .row
 | .region _ ops true => mkDrawn P N ops
 | .seq a b => match trCode P N a, trCode P N b with
  | some a, some b => some (.seq a b)
  | _, _ => none
 | .cond c a b => match trArg c, trCode P N a, trCode P N b with
  | some c, some a, some b => some (.cond c a b)
  | _, _, _ => none
 | .block i c => (trCode P N c).map (.block i)
 | .loop c => (trCode P N c).map .loop
 | .scope c => (trCode P N c).map .scope
 | .refuse _ => some .stop
 | _ => none
theorem draw_facts {P : Program} {call : CallF} (hc : CallOk P call) {l : List ROp} {rs : List Rec} {S : Nat → Sl} {C : Nat → Mt} {nn : Nat → Nat} (hch : Chain call l rs S C nn) (w : List Nat) :
  Facts (C 0) (nn 0) w (C l.length) (nn l.length) (rs.flatMap (·.w) ++ w) := by
 have hw : ∀ k r, rs[k]? = some r → k < l.length → (∀ i ∈ r.w, i < r.n0) := by
  intro k r hr hk
  obtain ⟨o, r', ho, hr', _, _, _, _, hf, _⟩ := chain_at hch hk
  rw [hr] at hr'
  simp only [Option.some.injEq] at hr'; subst hr'
  cases hon : r.on with
  | false => obtain ⟨_, _, e, _⟩ := hf.off hon; rw [e]; simp
  | true => obtain ⟨_, e⟩ := hf.step hon; exact (stepOp_facts hc e).2.1
 refine ⟨mono_nn hc hch (Nat.zero_le _) (Nat.le_refl _), fun i hi => List.mem_append_right _ hi, fun hw0 i hi => ?_, fun i hi hn => ?_⟩
 ·rcases List.mem_append.1 hi with hi | hi
  ·rw [List.mem_flatMap] at hi
   obtain ⟨r, hr, hi⟩ := hi
   obtain ⟨k, hk, rfl⟩ := List.getElem_of_mem hr
   have hkl : k < l.length := by rw [← hch.len]; exact hk
   have := hw k _ (List.getElem?_eq_getElem hk) hkl i hi
   obtain ⟨o, r', ho, hr', _, _, e0, e1, _⟩ := chain_at hch hkl
   rw [List.getElem?_eq_getElem hk] at hr'
   simp only [Option.some.injEq] at hr'
   rw [hr', e0] at this
   have := mono_nn hc hch (j := k) (k := l.length) (by omega) (Nat.le_refl _)
   omega
  ·have := hw0 i hi
   have := mono_nn hc hch (j := 0) (k := l.length) (by omega) (Nat.le_refl _)
   omega
 ·have key : ∀ k, k ≤ l.length → (C k).get i = (C 0).get i := by
   intro k hk
   induction k with
   | zero => rfl
   | succ k ih =>
    obtain ⟨o, r, ho, hr, _, _, e0, e1, _, _, e⟩ := chain_at hch (k := k) (by omega)
    rw [e i, if_neg, ih (by omega)]
    rintro (h | h)
    ·exact hi (List.mem_append_left _ (List.mem_flatMap.2 ⟨r, List.mem_of_getElem? hr, h⟩))
    ·have := mono_nn hc hch (j := 0) (k := k) (by omega) (by omega)
     have := mono_nn hc hch (j := k + 1) (k := l.length) (by omega) (Nat.le_refl _)
     omega
  exact key _ (Nat.le_refl _)
theorem iter_facts {f : St → Option (Ex × St)} (hf : ∀ st e st', f st = some (e, st') → Facts st.m st.n st.w st'.m st'.n st'.w) : ∀ (k : Nat) (st : St) (e : Ex) (st' : St), iter f k st = some (e, st') → Facts st.m st.n st.w st'.m st'.n st'.w
 | 0, st, e, st', h => by cases h
 | k + 1, st, e, st', h => by
  simp only [iter] at h
  split at h
  ·rename_i st1 e1
   exact (hf _ _ _ e1).trans (iter_facts hf k st1 e st' h)
  ·exact hf _ _ _ h
theorem run_facts {P : Program} {call : CallF} (hc : CallOk P call) (fuel : Nat) : ∀ (dc : DC) (st : St) (e : Ex) (st' : St), run call fuel dc st = some (e, st') → Facts st.m st.n st.w st'.m st'.n st'.w := by
 intro dc
 induction dc with
 | skip => intro st e st' h; simp only [run, Option.some.injEq, Prod.mk.injEq] at h; obtain ⟨_, rfl⟩ := h; exact .refl _ _ _
 | stop => intro st e st' h; simp [run] at h
 | ret => intro st e st' h; simp only [run, Option.some.injEq, Prod.mk.injEq] at h; obtain ⟨_, rfl⟩ := h; exact .refl _ _ _
 | exit i => intro st e st' h; simp only [run, Option.some.injEq, Prod.mk.injEq] at h; obtain ⟨_, rfl⟩ := h; exact .refl _ _ _
 | row ops =>
  intro st e st' h
  simp only [run] at h
  split at h
  ·rename_i s m n w he
   simp only [Option.some.injEq, Prod.mk.injEq] at h
   obtain ⟨_, rfl⟩ := h
   exact row_facts hc he
  ·cases h
 | drawn ops hids ps =>
  intro st e st' h
  simp only [run] at h
  split at h
  ·rename_i s m n rs he
   cases hk : chkAll rs ps with
   | false => rw [hk] at h; cases h
   | true =>
    rw [hk] at h
    simp only [cond_true, Option.some.injEq, Prod.mk.injEq] at h
    obtain ⟨_, rfl⟩ := h
    obtain ⟨rs2, S, C, nn, q1, hch, q3, q4, q5, q6, q7, q8⟩ := draw_chain hc _ _ _ _ _ _ _ _ _ _ he
    simp only [List.nil_append] at q1
    subst q1
    have := draw_facts hc hch st.w
    rw [q4, q5, q7, q8] at this
    exact this
  ·cases h
 | seq a b iha ihb =>
  intro st e st' h
  simp only [run] at h
  split at h
  ·rename_i st1 e1
   exact (iha _ _ _ e1).trans (ihb _ _ _ h)
  ·exact iha _ _ _ h
 | cond c a b iha ihb =>
  intro st e st' h
  simp only [run] at h
  split at h
  ·exact iha _ _ _ h
  ·exact ihb _ _ _ h
  ·cases h
 | block i c ih =>
  intro st e st' h
  simp only [run] at h
  split at h
  ·rename_i j st1 e1
   split at h
   ·simp only [Option.some.injEq, Prod.mk.injEq] at h
    obtain ⟨_, rfl⟩ := h
    exact ih _ _ _ e1
   ·simp only [Option.some.injEq, Prod.mk.injEq] at h
    obtain ⟨_, rfl⟩ := h
    exact ih _ _ _ e1
  ·exact ih _ _ _ h
 | loop c ih =>
  intro st e st' h
  simp only [run] at h
  exact iter_facts (fun st e st' h => ih st e st' h) fuel st e st' h
 | scope c ih =>
  intro st e st' h
  simp only [run] at h
  exact ih _ _ _ h
end Go.Ve

namespace Go.Ve
open Go.RowKit
set_option linter.unusedSimpArgs false
set_option linter.unusedVariables false
section
variable {P : Program} {B : Nat} {w0 : World} {N nE : Nat} {call : CallF}
theorem chunk_schedule {ops : Array Oper} {rops : List ROp} {befs : List (List Nat)} (hops : trROps P N ops.toList ops.toList = some rops) (hb : Vd.befsOk (ops.toList.map Vd.preds) befs = true)
  (hord : ∀ md, Vd.goodOrd md ops (Region.linearise md ops 0) = true) (mixed : Bool) (t : Nat) :
  ∃ dd : List Vd.DOper, dd.length = rops.length ∧ Vd.Goes dd (Vd.befOf befs) (fun _ => false) (Region.schedule mixed ops t) ∧ (Region.schedule mixed ops t).foldl Vd.ins (fun _ => false) = Vd.below rops.length := by
 obtain ⟨hl, _⟩ := trROps_some hops
 let dd : List Vd.DOper := ops.toList.map fun o => ⟨none, .stop, Vd.preds o, none⟩
 have hdl : dd.length = ops.size := by simp [dd]
 have hrl : rops.length = ops.size := by simpa using hl
 have haf : dd.map (·.after) = ops.toList.map Vd.preds := by simp [dd, List.map_map, Function.comp_def]
 have hps : ∀ (k : Nat) o, ops[k]? = some o → (dd.map (·.after)).getD k [] = Vd.preds o := by
  intro k o ho
  rw [haf]
  simp [List.getD, ho]
 have hb' : Vd.befsOk (dd.map (·.after)) befs = true := by rw [haf]; exact hb
 refine ⟨dd, by omega, ?_⟩
 rw [hrl]
 unfold Region.schedule
 split
 ·exact Vd.linearise_goes hdl hps hb' (hord .any) t
 ·split
  ·exact Vd.linearise_goes hdl hps hb' (hord .text) (t / 2)
  ·exact Vd.linearise_goes hdl hps hb' (hord .gc) (t / 2)
def Post (P : Program) (B : Nat) (w0 : World) (N nE : Nat) (st : St) (M : Mem) (g : Gm) (e : Ex) (st' : St) : Exit → Act → World → Prop :=
 fun e' a' w' => e' = e.toExit ∧ ∃ M' g', InS P B w0 N nE st'.s st'.m st'.n M' a' w' g' ∧ Went st.n st'.n st'.w M g M' g'
theorem Post.trans {st st1 st2 : St} {M M1 : Mem} {g g1 : Gm} {e : Ex} {e' : Exit} {a' : Act} {w' : World} (h : Went st.n st1.n st1.w M g M1 g1) (k : Post P B w0 N nE st1 M1 g1 e st2 e' a' w') (h1 : st.n ≤ st1.n) (h2 : Facts st1.m st1.n st1.w st2.m st2.n st2.w) :
  Post P B w0 N nE st M g e st2 e' a' w' := by
 obtain ⟨p, M', g', q, r⟩ := k
 exact ⟨p, M', g', q, h.trans r h1 h2.le h2.sub⟩
theorem run_wp (hc : CallOk P call) (fuel : Nat) : ∀ (code : Code) (dc : DC), trCode P N code = some dc → ∀ (st : St) (e : Ex) (st' : St), run call fuel dc st = some (e, st') → st'.n ≤ nE →
  ∀ (M : Mem) (a : Act) (w : World) (g : Gm), InS P B w0 N nE st.s st.m st.n M a w g → code.wp P (Post P B w0 N nE st M g e st') a w := by
 intro code
 induction code with
 | skip =>
  intro dc htr st e st' h hn M a w g hx
  simp only [trCode, Option.some.injEq] at htr; subst htr
  simp only [run, Option.some.injEq, Prod.mk.injEq] at h; obtain ⟨rfl, rfl⟩ := h
  exact wp_skip ⟨rfl, M, g, hx, Went.refl ..⟩
 | label l =>
  intro dc htr st e st' h hn M a w g hx
  simp only [trCode, Option.some.injEq] at htr; subst htr
  simp only [run, Option.some.injEq, Prod.mk.injEq] at h; obtain ⟨rfl, rfl⟩ := h
  exact wp_label ⟨rfl, M, g, hx, Went.refl ..⟩
 | ret =>
  intro dc htr st e st' h hn M a w g hx
  simp only [trCode, Option.some.injEq] at htr; subst htr
  simp only [run, Option.some.injEq, Prod.mk.injEq] at h; obtain ⟨rfl, rfl⟩ := h
  exact wp_ret ⟨rfl, M, g, hx, Went.refl ..⟩
 | exit i =>
  intro dc htr st e st' h hn M a w g hx
  simp only [trCode, Option.some.injEq] at htr; subst htr
  simp only [run, Option.some.injEq, Prod.mk.injEq] at h; obtain ⟨rfl, rfl⟩ := h
  exact wp_exit ⟨rfl, M, g, hx, Went.refl ..⟩
 | region id ops draw =>
  intro dc htr st e st' h hn M a w g hx
  cases draw with
  | false =>
   simp only [trCode, Option.map_eq_some_iff] at htr
   obtain ⟨rops, hops, rfl⟩ := htr
   simp only [run] at h
   split at h
   ·rename_i s m n w1 he
    simp only [Option.some.injEq, Prod.mk.injEq] at h
    obtain ⟨rfl, rfl⟩ := h
    have hl : rops.length = ops.size := by simpa using (trROps_some hops).1
    refine wp_region ?_
    rw [← hl, List.range_eq_range']
    exact row_wp hc hops rops 0 st.s st.m st.n st.w s m n w1 M a w g rfl he hn hx (fun a' w' M' g' h1 h2 => ⟨rfl, M', g', h1, h2⟩)
   ·cases h
  | true =>
   simp only [trCode, mkDrawn] at htr
   split at htr
   ·rename_i rops hops
    split at htr
    ·rename_i hcond
     obtain ⟨c1, c2, c3, c4, c5⟩ := hcond
     simp only [Option.some.injEq] at htr; subst htr
     simp only [run] at h
     split at h
     ·rename_i s m n rs he
      cases hk : chkAll rs (pairsOf rops (Vd.befsFrom (ops.toList.map Vd.preds))) with
      | false => rw [hk] at h; cases h
      | true =>
       rw [hk] at h
       simp only [cond_true, Option.some.injEq, Prod.mk.injEq] at h
       obtain ⟨rfl, rfl⟩ := h
       obtain ⟨rs2, S, C, nn, q1, hch, q3, q4, q5, q6, q7, q8⟩ := draw_chain hc _ _ _ _ _ _ _ _ _ _ he
       simp only [List.nil_append] at q1
       subst q1
       have hI := indep_of hc hch c1 c2 hk
       have hfacts := draw_facts hc hch st.w
       rw [q4, q5, q7, q8] at hfacts
       have hsub0 : Sub (C 0).get M := by rw [q4]; exact hx.sub
       refine wp_region_draw (fun t => ?_)
       obtain ⟨dd, d1, d2, d3⟩ := chunk_schedule hops c1 (fun md => by cases md; exact c4; exact c5; exact c3) (P.follows .mixedOrders) t
       have hM0 : stM (lkAt rs) M (fun _ => false) rops.length = M := by
        funext i
        have : ∀ n, lastM (lkAt rs) (fun _ => false) i n = none := by
         intro n
         induction n with
         | zero => rfl
         | succ n ih => simp [lastM] at ih ⊢; exact ih
        simp [stM, this]
       have hS0 : stS (dstAt rops) (edAt rs) (sg (S 0)) (fun _ => false) rops.length = sg st.s := by
        funext i
        have : ∀ n, lastS (dstAt rops) (edAt rs) (fun _ => false) i n = none := by
         intro n
         induction n with
         | zero => rfl
         | succ n ih => simp [lastS] at ih ⊢; exact ih
        simp [stS, this, q3]
       have hx' : InX P B w0 N rops rs (sg (S 0)) M (fun _ => false) a w.drew g := by
        refine ⟨by rw [hM0]; exact hx.inv.drew, by rw [hS0]; exact hx.slots, hx.size, hx.defers, fun k r hr _ i h1 h2 => ?_⟩
        rw [hM0]
        have hkl : k < rops.length := by rw [← hch.len]; exact (List.getElem?_eq_some_iff.1 hr).1
        obtain ⟨o, r', ho, hr', _, _, e0, e1, _⟩ := chain_at hch hkl
        rw [hr] at hr'
        simp only [Option.some.injEq] at hr'; subst hr'
        have m1 := mono_nn hc hch (j := 0) (k := k) (by omega) (by omega)
        have m2 := mono_nn hc hch (j := k + 1) (k := rops.length) (by omega) (Nat.le_refl _)
        exact hx.fresh i (by omega) (by simp only at hn; omega)
       refine sched_wp hc hops hch hI hsub0 d1 _ (fun _ => false) a w.drew g (fun j k h => by cases h) d2 hx' (fun a' w' g' h1 h2 h3 => ?_)
       rw [d3] at h1
       have hkeep : ∀ i, i ∉ rs.flatMap (·.w) ++ st.w → ¬ (st.n ≤ i ∧ i < n) → stM (lkAt rs) M (Vd.below rops.length) rops.length i = M i := by
        intro i hi hni
        have : ∀ k, k ≤ rops.length → lastM (lkAt rs) (Vd.below rops.length) i k = none := by
         intro k hk
         induction k with
         | zero => rfl
         | succ k ih =>
          have hl : lkAt rs k i = none := by
           cases hl : lkAt rs k i with
           | none => rfl
           | some x =>
            exfalso
            obtain ⟨r, hr, ht⟩ := lkAt_ne (rs := rs) (k := k) (i := i) (by rw [hl]; simp)
            obtain ⟨o, r', ho, hr', _, _, e0, e1, _⟩ := chain_at hch (k := k) (by omega)
            rw [hr] at hr'
            simp only [Option.some.injEq] at hr'; subst hr'
            rcases ht with ht | ht
            ·exact hi (List.mem_append_left _ (List.mem_flatMap.2 ⟨r, List.mem_of_getElem? hr, ht⟩))
            ·have m1 := mono_nn hc hch (j := 0) (k := k) (by omega) (by omega)
             have m2 := mono_nn hc hch (j := k + 1) (k := rops.length) (by omega) (Nat.le_refl _)
             omega
          simp only [lastM, hl, ih (by omega), ite_self]
        simp [stM, this _ (Nat.le_refl _)]
       refine ⟨rfl, _, g', ⟨h1.inv, ?_, ?_, h1.size, h1.defers, fun i h4 h5 => ?_⟩, ⟨h2, ?_, hkeep⟩⟩
       ·have := below_C hch hsub0 rops.length (Nat.le_refl _)
        rw [q7] at this
        exact this
       ·have := below_S hch rops.length (Nat.le_refl _)
        rw [q6] at this
        simp only
        rw [this]
        exact h1.slots
       ·simp only at h4 ⊢
        have hle : st.n ≤ n := hfacts.le
        have hf := hx.fresh i (by omega) h5
        refine ⟨?_, ?_⟩
        ·have : ∀ k, k ≤ rops.length → lastM (lkAt rs) (Vd.below rops.length) i k = none := by
          intro k hk
          induction k with
          | zero => rfl
          | succ k ih =>
           have hl : lkAt rs k i = none := by
            cases hl : lkAt rs k i with
            | none => rfl
            | some x =>
             exfalso
             obtain ⟨r, hr, ht⟩ := lkAt_ne (rs := rs) (k := k) (i := i) (by rw [hl]; simp)
             obtain ⟨o, r', ho, hr', _, _, e0, e1, hf', _⟩ := chain_at hch (k := k) (by omega)
             rw [hr] at hr'
             simp only [Option.some.injEq] at hr'; subst hr'
             have m1 := mono_nn hc hch (j := 0) (k := k) (by omega) (by omega)
             have m2 := mono_nn hc hch (j := k + 1) (k := rops.length) (by omega) (Nat.le_refl _)
             have m3 := mono_nn hc hch (j := k) (k := k + 1) (by omega) (by omega)
             rcases ht with ht | ht
             ·have hon : r.on = true := (touch_kind hc hf' (.inl ht)).1
              have := (stepOp_facts hc (hf'.step hon).2).2.1 i ht
              omega
             ·omega
           simp only [lastM, hl, ih (by omega), ite_self]
         simp only [stM, this _ (Nat.le_refl _)]
         exact hf.1
        ·rw [h3 i (by omega)]; exact hf.2
       ·intro i hi
        exact h3 i (by simp only at hi; omega)
     ·cases h
    ·cases htr
   ·cases htr
 | seq x y ihx ihy =>
  intro dc htr st e st' h hn M a w g hx
  simp only [trCode] at htr
  split at htr
  ·rename_i dx dy h1 h2
   simp only [Option.some.injEq] at htr; subst htr
   simp only [run] at h
   split at h
   ·rename_i st1 e1
    have f1 := run_facts hc fuel dx st _ st1 e1
    have f2 := run_facts hc fuel dy st1 _ st' h
    have hwp := ihx dx h1 st _ st1 e1 (Nat.le_trans f2.le hn) M a w g hx
    refine wp_seq (wp_mono hwp ?_)
    rintro e' a' w' ⟨rfl, M', g', hh, hw⟩
    exact wp_mono (ihy dy h2 st1 e st' h hn M' a' w' g' hh) (fun e'' a'' w'' h => Post.trans hw h f1.le f2)
   ·rename_i hne
    have hwp := ihx dx h1 st e st' h hn M a w g hx
    refine wp_seq (wp_mono hwp ?_)
    rintro e' a' w' ⟨rfl, M', g', hh, hw⟩
    cases e with
    | normal => exact absurd h (fun h => hne _ h)
    | ret => exact ⟨rfl, M', g', hh, hw⟩
    | exit i => exact ⟨rfl, M', g', hh, hw⟩
  ·cases htr
 | cond c x y ihx ihy =>
  intro dc htr st e st' h hn M a w g hx
  simp only [trCode] at htr
  split at htr
  ·rename_i dcc dx dy h0 h1 h2
   simp only [Option.some.injEq] at htr; subst htr
   have hcv := hx.slots.arg h0
   simp only [run] at h
   split at h
   ·rename_i ht
    rw [ht] at hcv
    exact wp_cond_true hcv.bool_inv (ihx dx h1 st e st' h hn M a w g hx)
   ·rename_i ht
    rw [ht] at hcv
    exact wp_cond_false hcv.bool_inv (ihy dy h2 st e st' h hn M a w g hx)
   ·cases h
  ·cases htr
 | block i c ih =>
  intro dc htr st e st' h hn M a w g hx
  simp only [trCode, Option.map_eq_some_iff] at htr
  obtain ⟨dcc, h1, rfl⟩ := htr
  simp only [run] at h
  split at h
  ·rename_i j st1 e1
   split at h
   ·rename_i hji
    subst hji
    simp only [Option.some.injEq, Prod.mk.injEq] at h
    obtain ⟨rfl, rfl⟩ := h
    refine wp_block (wp_mono (ih dcc h1 st _ st1 e1 hn M a w g hx) ?_)
    rintro e' a' w' ⟨rfl, M', g', hh, hw⟩
    simp only [Ex.toExit, Exit.inBlock, if_true]
    exact ⟨rfl, M', g', hh, hw⟩
   ·rename_i hji
    simp only [Option.some.injEq, Prod.mk.injEq] at h
    obtain ⟨rfl, rfl⟩ := h
    refine wp_block (wp_mono (ih dcc h1 st _ st1 e1 hn M a w g hx) ?_)
    rintro e' a' w' ⟨rfl, M', g', hh, hw⟩
    simp only [Ex.toExit, Exit.inBlock]
    rw [if_neg hji]
    exact ⟨rfl, M', g', hh, hw⟩
  ·rename_i hne
   refine wp_block (wp_mono (ih dcc h1 st e st' h hn M a w g hx) ?_)
   rintro e' a' w' ⟨rfl, M', g', hh, hw⟩
   cases e with
   | normal => exact ⟨rfl, M', g', hh, hw⟩
   | ret => exact ⟨rfl, M', g', hh, hw⟩
   | exit j => exact absurd h (fun h => hne _ _ h)
 | loop c ih =>
  intro dc htr st e st' h hn M a w g hx
  simp only [trCode, Option.map_eq_some_iff] at htr
  obtain ⟨dcc, h1, rfl⟩ := htr
  simp only [run] at h
  have hrf := fun st e st' h => run_facts hc fuel dcc st e st' h
  refine Vd.wp_loop_n (fun k a' w' => ∃ st1 M1 g1, InS P B w0 N nE st1.s st1.m st1.n M1 a' w' g1 ∧ Went st.n st1.n st1.w M g M1 g1 ∧ st.n ≤ st1.n ∧ iter (run call fuel dcc) k st1 = some (e, st')) ?_ (n := fuel) ⟨st, M, g, hx, Went.refl .., Nat.le_refl _, h⟩
  rintro k a1 w1 ⟨st1, M1, g1, hh, hw, hle, hit⟩
  cases k with
  | zero => cases hit
  | succ k =>
   simp only [iter] at hit
   split at hit
   ·rename_i st2 e2
    have f1 := hrf _ _ _ e2
    have f2 := iter_facts hrf k st2 e st' hit
    refine wp_mono (ih dcc h1 st1 _ st2 e2 (Nat.le_trans f2.le hn) M1 a1 w1 g1 hh) ?_
    rintro e' a' w' ⟨rfl, M2, g2, hh2, hw2⟩
    exact ⟨k, Nat.lt_succ_self _, st2, M2, g2, hh2, hw.trans hw2 hle f1.le f1.sub, Nat.le_trans hle f1.le, hit⟩
   ·rename_i hne
    have f1 := hrf _ _ _ hit
    refine wp_mono (ih dcc h1 st1 e st' hit hn M1 a1 w1 g1 hh) ?_
    rintro e' a' w' hp
    have hp' := Post.trans hw hp hle f1
    obtain ⟨rfl, _⟩ := hp
    cases e with
    | normal => exact absurd hit (fun h => hne _ h)
    | ret => exact hp'
    | exit i => exact hp'
 | scope c ih =>
  intro dc htr st e st' h hn M a w g hx
  simp only [trCode, Option.map_eq_some_iff] at htr
  obtain ⟨dcc, h1, rfl⟩ := htr
  simp only [run] at h
  refine wp_scope_straight (wp_mono (ih dcc h1 st e st' h hn M a w g hx) ?_)
  rintro e' a' w' ⟨rfl, M', g', hh, hw⟩
  cases e with
  | normal => exact ⟨rfl, M', g', hh, hw⟩
  | ret => exact ⟨rfl, M', g', hh, hw⟩
  | exit j => exact ⟨rfl, M', g', hh, hw⟩
 | refuse why =>
  intro dc htr st e st' h
  simp only [trCode, Option.some.injEq] at htr; subst htr
  simp [run] at h
 | _ =>
  intro dc htr
  simp [trCode] at htr
end
end Go.Ve

namespace Go.Ve
open Go.RowKit
set_option linter.unusedSimpArgs false
set_option linter.unusedVariables false
inductive RV where
 | t (n : Nat)
 | cell (k : Option Nat) (n : Nat)
def ldD (m : Mem) (k : Option Nat) : D → Option D
 | .ptr i o => match m i with
  | some (.cells cs _) => match k with
   | none => cs[o]?
   | some k => if o + k ≤ cs.length then some (.agg ((cs.drop o).take k)) else none
  | _ => none
 | _ => none
def RV.of (s : Nat → D) (m : Mem) : RV → Option D
 | .t n => some (s n)
 | .cell k n => ldD m k (s n)
def rvAll (s : Nat → D) (m : Mem) : List RV → Option (List D)
 | [] => some []
 | r :: l => match r.of s m, rvAll s m l with
  | some d, some ds => some (d :: ds)
  | _, _ => none
def resOf (rs : List RV) (s : Nat → D) (m : Mem) : Option D :=
 match rvAll s m rs with
 | some [d] => some d
 | some ds => some (.tup ds)
 | none => none
def trRes (P : Program) : List ResultVar → Option (List RV)
 | [] => some []
 | .tmp t :: r => (trRes P r).map (.t t :: ·)
 | .cell a t :: r => match Vd.kOf P t, trRes P r with
  | some k, some l => some (.cell k a :: l)
  | _, _ => none
structure FnR where
 dc : DC
 N : Nat
 rs : List RV
structure FnOk (P : Program) (f : FuncId) (fr : FnR) : Prop where
 is : ∃ fn code, P.funcs[f]? = some fn ∧ fn.body = some code ∧ (fn.name == "runtime.NumGoroutine") = false ∧ fn.ntmps = fr.N ∧ trCode P fr.N code = some fr.dc ∧ trRes P fn.results.toList = some fr.rs
def slotsOf : List D → Nat → Sl → Sl
 | [], _, s => s
 | d :: l, k, s => slotsOf l (k + 1) (s.put k (some d))
def nub : List Nat → List Nat
 | [] => []
 | x :: l => bif (nub l).contains x then nub l else x :: nub l
def runFn (call : CallF) (fuel : Nat) (fr : FnR) (ds : List D) (m : Mt) (n : Nat) : Option (D × Mt × Nat × List Nat) :=
 bif Nat.ble ds.length fr.N then
  match run call fuel fr.dc ⟨slotsOf ds 0 .nil, m, n, []⟩ with
  | some (.exit _, _) => none
  | some (_, st) => match resOf fr.rs (sg st.s) st.m.get with
   | some d => some (d, st.m, st.n, nub (st.w.filter fun i => Nat.blt i n))
   | none => none
  | none => none
 else none
def callF (tab : FuncId → Option FnR) (spec : FuncId → Option (List D → Mt → Nat → Option (D × Mt × Nat × List Nat))) : Nat → CallF
 | 0 => fun _ _ _ _ => none
 | k + 1 => fun f ds m n => match spec f with
  | some q => q ds m n
  | none => match tab f with
   | some fr => runFn (callF tab spec k) (k + 1) fr ds m n
   | none => none
theorem mem_nub : ∀ (l : List Nat) (i : Nat), i ∈ nub l ↔ i ∈ l
 | [], i => by simp [nub]
 | x :: l, i => by
  simp only [nub]
  have ih := mem_nub l
  cases hc : (nub l).contains x with
  | true =>
   rw [List.contains_iff_mem] at hc
   simp only [cond_true, ih, List.mem_cons]
   constructor
   ·exact .inr
   ·rintro (rfl | h)
    ·exact (ih _).1 hc
    ·exact h
  | false => simp [ih]
theorem slotsOf_get : ∀ (ds : List D) (k : Nat) (s : Sl) (t : Nat), sg (slotsOf ds k s) t = if k ≤ t ∧ t < k + ds.length then ds.getD (t - k) .junk else sg s t
 | [], k, s, t => by
  simp only [slotsOf]
  rw [if_neg (by simp)]
 | d :: l, k, s, t => by
  simp only [slotsOf]
  rw [slotsOf_get l (k + 1)]
  by_cases h1 : k + 1 ≤ t ∧ t < k + 1 + l.length
  ·rw [if_pos h1, if_pos (by simp; omega)]
   rw [show t - k = (t - (k + 1)) + 1 by omega, List.getD_cons_succ]
  ·rw [if_neg h1]
   simp only [sg, Tr.get_put]
   by_cases ht : t = k
   ·subst ht
    rw [if_pos rfl, if_pos (by simp)]
    simp
   ·rw [if_neg ht, if_neg (by simp; omega)]
section
variable {P : Program} {B : Nat} {w0 w : World} {M : Mem} {g : Gm} {s : Nat → D} {a : Act}
def rvRun (tmps : Array Value) : ResultVar → Sem Value
 | .tmp t => pure (tmps.getD t undef)
 | .cell a t => do loadVar t (← asAddr (tmps.getD a undef))
theorem rvAll_sound {m : Mem} (hi : Inv P B w0 M w g) (hsub : Sub m M) (hs : Slots g s a) : ∀ {rvs : List ResultVar} {rs : List RV} {ds : List D}, trRes P rvs = some rs → rvAll s m rs = some ds →
  ∃ vs : List Value, (rvs.mapM (m := Sem) (rvRun a.tmps)).run P w = .ok vs w ∧ vs.length = ds.length ∧ ∀ (j : Nat) d v, ds[j]? = some d → vs[j]? = some v → Rep g d v
 | [], rs, ds, h1, h2 => by
  simp only [trRes, Option.some.injEq] at h1; subst h1
  simp only [rvAll, Option.some.injEq] at h2; subst h2
  exact ⟨[], by simp, rfl, by simp⟩
 | x :: r, rs, ds, h1, h2 => by
  have key : ∃ rv rs', rs = rv :: rs' ∧ trRes P r = some rs' ∧ ∀ d, rv.of s m = some d → ∃ v, (rvRun a.tmps x).run P w = .ok v w ∧ Rep g d v := by
   cases x with
   | tmp t =>
    simp only [trRes, Option.map_eq_some_iff] at h1
    obtain ⟨l, hl, rfl⟩ := h1
    refine ⟨.t t, l, rfl, hl, fun d hd => ?_⟩
    simp only [RV.of, Option.some.injEq] at hd; subst hd
    exact ⟨_, rfl, hs t⟩
   | cell y t =>
    simp only [trRes] at h1
    split at h1
    ·rename_i k l hk hl
     simp only [Option.some.injEq] at h1; subst h1
     refine ⟨.cell k y, l, rfl, hl, fun d hd => ?_⟩
     simp only [RV.of] at hd
     unfold ldD at hd
     split at hd
     ·rename_i i o e
      have hr := hs y
      rw [e] at hr
      obtain ⟨b, C, e1, hb⟩ := hr.ptr_inv
      split at hd
      ·rename_i cs ee hm
       obtain ⟨_, vs, T, fz, hh, hsf, hl, hrp, _⟩ := hi.cells (hsub _ _ hm) hb
       split at hd
       ·obtain ⟨v, q1, q2, q3⟩ := rep_at (b := b) hl hrp hd
        exact ⟨v, by simp [rvRun, e1, asAddr, Vd.run_loadVar_leaf hk (show w.cell? ⟨b, o, none⟩ = some v by rw [cell_row hh]; exact q1)], q3⟩
       ·split at hd
        ·rename_i k hkl
         simp only [Option.some.injEq] at hd; subst hd
         obtain ⟨r1, r2, r3⟩ := cells_at hh hl hrp hkl
         have := Vd.run_loadVar_agg (P := P) (w := w) hk (ad := ⟨b, o, none⟩) r2 (fun j v hv => by rw [Vd.mk_add]; exact r3 j v hv)
         exact ⟨_, by simp [rvRun, e1, asAddr, this], Rep.aggOf r1⟩
        ·cases hd
      ·cases hd
     ·cases hd
    ·cases h1
  obtain ⟨rv, rs', rfl, hl, hx⟩ := key
  unfold rvAll at h2
  split at h2
  ·rename_i d ds' e1 e2
   simp only [Option.some.injEq] at h2; subst h2
   obtain ⟨v, q1, q2⟩ := hx d e1
   obtain ⟨vs, p1, p2, p3⟩ := rvAll_sound hi hsub hs hl e2
   refine ⟨v :: vs, ?_, by simp [p2], fun j d v hd hv => ?_⟩
   ·rw [List.mapM_cons]
    simp only [Sem.run_bind, q1, Result.andThen_ok, p1, Sem.run_pure]
   ·cases j with
    | zero => simp only [List.getElem?_cons_zero, Option.some.injEq] at hd hv; subst hd hv; exact q2
    | succ j => simp only [List.getElem?_cons_succ] at hd hv; exact p3 j d v hd hv
  ·cases h2
theorem resOf_sound {fn : Func} {m : Mem} {rs : List RV} {d : D} (hi : Inv P B w0 M w g) (hsub : Sub m M) (hs : Slots g s a) (hr : trRes P fn.results.toList = some rs) (hd : resOf rs s m = some d) :
  ∃ v, (results fn a.tmps).run P w = .ok v w ∧ Rep g d v := by
 unfold resOf at hd
 have run : ∀ ds, rvAll s m rs = some ds → ∃ vs : List Value, (results fn a.tmps).run P w = .ok (if h : vs.toArray.size = 1 then vs.toArray[0] else .tuple vs.toArray) w ∧ vs.length = ds.length ∧ ∀ (j : Nat) d v, ds[j]? = some d → vs[j]? = some v → Rep g d v := by
  intro ds hds
  obtain ⟨vs, p1, p2, p3⟩ := rvAll_sound hi hsub hs hr hds
  refine ⟨vs, ?_, p2, p3⟩
  have hres : results fn a.tmps = (do
   let vs ← fn.results.mapM (rvRun a.tmps)
   pure (if h : vs.size = 1 then vs[0] else .tuple vs)) := by
   unfold results
   congr 1
  rw [hres]
  simp only [Sem.run_bind]
  rw [Array.mapM_eq_mapM_toList, Sem.run_map, p1]
  rfl
 split at hd
 ·rename_i d' e
  simp only [Option.some.injEq] at hd; subst hd
  obtain ⟨vs, p1, p2, p3⟩ := run _ e
  match vs, p2 with
  | [v], _ => exact ⟨v, p1, p3 0 _ v rfl rfl⟩
 ·rename_i ds hne e
  simp only [Option.some.injEq] at hd; subst hd
  obtain ⟨vs, p1, p2, p3⟩ := run _ e
  refine ⟨.tuple vs.toArray, ?_, .tup ds vs p2 p3⟩
  rw [p1, dif_neg]
  intro h1
  match ds, hne, p2 with
  | [], _, p2 => simp at p2; subst p2; simp at h1
  | [x], hne, _ => exact hne x rfl
  | x :: y :: r, _, p2 => simp at p2 h1; omega
 ·cases hd
end
theorem runFn_ok {P : Program} {call : CallF} (hc : CallOk P call) {f : FuncId} {fr : FnR} (hf : FnOk P f fr) {fuel : Nat} {ds : List D} {m : Mt} {n : Nat} {d : D} {m' : Mt} {n' : Nat} {W : List Nat} (h : runFn call fuel fr ds m n = some (d, m', n', W)) :
  n ≤ n' ∧ (∀ i ∈ W, i < n) ∧ (∀ i, i ∉ W → ¬ (n ≤ i ∧ i < n') → m'.get i = m.get i) ∧
  ∀ (B : Nat) (w0 w : World) (M : Mem) (g : Gm) (vs : List Value), Sub m.get M → Inv P B w0 M w g → (∀ i, n ≤ i → i < n' → M i = none ∧ g i = none) →
   vs.length = ds.length → (∀ (j : Nat) d v, ds[j]? = some d → vs[j]? = some v → Rep g d v) →
   Runs P f vs w fun v w' => ∃ M' g', After P B w0 M g n m'.get n' W M' w' g' ∧ Rep g' d v := by
 unfold runFn at h
 cases hlen : Nat.ble ds.length fr.N with
 | false => rw [hlen] at h; cases h
 | true =>
  rw [hlen] at h
  simp only [cond_true] at h
  have hN : ds.length ≤ fr.N := Nat.le_of_ble_eq_true hlen
  have key : ∀ (e : Ex) (st : St), run call fuel fr.dc ⟨slotsOf ds 0 .nil, m, n, []⟩ = some (e, st) → (e = .normal ∨ e = .ret) → resOf fr.rs (sg st.s) st.m.get = some d → m' = st.m → n' = st.n → W = nub (st.w.filter fun i => Nat.blt i n) →
    n ≤ n' ∧ (∀ i ∈ W, i < n) ∧ (∀ i, i ∉ W → ¬ (n ≤ i ∧ i < n') → m'.get i = m.get i) ∧
    ∀ (B : Nat) (w0 w : World) (M : Mem) (g : Gm) (vs : List Value), Sub m.get M → Inv P B w0 M w g → (∀ i, n ≤ i → i < n' → M i = none ∧ g i = none) →
     vs.length = ds.length → (∀ (j : Nat) d v, ds[j]? = some d → vs[j]? = some v → Rep g d v) →
     Runs P f vs w fun v w' => ∃ M' g', After P B w0 M g n m'.get n' W M' w' g' ∧ Rep g' d v := by
   rintro e st he hend hres rfl rfl rfl
   have hfa := run_facts hc fuel fr.dc _ _ _ he
   have hwlt := hfa.lt (by simp)
   have hmem : ∀ i, i ∈ nub (st.w.filter fun i => Nat.blt i n) ↔ (i ∈ st.w ∧ i < n) := by
    intro i
    rw [mem_nub, List.mem_filter]
    exact ⟨fun h => ⟨h.1, Nat.le_of_ble_eq_true h.2⟩, fun h => ⟨h.1, Nat.ble_eq_true_of_le h.2⟩⟩
   have hnot : ∀ i, i ∉ nub (st.w.filter fun i => Nat.blt i n) → ¬ (n ≤ i ∧ i < st.n) → i ∉ st.w := by
    intro i h1 h2 h3
    have := hwlt i h3
    exact h1 ((hmem i).2 ⟨h3, by omega⟩)
   refine ⟨hfa.le, fun i hi => ((hmem i).1 hi).2, fun i h1 h2 => hfa.same i (hnot i h1 h2) h2, ?_⟩
   intro B w0 w M g vs hsub hi hfresh hl hrep
   obtain ⟨fn, code, h1, h2, h3, h4, h5, h6⟩ := hf.is
   refine .inl ⟨⟨fn, h1, by rw [h2]; rfl, h3⟩, ?_⟩
   refine calls_of_wp h1 h2 ?_
   rw [h4]
   have hst : InS P B w0 fr.N st.n (slotsOf ds 0 .nil) m n M { tmps := vs.toArray ++ Array.replicate (fr.N - vs.toArray.size) undef, defers := [] } w g := by
    refine ⟨hi, hsub, fun t => ?_, by simp; omega, rfl, hfresh⟩
    rw [slotsOf_get]
    by_cases ht : t < ds.length
    ·rw [if_pos (by omega), Nat.sub_zero]
     have e1 : ds.getD t .junk = ds[t] := by simp [List.getD, ht]
     have e2 : (vs.toArray ++ Array.replicate (fr.N - vs.toArray.size) undef).getD t undef = vs[t]'(by omega) := by
      rw [Array.getD_eq_getD_getElem?, Array.getElem?_append_left (by simp; omega)]
      simp [hl, ht]
     rw [e1, e2]
     exact hrep t _ _ (List.getElem?_eq_getElem ht) (List.getElem?_eq_getElem _)
    ·rw [if_neg (by omega)]
     simp only [sg, Tr.get_nil]
     exact .junk _
   refine wp_mono (run_wp hc fuel code fr.dc h5 _ e st he (Nat.le_refl _) M _ w g hst) ?_
   rintro e' a' w' ⟨rfl, M', g', hh, hw⟩
   obtain ⟨v, hv1, hv2⟩ := resOf_sound hh.inv hh.sub hh.slots h6 hres
   have hb : a'.defers = [] ∧ ∃ v, (results fn a'.tmps).run P w' = .ok v w' ∧ ∃ v', Ending.returned v = .returned v' ∧ ∃ M' g', After P B w0 M g n st.m.get st.n (nub (st.w.filter fun i => Nat.blt i n)) M' w' g' ∧ Rep g' d v' :=
    ⟨hh.defers, v, hv1, v, rfl, M', g', ⟨hh.inv, hh.sub, hw.le, hw.out, fun i h1 h2 => hw.keep i (hnot i h1 h2) h2⟩, hv2⟩
   rcases hend with rfl | rfl
   ·exact hb
   ·exact hb
  split at h
  ·cases h
  ·rename_i e st hne he
   split at h
   ·rename_i d' hres
    simp only [Option.some.injEq, Prod.mk.injEq] at h
    obtain ⟨rfl, rfl, rfl, rfl⟩ := h
    refine key e st he ?_ hres rfl rfl rfl
    cases e with
    | normal => exact .inl rfl
    | ret => exact .inr rfl
    | exit i => exact absurd rfl (hne i)
   ·cases h
  ·cases h
def SpecOk (P : Program) (spec : FuncId → Option (List D → Mt → Nat → Option (D × Mt × Nat × List Nat))) : Prop :=
 ∀ f q, spec f = some q → ∀ ds m n d m' n' W, q ds m n = some (d, m', n', W) →
  n ≤ n' ∧ (∀ i ∈ W, i < n) ∧ (∀ i, i ∉ W → ¬ (n ≤ i ∧ i < n') → m'.get i = m.get i) ∧
  ∀ (B : Nat) (w0 w : World) (M : Mem) (g : Gm) (vs : List Value), Sub m.get M → Inv P B w0 M w g → (∀ i, n ≤ i → i < n' → M i = none ∧ g i = none) →
   vs.length = ds.length → (∀ (j : Nat) d v, ds[j]? = some d → vs[j]? = some v → Rep g d v) →
   Runs P f vs w fun v w' => ∃ M' g', After P B w0 M g n m'.get n' W M' w' g' ∧ Rep g' d v
theorem callF_ok {P : Program} {tab : FuncId → Option FnR} {spec : FuncId → Option (List D → Mt → Nat → Option (D × Mt × Nat × List Nat))} (ht : ∀ f fr, tab f = some fr → FnOk P f fr) (hs : SpecOk P spec) : ∀ k, CallOk P (callF tab spec k)
 | 0 => by intro f ds m n d m' n' W h; cases h
 | k + 1 => by
  intro f ds m n d m' n' W h
  simp only [callF] at h
  split at h
  ·rename_i q hq
   exact hs f q hq ds m n d m' n' W h
  ·split at h
   ·rename_i fr hfr
    exact runFn_ok (callF_ok ht hs k) (ht f fr hfr) h
   ·cases h
def isBool (b : Bool) : Option (D × Mt × Nat × List Nat) → Bool
 | some (.bool b', _) => b' == b
 | _ => false
theorem calls_bool {P : Program} {call : CallF} (hc : CallOk P call) {f : FuncId} {ds : List D} {b : Bool} (h : isBool b (call f ds .nil 0) = true)
  (hent : ∃ fn, P.funcs[f]? = some fn ∧ fn.body.isSome = true) {vs : List Value} (hl : vs.length = ds.length) (hrep : ∀ (j : Nat) d v, ds[j]? = some d → vs[j]? = some v → Rep (fun _ => none) d v) (w : World) :
  Calls P f vs.toArray w fun e w' => e = .returned (.bool b) ∧ Below w.heap.size w w' := by
 unfold isBool at h
 split at h
 ·rename_i b' x e
  obtain ⟨m', n', W⟩ := x
  have hb : b' = b := by simpa using h
  subst hb
  obtain ⟨_, _, _, hrun⟩ := hc _ _ _ _ _ _ _ _ e
  have hi : Inv P w.heap.size w (fun _ => none) w (fun _ => none) := ⟨Below.refl _ _, Nat.le_refl _, fun i ob h => by simp at h, fun i i' b C C' h => by simp at h⟩
  rcases hrun w.heap.size w w (fun _ => none) (fun _ => none) vs (fun i ob h => by rw [Tr.get_nil] at h; cases h) hi (fun _ _ _ => ⟨rfl, rfl⟩) hl hrep with ⟨_, hcalls⟩ | ⟨v, w', hr, hp⟩
  ·refine hcalls.mono ?_
   rintro e w' ⟨v, rfl, M', g', hA, hr⟩
   rw [hr.bool_inv]
   exact ⟨rfl, hA.inv.below⟩
  ·exfalso
   obtain ⟨fn, h1, h2⟩ := hent
   have hbn : fn.body.isNone = false := by cases hb : fn.body <;> simp_all
   simp only [callFunc, Sem.run_bind, run_program, Result.andThen_ok, h1, hbn, Bool.false_eq_true, if_false] at hr
   split at hr <;> simp at hr
 ·cases h
end Go.Ve

namespace Go.Ve
open Go.Proofs
set_option maxRecDepth 100000
def dc9 : DC := (.seq (.row [⟨some 0, .mv (.c (.bool false)), none⟩]) (.seq (.row [⟨some 16, .build [.nilsl, .int .i64 0, .int .i64 0, .bool false, .nilsl] [], none⟩, ⟨some 17, .call (.c (.fn 10 [])) [(.t 16)], none⟩, ⟨some 15, .mv (.t 17), none⟩, ⟨some 18, .ext 0 (.t 15), none⟩, ⟨some 19, .ext 1 (.t 15), none⟩, ⟨some 1, .mv (.t 18), none⟩, ⟨some 2, .mv (.t 19), none⟩]) (.seq (.row [⟨some 21, .bslice 9 1 [(.c (.str [116, 111, 108, 100, 32, 51, 32, 49, 32, 49])), (.c (.str [115, 97, 105, 100, 32, 54, 49, 54, 50]))], none⟩, ⟨some 22, .call (.c (.fn 13 [])) [(.t 21)], none⟩, ⟨some 20, .mv (.t 22), none⟩, ⟨some 23, .ext 0 (.t 20), none⟩, ⟨some 24, .ext 1 (.t 20), none⟩, ⟨some 3, .alloc 34 [.nilsl, .int .i64 0, .int .i64 0, .bool false, .nilsl], none⟩, ⟨none, .store 5 (.t 3) (.t 23), none⟩, ⟨some 4, .mv (.t 24), none⟩]) (.seq (.row [⟨some 26, .load (some 5) (.t 3), none⟩, ⟨some 27, .call (.c (.fn 21 [])) [(.t 26)], none⟩, ⟨some 25, .mv (.t 27), none⟩, ⟨some 28, .ext 0 (.t 25), none⟩, ⟨some 29, .ext 1 (.t 25), none⟩, ⟨some 5, .mv (.t 28), none⟩, ⟨some 6, .mv (.t 29), none⟩]) (.seq (.row [⟨some 31, .mv (.t 5), none⟩, ⟨some 32, .call (.c (.fn 23 [])) [(.t 31)], none⟩, ⟨some 30, .mv (.t 32), none⟩, ⟨some 33, .ext 0 (.t 30), none⟩, ⟨some 34, .ext 1 (.t 30), none⟩, ⟨some 7, .alloc 34 [.nilsl, .int .i64 0, .int .i64 0, .bool false, .nilsl], none⟩, ⟨none, .store 5 (.t 7) (.t 33), none⟩, ⟨some 8, .mv (.t 34), none⟩]) (.seq (.row [⟨some 36, .bslice 9 1 [(.c (.str [116, 111, 108, 100, 32, 51, 32, 49, 32, 50]))], none⟩, ⟨some 37, .call (.c (.fn 13 [])) [(.t 36)], none⟩, ⟨some 35, .mv (.t 37), none⟩, ⟨some 38, .ext 0 (.t 35), none⟩, ⟨some 39, .ext 1 (.t 35), none⟩, ⟨some 9, .alloc 34 [.nilsl, .int .i64 0, .int .i64 0, .bool false, .nilsl], none⟩, ⟨none, .store 5 (.t 9) (.t 38), none⟩, ⟨some 10, .mv (.t 39), none⟩]) (.seq (.row [⟨some 41, .call (.c (.fn 23 [])) [(.c (.str [120]))], none⟩, ⟨some 40, .mv (.t 41), none⟩, ⟨some 42, .ext 0 (.t 40), none⟩, ⟨some 43, .ext 1 (.t 40), none⟩, ⟨some 11, .alloc 34 [.nilsl, .int .i64 0, .int .i64 0, .bool false, .nilsl], none⟩, ⟨none, .store 5 (.t 11) (.t 42), none⟩, ⟨some 12, .mv (.t 43), none⟩]) (.seq (.row [⟨some 45, .call (.c (.fn 25 [])) [(.c (.str [45, 49, 50]))], none⟩, ⟨some 44, .mv (.t 45), none⟩, ⟨some 46, .ext 0 (.t 44), none⟩, ⟨some 47, .ext 1 (.t 44), none⟩, ⟨some 13, .mv (.t 46), none⟩, ⟨some 14, .mv (.t 47), none⟩]) (.seq (.row [⟨some 48, .mv (.t 2), none⟩, ⟨some 49, .bin .eql (.t 48) (.c (.int .i64 0)), none⟩, ⟨some 50, .mv (.t 49), none⟩, ⟨some 51, .mv (.t 1), some (50, true)⟩, ⟨some 52, .len false (.t 51), some (50, true)⟩, ⟨some 53, .bin .eql (.t 52) (.c (.int .i64 1)), some (50, true)⟩, ⟨some 54, .pick (.t 50) (.t 53) (.c (.bool false)), none⟩, ⟨some 55, .mv (.t 54), none⟩, ⟨some 56, .mv (.t 1), some (55, true)⟩, ⟨some 57, .iaddr 1 (.t 56) (.c (.int .i64 0)), some (55, true)⟩, ⟨some 58, .load none (.t 57), some (55, true)⟩, ⟨some 59, .bin .eql (.t 58) (.c (.str [116, 111, 108, 100, 32, 48, 32, 48, 32, 48])), some (55, true)⟩, ⟨some 60, .pick (.t 55) (.t 59) (.c (.bool false)), none⟩, ⟨some 61, .mv (.t 60), none⟩, ⟨some 62, .mv (.t 4), some (61, true)⟩, ⟨some 63, .bin .eql (.t 62) (.c (.int .i64 0)), some (61, true)⟩, ⟨some 64, .pick (.t 61) (.t 63) (.c (.bool false)), none⟩, ⟨some 65, .mv (.t 64), none⟩, ⟨some 66, .faddr 1 (.t 3), some (65, true)⟩, ⟨some 67, .load none (.t 66), some (65, true)⟩, ⟨some 68, .bin .eql (.t 67) (.c (.int .i64 3)), some (65, true)⟩, ⟨some 69, .pick (.t 65) (.t 68) (.c (.bool false)), none⟩, ⟨some 70, .mv (.t 69), none⟩, ⟨some 71, .faddr 3 (.t 3), some (70, true)⟩, ⟨some 72, .load none (.t 71), some (70, true)⟩, ⟨some 73, .pick (.t 70) (.t 72) (.c (.bool false)), none⟩, ⟨some 74, .mv (.t 73), none⟩, ⟨some 75, .faddr 4 (.t 3), some (74, true)⟩, ⟨some 76, .load none (.t 75), some (74, true)⟩, ⟨some 77, .len false (.t 76), some (74, true)⟩, ⟨some 78, .bin .eql (.t 77) (.c (.int .i64 1)), some (74, true)⟩, ⟨some 79, .pick (.t 74) (.t 78) (.c (.bool false)), none⟩, ⟨some 80, .mv (.t 79), none⟩, ⟨some 81, .faddr 4 (.t 3), some (80, true)⟩, ⟨some 82, .load none (.t 81), some (80, true)⟩, ⟨some 83, .iaddr 1 (.t 82) (.c (.int .i64 0)), some (80, true)⟩, ⟨some 84, .load none (.t 83), some (80, true)⟩, ⟨some 85, .bin .eql (.t 84) (.c (.str [97, 98])), some (80, true)⟩, ⟨some 86, .pick (.t 80) (.t 85) (.c (.bool false)), none⟩, ⟨some 87, .mv (.t 86), none⟩, ⟨some 88, .mv (.t 6), some (87, true)⟩, ⟨some 89, .bin .eql (.t 88) (.c (.int .i64 0)), some (87, true)⟩, ⟨some 90, .pick (.t 87) (.t 89) (.c (.bool false)), none⟩, ⟨some 91, .mv (.t 90), none⟩, ⟨some 92, .mv (.t 8), some (91, true)⟩, ⟨some 93, .bin .eql (.t 92) (.c (.int .i64 0)), some (91, true)⟩, ⟨some 94, .pick (.t 91) (.t 93) (.c (.bool false)), none⟩, ⟨some 95, .mv (.t 94), none⟩, ⟨some 96, .load (some 5) (.t 3), some (95, true)⟩, ⟨some 97, .load (some 5) (.t 7), some (95, true)⟩, ⟨some 98, .call (.c (.fn 20 [])) [(.t 96), (.t 97)], some (95, true)⟩, ⟨some 99, .pick (.t 95) (.t 98) (.c (.bool false)), none⟩, ⟨some 100, .mv (.t 99), none⟩, ⟨some 101, .load (some 5) (.t 3), some (100, true)⟩, ⟨some 102, .build [.nilsl, .int .i64 0, .int .i64 0, .bool false, .nilsl] [], some (100, true)⟩, ⟨some 103, .call (.c (.fn 20 [])) [(.t 101), (.t 102)], some (100, true)⟩, ⟨some 104, .un .not (.t 103), some (100, true)⟩, ⟨some 105, .pick (.t 100) (.t 104) (.c (.bool false)), none⟩, ⟨some 106, .mv (.t 105), none⟩, ⟨some 107, .mv (.t 10), some (106, true)⟩, ⟨some 108, .bin .eql (.t 107) (.c (.int .i64 4)), some (106, true)⟩, ⟨some 109, .pick (.t 106) (.t 108) (.c (.bool false)), none⟩, ⟨some 110, .mv (.t 109), none⟩, ⟨some 111, .mv (.t 12), some (110, true)⟩, ⟨some 112, .bin .eql (.t 111) (.c (.int .i64 4)), some (110, true)⟩, ⟨some 113, .pick (.t 110) (.t 112) (.c (.bool false)), none⟩, ⟨some 114, .mv (.t 113), none⟩, ⟨some 115, .mv (.t 13), some (114, true)⟩, ⟨some 116, .bin .eql (.t 115) (.c (.int .i64 (-12))), some (114, true)⟩, ⟨some 117, .pick (.t 114) (.t 116) (.c (.bool false)), none⟩, ⟨some 118, .mv (.t 117), none⟩, ⟨some 119, .mv (.t 14), some (118, true)⟩, ⟨some 120, .pick (.t 118) (.t 119) (.c (.bool false)), none⟩, ⟨some 121, .mv (.t 120), none⟩, ⟨some 122, .call (.c (.fn 27 [])) [(.c (.int .i64 (-7)))], some (121, true)⟩, ⟨some 123, .bin .eql (.t 122) (.c (.str [45, 55])), some (121, true)⟩, ⟨some 124, .pick (.t 121) (.t 123) (.c (.bool false)), none⟩, ⟨some 125, .mv (.t 124), none⟩, ⟨some 126, .call (.c (.fn 27 [])) [(.c (.int .i64 1099511627777))], some (125, true)⟩, ⟨some 127, .bin .eql (.t 126) (.c (.str [])), some (125, true)⟩, ⟨some 128, .pick (.t 125) (.t 127) (.c (.bool false)), none⟩, ⟨some 129, .mv (.t 128), none⟩, ⟨some 130, .build [.nilsl, .int .i64 0, .int .i64 0, .bool false, .nilsl] [(2, 1, (.c (.int .i64 1099511627777)))], some (129, true)⟩, ⟨some 131, .call (.c (.fn 15 [])) [(.t 130)], some (129, true)⟩, ⟨some 132, .bin .eql (.t 131) (.c (.int .i64 8)), some (129, true)⟩, ⟨some 133, .pick (.t 129) (.t 132) (.c (.bool false)), none⟩, ⟨some 134, .mv (.t 133), none⟩, ⟨some 135, .pick (.t 134) (.c (.bool true)) (.c (.bool false)), none⟩, ⟨some 136, .mv (.t 135), none⟩, ⟨some 137, .pick (.t 136) (.c (.bool true)) (.c (.bool false)), none⟩, ⟨some 0, .mv (.t 137), none⟩]) .ret)))))))))
def fr9 : FnR := ⟨dc9, 138, [.t 0]⟩
theorem ok9 : FnOk Tryz.prog 9 fr9 := ⟨⟨Tryz.f9, _, Tryz.func9, rfl, by kernel_rfl, rfl, by kernel_rfl, by kernel_rfl⟩⟩
def dc10l0 : DC := (.seq (.row [⟨some 31, .bin .lss (.t 30) (.t 29), none⟩]) (.seq (.cond (.t 31) .skip (.exit 0)) (.seq (.block 1 (.seq (.row [⟨some 32, .iaddr 7 (.t 28) (.t 30), none⟩, ⟨some 33, .load (some 7) (.t 32), none⟩, ⟨some 7, .alloc 65 [.int .i64 0, .str [], .str [], .int .i64 0, .int .i64 0, .int .i64 0, .bool false], none⟩, ⟨none, .store 7 (.t 7) (.t 33), none⟩]) (.drawn [⟨some 34, .mv (.t 5), none⟩, ⟨some 35, .faddr 0 (.t 7), none⟩, ⟨some 36, .load none (.t 35), none⟩, ⟨some 37, .call (.c (.fn 27 [])) [(.t 36)], none⟩, ⟨some 38, .faddr 3 (.t 7), none⟩, ⟨some 39, .load none (.t 38), none⟩, ⟨some 40, .call (.c (.fn 27 [])) [(.t 39)], none⟩, ⟨some 41, .faddr 4 (.t 7), none⟩, ⟨some 42, .load none (.t 41), none⟩, ⟨some 43, .call (.c (.fn 27 [])) [(.t 42)], none⟩, ⟨some 44, .faddr 5 (.t 7), none⟩, ⟨some 45, .load none (.t 44), none⟩, ⟨some 46, .call (.c (.fn 27 [])) [(.t 45)], none⟩, ⟨some 47, .faddr 6 (.t 7), none⟩, ⟨some 48, .load none (.t 47), none⟩, ⟨some 49, .call (.c (.fn 30 [])) [(.t 48)], none⟩, ⟨some 50, .faddr 1 (.t 7), none⟩, ⟨some 51, .load none (.t 50), none⟩, ⟨some 52, .call (.c (.fn 31 [])) [(.t 51)], none⟩, ⟨some 53, .faddr 2 (.t 7), none⟩, ⟨some 54, .load none (.t 53), none⟩, ⟨some 55, .call (.c (.fn 31 [])) [(.t 54)], none⟩, ⟨some 56, .bslice 9 1 [(.c (.str [99, 97, 108, 108])), (.t 37), (.t 40), (.t 43), (.t 46), (.t 49), (.t 52), (.t 55)], none⟩, ⟨some 57, .call (.c (.fn 29 [])) [(.t 56)], none⟩, ⟨some 58, .bslice 9 1 [(.t 57)], none⟩, ⟨some 59, .app 9 1 16 (.t 34) (.t 58), none⟩, ⟨some 5, .mv (.t 59), none⟩] [[], [], [], [], [], [], [], [], [], [], [], [], [], [], [], [], [], [], [], [], [], [], [], [], [], [], []] [(3, 5), (3, 8), (3, 11), (3, 14), (3, 17), (3, 20), (6, 8), (6, 11), (6, 14), (6, 17), (6, 20), (9, 11), (9, 14), (9, 17), (9, 20), (12, 14), (12, 17), (12, 20), (15, 17), (15, 20), (18, 20)]))) (.row [⟨some 60, .bin .add (.t 30) (.c (.int .i64 1)), none⟩, ⟨some 30, .mv (.t 60), none⟩]))))
def dc10l1 : DC := (.seq (.row [⟨some 65, .bin .lss (.t 64) (.t 63), none⟩]) (.seq (.cond (.t 65) .skip (.exit 2)) (.seq (.block 3 (.seq (.row [⟨some 66, .iaddr 1 (.t 62) (.t 64), none⟩, ⟨some 67, .load none (.t 66), none⟩, ⟨some 9, .mv (.t 67), none⟩]) (.row [⟨some 68, .mv (.t 5), none⟩, ⟨some 69, .mv (.t 9), none⟩, ⟨some 70, .call (.c (.fn 31 [])) [(.t 69)], none⟩, ⟨some 71, .bslice 9 1 [(.c (.str [115, 97, 105, 100])), (.t 70)], none⟩, ⟨some 72, .call (.c (.fn 29 [])) [(.t 71)], none⟩, ⟨some 73, .bslice 9 1 [(.t 72)], none⟩, ⟨some 74, .app 9 1 16 (.t 68) (.t 73), none⟩, ⟨some 5, .mv (.t 74), none⟩]))) (.row [⟨some 75, .bin .add (.t 64) (.c (.int .i64 1)), none⟩, ⟨some 64, .mv (.t 75), none⟩]))))
def dc10 : DC := (.seq (.row [⟨some 1, .box 34 (.t 0), none⟩, ⟨some 2, .mv (.c .nilsl), none⟩, ⟨some 3, .mv (.c (.int .i64 0)), none⟩]) (.seq (.seq (.row [⟨some 10, .load (some 5) (.t 1), none⟩, ⟨some 11, .call (.c (.fn 15 [])) [(.t 10)], none⟩, ⟨some 4, .mv (.t 11), none⟩]) (.seq (.row [⟨some 12, .mv (.t 4), none⟩, ⟨some 13, .bin .neq (.t 12) (.c (.int .i64 0)), none⟩]) (.cond (.t 13) (.seq (.row [⟨some 14, .mv (.t 4), none⟩, ⟨some 2, .mv (.c .nilsl), none⟩, ⟨some 3, .mv (.t 14), none⟩]) .ret) .skip))) (.seq (.drawn [⟨some 15, .faddr 1 (.t 1), none⟩, ⟨some 16, .load none (.t 15), none⟩, ⟨some 17, .call (.c (.fn 27 [])) [(.t 16)], none⟩, ⟨some 18, .faddr 2 (.t 1), none⟩, ⟨some 19, .load none (.t 18), none⟩, ⟨some 20, .call (.c (.fn 27 [])) [(.t 19)], none⟩, ⟨some 21, .faddr 3 (.t 1), none⟩, ⟨some 22, .load none (.t 21), none⟩, ⟨some 23, .call (.c (.fn 30 [])) [(.t 22)], none⟩, ⟨some 24, .bslice 9 1 [(.c (.str [116, 111, 108, 100])), (.t 17), (.t 20), (.t 23)], none⟩, ⟨some 25, .call (.c (.fn 29 [])) [(.t 24)], none⟩, ⟨some 26, .bslice 9 1 [(.t 25)], none⟩, ⟨some 5, .mv (.t 26), none⟩] [[], [], [], [], [], [], [], [], [], [], [], [], []] [(2, 4), (2, 7), (5, 7)]) (.seq (.seq (.row [⟨some 27, .faddr 0 (.t 1), none⟩, ⟨some 28, .load none (.t 27), none⟩, ⟨some 29, .len false (.t 28), none⟩, ⟨some 30, .mv (.c (.int .i64 0)), none⟩]) (.block 0 (.loop dc10l0))) (.seq (.seq (.row [⟨some 61, .faddr 4 (.t 1), none⟩, ⟨some 62, .load none (.t 61), none⟩, ⟨some 63, .len false (.t 62), none⟩, ⟨some 64, .mv (.c (.int .i64 0)), none⟩]) (.block 2 (.loop dc10l1))) (.seq (.row [⟨some 76, .mv (.t 5), none⟩, ⟨some 2, .mv (.t 76), none⟩, ⟨some 3, .mv (.c (.int .i64 0)), none⟩]) .ret))))))
def fr10 : FnR := ⟨dc10, 77, [.t 2, .t 3]⟩
theorem ok10 : FnOk Tryz.prog 10 fr10 := ⟨⟨Tryz.f10, _, Tryz.func10, rfl, by kernel_rfl, rfl, by kernel_rfl, by kernel_rfl⟩⟩
def dc13l0 : DC := (.seq (.row [⟨some 10, .bin .lss (.t 9) (.t 8), none⟩]) (.seq (.cond (.t 10) .skip (.exit 0)) (.seq (.block 1 (.seq (.row [⟨some 11, .mv (.t 9), none⟩, ⟨some 12, .iaddr 1 (.t 7) (.t 9), none⟩, ⟨some 13, .load none (.t 12), none⟩, ⟨some 5, .mv (.t 11), none⟩, ⟨some 6, .mv (.t 13), none⟩]) (.seq (.row [⟨some 14, .mv (.t 5), none⟩, ⟨some 15, .mv (.t 6), none⟩, ⟨some 16, .call (.c (.fn 35 [])) [(.t 4), (.t 14), (.t 15)], none⟩, ⟨some 17, .un .not (.t 16), none⟩]) (.cond (.t 17) (.seq (.row [⟨some 18, .build [.nilsl, .int .i64 0, .int .i64 0, .bool false, .nilsl] [], none⟩, ⟨none, .store 5 (.t 2) (.t 18), none⟩, ⟨some 3, .mv (.c (.int .i64 4)), none⟩]) .ret) .skip)))) (.row [⟨some 19, .bin .add (.t 9) (.c (.int .i64 1)), none⟩, ⟨some 9, .mv (.t 19), none⟩]))))
def dc13 : DC := (.seq (.row [⟨some 2, .alloc 34 [.nilsl, .int .i64 0, .int .i64 0, .bool false, .nilsl], none⟩, ⟨some 3, .mv (.c (.int .i64 0)), none⟩]) (.seq (.row [⟨some 4, .alloc 34 [.nilsl, .int .i64 0, .int .i64 0, .bool false, .nilsl], none⟩]) (.seq (.seq (.row [⟨some 7, .mv (.t 0), none⟩, ⟨some 8, .len false (.t 7), none⟩, ⟨some 9, .mv (.c (.int .i64 0)), none⟩]) (.block 0 (.loop dc13l0))) (.seq (.seq (.row [⟨some 20, .mv (.t 0), none⟩, ⟨some 21, .len false (.t 20), none⟩, ⟨some 22, .bin .eql (.t 21) (.c (.int .i64 0)), none⟩, ⟨some 23, .mv (.t 22), none⟩, ⟨some 24, .load (some 5) (.t 4), some (23, false)⟩, ⟨some 25, .call (.c (.fn 15 [])) [(.t 24)], some (23, false)⟩, ⟨some 26, .bin .neq (.t 25) (.c (.int .i64 0)), some (23, false)⟩, ⟨some 27, .pick (.t 23) (.c (.bool true)) (.t 26), none⟩]) (.cond (.t 27) (.seq (.row [⟨some 28, .build [.nilsl, .int .i64 0, .int .i64 0, .bool false, .nilsl] [], none⟩, ⟨none, .store 5 (.t 2) (.t 28), none⟩, ⟨some 3, .mv (.c (.int .i64 4)), none⟩]) .ret) .skip)) (.seq (.row [⟨some 29, .load (some 5) (.t 4), none⟩, ⟨none, .store 5 (.t 2) (.t 29), none⟩, ⟨some 3, .mv (.c (.int .i64 0)), none⟩]) .ret)))))
def fr13 : FnR := ⟨dc13, 30, [.cell (some 5) 2, .t 3]⟩
theorem ok13 : FnOk Tryz.prog 13 fr13 := ⟨⟨Tryz.f13, _, Tryz.func13, rfl, by kernel_rfl, rfl, by kernel_rfl, by kernel_rfl⟩⟩
def dc15l0 : DC := (.seq (.row [⟨some 30, .bin .lss (.t 29) (.t 28), none⟩]) (.seq (.cond (.t 30) .skip (.exit 0)) (.seq (.block 1 (.seq (.row [⟨some 31, .iaddr 7 (.t 27) (.t 29), none⟩, ⟨some 32, .load (some 7) (.t 31), none⟩, ⟨some 6, .alloc 65 [.int .i64 0, .str [], .str [], .int .i64 0, .int .i64 0, .int .i64 0, .bool false], none⟩, ⟨none, .store 7 (.t 6) (.t 32), none⟩]) (.seq (.row [⟨some 33, .mv (.t 3), none⟩, ⟨some 34, .mv (.t 33), none⟩, ⟨some 35, .faddr 0 (.t 6), some (34, true)⟩, ⟨some 36, .load none (.t 35), some (34, true)⟩, ⟨some 37, .faddr 3 (.t 6), some (34, true)⟩, ⟨some 38, .load none (.t 37), some (34, true)⟩, ⟨some 39, .faddr 4 (.t 6), some (34, true)⟩, ⟨some 40, .load none (.t 39), some (34, true)⟩, ⟨some 41, .faddr 5 (.t 6), some (34, true)⟩, ⟨some 42, .load none (.t 41), some (34, true)⟩, ⟨some 43, .bslice 3 1 [(.t 36), (.t 38), (.t 40), (.t 42)], some (34, true)⟩, ⟨some 44, .call (.c (.fn 39 [])) [(.t 43)], some (34, true)⟩, ⟨some 45, .pick (.t 34) (.t 44) (.c (.bool false)), none⟩, ⟨some 3, .mv (.t 45), none⟩]) (.row [⟨some 46, .mv (.t 4), none⟩, ⟨some 47, .mv (.t 46), none⟩, ⟨some 48, .faddr 1 (.t 6), some (47, true)⟩, ⟨some 49, .load none (.t 48), some (47, true)⟩, ⟨some 50, .faddr 2 (.t 6), some (47, true)⟩, ⟨some 51, .load none (.t 50), some (47, true)⟩, ⟨some 52, .bslice 9 1 [(.t 49), (.t 51)], some (47, true)⟩, ⟨some 53, .call (.c (.fn 40 [])) [(.t 52)], some (47, true)⟩, ⟨some 54, .pick (.t 47) (.t 53) (.c (.bool false)), none⟩, ⟨some 4, .mv (.t 54), none⟩])))) (.row [⟨some 55, .bin .add (.t 29) (.c (.int .i64 1)), none⟩, ⟨some 29, .mv (.t 55), none⟩]))))
def dc15 : DC := (.seq (.row [⟨some 1, .box 34 (.t 0), none⟩, ⟨some 2, .mv (.c (.int .i64 0)), none⟩]) (.seq (.seq (.row [⟨some 7, .faddr 0 (.t 1), none⟩, ⟨some 8, .load none (.t 7), none⟩, ⟨some 9, .len false (.t 8), none⟩, ⟨some 10, .bin .gtr (.t 9) (.c (.int .i64 64)), none⟩, ⟨some 11, .mv (.t 10), none⟩, ⟨some 12, .faddr 4 (.t 1), some (11, false)⟩, ⟨some 13, .load none (.t 12), some (11, false)⟩, ⟨some 14, .len false (.t 13), some (11, false)⟩, ⟨some 15, .bin .gtr (.t 14) (.c (.int .i64 64)), some (11, false)⟩, ⟨some 16, .pick (.t 11) (.c (.bool true)) (.t 15), none⟩]) (.cond (.t 16) (.seq (.row [⟨some 2, .mv (.c (.int .i64 24)), none⟩]) .ret) .skip)) (.seq (.drawn [⟨some 17, .faddr 1 (.t 1), none⟩, ⟨some 18, .load none (.t 17), none⟩, ⟨some 19, .faddr 2 (.t 1), none⟩, ⟨some 20, .load none (.t 19), none⟩, ⟨some 21, .bslice 3 1 [(.t 18), (.t 20)], none⟩, ⟨some 22, .call (.c (.fn 39 [])) [(.t 21)], none⟩, ⟨some 23, .faddr 4 (.t 1), none⟩, ⟨some 24, .load none (.t 23), none⟩, ⟨some 25, .call (.c (.fn 40 [])) [(.t 24)], none⟩, ⟨some 3, .mv (.t 22), none⟩, ⟨some 4, .mv (.t 25), none⟩] [[], [], [], [], [], [], [], [], [], [], []] [(4, 7), (5, 7)]) (.seq (.seq (.row [⟨some 26, .faddr 0 (.t 1), none⟩, ⟨some 27, .load none (.t 26), none⟩, ⟨some 28, .len false (.t 27), none⟩, ⟨some 29, .mv (.c (.int .i64 0)), none⟩]) (.block 0 (.loop dc15l0))) (.seq (.block 2 (.seq (.row [⟨some 57, .mv (.t 3), none⟩, ⟨some 58, .un .not (.t 57), none⟩, ⟨some 56, .mv (.t 58), none⟩]) (.cond (.t 56) (.seq (.row [⟨some 2, .mv (.c (.int .i64 8)), none⟩]) .ret) (.seq (.row [⟨some 60, .mv (.t 4), none⟩, ⟨some 61, .un .not (.t 60), none⟩, ⟨some 59, .mv (.t 61), none⟩]) (.cond (.t 59) (.seq (.row [⟨some 2, .mv (.c (.int .i64 5)), none⟩]) .ret) .skip))))) (.seq (.row [⟨some 2, .mv (.c (.int .i64 0)), none⟩]) .ret))))))
def fr15 : FnR := ⟨dc15, 62, [.t 2]⟩
theorem ok15 : FnOk Tryz.prog 15 fr15 := ⟨⟨Tryz.f15, _, Tryz.func15, rfl, by kernel_rfl, rfl, by kernel_rfl, by kernel_rfl⟩⟩
def dc20 : DC := (.seq (.row [⟨some 2, .box 34 (.t 0), none⟩, ⟨some 3, .box 34 (.t 1), none⟩, ⟨some 4, .mv (.c (.bool false)), none⟩]) (.seq (.row [⟨some 5, .faddr 1 (.t 2), none⟩, ⟨some 6, .load none (.t 5), none⟩, ⟨some 7, .faddr 1 (.t 3), none⟩, ⟨some 8, .load none (.t 7), none⟩, ⟨some 9, .bin .eql (.t 6) (.t 8), none⟩, ⟨some 10, .mv (.t 9), none⟩, ⟨some 11, .faddr 2 (.t 2), some (10, true)⟩, ⟨some 12, .load none (.t 11), some (10, true)⟩, ⟨some 13, .faddr 2 (.t 3), some (10, true)⟩, ⟨some 14, .load none (.t 13), some (10, true)⟩, ⟨some 15, .bin .eql (.t 12) (.t 14), some (10, true)⟩, ⟨some 16, .pick (.t 10) (.t 15) (.c (.bool false)), none⟩, ⟨some 17, .mv (.t 16), none⟩, ⟨some 18, .faddr 3 (.t 2), some (17, true)⟩, ⟨some 19, .load none (.t 18), some (17, true)⟩, ⟨some 20, .faddr 3 (.t 3), some (17, true)⟩, ⟨some 21, .load none (.t 20), some (17, true)⟩, ⟨some 22, .beq false (.t 19) (.t 21), some (17, true)⟩, ⟨some 23, .pick (.t 17) (.t 22) (.c (.bool false)), none⟩, ⟨some 24, .mv (.t 23), none⟩, ⟨some 25, .faddr 0 (.t 2), some (24, true)⟩, ⟨some 26, .load none (.t 25), some (24, true)⟩, ⟨some 27, .faddr 0 (.t 3), some (24, true)⟩, ⟨some 28, .load none (.t 27), some (24, true)⟩, ⟨some 29, .call (.c (.fn 43 [])) [(.t 26), (.t 28)], some (24, true)⟩, ⟨some 30, .pick (.t 24) (.t 29) (.c (.bool false)), none⟩, ⟨some 31, .mv (.t 30), none⟩, ⟨some 32, .faddr 4 (.t 2), some (31, true)⟩, ⟨some 33, .load none (.t 32), some (31, true)⟩, ⟨some 34, .faddr 4 (.t 3), some (31, true)⟩, ⟨some 35, .load none (.t 34), some (31, true)⟩, ⟨some 36, .call (.c (.fn 44 [])) [(.t 33), (.t 35)], some (31, true)⟩, ⟨some 37, .pick (.t 31) (.t 36) (.c (.bool false)), none⟩, ⟨some 4, .mv (.t 37), none⟩]) .ret))
def fr20 : FnR := ⟨dc20, 38, [.t 4]⟩
theorem ok20 : FnOk Tryz.prog 20 fr20 := ⟨⟨Tryz.f20, _, Tryz.func20, rfl, by kernel_rfl, rfl, by kernel_rfl, by kernel_rfl⟩⟩
def dc21 : DC := (.seq (.row [⟨some 1, .box 34 (.t 0), none⟩, ⟨some 2, .mv (.c (.str [])), none⟩, ⟨some 3, .mv (.c (.int .i64 0)), none⟩]) (.seq (.seq (.row [⟨some 7, .load (some 5) (.t 1), none⟩, ⟨some 8, .call (.c (.fn 15 [])) [(.t 7)], none⟩, ⟨some 4, .mv (.t 8), none⟩]) (.seq (.row [⟨some 9, .mv (.t 4), none⟩, ⟨some 10, .bin .neq (.t 9) (.c (.int .i64 0)), none⟩]) (.cond (.t 10) (.seq (.row [⟨some 11, .mv (.t 4), none⟩, ⟨some 2, .mv (.c (.str [])), none⟩, ⟨some 3, .mv (.t 11), none⟩]) .ret) .skip))) (.seq (.drawn [⟨some 13, .faddr 4 (.t 1), none⟩, ⟨some 14, .load none (.t 13), none⟩, ⟨some 15, .call (.c (.fn 46 [])) [(.t 14)], none⟩, ⟨some 16, .build [.str [], .nilIface] [(0, 1, (.c (.str [98, 101, 104, 105, 110, 100]))), (1, 1, (.t 15))], none⟩, ⟨some 17, .faddr 0 (.t 1), none⟩, ⟨some 18, .load none (.t 17), none⟩, ⟨some 19, .call (.c (.fn 47 [])) [(.t 18)], none⟩, ⟨some 20, .build [.str [], .nilIface] [(0, 1, (.c (.str [99, 97, 108, 108, 115]))), (1, 1, (.t 19))], none⟩, ⟨some 21, .faddr 2 (.t 1), none⟩, ⟨some 22, .load none (.t 21), none⟩, ⟨some 23, .call (.c (.fn 48 [])) [(.t 22)], none⟩, ⟨some 24, .build [.str [], .nilIface] [(0, 1, (.c (.str [108, 101, 102, 116]))), (1, 1, (.t 23))], none⟩, ⟨some 25, .faddr 3 (.t 1), none⟩, ⟨some 26, .load none (.t 25), none⟩, ⟨some 27, .mkif 4 (.t 26), none⟩, ⟨some 28, .build [.str [], .nilIface] [(0, 1, (.c (.str [115, 101, 97, 108, 101, 100]))), (1, 1, (.t 27))], none⟩, ⟨some 29, .faddr 1 (.t 1), none⟩, ⟨some 30, .load none (.t 29), none⟩, ⟨some 31, .call (.c (.fn 48 [])) [(.t 30)], none⟩, ⟨some 32, .build [.str [], .nilIface] [(0, 1, (.c (.str [116, 105, 99, 107, 115]))), (1, 1, (.t 31))], none⟩, ⟨some 33, .bslice 82 2 [(.t 16), (.t 20), (.t 24), (.t 28), (.t 32)], none⟩, ⟨some 34, .mkif 85 (.t 33), none⟩, ⟨some 35, .call (.c (.fn 45 [])) [(.t 34)], none⟩, ⟨some 12, .mv (.t 35), none⟩, ⟨some 36, .ext 0 (.t 12), none⟩, ⟨some 37, .ext 1 (.t 12), none⟩, ⟨some 5, .mv (.t 36), none⟩, ⟨some 6, .mv (.t 37), none⟩] [[], [], [], [], [], [], [], [], [], [], [], [], [], [], [], [], [], [], [], [], [], [], [], [], [], [], [], []] [(2, 5), (2, 9), (2, 13), (2, 17), (6, 9), (6, 13), (6, 17), (10, 13), (10, 17), (18, 13)]) (.seq (.row [⟨some 38, .mv (.t 5), none⟩, ⟨some 39, .b2s (.t 38), none⟩, ⟨some 40, .mv (.t 6), none⟩, ⟨some 2, .mv (.t 39), none⟩, ⟨some 3, .mv (.t 40), none⟩]) .ret))))
def fr21 : FnR := ⟨dc21, 41, [.t 2, .t 3]⟩
theorem ok21 : FnOk Tryz.prog 21 fr21 := ⟨⟨Tryz.f21, _, Tryz.func21, rfl, by kernel_rfl, rfl, by kernel_rfl, by kernel_rfl⟩⟩
def dc23l0 : DC := (.seq (.row [⟨some 50, .bin .lss (.t 49) (.t 48), none⟩]) (.seq (.cond (.t 50) .skip (.exit 0)) (.seq (.block 1 (.seq (.row [⟨some 51, .iaddr 1 (.t 47) (.t 49), none⟩, ⟨some 52, .load none (.t 51), none⟩, ⟨some 10, .mv (.t 52), none⟩]) (.drawn [⟨some 53, .faddr 4 (.t 8), none⟩, ⟨some 54, .load none (.t 53), none⟩, ⟨some 55, .mv (.t 6), none⟩, ⟨some 56, .mv (.t 10), none⟩, ⟨some 57, .call (.c (.fn 58 [])) [(.t 55), (.t 56)], none⟩, ⟨some 58, .bslice 9 1 [(.t 57)], none⟩, ⟨some 59, .app 9 1 16 (.t 54) (.t 58), none⟩, ⟨some 60, .faddr 4 (.t 8), none⟩, ⟨none, .store 1 (.t 60) (.t 59), none⟩] [[], [], [], [], [], [], [], [], []] [(4, 1), (5, 1)]))) (.row [⟨some 61, .bin .add (.t 49) (.c (.int .i64 1)), none⟩, ⟨some 49, .mv (.t 61), none⟩]))))
def dc23l1 : DC := (.seq (.row [⟨some 69, .bin .lss (.t 68) (.t 67), none⟩]) (.seq (.cond (.t 69) .skip (.exit 2)) (.seq (.block 3 (.seq (.row [⟨some 70, .iaddr 1 (.t 66) (.t 68), none⟩, ⟨some 71, .load none (.t 70), none⟩, ⟨some 12, .mv (.t 71), none⟩]) (.drawn [⟨some 72, .faddr 0 (.t 8), none⟩, ⟨some 73, .load none (.t 72), none⟩, ⟨some 74, .mv (.t 6), none⟩, ⟨some 75, .mv (.t 12), none⟩, ⟨some 76, .call (.c (.fn 59 [])) [(.t 74), (.t 75)], none⟩, ⟨some 77, .bslice 65 7 [(.t 76)], none⟩, ⟨some 78, .app 65 7 72 (.t 73) (.t 77), none⟩, ⟨some 79, .faddr 0 (.t 8), none⟩, ⟨none, .store 1 (.t 79) (.t 78), none⟩] [[], [], [], [], [], [], [], [], []] [(4, 1), (5, 1)]))) (.row [⟨some 80, .bin .add (.t 68) (.c (.int .i64 1)), none⟩, ⟨some 68, .mv (.t 80), none⟩]))))
def dc23 : DC := (.seq (.row [⟨some 2, .alloc 34 [.nilsl, .int .i64 0, .int .i64 0, .bool false, .nilsl], none⟩, ⟨some 3, .mv (.c (.int .i64 0)), none⟩]) (.seq (.row [⟨some 14, .mv (.t 0), none⟩, ⟨some 15, .call (.c (.fn 53 [])) [(.t 14)], none⟩, ⟨some 13, .mv (.t 15), none⟩, ⟨some 16, .ext 0 (.t 13), none⟩, ⟨some 17, .ext 1 (.t 13), none⟩, ⟨some 4, .mv (.t 16), none⟩, ⟨some 5, .mv (.t 17), none⟩]) (.seq (.seq (.row [⟨some 18, .mv (.t 5), none⟩, ⟨some 19, .bin .neq (.t 18) (.c (.int .i64 0)), none⟩]) (.cond (.t 19) (.seq (.row [⟨some 20, .build [.nilsl, .int .i64 0, .int .i64 0, .bool false, .nilsl] [], none⟩, ⟨none, .store 5 (.t 2) (.t 20), none⟩, ⟨some 3, .mv (.c (.int .i64 4)), none⟩]) .ret) .skip)) (.seq (.row [⟨some 21, .build [.bool false] [], none⟩, ⟨some 22, .box 98 (.t 21), none⟩, ⟨some 6, .mv (.t 22), none⟩]) (.seq (.row [⟨some 23, .mv (.t 6), none⟩, ⟨some 24, .mv (.t 4), none⟩, ⟨some 25, .bslice 9 1 [(.c (.str [98, 101, 104, 105, 110, 100])), (.c (.str [99, 97, 108, 108, 115])), (.c (.str [108, 101, 102, 116])), (.c (.str [115, 101, 97, 108, 101, 100])), (.c (.str [116, 105, 99, 107, 115]))], none⟩, ⟨some 26, .call (.c (.fn 54 [])) [(.t 23), (.t 24), (.t 25)], none⟩, ⟨some 7, .mv (.t 26), none⟩]) (.seq (.drawn [⟨some 27, .mv (.t 6), none⟩, ⟨some 28, .mv (.t 7), none⟩, ⟨some 29, .iaddr 1 (.t 28) (.c (.int .i64 2)), none⟩, ⟨some 30, .load none (.t 29), none⟩, ⟨some 31, .call (.c (.fn 55 [])) [(.t 27), (.t 30)], none⟩, ⟨some 32, .mv (.t 6), none⟩, ⟨some 33, .mv (.t 7), none⟩, ⟨some 34, .iaddr 1 (.t 33) (.c (.int .i64 3)), none⟩, ⟨some 35, .load none (.t 34), none⟩, ⟨some 36, .call (.c (.fn 56 [])) [(.t 32), (.t 35)], none⟩, ⟨some 37, .mv (.t 6), none⟩, ⟨some 38, .mv (.t 7), none⟩, ⟨some 39, .iaddr 1 (.t 38) (.c (.int .i64 4)), none⟩, ⟨some 40, .load none (.t 39), none⟩, ⟨some 41, .call (.c (.fn 55 [])) [(.t 37), (.t 40)], none⟩, ⟨some 42, .build [.nilsl, .int .i64 0, .int .i64 0, .bool false, .nilsl] [(2, 1, (.t 31)), (3, 1, (.t 36)), (1, 1, (.t 41))], none⟩, ⟨some 8, .alloc 34 [.nilsl, .int .i64 0, .int .i64 0, .bool false, .nilsl], none⟩, ⟨none, .store 5 (.t 8) (.t 42), none⟩] [[], [], [], [], [], [], [], [], [], [], [], [], [], [], [], [], [], []] [(4, 8), (4, 13), (4, 16), (9, 13), (9, 16), (14, 16), (16, 3), (16, 4), (16, 8), (16, 9), (16, 13), (16, 14)]) (.seq (.seq (.row [⟨some 43, .mv (.t 6), none⟩, ⟨some 44, .mv (.t 7), none⟩, ⟨some 45, .iaddr 1 (.t 44) (.c (.int .i64 0)), none⟩, ⟨some 46, .load none (.t 45), none⟩, ⟨some 47, .call (.c (.fn 57 [])) [(.t 43), (.t 46)], none⟩, ⟨some 48, .len false (.t 47), none⟩, ⟨some 49, .mv (.c (.int .i64 0)), none⟩]) (.block 0 (.loop dc23l0))) (.seq (.seq (.row [⟨some 62, .mv (.t 6), none⟩, ⟨some 63, .mv (.t 7), none⟩, ⟨some 64, .iaddr 1 (.t 63) (.c (.int .i64 1)), none⟩, ⟨some 65, .load none (.t 64), none⟩, ⟨some 66, .call (.c (.fn 57 [])) [(.t 62), (.t 65)], none⟩, ⟨some 67, .len false (.t 66), none⟩, ⟨some 68, .mv (.c (.int .i64 0)), none⟩]) (.block 2 (.loop dc23l1))) (.seq (.seq (.row [⟨some 81, .mv (.t 6), none⟩, ⟨some 82, .nilchk (.t 81), none⟩, ⟨some 83, .faddr 0 (.t 82), none⟩, ⟨some 84, .load none (.t 83), none⟩, ⟨some 85, .mv (.t 84), none⟩, ⟨some 86, .load (some 5) (.t 8), some (85, false)⟩, ⟨some 87, .call (.c (.fn 15 [])) [(.t 86)], some (85, false)⟩, ⟨some 88, .bin .neq (.t 87) (.c (.int .i64 0)), some (85, false)⟩, ⟨some 89, .pick (.t 85) (.c (.bool true)) (.t 88), none⟩]) (.cond (.t 89) (.seq (.row [⟨some 90, .build [.nilsl, .int .i64 0, .int .i64 0, .bool false, .nilsl] [], none⟩, ⟨none, .store 5 (.t 2) (.t 90), none⟩, ⟨some 3, .mv (.c (.int .i64 4)), none⟩]) .ret) .skip)) (.seq (.row [⟨some 91, .load (some 5) (.t 8), none⟩, ⟨none, .store 5 (.t 2) (.t 91), none⟩, ⟨some 3, .mv (.c (.int .i64 0)), none⟩]) .ret))))))))))
def fr23 : FnR := ⟨dc23, 92, [.cell (some 5) 2, .t 3]⟩
theorem ok23 : FnOk Tryz.prog 23 fr23 := ⟨⟨Tryz.f23, _, Tryz.func23, rfl, by kernel_rfl, rfl, by kernel_rfl, by kernel_rfl⟩⟩
def dc25l0 : DC := (.seq (.row [⟨some 42, .bin .lss (.t 41) (.t 40), none⟩]) (.seq (.cond (.t 42) .skip (.exit 0)) (.seq (.block 1 (.seq (.row [⟨some 43, .iaddr 1 (.t 39) (.t 41), none⟩, ⟨some 44, .load none (.t 43), none⟩, ⟨some 8, .mv (.t 44), none⟩]) (.seq (.seq (.row [⟨some 45, .mv (.t 8), none⟩, ⟨some 46, .bin .lss (.t 45) (.c (.int .u8 48)), none⟩, ⟨some 47, .mv (.t 46), none⟩, ⟨some 48, .mv (.t 8), some (47, false)⟩, ⟨some 49, .bin .gtr (.t 48) (.c (.int .u8 57)), some (47, false)⟩, ⟨some 50, .pick (.t 47) (.c (.bool true)) (.t 49), none⟩]) (.cond (.t 50) (.seq (.row [⟨some 2, .mv (.c (.int .i64 0)), none⟩, ⟨some 3, .mv (.c (.bool false)), none⟩]) .ret) .skip)) (.row [⟨some 51, .mv (.t 6), none⟩, ⟨some 52, .bin .mul (.c (.int .i64 10)) (.t 51), none⟩, ⟨some 53, .mv (.t 8), none⟩, ⟨some 54, .bin .sub (.t 53) (.c (.int .u8 48)), none⟩, ⟨some 55, .conv .i64 (.t 54), none⟩, ⟨some 56, .bin .add (.t 52) (.t 55), none⟩, ⟨some 6, .mv (.t 56), none⟩])))) (.row [⟨some 57, .bin .add (.t 41) (.c (.int .i64 1)), none⟩, ⟨some 41, .mv (.t 57), none⟩]))))
def dc25 : DC := (.seq (.row [⟨some 2, .mv (.c (.int .i64 0)), none⟩, ⟨some 3, .mv (.c (.bool false)), none⟩]) (.seq (.row [⟨some 10, .mv (.t 0), none⟩, ⟨some 11, .call (.c (.fn 63 [])) [(.t 10), (.c (.str [45]))], none⟩, ⟨some 9, .mv (.t 11), none⟩, ⟨some 12, .ext 0 (.t 9), none⟩, ⟨some 13, .ext 1 (.t 9), none⟩, ⟨some 4, .mv (.t 12), none⟩, ⟨some 5, .mv (.t 13), none⟩]) (.seq (.seq (.row [⟨some 14, .mv (.t 4), none⟩, ⟨some 15, .bin .eql (.t 14) (.c (.str [])), none⟩, ⟨some 16, .mv (.t 15), none⟩, ⟨some 17, .mv (.t 4), some (16, false)⟩, ⟨some 18, .len true (.t 17), some (16, false)⟩, ⟨some 19, .bin .gtr (.t 18) (.c (.int .i64 13)), some (16, false)⟩, ⟨some 20, .pick (.t 16) (.c (.bool true)) (.t 19), none⟩, ⟨some 21, .mv (.t 20), none⟩, ⟨some 22, .mv (.t 4), some (21, false)⟩, ⟨some 23, .len true (.t 22), some (21, false)⟩, ⟨some 24, .bin .gtr (.t 23) (.c (.int .i64 1)), some (21, false)⟩, ⟨some 25, .mv (.t 24), some (21, false)⟩, ⟨some 26, .mv (.t 4), some (25, true)⟩, ⟨some 27, .idxs (.t 26) (.c (.int .i64 0)), some (25, true)⟩, ⟨some 28, .bin .eql (.t 27) (.c (.int .u8 48)), some (25, true)⟩, ⟨some 29, .pick (.t 25) (.t 28) (.c (.bool false)), some (21, false)⟩, ⟨some 30, .pick (.t 21) (.c (.bool true)) (.t 29), none⟩, ⟨some 31, .mv (.t 30), none⟩, ⟨some 32, .mv (.t 5), some (31, false)⟩, ⟨some 33, .mv (.t 32), some (31, false)⟩, ⟨some 34, .mv (.t 4), some (33, true)⟩, ⟨some 35, .bin .eql (.t 34) (.c (.str [48])), some (33, true)⟩, ⟨some 36, .pick (.t 33) (.t 35) (.c (.bool false)), some (31, false)⟩, ⟨some 37, .pick (.t 31) (.c (.bool true)) (.t 36), none⟩]) (.cond (.t 37) (.seq (.row [⟨some 2, .mv (.c (.int .i64 0)), none⟩, ⟨some 3, .mv (.c (.bool false)), none⟩]) .ret) .skip)) (.seq (.row [⟨some 6, .mv (.c (.int .i64 0)), none⟩]) (.seq (.seq (.row [⟨some 38, .mv (.t 4), none⟩, ⟨some 39, .s2b 5 (.t 38), none⟩, ⟨some 40, .len false (.t 39), none⟩, ⟨some 41, .mv (.c (.int .i64 0)), none⟩]) (.block 0 (.loop dc25l0))) (.seq (.seq (.row [⟨some 58, .mv (.t 5), none⟩]) (.cond (.t 58) (.row [⟨some 59, .mv (.t 6), none⟩, ⟨some 60, .un .neg (.t 59), none⟩, ⟨some 6, .mv (.t 60), none⟩]) .skip)) (.seq (.seq (.row [⟨some 61, .mv (.t 6), none⟩, ⟨some 62, .bslice 3 1 [(.t 61)], none⟩, ⟨some 63, .call (.c (.fn 39 [])) [(.t 62)], none⟩, ⟨some 64, .un .not (.t 63), none⟩]) (.cond (.t 64) (.seq (.row [⟨some 2, .mv (.c (.int .i64 0)), none⟩, ⟨some 3, .mv (.c (.bool false)), none⟩]) .ret) .skip)) (.seq (.row [⟨some 65, .mv (.t 6), none⟩, ⟨some 2, .mv (.t 65), none⟩, ⟨some 3, .mv (.c (.bool true)), none⟩]) .ret))))))))
def fr25 : FnR := ⟨dc25, 66, [.t 2, .t 3]⟩
theorem ok25 : FnOk Tryz.prog 25 fr25 := ⟨⟨Tryz.f25, _, Tryz.func25, rfl, by kernel_rfl, rfl, by kernel_rfl, by kernel_rfl⟩⟩
def dc27l0 : DC := (.block 1 (.seq (.row [⟨some 15, .mv (.t 3), none⟩, ⟨some 16, .bin .rem (.t 15) (.c (.int .i64 10)), none⟩, ⟨some 17, .bin .add (.c (.int .i64 48)) (.t 16), none⟩, ⟨some 18, .conv .u8 (.t 17), none⟩, ⟨some 19, .bslice 5 1 [(.t 18)], none⟩, ⟨some 20, .b2s (.t 19), none⟩, ⟨some 21, .mv (.t 5), none⟩, ⟨some 22, .bin .add (.t 20) (.t 21), none⟩, ⟨some 5, .mv (.t 22), none⟩]) (.seq (.row [⟨some 23, .mv (.t 3), none⟩, ⟨some 24, .bin .quo (.t 23) (.c (.int .i64 10)), none⟩, ⟨some 3, .mv (.t 24), none⟩]) (.seq (.row [⟨some 25, .mv (.t 3), none⟩, ⟨some 26, .bin .eql (.t 25) (.c (.int .i64 0)), none⟩]) (.cond (.t 26) (.seq (.row [⟨some 27, .mv (.t 4), none⟩, ⟨some 28, .mv (.t 5), none⟩, ⟨some 29, .bin .add (.t 27) (.t 28), none⟩, ⟨some 2, .mv (.t 29), none⟩]) .ret) .skip)))))
def dc27 : DC := (.seq (.row [⟨some 2, .mv (.c (.str [])), none⟩]) (.seq (.seq (.row [⟨some 6, .mv (.t 0), none⟩, ⟨some 7, .bslice 3 1 [(.t 6)], none⟩, ⟨some 8, .call (.c (.fn 39 [])) [(.t 7)], none⟩, ⟨some 9, .un .not (.t 8), none⟩]) (.cond (.t 9) (.seq (.row [⟨some 2, .mv (.c (.str [])), none⟩]) .ret) .skip)) (.seq (.row [⟨some 10, .mv (.t 0), none⟩, ⟨some 3, .mv (.t 10), none⟩, ⟨some 4, .mv (.c (.str [])), none⟩]) (.seq (.seq (.row [⟨some 11, .mv (.t 0), none⟩, ⟨some 12, .bin .lss (.t 11) (.c (.int .i64 0)), none⟩]) (.cond (.t 12) (.row [⟨some 13, .mv (.t 0), none⟩, ⟨some 14, .un .neg (.t 13), none⟩, ⟨some 3, .mv (.t 14), none⟩, ⟨some 4, .mv (.c (.str [45])), none⟩]) .skip)) (.seq (.row [⟨some 5, .mv (.c (.str [])), none⟩]) (.block 0 (.loop dc27l0)))))))
def fr27 : FnR := ⟨dc27, 30, [.t 2]⟩
theorem ok27 : FnOk Tryz.prog 27 fr27 := ⟨⟨Tryz.f27, _, Tryz.func27, rfl, by kernel_rfl, rfl, by kernel_rfl, by kernel_rfl⟩⟩
def dc29 : DC := (.seq (.row [⟨some 2, .mv (.c (.str [])), none⟩]) (.seq (.row [⟨some 3, .mv (.t 0), none⟩, ⟨some 4, .call (.c (.fn 64 [])) [(.t 3), (.c (.str [32]))], none⟩, ⟨some 2, .mv (.t 4), none⟩]) .ret))
def fr29 : FnR := ⟨dc29, 5, [.t 2]⟩
theorem ok29 : FnOk Tryz.prog 29 fr29 := ⟨⟨Tryz.f29, _, Tryz.func29, rfl, by kernel_rfl, rfl, by kernel_rfl, by kernel_rfl⟩⟩
def dc30 : DC := (.seq (.row [⟨some 2, .mv (.c (.str [])), none⟩]) (.seq (.seq (.row [⟨some 3, .mv (.t 0), none⟩]) (.cond (.t 3) (.seq (.row [⟨some 2, .mv (.c (.str [49])), none⟩]) .ret) .skip)) (.seq (.row [⟨some 2, .mv (.c (.str [48])), none⟩]) .ret)))
def fr30 : FnR := ⟨dc30, 4, [.t 2]⟩
theorem ok30 : FnOk Tryz.prog 30 fr30 := ⟨⟨Tryz.f30, _, Tryz.func30, rfl, by kernel_rfl, rfl, by kernel_rfl, by kernel_rfl⟩⟩
def dc31 : DC := (.seq (.row [⟨some 2, .mv (.c (.str [])), none⟩]) (.seq (.seq (.row [⟨some 3, .mv (.t 0), none⟩, ⟨some 4, .bin .eql (.t 3) (.c (.str [])), none⟩]) (.cond (.t 4) (.seq (.row [⟨some 2, .mv (.c (.str [45])), none⟩]) .ret) .skip)) (.seq (.row [⟨some 5, .mv (.t 0), none⟩, ⟨some 6, .call (.c (.fn 65 [])) [(.t 5)], none⟩, ⟨some 2, .mv (.t 6), none⟩]) .ret)))
def fr31 : FnR := ⟨dc31, 7, [.t 2]⟩
theorem ok31 : FnOk Tryz.prog 31 fr31 := ⟨⟨Tryz.f31, _, Tryz.func31, rfl, by kernel_rfl, rfl, by kernel_rfl, by kernel_rfl⟩⟩
def dc35 : DC := (.seq (.row [⟨some 6, .mv (.c (.bool false)), none⟩]) (.seq (.row [⟨some 9, .mv (.t 2), none⟩, ⟨some 10, .call (.c (.fn 67 [])) [(.t 9), (.c (.str [32]))], none⟩, ⟨some 11, .build [.nilsl, .bool false] [(0, 1, (.t 10))], none⟩, ⟨some 12, .box 116 (.t 11), none⟩, ⟨some 7, .mv (.t 12), none⟩]) (.seq (.seq (.row [⟨some 13, .mv (.t 7), none⟩, ⟨some 14, .call (.c (.fn 68 [])) [(.t 13)], none⟩, ⟨some 8, .mv (.t 14), none⟩]) (.block 0 (.seq (.row [⟨some 16, .mv (.t 1), none⟩, ⟨some 17, .bin .eql (.t 16) (.c (.int .i64 0)), none⟩, ⟨some 15, .mv (.t 17), none⟩]) (.cond (.t 15) (.seq (.row [⟨some 18, .mv (.t 0), none⟩, ⟨some 19, .mv (.t 0), none⟩, ⟨some 20, .mv (.t 7), none⟩, ⟨some 21, .call (.c (.fn 69 [])) [(.t 20)], none⟩, ⟨some 22, .mv (.t 7), none⟩, ⟨some 23, .call (.c (.fn 69 [])) [(.t 22)], none⟩, ⟨some 24, .nilchk (.t 18), none⟩, ⟨some 25, .faddr 1 (.t 24), none⟩, ⟨none, .store 1 (.t 25) (.t 21), none⟩, ⟨some 26, .nilchk (.t 19), none⟩, ⟨some 27, .faddr 2 (.t 26), none⟩, ⟨none, .store 1 (.t 27) (.t 23), none⟩]) (.seq (.row [⟨some 28, .mv (.t 0), none⟩, ⟨some 29, .mv (.t 7), none⟩, ⟨some 30, .call (.c (.fn 70 [])) [(.t 29)], none⟩, ⟨some 31, .nilchk (.t 28), none⟩, ⟨some 32, .faddr 3 (.t 31), none⟩, ⟨none, .store 1 (.t 32) (.t 30), none⟩]) (.seq (.row [⟨some 33, .mv (.t 8), none⟩, ⟨some 34, .bin .eql (.t 33) (.c (.str [116, 111, 108, 100])), none⟩, ⟨some 35, .mv (.t 34), none⟩, ⟨some 36, .mv (.t 7), some (35, true)⟩, ⟨some 37, .call (.c (.fn 71 [])) [(.t 36)], some (35, true)⟩, ⟨some 38, .pick (.t 35) (.t 37) (.c (.bool false)), none⟩, ⟨some 6, .mv (.t 38), none⟩]) .ret))) (.seq (.row [⟨some 40, .mv (.t 8), none⟩, ⟨some 41, .bin .eql (.t 40) (.c (.str [99, 97, 108, 108])), none⟩, ⟨some 39, .mv (.t 41), none⟩]) (.cond (.t 39) (.seq (.drawn [⟨some 42, .mv (.t 0), none⟩, ⟨some 43, .mv (.t 0), none⟩, ⟨some 44, .nilchk (.t 43), none⟩, ⟨some 45, .faddr 0 (.t 44), none⟩, ⟨some 46, .load none (.t 45), none⟩, ⟨some 47, .mv (.t 7), none⟩, ⟨some 48, .call (.c (.fn 72 [])) [(.t 47)], none⟩, ⟨some 49, .bslice 65 7 [(.t 48)], none⟩, ⟨some 50, .app 65 7 72 (.t 46) (.t 49), none⟩, ⟨some 51, .nilchk (.t 42), none⟩, ⟨some 52, .faddr 0 (.t 51), none⟩, ⟨none, .store 1 (.t 52) (.t 50), none⟩] [[], [], [], [], [], [], [], [], [], [], [], []] [(6, 4), (7, 4)]) (.seq (.row [⟨some 53, .mv (.t 0), none⟩, ⟨some 54, .nilchk (.t 53), none⟩, ⟨some 55, .faddr 4 (.t 54), none⟩, ⟨some 56, .load none (.t 55), none⟩, ⟨some 57, .len false (.t 56), none⟩, ⟨some 58, .bin .eql (.t 57) (.c (.int .i64 0)), none⟩, ⟨some 59, .mv (.t 58), none⟩, ⟨some 60, .mv (.t 7), some (59, true)⟩, ⟨some 61, .call (.c (.fn 71 [])) [(.t 60)], some (59, true)⟩, ⟨some 62, .pick (.t 59) (.t 61) (.c (.bool false)), none⟩, ⟨some 6, .mv (.t 62), none⟩]) .ret)) (.seq (.row [⟨some 64, .mv (.t 8), none⟩, ⟨some 65, .bin .eql (.t 64) (.c (.str [115, 97, 105, 100])), none⟩, ⟨some 63, .mv (.t 65), none⟩]) (.cond (.t 63) (.seq (.drawn [⟨some 66, .mv (.t 0), none⟩, ⟨some 67, .mv (.t 0), none⟩, ⟨some 68, .nilchk (.t 67), none⟩, ⟨some 69, .faddr 4 (.t 68), none⟩, ⟨some 70, .load none (.t 69), none⟩, ⟨some 71, .mv (.t 7), none⟩, ⟨some 72, .call (.c (.fn 73 [])) [(.t 71)], none⟩, ⟨some 73, .bslice 9 1 [(.t 72)], none⟩, ⟨some 74, .app 9 1 16 (.t 70) (.t 73), none⟩, ⟨some 75, .nilchk (.t 66), none⟩, ⟨some 76, .faddr 4 (.t 75), none⟩, ⟨none, .store 1 (.t 76) (.t 74), none⟩] [[], [], [], [], [], [], [], [], [], [], [], []] [(6, 4), (7, 4)]) (.seq (.row [⟨some 77, .mv (.t 7), none⟩, ⟨some 78, .call (.c (.fn 71 [])) [(.t 77)], none⟩, ⟨some 6, .mv (.t 78), none⟩]) .ret)) .skip)))))))) (.seq (.row [⟨some 6, .mv (.c (.bool false)), none⟩]) .ret))))
def fr35 : FnR := ⟨dc35, 79, [.t 6]⟩
theorem ok35 : FnOk Tryz.prog 35 fr35 := ⟨⟨Tryz.f35, _, Tryz.func35, rfl, by kernel_rfl, rfl, by kernel_rfl, by kernel_rfl⟩⟩
def dc39 : DC := (.seq (.row [⟨some 2, .mv (.c (.bool false)), none⟩]) (.seq (.row [⟨some 3, .mv (.t 0), none⟩, ⟨some 4, .call (.c (.fn 75 [])) [(.t 3), (.c (.fn 76 []))], none⟩, ⟨some 5, .un .not (.t 4), none⟩, ⟨some 2, .mv (.t 5), none⟩]) .ret))
def fr39 : FnR := ⟨dc39, 6, [.t 2]⟩
theorem ok39 : FnOk Tryz.prog 39 fr39 := ⟨⟨Tryz.f39, _, Tryz.func39, rfl, by kernel_rfl, rfl, by kernel_rfl, by kernel_rfl⟩⟩
def dc40 : DC := (.seq (.row [⟨some 2, .mv (.c (.bool false)), none⟩]) (.seq (.row [⟨some 3, .mv (.t 0), none⟩, ⟨some 4, .call (.c (.fn 77 [])) [(.t 3), (.c (.fn 78 []))], none⟩, ⟨some 5, .un .not (.t 4), none⟩, ⟨some 2, .mv (.t 5), none⟩]) .ret))
def fr40 : FnR := ⟨dc40, 6, [.t 2]⟩
theorem ok40 : FnOk Tryz.prog 40 fr40 := ⟨⟨Tryz.f40, _, Tryz.func40, rfl, by kernel_rfl, rfl, by kernel_rfl, by kernel_rfl⟩⟩
def dc43l0 : DC := (.seq (.row [⟨some 14, .bin .lss (.t 13) (.t 12), none⟩]) (.seq (.cond (.t 14) .skip (.exit 0)) (.seq (.block 1 (.seq (.row [⟨some 15, .mv (.t 13), none⟩, ⟨some 5, .mv (.t 15), none⟩]) (.seq (.drawn [⟨some 16, .mv (.t 0), none⟩, ⟨some 17, .mv (.t 5), none⟩, ⟨some 18, .iaddr 7 (.t 16) (.t 17), none⟩, ⟨some 19, .load (some 7) (.t 18), none⟩, ⟨some 20, .mv (.t 1), none⟩, ⟨some 21, .mv (.t 5), none⟩, ⟨some 22, .iaddr 7 (.t 20) (.t 21), none⟩, ⟨some 23, .load (some 7) (.t 22), none⟩, ⟨some 24, .seq true [(0, 0), (2, 1), (2, 2), (0, 3), (0, 4), (0, 5), (1, 6)] (.t 19) (.t 23), none⟩] [[], [], [], [], [], [], [], [], []] []) (.cond (.t 24) (.seq (.row [⟨some 4, .mv (.c (.bool false)), none⟩]) .ret) .skip)))) (.row [⟨some 25, .bin .add (.t 13) (.c (.int .i64 1)), none⟩, ⟨some 13, .mv (.t 25), none⟩]))))
def dc43 : DC := (.seq (.row [⟨some 4, .mv (.c (.bool false)), none⟩]) (.seq (.seq (.row [⟨some 6, .mv (.t 0), none⟩, ⟨some 7, .len false (.t 6), none⟩, ⟨some 8, .mv (.t 1), none⟩, ⟨some 9, .len false (.t 8), none⟩, ⟨some 10, .bin .neq (.t 7) (.t 9), none⟩]) (.cond (.t 10) (.seq (.row [⟨some 4, .mv (.c (.bool false)), none⟩]) .ret) .skip)) (.seq (.seq (.row [⟨some 11, .mv (.t 0), none⟩, ⟨some 12, .len false (.t 11), none⟩, ⟨some 13, .mv (.c (.int .i64 0)), none⟩]) (.block 0 (.loop dc43l0))) (.seq (.row [⟨some 4, .mv (.c (.bool true)), none⟩]) .ret))))
def fr43 : FnR := ⟨dc43, 26, [.t 4]⟩
theorem ok43 : FnOk Tryz.prog 43 fr43 := ⟨⟨Tryz.f43, _, Tryz.func43, rfl, by kernel_rfl, rfl, by kernel_rfl, by kernel_rfl⟩⟩
def dc44l0 : DC := (.seq (.row [⟨some 14, .bin .lss (.t 13) (.t 12), none⟩]) (.seq (.cond (.t 14) .skip (.exit 0)) (.seq (.block 1 (.seq (.row [⟨some 15, .mv (.t 13), none⟩, ⟨some 5, .mv (.t 15), none⟩]) (.seq (.drawn [⟨some 16, .mv (.t 0), none⟩, ⟨some 17, .mv (.t 5), none⟩, ⟨some 18, .iaddr 1 (.t 16) (.t 17), none⟩, ⟨some 19, .load none (.t 18), none⟩, ⟨some 20, .mv (.t 1), none⟩, ⟨some 21, .mv (.t 5), none⟩, ⟨some 22, .iaddr 1 (.t 20) (.t 21), none⟩, ⟨some 23, .load none (.t 22), none⟩, ⟨some 24, .bin .neq (.t 19) (.t 23), none⟩] [[], [], [], [], [], [], [], [], []] []) (.cond (.t 24) (.seq (.row [⟨some 4, .mv (.c (.bool false)), none⟩]) .ret) .skip)))) (.row [⟨some 25, .bin .add (.t 13) (.c (.int .i64 1)), none⟩, ⟨some 13, .mv (.t 25), none⟩]))))
def dc44 : DC := (.seq (.row [⟨some 4, .mv (.c (.bool false)), none⟩]) (.seq (.seq (.row [⟨some 6, .mv (.t 0), none⟩, ⟨some 7, .len false (.t 6), none⟩, ⟨some 8, .mv (.t 1), none⟩, ⟨some 9, .len false (.t 8), none⟩, ⟨some 10, .bin .neq (.t 7) (.t 9), none⟩]) (.cond (.t 10) (.seq (.row [⟨some 4, .mv (.c (.bool false)), none⟩]) .ret) .skip)) (.seq (.seq (.row [⟨some 11, .mv (.t 0), none⟩, ⟨some 12, .len false (.t 11), none⟩, ⟨some 13, .mv (.c (.int .i64 0)), none⟩]) (.block 0 (.loop dc44l0))) (.seq (.row [⟨some 4, .mv (.c (.bool true)), none⟩]) .ret))))
def fr44 : FnR := ⟨dc44, 26, [.t 4]⟩
theorem ok44 : FnOk Tryz.prog 44 fr44 := ⟨⟨Tryz.f44, _, Tryz.func44, rfl, by kernel_rfl, rfl, by kernel_rfl, by kernel_rfl⟩⟩
def dc45 : DC := (.seq (.row [⟨some 2, .mv (.c .nilsl), none⟩, ⟨some 3, .mv (.c (.int .i64 0)), none⟩]) (.seq (.seq (.row [⟨some 5, .mv (.t 0), none⟩, ⟨some 6, .call (.c (.fn 79 [])) [(.t 5)], none⟩, ⟨some 4, .mv (.t 6), none⟩]) (.seq (.row [⟨some 7, .mv (.t 4), none⟩, ⟨some 8, .bin .neq (.t 7) (.c (.int .i64 0)), none⟩]) (.cond (.t 8) (.seq (.row [⟨some 9, .mv (.t 4), none⟩, ⟨some 2, .mv (.c .nilsl), none⟩, ⟨some 3, .mv (.t 9), none⟩]) .ret) .skip))) (.seq (.row [⟨some 10, .mv (.t 0), none⟩, ⟨some 11, .call (.c (.fn 80 [])) [(.c .nilsl), (.t 10)], none⟩, ⟨some 2, .mv (.t 11), none⟩, ⟨some 3, .mv (.c (.int .i64 0)), none⟩]) .ret)))
def fr45 : FnR := ⟨dc45, 12, [.t 2, .t 3]⟩
theorem ok45 : FnOk Tryz.prog 45 fr45 := ⟨⟨Tryz.f45, _, Tryz.func45, rfl, by kernel_rfl, rfl, by kernel_rfl, by kernel_rfl⟩⟩
def dc46l0 : DC := (.seq (.row [⟨some 10, .bin .lss (.t 9) (.t 8), none⟩]) (.seq (.cond (.t 10) .skip (.exit 0)) (.seq (.block 1 (.seq (.row [⟨some 11, .iaddr 1 (.t 7) (.t 9), none⟩, ⟨some 12, .load none (.t 11), none⟩, ⟨some 5, .mv (.t 12), none⟩]) (.row [⟨some 13, .mv (.t 3), none⟩, ⟨some 14, .mv (.t 5), none⟩, ⟨some 15, .mkif 9 (.t 14), none⟩, ⟨some 16, .bslice 20 1 [(.t 15)], none⟩, ⟨some 17, .app 20 1 16 (.t 13) (.t 16), none⟩, ⟨some 3, .mv (.t 17), none⟩]))) (.row [⟨some 18, .bin .add (.t 9) (.c (.int .i64 1)), none⟩, ⟨some 9, .mv (.t 18), none⟩]))))
def dc46 : DC := (.seq (.row [⟨some 2, .mv (.c .nilIface), none⟩]) (.seq (.row [⟨some 6, .bslice 20 1 [], none⟩, ⟨some 3, .mv (.t 6), none⟩]) (.seq (.seq (.row [⟨some 7, .mv (.t 0), none⟩, ⟨some 8, .len false (.t 7), none⟩, ⟨some 9, .mv (.c (.int .i64 0)), none⟩]) (.block 0 (.loop dc46l0))) (.seq (.row [⟨some 19, .mv (.t 3), none⟩, ⟨some 20, .mkif 99 (.t 19), none⟩, ⟨some 2, .mv (.t 20), none⟩]) .ret))))
def fr46 : FnR := ⟨dc46, 21, [.t 2]⟩
theorem ok46 : FnOk Tryz.prog 46 fr46 := ⟨⟨Tryz.f46, _, Tryz.func46, rfl, by kernel_rfl, rfl, by kernel_rfl, by kernel_rfl⟩⟩
def dc47l0 : DC := (.seq (.row [⟨some 10, .bin .lss (.t 9) (.t 8), none⟩]) (.seq (.cond (.t 10) .skip (.exit 0)) (.seq (.block 1 (.seq (.row [⟨some 11, .iaddr 7 (.t 7) (.t 9), none⟩, ⟨some 12, .load (some 7) (.t 11), none⟩, ⟨some 5, .alloc 65 [.int .i64 0, .str [], .str [], .int .i64 0, .int .i64 0, .int .i64 0, .bool false], none⟩, ⟨none, .store 7 (.t 5) (.t 12), none⟩]) (.drawn [⟨some 13, .mv (.t 3), none⟩, ⟨some 14, .faddr 4 (.t 5), none⟩, ⟨some 15, .load none (.t 14), none⟩, ⟨some 16, .call (.c (.fn 48 [])) [(.t 15)], none⟩, ⟨some 17, .faddr 0 (.t 5), none⟩, ⟨some 18, .load none (.t 17), none⟩, ⟨some 19, .call (.c (.fn 48 [])) [(.t 18)], none⟩, ⟨some 20, .faddr 3 (.t 5), none⟩, ⟨some 21, .load none (.t 20), none⟩, ⟨some 22, .call (.c (.fn 48 [])) [(.t 21)], none⟩, ⟨some 23, .faddr 5 (.t 5), none⟩, ⟨some 24, .load none (.t 23), none⟩, ⟨some 25, .call (.c (.fn 48 [])) [(.t 24)], none⟩, ⟨some 26, .faddr 6 (.t 5), none⟩, ⟨some 27, .load none (.t 26), none⟩, ⟨some 28, .mkif 4 (.t 27), none⟩, ⟨some 29, .faddr 1 (.t 5), none⟩, ⟨some 30, .load none (.t 29), none⟩, ⟨some 31, .mkif 9 (.t 30), none⟩, ⟨some 32, .faddr 2 (.t 5), none⟩, ⟨some 33, .load none (.t 32), none⟩, ⟨some 34, .mkif 9 (.t 33), none⟩, ⟨some 35, .bslice 20 1 [(.t 16), (.t 19), (.t 22), (.t 25), (.t 28), (.t 31), (.t 34)], none⟩, ⟨some 36, .mkif 99 (.t 35), none⟩, ⟨some 37, .bslice 20 1 [(.t 36)], none⟩, ⟨some 38, .app 20 1 16 (.t 13) (.t 37), none⟩, ⟨some 3, .mv (.t 38), none⟩] [[], [], [], [], [], [], [], [], [], [], [], [], [], [], [], [], [], [], [], [], [], [], [], [], [], [], []] [(3, 5), (3, 8), (3, 11), (3, 14), (3, 17), (3, 20), (6, 8), (6, 11), (6, 14), (6, 17), (6, 20), (9, 11), (9, 14), (9, 17), (9, 20), (12, 14), (12, 17), (12, 20)]))) (.row [⟨some 39, .bin .add (.t 9) (.c (.int .i64 1)), none⟩, ⟨some 9, .mv (.t 39), none⟩]))))
def dc47 : DC := (.seq (.row [⟨some 2, .mv (.c .nilIface), none⟩]) (.seq (.row [⟨some 6, .bslice 20 1 [], none⟩, ⟨some 3, .mv (.t 6), none⟩]) (.seq (.seq (.row [⟨some 7, .mv (.t 0), none⟩, ⟨some 8, .len false (.t 7), none⟩, ⟨some 9, .mv (.c (.int .i64 0)), none⟩]) (.block 0 (.loop dc47l0))) (.seq (.row [⟨some 40, .mv (.t 3), none⟩, ⟨some 41, .mkif 99 (.t 40), none⟩, ⟨some 2, .mv (.t 41), none⟩]) .ret))))
def fr47 : FnR := ⟨dc47, 42, [.t 2]⟩
theorem ok47 : FnOk Tryz.prog 47 fr47 := ⟨⟨Tryz.f47, _, Tryz.func47, rfl, by kernel_rfl, rfl, by kernel_rfl, by kernel_rfl⟩⟩
def dc48 : DC := (.seq (.row [⟨some 2, .mv (.c .nilIface), none⟩]) (.seq (.row [⟨some 3, .mv (.t 0), none⟩, ⟨some 4, .bin .add (.c (.int .i64 1099511627776)) (.t 3), none⟩, ⟨some 5, .conv .u64 (.t 4), none⟩, ⟨some 6, .mkif 86 (.t 5), none⟩, ⟨some 2, .mv (.t 6), none⟩]) .ret))
def fr48 : FnR := ⟨dc48, 7, [.t 2]⟩
theorem ok48 : FnOk Tryz.prog 48 fr48 := ⟨⟨Tryz.f48, _, Tryz.func48, rfl, by kernel_rfl, rfl, by kernel_rfl, by kernel_rfl⟩⟩
def dc53 : DC := (.seq (.row [⟨some 2, .mv (.c .nilIface), none⟩, ⟨some 3, .mv (.c (.int .i64 0)), none⟩]) (.seq (.row [⟨some 7, .mv (.t 0), none⟩, ⟨some 8, .build [.str [], .int .i64 0, .int .i64 0] [(0, 1, (.t 7))], none⟩, ⟨some 9, .build [.str [], .int .i64 0, .int .i64 0] [(0, 3, (.t 8))], none⟩, ⟨some 10, .box 135 (.t 9), none⟩, ⟨some 4, .mv (.t 10), none⟩]) (.seq (.row [⟨some 11, .mv (.t 4), none⟩, ⟨some 12, .call (.c (.fn 84 [])) [(.t 11), (.c (.int .i64 0))], none⟩, ⟨some 5, .mv (.t 12), none⟩]) (.seq (.seq (.row [⟨some 13, .mv (.t 4), none⟩, ⟨some 14, .nilchk (.t 13), none⟩, ⟨some 15, .faddr 0 (.t 14), none⟩, ⟨some 16, .load (some 3) (.t 15), none⟩, ⟨some 17, .call (.c (.fn 85 [])) [(.t 16)], none⟩, ⟨some 6, .mv (.t 17), none⟩]) (.seq (.row [⟨some 18, .mv (.t 6), none⟩, ⟨some 19, .bin .neq (.t 18) (.c (.int .i64 0)), none⟩]) (.cond (.t 19) (.seq (.row [⟨some 20, .mv (.t 6), none⟩, ⟨some 2, .mv (.c .nilIface), none⟩, ⟨some 3, .mv (.t 20), none⟩]) .ret) .skip))) (.seq (.row [⟨some 21, .mv (.t 5), none⟩, ⟨some 2, .mv (.t 21), none⟩, ⟨some 3, .mv (.c (.int .i64 0)), none⟩]) .ret)))))
def fr53 : FnR := ⟨dc53, 22, [.t 2, .t 3]⟩
theorem ok53 : FnOk Tryz.prog 53 fr53 := ⟨⟨Tryz.f53, _, Tryz.func53, rfl, by kernel_rfl, rfl, by kernel_rfl, by kernel_rfl⟩⟩
def dc54l0 : DC := (.seq (.row [⟨some 36, .bin .lss (.t 35) (.t 34), none⟩]) (.seq (.cond (.t 36) .skip (.exit 0)) (.seq (.block 1 (.seq (.row [⟨some 37, .mv (.t 35), none⟩, ⟨some 38, .iaddr 2 (.t 33) (.t 35), none⟩, ⟨some 39, .load (some 2) (.t 38), none⟩, ⟨some 11, .alloc 82 [.str [], .nilIface], none⟩, ⟨some 10, .mv (.t 37), none⟩, ⟨none, .store 2 (.t 11) (.t 39), none⟩]) (.seq (.drawn [⟨some 40, .mv (.t 0), none⟩, ⟨some 41, .mv (.t 0), none⟩, ⟨some 42, .nilchk (.t 41), none⟩, ⟨some 43, .faddr 0 (.t 42), none⟩, ⟨some 44, .load none (.t 43), none⟩, ⟨some 45, .mv (.t 44), none⟩, ⟨some 46, .faddr 0 (.t 11), some (45, false)⟩, ⟨some 47, .load none (.t 46), some (45, false)⟩, ⟨some 48, .mv (.t 2), some (45, false)⟩, ⟨some 49, .mv (.t 10), some (45, false)⟩, ⟨some 50, .iaddr 1 (.t 48) (.t 49), some (45, false)⟩, ⟨some 51, .load none (.t 50), some (45, false)⟩, ⟨some 52, .bin .neq (.t 47) (.t 51), some (45, false)⟩, ⟨some 53, .pick (.t 45) (.c (.bool true)) (.t 52), none⟩, ⟨some 54, .nilchk (.t 40), none⟩, ⟨some 55, .faddr 0 (.t 54), none⟩, ⟨none, .store 1 (.t 55) (.t 53), none⟩] [[], [], [], [], [], [], [], [], [], [], [], [], [], [], [], [], []] []) (.row [⟨some 56, .mv (.t 9), none⟩, ⟨some 57, .mv (.t 10), none⟩, ⟨some 58, .faddr 1 (.t 11), none⟩, ⟨some 59, .load none (.t 58), none⟩, ⟨some 60, .iaddr 1 (.t 56) (.t 57), none⟩, ⟨none, .store 1 (.t 60) (.t 59), none⟩])))) (.row [⟨some 61, .bin .add (.t 35) (.c (.int .i64 1)), none⟩, ⟨some 35, .mv (.t 61), none⟩]))))
def dc54 : DC := (.seq (.row [⟨some 6, .mv (.c .nilsl), none⟩]) (.seq (.row [⟨some 13, .mv (.t 1), none⟩, ⟨some 14, .tass 85 true .nilsl (.t 13), none⟩, ⟨some 12, .mv (.t 14), none⟩, ⟨some 15, .ext 0 (.t 12), none⟩, ⟨some 16, .ext 1 (.t 12), none⟩, ⟨some 7, .mv (.t 15), none⟩, ⟨some 8, .mv (.t 16), none⟩]) (.seq (.row [⟨some 17, .mv (.t 2), none⟩, ⟨some 18, .len false (.t 17), none⟩, ⟨some 19, .mksl 20 1 16 .nilIface (.t 18) (.t 18), none⟩, ⟨some 9, .mv (.t 19), none⟩]) (.seq (.seq (.row [⟨some 20, .mv (.t 8), none⟩, ⟨some 21, .un .not (.t 20), none⟩, ⟨some 22, .mv (.t 21), none⟩, ⟨some 23, .mv (.t 7), some (22, false)⟩, ⟨some 24, .len false (.t 23), some (22, false)⟩, ⟨some 25, .mv (.t 2), some (22, false)⟩, ⟨some 26, .len false (.t 25), some (22, false)⟩, ⟨some 27, .bin .neq (.t 24) (.t 26), some (22, false)⟩, ⟨some 28, .pick (.t 22) (.c (.bool true)) (.t 27), none⟩]) (.cond (.t 28) (.seq (.row [⟨some 29, .mv (.t 0), none⟩, ⟨some 30, .nilchk (.t 29), none⟩, ⟨some 31, .faddr 0 (.t 30), none⟩, ⟨none, .store 1 (.t 31) (.c (.bool true)), none⟩]) (.seq (.row [⟨some 32, .mv (.t 9), none⟩, ⟨some 6, .mv (.t 32), none⟩]) .ret)) .skip)) (.seq (.seq (.row [⟨some 33, .mv (.t 7), none⟩, ⟨some 34, .len false (.t 33), none⟩, ⟨some 35, .mv (.c (.int .i64 0)), none⟩]) (.block 0 (.loop dc54l0))) (.seq (.row [⟨some 62, .mv (.t 9), none⟩, ⟨some 6, .mv (.t 62), none⟩]) .ret))))))
def fr54 : FnR := ⟨dc54, 63, [.t 6]⟩
theorem ok54 : FnOk Tryz.prog 54 fr54 := ⟨⟨Tryz.f54, _, Tryz.func54, rfl, by kernel_rfl, rfl, by kernel_rfl, by kernel_rfl⟩⟩
def dc55 : DC := (.seq (.row [⟨some 4, .mv (.c (.int .i64 0)), none⟩]) (.seq (.row [⟨some 8, .mv (.t 1), none⟩, ⟨some 9, .call (.c (.fn 86 [])) [(.t 8)], none⟩, ⟨some 7, .mv (.t 9), none⟩, ⟨some 10, .ext 0 (.t 7), none⟩, ⟨some 11, .ext 1 (.t 7), none⟩, ⟨some 5, .mv (.t 10), none⟩, ⟨some 6, .mv (.t 11), none⟩]) (.seq (.seq (.row [⟨some 12, .mv (.t 6), none⟩, ⟨some 13, .un .not (.t 12), none⟩, ⟨some 14, .mv (.t 13), none⟩, ⟨some 15, .mv (.t 5), some (14, false)⟩, ⟨some 16, .bin .gtr (.t 15) (.c (.int .u64 2199023255552)), some (14, false)⟩, ⟨some 17, .pick (.t 14) (.c (.bool true)) (.t 16), none⟩]) (.cond (.t 17) (.seq (.row [⟨some 18, .mv (.t 0), none⟩, ⟨some 19, .nilchk (.t 18), none⟩, ⟨some 20, .faddr 0 (.t 19), none⟩, ⟨none, .store 1 (.t 20) (.c (.bool true)), none⟩]) (.seq (.row [⟨some 4, .mv (.c (.int .i64 0)), none⟩]) .ret)) .skip)) (.seq (.row [⟨some 21, .mv (.t 5), none⟩, ⟨some 22, .conv .i64 (.t 21), none⟩, ⟨some 23, .bin .sub (.t 22) (.c (.int .i64 1099511627776)), none⟩, ⟨some 4, .mv (.t 23), none⟩]) .ret))))
def fr55 : FnR := ⟨dc55, 24, [.t 4]⟩
theorem ok55 : FnOk Tryz.prog 55 fr55 := ⟨⟨Tryz.f55, _, Tryz.func55, rfl, by kernel_rfl, rfl, by kernel_rfl, by kernel_rfl⟩⟩
def dc56 : DC := (.seq (.row [⟨some 4, .mv (.c (.bool false)), none⟩]) (.seq (.row [⟨some 8, .mv (.t 1), none⟩, ⟨some 9, .tass 4 true (.bool false) (.t 8), none⟩, ⟨some 7, .mv (.t 9), none⟩, ⟨some 10, .ext 0 (.t 7), none⟩, ⟨some 11, .ext 1 (.t 7), none⟩, ⟨some 5, .mv (.t 10), none⟩, ⟨some 6, .mv (.t 11), none⟩]) (.seq (.row [⟨some 12, .mv (.t 0), none⟩, ⟨some 13, .mv (.t 0), none⟩, ⟨some 14, .nilchk (.t 13), none⟩, ⟨some 15, .faddr 0 (.t 14), none⟩, ⟨some 16, .load none (.t 15), none⟩, ⟨some 17, .mv (.t 16), none⟩, ⟨some 18, .mv (.t 6), some (17, false)⟩, ⟨some 19, .un .not (.t 18), some (17, false)⟩, ⟨some 20, .pick (.t 17) (.c (.bool true)) (.t 19), none⟩, ⟨some 21, .nilchk (.t 12), none⟩, ⟨some 22, .faddr 0 (.t 21), none⟩, ⟨none, .store 1 (.t 22) (.t 20), none⟩]) (.seq (.row [⟨some 23, .mv (.t 5), none⟩, ⟨some 4, .mv (.t 23), none⟩]) .ret))))
def fr56 : FnR := ⟨dc56, 24, [.t 4]⟩
theorem ok56 : FnOk Tryz.prog 56 fr56 := ⟨⟨Tryz.f56, _, Tryz.func56, rfl, by kernel_rfl, rfl, by kernel_rfl, by kernel_rfl⟩⟩
end Go.Ve

namespace Go.Ve
open Go.Proofs
set_option maxRecDepth 100000
def dc57 : DC := (.seq (.row [⟨some 4, .mv (.c .nilsl), none⟩]) (.seq (.row [⟨some 8, .mv (.t 1), none⟩, ⟨some 9, .tass 99 true .nilsl (.t 8), none⟩, ⟨some 7, .mv (.t 9), none⟩, ⟨some 10, .ext 0 (.t 7), none⟩, ⟨some 11, .ext 1 (.t 7), none⟩, ⟨some 5, .mv (.t 10), none⟩, ⟨some 6, .mv (.t 11), none⟩]) (.seq (.row [⟨some 12, .mv (.t 0), none⟩, ⟨some 13, .mv (.t 0), none⟩, ⟨some 14, .nilchk (.t 13), none⟩, ⟨some 15, .faddr 0 (.t 14), none⟩, ⟨some 16, .load none (.t 15), none⟩, ⟨some 17, .mv (.t 16), none⟩, ⟨some 18, .mv (.t 6), some (17, false)⟩, ⟨some 19, .un .not (.t 18), some (17, false)⟩, ⟨some 20, .pick (.t 17) (.c (.bool true)) (.t 19), none⟩, ⟨some 21, .nilchk (.t 12), none⟩, ⟨some 22, .faddr 0 (.t 21), none⟩, ⟨none, .store 1 (.t 22) (.t 20), none⟩]) (.seq (.row [⟨some 23, .mv (.t 5), none⟩, ⟨some 4, .mv (.t 23), none⟩]) .ret))))
def fr57 : FnR := ⟨dc57, 24, [.t 4]⟩
theorem ok57 : FnOk Tryz.prog 57 fr57 := ⟨⟨Tryz.f57, _, Tryz.func57, rfl, by kernel_rfl, rfl, by kernel_rfl, by kernel_rfl⟩⟩
def dc58 : DC := (.seq (.row [⟨some 4, .mv (.c (.str [])), none⟩]) (.seq (.row [⟨some 8, .mv (.t 1), none⟩, ⟨some 9, .call (.c (.fn 87 [])) [(.t 8)], none⟩, ⟨some 7, .mv (.t 9), none⟩, ⟨some 10, .ext 0 (.t 7), none⟩, ⟨some 11, .ext 1 (.t 7), none⟩, ⟨some 5, .mv (.t 10), none⟩, ⟨some 6, .mv (.t 11), none⟩]) (.seq (.row [⟨some 12, .mv (.t 0), none⟩, ⟨some 13, .mv (.t 0), none⟩, ⟨some 14, .nilchk (.t 13), none⟩, ⟨some 15, .faddr 0 (.t 14), none⟩, ⟨some 16, .load none (.t 15), none⟩, ⟨some 17, .mv (.t 16), none⟩, ⟨some 18, .mv (.t 6), some (17, false)⟩, ⟨some 19, .un .not (.t 18), some (17, false)⟩, ⟨some 20, .pick (.t 17) (.c (.bool true)) (.t 19), none⟩, ⟨some 21, .nilchk (.t 12), none⟩, ⟨some 22, .faddr 0 (.t 21), none⟩, ⟨none, .store 1 (.t 22) (.t 20), none⟩]) (.seq (.row [⟨some 23, .mv (.t 5), none⟩, ⟨some 4, .mv (.t 23), none⟩]) .ret))))
def fr58 : FnR := ⟨dc58, 24, [.t 4]⟩
theorem ok58 : FnOk Tryz.prog 58 fr58 := ⟨⟨Tryz.f58, _, Tryz.func58, rfl, by kernel_rfl, rfl, by kernel_rfl, by kernel_rfl⟩⟩
def dc59 : DC := (.seq (.row [⟨some 4, .alloc 65 [.int .i64 0, .str [], .str [], .int .i64 0, .int .i64 0, .int .i64 0, .bool false], none⟩]) (.seq (.row [⟨some 6, .mv (.t 0), none⟩, ⟨some 7, .mv (.t 1), none⟩, ⟨some 8, .call (.c (.fn 57 [])) [(.t 6), (.t 7)], none⟩, ⟨some 5, .mv (.t 8), none⟩]) (.seq (.seq (.row [⟨some 9, .mv (.t 5), none⟩, ⟨some 10, .len false (.t 9), none⟩, ⟨some 11, .bin .neq (.t 10) (.c (.int .i64 7)), none⟩]) (.cond (.t 11) (.seq (.row [⟨some 12, .mv (.t 0), none⟩, ⟨some 13, .nilchk (.t 12), none⟩, ⟨some 14, .faddr 0 (.t 13), none⟩, ⟨none, .store 1 (.t 14) (.c (.bool true)), none⟩]) (.seq (.row [⟨some 15, .build [.int .i64 0, .str [], .str [], .int .i64 0, .int .i64 0, .int .i64 0, .bool false] [], none⟩, ⟨none, .store 7 (.t 4) (.t 15), none⟩]) .ret)) .skip)) (.seq (.drawn [⟨some 16, .mv (.t 0), none⟩, ⟨some 17, .mv (.t 5), none⟩, ⟨some 18, .iaddr 1 (.t 17) (.c (.int .i64 0)), none⟩, ⟨some 19, .load none (.t 18), none⟩, ⟨some 20, .call (.c (.fn 55 [])) [(.t 16), (.t 19)], none⟩, ⟨some 21, .mv (.t 0), none⟩, ⟨some 22, .mv (.t 5), none⟩, ⟨some 23, .iaddr 1 (.t 22) (.c (.int .i64 1)), none⟩, ⟨some 24, .load none (.t 23), none⟩, ⟨some 25, .call (.c (.fn 55 [])) [(.t 21), (.t 24)], none⟩, ⟨some 26, .mv (.t 0), none⟩, ⟨some 27, .mv (.t 5), none⟩, ⟨some 28, .iaddr 1 (.t 27) (.c (.int .i64 2)), none⟩, ⟨some 29, .load none (.t 28), none⟩, ⟨some 30, .call (.c (.fn 55 [])) [(.t 26), (.t 29)], none⟩, ⟨some 31, .mv (.t 0), none⟩, ⟨some 32, .mv (.t 5), none⟩, ⟨some 33, .iaddr 1 (.t 32) (.c (.int .i64 3)), none⟩, ⟨some 34, .load none (.t 33), none⟩, ⟨some 35, .call (.c (.fn 55 [])) [(.t 31), (.t 34)], none⟩, ⟨some 36, .mv (.t 0), none⟩, ⟨some 37, .mv (.t 5), none⟩, ⟨some 38, .iaddr 1 (.t 37) (.c (.int .i64 4)), none⟩, ⟨some 39, .load none (.t 38), none⟩, ⟨some 40, .call (.c (.fn 56 [])) [(.t 36), (.t 39)], none⟩, ⟨some 41, .mv (.t 0), none⟩, ⟨some 42, .mv (.t 5), none⟩, ⟨some 43, .iaddr 1 (.t 42) (.c (.int .i64 5)), none⟩, ⟨some 44, .load none (.t 43), none⟩, ⟨some 45, .call (.c (.fn 58 [])) [(.t 41), (.t 44)], none⟩, ⟨some 46, .mv (.t 0), none⟩, ⟨some 47, .mv (.t 5), none⟩, ⟨some 48, .iaddr 1 (.t 47) (.c (.int .i64 6)), none⟩, ⟨some 49, .load none (.t 48), none⟩, ⟨some 50, .call (.c (.fn 58 [])) [(.t 46), (.t 49)], none⟩, ⟨some 51, .build [.int .i64 0, .str [], .str [], .int .i64 0, .int .i64 0, .int .i64 0, .bool false] [(4, 1, (.t 20)), (0, 1, (.t 25)), (3, 1, (.t 30)), (5, 1, (.t 35)), (6, 1, (.t 40)), (1, 1, (.t 45)), (2, 1, (.t 50))], none⟩, ⟨none, .store 7 (.t 4) (.t 51), none⟩] [[], [], [], [], [], [], [], [], [], [], [], [], [], [], [], [], [], [], [], [], [], [], [], [], [], [], [], [], [], [], [], [], [], [], [], [], []] [(4, 8), (4, 13), (4, 18), (4, 23), (4, 28), (4, 33), (9, 13), (9, 18), (9, 23), (9, 28), (9, 33), (14, 18), (14, 23), (14, 28), (14, 33), (19, 23), (19, 28), (19, 33), (24, 28), (24, 33), (29, 33)]) .ret))))
def fr59 : FnR := ⟨dc59, 52, [.cell (some 7) 4]⟩
theorem ok59 : FnOk Tryz.prog 59 fr59 := ⟨⟨Tryz.f59, _, Tryz.func59, rfl, by kernel_rfl, rfl, by kernel_rfl, by kernel_rfl⟩⟩
def dc63 : DC := (.seq (.row [⟨some 4, .mv (.c (.str [])), none⟩, ⟨some 5, .mv (.c (.bool false)), none⟩]) (.seq (.row [⟨some 6, .mv (.t 0), none⟩, ⟨some 7, .mv (.t 1), none⟩, ⟨some 8, .call (.c (.fn 90 [])) [(.t 6), (.t 7)], none⟩, ⟨some 9, .ext 0 (.t 8), none⟩, ⟨some 10, .ext 1 (.t 8), none⟩, ⟨some 4, .mv (.t 9), none⟩, ⟨some 5, .mv (.t 10), none⟩]) .ret))
def fr63 : FnR := ⟨dc63, 11, [.t 4, .t 5]⟩
theorem ok63 : FnOk Tryz.prog 63 fr63 := ⟨⟨Tryz.f63, _, Tryz.func63, rfl, by kernel_rfl, rfl, by kernel_rfl, by kernel_rfl⟩⟩
def dc65l0 : DC := (.seq (.row [⟨some 14, .bin .lss (.t 13) (.t 12), none⟩]) (.seq (.cond (.t 14) .skip (.exit 0)) (.seq (.block 1 (.seq (.row [⟨some 15, .iaddr 1 (.t 11) (.t 13), none⟩, ⟨some 16, .load none (.t 15), none⟩, ⟨some 5, .mv (.t 16), none⟩]) (.drawn [⟨some 17, .mv (.t 3), none⟩, ⟨some 18, .mv (.t 5), none⟩, ⟨some 19, .bin .shr (.t 18) (.c (.int .u64 4)), none⟩, ⟨some 20, .idxs (.c (.str [48, 49, 50, 51, 52, 53, 54, 55, 56, 57, 97, 98, 99, 100, 101, 102])) (.t 19), none⟩, ⟨some 21, .mv (.t 5), none⟩, ⟨some 22, .bin .and (.t 21) (.c (.int .u8 15)), none⟩, ⟨some 23, .idxs (.c (.str [48, 49, 50, 51, 52, 53, 54, 55, 56, 57, 97, 98, 99, 100, 101, 102])) (.t 22), none⟩, ⟨some 24, .bslice 5 1 [(.t 20), (.t 23)], none⟩, ⟨some 25, .app 5 1 1 (.t 17) (.t 24), none⟩, ⟨some 3, .mv (.t 25), none⟩] [[], [], [], [], [], [], [], [], [], []] []))) (.row [⟨some 26, .bin .add (.t 13) (.c (.int .i64 1)), none⟩, ⟨some 13, .mv (.t 26), none⟩]))))
def dc65 : DC := (.seq (.row [⟨some 2, .mv (.c (.str [])), none⟩]) (.seq (.row [⟨some 6, .mv (.t 0), none⟩, ⟨some 7, .len true (.t 6), none⟩, ⟨some 8, .bin .mul (.c (.int .i64 2)) (.t 7), none⟩, ⟨some 9, .mksl 5 1 1 (.int .u8 0) (.c (.int .i64 0)) (.t 8), none⟩, ⟨some 3, .mv (.t 9), none⟩]) (.seq (.seq (.row [⟨some 10, .mv (.t 0), none⟩, ⟨some 11, .s2b 5 (.t 10), none⟩, ⟨some 12, .len false (.t 11), none⟩, ⟨some 13, .mv (.c (.int .i64 0)), none⟩]) (.block 0 (.loop dc65l0))) (.seq (.row [⟨some 27, .mv (.t 3), none⟩, ⟨some 28, .b2s (.t 27), none⟩, ⟨some 2, .mv (.t 28), none⟩]) .ret))))
def fr65 : FnR := ⟨dc65, 29, [.t 2]⟩
theorem ok65 : FnOk Tryz.prog 65 fr65 := ⟨⟨Tryz.f65, _, Tryz.func65, rfl, by kernel_rfl, rfl, by kernel_rfl, by kernel_rfl⟩⟩
def dc67 : DC := (.seq (.row [⟨some 4, .mv (.c .nilsl), none⟩]) (.seq (.row [⟨some 5, .mv (.t 0), none⟩, ⟨some 6, .mv (.t 1), none⟩, ⟨some 7, .call (.c (.fn 94 [])) [(.t 5), (.t 6), (.c (.int .i64 0)), (.c (.int .i64 (-1)))], none⟩, ⟨some 4, .mv (.t 7), none⟩]) .ret))
def fr67 : FnR := ⟨dc67, 8, [.t 4]⟩
theorem ok67 : FnOk Tryz.prog 67 fr67 := ⟨⟨Tryz.f67, _, Tryz.func67, rfl, by kernel_rfl, rfl, by kernel_rfl, by kernel_rfl⟩⟩
def dc68 : DC := (.seq (.row [⟨some 2, .mv (.c (.str [])), none⟩]) (.seq (.seq (.row [⟨some 4, .mv (.t 0), none⟩, ⟨some 5, .nilchk (.t 4), none⟩, ⟨some 6, .faddr 0 (.t 5), none⟩, ⟨some 7, .load none (.t 6), none⟩, ⟨some 8, .len false (.t 7), none⟩, ⟨some 9, .bin .eql (.t 8) (.c (.int .i64 0)), none⟩]) (.cond (.t 9) (.seq (.row [⟨some 10, .mv (.t 0), none⟩, ⟨some 11, .nilchk (.t 10), none⟩, ⟨some 12, .faddr 1 (.t 11), none⟩, ⟨none, .store 1 (.t 12) (.c (.bool true)), none⟩]) (.seq (.row [⟨some 2, .mv (.c (.str [])), none⟩]) .ret)) .skip)) (.seq (.row [⟨some 13, .mv (.t 0), none⟩, ⟨some 14, .nilchk (.t 13), none⟩, ⟨some 15, .faddr 0 (.t 14), none⟩, ⟨some 16, .load none (.t 15), none⟩, ⟨some 17, .iaddr 1 (.t 16) (.c (.int .i64 0)), none⟩, ⟨some 18, .load none (.t 17), none⟩, ⟨some 3, .mv (.t 18), none⟩]) (.seq (.row [⟨some 19, .mv (.t 0), none⟩, ⟨some 20, .mv (.t 0), none⟩, ⟨some 21, .nilchk (.t 20), none⟩, ⟨some 22, .faddr 0 (.t 21), none⟩, ⟨some 23, .load none (.t 22), none⟩, ⟨some 24, .cutl 1 (.t 23) (some (.c (.int .i64 1))) none, none⟩, ⟨some 25, .nilchk (.t 19), none⟩, ⟨some 26, .faddr 0 (.t 25), none⟩, ⟨none, .store 1 (.t 26) (.t 24), none⟩]) (.seq (.row [⟨some 27, .mv (.t 3), none⟩, ⟨some 2, .mv (.t 27), none⟩]) .ret)))))
def fr68 : FnR := ⟨dc68, 28, [.t 2]⟩
theorem ok68 : FnOk Tryz.prog 68 fr68 := ⟨⟨Tryz.f68, _, Tryz.func68, rfl, by kernel_rfl, rfl, by kernel_rfl, by kernel_rfl⟩⟩
def dc69 : DC := (.seq (.row [⟨some 2, .mv (.c (.int .i64 0)), none⟩]) (.seq (.row [⟨some 6, .mv (.t 0), none⟩, ⟨some 7, .call (.c (.fn 68 [])) [(.t 6)], none⟩, ⟨some 8, .call (.c (.fn 25 [])) [(.t 7)], none⟩, ⟨some 5, .mv (.t 8), none⟩, ⟨some 9, .ext 0 (.t 5), none⟩, ⟨some 10, .ext 1 (.t 5), none⟩, ⟨some 3, .mv (.t 9), none⟩, ⟨some 4, .mv (.t 10), none⟩]) (.seq (.row [⟨some 11, .mv (.t 0), none⟩, ⟨some 12, .mv (.t 0), none⟩, ⟨some 13, .nilchk (.t 12), none⟩, ⟨some 14, .faddr 1 (.t 13), none⟩, ⟨some 15, .load none (.t 14), none⟩, ⟨some 16, .mv (.t 15), none⟩, ⟨some 17, .mv (.t 4), some (16, false)⟩, ⟨some 18, .un .not (.t 17), some (16, false)⟩, ⟨some 19, .pick (.t 16) (.c (.bool true)) (.t 18), none⟩, ⟨some 20, .nilchk (.t 11), none⟩, ⟨some 21, .faddr 1 (.t 20), none⟩, ⟨none, .store 1 (.t 21) (.t 19), none⟩]) (.seq (.row [⟨some 22, .mv (.t 3), none⟩, ⟨some 2, .mv (.t 22), none⟩]) .ret))))
def fr69 : FnR := ⟨dc69, 23, [.t 2]⟩
theorem ok69 : FnOk Tryz.prog 69 fr69 := ⟨⟨Tryz.f69, _, Tryz.func69, rfl, by kernel_rfl, rfl, by kernel_rfl, by kernel_rfl⟩⟩
def dc70 : DC := (.seq (.row [⟨some 2, .mv (.c (.bool false)), none⟩]) (.seq (.row [⟨some 4, .mv (.t 0), none⟩, ⟨some 5, .call (.c (.fn 68 [])) [(.t 4)], none⟩, ⟨some 3, .mv (.t 5), none⟩]) (.seq (.row [⟨some 6, .mv (.t 0), none⟩, ⟨some 7, .mv (.t 0), none⟩, ⟨some 8, .nilchk (.t 7), none⟩, ⟨some 9, .faddr 1 (.t 8), none⟩, ⟨some 10, .load none (.t 9), none⟩, ⟨some 11, .mv (.t 10), none⟩, ⟨some 12, .mv (.t 3), some (11, false)⟩, ⟨some 13, .bin .neq (.t 12) (.c (.str [48])), some (11, false)⟩, ⟨some 14, .mv (.t 13), some (11, false)⟩, ⟨some 15, .mv (.t 3), some (14, true)⟩, ⟨some 16, .bin .neq (.t 15) (.c (.str [49])), some (14, true)⟩, ⟨some 17, .pick (.t 14) (.t 16) (.c (.bool false)), some (11, false)⟩, ⟨some 18, .pick (.t 11) (.c (.bool true)) (.t 17), none⟩, ⟨some 19, .nilchk (.t 6), none⟩, ⟨some 20, .faddr 1 (.t 19), none⟩, ⟨none, .store 1 (.t 20) (.t 18), none⟩]) (.seq (.row [⟨some 21, .mv (.t 3), none⟩, ⟨some 22, .bin .eql (.t 21) (.c (.str [49])), none⟩, ⟨some 2, .mv (.t 22), none⟩]) .ret))))
def fr70 : FnR := ⟨dc70, 23, [.t 2]⟩
theorem ok70 : FnOk Tryz.prog 70 fr70 := ⟨⟨Tryz.f70, _, Tryz.func70, rfl, by kernel_rfl, rfl, by kernel_rfl, by kernel_rfl⟩⟩
def dc71 : DC := (.seq (.row [⟨some 2, .mv (.c (.bool false)), none⟩]) (.seq (.row [⟨some 3, .mv (.t 0), none⟩, ⟨some 4, .nilchk (.t 3), none⟩, ⟨some 5, .faddr 1 (.t 4), none⟩, ⟨some 6, .load none (.t 5), none⟩, ⟨some 7, .un .not (.t 6), none⟩, ⟨some 8, .mv (.t 7), none⟩, ⟨some 9, .mv (.t 0), some (8, true)⟩, ⟨some 10, .nilchk (.t 9), some (8, true)⟩, ⟨some 11, .faddr 0 (.t 10), some (8, true)⟩, ⟨some 12, .load none (.t 11), some (8, true)⟩, ⟨some 13, .len false (.t 12), some (8, true)⟩, ⟨some 14, .bin .eql (.t 13) (.c (.int .i64 0)), some (8, true)⟩, ⟨some 15, .pick (.t 8) (.t 14) (.c (.bool false)), none⟩, ⟨some 2, .mv (.t 15), none⟩]) .ret))
def fr71 : FnR := ⟨dc71, 16, [.t 2]⟩
theorem ok71 : FnOk Tryz.prog 71 fr71 := ⟨⟨Tryz.f71, _, Tryz.func71, rfl, by kernel_rfl, rfl, by kernel_rfl, by kernel_rfl⟩⟩
def dc72 : DC := (.seq (.row [⟨some 2, .alloc 65 [.int .i64 0, .str [], .str [], .int .i64 0, .int .i64 0, .int .i64 0, .bool false], none⟩]) (.seq (.row [⟨some 4, .mv (.t 0), none⟩, ⟨some 5, .call (.c (.fn 69 [])) [(.t 4)], none⟩, ⟨some 6, .mv (.t 0), none⟩, ⟨some 7, .call (.c (.fn 69 [])) [(.t 6)], none⟩, ⟨some 8, .mv (.t 0), none⟩, ⟨some 9, .call (.c (.fn 69 [])) [(.t 8)], none⟩, ⟨some 10, .mv (.t 0), none⟩, ⟨some 11, .call (.c (.fn 69 [])) [(.t 10)], none⟩, ⟨some 12, .build [.int .i64 0, .str [], .str [], .int .i64 0, .int .i64 0, .int .i64 0, .bool false] [(0, 1, (.t 5)), (3, 1, (.t 7)), (4, 1, (.t 9)), (5, 1, (.t 11))], none⟩, ⟨some 3, .alloc 65 [.int .i64 0, .str [], .str [], .int .i64 0, .int .i64 0, .int .i64 0, .bool false], none⟩, ⟨none, .store 7 (.t 3) (.t 12), none⟩]) (.seq (.row [⟨some 13, .mv (.t 0), none⟩, ⟨some 14, .call (.c (.fn 70 [])) [(.t 13)], none⟩, ⟨some 15, .faddr 6 (.t 3), none⟩, ⟨none, .store 1 (.t 15) (.t 14), none⟩]) (.seq (.row [⟨some 16, .mv (.t 0), none⟩, ⟨some 17, .call (.c (.fn 73 [])) [(.t 16)], none⟩, ⟨some 18, .mv (.t 0), none⟩, ⟨some 19, .call (.c (.fn 73 [])) [(.t 18)], none⟩, ⟨some 20, .faddr 1 (.t 3), none⟩, ⟨none, .store 1 (.t 20) (.t 17), none⟩, ⟨some 21, .faddr 2 (.t 3), none⟩, ⟨none, .store 1 (.t 21) (.t 19), none⟩]) (.seq (.row [⟨some 22, .load (some 7) (.t 3), none⟩, ⟨none, .store 7 (.t 2) (.t 22), none⟩]) .ret)))))
def fr72 : FnR := ⟨dc72, 23, [.cell (some 7) 2]⟩
theorem ok72 : FnOk Tryz.prog 72 fr72 := ⟨⟨Tryz.f72, _, Tryz.func72, rfl, by kernel_rfl, rfl, by kernel_rfl, by kernel_rfl⟩⟩
def dc73 : DC := (.seq (.row [⟨some 2, .mv (.c (.str [])), none⟩]) (.seq (.row [⟨some 6, .mv (.t 0), none⟩, ⟨some 7, .call (.c (.fn 68 [])) [(.t 6)], none⟩, ⟨some 3, .mv (.t 7), none⟩]) (.seq (.seq (.row [⟨some 8, .mv (.t 3), none⟩, ⟨some 9, .bin .eql (.t 8) (.c (.str [45])), none⟩]) (.cond (.t 9) (.seq (.row [⟨some 2, .mv (.c (.str [])), none⟩]) .ret) .skip)) (.seq (.row [⟨some 11, .mv (.t 3), none⟩, ⟨some 12, .call (.c (.fn 95 [])) [(.t 11)], none⟩, ⟨some 10, .mv (.t 12), none⟩, ⟨some 13, .ext 0 (.t 10), none⟩, ⟨some 14, .ext 1 (.t 10), none⟩, ⟨some 4, .mv (.t 13), none⟩, ⟨some 5, .mv (.t 14), none⟩]) (.seq (.row [⟨some 15, .mv (.t 0), none⟩, ⟨some 16, .mv (.t 0), none⟩, ⟨some 17, .nilchk (.t 16), none⟩, ⟨some 18, .faddr 1 (.t 17), none⟩, ⟨some 19, .load none (.t 18), none⟩, ⟨some 20, .mv (.t 19), none⟩, ⟨some 21, .mv (.t 5), some (20, false)⟩, ⟨some 22, .un .not (.t 21), some (20, false)⟩, ⟨some 23, .pick (.t 20) (.c (.bool true)) (.t 22), none⟩, ⟨some 24, .mv (.t 23), none⟩, ⟨some 25, .mv (.t 4), some (24, false)⟩, ⟨some 26, .bin .eql (.t 25) (.c (.str [])), some (24, false)⟩, ⟨some 27, .pick (.t 24) (.c (.bool true)) (.t 26), none⟩, ⟨some 28, .nilchk (.t 15), none⟩, ⟨some 29, .faddr 1 (.t 28), none⟩, ⟨none, .store 1 (.t 29) (.t 27), none⟩]) (.seq (.row [⟨some 30, .mv (.t 4), none⟩, ⟨some 2, .mv (.t 30), none⟩]) .ret))))))
def fr73 : FnR := ⟨dc73, 31, [.t 2]⟩
theorem ok73 : FnOk Tryz.prog 73 fr73 := ⟨⟨Tryz.f73, _, Tryz.func73, rfl, by kernel_rfl, rfl, by kernel_rfl, by kernel_rfl⟩⟩
def dc75 : DC := (.seq (.row [⟨some 4, .mv (.c (.bool false)), none⟩]) (.seq (.row [⟨some 5, .mv (.t 0), none⟩, ⟨some 6, .mv (.t 1), none⟩, ⟨some 7, .call (.c (.fn 96 [])) [(.t 5), (.t 6)], none⟩, ⟨some 8, .bin .geq (.t 7) (.c (.int .i64 0)), none⟩, ⟨some 4, .mv (.t 8), none⟩]) .ret))
def fr75 : FnR := ⟨dc75, 9, [.t 4]⟩
theorem ok75 : FnOk Tryz.prog 75 fr75 := ⟨⟨Tryz.f75, _, Tryz.func75, rfl, by kernel_rfl, rfl, by kernel_rfl, by kernel_rfl⟩⟩
def dc76 : DC := (.seq (.row [⟨some 2, .mv (.c (.bool false)), none⟩]) (.seq (.row [⟨some 3, .mv (.t 0), none⟩, ⟨some 4, .bin .lss (.t 3) (.c (.int .i64 (-1099511627776))), none⟩, ⟨some 5, .mv (.t 4), none⟩, ⟨some 6, .mv (.t 0), some (5, false)⟩, ⟨some 7, .bin .gtr (.t 6) (.c (.int .i64 1099511627776)), some (5, false)⟩, ⟨some 8, .pick (.t 5) (.c (.bool true)) (.t 7), none⟩, ⟨some 2, .mv (.t 8), none⟩]) .ret))
def fr76 : FnR := ⟨dc76, 9, [.t 2]⟩
theorem ok76 : FnOk Tryz.prog 76 fr76 := ⟨⟨Tryz.f76, _, Tryz.func76, rfl, by kernel_rfl, rfl, by kernel_rfl, by kernel_rfl⟩⟩
def dc77 : DC := (.seq (.row [⟨some 4, .mv (.c (.bool false)), none⟩]) (.seq (.row [⟨some 5, .mv (.t 0), none⟩, ⟨some 6, .mv (.t 1), none⟩, ⟨some 7, .call (.c (.fn 97 [])) [(.t 5), (.t 6)], none⟩, ⟨some 8, .bin .geq (.t 7) (.c (.int .i64 0)), none⟩, ⟨some 4, .mv (.t 8), none⟩]) .ret))
def fr77 : FnR := ⟨dc77, 9, [.t 4]⟩
theorem ok77 : FnOk Tryz.prog 77 fr77 := ⟨⟨Tryz.f77, _, Tryz.func77, rfl, by kernel_rfl, rfl, by kernel_rfl, by kernel_rfl⟩⟩
def dc78 : DC := (.seq (.row [⟨some 2, .mv (.c (.bool false)), none⟩]) (.seq (.row [⟨some 3, .mv (.t 0), none⟩, ⟨some 4, .len true (.t 3), none⟩, ⟨some 5, .bin .gtr (.t 4) (.c (.int .i64 500)), none⟩, ⟨some 2, .mv (.t 5), none⟩]) .ret))
def fr78 : FnR := ⟨dc78, 6, [.t 2]⟩
theorem ok78 : FnOk Tryz.prog 78 fr78 := ⟨⟨Tryz.f78, _, Tryz.func78, rfl, by kernel_rfl, rfl, by kernel_rfl, by kernel_rfl⟩⟩
def dc79 : DC := (.seq (.row [⟨some 2, .mv (.c (.int .i64 0)), none⟩]) (.seq (.row [⟨some 3, .mv (.t 0), none⟩, ⟨some 4, .call (.c (.fn 98 [])) [(.t 3), (.c (.int .i64 0))], none⟩, ⟨some 2, .mv (.t 4), none⟩]) .ret))
def fr79 : FnR := ⟨dc79, 5, [.t 2]⟩
theorem ok79 : FnOk Tryz.prog 79 fr79 := ⟨⟨Tryz.f79, _, Tryz.func79, rfl, by kernel_rfl, rfl, by kernel_rfl, by kernel_rfl⟩⟩
def dc80l0 : DC := (.seq (.row [⟨some 53, .bin .lss (.t 52) (.t 51), none⟩]) (.seq (.cond (.t 53) .skip (.exit 1)) (.seq (.block 2 (.seq (.row [⟨some 54, .iaddr 1 (.t 50) (.t 52), none⟩, ⟨some 55, .load none (.t 54), none⟩, ⟨some 10, .mv (.t 55), none⟩]) (.row [⟨some 56, .mv (.t 0), none⟩, ⟨some 57, .mv (.t 10), none⟩, ⟨some 58, .call (.c (.fn 80 [])) [(.t 56), (.t 57)], none⟩, ⟨some 0, .mv (.t 58), none⟩]))) (.row [⟨some 59, .bin .add (.t 52) (.c (.int .i64 1)), none⟩, ⟨some 52, .mv (.t 59), none⟩]))))
def dc80l1 : DC := (.seq (.row [⟨some 73, .bin .lss (.t 72) (.t 71), none⟩]) (.seq (.cond (.t 73) .skip (.exit 3)) (.seq (.block 4 (.seq (.row [⟨some 74, .iaddr 2 (.t 70) (.t 72), none⟩, ⟨some 75, .load (some 2) (.t 74), none⟩, ⟨some 13, .alloc 82 [.str [], .nilIface], none⟩, ⟨none, .store 2 (.t 13) (.t 75), none⟩]) (.drawn [⟨some 76, .mv (.t 0), none⟩, ⟨some 77, .faddr 0 (.t 13), none⟩, ⟨some 78, .load none (.t 77), none⟩, ⟨some 79, .call (.c (.fn 100 [])) [(.t 76), (.t 78)], none⟩, ⟨some 80, .faddr 1 (.t 13), none⟩, ⟨some 81, .load none (.t 80), none⟩, ⟨some 82, .call (.c (.fn 80 [])) [(.t 79), (.t 81)], none⟩, ⟨some 0, .mv (.t 82), none⟩] [[], [], [], [], [], [], [], []] [(3, 5)]))) (.row [⟨some 83, .bin .add (.t 72) (.c (.int .i64 1)), none⟩, ⟨some 72, .mv (.t 83), none⟩]))))
def dc80 : DC := (.seq (.row [⟨some 4, .mv (.c .nilsl), none⟩]) (.seq (.seq (.row [⟨some 14, .mv (.t 1), none⟩]) (.block 0 (.seq (.row [⟨some 15, .tass 4 true (.bool false) (.t 14), none⟩, ⟨some 16, .ext 1 (.t 15), none⟩, ⟨some 17, .ext 0 (.t 15), none⟩]) (.cond (.t 16) (.seq (.row [⟨some 5, .mv (.t 17), none⟩]) (.seq (.seq (.row [⟨some 18, .mv (.t 5), none⟩]) (.cond (.t 18) (.seq (.row [⟨some 19, .mv (.t 0), none⟩, ⟨some 20, .bslice 5 1 [(.c (.int .u8 2))], none⟩, ⟨some 21, .app 5 1 1 (.t 19) (.t 20), none⟩, ⟨some 4, .mv (.t 21), none⟩]) .ret) .skip)) (.seq (.row [⟨some 22, .mv (.t 0), none⟩, ⟨some 23, .bslice 5 1 [(.c (.int .u8 1))], none⟩, ⟨some 24, .app 5 1 1 (.t 22) (.t 23), none⟩, ⟨some 4, .mv (.t 24), none⟩]) .ret))) (.seq (.row [⟨some 25, .tass 86 true (.int .u64 0) (.t 14), none⟩, ⟨some 26, .ext 1 (.t 25), none⟩, ⟨some 27, .ext 0 (.t 25), none⟩]) (.cond (.t 26) (.seq (.row [⟨some 6, .mv (.t 27), none⟩]) (.seq (.row [⟨some 28, .mv (.t 0), none⟩, ⟨some 29, .bslice 5 1 [(.c (.int .u8 3))], none⟩, ⟨some 30, .app 5 1 1 (.t 28) (.t 29), none⟩, ⟨some 31, .mv (.t 6), none⟩, ⟨some 32, .call (.c (.fn 99 [])) [(.t 30), (.c (.int .i64 8)), (.t 31)], none⟩, ⟨some 4, .mv (.t 32), none⟩]) .ret)) (.seq (.row [⟨some 33, .tass 9 true (.str []) (.t 14), none⟩, ⟨some 34, .ext 1 (.t 33), none⟩, ⟨some 35, .ext 0 (.t 33), none⟩]) (.cond (.t 34) (.seq (.row [⟨some 7, .mv (.t 35), none⟩]) (.seq (.row [⟨some 36, .mv (.t 0), none⟩, ⟨some 37, .bslice 5 1 [(.c (.int .u8 4))], none⟩, ⟨some 38, .app 5 1 1 (.t 36) (.t 37), none⟩, ⟨some 39, .mv (.t 7), none⟩, ⟨some 40, .call (.c (.fn 100 [])) [(.t 38), (.t 39)], none⟩, ⟨some 4, .mv (.t 40), none⟩]) .ret)) (.seq (.row [⟨some 41, .tass 99 true .nilsl (.t 14), none⟩, ⟨some 42, .ext 1 (.t 41), none⟩, ⟨some 43, .ext 0 (.t 41), none⟩]) (.cond (.t 42) (.seq (.row [⟨some 8, .mv (.t 43), none⟩]) (.seq (.row [⟨some 44, .mv (.t 0), none⟩, ⟨some 45, .mv (.t 8), none⟩, ⟨some 46, .len false (.t 45), none⟩, ⟨some 47, .conv .u8 (.t 46), none⟩, ⟨some 48, .bslice 5 1 [(.c (.int .u8 5)), (.t 47)], none⟩, ⟨some 49, .app 5 1 1 (.t 44) (.t 48), none⟩, ⟨some 0, .mv (.t 49), none⟩]) (.seq (.seq (.row [⟨some 50, .mv (.t 8), none⟩, ⟨some 51, .len false (.t 50), none⟩, ⟨some 52, .mv (.c (.int .i64 0)), none⟩]) (.block 1 (.loop dc80l0))) (.seq (.row [⟨some 60, .mv (.t 0), none⟩, ⟨some 4, .mv (.t 60), none⟩]) .ret)))) (.seq (.row [⟨some 61, .tass 85 true .nilsl (.t 14), none⟩, ⟨some 62, .ext 1 (.t 61), none⟩, ⟨some 63, .ext 0 (.t 61), none⟩]) (.cond (.t 62) (.seq (.row [⟨some 11, .mv (.t 63), none⟩]) (.seq (.row [⟨some 64, .mv (.t 0), none⟩, ⟨some 65, .mv (.t 11), none⟩, ⟨some 66, .len false (.t 65), none⟩, ⟨some 67, .conv .u8 (.t 66), none⟩, ⟨some 68, .bslice 5 1 [(.c (.int .u8 6)), (.t 67)], none⟩, ⟨some 69, .app 5 1 1 (.t 64) (.t 68), none⟩, ⟨some 0, .mv (.t 69), none⟩]) (.seq (.seq (.row [⟨some 70, .mv (.t 11), none⟩, ⟨some 71, .len false (.t 70), none⟩, ⟨some 72, .mv (.c (.int .i64 0)), none⟩]) (.block 3 (.loop dc80l1))) (.seq (.row [⟨some 84, .mv (.t 0), none⟩, ⟨some 4, .mv (.t 84), none⟩]) .ret)))) .skip)))))))))))) (.seq (.row [⟨some 85, .mv (.t 0), none⟩, ⟨some 86, .bslice 5 1 [(.c (.int .u8 0))], none⟩, ⟨some 87, .app 5 1 1 (.t 85) (.t 86), none⟩, ⟨some 4, .mv (.t 87), none⟩]) .ret)))
def fr80 : FnR := ⟨dc80, 88, [.t 4]⟩
theorem ok80 : FnOk Tryz.prog 80 fr80 := ⟨⟨Tryz.f80, _, Tryz.func80, rfl, by kernel_rfl, rfl, by kernel_rfl, by kernel_rfl⟩⟩
def dc84 : DC := (.seq (.row [⟨some 4, .mv (.c .nilIface), none⟩]) (.seq (.row [⟨some 6, .mv (.t 0), none⟩, ⟨some 7, .call (.c (.fn 101 [])) [(.t 6), (.c (.int .i64 1))], none⟩, ⟨some 5, .mv (.t 7), none⟩]) (.seq (.seq (.row [⟨some 8, .mv (.t 0), none⟩, ⟨some 9, .nilchk (.t 8), none⟩, ⟨some 10, .faddr 0 (.t 9), none⟩, ⟨some 11, .faddr 2 (.t 10), none⟩, ⟨some 12, .load none (.t 11), none⟩, ⟨some 13, .bin .neq (.t 12) (.c (.int .i64 0)), none⟩]) (.cond (.t 13) (.seq (.row [⟨some 4, .mv (.c .nilIface), none⟩]) .ret) .skip)) (.seq (.seq (.row [⟨some 14, .mv (.t 5), none⟩]) (.block 0 (.seq (.row [⟨some 16, .bin .eql (.t 14) (.c (.int .u64 0)), none⟩, ⟨some 15, .mv (.t 16), none⟩]) (.cond (.t 15) (.seq (.row [⟨some 4, .mv (.c .nilIface), none⟩]) .ret) (.seq (.seq (.row [⟨some 18, .bin .eql (.t 14) (.c (.int .u64 1)), none⟩, ⟨some 17, .mv (.t 18), none⟩]) (.cond (.t 17) .skip (.row [⟨some 19, .bin .eql (.t 14) (.c (.int .u64 2)), none⟩, ⟨some 17, .mv (.t 19), none⟩]))) (.cond (.t 17) (.seq (.row [⟨some 20, .mv (.t 5), none⟩, ⟨some 21, .bin .eql (.t 20) (.c (.int .u64 2)), none⟩, ⟨some 22, .mkif 4 (.t 21), none⟩, ⟨some 4, .mv (.t 22), none⟩]) .ret) (.seq (.row [⟨some 24, .bin .eql (.t 14) (.c (.int .u64 3)), none⟩, ⟨some 23, .mv (.t 24), none⟩]) (.cond (.t 23) (.seq (.row [⟨some 25, .mv (.t 0), none⟩, ⟨some 26, .call (.c (.fn 101 [])) [(.t 25), (.c (.int .i64 8))], none⟩, ⟨some 27, .mkif 86 (.t 26), none⟩, ⟨some 4, .mv (.t 27), none⟩]) .ret) (.seq (.row [⟨some 29, .bin .eql (.t 14) (.c (.int .u64 4)), none⟩, ⟨some 28, .mv (.t 29), none⟩]) (.cond (.t 28) (.seq (.row [⟨some 30, .mv (.t 0), none⟩, ⟨some 31, .call (.c (.fn 102 [])) [(.t 30)], none⟩, ⟨some 32, .mkif 9 (.t 31), none⟩, ⟨some 4, .mv (.t 32), none⟩]) .ret) (.seq (.row [⟨some 34, .bin .eql (.t 14) (.c (.int .u64 5)), none⟩, ⟨some 33, .mv (.t 34), none⟩]) (.cond (.t 33) (.seq (.row [⟨some 35, .mv (.t 0), none⟩, ⟨some 36, .mv (.t 1), none⟩, ⟨some 37, .call (.c (.fn 103 [])) [(.t 35), (.t 36)], none⟩, ⟨some 4, .mv (.t 37), none⟩]) .ret) (.seq (.row [⟨some 39, .bin .eql (.t 14) (.c (.int .u64 6)), none⟩, ⟨some 38, .mv (.t 39), none⟩]) (.cond (.t 38) (.seq (.row [⟨some 40, .mv (.t 0), none⟩, ⟨some 41, .mv (.t 1), none⟩, ⟨some 42, .call (.c (.fn 104 [])) [(.t 40), (.t 41)], none⟩, ⟨some 4, .mv (.t 42), none⟩]) .ret) .skip)))))))))))))) (.seq (.row [⟨some 43, .mv (.t 0), none⟩, ⟨some 44, .call (.c (.fn 105 [])) [(.t 43), (.c (.int .i64 22))], none⟩]) (.seq (.row [⟨some 4, .mv (.c .nilIface), none⟩]) .ret))))))
def fr84 : FnR := ⟨dc84, 45, [.t 4]⟩
theorem ok84 : FnOk Tryz.prog 84 fr84 := ⟨⟨Tryz.f84, _, Tryz.func84, rfl, by kernel_rfl, rfl, by kernel_rfl, by kernel_rfl⟩⟩
def dc85 : DC := (.seq (.row [⟨some 1, .box 133 (.t 0), none⟩, ⟨some 2, .mv (.c (.int .i64 0)), none⟩]) (.seq (.block 0 (.seq (.row [⟨some 4, .faddr 2 (.t 1), none⟩, ⟨some 5, .load none (.t 4), none⟩, ⟨some 6, .bin .neq (.t 5) (.c (.int .i64 0)), none⟩, ⟨some 3, .mv (.t 6), none⟩]) (.cond (.t 3) (.seq (.row [⟨some 7, .faddr 2 (.t 1), none⟩, ⟨some 8, .load none (.t 7), none⟩, ⟨some 2, .mv (.t 8), none⟩]) .ret) (.seq (.row [⟨some 10, .load (some 3) (.t 1), none⟩, ⟨some 11, .call (.c (.fn 106 [])) [(.t 10)], none⟩, ⟨some 12, .un .not (.t 11), none⟩, ⟨some 9, .mv (.t 12), none⟩]) (.cond (.t 9) (.seq (.row [⟨some 2, .mv (.c (.int .i64 2)), none⟩]) .ret) (.seq (.row [⟨some 14, .load (some 3) (.t 1), none⟩, ⟨some 15, .call (.c (.fn 107 [])) [(.t 14)], none⟩, ⟨some 16, .bin .gtr (.t 15) (.c (.int .i64 0)), none⟩, ⟨some 13, .mv (.t 16), none⟩]) (.cond (.t 13) (.seq (.row [⟨some 2, .mv (.c (.int .i64 4)), none⟩]) .ret) .skip))))))) (.seq (.row [⟨some 2, .mv (.c (.int .i64 0)), none⟩]) .ret)))
def fr85 : FnR := ⟨dc85, 17, [.t 2]⟩
theorem ok85 : FnOk Tryz.prog 85 fr85 := ⟨⟨Tryz.f85, _, Tryz.func85, rfl, by kernel_rfl, rfl, by kernel_rfl, by kernel_rfl⟩⟩
def dc86 : DC := (.seq (.row [⟨some 2, .mv (.c (.int .u64 0)), none⟩, ⟨some 3, .mv (.c (.bool false)), none⟩]) (.seq (.row [⟨some 7, .mv (.t 0), none⟩, ⟨some 8, .tass 86 true (.int .u64 0) (.t 7), none⟩, ⟨some 6, .mv (.t 8), none⟩, ⟨some 9, .ext 0 (.t 6), none⟩, ⟨some 10, .ext 1 (.t 6), none⟩, ⟨some 4, .mv (.t 9), none⟩, ⟨some 5, .mv (.t 10), none⟩]) (.seq (.row [⟨some 11, .mv (.t 4), none⟩, ⟨some 12, .mv (.t 5), none⟩, ⟨some 2, .mv (.t 11), none⟩, ⟨some 3, .mv (.t 12), none⟩]) .ret)))
def fr86 : FnR := ⟨dc86, 13, [.t 2, .t 3]⟩
theorem ok86 : FnOk Tryz.prog 86 fr86 := ⟨⟨Tryz.f86, _, Tryz.func86, rfl, by kernel_rfl, rfl, by kernel_rfl, by kernel_rfl⟩⟩
def dc87 : DC := (.seq (.row [⟨some 2, .mv (.c (.str [])), none⟩, ⟨some 3, .mv (.c (.bool false)), none⟩]) (.seq (.row [⟨some 7, .mv (.t 0), none⟩, ⟨some 8, .tass 9 true (.str []) (.t 7), none⟩, ⟨some 6, .mv (.t 8), none⟩, ⟨some 9, .ext 0 (.t 6), none⟩, ⟨some 10, .ext 1 (.t 6), none⟩, ⟨some 4, .mv (.t 9), none⟩, ⟨some 5, .mv (.t 10), none⟩]) (.seq (.row [⟨some 11, .mv (.t 4), none⟩, ⟨some 12, .mv (.t 5), none⟩, ⟨some 2, .mv (.t 11), none⟩, ⟨some 3, .mv (.t 12), none⟩]) .ret)))
def fr87 : FnR := ⟨dc87, 13, [.t 2, .t 3]⟩
theorem ok87 : FnOk Tryz.prog 87 fr87 := ⟨⟨Tryz.f87, _, Tryz.func87, rfl, by kernel_rfl, rfl, by kernel_rfl, by kernel_rfl⟩⟩
def dc90 : DC := (.seq (.row [⟨some 4, .mv (.c (.str [])), none⟩, ⟨some 5, .mv (.c (.bool false)), none⟩]) (.seq (.seq (.row [⟨some 6, .mv (.t 0), none⟩, ⟨some 7, .mv (.t 1), none⟩, ⟨some 8, .call (.c (.fn 111 [])) [(.t 6), (.t 7)], none⟩, ⟨some 9, .un .not (.t 8), none⟩]) (.cond (.t 9) (.seq (.row [⟨some 10, .mv (.t 0), none⟩, ⟨some 4, .mv (.t 10), none⟩, ⟨some 5, .mv (.c (.bool false)), none⟩]) .ret) .skip)) (.seq (.row [⟨some 11, .mv (.t 0), none⟩, ⟨some 12, .mv (.t 1), none⟩, ⟨some 13, .len true (.t 12), none⟩, ⟨some 14, .cuts (.t 11) (some (.t 13)) none, none⟩, ⟨some 4, .mv (.t 14), none⟩, ⟨some 5, .mv (.c (.bool true)), none⟩]) .ret)))
def fr90 : FnR := ⟨dc90, 15, [.t 4, .t 5]⟩
theorem ok90 : FnOk Tryz.prog 90 fr90 := ⟨⟨Tryz.f90, _, Tryz.func90, rfl, by kernel_rfl, rfl, by kernel_rfl, by kernel_rfl⟩⟩
def dc94l0 : DC := (.seq (.seq (.row [⟨some 34, .mv (.t 10), none⟩, ⟨some 35, .mv (.t 3), none⟩, ⟨some 36, .bin .lss (.t 34) (.t 35), none⟩]) (.cond (.t 36) .skip (.exit 0))) (.block 1 (.seq (.row [⟨some 37, .mv (.t 0), none⟩, ⟨some 38, .mv (.t 1), none⟩, ⟨some 39, .call (.c (.fn 116 [])) [(.t 37), (.t 38)], none⟩, ⟨some 11, .mv (.t 39), none⟩]) (.seq (.seq (.row [⟨some 40, .mv (.t 11), none⟩, ⟨some 41, .bin .lss (.t 40) (.c (.int .i64 0)), none⟩]) (.cond (.t 41) (.exit 0) .skip)) (.seq (.row [⟨some 42, .mv (.t 9), none⟩, ⟨some 43, .mv (.t 10), none⟩, ⟨some 44, .mv (.t 0), none⟩, ⟨some 45, .mv (.t 11), none⟩, ⟨some 46, .mv (.t 2), none⟩, ⟨some 47, .bin .add (.t 45) (.t 46), none⟩, ⟨some 48, .cuts (.t 44) none (some (.t 47)), none⟩, ⟨some 49, .iaddr 1 (.t 42) (.t 43), none⟩, ⟨none, .store 1 (.t 49) (.t 48), none⟩]) (.seq (.row [⟨some 50, .mv (.t 0), none⟩, ⟨some 51, .mv (.t 11), none⟩, ⟨some 52, .mv (.t 1), none⟩, ⟨some 53, .len true (.t 52), none⟩, ⟨some 54, .bin .add (.t 51) (.t 53), none⟩, ⟨some 55, .cuts (.t 50) (some (.t 54)) none, none⟩, ⟨some 0, .mv (.t 55), none⟩]) (.row [⟨some 56, .mv (.t 10), none⟩, ⟨some 57, .bin .add (.t 56) (.c (.int .i64 1)), none⟩, ⟨some 10, .mv (.t 57), none⟩])))))))
def dc94 : DC := (.seq (.row [⟨some 8, .mv (.c .nilsl), none⟩]) (.seq (.seq (.row [⟨some 12, .mv (.t 3), none⟩, ⟨some 13, .bin .eql (.t 12) (.c (.int .i64 0)), none⟩]) (.cond (.t 13) (.seq (.row [⟨some 8, .mv (.c .nilsl), none⟩]) .ret) .skip)) (.seq (.seq (.row [⟨some 14, .mv (.t 1), none⟩, ⟨some 15, .bin .eql (.t 14) (.c (.str [])), none⟩]) (.cond (.t 15) (.seq (.row [⟨some 16, .mv (.t 0), none⟩, ⟨some 17, .mv (.t 3), none⟩, ⟨some 18, .call (.c (.fn 114 [])) [(.t 16), (.t 17)], none⟩, ⟨some 8, .mv (.t 18), none⟩]) .ret) .skip)) (.seq (.seq (.row [⟨some 19, .mv (.t 3), none⟩, ⟨some 20, .bin .lss (.t 19) (.c (.int .i64 0)), none⟩]) (.cond (.t 20) (.row [⟨some 21, .mv (.t 0), none⟩, ⟨some 22, .mv (.t 1), none⟩, ⟨some 23, .call (.c (.fn 115 [])) [(.t 21), (.t 22)], none⟩, ⟨some 24, .bin .add (.t 23) (.c (.int .i64 1)), none⟩, ⟨some 3, .mv (.t 24), none⟩]) .skip)) (.seq (.row [⟨some 25, .mv (.t 3), none⟩, ⟨some 26, .mv (.t 0), none⟩, ⟨some 27, .len true (.t 26), none⟩, ⟨some 28, .bin .add (.t 27) (.c (.int .i64 1)), none⟩, ⟨some 29, .mm false (.t 25) [(.t 28)], none⟩, ⟨some 3, .mv (.t 29), none⟩]) (.seq (.row [⟨some 30, .mv (.t 3), none⟩, ⟨some 31, .mksl 9 1 16 (.str []) (.t 30) (.t 30), none⟩, ⟨some 9, .mv (.t 31), none⟩]) (.seq (.row [⟨some 32, .mv (.t 3), none⟩, ⟨some 33, .bin .sub (.t 32) (.c (.int .i64 1)), none⟩, ⟨some 3, .mv (.t 33), none⟩]) (.seq (.row [⟨some 10, .mv (.c (.int .i64 0)), none⟩]) (.seq (.block 0 (.loop dc94l0)) (.seq (.row [⟨some 58, .mv (.t 9), none⟩, ⟨some 59, .mv (.t 10), none⟩, ⟨some 60, .mv (.t 0), none⟩, ⟨some 61, .iaddr 1 (.t 58) (.t 59), none⟩, ⟨none, .store 1 (.t 61) (.t 60), none⟩]) (.seq (.row [⟨some 62, .mv (.t 9), none⟩, ⟨some 63, .mv (.t 10), none⟩, ⟨some 64, .bin .add (.t 63) (.c (.int .i64 1)), none⟩, ⟨some 65, .cutl 1 (.t 62) none (some (.t 64)), none⟩, ⟨some 8, .mv (.t 65), none⟩]) .ret)))))))))))
def fr94 : FnR := ⟨dc94, 66, [.t 8]⟩
theorem ok94 : FnOk Tryz.prog 94 fr94 := ⟨⟨Tryz.f94, _, Tryz.func94, rfl, by kernel_rfl, rfl, by kernel_rfl, by kernel_rfl⟩⟩
def dc95l0 : DC := (.seq (.seq (.row [⟨some 16, .mv (.t 5), none⟩, ⟨some 17, .mv (.t 0), none⟩, ⟨some 18, .len true (.t 17), none⟩, ⟨some 19, .bin .lss (.t 16) (.t 18), none⟩]) (.cond (.t 19) .skip (.exit 0))) (.seq (.block 1 (.seq (.drawn [⟨some 22, .mv (.t 0), none⟩, ⟨some 23, .mv (.t 5), none⟩, ⟨some 24, .idxs (.t 22) (.t 23), none⟩, ⟨some 25, .call (.c (.fn 117 [])) [(.t 24)], none⟩, ⟨some 26, .mv (.t 0), none⟩, ⟨some 27, .mv (.t 5), none⟩, ⟨some 28, .bin .add (.t 27) (.c (.int .i64 1)), none⟩, ⟨some 29, .idxs (.t 26) (.t 28), none⟩, ⟨some 30, .call (.c (.fn 117 [])) [(.t 29)], none⟩, ⟨some 6, .mv (.t 25), none⟩, ⟨some 7, .mv (.t 30), none⟩] [[], [], [], [], [], [], [], [], [], [], []] []) (.seq (.seq (.row [⟨some 31, .mv (.t 6), none⟩, ⟨some 32, .bin .lss (.t 31) (.c (.int .i64 0)), none⟩, ⟨some 33, .mv (.t 32), none⟩, ⟨some 34, .mv (.t 7), some (33, false)⟩, ⟨some 35, .bin .lss (.t 34) (.c (.int .i64 0)), some (33, false)⟩, ⟨some 36, .pick (.t 33) (.c (.bool true)) (.t 35), none⟩]) (.cond (.t 36) (.seq (.row [⟨some 2, .mv (.c (.str [])), none⟩, ⟨some 3, .mv (.c (.bool false)), none⟩]) .ret) .skip)) (.row [⟨some 37, .mv (.t 4), none⟩, ⟨some 38, .mv (.t 6), none⟩, ⟨some 39, .bin .shl (.t 38) (.c (.int .u64 4)), none⟩, ⟨some 40, .mv (.t 7), none⟩, ⟨some 41, .bin .or (.t 39) (.t 40), none⟩, ⟨some 42, .conv .u8 (.t 41), none⟩, ⟨some 43, .bslice 5 1 [(.t 42)], none⟩, ⟨some 44, .app 5 1 1 (.t 37) (.t 43), none⟩, ⟨some 4, .mv (.t 44), none⟩])))) (.row [⟨some 20, .mv (.t 5), none⟩, ⟨some 21, .bin .add (.t 20) (.c (.int .i64 2)), none⟩, ⟨some 5, .mv (.t 21), none⟩])))
def dc95 : DC := (.seq (.row [⟨some 2, .mv (.c (.str [])), none⟩, ⟨some 3, .mv (.c (.bool false)), none⟩]) (.seq (.seq (.row [⟨some 8, .mv (.t 0), none⟩, ⟨some 9, .len true (.t 8), none⟩, ⟨some 10, .bin .rem (.t 9) (.c (.int .i64 2)), none⟩, ⟨some 11, .bin .neq (.t 10) (.c (.int .i64 0)), none⟩]) (.cond (.t 11) (.seq (.row [⟨some 2, .mv (.c (.str [])), none⟩, ⟨some 3, .mv (.c (.bool false)), none⟩]) .ret) .skip)) (.seq (.row [⟨some 12, .mv (.t 0), none⟩, ⟨some 13, .len true (.t 12), none⟩, ⟨some 14, .bin .quo (.t 13) (.c (.int .i64 2)), none⟩, ⟨some 15, .mksl 5 1 1 (.int .u8 0) (.c (.int .i64 0)) (.t 14), none⟩, ⟨some 4, .mv (.t 15), none⟩]) (.seq (.seq (.row [⟨some 5, .mv (.c (.int .i64 0)), none⟩]) (.block 0 (.loop dc95l0))) (.seq (.row [⟨some 45, .mv (.t 4), none⟩, ⟨some 46, .b2s (.t 45), none⟩, ⟨some 2, .mv (.t 46), none⟩, ⟨some 3, .mv (.c (.bool true)), none⟩]) .ret)))))
def fr95 : FnR := ⟨dc95, 47, [.t 2, .t 3]⟩
theorem ok95 : FnOk Tryz.prog 95 fr95 := ⟨⟨Tryz.f95, _, Tryz.func95, rfl, by kernel_rfl, rfl, by kernel_rfl, by kernel_rfl⟩⟩
end Go.Ve

namespace Go.Ve
open Go.Proofs
set_option maxRecDepth 100000
def dc96l0 : DC := (.seq (.row [⟨some 9, .bin .lss (.t 8) (.t 7), none⟩]) (.seq (.cond (.t 9) .skip (.exit 0)) (.seq (.block 1 (.seq (.row [⟨some 10, .mv (.t 8), none⟩, ⟨some 5, .mv (.t 10), none⟩]) (.seq (.row [⟨some 11, .mv (.t 1), none⟩, ⟨some 12, .mv (.t 0), none⟩, ⟨some 13, .mv (.t 5), none⟩, ⟨some 14, .iaddr 1 (.t 12) (.t 13), none⟩, ⟨some 15, .load none (.t 14), none⟩, ⟨some 16, .call (.t 11) [(.t 15)], none⟩]) (.cond (.t 16) (.seq (.row [⟨some 17, .mv (.t 5), none⟩, ⟨some 4, .mv (.t 17), none⟩]) .ret) .skip)))) (.row [⟨some 18, .bin .add (.t 8) (.c (.int .i64 1)), none⟩, ⟨some 8, .mv (.t 18), none⟩]))))
def dc96 : DC := (.seq (.row [⟨some 4, .mv (.c (.int .i64 0)), none⟩]) (.seq (.seq (.row [⟨some 6, .mv (.t 0), none⟩, ⟨some 7, .len false (.t 6), none⟩, ⟨some 8, .mv (.c (.int .i64 0)), none⟩]) (.block 0 (.loop dc96l0))) (.seq (.row [⟨some 4, .mv (.c (.int .i64 (-1))), none⟩]) .ret)))
def fr96 : FnR := ⟨dc96, 19, [.t 4]⟩
theorem ok96 : FnOk Tryz.prog 96 fr96 := ⟨⟨Tryz.f96, _, Tryz.func96, rfl, by kernel_rfl, rfl, by kernel_rfl, by kernel_rfl⟩⟩
def dc97l0 : DC := (.seq (.row [⟨some 9, .bin .lss (.t 8) (.t 7), none⟩]) (.seq (.cond (.t 9) .skip (.exit 0)) (.seq (.block 1 (.seq (.row [⟨some 10, .mv (.t 8), none⟩, ⟨some 5, .mv (.t 10), none⟩]) (.seq (.row [⟨some 11, .mv (.t 1), none⟩, ⟨some 12, .mv (.t 0), none⟩, ⟨some 13, .mv (.t 5), none⟩, ⟨some 14, .iaddr 1 (.t 12) (.t 13), none⟩, ⟨some 15, .load none (.t 14), none⟩, ⟨some 16, .call (.t 11) [(.t 15)], none⟩]) (.cond (.t 16) (.seq (.row [⟨some 17, .mv (.t 5), none⟩, ⟨some 4, .mv (.t 17), none⟩]) .ret) .skip)))) (.row [⟨some 18, .bin .add (.t 8) (.c (.int .i64 1)), none⟩, ⟨some 8, .mv (.t 18), none⟩]))))
def dc97 : DC := (.seq (.row [⟨some 4, .mv (.c (.int .i64 0)), none⟩]) (.seq (.seq (.row [⟨some 6, .mv (.t 0), none⟩, ⟨some 7, .len false (.t 6), none⟩, ⟨some 8, .mv (.c (.int .i64 0)), none⟩]) (.block 0 (.loop dc97l0))) (.seq (.row [⟨some 4, .mv (.c (.int .i64 (-1))), none⟩]) .ret)))
def fr97 : FnR := ⟨dc97, 19, [.t 4]⟩
theorem ok97 : FnOk Tryz.prog 97 fr97 := ⟨⟨Tryz.f97, _, Tryz.func97, rfl, by kernel_rfl, rfl, by kernel_rfl, by kernel_rfl⟩⟩
def dc98 : DC := (.seq (.row [⟨some 4, .mv (.c (.int .i64 0)), none⟩]) (.seq (.seq (.row [⟨some 9, .mv (.t 0), none⟩]) (.block 0 (.seq (.row [⟨some 10, .nileq false 2 (.t 9) (.c .nilIface), none⟩, ⟨some 11, .tass 4 true (.bool false) (.t 9), none⟩, ⟨some 12, .ext 1 (.t 11), none⟩, ⟨some 13, .ext 0 (.t 11), none⟩, ⟨some 14, .tass 86 true (.int .u64 0) (.t 9), none⟩, ⟨some 15, .ext 1 (.t 14), none⟩, ⟨some 16, .ext 0 (.t 14), none⟩, ⟨some 17, .pick (.t 12) (.c (.bool true)) (.t 15), none⟩, ⟨some 18, .pick (.t 10) (.c (.bool true)) (.t 17), none⟩]) (.cond (.t 18) (.seq (.row [⟨some 5, .mv (.t 9), none⟩]) (.seq (.row [⟨some 4, .mv (.c (.int .i64 0)), none⟩]) .ret)) (.seq (.row [⟨some 19, .tass 9 true (.str []) (.t 9), none⟩, ⟨some 20, .ext 1 (.t 19), none⟩, ⟨some 21, .ext 0 (.t 19), none⟩]) (.cond (.t 20) (.seq (.row [⟨some 6, .mv (.t 21), none⟩]) (.seq (.seq (.row [⟨some 22, .mv (.t 6), none⟩, ⟨some 23, .len true (.t 22), none⟩, ⟨some 24, .bin .gtr (.t 23) (.c (.int .i64 65535)), none⟩]) (.cond (.t 24) (.seq (.row [⟨some 4, .mv (.c (.int .i64 5)), none⟩]) .ret) .skip)) (.seq (.row [⟨some 4, .mv (.c (.int .i64 0)), none⟩]) .ret))) (.seq (.row [⟨some 25, .tass 99 true .nilsl (.t 9), none⟩, ⟨some 26, .ext 1 (.t 25), none⟩, ⟨some 27, .ext 0 (.t 25), none⟩]) (.cond (.t 26) (.seq (.row [⟨some 7, .mv (.t 27), none⟩]) (.seq (.row [⟨some 28, .mv (.t 7), none⟩, ⟨some 29, .mv (.t 1), none⟩, ⟨some 30, .call (.c (.fn 118 [])) [(.t 28), (.t 29)], none⟩, ⟨some 4, .mv (.t 30), none⟩]) .ret)) (.seq (.row [⟨some 31, .tass 85 true .nilsl (.t 9), none⟩, ⟨some 32, .ext 1 (.t 31), none⟩, ⟨some 33, .ext 0 (.t 31), none⟩]) (.cond (.t 32) (.seq (.row [⟨some 8, .mv (.t 33), none⟩]) (.seq (.row [⟨some 34, .mv (.t 8), none⟩, ⟨some 35, .mv (.t 1), none⟩, ⟨some 36, .call (.c (.fn 119 [])) [(.t 34), (.t 35)], none⟩, ⟨some 4, .mv (.t 36), none⟩]) .ret)) .skip)))))))))) (.seq (.row [⟨some 4, .mv (.c (.int .i64 22)), none⟩]) .ret)))
def fr98 : FnR := ⟨dc98, 37, [.t 4]⟩
theorem ok98 : FnOk Tryz.prog 98 fr98 := ⟨⟨Tryz.f98, _, Tryz.func98, rfl, by kernel_rfl, rfl, by kernel_rfl, by kernel_rfl⟩⟩
def dc99 : DC := (.seq (.row [⟨some 6, .mv (.c .nilsl), none⟩]) (.seq (.seq (.row [⟨some 7, .mv (.t 1), none⟩, ⟨some 8, .call (.c (.fn 120 [])) [(.t 7)], none⟩, ⟨some 9, .un .not (.t 8), none⟩]) (.cond (.t 9) (.seq (.row [⟨some 10, .mv (.t 0), none⟩, ⟨some 11, .call (.c (.fn 121 [])) [(.t 10), (.c (.int .i64 0))], none⟩, ⟨some 6, .mv (.t 11), none⟩]) .ret) .skip)) (.seq (.row [⟨some 12, .mv (.t 0), none⟩, ⟨some 13, .mv (.t 1), none⟩, ⟨some 14, .call (.c (.fn 121 [])) [(.t 12), (.t 13)], none⟩, ⟨some 15, .mv (.t 1), none⟩, ⟨some 16, .mv (.t 2), none⟩, ⟨some 17, .call (.c (.fn 122 [])) [(.t 14), (.t 15), (.t 16)], none⟩, ⟨some 6, .mv (.t 17), none⟩]) .ret)))
def fr99 : FnR := ⟨dc99, 18, [.t 6]⟩
theorem ok99 : FnOk Tryz.prog 99 fr99 := ⟨⟨Tryz.f99, _, Tryz.func99, rfl, by kernel_rfl, rfl, by kernel_rfl, by kernel_rfl⟩⟩
def dc100 : DC := (.seq (.row [⟨some 4, .mv (.c .nilsl), none⟩]) (.seq (.row [⟨some 8, .mv (.t 0), none⟩, ⟨some 9, .mv (.t 1), none⟩, ⟨some 10, .call (.c (.fn 123 [])) [(.t 8), (.t 9)], none⟩, ⟨some 7, .mv (.t 10), none⟩, ⟨some 11, .ext 0 (.t 7), none⟩, ⟨some 12, .ext 1 (.t 7), none⟩, ⟨some 5, .mv (.t 11), none⟩, ⟨some 6, .mv (.t 12), none⟩]) (.seq (.row [⟨some 13, .mv (.t 5), none⟩, ⟨some 4, .mv (.t 13), none⟩]) .ret)))
def fr100 : FnR := ⟨dc100, 14, [.t 4]⟩
theorem ok100 : FnOk Tryz.prog 100 fr100 := ⟨⟨Tryz.f100, _, Tryz.func100, rfl, by kernel_rfl, rfl, by kernel_rfl, by kernel_rfl⟩⟩
def dc101 : DC := (.seq (.row [⟨some 4, .mv (.c (.int .u64 0)), none⟩]) (.seq (.row [⟨some 5, .mv (.c (.int .u64 0)), none⟩]) (.seq (.row [⟨some 7, .mv (.t 0), none⟩, ⟨some 8, .mv (.t 0), none⟩, ⟨some 9, .nilchk (.t 8), none⟩, ⟨some 10, .faddr 0 (.t 9), none⟩, ⟨some 11, .load (some 3) (.t 10), none⟩, ⟨some 12, .mv (.t 1), none⟩, ⟨some 13, .call (.c (.fn 124 [])) [(.t 11), (.t 12)], none⟩, ⟨some 6, .mv (.t 13), none⟩, ⟨some 14, .ext 0 (.t 6), none⟩, ⟨some 15, .ext 1 (.t 6), none⟩, ⟨some 5, .mv (.t 14), none⟩, ⟨some 16, .nilchk (.t 7), none⟩, ⟨some 17, .faddr 0 (.t 16), none⟩, ⟨none, .store 3 (.t 17) (.t 15), none⟩]) (.seq (.row [⟨some 18, .mv (.t 5), none⟩, ⟨some 4, .mv (.t 18), none⟩]) .ret))))
def fr101 : FnR := ⟨dc101, 19, [.t 4]⟩
theorem ok101 : FnOk Tryz.prog 101 fr101 := ⟨⟨Tryz.f101, _, Tryz.func101, rfl, by kernel_rfl, rfl, by kernel_rfl, by kernel_rfl⟩⟩
def dc102 : DC := (.seq (.row [⟨some 2, .mv (.c (.str [])), none⟩]) (.seq (.row [⟨some 3, .mv (.c (.str [])), none⟩]) (.seq (.row [⟨some 5, .mv (.t 0), none⟩, ⟨some 6, .mv (.t 0), none⟩, ⟨some 7, .nilchk (.t 6), none⟩, ⟨some 8, .faddr 0 (.t 7), none⟩, ⟨some 9, .load (some 3) (.t 8), none⟩, ⟨some 10, .call (.c (.fn 125 [])) [(.t 9)], none⟩, ⟨some 4, .mv (.t 10), none⟩, ⟨some 11, .ext 0 (.t 4), none⟩, ⟨some 12, .ext 1 (.t 4), none⟩, ⟨some 3, .mv (.t 11), none⟩, ⟨some 13, .nilchk (.t 5), none⟩, ⟨some 14, .faddr 0 (.t 13), none⟩, ⟨none, .store 3 (.t 14) (.t 12), none⟩]) (.seq (.row [⟨some 15, .mv (.t 3), none⟩, ⟨some 2, .mv (.t 15), none⟩]) .ret))))
def fr102 : FnR := ⟨dc102, 16, [.t 2]⟩
theorem ok102 : FnOk Tryz.prog 102 fr102 := ⟨⟨Tryz.f102, _, Tryz.func102, rfl, by kernel_rfl, rfl, by kernel_rfl, by kernel_rfl⟩⟩
def dc103l0 : DC := (.seq (.row [⟨some 13, .bin .lss (.t 12) (.t 11), none⟩]) (.seq (.cond (.t 13) .skip (.exit 0)) (.seq (.block 1 (.seq (.seq (.row [⟨some 14, .mv (.t 0), none⟩, ⟨some 15, .nilchk (.t 14), none⟩, ⟨some 16, .faddr 0 (.t 15), none⟩, ⟨some 17, .faddr 2 (.t 16), none⟩, ⟨some 18, .load none (.t 17), none⟩, ⟨some 19, .bin .neq (.t 18) (.c (.int .i64 0)), none⟩]) (.cond (.t 19) (.seq (.row [⟨some 4, .mv (.c .nilIface), none⟩]) .ret) .skip)) (.row [⟨some 20, .mv (.t 6), none⟩, ⟨some 21, .mv (.t 0), none⟩, ⟨some 22, .mv (.t 1), none⟩, ⟨some 23, .bin .add (.t 22) (.c (.int .i64 1)), none⟩, ⟨some 24, .call (.c (.fn 84 [])) [(.t 21), (.t 23)], none⟩, ⟨some 25, .bslice 20 1 [(.t 24)], none⟩, ⟨some 26, .app 20 1 16 (.t 20) (.t 25), none⟩, ⟨some 6, .mv (.t 26), none⟩]))) (.row [⟨some 27, .bin .add (.t 12) (.c (.int .i64 1)), none⟩, ⟨some 12, .mv (.t 27), none⟩]))))
def dc103 : DC := (.seq (.row [⟨some 4, .mv (.c .nilIface), none⟩]) (.seq (.row [⟨some 7, .mv (.t 0), none⟩, ⟨some 8, .mv (.t 1), none⟩, ⟨some 9, .call (.c (.fn 126 [])) [(.t 7), (.t 8)], none⟩, ⟨some 5, .mv (.t 9), none⟩]) (.seq (.row [⟨some 10, .bslice 20 1 [], none⟩, ⟨some 6, .mv (.t 10), none⟩]) (.seq (.seq (.row [⟨some 11, .mv (.t 5), none⟩, ⟨some 12, .mv (.c (.int .i64 0)), none⟩]) (.block 0 (.loop dc103l0))) (.seq (.row [⟨some 28, .mv (.t 6), none⟩, ⟨some 29, .mkif 99 (.t 28), none⟩, ⟨some 4, .mv (.t 29), none⟩]) .ret)))))
def fr103 : FnR := ⟨dc103, 30, [.t 4]⟩
theorem ok103 : FnOk Tryz.prog 103 fr103 := ⟨⟨Tryz.f103, _, Tryz.func103, rfl, by kernel_rfl, rfl, by kernel_rfl, by kernel_rfl⟩⟩
def dc104l0 : DC := (.seq (.row [⟨some 15, .bin .lss (.t 14) (.t 13), none⟩]) (.seq (.cond (.t 15) .skip (.exit 0)) (.seq (.block 1 (.seq (.row [⟨some 16, .mv (.t 14), none⟩, ⟨some 7, .mv (.t 16), none⟩]) (.seq (.seq (.row [⟨some 17, .mv (.t 0), none⟩, ⟨some 18, .nilchk (.t 17), none⟩, ⟨some 19, .faddr 0 (.t 18), none⟩, ⟨some 20, .faddr 2 (.t 19), none⟩, ⟨some 21, .load none (.t 20), none⟩, ⟨some 22, .bin .neq (.t 21) (.c (.int .i64 0)), none⟩]) (.cond (.t 22) (.seq (.row [⟨some 4, .mv (.c .nilIface), none⟩]) .ret) .skip)) (.seq (.row [⟨some 23, .mv (.t 0), none⟩, ⟨some 24, .call (.c (.fn 102 [])) [(.t 23)], none⟩, ⟨some 25, .build [.str [], .nilIface] [(0, 1, (.t 24))], none⟩, ⟨some 8, .alloc 82 [.str [], .nilIface], none⟩, ⟨none, .store 2 (.t 8) (.t 25), none⟩]) (.seq (.seq (.drawn [⟨some 26, .mv (.t 7), none⟩, ⟨some 27, .bin .gtr (.t 26) (.c (.int .i64 0)), none⟩, ⟨some 28, .mv (.t 27), none⟩, ⟨some 29, .mv (.t 6), some (28, true)⟩, ⟨some 30, .mv (.t 7), some (28, true)⟩, ⟨some 31, .bin .sub (.t 30) (.c (.int .i64 1)), some (28, true)⟩, ⟨some 32, .iaddr 2 (.t 29) (.t 31), some (28, true)⟩, ⟨some 33, .faddr 0 (.t 32), some (28, true)⟩, ⟨some 34, .load none (.t 33), some (28, true)⟩, ⟨some 35, .faddr 0 (.t 8), some (28, true)⟩, ⟨some 36, .load none (.t 35), some (28, true)⟩, ⟨some 37, .bin .geq (.t 34) (.t 36), some (28, true)⟩, ⟨some 38, .pick (.t 28) (.t 37) (.c (.bool false)), none⟩] [[], [], [], [], [], [], [], [], [], [], [], [], []] []) (.cond (.t 38) (.row [⟨some 39, .mv (.t 0), none⟩, ⟨some 40, .call (.c (.fn 105 [])) [(.t 39), (.c (.int .i64 4))], none⟩]) .skip)) (.seq (.seq (.row [⟨some 41, .mv (.t 0), none⟩, ⟨some 42, .nilchk (.t 41), none⟩, ⟨some 43, .faddr 0 (.t 42), none⟩, ⟨some 44, .faddr 2 (.t 43), none⟩, ⟨some 45, .load none (.t 44), none⟩, ⟨some 46, .bin .neq (.t 45) (.c (.int .i64 0)), none⟩]) (.cond (.t 46) (.seq (.row [⟨some 4, .mv (.c .nilIface), none⟩]) .ret) .skip)) (.seq (.row [⟨some 47, .mv (.t 0), none⟩, ⟨some 48, .mv (.t 1), none⟩, ⟨some 49, .bin .add (.t 48) (.c (.int .i64 1)), none⟩, ⟨some 50, .call (.c (.fn 84 [])) [(.t 47), (.t 49)], none⟩, ⟨some 51, .faddr 1 (.t 8), none⟩, ⟨none, .store 1 (.t 51) (.t 50), none⟩]) (.row [⟨some 52, .mv (.t 6), none⟩, ⟨some 53, .load (some 2) (.t 8), none⟩, ⟨some 54, .bslice 82 2 [(.t 53)], none⟩, ⟨some 55, .app 82 2 32 (.t 52) (.t 54), none⟩, ⟨some 6, .mv (.t 55), none⟩])))))))) (.row [⟨some 56, .bin .add (.t 14) (.c (.int .i64 1)), none⟩, ⟨some 14, .mv (.t 56), none⟩]))))
def dc104 : DC := (.seq (.row [⟨some 4, .mv (.c .nilIface), none⟩]) (.seq (.row [⟨some 9, .mv (.t 0), none⟩, ⟨some 10, .mv (.t 1), none⟩, ⟨some 11, .call (.c (.fn 126 [])) [(.t 9), (.t 10)], none⟩, ⟨some 5, .mv (.t 11), none⟩]) (.seq (.row [⟨some 12, .bslice 82 2 [], none⟩, ⟨some 6, .mv (.t 12), none⟩]) (.seq (.seq (.row [⟨some 13, .mv (.t 5), none⟩, ⟨some 14, .mv (.c (.int .i64 0)), none⟩]) (.block 0 (.loop dc104l0))) (.seq (.row [⟨some 57, .mv (.t 6), none⟩, ⟨some 58, .mkif 85 (.t 57), none⟩, ⟨some 4, .mv (.t 58), none⟩]) .ret)))))
def fr104 : FnR := ⟨dc104, 59, [.t 4]⟩
theorem ok104 : FnOk Tryz.prog 104 fr104 := ⟨⟨Tryz.f104, _, Tryz.func104, rfl, by kernel_rfl, rfl, by kernel_rfl, by kernel_rfl⟩⟩
def dc105 : DC := (.seq (.row [⟨some 4, .mv (.t 0), none⟩, ⟨some 5, .nilchk (.t 4), none⟩, ⟨some 6, .faddr 0 (.t 5), none⟩, ⟨some 7, .faddr 2 (.t 6), none⟩, ⟨some 8, .load none (.t 7), none⟩, ⟨some 9, .bin .eql (.t 8) (.c (.int .i64 0)), none⟩]) (.cond (.t 9) (.row [⟨some 10, .mv (.t 0), none⟩, ⟨some 11, .mv (.t 1), none⟩, ⟨some 12, .nilchk (.t 10), none⟩, ⟨some 13, .faddr 0 (.t 12), none⟩, ⟨some 14, .faddr 2 (.t 13), none⟩, ⟨none, .store 1 (.t 14) (.t 11), none⟩]) .skip))
def fr105 : FnR := ⟨dc105, 15, []⟩
theorem ok105 : FnOk Tryz.prog 105 fr105 := ⟨⟨Tryz.f105, _, Tryz.func105, rfl, by kernel_rfl, rfl, by kernel_rfl, by kernel_rfl⟩⟩
def dc106 : DC := (.seq (.row [⟨some 1, .box 133 (.t 0), none⟩, ⟨some 2, .mv (.c (.bool false)), none⟩]) (.seq (.row [⟨some 3, .faddr 1 (.t 1), none⟩, ⟨some 4, .load none (.t 3), none⟩, ⟨some 5, .bin .geq (.t 4) (.c (.int .i64 0)), none⟩, ⟨some 6, .mv (.t 5), none⟩, ⟨some 7, .faddr 1 (.t 1), some (6, true)⟩, ⟨some 8, .load none (.t 7), some (6, true)⟩, ⟨some 9, .faddr 0 (.t 1), some (6, true)⟩, ⟨some 10, .load none (.t 9), some (6, true)⟩, ⟨some 11, .len true (.t 10), some (6, true)⟩, ⟨some 12, .bin .leq (.t 8) (.t 11), some (6, true)⟩, ⟨some 13, .pick (.t 6) (.t 12) (.c (.bool false)), none⟩, ⟨some 2, .mv (.t 13), none⟩]) .ret))
def fr106 : FnR := ⟨dc106, 14, [.t 2]⟩
theorem ok106 : FnOk Tryz.prog 106 fr106 := ⟨⟨Tryz.f106, _, Tryz.func106, rfl, by kernel_rfl, rfl, by kernel_rfl, by kernel_rfl⟩⟩
def dc107 : DC := (.seq (.row [⟨some 1, .box 133 (.t 0), none⟩, ⟨some 2, .mv (.c (.int .i64 0)), none⟩]) (.seq (.row [⟨some 3, .faddr 0 (.t 1), none⟩, ⟨some 4, .load none (.t 3), none⟩, ⟨some 5, .len true (.t 4), none⟩, ⟨some 6, .faddr 1 (.t 1), none⟩, ⟨some 7, .load none (.t 6), none⟩, ⟨some 8, .bin .sub (.t 5) (.t 7), none⟩, ⟨some 2, .mv (.t 8), none⟩]) .ret))
def fr107 : FnR := ⟨dc107, 9, [.t 2]⟩
theorem ok107 : FnOk Tryz.prog 107 fr107 := ⟨⟨Tryz.f107, _, Tryz.func107, rfl, by kernel_rfl, rfl, by kernel_rfl, by kernel_rfl⟩⟩
def dc111 : DC := (.seq (.row [⟨some 4, .mv (.c (.bool false)), none⟩]) (.seq (.row [⟨some 5, .mv (.t 0), none⟩, ⟨some 6, .len true (.t 5), none⟩, ⟨some 7, .mv (.t 1), none⟩, ⟨some 8, .len true (.t 7), none⟩, ⟨some 9, .bin .geq (.t 6) (.t 8), none⟩, ⟨some 10, .mv (.t 9), none⟩, ⟨some 11, .mv (.t 0), some (10, true)⟩, ⟨some 12, .mv (.t 1), some (10, true)⟩, ⟨some 13, .len true (.t 12), some (10, true)⟩, ⟨some 14, .cuts (.t 11) none (some (.t 13)), some (10, true)⟩, ⟨some 15, .mv (.t 1), some (10, true)⟩, ⟨some 16, .bin .eql (.t 14) (.t 15), some (10, true)⟩, ⟨some 17, .pick (.t 10) (.t 16) (.c (.bool false)), none⟩, ⟨some 4, .mv (.t 17), none⟩]) .ret))
def fr111 : FnR := ⟨dc111, 18, [.t 4]⟩
theorem ok111 : FnOk Tryz.prog 111 fr111 := ⟨⟨Tryz.f111, _, Tryz.func111, rfl, by kernel_rfl, rfl, by kernel_rfl, by kernel_rfl⟩⟩
def dc114l0 : DC := (.seq (.seq (.row [⟨some 22, .mv (.t 7), none⟩, ⟨some 23, .mv (.t 1), none⟩, ⟨some 24, .bin .sub (.t 23) (.c (.int .i64 1)), none⟩, ⟨some 25, .bin .lss (.t 22) (.t 24), none⟩]) (.cond (.t 25) .skip (.exit 0))) (.seq (.block 1 (.seq (.row [⟨some 29, .mv (.t 0), none⟩, ⟨some 30, .call (.c (.fn 131 [])) [(.t 29)], none⟩, ⟨some 28, .mv (.t 30), none⟩, ⟨some 31, .ext 0 (.t 28), none⟩, ⟨some 32, .ext 1 (.t 28), none⟩, ⟨some 8, .mv (.t 31), none⟩, ⟨some 9, .mv (.t 32), none⟩]) (.seq (.row [⟨some 33, .mv (.t 6), none⟩, ⟨some 34, .mv (.t 7), none⟩, ⟨some 35, .mv (.t 0), none⟩, ⟨some 36, .mv (.t 9), none⟩, ⟨some 37, .cuts (.t 35) none (some (.t 36)), none⟩, ⟨some 38, .iaddr 1 (.t 33) (.t 34), none⟩, ⟨none, .store 1 (.t 38) (.t 37), none⟩]) (.row [⟨some 39, .mv (.t 0), none⟩, ⟨some 40, .mv (.t 9), none⟩, ⟨some 41, .cuts (.t 39) (some (.t 40)) none, none⟩, ⟨some 0, .mv (.t 41), none⟩])))) (.row [⟨some 26, .mv (.t 7), none⟩, ⟨some 27, .bin .add (.t 26) (.c (.int .i64 1)), none⟩, ⟨some 7, .mv (.t 27), none⟩])))
def dc114 : DC := (.seq (.row [⟨some 4, .mv (.c .nilsl), none⟩]) (.seq (.row [⟨some 10, .mv (.t 0), none⟩, ⟨some 11, .call (.c (.fn 130 [])) [(.t 10)], none⟩, ⟨some 5, .mv (.t 11), none⟩]) (.seq (.seq (.row [⟨some 12, .mv (.t 1), none⟩, ⟨some 13, .bin .lss (.t 12) (.c (.int .i64 0)), none⟩, ⟨some 14, .mv (.t 13), none⟩, ⟨some 15, .mv (.t 1), some (14, false)⟩, ⟨some 16, .mv (.t 5), some (14, false)⟩, ⟨some 17, .bin .gtr (.t 15) (.t 16), some (14, false)⟩, ⟨some 18, .pick (.t 14) (.c (.bool true)) (.t 17), none⟩]) (.cond (.t 18) (.row [⟨some 19, .mv (.t 5), none⟩, ⟨some 1, .mv (.t 19), none⟩]) .skip)) (.seq (.row [⟨some 20, .mv (.t 1), none⟩, ⟨some 21, .mksl 9 1 16 (.str []) (.t 20) (.t 20), none⟩, ⟨some 6, .mv (.t 21), none⟩]) (.seq (.seq (.row [⟨some 7, .mv (.c (.int .i64 0)), none⟩]) (.block 0 (.loop dc114l0))) (.seq (.seq (.row [⟨some 42, .mv (.t 1), none⟩, ⟨some 43, .bin .gtr (.t 42) (.c (.int .i64 0)), none⟩]) (.cond (.t 43) (.row [⟨some 44, .mv (.t 6), none⟩, ⟨some 45, .mv (.t 1), none⟩, ⟨some 46, .bin .sub (.t 45) (.c (.int .i64 1)), none⟩, ⟨some 47, .mv (.t 0), none⟩, ⟨some 48, .iaddr 1 (.t 44) (.t 46), none⟩, ⟨none, .store 1 (.t 48) (.t 47), none⟩]) .skip)) (.seq (.row [⟨some 49, .mv (.t 6), none⟩, ⟨some 4, .mv (.t 49), none⟩]) .ret)))))))
def fr114 : FnR := ⟨dc114, 50, [.t 4]⟩
theorem ok114 : FnOk Tryz.prog 114 fr114 := ⟨⟨Tryz.f114, _, Tryz.func114, rfl, by kernel_rfl, rfl, by kernel_rfl, by kernel_rfl⟩⟩
def dc115l0 : DC := (.block 1 (.seq (.row [⟨some 20, .mv (.t 0), none⟩, ⟨some 21, .mv (.t 1), none⟩, ⟨some 22, .call (.c (.fn 116 [])) [(.t 20), (.t 21)], none⟩, ⟨some 6, .mv (.t 22), none⟩]) (.seq (.seq (.row [⟨some 23, .mv (.t 6), none⟩, ⟨some 24, .bin .eql (.t 23) (.c (.int .i64 (-1))), none⟩]) (.cond (.t 24) (.seq (.row [⟨some 25, .mv (.t 5), none⟩, ⟨some 4, .mv (.t 25), none⟩]) .ret) .skip)) (.seq (.row [⟨some 26, .mv (.t 5), none⟩, ⟨some 27, .bin .add (.t 26) (.c (.int .i64 1)), none⟩, ⟨some 5, .mv (.t 27), none⟩]) (.row [⟨some 28, .mv (.t 0), none⟩, ⟨some 29, .mv (.t 6), none⟩, ⟨some 30, .mv (.t 1), none⟩, ⟨some 31, .len true (.t 30), none⟩, ⟨some 32, .bin .add (.t 29) (.t 31), none⟩, ⟨some 33, .cuts (.t 28) (some (.t 32)) none, none⟩, ⟨some 0, .mv (.t 33), none⟩])))))
def dc115 : DC := (.seq (.row [⟨some 4, .mv (.c (.int .i64 0)), none⟩]) (.seq (.seq (.row [⟨some 7, .mv (.t 1), none⟩, ⟨some 8, .len true (.t 7), none⟩, ⟨some 9, .bin .eql (.t 8) (.c (.int .i64 0)), none⟩]) (.cond (.t 9) (.seq (.row [⟨some 10, .mv (.t 0), none⟩, ⟨some 11, .call (.c (.fn 130 [])) [(.t 10)], none⟩, ⟨some 12, .bin .add (.t 11) (.c (.int .i64 1)), none⟩, ⟨some 4, .mv (.t 12), none⟩]) .ret) .skip)) (.seq (.seq (.row [⟨some 13, .mv (.t 1), none⟩, ⟨some 14, .len true (.t 13), none⟩, ⟨some 15, .bin .eql (.t 14) (.c (.int .i64 1)), none⟩]) (.cond (.t 15) (.seq (.row [⟨some 16, .mv (.t 0), none⟩, ⟨some 17, .mv (.t 1), none⟩, ⟨some 18, .idxs (.t 17) (.c (.int .i64 0)), none⟩, ⟨some 19, .call (.c (.fn 132 [])) [(.t 16), (.t 18)], none⟩, ⟨some 4, .mv (.t 19), none⟩]) .ret) .skip)) (.seq (.row [⟨some 5, .mv (.c (.int .i64 0)), none⟩]) (.block 0 (.loop dc115l0))))))
def fr115 : FnR := ⟨dc115, 34, [.t 4]⟩
theorem ok115 : FnOk Tryz.prog 115 fr115 := ⟨⟨Tryz.f115, _, Tryz.func115, rfl, by kernel_rfl, rfl, by kernel_rfl, by kernel_rfl⟩⟩
def dc116 : DC := (.seq (.row [⟨some 4, .mv (.c (.int .i64 0)), none⟩]) (.seq (.row [⟨some 5, .mv (.t 0), none⟩, ⟨some 6, .mv (.t 1), none⟩, ⟨some 7, .call (.c (.fn 133 [])) [(.t 5), (.t 6)], none⟩, ⟨some 4, .mv (.t 7), none⟩]) .ret))
def fr116 : FnR := ⟨dc116, 8, [.t 4]⟩
theorem ok116 : FnOk Tryz.prog 116 fr116 := ⟨⟨Tryz.f116, _, Tryz.func116, rfl, by kernel_rfl, rfl, by kernel_rfl, by kernel_rfl⟩⟩
def dc117 : DC := (.seq (.row [⟨some 2, .mv (.c (.int .i64 0)), none⟩]) (.seq (.block 0 (.seq (.row [⟨some 4, .mv (.t 0), none⟩, ⟨some 5, .bin .geq (.t 4) (.c (.int .u8 48)), none⟩, ⟨some 6, .mv (.t 5), none⟩, ⟨some 7, .mv (.t 0), some (6, true)⟩, ⟨some 8, .bin .leq (.t 7) (.c (.int .u8 57)), some (6, true)⟩, ⟨some 9, .pick (.t 6) (.t 8) (.c (.bool false)), none⟩, ⟨some 3, .mv (.t 9), none⟩]) (.cond (.t 3) (.seq (.row [⟨some 10, .mv (.t 0), none⟩, ⟨some 11, .bin .sub (.t 10) (.c (.int .u8 48)), none⟩, ⟨some 12, .conv .i64 (.t 11), none⟩, ⟨some 2, .mv (.t 12), none⟩]) .ret) (.seq (.row [⟨some 14, .mv (.t 0), none⟩, ⟨some 15, .bin .geq (.t 14) (.c (.int .u8 97)), none⟩, ⟨some 16, .mv (.t 15), none⟩, ⟨some 17, .mv (.t 0), some (16, true)⟩, ⟨some 18, .bin .leq (.t 17) (.c (.int .u8 102)), some (16, true)⟩, ⟨some 19, .pick (.t 16) (.t 18) (.c (.bool false)), none⟩, ⟨some 13, .mv (.t 19), none⟩]) (.cond (.t 13) (.seq (.row [⟨some 20, .mv (.t 0), none⟩, ⟨some 21, .bin .sub (.t 20) (.c (.int .u8 97)), none⟩, ⟨some 22, .conv .i64 (.t 21), none⟩, ⟨some 23, .bin .add (.t 22) (.c (.int .i64 10)), none⟩, ⟨some 2, .mv (.t 23), none⟩]) .ret) .skip))))) (.seq (.row [⟨some 2, .mv (.c (.int .i64 (-1))), none⟩]) .ret)))
def fr117 : FnR := ⟨dc117, 24, [.t 2]⟩
theorem ok117 : FnOk Tryz.prog 117 fr117 := ⟨⟨Tryz.f117, _, Tryz.func117, rfl, by kernel_rfl, rfl, by kernel_rfl, by kernel_rfl⟩⟩
def dc118l0 : DC := (.seq (.row [⟨some 19, .bin .lss (.t 18) (.t 17), none⟩]) (.seq (.cond (.t 19) .skip (.exit 0)) (.seq (.block 1 (.seq (.row [⟨some 20, .iaddr 1 (.t 16) (.t 18), none⟩, ⟨some 21, .load none (.t 20), none⟩, ⟨some 7, .mv (.t 21), none⟩]) (.seq (.row [⟨some 22, .mv (.t 7), none⟩, ⟨some 23, .mv (.t 1), none⟩, ⟨some 24, .bin .add (.t 23) (.c (.int .i64 1)), none⟩, ⟨some 25, .call (.c (.fn 98 [])) [(.t 22), (.t 24)], none⟩, ⟨some 8, .mv (.t 25), none⟩]) (.seq (.row [⟨some 26, .mv (.t 8), none⟩, ⟨some 27, .bin .neq (.t 26) (.c (.int .i64 0)), none⟩]) (.cond (.t 27) (.seq (.row [⟨some 28, .mv (.t 8), none⟩, ⟨some 4, .mv (.t 28), none⟩]) .ret) .skip))))) (.row [⟨some 29, .bin .add (.t 18) (.c (.int .i64 1)), none⟩, ⟨some 18, .mv (.t 29), none⟩]))))
def dc118 : DC := (.seq (.row [⟨some 4, .mv (.c (.int .i64 0)), none⟩]) (.seq (.seq (.row [⟨some 9, .mv (.t 1), none⟩, ⟨some 10, .mv (.t 0), none⟩, ⟨some 11, .len false (.t 10), none⟩, ⟨some 12, .call (.c (.fn 134 [])) [(.t 9), (.t 11)], none⟩, ⟨some 5, .mv (.t 12), none⟩]) (.seq (.row [⟨some 13, .mv (.t 5), none⟩, ⟨some 14, .bin .neq (.t 13) (.c (.int .i64 0)), none⟩]) (.cond (.t 14) (.seq (.row [⟨some 15, .mv (.t 5), none⟩, ⟨some 4, .mv (.t 15), none⟩]) .ret) .skip))) (.seq (.seq (.row [⟨some 16, .mv (.t 0), none⟩, ⟨some 17, .len false (.t 16), none⟩, ⟨some 18, .mv (.c (.int .i64 0)), none⟩]) (.block 0 (.loop dc118l0))) (.seq (.row [⟨some 4, .mv (.c (.int .i64 0)), none⟩]) .ret))))
def fr118 : FnR := ⟨dc118, 30, [.t 4]⟩
theorem ok118 : FnOk Tryz.prog 118 fr118 := ⟨⟨Tryz.f118, _, Tryz.func118, rfl, by kernel_rfl, rfl, by kernel_rfl, by kernel_rfl⟩⟩
def dc119l0 : DC := (.seq (.row [⟨some 19, .bin .lss (.t 18) (.t 17), none⟩]) (.seq (.cond (.t 19) .skip (.exit 0)) (.seq (.block 1 (.seq (.row [⟨some 20, .mv (.t 18), none⟩, ⟨some 21, .iaddr 2 (.t 16) (.t 18), none⟩, ⟨some 22, .load (some 2) (.t 21), none⟩, ⟨some 7, .alloc 82 [.str [], .nilIface], none⟩, ⟨some 6, .mv (.t 20), none⟩, ⟨none, .store 2 (.t 7) (.t 22), none⟩]) (.seq (.seq (.row [⟨some 23, .faddr 0 (.t 7), none⟩, ⟨some 24, .load none (.t 23), none⟩, ⟨some 25, .len true (.t 24), none⟩, ⟨some 26, .bin .gtr (.t 25) (.c (.int .i64 65535)), none⟩]) (.cond (.t 26) (.seq (.row [⟨some 4, .mv (.c (.int .i64 5)), none⟩]) .ret) .skip)) (.seq (.seq (.drawn [⟨some 27, .mv (.t 6), none⟩, ⟨some 28, .bin .gtr (.t 27) (.c (.int .i64 0)), none⟩, ⟨some 29, .mv (.t 28), none⟩, ⟨some 30, .mv (.t 0), some (29, true)⟩, ⟨some 31, .mv (.t 6), some (29, true)⟩, ⟨some 32, .bin .sub (.t 31) (.c (.int .i64 1)), some (29, true)⟩, ⟨some 33, .iaddr 2 (.t 30) (.t 32), some (29, true)⟩, ⟨some 34, .faddr 0 (.t 33), some (29, true)⟩, ⟨some 35, .load none (.t 34), some (29, true)⟩, ⟨some 36, .faddr 0 (.t 7), some (29, true)⟩, ⟨some 37, .load none (.t 36), some (29, true)⟩, ⟨some 38, .bin .geq (.t 35) (.t 37), some (29, true)⟩, ⟨some 39, .pick (.t 29) (.t 38) (.c (.bool false)), none⟩] [[], [], [], [], [], [], [], [], [], [], [], [], []] []) (.cond (.t 39) (.seq (.row [⟨some 4, .mv (.c (.int .i64 4)), none⟩]) .ret) .skip)) (.seq (.row [⟨some 40, .faddr 1 (.t 7), none⟩, ⟨some 41, .load none (.t 40), none⟩, ⟨some 42, .mv (.t 1), none⟩, ⟨some 43, .bin .add (.t 42) (.c (.int .i64 1)), none⟩, ⟨some 44, .call (.c (.fn 98 [])) [(.t 41), (.t 43)], none⟩, ⟨some 8, .mv (.t 44), none⟩]) (.seq (.row [⟨some 45, .mv (.t 8), none⟩, ⟨some 46, .bin .neq (.t 45) (.c (.int .i64 0)), none⟩]) (.cond (.t 46) (.seq (.row [⟨some 47, .mv (.t 8), none⟩, ⟨some 4, .mv (.t 47), none⟩]) .ret) .skip))))))) (.row [⟨some 48, .bin .add (.t 18) (.c (.int .i64 1)), none⟩, ⟨some 18, .mv (.t 48), none⟩]))))
def dc119 : DC := (.seq (.row [⟨some 4, .mv (.c (.int .i64 0)), none⟩]) (.seq (.seq (.row [⟨some 9, .mv (.t 1), none⟩, ⟨some 10, .mv (.t 0), none⟩, ⟨some 11, .len false (.t 10), none⟩, ⟨some 12, .call (.c (.fn 134 [])) [(.t 9), (.t 11)], none⟩, ⟨some 5, .mv (.t 12), none⟩]) (.seq (.row [⟨some 13, .mv (.t 5), none⟩, ⟨some 14, .bin .neq (.t 13) (.c (.int .i64 0)), none⟩]) (.cond (.t 14) (.seq (.row [⟨some 15, .mv (.t 5), none⟩, ⟨some 4, .mv (.t 15), none⟩]) .ret) .skip))) (.seq (.seq (.row [⟨some 16, .mv (.t 0), none⟩, ⟨some 17, .len false (.t 16), none⟩, ⟨some 18, .mv (.c (.int .i64 0)), none⟩]) (.block 0 (.loop dc119l0))) (.seq (.row [⟨some 4, .mv (.c (.int .i64 0)), none⟩]) .ret))))
def fr119 : FnR := ⟨dc119, 49, [.t 4]⟩
theorem ok119 : FnOk Tryz.prog 119 fr119 := ⟨⟨Tryz.f119, _, Tryz.func119, rfl, by kernel_rfl, rfl, by kernel_rfl, by kernel_rfl⟩⟩
def dc120 : DC := (.seq (.row [⟨some 2, .mv (.c (.bool false)), none⟩]) (.seq (.row [⟨some 3, .mv (.t 0), none⟩, ⟨some 4, .bin .geq (.t 3) (.c (.int .i64 1)), none⟩, ⟨some 5, .mv (.t 4), none⟩, ⟨some 6, .mv (.t 0), some (5, true)⟩, ⟨some 7, .bin .leq (.t 6) (.c (.int .i64 8)), some (5, true)⟩, ⟨some 8, .pick (.t 5) (.t 7) (.c (.bool false)), none⟩, ⟨some 2, .mv (.t 8), none⟩]) .ret))
def fr120 : FnR := ⟨dc120, 9, [.t 2]⟩
theorem ok120 : FnOk Tryz.prog 120 fr120 := ⟨⟨Tryz.f120, _, Tryz.func120, rfl, by kernel_rfl, rfl, by kernel_rfl, by kernel_rfl⟩⟩
def dc121 : DC := (.seq (.row [⟨some 4, .mv (.c .nilsl), none⟩]) (.seq (.row [⟨some 6, .mv (.t 0), none⟩, ⟨some 7, .len false (.t 6), none⟩, ⟨some 8, .mv (.t 0), none⟩, ⟨some 9, .len false (.t 8), none⟩, ⟨some 10, .mv (.t 1), none⟩, ⟨some 11, .bin .add (.t 9) (.t 10), none⟩, ⟨some 12, .mksl 5 1 1 (.int .u8 0) (.t 7) (.t 11), none⟩, ⟨some 5, .mv (.t 12), none⟩]) (.seq (.row [⟨some 13, .mv (.t 5), none⟩, ⟨some 14, .mv (.t 0), none⟩, ⟨some 15, .copy 1 (.t 13) (.t 14), none⟩]) (.seq (.row [⟨some 16, .mv (.t 5), none⟩, ⟨some 4, .mv (.t 16), none⟩]) .ret))))
def fr121 : FnR := ⟨dc121, 17, [.t 4]⟩
theorem ok121 : FnOk Tryz.prog 121 fr121 := ⟨⟨Tryz.f121, _, Tryz.func121, rfl, by kernel_rfl, rfl, by kernel_rfl, by kernel_rfl⟩⟩
def dc122l0 : DC := (.seq (.seq (.row [⟨some 11, .mv (.t 7), none⟩, ⟨some 12, .bin .geq (.t 11) (.c (.int .i64 0)), none⟩]) (.cond (.t 12) .skip (.exit 0))) (.seq (.block 1 (.row [⟨some 15, .mv (.t 0), none⟩, ⟨some 16, .mv (.t 2), none⟩, ⟨some 17, .mv (.t 7), none⟩, ⟨some 18, .bin .shr (.t 16) (.t 17), none⟩, ⟨some 19, .conv .u8 (.t 18), none⟩, ⟨some 20, .bslice 5 1 [(.t 19)], none⟩, ⟨some 21, .app 5 1 1 (.t 15) (.t 20), none⟩, ⟨some 0, .mv (.t 21), none⟩])) (.row [⟨some 13, .mv (.t 7), none⟩, ⟨some 14, .bin .sub (.t 13) (.c (.int .i64 8)), none⟩, ⟨some 7, .mv (.t 14), none⟩])))
def dc122 : DC := (.seq (.row [⟨some 6, .mv (.c .nilsl), none⟩]) (.seq (.seq (.row [⟨some 8, .mv (.t 1), none⟩, ⟨some 9, .bin .sub (.t 8) (.c (.int .i64 1)), none⟩, ⟨some 10, .bin .mul (.c (.int .i64 8)) (.t 9), none⟩, ⟨some 7, .mv (.t 10), none⟩]) (.block 0 (.loop dc122l0))) (.seq (.row [⟨some 22, .mv (.t 0), none⟩, ⟨some 6, .mv (.t 22), none⟩]) .ret)))
def fr122 : FnR := ⟨dc122, 23, [.t 6]⟩
theorem ok122 : FnOk Tryz.prog 122 fr122 := ⟨⟨Tryz.f122, _, Tryz.func122, rfl, by kernel_rfl, rfl, by kernel_rfl, by kernel_rfl⟩⟩
def dc123 : DC := (.seq (.row [⟨some 4, .mv (.c .nilsl), none⟩, ⟨some 5, .mv (.c (.int .i64 0)), none⟩]) (.seq (.seq (.row [⟨some 7, .mv (.t 1), none⟩, ⟨some 8, .len true (.t 7), none⟩, ⟨some 9, .bin .gtr (.t 8) (.c (.int .i64 65535)), none⟩]) (.cond (.t 9) (.seq (.row [⟨some 4, .mv (.c .nilsl), none⟩, ⟨some 5, .mv (.c (.int .i64 5)), none⟩]) .ret) .skip)) (.seq (.row [⟨some 10, .mv (.t 0), none⟩, ⟨some 11, .mv (.t 1), none⟩, ⟨some 12, .len true (.t 11), none⟩, ⟨some 13, .bin .add (.c (.int .i64 2)) (.t 12), none⟩, ⟨some 14, .call (.c (.fn 121 [])) [(.t 10), (.t 13)], none⟩, ⟨some 15, .mv (.t 1), none⟩, ⟨some 16, .len true (.t 15), none⟩, ⟨some 17, .conv .u64 (.t 16), none⟩, ⟨some 18, .call (.c (.fn 122 [])) [(.t 14), (.c (.int .i64 2)), (.t 17)], none⟩, ⟨some 6, .mv (.t 18), none⟩]) (.seq (.row [⟨some 19, .mv (.t 6), none⟩, ⟨some 20, .mv (.t 1), none⟩, ⟨some 21, .app 5 1 1 (.t 19) (.t 20), none⟩, ⟨some 4, .mv (.t 21), none⟩, ⟨some 5, .mv (.c (.int .i64 0)), none⟩]) .ret))))
def fr123 : FnR := ⟨dc123, 22, [.t 4, .t 5]⟩
theorem ok123 : FnOk Tryz.prog 123 fr123 := ⟨⟨Tryz.f123, _, Tryz.func123, rfl, by kernel_rfl, rfl, by kernel_rfl, by kernel_rfl⟩⟩
def dc124l0 : DC := (.seq (.row [⟨some 44, .bin .lss (.t 43) (.t 42), none⟩]) (.seq (.cond (.t 44) .skip (.exit 1)) (.seq (.block 2 (.seq (.row [⟨some 45, .iaddr 1 (.t 41) (.t 43), none⟩, ⟨some 46, .load none (.t 45), none⟩, ⟨some 8, .mv (.t 46), none⟩]) (.row [⟨some 47, .mv (.t 6), none⟩, ⟨some 48, .bin .shl (.t 47) (.c (.int .u64 8)), none⟩, ⟨some 49, .mv (.t 8), none⟩, ⟨some 50, .conv .u64 (.t 49), none⟩, ⟨some 51, .bin .or (.t 48) (.t 50), none⟩, ⟨some 6, .mv (.t 51), none⟩]))) (.row [⟨some 52, .bin .add (.t 43) (.c (.int .i64 1)), none⟩, ⟨some 43, .mv (.t 52), none⟩]))))
def dc124 : DC := (.seq (.row [⟨some 2, .box 133 (.t 0), none⟩, ⟨some 4, .mv (.c (.int .u64 0)), none⟩, ⟨some 5, .alloc 133 [.str [], .int .i64 0, .int .i64 0], none⟩]) (.seq (.block 0 (.seq (.row [⟨some 10, .faddr 2 (.t 2), none⟩, ⟨some 11, .load none (.t 10), none⟩, ⟨some 12, .bin .neq (.t 11) (.c (.int .i64 0)), none⟩, ⟨some 9, .mv (.t 12), none⟩]) (.cond (.t 9) (.seq (.drawn [⟨some 13, .load (some 3) (.t 2), none⟩, ⟨some 4, .mv (.c (.int .u64 0)), none⟩, ⟨none, .store 3 (.t 5) (.t 13), none⟩] [[], [], []] []) .ret) (.seq (.row [⟨some 15, .load (some 3) (.t 2), none⟩, ⟨some 16, .call (.c (.fn 106 [])) [(.t 15)], none⟩, ⟨some 17, .un .not (.t 16), none⟩, ⟨some 18, .mv (.t 17), none⟩, ⟨some 19, .mv (.t 1), some (18, false)⟩, ⟨some 20, .call (.c (.fn 120 [])) [(.t 19)], some (18, false)⟩, ⟨some 21, .un .not (.t 20), some (18, false)⟩, ⟨some 22, .pick (.t 18) (.c (.bool true)) (.t 21), none⟩, ⟨some 14, .mv (.t 22), none⟩]) (.cond (.t 14) (.seq (.row [⟨some 23, .load (some 3) (.t 2), none⟩, ⟨some 24, .call (.c (.fn 135 [])) [(.t 23), (.c (.int .i64 2))], none⟩, ⟨some 4, .mv (.c (.int .u64 0)), none⟩, ⟨none, .store 3 (.t 5) (.t 24), none⟩]) .ret) (.seq (.row [⟨some 26, .load (some 3) (.t 2), none⟩, ⟨some 27, .call (.c (.fn 107 [])) [(.t 26)], none⟩, ⟨some 28, .mv (.t 1), none⟩, ⟨some 29, .bin .lss (.t 27) (.t 28), none⟩, ⟨some 25, .mv (.t 29), none⟩]) (.cond (.t 25) (.seq (.row [⟨some 30, .load (some 3) (.t 2), none⟩, ⟨some 31, .call (.c (.fn 135 [])) [(.t 30), (.c (.int .i64 3))], none⟩, ⟨some 4, .mv (.c (.int .u64 0)), none⟩, ⟨none, .store 3 (.t 5) (.t 31), none⟩]) .ret) .skip))))))) (.seq (.row [⟨some 6, .mv (.c (.int .u64 0)), none⟩]) (.seq (.seq (.row [⟨some 32, .faddr 0 (.t 2), none⟩, ⟨some 33, .load none (.t 32), none⟩, ⟨some 34, .faddr 1 (.t 2), none⟩, ⟨some 35, .load none (.t 34), none⟩, ⟨some 36, .faddr 1 (.t 2), none⟩, ⟨some 37, .load none (.t 36), none⟩, ⟨some 38, .mv (.t 1), none⟩, ⟨some 39, .bin .add (.t 37) (.t 38), none⟩, ⟨some 40, .cuts (.t 33) (some (.t 35)) (some (.t 39)), none⟩, ⟨some 41, .s2b 5 (.t 40), none⟩, ⟨some 42, .len false (.t 41), none⟩, ⟨some 43, .mv (.c (.int .i64 0)), none⟩]) (.block 1 (.loop dc124l0))) (.seq (.row [⟨some 53, .faddr 1 (.t 2), none⟩, ⟨some 54, .load none (.t 53), none⟩, ⟨some 55, .mv (.t 1), none⟩, ⟨some 56, .bin .add (.t 54) (.t 55), none⟩, ⟨some 57, .faddr 1 (.t 2), none⟩, ⟨none, .store 1 (.t 57) (.t 56), none⟩]) (.seq (.drawn [⟨some 58, .mv (.t 6), none⟩, ⟨some 59, .load (some 3) (.t 2), none⟩, ⟨some 4, .mv (.t 58), none⟩, ⟨none, .store 3 (.t 5) (.t 59), none⟩] [[], [], [], []] []) .ret))))))
def fr124 : FnR := ⟨dc124, 60, [.t 4, .cell (some 3) 5]⟩
theorem ok124 : FnOk Tryz.prog 124 fr124 := ⟨⟨Tryz.f124, _, Tryz.func124, rfl, by kernel_rfl, rfl, by kernel_rfl, by kernel_rfl⟩⟩
def dc125 : DC := (.seq (.row [⟨some 1, .box 133 (.t 0), none⟩, ⟨some 2, .mv (.c (.str [])), none⟩, ⟨some 3, .alloc 133 [.str [], .int .i64 0, .int .i64 0], none⟩]) (.seq (.row [⟨some 8, .load (some 3) (.t 1), none⟩, ⟨some 9, .call (.c (.fn 124 [])) [(.t 8), (.c (.int .i64 2))], none⟩, ⟨some 7, .mv (.t 9), none⟩, ⟨some 10, .ext 0 (.t 7), none⟩, ⟨some 11, .ext 1 (.t 7), none⟩, ⟨some 5, .alloc 133 [.str [], .int .i64 0, .int .i64 0], none⟩, ⟨some 4, .mv (.t 10), none⟩, ⟨none, .store 3 (.t 5) (.t 11), none⟩]) (.seq (.seq (.row [⟨some 12, .faddr 2 (.t 5), none⟩, ⟨some 13, .load none (.t 12), none⟩, ⟨some 14, .bin .neq (.t 13) (.c (.int .i64 0)), none⟩]) (.cond (.t 14) (.seq (.drawn [⟨some 15, .load (some 3) (.t 5), none⟩, ⟨some 2, .mv (.c (.str [])), none⟩, ⟨none, .store 3 (.t 3) (.t 15), none⟩] [[], [], []] []) .ret) .skip)) (.seq (.seq (.row [⟨some 16, .load (some 3) (.t 5), none⟩, ⟨some 17, .call (.c (.fn 107 [])) [(.t 16)], none⟩, ⟨some 18, .mv (.t 4), none⟩, ⟨some 19, .conv .i64 (.t 18), none⟩, ⟨some 20, .bin .lss (.t 17) (.t 19), none⟩]) (.cond (.t 20) (.seq (.row [⟨some 21, .load (some 3) (.t 1), none⟩, ⟨some 22, .call (.c (.fn 135 [])) [(.t 21), (.c (.int .i64 3))], none⟩, ⟨some 2, .mv (.c (.str [])), none⟩, ⟨none, .store 3 (.t 3) (.t 22), none⟩]) .ret) .skip)) (.seq (.row [⟨some 23, .faddr 1 (.t 5), none⟩, ⟨some 24, .load none (.t 23), none⟩, ⟨some 6, .mv (.t 24), none⟩]) (.seq (.row [⟨some 25, .faddr 1 (.t 5), none⟩, ⟨some 26, .load none (.t 25), none⟩, ⟨some 27, .mv (.t 4), none⟩, ⟨some 28, .conv .i64 (.t 27), none⟩, ⟨some 29, .bin .add (.t 26) (.t 28), none⟩, ⟨some 30, .faddr 1 (.t 5), none⟩, ⟨none, .store 1 (.t 30) (.t 29), none⟩]) (.seq (.drawn [⟨some 31, .faddr 0 (.t 1), none⟩, ⟨some 32, .load none (.t 31), none⟩, ⟨some 33, .mv (.t 6), none⟩, ⟨some 34, .faddr 1 (.t 5), none⟩, ⟨some 35, .load none (.t 34), none⟩, ⟨some 36, .cuts (.t 32) (some (.t 33)) (some (.t 35)), none⟩, ⟨some 37, .load (some 3) (.t 5), none⟩, ⟨some 2, .mv (.t 36), none⟩, ⟨none, .store 3 (.t 3) (.t 37), none⟩] [[], [], [], [], [], [], [], [], []] []) .ret)))))))
def fr125 : FnR := ⟨dc125, 38, [.t 2, .cell (some 3) 3]⟩
theorem ok125 : FnOk Tryz.prog 125 fr125 := ⟨⟨Tryz.f125, _, Tryz.func125, rfl, by kernel_rfl, rfl, by kernel_rfl, by kernel_rfl⟩⟩
end Go.Ve

namespace Go.Ve
open Go.Proofs
set_option maxRecDepth 100000
def dc126 : DC := (.seq (.row [⟨some 4, .mv (.c (.int .i64 0)), none⟩]) (.seq (.seq (.row [⟨some 7, .mv (.t 1), none⟩, ⟨some 8, .bin .geq (.t 7) (.c (.int .i64 4)), none⟩]) (.cond (.t 8) (.row [⟨some 9, .mv (.t 0), none⟩, ⟨some 10, .call (.c (.fn 105 [])) [(.t 9), (.c (.int .i64 24))], none⟩]) .skip)) (.seq (.row [⟨some 11, .mv (.t 0), none⟩, ⟨some 12, .call (.c (.fn 101 [])) [(.t 11), (.c (.int .i64 1))], none⟩, ⟨some 13, .conv .i64 (.t 12), none⟩, ⟨some 5, .mv (.t 13), none⟩]) (.seq (.seq (.row [⟨some 14, .mv (.t 1), none⟩, ⟨some 15, .mv (.t 5), none⟩, ⟨some 16, .call (.c (.fn 134 [])) [(.t 14), (.t 15)], none⟩, ⟨some 6, .mv (.t 16), none⟩]) (.seq (.row [⟨some 17, .mv (.t 0), none⟩, ⟨some 18, .nilchk (.t 17), none⟩, ⟨some 19, .faddr 0 (.t 18), none⟩, ⟨some 20, .faddr 2 (.t 19), none⟩, ⟨some 21, .load none (.t 20), none⟩, ⟨some 22, .bin .eql (.t 21) (.c (.int .i64 0)), none⟩, ⟨some 23, .mv (.t 22), none⟩, ⟨some 24, .mv (.t 6), some (23, true)⟩, ⟨some 25, .bin .neq (.t 24) (.c (.int .i64 0)), some (23, true)⟩, ⟨some 26, .pick (.t 23) (.t 25) (.c (.bool false)), none⟩]) (.cond (.t 26) (.row [⟨some 27, .mv (.t 0), none⟩, ⟨some 28, .mv (.t 6), none⟩, ⟨some 29, .call (.c (.fn 105 [])) [(.t 27), (.t 28)], none⟩]) .skip))) (.seq (.row [⟨some 30, .mv (.t 5), none⟩, ⟨some 4, .mv (.t 30), none⟩]) .ret)))))
def fr126 : FnR := ⟨dc126, 31, [.t 4]⟩
theorem ok126 : FnOk Tryz.prog 126 fr126 := ⟨⟨Tryz.f126, _, Tryz.func126, rfl, by kernel_rfl, rfl, by kernel_rfl, by kernel_rfl⟩⟩
def dc130l0 : DC := (.seq (.row [⟨some 5, .next (.t 4), none⟩, ⟨some 6, .ext 0 (.t 5), none⟩]) (.seq (.cond (.t 6) .skip (.exit 0)) (.block 1 (.row [⟨some 7, .mv (.t 2), none⟩, ⟨some 8, .bin .add (.t 7) (.c (.int .i64 1)), none⟩, ⟨some 2, .mv (.t 8), none⟩]))))
def dc130 : DC := (.seq (.row [⟨some 2, .mv (.c (.int .i64 0)), none⟩]) (.seq (.seq (.row [⟨some 3, .mv (.t 0), none⟩, ⟨some 4, .range (.t 3), none⟩]) (.block 0 (.loop dc130l0))) (.seq (.row [⟨some 9, .mv (.t 2), none⟩, ⟨some 2, .mv (.t 9), none⟩]) .ret)))
def fr130 : FnR := ⟨dc130, 10, [.t 2]⟩
theorem ok130 : FnOk Tryz.prog 130 fr130 := ⟨⟨Tryz.f130, _, Tryz.func130, rfl, by kernel_rfl, rfl, by kernel_rfl, by kernel_rfl⟩⟩
def dc131 : DC := (.seq (.row [⟨some 2, .mv (.c (.int .i32 0)), none⟩, ⟨some 3, .mv (.c (.int .i64 0)), none⟩]) (.seq (.seq (.row [⟨some 4, .mv (.t 0), none⟩, ⟨some 5, .bin .neq (.t 4) (.c (.str [])), none⟩, ⟨some 6, .mv (.t 5), none⟩, ⟨some 7, .mv (.t 0), some (6, true)⟩, ⟨some 8, .idxs (.t 7) (.c (.int .i64 0)), some (6, true)⟩, ⟨some 9, .bin .lss (.t 8) (.c (.int .u8 128)), some (6, true)⟩, ⟨some 10, .pick (.t 6) (.t 9) (.c (.bool false)), none⟩]) (.cond (.t 10) (.seq (.row [⟨some 11, .mv (.t 0), none⟩, ⟨some 12, .idxs (.t 11) (.c (.int .i64 0)), none⟩, ⟨some 13, .conv .i32 (.t 12), none⟩, ⟨some 2, .mv (.t 13), none⟩, ⟨some 3, .mv (.c (.int .i64 1)), none⟩]) .ret) (.row [⟨some 15, .mv (.t 0), none⟩, ⟨some 16, .call (.c (.fn 136 [])) [(.t 15)], none⟩, ⟨some 14, .mv (.t 16), none⟩, ⟨some 17, .ext 0 (.t 14), none⟩, ⟨some 18, .ext 1 (.t 14), none⟩, ⟨some 2, .mv (.t 17), none⟩, ⟨some 3, .mv (.t 18), none⟩]))) .ret))
def fr131 : FnR := ⟨dc131, 19, [.t 2, .t 3]⟩
theorem ok131 : FnOk Tryz.prog 131 fr131 := ⟨⟨Tryz.f131, _, Tryz.func131, rfl, by kernel_rfl, rfl, by kernel_rfl, by kernel_rfl⟩⟩
def dc133l0 : DC := (.seq (.seq (.row [⟨some 57, .mv (.t 8), none⟩, ⟨some 58, .mv (.t 9), none⟩, ⟨some 59, .bin .lss (.t 57) (.t 58), none⟩]) (.cond (.t 59) .skip (.exit 1))) (.block 2 (.seq (.seq (.row [⟨some 60, .mv (.t 0), none⟩, ⟨some 61, .mv (.t 8), none⟩, ⟨some 62, .idxs (.t 60) (.t 61), none⟩, ⟨some 63, .mv (.t 6), none⟩, ⟨some 64, .bin .neq (.t 62) (.t 63), none⟩]) (.cond (.t 64) (.seq (.row [⟨some 65, .mv (.t 0), none⟩, ⟨some 66, .mv (.t 8), none⟩, ⟨some 67, .bin .add (.t 66) (.c (.int .i64 1)), none⟩, ⟨some 68, .mv (.t 9), none⟩, ⟨some 69, .cuts (.t 65) (some (.t 67)) (some (.t 68)), none⟩, ⟨some 70, .mv (.t 6), none⟩, ⟨some 71, .call (.c (.fn 137 [])) [(.t 69), (.t 70)], none⟩, ⟨some 11, .mv (.t 71), none⟩]) (.seq (.seq (.row [⟨some 72, .mv (.t 11), none⟩, ⟨some 73, .bin .lss (.t 72) (.c (.int .i64 0)), none⟩]) (.cond (.t 73) (.seq (.row [⟨some 4, .mv (.c (.int .i64 (-1))), none⟩]) .ret) .skip)) (.row [⟨some 74, .mv (.t 8), none⟩, ⟨some 75, .mv (.t 11), none⟩, ⟨some 76, .bin .add (.t 75) (.c (.int .i64 1)), none⟩, ⟨some 77, .bin .add (.t 74) (.t 76), none⟩, ⟨some 8, .mv (.t 77), none⟩]))) .skip)) (.seq (.seq (.row [⟨some 78, .mv (.t 0), none⟩, ⟨some 79, .mv (.t 8), none⟩, ⟨some 80, .bin .add (.t 79) (.c (.int .i64 1)), none⟩, ⟨some 81, .idxs (.t 78) (.t 80), none⟩, ⟨some 82, .mv (.t 7), none⟩, ⟨some 83, .bin .eql (.t 81) (.t 82), none⟩, ⟨some 84, .mv (.t 83), none⟩, ⟨some 85, .mv (.t 0), some (84, true)⟩, ⟨some 86, .mv (.t 8), some (84, true)⟩, ⟨some 87, .mv (.t 8), some (84, true)⟩, ⟨some 88, .mv (.t 5), some (84, true)⟩, ⟨some 89, .bin .add (.t 87) (.t 88), some (84, true)⟩, ⟨some 90, .cuts (.t 85) (some (.t 86)) (some (.t 89)), some (84, true)⟩, ⟨some 91, .mv (.t 1), some (84, true)⟩, ⟨some 92, .bin .eql (.t 90) (.t 91), some (84, true)⟩, ⟨some 93, .pick (.t 84) (.t 92) (.c (.bool false)), none⟩]) (.cond (.t 93) (.seq (.row [⟨some 94, .mv (.t 8), none⟩, ⟨some 4, .mv (.t 94), none⟩]) .ret) .skip)) (.seq (.row [⟨some 95, .mv (.t 8), none⟩, ⟨some 96, .bin .add (.t 95) (.c (.int .i64 1)), none⟩, ⟨some 8, .mv (.t 96), none⟩]) (.seq (.row [⟨some 97, .mv (.t 10), none⟩, ⟨some 98, .bin .add (.t 97) (.c (.int .i64 1)), none⟩, ⟨some 10, .mv (.t 98), none⟩]) (.seq (.row [⟨some 99, .mv (.t 5), none⟩, ⟨some 100, .stop, none⟩, ⟨some 101, .bin .leq (.t 99) (.t 100), none⟩, ⟨some 102, .mv (.t 101), none⟩, ⟨some 103, .mv (.t 10), some (102, true)⟩, ⟨some 104, .mv (.t 8), some (102, true)⟩, ⟨some 105, .call (.c (.fn 139 [])) [(.t 104)], some (102, true)⟩, ⟨some 106, .bin .gtr (.t 103) (.t 105), some (102, true)⟩, ⟨some 107, .pick (.t 102) (.t 106) (.c (.bool false)), none⟩]) (.cond (.t 107) (.seq (.row [⟨some 108, .mv (.t 0), none⟩, ⟨some 109, .mv (.t 8), none⟩, ⟨some 110, .cuts (.t 108) (some (.t 109)) none, none⟩, ⟨some 111, .mv (.t 1), none⟩, ⟨some 112, .call (.c (.fn 138 [])) [(.t 110), (.t 111)], none⟩, ⟨some 12, .mv (.t 112), none⟩]) (.seq (.seq (.row [⟨some 113, .mv (.t 12), none⟩, ⟨some 114, .bin .geq (.t 113) (.c (.int .i64 0)), none⟩]) (.cond (.t 114) (.seq (.row [⟨some 115, .mv (.t 12), none⟩, ⟨some 116, .mv (.t 8), none⟩, ⟨some 117, .bin .add (.t 115) (.t 116), none⟩, ⟨some 4, .mv (.t 117), none⟩]) .ret) .skip)) (.seq (.row [⟨some 4, .mv (.c (.int .i64 (-1))), none⟩]) .ret))) (.seq (.row [⟨some 118, .mv (.t 5), none⟩, ⟨some 119, .stop, none⟩, ⟨some 120, .bin .gtr (.t 118) (.t 119), none⟩, ⟨some 121, .mv (.t 120), none⟩, ⟨some 122, .mv (.t 10), some (121, true)⟩, ⟨some 123, .mv (.t 8), some (121, true)⟩, ⟨some 124, .bin .shr (.t 123) (.c (.int .u64 4)), some (121, true)⟩, ⟨some 125, .bin .add (.c (.int .i64 4)) (.t 124), some (121, true)⟩, ⟨some 126, .bin .geq (.t 122) (.t 125), some (121, true)⟩, ⟨some 127, .pick (.t 121) (.t 126) (.c (.bool false)), none⟩, ⟨some 128, .mv (.t 127), none⟩, ⟨some 129, .mv (.t 8), some (128, true)⟩, ⟨some 130, .mv (.t 9), some (128, true)⟩, ⟨some 131, .bin .lss (.t 129) (.t 130), some (128, true)⟩, ⟨some 132, .pick (.t 128) (.t 131) (.c (.bool false)), none⟩]) (.cond (.t 132) (.seq (.row [⟨some 133, .mv (.t 0), none⟩, ⟨some 134, .mv (.t 8), none⟩, ⟨some 135, .cuts (.t 133) (some (.t 134)) none, none⟩, ⟨some 136, .mv (.t 1), none⟩, ⟨some 137, .call (.c (.fn 140 [])) [(.t 135), (.t 136)], none⟩, ⟨some 13, .mv (.t 137), none⟩]) (.seq (.seq (.row [⟨some 138, .mv (.t 13), none⟩, ⟨some 139, .bin .lss (.t 138) (.c (.int .i64 0)), none⟩]) (.cond (.t 139) (.seq (.row [⟨some 4, .mv (.c (.int .i64 (-1))), none⟩]) .ret) .skip)) (.seq (.row [⟨some 140, .mv (.t 8), none⟩, ⟨some 141, .mv (.t 13), none⟩, ⟨some 142, .bin .add (.t 140) (.t 141), none⟩, ⟨some 4, .mv (.t 142), none⟩]) .ret))) .skip))))))))))
def dc133 : DC := (.seq (.row [⟨some 4, .mv (.c (.int .i64 0)), none⟩]) (.seq (.row [⟨some 14, .mv (.t 1), none⟩, ⟨some 15, .len true (.t 14), none⟩, ⟨some 5, .mv (.t 15), none⟩]) (.seq (.block 0 (.seq (.row [⟨some 17, .mv (.t 5), none⟩, ⟨some 18, .bin .eql (.t 17) (.c (.int .i64 0)), none⟩, ⟨some 19, .mv (.t 18), none⟩, ⟨some 20, .mv (.t 1), some (19, false)⟩, ⟨some 21, .mv (.t 0), some (19, false)⟩, ⟨some 22, .bin .eql (.t 20) (.t 21), some (19, false)⟩, ⟨some 23, .pick (.t 19) (.c (.bool true)) (.t 22), none⟩, ⟨some 16, .mv (.t 23), none⟩]) (.cond (.t 16) (.seq (.row [⟨some 4, .mv (.c (.int .i64 0)), none⟩]) .ret) (.seq (.row [⟨some 25, .mv (.t 5), none⟩, ⟨some 26, .bin .eql (.t 25) (.c (.int .i64 1)), none⟩, ⟨some 24, .mv (.t 26), none⟩]) (.cond (.t 24) (.seq (.row [⟨some 27, .mv (.t 0), none⟩, ⟨some 28, .mv (.t 1), none⟩, ⟨some 29, .idxs (.t 28) (.c (.int .i64 0)), none⟩, ⟨some 30, .call (.c (.fn 137 [])) [(.t 27), (.t 29)], none⟩, ⟨some 4, .mv (.t 30), none⟩]) .ret) (.seq (.row [⟨some 32, .mv (.t 5), none⟩, ⟨some 33, .mv (.t 0), none⟩, ⟨some 34, .len true (.t 33), none⟩, ⟨some 35, .bin .geq (.t 32) (.t 34), none⟩, ⟨some 31, .mv (.t 35), none⟩]) (.cond (.t 31) (.seq (.row [⟨some 4, .mv (.c (.int .i64 (-1))), none⟩]) .ret) (.seq (.row [⟨some 37, .mv (.t 5), none⟩, ⟨some 38, .stop, none⟩, ⟨some 39, .bin .leq (.t 37) (.t 38), none⟩, ⟨some 40, .mv (.t 39), none⟩, ⟨some 41, .mv (.t 0), some (40, true)⟩, ⟨some 42, .len true (.t 41), some (40, true)⟩, ⟨some 43, .bin .leq (.t 42) (.c (.int .i64 64)), some (40, true)⟩, ⟨some 44, .pick (.t 40) (.t 43) (.c (.bool false)), none⟩, ⟨some 36, .mv (.t 44), none⟩]) (.cond (.t 36) (.seq (.row [⟨some 45, .mv (.t 0), none⟩, ⟨some 46, .mv (.t 1), none⟩, ⟨some 47, .call (.c (.fn 138 [])) [(.t 45), (.t 46)], none⟩, ⟨some 4, .mv (.t 47), none⟩]) .ret) .skip))))))))) (.seq (.row [⟨some 48, .mv (.t 1), none⟩, ⟨some 49, .idxs (.t 48) (.c (.int .i64 0)), none⟩, ⟨some 6, .mv (.t 49), none⟩]) (.seq (.row [⟨some 50, .mv (.t 1), none⟩, ⟨some 51, .idxs (.t 50) (.c (.int .i64 1)), none⟩, ⟨some 7, .mv (.t 51), none⟩]) (.seq (.row [⟨some 8, .mv (.c (.int .i64 0)), none⟩]) (.seq (.row [⟨some 52, .mv (.t 0), none⟩, ⟨some 53, .len true (.t 52), none⟩, ⟨some 54, .mv (.t 5), none⟩, ⟨some 55, .bin .sub (.t 53) (.t 54), none⟩, ⟨some 56, .bin .add (.t 55) (.c (.int .i64 1)), none⟩, ⟨some 9, .mv (.t 56), none⟩]) (.seq (.row [⟨some 10, .mv (.c (.int .i64 0)), none⟩]) (.seq (.block 1 (.loop dc133l0)) (.seq (.row [⟨some 4, .mv (.c (.int .i64 (-1))), none⟩]) .ret))))))))))
def fr133 : FnR := ⟨dc133, 143, [.t 4]⟩
theorem ok133 : FnOk Tryz.prog 133 fr133 := ⟨⟨Tryz.f133, _, Tryz.func133, rfl, by kernel_rfl, rfl, by kernel_rfl, by kernel_rfl⟩⟩
def dc134 : DC := (.seq (.row [⟨some 4, .mv (.c (.int .i64 0)), none⟩]) (.seq (.seq (.row [⟨some 5, .mv (.t 0), none⟩, ⟨some 6, .bin .geq (.t 5) (.c (.int .i64 4)), none⟩]) (.cond (.t 6) (.seq (.row [⟨some 4, .mv (.c (.int .i64 24)), none⟩]) .ret) .skip)) (.seq (.seq (.row [⟨some 7, .mv (.t 1), none⟩, ⟨some 8, .bin .gtr (.t 7) (.c (.int .i64 64)), none⟩]) (.cond (.t 8) (.seq (.row [⟨some 4, .mv (.c (.int .i64 5)), none⟩]) .ret) .skip)) (.seq (.row [⟨some 4, .mv (.c (.int .i64 0)), none⟩]) .ret))))
def fr134 : FnR := ⟨dc134, 9, [.t 4]⟩
theorem ok134 : FnOk Tryz.prog 134 fr134 := ⟨⟨Tryz.f134, _, Tryz.func134, rfl, by kernel_rfl, rfl, by kernel_rfl, by kernel_rfl⟩⟩
def dc135 : DC := (.seq (.row [⟨some 2, .box 133 (.t 0), none⟩, ⟨some 4, .alloc 133 [.str [], .int .i64 0, .int .i64 0], none⟩]) (.seq (.row [⟨some 5, .mv (.t 1), none⟩, ⟨some 6, .faddr 2 (.t 2), none⟩, ⟨none, .store 1 (.t 6) (.t 5), none⟩]) (.seq (.row [⟨some 7, .load (some 3) (.t 2), none⟩, ⟨none, .store 3 (.t 4) (.t 7), none⟩]) .ret)))
def fr135 : FnR := ⟨dc135, 8, [.cell (some 3) 4]⟩
theorem ok135 : FnOk Tryz.prog 135 fr135 := ⟨⟨Tryz.f135, _, Tryz.func135, rfl, by kernel_rfl, rfl, by kernel_rfl, by kernel_rfl⟩⟩
def dc136 : DC := (.seq (.row [⟨some 2, .mv (.c (.int .i32 0)), none⟩, ⟨some 3, .mv (.c (.int .i64 0)), none⟩]) (.seq (.row [⟨some 13, .mv (.t 0), none⟩, ⟨some 14, .len true (.t 13), none⟩, ⟨some 4, .mv (.t 14), none⟩]) (.seq (.seq (.row [⟨some 15, .mv (.t 4), none⟩, ⟨some 16, .bin .lss (.t 15) (.c (.int .i64 1)), none⟩]) (.cond (.t 16) (.seq (.row [⟨some 2, .mv (.c (.int .i32 65533)), none⟩, ⟨some 3, .mv (.c (.int .i64 0)), none⟩]) .ret) .skip)) (.seq (.row [⟨some 17, .mv (.t 0), none⟩, ⟨some 18, .idxs (.t 17) (.c (.int .i64 0)), none⟩, ⟨some 5, .mv (.t 18), none⟩]) (.seq (.row [⟨some 19, .mv (.t 5), none⟩, ⟨some 20, .stop, none⟩, ⟨some 21, .load none (.t 20), none⟩, ⟨some 6, .mv (.t 21), none⟩]) (.seq (.seq (.row [⟨some 22, .mv (.t 6), none⟩, ⟨some 23, .bin .geq (.t 22) (.c (.int .u8 240)), none⟩]) (.cond (.t 23) (.seq (.row [⟨some 24, .mv (.t 6), none⟩, ⟨some 25, .conv .i32 (.t 24), none⟩, ⟨some 26, .bin .shl (.t 25) (.c (.int .u64 31)), none⟩, ⟨some 27, .bin .shr (.t 26) (.c (.int .u64 31)), none⟩, ⟨some 7, .mv (.t 27), none⟩]) (.seq (.row [⟨some 28, .mv (.t 0), none⟩, ⟨some 29, .idxs (.t 28) (.c (.int .i64 0)), none⟩, ⟨some 30, .conv .i32 (.t 29), none⟩, ⟨some 31, .mv (.t 7), none⟩, ⟨some 32, .bin .andNot (.t 30) (.t 31), none⟩, ⟨some 33, .mv (.t 7), none⟩, ⟨some 34, .bin .and (.c (.int .i32 65533)) (.t 33), none⟩, ⟨some 35, .bin .or (.t 32) (.t 34), none⟩, ⟨some 2, .mv (.t 35), none⟩, ⟨some 3, .mv (.c (.int .i64 1)), none⟩]) .ret)) .skip)) (.seq (.row [⟨some 36, .mv (.t 6), none⟩, ⟨some 37, .bin .and (.t 36) (.c (.int .u8 7)), none⟩, ⟨some 38, .conv .i64 (.t 37), none⟩, ⟨some 8, .mv (.t 38), none⟩]) (.seq (.row [⟨some 39, .mv (.t 6), none⟩, ⟨some 40, .bin .shr (.t 39) (.c (.int .u64 4)), none⟩, ⟨some 41, .stop, none⟩, ⟨some 42, .load (some 2) (.t 41), none⟩, ⟨some 9, .alloc 194 [.int .u8 0, .int .u8 0], none⟩, ⟨none, .store 2 (.t 9) (.t 42), none⟩]) (.seq (.seq (.row [⟨some 43, .mv (.t 4), none⟩, ⟨some 44, .mv (.t 8), none⟩, ⟨some 45, .bin .lss (.t 43) (.t 44), none⟩]) (.cond (.t 45) (.seq (.row [⟨some 2, .mv (.c (.int .i32 65533)), none⟩, ⟨some 3, .mv (.c (.int .i64 1)), none⟩]) .ret) .skip)) (.seq (.row [⟨some 46, .mv (.t 0), none⟩, ⟨some 47, .idxs (.t 46) (.c (.int .i64 1)), none⟩, ⟨some 10, .mv (.t 47), none⟩]) (.seq (.seq (.row [⟨some 48, .mv (.t 10), none⟩, ⟨some 49, .faddr 0 (.t 9), none⟩, ⟨some 50, .load none (.t 49), none⟩, ⟨some 51, .bin .lss (.t 48) (.t 50), none⟩, ⟨some 52, .mv (.t 51), none⟩, ⟨some 53, .faddr 1 (.t 9), some (52, false)⟩, ⟨some 54, .load none (.t 53), some (52, false)⟩, ⟨some 55, .mv (.t 10), some (52, false)⟩, ⟨some 56, .bin .lss (.t 54) (.t 55), some (52, false)⟩, ⟨some 57, .pick (.t 52) (.c (.bool true)) (.t 56), none⟩]) (.cond (.t 57) (.seq (.row [⟨some 2, .mv (.c (.int .i32 65533)), none⟩, ⟨some 3, .mv (.c (.int .i64 1)), none⟩]) .ret) .skip)) (.seq (.seq (.row [⟨some 58, .mv (.t 8), none⟩, ⟨some 59, .bin .leq (.t 58) (.c (.int .i64 2)), none⟩]) (.cond (.t 59) (.seq (.row [⟨some 60, .mv (.t 5), none⟩, ⟨some 61, .bin .and (.t 60) (.c (.int .u8 31)), none⟩, ⟨some 62, .conv .i32 (.t 61), none⟩, ⟨some 63, .bin .shl (.t 62) (.c (.int .u64 6)), none⟩, ⟨some 64, .mv (.t 10), none⟩, ⟨some 65, .bin .and (.t 64) (.c (.int .u8 63)), none⟩, ⟨some 66, .conv .i32 (.t 65), none⟩, ⟨some 67, .bin .or (.t 63) (.t 66), none⟩, ⟨some 2, .mv (.t 67), none⟩, ⟨some 3, .mv (.c (.int .i64 2)), none⟩]) .ret) .skip)) (.seq (.row [⟨some 68, .mv (.t 0), none⟩, ⟨some 69, .idxs (.t 68) (.c (.int .i64 2)), none⟩, ⟨some 11, .mv (.t 69), none⟩]) (.seq (.seq (.row [⟨some 70, .mv (.t 11), none⟩, ⟨some 71, .bin .lss (.t 70) (.c (.int .u8 128)), none⟩, ⟨some 72, .mv (.t 71), none⟩, ⟨some 73, .mv (.t 11), some (72, false)⟩, ⟨some 74, .bin .lss (.c (.int .u8 191)) (.t 73), some (72, false)⟩, ⟨some 75, .pick (.t 72) (.c (.bool true)) (.t 74), none⟩]) (.cond (.t 75) (.seq (.row [⟨some 2, .mv (.c (.int .i32 65533)), none⟩, ⟨some 3, .mv (.c (.int .i64 1)), none⟩]) .ret) .skip)) (.seq (.seq (.row [⟨some 76, .mv (.t 8), none⟩, ⟨some 77, .bin .leq (.t 76) (.c (.int .i64 3)), none⟩]) (.cond (.t 77) (.seq (.row [⟨some 78, .mv (.t 5), none⟩, ⟨some 79, .bin .and (.t 78) (.c (.int .u8 15)), none⟩, ⟨some 80, .conv .i32 (.t 79), none⟩, ⟨some 81, .bin .shl (.t 80) (.c (.int .u64 12)), none⟩, ⟨some 82, .mv (.t 10), none⟩, ⟨some 83, .bin .and (.t 82) (.c (.int .u8 63)), none⟩, ⟨some 84, .conv .i32 (.t 83), none⟩, ⟨some 85, .bin .shl (.t 84) (.c (.int .u64 6)), none⟩, ⟨some 86, .bin .or (.t 81) (.t 85), none⟩, ⟨some 87, .mv (.t 11), none⟩, ⟨some 88, .bin .and (.t 87) (.c (.int .u8 63)), none⟩, ⟨some 89, .conv .i32 (.t 88), none⟩, ⟨some 90, .bin .or (.t 86) (.t 89), none⟩, ⟨some 2, .mv (.t 90), none⟩, ⟨some 3, .mv (.c (.int .i64 3)), none⟩]) .ret) .skip)) (.seq (.row [⟨some 91, .mv (.t 0), none⟩, ⟨some 92, .idxs (.t 91) (.c (.int .i64 3)), none⟩, ⟨some 12, .mv (.t 92), none⟩]) (.seq (.seq (.row [⟨some 93, .mv (.t 12), none⟩, ⟨some 94, .bin .lss (.t 93) (.c (.int .u8 128)), none⟩, ⟨some 95, .mv (.t 94), none⟩, ⟨some 96, .mv (.t 12), some (95, false)⟩, ⟨some 97, .bin .lss (.c (.int .u8 191)) (.t 96), some (95, false)⟩, ⟨some 98, .pick (.t 95) (.c (.bool true)) (.t 97), none⟩]) (.cond (.t 98) (.seq (.row [⟨some 2, .mv (.c (.int .i32 65533)), none⟩, ⟨some 3, .mv (.c (.int .i64 1)), none⟩]) .ret) .skip)) (.seq (.row [⟨some 99, .mv (.t 5), none⟩, ⟨some 100, .bin .and (.t 99) (.c (.int .u8 7)), none⟩, ⟨some 101, .conv .i32 (.t 100), none⟩, ⟨some 102, .bin .shl (.t 101) (.c (.int .u64 18)), none⟩, ⟨some 103, .mv (.t 10), none⟩, ⟨some 104, .bin .and (.t 103) (.c (.int .u8 63)), none⟩, ⟨some 105, .conv .i32 (.t 104), none⟩, ⟨some 106, .bin .shl (.t 105) (.c (.int .u64 12)), none⟩, ⟨some 107, .bin .or (.t 102) (.t 106), none⟩, ⟨some 108, .mv (.t 11), none⟩, ⟨some 109, .bin .and (.t 108) (.c (.int .u8 63)), none⟩, ⟨some 110, .conv .i32 (.t 109), none⟩, ⟨some 111, .bin .shl (.t 110) (.c (.int .u64 6)), none⟩, ⟨some 112, .bin .or (.t 107) (.t 111), none⟩, ⟨some 113, .mv (.t 12), none⟩, ⟨some 114, .bin .and (.t 113) (.c (.int .u8 63)), none⟩, ⟨some 115, .conv .i32 (.t 114), none⟩, ⟨some 116, .bin .or (.t 112) (.t 115), none⟩, ⟨some 2, .mv (.t 116), none⟩, ⟨some 3, .mv (.c (.int .i64 4)), none⟩]) .ret))))))))))))))))))
def fr136 : FnR := ⟨dc136, 117, [.t 2, .t 3]⟩
theorem ok136 : FnOk Tryz.prog 136 fr136 := ⟨⟨Tryz.f136, _, Tryz.func136, rfl, by kernel_rfl, rfl, by kernel_rfl, by kernel_rfl⟩⟩
def dc137 : DC := (.seq (.row [⟨some 4, .mv (.c (.int .i64 0)), none⟩]) (.seq (.row [⟨some 5, .mv (.t 0), none⟩, ⟨some 6, .mv (.t 1), none⟩, ⟨some 7, .call (.c (.fn 141 [])) [(.t 5), (.t 6)], none⟩, ⟨some 4, .mv (.t 7), none⟩]) .ret))
def fr137 : FnR := ⟨dc137, 8, [.t 4]⟩
theorem ok137 : FnOk Tryz.prog 137 fr137 := ⟨⟨Tryz.f137, _, Tryz.func137, rfl, by kernel_rfl, rfl, by kernel_rfl, by kernel_rfl⟩⟩
def dc139 : DC := (.seq (.row [⟨some 2, .mv (.c (.int .i64 0)), none⟩]) (.seq (.row [⟨some 3, .mv (.t 0), none⟩, ⟨some 4, .bin .add (.t 3) (.c (.int .i64 16)), none⟩, ⟨some 5, .bin .quo (.t 4) (.c (.int .i64 8)), none⟩, ⟨some 2, .mv (.t 5), none⟩]) .ret))
def fr139 : FnR := ⟨dc139, 6, [.t 2]⟩
theorem ok139 : FnOk Tryz.prog 139 fr139 := ⟨⟨Tryz.f139, _, Tryz.func139, rfl, by kernel_rfl, rfl, by kernel_rfl, by kernel_rfl⟩⟩
def dc140l0 : DC := (.seq (.seq (.row [⟨some 18, .mv (.t 9), none⟩, ⟨some 19, .mv (.t 7), none⟩, ⟨some 20, .bin .lss (.t 18) (.t 19), none⟩]) (.cond (.t 20) .skip (.exit 0))) (.seq (.block 1 (.row [⟨some 23, .mv (.t 8), none⟩, ⟨some 24, .bin .mul (.t 23) (.c (.int .u32 16777619)), none⟩, ⟨some 25, .mv (.t 0), none⟩, ⟨some 26, .mv (.t 9), none⟩, ⟨some 27, .idxs (.t 25) (.t 26), none⟩, ⟨some 28, .conv .u32 (.t 27), none⟩, ⟨some 29, .bin .add (.t 24) (.t 28), none⟩, ⟨some 8, .mv (.t 29), none⟩])) (.row [⟨some 21, .mv (.t 9), none⟩, ⟨some 22, .bin .add (.t 21) (.c (.int .i64 1)), none⟩, ⟨some 9, .mv (.t 22), none⟩])))
def dc140l1 : DC := (.seq (.seq (.row [⟨some 41, .mv (.t 10), none⟩, ⟨some 42, .mv (.t 0), none⟩, ⟨some 43, .len true (.t 42), none⟩, ⟨some 44, .bin .lss (.t 41) (.t 43), none⟩]) (.cond (.t 44) .skip (.exit 2))) (.block 3 (.seq (.row [⟨some 45, .mv (.t 8), none⟩, ⟨some 46, .bin .mul (.t 45) (.c (.int .u32 16777619)), none⟩, ⟨some 8, .mv (.t 46), none⟩]) (.seq (.row [⟨some 47, .mv (.t 8), none⟩, ⟨some 48, .mv (.t 0), none⟩, ⟨some 49, .mv (.t 10), none⟩, ⟨some 50, .idxs (.t 48) (.t 49), none⟩, ⟨some 51, .conv .u32 (.t 50), none⟩, ⟨some 52, .bin .add (.t 47) (.t 51), none⟩, ⟨some 8, .mv (.t 52), none⟩]) (.seq (.row [⟨some 53, .mv (.t 8), none⟩, ⟨some 54, .mv (.t 6), none⟩, ⟨some 55, .mv (.t 0), none⟩, ⟨some 56, .mv (.t 10), none⟩, ⟨some 57, .mv (.t 7), none⟩, ⟨some 58, .bin .sub (.t 56) (.t 57), none⟩, ⟨some 59, .idxs (.t 55) (.t 58), none⟩, ⟨some 60, .conv .u32 (.t 59), none⟩, ⟨some 61, .bin .mul (.t 54) (.t 60), none⟩, ⟨some 62, .bin .sub (.t 53) (.t 61), none⟩, ⟨some 8, .mv (.t 62), none⟩]) (.seq (.row [⟨some 63, .mv (.t 10), none⟩, ⟨some 64, .bin .add (.t 63) (.c (.int .i64 1)), none⟩, ⟨some 10, .mv (.t 64), none⟩]) (.seq (.row [⟨some 65, .mv (.t 8), none⟩, ⟨some 66, .mv (.t 5), none⟩, ⟨some 67, .bin .eql (.t 65) (.t 66), none⟩, ⟨some 68, .mv (.t 67), none⟩, ⟨some 69, .mv (.t 0), some (68, true)⟩, ⟨some 70, .mv (.t 10), some (68, true)⟩, ⟨some 71, .mv (.t 7), some (68, true)⟩, ⟨some 72, .bin .sub (.t 70) (.t 71), some (68, true)⟩, ⟨some 73, .mv (.t 10), some (68, true)⟩, ⟨some 74, .cuts (.t 69) (some (.t 72)) (some (.t 73)), some (68, true)⟩, ⟨some 75, .mv (.t 1), some (68, true)⟩, ⟨some 76, .bin .eql (.t 74) (.t 75), some (68, true)⟩, ⟨some 77, .pick (.t 68) (.t 76) (.c (.bool false)), none⟩]) (.cond (.t 77) (.seq (.row [⟨some 78, .mv (.t 10), none⟩, ⟨some 79, .mv (.t 7), none⟩, ⟨some 80, .bin .sub (.t 78) (.t 79), none⟩, ⟨some 4, .mv (.t 80), none⟩]) .ret) .skip))))))))
def dc140 : DC := (.seq (.row [⟨some 4, .mv (.c (.int .i64 0)), none⟩]) (.seq (.row [⟨some 12, .mv (.t 1), none⟩, ⟨some 13, .call (.c (.fn 142 [])) [(.t 12)], none⟩, ⟨some 11, .mv (.t 13), none⟩, ⟨some 14, .ext 0 (.t 11), none⟩, ⟨some 15, .ext 1 (.t 11), none⟩, ⟨some 5, .mv (.t 14), none⟩, ⟨some 6, .mv (.t 15), none⟩]) (.seq (.row [⟨some 16, .mv (.t 1), none⟩, ⟨some 17, .len true (.t 16), none⟩, ⟨some 7, .mv (.t 17), none⟩]) (.seq (.row [⟨some 8, .mv (.c (.int .u32 0)), none⟩]) (.seq (.seq (.row [⟨some 9, .mv (.c (.int .i64 0)), none⟩]) (.block 0 (.loop dc140l0))) (.seq (.seq (.row [⟨some 30, .mv (.t 8), none⟩, ⟨some 31, .mv (.t 5), none⟩, ⟨some 32, .bin .eql (.t 30) (.t 31), none⟩, ⟨some 33, .mv (.t 32), none⟩, ⟨some 34, .mv (.t 0), some (33, true)⟩, ⟨some 35, .mv (.t 7), some (33, true)⟩, ⟨some 36, .cuts (.t 34) none (some (.t 35)), some (33, true)⟩, ⟨some 37, .mv (.t 1), some (33, true)⟩, ⟨some 38, .bin .eql (.t 36) (.t 37), some (33, true)⟩, ⟨some 39, .pick (.t 33) (.t 38) (.c (.bool false)), none⟩]) (.cond (.t 39) (.seq (.row [⟨some 4, .mv (.c (.int .i64 0)), none⟩]) .ret) .skip)) (.seq (.seq (.row [⟨some 40, .mv (.t 7), none⟩, ⟨some 10, .mv (.t 40), none⟩]) (.block 2 (.loop dc140l1))) (.seq (.row [⟨some 4, .mv (.c (.int .i64 (-1))), none⟩]) .ret))))))))
def fr140 : FnR := ⟨dc140, 81, [.t 4]⟩
theorem ok140 : FnOk Tryz.prog 140 fr140 := ⟨⟨Tryz.f140, _, Tryz.func140, rfl, by kernel_rfl, rfl, by kernel_rfl, by kernel_rfl⟩⟩
def dc142l0 : DC := (.seq (.seq (.row [⟨some 9, .mv (.t 5), none⟩, ⟨some 10, .mv (.t 0), none⟩, ⟨some 11, .len true (.t 10), none⟩, ⟨some 12, .bin .lss (.t 9) (.t 11), none⟩]) (.cond (.t 12) .skip (.exit 0))) (.seq (.block 1 (.row [⟨some 15, .mv (.t 4), none⟩, ⟨some 16, .bin .mul (.t 15) (.c (.int .u32 16777619)), none⟩, ⟨some 17, .mv (.t 0), none⟩, ⟨some 18, .mv (.t 5), none⟩, ⟨some 19, .idxs (.t 17) (.t 18), none⟩, ⟨some 20, .conv .u32 (.t 19), none⟩, ⟨some 21, .bin .add (.t 16) (.t 20), none⟩, ⟨some 4, .mv (.t 21), none⟩])) (.row [⟨some 13, .mv (.t 5), none⟩, ⟨some 14, .bin .add (.t 13) (.c (.int .i64 1)), none⟩, ⟨some 5, .mv (.t 14), none⟩])))
def dc142l1 : DC := (.seq (.seq (.row [⟨some 24, .mv (.t 8), none⟩, ⟨some 25, .bin .gtr (.t 24) (.c (.int .i64 0)), none⟩]) (.cond (.t 25) .skip (.exit 2))) (.seq (.block 3 (.seq (.seq (.row [⟨some 28, .mv (.t 8), none⟩, ⟨some 29, .bin .and (.t 28) (.c (.int .i64 1)), none⟩, ⟨some 30, .bin .neq (.t 29) (.c (.int .i64 0)), none⟩]) (.cond (.t 30) (.row [⟨some 31, .mv (.t 6), none⟩, ⟨some 32, .mv (.t 7), none⟩, ⟨some 33, .bin .mul (.t 31) (.t 32), none⟩, ⟨some 6, .mv (.t 33), none⟩]) .skip)) (.row [⟨some 34, .mv (.t 7), none⟩, ⟨some 35, .mv (.t 7), none⟩, ⟨some 36, .bin .mul (.t 34) (.t 35), none⟩, ⟨some 7, .mv (.t 36), none⟩]))) (.row [⟨some 26, .mv (.t 8), none⟩, ⟨some 27, .bin .shr (.t 26) (.c (.int .u64 1)), none⟩, ⟨some 8, .mv (.t 27), none⟩])))
def dc142 : DC := (.seq (.row [⟨some 2, .mv (.c (.int .u32 0)), none⟩, ⟨some 3, .mv (.c (.int .u32 0)), none⟩]) (.seq (.row [⟨some 4, .mv (.c (.int .u32 0)), none⟩]) (.seq (.seq (.row [⟨some 5, .mv (.c (.int .i64 0)), none⟩]) (.block 0 (.loop dc142l0))) (.seq (.row [⟨some 6, .mv (.c (.int .u32 1)), none⟩, ⟨some 7, .mv (.c (.int .u32 16777619)), none⟩]) (.seq (.seq (.row [⟨some 22, .mv (.t 0), none⟩, ⟨some 23, .len true (.t 22), none⟩, ⟨some 8, .mv (.t 23), none⟩]) (.block 2 (.loop dc142l1))) (.seq (.row [⟨some 37, .mv (.t 4), none⟩, ⟨some 38, .mv (.t 6), none⟩, ⟨some 2, .mv (.t 37), none⟩, ⟨some 3, .mv (.t 38), none⟩]) .ret))))))
def fr142 : FnR := ⟨dc142, 39, [.t 2, .t 3]⟩
theorem ok142 : FnOk Tryz.prog 142 fr142 := ⟨⟨Tryz.f142, _, Tryz.func142, rfl, by kernel_rfl, rfl, by kernel_rfl, by kernel_rfl⟩⟩
end Go.Ve
