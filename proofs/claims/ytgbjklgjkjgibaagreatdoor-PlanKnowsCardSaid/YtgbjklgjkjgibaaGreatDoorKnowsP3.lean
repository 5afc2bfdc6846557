/-
  A part of the proof: the layers over the model. Nothing in it is assumed.
-/
import Derived.Test.YtgbjklgjkjgibaaGreatDoorKnowsP2
import Derived.Lib.AppendZeros
import Derived.WalkKit
import Derived.Laws.AppendOwn
import Derived.Deep.LoopGhost
import Derived.Lib.Walk
import Derived.Lib.SliceRun
import Derived.Deep.Slices
import Derived.Deep.Fields
import Derived.ChangeSame
import Derived.ChangeArms
import Derived.Lib.ConvBytes
import Derived.Laws.Runes

set_option linter.unusedSimpArgs false
set_option linter.unusedVariables false

namespace Go.Vd
open Go.Proofs Go.RowKit
set_option linter.unusedSimpArgs false
set_option linter.unusedVariables false

def strsOf : List D → Option (List (List UInt8))
  | [] => some []
  | .str s :: r => (strsOf r).map (s :: ·)
  | _ => none
theorem strsOf_some : ∀ {xs : List D} {l : List (List UInt8)}, strsOf xs = some l → xs = l.map .str
  | [], l, h => by simp only [strsOf, Option.some.injEq] at h; subst h; rfl
  | x :: r, l, h => by
    unfold strsOf at h
    split at h
    · rename_i h0; cases h0
    · rename_i s r' h0
      simp only [List.cons.injEq] at h0
      obtain ⟨rfl, rfl⟩ := h0
      rw [Option.map_eq_some_iff] at h
      obtain ⟨l', h1, rfl⟩ := h
      rw [strsOf_some h1]; rfl
    · cases h
theorem strsOf_map : ∀ l : List (List UInt8), strsOf (l.map .str) = some l
  | [] => rfl
  | i :: r => by simp only [List.map_cons, strsOf]; rw [strsOf_map r]; rfl

def F9 : List D → Option D
  | [.slice _ _ xs, .slice _ _ ys] => match strsOf xs, strsOf ys with
    | some a, some b => if a.length ≤ 1000000000 then some (.bool (decide (a = b))) else none
    | _, _ => none
  | _ => none

theorem loop9 {S : Summs} {ns : Id} {a b : List (List UInt8)} {nl nl2 : Bool} {t t2 : Id} {Q : Ex → St → Prop} (hab : a.length = b.length) (hb : a.length ≤ 1000000000)
    (hret : ∀ st, a ≠ b → st.s 4 = .bool false → Q .ret st)
    (hexit : ∀ st, a = b → Q (.exit 0) st) :
    ∀ (n k : Nat) st g, n = a.length - k → k ≤ a.length → (∀ j, j < k → a[j]? = b[j]?) → st.s 5 = .int .i64 (k : Int) → st.s 0 = .slice nl t (a.map .str) → st.s 1 = .slice nl2 t2 (b.map .str) →
      loopW S ns dc9l0 Q st g := by
  intro n
  induction n with
  | zero =>
    intro k st g hn hk hall h5 h0 h1
    refine wp_loopd dc9l0.eq_1 ?_
    have : ¬ ((k : Int) < a.length) := by omega
    simp only [↓go1, go2, go3, go4, reduceIte, Nat.reduceEqDiff, Nat.reduceAdd, h5, h0, h1, List.length_map, this]
    refine hexit _ (List.ext_getElem? fun j => ?_)
    by_cases hj : j < k
    · exact hall j hj
    · rw [List.getElem?_eq_none (by omega), List.getElem?_eq_none (by omega)]
  | succ n ih =>
    intro k st g hn hk hall h5 h0 h1
    refine wp_loopd dc9l0.eq_1 ?_
    have hlt : ((k : Int) < a.length) := by omega
    have hk0 : (0 : Int) ≤ (k : Int) := by omega
    have hka : k < a.length := by omega
    have hkb : k < b.length := by omega
    have hx : (a.map D.str)[(k : Int).toNat]? = some (.str a[k]) := by simp [hka]
    have hy : (b.map D.str)[(k : Int).toNat]? = some (.str b[k]) := by simp [hkb]
    have hw : IntKind.i64.wrap ((k : Int) + 1) = (k : Int) + 1 := IntWalk.i64_in _ ⟨by omega, by omega⟩
    simp only [↓go1, go2, go3, go4, reduceIte, Nat.reduceEqDiff, Nat.reduceAdd, Nat.zero_le, List.drop_zero, List.drop_succ_cons, Nat.reduceLeDiff, h5, h0, h1, List.length_map, hlt, hk0, hx, hy, hw]
    refine Need.intro (feetB_ok rfl) ?_
    simp only [↓go1, go2, go3, go4, reduceIte, Nat.reduceEqDiff, Nat.reduceAdd, Nat.zero_le, List.drop_zero, List.drop_succ_cons, Nat.reduceLeDiff, h5, h0, h1, List.length_map, hlt, hk0, hx, hy, hw]
    refine ifQ.intro (fun hc => ?_) (fun hc => ?_)
    · simp only [↓go1, go2, go3, go4, reduceIte, Nat.reduceEqDiff, Nat.reduceAdd, Nat.zero_le, List.drop_zero, List.drop_succ_cons, Nat.reduceLeDiff, h5, h0, h1, List.length_map, hlt, hk0, hx, hy, hw, hc]
      refine ih (k + 1) _ _ (by omega) (by omega) (fun j hj => ?_) rfl h0 h1
      rcases Nat.lt_or_eq_of_le (Nat.le_of_lt_succ hj) with hj | rfl
      · exact hall j hj
      · rw [List.getElem?_eq_getElem hka, List.getElem?_eq_getElem hkb, hc]
    · simp only [↓go1, go2, go3, go4, reduceIte, Nat.reduceEqDiff, Nat.reduceAdd, Nat.zero_le, List.drop_zero, List.drop_succ_cons, Nat.reduceLeDiff, h5, h0, h1, List.length_map, hlt, hk0, hx, hy, hw, hc]
      refine hret _ (fun e => ?_) rfl
      subst e; exact hc rfl

theorem ok9 : (funS F9).ok Tryz.prog 9 := by
  refine fun_ok (S := fun _ => none) (fun f q h => by cases h) fn9 (fun ds r h => ?_) (fun ds r h => ?_)
  · unfold F9 at h; split at h
    · simp
    · cases h
  · unfold F9 at h; split at h
    · rename_i nl t xs nl2 t2 ys
      split at h
      · rename_i a b ha hb
        obtain rfl := strsOf_some ha
        obtain rfl := strsOf_some hb
        split at h
        · rename_i hlen
          simp only [Option.some.injEq] at h
          subst h
          unfold dc9
          have he : ((a.length : Int) = (b.length : Int)) = (a.length = b.length) := by simp only [eq_iff_iff]; omega
          simp only [↓go1, go2, go3, go4, reduceIte, Nat.reduceEqDiff, Nat.reduceAdd, List.length_map, he]
          refine ifQ.intro (fun hc => ?_) (fun hc => ?_)
          · simp only [↓go1, go2, go3, go4, reduceIte, Nat.reduceEqDiff, Nat.reduceAdd, hc]
            refine loop9 (a := a) (b := b) (nl := nl) (t := t) (nl2 := nl2) (t2 := t2) hc hlen (fun st h1 h2 => ?_) (fun st h1 => ?_) a.length 0 _ _ rfl (by omega) (by omega) rfl rfl rfl
            · simp only [↓go1, go2, go3, go4, reduceIte, Nat.reduceEqDiff, Nat.reduceAdd, h2]
              simp [h1]
            · simp only [↓go1, go2, go3, go4, reduceIte, Nat.reduceEqDiff, Nat.reduceAdd]
              simp [h1]
          · simp only [↓go1, go2, go3, go4, reduceIte, Nat.reduceEqDiff, Nat.reduceAdd, hc]
            have : a ≠ b := fun e => hc (by rw [e])
            simp [this]
        · cases h
      · cases h
    · cases h
end Go.Vd

namespace Go.Vd
open Go.Proofs Go.RowKit
set_option linter.unusedSimpArgs false
set_option linter.unusedVariables false

def kcells (l : List It) : List D := [.slice l.isEmpty [] (l.map fun i => .str i.1), .slice l.isEmpty [] (l.map fun i => .str i.2.1), .slice l.isEmpty [] (l.map fun i => .bool i.2.2), .slice true [] [], .slice true [] []]

abbrev knownD (l : List It) : D := .agg (kcells l)
theorem kcells_len (l : List It) : (kcells l).length = 5 := rfl
theorem kcells_un (l : List It) : (kcells l).map D.un1 = kcells l := rfl
theorem kcells_calm (l : List It) : ((kcells l).map D.un1).all D.calm1 = true := rfl

def F6 : List D → Option D
  | [.agg [.slice _ _ xs, .slice _ _ []]] => match itemsOf xs with
    | some l => if l.length ≤ 1000 then some (knownD l) else none
    | none => none
  | _ => none

theorem knownD_push (l : List It) (i : It) (h : l.length ≤ 1000) : F7 [knownD l, .str i.1, .str i.2.1, .bool i.2.2] = some (knownD (l ++ [i])) := by
  have e : (l ++ [i]).isEmpty = false := by cases l <;> rfl
  have one1 : ∀ (f : It → D), (∀ x, one (f x) = true) → (l.map f).all one = true := fun f hf => by simp [List.all_eq_true, hf]
  have hb : Nat.ble l.length 5000 = true := Nat.ble_eq_true_of_le (by omega)
  simp only [knownD, kcells, F7, slOne, List.length_map, hb, Bool.and_true, e, pushD, List.map_append, List.map_cons, List.map_nil]
  rw [if_pos ⟨one1 _ (fun _ => rfl), one1 _ (fun _ => rfl), one1 _ (fun _ => rfl), rfl⟩]
  rfl

theorem rd5 {m : Mem} {i : Id} {a b c d e : D} : rdCells (m.put i 0 [a, b, c, d, e]) i 0 5 = some [a, b, c, d, e] := by simp [rd_succ, rd_zero, put_rd]
theorem rdk {m : Mem} {i : Id} {l : List It} : rdCells (m.put i 0 (kcells l)) i 0 5 = some (kcells l) := rd5

theorem loop6 {S : Summs} {ns : Id} {l : List It} {i1 i3 : Id} {nl nl2 : Bool} {t t2 : Id} {Q : Ex → St → Prop} (hS : S 7 = some (funS F7)) (hi : i1 ≠ i3) (hb : l.length ≤ 1000)
    (hexit : ∀ st, st.s 1 = .ptr i1 0 → st.s 3 = .ptr i3 0 → st.m i1 1 = some (.slice nl2 t2 []) → rdCells st.m i3 0 5 = some (kcells l) → (∃ j, st.s 2 = .ptr j 0 ∧ (rdCells st.m j 0 5).isSome = true ∧ j ≠ i1 ∧ j ≠ i3) → Q (.exit 0) st) :
    ∀ (n k : Nat) st g, n = l.length - k → k ≤ l.length → st.s 4 = .int .i64 (k : Int) → st.s 1 = .ptr i1 0 → st.s 3 = .ptr i3 0 → st.m i1 0 = some (.slice nl t (l.map itD)) → st.m i1 1 = some (.slice nl2 t2 []) → rdCells st.m i3 0 5 = some (kcells (l.take k)) →
      (∃ j, st.s 2 = .ptr j 0 ∧ (rdCells st.m j 0 5).isSome = true ∧ j ≠ i1 ∧ j ≠ i3) → loopW S ns dc6l0 Q st g := by
  intro n
  induction n with
  | zero =>
    intro k st g hn hk h4 h1 h3 m0 m1 m3 m2
    refine wp_loopd dc6l0.eq_1 ?_
    have : ¬ ((k : Int) < l.length) := by omega
    simp only [↓go1, go2, go3, go4, reduceIte, Nat.reduceEqDiff, Nat.reduceAdd, h4, h1, h3, m0, List.length_map, this]
    rw [List.take_of_length_le (by omega)] at m3
    refine hexit _ ?_ ?_ ?_ ?_ ?_
    · simp only [↓go1, go2, go3, go4, reduceIte, Nat.reduceEqDiff, Nat.reduceAdd, h1]
    · simp only [↓go1, go2, go3, go4, reduceIte, Nat.reduceEqDiff, Nat.reduceAdd, h3]
    · exact m1
    · exact m3
    · obtain ⟨j, j1, j2⟩ := m2
      exact ⟨j, by simp only [↓go1, go2, go3, go4, reduceIte, Nat.reduceEqDiff, Nat.reduceAdd, j1], j2⟩
  | succ n ih =>
    intro k st g hn hk h4 h1 h3 m0 m1 m3 m2
    refine wp_loopd dc6l0.eq_1 ?_
    have hlt : ((k : Int) < l.length) := by omega
    have hk0 : (0 : Int) ≤ (k : Int) := by omega
    have hkl : k < l.length := by omega
    have hx : (l.map itD)[(k : Int).toNat]? = some (.agg [.str l[k].1, .str l[k].2.1, .bool l[k].2.2]) := by simp [hkl, itD]
    have hw : IntKind.i64.wrap ((k : Int) + 1) = (k : Int) + 1 := IntWalk.i64_in _ ⟨by omega, by omega⟩
    have htk : l.take (k + 1) = l.take k ++ [l[k]] := by rw [List.take_add_one, List.getElem?_eq_getElem hkl]; rfl
    have hF : F7 [knownD (l.take k), .str l[k].1, .str l[k].2.1, .bool l[k].2.2] = some (knownD (l.take (k + 1))) := by rw [htk]; exact knownD_push _ _ (by simp; omega)
    have hFF : F7 [D.agg (List.map D.un1 (kcells (l.take k))), .str l[k].1, .str l[k].2.1, .bool l[k].2.2] = some (.agg (kcells (l.take (k + 1)))) := hF
    simp only [↓go1, go2, go3, go4, reduceIte, Nat.reduceEqDiff, Nat.reduceAdd, Nat.zero_le, List.drop_zero, List.drop_succ_cons, Nat.reduceLeDiff, h4, h1, h3, m0, m3, List.length_map, hlt, hk0, hx, hw, callK_fun hS, hFF, kcells_len, kcells_calm, Option.isSome_some]
    refine Need.intro (feetB_ok rfl) ?_
    simp only [↓go1, go2, go3, go4, reduceIte, Nat.reduceEqDiff, Nat.reduceAdd, Nat.zero_le, List.drop_zero, List.drop_succ_cons, Nat.reduceLeDiff, h4, h1, h3, m0, m3, List.length_map, hlt, hk0, hx, hw, callK_fun hS, hFF, kcells_len, kcells_calm, Option.isSome_some]
    refine ih (k + 1) _ _ (by omega) (by omega) rfl h1 h3 ?_ ?_ ?_ ?_
    · show Mem.put st.m i3 0 _ i1 0 = _
      rw [Mem.put_other hi]; exact m0
    · show Mem.put st.m i3 0 _ i1 1 = _
      rw [Mem.put_other hi]; exact m1
    · exact rdk
    · obtain ⟨j, j1, j2, j3, j4⟩ := m2
      refine ⟨j, j1, ?_, j3, j4⟩
      show (rdCells (Mem.put st.m i3 0 (kcells (l.take (k + 1)))) j 0 5).isSome = true
      have : rdCells (Mem.put st.m i3 0 (kcells (l.take (k + 1)))) j 0 5 = rdCells st.m j 0 5 := by
        simp only [rd_succ, rd_zero, Mem.put_other j4]
      rw [this]; exact j2

theorem ownW {S : Summs} {ns : Id} {nl2 : Bool} {t2 i : Id} {Q : Ex → St → Prop} (st : St) (g : Tag (S, ns, dc6l1, Q, st)) (h5 : st.s 5 = .int .i64 0) (h1 : st.s 1 = .ptr i 0) (m1 : st.m i 1 = some (.slice nl2 t2 []))
    (hexit : ∀ st', st'.m = st.m → st'.s 2 = st.s 2 → st'.s 3 = st.s 3 → Q (.exit 2) st') : loopW S ns dc6l1 Q st g := by
  refine wp_loopd dc6l1.eq_1 ?_
  have hlt : ¬ ((0 : Int) < 0) := by omega
  simp only [↓go1, go2, go3, go4, reduceIte, Nat.reduceEqDiff, Nat.reduceAdd, h5, h1, m1, List.length_nil, Int.ofNat_zero, hlt]
  refine hexit _ rfl ?_ ?_
  · simp only [↓go1, go2, go3, go4, reduceIte, Nat.reduceEqDiff, Nat.reduceAdd]
  · simp only [↓go1, go2, go3, go4, reduceIte, Nat.reduceEqDiff, Nat.reduceAdd]

theorem ok6 (h7 : (funS F7).ok Tryz.prog 7) : (funS F6).ok Tryz.prog 6 := by
  let S : Summs := fun f => if f = 7 then some (funS F7) else none
  have hS : Summs.ok Tryz.prog S := by
    intro f q h
    simp only [S] at h
    split at h
    · simp only [Option.some.injEq] at h; subst h; rename_i e; subst e; exact h7
    · cases h
  have s7 : S 7 = some (funS F7) := rfl
  refine fun_ok (S := S) hS fn6 (fun ds r h => ?_) (fun ds r h => ?_)
  · unfold F6 at h; split at h
    · simp
    · cases h
  · unfold F6 at h; split at h
    · rename_i nl t xs nl2 t2
      split at h
      · rename_i l hl
        obtain rfl := itemsOf_some hl
        split at h
        · rename_i hlen
          simp only [Option.some.injEq] at h
          subst h
          clear_value S
          unfold dc6
          simp only [↓go1, go2, go3, go4, reduceIte, Nat.reduceEqDiff, Nat.reduceAdd, put_rd, List.length_map, List.length_cons, List.length_nil, Nat.zero_le, Nat.reduceLeDiff, Nat.reduceLT, and_self, true_and, Nat.sub_zero, Nat.reduceSub, List.getElem?_cons_zero, List.getElem?_cons_succ, Nat.zero_add]
          refine loop6 (i1 := [0]) (i3 := [2]) (nl := nl) (t := t) (nl2 := nl2) (t2 := t2) s7 (by decide) hlen (fun st h1 h3 m1 m3 m2 => ?_) l.length 0 _ _ rfl (by omega) rfl rfl rfl ?_ ?_ ?_ ?_
          · obtain ⟨j, j1, j2, j3, j4⟩ := m2
            simp only [↓go1, go2, go3, go4, reduceIte, Nat.reduceEqDiff, Nat.reduceAdd, h1, h3, m1]
            refine ownW (i := [0]) (nl2 := nl2) (t2 := t2) _ _ rfl ?_ ?_ (fun st' e1 e2 e3 => ?_)
            · simp only [↓go1, go2, go3, go4, reduceIte, Nat.reduceEqDiff, Nat.reduceAdd, h1]
            · exact m1
            · simp only [↓go1, go2, go3, go4, reduceIte, Nat.reduceEqDiff, Nat.reduceAdd, h1, h3, m1] at e1 e2 e3
              rw [j1] at e2
              simp only [↓go1, go2, go3, go4, reduceIte, Nat.reduceEqDiff, Nat.reduceAdd, e1, e2, e3, m3, j2, kcells_len, res_cell, ldD_agg, rdk]
              exact ⟨rfl, rfl⟩
          · simp [put_rd, D.cells]
          · simp [put_rd, D.cells]
          · exact rd5
          · exact ⟨[1], rfl, by simp [rd_succ, rd_zero, put_rd], by decide, by decide⟩
        · cases h
      · cases h
    · cases h
end Go.Vd

namespace Go.Vd
open Go.Proofs Go.RowKit
set_option maxRecDepth 20000 in
theorem walkGrow34 (w : World) (k : Nat) (h0 : 0 < k) (hk : k ≤ 1000000) :
    Calls Tryz.prog 34 #[.slice none 0 0, .int .i64 (k : Int)] w fun e w' => e = .returned (.slice (some ⟨w.heap.size, 0, none⟩) 0 (grownCap w k 0 9)) ∧ w' = w.drew.alloc (.cells (Builtin.zeroCells #[.string .empty] k ++ Builtin.zeroCells #[.string .empty] (grownCap w k 0 9 - k)) 9) := by
  have happ := Lib.run_append_nil_zeros (P := Tryz.prog) w 28 3 28 9 Tryz.t9 (.string .empty) .i64 .i64 Tryz.underlying28 Tryz.underlying3 (by kernel_rfl) (by kernel_rfl) k h0 (by decide) (by omega) (by show k * 16 ≤ _; omega)
  go_enter Tryz.func34, Tryz.ntmps34
  go_wp2_with (first | (at_builtin; refine Lib.wpList_append_run _ rfl _ _ _ _ rfl _ _ rfl rfl _ _ happ ?_))
  all_goals go_ret
  all_goals exact ⟨rfl, rfl⟩

theorem ok34 : (growQ 9).ok Tryz.prog 34 := by
  refine grow_ok (sz := 1) ⟨_, Tryz.func34, by kernel_rfl, by kernel_rfl⟩ (by decide) ⟨Tryz.t9, (.string .empty), by kernel_rfl, by kernel_rfl, by kernel_rfl, by kernel_rfl⟩ (fun w k h0 hk => ?_)
  refine (walkGrow34 w k h0 hk).mono ?_
  rintro e w' ⟨rfl, rfl⟩
  refine ⟨_, _, grownCap_le_maxLen w k 0 9 (by unfold maxLen; omega), ?_, rfl, rfl⟩
  have hge := grownCap_ge w k 0 9
  simp only [Array.size_append, size_zeroCells]
  simp
  omega
set_option maxRecDepth 20000 in
theorem walkGrow35 (w : World) (k : Nat) (h0 : 0 < k) (hk : k ≤ 1000000) :
    Calls Tryz.prog 35 #[.slice none 0 0, .int .i64 (k : Int)] w fun e w' => e = .returned (.slice (some ⟨w.heap.size, 0, none⟩) 0 (grownCap w k 0 4)) ∧ w' = w.drew.alloc (.cells (Builtin.zeroCells #[.bool false] k ++ Builtin.zeroCells #[.bool false] (grownCap w k 0 4 - k)) 4) := by
  have happ := Lib.run_append_nil_zeros (P := Tryz.prog) w 29 3 29 4 Tryz.t4 (.bool false) .i64 .i64 Tryz.underlying29 Tryz.underlying3 (by kernel_rfl) (by kernel_rfl) k h0 (by decide) (by omega) (by show k * 1 ≤ _; omega)
  go_enter Tryz.func35, Tryz.ntmps35
  go_wp2_with (first | (at_builtin; refine Lib.wpList_append_run _ rfl _ _ _ _ rfl _ _ rfl rfl _ _ happ ?_))
  all_goals go_ret
  all_goals exact ⟨rfl, rfl⟩

theorem ok35 : (growQ 4).ok Tryz.prog 35 := by
  refine grow_ok (sz := 1) ⟨_, Tryz.func35, by kernel_rfl, by kernel_rfl⟩ (by decide) ⟨Tryz.t4, (.bool false), by kernel_rfl, by kernel_rfl, by kernel_rfl, by kernel_rfl⟩ (fun w k h0 hk => ?_)
  refine (walkGrow35 w k h0 hk).mono ?_
  rintro e w' ⟨rfl, rfl⟩
  refine ⟨_, _, grownCap_le_maxLen w k 0 4 (by unfold maxLen; omega), ?_, rfl, rfl⟩
  have hge := grownCap_ge w k 0 4
  simp only [Array.size_append, size_zeroCells]
  simp
  omega
set_option maxRecDepth 20000 in
theorem walkGrow36 (w : World) (k : Nat) (h0 : 0 < k) (hk : k ≤ 1000000) :
    Calls Tryz.prog 36 #[.slice none 0 0, .int .i64 (k : Int)] w fun e w' => e = .returned (.slice (some ⟨w.heap.size, 0, none⟩) 0 (grownCap w k 0 28)) ∧ w' = w.drew.alloc (.cells (Builtin.zeroCells #[.slice none 0 0] k ++ Builtin.zeroCells #[.slice none 0 0] (grownCap w k 0 28 - k)) 28) := by
  have happ := Lib.run_append_nil_zeros (P := Tryz.prog) w 30 3 30 28 Tryz.t28 (.slice none 0 0) .i64 .i64 Tryz.underlying30 Tryz.underlying3 (by kernel_rfl) (by kernel_rfl) k h0 (by decide) (by omega) (by show k * 24 ≤ _; omega)
  go_enter Tryz.func36, Tryz.ntmps36
  go_wp2_with (first | (at_builtin; refine Lib.wpList_append_run _ rfl _ _ _ _ rfl _ _ rfl rfl _ _ happ ?_))
  all_goals go_ret
  all_goals exact ⟨rfl, rfl⟩

theorem ok36 : (growQ 28).ok Tryz.prog 36 := by
  refine grow_ok (sz := 1) ⟨_, Tryz.func36, by kernel_rfl, by kernel_rfl⟩ (by decide) ⟨Tryz.t28, (.slice none 0 0), by kernel_rfl, by kernel_rfl, by kernel_rfl, by kernel_rfl⟩ (fun w k h0 hk => ?_)
  refine (walkGrow36 w k h0 hk).mono ?_
  rintro e w' ⟨rfl, rfl⟩
  refine ⟨_, _, grownCap_le_maxLen w k 0 28 (by unfold maxLen; omega), ?_, rfl, rfl⟩
  have hge := grownCap_ge w k 0 28
  simp only [Array.size_append, size_zeroCells]
  simp
  omega
end Go.Vd

namespace Go.Vd
open Go.Proofs Go.RowKit
set_option linter.unusedSimpArgs false
set_option linter.unusedVariables false

theorem walkClone_nil (w : World) : Calls Tryz.prog 18 #[.slice none 0 0] w fun e w' => e = .returned (.slice none 0 0) ∧ w' = w := by
  have q : ∀ (w : World) (a : Option Addr) (n c n' c' : Nat), (binOp .eql 28 (.slice a n c) (.slice none n' c')).run Tryz.prog w = .ok (.bool a.isNone) w := fun w a n c n' c' => Lib.run_eql_slice_nil w _ _ a n c n' c' Tryz.underlying28
  go_enter Tryz.func18, Tryz.ntmps18
  go_wp2
  go_ret
  exact ⟨rfl, rfl⟩

theorem add_addr_add (a : Addr) (j : Nat) (h : a.spot = none) : a.add j = ⟨a.block, a.off + j, none⟩ := by
  cases a with
  | mk b o s => simp at h; subst h; unfold Addr.add; split <;> simp_all

set_option maxHeartbeats 2000000 in
set_option maxRecDepth 100000 in
theorem walkClone_row (w : World) (ad : Addr) (n c : Nat) (zs : List (List UInt8)) (hsp : 0 < n → ad.spot = none) (hn : n = zs.length) (hk : n ≤ 1000000)
    (hc : ∀ (j : Nat) z, zs[j]? = some z → w.cell? (ad.add j) = some (.string ⟨z.toArray⟩)) :
    Calls Tryz.prog 18 #[.slice (some ad) n c] w fun ev w' => ∃ v, ev = .returned v ∧ w'.ownsRow w.heap.size 9 1 v n (zs.map fun z => Value.string ⟨z.toArray⟩) ∧ v ≠ .slice none 0 0 ∧ Below w.heap.size w w' := by
  have q : ∀ (w : World) (a : Option Addr) (n c n' c' : Nat), (binOp .eql 28 (.slice a n c) (.slice none n' c')).run Tryz.prog w = .ok (.bool a.isNone) w := fun w a n c n' c' => Lib.run_eql_slice_nil w _ _ a n c n' c' Tryz.underlying28
  have hcell : ∀ (j : Nat) u, (zs.map fun z => Value.string ⟨z.toArray⟩)[j]? = some u → w.cell? (ad.add j) = some u := by
    intro j u hu
    rw [List.getElem?_map, Option.map_eq_some_iff] at hu
    obtain ⟨z, hz, rfl⟩ := hu
    exact hc j z hz
  have A : Aside (∀ (j : Nat) u, (zs.map fun z => Value.string ⟨z.toArray⟩)[j]? = some u → w.cell? (ad.add j) = some u) := hcell
  clear hc hcell
  go_enter Tryz.func18, Tryz.ntmps18
  go_wp2_with (at_builtin; refine wpList_append_own _ rfl _ _ 28 rfl w.heap.size 9 Tryz.t9 (.string { data := #[] }) 1 16 Tryz.underlying28 (by kernel_rfl) (by kernel_rfl) (by kernel_rfl) (by kernel_rfl) rfl (by decide) _ _ _ rfl (World.ownsRow_made w #[] 0 (Nat.le_refl _) (Nat.zero_le _) rfl) ad n c (zs.map fun z => Value.string ⟨z.toArray⟩) rfl ?qc1 ?qc2 ?qc3 ?qc4 ?qc5 ?qc6 ?_)
  case qc1 => simp; omega
  case qc2 =>
    intro j u hj
    refine Lib.cell?_alloc_some _ ?_
    exact A.out j u hj
  case qc3 => intro u hu; obtain ⟨x, _, rfl⟩ := List.mem_map.1 hu; rfl
  case qc4 => unfold maxLen; omega
  case qc5 => omega
  case qc6 => simp
  intro v' w1 hown hgrow hnil
  go_wp2
  go_ret
  refine ⟨v', rfl, by subst hn; simpa using hown, ?_, ?_⟩
  · exact hnil
  · exact ((Below.refl _ w).alloc (Nat.le_refl _) _).grown hgrow (by simp) (by intro k hk; simp [Value.ownBlock] at hk; omega)

theorem ok18 : (funS Fclone).ok Tryz.prog 18 := clone_ok (e := 9) ⟨_, Tryz.func18, by kernel_rfl, by kernel_rfl⟩ walkClone_nil (fun w a n c zs h1 h2 h3 h4 => walkClone_row w a n c zs h1 h2 h3 h4)
end Go.Vd

namespace Go.Vd
open Go.Proofs Go.RowKit
set_option linter.unusedSimpArgs false
set_option linter.unusedVariables false

def F3 : List D → Option D
  | [.slice _ _ xs, .str key, .str text] => match itemsOf xs with
    | some l => some (.bool true)
    | none => none
  | _ => none

def lcells (l : List It) (key text : List UInt8) : List D := [.slice l.isEmpty [] (l.map fun i => .str i.1), .slice l.isEmpty [] (l.map fun i => .str i.2.1), .slice l.isEmpty [] (l.map fun i => .bool i.2.2), .slice false [] [.str key], .slice false [] [.slice false [] [.str text]]]

theorem lcells_len (l : List It) (key text : List UInt8) : (lcells l key text).length = 5 := rfl
theorem rdl {m : Mem} {i : Id} {l : List It} {key text : List UInt8} : rdCells (m.put i 0 (lcells l key text)) i 0 5 = some (lcells l key text) := rd5
theorem rd5_other {m : Mem} {i i' : Id} {ds : List D} (h : (i = i') = False) : rdCells (m.put i' 0 ds) i 0 5 = rdCells m i 0 5 := by
  have : i ≠ i' := fun e => by simp [e] at h
  simp only [rd_succ, rd_zero, Mem.put_other this]
def col1 (l : List It) : List D := l.map fun i => .str i.1
def col2 (l : List It) : List D := l.map fun i => .str i.2.1
def col3 (l : List It) : List D := l.map fun i => .bool i.2.2
theorem col1_len (l : List It) : (col1 l).length = l.length := by simp [col1]
theorem col2_len (l : List It) : (col2 l).length = l.length := by simp [col2]
theorem col3_len (l : List It) : (col3 l).length = l.length := by simp [col3]
theorem k0 (l : List It) : (kcells l)[0]? = some (.slice l.isEmpty [] (col1 l)) := rfl
theorem k1 (l : List It) : (kcells l)[1]? = some (.slice l.isEmpty [] (col2 l)) := rfl
theorem k2 (l : List It) : (kcells l)[2]? = some (.slice l.isEmpty [] (col3 l)) := rfl
theorem l0 (l : List It) (key text : List UInt8) : (lcells l key text)[0]? = some (.slice l.isEmpty [] (col1 l)) := rfl
theorem l3 (l : List It) (key text : List UInt8) : (lcells l key text)[3]? = some (.slice false [] [.str key]) := rfl
theorem l4 (l : List It) (key text : List UInt8) : (lcells l key text)[4]? = some (.slice false [] [.slice false [] [.str text]]) := rfl
theorem lc_un (l : List It) (key text : List UInt8) : (lcells l key text).map D.un1 = lcells l key text := rfl

theorem listed_at (l : List It) (key text : List UInt8) : F8 [.agg (kcells l), .str key, .slice false [] [.str text]] = some (.agg (lcells l key text)) := by
  unfold F8
  exact if_pos ⟨rfl, rfl, rfl, by simp, rfl⟩
theorem fill1 {a b : D} {nl : Bool} {t : Id} {xs : List D} : fillD [a, b] [(0, 1, .slice nl t xs)] = some [.slice nl t xs, b] := by
  simp [fillD, putAt, D.data, D.cells]

theorem ok15' : (funS Fcat).ok Tryz.prog 15 := ok15 ok34
theorem ok16' : (funS Fcat).ok Tryz.prog 16 := ok16 ok35
theorem ok17' : (funS Fcat).ok Tryz.prog 17 := ok17 ok36
theorem ok7' : (funS F7).ok Tryz.prog 7 := ok7 ok15' ok16'
theorem ok8' : (funS F8).ok Tryz.prog 8 := ok8 ok15' ok17' ok18
theorem ok6' : (funS F6).ok Tryz.prog 6 := ok6 ok7'

set_option maxRecDepth 10000 in
theorem loop3 {S : Summs} {ns : Id} {l : List It} {i7 i8 : Id} {nl nb1 nb2 : Bool} {t : Id} {ex : It} {sk st0 : List UInt8} {Q : Ex → St → Prop} (hb : l.length ≤ 1000)
    (hexit : ∀ st, st.s 1 = .str sk → st.s 2 = .str st0 → st.s 8 = .ptr i8 0 → st.s 10 = .int .i64 (l.length : Int) → st.m i8 0 = some (.slice nb2 [] (col1 (l ++ [ex]))) → st.m i8 1 = some (.slice nb2 [] (col2 (l ++ [ex]))) → st.m i8 2 = some (.slice nb2 [] (col3 (l ++ [ex]))) → Q (.exit 0) st) :
    ∀ (n k : Nat) st g, n = l.length - k → k ≤ l.length → st.s 11 = .int .i64 (k : Int) → st.s 10 = .int .i64 (l.length : Int) → st.s 0 = .slice nl t (l.map itD) → st.s 1 = .str sk → st.s 2 = .str st0 → st.s 7 = .ptr i7 0 → st.s 8 = .ptr i8 0 →
      st.m i7 0 = some (.slice nb1 [] (col1 l)) → st.m i8 0 = some (.slice nb2 [] (col1 (l ++ [ex]))) → st.m i8 1 = some (.slice nb2 [] (col2 (l ++ [ex]))) → st.m i8 2 = some (.slice nb2 [] (col3 (l ++ [ex]))) → loopW S ns dc3l0 Q st g := by
  intro n
  induction n with
  | zero =>
    intro k st g hn hk h11 h10 h0 h1 h2 h7 h8 m7 m80 m81 m82
    refine wp_loopd dc3l0.eq_1 ?_
    have : ¬ ((k : Int) < l.length) := by omega
    simp only [↓go1, go2, go3, go4, reduceIte, Nat.reduceEqDiff, Nat.reduceAdd, h11, h10, this]
    refine hexit _ ?_ ?_ ?_ ?_ m80 m81 m82
    · simp only [↓go1, go2, go3, go4, reduceIte, Nat.reduceEqDiff, Nat.reduceAdd, h1]
    · simp only [↓go1, go2, go3, go4, reduceIte, Nat.reduceEqDiff, Nat.reduceAdd, h2]
    · simp only [↓go1, go2, go3, go4, reduceIte, Nat.reduceEqDiff, Nat.reduceAdd, h8]
    · simp only [↓go1, go2, go3, go4, reduceIte, Nat.reduceEqDiff, Nat.reduceAdd, h10]
  | succ n ih =>
    intro k st g hn hk h11 h10 h0 h1 h2 h7 h8 m7 m80 m81 m82
    refine wp_loopd dc3l0.eq_1 ?_
    have hlt : ((k : Int) < l.length) := by omega
    have hk0 : (0 : Int) ≤ (k : Int) := by omega
    have hkl : k < l.length := by omega
    have hx : (l.map itD)[(k : Int).toNat]? = some (.agg [.str l[k].1, .str l[k].2.1, .bool l[k].2.2]) := by simp [hkl, itD]
    have x7 : (col1 l)[(k : Int).toNat]? = some (.str l[k].1) := by simp [col1, hkl]
    have x80 : (col1 (l ++ [ex]))[(k : Int).toNat]? = some (.str l[k].1) := by simp [col1, hkl, List.getElem?_append_left]
    have x81 : (col2 (l ++ [ex]))[(k : Int).toNat]? = some (.str l[k].2.1) := by simp [col2, hkl, List.getElem?_append_left]
    have x82 : (col3 (l ++ [ex]))[(k : Int).toNat]? = some (.bool l[k].2.2) := by simp [col3, hkl, List.getElem?_append_left]
    have hw : IntKind.i64.wrap ((k : Int) + 1) = (k : Int) + 1 := IntWalk.i64_in _ ⟨by omega, by omega⟩
    simp only [↓go1, go2, go3, go4, reduceIte, Nat.reduceEqDiff, Nat.reduceAdd, Nat.zero_le, List.drop_zero, List.drop_succ_cons, Nat.reduceLeDiff, h11, h10, h0, h1, h2, h7, h8, m7, m80, m81, m82, List.length_map, hlt, hk0, hx, x7, x80, x81, x82, hw, eq_self, beq_self_eq_true, bne_self_eq_false, Bool.true_bne, Bool.not_true]
    refine Need.intro (feetB_ok rfl) ?_
    simp only [↓go1, go2, go3, go4, reduceIte, Nat.reduceEqDiff, Nat.reduceAdd, Nat.zero_le, List.drop_zero, List.drop_succ_cons, Nat.reduceLeDiff, h11, h10, h0, h1, h2, h7, h8, m7, m80, m81, m82, List.length_map, hlt, hk0, hx, x7, x80, x81, x82, hw, eq_self, beq_self_eq_true, bne_self_eq_false, Bool.true_bne, Bool.not_true]
    exact ih (k + 1) _ _ (by omega) (by omega) rfl h10 h0 h1 h2 h7 h8 m7 m80 m81 m82

set_option maxRecDepth 10000 in
theorem ok3 (h5 : (funS trueF).ok Tryz.prog 5) : (funS F3).ok Tryz.prog 3 := by
  let S : Summs := fun f => if f = 4 then some (funS F4) else if f = 5 then some (funS trueF) else if f = 6 then some (funS F6) else if f = 7 then some (funS F7) else if f = 8 then some (funS F8) else if f = 9 then some (funS F9) else none
  have hS : Summs.ok Tryz.prog S := by
    intro f q h
    simp only [S] at h
    repeat' split at h
    all_goals first | (cases h; done) | (simp only [Option.some.injEq] at h; subst h; rename_i e; subst e)
    · exact ok4
    · exact h5
    · exact ok6'
    · exact ok7'
    · exact ok8'
    · exact ok9
  have s4 : S 4 = some (funS F4) := rfl
  have s5 : S 5 = some (funS trueF) := rfl
  have s6 : S 6 = some (funS F6) := rfl
  have s7 : S 7 = some (funS F7) := rfl
  have s8 : S 8 = some (funS F8) := rfl
  have s9 : S 9 = some (funS F9) := rfl
  refine fun_ok (S := S) hS fn3 (fun ds r h => ?_) (fun ds r h => ?_)
  · unfold F3 at h; split at h
    · simp
    · cases h
  · unfold F3 at h; split at h
    · rename_i nl t xs key text
      split at h
      · rename_i l hl
        obtain rfl := itemsOf_some hl
        simp only [Option.some.injEq] at h
        subst h
        clear_value S
        have f4 : F4 [.agg [.slice nl [] (l.map itD), .slice true [] []]] = some (.bool (muchB l)) := by simp only [F4, hl]
        have g1 : ((200 : Int) < (key.length : Int)) = (200 < key.length) := by simp only [eq_iff_iff]; omega
        have g2 : ((200 : Int) < (text.length : Int)) = (200 < text.length) := by simp only [eq_iff_iff]; omega
        unfold dc3
        simp only [↓go1, go2, go3, go4, reduceIte, Nat.reduceEqDiff, Nat.reduceAdd, callK_fun s4, callK_fun s5, callK_fun s6, callK_fun s7, callK_fun s8, callK_fun s9, f4, trueF, g1, g2, fill1]
        cases hm : muchB l with
        | true => simp only [↓go1, go2, go3, go4, reduceIte, Nat.reduceEqDiff, Nat.reduceAdd, callK_fun s4, callK_fun s5, callK_fun s6, callK_fun s7, callK_fun s8, callK_fun s9, f4, trueF, g1, g2, fill1, hm]
        | false =>
          simp only [↓go1, go2, go3, go4, reduceIte, Nat.reduceEqDiff, Nat.reduceAdd, callK_fun s4, callK_fun s5, callK_fun s6, callK_fun s7, callK_fun s8, callK_fun s9, f4, trueF, g1, g2, fill1, hm]
          refine ifQ.intro (fun hc => ?_) (fun hc => ?_)
          · simp only [↓go1, go2, go3, go4, reduceIte, Nat.reduceEqDiff, Nat.reduceAdd, callK_fun s4, callK_fun s5, callK_fun s6, callK_fun s7, callK_fun s8, callK_fun s9, f4, trueF, g1, g2, fill1, hm, hc]
          · simp only [↓go1, go2, go3, go4, reduceIte, Nat.reduceEqDiff, Nat.reduceAdd, callK_fun s4, callK_fun s5, callK_fun s6, callK_fun s7, callK_fun s8, callK_fun s9, f4, trueF, g1, g2, fill1, hm, hc]
            refine ifQ.intro (fun hc2 => ?_) (fun hc2 => ?_)
            · simp only [↓go1, go2, go3, go4, reduceIte, Nat.reduceEqDiff, Nat.reduceAdd, callK_fun s4, callK_fun s5, callK_fun s6, callK_fun s7, callK_fun s8, callK_fun s9, f4, trueF, g1, g2, fill1, hm, hc, hc2]
            · have hlen : l.length ≤ 12 := by simp [muchB] at hm; omega
              have f6 : F6 [.agg [.slice nl [] (l.map itD), .slice true [] []]] = some (.agg (kcells l)) := by simp only [F6, hl]; exact if_pos (by omega)
              have f7 : F7 [.agg (kcells l), .str key, .str text, .bool true] = some (.agg (kcells (l ++ [(key, text, true)]))) := knownD_push l (key, text, true) (by omega)
              have f7' : F7 [.agg (List.map D.un1 (kcells l)), .str key, .str text, .bool true] = some (.agg (kcells (l ++ [(key, text, true)]))) := f7
              have f8 : F8 [.agg (List.map D.un1 (kcells l)), .str key, .slice false [] [.str text]] = some (.agg (lcells l key text)) := listed_at l key text
              have f9 : F9 [.slice false [] [.str text], .slice false [] [.str text]] = some (.bool true) := by simp [F9, strsOf]
              have hw : IntKind.i64.wrap ((l.length : Int) + 1) = (l.length : Int) + 1 := IntWalk.i64_in _ ⟨by omega, by omega⟩
              have e2 : (((1 : Nat) : Int) = 1) = True := by simp
              have e3 : ((0 : Int) ≤ 0) = True := by simp
              have e4 : (0 : Int).toNat = 0 := rfl
              have e1 : (((l.length + 1 : Nat) : Int) = (l.length : Int) + 1) = True := by simp
              simp only [↓go1, go2, go3, go4, reduceIte, Nat.reduceEqDiff, Nat.reduceAdd, callK_fun s4, callK_fun s5, callK_fun s6, callK_fun s7, callK_fun s8, callK_fun s9, f4, f9, trueF, g1, g2, fill1, hm, hc, hc2, f6, f7', f8, kcells_calm, kcells_len, lcells_len, rdk, rd5, rdl, rd5_other, List.cons.injEq, and_true, Option.isSome_some, put_rd, k0, k1, k2, l0, l3, l4, col1_len, col2_len, col3_len, List.length_append, List.length_cons, List.length_nil, e1, e2, e3, e4, List.length_map, Nat.zero_le, Nat.reduceLT, Nat.reduceLeDiff, Nat.sub_zero, true_and, and_self, Nat.zero_add, List.getElem?_cons_zero, hw]
              refine loop3 (l := l) (i7 := [17]) (i8 := [23]) (nl := nl) (t := t) (nb1 := l.isEmpty) (nb2 := (l ++ [(key, text, true)]).isEmpty) (ex := (key, text, true)) (sk := key) (st0 := text) (by omega) (fun st q1 q2 q8 q10 m0 m1 m2 => ?_) l.length 0 _ _ rfl (by omega) rfl rfl rfl rfl rfl rfl rfl ?_ ?_ ?_ ?_
              · have hk0 : (0 : Int) ≤ (l.length : Int) := by omega
                have x0 : (col1 (l ++ [(key, text, true)]))[(l.length : Int).toNat]? = some (.str key) := by simp [col1]
                have x1 : (col2 (l ++ [(key, text, true)]))[(l.length : Int).toNat]? = some (.str text) := by simp [col2]
                have x2 : (col3 (l ++ [(key, text, true)]))[(l.length : Int).toNat]? = some (.bool true) := by simp [col3]
                simp only [↓go1, go2, go3, go4, reduceIte, Nat.reduceEqDiff, Nat.reduceAdd, Nat.zero_le, List.drop_zero, List.drop_succ_cons, Nat.reduceLeDiff, q1, q2, q8, q10, m0, m1, m2, hk0, x0, x1, x2, eq_self, callK_fun s5, trueF]
              · simp [put_rd, D.cells, kcells_len, lcells_len, k0]
              · simp [put_rd, D.cells, kcells_len, lcells_len, k0]
              · simp [put_rd, D.cells, kcells_len, lcells_len, k1]
              · simp [put_rd, D.cells, kcells_len, lcells_len, k2]
      · cases h
    · cases h
end Go.Vd

namespace Go.Vd
open Go.Proofs Go.RowKit Go.ChangeShapes Go.WideShapes Go.Deep
set_option linter.unusedSimpArgs false
set_option linter.unusedVariables false

section
variable {H : Type} {enc : TypeId × Value → H} {P : Program} {w : World} {base : Nat} {spare : Nat → Bool} {held : Bool}
theorem open_slice_fields {t e : TypeId} {fs : Array Field} {fuel : Nat} {cs : List Value} {x : DataW H × List MemPlace} (ht : P.underlying t = some (.slice e)) (he : P.underlying e = some (.struct fs))
    (hone : oneCellFields P fs = true) (hC : P.cellsOf e = fs.size) (h : DataW.trod enc P w base spare held fuel t cs = some x) :
    (cs = [.slice none 0 0] ∧ x = (.nil, [])) ∨
    ∃ (a : Addr) (len cap m : Nat) (D : Nat → DataW H) (Pl : Nat → List MemPlace), cs = [.slice (some a) len cap] ∧ base ≤ a.block ∧ len ≤ cap ∧ cap ≤ maxLen ∧ m = (if spare a.block then cap else len) ∧
      x = (.slice ((List.range len).map D) ((List.range (m - len)).map fun j => D (len + j)), MemPlace.row a (m * fs.size) ++ (List.range m).flatMap Pl) ∧
      ∀ i, i < m → ∃ (ys : List (DataW H × List MemPlace)) (n : Nat), D i = .agg (ys.map (·.1)) ∧ Pl i = ys.flatMap (·.2) ∧ ys.length = fs.size ∧
        ∀ (j : Nat) (f : Field), fs[j]? = some f → ∃ (v : Value) (y : DataW H × List MemPlace), w.cell? (a.add (i * fs.size + j)) = some v ∧ ys[j]? = some y ∧ DataW.trod enc P w base spare held n f.type [v] = some y := by
  rcases open_slice ht h with h0 | ⟨a, len, cap, m, n, D, Pl, hcs, hb, hl, hm, hmm, hx, hi⟩
  · exact .inl h0
  · refine .inr ⟨a, len, cap, m, D, Pl, hcs, hb, hl, hm, hmm, by rw [hC] at hx; exact hx, fun i him => ?_⟩
    obtain ⟨cs', hc, ht'⟩ := hi i him
    rw [hC] at hc
    obtain ⟨ys, n', hn', hy, hlen, hyl, hf⟩ := DataW.trod_struct he ht'
    obtain ⟨_, hcl, hat⟩ := World.cells?_some hc
    simp only [Prod.mk.injEq] at hy
    refine ⟨ys, n', hy.1, hy.2, hyl, fun j f hj => ?_⟩
    obtain ⟨ho, hk⟩ := hone_of hone j f hj
    have hjl : j < fs.size := (Array.getElem?_eq_some_iff.1 hj).1
    have hcell := hat j hjl
    have hv : cs'[j]? = some (cs'[j]'(by omega)) := List.getElem?_eq_getElem (by omega)
    have h1 := hf j f hj
    rw [ho, hk] at h1
    have hone' : (cs'.drop j).take 1 = [cs'[j]'(by omega)] := by
      rw [List.drop_eq_getElem_cons (by omega)]
      rfl
    rw [hone'] at h1
    have hys : ys[j]? = some (ys[j]'(by omega)) := List.getElem?_eq_getElem (by omega)
    refine ⟨_, _, ?_, hys, h1.trans hys⟩
    rw [← Go.Deep.add_add, hcell, hv]
end

/-- How much of each block is settled at a start: all of it. -/
def allG (w : World) (b : Nat) : Nat := match w.heap[b]? with
  | some (.cells c _ _) => c.size
  | _ => 0
theorem allG_out (w : World) (b : Nat) (h : w.heap.size ≤ b) : allG w b = 0 := by
  simp [allG, Array.getElem?_eq_none h]
theorem cell_in {w : World} {p : Addr} {v : Value} (h : w.cell? p = some v) : p.off < allG w p.block := by
  unfold World.cell? at h
  unfold allG
  split at h
  · rename_i c e fz hh
    split at h
    · cases h
    · rw [hh]; exact (Array.getElem?_eq_some_iff.1 h).1
  · cases h

theorem exists_list {α : Type} {p : Nat → α → Prop} : ∀ n, (∀ i, i < n → ∃ x, p i x) → ∃ l : List α, l.length = n ∧ ∀ i x, l[i]? = some x → p i x
  | 0, _ => ⟨[], rfl, by simp⟩
  | n + 1, h => by
    obtain ⟨l, h1, h2⟩ := exists_list n (fun i hi => h i (by omega))
    obtain ⟨x, hx⟩ := h n (by omega)
    refine ⟨l ++ [x], by simp [h1], fun i y hy => ?_⟩
    by_cases hi : i < l.length
    · rw [List.getElem?_append_left hi] at hy; exact h2 i y hy
    · rw [List.getElem?_append_right (by omega)] at hy
      have hi0 : i - l.length = 0 := by
        rcases Nat.eq_zero_or_pos (i - l.length) with e | e
        · exact e
        · rw [List.getElem?_eq_none (by simp; omega)] at hy; cases hy
      rw [hi0] at hy
      simp only [List.getElem?_cons_zero, Option.some.injEq] at hy
      subst hy
      have : i = n := by omega
      subst this; exact hx

theorem flat_items : ∀ (l : List It) (j : Nat) (d : D), (flat (l.map itD))[j]? = some d → ∃ i it, l[i]? = some it ∧ ((j = i * 3 ∧ d = .str it.1) ∨ (j = i * 3 + 1 ∧ d = .str it.2.1) ∨ (j = i * 3 + 2 ∧ d = .bool it.2.2))
  | [], j, d, h => by simp [flat] at h
  | x :: r, j, d, h => by
    have e : flat ((x :: r).map itD) = .str x.1 :: .str x.2.1 :: .bool x.2.2 :: flat (r.map itD) := rfl
    rw [e] at h
    match j with
    | 0 => simp at h; exact ⟨0, x, rfl, .inl ⟨rfl, h.symm⟩⟩
    | 1 => simp at h; exact ⟨0, x, rfl, .inr (.inl ⟨rfl, h.symm⟩)⟩
    | 2 => simp at h; exact ⟨0, x, rfl, .inr (.inr ⟨rfl, h.symm⟩)⟩
    | j + 3 =>
      simp only [List.getElem?_cons_succ] at h
      obtain ⟨i, it, h1, h2⟩ := flat_items r j d h
      refine ⟨i + 1, it, by simpa using h1, ?_⟩
      rcases h2 with ⟨rfl, h3⟩ | ⟨rfl, h3⟩ | ⟨rfl, h3⟩
      · exact .inl ⟨by omega, h3⟩
      · exact .inr (.inl ⟨by omega, h3⟩)
      · exact .inr (.inr ⟨by omega, h3⟩)

theorem items_rep {w : World} {a : Addr} {len cap : Nat} (hc : len ≤ cap) (h : ∀ i, i < len → ∃ it : It, w.cell? (a.add (i * 3)) = some (.string ⟨it.1.toArray⟩) ∧ w.cell? (a.add (i * 3 + 1)) = some (.string ⟨it.2.1.toArray⟩) ∧ w.cell? (a.add (i * 3 + 2)) = some (.bool it.2.2)) :
    ∃ l : List It, Rep w (startG (allG w)) (.slice false [] (l.map itD)) (.slice (some a) len cap) := by
  obtain ⟨l, hl, hp⟩ := exists_list len h
  have key : ∀ j, j < len * 3 → ∃ v, w.cell? (a.add j) = some v ∧ v.oneCell' = true := by
    intro j hj
    have hi : j / 3 < l.length := by omega
    obtain ⟨h1, h2, h3⟩ := hp (j / 3) _ (List.getElem?_eq_getElem hi)
    have hm : j % 3 = 0 ∨ j % 3 = 1 ∨ j % 3 = 2 := by omega
    rcases hm with e | e | e
    · rw [show j / 3 * 3 = j by omega] at h1; exact ⟨_, h1, rfl⟩
    · rw [show j / 3 * 3 + 1 = j by omega] at h2; exact ⟨_, h2, rfl⟩
    · rw [show j / 3 * 3 + 2 = j by omega] at h3; exact ⟨_, h3, rfl⟩
  refine ⟨l, .slice [] _ a len cap 3 (fun j => (w.cell? (a.add j)).getD undef) (by simp [hl]) hc (fun d hd => ?_) (fun j hj => ?_) (fun j hj => ?_) (fun j d hd => ?_) (fun h0 => ?_) (fun h => absurd rfl h) (fun d hd => ?_)⟩
  · obtain ⟨it, _, rfl⟩ := List.mem_map.1 hd; rfl
  · obtain ⟨v, hv, _⟩ := key j hj
    simp only [hv, Option.getD_some]
  · obtain ⟨v, hv, ho⟩ := key j hj
    simp only [hv, Option.getD_some, ho]
  · obtain ⟨i, it, h1, h2⟩ := flat_items l j d hd
    obtain ⟨q1, q2, q3⟩ := hp i it h1
    rcases h2 with ⟨rfl, rfl⟩ | ⟨rfl, rfl⟩ | ⟨rfl, rfl⟩
    · simp only [q1, Option.getD_some]; exact .str _
    · simp only [q2, Option.getD_some]; exact .str _
    · simp only [q3, Option.getD_some]; exact .bool _
  · obtain ⟨v, hv, _⟩ := key (len * 3 - 1) (by omega)
    have := cell_in hv
    rw [add_off, add_block] at this
    show a.off + len * 3 ≤ allG w a.block
    omega
  · obtain ⟨it, _, rfl⟩ := List.mem_map.1 hd; rfl
end Go.Vd

namespace Go.Ve
open Go.RowKit
set_option linter.unusedSimpArgs false
set_option linter.unusedVariables false

inductive D where
  | junk
  | bool (b : Bool)
  | int (k : IntKind) (n : Int)
  | str (s : List UInt8)
  | ptr (i o : Nat)
  | nilptr
  | rsl (i o n : Nat)
  | esl
  | esl0
  | nilsl
  | agg (cs : List D)
  | tup (vs : List D)
  | iface (t : TypeId) (d : D)
  | nilIface
  | fn (f : FuncId) (caps : List D)
  | fnb (f : FuncId) (first : List D)
  | nilFunc
  | yld (i : Nat)
  | map (i : Nat)
  | nilMap

instance : Inhabited D := ⟨.junk⟩

def D.cells : D → List D
  | .agg cs => cs
  | d => [d]

/-- What cells are of: a row that may grow, of elements of a type; a variable of a type. -/
inductive Kd where
  | row (t : TypeId)
  | var (t : TypeId)

inductive Arg where
  | t (n : Nat)
  | c (d : D)

inductive DOp where
  | mv (x : Arg)
  | pick (c a b : Arg)
  | alloc (t : TypeId) (zs : List D)
  | box (t : TypeId) (x : Arg)
  | build (zs : List D) (parts : List (Nat × Nat × Arg))
  | bslice (e sz : Nat) (parts : List Arg)
  | load (k : Option Nat) (x : Arg)
  | store (n : Nat) (x v : Arg)
  | nilchk (x : Arg)
  | bin (op : BinOp) (x y : Arg)
  | beq (ne : Bool) (x y : Arg)
  | seq (ne : Bool) (offs : List (Nat × Nat)) (x y : Arg)
  | nileq (ne : Bool) (k : Nat) (x y : Arg)
  | ptreq (ne : Bool) (x y : Arg)
  | un (op : UnOp) (x : Arg)
  | conv (k : IntKind) (x : Arg)
  | s2s (x : Arg)
  | s2b (e : Nat) (x : Arg)
  | b2s (x : Arg)
  | faddr (off : Nat) (x : Arg)
  | field (k : Option Nat) (off : Nat) (x : Arg)
  | iaddr (sz : Nat) (x i : Arg)
  | iaddra (len sz : Nat) (x i : Arg)
  | idxs (x i : Arg)
  | idxa (len sz : Nat) (k : Option Nat) (x i : Arg)
  | cuts (x : Arg) (lo hi : Option Arg)
  | cutl (sz : Nat) (x : Arg) (lo hi : Option Arg)
  | cutm (sz : Nat) (x : Arg) (lo hi mx : Option Arg)
  | cuta (len sz : Nat) (x : Arg) (lo hi : Option Arg)
  | s2a (len : Nat) (x : Arg)
  | mkif (t : TypeId) (x : Arg)
  | tass (t : TypeId) (ok : Bool) (z : D) (x : Arg)
  | ext (i : Nat) (x : Arg)
  | mkfn (f : FuncId) (caps : List Arg)
  | mkfnb (f : FuncId) (first : List Arg)
  | len (isStr : Bool) (x : Arg)
  | cap (x : Arg)
  | app (e sz bytes : Nat) (x y : Arg)
  | appz (e sz bytes : Nat) (z : D) (x y : Arg)
  | copy (sz : Nat) (x y : Arg)
  | clear (sz : Nat) (z : D) (x : Arg)
  | mksl (e sz bytes : Nat) (z : D) (n c : Arg)
  | mm (max : Bool) (x : Arg) (ys : List Arg)
  | toU (x : Arg)
  | fromU (t : TypeId) (sz : Nat) (x : Arg)
  | sld (x : Arg)
  | ustr (e : TypeId) (x k : Arg)
  | mkmap
  | lookup (ok : Bool) (z : D) (x k : Arg)
  | mapset (x k v : Arg)
  | mapdel (x k : Arg)
  | lenm (x : Arg)
  | range (x : Arg)
  | next (x : Arg)
  | call (f : Arg) (xs : List Arg)
  | stop

def ofLeaf : Value → Option D
  | .bool b => some (.bool b)
  | .int k n => some (.int k n)
  | .string s => some (.str s.data.toList)
  | .slice none 0 0 => some .nilsl
  | .pointer none => some .nilptr
  | .nilIface => some .nilIface
  | .nilFunc => some .nilFunc
  | .map none => some .nilMap
  | _ => none

def ofLeaves : List Value → Option (List D)
  | [] => some []
  | v :: r => match ofLeaf v, ofLeaves r with
    | some d, some ds => some (d :: ds)
    | _, _ => none

def ofVal : Value → Option D
  | .agg cs => (ofLeaves cs.toList).map .agg
  | v => ofLeaf v

def trArg : Operand → Option Arg
  | .tmp t => some (.t t)
  | .const v => (ofVal v).map .c
  | .func f => some (.c (.fn f []))
  | .global _ => none

def trArgs : List Operand → Option (List Arg)
  | [] => some []
  | x :: r => match trArg x, trArgs r with
    | some a, some l => some (a :: l)
    | _, _ => none

def trOpt : Option Operand → Option (Option Arg)
  | none => some none
  | some x => (trArg x).map some

def zeroOf (P : Program) (t : TypeId) : Option D :=
  match P.info? t with
  | some i => match i.zero with
    | some z => ofVal z
    | none => none
  | none => none

def partsStruct (P : Program) (fields : Array Field) : List (Nat × Operand) → Option (List (Nat × Nat × Arg))
  | [] => some []
  | (i, x) :: r => match fields[i]?, trArg x, partsStruct P fields r with
    | some f, some y, some l => match Vd.szOf P f.type with
      | some n => some ((f.offset, n, y) :: l)
      | none => none
    | _, _, _ => none

def partsArray (sz : Nat) : List (Nat × Operand) → Option (List (Nat × Nat × Arg))
  | [] => some []
  | (i, x) :: r => match trArg x, partsArray sz r with
    | some y, some l => some ((i * sz, sz, y) :: l)
    | _, _ => none

def isSlice (P : Program) (u : TypeId) : Bool := match P.underlying u with
  | some (.slice _) => true
  | _ => false

def trEq (P : Program) (ne : Bool) (t : TypeId) (x y : Operand) (a b : Arg) : Option DOp :=
  match P.underlying t with
  | some .bool => some (.beq ne a b)
  | some (.int _) | some .string => some (.bin (if ne then .neq else .eql) a b)
  | some (.struct fs) => if P.stoodInHeld t = false ∧ P.eqGuardType P.depth t = false then (Vd.eqOffs P fs.toList).map fun l => .seq ne l a b else none
  | some (.slice _) => some (.nileq ne 0 a b)
  | some (.pointer e) => if Vd.isConst x || Vd.isConst y then some (.nileq ne 1 a b) else match Vd.szOf P e with
    | some (_ + 1) => some (.ptreq ne a b)
    | _ => none
  | some (.func ..) => some (.nileq ne 3 a b)
  | some (.map _ _) => some (.nileq ne 4 a b)
  | some (.interface _) => if Vd.isConst x || Vd.isConst y then some (.nileq ne 2 a b) else none
  | _ => none

def trCall (P : Program) (c : Call) : Option DOp :=
  match c.callee with
  | .value f => match trArg f, trArgs c.args.toList with
    | some g, some xs => some (.call g xs)
    | _, _ => none
  | .builtin .len => match c.args.toList, c.argTypes.toList with
    | [x], [t] => match P.underlying t with
      | some .string => (trArg x).map (.len true)
      | some (.slice _) => (trArg x).map (.len false)
      | some (.map _ _) => (trArg x).map .lenm
      | _ => none
    | _, _ => none
  | .builtin .cap => match c.args.toList, c.argTypes.toList with
    | [x], [t] => match P.underlying t with
      | some (.slice _) => (trArg x).map .cap
      | _ => none
    | _, _ => none
  | .builtin .append => match c.args.toList, c.argTypes.toList with
    | [x, y], [t, u] => if isSlice P u = true ∨ Vd.isStr P u = true then match P.underlying t with
      | some (.slice e) => match Vd.elemOf P e, trArg x, trArg y with
        | some (sz, bytes), some a, some b => some (.app e sz bytes a b)
        | _, _, _ => none
      | _ => none
      else match P.underlying u, P.underlying t with
        | some (.int _), some (.slice e) => match Vd.elemOf P e, zeroOf P e, trArg x, trArg y with
          | some (sz, bytes), some z, some a, some b => some (.appz e sz bytes z a b)
          | _, _, _, _ => none
        | _, _ => none
    | _, _ => none
  | .builtin .copy => match c.args.toList, c.argTypes.toList with
    | [x, y], [t, u] => match P.underlying t with
      | some (.slice e) => match Vd.szOf P e, trArg x, trArg y with
        | some sz, some a, some b => some (.copy sz a b)
        | _, _, _ => none
      | _ => none
    | _, _ => none
  | .builtin .unsafeSliceData => match c.args.toList, c.argTypes.toList with
    | [x], [t] => match P.underlying t with
      | some (.slice _) => (trArg x).map .sld
      | _ => none
    | _, _ => none
  | .builtin .unsafeString => match c.args.toList, c.argTypes.toList with
    | [x, y], [t, _] => match P.underlying t, trArg x, trArg y with
      | some (.pointer e), some a, some b => if P.cellsOf e = 1 then some (.ustr e a b) else none
      | _, _, _ => none
    | _, _ => none
  | .builtin .delete => match c.args.toList, c.argTypes.toList with
    | [x, y], [t, _] => match P.underlying t with
      | some (.map k _) => match P.underlying k, trArg x, trArg y with
        | some .string, some a, some b => some (.mapdel a b)
        | _, _, _ => none
      | _ => none
    | _, _ => none
  | .builtin .max => match trArgs c.args.toList with
    | some (x :: ys) => some (.mm true x ys)
    | _ => none
  | .builtin .min => match trArgs c.args.toList with
    | some (x :: ys) => some (.mm false x ys)
    | _ => none
  | .builtin .clear => match c.args.toList, c.argTypes.toList with
    | [x], [t] => match P.underlying t with
      | some (.slice e) => match Vd.szOf P e, zeroOf P e, trArg x with
        | some sz, some z, some a => some (.clear sz z a)
        | _, _, _ => none
      | _ => none
    | _, _ => none
  | _ => none

def tr (P : Program) (op : Op) : Option DOp :=
  match op with
  | .move x | .assign x => (trArg x).map .mv
  | .pick c a b => match trArg c, trArg a, trArg b with
    | some c, some a, some b => some (.pick c a b)
    | _, _, _ => none
  | .alloc t => (zeroOf P t).map fun d => .alloc t d.cells
  | .box t x => (trArg x).map (.box t)
  | .build t parts => match P.underlying t, zeroOf P t with
    | some (.struct fields), some (.agg zs) => if Vd.fieldsOk P fields.toList = true then (partsStruct P fields parts.toList).map fun l => .build zs l else none
    | some (.array _ e), some (.agg zs) => match Vd.szOf P e with
      | some sz => (partsArray sz parts.toList).map fun l => .build zs l
      | none => none
    | _, _ => none
  | .buildSlice t len parts => match P.underlying t with
    | some (.slice e) => match Vd.elemOf P e, trArgs (parts.toList.map (·.2)) with
      | some (sz, _), some l => if parts.toList.map (·.1) = List.range len ∧ len * sz ≤ 2 ^ 24 then some (.bslice e sz l) else none
      | _, _ => none
    | _ => none
  | .load t x => match Vd.kOf P t, trArg x with
    | some k, some x => some (.load k x)
    | _, _ => none
  | .store t x v => match Vd.szOf P t, trArg x, trArg v with
    | some (n + 1), some x, some v => some (.store (n + 1) x v)
    | _, _, _ => none
  | .nilCheck x => (trArg x).map .nilchk
  | .binOp .eql t x y _ => match trArg x, trArg y with
    | some a, some b => trEq P false t x y a b
    | _, _ => none
  | .binOp .neq t x y _ => match trArg x, trArg y with
    | some a, some b => trEq P true t x y a b
    | _, _ => none
  | .binOp op _ x y _ => match trArg x, trArg y with
    | some a, some b => some (.bin op a b)
    | _, _ => none
  | .unOp op _ x => (trArg x).map (.un op)
  | .convert src dst x => match P.underlying src, P.underlying dst, trArg x with
    | some (.int _), some (.int k), some x => some (.conv k x)
    | some .string, some .string, some x => some (.s2s x)
    | some .string, some (.slice e), some x => match P.underlying e, Vd.elemOf P e with
      | some (.int .u8), some (1, _) => some (.s2b e x)
      | _, _ => none
    | some (.slice e), some .string, some x => match P.underlying e with
      | some (.int .u8) => some (.b2s x)
      | _ => none
    | some (.pointer e), some .unsafePointer, some x => match Vd.szOf P e with
      | some (_ + 1) => some (.toU x)
      | _ => none
    | some .unsafePointer, some (.pointer e), some x => match Vd.szOf P e with
      | some sz => if liesAt P P.depth e (sz / P.cellsOf e) 0 e 1 = true then some (.fromU e sz x) else none
      | none => none
    | _, _, _ => none
  | .fieldAddr t x f => match P.underlying t, trArg x with
    | some (.struct fields), some x => match fields[f]? with
      | some fd => match Vd.szOf P fd.type with
        | some (_ + 1) => some (.faddr fd.offset x)
        | _ => none
      | none => none
    | _, _ => none
  | .field t x f => match P.underlying t, trArg x with
    | some (.struct fields), some x => match fields[f]? with
      | some fd => (Vd.kOf P fd.type).map fun k => .field k fd.offset x
      | none => none
    | _, _ => none
  | .indexAddr t x i => match P.underlying t, trArg x, trArg i with
    | some (.slice e), some x, some i => (Vd.szOf P e).map fun n => .iaddr n x i
    | some (.array len e), some x, some i => (Vd.szOf P e).map fun n => .iaddra len n x i
    | _, _, _ => none
  | .index t x i => match P.underlying t, trArg x, trArg i with
    | some .string, some x, some i => some (.idxs x i)
    | some (.array len e), some x, some i => match Vd.szOf P e, Vd.kOf P e with
      | some sz, some k => some (.idxa len sz k x i)
      | _, _ => none
    | _, _, _ => none
  | .slice t x lo hi none => match P.underlying t, trArg x, trOpt lo, trOpt hi with
    | some .string, some x, some l, some h => some (.cuts x l h)
    | some (.slice e), some x, some l, some h => (Vd.szOf P e).map fun n => .cutl n x l h
    | some (.array len e), some x, some l, some h => (Vd.szOf P e).map fun n => .cuta len n x l h
    | _, _, _, _ => none
  | .slice t x lo hi (some mx) => match P.underlying t, trArg x, trOpt lo, trOpt (some mx) with
    | some (.slice e), some x, some l, some m => match Vd.szOf P e, hi with
      | some n, some hi => match trOpt (some hi) with
        | some h => some (.cutm n x l h m)
        | none => none
      | _, _ => none
    | _, _, _, _ => none
  | .sliceToArrayPointer t x => match P.underlying t, trArg x with
    | some (.array len _), some x => some (.s2a len x)
    | _, _ => none
  | .makeInterface t x => match P.underlying t, trArg x with
    | some (.interface _), _ => none
    | some _, some x => some (.mkif t x)
    | _, _ => none
  | .typeAssert x _ t ok => match P.underlying t, zeroOf P t, trArg x with
    | some (.interface _), _, _ => none
    | some _, some z, some x => some (.tass t ok z x)
    | _, _, _ => none
  | .extract x i => (trArg x).map (.ext i)
  | .makeFunc (.func f) first caps => match first.toList, trArgs caps.toList with
    | [], some l => some (.mkfn f l)
    | x :: r, some [] => (trArgs (x :: r)).map (.mkfnb f)
    | _, _ => none
  | .makeSlice t n c => match P.underlying t with
    | some (.slice e) => match Vd.elemOf P e, zeroOf P e, trArg n, trArg c with
      | some (sz, bytes), some z, some n, some c => some (.mksl e sz bytes z n c)
      | _, _, _, _ => none
    | _ => none
  | .makeMap _ none => some .mkmap
  | .lookup t x k ok => match P.underlying t with
    | some (.map kt et) => match P.underlying kt, zeroOf P et, trArg x, trArg k with
      | some .string, some z, some a, some b => some (.lookup ok z a b)
      | _, _, _, _ => none
    | _ => none
  | .mapUpdate t x k v => match P.underlying t with
    | some (.map kt _) => match P.underlying kt, trArg x, trArg k, trArg v with
      | some .string, some a, some b, some c => some (.mapset a b c)
      | _, _, _, _ => none
    | _ => none
  | .range t x => match P.underlying t, trArg x with
    | some .string, some x => some (.range x)
    | _, _ => none
  | .next x true => (trArg x).map .next
  | .call c => trCall P c
  | _ => none
inductive Tr (α : Type) where
  | nil
  | node (x : Option α) (l r : Tr α)

def Tr.get {α : Type} : Tr α → Nat → Option α
  | .nil, _ => none
  | .node x l r, n => match n with
    | 0 => x
    | k + 1 => bif Nat.beq (k % 2) 0 then l.get (k / 2) else r.get (k / 2)

def Tr.putF {α : Type} (x : Option α) : Nat → Tr α → Nat → Tr α
  | 0, t, _ => t
  | f + 1, t, n => match t with
    | .nil => (match n with
      | 0 => .node x .nil .nil
      | k + 1 => bif Nat.beq (k % 2) 0 then .node none (Tr.putF x f .nil (k / 2)) .nil else .node none .nil (Tr.putF x f .nil (k / 2)))
    | .node y l r => match n with
      | 0 => .node x l r
      | k + 1 => bif Nat.beq (k % 2) 0 then .node y (Tr.putF x f l (k / 2)) r else .node y l (Tr.putF x f r (k / 2))

def Tr.put {α : Type} (t : Tr α) (n : Nat) (x : Option α) : Tr α := Tr.putF x (n + 1) t n

def Arg.uses : Arg → List Nat
  | .t n => [n]
  | .c _ => []
def optUses : Option Arg → List Nat
  | some a => a.uses
  | none => []

def DOp.uses : DOp → List Nat
  | .mv x | .box _ x | .load _ x | .nilchk x | .un _ x | .conv _ x | .s2s x | .s2b _ x | .b2s x | .faddr _ x | .field _ _ x | .mkif _ x | .tass _ _ _ x | .ext _ x | .len _ x | .cap x | .s2a _ x | .clear _ _ x | .range x | .next x | .toU x | .fromU _ _ x | .sld x | .lenm x => x.uses
  | .pick c a b => c.uses ++ a.uses ++ b.uses
  | .alloc _ _ | .stop | .mkmap => []
  | .build _ ps => ps.flatMap fun p => p.2.2.uses
  | .bslice _ _ ps => ps.flatMap Arg.uses
  | .store _ x y | .bin _ x y | .beq _ x y | .seq _ _ x y | .nileq _ _ x y | .ptreq _ x y | .iaddr _ x y | .iaddra _ _ x y | .idxs x y | .idxa _ _ _ x y | .app _ _ _ x y | .copy _ x y | .mksl _ _ _ _ x y | .appz _ _ _ _ x y | .ustr _ x y | .lookup _ _ x y | .mapdel x y => x.uses ++ y.uses
  | .mapset x y z => x.uses ++ y.uses ++ z.uses
  | .cuts x l h | .cutl _ x l h | .cuta _ _ x l h => x.uses ++ (optUses l ++ optUses h)
  | .cutm _ x l h mx => x.uses ++ (optUses l ++ optUses h) ++ optUses mx
  | .mkfn _ cs | .mkfnb _ cs => cs.flatMap Arg.uses
  | .mm _ x ys => x.uses ++ ys.flatMap Arg.uses
  | .call f xs => f.uses ++ xs.flatMap Arg.uses

/-- May it write, or make, an object? -/
def DOp.mayW : DOp → Bool
  | .alloc .. | .box .. | .bslice .. | .mksl .. | .store .. | .app .. | .appz .. | .copy .. | .s2b .. | .range _ | .next _ | .call .. | .ustr .. | .mkmap | .mapset .. | .mapdel .. => true
  | _ => false
/-- May it look at one? -/
def DOp.mayR : DOp → Bool
  | .load .. | .store .. | .b2s _ | .cuta .. | .app .. | .copy .. | .next _ | .call .. | .toU _ | .fromU .. | .ustr .. | .lookup .. | .mapset .. | .mapdel .. | .lenm _ => true
  | _ => false

structure ROp where
  dst : Option Nat
  op : DOp
  guard : Option (Nat × Bool)

def isCall : DOp → Bool
  | .call _ _ => true
  | _ => false

def trGuard (ops : List Oper) : Option (Nat × Bool) → Option (Option (Nat × Bool))
  | none => some none
  | some (j, b) => match (ops[j]?).bind (·.dst) with
    | some t => some (some (t, b))
    | none => none

def trROp (P : Program) (N : Nat) (ops : List Oper) (o : Oper) : Option ROp :=
  if Vd.dstOk N o.dst = true then (trGuard ops o.guard).map fun g => ⟨o.dst, (tr P o.op).getD .stop, g⟩ else none

def trROps (P : Program) (N : Nat) (ops : List Oper) : List Oper → Option (List ROp)
  | [] => some []
  | o :: r => match trROp P N ops o, trROps P N ops r with
    | some d, some l => some (d :: l)
    | _, _ => none

def befB (befs : List (List Nat)) (j k : Nat) : Bool := (befs.getD k []).contains j
def apart (befs : List (List Nat)) (j k : Nat) : Bool := !befB befs j k && !befB befs k j

def gslot (o : ROp) : Option Nat := o.guard.map (·.1)

/-- Whoever names a slot is ahead of or behind whoever fills it. -/
def slotsOk (rops : List ROp) (befs : List (List Nat)) : Bool :=
  (List.range rops.length).all fun j => (List.range rops.length).all fun k => match rops[j]?, rops[k]? with
    | some oj, some ok => match oj.dst with
      | some t => j == k || !apart befs j k || !(ok.op.uses.contains t || gslot ok == some t || ok.dst == some t)
      | none => true
    | _, _ => true

def DOp.ownW : DOp → Bool
  | .alloc .. | .box .. | .bslice .. | .mksl .. | .s2b .. | .range _ => true
  | _ => false
def clash (a b : DOp) : Bool := a.mayW && (b.mayR || b.mayW) && !(a.ownW && b.ownW)

def pairsOf (rops : List ROp) (befs : List (List Nat)) : List (Nat × Nat) :=
  (List.range rops.length).flatMap fun j => ((List.range rops.length).filter fun k => j != k && apart befs j k && (match rops[j]?, rops[k]? with
    | some oj, some ok => clash oj.op ok.op
    | _, _ => false)).map fun k => (j, k)

inductive DC where
  | skip
  | stop
  | ret
  | exit (i : Nat)
  | row (ops : List ROp)
  | drawn (ops : List ROp) (hids : List (List Nat)) (ps : List (Nat × Nat))
  | seq (a b : DC)
  | cond (c : Arg) (a b : DC)
  | block (i : Nat) (c : DC)
  | loop (c : DC)
  | scope (c : DC)
  | rfn (g : Arg) (ps : List Nat) (da db : DC)

def hidsOf (rops : List ROp) (befs : List (List Nat)) : List (List Nat) :=
  (List.range rops.length).map fun k => match rops[k]? with
    | some o => if isCall o.op then (List.range k).filter fun j => !befB befs j k && (match rops[j]? with | some x => x.op.mayW | none => false) else []
    | none => []

def mkDrawn (P : Program) (N : Nat) (ops : Array Oper) : Option DC :=
  match trROps P N ops.toList ops.toList with
  | some rops =>
    if Vd.befsOk (ops.toList.map Vd.preds) (Vd.befsFrom (ops.toList.map Vd.preds)) = true ∧ slotsOk rops (Vd.befsFrom (ops.toList.map Vd.preds)) = true ∧ Vd.goodOrd .any ops (Region.linearise .any ops 0) = true ∧
      Vd.goodOrd .text ops (Region.linearise .text ops 0) = true ∧ Vd.goodOrd .gc ops (Region.linearise .gc ops 0) = true
    then some (.drawn rops (hidsOf rops (Vd.befsFrom (ops.toList.map Vd.preds))) (pairsOf rops (Vd.befsFrom (ops.toList.map Vd.preds)))) else none
  | none => none

def trCode (P : Program) (N : Nat) : Code → Option DC
  | .skip => some .skip
  | .label _ => some .skip
  | .ret => some .ret
  | .exit i => some (.exit i)
  | .region _ ops false => (trROps P N ops.toList ops.toList).map .row
  | .region _ ops true => mkDrawn P N ops
  | .seq a b => match trCode P N a, trCode P N b with
    | some a, some b => some (.seq a b)
    | _, _ => none
  | .cond c a b => match trArg c, trCode P N a, trCode P N b with
    | some c, some a, some b => some (.cond c a b)
    | _, _, _ => none
  | .block i c => (trCode P N c).map (.block i)
  | .loop c => (trCode P N c).map .loop
  | .scope c => (trCode P N c).map .scope
  | .refuse _ => some .stop
  | .rangeFunc g ps a b => match trArg g, trCode P N a, trCode P N b with
    | some g, some a, some b => if ps.toList.all (fun p => Nat.blt p N) = true then some (.rfn g ps.toList a b) else none
    | _, _, _ => none
  | _ => none

abbrev Sl := Tr D
def sg (s : Sl) (t : Nat) : D := (s.get t).getD .junk
def setD (s : Sl) (t : Option Nat) (d : D) : Sl := match t with
  | some t => s.put t (some d)
  | none => s

/-- How a round was left. -/
inductive Pd where
  | no
  | ret
  | exit (i : Nat)
def Pd.code : Pd → Option Code
  | .no => none
  | .ret => some .ret
  | .exit i => some (.exit i)
end Go.Ve

namespace Go.Ve
open Go.RowKit
set_option linter.unusedSimpArgs false
set_option linter.unusedVariables false

/-- What an object holds: cells; the entries of a map; how far a string has been gone through. -/
inductive Ob where
  | cells (cs : List D) (e : Kd)
  | map (ks vs : List D)
  | it (s : List UInt8) (pos : Nat)
  | dfr (op : Bool)
  | lp (st : Nat) (pd : Pd) (s : Sl) (ps : List Nat) (da db : DC)
instance : Inhabited Ob := ⟨.cells [] (.var 0)⟩

/-- Which block an object is, and how many places its row has. -/
abbrev Gm := Nat → Option (Nat × Option Nat)

inductive Rep (g : Gm) : D → Value → Prop
  | junk (v : Value) : Rep g .junk v
  | bool (b : Bool) : Rep g (.bool b) (.bool b)
  | int (k : IntKind) (n : Int) : Rep g (.int k n) (.int k n)
  | str (s : List UInt8) : Rep g (.str s) (.string ⟨s.toArray⟩)
  | ptr (i o b : Nat) (C : Option Nat) : g i = some (b, C) → Rep g (.ptr i o) (.pointer (some ⟨b, o, none⟩))
  | nilp : Rep g .nilptr (.pointer none)
  | rsl (i o n b c : Nat) (C : Option Nat) : g i = some (b, C) → n ≤ c → (∀ k, C = some k → o = 0 → c = k) → Rep g (.rsl i o n) (.slice (some ⟨b, o, none⟩) n c)
  | esl (a : Addr) (c : Nat) : Rep g .esl (.slice (some a) 0 c)
  | esl0 (a : Addr) : Rep g .esl0 (.slice (some a) 0 0)
  | nils : Rep g .nilsl (.slice none 0 0)
  | agg (ds : List D) (vs : List Value) : vs.length = ds.length → (∀ v ∈ vs, v.oneCell' = true) →
      (∀ (j : Nat) d v, ds[j]? = some d → vs[j]? = some v → Rep g d v) → Rep g (.agg ds) (.agg vs.toArray)
  | tup (ds : List D) (vs : List Value) : vs.length = ds.length →
      (∀ (j : Nat) d v, ds[j]? = some d → vs[j]? = some v → Rep g d v) → Rep g (.tup ds) (.tuple vs.toArray)
  | iface (t : TypeId) (d : D) (v : Value) : Rep g d v → Rep g (.iface t d) (.iface t v)
  | nili : Rep g .nilIface .nilIface
  | fn (f : FuncId) (ds : List D) (vs : List Value) : vs.length = ds.length →
      (∀ (j : Nat) d v, ds[j]? = some d → vs[j]? = some v → Rep g d v) → Rep g (.fn f ds) (.func (.func f) #[] vs.toArray)
  | fnb (f : FuncId) (ds : List D) (vs : List Value) : vs.length = ds.length →
      (∀ (j : Nat) d v, ds[j]? = some d → vs[j]? = some v → Rep g d v) → Rep g (.fnb f ds) (.func (.func f) vs.toArray #[])
  | nilf : Rep g .nilFunc .nilFunc
  | yld (i b : Nat) (C : Option Nat) : g i = some (b, C) → Rep g (.yld i) (.func (.yield b) #[] #[])
  | map (i b : Nat) (C : Option Nat) : g i = some (b, C) → Rep g (.map i) (.map (some b))
  | nilm : Rep g .nilMap (.map none)

def Gm.le (g g' : Gm) : Prop := ∀ i x, g i = some x → g' i = some x

theorem Gm.le.refl (g : Gm) : g.le g := fun _ _ h => h
theorem Gm.le.trans {g g' g'' : Gm} (h : g.le g') (k : g'.le g'') : g.le g'' := fun i x hi => k i x (h i x hi)

theorem Rep.ext {g g' : Gm} {d : D} {v : Value} (h : Rep g d v) (x : g.le g') : Rep g' d v := by
  induction h with
  | junk v => exact .junk v
  | bool b => exact .bool b
  | int k n => exact .int k n
  | str s => exact .str s
  | ptr i o b C h1 => exact .ptr i o b C (x _ _ h1)
  | nilp => exact .nilp
  | rsl i o n b c C h1 h2 h3 => exact .rsl i o n b c C (x _ _ h1) h2 h3
  | esl a c => exact .esl a c
  | esl0 a => exact .esl0 a
  | nils => exact .nils
  | agg ds vs h1 h2 _ ih => exact .agg ds vs h1 h2 ih
  | tup ds vs h1 _ ih => exact .tup ds vs h1 ih
  | iface t d v _ ih => exact .iface t d v ih
  | nili => exact .nili
  | fn f ds vs h1 _ ih => exact .fn f ds vs h1 ih
  | fnb f ds vs h1 _ ih => exact .fnb f ds vs h1 ih
  | nilf => exact .nilf
  | yld i b C h1 => exact .yld i b C (x _ _ h1)
  | map i b C h1 => exact .map i b C (x _ _ h1)
  | nilm => exact .nilm

/-- Values that stand for a list of data, each of one cell. -/
def Reps (g : Gm) (ds : List D) (vs : List Value) : Prop :=
  vs.length = ds.length ∧ (∀ v ∈ vs, v.oneCell' = true) ∧ ∀ (j : Nat) d v, ds[j]? = some d → vs[j]? = some v → Rep g d v

theorem Reps.ext {g g' : Gm} {ds : List D} {vs : List Value} (h : Reps g ds vs) (x : g.le g') : Reps g' ds vs :=
  ⟨h.1, h.2.1, fun j d v hd hv => (h.2.2 j d v hd hv).ext x⟩
theorem Reps.nil (g : Gm) : Reps g [] [] := ⟨rfl, by simp, by simp⟩
theorem Reps.one {g : Gm} {d : D} {v : Value} (h : Rep g d v) (hl : v.oneCell' = true) : Reps g [d] [v] := by
  refine ⟨rfl, by simpa using hl, fun j d' v' hd hv => ?_⟩
  cases j with
  | zero => simp at hd hv; subst hd hv; exact h
  | succ j => simp at hd
theorem Reps.append {g : Gm} {ds ds' : List D} {vs vs' : List Value} (h : Reps g ds vs) (k : Reps g ds' vs') : Reps g (ds ++ ds') (vs ++ vs') := by
  refine ⟨by simp [h.1, k.1], fun v hv => ?_, fun j d v hd hv => ?_⟩
  · rcases List.mem_append.1 hv with hv | hv
    · exact h.2.1 v hv
    · exact k.2.1 v hv
  · by_cases hj : j < ds.length
    · rw [List.getElem?_append_left hj] at hd
      rw [List.getElem?_append_left (by rw [h.1]; exact hj)] at hv
      exact h.2.2 j d v hd hv
    · rw [List.getElem?_append_right (by omega)] at hd
      rw [List.getElem?_append_right (by rw [h.1]; omega), h.1] at hv
      exact k.2.2 _ d v hd hv
theorem Reps.take {g : Gm} {ds : List D} {vs : List Value} (h : Reps g ds vs) (n : Nat) : Reps g (ds.take n) (vs.take n) := by
  refine ⟨by simp [h.1], fun v hv => h.2.1 v (List.mem_of_mem_take hv), fun j d v hd hv => ?_⟩
  have hj : j < n := by
    rcases Nat.lt_or_ge j n with h1 | h1
    · exact h1
    · rw [List.getElem?_eq_none (by simp; omega)] at hd; cases hd
  rw [List.getElem?_take_of_lt hj] at hd hv
  exact h.2.2 j d v hd hv
theorem Reps.drop {g : Gm} {ds : List D} {vs : List Value} (h : Reps g ds vs) (n : Nat) : Reps g (ds.drop n) (vs.drop n) := by
  refine ⟨by simp [h.1], fun v hv => h.2.1 v (List.mem_of_mem_drop hv), fun j d v hd hv => ?_⟩
  rw [List.getElem?_drop] at hd hv
  exact h.2.2 _ d v hd hv

abbrev Mem := Nat → Option Ob

/-- Writes to objects; none: it is not known any more. -/
abbrev Upd := List (Nat × Option Ob)
def Mem.put (m : Mem) (i : Nat) (x : Option Ob) : Mem := fun j => if j = i then x else m j
def Upd.app (m : Mem) : Upd → Mem
  | [] => m
  | (i, x) :: u => Upd.app (m.put i x) u

theorem Mem.put_same {m : Mem} {i : Nat} {x : Option Ob} : m.put i x i = x := by simp [Mem.put]
theorem Mem.put_other {m : Mem} {i j : Nat} {x : Option Ob} (h : j ≠ i) : m.put i x j = m j := by simp [Mem.put, h]

/-- What a row that may grow is, in its block. -/
def Grows (P : Program) (e : TypeId) (C : Option Nat) (size : Nat) : Prop :=
  ∃ t z c, P.info? e = some t ∧ 0 < t.size ∧ t.zero = some z ∧ z.cells.size = t.size ∧ C = some c ∧ c ≤ maxLen ∧ size = c * t.size

/-- No cell is frozen. -/
def Soft (fz : Nat × Nat) (size : Nat) : Prop := fz.2 ≤ fz.1 ∨ size ≤ fz.1

/-- The states of a loop: 0: ready, 1: busy, 2: done, 3: exhausted. -/
def LoopIs : Nat → LoopState → Prop
  | 0, s => s = .ready
  | 1, s => s = .busy
  | 2, s => s = .done
  | _, s => s = .exhausted

/-- An object in its block. -/
def ObOk (P : Program) (g : Gm) (C : Option Nat) : Ob → Option Obj → Prop
  | .cells cs e, o => ∃ vs T fz, o = some (.cells vs T fz) ∧ Soft fz vs.size ∧ cs.length ≤ vs.size ∧ Reps g cs (vs.toList.take cs.length) ∧ (∀ t, e = .row t → T = t ∧ Grows P t C vs.size) ∧ (∀ t, e = .var t → T = t ∧ C = none ∧ vs.size = cs.length)
  | .map ks vs, o => ∃ es clock, o = some (.map es clock) ∧ Reps g ks (es.toList.map (·.key)) ∧ es.size = vs.length ∧
      (∀ (j : Nat) d v, vs[j]? = some d → (es.toList.map (·.val))[j]? = some v → Rep g d v)
  | .it s pos, o => o = some (.stringIter ⟨s.toArray⟩ pos)
  | .dfr b, o => o = some (.deferred (if b then some [] else none))
  | .lp st pd s ps da db, o => ∃ r : Loop, o = some (.loop r) ∧ LoopIs st r.state ∧ r.pending = pd.code ∧ r.params.toList = ps ∧ (ps.all fun p => Nat.blt p r.tmps.size) = true ∧ trCode P r.tmps.size r.assign = some da ∧ trCode P r.tmps.size r.body = some db ∧ ∀ t, Rep g (sg s t) (r.tmps.getD t undef)

/-- A memory of the layer, as a world holds it: blocks below B are as they were in w0. -/
structure Inv (P : Program) (B : Nat) (w0 : World) (m : Mem) (w : World) (g : Gm) : Prop where
  below : Below B w0 w
  size : B ≤ w.heap.size
  obj : ∀ i ob, m i = some ob → ∃ b C, g i = some (b, C) ∧ B ≤ b ∧ ObOk P g C ob w.heap[b]?
  inj : ∀ i i' b C C', m i ≠ none → m i' ≠ none → g i = some (b, C) → g i' = some (b, C') → i = i'

theorem ObOk.ext {P : Program} {g g' : Gm} {C : Option Nat} {ob : Ob} {o : Option Obj} (h : ObOk P g C ob o) (x : g.le g') : ObOk P g' C ob o := by
  cases ob with
  | cells cs e =>
    obtain ⟨vs, T, fz, h1, hs, h2, h3, h4⟩ := h
    exact ⟨vs, T, fz, h1, hs, h2, h3.ext x, h4⟩
  | map ks vs =>
    obtain ⟨es, cl, h1, h2, h3, h4⟩ := h
    exact ⟨es, cl, h1, h2.ext x, h3, fun j d v hd hv => (h4 j d v hd hv).ext x⟩
  | it s pos => exact h
  | dfr b => exact h
  | lp st pd s ps da db =>
    obtain ⟨r, h1, h2, h3, h4, h5, h6, h7, h8⟩ := h
    exact ⟨r, h1, h2, h3, h4, h5, h6, h7, fun t => (h8 t).ext x⟩

theorem ObOk.lt {P : Program} {g : Gm} {C : Option Nat} {ob : Ob} {w : World} {b : Nat} (h : ObOk P g C ob w.heap[b]?) : b < w.heap.size := by
  cases ob with
  | cells cs e => obtain ⟨vs, T, fz, h1, _⟩ := h; exact (Array.getElem?_eq_some_iff.1 h1).1
  | map ks vs => obtain ⟨es, cl, h1, _⟩ := h; exact (Array.getElem?_eq_some_iff.1 h1).1
  | it s pos => exact (Array.getElem?_eq_some_iff.1 h).1
  | dfr b => exact (Array.getElem?_eq_some_iff.1 h).1
  | lp st pd s ps da db => obtain ⟨r, h1, _⟩ := h; exact (Array.getElem?_eq_some_iff.1 h1).1

section
variable {P : Program} {B : Nat} {w0 w w' : World} {m : Mem} {g g' : Gm}

/-- Less is known. -/
theorem Inv.less (h : Inv P B w0 m w g) {m' : Mem} (hle : ∀ i ob, m' i = some ob → m i = some ob) : Inv P B w0 m' w g := by
  have nn : ∀ i, m' i ≠ none → m i ≠ none := by
    intro i hi
    cases hm : m' i with
    | none => exact absurd hm hi
    | some ob => rw [hle i ob hm]; simp
  exact ⟨h.below, h.size, fun i ob hi => h.obj i ob (hle i ob hi), fun i i' b C C' h1 h2 => h.inj i i' b C C' (nn i h1) (nn i' h2)⟩

theorem Inv.drew (h : Inv P B w0 m w g) : Inv P B w0 m w.drew g := ⟨h.below.drew, h.size, h.obj, h.inj⟩

/-- A call that leaves all blocks. -/
theorem Inv.over (h : Inv P B w0 m w g) (hb : Below w.heap.size w w') : Inv P B w0 m w' g := by
  refine ⟨h.below.trans (hb.mono h.size), Nat.le_trans h.size hb.size, fun i ob hi => ?_, h.inj⟩
  obtain ⟨b, C, h1, h2, h3⟩ := h.obj i ob hi
  refine ⟨b, C, h1, h2, ?_⟩
  rw [hb.block b h3.lt]; exact h3

/-- A name for a block. -/
def Gm.add (g : Gm) (i b : Nat) (C : Option Nat) : Gm := fun j => if j = i then some (b, C) else g j

theorem Gm.add_le {i b : Nat} {C : Option Nat} (h : g i = none) : g.le (g.add i b C) := by
  intro j x hj
  simp only [Gm.add]
  split
  · rename_i e; subst e; rw [h] at hj; cases hj
  · exact hj
theorem Gm.add_same {i b : Nat} {C : Option Nat} : g.add i b C i = some (b, C) := by simp [Gm.add]
theorem Gm.add_other {i j b : Nat} {C : Option Nat} (h : j ≠ i) : g.add i b C j = g j := by simp [Gm.add, h]

/-- A new object. -/
theorem Inv.new (h : Inv P B w0 m w g) {i : Nat} (hm : m i = none) (hg : g i = none) (C : Option Nat) {ob : Ob} {o : Obj} (ho : ObOk P g C ob (some o)) :
    Inv P B w0 (m.put i (some ob)) (w.alloc o) (g.add i w.heap.size C) := by
  have x := Gm.add_le (b := w.heap.size) (C := C) hg
  refine ⟨h.below.alloc h.size _, by have := h.size; simp; omega, fun j ob' hj => ?_, fun j j' b D D' h1 h2 h3 h4 => ?_⟩
  · by_cases hji : j = i
    · subst hji
      rw [Mem.put_same] at hj
      simp only [Option.some.injEq] at hj
      subst hj
      refine ⟨w.heap.size, C, Gm.add_same, h.size, ?_⟩
      rw [heap_alloc_new]
      exact ho.ext x
    · rw [Mem.put_other hji] at hj
      obtain ⟨b, D, h1, h2, h3⟩ := h.obj j ob' hj
      refine ⟨b, D, x _ _ h1, h2, ?_⟩
      rw [Below.heap_alloc w _ b h3.lt]
      exact h3.ext x
  · have old : ∀ j, j ≠ i → m.put i (some ob) j ≠ none → ∀ b D, g.add i w.heap.size C j = some (b, D) → m j ≠ none ∧ g j = some (b, D) ∧ b < w.heap.size := by
      intro j hj hn b D hb
      rw [Mem.put_other hj] at hn
      rw [Gm.add_other hj] at hb
      cases hmj : m j with
      | none => exact absurd hmj hn
      | some ob' =>
        obtain ⟨b', D', h1, h2, h3⟩ := h.obj j ob' hmj
        rw [hb] at h1
        simp only [Option.some.injEq, Prod.mk.injEq] at h1
        obtain ⟨rfl, rfl⟩ := h1
        exact ⟨by simp, hb, h3.lt⟩
    by_cases hj : j = i
    · by_cases hj' : j' = i
      · rw [hj, hj']
      · obtain ⟨_, _, lt⟩ := old j' hj' h2 _ _ h4
        subst hj
        rw [Gm.add_same] at h3
        simp only [Option.some.injEq, Prod.mk.injEq] at h3
        omega
    · by_cases hj' : j' = i
      · obtain ⟨_, _, lt⟩ := old j hj h1 _ _ h3
        subst hj'
        rw [Gm.add_same] at h4
        simp only [Option.some.injEq, Prod.mk.injEq] at h4
        omega
      · obtain ⟨a1, a2, _⟩ := old j hj h1 _ _ h3
        obtain ⟨b1, b2, _⟩ := old j' hj' h2 _ _ h4
        exact h.inj j j' b D D' a1 b1 a2 b2

/-- One block is another thing: all else stays. -/
def World.setObj (w : World) (b : Nat) (o : Obj) : World := { w with heap := w.heap.setIfInBounds b o }

theorem setObj_other {b k : Nat} {o : Obj} (h : k ≠ b) : (World.setObj w b o).heap[k]? = w.heap[k]? := by
  have h' : ¬ b = k := fun e => h e.symm
  simp [World.setObj, Array.getElem?_setIfInBounds, h']
theorem setObj_same {b : Nat} {o : Obj} (h : b < w.heap.size) : (World.setObj w b o).heap[b]? = some o := by
  simp [World.setObj, h]

/-- The block of an object changes, and the object with it. -/
theorem Inv.upd (h : Inv P B w0 m w g) {i b : Nat} {C : Option Nat} (hm : m i ≠ none) (hg : g i = some (b, C)) {ob : Ob}
    (hb : Below B w w') (hs : w'.heap.size = w.heap.size) (hoth : ∀ k, k ≠ b → w'.heap[k]? = w.heap[k]?) (ho : ObOk P g C ob w'.heap[b]?) :
    Inv P B w0 (m.put i (some ob)) w' g := by
  refine ⟨h.below.trans hb, by rw [hs]; exact h.size, fun j ob' hj => ?_, fun j j' b1 D D' h1 h2 h3 h4 => ?_⟩
  · by_cases hji : j = i
    · subst hji
      rw [Mem.put_same] at hj
      simp only [Option.some.injEq] at hj
      subst hj
      cases hmj : m j with
      | none => exact absurd hmj hm
      | some ob0 =>
        obtain ⟨b0, C0, h1, h2, h3⟩ := h.obj j ob0 hmj
        rw [hg] at h1
        simp only [Option.some.injEq, Prod.mk.injEq] at h1
        obtain ⟨rfl, rfl⟩ := h1
        exact ⟨b, C, hg, h2, ho⟩
    · rw [Mem.put_other hji] at hj
      obtain ⟨b1, D, h1, h2, h3⟩ := h.obj j ob' hj
      refine ⟨b1, D, h1, h2, ?_⟩
      have : b1 ≠ b := by
        rintro rfl
        exact hji (h.inj j i b1 D C (by rw [hj]; simp) hm h1 hg)
      rw [hoth b1 this]; exact h3
  · have nn : ∀ j, m.put i (some ob) j ≠ none → m j ≠ none := by
      intro j hj
      by_cases hji : j = i
      · subst hji; exact hm
      · rw [Mem.put_other hji] at hj; exact hj
    exact h.inj j j' b1 D D' (nn j h1) (nn j' h2) h3 h4

/-- An object's block goes over to a new name. -/
theorem Inv.putO (h : Inv P B w0 m w g) {i b : Nat} {C : Option Nat} (hm : m i ≠ none) (hg : g i = some (b, C)) {ob : Ob} {o : Obj} (ho : ObOk P g C ob (some o)) :
    Inv P B w0 (m.put i (some ob)) { w with heap := w.heap.setIfInBounds b o } g := by
  obtain ⟨hB, hlt⟩ : B ≤ b ∧ b < w.heap.size := by
    cases hmi : m i with
    | none => exact absurd hmi hm
    | some ob' =>
      obtain ⟨b', C', h1, h2, h3⟩ := h.obj i ob' hmi
      rw [hg] at h1
      simp only [Option.some.injEq, Prod.mk.injEq] at h1
      obtain ⟨rfl, rfl⟩ := h1
      exact ⟨h2, h3.lt⟩
  refine h.upd hm hg ⟨rfl, rfl, rfl, by simp, fun k hk => ?_⟩ (by simp) (fun k hk => setObj_other (w := w) hk) ?_
  · exact setObj_other (w := w) (o := o) (b := b) (k := k) (by omega)
  · have := setObj_same (w := w) (o := o) hlt
    simp only [World.setObj] at this
    rw [this]; exact ho

theorem Inv.move (h : Inv P B w0 m w g) {i j b : Nat} {C : Option Nat} (hm : m i ≠ none) (hg : g i = some (b, C)) (hmj : m j = none) (hgj : g j = none) {ob : Ob}
    (hb : Below B w w') (hs : w'.heap.size = w.heap.size) (hoth : ∀ k, k ≠ b → w'.heap[k]? = w.heap[k]?) (ho : ObOk P g C ob w'.heap[b]?) :
    Inv P B w0 ((m.put i none).put j (some ob)) w' (g.add j b C) := by
  have x := Gm.add_le (b := b) (C := C) hgj
  have hij : i ≠ j := by rintro rfl; exact hm hmj
  refine ⟨h.below.trans hb, by rw [hs]; exact h.size, fun k ob' hk => ?_, fun k k' b1 D D' h1 h2 h3 h4 => ?_⟩
  · by_cases hkj : k = j
    · subst hkj
      rw [Mem.put_same] at hk
      simp only [Option.some.injEq] at hk
      subst hk
      cases hmi : m i with
      | none => exact absurd hmi hm
      | some ob0 =>
        obtain ⟨b0, C0, h1, h2, h3⟩ := h.obj i ob0 hmi
        rw [hg] at h1
        simp only [Option.some.injEq, Prod.mk.injEq] at h1
        obtain ⟨rfl, rfl⟩ := h1
        exact ⟨b, C, Gm.add_same, h2, ho.ext x⟩
    · rw [Mem.put_other hkj] at hk
      by_cases hki : k = i
      · subst hki; rw [Mem.put_same] at hk; cases hk
      · rw [Mem.put_other hki] at hk
        obtain ⟨b1, D, h1, h2, h3⟩ := h.obj k ob' hk
        refine ⟨b1, D, x _ _ h1, h2, ?_⟩
        have : b1 ≠ b := by
          rintro rfl
          exact hki (h.inj k i b1 D C (by rw [hk]; simp) hm h1 hg)
        rw [hoth b1 this]; exact h3.ext x
  · have old : ∀ k, k ≠ j → (m.put i none).put j (some ob) k ≠ none → ∀ b' D, g.add j b C k = some (b', D) → k ≠ i ∧ m k ≠ none ∧ g k = some (b', D) := by
      intro k hk hn b' D hb'
      rw [Mem.put_other hk] at hn
      rw [Gm.add_other hk] at hb'
      have hki : k ≠ i := by rintro rfl; rw [Mem.put_same] at hn; exact hn rfl
      rw [Mem.put_other hki] at hn
      exact ⟨hki, hn, hb'⟩
    by_cases hk : k = j
    · by_cases hk' : k' = j
      · rw [hk, hk']
      · obtain ⟨a1, a2, a3⟩ := old k' hk' h2 _ _ h4
        subst hk
        rw [Gm.add_same] at h3
        simp only [Option.some.injEq, Prod.mk.injEq] at h3
        obtain ⟨rfl, rfl⟩ := h3
        exact absurd (h.inj k' i b _ _ a2 hm a3 hg) a1
    · by_cases hk' : k' = j
      · obtain ⟨a1, a2, a3⟩ := old k hk h1 _ _ h3
        subst hk'
        rw [Gm.add_same] at h4
        simp only [Option.some.injEq, Prod.mk.injEq] at h4
        obtain ⟨rfl, rfl⟩ := h4
        exact absurd (h.inj k i b _ _ a2 hm a3 hg) a1
      · obtain ⟨a1, a2, a3⟩ := old k hk h1 _ _ h3
        obtain ⟨b2, b3, b4⟩ := old k' hk' h2 _ _ h4
        exact h.inj k k' b1 D D' a2 b3 a3 b4
end
end Go.Ve

namespace Go.Ve
set_option linter.unusedVariables false

def Arg.ev (s : Nat → D) : Arg → D
  | .t n => s n
  | .c d => d

/-- A datum that a cell, or a row of cells, can hold. -/
def D.data : D → Bool
  | .junk | .tup _ => false
  | _ => true

def putAt (cs : List D) (off : Nat) (ds : List D) : List D := cs.take off ++ ds ++ cs.drop (off + ds.length)

def fillD : List D → List (Nat × Nat × D) → Option (List D)
  | cs, [] => some cs
  | cs, (off, sz, d) :: r => if d.data = true ∧ d.cells.length = sz ∧ off + sz ≤ cs.length then fillD (putAt cs off d.cells) r else none

def evBin (op : BinOp) (x y : D) : Option D :=
  match x, y with
  | .int k a, .int k' b =>
    match op with
    | .shl => if 0 ≤ b then some (.int k (k.wrap (a * 2 ^ min b.toNat k.bits))) else none
    | .shr => if 0 ≤ b then some (.int k (a.fdiv (2 ^ min b.toNat k.bits))) else none
    | op => if k ≠ k' then none else match op with
      | .add => some (.int k (k.wrap (a + b)))
      | .sub => some (.int k (k.wrap (a - b)))
      | .mul => some (.int k (k.wrap (a * b)))
      | .quo => if b = 0 then none else some (.int k (k.wrap (a.tdiv b)))
      | .rem => if b = 0 then none else some (.int k (a.tmod b))
      | .and => some (.int k (bits .and k a b))
      | .or => some (.int k (bits .or k a b))
      | .xor => some (.int k (bits .xor k a b))
      | .andNot => some (.int k (bits .andNot k a b))
      | .eql => some (.bool (a == b))
      | .neq => some (.bool (a != b))
      | .lss => some (.bool (a < b))
      | .leq => some (.bool (a ≤ b))
      | .gtr => some (.bool (a > b))
      | .geq => some (.bool (a ≥ b))
      | _ => none
  | .str a, .str b =>
    match op with
    | .add => if a.length + b.length ≤ 9223372036854775807 then some (.str (a ++ b)) else none
    | .eql => some (.bool (a == b))
    | .neq => some (.bool (!(a == b)))
    | .lss => some (.bool (Op.bytesLess a b))
    | .leq => some (.bool (Op.bytesLess a b || a == b))
    | .gtr => some (.bool (!(Op.bytesLess a b || a == b)))
    | .geq => some (.bool (!(Op.bytesLess a b)))
    | _ => none
  | _, _ => none

def evUn (op : UnOp) (x : D) : Option D :=
  match op, x with
  | .neg, .int k n => some (.int k (k.wrap (0 - n)))
  | .not, .bool b => some (.bool (!b))
  | .xor, .int k n => some (.int k (bits .xor k (if k.signed then -1 else k.max) n))
  | _, _ => none

/-- Whether two leaves are the same. -/
def leafEq : Nat → D → D → Option Bool
  | 0, .int k a, .int k' b => if k = k' then some (a == b) else none
  | 1, .bool a, .bool b => some (a == b)
  | 2, .str a, .str b => some (a == b)
  | _, _, _ => none

def leavesEq (xs ys : List D) : List (Nat × Nat) → Option Bool
  | [] => some true
  | (k, o) :: r => match xs[o]?, ys[o]? with
    | some x, some y => match leafEq k x y with
      | some true => leavesEq xs ys r
      | some false => some false
      | none => none
    | _, _ => none

/-- Is it a slice, and is it nil? -/
def D.slNil : D → Option Bool
  | .nilsl => some true
  | .rsl _ _ _ | .esl | .esl0 => some false
  | _ => none

/-- Whether one of two is nil, where the other one is the literal nil. -/
def nilEq : Nat → D → D → Option Bool
  | 0, x, .nilsl => x.slNil
  | 0, .nilsl, y => y.slNil
  | 1, .nilptr, .nilptr => some true
  | 1, .nilptr, .ptr _ _ => some false
  | 1, .ptr _ _, .nilptr => some false
  | 2, .nilIface, .nilIface => some true
  | 2, .nilIface, .iface _ _ => some false
  | 2, .iface _ _, .nilIface => some false
  | 3, .nilFunc, .nilFunc => some true
  | 3, .nilFunc, .fn _ _ => some false
  | 3, .fn _ _, .nilFunc => some false
  | 3, .nilFunc, .fnb _ _ => some false
  | 3, .fnb _ _, .nilFunc => some false
  | 4, .nilMap, .nilMap => some true
  | 4, .nilMap, .map _ => some false
  | 4, .map _, .nilMap => some false
  | _, _, _ => none

def bytesD (s : List UInt8) : List D := s.map fun b => .int .u8 b.toNat

def unbytesD : List D → Option (List UInt8)
  | [] => some []
  | .int .u8 n :: r => (unbytesD r).map (UInt8.ofNat n.toNat :: ·)
  | _ => none

def lenD : Bool → D → Option Nat
  | true, .str s => some s.length
  | false, .rsl _ _ n => some n
  | false, .esl => some 0
  | false, .esl0 => some 0
  | false, .nilsl => some 0
  | _, _ => none

/-- A bound of a cut. -/
def bound (s : Nat → D) (x : Option Arg) (dflt : Nat) (most : Nat) : Option Nat :=
  match x with
  | none => some dflt
  | some a => match a.ev s with
    | .int _ n => if 0 ≤ n ∧ n ≤ most then some n.toNat else none
    | _ => none

/-- Both bounds of a cut. -/
def bounds (s : Nat → D) (lo hi : Option Arg) (n : Nat) : Option (Nat × Nat) :=
  match bound s hi n n with
  | some h => match bound s lo 0 h with
    | some l => some (l, h)
    | none => none
  | none => none

/-- The cells of a slice, and how many elements it has. -/
def slCells (m : Mem) (sz : Nat) : D → Option (Nat × List D)
  | .rsl i o n => match m i with
    | some (.cells cs _) => if o + n * sz ≤ cs.length then some (n, (cs.drop o).take (n * sz)) else none
    | _ => none
  | .esl | .esl0 | .nilsl => some (0, [])
  | _ => none

/-- What an append takes. -/
def appSrc (m : Mem) (sz : Nat) : D → Option (Nat × List D)
  | .str b => if sz = 1 then some (b.length, bytesD b) else none
  | d => slCells m sz d

def ints : List D → Option (List (IntKind × Int))
  | [] => some []
  | .int k n :: r => (ints r).map ((k, n) :: ·)
  | _ => none

def mm2 (max : Bool) (x y : Int) : Int := if max then (if y > x then y else x) else (if y < x then y else x)

/-- Bytes, each as it must be. -/
def unbytesS : List D → Option (List UInt8)
  | [] => some []
  | .int .u8 n :: r => if 0 ≤ n ∧ n < 256 then (unbytesS r).map (UInt8.ofNat n.toNat :: ·) else none
  | _ => none

/-- What a map holds at a key; `some none`: nothing. -/
def lookD (key : List UInt8) : List D → List D → Option (Option D)
  | .str k :: ks, v :: vs => if key = k then some (some v) else lookD key ks vs
  | [], [] => some none
  | _, _ => none
/-- A map with another value at a key. -/
def putK (key : List UInt8) (d : D) : List D → List D → Option (List D × List D)
  | .str k :: ks, v :: vs => if key = k then some (.str k :: ks, d :: vs) else (putK key d ks vs).map fun r => (.str k :: r.1, v :: r.2)
  | [], [] => some ([.str key], [d])
  | _, _ => none
/-- A map without a key. -/
def delK (key : List UInt8) : List D → List D → Option (List D × List D)
  | .str k :: ks, v :: vs => if key = k then some (ks, vs) else (delK key ks vs).map fun r => (.str k :: r.1, v :: r.2)
  | [], [] => some ([], [])
  | _, _ => none

def exec (s : Nat → D) (m : Mem) (n : Nat) : DOp → Option (D × Upd × Nat)
  | .mv x => some (x.ev s, [], n)
  | .pick c a b => match c.ev s with
    | .bool t => some (if t then a.ev s else b.ev s, [], n)
    | _ => none
  | .alloc t zs => some (.ptr n 0, [(n, some (.cells zs (.var t)))], n + 1)
  | .box t x => if (x.ev s).data then some (.ptr n 0, [(n, some (.cells (x.ev s).cells (.var t)))], n + 1) else none
  | .build zs parts => (fillD zs (parts.map fun p => (p.1, p.2.1, p.2.2.ev s))).map fun cs => (.agg cs, [], n)
  | .bslice e sz parts =>
    if (parts.all fun p => (p.ev s).data && (p.ev s).cells.length == sz) then some (.rsl n 0 parts.length, [(n, some (.cells (parts.flatMap fun p => (p.ev s).cells) (.row e)))], n + 1) else none
  | .load k x => match x.ev s with
    | .ptr i o => match m i with
      | some (.cells cs _) => match k with
        | none => cs[o]?.map fun d => (d, [], n)
        | some k => if o + k ≤ cs.length then some (.agg ((cs.drop o).take k), [], n) else none
      | _ => none
    | _ => none
  | .store k x v => match x.ev s with
    | .ptr i o => match m i with
      | some (.cells cs e) => if (v.ev s).data = true ∧ (v.ev s).cells.length = k ∧ o + k ≤ cs.length then some (.junk, [(i, some (.cells (putAt cs o (v.ev s).cells) e))], n) else none
      | _ => none
    | _ => none
  | .nilchk x => match x.ev s with
    | .ptr i o => some (.ptr i o, [], n)
    | .fn f cs => some (.fn f cs, [], n)
    | .fnb f cs => some (.fnb f cs, [], n)
    | _ => none
  | .bin op x y => (evBin op (x.ev s) (y.ev s)).map fun d => (d, [], n)
  | .beq ne x y => match x.ev s, y.ev s with
    | .bool a, .bool b => some (.bool ((a == b) != ne), [], n)
    | _, _ => none
  | .seq ne offs x y => match x.ev s, y.ev s with
    | .agg xs, .agg ys => (leavesEq xs ys offs).map fun b => (.bool (b != ne), [], n)
    | _, _ => none
  | .nileq ne k x y => (nilEq k (x.ev s) (y.ev s)).map fun b => (.bool (b != ne), [], n)
  | .ptreq ne x y => match x.ev s, y.ev s with
    | .ptr i o, .ptr j q => if i = j then some (.bool ((o == q) != ne), [], n) else none
    | _, _ => none
  | .un op x => (evUn op (x.ev s)).map fun d => (d, [], n)
  | .conv k x => match x.ev s with
    | .int _ v => some (.int k (k.wrap v), [], n)
    | _ => none
  | .s2s x => match x.ev s with
    | .str b => some (.str b, [], n)
    | _ => none
  | .s2b e x => match x.ev s with
    | .str b => if b.length ≤ 140737488355328 then some (.rsl n 0 b.length, [(n, some (.cells (bytesD b) (.row e)))], n + 1) else none
    | _ => none
  | .b2s x => match slCells m 1 (x.ev s) with
    | some (_, cs) => (unbytesD cs).map fun b => (.str b, [], n)
    | none => none
  | .faddr off x => match x.ev s with
    | .ptr i o => some (.ptr i (o + off), [], n)
    | _ => none
  | .field k off x => match x.ev s, k with
    | .agg cs, none => cs[off]?.map fun d => (d, [], n)
    | .agg cs, some k => if off + k ≤ cs.length then some (.agg ((cs.drop off).take k), [], n) else none
    | _, _ => none
  | .iaddr sz x i => match x.ev s, i.ev s with
    | .rsl j o c, .int _ v => if 0 ≤ v ∧ v < c then some (.ptr j (o + v.toNat * sz), [], n) else none
    | _, _ => none
  | .iaddra len sz x i => match x.ev s, i.ev s with
    | .ptr j o, .int _ v => if 0 ≤ v ∧ v < len then some (.ptr j (o + v.toNat * sz), [], n) else none
    | _, _ => none
  | .idxs x i => match x.ev s, i.ev s with
    | .str b, .int _ v => if 0 ≤ v then (b[v.toNat]?).map fun c => (.int .u8 c.toNat, [], n) else none
    | _, _ => none
  | .idxa len sz k x i => match x.ev s, i.ev s with
    | .agg cs, .int _ v => if 0 ≤ v ∧ v < len then match k with
        | none => cs[v.toNat * sz]?.map fun d => (d, [], n)
        | some k => if v.toNat * sz + k ≤ cs.length then some (.agg ((cs.drop (v.toNat * sz)).take k), [], n) else none
      else none
    | _, _ => none
  | .cuts x lo hi => match x.ev s with
    | .str b => match bounds s lo hi b.length with
      | some (l, h) => some (.str ((b.drop l).take (h - l)), [], n)
      | none => none
    | _ => none
  | .cutl sz x lo hi => match x.ev s with
    | .rsl i o c => match bounds s lo hi c with
      | some (l, h) => if l = 0 then some (.rsl i o h, [], n) else if l < h then (if 0 < sz then some (.rsl i (o + l * sz) (h - l), [], n) else none) else some (.esl, [], n)
      | none => none
    | .nilsl => match bounds s lo hi 0 with
      | some _ => some (.nilsl, [], n)
      | none => none
    | .esl => match bounds s lo hi 0 with
      | some _ => some (.esl, [], n)
      | none => none
    | .esl0 => match bounds s lo hi 0 with
      | some _ => some (.esl0, [], n)
      | none => none
    | _ => none
  | .cutm sz x lo hi mx => match x.ev s with
    | .rsl _ _ c => match bound s mx c c with
      | some h => match bounds s lo hi h with
        | some (l, _) => if l = h then some (.esl0, [], n) else none
        | none => none
      | none => none
    | .nilsl => match bound s mx 0 0 with
      | some _ => match bounds s lo hi 0 with
        | some _ => some (.nilsl, [], n)
        | none => none
      | none => none
    | .esl | .esl0 => match bound s mx 0 0 with
      | some _ => match bounds s lo hi 0 with
        | some _ => some (.esl0, [], n)
        | none => none
      | none => none
    | _ => none
  | .cuta len sz x lo hi => match x.ev s with
    | .ptr i o => match m i with
      | some (.cells _ (.var _)) => match bounds s lo hi len with
        | some (l, h) => if l = len then some (.esl0, [], n) else some (.rsl i (o + l * sz) (h - l), [], n)
        | none => none
      | _ => none
    | _ => none
  | .s2a len x => match x.ev s with
    | .rsl i o c => if len ≤ c then some (.ptr i o, [], n) else none
    | _ => none
  | .mkif t x => if (x.ev s).data = true then some (.iface t (x.ev s), [], n) else none
  | .tass t ok z x => match x.ev s with
    | .iface t' d => if t' = t then some (if ok then .tup [d, .bool true] else d, [], n) else if ok then some (.tup [z, .bool false], [], n) else none
    | .nilIface => if ok then some (.tup [z, .bool false], [], n) else none
    | _ => none
  | .ext i x => match x.ev s with
    | .tup vs => vs[i]?.map fun d => (d, [], n)
    | _ => none
  | .mkfn f caps => some (.fn f (caps.map (·.ev s)), [], n)
  | .mkfnb f first => some (.fnb f (first.map (·.ev s)), [], n)
  | .len k x => (lenD k (x.ev s)).map fun (v : Nat) => (.int .i64 (v : Int), [], n)
  | .cap x => match x.ev s with
    | .nilsl | .esl0 => some (.int .i64 0, [], n)
    | _ => none
  | .app e sz bytes x y => match appSrc m sz (y.ev s) with
    | some (k, ws) =>
      if k = 0 then (match x.ev s with
        | .nilsl | .esl | .esl0 | .rsl _ _ _ => some (x.ev s, [], n)
        | _ => none)
      else match x.ev s with
        | .nilsl | .esl0 => if k * (bytes + 1) ≤ 140737488355328 then some (.rsl n 0 k, [(n, some (.cells ws (.row e)))], n + 1) else none
        | .rsl i 0 c => match m i with
          | some (.cells cs (.row e')) => if e' = e ∧ (c + k) * (bytes + 1) ≤ 140737488355328 ∧ c * sz ≤ cs.length then
              some (.rsl n 0 (c + k), [(i, none), (n, some (.cells (cs.take (c * sz) ++ ws) (.row e)))], n + 1) else none
          | _ => none
        | _ => none
    | none => none
  | .appz e sz bytes z x y => match x.ev s, y.ev s with
    | .nilsl, .int _ k => if k = 0 then some (.nilsl, [], n) else if 0 < k ∧ k * (bytes + 1) ≤ 140737488355328 ∧ z.cells.length = sz then
        some (.rsl n 0 k.toNat, [(n, some (.cells (List.replicate k.toNat z.cells).flatten (.row e)))], n + 1) else none
    | _, _ => none
  | .copy sz x y => match appSrc m sz (y.ev s) with
    | some (k, ws) => match x.ev s with
      | .rsl i o c => match m i with
        | some (.cells cs e) => if o + min k c * sz ≤ cs.length then some (.int .i64 (min k c : Nat), [(i, some (.cells (putAt cs o (ws.take (min k c * sz))) e))], n) else none
        | _ => none
      | .nilsl | .esl | .esl0 => some (.int .i64 0, [], n)
      | _ => none
    | none => none
  | .clear _ _ x => match x.ev s with
    | .nilsl | .esl | .esl0 | .rsl _ _ 0 => some (.tup [], [], n)
    | _ => none
  | .mksl e sz bytes z c d => match c.ev s, d.ev s with
    | .int _ c, .int _ d => if 0 ≤ c ∧ c ≤ d ∧ d * (bytes + 1) ≤ 140737488355328 ∧ z.cells.length = sz then some (.rsl n 0 c.toNat, [(n, some (.cells (List.replicate c.toNat z.cells).flatten (.row e)))], n + 1) else none
    | _, _ => none
  | .mm mx x ys => match x.ev s, ints (ys.map (·.ev s)) with
    | .int k a, some l => some (.int k (l.foldl (fun a b => mm2 mx a b.2) a), [], n)
    | _, _ => none
  | .toU x => match x.ev s with
    | .nilptr => some (.nilptr, [], n)
    | .ptr i 0 => match m i with
      | some (.cells (_ :: _) _) => some (.ptr i 0, [], n)
      | _ => none
    | _ => none
  | .fromU t sz x => match x.ev s with
    | .nilptr => some (.nilptr, [], n)
    | .ptr i 0 => match m i with
      | some (.cells cs (.var t')) => if t' = t ∧ cs.length = sz then some (.ptr i 0, [], n) else none
      | _ => none
    | _ => none
  | .sld x => match x.ev s with
    | .nilsl => some (.nilptr, [], n)
    | .rsl i o c => if 0 < c then some (.ptr i o, [], n) else none
    | _ => none
  | .ustr e x k => match x.ev s, k.ev s with
    | .nilptr, .int .i64 0 => some (.str [], [], n)
    | .ptr i 0, .int .i64 k => match m i with
      | some (.cells cs (.row e')) => if e' = e ∧ 0 < k ∧ k ≤ cs.length ∧ k ≤ 9223372036854775807 then match unbytesS (cs.take k.toNat) with
          | some b => some (.str b, [(i, none)], n)
          | none => none
        else none
      | _ => none
    | _, _ => none
  | .mkmap => some (.map n, [(n, some (.map [] []))], n + 1)
  | .lookup ok z x k => match k.ev s with
    | .str key => match x.ev s with
      | .nilMap => some (if ok then .tup [z, .bool false] else z, [], n)
      | .map i => match m i with
        | some (.map ks vs) => match lookD key ks vs with
          | some (some d) => some (if ok then .tup [d, .bool true] else d, [], n)
          | some none => some (if ok then .tup [z, .bool false] else z, [], n)
          | none => none
        | _ => none
      | _ => none
    | _ => none
  | .mapset x k v => match k.ev s with
    | .str key => match x.ev s with
      | .map i => match m i with
        | some (.map ks vs) => (putK key (v.ev s) ks vs).map fun r => (.junk, [(i, some (.map r.1 r.2))], n)
        | _ => none
      | _ => none
    | _ => none
  | .mapdel x k => match k.ev s with
    | .str key => match x.ev s with
      | .nilMap => some (.tup [], [], n)
      | .map i => match m i with
        | some (.map ks vs) => (delK key ks vs).map fun r => (.tup [], [(i, some (.map r.1 r.2))], n)
        | _ => none
      | _ => none
    | _ => none
  | .lenm x => match x.ev s with
    | .nilMap => some (.int .i64 0, [], n)
    | .map i => match m i with
      | some (.map ks _) => some (.int .i64 (ks.length : Nat), [], n)
      | _ => none
    | _ => none
  | .range x => match x.ev s with
    | .str b => some (.ptr n 0, [(n, some (.it b 0))], n + 1)
    | _ => none
  | .next x => match x.ev s with
    | .ptr i 0 => match m i with
      | some (.it b pos) => if pos < b.length then
          some (.tup [.bool true, .int .i64 (pos : Nat), .int .i32 (Utf8.decode ⟨b.toArray⟩ pos).1], [(i, some (.it b (pos + (Utf8.decode ⟨b.toArray⟩ pos).2)))], n)
        else some (.tup [.bool false], [], n)
      | _ => none
    | _ => none
  | .call _ _ => none
  | .stop => none

/-! ### Read off the model -/

end Go.Ve

namespace Go.Ve
open Go.RowKit
set_option linter.unusedSimpArgs false
set_option linter.unusedVariables false

/-! ### Operands -/

theorem Rep.ofLeaf {g : Gm} {v : Value} {d : D} (h : ofLeaf v = some d) : Rep g d v ∧ v.oneCell' = true ∧ d.data = true := by
  unfold Ve.ofLeaf at h
  split at h <;> first | (simp only [Option.some.injEq] at h; subst h) | cases h
  · exact ⟨.bool _, rfl, rfl⟩
  · exact ⟨.int _ _, rfl, rfl⟩
  · rename_i s; exact ⟨.str s.data.toList, rfl, rfl⟩
  · exact ⟨.nils, rfl, rfl⟩
  · exact ⟨.nilp, rfl, rfl⟩
  · exact ⟨.nili, rfl, rfl⟩
  · exact ⟨.nilf, rfl, rfl⟩
  · exact ⟨.nilm, rfl, rfl⟩

theorem Reps.ofLeaves {g : Gm} : ∀ {vs : List Value} {ds : List D}, ofLeaves vs = some ds → Reps g ds vs
  | [], ds, h => by simp only [Ve.ofLeaves, Option.some.injEq] at h; subst h; exact Reps.nil g
  | v :: r, ds, h => by
    unfold Ve.ofLeaves at h
    split at h
    · rename_i d ds' h1 h2
      simp only [Option.some.injEq] at h
      subst h
      obtain ⟨p, q, _⟩ := Rep.ofLeaf (g := g) h1
      exact Reps.append (Reps.one p q) (Reps.ofLeaves h2)
    · cases h

theorem Rep.aggOf {g : Gm} {ds : List D} {vs : List Value} (h : Reps g ds vs) : Rep g (.agg ds) (.agg vs.toArray) := .agg ds vs h.1 h.2.1 h.2.2
theorem Reps.ofAgg {g : Gm} {ds : List D} {v : Value} (h : Rep g (.agg ds) v) : ∃ vs : List Value, v = .agg vs.toArray ∧ Reps g ds vs := by
  cases h with
  | agg _ vs h1 h2 h3 => exact ⟨vs, rfl, h1, h2, h3⟩

theorem Rep.ofVal {g : Gm} {v : Value} {d : D} (h : ofVal v = some d) : Rep g d v ∧ d.data = true := by
  cases v with
  | agg cs =>
    simp only [Ve.ofVal, Option.map_eq_some_iff] at h
    obtain ⟨ds, h1, rfl⟩ := h
    exact ⟨Rep.aggOf (Reps.ofLeaves h1), rfl⟩
  | _ => simp only [Ve.ofVal] at h; exact ⟨(Rep.ofLeaf h).1, (Rep.ofLeaf (g := g) h).2.2⟩

theorem zeroOf_some {P : Program} {t : TypeId} {z : D} (h : zeroOf P t = some z) (g : Gm) : ∃ i v, P.info? t = some i ∧ i.zero = some v ∧ Rep g z v ∧ z.data = true := by
  unfold zeroOf at h
  split at h
  · rename_i i hi
    split at h
    · rename_i v hv
      obtain ⟨p, q⟩ := Rep.ofVal (g := g) h
      exact ⟨i, v, hi, hv, p, q⟩
    · cases h
  · cases h

/-- The slots of a frame stand for data. -/
def Slots (g : Gm) (s : Nat → D) (a : Act) : Prop := ∀ t, Rep g (s t) (a.tmps.getD t undef)

theorem Slots.ext {g g' : Gm} {s : Nat → D} {a : Act} (h : Slots g s a) (x : g.le g') : Slots g' s a := fun t => (h t).ext x

section
variable {P : Program} {g : Gm} {s : Nat → D} {a : Act}

theorem Slots.arg (h : Slots g s a) {x : Operand} {y : Arg} (hx : trArg x = some y) : Rep g (y.ev s) (a.eval x) := by
  cases x with
  | tmp t => simp only [trArg, Option.some.injEq] at hx; subst hx; exact h t
  | const v =>
    simp only [trArg, Option.map_eq_some_iff] at hx
    obtain ⟨d, h1, rfl⟩ := hx
    exact (Rep.ofVal h1).1
  | func f =>
    simp only [trArg, Option.some.injEq] at hx
    subst hx
    exact .fn f [] [] rfl (by simp)
  | global _ => cases hx

theorem trArgs_get : ∀ {xs : List Operand} {ys : List Arg}, trArgs xs = some ys → xs.length = ys.length ∧ ∀ (j : Nat) x y, xs[j]? = some x → ys[j]? = some y → trArg x = some y
  | [], ys, h => by simp only [trArgs, Option.some.injEq] at h; subst h; simp
  | x :: r, ys, h => by
    unfold trArgs at h
    split at h
    · rename_i y l h1 h2
      simp only [Option.some.injEq] at h; subst h
      obtain ⟨p, q⟩ := trArgs_get h2
      refine ⟨by simp [p], fun j x' y' hx hy => ?_⟩
      cases j with
      | zero => simp only [List.getElem?_cons_zero, Option.some.injEq] at hx hy; subst hx hy; exact h1
      | succ j => exact q j x' y' (by simpa using hx) (by simpa using hy)
    · cases h

theorem Slots.args (h : Slots g s a) {xs : List Operand} {ys : List Arg} (hx : trArgs xs = some ys) :
    (xs.map a.eval).length = (ys.map (·.ev s)).length ∧ ∀ (j : Nat) d v, (ys.map (·.ev s))[j]? = some d → (xs.map a.eval)[j]? = some v → Rep g d v := by
  obtain ⟨p, q⟩ := trArgs_get hx
  refine ⟨by simp [p], fun j d v hd hv => ?_⟩
  rw [List.getElem?_map, Option.map_eq_some_iff] at hd hv
  obtain ⟨y, hy, rfl⟩ := hd
  obtain ⟨x, hx', rfl⟩ := hv
  exact h.arg (q j x y hx' hy)

/-! ### What a datum says of its value -/

theorem Rep.bool_inv {b : Bool} {v : Value} (h : Rep g (.bool b) v) : v = .bool b := by cases h; rfl
theorem Rep.int_inv {k : IntKind} {n : Int} {v : Value} (h : Rep g (.int k n) v) : v = .int k n := by cases h; rfl
theorem Rep.str_inv {b : List UInt8} {v : Value} (h : Rep g (.str b) v) : v = .string ⟨b.toArray⟩ := by cases h; rfl
theorem Rep.ptr_inv {i o : Nat} {v : Value} (h : Rep g (.ptr i o) v) : ∃ b C, v = .pointer (some ⟨b, o, none⟩) ∧ g i = some (b, C) := by
  cases h with
  | ptr _ _ b C hb => exact ⟨b, C, rfl, hb⟩
theorem Rep.rsl_inv {i o n : Nat} {v : Value} (h : Rep g (.rsl i o n) v) : ∃ b c C, v = .slice (some ⟨b, o, none⟩) n c ∧ g i = some (b, C) ∧ n ≤ c ∧ (∀ k, C = some k → o = 0 → c = k) := by
  cases h with
  | rsl _ _ _ b c C h1 h2 h3 => exact ⟨b, c, C, rfl, h1, h2, h3⟩
theorem Rep.esl_inv {v : Value} (h : Rep g .esl v) : ∃ a c, v = .slice (some a) 0 c := by cases h with | esl a c => exact ⟨a, c, rfl⟩
theorem Rep.esl0_inv {v : Value} (h : Rep g .esl0 v) : ∃ a, v = .slice (some a) 0 0 := by cases h with | esl0 a => exact ⟨a, rfl⟩
theorem Rep.nils_inv {v : Value} (h : Rep g .nilsl v) : v = .slice none 0 0 := by cases h; rfl
theorem Rep.tup_inv {ds : List D} {v : Value} (h : Rep g (.tup ds) v) : ∃ vs : List Value, v = .tuple vs.toArray ∧ vs.length = ds.length ∧ ∀ (j : Nat) d v, ds[j]? = some d → vs[j]? = some v → Rep g d v := by
  cases h with
  | tup _ vs h1 h2 => exact ⟨vs, rfl, h1, h2⟩
theorem Rep.iface_inv {t : TypeId} {d : D} {v : Value} (h : Rep g (.iface t d) v) : ∃ u, v = .iface t u ∧ Rep g d u := by
  cases h with
  | iface _ _ u h1 => exact ⟨u, rfl, h1⟩
theorem Rep.fn_inv {f : FuncId} {ds : List D} {v : Value} (h : Rep g (.fn f ds) v) : ∃ vs : List Value, v = .func (.func f) #[] vs.toArray ∧ vs.length = ds.length ∧ ∀ (j : Nat) d v, ds[j]? = some d → vs[j]? = some v → Rep g d v := by
  cases h with
  | fn _ _ vs h1 h2 => exact ⟨vs, rfl, h1, h2⟩
theorem Rep.yld_inv {i : Nat} {v : Value} (h : Rep g (.yld i) v) : ∃ b C, v = .func (.yield b) #[] #[] ∧ g i = some (b, C) := by
  cases h with
  | yld i b C h1 => exact ⟨b, C, rfl, h1⟩
theorem Rep.fnb_inv {f : FuncId} {ds : List D} {v : Value} (h : Rep g (.fnb f ds) v) : ∃ vs : List Value, v = .func (.func f) vs.toArray #[] ∧ vs.length = ds.length ∧ ∀ (j : Nat) d v, ds[j]? = some d → vs[j]? = some v → Rep g d v := by
  cases h with | fnb f ds vs h1 h2 => exact ⟨vs, rfl, h1, h2⟩
theorem Rep.map_inv {i : Nat} {v : Value} (h : Rep g (.map i) v) : ∃ b C, v = .map (some b) ∧ g i = some (b, C) := by
  cases h with | map i b C h1 => exact ⟨b, C, rfl, h1⟩
theorem Rep.nilm_inv {v : Value} (h : Rep g .nilMap v) : v = .map none := by cases h; rfl
theorem Rep.nilp_inv {v : Value} (h : Rep g .nilptr v) : v = .pointer none := by cases h; rfl
theorem Rep.nili_inv {v : Value} (h : Rep g .nilIface v) : v = .nilIface := by cases h; rfl
theorem Rep.nilf_inv {v : Value} (h : Rep g .nilFunc v) : v = .nilFunc := by cases h; rfl

theorem Rep.cells {d : D} {v : Value} (h : Rep g d v) (hd : d.data = true) : Reps g d.cells v.cells.toList := by
  cases h with
  | agg ds vs h1 h2 h3 => exact (⟨h1, h2, h3⟩ : Reps g ds vs)
  | junk => cases hd
  | tup => cases hd
  | bool b => exact Reps.one (.bool b) rfl
  | int k n => exact Reps.one (.int k n) rfl
  | str b => exact Reps.one (.str b) rfl
  | nils => exact Reps.one .nils rfl
  | ptr i o b C h1 => exact Reps.one (.ptr i o b C h1) rfl
  | rsl i o n b c C h1 h2 h3 => exact Reps.one (.rsl i o n b c C h1 h2 h3) rfl
  | esl a c => exact Reps.one (.esl a c) rfl
  | esl0 a => exact Reps.one (.esl0 a) rfl
  | nilp => exact Reps.one .nilp rfl
  | iface t d v h1 => exact Reps.one (.iface t d v h1) rfl
  | nili => exact Reps.one .nili rfl
  | fn f ds vs h1 h2 => exact Reps.one (.fn f ds vs h1 h2) rfl
  | fnb f ds vs h1 h2 => exact Reps.one (.fnb f ds vs h1 h2) rfl
  | nilf => exact Reps.one .nilf rfl
  | yld i b C h1 => exact Reps.one (.yld i b C h1) rfl
  | map i b C h1 => exact Reps.one (.map i b C h1) rfl
  | nilm => exact Reps.one .nilm rfl

theorem Rep.tup2 {d e : D} {v u : Value} (h : Rep g d v) (k : Rep g e u) : Rep g (.tup [d, e]) (.tuple #[v, u]) := by
  refine .tup [d, e] [v, u] rfl (fun j d' v' hd hv => ?_)
  match j with
  | 0 => simp at hd hv; subst hd hv; exact h
  | 1 => simp at hd hv; subst hd hv; exact k
  | j + 2 => simp at hd
end

/-! ### Steps -/

structure Step (P : Program) (B : Nat) (w0 : World) (g : Gm) (n : Nat) (m' : Mem) (d : D) (n' : Nat) (v' : Value) (w' : World) (g' : Gm) : Prop where
  inv : Inv P B w0 m' w' g'
  le : g.le g'
  out : ∀ i, ¬ (n ≤ i ∧ i < n') → g' i = g i
  rep : Rep g' d v'

def Does (P : Program) (B : Nat) (w0 : World) (g : Gm) (n : Nat) (w : World) (m' : Mem) (d : D) (n' : Nat) (x : Sem Next) : Prop :=
  ∃ v' w' g' r, x.run P w = .ok r w' ∧ (r = .value v' ∨ (r = .skip ∧ v' = undef)) ∧ Step P B w0 g n m' d n' v' w' g'

/-- What is known ahead of an operation. -/
structure At (P : Program) (B : Nat) (w0 w : World) (m : Mem) (g : Gm) (n n' : Nat) (s : Nat → D) (a : Act) : Prop where
  inv : Inv P B w0 m w g
  slots : Slots g s a
  fresh : ∀ i, n ≤ i → i < n' → m i = none ∧ g i = none

section
variable {P : Program} {B : Nat} {w0 w : World} {m : Mem} {g : Gm} {n n' : Nat} {s : Nat → D} {a : Act} {d : D} {u : Upd}

theorem Does.pure {x : Sem Next} {v : Value} (hi : Inv P B w0 m w g) (hr : x.run P w = .ok (.value v) w) (hd : Rep g d v) : Does P B w0 g n w m d n x :=
  ⟨v, w, g, _, hr, .inl rfl, hi, Gm.le.refl g, fun _ _ => rfl, hd⟩

theorem Does.pureE {x : Sem Next} {v : Value} {d0 : D} (hi : Inv P B w0 m w g) (hr : x.run P w = .ok (.value v) w) (hd : Rep g d0 v) (e : (some (d0, ([] : Upd), n) : Option (D × Upd × Nat)) = some (d, u, n')) : Does P B w0 g n w (Upd.app m u) d n' x := by
  simp only [Option.some.injEq, Prod.mk.injEq] at e
  obtain ⟨rfl, rfl, rfl⟩ := e
  exact .pure hi hr hd
theorem Does.pureM {x : Sem Next} {α : Type} {q : Option α} {f : α → D} (hi : Inv P B w0 m w g) (e : (q.map fun y => (f y, ([] : Upd), n)) = some (d, u, n')) (h : ∀ y, q = some y → ∃ v, x.run P w = .ok (.value v) w ∧ Rep g (f y) v) : Does P B w0 g n w (Upd.app m u) d n' x := by
  rw [Option.map_eq_some_iff] at e
  obtain ⟨y, h1, e⟩ := e
  simp only [Prod.mk.injEq] at e
  obtain ⟨rfl, rfl, rfl⟩ := e
  obtain ⟨v, h2, h3⟩ := h y h1
  exact .pure hi h2 h3

/-! ### Arithmetic -/

theorem bin_sound {op : BinOp} {t : TypeId} {x y : D} {d : D} {va vb : Value} (hx : Rep g x va) (hy : Rep g y vb) (h : evBin op x y = some d) :
    ∃ v, (binOp op t va vb).run P w = .ok v w ∧ Rep g d v ∧ (∀ cs, va ≠ .agg cs) ∧ va ≠ .nilIface := by
  unfold evBin at h
  split at h
  · rename_i k n k' n'
    rw [hx.int_inv, hy.int_inv]
    split at h
    · split at h
      · rename_i hb
        simp only [Option.some.injEq] at h; subst h
        refine ⟨_, ?_, .int _ _, by simp, by simp⟩
        have : ¬ n' < 0 := by omega
        simp [binOp, Op.shift, this]
      · cases h
    · split at h
      · rename_i hb
        simp only [Option.some.injEq] at h; subst h
        refine ⟨_, ?_, .int _ _, by simp, by simp⟩
        have : ¬ n' < 0 := by omega
        simp [binOp, Op.shift, this]
      · cases h
    · rename_i h1 h2
      by_cases hk : k ≠ k'
      · rw [if_pos hk] at h; cases h
      rw [if_neg hk] at h
      have hk : k = k' := Classical.not_not.1 hk
      subst hk
      cases op <;> simp only [reduceCtorEq, Option.some.injEq] at h <;>
        first
        | (subst h; first
            | exact ⟨_, by simp [binOp, Op.intArith, intBits_and, intBits_or, intBits_xor, intBits_andNot, Op.intCmp], .int _ _, by simp, by simp⟩
            | exact ⟨_, by simp [binOp, Op.intArith, intBits_and, intBits_or, intBits_xor, intBits_andNot, Op.intCmp], .bool _, by simp, by simp⟩)
        | (exact absurd rfl h1)
        | (exact absurd rfl h2)
        | (split at h
           · cases h
           · rename_i h0
             simp only [Option.some.injEq] at h; subst h
             exact ⟨_, by simp [binOp, Op.intDiv, h0], .int _ _, by simp, by simp⟩)
  · rename_i b c
    rw [hx.str_inv, hy.str_inv]
    split at h
    · split at h
      · rename_i hl
        simp only [Option.some.injEq] at h; subst h
        refine ⟨.string ⟨(b ++ c).toArray⟩, ?_, .str _, by simp, by simp⟩
        have := run_string_add_sum (P := P) (w := w) ⟨b.toArray⟩ ⟨c.toArray⟩ (by simpa [ByteArray.size] using hl)
        simp only [binOp, this]
        congr 2
      · cases h
    all_goals first | (cases h; done) | skip
    all_goals
      simp only [Option.some.injEq] at h; subst h
      exact ⟨_, by simp [binOp, Op.stringOp, ByteArray.toList_mk], .bool _, by simp, by simp⟩
  · cases h

theorem un_sound {op : UnOp} {x d : D} {va : Value} (hx : Rep g x va) (h : evUn op x = some d) : ∃ v, (Op.unary op va).run P w = .ok v w ∧ Rep g d v := by
  unfold evUn at h
  split at h
  · simp only [Option.some.injEq] at h; subst h; rw [hx.int_inv]; exact ⟨_, by simp [Op.unary, Op.intArith], .int _ _⟩
  · simp only [Option.some.injEq] at h; subst h; rw [hx.bool_inv]; exact ⟨_, by simp [Op.unary], .bool _⟩
  · simp only [Option.some.injEq] at h; subst h; rw [hx.int_inv]; exact ⟨_, by simp only [Op.unary, intBits_xor]; rfl, .int _ _⟩
  · cases h

/-! ### Equality -/

theorem leafEq_sound {k : Nat} {x y : D} {va vb : Value} {b : Bool} {t : TypeId} {td : TypeDesc} (hx : Rep g x va) (hy : Rep g y vb) (h : leafEq k x y = some b) (hu : P.underlying t = some td)
    (htd : (k = 0 ∧ ∃ k, td = .int k) ∨ (k = 1 ∧ td = .bool) ∨ (k = 2 ∧ td = .string)) (n : Nat) : (Op.equalIn (n + 1) t va vb).run P w = .ok b w := by
  unfold leafEq at h
  split at h
  · rename_i k1 a k2 b'
    split at h
    · rename_i hk; subst hk
      simp only [Option.some.injEq] at h; subst h
      rw [hx.int_inv, hy.int_inv]
      rcases htd with ⟨_, k', rfl⟩ | ⟨h1, _⟩ | ⟨h1, _⟩
      · exact run_equalIn_int w n t _ _ _ _ hu
      · cases h1
      · cases h1
    · cases h
  · simp only [Option.some.injEq] at h; subst h
    rw [hx.bool_inv, hy.bool_inv]
    rcases htd with ⟨h1, _⟩ | ⟨_, rfl⟩ | ⟨h1, _⟩
    · cases h1
    · exact run_equalIn_bool' w n t _ _ hu
    · cases h1
  · simp only [Option.some.injEq] at h; subst h
    rw [hx.str_inv, hy.str_inv]
    rcases htd with ⟨h1, _⟩ | ⟨h1, _⟩ | ⟨_, rfl⟩
    · cases h1
    · cases h1
    · rw [run_equalIn_string w n t _ _ hu]; simp [ByteArray.toList_mk]
  · cases h

theorem leaves_sound {xs ys : List D} {vx vy : List Value} (hx : Reps g xs vx) (hy : Reps g ys vy) (n : Nat) : ∀ {fs : List Field} {l : List (Nat × Nat)} {b : Bool},
    Vd.eqOffs P fs = some l → leavesEq xs ys l = some b → (Op.eqFields (n + 1) vx.toArray vy.toArray fs).run P w = .ok b w
  | [], l, b, h1, h2 => by
    simp only [Vd.eqOffs, Option.some.injEq] at h1; subst h1
    simp only [leavesEq, Option.some.injEq] at h2; subst h2
    rfl
  | f :: r, l, b, h1, h2 => by
    unfold Vd.eqOffs at h1
    split at h1
    · cases h1
    rename_i hname
    have key : ∃ k l' td, P.underlying f.type = some td ∧ Vd.eqOffs P r = some l' ∧ l = (k, f.offset) :: l' ∧ ((k = 0 ∧ ∃ k, td = .int k) ∨ (k = 1 ∧ td = .bool) ∨ (k = 2 ∧ td = .string)) := by
      split at h1 <;> first | (simp only [Option.some.injEq] at h1; subst h1; rename_i e1 e2; first | exact ⟨0, _, _, e1, e2, rfl, .inl ⟨rfl, _, rfl⟩⟩ | exact ⟨1, _, _, e1, e2, rfl, .inr (.inl ⟨rfl, rfl⟩)⟩ | exact ⟨2, _, _, e1, e2, rfl, .inr (.inr ⟨rfl, rfl⟩)⟩) | (exfalso; simp at h1)
    obtain ⟨k, l', td, hu, hl, rfl, htd⟩ := key
    unfold leavesEq at h2
    split at h2
    · rename_i x y ex ey
      have hvx : f.offset < vx.length := by rw [hx.1]; exact (List.getElem?_eq_some_iff.1 ex).1
      have hvy : f.offset < vy.length := by rw [hy.1]; exact (List.getElem?_eq_some_iff.1 ey).1
      have rx := hx.2.2 _ x vx[f.offset] ex (List.getElem?_eq_getElem hvx)
      have ry := hy.2.2 _ y vy[f.offset] ey (List.getElem?_eq_getElem hvy)
      have hd : Vd.aggDesc td = false := by rcases htd with ⟨_, k', rfl⟩ | ⟨_, rfl⟩ | ⟨_, rfl⟩ <;> rfl
      have px := Vd.run_part_leaf (w := w) hu hd (cs := vx.toArray) (o := f.offset) (v := vx[f.offset]) (by simp [hvx])
      have py := Vd.run_part_leaf (w := w) hu hd (cs := vy.toArray) (o := f.offset) (v := vy[f.offset]) (by simp [hvy])
      have ih := fun b' (hb : leavesEq xs ys l' = some b') => leaves_sound hx hy n hl hb
      split at h2
      · rename_i he
        have e := leafEq_sound (P := P) (w := w) rx ry he hu htd n
        simp only [Op.eqFields, ne_eq, hname, not_false_eq_true, if_true, Sem.run_bind, px, Result.andThen_ok, py, e, Bool.not_true, Bool.false_eq_true, if_false]
        exact ih b h2
      · rename_i he
        have e := leafEq_sound (P := P) (w := w) rx ry he hu htd n
        simp only [Option.some.injEq] at h2; subst h2
        simp only [Op.eqFields, ne_eq, hname, not_false_eq_true, if_true, Sem.run_bind, px, Result.andThen_ok, py, e, Bool.not_false, if_true, Sem.run_pure]
      · cases h2
    · cases h2

theorem struct_sound {xs ys : List D} {va vb : Value} {b : Bool} {t : TypeId} {fs : Array Field} {l : List (Nat × Nat)} (hx : Rep g (.agg xs) va) (hy : Rep g (.agg ys) vb)
    (hu : P.underlying t = some (.struct fs)) (hp : P.stoodInHeld t = false) (hg : P.eqGuardType P.depth t = false) (hl : Vd.eqOffs P fs.toList = some l) (h : leavesEq xs ys l = some b) (x y : Operand) (op : BinOp) :
    (Op.equal t va vb).run P w = .ok b w ∧ (eqGuard op t x y va vb).run P w = .ok () w := by
  obtain ⟨vx, rfl, rx⟩ := Reps.ofAgg hx
  obtain ⟨vy, rfl, ry⟩ := Reps.ofAgg hy
  constructor
  · have hf : P.fieldsOf t = fs := by simp [Program.fieldsOf, hu]
    unfold Op.equal Op.maxDepth
    rw [run_equalIn_struct w 9999 t _ _ (by rw [hf]; exact hu) hp, hf]
    exact leaves_sound rx ry 9998 hl h
  · cases op <;> first | rfl | (simp [eqGuard, hg])

theorem slNil_sound {x : D} {va : Value} {b : Bool} (hx : Rep g x va) (h : x.slNil = some b) : ∃ ad n c, va = .slice ad n c ∧ b = ad.isNone := by
  unfold D.slNil at h
  split at h <;> first | (simp only [Option.some.injEq] at h; subst h) | cases h
  · exact ⟨none, 0, 0, hx.nils_inv, rfl⟩
  · obtain ⟨b, c, C, rfl, _⟩ := hx.rsl_inv; exact ⟨_, _, _, rfl, rfl⟩
  · obtain ⟨a, c, rfl⟩ := hx.esl_inv; exact ⟨_, _, _, rfl, rfl⟩
  · obtain ⟨a, rfl⟩ := hx.esl0_inv; exact ⟨_, _, _, rfl, rfl⟩

def descE : Nat → TypeDesc → Prop
  | 4, td => ∃ k e, td = .map k e
  | k, td => Vd.descOf k td

theorem nilEq_sound {k : Nat} {x y : D} {va vb : Value} {b : Bool} {t : TypeId} {td : TypeDesc} (hx : Rep g x va) (hy : Rep g y vb) (h : nilEq k x y = some b) (hu : P.underlying t = some td)
    (htd : descE k td) (n : Nat) : (Op.equalIn (n + 1) t va vb).run P w = .ok b w ∧ Vd.eqByType va = true ∧ (∀ cs, va ≠ .agg cs) ∧ (va = .nilIface → k = 2) := by
  unfold nilEq at h
  split at h <;> first | (exfalso; simp at h; done) | (simp only [Option.some.injEq] at h; subst h) | skip
  · obtain ⟨e, rfl⟩ := htd
    obtain ⟨ad, n, c, rfl, rfl⟩ := slNil_sound hx h
    rw [hy.nils_inv]
    refine ⟨?_, rfl, by simp, by simp⟩
    cases ad <;> simp [Op.equalIn, run_underlying hu]
  · obtain ⟨e, rfl⟩ := htd
    obtain ⟨ad, n, c, rfl, rfl⟩ := slNil_sound hy h
    rw [hx.nils_inv]
    refine ⟨?_, rfl, by simp, by simp⟩
    simp [Op.equalIn, run_underlying hu]
  · obtain ⟨e, rfl⟩ := htd
    rw [hx.nilp_inv, hy.nilp_inv]
    exact ⟨by simp [Op.equalIn, run_underlying hu], rfl, by simp, by simp⟩
  · obtain ⟨e, rfl⟩ := htd
    obtain ⟨b, C, rfl, _⟩ := hy.ptr_inv
    rw [hx.nilp_inv]
    exact ⟨by simp [Op.equalIn, run_underlying hu], rfl, by simp, by simp⟩
  · obtain ⟨e, rfl⟩ := htd
    obtain ⟨b, C, rfl, _⟩ := hx.ptr_inv
    rw [hy.nilp_inv]
    exact ⟨by simp [Op.equalIn, run_underlying hu], rfl, by simp, by simp⟩
  · obtain ⟨e, rfl⟩ := htd
    rw [hx.nili_inv, hy.nili_inv]
    exact ⟨by simp [Op.equalIn, run_underlying hu], rfl, by simp, fun _ => rfl⟩
  · obtain ⟨e, rfl⟩ := htd
    obtain ⟨u, rfl, _⟩ := hy.iface_inv
    rw [hx.nili_inv]
    exact ⟨by simp [Op.equalIn, run_underlying hu], rfl, by simp, fun _ => rfl⟩
  · obtain ⟨e, rfl⟩ := htd
    obtain ⟨u, rfl, _⟩ := hx.iface_inv
    rw [hy.nili_inv]
    exact ⟨by simp [Op.equalIn, run_underlying hu], rfl, by simp, by simp⟩
  · obtain ⟨p, r, v, rfl⟩ := htd
    rw [hx.nilf_inv, hy.nilf_inv]
    exact ⟨by simp [Op.equalIn, run_underlying hu], rfl, by simp, by simp⟩
  · obtain ⟨p, r, v, rfl⟩ := htd
    obtain ⟨vs, rfl, _⟩ := hy.fn_inv
    rw [hx.nilf_inv]
    exact ⟨by simp [Op.equalIn, run_underlying hu], rfl, by simp, by simp⟩
  · obtain ⟨p, r, v, rfl⟩ := htd
    obtain ⟨vs, rfl, _⟩ := hx.fn_inv
    rw [hy.nilf_inv]
    exact ⟨by simp [Op.equalIn, run_underlying hu], rfl, by simp, by simp⟩
  · obtain ⟨p, r, v, rfl⟩ := htd
    obtain ⟨vs, rfl, _⟩ := hy.fnb_inv
    rw [hx.nilf_inv]
    exact ⟨by simp [Op.equalIn, run_underlying hu], rfl, by simp, by simp⟩
  · obtain ⟨p, r, v, rfl⟩ := htd
    obtain ⟨vs, rfl, _⟩ := hx.fnb_inv
    rw [hy.nilf_inv]
    exact ⟨by simp [Op.equalIn, run_underlying hu], rfl, by simp, by simp⟩
  · obtain ⟨p, r, rfl⟩ := htd
    rw [hx.nilm_inv, hy.nilm_inv]
    exact ⟨by simp [Op.equalIn, run_underlying hu], rfl, by simp, by simp⟩
  · obtain ⟨p, r, rfl⟩ := htd
    obtain ⟨b, C, rfl, _⟩ := hy.map_inv
    rw [hx.nilm_inv]
    exact ⟨by simp [Op.equalIn, run_underlying hu], rfl, by simp, by simp⟩
  · obtain ⟨p, r, rfl⟩ := htd
    obtain ⟨b, C, rfl, _⟩ := hx.map_inv
    rw [hy.nilm_inv]
    exact ⟨by simp [Op.equalIn, run_underlying hu], rfl, by simp, by simp⟩

theorem does_eq {ne : Bool} {t : TypeId} {x y : Operand} {yt : TypeId} {o : Oper} {p q : Arg} {dop : DOp} (h : At P B w0 w m g n n' s a) (hx : trArg x = some p) (hy : trArg y = some q)
    (htr : trEq P ne t x y p q = some dop) (ho : o.op = .binOp (if ne then .neq else .eql) t x y yt) (hex : exec s m n dop = some (d, u, n')) : Does P B w0 g n w (Upd.app m u) d n' (execOp a.eval o) := by
  have hrx := h.slots.arg hx
  have hry := h.slots.arg hy
  have hrun : ∀ v, (eqGuard (if ne then .neq else .eql) t x y (a.eval x) (a.eval y)).run P w = .ok () w → (binOp (if ne then .neq else .eql) t (a.eval x) (a.eval y)).run P w = .ok v w → (execOp a.eval o).run P w = .ok (.value v) w := by
    intro v e1 e2
    simp only [execOp, ho, Sem.run_bind, e1, e2, Result.andThen_ok, Sem.run_pure]
  have binCase : dop = .bin (if ne then .neq else .eql) p q → Does P B w0 g n w (Upd.app m u) d n' (execOp a.eval o) := by
    rintro rfl
    simp only [exec] at hex
    refine .pureM h.inv hex (fun d' h1 => ?_)
    obtain ⟨v, e1, e2, e3, e4⟩ := bin_sound (P := P) (t := t) hrx hry h1
    exact ⟨v, hrun v (Vd.guard_plain _ t x y _ _ e3 e4 w) e1, e2⟩
  have nilCase : ∀ k td, P.underlying t = some td → descE k td → (k = 2 → (Vd.isConst x || Vd.isConst y) = true) → dop = .nileq ne k p q → Does P B w0 g n w (Upd.app m u) d n' (execOp a.eval o) := by
    rintro k td hu hd hc rfl
    simp only [exec] at hex
    refine .pureM h.inv hex (fun b h1 => ?_)
    obtain ⟨e1, e2, e3, e4⟩ := nilEq_sound (P := P) (w := w) hrx hry h1 hu hd 9999
    exact ⟨_, hrun _ (Vd.guard_const _ t x y _ _ e3 (fun e => hc (e4 e)) w) (Vd.run_eql e2 ne e1), .bool _⟩
  unfold trEq at htr
  split at htr
  · rename_i hu
    simp only [Option.some.injEq] at htr; subst htr
    simp only [exec] at hex
    split at hex
    · rename_i b c ex ey
      rw [ex] at hrx; rw [ey] at hry
      refine .pureE h.inv (hrun _ (Vd.guard_plain _ t x y _ _ (by rw [hrx.bool_inv]; simp) (by rw [hrx.bool_inv]; simp) w) (Vd.run_eql (by rw [hrx.bool_inv]; rfl) ne (b := b == c) ?_)) (.bool _) hex
      rw [hrx.bool_inv, hry.bool_inv]
      exact run_equalIn_bool' w 9999 t _ _ hu
    · cases hex
  · simp only [Option.some.injEq] at htr; exact binCase htr.symm
  · simp only [Option.some.injEq] at htr; exact binCase htr.symm
  · rename_i fs hu
    split at htr
    · rename_i hc
      rw [Option.map_eq_some_iff] at htr
      obtain ⟨l, hl, rfl⟩ := htr
      simp only [exec] at hex
      split at hex
      · rename_i xs ys ex ey
        rw [ex] at hrx; rw [ey] at hry
        refine .pureM h.inv hex (fun b h1 => ?_)
        obtain ⟨e1, e2⟩ := struct_sound (P := P) (w := w) hrx hry hu hc.1 hc.2 hl h1 x y (if ne then .neq else .eql)
        refine ⟨_, hrun _ e2 (Vd.run_eql ?_ ne e1), .bool _⟩
        obtain ⟨vs, e3, _⟩ := Reps.ofAgg hrx
        rw [e3]; rfl
      · cases hex
    · cases htr
  · rename_i e hu
    simp only [Option.some.injEq] at htr
    exact nilCase 0 _ hu ⟨e, rfl⟩ (by simp) htr.symm
  · rename_i e hu
    split at htr
    · simp only [Option.some.injEq] at htr
      exact nilCase 1 _ hu ⟨e, rfl⟩ (by simp) htr.symm
    · split at htr
      · rename_i k hk
        simp only [Option.some.injEq] at htr; subst htr
        simp only [exec] at hex
        split at hex
        · rename_i i o1 j o2 ex ey
          rw [ex] at hrx; rw [ey] at hry
          obtain ⟨b, C, e1, hb⟩ := hrx.ptr_inv
          obtain ⟨b', C', e2, hb'⟩ := hry.ptr_inv
          split at hex
          · rename_i hij
            subst hij
            rw [hb] at hb'
            simp only [Option.some.injEq, Prod.mk.injEq] at hb'
            obtain ⟨rfl, rfl⟩ := hb'
            have heq0 : ∀ N, (Op.equalIn (N + 1) t (a.eval x) (a.eval y)).run P w = .ok (o1 == o2) w := by
              intro N
              rw [e1, e2]
              simp [Op.equalIn, run_underlying hu, Vd.run_sizeOf' hk, sameAddr]
              rw [Bool.eq_iff_iff]; simp
            have heq : (Op.equal t (a.eval x) (a.eval y)).run P w = .ok (o1 == o2) w := heq0 9999
            refine .pureE h.inv (hrun _ (Vd.guard_plain _ t x y _ _ (by rw [e1]; simp) (by rw [e1]; simp) w) (Vd.run_eql (by rw [e1]; rfl) ne heq)) (.bool _) hex
          · cases hex
        · cases hex
      · cases htr
  · rename_i p' r' v' hu
    simp only [Option.some.injEq] at htr
    exact nilCase 3 _ hu ⟨p', r', v', rfl⟩ (by simp) htr.symm
  · rename_i k' e' hu
    simp only [Option.some.injEq] at htr
    exact nilCase 4 _ hu ⟨k', e', rfl⟩ (by simp) htr.symm
  · rename_i ms hu
    split at htr
    · rename_i hc
      simp only [Option.some.injEq] at htr
      exact nilCase 2 _ hu ⟨ms, rfl⟩ (fun _ => hc) htr.symm
    · cases htr
  · cases htr

theorem does_bin {op : BinOp} {t : TypeId} {x y : Operand} {yt : TypeId} {o : Oper} {p q : Arg} (h : At P B w0 w m g n n' s a) (hx : trArg x = some p) (hy : trArg y = some q)
    (ho : o.op = .binOp op t x y yt) (hex : exec s m n (.bin op p q) = some (d, u, n')) : Does P B w0 g n w (Upd.app m u) d n' (execOp a.eval o) := by
  simp only [exec] at hex
  refine .pureM h.inv hex (fun d' h1 => ?_)
  obtain ⟨v, e1, e2, e3, e4⟩ := bin_sound (P := P) (w := w) (t := t) (h.slots.arg hx) (h.slots.arg hy) h1
  refine ⟨v, ?_, e2⟩
  simp only [execOp, ho, Sem.run_bind, Vd.guard_plain op t x y _ _ e3 e4 w, e1, Result.andThen_ok, Sem.run_pure]
end
end Go.Ve

namespace Go.Ve
open Go.RowKit
set_option linter.unusedSimpArgs false
set_option linter.unusedVariables false

section
variable {P : Program} {B : Nat} {w0 w : World} {m : Mem} {g : Gm} {n n' : Nat} {s : Nat → D} {a : Act} {d : D} {u : Upd}

/-- The block of an object that holds cells. -/
theorem Inv.cells (h : Inv P B w0 m w g) {i b : Nat} {C : Option Nat} {cs : List D} {e : Kd} (hm : m i = some (.cells cs e)) (hb : g i = some (b, C)) :
    B ≤ b ∧ ∃ vs T fz, w.heap[b]? = some (.cells vs T fz) ∧ Soft fz vs.size ∧ cs.length ≤ vs.size ∧ Reps g cs (vs.toList.take cs.length) ∧ (∀ t, e = .row t → T = t ∧ Grows P t C vs.size) ∧ (∀ t, e = .var t → T = t ∧ C = none ∧ vs.size = cs.length) := by
  obtain ⟨b', C', h1, h2, h3⟩ := h.obj i _ hm
  rw [hb] at h1
  simp only [Option.some.injEq, Prod.mk.injEq] at h1
  obtain ⟨rfl, rfl⟩ := h1
  exact ⟨h2, h3⟩

theorem cell_row {b : Nat} {vs : Array Value} {T : TypeId} {fz : Nat × Nat} (h : w.heap[b]? = some (.cells vs T fz)) (o : Nat) : w.cell? ⟨b, o, none⟩ = vs[o]? := by
  simp [World.cell?, h]

/-- Cells of an object, as the world has them. -/
theorem cells_at {b : Nat} {vs : Array Value} {T : TypeId} {fz : Nat × Nat} {cs : List D} (hh : w.heap[b]? = some (.cells vs T fz)) (hl : cs.length ≤ vs.size) (hr : Reps g cs (vs.toList.take cs.length)) {o k : Nat} (hk : o + k ≤ cs.length) :
    Reps g ((cs.drop o).take k) ((vs.toList.drop o).take k) ∧ ((vs.toList.drop o).take k).length = k ∧ ∀ j v, ((vs.toList.drop o).take k)[j]? = some v → w.cell? ⟨b, o + j, none⟩ = some v := by
  have e : (vs.toList.drop o).take k = ((vs.toList.take cs.length).drop o).take k := by
    rw [List.drop_take, List.take_take]
    congr 1; omega
  refine ⟨by rw [e]; exact (hr.drop o).take k, by simp; omega, fun j v hv => ?_⟩
  have hj : j < k := by
    rcases Nat.lt_or_ge j k with h1 | h1
    · exact h1
    · rw [List.getElem?_eq_none (by simp; omega)] at hv; cases hv
  rw [List.getElem?_take_of_lt hj, List.getElem?_drop] at hv
  rw [cell_row hh]
  simpa using hv

theorem rep_at {b : Nat} {vs : Array Value} {cs : List D} (hl : cs.length ≤ vs.size) (hr : Reps g cs (vs.toList.take cs.length)) {o : Nat} {d : D} (hd : cs[o]? = some d) : ∃ v, vs[o]? = some v ∧ v.oneCell' = true ∧ Rep g d v := by
  have ho : o < cs.length := (List.getElem?_eq_some_iff.1 hd).1
  have hv : vs[o]? = some (vs[o]'(by omega)) := Array.getElem?_eq_getElem (by omega)
  have hv' : (vs.toList.take cs.length)[o]? = some (vs[o]'(by omega)) := by
    rw [List.getElem?_take_of_lt ho]; simp [hv]
  exact ⟨_, hv, hr.2.1 _ (List.mem_of_getElem? hv'), hr.2.2 _ _ _ hd hv'⟩

theorem does_load {t : TypeId} {o : Oper} {x : Operand} {y : Arg} {k : Option Nat} (h : At P B w0 w m g n n' s a) (hk : Vd.kOf P t = some k) (hx : trArg x = some y) (ho : o.op = .load t x)
    (he : exec s m n (.load k y) = some (d, u, n')) : Does P B w0 g n w (Upd.app m u) d n' (execOp a.eval o) := by
  have hr := h.slots.arg hx
  have hrun : ∀ ad v, a.eval x = .pointer (some ad) → (loadVar t ad).run P w = .ok v w → (execOp a.eval o).run P w = .ok (.value v) w := by
    intro ad v e1 e2
    simp only [execOp, ho, Instr.loadAt, e1, Instr.sureAddr, Sem.run_bind, Result.andThen_ok, Sem.run_pure, e2]
  simp only [exec] at he
  split at he
  · rename_i i o' e
    rw [e] at hr
    obtain ⟨b, C, e1, hb⟩ := hr.ptr_inv
    split at he
    · rename_i cs ee hm
      obtain ⟨_, vs, T, fz, hh, hsf, hl, hrp, _⟩ := h.inv.cells hm hb
      split at he
      · refine .pureM h.inv he (fun d' hd' => ?_)
        obtain ⟨v, q1, q2, q3⟩ := rep_at (b := b) hl hrp hd'
        exact ⟨v, hrun _ _ e1 (Vd.run_loadVar_leaf hk (by rw [cell_row hh]; exact q1)), q3⟩
      · rename_i k
        split at he
        · rename_i hkl
          obtain ⟨r1, r2, r3⟩ := cells_at hh hl hrp hkl
          refine .pureE h.inv (hrun _ _ e1 (Vd.run_loadVar_agg hk r2 (fun j v hv => by rw [Vd.mk_add]; exact r3 j v hv))) (Rep.aggOf r1) he
        · cases he
    · cases he
  · cases he

theorem does_faddr {t : TypeId} {f : Nat} {o : Oper} {x : Operand} {y : Arg} {fields : Array Field} {fd : Field} {k : Nat} (h : At P B w0 w m g n n' s a) (hu : P.underlying t = some (.struct fields)) (hf : fields[f]? = some fd)
    (hn : Vd.szOf P fd.type = some (k + 1)) (hx : trArg x = some y) (ho : o.op = .fieldAddr t x f) (he : exec s m n (.faddr fd.offset y) = some (d, u, n')) : Does P B w0 g n w (Upd.app m u) d n' (execOp a.eval o) := by
  have hr := h.slots.arg hx
  have hrun : ∀ ad, a.eval x = .pointer (some ad) → (execOp a.eval o).run P w = .ok (.value (.pointer (some (ad.add fd.offset)))) w := by
    intro ad e
    simp [execOp, ho, Instr.fieldAt, run_underlying hu, hf, e, Instr.sureAddr, fieldPlace, Vd.run_sizeOf' hn]
  simp only [exec] at he
  split at he
  · rename_i i o' e
    rw [e] at hr
    obtain ⟨b, C, e1, hb⟩ := hr.ptr_inv
    refine .pureE h.inv (hrun _ e1) ?_ he
    rw [Vd.mk_add]
    exact .ptr i _ b C hb
  · cases he

/-- A part of an aggregate. -/
theorem part_leaf {t : TypeId} (hk : Vd.kOf P t = some none) {cs : List D} {vs : List Value} (hr : Reps g cs vs) {o : Nat} {d : D} (hd : cs[o]? = some d) :
    ∃ v, (part t vs.toArray o).run P w = .ok v w ∧ Rep g d v := by
  obtain ⟨td, hu', hagg⟩ := Vd.kOf_none hk
  have hv : o < vs.length := by rw [hr.1]; exact (List.getElem?_eq_some_iff.1 hd).1
  exact ⟨vs[o], Vd.run_part_leaf (w := w) hu' hagg (cs := vs.toArray) (o := o) (v := vs[o]) (by simp [hv]), hr.2.2 _ _ _ hd (List.getElem?_eq_getElem hv)⟩
theorem part_agg {t k : Nat} (hk : Vd.kOf P t = some (some k)) {cs : List D} {vs : List Value} (hr : Reps g cs vs) {o : Nat} (hl : o + k ≤ cs.length) :
    ∃ v, (part t vs.toArray o).run P w = .ok v w ∧ Rep g (.agg ((cs.drop o).take k)) v := by
  obtain ⟨td, hu', hagg, hs⟩ := Vd.kOf_some hk
  refine ⟨.agg ((vs.drop o).take k).toArray, ?_, Rep.aggOf ((hr.drop o).take k)⟩
  simp only [part, Sem.run_bind, Vd.run_isAgg' hu', hagg, Result.andThen_ok, Vd.run_sizeOf' hs, Sem.run_pure, if_true]
  congr 2
  simp [List.extract_toArray, List.extract_eq_take_drop]

theorem does_field {t : TypeId} {f : Nat} {o : Oper} {x : Operand} {y : Arg} {fields : Array Field} {fd : Field} {k : Option Nat} (h : At P B w0 w m g n n' s a) (hu : P.underlying t = some (.struct fields)) (hf : fields[f]? = some fd)
    (hk : Vd.kOf P fd.type = some k) (hx : trArg x = some y) (ho : o.op = .field t x f) (he : exec s m n (.field k fd.offset y) = some (d, u, n')) : Does P B w0 g n w (Upd.app m u) d n' (execOp a.eval o) := by
  have hr := h.slots.arg hx
  simp only [exec] at he
  split at he
  · rename_i cs e
    rw [e] at hr
    obtain ⟨vs, e1, r1⟩ := Reps.ofAgg hr
    refine .pureM h.inv he (fun d' hd => ?_)
    obtain ⟨v, p1, p2⟩ := part_leaf (P := P) (w := w) hk r1 hd
    exact ⟨v, by simp [execOp, ho, Instr.field, run_underlying hu, hf, e1, asAgg, p1], p2⟩
  · rename_i cs k e
    rw [e] at hr
    obtain ⟨vs, e1, r1⟩ := Reps.ofAgg hr
    split at he
    · rename_i hl
      obtain ⟨v, p1, p2⟩ := part_agg (P := P) (w := w) hk r1 hl
      exact .pureE h.inv (by simp [execOp, ho, Instr.field, run_underlying hu, hf, e1, asAgg, p1]) p2 he
    · cases he
  · cases he

theorem does_iaddr {t e : TypeId} {o : Oper} {x i : Operand} {y z : Arg} {sz : Nat} (h : At P B w0 w m g n n' s a) (hu : P.underlying t = some (.slice e)) (hs : Vd.szOf P e = some sz)
    (hx : trArg x = some y) (hi : trArg i = some z) (ho : o.op = .indexAddr t x i) (he : exec s m n (.iaddr sz y z) = some (d, u, n')) : Does P B w0 g n w (Upd.app m u) d n' (execOp a.eval o) := by
  have hr := h.slots.arg hx
  have hri := h.slots.arg hi
  simp only [exec] at he
  split at he
  · rename_i j o' c k v ex ei
    rw [ex] at hr; rw [ei] at hri
    obtain ⟨b, cc, C, e1, hb, _⟩ := hr.rsl_inv
    split at he
    · rename_i hc
      refine .pureE h.inv (v := .pointer (some ⟨b, o' + v.toNat * sz, none⟩)) ?_ (.ptr j _ b C hb) he
      simp [execOp, ho, Instr.indexAt, asIntOf, hri.int_inv, e1, run_underlying hu, hc, Vd.run_sizeOf' hs, Vd.mk_add]
    · cases he
  · cases he

theorem does_iaddra {t e : TypeId} {len : Nat} {o : Oper} {x i : Operand} {y z : Arg} {sz : Nat} (h : At P B w0 w m g n n' s a) (hu : P.underlying t = some (.array len e)) (hs : Vd.szOf P e = some sz)
    (hx : trArg x = some y) (hi : trArg i = some z) (ho : o.op = .indexAddr t x i) (he : exec s m n (.iaddra len sz y z) = some (d, u, n')) : Does P B w0 g n w (Upd.app m u) d n' (execOp a.eval o) := by
  have hr := h.slots.arg hx
  have hri := h.slots.arg hi
  simp only [exec] at he
  split at he
  · rename_i j o' k v ex ei
    rw [ex] at hr; rw [ei] at hri
    obtain ⟨b, C, e1, hb⟩ := hr.ptr_inv
    split at he
    · rename_i hc
      refine .pureE h.inv (v := .pointer (some ⟨b, o' + v.toNat * sz, none⟩)) ?_ (.ptr j _ b C hb) he
      simp [execOp, ho, Instr.indexAt, asIntOf, hri.int_inv, e1, run_underlying hu, Instr.sureAddr, hc, Vd.run_sizeOf' hs, Vd.mk_add]
    · cases he
  · cases he

theorem does_idxs {t : TypeId} {o : Oper} {x i : Operand} {y z : Arg} (h : At P B w0 w m g n n' s a) (hu : P.underlying t = some .string)
    (hx : trArg x = some y) (hi : trArg i = some z) (ho : o.op = .index t x i) (he : exec s m n (.idxs y z) = some (d, u, n')) : Does P B w0 g n w (Upd.app m u) d n' (execOp a.eval o) := by
  have hr := h.slots.arg hx
  have hri := h.slots.arg hi
  simp only [exec] at he
  split at he
  · rename_i b k v ex ei
    rw [ex] at hr; rw [ei] at hri
    split at he
    · rename_i h0
      refine .pureM h.inv he (fun c hc => ⟨.int .u8 c.toNat, ?_, .int _ _⟩)
      simp [execOp, ho, Instr.index, asIntOf, hri.int_inv, hr.str_inv, run_underlying hu, h0, Vd.bytes_get, hc]
    · cases he
  · cases he

theorem does_idxa {t e : TypeId} {len sz : Nat} {k : Option Nat} {o : Oper} {x i : Operand} {y z : Arg} (h : At P B w0 w m g n n' s a) (hu : P.underlying t = some (.array len e)) (hs : Vd.szOf P e = some sz) (hk : Vd.kOf P e = some k)
    (hx : trArg x = some y) (hi : trArg i = some z) (ho : o.op = .index t x i) (he : exec s m n (.idxa len sz k y z) = some (d, u, n')) : Does P B w0 g n w (Upd.app m u) d n' (execOp a.eval o) := by
  have hr := h.slots.arg hx
  have hri := h.slots.arg hi
  simp only [exec] at he
  split at he
  · rename_i cs kk v ex ei
    rw [ex] at hr; rw [ei] at hri
    obtain ⟨vs, e1, r1⟩ := Reps.ofAgg hr
    split at he
    · rename_i hc
      have hrun : ∀ u, (part e vs.toArray (v.toNat * sz)).run P w = .ok u w → (execOp a.eval o).run P w = .ok (.value u) w := by
        intro u hu'
        simp [execOp, ho, Instr.index, asIntOf, hri.int_inv, e1, run_underlying hu, hc, Vd.run_sizeOf' hs, hu']
      split at he
      · refine .pureM h.inv he (fun d' hd => ?_)
        obtain ⟨u, p1, p2⟩ := part_leaf (P := P) (w := w) hk r1 hd
        exact ⟨u, hrun u p1, p2⟩
      · split at he
        · rename_i hl
          obtain ⟨u, p1, p2⟩ := part_agg (P := P) (w := w) hk r1 hl
          exact .pureE h.inv (hrun u p1) p2 he
        · cases he
    · cases he
  · cases he

/-! ### Cuts -/

theorem bound_sound (h : Slots g s a) {x : Option Operand} {y : Option Arg} (hx : trOpt x = some y) {dflt most v : Nat} (hb : bound s y dflt most = some v) :
    (x = none ∧ v = dflt ∧ y = none) ∨ (∃ o k, x = some o ∧ a.eval o = .int k (v : Int) ∧ v ≤ most) := by
  cases x with
  | none =>
    simp only [trOpt, Option.some.injEq] at hx; subst hx
    simp only [bound, Option.some.injEq] at hb
    exact .inl ⟨rfl, hb.symm, rfl⟩
  | some o =>
    simp only [trOpt, Option.map_eq_some_iff] at hx
    obtain ⟨z, hz, rfl⟩ := hx
    have hr := h.arg hz
    simp only [bound] at hb
    split at hb
    · rename_i k q he
      rw [he] at hr
      split at hb
      · rename_i hc
        simp only [Option.some.injEq] at hb
        refine .inr ⟨o, k, rfl, ?_, by omega⟩
        rw [hr.int_inv]
        congr 1
        omega
      · cases hb
    · cases hb

theorem run_sliceBounds (h : Slots g s a) {lo hi : Option Operand} {l' h' : Option Arg} (hlo : trOpt lo = some l') (hhi : trOpt hi = some h') (isS : Bool) {len cap l hh : Nat} (hc : len ≤ cap)
    (eb : bounds s l' h' len = some (l, hh)) :
    (Instr.sliceBounds isS len cap (lo.map a.eval) (hi.map a.eval) none).run P w = .ok (l, hh, cap) w ∧ l ≤ hh ∧ hh ≤ len := by
  unfold bounds at eb
  split at eb
  · rename_i h1 eh
    split at eb
    · rename_i l1 el
      simp only [Option.some.injEq, Prod.mk.injEq] at eb
      obtain ⟨rfl, rfl⟩ := eb
      have hle : h1 ≤ len := by
        rcases bound_sound h hhi eh with ⟨_, rfl, _⟩ | ⟨_, _, _, _, h1⟩ <;> omega
      have hle2 : l1 ≤ h1 := by
        rcases bound_sound h hlo el with ⟨_, rfl, _⟩ | ⟨_, _, _, _, h1⟩ <;> omega
      refine ⟨?_, hle2, hle⟩
      unfold Instr.sliceBounds
      rcases bound_sound h hhi eh with ⟨rfl, rfl, _⟩ | ⟨o, k, rfl, eo, h1⟩ <;> rcases bound_sound h hlo el with ⟨rfl, rfl, _⟩ | ⟨o', k', rfl, eo', h1'⟩
      · simp
      · simp [Instr.sliceBound, asIntOf, eo']
        intro; omega
      · simp [Instr.sliceBound, asIntOf, eo]
        intro; omega
      · simp [Instr.sliceBound, asIntOf, eo, eo']
        rw [if_pos (by omega)]
        simp
        intro; omega
    · cases eb
  · cases eb

theorem does_cuts {t : TypeId} {o : Oper} {x : Operand} {lo hi : Option Operand} {y : Arg} {l' h' : Option Arg} (h : At P B w0 w m g n n' s a) (hu : P.underlying t = some .string)
    (hx : trArg x = some y) (hlo : trOpt lo = some l') (hhi : trOpt hi = some h') (ho : o.op = .slice t x lo hi none) (he : exec s m n (.cuts y l' h') = some (d, u, n')) :
    Does P B w0 g n w (Upd.app m u) d n' (execOp a.eval o) := by
  have hr := h.slots.arg hx
  simp only [exec] at he
  split at he
  · rename_i b e
    rw [e] at hr
    split at he
    · rename_i l hh eb
      obtain ⟨hb, _, _⟩ := run_sliceBounds (P := P) (w := w) h.slots hlo hhi false (len := b.length) (cap := b.length) (Nat.le_refl _) eb
      refine .pureE h.inv (v := .string ⟨((b.drop l).take (hh - l)).toArray⟩) ?_ (.str _) he
      have hsz : (ByteArray.mk b.toArray).size = b.length := by simp [ByteArray.size]
      simp only [execOp, ho, Instr.sliceAt, Sem.run_bind, run_underlying hu, Result.andThen_ok, Instr.slice, hr.str_inv, Option.map_none, Option.isSome_none, Bool.false_eq_true, if_false, hsz, hb, Sem.run_pure, Vd.bytes_extract]
    · cases he
  · cases he

theorem does_cutl {t e : TypeId} {o : Oper} {x : Operand} {lo hi : Option Operand} {y : Arg} {l' h' : Option Arg} {sz : Nat} (h : At P B w0 w m g n n' s a) (hu : P.underlying t = some (.slice e)) (hs : Vd.szOf P e = some sz)
    (hx : trArg x = some y) (hlo : trOpt lo = some l') (hhi : trOpt hi = some h') (ho : o.op = .slice t x lo hi none) (he : exec s m n (.cutl sz y l' h') = some (d, u, n')) :
    Does P B w0 g n w (Upd.app m u) d n' (execOp a.eval o) := by
  have hr := h.slots.arg hx
  have hrun : ∀ ad n c l hh m', a.eval x = .slice ad n c → (Instr.sliceBounds true n c (lo.map a.eval) (hi.map a.eval) none).run P w = .ok (l, hh, m') w →
      (execOp a.eval o).run P w = .ok (.value (.slice (if m' = l then ad else ad.map (·.add (l * sz))) (hh - l) (m' - l))) w := by
    intro ad n c l hh m' e1 e2
    simp only [execOp, ho, Instr.sliceAt, Sem.run_bind, run_underlying hu, Result.andThen_ok, Instr.slice, e1, Option.map_none, e2, Vd.run_sizeOf' hs, Sem.run_pure]
  simp only [exec] at he
  split at he
  · rename_i i o' c e'
    rw [e'] at hr
    obtain ⟨b, cc, C, e1, hb, hle, hC⟩ := hr.rsl_inv
    split at he
    · rename_i l hh eb
      obtain ⟨hb', q1, q2⟩ := run_sliceBounds (P := P) (w := w) h.slots hlo hhi true (len := c) (cap := cc) hle eb
      have hr1 := hrun _ _ _ _ _ _ e1 hb'
      split at he
      · rename_i h0
        subst h0
        refine .pureE h.inv hr1 ?_ he
        have : (if cc = 0 then some (⟨b, o', none⟩ : Addr) else Option.map (fun (x : Addr) => x.add (0 * sz)) (some (⟨b, o', none⟩ : Addr))) = some ⟨b, o', none⟩ := by
          split <;> simp [Addr.add]
        rw [this]
        exact .rsl i o' hh b _ C hb (by omega) (fun k hk h0 => by rw [← hC k hk h0]; omega)
      · rename_i h0
        split at he
        · rename_i hlt
          split at he
          · rename_i hsz
            refine .pureE h.inv hr1 ?_ he
            rw [if_neg (by omega), Option.map_some, Vd.mk_add]
            have : 0 < l * sz := Nat.mul_pos (by omega) hsz
            exact .rsl i _ _ b _ C hb (by omega) (fun k hk h1 => by omega)
          · cases he
        · refine .pureE h.inv hr1 ?_ he
          have : hh - l = 0 := by omega
          rw [this]
          split
          · exact .esl _ _
          · exact .esl _ _
    · cases he
  · rename_i e'
    rw [e'] at hr
    split at he
    · rename_i x1 eb
      obtain ⟨l, hh⟩ := x1
      obtain ⟨hb', q1, q2⟩ := run_sliceBounds (P := P) (w := w) h.slots hlo hhi true (len := 0) (cap := 0) (Nat.le_refl _) eb
      obtain rfl : hh = 0 := by omega
      obtain rfl : l = 0 := by omega
      exact .pureE h.inv (hrun _ _ _ _ _ _ hr.nils_inv hb') (by simpa using Rep.nils) he
    · cases he
  · rename_i e'
    rw [e'] at hr
    obtain ⟨ad, cc, e1⟩ := hr.esl_inv
    split at he
    · rename_i x1 eb
      obtain ⟨l, hh⟩ := x1
      obtain ⟨hb', q1, q2⟩ := run_sliceBounds (P := P) (w := w) h.slots hlo hhi true (len := 0) (cap := cc) (Nat.zero_le _) eb
      obtain rfl : hh = 0 := by omega
      obtain rfl : l = 0 := by omega
      refine .pureE h.inv (hrun _ _ _ _ _ _ e1 hb') ?_ he
      split
      · exact .esl _ _
      · exact .esl _ _
    · cases he
  · rename_i e'
    rw [e'] at hr
    obtain ⟨ad, e1⟩ := hr.esl0_inv
    split at he
    · rename_i x1 eb
      obtain ⟨l, hh⟩ := x1
      obtain ⟨hb', q1, q2⟩ := run_sliceBounds (P := P) (w := w) h.slots hlo hhi true (len := 0) (cap := 0) (Nat.zero_le _) eb
      obtain rfl : hh = 0 := by omega
      obtain rfl : l = 0 := by omega
      refine .pureE h.inv (hrun _ _ _ _ _ _ e1 hb') ?_ he
      exact .esl0 _
    · cases he
  · cases he

theorem does_cuta {t e : TypeId} {len : Nat} {o : Oper} {x : Operand} {lo hi : Option Operand} {y : Arg} {l' h' : Option Arg} {sz : Nat} (h : At P B w0 w m g n n' s a) (hu : P.underlying t = some (.array len e)) (hs : Vd.szOf P e = some sz)
    (hx : trArg x = some y) (hlo : trOpt lo = some l') (hhi : trOpt hi = some h') (ho : o.op = .slice t x lo hi none) (he : exec s m n (.cuta len sz y l' h') = some (d, u, n')) :
    Does P B w0 g n w (Upd.app m u) d n' (execOp a.eval o) := by
  have hr := h.slots.arg hx
  simp only [exec] at he
  split at he
  · rename_i i o' e'
    rw [e'] at hr
    obtain ⟨b, C, e1, hb⟩ := hr.ptr_inv
    split at he
    · rename_i cs tv hm
      obtain ⟨_, vs, T, fz, hh0, _, _, _, _, hC⟩ := h.inv.cells hm hb
      have hC := (hC _ rfl).2.1
      subst hC
      split at he
      · rename_i l hh eb
        obtain ⟨hb', q1, q2⟩ := run_sliceBounds (P := P) (w := w) h.slots hlo hhi false (len := len) (cap := len) (Nat.le_refl _) eb
        have hrun : (execOp a.eval o).run P w = .ok (.value (.slice (some (if len = l then ⟨b, o', none⟩ else (⟨b, o', none⟩ : Addr).add (l * sz))) (hh - l) (len - l))) w := by
          simp only [execOp, ho, Instr.sliceAt, Sem.run_bind, run_underlying hu, Result.andThen_ok, Instr.sureAddr, e1, Option.map_none, hb', Vd.run_sizeOf' hs, Sem.run_pure]
        split at he
        · rename_i hl
          subst hl
          refine .pureE h.inv hrun ?_ he
          have h1 : hh - l = 0 := by omega
          rw [h1, Nat.sub_self]
          exact .esl0 _
        · rename_i hl
          refine .pureE h.inv hrun ?_ he
          rw [if_neg (fun e => hl e.symm), Vd.mk_add]
          exact .rsl i _ _ b _ none hb (by omega) (fun k hk => by cases hk)
      · cases he
    · cases he
  · cases he

theorem does_s2a {t e : TypeId} {len : Nat} {o : Oper} {x : Operand} {y : Arg} (h : At P B w0 w m g n n' s a) (hu : P.underlying t = some (.array len e))
    (hx : trArg x = some y) (ho : o.op = .sliceToArrayPointer t x) (he : exec s m n (.s2a len y) = some (d, u, n')) : Does P B w0 g n w (Upd.app m u) d n' (execOp a.eval o) := by
  have hr := h.slots.arg hx
  simp only [exec] at he
  split at he
  · rename_i i o' c e'
    rw [e'] at hr
    obtain ⟨b, cc, C, e1, hb, hle, hC⟩ := hr.rsl_inv
    split at he
    · rename_i hl
      refine .pureE h.inv (v := .pointer (some ⟨b, o', none⟩)) ?_ (.ptr i o' b C hb) he
      have : ¬ c < len := by omega
      simp [execOp, ho, Instr.arrayAt, run_underlying hu, e1, this]
    · cases he
  · cases he
end
end Go.Ve

namespace Go.Ve
open Go.RowKit
set_option linter.unusedSimpArgs false
set_option linter.unusedVariables false

section
variable {P : Program} {B : Nat} {w0 w : World} {m : Mem} {g : Gm} {n n' : Nat} {s : Nat → D} {a : Act} {d : D} {u : Upd}

theorem Soft.zero (size : Nat) : Soft (0, 0) size := .inl (Nat.le_refl _)

/-! ### New objects -/

theorem step_new (hi : Inv P B w0 m w g) (hf : m n = none ∧ g n = none) (C : Option Nat) {ob : Ob} {o : Obj} (ho : ObOk P g C ob (some o)) {d : D} {v : Value} (hr : Rep (g.add n w.heap.size C) d v) :
    Step P B w0 g n (m.put n (some ob)) d (n + 1) v (w.alloc o) (g.add n w.heap.size C) :=
  ⟨hi.new hf.1 hf.2 C ho, Gm.add_le hf.2, fun i h => Gm.add_other (by omega), hr⟩

theorem ObOk.plain {cs : List D} {vs : Array Value} {T : TypeId} (h : Reps g cs vs.toList) : ObOk P g none (.cells cs (.var T)) (some (.cells vs T)) := by
  refine ⟨vs, T, (0, 0), rfl, Soft.zero _, ?_, ?_, fun t ht => (nomatch ht), fun t ht => ⟨by cases ht; rfl, rfl, by have := h.1; simp at this; omega⟩⟩
  · have := h.1; simp at this; omega
  · rw [List.take_of_length_le (by have := h.1; omega)]; exact h

theorem does_alloc {t : TypeId} {o : Oper} {z : D} (h : At P B w0 w m g n n' s a) (hz : zeroOf P t = some z) (ho : o.op = .alloc t) (he : exec s m n (.alloc t z.cells) = some (d, u, n')) :
    Does P B w0 g n w (Upd.app m u) d n' (execOp a.eval o) := by
  simp only [exec, Option.some.injEq, Prod.mk.injEq] at he
  obtain ⟨rfl, rfl, rfl⟩ := he
  obtain ⟨i, v, hi, hv, hr, hd⟩ := zeroOf_some hz g
  have hc := hr.cells hd
  refine ⟨.pointer (some ⟨w.heap.size, 0, none⟩), w.alloc (.cells v.cells t), g.add n w.heap.size none, .value (.pointer (some ⟨w.heap.size, 0, none⟩)), ?_, .inl rfl, ?_⟩
  · simp only [execOp, ho, Instr.alloc, zeroValue, Sem.run_bind, typeInfo, run_program, Result.andThen_ok, hi, hv, Sem.run_pure, newVar, Vd.run_newRow]
  · exact step_new h.inv (h.fresh n (Nat.le_refl _) (by omega)) none (ObOk.plain hc) (.ptr n 0 _ none Gm.add_same)

theorem does_box {t : TypeId} {o : Oper} {x : Operand} {y : Arg} (h : At P B w0 w m g n n' s a) (hx : trArg x = some y) (ho : o.op = .box t x) (he : exec s m n (.box t y) = some (d, u, n')) :
    Does P B w0 g n w (Upd.app m u) d n' (execOp a.eval o) := by
  simp only [exec] at he
  split at he
  · rename_i hd
    simp only [Option.some.injEq, Prod.mk.injEq] at he
    obtain ⟨rfl, rfl, rfl⟩ := he
    have hr := h.slots.arg hx
    have hc := hr.cells hd
    refine ⟨.pointer (some ⟨w.heap.size, 0, none⟩), w.alloc (.cells (a.eval x).cells t), g.add n w.heap.size none, .value (.pointer (some ⟨w.heap.size, 0, none⟩)), ?_, .inl rfl, ?_⟩
    · simp only [execOp, ho, Instr.box, Sem.run_bind, Result.andThen_ok, Sem.run_pure, newVar, Vd.run_newRow]
    · exact step_new h.inv (h.fresh n (Nat.le_refl _) (by omega)) none (ObOk.plain hc) (.ptr n 0 _ none Gm.add_same)
  · cases he

/-! ### Literals -/

theorem reps_put {zs ds : List D} {zv dv : List Value} (hz : Reps g zs zv) (hd : Reps g ds dv) (off : Nat) : Reps g (putAt zs off ds) (zv.take off ++ dv ++ zv.drop (off + dv.length)) := by
  unfold putAt
  rw [hd.1]
  exact Reps.append (Reps.append (hz.take off) hd) (hz.drop _)

theorem fill_sound : ∀ {l : List (Nat × Nat × D)} {ps : List (Nat × Value)} {zs cs : List D} {zv : Array Value} {place : Nat → Option (Nat × Nat)},
    Reps g zs zv.toList → l.length = ps.length → (∀ (j : Nat) x p, l[j]? = some x → ps[j]? = some p → place p.1 = some (x.1, x.2.1) ∧ Rep g x.2.2 p.2) →
    fillD zs l = some cs → ∃ cv : Array Value, Instr.fill place zv ps = some cv ∧ Reps g cs cv.toList
  | [], [], zs, cs, zv, place, hz, _, _, h => by
    simp only [fillD, Option.some.injEq] at h; subst h
    exact ⟨zv, rfl, hz⟩
  | (off, sz, d) :: l, [], zs, cs, zv, place, hz, hl, _, h => by cases hl
  | [], p :: ps, zs, cs, zv, place, hz, hl, _, h => by cases hl
  | (off, sz, d) :: l, (i, v) :: ps, zs, cs, zv, place, hz, hl, hp, h => by
    unfold fillD at h
    split at h
    · rename_i hc
      obtain ⟨c1, c2, c3⟩ := hc
      obtain ⟨e1, e2⟩ := hp 0 _ _ rfl rfl
      simp only at e1 e2
      have hcells := e2.cells c1
      have hvs : v.cells.size = sz := by have := hcells.1; simp at this; omega
      have hzl := hz.1
      simp only [Array.length_toList] at hzl
      have hfit : off + v.cells.size ≤ zv.size := by omega
      have hset := Vd.foldl_array_zipIdx v.cells off zv hfit
      have hreps : Reps g (putAt zs off d.cells) ((v.cells.zipIdx.foldl (fun cs (x : Value × Nat) => cs.setIfInBounds (off + x.2) x.1) zv)).toList := by
        rw [hset]; exact reps_put hz hcells off
      obtain ⟨cv, f1, f2⟩ := fill_sound (ps := ps) (place := place) hreps (by simpa using hl) (fun j x p hx hp' => hp (j + 1) x p (by simpa using hx) (by simpa using hp')) h
      refine ⟨cv, ?_, f2⟩
      unfold Instr.fill
      rw [e1]
      simp only
      rw [if_neg (by simp [hvs]; omega)]
      exact f1
    · cases h

theorem partsStruct_some {fields : Array Field} : ∀ {ps : List (Nat × Operand)} {l : List (Nat × Nat × Arg)}, partsStruct P fields ps = some l →
    l.length = ps.length ∧ ∀ (j : Nat) x p, l[j]? = some x → ps[j]? = some p → ∃ f : Field, fields[p.1]? = some f ∧ Vd.szOf P f.type = some x.2.1 ∧ x.1 = f.offset ∧ trArg p.2 = some x.2.2
  | [], l, h => by simp only [partsStruct, Option.some.injEq] at h; subst h; simp
  | (i, x) :: r, l, h => by
    unfold partsStruct at h
    split at h
    · rename_i f y l' e1 e2 e3
      split at h
      · rename_i n e4
        simp only [Option.some.injEq] at h; subst h
        obtain ⟨q1, q2⟩ := partsStruct_some e3
        refine ⟨by simp [q1], fun j x' p hx hp => ?_⟩
        cases j with
        | zero =>
          simp only [List.getElem?_cons_zero, Option.some.injEq] at hx hp; subst hx hp
          exact ⟨f, e1, e4, rfl, e2⟩
        | succ j => exact q2 j x' p (by simpa using hx) (by simpa using hp)
      · cases h
    · cases h
theorem partsArray_some {sz : Nat} : ∀ {ps : List (Nat × Operand)} {l : List (Nat × Nat × Arg)}, partsArray sz ps = some l →
    l.length = ps.length ∧ ∀ (j : Nat) x p, l[j]? = some x → ps[j]? = some p → x.1 = p.1 * sz ∧ x.2.1 = sz ∧ trArg p.2 = some x.2.2
  | [], l, h => by simp only [partsArray, Option.some.injEq] at h; subst h; simp
  | (i, x) :: r, l, h => by
    unfold partsArray at h
    split at h
    · rename_i y l' e2 e3
      simp only [Option.some.injEq] at h; subst h
      obtain ⟨q1, q2⟩ := partsArray_some e3
      refine ⟨by simp [q1], fun j x' p hx hp => ?_⟩
      cases j with
      | zero =>
        simp only [List.getElem?_cons_zero, Option.some.injEq] at hx hp; subst hx hp
        exact ⟨rfl, rfl, e2⟩
      | succ j => exact q2 j x' p (by simpa using hx) (by simpa using hp)
    · cases h

theorem does_build {t : TypeId} {parts : Array (Nat × Operand)} {o : Oper} {fields : Array Field} {zs : List D} {l : List (Nat × Nat × Arg)} (h : At P B w0 w m g n n' s a) (hu : P.underlying t = some (.struct fields))
    (hok : Vd.fieldsOk P fields.toList = true) (hz : zeroOf P t = some (.agg zs)) (hl : partsStruct P fields parts.toList = some l) (ho : o.op = .build t parts) (he : exec s m n (.build zs l) = some (d, u, n')) :
    Does P B w0 g n w (Upd.app m u) d n' (execOp a.eval o) := by
  simp only [exec] at he
  refine .pureM h.inv he (fun cs hcs => ?_)
  obtain ⟨inf, zv, hinf, hzv, hr, _⟩ := zeroOf_some hz g
  obtain ⟨vs, rfl, rz⟩ := Reps.ofAgg hr
  have hfo : ∀ f ∈ fields.toList, ∃ n, Vd.szOf P f.type = some n := by
    intro f hf
    have := List.all_eq_true.1 hok f hf
    rw [Option.isSome_iff_exists] at this
    exact this
  obtain ⟨pl, p1, p2, p3⟩ := Vd.run_mapM_places (P := P) w hfo
  obtain ⟨q1, q2⟩ := partsStruct_some hl
  have hfill := fill_sound (g := g) (l := l.map fun p => (p.1, p.2.1, p.2.2.ev s)) (ps := (parts.map fun (i, x) => (i, a.eval x)).toList) (zs := zs) (cs := cs) (zv := vs.toArray) (place := fun i => pl.toArray[i]?)
    (by simpa using rz) (by simp [q1]) (fun j x p hx hp => ?_) hcs
  · obtain ⟨cv, f1, f2⟩ := hfill
    refine ⟨.agg cv, ?_, ?_⟩
    · have hm : (fields.mapM (m := Sem) fun (f : Field) => do pure (f.offset, ← sizeOf f.type)).run P w = .ok pl.toArray w := by
        rw [Array.mapM_eq_mapM_toList, Sem.run_map, p1]
        rfl
      simp only [execOp, ho, Instr.build, zeroValue, typeInfo, Sem.run_bind, run_program, Result.andThen_ok, hinf, hzv, Sem.run_pure, run_underlying hu, hm, Value.cells, f1]
    · have := Rep.aggOf f2
      rwa [Array.toArray_toList] at this
  · rw [List.getElem?_map, Option.map_eq_some_iff] at hx
    obtain ⟨x', hx', rfl⟩ := hx
    rw [Array.toList_map, List.getElem?_map, Option.map_eq_some_iff] at hp
    obtain ⟨p', hp', rfl⟩ := hp
    obtain ⟨f, r1, r2, r3, r4⟩ := q2 j x' p' hx' hp'
    refine ⟨?_, h.slots.arg r4⟩
    have := p3 p'.1 f x'.2.1 (by simpa using r1) r2
    simp only [List.getElem?_toArray]
    rw [this, r3]

theorem does_buildA {t e : TypeId} {len sz : Nat} {parts : Array (Nat × Operand)} {o : Oper} {zs : List D} {l : List (Nat × Nat × Arg)} (h : At P B w0 w m g n n' s a) (hu : P.underlying t = some (.array len e))
    (hs : Vd.szOf P e = some sz) (hz : zeroOf P t = some (.agg zs)) (hl : partsArray sz parts.toList = some l) (ho : o.op = .build t parts) (he : exec s m n (.build zs l) = some (d, u, n')) :
    Does P B w0 g n w (Upd.app m u) d n' (execOp a.eval o) := by
  simp only [exec] at he
  refine .pureM h.inv he (fun cs hcs => ?_)
  obtain ⟨inf, zv, hinf, hzv, hr, _⟩ := zeroOf_some hz g
  obtain ⟨vs, rfl, rz⟩ := Reps.ofAgg hr
  obtain ⟨q1, q2⟩ := partsArray_some hl
  have hfill := fill_sound (g := g) (l := l.map fun p => (p.1, p.2.1, p.2.2.ev s)) (ps := (parts.map fun (i, x) => (i, a.eval x)).toList) (zs := zs) (cs := cs) (zv := vs.toArray) (place := fun i => some (i * sz, sz))
    (by simpa using rz) (by simp [q1]) (fun j x p hx hp => ?_) hcs
  · obtain ⟨cv, f1, f2⟩ := hfill
    refine ⟨.agg cv, ?_, ?_⟩
    · simp only [execOp, ho, Instr.build, zeroValue, typeInfo, Sem.run_bind, run_program, Result.andThen_ok, hinf, hzv, Sem.run_pure, run_underlying hu, Vd.run_sizeOf' hs, Value.cells, f1]
    · have := Rep.aggOf f2
      rwa [Array.toArray_toList] at this
  · rw [List.getElem?_map, Option.map_eq_some_iff] at hx
    obtain ⟨x', hx', rfl⟩ := hx
    rw [Array.toList_map, List.getElem?_map, Option.map_eq_some_iff] at hp
    obtain ⟨p', hp', rfl⟩ := hp
    obtain ⟨r1, r2, r4⟩ := q2 j x' p' hx' hp'
    exact ⟨by simp [r1, r2], h.slots.arg r4⟩

/-- Rows of cells, one behind the other. -/
theorem Reps.flat {sz : Nat} : ∀ {xs : List D} {vs : List Value}, (∀ d ∈ xs, d.data = true ∧ d.cells.length = sz) → vs.length = xs.length → (∀ (j : Nat) d v, xs[j]? = some d → vs[j]? = some v → Rep g d v) →
    Reps g (xs.flatMap D.cells) (vs.flatMap fun v => v.cells.toList) ∧ (xs.flatMap D.cells).length = xs.length * sz
  | [], vs, _, hl, _ => by
    have : vs = [] := List.eq_nil_of_length_eq_zero (by simpa using hl)
    subst this
    exact ⟨Reps.nil g, by simp⟩
  | x :: r, [], _, hl, _ => by cases hl
  | x :: r, v :: vs, h, hl, hr => by
    have h0 := hr 0 x v rfl rfl
    obtain ⟨i1, i2⟩ := Reps.flat (fun d hd => h d (List.mem_cons_of_mem _ hd)) (by simpa using hl) (fun j d u hd hu => hr (j + 1) d u (by simpa using hd) (by simpa using hu))
    simp only [List.flatMap_cons]
    refine ⟨Reps.append (h0.cells (h x (List.mem_cons_self ..)).1) i1, ?_⟩
    rw [List.length_append, i2, (h x (List.mem_cons_self ..)).2, List.length_cons, Nat.succ_mul, Nat.add_comm]

/-- A new row that may grow. -/
theorem ObOk.row {e sz bytes c : Nat} {cs : List D} {cur : Array Value} {fz : Nat × Nat} (he : Vd.elemOf P e = some (sz, bytes)) (hc : c ≤ maxLen) (hcur : cur.size = c * sz) (hf : Soft fz cur.size) (hl : cs.length ≤ cur.size) (hr : Reps g cs (cur.toList.take cs.length)) :
    ObOk P g (some c) (.cells cs (.row e)) (some (.cells cur e fz)) := by
  obtain ⟨hpos, ti, z, hi, hsize, hz, hzs, hby⟩ := Vd.elemOf_some he
  refine ⟨cur, e, fz, rfl, hf, hl, hr, fun t ht => ?_, fun _ h => (nomatch h)⟩
  cases ht
  exact ⟨rfl, ti, z, c, hi, by omega, hz, by omega, rfl, hc, by rw [hcur, hsize]⟩

theorem does_bslice {t e : TypeId} {parts : Array (Nat × Operand)} {len : Nat} {o : Oper} {sz bytes : Nat} {l : List Arg} (h : At P B w0 w m g n n' s a) (hu : P.underlying t = some (.slice e)) (he : Vd.elemOf P e = some (sz, bytes))
    (hl : trArgs (parts.toList.map (·.2)) = some l) (hrange : parts.toList.map (·.1) = List.range len) (hbig : len * sz ≤ 2 ^ 24) (ho : o.op = .buildSlice t len parts)
    (hx : exec s m n (.bslice e sz l) = some (d, u, n')) : Does P B w0 g n w (Upd.app m u) d n' (execOp a.eval o) := by
  obtain ⟨hpos, ti, z, hi, hsize, hz, hzs, hby⟩ := Vd.elemOf_some he
  simp only [exec] at hx
  split at hx
  · rename_i hall
    simp only [Option.some.injEq, Prod.mk.injEq] at hx
    obtain ⟨rfl, rfl, rfl⟩ := hx
    have hall' : ∀ p ∈ l, (p.ev s).data = true ∧ (p.ev s).cells.length = sz := by
      intro p hp
      have := List.all_eq_true.1 hall p hp
      simp only [Bool.and_eq_true, beq_iff_eq] at this
      exact this
    obtain ⟨hlen, hget⟩ := trArgs_get hl
    have hlen' : parts.toList.length = len := by have := congrArg List.length hrange; simpa using this
    simp only [List.length_map] at hlen
    have hll : l.length = len := by omega
    have hrep : ∀ (j : Nat) d v, (l.map fun p => p.ev s)[j]? = some d → (parts.toList.map fun p => a.eval p.2)[j]? = some v → Rep g d v := by
      intro j d v hd hv
      rw [List.getElem?_map, Option.map_eq_some_iff] at hd hv
      obtain ⟨y, hy, rfl⟩ := hd
      obtain ⟨p, hp, rfl⟩ := hv
      exact h.slots.arg (hget j p.2 y (by rw [List.getElem?_map, hp]; rfl) hy)
    obtain ⟨hreps, hfl⟩ := Reps.flat (g := g) (sz := sz) (xs := l.map fun p => p.ev s) (vs := parts.toList.map fun p => a.eval p.2) (fun d hd => by
      rw [List.mem_map] at hd
      obtain ⟨y, hy, rfl⟩ := hd
      exact hall' y hy) (by simp; omega) hrep
    have hcsz : ∀ p ∈ (parts.map fun (i, x) => (i, a.eval x)).toList, p.2.cells.size = sz := by
      intro p hp
      rw [Array.toList_map, List.mem_map] at hp
      obtain ⟨q, hq, rfl⟩ := hp
      obtain ⟨j, hj, hjq⟩ := List.getElem_of_mem hq
      have hy : l[j]? = some (l[j]'(by omega)) := List.getElem?_eq_getElem _
      have hr := h.slots.arg (hget j q.2 _ (by rw [List.getElem?_map, List.getElem?_eq_getElem hj, hjq]; rfl) hy)
      have hd := hall' _ (List.getElem_mem (by omega : j < l.length))
      have := (hr.cells hd.1).1
      simp at this ⊢
      omega
    let row : Array Value := (Array.range (len * sz)).map (z.cells[· % z.cells.size]!)
    have hrow : row.size = (0 + (parts.map fun (i, x) => (i, a.eval x)).toList.length) * sz := by
      have : parts.size = len := by simpa using hlen'
      simp [row, this]
    obtain ⟨cv, f1, f2⟩ := Vd.fill_row hpos (ps := (parts.map fun (i, x) => (i, a.eval x)).toList) (k := 0) (cs := row) (by
      rw [← List.range_eq_range']
      simp only [Array.toList_map, List.map_map, List.length_map, hlen']
      rw [← hrange]
      apply List.map_congr_left
      intro p _; rfl) hcsz hrow
    have hcv : cv.toList = (parts.toList.map fun p => a.eval p.2).flatMap fun v => v.cells.toList := by
      rw [f2]
      simp [List.flatMap_map]
    have hfm : (l.flatMap fun p => (p.ev s).cells) = (l.map fun p => p.ev s).flatMap D.cells := by rw [List.flatMap_map]
    have hcvs : cv.size = len * sz := by
      have := hreps.1
      rw [← hcv, hfl] at this
      simp only [Array.length_toList, List.length_map] at this
      rw [this, hll]
    have hml : len ≤ maxLen := by
      have : len * 1 ≤ len * sz := Nat.mul_le_mul_left _ hpos
      unfold maxLen; omega
    refine ⟨.slice (some ⟨w.heap.size, 0, none⟩) len len, w.alloc (.cells cv e), g.add n w.heap.size (some len), .value (.slice (some ⟨w.heap.size, 0, none⟩) len len), ?_, .inl rfl, ?_⟩
    · have hnb : ¬ (len * sz > 2 ^ 24) := by omega
      have hs' : Vd.szOf P e = some sz := by simp [Vd.szOf, hi, hsize]
      by_cases h0 : len * sz = 0
      · have hr0 : (Array.range 0).map ((#[] : Array Value)[· % (#[] : Array Value).size]!) = row := by simp [row, h0]
        simp only [execOp, ho, Instr.buildSlice, Sem.run_bind, run_underlying hu, Result.andThen_ok, Vd.run_sizeOf' hs', show ¬ ((0 : Nat) > 2 ^ 24) from by omega, if_false, h0, if_true, Sem.run_pure, hr0, f1, Vd.run_newRow]
      · simp only [execOp, ho, Instr.buildSlice, Sem.run_bind, run_underlying hu, Result.andThen_ok, Vd.run_sizeOf' hs', hnb, if_false, h0, Sem.run_pure, zeroValue, typeInfo, run_program, hi, hz]
        change (Sem.run P (match Instr.fill (fun i => some (i * sz, sz)) row (parts.map fun (i, x) => (i, a.eval x)).toList with | some cells => _ | _ => _) w).andThen _ = _
        rw [f1]
        simp only [Sem.run_bind, Vd.run_newRow, Result.andThen_ok, Sem.run_pure]
    · refine step_new h.inv (h.fresh n (Nat.le_refl _) (by omega)) (some len) ?_ (by rw [hll]; exact .rsl n 0 len _ len _ Gm.add_same (Nat.le_refl _) (fun k hk _ => by simpa using hk))
      rw [hfm]
      refine ObOk.row he hml hcvs (Soft.zero _) (by rw [hfl, hcvs, List.length_map, hll]; omega) ?_
      rw [hcv, List.take_of_length_le (by rw [hreps.1]; omega)]
      exact hreps
  · cases hx

/-! ### Stores -/

theorem Below.setRow {B b : Nat} {w : World} {cs : Array Value} (h : B ≤ b) : Below B w (w.setRow b cs) :=
  ⟨rfl, rfl, rfl, by simp, fun k hk => setRow_other w b k cs (by omega)⟩

theorem run_storeCells_soft (P : Program) (g o : Nat) (t : TypeId) (fz : Nat × Nat) : ∀ (vs : List Value) (i : Nat) (cur : Array Value) (w : World), w.heap[g]? = some (.cells cur t fz) → Soft fz cur.size → o + i + vs.length ≤ cur.size → (∀ v ∈ vs, v.oneCell' = true) →
    (storeCells ⟨g, o, none⟩ vs i).run P w = .ok () (w.setRow g (cur.toList.take (o + i) ++ vs ++ cur.toList.drop (o + i + vs.length)).toArray)
  | [], i, cur, w, hg, _, _, _ => by
    simp only [storeCells, List.append_nil, List.length_nil, Nat.add_zero, List.take_append_drop, Array.toArray_toList]
    rw [setRow_self w g cur t fz hg]
    rfl
  | v :: rest, i, cur, w, hg, hfz, hl, h1 => by
    have hi : o + i < cur.size := by simp at hl; omega
    have hadd : (⟨g, o, none⟩ : Addr).add i = ⟨g, o + i, none⟩ := by unfold Addr.add; split <;> simp_all
    have hcell : w.cell? ⟨g, o + i, none⟩ = some cur[o + i] := by simp [World.cell?, hg, hi]
    have hfro : w.frozen? ⟨g, o + i, none⟩ = false := by
      obtain ⟨lo, hi'⟩ := fz
      simp only [World.frozen?, hg, Bool.and_eq_false_iff, decide_eq_false_iff_not]
      unfold Soft at hfz
      simp only at hfz
      omega
    have hst : (store ((⟨g, o, none⟩ : Addr).add i) v).run P w = .ok () (w.setRow g (cur.setIfInBounds (o + i) v)) := by
      rw [hadd, run_store P w _ v _ (h1 v (by simp)), hcell]
      simp [hfro, setCell_eq_setRow w g (o + i) cur t fz v hg]
    have ih := run_storeCells_soft P g o t fz rest (i + 1) (cur.setIfInBounds (o + i) v) (w.setRow g (cur.setIfInBounds (o + i) v)) (setRow_heap w g cur _ t _ hg) (by simpa using hfz) (by simp at hl ⊢; omega) (fun x hx => h1 x (by simp [hx]))
    simp only [storeCells, Sem.run_bind, hst, Result.andThen_ok, ih, setRow_setRow]
    congr 3
    have e := list_seg_step cur.toList (o + i) v rest (by simp at hl ⊢; omega)
    simpa [Array.toList_setIfInBounds, Nat.add_assoc] using e

/-- Some cells of an object are written. -/
theorem step_store (hi : Inv P B w0 m w g) {i b o : Nat} {C : Option Nat} {cs ds : List D} {e : Kd} (hm : m i = some (.cells cs e)) (hb : g i = some (b, C)) {us : List Value} (hr : Reps g ds us) (ho : o + ds.length ≤ cs.length)
    {vs : Array Value} {T : TypeId} {fz : Nat × Nat} (hh : w.heap[b]? = some (.cells vs T fz)) {d : D} {v : Value} (hd : Rep g d v) :
    Step P B w0 g n (m.put i (some (.cells (putAt cs o ds) e))) d n v (w.setRow b (vs.toList.take o ++ us ++ vs.toList.drop (o + us.length)).toArray) g := by
  obtain ⟨hB, vs', T', fz', hh', hsf, hl, hrp, hg, hC⟩ := hi.cells hm hb
  rw [hh] at hh'
  simp only [Option.some.injEq, Obj.cells.injEq] at hh'
  obtain ⟨rfl, rfl, rfl⟩ := hh'
  have hlen : us.length = ds.length := hr.1
  have hsz : (vs.toList.take o ++ us ++ vs.toList.drop (o + us.length)).toArray.size = vs.size := by simp; omega
  refine ⟨hi.upd (b := b) (C := C) (by rw [hm]; simp) hb (Below.setRow hB) (by simp) (fun k hk => setRow_other w b k _ hk) ?_, Gm.le.refl g, fun _ _ => rfl, hd⟩
  rw [setRow_heap w b vs _ T fz hh]
  have hpl : (putAt cs o ds).length = cs.length := by unfold putAt; simp; omega
  refine ⟨_, T, fz, rfl, by rw [hsz]; exact hsf, by rw [hpl, hsz]; exact hl, ?_, fun t ht => ?_, fun t ht => by obtain ⟨q1, q2, q3⟩ := hC t ht; exact ⟨q1, q2, by rw [hsz, hpl]; exact q3⟩⟩
  · have key : Reps g (putAt cs o ds) ((vs.toList.take cs.length).take o ++ us ++ (vs.toList.take cs.length).drop (o + us.length)) := reps_put hrp hr o
    have e1 : (vs.toList.take cs.length).take o = vs.toList.take o := by rw [List.take_take]; congr 1; omega
    have e2 : (vs.toList.take cs.length).drop (o + us.length) = (vs.toList.drop (o + us.length)).take (cs.length - (o + us.length)) := by rw [List.drop_take]
    rw [e1, e2] at key
    rw [hpl]
    have e3 : (vs.toList.take o ++ us ++ vs.toList.drop (o + us.length)).take cs.length = vs.toList.take o ++ us ++ (vs.toList.drop (o + us.length)).take (cs.length - (o + us.length)) := by
      rw [List.take_append]
      have : (vs.toList.take o ++ us).length = o + us.length := by simp; omega
      rw [this, List.take_of_length_le (by omega)]
    simp only [List.toList_toArray] at *
    rw [e3]; exact key
  · rw [hsz]; exact hg t ht

theorem does_store {t : TypeId} {o : Oper} {x v : Operand} {y z : Arg} {k : Nat} (h : At P B w0 w m g n n' s a) (hn : Vd.szOf P t = some k) (hx : trArg x = some y) (hv : trArg v = some z) (ho : o.op = .store t x v)
    (he : exec s m n (.store k y z) = some (d, u, n')) : Does P B w0 g n w (Upd.app m u) d n' (execOp a.eval o) := by
  have hr := h.slots.arg hx
  have hrv := h.slots.arg hv
  simp only [exec] at he
  split at he
  · rename_i i o' e
    rw [e] at hr
    obtain ⟨b, C, e1, hb⟩ := hr.ptr_inv
    split at he
    · rename_i cs ee hm
      split at he
      · rename_i hc
        obtain ⟨c1, c2, c3⟩ := hc
        simp only [Option.some.injEq, Prod.mk.injEq] at he
        obtain ⟨rfl, rfl, rfl⟩ := he
        obtain ⟨hB, vs, T, fz, hh, hsf, hl, hrp, _⟩ := h.inv.cells hm hb
        have hcells := hrv.cells c1
        have hsz : (a.eval v).cells.size = k := by have := hcells.1; simp at this; omega
        refine ⟨undef, _, g, .skip, ?_, .inr ⟨rfl, rfl⟩, step_store h.inv hm hb hcells (by omega) hh (.junk _)⟩
        have := run_storeCells_soft P b o' T fz (a.eval v).cells.toList 0 vs w hh hsf (by simp [hsz]; omega) hcells.2.1
        simp only [Nat.add_zero] at this
        have hst : (storeVar t ⟨b, o', none⟩ (a.eval v)).run P w = .ok () (w.setRow b (vs.toList.take o' ++ (a.eval v).cells.toList ++ vs.toList.drop (o' + (a.eval v).cells.toList.length)).toArray) := by
          unfold storeVar
          simp only [Sem.run_bind, Vd.run_sizeOf' hn, Result.andThen_ok]
          rw [if_neg (by simp [hsz])]
          exact this
        simp only [execOp, ho, Instr.storeAt, e1, Instr.sureAddr, Sem.run_bind, Result.andThen_ok, Sem.run_pure, hst]
      · cases he
    · cases he
  · cases he
end
end Go.Ve

namespace Go.Ve
open Go.RowKit
set_option linter.unusedSimpArgs false
set_option linter.unusedVariables false

section
variable {P : Program} {B : Nat} {w0 w : World} {m : Mem} {g : Gm} {n n' : Nat} {s : Nat → D} {a : Act} {d : D} {u : Upd}

/-- What a slice of the layer is at the model: its cells. -/
theorem slCells_sound (hi : Inv P B w0 m w g) {y : D} {v : Value} {sz k : Nat} {ws : List D} (hr : Rep g y v) (h : slCells m sz y = some (k, ws)) :
    ∃ us, Vd.Src P w sz v k us ∧ Reps g ws us := by
  unfold slCells at h
  split at h
  · rename_i i o c
    obtain ⟨b, cc, C, rfl, hb, hle, _⟩ := hr.rsl_inv
    split at h
    · rename_i cs e hm
      split at h
      · rename_i hk
        simp only [Option.some.injEq, Prod.mk.injEq] at h
        obtain ⟨rfl, rfl⟩ := h
        obtain ⟨_, vs, T, fz, hh, _, hl, hrp, _⟩ := hi.cells hm hb
        obtain ⟨r1, r2, r3⟩ := cells_at hh hl hrp hk
        exact ⟨_, Vd.Src.slice r2 (fun j u hu => by rw [Vd.mk_add]; exact r3 j u hu), r1⟩
      · cases h
    · cases h
  · simp only [Option.some.injEq, Prod.mk.injEq] at h
    obtain ⟨rfl, rfl⟩ := h
    obtain ⟨ad, c, rfl⟩ := hr.esl_inv
    exact ⟨[], Vd.Src.slice (by simp) (by simp), Reps.nil g⟩
  · simp only [Option.some.injEq, Prod.mk.injEq] at h
    obtain ⟨rfl, rfl⟩ := h
    obtain ⟨ad, rfl⟩ := hr.esl0_inv
    exact ⟨[], Vd.Src.slice (by simp) (by simp), Reps.nil g⟩
  · simp only [Option.some.injEq, Prod.mk.injEq] at h
    obtain ⟨rfl, rfl⟩ := h
    rw [hr.nils_inv]
    exact ⟨[], Vd.Src.nil, Reps.nil g⟩
  · cases h

theorem reps_bytes (b : List UInt8) : Reps g (bytesD b) (b.map fun c => Value.int .u8 c.toNat) := by
  refine ⟨by simp [bytesD], fun v hv => ?_, fun j d v hd hv => ?_⟩
  · simp only [List.mem_map] at hv
    obtain ⟨c, _, rfl⟩ := hv; rfl
  · simp only [bytesD, List.getElem?_map, Option.map_eq_some_iff] at hd hv
    obtain ⟨c, hc, rfl⟩ := hd
    obtain ⟨c', hc', rfl⟩ := hv
    rw [hc] at hc'; simp only [Option.some.injEq] at hc'; subst hc'
    exact .int _ _

theorem appSrc_sound (hi : Inv P B w0 m w g) {y : D} {v : Value} {sz k : Nat} {ws : List D} (hr : Rep g y v) (h : appSrc m sz y = some (k, ws)) :
    ∃ us, Vd.Src P w sz v k us ∧ Reps g ws us := by
  unfold appSrc at h
  split at h
  · rename_i b
    split at h
    · rename_i h1; subst h1
      simp only [Option.some.injEq, Prod.mk.injEq] at h
      obtain ⟨rfl, rfl⟩ := h
      rw [hr.str_inv]
      have hsz : (ByteArray.mk b.toArray).size = b.length := by simp [ByteArray.size]
      refine ⟨Lib.strCells ⟨b.toArray⟩, hsz ▸ Vd.Src.string _, ?_⟩
      exact reps_bytes b
    · cases h
  · exact slCells_sound hi hr h

/-! ### append -/

theorem run_app_room {t ty e : TypeId} {i : TypeInfo} (ht : P.underlying t = some (.slice e)) (hi : P.info? e = some i)
    {b sLen sCap : Nat} {cur : Array Value} {fz : Nat × Nat} (hg : w.heap[b]? = some (.cells cur e fz)) (hsf : Soft fz cur.size) {y : Value} {k : Nat} {ws : List Value} (hs : Vd.Src P w i.size y k ws) (h1 : ∀ u ∈ ws, u.oneCell' = true)
    (hroom : sLen + k ≤ sCap) (hfit : sLen * i.size + ws.length ≤ cur.size) :
    (Builtin.append_ #[t, t] ty #[.slice (some ⟨b, 0, none⟩) sLen sCap, y]).run P w =
      .ok (.slice (some ⟨b, 0, none⟩) (sLen + k) sCap) (w.setRow b (cur.toList.take (sLen * i.size) ++ ws ++ cur.toList.drop (sLen * i.size + ws.length)).toArray) := by
  have hf := hs.cells
  have hl := hs.len
  have hst := run_storeCells_soft P b (sLen * i.size) e fz ws 0 cur w hg hsf (by simpa using hfit) h1
  simp only [Nat.add_zero] at hst
  simp [Builtin.append_, run_underlying ht, sizeOf, typeInfo, hi, hl, hroom, hf, Addr.add_lit, hst]

/-- Nothing is appended. -/
theorem run_app_empty {t ty e : TypeId} {i : TypeInfo} (ht : P.underlying t = some (.slice e)) (hi : P.info? e = some i) {ad : Option Addr} {sLen sCap : Nat} (hc : sLen ≤ sCap) {y : Value} {ws : List Value} (hs : Vd.Src P w i.size y 0 ws) :
    (Builtin.append_ #[t, t] ty #[.slice ad sLen sCap, y]).run P w = .ok (.slice ad sLen sCap) w := by
  have hf := hs.cells
  have hl := hs.len
  have hw : ws = [] := List.eq_nil_of_length_eq_zero (by rw [hs.wl]; simp)
  subst hw
  cases ad <;> simp [Builtin.append_, run_underlying ht, sizeOf, typeInfo, hi, hl, hf, hc, storeCells]

/-- Onto a slice without room. -/
theorem run_app_new {t ty e : TypeId} {i : TypeInfo} {z : Value} (ht : P.underlying t = some (.slice e)) (hi : P.info? e = some i) (hz : i.zero = some z) {ad : Option Addr}
    {y : Value} {k : Nat} {ws : List Value} (hs : Vd.Src P w i.size y k ws) (h0 : 0 < k) (h63 : (k : Int) ≤ 9223372036854775807) (h48 : k * i.bytes ≤ 281474976710656) :
    (Builtin.append_ #[t, t] ty #[.slice ad 0 0, y]).run P w =
      .ok (.slice (some ⟨w.heap.size, 0, none⟩) k (grownCap w k 0 e)) (w.drew.alloc (.cells (ws.toArray ++ Builtin.zeroCells z.cells (grownCap w k 0 e - k)) e)) := by
  have hn : k ≠ 0 := by omega
  have h63' : ¬ (9223372036854775807 < (k : Int)) := by omega
  have h48' : ¬ (281474976710656 < Builtin.nextslicecap k 0 * i.bytes) := by rw [nextslicecap_zero h0]; omega
  have hf := hs.drew
  have hl := hs.len
  cases ad with
  | none => simp [Builtin.append_, run_underlying ht, sizeOf, typeInfo, zeroValue, hi, hz, hl, hn, h63', h48', Question.forced, run_firstCells_none, hf, newRow, grownCap]
  | some ad =>
    have hfo := run_firstCells_some (P := P) w.drew i.size 0 ad 0 0 [] (by simp) (by simp)
    simp [Builtin.append_, run_underlying ht, sizeOf, typeInfo, zeroValue, hi, hz, hl, hn, h63', h48', Question.forced, hfo, hf, newRow, grownCap]

theorem does_app {t t2 e : TypeId} {o : Oper} {x y : Operand} {p q : Arg} {sz bytes : Nat} (h : At P B w0 w m g n n' s a) (hu : P.underlying t = some (.slice e)) (he : Vd.elemOf P e = some (sz, bytes))
    (hx : trArg x = some p) (hy : trArg y = some q) (ho : o.op = .call { callee := .builtin .append, args := #[x, y], argTypes := #[t, t2] }) (ht2 : (∃ e2, P.underlying t2 = some (.slice e2)) ∨ P.underlying t2 = some .string)
    (hex : exec s m n (.app e sz bytes p q) = some (d, u, n')) : Does P B w0 g n w (Upd.app m u) d n' (execOp a.eval o) := by
  obtain ⟨hpos, ti, z, hi, hsize, hz, hzs, hby⟩ := Vd.elemOf_some he
  have hrx := h.slots.arg hx
  have hry := h.slots.arg hy
  have htype : ∀ x y, (Builtin.append_ #[t, t2] o.type #[x, y]).run P w = (Builtin.append_ #[t, t] o.type #[x, y]).run P w := by
    intro x y
    rcases ht2 with ⟨e2, ht2⟩ | ht2
    · cases x <;> simp [Builtin.append_, run_underlying hu, run_underlying ht2, sizeOf]
    · exact Vd.run_app_type hu ht2 x y
  have hrun : ∀ v' w', (Builtin.append_ #[t, t] o.type #[a.eval x, a.eval y]).run P w = .ok v' w' → (execOp a.eval o).run P w = .ok (.value v') w' := by
    intro v' w' e1
    rw [← htype] at e1
    simp only [execOp, ho, resolve, invoke, builtin, Sem.run_bind, Sem.run_pure, Result.andThen_ok, List.map_toArray, List.map_cons, List.map_nil, e1]
  simp only [exec] at hex
  split at hex
  · rename_i k ws ey
    obtain ⟨us, hsrc, hrep⟩ := appSrc_sound h.inv hry ey
    have hsrc' : Vd.Src P w ti.size (a.eval y) k us := by rw [hsize]; exact hsrc
    have hul : us.length = k * sz := hsrc.wl
    split at hex
    · rename_i hk0
      subst hk0
      have go : ∀ ad c cc, a.eval x = .slice ad c cc → c ≤ cc → some (p.ev s, ([] : Upd), n) = some (d, u, n') → Does P B w0 g n w (Upd.app m u) d n' (execOp a.eval o) := by
        intro ad c cc e1 hc e2
        refine .pureE h.inv (hrun _ _ ?_) hrx e2
        rw [e1]; exact run_app_empty hu hi hc hsrc'
      split at hex
      · rename_i ex; have hr := hrx; rw [ex] at hr; exact go _ _ _ hr.nils_inv (Nat.le_refl _) hex
      · rename_i ex; have hr := hrx; rw [ex] at hr; obtain ⟨ad, c, e1⟩ := hr.esl_inv; exact go _ _ _ e1 (Nat.zero_le _) hex
      · rename_i ex; have hr := hrx; rw [ex] at hr; obtain ⟨ad, e1⟩ := hr.esl0_inv; exact go _ _ _ e1 (Nat.le_refl _) hex
      · rename_i i o' c ex; have hr := hrx; rw [ex] at hr; obtain ⟨b, cc, C, e1, _, hc, _⟩ := hr.rsl_inv; exact go _ _ _ e1 hc hex
      · cases hex
    · rename_i hk0
      have onto : ∀ ad, a.eval x = .slice ad 0 0 → (if k * (bytes + 1) ≤ 140737488355328 then some (D.rsl n 0 k, [(n, some (Ob.cells ws (.row e)))], n + 1) else none) = some (d, u, n') → Does P B w0 g n w (Upd.app m u) d n' (execOp a.eval o) := by
        intro ad e1 hex
        split at hex
        · rename_i hbd
          simp only [Option.some.injEq, Prod.mk.injEq] at hex
          obtain ⟨rfl, rfl, rfl⟩ := hex
          have hbd' : k ≤ 140737488355328 := by
            have : k * 1 ≤ k * (bytes + 1) := Nat.mul_le_mul_left _ (by omega)
            omega
          have hbb : k * bytes ≤ 140737488355328 := by
            have : k * bytes ≤ k * (bytes + 1) := Nat.mul_le_mul_left _ (by omega)
            omega
          have hr := run_app_new (P := P) (ty := o.type) hu hi hz (ad := ad) hsrc' (by omega) (by omega) (by rw [hby]; omega)
          have hge := grownCap_ge w k 0 e
          have hcm : grownCap w k 0 e ≤ maxLen := grownCap_le_maxLen w k 0 e (by unfold maxLen; omega)
          have hsz2 : (us.toArray ++ Builtin.zeroCells z.cells (grownCap w k 0 e - k)).size = grownCap w k 0 e * sz := by
            simp only [Array.size_append, List.size_toArray, size_zeroCells, hzs, hul, ← Nat.add_mul]
            congr 1; omega
          have hwl : ws.length = us.length := hrep.1.symm
          refine ⟨_, _, g.add n w.heap.size (some (grownCap w k 0 e)), _, hrun _ _ (by rw [e1]; exact hr), .inl rfl, ?_⟩
          refine step_new (w := w.drew) h.inv.drew (h.fresh n (Nat.le_refl _) (by omega)) _ (ObOk.row he hcm hsz2 (Soft.zero _) (by rw [hwl]; simp) ?_) (.rsl n 0 k _ _ _ Gm.add_same hge (fun c hc _ => by simpa using hc))
          have : (us.toArray ++ Builtin.zeroCells z.cells (grownCap w k 0 e - k)).toList.take ws.length = us := by
            rw [Array.toList_append, List.take_append_of_le_length (by simp; omega), List.take_of_length_le (by simp; omega)]
          rw [this]; exact hrep
        · cases hex
      split at hex
      · rename_i ex; have hr := hrx; rw [ex] at hr; exact onto _ hr.nils_inv hex
      · rename_i ex; have hr := hrx; rw [ex] at hr; obtain ⟨ad, e1⟩ := hr.esl0_inv; exact onto _ e1 hex
      · rename_i i c ex
        rw [ex] at hrx
        obtain ⟨b, cc, C, e1, hb, hcc, hC⟩ := hrx.rsl_inv
        split at hex
        · rename_i cs e' hm
          split at hex
          · rename_i hc
            obtain ⟨rfl, hbd, hcs⟩ := hc
            simp only [Option.some.injEq, Prod.mk.injEq] at hex
            obtain ⟨rfl, rfl, rfl⟩ := hex
            obtain ⟨hB, cur, T, fz, hh, hsf, hl, hrp, hgr, _⟩ := h.inv.cells hm hb
            obtain ⟨rfl, ti', z', c0, i1, i2, i3, i4, i5, i6, i7⟩ := hgr _ rfl
            rw [hi] at i1
            simp only [Option.some.injEq] at i1; subst i1
            have hc0 : cc = c0 := hC _ i5 rfl
            subst hc0
            have hbd' : c + k ≤ 140737488355328 := by
              have : (c + k) * 1 ≤ (c + k) * (bytes + 1) := Nat.mul_le_mul_left _ (by omega)
              omega
            have hbb : (c + k) * bytes ≤ 140737488355328 := by
              have : (c + k) * bytes ≤ (c + k) * (bytes + 1) := Nat.mul_le_mul_left _ (by omega)
              omega
            have hfr := h.fresh n (Nat.le_refl _) (by omega)
            have holds : Reps g (cs.take (c * sz)) (cur.toList.take (c * sz)) := by
              have := hrp.take (c * sz)
              rwa [List.take_take, show min (c * sz) cs.length = c * sz by omega] at this
            have hreps : Reps g (cs.take (c * sz) ++ ws) (cur.toList.take (c * sz) ++ us) := Reps.append holds hrep
            have hrl := hreps.1
            have hcl : (cur.toList.take (c * sz)).length = c * sz := by rw [List.length_take]; simp; omega
            by_cases hroom : c + k ≤ cc
            · have hfit : c * ti.size + us.length ≤ cur.size := by rw [hul, hsize, i7, hsize, ← Nat.add_mul]; exact Nat.mul_le_mul_right _ hroom
              have hr := run_app_room (P := P) (ty := o.type) hu hi hh hsf hsrc' hrep.2.1 hroom hfit
              rw [hsize] at hr hfit
              refine ⟨_, _, g.add n b C, _, hrun _ _ (by rw [e1]; exact hr), .inl rfl, ⟨h.inv.move (i := i) (j := n) (b := b) (by rw [hm]; simp) hb hfr.1 hfr.2 (Below.setRow hB) (by simp) (fun k hk => setRow_other w b k _ hk) ?_, Gm.add_le hfr.2, fun j hj => Gm.add_other (by omega), ?_⟩⟩
              · rw [setRow_heap w b cur _ T fz hh]
                have hsz' : (cur.toList.take (c * sz) ++ us ++ cur.toList.drop (c * sz + us.length)).toArray.size = cur.size := by simp; omega
                rw [i5]
                refine ObOk.row he i6 (by rw [hsz', i7, hsize]) (by rw [hsz']; exact hsf) (by rw [hsz', ← hrl]; simp; omega) ?_
                rw [List.toList_toArray, ← hrl, List.take_left]
                exact hreps
              · exact .rsl n 0 (c + k) b cc C Gm.add_same hroom (fun c1 h1 h2 => hC c1 h1 h2)
            · have hcc63 : (cur.toList.take (c * sz)).length = c * ti.size := by rw [hcl, hsize]
              have hr := Vd.run_app_grow (P := P) (w := w) (ty := o.type) hu hi hz (b := ⟨b, 0, none⟩) (sLen := c) (sCap := cc) (olds := cur.toList.take (c * sz)) hcc63 (fun j v hv => by
                rw [Vd.mk_add, Nat.zero_add, cell_row hh]
                have hj : j < c * sz := by
                  rcases Nat.lt_or_ge j (c * sz) with h1 | h1
                  · exact h1
                  · rw [List.getElem?_eq_none (by simp; omega)] at hv; cases hv
                rw [List.getElem?_take_of_lt hj] at hv
                simpa using hv) hsrc' (by omega) (by omega) (growslice_fits (by omega) (by rw [hby]; exact hbb))
              have hge := grownCap_ge w (c + k) cc T
              have hcm : grownCap w (c + k) cc T ≤ maxLen := grownCap_le_maxLen w (c + k) cc T (by unfold maxLen; omega)
              have hsz2 : ((cur.toList.take (c * sz)).toArray ++ us.toArray ++ Builtin.zeroCells z.cells (grownCap w (c + k) cc T - (c + k))).size = grownCap w (c + k) cc T * sz := by
                simp only [Array.size_append, List.size_toArray, size_zeroCells, hzs, hul, hcl, ← Nat.add_mul]
                congr 1; omega
              have hkill : Inv P B w0 (m.put i none) w.drew g := h.inv.drew.less (fun j ob hj => by
                by_cases hji : j = i
                · subst hji; rw [Mem.put_same] at hj; cases hj
                · rwa [Mem.put_other hji] at hj)
              have hni : n ≠ i := by rintro rfl; rw [hfr.1] at hm; cases hm
              refine ⟨_, _, g.add n w.heap.size (some (grownCap w (c + k) cc T)), _, hrun _ _ (by rw [e1]; exact hr), .inl rfl, ?_⟩
              refine step_new (w := w.drew) hkill ⟨by rw [Mem.put_other hni]; exact hfr.1, hfr.2⟩ _ (ObOk.row he hcm hsz2 (Soft.zero _) (by rw [← hrl]; simp) ?_) (.rsl n 0 (c + k) _ _ _ Gm.add_same hge (fun c hc _ => by simpa using hc))
              have : ((cur.toList.take (c * sz)).toArray ++ us.toArray ++ Builtin.zeroCells z.cells (grownCap w (c + k) cc T - (c + k))).toList.take (cs.take (c * sz) ++ ws).length = cur.toList.take (c * sz) ++ us := by
                rw [← hrl]
                simp only [Array.toList_append, List.toList_toArray]
                rw [List.take_left]
              rw [this]; exact hreps
          · cases hex
        · cases hex
      · cases hex
  · cases hex
end
end Go.Ve

namespace Go.Ve
open Go.RowKit
set_option linter.unusedSimpArgs false
set_option linter.unusedVariables false

section
variable {P : Program} {B : Nat} {w0 w : World} {m : Mem} {g : Gm} {n n' : Nat} {s : Nat → D} {a : Act} {d : D} {u : Upd}

theorem does_copy {t t2 e : TypeId} {o : Oper} {x y : Operand} {p q : Arg} {sz : Nat} (h : At P B w0 w m g n n' s a) (hu : P.underlying t = some (.slice e)) (hs : Vd.szOf P e = some sz)
    (hx : trArg x = some p) (hy : trArg y = some q) (ho : o.op = .call { callee := .builtin .copy, args := #[x, y], argTypes := #[t, t2] })
    (hex : exec s m n (.copy sz p q) = some (d, u, n')) : Does P B w0 g n w (Upd.app m u) d n' (execOp a.eval o) := by
  have hrx := h.slots.arg hx
  have hry := h.slots.arg hy
  have hrun : ∀ v' w', (Builtin.copy_ #[t, t2] o.type #[a.eval x, a.eval y]).run P w = .ok v' w' → (execOp a.eval o).run P w = .ok (.value v') w' := by
    intro v' w' e1
    simp only [execOp, ho, resolve, invoke, builtin, Sem.run_bind, Sem.run_pure, Result.andThen_ok, List.map_toArray, List.map_cons, List.map_nil, e1]
  simp only [exec] at hex
  split at hex
  · rename_i k ws ey
    obtain ⟨us, hsrc, hrep⟩ := appSrc_sound h.inv hry ey
    have hl := hsrc.len
    have hul : us.length = k * sz := hsrc.wl
    -- the first of them
    have hfirst : ∀ j, j ≤ k → (Builtin.firstCells sz j (a.eval y)).run P w = .ok (us.take (j * sz)).toArray w := by
      intro j hj
      unfold appSrc at ey
      split at ey
      · rename_i b eb
        rw [eb] at hry
        split at ey
        · rename_i h1; subst h1
          simp only [Option.some.injEq, Prod.mk.injEq] at ey
          obtain ⟨rfl, rfl⟩ := ey
          have hcells := hsrc.cells
          rw [hry.str_inv] at hcells ⊢
          simp only [Builtin.firstCells, Sem.run_pure, Result.ok.injEq, and_true] at hcells ⊢
          have h2 : us = b.map fun c => Value.int .u8 c.toNat := by
            have := congrArg Array.toList hcells
            simp [Vd.bytes_extract, List.take_of_length_le] at this
            exact this.symm
          rw [h2, Vd.bytes_extract, List.drop_zero, Nat.mul_one]
          simp [List.map_take]
        · cases ey
      · rename_i dd hnd
        unfold slCells at ey
        split at ey
        · rename_i i o c hrsl
          rw [hrsl] at hry
          obtain ⟨b, cc, C, e1, hb, hle, _⟩ := hry.rsl_inv
          split at ey
          · rename_i cs e hm
            split at ey
            · rename_i hk
              simp only [Option.some.injEq, Prod.mk.injEq] at ey
              obtain ⟨rfl, rfl⟩ := ey
              obtain ⟨_, vs, T, fz, hh, _, hlv, hrp, _⟩ := h.inv.cells hm hb
              obtain ⟨r1, r2, r3⟩ := cells_at hh hlv hrp hk
              have hcells := hsrc.cells
              rw [e1] at hcells ⊢
              have h2 := Vd.Src.slice (P := P) (w := w) (size := sz) (n := c) (c := cc) (ad := ⟨b, o, none⟩) r2 (fun j u hu => by rw [Vd.mk_add]; exact r3 j u hu)
              have h3 := h2.cells
              rw [hcells] at h3
              have h4 : us = (vs.toList.drop o).take (c * sz) := by simpa using congrArg (fun r => match r with | Result.ok x _ => x.toList | _ => []) h3
              have h5 := run_firstCells_some (P := P) w sz j ⟨b, o, none⟩ c cc (us.take (j * sz)) (by rw [List.length_take, hul]; have := Nat.mul_le_mul_right sz hj; omega) (fun q v hv => by
                have hq : q < j * sz := by
                  rcases Nat.lt_or_ge q (j * sz) with h1 | h1
                  · exact h1
                  · rw [List.getElem?_eq_none (by simp; omega)] at hv; cases hv
                rw [List.getElem?_take_of_lt hq, h4] at hv
                rw [Vd.mk_add]; exact r3 q v hv)
              exact h5
            · cases ey
          · cases ey
        all_goals first | (cases ey; done) | skip
        all_goals
          simp only [Option.some.injEq, Prod.mk.injEq] at ey
          obtain ⟨rfl, rfl⟩ := ey
          obtain rfl : j = 0 := by omega
          have hus : us = [] := List.eq_nil_of_length_eq_zero (by rw [hul]; simp)
          subst hus
          simpa using hsrc.cells
    have zero : ∀ ad cc, a.eval x = .slice ad 0 cc → some (D.int .i64 0, ([] : Upd), n) = some (d, u, n') → Does P B w0 g n w (Upd.app m u) d n' (execOp a.eval o) := by
      intro ad cc e1 e2
      refine .pureE h.inv (hrun (.int .i64 0) w ?_) (.int _ _) e2
      have h0 := hfirst 0 (Nat.zero_le _)
      rw [e1]
      cases ad <;> simp [Builtin.copy_, run_underlying hu, hl, Vd.run_sizeOf' hs, h0, storeCells, goInt]
    split at hex
    · rename_i i o' c ex
      rw [ex] at hrx
      obtain ⟨b, cc, C, e1, hb, hcc, hC⟩ := hrx.rsl_inv
      split at hex
      · rename_i cs e' hm
        split at hex
        · rename_i hk
          simp only [Option.some.injEq, Prod.mk.injEq] at hex
          obtain ⟨rfl, rfl, rfl⟩ := hex
          obtain ⟨hB, cur, T, fz, hh, hsf, hlc, hrp, _⟩ := h.inv.cells hm hb
          have hf := hfirst (min k c) (Nat.min_le_left _ _)
          have htl : (us.take (min k c * sz)).length = min k c * sz := by rw [List.length_take, hul]; have := Nat.mul_le_mul_right sz (Nat.min_le_left k c); omega
          have hst := run_storeCells_soft P b o' T fz (us.take (min k c * sz)) 0 cur w hh hsf (by rw [htl]; omega) (fun v hv => hrep.2.1 v (List.mem_of_mem_take hv))
          simp only [Nat.add_zero] at hst
          refine ⟨.int .i64 (min k c : Nat), _, g, _, hrun _ _ ?_, .inl rfl, step_store h.inv hm hb (hrep.take _) (by have := (hrep.take (min k c * sz)).1; omega) hh (.int _ _)⟩
          rw [e1]
          have hmin : Nat.min k c = min k c := rfl
          simp [Builtin.copy_, run_underlying hu, hl, Vd.run_sizeOf' hs, hmin, hf, hst, goInt]
        · cases hex
      · cases hex
    · rename_i ex; rw [ex] at hrx; exact zero _ _ hrx.nils_inv hex
    · rename_i ex; rw [ex] at hrx; obtain ⟨ad, cc, e1⟩ := hrx.esl_inv; exact zero _ _ e1 hex
    · rename_i ex; rw [ex] at hrx; obtain ⟨ad, e1⟩ := hrx.esl0_inv; exact zero _ _ e1 hex
    · cases hex
  · cases hex

theorem does_mksl {t e : TypeId} {o : Oper} {x y : Operand} {p q : Arg} {sz bytes : Nat} {z : D} (h : At P B w0 w m g n n' s a) (hu : P.underlying t = some (.slice e)) (he : Vd.elemOf P e = some (sz, bytes))
    (hz : zeroOf P e = some z) (hx : trArg x = some p) (hy : trArg y = some q) (ho : o.op = .makeSlice t x y)
    (hex : exec s m n (.mksl e sz bytes z p q) = some (d, u, n')) : Does P B w0 g n w (Upd.app m u) d n' (execOp a.eval o) := by
  obtain ⟨hpos, ti, zv, hi, hsize, hzv, hzs, hby⟩ := Vd.elemOf_some he
  have hrx := h.slots.arg hx
  have hry := h.slots.arg hy
  obtain ⟨ti', zv', hi', hzv', hrz, hzd⟩ := zeroOf_some hz g
  rw [hi] at hi'
  simp only [Option.some.injEq] at hi'; subst hi'
  rw [hzv] at hzv'
  simp only [Option.some.injEq] at hzv'; subst hzv'
  simp only [exec] at hex
  split at hex
  · rename_i k c k' c' ex ey
    rw [ex] at hrx; rw [ey] at hry
    split at hex
    · rename_i hc
      obtain ⟨h0, hnc, hbd, hzl⟩ := hc
      simp only [Option.some.injEq, Prod.mk.injEq] at hex
      obtain ⟨rfl, rfl, rfl⟩ := hex
      obtain ⟨c, rfl⟩ := Int.eq_ofNat_of_zero_le h0
      obtain ⟨c', rfl⟩ := Int.eq_ofNat_of_zero_le (Int.le_trans h0 hnc)
      have hbd2 : c' * (bytes + 1) ≤ 140737488355328 := by
        have : ((c' * (bytes + 1) : Nat) : Int) ≤ 140737488355328 := by simpa using hbd
        omega
      have hbb : bytes * c' ≤ 140737488355328 := by
        have : c' * bytes ≤ c' * (bytes + 1) := Nat.mul_le_mul_left _ (by omega)
        rw [Nat.mul_comm]; omega
      have hcc : c' ≤ 140737488355328 := by
        have : c' * 1 ≤ c' * (bytes + 1) := Nat.mul_le_mul_left _ (by omega)
        omega
      have hb3 : (ti.bytes : Int) * (c' : Int) ≤ 281474976710656 := by
        rw [hby]
        have : ((bytes * c' : Nat) : Int) ≤ 281474976710656 := by omega
        simpa using this
      have hr := run_make (P := P) w t e ti zv hu hi hzv k k' (c : Int) (c' : Int) (by omega) (by omega) hb3 (by omega)
      simp only [Int.toNat_natCast, hsize] at hr
      have hrz' := hrz.cells hzd
      have hcn : c ≤ c' := by omega
      refine ⟨.slice (some ⟨w.heap.size, 0, none⟩) c c', w.alloc (.cells (madeCells zv.cells (c' * sz)) e), g.add n w.heap.size (some c'), .value (.slice (some ⟨w.heap.size, 0, none⟩) c c'), ?_, .inl rfl, ?_⟩
      · simp only [execOp, ho, hrx.int_inv, hry.int_inv, Sem.run_bind, hr, Result.andThen_ok, Sem.run_pure]
      · refine step_new h.inv (h.fresh n (Nat.le_refl _) (by omega)) _ (ObOk.row he (by unfold maxLen; omega) (by simp [size_madeCells]) (Soft.zero _) ?_ ?_) (.rsl n 0 c _ c' _ Gm.add_same hcn (fun q hq _ => by simpa using hq))
        · simp [size_madeCells, hzl]; exact Nat.mul_le_mul_right _ hcn
        · have hfl : ∀ k : Nat, (List.replicate k z.cells).flatten.length = k * sz := by intro k; simp [hzl]
          have hle : c * sz ≤ c' * sz := Nat.mul_le_mul_right _ hcn
          simp only [Int.toNat_natCast]
          rw [hfl]
          have hcell : ∀ j, j < c * sz → ((madeCells zv.cells (c' * sz)).toList.take (c * sz))[j]? = zv.cells.toList[j % sz]? := by
            intro j hj
            rw [List.getElem?_take_of_lt hj]
            have hm : j % sz < zv.cells.size := by rw [hzs]; exact Nat.mod_lt _ hpos
            simp [madeCells, hzs, show j < c' * sz by omega]
            rw [getElem!_pos zv.cells _ hm, getElem?_pos zv.cells _ hm]
          have hget : ∀ (k j : Nat), j < k * sz → ((List.replicate k z.cells).flatten)[j]? = z.cells[j % sz]? := by
            intro k
            induction k with
            | zero => intro j hj; omega
            | succ k ih =>
              intro j hj
              rw [List.replicate_succ, List.flatten_cons]
              by_cases hjs : j < sz
              · rw [List.getElem?_append_left (by omega), Nat.mod_eq_of_lt hjs]
              · rw [List.getElem?_append_right (by omega), hzl, ih (j - sz) (by rw [Nat.succ_mul] at hj; omega)]
                congr 1
                exact (Nat.mod_eq_sub_mod (by omega)).symm
          refine ⟨by rw [List.length_take, hfl, Array.length_toList, size_madeCells]; omega, fun v hv => ?_, fun j d v hd hv => ?_⟩
          · obtain ⟨j, hj, rfl⟩ := List.getElem_of_mem hv
            have hj' : j < c * sz := Nat.lt_of_lt_of_le hj (List.length_take_le _ _)
            have := hcell j hj'
            rw [List.getElem?_eq_getElem hj] at this
            exact hrz'.2.1 _ (List.mem_of_getElem? this.symm)
          · have hj' : j < c * sz := by have := (List.getElem?_eq_some_iff.1 hd).1; rw [hfl] at this; exact this
            rw [hget c j hj'] at hd
            rw [hcell j hj'] at hv
            exact hrz'.2.2 _ d v hd hv
    · cases hex
  · cases hex

theorem reps_zeroCells {z : List D} {zv : Array Value} {sz : Nat} (hpos : 0 < sz) (hzs : zv.size = sz) (hr : Reps g z zv.toList) (k : Nat) : Reps g (List.replicate k z).flatten (Builtin.zeroCells zv k).toList := by
  have hzl : z.length = sz := by have := hr.1; simp at this; omega
  have hfl : ∀ k : Nat, (List.replicate k z).flatten.length = k * sz := by intro k; simp [hzl]
  have hcell : ∀ j, j < k * sz → ((Builtin.zeroCells zv k).toList)[j]? = zv.toList[j % sz]? := by
    intro j hj
    have hm : j % sz < zv.size := by rw [hzs]; exact Nat.mod_lt _ hpos
    simp [Builtin.zeroCells, hzs, hj]
    rw [getElem!_pos zv _ hm, getElem?_pos zv _ hm]
  have hget : ∀ (k j : Nat), j < k * sz → ((List.replicate k z).flatten)[j]? = z[j % sz]? := by
    intro k
    induction k with
    | zero => intro j hj; omega
    | succ k ih =>
      intro j hj
      rw [List.replicate_succ, List.flatten_cons]
      by_cases hjs : j < sz
      · rw [List.getElem?_append_left (by omega), Nat.mod_eq_of_lt hjs]
      · rw [List.getElem?_append_right (by omega), hzl, ih (j - sz) (by rw [Nat.succ_mul] at hj; omega)]
        congr 1
        exact (Nat.mod_eq_sub_mod (by omega)).symm
  have hsl : (Builtin.zeroCells zv k).toList.length = k * sz := by simp [Builtin.zeroCells, hzs]
  refine ⟨by rw [hsl, hfl], fun v hv => ?_, fun j d v hd hv => ?_⟩
  · obtain ⟨j, hj, rfl⟩ := List.getElem_of_mem hv
    have := hcell j (by omega)
    rw [List.getElem?_eq_getElem hj] at this
    exact hr.2.1 _ (List.mem_of_getElem? this.symm)
  · have hj' : j < k * sz := by have := (List.getElem?_eq_some_iff.1 hd).1; rw [hfl] at this; exact this
    rw [hget k j hj'] at hd
    rw [hcell j hj'] at hv
    exact hr.2.2 _ d v hd hv

theorem does_appz {t t2 e : TypeId} {kn : IntKind} {o : Oper} {x y : Operand} {p q : Arg} {sz bytes : Nat} {z : D} (h : At P B w0 w m g n n' s a) (hu : P.underlying t = some (.slice e)) (hu2 : P.underlying t2 = some (.int kn)) (he : Vd.elemOf P e = some (sz, bytes))
    (hz : zeroOf P e = some z) (hx : trArg x = some p) (hy : trArg y = some q) (ho : o.op = .call { callee := .builtin .append, args := #[x, y], argTypes := #[t, t2] })
    (hex : exec s m n (.appz e sz bytes z p q) = some (d, u, n')) : Does P B w0 g n w (Upd.app m u) d n' (execOp a.eval o) := by
  obtain ⟨hpos, ti, zv, hi, hsize, hzv, hzs, hby⟩ := Vd.elemOf_some he
  have hrx := h.slots.arg hx
  have hry := h.slots.arg hy
  obtain ⟨ti', zv', hi', hzv', hrz, hzd⟩ := zeroOf_some hz g
  rw [hi] at hi'
  simp only [Option.some.injEq] at hi'; subst hi'
  rw [hzv] at hzv'
  simp only [Option.some.injEq] at hzv'; subst hzv'
  have hrun : ∀ v' w', (Builtin.append_ #[t, t2] o.type #[a.eval x, a.eval y]).run P w = .ok v' w' → (execOp a.eval o).run P w = .ok (.value v') w' := by
    intro v' w' e1
    simp only [execOp, ho, resolve, invoke, builtin, Sem.run_bind, Sem.run_pure, Result.andThen_ok, List.map_toArray, List.map_cons, List.map_nil, e1]
  simp only [exec] at hex
  split at hex
  · rename_i k0 k ex ey
    rw [ex] at hrx; rw [ey] at hry
    split at hex
    · rename_i hk0
      subst hk0
      refine .pureE h.inv (hrun (.slice none 0 0) w ?_) .nils hex
      rw [hrx.nils_inv, hry.int_inv]
      have hw : IntKind.i64.wrap 0 = 0 := rfl
      simp [Builtin.append_, run_underlying hu, run_underlying hu2, sizeOf, typeInfo, hi, asInt, asIntOf, hw]
    · rename_i hk0
      split at hex
      · rename_i hc
        obtain ⟨h0, hbd, hzl⟩ := hc
        simp only [Option.some.injEq, Prod.mk.injEq] at hex
        obtain ⟨rfl, rfl, rfl⟩ := hex
        obtain ⟨c, rfl⟩ := Int.eq_ofNat_of_zero_le (Int.le_of_lt h0)
        have hc0 : 0 < c := by omega
        have hbd2 : c * (bytes + 1) ≤ 140737488355328 := by
          have : ((c * (bytes + 1) : Nat) : Int) ≤ 140737488355328 := by simpa using hbd
          omega
        have hbb : c * bytes ≤ 140737488355328 := by
          have : c * bytes ≤ c * (bytes + 1) := Nat.mul_le_mul_left _ (by omega)
          omega
        have hcc : c ≤ 140737488355328 := by
          have : c * 1 ≤ c * (bytes + 1) := Nat.mul_le_mul_left _ (by omega)
          omega
        have hr := Lib.run_append_nil_zeros (P := P) w t t2 o.type e ti zv k0 kn hu hu2 hi hzv c hc0 (by omega) (by omega) (by rw [hby]; omega)
        have hge := grownCap_ge w c 0 e
        have hcm : grownCap w c 0 e ≤ maxLen := grownCap_le_maxLen w c 0 e (by unfold maxLen; omega)
        have hsz2 : (Builtin.zeroCells zv.cells c ++ Builtin.zeroCells zv.cells (grownCap w c 0 e - c)).size = grownCap w c 0 e * sz := by
          simp only [Array.size_append, size_zeroCells, hzs, ← Nat.add_mul]
          congr 1; omega
        have hrz' := reps_zeroCells hpos hzs (hrz.cells hzd) c
        refine ⟨_, _, g.add n w.heap.size (some (grownCap w c 0 e)), _, hrun _ _ (by rw [hrx.nils_inv, hry.int_inv]; exact hr), .inl rfl, ?_⟩
        have hl := hrz'.1
        simp only [Int.toNat_natCast]
        refine step_new (w := w.drew) h.inv.drew (h.fresh n (Nat.le_refl _) (by omega)) _ (ObOk.row he hcm hsz2 (Soft.zero _) ?_ ?_) (.rsl n 0 c _ _ _ Gm.add_same hge (fun c hc _ => by simpa using hc))
        · rw [← hl]; simp
        · have : (Builtin.zeroCells zv.cells c ++ Builtin.zeroCells zv.cells (grownCap w c 0 e - c)).toList.take (List.replicate c z.cells).flatten.length = (Builtin.zeroCells zv.cells c).toList := by
            rw [← hl, Array.toList_append, List.take_left]
          rw [this]; exact hrz'
      · cases hex
  · cases hex

theorem does_s2b {src dst e : TypeId} {o : Oper} {x : Operand} {y : Arg} {bytes : Nat} (h : At P B w0 w m g n n' s a) (hs : P.underlying src = some .string) (hd : P.underlying dst = some (.slice e)) (he : P.underlying e = some (.int .u8)) (hel : Vd.elemOf P e = some (1, bytes))
    (hx : trArg x = some y) (ho : o.op = .convert src dst x) (hex : exec s m n (.s2b e y) = some (d, u, n')) : Does P B w0 g n w (Upd.app m u) d n' (execOp a.eval o) := by
  have hr := h.slots.arg hx
  simp only [exec] at hex
  split at hex
  · rename_i b e1
    rw [e1] at hr
    split at hex
    · rename_i hbl
      simp only [Option.some.injEq, Prod.mk.injEq] at hex
      obtain ⟨rfl, rfl, rfl⟩ := hex
      have hsz : (ByteArray.mk b.toArray).size = b.length := by simp [ByteArray.size]
      have hrun := Lib.run_convert_string_bytes (P := P) w src dst e ⟨b.toArray⟩ hs hd he
      rw [hsz] at hrun
      have hnew := Lib.bytesWorld_at_new w e ⟨b.toArray⟩
      have hsize := Lib.bytesWorld_size w e ⟨b.toArray⟩
      have hbelow : Below w.heap.size w (Lib.bytesWorld w e ⟨b.toArray⟩) :=
        ⟨rfl, rfl, rfl, by rw [hsize]; omega, fun k hk => Lib.bytesWorld_at_old w e _ k hk⟩
      have hfr := h.fresh n (Nat.le_refl _) (by omega)
      have hge := grownCap_ge w b.length 0 e
      have hcs : (Lib.bytesCells w e ⟨b.toArray⟩).size = grownCap w b.length 0 e * 1 := by simp [Lib.bytesCells, hsz]; omega
      have hcm : grownCap w b.length 0 e ≤ maxLen := grownCap_le_maxLen w b.length 0 e (by unfold maxLen; omega)
      have x := Gm.add_le (b := w.heap.size) (C := some (grownCap w b.length 0 e)) hfr.2
      have hov := h.inv.over hbelow
      refine ⟨.slice (some ⟨w.heap.size, 0, none⟩) b.length (grownCap w b.length 0 e), Lib.bytesWorld w e ⟨b.toArray⟩, g.add n w.heap.size (some (grownCap w b.length 0 e)), .value (.slice (some ⟨w.heap.size, 0, none⟩) b.length (grownCap w b.length 0 e)), ?_, .inl rfl, ⟨?_, x, fun i hi => Gm.add_other (by omega), .rsl n 0 _ _ _ _ Gm.add_same hge (fun c hc _ => by simpa using hc)⟩⟩
      · simp only [execOp, ho, hr.str_inv, Sem.run_bind, hrun, Result.andThen_ok, Sem.run_pure]
      · have hob : ObOk P (g.add n w.heap.size (some (grownCap w b.length 0 e))) (some (grownCap w b.length 0 e)) (.cells (bytesD b) (.row e)) (Lib.bytesWorld w e ⟨b.toArray⟩).heap[w.heap.size]? := by
          rw [hnew]
          refine ObOk.row hel hcm hcs (.inr (Nat.le_refl _)) (by rw [hcs]; simp [bytesD]; omega) ?_
          have : (Lib.bytesCells w e ⟨b.toArray⟩).toList.take (bytesD b).length = b.map fun c => Value.int .u8 c.toNat := by
            simp only [Lib.bytesCells, Array.toList_append]
            rw [List.take_append_of_le_length (by simp [bytesD]), List.take_of_length_le (by simp [bytesD])]
            simp
          rw [this]
          exact reps_bytes b
        have old : ∀ j, m j ≠ none → ∀ b' D, (g.add n w.heap.size (some (grownCap w b.length 0 e))) j = some (b', D) → j ≠ n ∧ g j = some (b', D) ∧ b' < w.heap.size := by
          intro j hj b' D hb'
          have hjn : j ≠ n := by rintro rfl; exact hj hfr.1
          rw [Gm.add_other hjn] at hb'
          cases hmj : m j with
          | none => exact absurd hmj hj
          | some ob' =>
            obtain ⟨b1, D', h1, h2, h3⟩ := h.inv.obj j ob' hmj
            rw [hb'] at h1
            simp only [Option.some.injEq, Prod.mk.injEq] at h1
            obtain ⟨rfl, rfl⟩ := h1
            exact ⟨hjn, hb', h3.lt⟩
        refine ⟨hov.below, hov.size, fun j ob hj => ?_, fun j j' b1 D D' h1 h2 h3 h4 => ?_⟩
        · by_cases hjn : j = n
          · subst hjn
            simp only [Upd.app, Mem.put_same, Option.some.injEq] at hj
            subst hj
            exact ⟨w.heap.size, _, Gm.add_same, h.inv.size, hob⟩
          · simp only [Upd.app, Mem.put_other hjn] at hj
            obtain ⟨b1, D, h1, h2, h3⟩ := hov.obj j ob hj
            exact ⟨b1, D, x _ _ h1, h2, h3.ext x⟩
        · by_cases hj : j = n
          · by_cases hj' : j' = n
            · rw [hj, hj']
            · simp only [Upd.app, Mem.put_other hj'] at h2
              obtain ⟨_, _, lt⟩ := old j' h2 _ _ h4
              subst hj
              rw [Gm.add_same] at h3
              simp only [Option.some.injEq, Prod.mk.injEq] at h3
              omega
          · simp only [Upd.app, Mem.put_other hj] at h1
            obtain ⟨_, a2, lt⟩ := old j h1 _ _ h3
            by_cases hj' : j' = n
            · subst hj'
              rw [Gm.add_same] at h4
              simp only [Option.some.injEq, Prod.mk.injEq] at h4
              omega
            · simp only [Upd.app, Mem.put_other hj'] at h2
              obtain ⟨_, b2, _⟩ := old j' h2 _ _ h4
              exact hov.inj j j' b1 D D' h1 h2 a2 b2
    · cases hex
  · cases hex

theorem unbytesD_some : ∀ {xs : List D} {b : List UInt8}, unbytesD xs = some b → ∃ ns : List Int, xs = ns.map (D.int .u8) ∧ b = ns.map fun n => UInt8.ofNat n.toNat
  | [], b, h => by simp only [unbytesD, Option.some.injEq] at h; subst h; exact ⟨[], rfl, rfl⟩
  | x :: r, b, h => by
    unfold unbytesD at h
    split at h
    · rename_i heq; cases heq
    · rename_i n r' heq
      cases heq
      rw [Option.map_eq_some_iff] at h
      obtain ⟨b', hb, rfl⟩ := h
      obtain ⟨ns, rfl, rfl⟩ := unbytesD_some hb
      exact ⟨n :: ns, rfl, rfl⟩
    · cases h

theorem does_b2s {src dst e : TypeId} {o : Oper} {x : Operand} {y : Arg} (h : At P B w0 w m g n n' s a) (hs : P.underlying src = some (.slice e)) (hd : P.underlying dst = some .string) (he : P.underlying e = some (.int .u8))
    (hx : trArg x = some y) (ho : o.op = .convert src dst x) (hex : exec s m n (.b2s y) = some (d, u, n')) : Does P B w0 g n w (Upd.app m u) d n' (execOp a.eval o) := by
  have hr := h.slots.arg hx
  simp only [exec] at hex
  split at hex
  · rename_i k cs e1
    obtain ⟨us, hsrc, hrep⟩ := slCells_sound h.inv hr e1
    refine .pureM h.inv hex (fun b hb => ⟨.string ⟨b.toArray⟩, ?_, .str _⟩)
    obtain ⟨ns, rfl, rfl⟩ := unbytesD_some hb
    have hus : us = ns.map (Value.int .u8) := by
      apply List.ext_getElem?
      intro j
      have hl := hrep.1
      by_cases hj : j < us.length
      · have hj2 : j < ns.length := by simpa [hl] using hj
        have := hrep.2.2 j (.int .u8 ns[j]) us[j] (by simp [hj2]) (List.getElem?_eq_getElem hj)
        rw [List.getElem?_eq_getElem hj, this.int_inv]; simp [hj2]
      · rw [List.getElem?_eq_none (by omega), List.getElem?_eq_none (by simp; simp at hl; omega)]
    subst hus
    have hul := hsrc.wl
    simp only [List.length_map, Nat.mul_one] at hul
    have hconv : ∀ ad c cc, (convert src dst (.slice ad c cc)).run P w = (Conv.bytesToString (.slice ad c cc)).run P w := by
      intro ad c cc
      cases ad <;> simp [convert, run_underlying hs, run_underlying hd, run_underlying he]
    have fin : ∀ ad c cc, a.eval x = .slice ad c cc → (Conv.bytesToString (.slice ad c cc)).run P w = .ok (.string ⟨(ns.map fun n => UInt8.ofNat n.toNat).toArray⟩) w → (execOp a.eval o).run P w = .ok (.value (.string ⟨(ns.map fun n => UInt8.ofNat n.toNat).toArray⟩)) w := by
      intro ad c cc ev e2
      simp only [execOp, ho, ev, Sem.run_bind, hconv, e2, Result.andThen_ok, Sem.run_pure]
    have some_ : ∀ ad c, a.eval x = .slice (some ad) k c → (execOp a.eval o).run P w = .ok (.value (.string ⟨(ns.map fun n => UInt8.ofNat n.toNat).toArray⟩)) w := by
      intro ad c ev
      have hload : (loadCells ad k).run P w = .ok (ns.map (Value.int .u8)).toArray w := by
        have := hsrc.cells
        rw [ev] at this
        simpa [Builtin.firstCells] using this
      have hrun := run_bytesToString (P := P) w ad k c ns hload
      have hfold := Vd.foldl_push_ofNat ns []
      refine fin _ _ _ ev ?_
      rw [hrun]
      rw [show ByteArray.empty = ⟨([] : List UInt8).toArray⟩ from rfl, hfold]
      rfl
    unfold slCells at e1
    split at e1
    · rename_i i o' c ex
      rw [ex] at hr
      obtain ⟨b, cc, C, ev, _⟩ := hr.rsl_inv
      split at e1
      · split at e1
        · simp only [Option.some.injEq, Prod.mk.injEq] at e1
          obtain ⟨rfl, _⟩ := e1
          exact some_ _ _ ev
        · cases e1
      · cases e1
    · rename_i ex
      rw [ex] at hr
      obtain ⟨ad, c, ev⟩ := hr.esl_inv
      simp only [Option.some.injEq, Prod.mk.injEq] at e1
      obtain ⟨rfl, _⟩ := e1
      exact some_ _ _ ev
    · rename_i ex
      rw [ex] at hr
      obtain ⟨ad, ev⟩ := hr.esl0_inv
      simp only [Option.some.injEq, Prod.mk.injEq] at e1
      obtain ⟨rfl, _⟩ := e1
      exact some_ _ _ ev
    · rename_i ex
      rw [ex] at hr
      simp only [Option.some.injEq, Prod.mk.injEq] at e1
      obtain ⟨rfl, e2⟩ := e1
      have hns : ns = [] := by cases ns with | nil => rfl | cons a b => cases e2
      subst hns
      refine fin _ _ _ hr.nils_inv ?_
      simp [Conv.bytesToString]
      rfl
    · cases e1
  · cases hex
end
end Go.Ve

namespace Go.Ve
open Go.RowKit
set_option linter.unusedSimpArgs false
set_option linter.unusedVariables false

section
variable {P : Program} {B : Nat} {w0 w : World} {m : Mem} {g : Gm} {n n' : Nat} {s : Nat → D} {a : Act} {d : D} {u : Upd}

theorem does_cutm {t e : TypeId} {o : Oper} {x : Operand} {lo : Option Operand} {hi mx : Operand} {y : Arg} {l' h' m' : Option Arg} {sz : Nat} (h : At P B w0 w m g n n' s a) (hu : P.underlying t = some (.slice e)) (hs : Vd.szOf P e = some sz)
    (hx : trArg x = some y) (hlo : trOpt lo = some l') (hhi : trOpt (some hi) = some h') (hmx : trOpt (some mx) = some m') (ho : o.op = .slice t x lo (some hi) (some mx)) (he : exec s m n (.cutm sz y l' h' m') = some (d, u, n')) :
    Does P B w0 g n w (Upd.app m u) d n' (execOp a.eval o) := by
  have hr := h.slots.arg hx
  have hrun : ∀ ad c cc l hh m1, a.eval x = .slice ad c cc → (Instr.sliceBounds true c cc (lo.map a.eval) (some (a.eval hi)) (some (a.eval mx))).run P w = .ok (l, hh, m1) w →
      (execOp a.eval o).run P w = .ok (.value (.slice (if m1 = l then ad else ad.map (·.add (l * sz))) (hh - l) (m1 - l))) w := by
    intro ad c cc l hh m1 e1 e2
    simp only [execOp, ho, Instr.sliceAt, Sem.run_bind, run_underlying hu, Result.andThen_ok, Instr.slice, e1, Option.map_some, e2, Vd.run_sizeOf' hs, Sem.run_pure]
  -- all three bounds
  have hb3 : ∀ c cc h1 l hh, c ≤ cc → bound s m' c c = some h1 → bounds s l' h' h1 = some (l, hh) →
      (Instr.sliceBounds true c cc (lo.map a.eval) (some (a.eval hi)) (some (a.eval mx))).run P w = .ok (l, hh, h1) w ∧ l ≤ hh ∧ hh ≤ h1 ∧ h1 ≤ c := by
    intro c cc h1 l hh hc e1 e2
    unfold bounds at e2
    split at e2
    · rename_i hh1 eh
      split at e2
      · rename_i l1 el
        simp only [Option.some.injEq, Prod.mk.injEq] at e2
        obtain ⟨rfl, rfl⟩ := e2
        rcases bound_sound h.slots hmx e1 with ⟨h0, _⟩ | ⟨om, km, hm1, em, hm2⟩
        · cases h0
        simp only [Option.some.injEq] at hm1; subst hm1
        rcases bound_sound h.slots hhi eh with ⟨h0, _⟩ | ⟨oh, kh, hh1, eoh, hh2⟩
        · cases h0
        simp only [Option.some.injEq] at hh1; subst hh1
        rcases bound_sound h.slots hlo el with ⟨rfl, rfl, _⟩ | ⟨ol, kl, rfl, eol, hl2⟩
        · refine ⟨?_, Nat.zero_le _, hh2, hm2⟩
          have c1 : (0 : Int) ≤ (h1 : Int) ∧ (h1 : Int) ≤ (cc : Int) := by omega
          have c2 : (0 : Int) ≤ (hh1 : Int) ∧ (hh1 : Int) ≤ (h1 : Int) := by omega
          simp only [Instr.sliceBounds, Instr.sliceBound, asIntOf, em, eoh, Sem.run_bind, Sem.run_pure, Result.andThen_ok, c1, c2, and_self, if_true, Option.map_none, Int.toNat_natCast]
        · refine ⟨?_, hl2, hh2, hm2⟩
          have c1 : (0 : Int) ≤ (h1 : Int) ∧ (h1 : Int) ≤ (cc : Int) := by omega
          have c2 : (0 : Int) ≤ (hh1 : Int) ∧ (hh1 : Int) ≤ (h1 : Int) := by omega
          have c3 : (0 : Int) ≤ (l1 : Int) ∧ (l1 : Int) ≤ (hh1 : Int) := by omega
          simp only [Instr.sliceBounds, Instr.sliceBound, asIntOf, em, eoh, eol, Sem.run_bind, Sem.run_pure, Result.andThen_ok, c1, c2, c3, and_self, if_true, Option.map_some, Int.toNat_natCast]
      · cases e2
    · cases e2
  simp only [exec] at he
  split at he
  · rename_i i o' c ex
    rw [ex] at hr
    obtain ⟨b, cc, C, e1, hb, hc, _⟩ := hr.rsl_inv
    split at he
    · rename_i h1 eb
      split at he
      · rename_i l hh eb2
        split at he
        · rename_i hl
          subst hl
          obtain ⟨q1, q2, q3, q4⟩ := hb3 c cc l l hh hc eb eb2
          obtain rfl : hh = l := by omega
          refine .pureE h.inv (hrun _ _ _ _ _ _ e1 q1) ?_ he
          rw [if_pos rfl, Nat.sub_self]
          exact .esl0 _
        · cases he
      · cases he
    · cases he
  · rename_i ex
    rw [ex] at hr
    split at he
    · rename_i h1 eb
      split at he
      · rename_i x1 eb2
        obtain ⟨l, hh⟩ := x1
        have hh1 : h1 = 0 := by
          rcases bound_sound h.slots hmx eb with ⟨h0, _⟩ | ⟨_, _, _, _, h2⟩
          · cases h0
          · omega
        subst hh1
        obtain ⟨q1, q2, q3, q4⟩ := hb3 0 0 0 l hh (Nat.le_refl _) eb eb2
        obtain rfl : hh = 0 := by omega
        obtain rfl : l = 0 := by omega
        exact .pureE h.inv (hrun _ _ _ _ _ _ hr.nils_inv q1) (by simpa using Rep.nils) he
      · cases he
    · cases he
  · rename_i ex
    rw [ex] at hr
    obtain ⟨ad, cc, e1⟩ := hr.esl_inv
    split at he
    · rename_i h1 eb
      split at he
      · rename_i x1 eb2
        obtain ⟨l, hh⟩ := x1
        have hh1 : h1 = 0 := by
          rcases bound_sound h.slots hmx eb with ⟨h0, _⟩ | ⟨_, _, _, _, h2⟩
          · cases h0
          · omega
        subst hh1
        obtain ⟨q1, q2, q3, q4⟩ := hb3 0 cc 0 l hh (Nat.zero_le _) eb eb2
        obtain rfl : hh = 0 := by omega
        obtain rfl : l = 0 := by omega
        exact .pureE h.inv (hrun _ _ _ _ _ _ e1 q1) (by simpa using Rep.esl0 ad) he
      · cases he
    · cases he
  · rename_i ex
    rw [ex] at hr
    obtain ⟨ad, e1⟩ := hr.esl0_inv
    split at he
    · rename_i h1 eb
      split at he
      · rename_i x1 eb2
        obtain ⟨l, hh⟩ := x1
        have hh1 : h1 = 0 := by
          rcases bound_sound h.slots hmx eb with ⟨h0, _⟩ | ⟨_, _, _, _, h2⟩
          · cases h0
          · omega
        subst hh1
        obtain ⟨q1, q2, q3, q4⟩ := hb3 0 0 0 l hh (Nat.le_refl _) eb eb2
        obtain rfl : hh = 0 := by omega
        obtain rfl : l = 0 := by omega
        exact .pureE h.inv (hrun _ _ _ _ _ _ e1 q1) (by simpa using Rep.esl0 ad) he
      · cases he
    · cases he
  · cases he

theorem does_tass {x : Operand} {xt t : TypeId} {ok : Bool} {z : D} {o : Oper} {p : Arg} {td : TypeDesc} (h : At P B w0 w m g n n' s a) (hu : P.underlying t = some td) (hni : ∀ ms, td ≠ .interface ms) (hz : zeroOf P t = some z)
    (hx : trArg x = some p) (ho : o.op = .typeAssert x xt t ok) (hex : exec s m n (.tass t ok z p) = some (d, u, n')) : Does P B w0 g n w (Upd.app m u) d n' (execOp a.eval o) := by
  have hrx := h.slots.arg hx
  obtain ⟨zv, hzr, hzero⟩ : ∃ zv, Rep g z zv ∧ (zeroValue t).run P w = .ok zv w := by
    obtain ⟨i, v, hi, hv, hr, _⟩ := zeroOf_some hz g
    exact ⟨v, hr, by simp [zeroValue, typeInfo, hi, hv]⟩
  have hgo : ∀ v, (Instr.typeAssert (a.eval x) xt t ok).run P w = .ok v w → (execOp a.eval o).run P w = .ok (.value v) w := by
    intro v e
    simp only [execOp, ho, Sem.run_bind, e, Result.andThen_ok, Sem.run_pure]
  simp only [exec] at hex
  split at hex
  · rename_i t' d' ex
    rw [ex] at hrx
    obtain ⟨v, ev, hv⟩ := hrx.iface_inv
    split at hex
    · rename_i htt
      subst htt
      refine .pureE (v := if ok then .tuple #[v, .bool true] else v) h.inv (hgo _ ?_) ?_ hex
      · rw [ev]
        unfold Instr.typeAssert
        simp only [Sem.run_bind, run_underlying hu, Result.andThen_ok]
        cases td <;> first | exact absurd rfl (hni _) | (cases ok <;> simp)
      · cases ok
        · exact hv
        · exact Rep.tup2 hv (.bool true)
    · rename_i htt
      split at hex
      · rename_i hok
        subst hok
        refine .pureE (v := .tuple #[zv, .bool false]) h.inv (hgo _ ?_) (Rep.tup2 hzr (.bool false)) hex
        rw [ev]
        unfold Instr.typeAssert
        simp only [Sem.run_bind, run_underlying hu, Result.andThen_ok]
        have htt' : ¬ t' = t := htt
        cases td <;> first | exact absurd rfl (hni _) | (simp [htt', hzero])
      · cases hex
  · rename_i ex
    rw [ex] at hrx
    have ev := hrx.nili_inv
    split at hex
    · rename_i hok
      subst hok
      refine .pureE (v := .tuple #[zv, .bool false]) h.inv (hgo _ ?_) (Rep.tup2 hzr (.bool false)) hex
      rw [ev]
      unfold Instr.typeAssert
      simp only [Sem.run_bind, run_underlying hu, Result.andThen_ok]
      cases td <;> first | exact absurd rfl (hni _) | (simp [hzero])
    · cases hex
  · cases hex

/-! ### Strings that are gone through -/

theorem does_range {t : TypeId} {o : Oper} {x : Operand} {y : Arg} (h : At P B w0 w m g n n' s a) (hu : P.underlying t = some .string) (hx : trArg x = some y) (ho : o.op = .range t x)
    (he : exec s m n (.range y) = some (d, u, n')) : Does P B w0 g n w (Upd.app m u) d n' (execOp a.eval o) := by
  have hr := h.slots.arg hx
  simp only [exec] at he
  split at he
  · rename_i b ex
    rw [ex] at hr
    simp only [Option.some.injEq, Prod.mk.injEq] at he
    obtain ⟨rfl, rfl, rfl⟩ := he
    refine ⟨.pointer (some ⟨w.heap.size, 0, none⟩), w.alloc (.stringIter ⟨b.toArray⟩ 0), g.add n w.heap.size none, .value (.pointer (some ⟨w.heap.size, 0, none⟩)), ?_, .inl rfl, ?_⟩
    · simp [execOp, ho, Instr.range, run_underlying hu, hr.str_inv]
    · exact step_new h.inv (h.fresh n (Nat.le_refl _) (by omega)) none (by exact rfl) (.ptr n 0 _ none Gm.add_same)
  · cases he

theorem Below.setObj {B b : Nat} {w : World} {o : Obj} (h : B ≤ b) : Below B w (World.setObj w b o) :=
  ⟨rfl, rfl, rfl, by simp [World.setObj], fun k hk => setObj_other (by omega)⟩

theorem does_next {o : Oper} {x : Operand} {y : Arg} (h : At P B w0 w m g n n' s a) (hx : trArg x = some y) (ho : o.op = .next x true)
    (he : exec s m n (.next y) = some (d, u, n')) : Does P B w0 g n w (Upd.app m u) d n' (execOp a.eval o) := by
  have hr := h.slots.arg hx
  simp only [exec] at he
  split at he
  · rename_i i ex
    rw [ex] at hr
    obtain ⟨b, C, e1, hb⟩ := hr.ptr_inv
    split at he
    · rename_i bs pos hm
      obtain ⟨b', C', h1, hB, h3⟩ := h.inv.obj i _ hm
      rw [hb] at h1
      simp only [Option.some.injEq, Prod.mk.injEq] at h1
      obtain ⟨rfl, rfl⟩ := h1
      have h3' : w.heap[b]? = some (.stringIter ⟨bs.toArray⟩ pos) := h3
      have hlt : b < w.heap.size := (Array.getElem?_eq_some_iff.1 h3').1
      have hget : (getObj b).run P w = .ok (.stringIter ⟨bs.toArray⟩ pos) w := by simp [getObj, Sem.run, h3']
      have hset : ∀ o', (setObj b o').run P w = .ok () (World.setObj w b o') := by intro o'; simp [setObj, Sem.run, h3', World.setObj]
      have hsz : (ByteArray.mk bs.toArray).size = bs.length := by simp [ByteArray.size]
      split at he
      · rename_i hp
        simp only [Option.some.injEq, Prod.mk.injEq] at he
        obtain ⟨rfl, rfl, rfl⟩ := he
        refine ⟨.tuple #[.bool true, .int .i64 (pos : Nat), .int .i32 (Utf8.decode ⟨bs.toArray⟩ pos).1], World.setObj w b (.stringIter ⟨bs.toArray⟩ (pos + (Utf8.decode ⟨bs.toArray⟩ pos).2)), g, .value (.tuple #[.bool true, .int .i64 (pos : Nat), .int .i32 (Utf8.decode ⟨bs.toArray⟩ pos).1]), ?_, .inl rfl, ⟨?_, Gm.le.refl g, fun _ _ => rfl, ?_⟩⟩
        · simp only [execOp, ho, Instr.next, e1, Sem.run_bind, hget, Result.andThen_ok, hsz, hp, if_true]
          cases hd : Utf8.decode ⟨bs.toArray⟩ pos with
          | mk c wd =>
            simp only [Sem.run_bind, hset, Result.andThen_ok, Sem.run_pure]
            rfl
        · refine h.inv.upd (by rw [hm]; simp) hb (Below.setObj hB) (by simp [World.setObj]) (fun k hk => setObj_other hk) ?_
          rw [setObj_same hlt]
          rfl
        · refine .tup _ [.bool true, .int .i64 (pos : Nat), .int .i32 (Utf8.decode ⟨bs.toArray⟩ pos).1] rfl (fun j d v hd hv => ?_)
          match j with
          | 0 => simp at hd hv; subst hd hv; exact .bool _
          | 1 => simp at hd hv; subst hd hv; exact .int _ _
          | 2 => simp at hd hv; subst hd hv; exact .int _ _
          | j + 3 => simp at hd
      · rename_i hp
        refine .pureE h.inv (v := .tuple #[.bool false]) ?_ (.tup [.bool false] [.bool false] rfl (fun j d v hd hv => ?_)) he
        · simp only [execOp, ho, Instr.next, e1, Sem.run_bind, hget, Result.andThen_ok, hsz, hp, if_false, Sem.run_pure]
        · match j with
          | 0 => simp at hd hv; subst hd hv; exact .bool _
          | j + 1 => simp at hd
    · cases he
  · cases he

/-! ### The greatest and the least -/

theorem ints_some : ∀ {xs : List D} {l : List (IntKind × Int)}, ints xs = some l → xs = l.map fun p => D.int p.1 p.2
  | [], l, h => by simp only [ints, Option.some.injEq] at h; subst h; rfl
  | x :: r, l, h => by
    unfold ints at h
    split at h
    · rename_i heq; cases heq
    · rename_i k n r' heq
      cases heq
      rw [Option.map_eq_some_iff] at h
      obtain ⟨l', hl, rfl⟩ := h
      rw [ints_some hl]; rfl
    · cases h

theorem run_mm (mx : Bool) (k : IntKind) : ∀ (l : List (IntKind × Int)) (x : Int), ((l.map fun p => Value.int p.1 p.2).foldlM (m := Sem) (if mx then Builtin.max2 else Builtin.min2) (.int k x)).run P w = .ok (.int k (l.foldl (fun a b => mm2 mx a b.2) x)) w
  | [], x => by simp
  | p :: r, x => by
    rw [List.map_cons, List.foldlM_cons]
    have : ((if mx then Builtin.max2 else Builtin.min2) (.int k x) (.int p.1 p.2)).run P w = .ok (.int k (mm2 mx x p.2)) w := by
      cases mx <;> simp [Builtin.max2, Builtin.min2, mm2]
    simp only [Sem.run_bind, this, Result.andThen_ok]
    exact run_mm mx k r _

theorem does_mm {o : Oper} {mx : Bool} {c : Call} {x : Arg} {ys : List Arg} (h : At P B w0 w m g n n' s a) (hc : c.callee = .builtin (if mx then .max else .min)) (hl : trArgs c.args.toList = some (x :: ys)) (ho : o.op = .call c)
    (he : exec s m n (.mm mx x ys) = some (d, u, n')) : Does P B w0 g n w (Upd.app m u) d n' (execOp a.eval o) := by
  obtain ⟨a1, a2⟩ := h.slots.args hl
  simp only [exec] at he
  split at he
  · rename_i k q l ex ey
    have hys := ints_some ey
    have hvs : c.args.toList.map a.eval = Value.int k q :: l.map fun p => Value.int p.1 p.2 := by
      simp only [List.length_map, List.length_cons] at a1
      apply List.ext_getElem?
      intro j
      by_cases hj : j < c.args.toList.length
      · have hv : (c.args.toList.map a.eval)[j]? = some (a.eval c.args.toList[j]) := by simp at hj; simp [hj]
        rw [hv]
        cases j with
        | zero =>
          have := a2 0 _ _ (by simp; rfl) hv
          rw [ex] at this
          rw [this.int_inv]; rfl
        | succ j =>
          have hj' : j < ys.length := by omega
          have hd : (ys.map (·.ev s))[j]? = some (ys[j].ev s) := by simp [hj']
          have := a2 (j + 1) _ _ (by simpa using hd) hv
          have hlj : j < l.length := by have := congrArg List.length hys; simp at this; omega
          have e3 : ys[j].ev s = D.int l[j].1 l[j].2 := by
            rw [hys] at hd
            simpa [hlj] using hd.symm
          rw [e3] at this
          rw [this.int_inv]
          simp [hlj]
      · have hll : l.length = ys.length := by have := congrArg List.length hys; simpa using this.symm
        rw [List.getElem?_eq_none (by simpa using hj), List.getElem?_eq_none (by rw [List.length_cons, List.length_map]; omega)]
    refine .pureE h.inv (v := .int k (l.foldl (fun a b => mm2 mx a b.2) q)) ?_ (.int _ _) he
    have hr := run_mm (P := P) (w := w) mx k l q
    cases mx
    · simp only [Bool.false_eq_true, if_false] at hc hr
      simp only [execOp, ho, resolve, hc, invoke, builtin, Sem.run_bind, Sem.run_pure, Result.andThen_ok, Builtin.min_, Array.toList_map, hvs, hr]
    · simp only [if_true] at hc hr
      simp only [execOp, ho, resolve, hc, invoke, builtin, Sem.run_bind, Sem.run_pure, Result.andThen_ok, Builtin.max_, Array.toList_map, hvs, hr]
  · cases he
end
end Go.Ve
