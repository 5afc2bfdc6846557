/- A part of the proof; nothing in it is assumed: what an argument holds, as it lies. -/
import Derived.Test.YtpiplnfjodahpaaGreatDoorMFitsP6
import Derived.Deep.Slices
import Derived.Deep.Fields
import Derived.ChangeSame
import Derived.ChangeArms
namespace Go.Vx
open Go.Vd Go.RowKit Go.ChangeShapes Go.WideShapes Go.Deep
set_option linter.unusedSimpArgs false
set_option linter.unusedVariables false
set_option maxHeartbeats 4000000
set_option maxRecDepth 100000
theorem add_off (a : Addr) (j : Nat) : (a.add j).off = a.off + j := by unfold Addr.add; split <;> simp_all
theorem add_block (a : Addr) (j : Nat) : (a.add j).block = a.block := by unfold Addr.add; split <;> rfl
theorem cell_in {w : World} {p : Addr} {v : Value} (h : w.cell? p = some v) : p.off < allG w p.block := by
  unfold World.cell? at h
  unfold allG
  split at h
  · grind
  · cases h

theorem exists_list {α : Type} {p : Nat → α → Prop} : ∀ n, (∀ i, i < n → ∃ x, p i x) → ∃ l : List α, l.length = n ∧ ∀ i x, l[i]? = some x → p i x
  | 0, _ => ⟨[], rfl, by simp⟩
  | n + 1, h => by
    obtain ⟨l, h1, h2⟩ := exists_list n (fun i hi => h i (by omega))
    obtain ⟨x, hx⟩ := h n (by omega)
    refine ⟨l ++ [x], by simp [h1], fun i y hy => ?_⟩
    by_cases hi : i < l.length
    · grind
    · grind

def isSt (P : Program) (t : TypeId) : Bool := match P.underlying t with
  | some (.struct _) => true
  | _ => false
def wrapD : Bool → List D → D
  | true, cs => .agg cs
  | false, [d] => d
  | false, _ => .junk
def FitL (F : TypeId → List D → Prop) : List TypeId → List D → Prop
  | [], ds => ds = []
  | t :: r, ds => ∃ a b, ds = a ++ b ∧ F t a ∧ FitL F r b
/-- Plain values, by a type's shape. -/
def Fit (P : Program) : Nat → TypeId → List D → Prop
  | 0, _, _ => False
  | n + 1, t, ds => match P.underlying t with
    | some .string => ∃ s, ds = [.str s]
    | some .bool => ∃ b, ds = [.bool b]
    | some (.int k) => ∃ x, ds = [.int k x] ∧ (Lit.int k x).wf = true
    | some (.struct fs) => FitL (Fit P n) (fs.toList.map (·.type)) ds
    | some (.slice e) => ∃ nl xs, ds = [.slice nl [] xs] ∧ (nl = true → xs = []) ∧ ∀ x ∈ xs, ∃ cs, x = wrapD (isSt P e) cs ∧ Fit P n e cs
    | _ => False
def tile (P : Program) (c : Nat) : List Field → Nat → Bool
  | [], o => o == c
  | f :: r, o => f.offset == o && tile P c r (o + P.cellsOf f.type)
def plainT (P : Program) : Nat → TypeId → Bool
  | 0, _ => false
  | n + 1, t => match P.underlying t with
    | some .string => P.cellsOf t == 1
    | some .bool => P.cellsOf t == 1
    | some (.int _) => P.cellsOf t == 1
    | some (.struct fs) => tile P (P.cellsOf t) fs.toList 0 && fs.toList.all fun f => plainT P n f.type
    | some (.slice e) => P.cellsOf t == 1 && plainT P n e
    | _ => false

/-- Cells that say what they say. -/
structure Says (w : World) (ds : List D) (cs : List Value) : Prop where
  len : ds.length = cs.length
  calm : ∀ d ∈ ds, d.calm1 = true
  un : ds.map D.un1 = ds
  rep : ∀ (j : Nat) d v, ds[j]? = some d → cs[j]? = some v → Rep w (startG (allG w)) d v ∧ v.oneCell' = true

theorem Says.one {w : World} {d : D} {v : Value} (h1 : d.calm1 = true) (h2 : d.un1 = d) (h3 : Rep w (startG (allG w)) d v) (h4 : v.oneCell' = true) : Says w [d] [v] :=
  ⟨rfl, fun x hx => by simp only [List.mem_cons, List.mem_nil_iff, or_false] at hx; subst hx; exact h1, by simp [h2], fun j x y hx hy => by
    match j with
    | 0 => simp only [List.getElem?_cons_zero, Option.some.injEq] at hx hy; subst hx hy; exact ⟨h3, h4⟩
    | j + 1 => simp at hx⟩

theorem flat_wrap {c : Nat} {b : Bool} : ∀ (l : List (List D)) (j : Nat) (d : D), (∀ ds ∈ l, ds.length = c ∧ (wrapD b ds).cells = ds) → (flat (l.map (wrapD b)))[j]? = some d → ∃ i k ds, l[i]? = some ds ∧ ds[k]? = some d ∧ j = i * c + k
  | [], j, d, _, h => by simp [flat] at h
  | x :: r, j, d, hl, h => by
    obtain ⟨h1, h2⟩ := hl x (List.mem_cons_self ..)
    simp only [List.map_cons, flat, h2] at h
    by_cases hj : j < x.length
    · rw [List.getElem?_append_left hj] at h
      exact ⟨0, j, x, rfl, h, by omega⟩
    · rw [List.getElem?_append_right (by omega)] at h
      obtain ⟨i, k, ds, e1, e2, e3⟩ := flat_wrap r _ d (fun ds hd => hl ds (List.mem_cons_of_mem _ hd)) h
      refine ⟨i + 1, k, ds, by simpa using e1, e2, ?_⟩
      rw [Nat.succ_mul]; omega

section
variable {H : Type} {enc : TypeId × Value → H} {P : Program} {w : World} {base : Nat} {spare : Nat → Bool} {held : Bool}

theorem read_fields {n : Nat} {cs : List Value} {fuel : Nat} (ih : ∀ t, plainT P n t = true → ∀ (fuel : Nat) (cs : List Value) x, DataW.trod enc P w base spare held fuel t cs = some x → cs.length = P.cellsOf t ∧ ∃ ds, Fit P n t ds ∧ Says w ds cs) :
    ∀ (fs : List Field) (o : Nat), tile P cs.length fs o = true → (fs.all fun f => plainT P n f.type) = true → (∀ (j : Nat) f, fs[j]? = some f → ∃ y, DataW.trod enc P w base spare held fuel f.type ((cs.drop f.offset).take (P.cellsOf f.type)) = some y) →
      o ≤ cs.length ∧ ∃ ds, FitL (Fit P n) (fs.map (·.type)) ds ∧ Says w ds (cs.drop o)
  | [], o, ht, _, _ => by
    simp only [tile, beq_iff_eq] at ht
    subst ht
    refine ⟨Nat.le_refl _, [], rfl, by simp, by simp, rfl, by simp⟩
  | f :: r, o, ht, hp, hf => by
    simp only [tile, Bool.and_eq_true, beq_iff_eq] at ht
    obtain ⟨rfl, ht⟩ := ht
    simp only [List.all_cons, Bool.and_eq_true] at hp
    obtain ⟨y, hy⟩ := hf 0 f rfl
    obtain ⟨h1, a, fa, sa⟩ := ih _ hp.1 _ _ _ hy
    obtain ⟨h2, b, fb, sb⟩ := read_fields ih r _ ht hp.2 (fun j g hg => hf (j + 1) g (by simpa using hg))
    have hsplit : cs.drop f.offset = (cs.drop f.offset).take (P.cellsOf f.type) ++ cs.drop (f.offset + P.cellsOf f.type) := by
      rw [← List.drop_drop, List.take_append_drop]
    refine ⟨by omega, a ++ b, ⟨a, b, rfl, fa, fb⟩, ?_⟩
    rw [hsplit]
    refine ⟨by rw [List.length_append, List.length_append, sa.len, sb.len], fun d hd => ?_, by rw [List.map_append, sa.un, sb.un], fun j d v hd hv => ?_⟩
    · rcases List.mem_append.1 hd with h | h
      · exact sa.calm d h
      · exact sb.calm d h
    · have hl := sa.len
      by_cases hj : j < a.length
      · rw [List.getElem?_append_left hj] at hd
        rw [List.getElem?_append_left (by omega)] at hv
        exact sa.rep j d v hd hv
      · rw [List.getElem?_append_right (by omega)] at hd
        rw [List.getElem?_append_right (by omega), ← hl] at hv
        exact sb.rep _ d v hd hv

theorem wrap_cells {n : Nat} {e : TypeId} {ds : List D} (h : Fit P n e ds) : (wrapD (isSt P e) ds).cells = ds ∧ (ds.all D.calm1 = true → (wrapD (isSt P e) ds).calm = true) := by
  cases n with
  | zero => exact h.elim
  | succ n =>
    unfold Fit at h
    unfold isSt
    split at h
    · rename_i he; rw [he]; obtain ⟨s, rfl⟩ := h; exact ⟨rfl, fun _ => rfl⟩
    · rename_i he; rw [he]; obtain ⟨s, rfl⟩ := h; exact ⟨rfl, fun _ => rfl⟩
    · rename_i he; rw [he]; obtain ⟨s, rfl, _⟩ := h; exact ⟨rfl, fun _ => rfl⟩
    · rename_i fs he; rw [he]; exact ⟨rfl, fun hc => by simpa [wrapD, D.calm] using hc⟩
    · rename_i he; rw [he]; obtain ⟨nl, xs, rfl, _⟩ := h; exact ⟨rfl, fun _ => rfl⟩
    · exact h.elim

theorem read_fit : ∀ (n : Nat) (t : TypeId), plainT P n t = true → ∀ (fuel : Nat) (cs : List Value) x, DataW.trod enc P w base spare held fuel t cs = some x → cs.length = P.cellsOf t ∧ ∃ ds, Fit P n t ds ∧ Says w ds cs
  | 0, t, hp => by simp [plainT] at hp
  | n + 1, t, hp => by
    intro fuel cs x h
    unfold plainT at hp
    unfold Fit
    split at hp
    · rename_i ht
      simp only [beq_iff_eq] at hp
      obtain ⟨s, rfl, _⟩ := DataW.trod_string ht h
      exact ⟨hp.symm, _, ⟨s.data.toList, rfl⟩, Says.one rfl rfl (.str _) rfl⟩
    · rename_i ht
      simp only [beq_iff_eq] at hp
      obtain ⟨b, rfl, _⟩ := DataW.trod_bool ht h
      exact ⟨hp.symm, _, ⟨b, rfl⟩, Says.one rfl rfl (.bool _) rfl⟩
    · rename_i k ht
      simp only [beq_iff_eq] at hp
      obtain ⟨b, rfl, _, hw⟩ := DataW.trod_int ht h
      exact ⟨hp.symm, _, ⟨b, rfl, hw⟩, Says.one rfl rfl (.int _ _) rfl⟩
    · rename_i fs ht
      simp only [Bool.and_eq_true] at hp
      obtain ⟨ys, n', _, _, hl, hyl, hf⟩ := DataW.trod_struct ht h
      rw [← hl] at hp
      have := read_fields (fuel := n') (read_fit n) fs.toList 0 hp.1 hp.2 (fun j f hj => by
        have hj' : fs[j]? = some f := by simpa using hj
        have hjl : j < fs.size := (Array.getElem?_eq_some_iff.1 hj').1
        have hys : ys[j]? = some (ys[j]'(by omega)) := List.getElem?_eq_getElem (by omega)
        exact ⟨_, (hf j f hj').trans hys⟩)
      obtain ⟨_, ds, h1, h2⟩ := this
      exact ⟨hl, ds, h1, by simpa using h2⟩
    · rename_i e ht
      simp only [Bool.and_eq_true, beq_iff_eq] at hp
      rcases open_slice ht h with ⟨rfl, _⟩ | ⟨a, len, cap, m, n', D', Pl, rfl, _, hl, _, hm, _, hi⟩
      · exact ⟨hp.1.symm, _, ⟨true, [], rfl, (fun _ => rfl), (fun x hx => by cases hx)⟩, Says.one rfl rfl (.nils []) rfl⟩
      · have hlm : len ≤ m := by rw [hm]; split <;> omega
        have hc := exists_list (p := fun i (ds : List D) => Fit P n e ds ∧ ds.length = P.cellsOf e ∧ ds.all D.calm1 = true ∧ ∀ (j : Nat) d, ds[j]? = some d → ∃ v, w.cell? (a.add (i * P.cellsOf e + j)) = some v ∧ Rep w (startG (allG w)) d v ∧ v.oneCell' = true) len (fun i hil => by
          obtain ⟨cs', h1, h2⟩ := hi i (by omega)
          obtain ⟨h3, ds, h4, h5⟩ := read_fit n e hp.2 _ _ _ h2
          refine ⟨ds, h4, h5.len.trans h3, List.all_eq_true.2 h5.calm, fun j d hd => ?_⟩
          have hj : j < ds.length := (List.getElem?_eq_some_iff.1 hd).1
          have hjc : j < cs'.length := by rw [← h5.len]; exact hj
          obtain ⟨_, _, hat⟩ := World.cells?_some h1
          obtain ⟨r1, r2⟩ := h5.rep j d _ hd (List.getElem?_eq_getElem hjc)
          refine ⟨_, ?_, r1, r2⟩
          rw [← Go.Deep.add_add, hat j (by omega), List.getElem?_eq_getElem hjc])
        obtain ⟨l, hll, hlp⟩ := hc
        have key : ∀ j, j < len * P.cellsOf e → ∃ v, w.cell? (a.add j) = some v ∧ v.oneCell' = true := by
          intro j hj
          have hc0 : 0 < P.cellsOf e := by
            grind
          have hi : j / P.cellsOf e < l.length := by rw [hll]; exact Nat.div_lt_of_lt_mul (by rw [Nat.mul_comm]; exact hj)
          obtain ⟨_, q2, _, q4⟩ := hlp _ _ (List.getElem?_eq_getElem hi)
          have hk : j % P.cellsOf e < (l[j / P.cellsOf e]).length := by rw [q2]; exact Nat.mod_lt _ hc0
          obtain ⟨v, h1, _, h3⟩ := q4 _ _ (List.getElem?_eq_getElem hk)
          rw [Nat.mul_comm, Nat.div_add_mod] at h1
          exact ⟨v, h1, h3⟩
        have hall : ∀ ds ∈ l, ds.length = P.cellsOf e ∧ (wrapD (isSt P e) ds).cells = ds ∧ (wrapD (isSt P e) ds).calm = true := fun ds hd => by
          obtain ⟨i, hi, rfl⟩ := List.getElem_of_mem hd
          obtain ⟨q1, q2, q3, _⟩ := hlp i _ (List.getElem?_eq_getElem hi)
          exact ⟨q2, (wrap_cells q1).1, (wrap_cells q1).2 q3⟩
        refine ⟨hp.1.symm, [.slice false [] (l.map (wrapD (isSt P e)))], ⟨false, _, rfl, (fun h0 => by cases h0), fun x hx => ?_⟩, Says.one rfl rfl ?_ rfl⟩
        · obtain ⟨ds, hd, rfl⟩ := List.mem_map.1 hx
          obtain ⟨i, hi, rfl⟩ := List.getElem_of_mem hd
          exact ⟨_, rfl, (hlp i _ (List.getElem?_eq_getElem hi)).1⟩
        · refine .slice [] _ a len cap (P.cellsOf e) (fun j => (w.cell? (a.add j)).getD undef) (by simp [hll]) hl (fun d hd => ?_) (fun j hj => ?_) (fun j hj => ?_) (fun j d hd => ?_) (fun h0 => ?_) (fun h => absurd rfl h) (fun d hd => ?_)
          · grind
          · grind
          · grind
          · obtain ⟨i, k, ds, e1, e2, rfl⟩ := flat_wrap (c := P.cellsOf e) l j d (fun ds hds => ⟨(hall ds hds).1, (hall ds hds).2.1⟩) hd
            obtain ⟨_, _, _, q4⟩ := hlp i ds e1
            obtain ⟨v, h1, h2, _⟩ := q4 k d e2
            simp only [h1, Option.getD_some]
            exact h2
          · obtain ⟨v, hv, _⟩ := key (len * P.cellsOf e - 1) (by omega)
            have := cell_in hv
            rw [add_off, add_block] at this
            show a.off + len * P.cellsOf e ≤ allG w a.block
            omega
          · obtain ⟨ds, hds, rfl⟩ := List.mem_map.1 hd
            exact (hall ds hds).2.2
    · cases hp

end
section
variable {n : Nat} {ds : List D}
theorem Fit.slice {P : Program} {t e : TypeId} (ht : P.underlying t = some (.slice e)) (h : Fit P (n + 1) t ds) : ∃ nl xs, ds = [.slice nl [] xs] ∧ (nl = true → xs = []) ∧ ∀ x ∈ xs, ∃ cs, x = wrapD (isSt P e) cs ∧ Fit P n e cs := by
  unfold Fit at h
  rw [ht] at h
  exact h
theorem Fit.str {P : Program} {t : TypeId} (ht : P.underlying t = some .string) (h : Fit P (n + 1) t ds) : ∃ s, ds = [.str s] := by
  unfold Fit at h
  rw [ht] at h
  exact h
theorem Fit.int {P : Program} {t : TypeId} {k : IntKind} (ht : P.underlying t = some (.int k)) (h : Fit P (n + 1) t ds) : ∃ x, ds = [.int k x] ∧ (Lit.int k x).wf = true := by
  unfold Fit at h
  rw [ht] at h
  exact h
theorem all_map {α β : Type} {f : α → β} : ∀ {xs : List β}, (∀ x ∈ xs, ∃ a, x = f a) → ∃ l : List α, xs = l.map f
  | [], _ => ⟨[], rfl⟩
  | x :: r, h => by
    obtain ⟨a, rfl⟩ := h x List.mem_cons_self
    obtain ⟨l, rfl⟩ := all_map fun y hy => h y (List.mem_cons_of_mem _ hy)
    exact ⟨a :: l, rfl⟩
theorem fit_strs {P : Program} {t e : TypeId} (ht : P.underlying t = some (.slice e)) (he : P.underlying e = some .string) (hi : isSt P e = false) (h : Fit P (n + 2) t ds) : ∃ nl l, ds = [.slice nl [] (strsD l)] := by
  obtain ⟨nl, xs, rfl, hn, hx⟩ := Fit.slice ht h
  obtain ⟨l, rfl⟩ := all_map (f := D.str) (xs := xs) (fun x hxx => by
    obtain ⟨cs, rfl, hf⟩ := hx x hxx
    rw [hi]
    obtain ⟨s, rfl⟩ := Fit.str he hf
    exact ⟨s, rfl⟩)
  exact ⟨nl, l, rfl⟩
end
/-- An argument of one cell. -/
theorem cell_fit {H : Type} {enc : TypeId × Value → H} {P : Program} {w : World} {base : Nat} {spare : Nat → Bool} {held : Bool} {n : Nat} {t : TypeId} {v : Value} {d : DataW H} {p : List MemPlace} (hp : plainT P n t = true) (hv : v.cells = #[v]) (h : DataW.Trod enc P w base spare held t v d p) :
    ∃ ds, Fit P n t ds ∧ ∀ d0, ds = [d0] → Rep w (startG (allG w)) d0 v := by
  obtain ⟨fuel, hf⟩ := h
  rw [hv] at hf
  obtain ⟨_, ds, h1, h2⟩ := read_fit n t hp _ _ _ hf
  exact ⟨ds, h1, fun d0 e => by subst e; exact (h2.rep 0 d0 v rfl rfl).1⟩
theorem u16_wf {x : Int} (h : (Lit.int .u16 x).wf = true) : 0 ≤ x ∧ x < 65536 := by
  simp [Lit.wf, IntKind.min, IntKind.max, IntKind.signed, IntKind.bits] at h
  omega


end Go.Vx
