/-
  A part of the proof: the layers over the model. Nothing in it is assumed.
-/
import Derived.Test.YtgbjklgjkjgibaaGreatDoorKnowsP3
import Derived.Lib.Builder
import Derived.Lib.UnsafeStr
import Derived.MapKept
import Derived.WideMake
import Derived.RangeFuncRecord
import Derived.Scope
import Derived.LoopNIn
import Derived.RangeFuncLeaves

set_option linter.unusedSimpArgs false
set_option linter.unusedVariables false

namespace Go.Ve
open Go.RowKit
set_option linter.unusedSimpArgs false
set_option linter.unusedVariables false

section
variable {P : Program} {B : Nat} {w0 w w' : World} {m : Mem} {g g' : Gm} {n n' : Nat} {s : Nat → D} {a : Act} {d : D} {u : Upd}

theorem shape_row {b : Nat} {vs : Array Value} {T : TypeId} {fz : Nat × Nat} (h : w.heap[b]? = some (.cells vs T fz)) : w.shape? b = some (T, vs.size) := by
  simp [World.shape?, h]

theorem does_toU {src dst e : TypeId} {o : Oper} {x : Operand} {y : Arg} {k : Nat} (h : At P B w0 w m g n n' s a) (hs : P.underlying src = some (.pointer e)) (hd : P.underlying dst = some .unsafePointer) (hz : Vd.szOf P e = some (k + 1))
    (hx : trArg x = some y) (ho : o.op = .convert src dst x) (hex : exec s m n (.toU y) = some (d, u, n')) : Does P B w0 g n w (Upd.app m u) d n' (execOp a.eval o) := by
  have hr := h.slots.arg hx
  have run : ∀ v, (convert src dst (a.eval x)).run P w = .ok v w → (execOp a.eval o).run P w = .ok (.value v) w := by
    intro v e1
    simp only [execOp, ho, Sem.run_bind, e1, Result.andThen_ok, Sem.run_pure]
  simp only [exec] at hex
  split at hex
  · rename_i ex
    rw [ex] at hr
    refine .pureE h.inv (run (.pointer none) ?_) .nilp hex
    rw [hr.nilp_inv]
    simp [convert, run_underlying hs, run_underlying hd, Conv.unsafePointer]
  · rename_i i ex
    rw [ex] at hr
    obtain ⟨b, C, e1, hb⟩ := hr.ptr_inv
    split at hex
    · rename_i c0 cs kd hm
      obtain ⟨_, vs, T, fz, hh, _, hl, _⟩ := h.inv.cells hm hb
      obtain ⟨j, hj, hjs⟩ := Option.map_eq_some_iff.1 hz
      refine .pureE h.inv (run _ ?_) hr hex
      rw [e1]
      exact Lib.run_to_unsafe w ⟨b, 0, none⟩ hs hd hj (by rw [hjs]; omega) (shape_row hh) (by simp at hl ⊢; omega)
    · cases hex
  · cases hex

theorem does_fromU {src dst e : TypeId} {o : Oper} {x : Operand} {y : Arg} {sz : Nat} (h : At P B w0 w m g n n' s a) (hs : P.underlying src = some .unsafePointer) (hd : P.underlying dst = some (.pointer e)) (hz : Vd.szOf P e = some sz)
    (hlies : liesAt P P.depth e (sz / P.cellsOf e) 0 e 1 = true)
    (hx : trArg x = some y) (ho : o.op = .convert src dst x) (hex : exec s m n (.fromU e sz y) = some (d, u, n')) : Does P B w0 g n w (Upd.app m u) d n' (execOp a.eval o) := by
  have hr := h.slots.arg hx
  have run : ∀ v, (convert src dst (a.eval x)).run P w = .ok v w → (execOp a.eval o).run P w = .ok (.value v) w := by
    intro v e1
    simp only [execOp, ho, Sem.run_bind, e1, Result.andThen_ok, Sem.run_pure]
  simp only [exec] at hex
  split at hex
  · rename_i ex
    rw [ex] at hr
    refine .pureE h.inv (run (.pointer none) ?_) .nilp hex
    rw [hr.nilp_inv]
    simp [convert, run_underlying hs, run_underlying hd, Conv.unsafePointer]
  · rename_i i ex
    rw [ex] at hr
    obtain ⟨b, C, e1, hb⟩ := hr.ptr_inv
    split at hex
    · rename_i cs t' hm
      split at hex
      · rename_i hc
        obtain ⟨rfl, hcs⟩ := hc
        obtain ⟨_, vs, T, fz, hh, _, hl, _, _, hv⟩ := h.inv.cells hm hb
        obtain ⟨rfl, _, hvs⟩ := hv _ rfl
        obtain ⟨j, hj, hjs⟩ := Option.map_eq_some_iff.1 hz
        refine .pureE h.inv (run _ ?_) hr hex
        rw [e1]
        exact Lib.run_from_unsafe w ⟨b, 0, none⟩ hs hd hj (shape_row hh) (by rw [hvs, hcs]; exact hlies)
      · cases hex
    · cases hex
  · cases hex

theorem does_sld {t t0 : TypeId} {o : Oper} {x : Operand} {y : Arg} (h : At P B w0 w m g n n' s a) (hx : trArg x = some y)
    (ho : o.op = .call { callee := .builtin .unsafeSliceData, args := #[x], argTypes := #[t] }) (hex : exec s m n (.sld y) = some (d, u, n')) : Does P B w0 g n w (Upd.app m u) d n' (execOp a.eval o) := by
  have hr := h.slots.arg hx
  have run : ∀ v, (Builtin.unsafeSliceData_ #[t] o.type #[a.eval x]).run P w = .ok v w → (execOp a.eval o).run P w = .ok (.value v) w := by
    intro v e1
    simp only [execOp, ho, resolve, invoke, builtin, Sem.run_bind, Sem.run_pure, Result.andThen_ok, List.map_toArray, List.map_cons, List.map_nil, e1]
  simp only [exec] at hex
  split at hex
  · rename_i ex
    rw [ex] at hr
    refine .pureE h.inv (run (.pointer none) ?_) .nilp hex
    rw [hr.nils_inv]
    exact Lib.run_unsafeSliceData_nil w _ _ _ _
  · rename_i i o' c ex
    rw [ex] at hr
    obtain ⟨b, cc, C, e1, hb, hc, _⟩ := hr.rsl_inv
    split at hex
    · rename_i h0
      refine .pureE h.inv (run _ ?_) (.ptr i o' b C hb) hex
      rw [e1]
      exact Lib.run_unsafeSliceData_row w _ _ _ _ _ (by omega)
    · cases hex
  · cases hex

/-- An object that is not known any more: its block may be another thing. -/
theorem Inv.kill (h : Inv P B w0 m w g) {i b : Nat} {C : Option Nat} (hm : m i ≠ none) (hg : g i = some (b, C)) (hb : Below B w w') (hs : w'.heap.size = w.heap.size)
    (hoth : ∀ k, k ≠ b → w'.heap[k]? = w.heap[k]?) : Inv P B w0 (m.put i none) w' g := by
  refine ⟨h.below.trans hb, by rw [hs]; exact h.size, fun k ob' hk => ?_, fun k k' b1 D D' h1 h2 h3 h4 => ?_⟩
  · by_cases hki : k = i
    · subst hki; rw [Mem.put_same] at hk; cases hk
    · rw [Mem.put_other hki] at hk
      obtain ⟨b1, D, h1, h2, h3⟩ := h.obj k ob' hk
      refine ⟨b1, D, h1, h2, ?_⟩
      have : b1 ≠ b := by
        rintro rfl
        exact hki (h.inj k i b1 D C (by rw [hk]; simp) hm h1 hg)
      rw [hoth b1 this]; exact h3
  · have nn : ∀ k, m.put i none k ≠ none → m k ≠ none := by
      intro k hk
      by_cases hki : k = i
      · subst hki; exact hm
      · rw [Mem.put_other hki] at hk; exact hk
    exact h.inj k k' b1 D D' (nn k h1) (nn k' h2) h3 h4

theorem freeze_other (w : World) (b n k : Nat) (h : k ≠ b) : (w.freeze ⟨b, 0, none⟩ n).heap[k]? = w.heap[k]? := by
  unfold World.freeze
  split
  · rfl
  · simp [Array.getElem?_modify, Ne.symm h]
theorem freeze_size (w : World) (b n : Nat) : (w.freeze ⟨b, 0, none⟩ n).heap.size = w.heap.size := by
  unfold World.freeze
  split
  · rfl
  · simp

theorem unbytesS_some : ∀ {ds : List D} {b : List UInt8}, unbytesS ds = some b → ds = bytesD b
  | [], b, h => by simp only [unbytesS, Option.some.injEq] at h; subst h; rfl
  | x :: r, b, h => by
    unfold unbytesS at h
    split at h
    · rename_i heq; cases heq
    · rename_i n r' heq
      cases heq
      split at h
      · rename_i hn
        rw [Option.map_eq_some_iff] at h
        obtain ⟨b', hb, rfl⟩ := h
        rw [unbytesS_some hb]
        have : ((UInt8.ofNat n.toNat).toNat : Int) = n := by
          have h1 : n.toNat < 256 := by omega
          rw [UInt8.toNat_ofNat_of_lt' (by simpa using h1)]
          omega
        show _ = D.int .u8 ((UInt8.ofNat n.toNat).toNat : Int) :: bytesD b'
        rw [this]
      · cases h
    · cases h

theorem does_ustr {t t2 e : TypeId} {o : Oper} {x k : Operand} {y z : Arg} (h : At P B w0 w m g n n' s a) (hu : P.underlying t = some (.pointer e)) (hc1 : P.cellsOf e = 1) (hx : trArg x = some y) (hk : trArg k = some z)
    (ho : o.op = .call { callee := .builtin .unsafeString, args := #[x, k], argTypes := #[t, t2] }) (hex : exec s m n (.ustr e y z) = some (d, u, n')) : Does P B w0 g n w (Upd.app m u) d n' (execOp a.eval o) := by
  have hr := h.slots.arg hx
  have hrk := h.slots.arg hk
  have run : ∀ v w1, (Builtin.unsafeString_ #[t, t2] o.type #[a.eval x, a.eval k]).run P w = .ok v w1 → (execOp a.eval o).run P w = .ok (.value v) w1 := by
    intro v w1 e1
    simp only [execOp, ho, resolve, invoke, builtin, Sem.run_bind, Sem.run_pure, Result.andThen_ok, List.map_toArray, List.map_cons, List.map_nil, e1]
  simp only [exec] at hex
  split at hex
  · rename_i ex ek
    rw [ex] at hr; rw [ek] at hrk
    refine .pureE h.inv (run (.string .empty) w ?_) (.str []) hex
    rw [hr.nilp_inv, hrk.int_inv]
    exact Lib.run_unsafeString_none w _ _ _ _
  · rename_i i k' ex ek
    rw [ex] at hr; rw [ek] at hrk
    obtain ⟨b, C, e1, hb⟩ := hr.ptr_inv
    split at hex
    · rename_i cs e' hm
      split at hex
      · rename_i hc
        obtain ⟨rfl, h0, hle, h63⟩ := hc
        split at hex
        · rename_i bs hbs
          simp only [Option.some.injEq, Prod.mk.injEq] at hex
          obtain ⟨rfl, rfl, rfl⟩ := hex
          obtain ⟨hB, vs, T, fz, hh, _, hl, hrp, hgr, _⟩ := h.inv.cells hm hb
          obtain ⟨rfl, _⟩ := hgr _ rfl
          have hns := unbytesS_some hbs
          have hlen : bs.length = k'.toNat := by
            have := congrArg List.length hns
            simp [bytesD] at this
            omega
          have hcell : ∀ j c, bs[j]? = some c → w.cell? ((⟨b, 0, none⟩ : Addr).add j) = some (.int .u8 c.toNat) := by
            intro j c hj
            have hjl : j < bs.length := (List.getElem?_eq_some_iff.1 hj).1
            have hd : cs[j]? = some (.int .u8 c.toNat) := by
              have e1 : (cs.take k'.toNat)[j]? = cs[j]? := List.getElem?_take_of_lt (by omega)
              rw [← e1, hns]
              simp [bytesD, hj]
            obtain ⟨v, q1, q2, q3⟩ := rep_at (b := b) hl hrp hd
            rw [Vd.mk_add, Nat.zero_add, cell_row hh, q1, q3.int_inv]
          have hstr := Lib.run_unsafeString_row (P := P) w t t2 o.type T hu hc1 b vs.size (shape_row hh) bs (by intro e; subst e; simp at hlen; omega) (by omega) (by omega) hcell
          have hk' : (k' : Int) = (bs.length : Int) := by rw [hlen]; omega
          refine ⟨_, _, g, _, run _ _ (by rw [e1, hrk.int_inv, hk']; exact hstr), .inl rfl, ⟨h.inv.kill (by rw [hm]; simp) hb (Lib.below_freeze (Below.refl _ _) hB _) (freeze_size _ _ _) (fun k hk => freeze_other _ _ _ k hk), Gm.le.refl g, fun _ _ => rfl, .str _⟩⟩
        · cases hex
      · cases hex
    · cases hex
  · cases hex

/-! ### Maps whose keys are texts -/

inductive Ents (g : Gm) : List D → List D → List MapEntry → Prop
  | nil : Ents g [] [] []
  | cons (k d : D) (e : MapEntry) (ks ds : List D) (es : List MapEntry) : Rep g k e.key → e.key.oneCell' = true → Rep g d e.val → Ents g ks ds es → Ents g (k :: ks) (d :: ds) (e :: es)

theorem Ents.len {ks ds : List D} {es : List MapEntry} (h : Ents g ks ds es) : ks.length = es.length ∧ ds.length = es.length := by
  induction h with
  | nil => exact ⟨rfl, rfl⟩
  | cons k d e ks ds es _ _ _ _ ih => simp [ih.1, ih.2]

theorem ents_of : ∀ {ks ds : List D} {es : List MapEntry}, Reps g ks (es.map (·.key)) → es.length = ds.length → (∀ (j : Nat) d v, ds[j]? = some d → (es.map (·.val))[j]? = some v → Rep g d v) → Ents g ks ds es
  | [], [], [], _, _, _ => .nil
  | [], _, e :: es, h, _, _ => by have := h.1; simp at this
  | k :: ks, _, [], h, _, _ => by have := h.1; simp at this
  | k :: ks, [], e :: es, _, h, _ => by simp at h
  | [], d :: ds, [], _, h, _ => by simp at h
  | k :: ks, d :: ds, e :: es, h1, h2, h3 => by
    refine .cons k d e ks ds es (h1.2.2 0 k e.key rfl rfl) (h1.2.1 _ (by simp)) (h3 0 d e.val rfl rfl) (ents_of ⟨by have := h1.1; simpa using this, fun v hv => h1.2.1 v (by simp at hv ⊢; exact .inr hv), fun j d v hd hv => h1.2.2 (j + 1) d v hd hv⟩ (by simpa using h2) (fun j d v hd hv => h3 (j + 1) d v hd hv))

theorem Ents.reps {ks ds : List D} {es : List MapEntry} (h : Ents g ks ds es) : Reps g ks (es.map (·.key)) ∧ es.length = ds.length ∧ (∀ (j : Nat) d v, ds[j]? = some d → (es.map (·.val))[j]? = some v → Rep g d v) := by
  induction h with
  | nil => exact ⟨Reps.nil g, rfl, by simp⟩
  | cons k d e ks ds es h1 h2 h3 _ ih =>
    obtain ⟨i1, i2, i3⟩ := ih
    refine ⟨⟨by simp [i1.1], fun v hv => ?_, fun j d' v hd hv => ?_⟩, by simp [i2], fun j d' v hd hv => ?_⟩
    · simp only [List.map_cons, List.mem_cons] at hv
      rcases hv with rfl | hv
      · exact h2
      · exact i1.2.1 v hv
    · cases j with
      | zero => simp at hd hv; subst hd hv; exact h1
      | succ j => simp at hd hv; exact i1.2.2 j d' v hd (by simpa using hv)
    · cases j with
      | zero => simp at hd hv; subst hd hv; exact h3
      | succ j => simp at hd hv; exact i3 j d' v hd (by simpa using hv)

theorem sameNow_str {key k : List UInt8} {v : Value} (h : Rep g (.str k) v) : Instr.sameNow .string (.string ⟨key.toArray⟩) v = some (decide (key = k)) := by
  rw [h.str_inv]
  simp only [Instr.sameNow]
  congr 1
  rw [Bool.eq_iff_iff]; simp [MapKept.bytes_beq]

theorem lookD_sound {key : List UInt8} : ∀ {ks ds : List D} {es : List MapEntry} {r : Option D} (i : Nat), Ents g ks ds es → lookD key ks ds = some r →
    ∃ q, Instr.findNow .string (.string ⟨key.toArray⟩) es i = some q ∧ (match r, q with | none, none => True | some d, some (_, v) => Rep g d v | _, _ => False) := by
  intro ks ds es r i h hl
  induction h generalizing i with
  | nil => simp only [lookD, Option.some.injEq] at hl; subst hl; exact ⟨none, rfl, trivial⟩
  | cons k d e ks ds es h1 h2 h3 _ ih =>
    unfold lookD at hl
    split at hl
    · rename_i k' ks' v' vs' e1 e2
      cases e1; cases e2
      have hs := sameNow_str (key := key) h1
      split at hl
      · rename_i hk
        simp only [Option.some.injEq] at hl; subst hl
        subst hk
        exact ⟨some (i, e.val), by simp [Instr.findNow, hs], h3⟩
      · rename_i hk
        obtain ⟨q, q1, q2⟩ := ih (i + 1) hl
        exact ⟨q, by simp [Instr.findNow, hs, hk, q1], q2⟩
    · rename_i e1 e2; cases e1
    · cases hl

theorem isKey_str (b : ByteArray) : MapKept.IsKey .string (.string b) := by simp [MapKept.IsKey]

theorem Inv.map (h : Inv P B w0 m w g) {i b : Nat} {C : Option Nat} {ks vs : List D} (hm : m i = some (.map ks vs)) (hb : g i = some (b, C)) :
    B ≤ b ∧ ∃ es clock, w.heap[b]? = some (.map es clock) ∧ Ents g ks vs es.toList := by
  obtain ⟨b', C', h1, h2, h3⟩ := h.obj i _ hm
  rw [hb] at h1
  simp only [Option.some.injEq, Prod.mk.injEq] at h1
  obtain ⟨rfl, rfl⟩ := h1
  obtain ⟨es, clock, q1, q2, q3, q4⟩ := h3
  exact ⟨h2, es, clock, q1, ents_of q2 (by simpa using q3) q4⟩

theorem does_lookup {t kt et : TypeId} {ok : Bool} {z : D} {o : Oper} {x k : Operand} {y y' : Arg} (h : At P B w0 w m g n n' s a) (hu : P.underlying t = some (.map kt et)) (hk : P.underlying kt = some .string) (hz : zeroOf P et = some z)
    (hx : trArg x = some y) (hy : trArg k = some y') (ho : o.op = .lookup t x k ok) (hex : exec s m n (.lookup ok z y y') = some (d, u, n')) : Does P B w0 g n w (Upd.app m u) d n' (execOp a.eval o) := by
  have hr := h.slots.arg hx
  have hrk := h.slots.arg hy
  obtain ⟨ti, zv, hi, hzv, hrz, hzd⟩ := zeroOf_some hz g
  have hzero : (zeroValue et).run P w = .ok zv w := by simp [zeroValue, typeInfo, hi, hzv]
  have run : ∀ v, (Instr.lookup t (a.eval x) (a.eval k) ok).run P w = .ok v w → (execOp a.eval o).run P w = .ok (.value v) w := by
    intro v e1
    simp only [execOp, ho, Sem.run_bind, e1, Result.andThen_ok, Sem.run_pure]
  have mk : ∀ (d1 : D) (v1 : Value) (f : Bool), Rep g d1 v1 → (Instr.lookup t (a.eval x) (a.eval k) ok).run P w = .ok (if ok then .tuple #[v1, .bool f] else v1) w →
      some (if ok = true then D.tup [d1, .bool f] else d1, ([] : Upd), n) = some (d, u, n') → Does P B w0 g n w (Upd.app m u) d n' (execOp a.eval o) := by
    intro d1 v1 f h1 h2 h3
    refine .pureE h.inv (run _ h2) ?_ h3
    cases ok
    · exact h1
    · exact Rep.tup2 h1 (.bool f)
  simp only [exec] at hex
  split at hex
  · rename_i key ek
    rw [ek] at hrk
    have hck := fun em => MapKept.run_checkKey (P := P) (w := w) hk (isKey_str ⟨key.toArray⟩) em 9999
    split at hex
    · rename_i ex
      rw [ex] at hr
      refine mk z zv false hrz ?_ hex
      have hf := MapKept.run_findKey (P := P) (w := w) (k := .string ⟨key.toArray⟩) (l := []) (a := none) hk rfl
      rw [hr.nilm_inv, hrk.str_inv]
      cases ok <;> simp [Instr.lookup, run_underlying hu, hck, hf, hzero, Result.andThen]
    · rename_i i ex
      rw [ex] at hr
      obtain ⟨b, C, e1, hb⟩ := hr.map_inv
      split at hex
      · rename_i ks vs hm
        obtain ⟨hB, es, clock, hh, hents⟩ := h.inv.map hm hb
        have hget := MapKept.run_getObj_map (P := P) hh
        split at hex
        · rename_i d1 hl
          obtain ⟨q, q1, q2⟩ := lookD_sound 0 hents hl
          match q, q2 with
          | some (j, v), q2 =>
            have hf := MapKept.run_findKey (P := P) (w := w) hk q1
            refine mk d1 v true q2 ?_ hex
            rw [e1, hrk.str_inv]
            cases ok <;> simp [Instr.lookup, run_underlying hu, hget, hck, hf, Result.andThen]
        · rename_i hl
          obtain ⟨q, q1, q2⟩ := lookD_sound 0 hents hl
          match q, q2 with
          | none, q2 =>
            have hf := MapKept.run_findKey (P := P) (w := w) hk q1
            refine mk z zv false hrz ?_ hex
            rw [e1, hrk.str_inv]
            cases ok <;> simp [Instr.lookup, run_underlying hu, hget, hck, hf, hzero, Result.andThen]
        · cases hex
      · cases hex
    · cases hex
  · cases hex

theorem putK_sound {key : List UInt8} {d0 : D} {v0 : Value} (hv : Rep g d0 v0) : ∀ {ks ds : List D} {es : List MapEntry} {r : List D × List D} (i : Nat), Ents g ks ds es → putK key d0 ks ds = some r →
    (Instr.findNow .string (.string ⟨key.toArray⟩) es i = some none ∧ ∀ c, Ents g r.1 r.2 (es ++ [{ key := .string ⟨key.toArray⟩, val := v0, born := c }])) ∨
    (∃ j e, Instr.findNow .string (.string ⟨key.toArray⟩) es i = some (some (i + j, e.val)) ∧ es[j]? = some e ∧ e.key = .string ⟨key.toArray⟩ ∧ Ents g r.1 r.2 (es.modify j fun e => { e with key := .string ⟨key.toArray⟩, val := v0 })) := by
  intro ks ds es r i h hl
  induction h generalizing i r with
  | nil =>
    simp only [putK, Option.some.injEq] at hl; subst hl
    exact .inl ⟨rfl, fun c => .cons _ _ _ _ _ _ (.str key) rfl hv .nil⟩
  | cons k d e ks ds es h1 h2 h3 h4 ih =>
    unfold putK at hl
    split at hl
    · rename_i k' ks' v' vs' e1 e2
      cases e1; cases e2
      have hs := sameNow_str (key := key) h1
      split at hl
      · rename_i hk
        simp only [Option.some.injEq] at hl; subst hl
        subst hk
        refine .inr ⟨0, e, by simp [Instr.findNow, hs], rfl, h1.str_inv, ?_⟩
        exact .cons _ _ _ _ _ _ (.str key) rfl hv h4
      · rename_i hk
        rw [Option.map_eq_some_iff] at hl
        obtain ⟨r', hr', rfl⟩ := hl
        rcases ih (i + 1) hr' with ⟨q1, q2⟩ | ⟨j, e', q1, q2, q3, q4⟩
        · exact .inl ⟨by simp [Instr.findNow, hs, hk, q1], fun c => .cons _ _ _ _ _ _ h1 h2 h3 (q2 c)⟩
        · refine .inr ⟨j + 1, e', by simp [Instr.findNow, hs, hk, q1]; omega, by simpa using q2, q3, ?_⟩
          exact .cons _ _ _ _ _ _ h1 h2 h3 q4
    · rename_i e1 e2; cases e1
    · cases hl

theorem delK_sound {key : List UInt8} : ∀ {ks ds : List D} {es : List MapEntry} {r : List D × List D} (i : Nat), Ents g ks ds es → delK key ks ds = some r →
    (Instr.findNow .string (.string ⟨key.toArray⟩) es i = some none ∧ Ents g r.1 r.2 es) ∨
    (∃ j v, Instr.findNow .string (.string ⟨key.toArray⟩) es i = some (some (i + j, v)) ∧ j < es.length ∧ Ents g r.1 r.2 (es.eraseIdx j)) := by
  intro ks ds es r i h hl
  induction h generalizing i r with
  | nil =>
    simp only [delK, Option.some.injEq] at hl; subst hl
    exact .inl ⟨rfl, .nil⟩
  | cons k d e ks ds es h1 h2 h3 h4 ih =>
    unfold delK at hl
    split at hl
    · rename_i k' ks' v' vs' e1 e2
      cases e1; cases e2
      have hs := sameNow_str (key := key) h1
      split at hl
      · rename_i hk
        simp only [Option.some.injEq] at hl; subst hl
        subst hk
        exact .inr ⟨0, e.val, by simp [Instr.findNow, hs], by simp, h4⟩
      · rename_i hk
        rw [Option.map_eq_some_iff] at hl
        obtain ⟨r', hr', rfl⟩ := hl
        rcases ih (i + 1) hr' with ⟨q1, q2⟩ | ⟨j, v, q1, q2, q3⟩
        · exact .inl ⟨by simp [Instr.findNow, hs, hk, q1], .cons _ _ _ _ _ _ h1 h2 h3 q2⟩
        · refine .inr ⟨j + 1, v, by simp [Instr.findNow, hs, hk, q1]; omega, by simpa using q2, ?_⟩
          exact .cons _ _ _ _ _ _ h1 h2 h3 q3
    · rename_i e1 e2; cases e1
    · cases hl

theorem ObOk.ofEnts {ks ds : List D} {es : Array MapEntry} {C : Option Nat} (h : Ents g ks ds es.toList) (clock : Nat) : ObOk P g C (.map ks ds) (some (.map es clock)) := by
  obtain ⟨h1, h2, h3⟩ := h.reps
  exact ⟨es, clock, rfl, h1, by simpa using h2, h3⟩

theorem does_mkmap {t : TypeId} {o : Oper} (h : At P B w0 w m g n n' s a) (ho : o.op = .makeMap t none) (hex : exec s m n .mkmap = some (d, u, n')) : Does P B w0 g n w (Upd.app m u) d n' (execOp a.eval o) := by
  simp only [exec, Option.some.injEq, Prod.mk.injEq] at hex
  obtain ⟨rfl, rfl, rfl⟩ := hex
  refine ⟨.map (some w.heap.size), w.alloc (.map #[] 0), g.add n w.heap.size none, .value (.map (some w.heap.size)), ?_, .inl rfl, ?_⟩
  · simp only [execOp, ho, Option.map_none, Sem.run_bind, run_makeMap_plain, Result.andThen_ok, Sem.run_pure]
  · exact step_new h.inv (h.fresh n (Nat.le_refl _) (by omega)) none (ObOk.ofEnts (es := #[]) .nil 0) (.map n _ none Gm.add_same)

/-- The block of a map is another one. -/
theorem step_map (hi : Inv P B w0 m w g) {i b : Nat} {C : Option Nat} {ks ds ks' ds' : List D} (hm : m i = some (.map ks ds)) (hb : g i = some (b, C)) {es : Array MapEntry} {clock : Nat} (hh : w.heap[b]? = some (.map es clock))
    {es' : Array MapEntry} {clock' : Nat} (he : Ents g ks' ds' es'.toList) {d : D} {v : Value} (hd : Rep g d v) :
    Step P B w0 g n (m.put i (some (.map ks' ds'))) d n v { w with heap := w.heap.setIfInBounds b (.map es' clock') } g := by
  obtain ⟨hB, _⟩ := hi.map hm hb
  have hset := MapKept.heap_set (w := w) (o' := .map es' clock') hh
  refine ⟨hi.upd (b := b) (C := C) (by rw [hm]; simp) hb (Below.setObj (w := w) hB) (by simp) (fun k hk => hset.2 k hk) ?_, Gm.le.refl g, fun _ _ => rfl, hd⟩
  show ObOk P g C (.map ks' ds') (w.heap.setIfInBounds b (.map es' clock'))[b]?
  rw [hset.1]
  exact ObOk.ofEnts he clock'

theorem keyThatStays_same (key : ByteArray) : (Instr.keyThatStays (.string key) (.string key)).run P w = .ok (.string key) w := by
  have : Instr.sameBits 10000 (.string key) (.string key) = true := by simp [Instr.sameBits, MapKept.bytes_beq]
  simp [Instr.keyThatStays, this]

theorem does_mapset {t kt et : TypeId} {o : Oper} {x k v : Operand} {y y' z : Arg} (h : At P B w0 w m g n n' s a) (hu : P.underlying t = some (.map kt et)) (hk : P.underlying kt = some .string)
    (hx : trArg x = some y) (hy : trArg k = some y') (hv : trArg v = some z) (ho : o.op = .mapUpdate t x k v) (hex : exec s m n (.mapset y y' z) = some (d, u, n')) : Does P B w0 g n w (Upd.app m u) d n' (execOp a.eval o) := by
  have hr := h.slots.arg hx
  have hrk := h.slots.arg hy
  have hrv := h.slots.arg hv
  simp only [exec] at hex
  split at hex
  · rename_i key ek
    rw [ek] at hrk
    have hck := fun em => MapKept.run_checkKey (P := P) (w := w) hk (isKey_str ⟨key.toArray⟩) em 9999
    split at hex
    · rename_i i ex
      rw [ex] at hr
      obtain ⟨b, C, e1, hb⟩ := hr.map_inv
      split at hex
      · rename_i ks vs hm
        obtain ⟨hB, es, clock, hh, hents⟩ := h.inv.map hm hb
        have hget := MapKept.run_getObj_map (P := P) hh
        rw [Option.map_eq_some_iff] at hex
        obtain ⟨r, hr', hex⟩ := hex
        simp only [Prod.mk.injEq] at hex
        obtain ⟨rfl, rfl, rfl⟩ := hex
        rcases putK_sound hrv 0 hents hr' with ⟨q1, q2⟩ | ⟨j, e0, q1, q2, q3, q4⟩
        · have hf := MapKept.run_findKey (P := P) (w := w) hk q1
          refine ⟨undef, _, g, .skip, ?_, .inr ⟨rfl, rfl⟩, step_map h.inv hm hb hh (es' := es.push { key := .string ⟨key.toArray⟩, val := a.eval v, born := clock }) (clock' := clock + 1) (by simpa using q2 clock) (.junk _)⟩
          simp only [execOp, ho, e1, hrk.str_inv]
          simp [Instr.mapUpdate, run_underlying hu, hget, hck, hf, MapKept.run_setObj_map _ hh, Result.andThen]
        · have hf := MapKept.run_findKey (P := P) (w := w) hk q1
          rw [Nat.zero_add] at hf
          have hkey : ((es[j]?).map (·.key)).getD (.string ⟨key.toArray⟩) = .string ⟨key.toArray⟩ := by
            have : es[j]? = some e0 := by rw [← Array.getElem?_toList]; exact q2
            rw [this]; exact q3
          refine ⟨undef, _, g, .skip, ?_, .inr ⟨rfl, rfl⟩, step_map h.inv hm hb hh (es' := es.modify j fun e => { e with key := .string ⟨key.toArray⟩, val := a.eval v }) (clock' := clock) (by simpa using q4) (.junk _)⟩
          simp only [execOp, ho, e1, hrk.str_inv]
          simp [Instr.mapUpdate, run_underlying hu, hget, hck, hf, hkey, keyThatStays_same, MapKept.run_setObj_map _ hh, Result.andThen]
      · cases hex
    · cases hex
  · cases hex

theorem does_mapdel {t t2 kt et : TypeId} {o : Oper} {x k : Operand} {y y' : Arg} (h : At P B w0 w m g n n' s a) (hu : P.underlying t = some (.map kt et)) (hk : P.underlying kt = some .string)
    (hx : trArg x = some y) (hy : trArg k = some y') (ho : o.op = .call { callee := .builtin .delete, args := #[x, k], argTypes := #[t, t2] }) (hex : exec s m n (.mapdel y y') = some (d, u, n')) : Does P B w0 g n w (Upd.app m u) d n' (execOp a.eval o) := by
  have hr := h.slots.arg hx
  have hrk := h.slots.arg hy
  have run : ∀ v w1, (Builtin.delete_ #[t, t2] o.type #[a.eval x, a.eval k]).run P w = .ok v w1 → (execOp a.eval o).run P w = .ok (.value v) w1 := by
    intro v w1 e1
    simp only [execOp, ho, resolve, invoke, builtin, Sem.run_bind, Sem.run_pure, Result.andThen_ok, List.map_toArray, List.map_cons, List.map_nil, e1]
  have htup : ∀ g : Gm, Rep g (.tup []) (.tuple #[]) := fun g => .tup [] [] rfl (by simp)
  simp only [exec] at hex
  split at hex
  · rename_i key ek
    rw [ek] at hrk
    have hck := fun em => MapKept.run_checkKey (P := P) (w := w) hk (isKey_str ⟨key.toArray⟩) em 9999
    split at hex
    · rename_i ex
      rw [ex] at hr
      refine .pureE h.inv (run (.tuple #[]) w ?_) (htup g) hex
      rw [hr.nilm_inv, hrk.str_inv]
      simp [Builtin.delete_, run_underlying hu, hck, Result.andThen]
    · rename_i i ex
      rw [ex] at hr
      obtain ⟨b, C, e1, hb⟩ := hr.map_inv
      split at hex
      · rename_i ks vs hm
        obtain ⟨hB, es, clock, hh, hents⟩ := h.inv.map hm hb
        have hget := MapKept.run_getObj_map (P := P) hh
        rw [Option.map_eq_some_iff] at hex
        obtain ⟨r, hr', hex⟩ := hex
        simp only [Prod.mk.injEq] at hex
        obtain ⟨rfl, rfl, rfl⟩ := hex
        rcases delK_sound 0 hents hr' with ⟨q1, q2⟩ | ⟨j, v, q1, q2, q3⟩
        · have hf := MapKept.run_findKey (P := P) (w := w) hk q1
          refine ⟨_, _, g, _, run (.tuple #[]) _ ?_, .inl rfl, step_map h.inv hm hb hh (es' := es) (clock' := clock) q2 (htup g)⟩
          rw [e1, hrk.str_inv]
          simp [Builtin.delete_, run_underlying hu, hget, hck, hf, MapKept.run_setObj_map _ hh, Result.andThen]
        · have hf := MapKept.run_findKey (P := P) (w := w) hk q1
          rw [Nat.zero_add] at hf
          refine ⟨_, _, g, _, run (.tuple #[]) _ ?_, .inl rfl, step_map h.inv hm hb hh (es' := es.eraseIdxIfInBounds j) (clock' := clock) ?_ (htup g)⟩
          · rw [e1, hrk.str_inv]
            simp [Builtin.delete_, run_underlying hu, hget, hck, hf, MapKept.run_setObj_map _ hh, Result.andThen]
          · have hj : j < es.size := by simpa using q2
            rw [Array.eraseIdxIfInBounds, dif_pos hj]
            simpa using q3
      · cases hex
    · cases hex
  · cases hex

theorem does_lenm {t kt et : TypeId} {o : Oper} {x : Operand} {y : Arg} (h : At P B w0 w m g n n' s a) (hu : P.underlying t = some (.map kt et))
    (hx : trArg x = some y) (ho : o.op = .call { callee := .builtin .len, args := #[x], argTypes := #[t] }) (hex : exec s m n (.lenm y) = some (d, u, n')) : Does P B w0 g n w (Upd.app m u) d n' (execOp a.eval o) := by
  have hr := h.slots.arg hx
  have run : ∀ n, (Builtin.len_ #[t] o.type #[a.eval x]).run P w = .ok (goInt n) w → (execOp a.eval o).run P w = .ok (.value (.int .i64 n)) w := by
    intro n e
    simp only [execOp, ho, resolve, invoke, builtin, Sem.run_bind, Sem.run_pure, Result.andThen_ok, List.map_toArray, List.map_cons, List.map_nil, e]
    rfl
  simp only [exec] at hex
  split at hex
  · rename_i ex
    rw [ex] at hr
    refine .pureE h.inv (run 0 ?_) (.int _ _) hex
    rw [hr.nilm_inv]
    simp [Builtin.len_, run_underlying hu, goInt]
  · rename_i i ex
    rw [ex] at hr
    obtain ⟨b, C, e1, hb⟩ := hr.map_inv
    split at hex
    · rename_i ks vs hm
      obtain ⟨hB, es, clock, hh, hents⟩ := h.inv.map hm hb
      refine .pureE h.inv (run _ ?_) (.int _ _) hex
      rw [e1]
      have := hents.len.1
      simp [Builtin.len_, run_underlying hu, MapKept.run_getObj_map (P := P) hh, goInt, this]
    · cases hex
  · cases hex
end
end Go.Ve

namespace Go.Ve
open Go.RowKit
set_option linter.unusedSimpArgs false
set_option linter.unusedVariables false

section
variable {P : Program} {B : Nat} {w0 w : World} {m : Mem} {g : Gm} {n n' : Nat} {s : Nat → D} {a : Act} {d : D} {u : Upd}

theorem isSlice_some {P : Program} {u : TypeId} (h : isSlice P u = true) : ∃ e, P.underlying u = some (.slice e) := by
  unfold isSlice at h
  split at h
  · rename_i e he; exact ⟨e, he⟩
  · cases h

theorem call_eq {c : Call} {b : Builtin} {xs : List Operand} {ts : List TypeId} (h1 : c.callee = .builtin b) (h2 : c.args.toList = xs) (h3 : c.argTypes.toList = ts) : c = { callee := .builtin b, args := xs.toArray, argTypes := ts.toArray } := by
  cases c; simp only at h1 h2 h3 ⊢
  subst h1 h2 h3
  simp

theorem does_call {o : Oper} {c : Call} {dop : DOp} (h : At P B w0 w m g n n' s a) (hop : o.op = .call c) (htr : trCall P c = some dop) (hnc : ∀ f xs, dop ≠ .call f xs) (hex : exec s m n dop = some (d, u, n')) :
    Does P B w0 g n w (Upd.app m u) d n' (execOp a.eval o) := by
  have map1 : ∀ {x : Operand} {F : Arg → DOp}, (trArg x).map F = some dop → ∃ y, trArg x = some y ∧ dop = F y := by
    intro x F e
    rw [Option.map_eq_some_iff] at e
    obtain ⟨y, h1, h2⟩ := e
    exact ⟨y, h1, h2.symm⟩
  unfold trCall at htr
  split at htr
  · split at htr
    · simp only [Option.some.injEq] at htr; exact absurd htr.symm (hnc _ _)
    · cases htr
  · rename_i hcal
    split at htr
    · rename_i x t hargs htys
      obtain rfl := call_eq hcal hargs htys
      have lenRun : ∀ n, (Builtin.len_ #[t] o.type #[a.eval x]).run P w = .ok (goInt n) w → (execOp a.eval o).run P w = .ok (.value (.int .i64 n)) w := by
        intro n e
        simp only [execOp, hop, resolve, invoke, builtin, Sem.run_bind, Sem.run_pure, Result.andThen_ok, List.map_toArray, List.map_cons, List.map_nil, e]
        rfl
      split at htr
      · rename_i hu
        obtain ⟨y, hx, rfl⟩ := map1 htr
        have hr := h.slots.arg hx
        simp only [exec] at hex
        refine .pureM h.inv hex (fun q hq => ?_)
        unfold lenD at hq
        split at hq
        · rename_i b _ e
          rw [e] at hr
          simp only [Option.some.injEq] at hq; subst hq
          have hl : (Builtin.len_ #[t] o.type #[a.eval x]).run P w = .ok (goInt (b.length : Int)) w := by
            have hsz : (ByteArray.mk b.toArray).size = b.length := by simp [ByteArray.size]
            simp [Builtin.len_, run_underlying hu, hr.str_inv, hsz]
          exact ⟨_, lenRun _ hl, .int _ _⟩
        all_goals first | (rename_i hf _; cases hf; done) | (rename_i hf; cases hf; done) | (cases hq; done)
      · rename_i e hu
        obtain ⟨y, hx, rfl⟩ := map1 htr
        have hr := h.slots.arg hx
        simp only [exec] at hex
        refine .pureM h.inv hex (fun q hq => ?_)
        have key : ∃ ad cc, a.eval x = .slice ad q cc := by
          unfold lenD at hq
          split at hq
          · rename_i hf _; cases hf
          · rename_i e'; rw [e'] at hr; simp only [Option.some.injEq] at hq; subst hq; obtain ⟨b, c, C, e1, _⟩ := hr.rsl_inv; exact ⟨_, _, e1⟩
          · rename_i e'; rw [e'] at hr; simp only [Option.some.injEq] at hq; subst hq; obtain ⟨b, c, e1⟩ := hr.esl_inv; exact ⟨_, _, e1⟩
          · rename_i e'; rw [e'] at hr; simp only [Option.some.injEq] at hq; subst hq; obtain ⟨b, e1⟩ := hr.esl0_inv; exact ⟨_, _, e1⟩
          · rename_i e'; rw [e'] at hr; simp only [Option.some.injEq] at hq; subst hq; exact ⟨_, _, hr.nils_inv⟩
          · cases hq
        obtain ⟨ad, cc, e1⟩ := key
        have hl : (Builtin.len_ #[t] o.type #[a.eval x]).run P w = .ok (goInt (q : Int)) w := by
          simp [Builtin.len_, run_underlying hu, e1]
        exact ⟨_, lenRun _ hl, .int _ _⟩
      · rename_i kt et hu
        obtain ⟨y, hx, rfl⟩ := map1 htr
        exact does_lenm h hu hx hop hex
      · cases htr
    · cases htr
  · rename_i hcal
    split at htr
    · rename_i x t hargs htys
      obtain rfl := call_eq hcal hargs htys
      split at htr
      · rename_i e hu
        obtain ⟨y, hx, rfl⟩ := map1 htr
        have hr := h.slots.arg hx
        have capRun : ∀ ad, a.eval x = .slice ad 0 0 → (execOp a.eval o).run P w = .ok (.value (.int .i64 0)) w := by
          intro ad e1
          have : (Builtin.cap_ #[t] o.type #[a.eval x]).run P w = .ok (.int .i64 0) w := by
            simp [Builtin.cap_, run_underlying hu, e1, goInt]
          simp only [execOp, hop, resolve, invoke, builtin, Sem.run_bind, Sem.run_pure, Result.andThen_ok, List.map_toArray, List.map_cons, List.map_nil, this]
        simp only [exec] at hex
        split at hex
        · rename_i e'; rw [e'] at hr; exact .pureE h.inv (capRun _ hr.nils_inv) (.int _ _) hex
        · rename_i e'; rw [e'] at hr; obtain ⟨ad, e1⟩ := hr.esl0_inv; exact .pureE h.inv (capRun _ e1) (.int _ _) hex
        · cases hex
      · cases htr
    · cases htr
  · rename_i hcal
    split at htr
    · rename_i x y t t' hargs htys
      split at htr
      · rename_i htt
        obtain rfl := call_eq hcal hargs htys
        split at htr
        · rename_i e hu
          split at htr
          · rename_i sz bytes p q he hx hy
            simp only [Option.some.injEq] at htr; subst htr
            exact does_app h hu he hx hy hop (htt.imp isSlice_some Vd.isStr_some) hex
          · cases htr
        · cases htr
      · obtain rfl := call_eq hcal hargs htys
        split at htr
        · rename_i kn e hu2 hu
          split at htr
          · rename_i sz bytes z p q he hz hx hy
            simp only [Option.some.injEq] at htr; subst htr
            exact does_appz h hu hu2 he hz hx hy hop hex
          · cases htr
        · cases htr
    · cases htr
  · rename_i hcal
    split at htr
    · rename_i x y t t' hargs htys
      obtain rfl := call_eq hcal hargs htys
      split at htr
      · rename_i e hu
        split at htr
        · rename_i sz p q hs hx hy
          simp only [Option.some.injEq] at htr; subst htr
          exact does_copy h hu hs hx hy hop hex
        · cases htr
      · cases htr
    · cases htr
  · rename_i hcal
    split at htr
    · rename_i x t hargs htys
      obtain rfl := call_eq hcal hargs htys
      split at htr
      · obtain ⟨y, hx, rfl⟩ := map1 htr
        exact does_sld (t0 := t) h hx hop hex
      · cases htr
    · cases htr
  · rename_i hcal
    split at htr
    · rename_i x y t t' hargs htys
      obtain rfl := call_eq hcal hargs htys
      split at htr
      · rename_i e p q hu hx hy
        split at htr
        · rename_i hc
          simp only [Option.some.injEq] at htr; subst htr
          exact does_ustr h hu hc hx hy hop hex
        · cases htr
      · cases htr
    · cases htr
  · rename_i hcal
    split at htr
    · rename_i x y t t' hargs htys
      obtain rfl := call_eq hcal hargs htys
      split at htr
      · rename_i kt et hu
        split at htr
        · rename_i p q hk hx hy
          simp only [Option.some.injEq] at htr; subst htr
          exact does_mapdel h hu hk hx hy hop hex
        · cases htr
      · cases htr
    · cases htr
  · rename_i hcal
    split at htr
    · rename_i x ys hl
      simp only [Option.some.injEq] at htr; subst htr
      exact does_mm h (by simpa using hcal) hl hop hex
    · cases htr
  · rename_i hcal
    split at htr
    · rename_i x ys hl
      simp only [Option.some.injEq] at htr; subst htr
      exact does_mm h (by simpa using hcal) hl hop hex
    · cases htr
  · rename_i hcal
    split at htr
    · rename_i x t hargs htys
      obtain rfl := call_eq hcal hargs htys
      split at htr
      · rename_i e hu
        split at htr
        · rename_i sz z p hs hz hx
          simp only [Option.some.injEq] at htr; subst htr
          have hr := h.slots.arg hx
          have clr : ∀ ad cc, a.eval x = .slice ad 0 cc → (execOp a.eval o).run P w = .ok (.value (.tuple #[])) w := by
            intro ad cc e1
            have : (Builtin.clear_ #[t] o.type #[a.eval x]).run P w = .ok (.tuple #[]) w := by
              cases ad <;> simp [Builtin.clear_, run_underlying hu, e1]
            simp only [execOp, hop, resolve, invoke, builtin, Sem.run_bind, Sem.run_pure, Result.andThen_ok, List.map_toArray, List.map_cons, List.map_nil, this]
          have ht : Rep g (.tup []) (.tuple #[]) := .tup [] [] rfl (by simp)
          simp only [exec] at hex
          split at hex
          · rename_i e'; rw [e'] at hr; exact .pureE h.inv (clr _ _ hr.nils_inv) ht hex
          · rename_i e'; rw [e'] at hr; obtain ⟨ad, c, e1⟩ := hr.esl_inv; exact .pureE h.inv (clr _ _ e1) ht hex
          · rename_i e'; rw [e'] at hr; obtain ⟨ad, e1⟩ := hr.esl0_inv; exact .pureE h.inv (clr _ _ e1) ht hex
          · rename_i e'; rw [e'] at hr; obtain ⟨b, c, C, e1, _⟩ := hr.rsl_inv; exact .pureE h.inv (clr _ _ e1) ht hex
          · cases hex
        · cases htr
      · cases htr
    · cases htr
  · cases htr

theorem op_does {o : Oper} {dop : DOp} (h : At P B w0 w m g n n' s a) (htr : tr P o.op = some dop) (hnc : ∀ f xs, dop ≠ .call f xs) (hex : exec s m n dop = some (d, u, n')) :
    Does P B w0 g n w (Upd.app m u) d n' (execOp a.eval o) := by
  have map1 : ∀ {x : Operand} {F : Arg → DOp}, (trArg x).map F = some dop → ∃ y, trArg x = some y ∧ dop = F y := by
    intro x F e
    rw [Option.map_eq_some_iff] at e
    obtain ⟨y, h1, h2⟩ := e
    exact ⟨y, h1, h2.symm⟩
  cases hop : o.op <;> rw [hop] at htr <;> first | (simp only [tr] at htr; done) | skip
  case move x =>
    obtain ⟨y, hx, rfl⟩ := map1 htr
    exact .pureE h.inv (by simp [execOp, hop]) (h.slots.arg hx) hex
  case assign x =>
    obtain ⟨y, hx, rfl⟩ := map1 htr
    exact .pureE h.inv (by simp [execOp, hop]) (h.slots.arg hx) hex
  case pick c x y =>
    simp only [tr] at htr
    split at htr
    · rename_i c' x' y' e1 e2 e3
      simp only [Option.some.injEq] at htr; subst htr
      simp only [exec] at hex
      split at hex
      · rename_i b eb
        have hb := h.slots.arg e1
        rw [eb] at hb
        have hrun : (execOp a.eval o).run P w = .ok (.value (if b then a.eval x else a.eval y)) w := by
          simp [execOp, hop, hb.bool_inv, asBool]
        refine .pureE h.inv hrun ?_ hex
        cases b
        · exact h.slots.arg e3
        · exact h.slots.arg e2
      · cases hex
    · cases htr
  case alloc t =>
    simp only [tr] at htr
    rw [Option.map_eq_some_iff] at htr
    obtain ⟨z, hz, rfl⟩ := htr
    exact does_alloc h hz hop hex
  case box t x =>
    obtain ⟨y, hx, rfl⟩ := map1 htr
    exact does_box h hx hop hex
  case build t parts =>
    simp only [tr] at htr
    split at htr
    · rename_i fields zs hu hz
      split at htr
      · rename_i hok
        rw [Option.map_eq_some_iff] at htr
        obtain ⟨l, hl, rfl⟩ := htr
        exact does_build h hu hok hz hl hop hex
      · cases htr
    · rename_i len e zs hu hz
      split at htr
      · rename_i sz hs
        rw [Option.map_eq_some_iff] at htr
        obtain ⟨l, hl, rfl⟩ := htr
        exact does_buildA h hu hs hz hl hop hex
      · cases htr
    · cases htr
  case buildSlice t len parts =>
    simp only [tr] at htr
    split at htr
    · rename_i e hu
      split at htr
      · rename_i sz bytes l he hl
        split at htr
        · rename_i hc
          simp only [Option.some.injEq] at htr; subst htr
          exact does_bslice h hu he hl hc.1 hc.2 hop hex
        · cases htr
      · cases htr
    · cases htr
  case load t x =>
    simp only [tr] at htr
    split at htr
    · rename_i k y hk hx
      simp only [Option.some.injEq] at htr; subst htr
      exact does_load h hk hx hop hex
    · cases htr
  case store t x v =>
    simp only [tr] at htr
    split at htr
    · rename_i n y z hn hx hv
      simp only [Option.some.injEq] at htr; subst htr
      exact does_store h hn hx hv hop hex
    · cases htr
  case nilCheck x =>
    obtain ⟨y, hx, rfl⟩ := map1 htr
    have hr := h.slots.arg hx
    simp only [exec] at hex
    split at hex
    · rename_i i o' e; rw [e] at hr
      obtain ⟨b, C, e1, hb⟩ := hr.ptr_inv
      exact .pureE (v := a.eval x) h.inv (by simp [execOp, hop, e1]) hr hex
    · rename_i f cs e; rw [e] at hr
      obtain ⟨vs, e1, _⟩ := hr.fn_inv
      exact .pureE (v := a.eval x) h.inv (by simp [execOp, hop, e1]) hr hex
    · rename_i f cs e; rw [e] at hr
      obtain ⟨vs, e1, _⟩ := hr.fnb_inv
      exact .pureE (v := a.eval x) h.inv (by simp [execOp, hop, e1]) hr hex
    · cases hex
  case binOp op t x y yt =>
    cases op
    case eql =>
      simp only [tr] at htr
      split at htr
      · rename_i p q hx hy
        exact does_eq (ne := false) h hx hy htr hop hex
      · cases htr
    case neq =>
      simp only [tr] at htr
      split at htr
      · rename_i p q hx hy
        exact does_eq (ne := true) h hx hy htr hop hex
      · cases htr
    all_goals
      simp only [tr] at htr
      split at htr
      · rename_i p q hx hy
        simp only [Option.some.injEq] at htr; subst htr
        exact does_bin h hx hy hop hex
      · cases htr
  case unOp op t x =>
    obtain ⟨y, hx, rfl⟩ := map1 htr
    simp only [exec] at hex
    refine .pureM h.inv hex (fun d' h1 => ?_)
    obtain ⟨v, e1, e2⟩ := un_sound (P := P) (w := w) (h.slots.arg hx) h1
    exact ⟨v, by simp only [execOp, hop, Sem.run_bind, e1, Result.andThen_ok, Sem.run_pure], e2⟩
  case convert src dst x =>
    simp only [tr] at htr
    split at htr
    · rename_i k1 k y hs hd hx
      simp only [Option.some.injEq] at htr; subst htr
      have hr := h.slots.arg hx
      simp only [exec] at hex
      split at hex
      · rename_i k' v e
        rw [e] at hr
        refine .pureE (v := .int k (k.wrap v)) h.inv ?_ (.int _ _) hex
        simp [execOp, hop, hr.int_inv, convert, run_underlying hs, run_underlying hd, Conv.intToInt]
      · cases hex
    · rename_i y hs hd hx
      simp only [Option.some.injEq] at htr; subst htr
      have hr := h.slots.arg hx
      simp only [exec] at hex
      split at hex
      · rename_i b e
        rw [e] at hr
        refine .pureE (v := a.eval x) h.inv ?_ hr hex
        simp [execOp, hop, hr.str_inv, convert, run_underlying hs, run_underlying hd]
      · cases hex
    · rename_i e y hs hd hx
      split at htr
      · rename_i bytes he hel
        simp only [Option.some.injEq] at htr; subst htr
        exact does_s2b h hs hd he hel hx hop hex
      · cases htr
    · rename_i e y hs hd hx
      split at htr
      · rename_i he
        simp only [Option.some.injEq] at htr; subst htr
        exact does_b2s h hs hd he hx hop hex
      · cases htr
    · rename_i e y hs hd hx
      split at htr
      · rename_i k hk
        simp only [Option.some.injEq] at htr; subst htr
        exact does_toU h hs hd hk hx hop hex
      · cases htr
    · rename_i e y hs hd hx
      split at htr
      · rename_i sz hsz
        split at htr
        · rename_i hl
          simp only [Option.some.injEq] at htr; subst htr
          exact does_fromU h hs hd hsz hl hx hop hex
        · cases htr
      · cases htr
    · cases htr
  case fieldAddr t x f =>
    simp only [tr] at htr
    split at htr
    · rename_i fields y hu hx
      split at htr
      · rename_i fd hf
        split at htr
        · rename_i n hn
          simp only [Option.some.injEq] at htr; subst htr
          exact does_faddr h hu hf hn hx hop hex
        · cases htr
      · cases htr
    · cases htr
  case field t x f =>
    simp only [tr] at htr
    split at htr
    · rename_i fields y hu hx
      split at htr
      · rename_i fd hf
        rw [Option.map_eq_some_iff] at htr
        obtain ⟨k, hk, rfl⟩ := htr
        exact does_field h hu hf hk hx hop hex
      · cases htr
    · cases htr
  case indexAddr t x i =>
    simp only [tr] at htr
    split at htr
    · rename_i e y z hu hx hi
      rw [Option.map_eq_some_iff] at htr
      obtain ⟨n, hn, rfl⟩ := htr
      exact does_iaddr h hu hn hx hi hop hex
    · rename_i len e y z hu hx hi
      rw [Option.map_eq_some_iff] at htr
      obtain ⟨n, hn, rfl⟩ := htr
      exact does_iaddra h hu hn hx hi hop hex
    · cases htr
  case index t x i =>
    simp only [tr] at htr
    split at htr
    · rename_i y z hu hx hi
      simp only [Option.some.injEq] at htr; subst htr
      exact does_idxs h hu hx hi hop hex
    · rename_i len e y z hu hx hi
      split at htr
      · rename_i sz k hs hk
        simp only [Option.some.injEq] at htr; subst htr
        exact does_idxa h hu hs hk hx hi hop hex
      · cases htr
    · cases htr
  case slice t x lo hi mx =>
    cases mx with
    | some mx =>
      simp only [tr] at htr
      split at htr
      · rename_i e y l' m' hu hx hlo hmx
        split at htr
        · rename_i sz hi' hs
          split at htr
          · rename_i h' hhi
            simp only [Option.some.injEq] at htr; subst htr
            exact does_cutm h hu hs hx hlo hhi hmx hop hex
          · cases htr
        · cases htr
      · cases htr
    | none =>
      simp only [tr] at htr
      split at htr
      · rename_i y l' h' hu hx hlo hhi
        simp only [Option.some.injEq] at htr; subst htr
        exact does_cuts h hu hx hlo hhi hop hex
      · rename_i e y l' h' hu hx hlo hhi
        rw [Option.map_eq_some_iff] at htr
        obtain ⟨n, hn, rfl⟩ := htr
        exact does_cutl h hu hn hx hlo hhi hop hex
      · rename_i len e y l' h' hu hx hlo hhi
        rw [Option.map_eq_some_iff] at htr
        obtain ⟨n, hn, rfl⟩ := htr
        exact does_cuta h hu hn hx hlo hhi hop hex
      · cases htr
  case sliceToArrayPointer t x =>
    simp only [tr] at htr
    split at htr
    · rename_i len e y hu hx
      simp only [Option.some.injEq] at htr; subst htr
      exact does_s2a h hu hx hop hex
    · cases htr
  case makeInterface t x =>
    simp only [tr] at htr
    split at htr
    · cases htr
    · rename_i td y hni hu hx
      simp only [Option.some.injEq] at htr; subst htr
      have hr := h.slots.arg hx
      simp only [exec] at hex
      split at hex
      · rename_i hc
        refine .pureE (v := .iface t (a.eval x)) h.inv ?_ (.iface t _ _ hr) hex
        simp only [execOp, hop, Instr.makeInterface, Sem.run_bind, run_underlying hu, Result.andThen_ok]
        cases td <;> first | exact absurd rfl (hni _) | rfl
      · cases hex
    · cases htr
  case typeAssert x xt t ok =>
    simp only [tr] at htr
    split at htr
    · cases htr
    · rename_i td z y hni hu hz hx
      simp only [Option.some.injEq] at htr; subst htr
      exact does_tass h hu (fun ms e => hni ms (by rw [← e])) hz hx hop hex
    · cases htr
  case extract x i =>
    obtain ⟨y, hx, rfl⟩ := map1 htr
    have hr := h.slots.arg hx
    simp only [exec] at hex
    split at hex
    · rename_i ds e; rw [e] at hr
      obtain ⟨vs, e1, e2, e3⟩ := hr.tup_inv
      refine .pureM h.inv hex (fun d' hd => ?_)
      have hv : i < vs.length := by rw [e2]; exact (List.getElem?_eq_some_iff.1 hd).1
      exact ⟨vs[i], by simp [execOp, hop, e1, Instr.extract, hv], e3 i d' _ hd (List.getElem?_eq_getElem hv)⟩
    · cases hex
  case makeFunc fn first caps =>
    cases fn with
    | func f =>
      simp only [tr] at htr
      split at htr
      · rename_i l hf hl
        simp only [Option.some.injEq] at htr; subst htr
        have hf0 : first = #[] := Array.toList_eq_nil_iff.1 hf
        subst hf0
        obtain ⟨a1, a2⟩ := h.slots.args hl
        simp only [exec] at hex
        refine .pureE (v := .func (.func f) #[] (caps.map a.eval)) h.inv (by simp [execOp, hop, Instr.makeFunc]) ?_ hex
        have := Rep.fn (g := g) f (l.map (·.ev s)) (caps.map a.eval).toList (by simpa using a1) (by simpa using a2)
        rwa [Array.toArray_toList] at this
      · rename_i x r hf hl
        rw [Option.map_eq_some_iff] at htr
        obtain ⟨l, hl', rfl⟩ := htr
        have hc0 : caps = #[] := by
          cases hcl : caps.toList with
          | nil => exact Array.toList_eq_nil_iff.1 hcl
          | cons c cr =>
            rw [hcl] at hl
            simp only [trArgs] at hl
            split at hl <;> simp at hl
        subst hc0
        rw [← hf] at hl'
        obtain ⟨a1, a2⟩ := h.slots.args hl'
        simp only [exec] at hex
        refine .pureE (v := .func (.func f) (first.map a.eval) #[]) h.inv (by simp [execOp, hop, Instr.makeFunc]) ?_ hex
        have := Rep.fnb (g := g) f (l.map (·.ev s)) (first.map a.eval).toList (by simpa using a1) (by simpa using a2)
        rwa [Array.toArray_toList] at this
      · cases htr
    | _ => simp only [tr] at htr; cases htr
  case makeSlice t x y =>
    simp only [tr] at htr
    split at htr
    · rename_i e hu
      split at htr
      · rename_i sz bytes z p q he hz hx hy
        simp only [Option.some.injEq] at htr; subst htr
        exact does_mksl h hu he hz hx hy hop hex
      · cases htr
    · cases htr
  case makeMap t r =>
    cases r with
    | none =>
      simp only [tr, Option.some.injEq] at htr; subst htr
      exact does_mkmap h hop hex
    | some r => simp only [tr] at htr; cases htr
  case lookup t x k ok =>
    simp only [tr] at htr
    split at htr
    · rename_i kt et hu
      split at htr
      · rename_i z y y' hk hz hx hy
        simp only [Option.some.injEq] at htr; subst htr
        exact does_lookup h hu hk hz hx hy hop hex
      · cases htr
    · cases htr
  case mapUpdate t x k v =>
    simp only [tr] at htr
    split at htr
    · rename_i kt et hu
      split at htr
      · rename_i y y' z hk hx hy hv
        simp only [Option.some.injEq] at htr; subst htr
        exact does_mapset h hu hk hx hy hv hop hex
      · cases htr
    · cases htr
  case range t x =>
    simp only [tr] at htr
    split at htr
    · rename_i y hu hx
      simp only [Option.some.injEq] at htr; subst htr
      exact does_range h hu hx hop hex
    · cases htr
  case next x isS =>
    cases isS with
    | true =>
      obtain ⟨y, hx, rfl⟩ := map1 htr
      exact does_next h hx hop hex
    | false => simp only [tr] at htr; cases htr
  case call c => exact does_call h hop htr hnc hex
  all_goals (simp [tr] at htr)
end
end Go.Ve

namespace Go.Ve
open Go.RowKit
set_option linter.unusedSimpArgs false
set_option linter.unusedVariables false

/-! ### A tree by numbers -/

theorem Tr.get_nil {α : Type} (n : Nat) : (Tr.nil : Tr α).get n = none := by cases n <;> rfl
theorem Tr.get_zero {α : Type} (x : Option α) (l r : Tr α) : (Tr.node x l r).get 0 = x := rfl
theorem Tr.get_succ {α : Type} (x : Option α) (l r : Tr α) (k : Nat) : (Tr.node x l r).get (k + 1) = if k % 2 = 0 then l.get (k / 2) else r.get (k / 2) := by
  simp only [Tr.get]
  by_cases h : k % 2 = 0
  · simp [h]
  · have : Nat.beq (k % 2) 0 = false := by rw [Bool.eq_false_iff]; intro e; exact h (Nat.eq_of_beq_eq_true e)
    simp [h, this]

theorem half_inj {k j : Nat} (h1 : k / 2 = j / 2) (h2 : k % 2 = j % 2) : k = j := by omega

theorem Tr.get_putF {α : Type} (x : Option α) : ∀ (f : Nat) (t : Tr α) (n j : Nat), n < f → (Tr.putF x f t n).get j = if j = n then x else t.get j
  | 0, t, n, j, h => by omega
  | f + 1, t, n, j, h => by
    have beq : ∀ k : Nat, Nat.beq (k % 2) 0 = decide (k % 2 = 0) := by
      intro k
      by_cases hk : k % 2 = 0
      · simp [hk]
      · rw [decide_eq_false hk, Bool.eq_false_iff]; intro e; exact hk (Nat.eq_of_beq_eq_true e)
    cases t with
    | nil =>
      cases n with
      | zero =>
        simp only [Tr.putF]
        cases j with
        | zero => simp [Tr.get]
        | succ j => rw [Tr.get_succ]; simp [Tr.get_nil]
      | succ k =>
        simp only [Tr.putF, beq]
        by_cases hk : k % 2 = 0
        · simp only [hk, decide_true, cond_true]
          cases j with
          | zero => simp [Tr.get]
          | succ j =>
            rw [Tr.get_succ, Tr.get_putF x f .nil (k / 2) (j / 2) (by omega)]
            by_cases hj : j % 2 = 0
            · rw [if_pos hj]
              by_cases he : j / 2 = k / 2
              · rw [if_pos he, if_pos (by omega)]
              · rw [if_neg he, if_neg (by omega), Tr.get_nil, Tr.get_nil]
            · rw [if_neg hj, if_neg (by omega), Tr.get_nil, Tr.get_nil]
        · simp only [hk, decide_false, cond_false]
          cases j with
          | zero => simp [Tr.get]
          | succ j =>
            rw [Tr.get_succ, Tr.get_putF x f .nil (k / 2) (j / 2) (by omega)]
            by_cases hj : j % 2 = 0
            · rw [if_pos hj, if_neg (by omega), Tr.get_nil, Tr.get_nil]
            · rw [if_neg hj]
              by_cases he : j / 2 = k / 2
              · rw [if_pos he, if_pos (by omega)]
              · rw [if_neg he, if_neg (by omega), Tr.get_nil, Tr.get_nil]
    | node y l r =>
      cases n with
      | zero =>
        simp only [Tr.putF]
        cases j with
        | zero => simp [Tr.get]
        | succ j => rw [Tr.get_succ, Tr.get_succ]; simp
      | succ k =>
        simp only [Tr.putF, beq]
        by_cases hk : k % 2 = 0
        · simp only [hk, decide_true, cond_true]
          cases j with
          | zero => simp [Tr.get]
          | succ j =>
            rw [Tr.get_succ, Tr.get_succ, Tr.get_putF x f l (k / 2) (j / 2) (by omega)]
            by_cases hj : j % 2 = 0
            · rw [if_pos hj, if_pos hj]
              by_cases he : j / 2 = k / 2
              · rw [if_pos he, if_pos (by omega)]
              · rw [if_neg he, if_neg (by omega)]
            · rw [if_neg hj, if_neg hj, if_neg (by omega)]
        · simp only [hk, decide_false, cond_false]
          cases j with
          | zero => simp [Tr.get]
          | succ j =>
            rw [Tr.get_succ, Tr.get_succ, Tr.get_putF x f r (k / 2) (j / 2) (by omega)]
            by_cases hj : j % 2 = 0
            · rw [if_pos hj, if_pos hj, if_neg (by omega)]
            · rw [if_neg hj, if_neg hj]
              by_cases he : j / 2 = k / 2
              · rw [if_pos he, if_pos (by omega)]
              · rw [if_neg he, if_neg (by omega)]

theorem Tr.get_put {α : Type} (t : Tr α) (n : Nat) (x : Option α) (j : Nat) : (t.put n x).get j = if j = n then x else t.get j := Tr.get_putF x (n + 1) t n j (Nat.lt_succ_self n)

abbrev Mt := Tr Ob
def Mt.app (m : Mt) : Upd → Mt
  | [] => m
  | (i, x) :: u => Mt.app (Tr.put m i x) u

theorem Mt.app_get : ∀ (u : Upd) (m : Mt), (Mt.app m u).get = Upd.app m.get u
  | [], m => rfl
  | (i, x) :: u, m => by
    simp only [Mt.app, Upd.app]
    rw [Mt.app_get u]
    congr 1
    funext j
    simp only [Tr.get_put, Mem.put]

/-! ### What an operation names and looks at -/

def D.obj : D → List Nat
  | .ptr i _ => [i]
  | .rsl i _ _ => [i]
  | .map i => [i]
  | _ => []

/-- The objects that an operation looks at. -/
def rds (s : Nat → D) : DOp → List Nat
  | .load _ x | .store _ x _ | .b2s x | .cuta _ _ x _ _ | .next x | .toU x | .fromU _ _ x | .ustr _ x _ | .lookup _ _ x _ | .mapset x _ _ | .mapdel x _ | .lenm x => (x.ev s).obj
  | .app _ _ _ x y | .copy _ x y => (x.ev s).obj ++ (y.ev s).obj
  | _ => []

theorem Arg.ev_congr {x : Arg} {s s' : Nat → D} (h : ∀ t ∈ x.uses, s t = s' t) : x.ev s = x.ev s' := by
  cases x with
  | t n => exact h n (List.mem_singleton.2 rfl)
  | c d => rfl
theorem args_congr {xs : List Arg} {s s' : Nat → D} (h : ∀ t ∈ xs.flatMap Arg.uses, s t = s' t) : xs.map (·.ev s) = xs.map (·.ev s') :=
  List.map_congr_left fun x hx => Arg.ev_congr fun t ht => h t (List.mem_flatMap.2 ⟨x, hx, ht⟩)
theorem bound_congr {x : Option Arg} {s s' : Nat → D} (h : ∀ t ∈ optUses x, s t = s' t) (a b : Nat) : bound s x a b = bound s' x a b := by
  cases x with
  | none => rfl
  | some x => simp only [bound]; rw [Arg.ev_congr h]
theorem bounds_congr {x y : Option Arg} {s s' : Nat → D} (h : ∀ t ∈ optUses x ++ optUses y, s t = s' t) (a : Nat) : bounds s x y a = bounds s' x y a := by
  simp only [List.mem_append] at h
  simp only [bounds]
  rw [bound_congr (fun t ht => h t (.inr ht))]
  split
  · rw [bound_congr (fun t ht => h t (.inl ht))]
  · rfl

/-- By the slots alone. -/
theorem exec_slots {op : DOp} {s s' : Nat → D} {m : Mem} {n : Nat} (hs : ∀ t ∈ op.uses, s t = s' t) : exec s m n op = exec s' m n op := by
  have two : ∀ {x y : Arg}, (∀ t ∈ x.uses ++ y.uses, s t = s' t) → x.ev s = x.ev s' ∧ y.ev s = y.ev s' := by
    intro x y h
    simp only [List.mem_append] at h
    exact ⟨Arg.ev_congr (fun t ht => h t (.inl ht)), Arg.ev_congr (fun t ht => h t (.inr ht))⟩
  cases op with
  | alloc t zs => rfl
  | stop => rfl
  | mkmap => rfl
  | call f xs => rfl
  | mv x => simp only [exec]; rw [Arg.ev_congr hs]
  | box t x => simp only [exec]; rw [Arg.ev_congr hs]
  | nilchk x => simp only [exec]; rw [Arg.ev_congr hs]
  | un op x => simp only [exec]; rw [Arg.ev_congr hs]
  | conv k x => simp only [exec]; rw [Arg.ev_congr hs]
  | s2s x => simp only [exec]; rw [Arg.ev_congr hs]
  | s2b e x => simp only [exec]; rw [Arg.ev_congr hs]
  | b2s x => simp only [exec]; rw [Arg.ev_congr hs]
  | faddr off x => simp only [exec]; rw [Arg.ev_congr hs]
  | field k off x => simp only [exec]; rw [Arg.ev_congr hs]
  | mkif t x => simp only [exec]; rw [Arg.ev_congr hs]
  | tass t ok z x => simp only [exec]; rw [Arg.ev_congr hs]
  | ext i x => simp only [exec]; rw [Arg.ev_congr hs]
  | len k x => simp only [exec]; rw [Arg.ev_congr hs]
  | cap x => simp only [exec]; rw [Arg.ev_congr hs]
  | s2a k x => simp only [exec]; rw [Arg.ev_congr hs]
  | clear sz z x => simp only [exec]; rw [Arg.ev_congr hs]
  | range x => simp only [exec]; rw [Arg.ev_congr hs]
  | next x => simp only [exec]; rw [Arg.ev_congr hs]
  | toU x => simp only [exec]; rw [Arg.ev_congr hs]
  | fromU t sz x => simp only [exec]; rw [Arg.ev_congr hs]
  | sld x => simp only [exec]; rw [Arg.ev_congr hs]
  | lenm x => simp only [exec]; rw [Arg.ev_congr hs]
  | load k x => simp only [exec]; rw [Arg.ev_congr hs]
  | pick c a b =>
    simp only [DOp.uses, List.mem_append] at hs
    simp only [exec]
    rw [Arg.ev_congr (fun t ht => hs t (.inl (.inl ht))), Arg.ev_congr (fun t ht => hs t (.inl (.inr ht))), Arg.ev_congr (fun t ht => hs t (.inr ht))]
  | build zs ps =>
    simp only [exec]
    have : (ps.map fun p => (p.1, p.2.1, p.2.2.ev s)) = ps.map fun p => (p.1, p.2.1, p.2.2.ev s') :=
      List.map_congr_left fun p hp => by rw [Arg.ev_congr fun t ht => hs t (List.mem_flatMap.2 ⟨p, hp, ht⟩)]
    rw [this]
  | bslice e sz ps =>
    have hp : ∀ p ∈ ps, p.ev s = p.ev s' := fun p hp => Arg.ev_congr fun t ht => hs t (List.mem_flatMap.2 ⟨p, hp, ht⟩)
    simp only [exec]
    have h1 : (ps.flatMap fun p => (p.ev s).cells) = ps.flatMap fun p => (p.ev s').cells := by
      simp only [List.flatMap_def]
      rw [List.map_congr_left (fun p hp' => by rw [hp p hp'])]
    rw [h1]
    have : (ps.all fun p => (p.ev s).data && (p.ev s).cells.length == sz) = ps.all fun p => (p.ev s').data && (p.ev s').cells.length == sz := by
      rw [Bool.eq_iff_iff, List.all_eq_true, List.all_eq_true]
      constructor
      · intro h p hp'; rw [← hp p hp']; exact h p hp'
      · intro h p hp'; rw [hp p hp']; exact h p hp'
    rw [this]
  | store n x v => obtain ⟨h1, h2⟩ := two hs; simp only [exec]; rw [h1, h2]
  | bin op x y => obtain ⟨h1, h2⟩ := two hs; simp only [exec]; rw [h1, h2]
  | beq ne x y => obtain ⟨h1, h2⟩ := two hs; simp only [exec]; rw [h1, h2]
  | seq ne l x y => obtain ⟨h1, h2⟩ := two hs; simp only [exec]; rw [h1, h2]
  | nileq ne k x y => obtain ⟨h1, h2⟩ := two hs; simp only [exec]; rw [h1, h2]
  | ptreq ne x y => obtain ⟨h1, h2⟩ := two hs; simp only [exec]; rw [h1, h2]
  | iaddr sz x y => obtain ⟨h1, h2⟩ := two hs; simp only [exec]; rw [h1, h2]
  | iaddra len sz x y => obtain ⟨h1, h2⟩ := two hs; simp only [exec]; rw [h1, h2]
  | idxs x y => obtain ⟨h1, h2⟩ := two hs; simp only [exec]; rw [h1, h2]
  | idxa len sz k x y => obtain ⟨h1, h2⟩ := two hs; simp only [exec]; rw [h1, h2]
  | mksl e sz b z x y => obtain ⟨h1, h2⟩ := two hs; simp only [exec]; rw [h1, h2]
  | appz e sz b z x y => obtain ⟨h1, h2⟩ := two hs; simp only [exec]; rw [h1, h2]
  | app e sz b x y => obtain ⟨h1, h2⟩ := two hs; simp only [exec]; rw [h1, h2]
  | copy sz x y => obtain ⟨h1, h2⟩ := two hs; simp only [exec]; rw [h1, h2]
  | mkfn f cs => simp only [exec]; rw [args_congr hs]
  | mkfnb f cs => simp only [exec]; rw [args_congr hs]
  | ustr e x y => obtain ⟨h1, h2⟩ := two hs; simp only [exec]; rw [h1, h2]
  | lookup ok z x y => obtain ⟨h1, h2⟩ := two hs; simp only [exec]; rw [h1, h2]
  | mapdel x y => obtain ⟨h1, h2⟩ := two hs; simp only [exec]; rw [h1, h2]
  | mapset x y z =>
    simp only [DOp.uses, List.mem_append] at hs
    simp only [exec]
    rw [Arg.ev_congr (fun t ht => hs t (.inl (.inl ht))), Arg.ev_congr (fun t ht => hs t (.inl (.inr ht))), Arg.ev_congr (fun t ht => hs t (.inr ht))]
  | mm mx x ys =>
    simp only [DOp.uses, List.mem_append] at hs
    simp only [exec]
    rw [Arg.ev_congr (fun t ht => hs t (.inl ht)), args_congr (fun t ht => hs t (.inr ht))]
  | cuts x l h =>
    simp only [DOp.uses] at hs
    have hb := fun k => bounds_congr (x := l) (y := h) (s := s) (s' := s') (fun t ht => hs t (List.mem_append_right _ ht)) k
    simp only [exec, hb]
    rw [Arg.ev_congr (fun t ht => hs t (List.mem_append_left _ ht))]
  | cutl sz x l h =>
    simp only [DOp.uses] at hs
    have hb := fun k => bounds_congr (x := l) (y := h) (s := s) (s' := s') (fun t ht => hs t (List.mem_append_right _ ht)) k
    simp only [exec, hb]
    rw [Arg.ev_congr (fun t ht => hs t (List.mem_append_left _ ht))]
  | cuta len sz x l h =>
    simp only [DOp.uses] at hs
    have hb := fun k => bounds_congr (x := l) (y := h) (s := s) (s' := s') (fun t ht => hs t (List.mem_append_right _ ht)) k
    simp only [exec, hb]
    rw [Arg.ev_congr (fun t ht => hs t (List.mem_append_left _ ht))]
  | cutm sz x l h mx =>
    simp only [DOp.uses] at hs
    have hb := fun k => bounds_congr (x := l) (y := h) (s := s) (s' := s') (fun t ht => hs t (List.mem_append_left _ (List.mem_append_right _ ht))) k
    have hm := fun a b => bound_congr (x := mx) (s := s) (s' := s') (fun t ht => hs t (List.mem_append_right _ ht)) a b
    simp only [exec, hb, hm]
    rw [Arg.ev_congr (fun t ht => hs t (List.mem_append_left _ (List.mem_append_left _ ht)))]

/-- What is known in one memory is so in another. -/
def Sub (m M : Mem) : Prop := ∀ i ob, m i = some ob → M i = some ob

theorem slCells_mono {m M : Mem} {sz : Nat} {d : D} (h : ∀ i ∈ d.obj, ∀ ob, m i = some ob → M i = some ob) {r : Nat × List D} (hr : slCells m sz d = some r) : slCells M sz d = some r := by
  unfold slCells at hr ⊢
  split at hr
  · rename_i i o n
    split at hr
    · rename_i cs e hm
      simp only [h i (by simp [D.obj]) _ hm]
      exact hr
    · cases hr
  · exact hr
  · exact hr
  · exact hr
  · cases hr

theorem appSrc_mono {m M : Mem} {sz : Nat} {d : D} (h : ∀ i ∈ d.obj, ∀ ob, m i = some ob → M i = some ob) {r : Nat × List D} (hr : appSrc m sz d = some r) : appSrc M sz d = some r := by
  unfold appSrc at hr ⊢
  split at hr
  · exact hr
  · exact slCells_mono h hr

/-- More may be known. -/
theorem exec_mono {op : DOp} {s : Nat → D} {m M : Mem} {n : Nat} (h : ∀ i ∈ rds s op, ∀ ob, m i = some ob → M i = some ob) {r : D × Upd × Nat} (hr : exec s m n op = some r) : exec s M n op = some r := by
  cases op with
  | load k x =>
    simp only [exec] at hr ⊢
    simp only [rds] at h
    split at hr
    · rename_i i o e
      split at hr
      · rename_i cs e' hm
        rw [e] at h
        simp only [h i (by simp [D.obj]) _ hm]
        exact hr
      · cases hr
    · cases hr
  | store k x v =>
    simp only [exec] at hr ⊢
    simp only [rds] at h
    split at hr
    · rename_i i o e
      split at hr
      · rename_i cs e' hm
        rw [e] at h
        simp only [h i (by simp [D.obj]) _ hm]
        exact hr
      · cases hr
    · cases hr
  | b2s x =>
    simp only [exec] at hr ⊢
    simp only [rds] at h
    split at hr
    · rename_i k cs e
      rw [slCells_mono h e]
      exact hr
    · cases hr
  | cuta len sz x l hh =>
    simp only [exec] at hr ⊢
    simp only [rds] at h
    split at hr
    · rename_i i o e
      split at hr
      · rename_i cs hm
        rw [e] at h
        simp only [h i (by simp [D.obj]) _ hm]
        exact hr
      · cases hr
    · cases hr
  | next x =>
    simp only [exec] at hr ⊢
    simp only [rds] at h
    split at hr
    · rename_i i e
      split at hr
      · rename_i b pos hm
        rw [e] at h
        simp only [h i (by simp [D.obj]) _ hm]
        exact hr
      · cases hr
    · cases hr
  | app e sz b x y =>
    simp only [exec] at hr ⊢
    simp only [rds, List.mem_append] at h
    split at hr
    · rename_i k ws ey
      rw [appSrc_mono (fun i hi => h i (.inr hi)) ey]
      simp only
      split at hr
      · rename_i hk; rw [if_pos hk]; exact hr
      · rename_i hk; rw [if_neg hk]
        split at hr
        · exact hr
        · exact hr
        · rename_i i c ex
          split at hr
          · rename_i cs e' hm
            simp only [h i (.inl (by rw [ex]; simp [D.obj])) _ hm]
            exact hr
          · cases hr
        · cases hr
    · cases hr
  | copy sz x y =>
    simp only [exec] at hr ⊢
    simp only [rds, List.mem_append] at h
    split at hr
    · rename_i k ws ey
      rw [appSrc_mono (fun i hi => h i (.inr hi)) ey]
      simp only
      split at hr
      · rename_i i o c ex
        split at hr
        · rename_i cs e' hm
          simp only [h i (.inl (by rw [ex]; simp [D.obj])) _ hm]
          exact hr
        · cases hr
      · exact hr
      · exact hr
      · exact hr
      · cases hr
    · cases hr
  | toU x =>
    simp only [exec] at hr ⊢
    simp only [rds] at h
    split at hr
    · exact hr
    · rename_i i e
      split at hr
      · rename_i c0 cs kd hm
        rw [e] at h
        simp only [h i (by simp [D.obj]) _ hm]
        exact hr
      · cases hr
    · cases hr
  | fromU t sz x =>
    simp only [exec] at hr ⊢
    simp only [rds] at h
    split at hr
    · exact hr
    · rename_i i e
      split at hr
      · rename_i cs t' hm
        rw [e] at h
        simp only [h i (by simp [D.obj]) _ hm]
        exact hr
      · cases hr
    · cases hr
  | ustr e x k =>
    simp only [exec] at hr ⊢
    simp only [rds] at h
    split at hr
    · exact hr
    · rename_i i k' ex ek
      split at hr
      · rename_i cs e' hm
        rw [ex] at h
        simp only [h i (by simp [D.obj]) _ hm]
        exact hr
      · cases hr
    · cases hr
  | lookup ok z x k =>
    simp only [exec] at hr ⊢
    simp only [rds] at h
    split at hr
    · split at hr
      · exact hr
      · rename_i i ex
        split at hr
        · rename_i ks vs hm
          rw [ex] at h
          simp only [h i (by simp [D.obj]) _ hm]
          exact hr
        · cases hr
      · cases hr
    · cases hr
  | mapset x k v =>
    simp only [exec] at hr ⊢
    simp only [rds] at h
    split at hr
    · split at hr
      · rename_i i ex
        split at hr
        · rename_i ks vs hm
          rw [ex] at h
          simp only [h i (by simp [D.obj]) _ hm]
          exact hr
        · cases hr
      · cases hr
    · cases hr
  | mapdel x k =>
    simp only [exec] at hr ⊢
    simp only [rds] at h
    split at hr
    · split at hr
      · exact hr
      · rename_i i ex
        split at hr
        · rename_i ks vs hm
          rw [ex] at h
          simp only [h i (by simp [D.obj]) _ hm]
          exact hr
        · cases hr
      · cases hr
    · cases hr
  | lenm x =>
    simp only [exec] at hr ⊢
    simp only [rds] at h
    split at hr
    · exact hr
    · rename_i i ex
      split at hr
      · rename_i ks vs hm
        rw [ex] at h
        simp only [h i (by simp [D.obj]) _ hm]
        exact hr
      · cases hr
    · cases hr
  | _ => exact hr

theorem exec_still {op : DOp} {s : Nat → D} {m : Mem} {n : Nat} (h : op.mayW = false) {d : D} {u : Upd} {n' : Nat} (hr : exec s m n op = some (d, u, n')) : u = [] ∧ n' = n := by
  have done : ∀ {d0 : D}, some (d0, ([] : Upd), n) = some (d, u, n') → u = [] ∧ n' = n := by
    intro d0 e
    simp only [Option.some.injEq, Prod.mk.injEq] at e
    exact ⟨e.2.1.symm, e.2.2.symm⟩
  have mapd : ∀ {α : Type} {q : Option α} {f : α → D}, (q.map fun y => (f y, ([] : Upd), n)) = some (d, u, n') → u = [] ∧ n' = n := by
    intro α q f e
    rw [Option.map_eq_some_iff] at e
    obtain ⟨y, _, e⟩ := e
    exact done (congrArg some e)
  cases op <;> first | (simp [DOp.mayW] at h; done) | skip
  all_goals simp only [exec] at hr
  all_goals repeat' (split at hr)
  all_goals first | exact done hr | exact mapd hr | (cases hr; done)

theorem rds_still {op : DOp} {s : Nat → D} (h : op.mayR = false) : rds s op = [] := by
  cases op <;> first | rfl | (simp [DOp.mayR] at h)

/-- New numbers go on from n. -/
theorem exec_next {op : DOp} {s : Nat → D} {m : Mem} {n : Nat} {d : D} {u : Upd} {n' : Nat} (hr : exec s m n op = some (d, u, n')) : n ≤ n' := by
  have done : ∀ {d0 : D} {u0 : Upd}, some (d0, u0, n) = some (d, u, n') → n ≤ n' := by
    intro d0 u0 e
    simp only [Option.some.injEq, Prod.mk.injEq] at e
    omega
  have done1 : ∀ {d0 : D} {u0 : Upd}, some (d0, u0, n + 1) = some (d, u, n') → n ≤ n' := by
    intro d0 u0 e
    simp only [Option.some.injEq, Prod.mk.injEq] at e
    omega
  have mapd : ∀ {α : Type} {q : Option α} {f : α → D}, (q.map fun y => (f y, ([] : Upd), n)) = some (d, u, n') → n ≤ n' := by
    intro α q f e
    rw [Option.map_eq_some_iff] at e
    obtain ⟨y, _, e⟩ := e
    exact done (congrArg some e)
  have mapu : ∀ {α : Type} {q : Option α} {f : α → D} {k : α → Upd}, (q.map fun y => (f y, k y, n)) = some (d, u, n') → n ≤ n' := by
    intro α q f k e
    rw [Option.map_eq_some_iff] at e
    obtain ⟨y, _, e⟩ := e
    exact done (congrArg some e)
  cases op
  all_goals simp only [exec] at hr
  all_goals repeat' (split at hr)
  all_goals first | exact done hr | exact done1 hr | exact mapd hr | exact mapu hr | (cases hr; done)
end Go.Ve

namespace Go.Ve
open Go.RowKit
set_option linter.unusedSimpArgs false
set_option linter.unusedVariables false

/-- What a call of a function comes to: what it hands back, the objects, the next number, and which of the objects that were there it wrote. -/
inductive Cal where
  | fn (f : FuncId)
  | rng (f : FuncId)
  | yld (i : Nat)

abbrev CallF := Cal → List D → Mt → Nat → Option (D × Mt × Nat × List Nat)

def updOld (u : Upd) (n : Nat) : List Nat := (u.map (·.1)).filter fun i => Nat.blt i n

/-- Who is called, and with what. -/
def calleeOf : D → List D → Option (Cal × List D)
  | .fn f caps, xs => some (.fn f, xs ++ caps)
  | .fnb f first, xs => some (.fn f, first ++ xs)
  | .yld i, xs => some (.yld i, xs)
  | _, _ => none

def stepOp (call : CallF) (s : Nat → D) (m : Mt) (n : Nat) (op : DOp) : Option (D × Mt × Nat × List Nat) :=
  match op with
  | .call f xs => match calleeOf (f.ev s) (xs.map (·.ev s)) with
    | some (f, ds) => call f ds m n
    | none => none
  | op => match exec s m.get n op with
    | some (d, u, n') => bif u.all (fun p => Nat.blt p.1 n') then some (d, m.app u, n', updOld u n) else none
    | none => none

def guardG (s : Nat → D) : Option (Nat × Bool) → Option Bool
  | none => some true
  | some (t, b) => match s t with
    | .bool b' => some (b' == b)
    | .tup [] => some false
    | _ => none

/-- A world behind a call, or a step. -/
structure After (P : Program) (B : Nat) (w0 : World) (M : Mem) (g : Gm) (n : Nat) (m' : Mem) (n' : Nat) (W : List Nat) (M' : Mem) (w' : World) (g' : Gm) : Prop where
  inv : Inv P B w0 M' w' g'
  sub : Sub m' M'
  le : g.le g'
  out : ∀ i, ¬ (n ≤ i ∧ i < n') → g' i = g i
  keep : ∀ i, i ∉ W → ¬ (n ≤ i ∧ i < n') → M' i = M i

/-- A fence that is none: any function, any depth; the frame may be a round's. -/
def fe (ρ : Option Nat) : Fence := { Fence.wide with round := ρ }
theorem callsIn_fe {ρ : Option Nat} {n : Nat} {P : Program} {f : FuncId} {args : Array Value} {w : World} {R : Ending → World → Prop} (h : Calls P f args w R) : CallsIn (fe ρ) n P f args w R :=
  have h2 : CallsIn Fence.wide n P f args w R := callsIn_wide.2 h
  h2
theorem roundIn_fe {ρ : Option Nat} {n : Nat} {P : Program} {l : Nat} {f : FuncId} {tmps : Array Value} {assign body : Code} {w : World} {R : Ending → World → Prop} (h : RoundIn Fence.wide n P l f tmps assign body w R) : RoundIn (fe ρ) n P l f tmps assign body w R := h
theorem fe_dep {ρ : Option Nat} {n : Nat} : (fe ρ).depth.isSome = true → 1 ≤ n := fun h => by simp [fe, Fence.wide] at h

/-- What is called at the model: a function; the yield of a loop. -/
inductive Tg where
  | fn (f : FuncId)
  | rng (f : FuncId)
  | yld (l : Nat)
def Cal.tg (g : Gm) : Cal → Tg → Prop
  | .fn f, t => t = .fn f
  | .rng f, t => t = .rng f
  | .yld i, t => ∃ b C, g i = some (b, C) ∧ t = .yld b

/-- A call of a function at the model. -/
def RunsF (P : Program) (f : FuncId) (vs : List Value) (w : World) (post : Value → World → Prop) : Prop :=
  ((∃ fn, P.funcs[f]? = some fn ∧ fn.body.isSome = true ∧ (fn.name == "runtime.NumGoroutine") = false) ∧ Calls P f vs.toArray w fun e w' => ∃ v, e = .returned v ∧ post v w') ∨
  (∃ v w', (callFunc f vs.toArray).run P w = .ok (.value v) w' ∧ post v w')

/-- A call at the model: of a function that has a body, or of one that has none; a round. -/
def Runs (P : Program) (t : Tg) (vs : List Value) (w : World) (post : Value → World → Prop) : Prop := match t with
  | .fn f => RunsF P f vs w post
  | .rng f => (∃ fn, P.funcs[f]? = some fn ∧ fn.body.isSome = true ∧ (fn.name == "runtime.NumGoroutine") = false) ∧ Calls P f vs.toArray w fun e w' => ∃ v, e = .returned v ∧ post v w'
  | .yld l => ∃ f tmps assign body, (Instr.yield l vs.toArray).run P w = .ok (.round l f tmps assign body) w ∧ RoundIn Fence.wide 0 P l f tmps assign body w fun e w' => ∃ v, e = .returned v ∧ post v w'

def CallOk (P : Program) (call : CallF) : Prop := ∀ c ds m n d m' n' W, call c ds m n = some (d, m', n', W) →
  n ≤ n' ∧ (∀ i ∈ W, i < n) ∧ (∀ i, i ∉ W → ¬ (n ≤ i ∧ i < n') → m'.get i = m.get i) ∧
  ∀ (B : Nat) (w0 w : World) (M : Mem) (g : Gm) (vs : List Value) (t : Tg), c.tg g t → Sub m.get M → Inv P B w0 M w g → (∀ i, n ≤ i → i < n' → M i = none ∧ g i = none) →
    vs.length = ds.length → (∀ (j : Nat) d v, ds[j]? = some d → vs[j]? = some v → Rep g d v) →
    Runs P t vs w fun v w' => ∃ M' g', After P B w0 M g n m'.get n' W M' w' g' ∧ Rep g' d v

/-! ### What is written -/

theorem app_out : ∀ (u : Upd) (m : Mem) (i : Nat), i ∉ u.map (·.1) → Upd.app m u i = m i
  | [], m, i, _ => rfl
  | (j, x) :: u, m, i, h => by
    simp only [List.map_cons, List.mem_cons, not_or] at h
    simp only [Upd.app]
    rw [app_out u _ i h.2, Mem.put_other h.1]

theorem app_in : ∀ (u : Upd) (m M : Mem) (i : Nat), i ∈ u.map (·.1) → Upd.app m u i = Upd.app M u i
  | [], m, M, i, h => by cases h
  | (j, x) :: u, m, M, i, h => by
    simp only [Upd.app]
    by_cases hi : i ∈ u.map (·.1)
    · exact app_in u _ _ i hi
    · simp only [List.map_cons, List.mem_cons] at h
      rw [app_out u _ i hi, app_out u _ i hi]
      rcases h with rfl | h
      · simp [Mem.put]
      · exact absurd h hi

theorem exec_new {op : DOp} {s : Nat → D} {m : Mem} {n : Nat} {d : D} {u : Upd} {n' : Nat} (hr : exec s m n op = some (d, u, n')) : n' = n ∨ (n' = n + 1 ∧ n ∈ u.map (·.1)) := by
  have done : ∀ {d0 : D} {u0 : Upd}, some (d0, u0, n) = some (d, u, n') → n' = n ∨ (n' = n + 1 ∧ n ∈ u.map (·.1)) := by
    intro d0 u0 e
    simp only [Option.some.injEq, Prod.mk.injEq] at e
    exact .inl e.2.2.symm
  have done1 : ∀ {d0 : D} {u0 : Upd}, n ∈ u0.map (·.1) → some (d0, u0, n + 1) = some (d, u, n') → n' = n ∨ (n' = n + 1 ∧ n ∈ u.map (·.1)) := by
    intro d0 u0 h e
    simp only [Option.some.injEq, Prod.mk.injEq] at e
    obtain ⟨_, rfl, rfl⟩ := e
    exact .inr ⟨rfl, h⟩
  have mapd : ∀ {α : Type} {q : Option α} {f : α → D}, (q.map fun y => (f y, ([] : Upd), n)) = some (d, u, n') → n' = n ∨ (n' = n + 1 ∧ n ∈ u.map (·.1)) := by
    intro α q f e
    rw [Option.map_eq_some_iff] at e
    obtain ⟨y, _, e⟩ := e
    exact done (congrArg some e)
  have mapu : ∀ {α : Type} {q : Option α} {f : α → D} {k : α → Upd}, (q.map fun y => (f y, k y, n)) = some (d, u, n') → n' = n ∨ (n' = n + 1 ∧ n ∈ u.map (·.1)) := by
    intro α q f k e
    rw [Option.map_eq_some_iff] at e
    obtain ⟨y, _, e⟩ := e
    exact done (congrArg some e)
  cases op
  all_goals simp only [exec] at hr
  all_goals repeat' (split at hr)
  all_goals first | exact done hr | exact done1 (by simp) hr | exact mapd hr | exact mapu hr | (cases hr; done)

/-- What an operation that is no call does to the tree. -/
theorem prim_facts {s : Nat → D} {m : Mem} {n : Nat} {op : DOp} {d : D} {u : Upd} {n' : Nat} (hex : exec s m n op = some (d, u, n')) (hall : (u.all fun p => Nat.blt p.1 n') = true) :
    n ≤ n' ∧ (∀ i ∈ updOld u n, i < n) ∧ ∀ i, i ∈ u.map (·.1) ↔ (i ∈ updOld u n ∨ (n ≤ i ∧ i < n')) := by
  have hlt : ∀ i ∈ u.map (·.1), i < n' := by
    intro i hi
    rw [List.mem_map] at hi
    obtain ⟨p, hp, rfl⟩ := hi
    have := List.all_eq_true.1 hall p hp
    exact Nat.le_of_ble_eq_true this
  have hblt : ∀ i, Nat.blt i n = true ↔ i < n := fun i => ⟨fun h => Nat.le_of_ble_eq_true h, fun h => Nat.ble_eq_true_of_le h⟩
  refine ⟨exec_next hex, fun i hi => ?_, fun i => ⟨fun hi => ?_, fun hi => ?_⟩⟩
  · simp only [updOld, List.mem_filter] at hi
    exact (hblt i).1 hi.2
  · have := hlt i hi
    by_cases h : i < n
    · exact .inl (by simp only [updOld, List.mem_filter]; exact ⟨hi, (hblt i).2 h⟩)
    · exact .inr ⟨by omega, this⟩
  · rcases hi with hi | hi
    · simp only [updOld, List.mem_filter] at hi; exact hi.1
    · rcases exec_new hex with rfl | ⟨rfl, h⟩
      · omega
      · obtain rfl : i = n := by omega
        exact h

theorem stepOp_prim {call : CallF} {s : Nat → D} {m : Mt} {n : Nat} {op : DOp} (hnc : ∀ f xs, op ≠ .call f xs) : stepOp call s m n op = match exec s m.get n op with
    | some (d, u, n') => bif u.all (fun p => Nat.blt p.1 n') then some (d, m.app u, n', updOld u n) else none
    | none => none := by
  cases op <;> first | rfl | (exact absurd rfl (hnc _ _))

theorem stepOp_prim_some {call : CallF} {s : Nat → D} {m : Mt} {n : Nat} {op : DOp} (hnc : ∀ f xs, op ≠ .call f xs) {d : D} {m' : Mt} {n' : Nat} {W : List Nat} (h : stepOp call s m n op = some (d, m', n', W)) :
    ∃ u, exec s m.get n op = some (d, u, n') ∧ (u.all fun p => Nat.blt p.1 n') = true ∧ m' = m.app u ∧ W = updOld u n := by
  rw [stepOp_prim hnc] at h
  split at h
  · rename_i d1 u n1 e
    cases hall : (u.all fun p => Nat.blt p.1 n1) with
    | true =>
      rw [hall] at h
      simp only [cond_true, Option.some.injEq, Prod.mk.injEq] at h
      obtain ⟨rfl, rfl, rfl, rfl⟩ := h
      exact ⟨u, e, hall, rfl, rfl⟩
    | false => rw [hall] at h; cases h
  · cases h

section
variable {P : Program} {B : Nat} {w0 w : World} {M : Mem} {g : Gm} {n n' : Nat} {s : Nat → D} {a : Act} {d : D}

theorem stepOp_facts {call : CallF} (hc : CallOk P call) {m m' : Mt} {op : DOp} {W : List Nat} (h : stepOp call s m n op = some (d, m', n', W)) :
    n ≤ n' ∧ (∀ i ∈ W, i < n) ∧ (∀ i, i ∉ W → ¬ (n ≤ i ∧ i < n') → m'.get i = m.get i) := by
  by_cases hcall : ∃ f xs, op = .call f xs
  · obtain ⟨f, xs, rfl⟩ := hcall
    simp only [stepOp] at h
    split at h
    · obtain ⟨p, q, r, _⟩ := hc _ _ _ _ _ _ _ _ h
      exact ⟨p, q, r⟩
    · cases h
  · obtain ⟨u, e, hall, rfl, rfl⟩ := stepOp_prim_some (fun f xs e => hcall ⟨f, xs, e⟩) h
    obtain ⟨p, q, r⟩ := prim_facts e hall
    refine ⟨p, q, fun i h1 h2 => ?_⟩
    rw [Mt.app_get]
    exact app_out u _ i (fun hi => by rcases (r i).1 hi with h3 | h3; exact h1 h3; exact h2 h3)

/-- A call of a function, as an operation. -/
theorem call_wp {o : Oper} {f : Arg} {xs : List Arg} {c : Call} {K : Act → World → Prop} {Q : Exit → Act → World → Prop} (hop : o.op = .call c) (htr : trCall P c = some (.call f xs)) (hs : Slots g s a)
    {ρ : Option Nat} {c0 : Cal} {ds : List D} (ef : calleeOf (f.ev s) (xs.map (·.ev s)) = some (c0, ds)) {post : Value → World → Prop}
    (hrun : ∀ (vs : List Value) (t : Tg), c0.tg g t → vs.length = ds.length → (∀ (j : Nat) d v, ds[j]? = some d → vs[j]? = some v → Rep g d v) → Runs P t vs w post)
    (hK : ∀ v w', post v w' → K (a.put o.dst v) w') : o.wpIn (fe ρ) 0 P a w K Q := by
  obtain ⟨fo, hcal, hf, hxs⟩ : ∃ fo, c.callee = .value fo ∧ trArg fo = some f ∧ trArgs c.args.toList = some xs := by
    unfold trCall at htr
    split at htr
    · rename_i fo hcal
      split at htr
      · rename_i g' ys e1 e2
        simp only [Option.some.injEq, DOp.call.injEq] at htr
        obtain ⟨rfl, rfl⟩ := htr
        exact ⟨fo, hcal, e1, e2⟩
      · cases htr
    all_goals
      exfalso
      repeat' (split at htr)
      all_goals first | (simp at htr; done) | (rw [Option.map_eq_some_iff] at htr; obtain ⟨_, _, htr⟩ := htr; cases htr)
  have hrf := hs.arg hf
  obtain ⟨a1, a2⟩ := hs.args hxs
  have a1' : ((c.args.map a.eval).toList).length = (xs.map (·.ev s)).length := by simpa using a1
  have a2' : ∀ (j : Nat) d v, (xs.map (·.ev s))[j]? = some d → ((c.args.map a.eval).toList)[j]? = some v → Rep g d v := by simpa using a2
  have two : ∀ {ds ds' : List D} {us us' : List Value}, us.length = ds.length → (∀ (j : Nat) d v, ds[j]? = some d → us[j]? = some v → Rep g d v) → (∀ (j : Nat) d v, ds'[j]? = some d → us'[j]? = some v → Rep g d v) →
      ∀ (j : Nat) d v, (ds ++ ds')[j]? = some d → (us ++ us')[j]? = some v → Rep g d v := by
    intro ds ds' us us' l1 h1 h2 j d v hd hv
    by_cases hj : j < ds.length
    · rw [List.getElem?_append_left hj] at hd
      rw [List.getElem?_append_left (by omega)] at hv
      exact h1 j d v hd hv
    · rw [List.getElem?_append_right (by omega)] at hd
      rw [List.getElem?_append_right (by omega), l1] at hv
      exact h2 _ d v hd hv
  refine ⟨fun _ _ => trivial, ?_⟩
  rw [Oper.semAt_eq _ _ _ (by rw [hop]; intro c' h; cases h)]
  -- a function
  have byFn : ∀ (fid : FuncId) (us : List Value), c0 = .fn fid → us.length = ds.length → (∀ (j : Nat) d v, ds[j]? = some d → us[j]? = some v → Rep g d v) → (∀ W, (execOp a.eval o).run P W = (callFunc fid us.toArray).run P W) →
      o.uponIn (fe ρ) 0 P a K Q ((execOp a.eval o).run P w) := by
    intro fid us hc0 hlen hrep hinv
    have hR := hrun us (.fn fid) (by rw [hc0]; rfl) hlen hrep
    simp only [Runs, RunsF] at hR
    rcases hR with ⟨⟨fn, hfn, hbody, hname⟩, hcalls⟩ | ⟨v, w', hr, hp⟩
    · have hbn : fn.body.isNone = false := by cases hb : fn.body <;> simp_all
      have hrun : (execOp a.eval o).run P w = .ok (.enter fid us.toArray) w := by
        rw [hinv]
        simp only [callFunc, Sem.run_bind, Sem.run_pure, Result.andThen_ok, run_program, hfn, hname, hbn, Bool.false_eq_true, if_false]
      rw [hrun, Oper.uponIn_enter]
      refine ⟨fe_dep, (callsIn_fe hcalls).mono ?_⟩
      rintro e w' ⟨v, rfl, hp⟩
      exact hK v w' hp
    · rw [hinv, hr]
      exact hK v w' hp
  unfold calleeOf at ef
  split at ef
  · rename_i ef'
    simp only [Option.some.injEq, Prod.mk.injEq] at ef
    obtain ⟨rfl, rfl⟩ := ef
    rw [ef'] at hrf
    obtain ⟨vs, e1, e2, e3⟩ := hrf.fn_inv
    refine byFn _ ((c.args.map a.eval).toList ++ vs) rfl (by simp at a1' ⊢; omega) (two a1' a2' e3) fun W => ?_
    have harr : ((c.args.map a.eval).toList ++ vs).toArray = c.args.map a.eval ++ vs.toArray := by simp
    rw [harr]
    simp only [execOp, hop, resolve, hcal, e1, Deferred.ofValue, Sem.run_bind, Sem.run_pure, Result.andThen_ok, invoke]
    simp
  · rename_i ef'
    simp only [Option.some.injEq, Prod.mk.injEq] at ef
    obtain ⟨rfl, rfl⟩ := ef
    rw [ef'] at hrf
    obtain ⟨vs, e1, e2, e3⟩ := hrf.fnb_inv
    refine byFn _ (vs ++ (c.args.map a.eval).toList) rfl (by simp at a1' ⊢; omega) (two e2 e3 a2') fun W => ?_
    have harr : (vs ++ (c.args.map a.eval).toList).toArray = vs.toArray ++ c.args.map a.eval := by simp
    rw [harr]
    simp only [execOp, hop, resolve, hcal, e1, Deferred.ofValue, Sem.run_bind, Sem.run_pure, Result.andThen_ok, invoke]
    simp
  · rename_i i ef'
    simp only [Option.some.injEq, Prod.mk.injEq] at ef
    obtain ⟨rfl, rfl⟩ := ef
    rw [ef'] at hrf
    obtain ⟨b, C, e1, e2⟩ := hrf.yld_inv
    have hR := hrun (c.args.map a.eval).toList (.yld b) ⟨b, C, e2, rfl⟩ a1' a2'
    simp only [Runs] at hR
    obtain ⟨fid, tmps, asg, body, hy, hround⟩ := hR
    have hrun : (execOp a.eval o).run P w = .ok (.round b fid tmps asg body) w := by
      have harr : (c.args.map a.eval).toList.toArray = c.args.map a.eval := Array.toArray_toList
      rw [harr] at hy
      rw [← hy]
      simp only [execOp, hop, resolve, hcal, e1, Deferred.ofValue, Sem.run_bind, Sem.run_pure, Result.andThen_ok, invoke]
      simp
    rw [hrun, Oper.uponIn_round]
    refine ⟨fe_dep, (roundIn_fe hround).mono ?_⟩
    rintro e w' ⟨v, rfl, hp⟩
    exact hK v w' hp
  · cases ef
end
end Go.Ve

namespace Go.Ve
open Go.RowKit
set_option linter.unusedSimpArgs false
set_option linter.unusedVariables false

def setS (s : Nat → D) (t : Option Nat) (d : D) : Nat → D := match t with
  | some t => fun t' => if t' = t then d else s t'
  | none => s
theorem sg_set (s : Sl) (t : Option Nat) (d : D) : sg (setD s t d) = setS (sg s) t d := by
  cases t with
  | none => rfl
  | some t =>
    funext t'
    simp only [sg, setD, setS, Tr.get_put]
    split <;> rfl

/-- In the text's order. -/
def rowR (call : CallF) : List ROp → Sl → Mt → Nat → List Nat → Option (Sl × Mt × Nat × List Nat)
  | [], s, m, n, w => some (s, m, n, w)
  | o :: l, s, m, n, w => match guardG (sg s) o.guard with
    | some true => match stepOp call (sg s) m n o.op with
      | some (d, m', n', w') => rowR call l (setD s o.dst d) m' n' (w' ++ w)
      | none => none
    | some false => rowR call l (setD s o.dst (.tup [])) m n w
    | none => none

/-! ### Rows that are drawn -/

inductive Rd where
  | ids (l : List Nat)
  | mem (m : Mt)
def Rd.has : Rd → Nat → Bool
  | .ids l, i => l.contains i
  | .mem m, i => (m.get i).isSome

structure Rec where
  on : Bool
  s : Sl
  c : Mt
  v : Mt
  n0 : Nat
  d : D
  mv : Mt
  n1 : Nat
  w : List Nat
  rd : Rd

def hide (m : Mt) : List Nat → Mt
  | [] => m
  | i :: l => hide (Tr.put m i none) l
def unhide (m m' : Mt) (w : List Nat) (n n' : Nat) : List Nat → Mt
  | [] => m'
  | i :: l => unhide m (bif w.contains i || (Nat.ble n i && Nat.blt i n') then m' else Tr.put m' i (m.get i)) w n n' l

def hidIds (acc : List Rec) (hs : List Nat) : List Nat := hs.flatMap fun j => match acc[j]? with
  | some r => r.w ++ List.range' r.n0 (r.n1 - r.n0)
  | none => []

def drawR (call : CallF) : List ROp → List (List Nat) → List Rec → Sl → Mt → Nat → Option (Sl × Mt × Nat × List Rec)
  | [], _, acc, s, m, n => some (s, m, n, acc)
  | o :: l, hs, acc, s, m, n => match guardG (sg s) o.guard with
    | some true =>
      if isCall o.op then
        match stepOp call (sg s) (hide m (hidIds acc (hs.headD []))) n o.op with
        | some (d, m', n', w) => drawR call l hs.tail (acc ++ [⟨true, s, m, hide m (hidIds acc (hs.headD [])), n, d, m', n', w, .mem (hide m (hidIds acc (hs.headD [])))⟩]) (setD s o.dst d) (unhide m m' w n n' (hidIds acc (hs.headD []))) n'
        | none => none
      else match stepOp call (sg s) m n o.op with
        | some (d, m', n', w) => drawR call l hs.tail (acc ++ [⟨true, s, m, m, n, d, m', n', w, .ids (rds (sg s) o.op)⟩]) (setD s o.dst d) m' n'
        | none => none
    | some false => drawR call l hs.tail (acc ++ [⟨false, s, m, m, n, .tup [], m, n, [], .ids []⟩]) (setD s o.dst (.tup [])) m n
    | none => none

def inR (r : Rec) (i : Nat) : Bool := Nat.ble r.n0 i && Nat.blt i r.n1
/-- What r makes or writes, q does not look at or write. -/
def chk (r q : Rec) : Bool :=
  r.w.all (fun i => !q.rd.has i && !q.w.contains i) && q.w.all (fun i => !inR r i) &&
  match q.rd with
  | .ids l => l.all fun i => !inR r i
  | .mem m => (List.range' r.n0 (r.n1 - r.n0)).all fun i => (m.get i).isNone

def chkAll (rs : List Rec) (ps : List (Nat × Nat)) : Bool := ps.all fun p => match rs[p.1]?, rs[p.2]? with
  | some r, some q => chk r q
  | _, _ => false

/-! ### What is touched -/

abbrev Rec.touch (r : Rec) (i : Nat) : Prop := i ∈ r.w ∨ (r.n0 ≤ i ∧ i < r.n1)

theorem hide_sub : ∀ (l : List Nat) (m : Mt), Sub (hide m l).get m.get
  | [], m => fun i ob h => h
  | j :: l, m => fun i ob h => by
    have := hide_sub l (Tr.put m j none) i ob h
    rw [Tr.get_put] at this
    split at this
    · cases this
    · exact this

theorem unhide_get (m : Mt) (w : List Nat) (n n' : Nat) : ∀ (l : List Nat) (m' : Mt) (i : Nat), (unhide m m' w n n' l).get i = if i ∈ l ∧ ¬ (i ∈ w ∨ (n ≤ i ∧ i < n')) then m.get i else m'.get i
  | [], m', i => by simp [unhide]
  | j :: l, m', i => by
    have hb : (w.contains j || (Nat.ble n j && Nat.blt j n')) = decide (j ∈ w ∨ (n ≤ j ∧ j < n')) := by
      rw [Bool.eq_iff_iff]
      simp only [Bool.or_eq_true, Bool.and_eq_true, decide_eq_true_eq, List.contains_iff_mem]
      constructor
      · rintro (h | ⟨h1, h2⟩)
        · exact .inl h
        · exact .inr ⟨Nat.le_of_ble_eq_true h1, Nat.le_of_ble_eq_true h2⟩
      · rintro (h | ⟨h1, h2⟩)
        · exact .inl h
        · exact .inr ⟨Nat.ble_eq_true_of_le h1, Nat.ble_eq_true_of_le h2⟩
    simp only [unhide]
    rw [unhide_get m w n n' l, hb]
    by_cases hj : j ∈ w ∨ (n ≤ j ∧ j < n')
    · simp only [hj, decide_true, cond_true]
      by_cases hi : i ∈ l ∧ ¬ (i ∈ w ∨ (n ≤ i ∧ i < n'))
      · rw [if_pos hi, if_pos ⟨List.mem_cons_of_mem _ hi.1, hi.2⟩]
      · rw [if_neg hi, if_neg]
        rintro ⟨h1, h2⟩
        rcases List.mem_cons.1 h1 with rfl | h1
        · exact h2 hj
        · exact hi ⟨h1, h2⟩
    · simp only [hj, decide_false, cond_false]
      by_cases hi : i ∈ l ∧ ¬ (i ∈ w ∨ (n ≤ i ∧ i < n'))
      · rw [if_pos hi, if_pos ⟨List.mem_cons_of_mem _ hi.1, hi.2⟩]
      · rw [if_neg hi, Tr.get_put]
        by_cases hij : i = j
        · subst hij
          rw [if_pos rfl, if_pos ⟨List.mem_cons_self .., hj⟩]
        · rw [if_neg hij, if_neg]
          rintro ⟨h1, h2⟩
          rcases List.mem_cons.1 h1 with rfl | h1
          · exact hij rfl
          · exact hi ⟨h1, h2⟩

/-- What is known of the record of an operation. -/
structure OpFact (call : CallF) (o : ROp) (r : Rec) : Prop where
  off : r.on = false → guardG (sg r.s) o.guard = some false ∧ r.d = .tup [] ∧ r.w = [] ∧ r.n1 = r.n0 ∧ r.rd = .ids []
  step : r.on = true → guardG (sg r.s) o.guard = some true ∧ stepOp call (sg r.s) r.v r.n0 o.op = some (r.d, r.mv, r.n1, r.w)
  prim : r.on = true → isCall o.op = false → r.v = r.c ∧ r.rd = .ids (rds (sg r.s) o.op)
  view : r.on = true → isCall o.op = true → r.rd = .mem r.v ∧ Sub r.v.get r.c.get

/-- How the records of a row hang together: slots, objects and numbers ahead of each place. -/
structure Chain (call : CallF) (l : List ROp) (rs : List Rec) (S : Nat → Sl) (C : Nat → Mt) (nn : Nat → Nat) : Prop where
  len : rs.length = l.length
  at_ : ∀ (k : Nat) o r, l[k]? = some o → rs[k]? = some r → r.s = S k ∧ r.c = C k ∧ r.n0 = nn k ∧ r.n1 = nn (k + 1) ∧ OpFact call o r ∧ S (k + 1) = setD (S k) o.dst r.d ∧
    ∀ i, (C (k + 1)).get i = if r.touch i then r.mv.get i else (C k).get i

theorem Chain.cons {call : CallF} {o : ROp} {l : List ROp} {r : Rec} {rs : List Rec} {S : Nat → Sl} {C : Nat → Mt} {nn : Nat → Nat} (h : Chain call l rs S C nn) (hf : OpFact call o r)
    (h2 : S 0 = setD r.s o.dst r.d) (h3 : nn 0 = r.n1) (h4 : ∀ i, (C 0).get i = if r.touch i then r.mv.get i else r.c.get i) :
    Chain call (o :: l) (r :: rs) (fun k => match k with | 0 => r.s | k + 1 => S k) (fun k => match k with | 0 => r.c | k + 1 => C k) (fun k => match k with | 0 => r.n0 | k + 1 => nn k) := by
  refine ⟨by simp [h.len], fun k o' r' ho hr => ?_⟩
  cases k with
  | zero =>
    simp only [List.getElem?_cons_zero, Option.some.injEq] at ho hr
    subst ho hr
    exact ⟨rfl, rfl, rfl, h3.symm, hf, h2, h4⟩
  | succ k =>
    simp only [List.getElem?_cons_succ] at ho hr
    exact h.at_ k o' r' ho hr

theorem isCall_not {op : DOp} (h : isCall op = false) : ∀ f xs, op ≠ .call f xs := by
  rintro f xs rfl; cases h

theorem draw_chain {call : CallF} {P : Program} (hc : CallOk P call) : ∀ (l : List ROp) (hs : List (List Nat)) (acc : List Rec) (s : Sl) (m : Mt) (n : Nat) (s' : Sl) (m' : Mt) (n' : Nat) (rs : List Rec),
    drawR call l hs acc s m n = some (s', m', n', rs) →
    ∃ rs2 S C nn, rs = acc ++ rs2 ∧ Chain call l rs2 S C nn ∧ S 0 = s ∧ C 0 = m ∧ nn 0 = n ∧ S l.length = s' ∧ C l.length = m' ∧ nn l.length = n'
  | [], hs, acc, s, m, n, s', m', n', rs, h => by
    simp only [drawR, Option.some.injEq, Prod.mk.injEq] at h
    obtain ⟨rfl, rfl, rfl, rfl⟩ := h
    exact ⟨[], fun _ => s, fun _ => m, fun _ => n, by simp, ⟨rfl, by simp⟩, rfl, rfl, rfl, rfl, rfl, rfl⟩
  | o :: l, hs, acc, s, m, n, s', m', n', rs, h => by
    simp only [drawR] at h
    have go : ∀ (r : Rec) (s1 : Sl) (m1 : Mt) (n1 : Nat), OpFact call o r → r.s = s → r.c = m → r.n0 = n → s1 = setD s o.dst r.d → n1 = r.n1 → (∀ i, m1.get i = if r.touch i then r.mv.get i else m.get i) →
        drawR call l hs.tail (acc ++ [r]) s1 m1 n1 = some (s', m', n', rs) →
        ∃ rs2 S C nn, rs = acc ++ rs2 ∧ Chain call (o :: l) rs2 S C nn ∧ S 0 = s ∧ C 0 = m ∧ nn 0 = n ∧ S (o :: l).length = s' ∧ C (o :: l).length = m' ∧ nn (o :: l).length = n' := by
      intro r s1 m1 n1 hf e1 e2 e3 e4 e5 e6 hd
      obtain ⟨rs2, S, C, nn, q1, q2, q3, q4, q5, q6, q7, q8⟩ := draw_chain hc l hs.tail (acc ++ [r]) s1 m1 n1 s' m' n' rs hd
      refine ⟨r :: rs2, _, _, _, by rw [q1]; simp, q2.cons hf (by rw [q3, e4, e1]) (by rw [q5, e5]) (fun i => by rw [q4, e6, e2]), e1, e2, e3, q6, q7, q8⟩
    split at h
    · rename_i hg
      split at h
      · rename_i hcall
        split at h
        · rename_i d m1 n1 w he
          obtain ⟨p1, p2, p3⟩ := stepOp_facts hc he
          refine go _ _ _ _ ⟨(by intro e; cases e), fun _ => ⟨hg, he⟩, fun _ e => (by rw [hcall] at e; cases e), fun _ _ => ⟨rfl, hide_sub _ _⟩⟩ rfl rfl rfl rfl rfl (fun i => ?_) h
          rw [unhide_get]
          simp only [Rec.touch]
          by_cases ht : i ∈ w ∨ (n ≤ i ∧ i < n1)
          · rw [if_neg (fun e => e.2 ht), if_pos ht]
          · rw [if_neg ht]
            split
            · rfl
            · rename_i hni
              have h1 : i ∉ w := fun e => ht (.inl e)
              have h2 : ¬ (n ≤ i ∧ i < n1) := fun e => ht (.inr e)
              rw [p3 i h1 h2]
              have hnl : i ∉ hidIds acc (hs.headD []) := fun e => hni ⟨e, ht⟩
              have hh : ∀ (ids : List Nat) (q : Mt), i ∉ ids → (hide q ids).get i = q.get i := by
                intro ids
                induction ids with
                | nil => intro q _; rfl
                | cons j ids ih =>
                  intro q hq
                  simp only [List.mem_cons, not_or] at hq
                  simp only [hide]
                  rw [ih _ hq.2, Tr.get_put, if_neg hq.1]
              exact hh _ _ hnl
        · cases h
      · rename_i hcall
        have hcall : isCall o.op = false := by simpa using hcall
        split at h
        · rename_i d m1 n1 w he
          obtain ⟨p1, p2, p3⟩ := stepOp_facts hc he
          refine go _ _ _ _ ⟨(by intro e; cases e), fun _ => ⟨hg, he⟩, fun _ _ => ⟨rfl, rfl⟩, fun _ e => (by rw [hcall] at e; cases e)⟩ rfl rfl rfl rfl rfl (fun i => ?_) h
          simp only [Rec.touch]
          split
          · rfl
          · rename_i ht
            exact p3 i (fun e => ht (.inl e)) (fun e => ht (.inr e))
        · cases h
    · rename_i hg
      refine go _ _ _ _ ⟨fun _ => ⟨hg, rfl, rfl, rfl, rfl⟩, (by intro e; cases e), (by intro e; cases e), (by intro e; cases e)⟩ rfl rfl rfl rfl rfl (fun i => ?_) h
      simp
    · cases h
end Go.Ve

namespace Go.Ve
open Go.RowKit
set_option linter.unusedSimpArgs false
set_option linter.unusedVariables false

/-! ### Read off the model -/

theorem trROp_some {P : Program} {N : Nat} {ops : List Oper} {o : Oper} {d : ROp} (h : trROp P N ops o = some d) : (tr P o.op).getD .stop = d.op ∧ d.dst = o.dst ∧ trGuard ops o.guard = some d.guard ∧ ∀ t, o.dst = some t → t < N := by
  unfold trROp at h
  split at h
  · rename_i hc
    rw [Option.map_eq_some_iff] at h
    obtain ⟨g, hg, rfl⟩ := h
    refine ⟨rfl, rfl, hg, fun t ht => ?_⟩
    rw [ht] at hc
    simpa [Vd.dstOk] using hc
  · cases h

theorem trROps_some {P : Program} {N : Nat} {ops : List Oper} : ∀ {l : List Oper} {dl : List ROp}, trROps P N ops l = some dl → dl.length = l.length ∧ ∀ (i : Nat) o, l[i]? = some o → ∃ d, dl[i]? = some d ∧ trROp P N ops o = some d
  | [], dl, h => by simp only [trROps, Option.some.injEq] at h; subst h; simp
  | o :: r, dl, h => by
    unfold trROps at h
    split at h
    · rename_i d l h1 h2
      simp only [Option.some.injEq] at h; subst h
      obtain ⟨p, q⟩ := trROps_some h2
      refine ⟨by simp [p], fun i o' hi => ?_⟩
      cases i with
      | zero => simp only [List.getElem?_cons_zero, Option.some.injEq] at hi; subst hi; exact ⟨d, rfl, h1⟩
      | succ i => simp only [List.getElem?_cons_succ] at hi ⊢; exact q i o' hi
    · cases h

/-- What is run is no stop. -/
theorem tr_runs {P : Program} {op : Op} {d : DOp} {s : Nat → D} {m : Mem} {n : Nat} {x : D × Upd × Nat} (h : (tr P op).getD .stop = d) (he : exec s m n d = some x) : tr P op = some d := by
  cases htr : tr P op with
  | none => rw [htr] at h; simp only [Option.getD_none] at h; subst h; simp [exec] at he
  | some d' => rw [htr] at h; simp only [Option.getD_some] at h; rw [h]

theorem tr_call {P : Program} {op : Op} {f : Arg} {xs : List Arg} (h : (tr P op).getD .stop = .call f xs) : ∃ c, op = .call c ∧ trCall P c = some (.call f xs) := by
  have h : tr P op = some (.call f xs) := by
    cases htr : tr P op with
    | none => rw [htr] at h; cases h
    | some d => rw [htr] at h; simp only [Option.getD_some] at h; rw [h]
  cases op with
  | call c => exact ⟨c, rfl, h⟩
  | binOp op t x y yt =>
    exfalso
    cases op <;> simp only [tr, trEq] at h <;> repeat' (split at h)
    all_goals first | (simp at h; done) | (rw [Option.map_eq_some_iff] at h; obtain ⟨_, _, h⟩ := h; cases h)
  | makeFunc fn x y =>
    exfalso
    cases fn <;> simp only [tr] at h <;> repeat' (split at h)
    all_goals first | (simp at h; done) | (rw [Option.map_eq_some_iff] at h; obtain ⟨_, _, h⟩ := h; cases h)
  | slice t x lo hi mx =>
    exfalso
    cases mx <;> simp only [tr] at h <;> repeat' (split at h)
    all_goals first | (simp at h; done) | (rw [Option.map_eq_some_iff] at h; obtain ⟨_, _, h⟩ := h; cases h)
  | makeMap t r =>
    exfalso
    cases r <;> simp [tr] at h
  | next x b =>
    exfalso
    cases b <;> simp only [tr] at h
    all_goals first | (simp at h; done) | (rw [Option.map_eq_some_iff] at h; obtain ⟨_, _, h⟩ := h; cases h)
  | _ =>
    exfalso
    simp only [tr] at h <;> repeat' (split at h)
    all_goals first | (simp at h; done) | (rw [Option.map_eq_some_iff] at h; obtain ⟨_, _, h⟩ := h; cases h)

/-! ### One operation at the model -/

section
variable {P : Program} {B : Nat} {w0 w : World} {M : Mem} {g : Gm} {n n' : Nat} {s : Nat → D} {a : Act} {d : D} {call : CallF} {K : Act → World → Prop} {Q : Exit → Act → World → Prop} {o : Oper} {op : DOp} {ρ : Option Nat}

theorem prim_wp (hnc : ∀ f xs, op ≠ .call f xs) (htr : (tr P o.op).getD .stop = op) {u : Upd} (hex : exec s M n op = some (d, u, n')) (hall : (u.all fun p => Nat.blt p.1 n') = true) (hi : Inv P B w0 M w g) (hs : Slots g s a)
    (hf : ∀ i, n ≤ i → i < n' → M i = none ∧ g i = none)
    (hK : ∀ v w' g', After P B w0 M g n (Upd.app M u) n' (updOld u n) (Upd.app M u) w' g' → Rep g' d v → K (a.put o.dst v) w') : o.wpIn (fe ρ) 0 P a w K Q := by
  obtain ⟨v', w', g', r, e1, e2, e3⟩ := op_does ⟨hi, hs, hf⟩ (tr_runs htr hex) hnc hex
  obtain ⟨_, _, q⟩ := prim_facts hex hall
  have hA : After P B w0 M g n (Upd.app M u) n' (updOld u n) (Upd.app M u) w' g' :=
    ⟨e3.inv, fun i ob h => h, e3.le, e3.out, fun i h1 h2 => app_out u _ i (fun hi => by rcases (q i).1 hi with h3 | h3; exact h1 h3; exact h2 h3)⟩
  refine ⟨fun _ _ => trivial, ?_⟩
  rw [Oper.semAt_eq _ _ _ (fun c hc => by have := tr_runs htr hex; rw [hc] at this; cases this), e1]
  rcases e2 with rfl | ⟨rfl, rfl⟩
  · exact hK v' w' g' hA e3.rep
  · exact hK undef w' g' hA e3.rep

/-- With a view of the memory. -/
theorem step_wp (hc : CallOk P call) (htr : (tr P o.op).getD .stop = op) {m m' : Mt} {W : List Nat} (hst : stepOp call s m n op = some (d, m', n', W)) (hsub : Sub m.get M) (hi : Inv P B w0 M w g) (hs : Slots g s a)
    (hf : ∀ i, n ≤ i → i < n' → M i = none ∧ g i = none)
    (hK : ∀ v w' M' g', After P B w0 M g n m'.get n' W M' w' g' → Rep g' d v → K (a.put o.dst v) w') : o.wpIn (fe ρ) 0 P a w K Q := by
  by_cases hcall : ∃ f xs, op = .call f xs
  · obtain ⟨f, xs, rfl⟩ := hcall
    obtain ⟨c, hop, htc⟩ := tr_call htr
    simp only [stepOp] at hst
    split at hst
    · rename_i fid caps ef
      obtain ⟨_, _, _, hrun⟩ := hc _ _ _ _ _ _ _ _ hst
      refine call_wp hop htc hs ef (fun vs t ht h1 h2 => hrun B w0 w M g vs t ht hsub hi hf h1 h2) ?_
      rintro v w' ⟨M', g', hA, hr⟩
      exact hK v w' M' g' hA hr
    · cases hst
  · have hnc : ∀ f xs, op ≠ .call f xs := fun f xs e => hcall ⟨f, xs, e⟩
    obtain ⟨u, hex, hall, rfl, rfl⟩ := stepOp_prim_some hnc hst
    refine prim_wp hnc htr (exec_mono (fun i _ ob h => hsub i ob h) hex) hall hi hs hf (fun v w' g' hA hr => hK v w' _ g' ⟨hA.inv, fun i ob hm => ?_, hA.le, hA.out, hA.keep⟩ hr)
    rw [Mt.app_get] at hm
    by_cases hiu : i ∈ u.map (·.1)
    · rw [app_in u M m.get i hiu]; exact hm
    · rw [app_out u _ i hiu] at hm ⊢
      exact hsub i ob hm

/-! ### Guards -/

theorem wanted_guard {ops : Array Oper} {gd : Option (Nat × Bool)} (hs : Slots g s a) (hg : trGuard ops.toList o.guard = some gd) {b : Bool} (h : guardG s gd = some b) : Region.wanted o (yielded ops a.tmps) = b := by
  unfold Region.wanted
  cases hgd : o.guard with
  | none =>
    rw [hgd] at hg
    simp only [trGuard, Option.some.injEq] at hg
    subst hg
    simp only [guardG, Option.some.injEq] at h
    exact h
  | some p =>
    obtain ⟨j, want⟩ := p
    rw [hgd] at hg
    simp only [trGuard] at hg
    split at hg
    · rename_i t ht
      simp only [Option.some.injEq] at hg
      subst hg
      have ht' : (ops[j]?).bind (·.dst) = some t := by simpa using ht
      simp only [guardG] at h
      have hr := hs t
      split at h
      · rename_i b' hb'
        simp only [Option.some.injEq] at h
        rw [hb'] at hr
        have hv := hr.bool_inv
        have hin : a.tmps[t]? = some (.bool b') := by
          rw [Array.getD_eq_getD_getElem?] at hv
          cases hh : a.tmps[t]? with
          | none => rw [hh] at hv; simp [undef] at hv
          | some x => rw [hh] at hv; simp at hv; rw [hv]
        have hy : yielded ops a.tmps j = some b' := by
          unfold yielded
          rw [ht']; simp [hin]
        simp only
        rw [hy, ← h]
        cases b' <;> cases want <;> rfl
      · rename_i hb'
        simp only [Option.some.injEq] at h; subst h
        rw [hb'] at hr
        obtain ⟨us, hv, hl, _⟩ := hr.tup_inv
        have hu : us = [] := List.eq_nil_of_length_eq_zero (by simpa using hl)
        subst hu
        have hy : yielded ops a.tmps j = none := by
          unfold yielded
          rw [ht']
          split
          · rename_i b2 e
            exfalso
            simp only [Option.bind_some] at e
            rw [Array.getD_eq_getD_getElem?, e] at hv
            cases hv
          · rfl
        simp only
        rw [hy]; rfl
      · cases h
    · cases hg

theorem Slots.put {dst : Option Nat} {v : Value} (h : Slots g s a) (hr : Rep g d v) (hlt : ∀ t, dst = some t → t < a.tmps.size) : Slots g (setS s dst d) (a.put dst v) := by
  intro t
  cases dst with
  | none => exact h t
  | some t' =>
    have ht' := hlt t' rfl
    simp only [setS, Act.put]
    by_cases ht : t = t'
    · subst ht
      rw [if_pos rfl]
      have : (a.tmps.setIfInBounds t v).getD t undef = v := by simp [Array.getD_eq_getD_getElem?, ht']
      rw [this]; exact hr
    · rw [if_neg ht]
      have hne : ¬ t' = t := fun e => ht e.symm
      have : (a.tmps.setIfInBounds t' v).getD t undef = a.tmps.getD t undef := by simp [Array.getD_eq_getD_getElem?, Array.getElem?_setIfInBounds, hne]
      rw [this]; exact h t
end

/-! ### Rows in the text's order -/

/-- What is known between two rows. -/
structure InS (P : Program) (B : Nat) (w0 : World) (N nE : Nat) (s : Sl) (m : Mt) (n : Nat) (dfs : List Deferred) (M : Mem) (a : Act) (w : World) (g : Gm) : Prop where
  inv : Inv P B w0 M w g
  sub : Sub m.get M
  slots : Slots g (sg s) a
  size : a.tmps.size = N
  defers : a.defers = dfs
  fresh : ∀ i, n ≤ i → i < nE → M i = none ∧ g i = none

structure Went (n n' : Nat) (W : List Nat) (M : Mem) (g : Gm) (M' : Mem) (g' : Gm) : Prop where
  le : g.le g'
  out : ∀ i, ¬ (n ≤ i ∧ i < n') → g' i = g i
  keep : ∀ i, i ∉ W → ¬ (n ≤ i ∧ i < n') → M' i = M i

theorem Went.refl (n n' : Nat) (W : List Nat) (M : Mem) (g : Gm) : Went n n' W M g M g := ⟨Gm.le.refl g, fun _ _ => rfl, fun _ _ _ => rfl⟩
theorem Went.trans {n n1 n2 : Nat} {W W' : List Nat} {M M1 M2 : Mem} {g g1 g2 : Gm} (h : Went n n1 W M g M1 g1) (k : Went n1 n2 W' M1 g1 M2 g2) (h1 : n ≤ n1) (h2 : n1 ≤ n2) (hw : ∀ i ∈ W, i ∈ W') : Went n n2 W' M g M2 g2 :=
  ⟨h.le.trans k.le, fun i hi => (k.out i (by omega)).trans (h.out i (by omega)), fun i hi hn => (k.keep i hi (by omega)).trans (h.keep i (fun e => hi (hw i e)) (by omega))⟩

/-- What is so of numbers and writes, whatever the model. -/
structure Facts (m : Mt) (n : Nat) (w : List Nat) (m' : Mt) (n' : Nat) (w' : List Nat) : Prop where
  le : n ≤ n'
  sub : ∀ i ∈ w, i ∈ w'
  lt : (∀ i ∈ w, i < n) → ∀ i ∈ w', i < n'
  same : ∀ i, i ∉ w' → ¬ (n ≤ i ∧ i < n') → m'.get i = m.get i

theorem Facts.refl (m : Mt) (n : Nat) (w : List Nat) : Facts m n w m n w := ⟨Nat.le_refl _, fun _ h => h, fun h => h, fun _ _ _ => rfl⟩
theorem Facts.trans {m m1 m2 : Mt} {n n1 n2 : Nat} {w w1 w2 : List Nat} (h : Facts m n w m1 n1 w1) (k : Facts m1 n1 w1 m2 n2 w2) : Facts m n w m2 n2 w2 := by
  have := h.le
  have := k.le
  exact ⟨by omega, fun i hi => k.sub i (h.sub i hi), fun hw => k.lt (h.lt hw), fun i h1 h2 => (k.same i h1 (by omega)).trans (h.same i (fun e => h1 (k.sub i e)) (by omega))⟩

theorem row_facts {P : Program} {call : CallF} (hc : CallOk P call) : ∀ {l : List ROp} {s : Sl} {m : Mt} {n : Nat} {w : List Nat} {s' : Sl} {m' : Mt} {n' : Nat} {w' : List Nat}, rowR call l s m n w = some (s', m', n', w') → Facts m n w m' n' w'
  | [], s, m, n, w, s', m', n', w', h => by
    simp only [rowR, Option.some.injEq, Prod.mk.injEq] at h
    obtain ⟨_, rfl, rfl, rfl⟩ := h
    exact .refl _ _ _
  | o :: l, s, m, n, w, s', m', n', w', h => by
    simp only [rowR] at h
    split at h
    · split at h
      · rename_i d m1 n1 w1 he
        obtain ⟨p1, p2, p3⟩ := stepOp_facts hc he
        have h1 : Facts m n w m1 n1 (w1 ++ w) := ⟨p1, fun i hi => List.mem_append_right _ hi, fun hw i hi => by
          rcases List.mem_append.1 hi with hi | hi
          · have := p2 i hi; omega
          · have := hw i hi; omega, fun i hi hn => p3 i (fun e => hi (List.mem_append_left _ e)) hn⟩
        exact h1.trans (row_facts hc h)
      · cases h
    · exact row_facts hc h
    · cases h

section
variable {P : Program} {B : Nat} {w0 : World} {N nE : Nat} {call : CallF} {Q : Exit → Act → World → Prop} {ρ : Option Nat} {dfs : List Deferred}

theorem put_size (a : Act) (dst : Option Nat) (v : Value) : (a.put dst v).tmps.size = a.tmps.size ∧ (a.put dst v).defers = a.defers := by
  cases dst <;> simp [Act.put]

theorem row_wp (hc : CallOk P call) {ops : Array Oper} {rops : List ROp} (hops : trROps P N ops.toList ops.toList = some rops) : ∀ (l : List ROp) (k : Nat) (s : Sl) (m : Mt) (n : Nat) (w : List Nat) (s' : Sl) (m' : Mt) (n' : Nat) (w' : List Nat) (M : Mem) (a : Act) (W : World) (g : Gm),
    l = rops.drop k → rowR call l s m n w = some (s', m', n', w') → n' ≤ nE → InS P B w0 N nE s m n dfs M a W g →
    (∀ a' W' M' g', InS P B w0 N nE s' m' n' dfs M' a' W' g' → Went n n' w' M g M' g' → Q .normal a' W') → wpOpsIn (fe ρ) 0 P ops Q (List.range' k l.length) a W
  | [], k, s, m, n, w, s', m', n', w', M, a, W, g, _, he, _, hx, hq => by
    simp only [rowR, Option.some.injEq, Prod.mk.injEq] at he
    obtain ⟨rfl, rfl, rfl, rfl⟩ := he
    exact hq a W M g hx (Went.refl ..)
  | r :: l, k, s, m, n, w, s', m', n', w', M, a, W, g, hl, he, hnE, hx, hq => by
    obtain ⟨hlen, hall⟩ := trROps_some hops
    have hrk : rops[k]? = some r := by
      have : (rops.drop k)[0]? = some r := by rw [← hl]; rfl
      rw [List.getElem?_drop] at this
      simpa using this
    have hl' : l = rops.drop (k + 1) := by
      have : (rops.drop k).drop 1 = rops.drop (k + 1) := by rw [List.drop_drop]
      rw [← this, ← hl]; rfl
    have hk : k < ops.toList.length := by have := (List.getElem?_eq_some_iff.1 hrk).1; omega
    have ho' : ops.toList[k]? = some ops.toList[k] := List.getElem?_eq_getElem hk
    obtain ⟨r2, q1, q2⟩ := hall k _ ho'
    rw [hrk] at q1
    simp only [Option.some.injEq] at q1
    subst q1
    generalize ho2 : ops.toList[k] = o at ho' q2
    have ho : ops[k]? = some o := by simpa using ho'
    obtain ⟨t1, t2, t3, t4⟩ := trROp_some q2
    have hdst : ∀ t, o.dst = some t → t < a.tmps.size := fun t ht => by rw [hx.size]; exact t4 t ht
    rw [List.length_cons, List.range'_succ]
    simp only [wpOpsIn, ho]
    simp only [rowR] at he
    split at he
    · rename_i hg
      rw [wanted_guard hx.slots t3 hg]
      simp only [if_true]
      split at he
      · rename_i d m1 n1 w1 hst
        have hf1 := row_facts hc he
        obtain ⟨p1, p2, p3⟩ := stepOp_facts hc hst
        refine step_wp hc t1 hst hx.sub hx.inv hx.slots (fun i h1 h2 => hx.fresh i h1 (by have := hf1.le; omega)) (fun v W' M1 g1 hA hr => ?_)
        have hps := put_size a o.dst v
        refine row_wp hc hops l (k + 1) _ m1 n1 (w1 ++ w) s' m' n' w' M1 _ W' g1 hl' he hnE ⟨hA.inv, hA.sub, ?_, by rw [hps.1]; exact hx.size, by rw [hps.2]; exact hx.defers, fun i h1 h2 => ?_⟩ (fun a' W2 M2 g2 h1 h2 => hq a' W2 M2 g2 h1 ?_)
        · rw [sg_set, t2]
          exact (hx.slots.ext hA.le).put hr hdst
        · rw [hA.keep i (fun e => by have := p2 i e; omega) (by omega), hA.out i (by omega)]
          exact hx.fresh i (by omega) h2
        · have hw : Went n n1 (w1 ++ w) M g M1 g1 := ⟨hA.le, hA.out, fun i hi => hA.keep i (fun e => hi (List.mem_append_left _ e))⟩
          exact hw.trans h2 p1 hf1.le hf1.sub
      · cases he
    · rename_i hg
      rw [wanted_guard hx.slots t3 hg]
      simp only [Bool.false_eq_true, if_false]
      have hps := put_size a o.dst undef
      refine ⟨fun _ _ => trivial, ?_⟩
      refine row_wp hc hops l (k + 1) _ m n w s' m' n' w' M _ W g hl' he hnE ⟨hx.inv, hx.sub, ?_, by rw [hps.1]; exact hx.size, by rw [hps.2]; exact hx.defers, hx.fresh⟩ hq
      rw [sg_set, t2]
      exact hx.slots.put (.tup [] [] rfl (by simp)) hdst
    · cases he
end
end Go.Ve

namespace Go.Ve
open Go.RowKit
set_option linter.unusedSimpArgs false
set_option linter.unusedVariables false

/-- An operation that makes an object alone writes none that was there. -/
theorem own_new {op : DOp} {s : Nat → D} {m : Mem} {n : Nat} {d : D} {u : Upd} {n' : Nat} (ho : op.ownW = true) (hr : exec s m n op = some (d, u, n')) : updOld u n = [] := by
  have done1 : ∀ {d0 : D} {x : Option Ob}, some (d0, [(n, x)], n + 1) = some (d, u, n') → updOld u n = [] := by
    intro d0 x e
    simp only [Option.some.injEq, Prod.mk.injEq] at e
    obtain ⟨_, rfl, rfl⟩ := e
    have : Nat.blt n n = false := by rw [Bool.eq_false_iff]; intro h; have := Nat.le_of_ble_eq_true h; omega
    simp [updOld, this]
  cases op <;> first | (simp [DOp.ownW] at ho; done) | skip
  all_goals simp only [exec] at hr
  all_goals repeat' (split at hr)
  all_goals first | exact done1 hr | (cases hr; done)

section
variable (dst : Nat → Option Nat) (ed : Nat → D) (lk : Nat → Nat → Option (Option Ob))

def lastS (X : Nat → Bool) (t : Nat) : Nat → Option D
  | 0 => none
  | k + 1 => if X k = true ∧ dst k = some t then some (ed k) else lastS X t k
def lastM (X : Nat → Bool) (i : Nat) : Nat → Option (Option Ob)
  | 0 => none
  | k + 1 => if X k = true then match lk k i with
    | some d => some d
    | none => lastM X i k
    else lastM X i k

variable (s0 : Nat → D) (m0 : Mem)
def stS (X : Nat → Bool) (n : Nat) : Nat → D := fun t => (lastS dst ed X t n).getD (s0 t)
def stM (X : Nat → Bool) (n : Nat) : Mem := fun i => match lastM lk X i n with | some d => d | none => m0 i

variable {dst ed lk s0 m0}

theorem lastS_congr {X Y : Nat → Bool} {t : Nat} : ∀ {n : Nat}, (∀ k, k < n → dst k = some t → X k = Y k) → lastS dst ed X t n = lastS dst ed Y t n
  | 0, _ => rfl
  | n + 1, h => by
    have ih := lastS_congr (X := X) (Y := Y) (t := t) (n := n) (fun k hk => h k (by omega))
    simp only [lastS]
    by_cases hd : dst n = some t
    · rw [h n (by omega) hd, ih]
    · simp [hd, ih]
theorem lastM_congr {X Y : Nat → Bool} {i : Nat} : ∀ {n : Nat}, (∀ k, k < n → lk k i ≠ none → X k = Y k) → lastM lk X i n = lastM lk Y i n
  | 0, _ => rfl
  | n + 1, h => by
    have ih := lastM_congr (X := X) (Y := Y) (i := i) (n := n) (fun k hk => h k (by omega))
    simp only [lastM]
    cases hl : lk n i with
    | none => simp [ih]
    | some d => rw [h n (by omega) (by rw [hl]; simp)]; simp [ih]

theorem lastS_ins {X : Nat → Bool} {t k : Nat} (hX : X k = false) : ∀ {n : Nat}, k < n → (dst k = some t → ∀ j, k < j → j < n → X j = true → dst j ≠ some t) →
    lastS dst ed (Vd.ins X k) t n = if dst k = some t then some (ed k) else lastS dst ed X t n
  | n + 1, hk, h => by
    by_cases hd : dst k = some t
    · rw [if_pos hd]
      by_cases hn : k = n
      · subst hn
        simp [lastS, Vd.ins, hd]
      · have ih := lastS_ins hX (n := n) (by omega) (fun hd' j h1 h2 h3 => h hd' j h1 (by omega) h3)
        rw [if_pos hd] at ih
        simp only [lastS]
        have : ¬ (Vd.ins X k n = true ∧ dst n = some t) := by
          rintro ⟨h1, h2⟩
          simp only [Vd.ins, Bool.or_eq_true, beq_iff_eq] at h1
          rcases h1 with h1 | h1
          · exact h hd n (by omega) (by omega) h1 h2
          · omega
        rw [if_neg this, ih]
    · rw [if_neg hd]
      refine lastS_congr (fun j hj hdj => ?_)
      have : j ≠ k := by rintro rfl; exact hd hdj
      simp [Vd.ins, this]
theorem lastM_ins {X : Nat → Bool} {i k : Nat} (hX : X k = false) : ∀ {n : Nat}, k < n → (lk k i ≠ none → ∀ j, k < j → j < n → X j = true → lk j i = none) →
    lastM lk (Vd.ins X k) i n = match lk k i with | some d => some d | none => lastM lk X i n
  | n + 1, hk, h => by
    cases hl : lk k i with
    | none =>
      simp only
      refine lastM_congr (fun j hj hdj => ?_)
      have : j ≠ k := by rintro rfl; exact hdj hl
      simp [Vd.ins, this]
    | some d =>
      simp only
      by_cases hn : k = n
      · subst hn
        simp [lastM, Vd.ins, hl]
      · have ih := lastM_ins (i := i) hX (n := n) (by omega) (fun hd' j h1 h2 h3 => h hd' j h1 (by omega) h3)
        rw [hl] at ih
        simp only at ih
        simp only [lastM]
        split
        · rename_i h1
          simp only [Vd.ins, Bool.or_eq_true, beq_iff_eq] at h1
          rcases h1 with h1 | h1
          · rw [h (by rw [hl]; simp) n (by omega) (by omega) h1]; exact ih
          · omega
        · exact ih

theorem stS_ins {X : Nat → Bool} {k n : Nat} (hX : X k = false) (hk : k < n) (h : ∀ t, dst k = some t → ∀ j, k < j → j < n → X j = true → dst j ≠ some t) :
    stS dst ed s0 (Vd.ins X k) n = setS (stS dst ed s0 X n) (dst k) (ed k) := by
  funext t
  simp only [stS]
  rw [lastS_ins hX hk (h t)]
  cases hd : dst k with
  | none => simp [setS, stS]
  | some t' =>
    simp only [setS, stS, Option.some.injEq]
    by_cases ht : t = t'
    · subst ht; simp
    · rw [if_neg (fun e => ht e.symm), if_neg ht]
theorem stM_ins {X : Nat → Bool} {k n : Nat} (hX : X k = false) (hk : k < n) (h : ∀ i, lk k i ≠ none → ∀ j, k < j → j < n → X j = true → lk j i = none) (i : Nat) :
    stM lk m0 (Vd.ins X k) n i = match lk k i with | some d => d | none => stM lk m0 X n i := by
  simp only [stM]
  rw [lastM_ins hX hk (h i)]
  cases lk k i <;> rfl
end

/-- An operation's order to itself and others. -/
structure Indep (bef : Nat → Nat → Prop) (l : List ROp) (rs : List Rec) : Prop where
  lt : ∀ j k, bef j k → j < k
  slot : ∀ j k t oj ok, j ≠ k → l[j]? = some oj → l[k]? = some ok → oj.dst = some t → (t ∈ ok.op.uses ∨ gslot ok = some t ∨ ok.dst = some t) → bef j k ∨ bef k j
  mem : ∀ j k rj rk i, j ≠ k → rs[j]? = some rj → rs[k]? = some rk → rj.touch i → (rk.rd.has i = true ∨ rk.touch i) → bef j k ∨ bef k j

theorem befs_cases {befs : List (List Nat)} {j k : Nat} (h : apart befs j k = false) : Vd.befOf befs j k ∨ Vd.befOf befs k j := by
  unfold apart befB at h
  simp only [Bool.and_eq_false_iff, Bool.not_eq_false', List.contains_iff_mem] at h
  exact h

theorem mono_nn {call : CallF} {P : Program} (hc : CallOk P call) {l : List ROp} {rs : List Rec} {S : Nat → Sl} {C : Nat → Mt} {nn : Nat → Nat} (hch : Chain call l rs S C nn) : ∀ {j k : Nat}, j ≤ k → k ≤ l.length → nn j ≤ nn k := by
  have step : ∀ k, k < l.length → nn k ≤ nn (k + 1) := by
    intro k hk
    have ho : l[k]? = some l[k] := List.getElem?_eq_getElem hk
    have hr : rs[k]? = some (rs[k]'(by rw [hch.len]; exact hk)) := List.getElem?_eq_getElem _
    obtain ⟨_, _, e1, e2, hf, _⟩ := hch.at_ k _ _ ho hr
    rw [← e1, ← e2]
    generalize rs[k]'(by rw [hch.len]; exact hk) = r at hf
    cases hon : r.on with
    | false => obtain ⟨_, _, _, e, _⟩ := hf.off hon; omega
    | true => obtain ⟨_, e⟩ := hf.step hon; exact (stepOp_facts hc e).1
  intro j k hjk hk
  induction k with
  | zero =>
    have e : j = 0 := by omega
    subst e
    exact Nat.le_refl _
  | succ k ih =>
    by_cases hj : j = k + 1
    · subst hj; exact Nat.le_refl _
    · exact Nat.le_trans (ih (by omega) (by omega)) (step k (by omega))

/-- What an operation touches, and what kind it is. -/
theorem touch_kind {call : CallF} {P : Program} (hc : CallOk P call) {o : ROp} {r : Rec} (hf : OpFact call o r) {i : Nat} (ht : r.touch i) : r.on = true ∧ o.op.mayW = true ∧ (o.op.ownW = true → r.w = []) := by
  cases hon : r.on with
  | false =>
    obtain ⟨_, _, e1, e2, _⟩ := hf.off hon
    simp only [Rec.touch, e1, e2] at ht
    rcases ht with h | h
    · cases h
    · omega
  | true =>
    refine ⟨rfl, ?_⟩
    obtain ⟨_, he⟩ := hf.step hon
    by_cases hcall : ∃ f xs, o.op = .call f xs
    · obtain ⟨f, xs, e⟩ := hcall
      rw [e]; exact ⟨rfl, by simp [DOp.ownW]⟩
    · obtain ⟨u, hex, hall, _, hw⟩ := stepOp_prim_some (fun f xs e => hcall ⟨f, xs, e⟩) he
      refine ⟨?_, fun how => by rw [hw]; exact own_new how hex⟩
      cases hm : o.op.mayW with
      | true => rfl
      | false =>
        obtain ⟨rfl, e⟩ := exec_still hm hex
        simp only [Rec.touch, hw, e] at ht
        rcases ht with h | h
        · simp [updOld] at h
        · omega

theorem has_kind {call : CallF} {o : ROp} {r : Rec} (hf : OpFact call o r) {i : Nat} (hh : r.rd.has i = true) : r.on = true ∧ o.op.mayR = true := by
  cases hon : r.on with
  | false =>
    obtain ⟨_, _, _, _, e⟩ := hf.off hon
    rw [e] at hh; simp [Rd.has] at hh
  | true =>
    refine ⟨rfl, ?_⟩
    cases hcl : isCall o.op with
    | true => cases hop : o.op <;> first | rfl | (rw [hop] at hcl; simp [isCall] at hcl)
    | false =>
      obtain ⟨_, e⟩ := hf.prim hon hcl
      rw [e] at hh
      cases hm : o.op.mayR with
      | true => rfl
      | false => rw [rds_still hm] at hh; simp [Rd.has] at hh

theorem chk_spec {r q : Rec} (h : chk r q = true) {i : Nat} (ht : r.touch i) : q.rd.has i = false ∧ i ∉ (if i ∈ r.w then q.w else []) ∧ (¬ i ∈ r.w → i ∉ q.w) := by
  unfold chk at h
  simp only [Bool.and_eq_true] at h
  obtain ⟨⟨h1, h2⟩, h3⟩ := h
  have inr : inR r i = true ↔ (r.n0 ≤ i ∧ i < r.n1) := by
    unfold inR
    rw [Bool.and_eq_true]
    exact ⟨fun h => ⟨Nat.le_of_ble_eq_true h.1, Nat.le_of_ble_eq_true h.2⟩, fun h => ⟨Nat.ble_eq_true_of_le h.1, Nat.ble_eq_true_of_le h.2⟩⟩
  rcases ht with ht | ht
  · have := List.all_eq_true.1 h1 i ht
    simp only [Bool.and_eq_true, Bool.not_eq_true', List.contains_eq_mem, decide_eq_false_iff_not] at this
    refine ⟨this.1, by rw [if_pos ht]; exact this.2, fun hn => absurd ht hn⟩
  · have hin := inr.2 ht
    have hw : i ∉ q.w := by
      intro hi
      have := List.all_eq_true.1 h2 i hi
      simp [hin] at this
    refine ⟨?_, by split <;> simp [hw], fun _ => hw⟩
    cases hrd : q.rd with
    | ids l =>
      rw [hrd] at h3
      cases hc : (Rd.ids l).has i with
      | false => rfl
      | true =>
        simp only [Rd.has, List.contains_iff_mem] at hc
        have := List.all_eq_true.1 h3 i hc
        simp [hin] at this
    | mem m =>
      rw [hrd] at h3
      have := List.all_eq_true.1 h3 i (by rw [List.mem_range']; exact ⟨i - r.n0, by omega, by omega⟩)
      simp only [Option.isNone_iff_eq_none] at this
      simp [Rd.has, this]

theorem indep_of {call : CallF} {P : Program} (hc : CallOk P call) {l : List ROp} {rs : List Rec} {S : Nat → Sl} {C : Nat → Mt} {nn : Nat → Nat} (hch : Chain call l rs S C nn) {befs ps : List (List Nat)} (hb : Vd.befsOk ps befs = true)
    (hs : slotsOk l befs = true) (hk : chkAll rs (pairsOf l befs) = true) : Indep (Vd.befOf befs) l rs := by
  refine ⟨fun j k h => (Vd.befs_lt hb h).1, fun j k t oj ok hjk hj hk' hd hu => ?_, fun j k rj rk i hjk hj hk' ht hu => ?_⟩
  · have hjl : j < l.length := (List.getElem?_eq_some_iff.1 hj).1
    have hkl : k < l.length := (List.getElem?_eq_some_iff.1 hk').1
    have h1 := List.all_eq_true.1 hs j (List.mem_range.2 hjl)
    have h2 := List.all_eq_true.1 h1 k (List.mem_range.2 hkl)
    rw [hj, hk'] at h2
    simp only [hd, Bool.or_eq_true, beq_iff_eq, Bool.not_eq_true', Bool.or_eq_false_iff, List.contains_eq_mem, decide_eq_false_iff_not, beq_eq_false_iff_ne] at h2
    rcases h2 with (h2 | h2) | h2
    · exact absurd h2 hjk
    · exact befs_cases h2
    · exfalso
      rcases hu with hu | hu | hu
      · exact h2.1.1 hu
      · exact h2.1.2 hu
      · exact h2.2 hu
  · cases ha : apart befs j k with
    | false => exact befs_cases ha
    | true =>
      exfalso
      have hjl : j < l.length := by rw [← hch.len]; exact (List.getElem?_eq_some_iff.1 hj).1
      have hkl : k < l.length := by rw [← hch.len]; exact (List.getElem?_eq_some_iff.1 hk').1
      have hoj : l[j]? = some l[j] := List.getElem?_eq_getElem hjl
      have hok : l[k]? = some l[k] := List.getElem?_eq_getElem hkl
      obtain ⟨_, _, aj0, aj1, hfj, _⟩ := hch.at_ j _ _ hoj hj
      obtain ⟨_, _, ak0, ak1, hfk, _⟩ := hch.at_ k _ _ hok hk'
      obtain ⟨_, kj2, kj3⟩ := touch_kind hc hfj ht
      have pair : ∀ x y rx ry, x ≠ y → apart befs x y = true → x < l.length → y < l.length → rs[x]? = some rx → rs[y]? = some ry → ∀ ox oy, l[x]? = some ox → l[y]? = some oy → clash ox.op oy.op = true → chk rx ry = true := by
        intro x y rx ry hxy hap hx hy hrx hry ox oy hox hoy hcl
        have hin : (x, y) ∈ pairsOf l befs := by
          unfold pairsOf
          rw [List.mem_flatMap]
          refine ⟨x, List.mem_range.2 hx, ?_⟩
          rw [List.mem_map]
          refine ⟨y, ?_, rfl⟩
          rw [List.mem_filter]
          refine ⟨List.mem_range.2 hy, ?_⟩
          rw [hox, hoy]
          simp [hxy, hap, hcl]
        have := List.all_eq_true.1 hk _ hin
        simpa [hrx, hry] using this
      have hap' : apart befs k j = true := by unfold apart at ha ⊢; rw [Bool.and_comm]; exact ha
      -- the new ones of two places are apart
      have newnew : ¬ ((rj.n0 ≤ i ∧ i < rj.n1) ∧ (rk.n0 ≤ i ∧ i < rk.n1)) := by
        rintro ⟨h1, h2⟩
        rcases Nat.lt_or_gt_of_ne hjk with h | h
        · have := mono_nn hc hch (j := j + 1) (k := k) (by omega) (by omega); omega
        · have := mono_nn hc hch (j := k + 1) (k := j) (by omega) (by omega); omega
      by_cases hown : l[j].op.ownW = true ∧ l[k].op.ownW = true
      · have hwj := kj3 hown.1
        rcases hu with hu | hu
        · obtain ⟨_, hR⟩ := has_kind hfk hu
          have : l[k].op.mayR = false := by cases hop : l[k].op <;> first | rfl | (have h2 := hown.2; rw [hop] at h2; simp [DOp.ownW] at h2)
          rw [this] at hR; cases hR
        · obtain ⟨_, _, kk3⟩ := touch_kind hc hfk hu
          have hwk := kk3 hown.2
          simp only [Rec.touch, hwj, hwk, List.not_mem_nil, false_or] at ht hu
          exact newnew ⟨ht, hu⟩
      · have hno : (!(l[j].op.ownW && l[k].op.ownW)) = true := by
          simp only [Bool.not_eq_true', Bool.and_eq_false_iff]
          by_cases h1 : l[j].op.ownW = true
          · exact .inr (by cases h2 : l[k].op.ownW with | false => rfl | true => exact absurd ⟨h1, h2⟩ hown)
          · exact .inl (by simpa using h1)
        rcases hu with hu | hu
        · obtain ⟨_, hR⟩ := has_kind hfk hu
          have hcl : clash l[j].op l[k].op = true := by unfold clash; rw [kj2, hR, hno]; rfl
          have := (chk_spec (pair j k rj rk hjk ha hjl hkl hj hk' _ _ hoj hok hcl) ht).1
          rw [this] at hu; cases hu
        · obtain ⟨_, kk2, kk3⟩ := touch_kind hc hfk hu
          have hcl : clash l[j].op l[k].op = true := by unfold clash; rw [kj2, kk2, hno]; simp
          have hcl' : clash l[k].op l[j].op = true := by unfold clash; rw [kj2, kk2, Bool.and_comm l[k].op.ownW, hno]; simp
          have c1 := chk_spec (pair j k rj rk hjk ha hjl hkl hj hk' _ _ hoj hok hcl) ht
          have c2 := chk_spec (pair k j rk rj (fun e => hjk e.symm) hap' hkl hjl hk' hj _ _ hok hoj hcl') hu
          have nwk : i ∉ rk.w := by
            by_cases hi : i ∈ rj.w
            · have := c1.2.1; rw [if_pos hi] at this; exact this
            · exact c1.2.2 hi
          have nwj : i ∉ rj.w := by
            by_cases hi : i ∈ rk.w
            · exact absurd hi nwk
            · exact c2.2.2 hi
          rcases ht with ht | ht
          · exact nwj ht
          · rcases hu with hu | hu
            · exact nwk hu
            · exact newnew ⟨ht, hu⟩
end Go.Ve

namespace Go.Ve
open Go.RowKit
set_option linter.unusedSimpArgs false
set_option linter.unusedVariables false

def dstAt (rops : List ROp) (k : Nat) : Option Nat := (rops[k]?).bind (·.dst)
def edAt (rs : List Rec) (k : Nat) : D := match rs[k]? with | some r => r.d | none => .junk
def lkAt (rs : List Rec) (k i : Nat) : Option (Option Ob) := match rs[k]? with
  | some r => if r.touch i then some (r.mv.get i) else none
  | none => none

theorem lkAt_some {rs : List Rec} {k i : Nat} {r : Rec} (hr : rs[k]? = some r) : lkAt rs k i = if r.touch i then some (r.mv.get i) else none := by simp [lkAt, hr]
theorem lkAt_ne {rs : List Rec} {k i : Nat} (h : lkAt rs k i ≠ none) : ∃ r, rs[k]? = some r ∧ r.touch i := by
  unfold lkAt at h
  split at h
  · rename_i r hr
    split at h
    · rename_i ht; exact ⟨r, hr, ht⟩
    · exact absurd rfl h
  · exact absurd rfl h

/-- What is known in the midst of a row: X has been done. -/
structure InX (P : Program) (B : Nat) (w0 : World) (N : Nat) (rops : List ROp) (rs : List Rec) (s0 : Nat → D) (M0 : Mem) (dfs : List Deferred) (X : Nat → Bool) (a : Act) (w : World) (g : Gm) : Prop where
  inv : Inv P B w0 (stM (lkAt rs) M0 X rops.length) w g
  slots : Slots g (stS (dstAt rops) (edAt rs) s0 X rops.length) a
  size : a.tmps.size = N
  defers : a.defers = dfs
  fresh : ∀ k r, rs[k]? = some r → X k = false → ∀ i, r.n0 ≤ i → i < r.n1 → stM (lkAt rs) M0 X rops.length i = none ∧ g i = none

section
variable {P : Program} {B : Nat} {w0 : World} {N : Nat} {call : CallF} {Q : Exit → Act → World → Prop} {rops : List ROp} {rs : List Rec} {S : Nat → Sl} {C : Nat → Mt} {nn : Nat → Nat} {M0 : Mem} {bef : Nat → Nat → Prop} {ρ : Option Nat} {dfs : List Deferred}

theorem chain_at (hch : Chain call rops rs S C nn) {k : Nat} (hk : k < rops.length) : ∃ o r, rops[k]? = some o ∧ rs[k]? = some r ∧ r.s = S k ∧ r.c = C k ∧ r.n0 = nn k ∧ r.n1 = nn (k + 1) ∧ OpFact call o r ∧ S (k + 1) = setD (S k) o.dst r.d ∧
    ∀ i, (C (k + 1)).get i = if r.touch i then r.mv.get i else (C k).get i := by
  have ho : rops[k]? = some rops[k] := List.getElem?_eq_getElem hk
  have hr : rs[k]? = some (rs[k]'(by rw [hch.len]; exact hk)) := List.getElem?_eq_getElem _
  exact ⟨_, _, ho, hr, hch.at_ k _ _ ho hr⟩

theorem below_S (hch : Chain call rops rs S C nn) : ∀ k, k ≤ rops.length → sg (S k) = stS (dstAt rops) (edAt rs) (sg (S 0)) (Vd.below k) rops.length
  | 0, _ => by
    funext t
    have h0 : ∀ n, lastS (dstAt rops) (edAt rs) (Vd.below 0) t n = none := by
      intro n
      induction n with
      | zero => rfl
      | succ n ih => simp [lastS, Vd.below] at ih ⊢; exact ih
    simp [stS, h0]
  | k + 1, hk => by
    obtain ⟨o, r, ho, hr, _, _, _, _, _, e, _⟩ := chain_at hch (k := k) (by omega)
    rw [e, sg_set, below_S hch k (by omega), ← Vd.ins_below, stS_ins (by simp [Vd.below]) (by omega) (fun t _ j h1 h2 h3 => by simp [Vd.below] at h3; omega)]
    have e1 : dstAt rops k = o.dst := by simp [dstAt, ho]
    have e2 : edAt rs k = r.d := by simp [edAt, hr]
    rw [e1, e2]

theorem below_C (hch : Chain call rops rs S C nn) (h0 : Sub (C 0).get M0) : ∀ k, k ≤ rops.length → Sub (C k).get (stM (lkAt rs) M0 (Vd.below k) rops.length)
  | 0, _ => by
    intro i ob hi
    have hn : ∀ n, lastM (lkAt rs) (Vd.below 0) i n = none := by
      intro n
      induction n with
      | zero => rfl
      | succ n ih => simp [lastM, Vd.below] at ih ⊢; exact ih
    simp only [stM, hn]
    exact h0 i ob hi
  | k + 1, hk => by
    intro i ob hi
    obtain ⟨o, r, ho, hr, _, _, _, _, _, _, e⟩ := chain_at hch (k := k) (by omega)
    rw [e i] at hi
    rw [← Vd.ins_below, stM_ins (by simp [Vd.below]) (by omega) (fun t _ j h1 h2 h3 => by simp [Vd.below] at h3; omega), lkAt_some hr]
    split at hi
    · rename_i ht; rw [if_pos ht]; exact hi
    · rename_i ht; rw [if_neg ht]; exact below_C hch h0 k (by omega) i ob hi

theorem sched_wp (hc : CallOk P call) {ops : Array Oper} (hops : trROps P N ops.toList ops.toList = some rops) (hch : Chain call rops rs S C nn) (hI : Indep bef rops rs) (h0 : Sub (C 0).get M0) {dd : List Vd.DOper} (hdd : dd.length = rops.length) :
    ∀ (l : List Nat) (X : Nat → Bool) (a : Act) (w : World) (g : Gm), Vd.Closed bef X → Vd.Goes dd bef X l → InX P B w0 N rops rs (sg (S 0)) M0 dfs X a w g →
    (∀ a' w' g', InX P B w0 N rops rs (sg (S 0)) M0 dfs (l.foldl Vd.ins X) a' w' g' → g.le g' → (∀ i, ¬ (nn 0 ≤ i ∧ i < nn rops.length) → g' i = g i) → Q .normal a' w') → wpOpsIn (fe ρ) 0 P ops Q l a w
  | [], X, a, w, g, _, _, hx, hq => hq a w g hx (Gm.le.refl g) (fun _ _ => rfl)
  | k :: l, X, a, w, g, hX, hgo, hx, hq => by
    obtain ⟨hkd, hkX, hpre, hgo'⟩ := hgo
    rw [hdd] at hkd
    obtain ⟨hlen, hall⟩ := trROps_some hops
    obtain ⟨ro, r, hro, hr, es, ec, en0, en1, hf, eS, eC⟩ := chain_at hch hkd
    have hk : k < ops.toList.length := by omega
    have ho' : ops.toList[k]? = some ops.toList[k] := List.getElem?_eq_getElem hk
    obtain ⟨r2, q1, q2⟩ := hall k _ ho'
    rw [hro] at q1
    simp only [Option.some.injEq] at q1
    subst q1
    generalize ho2 : ops.toList[k] = o at ho' q2
    have ho : ops[k]? = some o := by simpa using ho'
    obtain ⟨t1, t2, t3, t4⟩ := trROp_some q2
    have hdst : ∀ t, o.dst = some t → t < a.tmps.size := fun t ht => by rw [hx.size]; exact t4 t ht
    have hcl : Vd.Closed bef (Vd.ins X k) := hX.ins hpre
    -- who is apart from k says nothing to it
    have key : ∀ j, (bef j k ∨ bef k j) ∨ j = k → Vd.below k j = X j := by
      intro j hj
      rcases hj with (h1 | h1) | rfl
      · rw [hpre j h1]; simp [Vd.below, hI.lt j k h1]
      · have hlt := hI.lt k j h1
        have hxj : X j = false := by
          cases hxj : X j with
          | false => rfl
          | true => rw [hX k j hxj h1] at hkX; cases hkX
        rw [hxj]; simp [Vd.below]; omega
      · rw [hkX]; simp [Vd.below]
    have oj : ∀ j t, dstAt rops j = some t → ∃ x, rops[j]? = some x ∧ x.dst = some t := by
      intro j t h
      simp only [dstAt, Option.bind_eq_some_iff] at h
      exact h
    have hslot : ∀ t, (t ∈ ro.op.uses ∨ gslot ro = some t) → sg r.s t = stS (dstAt rops) (edAt rs) (sg (S 0)) X rops.length t := by
      intro t ht
      rw [es, below_S hch k (by omega)]
      simp only [stS]
      rw [lastS_congr (fun j hj hd => ?_)]
      obtain ⟨x, hx1, hx2⟩ := oj j t hd
      refine key j ?_
      by_cases hjk : j = k
      · exact .inr hjk
      · exact .inl (hI.slot j k t x ro hjk hx1 hro hx2 (by rcases ht with ht | ht; exact .inl ht; exact .inr (.inl ht)))
    have hmem : ∀ i, r.rd.has i = true → stM (lkAt rs) M0 (Vd.below k) rops.length i = stM (lkAt rs) M0 X rops.length i := by
      intro i hi
      simp only [stM]
      rw [lastM_congr (fun j hj hd => ?_)]
      obtain ⟨rj, hrj, htj⟩ := lkAt_ne hd
      refine key j ?_
      by_cases hjk : j = k
      · exact .inr hjk
      · exact .inl (hI.mem j k rj r i hjk hrj hr htj (.inl hi))
    have hguard : ∀ b, guardG (sg r.s) ro.guard = some b → Region.wanted o (yielded ops a.tmps) = b := by
      intro b hg
      refine wanted_guard hx.slots t3 ?_
      rw [← hg]
      unfold guardG
      cases hgd : ro.guard with
      | none => rfl
      | some p =>
        simp only
        rw [hslot p.1 (.inr (by simp [gslot, hgd]))]
    -- nothing of X behind k has to do with what k fills
    have hS' : stS (dstAt rops) (edAt rs) (sg (S 0)) (Vd.ins X k) rops.length = setS (stS (dstAt rops) (edAt rs) (sg (S 0)) X rops.length) ro.dst r.d := by
      rw [stS_ins hkX hkd (fun t hd j h1 h2 h3 hd' => ?_)]
      · have e1 : dstAt rops k = ro.dst := by simp [dstAt, hro]
        have e2 : edAt rs k = r.d := by simp [edAt, hr]
        rw [e1, e2]
      · obtain ⟨x, hx1, hx2⟩ := oj j t hd'
        have hrt : ro.dst = some t := by simpa [dstAt, hro] using hd
        rcases hI.slot j k t x ro (by omega) hx1 hro hx2 (.inr (.inr hrt)) with h4 | h4
        · have := hI.lt j k h4; omega
        · rw [hX k j h3 h4] at hkX; cases hkX
    have hM' : ∀ i, stM (lkAt rs) M0 (Vd.ins X k) rops.length i = if r.touch i then r.mv.get i else stM (lkAt rs) M0 X rops.length i := by
      intro i
      rw [stM_ins hkX hkd (fun i hl j h1 h2 h3 => ?_), lkAt_some hr]
      · by_cases ht : r.touch i
        · rw [if_pos ht, if_pos ht]
        · rw [if_neg ht, if_neg ht]
      · obtain ⟨rk, hrk, htk⟩ := lkAt_ne hl
        rw [hr] at hrk
        simp only [Option.some.injEq] at hrk; subst hrk
        cases hlj : lkAt rs j i with
        | none => rfl
        | some x =>
          exfalso
          obtain ⟨rj, hrj, htj⟩ := lkAt_ne (rs := rs) (k := j) (i := i) (by rw [hlj]; simp)
          rcases hI.mem j k rj r i (by omega) hrj hr htj (.inr htk) with h4 | h4
          · have := hI.lt j k h4; omega
          · rw [hX k j h3 h4] at hkX; cases hkX
    have hrange : nn 0 ≤ r.n0 ∧ r.n0 ≤ r.n1 ∧ r.n1 ≤ nn rops.length := by
      rw [en0, en1]
      exact ⟨mono_nn hc hch (by omega) (by omega), mono_nn hc hch (by omega) (by omega), mono_nn hc hch (by omega) (Nat.le_refl _)⟩
    -- the places that are left are fresh still
    have hfresh : ∀ g' : Gm, (∀ i, ¬ (r.n0 ≤ i ∧ i < r.n1) → g' i = g i) → (∀ i ∈ r.w, i < r.n0) → ∀ k' r', rs[k']? = some r' → Vd.ins X k k' = false → ∀ i, r'.n0 ≤ i → i < r'.n1 → stM (lkAt rs) M0 (Vd.ins X k) rops.length i = none ∧ g' i = none := by
      intro g' hout hwl k' r' hr' hX' i h1 h2
      simp only [Vd.ins, Bool.or_eq_false_iff, beq_eq_false_iff_ne] at hX'
      have hk'l : k' < rops.length := by rw [← hch.len]; exact (List.getElem?_eq_some_iff.1 hr').1
      obtain ⟨_, r2, _, hr2, _, _, f0, f1, _⟩ := chain_at hch hk'l
      rw [hr'] at hr2
      simp only [Option.some.injEq] at hr2; subst hr2
      have hnot : ¬ (r.n0 ≤ i ∧ i < r.n1) := by
        rcases Nat.lt_or_gt_of_ne hX'.2 with h | h
        · have := mono_nn hc hch (j := k' + 1) (k := k) (by omega) (by omega); omega
        · have := mono_nn hc hch (j := k + 1) (k := k') (by omega) (by omega); omega
      have hnt : ¬ r.touch i := by
        rintro (h | h)
        · rcases Nat.lt_or_gt_of_ne hX'.2 with h3 | h3
          · rcases hI.mem k k' r r' i (by omega) hr hr' (.inl h) (.inr (.inr ⟨h1, h2⟩)) with h4 | h4
            · have := hI.lt k k' h4; omega
            · rw [hpre k' h4] at hX'; cases hX'.1
          · have := hwl i h
            have := mono_nn hc hch (j := k) (k := k') (by omega) (by omega)
            omega
        · exact hnot h
      rw [hM' i, if_neg hnt, hout i hnot]
      exact hx.fresh k' r' hr' hX'.1 i h1 h2
    simp only [wpOpsIn, ho]
    cases hon : r.on with
    | false =>
      obtain ⟨hg, ed, ew, e1, _⟩ := hf.off hon
      rw [hguard false hg]
      simp only [Bool.false_eq_true, if_false]
      have hps := put_size a o.dst undef
      have hM'' : stM (lkAt rs) M0 (Vd.ins X k) rops.length = stM (lkAt rs) M0 X rops.length := by
        funext i
        rw [hM' i, if_neg]
        simp only [Rec.touch, ew, e1]
        rintro (h | h)
        · cases h
        · omega
      refine ⟨fun _ _ => trivial, ?_⟩
      refine sched_wp hc hops hch hI h0 hdd l (Vd.ins X k) _ w g hcl hgo' ⟨by rw [hM'']; exact hx.inv, ?_, by rw [hps.1]; exact hx.size, by rw [hps.2]; exact hx.defers, hfresh g (fun _ _ => rfl) (by rw [ew]; simp)⟩ hq
      rw [hS', t2, ed]
      exact hx.slots.put (.tup [] [] rfl (by simp)) hdst
    | true =>
      obtain ⟨hg, hst⟩ := hf.step hon
      rw [hguard true hg]
      simp only [if_true]
      obtain ⟨p1, p2, p3⟩ := stepOp_facts hc hst
      have hfr := hx.fresh k r hr hkX
      -- how it goes on
      have hgoOn : ∀ v w' g' (M' : Mem), Inv P B w0 M' w' g' → Sub (stM (lkAt rs) M0 (Vd.ins X k) rops.length) M' → g.le g' → (∀ i, ¬ (r.n0 ≤ i ∧ i < r.n1) → g' i = g i) → Rep g' r.d v → wpOpsIn (fe ρ) 0 P ops Q l (a.put o.dst v) w' := by
        intro v w' g' M' hi hsb hle hout hrp
        have hps := put_size a o.dst v
        refine sched_wp hc hops hch hI h0 hdd l (Vd.ins X k) _ w' g' hcl hgo' ⟨hi.less hsb, ?_, by rw [hps.1]; exact hx.size, by rw [hps.2]; exact hx.defers, hfresh g' hout p2⟩ (fun a'' w'' g'' h1 h2 h3 => hq a'' w'' g'' h1 (hle.trans h2) (fun i hi => ?_))
        · rw [hS', t2]
          exact (hx.slots.ext hle).put hrp hdst
        · rw [h3 i hi, hout i (by omega)]
      cases hcall : isCall ro.op with
      | true =>
        obtain ⟨hrd, hv⟩ := hf.view hon hcall
        have hst' : stepOp call (stS (dstAt rops) (edAt rs) (sg (S 0)) X rops.length) r.v r.n0 ro.op = some (r.d, r.mv, r.n1, r.w) := by
          rw [← hst]
          cases hop : ro.op <;> first | (rw [hop] at hcall; simp [isCall] at hcall; done) | skip
          rename_i f xs
          simp only [stepOp]
          rw [Arg.ev_congr (x := f) (s := sg r.s) (s' := stS (dstAt rops) (edAt rs) (sg (S 0)) X rops.length) (fun t ht => hslot t (.inl (by rw [hop]; simp [DOp.uses, ht]))),
            args_congr (xs := xs) (s := sg r.s) (s' := stS (dstAt rops) (edAt rs) (sg (S 0)) X rops.length) (fun t ht => hslot t (.inl (by rw [hop]; simp only [DOp.uses]; exact List.mem_append_right _ ht)))]
        have hsub : Sub r.v.get (stM (lkAt rs) M0 X rops.length) := by
          intro i ob hi
          rw [← hmem i (by rw [hrd]; simp [Rd.has, hi])]
          have := hv i ob hi
          rw [ec] at this
          exact below_C hch h0 k (by omega) i ob this
        refine step_wp hc t1 hst' hsub hx.inv hx.slots hfr (fun v w' M' g' hA hrp => hgoOn v w' g' M' hA.inv (fun i ob hi => ?_) hA.le hA.out hrp)
        rw [hM' i] at hi
        split at hi
        · exact hA.sub i ob hi
        · rename_i ht
          rw [hA.keep i (fun e => ht (.inl e)) (fun e => ht (.inr e))]
          exact hi
      | false =>
        obtain ⟨hvc, hrd⟩ := hf.prim hon hcall
        have hnc := isCall_not hcall
        obtain ⟨u, hex, hal, hmv, hw⟩ := stepOp_prim_some hnc hst
        have hex' : exec (stS (dstAt rops) (edAt rs) (sg (S 0)) X rops.length) (stM (lkAt rs) M0 X rops.length) r.n0 ro.op = some (r.d, u, r.n1) := by
          rw [← exec_slots (s := sg r.s) (fun t ht => hslot t (.inl ht))]
          refine exec_mono (fun i hi ob hob => ?_) hex
          rw [← hmem i (by rw [hrd]; simpa [Rd.has] using hi)]
          rw [hvc, ec] at hob
          exact below_C hch h0 k (by omega) i ob hob
        obtain ⟨_, _, f3⟩ := prim_facts hex hal
        refine prim_wp hnc t1 hex' hal hx.inv hx.slots hfr (fun v w' g' hA hrp => hgoOn v w' g' _ hA.inv (fun i ob hi => ?_) hA.le hA.out hrp)
        rw [hM' i] at hi
        split at hi
        · rename_i ht
          have hiu : i ∈ u.map (·.1) := (f3 i).2 (by rw [← hw]; exact ht)
          rw [hmv, Mt.app_get] at hi
          rw [← hi]
          exact app_in u _ _ i hiu
        · rename_i ht
          rw [app_out u _ i (fun e => ht (by rw [Rec.touch, hw]; exact (f3 i).1 e))]
          exact hi
end
end Go.Ve

namespace Go.Ve
open Go.RowKit
set_option linter.unusedSimpArgs false
set_option linter.unusedVariables false

structure St where
  s : Sl
  m : Mt
  n : Nat
  w : List Nat
  df : List Nat

inductive Ex where
  | normal
  | ret
  | exit (i : Nat)
def Ex.pd : Ex → Pd
  | .normal => .no
  | .ret => .ret
  | .exit i => .exit i
def Pd.ex : Pd → Ex
  | .no => .normal
  | .ret => .ret
  | .exit i => .exit i
def Ex.toExit : Ex → Exit
  | .normal => .normal
  | .ret => .ret
  | .exit i => .exit i

def iter (f : St → Option (Ex × St)) : Nat → St → Option (Ex × St)
  | 0, _ => none
  | k + 1, st => match f st with
    | some (.normal, st') => iter f k st'
    | r => r

/-- A loop is over: the record is shut, and what a round has left comes next. -/
def endLp (st : St) (m : Mt) (n : Nat) (w : List Nat) : Option Ob → Option (Ex × St)
  | some (.lp 0 pd s ps da db) => some (pd.ex, ⟨st.s, m.put (st.n + 1) (some (.lp 3 pd s ps da db)), n, w.filter (fun i => Nat.blt i st.n) ++ st.w, st.n :: st.df⟩)
  | some (.lp 2 pd s ps da db) => some (pd.ex, ⟨st.s, m.put (st.n + 1) (some (.lp 3 pd s ps da db)), n, w.filter (fun i => Nat.blt i st.n) ++ st.w, st.n :: st.df⟩)
  | _ => none

def run (call : CallF) (fuel : Nat) (rd : Bool) : DC → St → Option (Ex × St)
  | .skip, st => some (.normal, st)
  | .stop, _ => none
  | .ret, st => some (.ret, st)
  | .exit i, st => some (.exit i, st)
  | .row ops, st => match rowR call ops st.s st.m st.n st.w with
    | some (s, m, n, w) => some (.normal, ⟨s, m, n, w, st.df⟩)
    | none => none
  | .drawn ops hids ps, st => match drawR call ops hids [] st.s st.m st.n with
    | some (s, m, n, rs) => bif chkAll rs ps then some (.normal, ⟨s, m, n, rs.flatMap (·.w) ++ st.w, st.df⟩) else none
    | none => none
  | .seq a b, st => match run call fuel rd a st with
    | some (.normal, st') => run call fuel rd b st'
    | r => r
  | .cond c a b, st => match c.ev (sg st.s) with
    | .bool true => run call fuel rd a st
    | .bool false => run call fuel rd b st
    | _ => none
  | .block i c, st => match run call fuel rd c st with
    | some (.exit j, st') => if j = i then some (.normal, st') else some (.exit j, st')
    | r => r
  | .loop c, st => iter (run call fuel rd c) fuel st
  | .scope c, st => bif rd then none else run call fuel rd c st
  | .rfn g ps da db, st => bif rd then none else match g.ev (sg st.s) with
    | .fn f caps => match call (.rng f) (.yld (st.n + 1) :: caps) (Tr.put (st.m.put st.n (some (.dfr true))) (st.n + 1) (some (.lp 0 .no st.s ps da db))) (st.n + 2) with
      | some (_, m, n, w) => endLp st m n w (m.get (st.n + 1))
      | none => none
    | _ => none

/-! ### Read off the model -/

/-! ### What is so whatever the model -/

theorem draw_facts {P : Program} {call : CallF} (hc : CallOk P call) {l : List ROp} {rs : List Rec} {S : Nat → Sl} {C : Nat → Mt} {nn : Nat → Nat} (hch : Chain call l rs S C nn) (w : List Nat) :
    Facts (C 0) (nn 0) w (C l.length) (nn l.length) (rs.flatMap (·.w) ++ w) := by
  have hw : ∀ k r, rs[k]? = some r → k < l.length → (∀ i ∈ r.w, i < r.n0) := by
    intro k r hr hk
    obtain ⟨o, r', ho, hr', _, _, _, _, hf, _⟩ := chain_at hch hk
    rw [hr] at hr'
    simp only [Option.some.injEq] at hr'; subst hr'
    cases hon : r.on with
    | false => obtain ⟨_, _, e, _⟩ := hf.off hon; rw [e]; simp
    | true => obtain ⟨_, e⟩ := hf.step hon; exact (stepOp_facts hc e).2.1
  refine ⟨mono_nn hc hch (Nat.zero_le _) (Nat.le_refl _), fun i hi => List.mem_append_right _ hi, fun hw0 i hi => ?_, fun i hi hn => ?_⟩
  · rcases List.mem_append.1 hi with hi | hi
    · rw [List.mem_flatMap] at hi
      obtain ⟨r, hr, hi⟩ := hi
      obtain ⟨k, hk, rfl⟩ := List.getElem_of_mem hr
      have hkl : k < l.length := by rw [← hch.len]; exact hk
      have := hw k _ (List.getElem?_eq_getElem hk) hkl i hi
      obtain ⟨o, r', ho, hr', _, _, e0, e1, _⟩ := chain_at hch hkl
      rw [List.getElem?_eq_getElem hk] at hr'
      simp only [Option.some.injEq] at hr'
      rw [hr', e0] at this
      have := mono_nn hc hch (j := k) (k := l.length) (by omega) (Nat.le_refl _)
      omega
    · have := hw0 i hi
      have := mono_nn hc hch (j := 0) (k := l.length) (by omega) (Nat.le_refl _)
      omega
  · have key : ∀ k, k ≤ l.length → (C k).get i = (C 0).get i := by
      intro k hk
      induction k with
      | zero => rfl
      | succ k ih =>
        obtain ⟨o, r, ho, hr, _, _, e0, e1, _, _, e⟩ := chain_at hch (k := k) (by omega)
        rw [e i, if_neg, ih (by omega)]
        rintro (h | h)
        · exact hi (List.mem_append_left _ (List.mem_flatMap.2 ⟨r, List.mem_of_getElem? hr, h⟩))
        · have := mono_nn hc hch (j := 0) (k := k) (by omega) (by omega)
          have := mono_nn hc hch (j := k + 1) (k := l.length) (by omega) (Nat.le_refl _)
          omega
    exact key _ (Nat.le_refl _)

theorem iter_facts {f : St → Option (Ex × St)} (hf : ∀ st e st', f st = some (e, st') → Facts st.m st.n st.w st'.m st'.n st'.w) : ∀ (k : Nat) (st : St) (e : Ex) (st' : St), iter f k st = some (e, st') → Facts st.m st.n st.w st'.m st'.n st'.w
  | 0, st, e, st', h => by cases h
  | k + 1, st, e, st', h => by
    simp only [iter] at h
    split at h
    · rename_i st1 e1
      exact (hf _ _ _ e1).trans (iter_facts hf k st1 e st' h)
    · exact hf _ _ _ h

theorem endLp_some {st : St} {m : Mt} {n : Nat} {w : List Nat} {o : Option Ob} {e : Ex} {st' : St} (h : endLp st m n w o = some (e, st')) : ∃ k pd s ps da db, (k = 0 ∨ k = 2) ∧ o = some (.lp k pd s ps da db) ∧ e = pd.ex ∧
    st' = ⟨st.s, m.put (st.n + 1) (some (.lp 3 pd s ps da db)), n, w.filter (fun i => Nat.blt i st.n) ++ st.w, st.n :: st.df⟩ := by
  unfold endLp at h
  split at h
  · simp only [Option.some.injEq, Prod.mk.injEq] at h
    obtain ⟨rfl, rfl⟩ := h
    exact ⟨0, _, _, _, _, _, .inl rfl, rfl, rfl, rfl⟩
  · simp only [Option.some.injEq, Prod.mk.injEq] at h
    obtain ⟨rfl, rfl⟩ := h
    exact ⟨2, _, _, _, _, _, .inr rfl, rfl, rfl, rfl⟩
  · cases h

theorem run_facts {P : Program} {call : CallF} (hc : CallOk P call) (fuel : Nat) (rd : Bool) : ∀ (dc : DC) (st : St) (e : Ex) (st' : St), run call fuel rd dc st = some (e, st') → Facts st.m st.n st.w st'.m st'.n st'.w := by
  intro dc
  induction dc with
  | skip => intro st e st' h; simp only [run, Option.some.injEq, Prod.mk.injEq] at h; obtain ⟨_, rfl⟩ := h; exact .refl _ _ _
  | stop => intro st e st' h; simp [run] at h
  | ret => intro st e st' h; simp only [run, Option.some.injEq, Prod.mk.injEq] at h; obtain ⟨_, rfl⟩ := h; exact .refl _ _ _
  | exit i => intro st e st' h; simp only [run, Option.some.injEq, Prod.mk.injEq] at h; obtain ⟨_, rfl⟩ := h; exact .refl _ _ _
  | row ops =>
    intro st e st' h
    simp only [run] at h
    split at h
    · rename_i s m n w he
      simp only [Option.some.injEq, Prod.mk.injEq] at h
      obtain ⟨_, rfl⟩ := h
      exact row_facts hc he
    · cases h
  | drawn ops hids ps =>
    intro st e st' h
    simp only [run] at h
    split at h
    · rename_i s m n rs he
      cases hk : chkAll rs ps with
      | false => rw [hk] at h; cases h
      | true =>
        rw [hk] at h
        simp only [cond_true, Option.some.injEq, Prod.mk.injEq] at h
        obtain ⟨_, rfl⟩ := h
        obtain ⟨rs2, S, C, nn, q1, hch, q3, q4, q5, q6, q7, q8⟩ := draw_chain hc _ _ _ _ _ _ _ _ _ _ he
        simp only [List.nil_append] at q1
        subst q1
        have := draw_facts hc hch st.w
        rw [q4, q5, q7, q8] at this
        exact this
    · cases h
  | seq a b iha ihb =>
    intro st e st' h
    simp only [run] at h
    split at h
    · rename_i st1 e1
      exact (iha _ _ _ e1).trans (ihb _ _ _ h)
    · exact iha _ _ _ h
  | cond c a b iha ihb =>
    intro st e st' h
    simp only [run] at h
    split at h
    · exact iha _ _ _ h
    · exact ihb _ _ _ h
    · cases h
  | block i c ih =>
    intro st e st' h
    simp only [run] at h
    split at h
    · rename_i j st1 e1
      split at h
      · simp only [Option.some.injEq, Prod.mk.injEq] at h
        obtain ⟨_, rfl⟩ := h
        exact ih _ _ _ e1
      · simp only [Option.some.injEq, Prod.mk.injEq] at h
        obtain ⟨_, rfl⟩ := h
        exact ih _ _ _ e1
    · exact ih _ _ _ h
  | loop c ih =>
    intro st e st' h
    simp only [run] at h
    exact iter_facts (fun st e st' h => ih st e st' h) fuel st e st' h
  | scope c ih =>
    intro st e st' h
    simp only [run] at h
    cases rd with
    | true => cases h
    | false => exact ih _ _ _ h
  | rfn g ps da db =>
    intro st e st' h
    simp only [run] at h
    cases rd with
    | true => cases h
    | false =>
      simp only [cond_false] at h
      split at h
      · rename_i f caps hcal
        split at h
        · rename_i d m n w hcall
          obtain ⟨k, pd, s, ps', da', db', hk, ho, rfl, rfl⟩ := endLp_some h
          obtain ⟨p1, p2, p3, _⟩ := hc _ _ _ _ _ _ _ _ hcall
          refine ⟨by simp only; omega, fun i hi => List.mem_append_right _ hi, fun hw i hi => ?_, fun i hi hn => ?_⟩
          · simp only at hi ⊢
            rcases List.mem_append.1 hi with hi | hi
            · have := Nat.le_of_ble_eq_true (List.mem_filter.1 hi).2; omega
            · have := hw i hi; omega
          · simp only at hi hn ⊢
            have h1 : i ≠ st.n + 1 := by omega
            have h2 : i ≠ st.n := by omega
            rw [Tr.get_put, if_neg h1, p3 i (fun hiw => ?_) (by omega), Tr.get_put, if_neg h1, Tr.get_put, if_neg h2]
            have := p2 i hiw
            exact hi (List.mem_append_left _ (List.mem_filter.2 ⟨hiw, Nat.ble_eq_true_of_le (by omega)⟩))
        · cases h
      · cases h
end Go.Ve

namespace Go.Ve
open Go.RowKit
set_option linter.unusedSimpArgs false
set_option linter.unusedVariables false

section
variable {P : Program} {B : Nat} {w0 : World} {N nE : Nat} {call : CallF} {ρ : Option Nat}

/-- The marks of the loops that a frame has gone through. -/
def Dfs (g : Gm) : List Nat → List Deferred → Prop
  | [], ds => ds = []
  | i :: l, ds => ∃ b C r, g i = some (b, C) ∧ ds = { target := .collected b, args := #[] } :: r ∧ Dfs g l r
theorem Dfs.ext {g g' : Gm} (x : g.le g') : ∀ {l : List Nat} {ds : List Deferred}, Dfs g l ds → Dfs g' l ds
  | [], ds, h => h
  | i :: l, ds, h => by
    obtain ⟨b, C, r, h1, h2, h3⟩ := h
    exact ⟨b, C, r, x _ _ h1, h2, h3.ext x⟩

theorem chunk_schedule {ops : Array Oper} {rops : List ROp} {befs : List (List Nat)} (hops : trROps P N ops.toList ops.toList = some rops) (hb : Vd.befsOk (ops.toList.map Vd.preds) befs = true)
    (hord : ∀ md, Vd.goodOrd md ops (Region.linearise md ops 0) = true) (mixed : Bool) (t : Nat) :
    ∃ dd : List Vd.DOper, dd.length = rops.length ∧ Vd.Goes dd (Vd.befOf befs) (fun _ => false) (Region.schedule mixed ops t) ∧ (Region.schedule mixed ops t).foldl Vd.ins (fun _ => false) = Vd.below rops.length := by
  obtain ⟨hl, _⟩ := trROps_some hops
  let dd : List Vd.DOper := ops.toList.map fun o => ⟨none, .stop, Vd.preds o, none⟩
  have hdl : dd.length = ops.size := by simp [dd]
  have hrl : rops.length = ops.size := by simpa using hl
  have haf : dd.map (·.after) = ops.toList.map Vd.preds := by simp [dd, List.map_map, Function.comp_def]
  have hps : ∀ (k : Nat) o, ops[k]? = some o → (dd.map (·.after)).getD k [] = Vd.preds o := by
    intro k o ho
    rw [haf]
    simp [List.getD, ho]
  have hb' : Vd.befsOk (dd.map (·.after)) befs = true := by rw [haf]; exact hb
  refine ⟨dd, by omega, ?_⟩
  rw [hrl]
  unfold Region.schedule
  split
  · exact Vd.linearise_goes hdl hps hb' (hord .any) t
  · split
    · exact Vd.linearise_goes hdl hps hb' (hord .text) (t / 2)
    · exact Vd.linearise_goes hdl hps hb' (hord .gc) (t / 2)

/-- What code of the model comes to, where the layer's comes to e, st'. -/
def Post (P : Program) (B : Nat) (w0 : World) (N nE : Nat) (st : St) (M : Mem) (g : Gm) (e : Ex) (st' : St) : Exit → Act → World → Prop :=
  fun e' a' w' => e' = e.toExit ∧ ∃ M' g' dfs, InS P B w0 N nE st'.s st'.m st'.n dfs M' a' w' g' ∧ Dfs g' st'.df dfs ∧ Went st.n st'.n st'.w M g M' g'

theorem Post.trans {st st1 st2 : St} {M M1 : Mem} {g g1 : Gm} {e : Ex} {e' : Exit} {a' : Act} {w' : World} (h : Went st.n st1.n st1.w M g M1 g1) (k : Post P B w0 N nE st1 M1 g1 e st2 e' a' w') (h1 : st.n ≤ st1.n) (h2 : Facts st1.m st1.n st1.w st2.m st2.n st2.w) :
    Post P B w0 N nE st M g e st2 e' a' w' := by
  obtain ⟨p, M', g', dfs, q, q2, r⟩ := k
  exact ⟨p, M', g', dfs, q, q2, h.trans r h1 h2.le h2.sub⟩

theorem rounds_of {F : Fence} {n0 : Nat} {Q : Exit → Act → World → Prop} {c : Code} (J : Nat → Act → World → Prop)
    (round : ∀ n a w, J n a w → c.wpIn F n0 P (Exit.then (fun a' w' => ∃ k, k < n ∧ J k a' w') Q) a w) : ∀ (n m : Nat) (a : Act) (w : World), m < n → J m a w → Code.roundsIn F n0 P c Q n a w
  | 0, _, _, _, h, _ => absurd h (Nat.not_lt_zero _)
  | n + 1, m, a, w, h, hJ => wpIn_mono (round m a w hJ) (fun e a' w' hq => by
      cases e with
      | normal =>
        obtain ⟨k, hk, hJ'⟩ := hq
        exact rounds_of J round n k a' w' (by omega) hJ'
      | _ => exact hq)
theorem wpIn_loop_n {F : Fence} {n0 : Nat} {Q : Exit → Act → World → Prop} {c : Code} (J : Nat → Act → World → Prop)
    (round : ∀ n a w, J n a w → c.wpIn F n0 P (Exit.then (fun a' w' => ∃ k, k < n ∧ J k a' w') Q) a w) {n : Nat} {a : Act} {w : World} (h0 : J n a w) : (Code.loop c).wpIn F n0 P Q a w :=
  wpIn_loop_rounds (n + 1) (rounds_of J round (n + 1) n a w (Nat.lt_succ_self n) h0)

theorem run_wp (hc : CallOk P call) (fuel : Nat) (rd : Bool) (hρ : rd = false → ρ = none) : ∀ (code : Code) (dc : DC), trCode P N code = some dc → ∀ (st : St) (e : Ex) (st' : St), run call fuel rd dc st = some (e, st') → st'.n ≤ nE →
    ∀ (M : Mem) (a : Act) (w : World) (g : Gm) (dfs : List Deferred), InS P B w0 N nE st.s st.m st.n dfs M a w g → Dfs g st.df dfs → code.wpIn (fe ρ) 0 P (Post P B w0 N nE st M g e st') a w := by
  intro code
  induction code with
  | skip =>
    intro dc htr st e st' h hn M a w g dfs hx hd
    simp only [trCode, Option.some.injEq] at htr; subst htr
    simp only [run, Option.some.injEq, Prod.mk.injEq] at h; obtain ⟨rfl, rfl⟩ := h
    exact wpIn_skip ⟨rfl, M, g, dfs, hx, hd, Went.refl ..⟩
  | label l =>
    intro dc htr st e st' h hn M a w g dfs hx hd
    simp only [trCode, Option.some.injEq] at htr; subst htr
    simp only [run, Option.some.injEq, Prod.mk.injEq] at h; obtain ⟨rfl, rfl⟩ := h
    exact wpIn_label ⟨rfl, M, g, dfs, hx, hd, Went.refl ..⟩
  | ret =>
    intro dc htr st e st' h hn M a w g dfs hx hd
    simp only [trCode, Option.some.injEq] at htr; subst htr
    simp only [run, Option.some.injEq, Prod.mk.injEq] at h; obtain ⟨rfl, rfl⟩ := h
    exact wpIn_ret ⟨rfl, M, g, dfs, hx, hd, Went.refl ..⟩
  | exit i =>
    intro dc htr st e st' h hn M a w g dfs hx hd
    simp only [trCode, Option.some.injEq] at htr; subst htr
    simp only [run, Option.some.injEq, Prod.mk.injEq] at h; obtain ⟨rfl, rfl⟩ := h
    exact wpIn_exit ⟨rfl, M, g, dfs, hx, hd, Went.refl ..⟩
  | region id ops draw =>
    intro dc htr st e st' h hn M a w g dfs hx hd
    cases draw with
    | false =>
      simp only [trCode, Option.map_eq_some_iff] at htr
      obtain ⟨rops, hops, rfl⟩ := htr
      simp only [run] at h
      split at h
      · rename_i s m n w1 he
        simp only [Option.some.injEq, Prod.mk.injEq] at h
        obtain ⟨rfl, rfl⟩ := h
        have hl : rops.length = ops.size := by simpa using (trROps_some hops).1
        refine wpIn_region ?_
        rw [← hl, List.range_eq_range']
        exact row_wp hc hops rops 0 st.s st.m st.n st.w s m n w1 M a w g rfl he hn hx (fun a' w' M' g' h1 h2 => ⟨rfl, M', g', dfs, h1, hd.ext h2.le, h2⟩)
      · cases h
    | true =>
      simp only [trCode, mkDrawn] at htr
      split at htr
      · rename_i rops hops
        split at htr
        · rename_i hcond
          obtain ⟨c1, c2, c3, c4, c5⟩ := hcond
          simp only [Option.some.injEq] at htr; subst htr
          simp only [run] at h
          split at h
          · rename_i s m n rs he
            cases hk : chkAll rs (pairsOf rops (Vd.befsFrom (ops.toList.map Vd.preds))) with
            | false => rw [hk] at h; cases h
            | true =>
              rw [hk] at h
              simp only [cond_true, Option.some.injEq, Prod.mk.injEq] at h
              obtain ⟨rfl, rfl⟩ := h
              obtain ⟨rs2, S, C, nn, q1, hch, q3, q4, q5, q6, q7, q8⟩ := draw_chain hc _ _ _ _ _ _ _ _ _ _ he
              simp only [List.nil_append] at q1
              subst q1
              have hI := indep_of hc hch c1 c2 hk
              have hfacts := draw_facts hc hch st.w
              rw [q4, q5, q7, q8] at hfacts
              have hsub0 : Sub (C 0).get M := by rw [q4]; exact hx.sub
              refine wpIn_region_draw (fun t => ?_)
              obtain ⟨dd, d1, d2, d3⟩ := chunk_schedule hops c1 (fun md => by cases md; exact c4; exact c5; exact c3) (P.follows .mixedOrders) t
              have hM0 : stM (lkAt rs) M (fun _ => false) rops.length = M := by
                funext i
                have : ∀ n, lastM (lkAt rs) (fun _ => false) i n = none := by
                  intro n
                  induction n with
                  | zero => rfl
                  | succ n ih => simp [lastM] at ih ⊢; exact ih
                simp [stM, this]
              have hS0 : stS (dstAt rops) (edAt rs) (sg (S 0)) (fun _ => false) rops.length = sg st.s := by
                funext i
                have : ∀ n, lastS (dstAt rops) (edAt rs) (fun _ => false) i n = none := by
                  intro n
                  induction n with
                  | zero => rfl
                  | succ n ih => simp [lastS] at ih ⊢; exact ih
                simp [stS, this, q3]
              have hx' : InX P B w0 N rops rs (sg (S 0)) M dfs (fun _ => false) a w.drew g := by
                refine ⟨by rw [hM0]; exact hx.inv.drew, by rw [hS0]; exact hx.slots, hx.size, hx.defers, fun k r hr _ i h1 h2 => ?_⟩
                rw [hM0]
                have hkl : k < rops.length := by rw [← hch.len]; exact (List.getElem?_eq_some_iff.1 hr).1
                obtain ⟨o, r', ho, hr', _, _, e0, e1, _⟩ := chain_at hch hkl
                rw [hr] at hr'
                simp only [Option.some.injEq] at hr'; subst hr'
                have m1 := mono_nn hc hch (j := 0) (k := k) (by omega) (by omega)
                have m2 := mono_nn hc hch (j := k + 1) (k := rops.length) (by omega) (Nat.le_refl _)
                exact hx.fresh i (by omega) (by simp only at hn; omega)
              refine sched_wp hc hops hch hI hsub0 d1 _ (fun _ => false) a w.drew g (fun j k h => by cases h) d2 hx' (fun a' w' g' h1 h2 h3 => ?_)
              rw [d3] at h1
              have hkeep : ∀ i, i ∉ rs.flatMap (·.w) ++ st.w → ¬ (st.n ≤ i ∧ i < n) → stM (lkAt rs) M (Vd.below rops.length) rops.length i = M i := by
                intro i hi hni
                have : ∀ k, k ≤ rops.length → lastM (lkAt rs) (Vd.below rops.length) i k = none := by
                  intro k hk
                  induction k with
                  | zero => rfl
                  | succ k ih =>
                    have hl : lkAt rs k i = none := by
                      cases hl : lkAt rs k i with
                      | none => rfl
                      | some x =>
                        exfalso
                        obtain ⟨r, hr, ht⟩ := lkAt_ne (rs := rs) (k := k) (i := i) (by rw [hl]; simp)
                        obtain ⟨o, r', ho, hr', _, _, e0, e1, _⟩ := chain_at hch (k := k) (by omega)
                        rw [hr] at hr'
                        simp only [Option.some.injEq] at hr'; subst hr'
                        rcases ht with ht | ht
                        · exact hi (List.mem_append_left _ (List.mem_flatMap.2 ⟨r, List.mem_of_getElem? hr, ht⟩))
                        · have m1 := mono_nn hc hch (j := 0) (k := k) (by omega) (by omega)
                          have m2 := mono_nn hc hch (j := k + 1) (k := rops.length) (by omega) (Nat.le_refl _)
                          omega
                    simp only [lastM, hl, ih (by omega), ite_self]
                simp [stM, this _ (Nat.le_refl _)]
              refine ⟨rfl, _, g', dfs, ⟨h1.inv, ?_, ?_, h1.size, h1.defers, fun i h4 h5 => ?_⟩, hd.ext h2, ⟨h2, ?_, hkeep⟩⟩
              · have := below_C hch hsub0 rops.length (Nat.le_refl _)
                rw [q7] at this
                exact this
              · have := below_S hch rops.length (Nat.le_refl _)
                rw [q6] at this
                simp only
                rw [this]
                exact h1.slots
              · simp only at h4 ⊢
                have hle : st.n ≤ n := hfacts.le
                have hf := hx.fresh i (by omega) h5
                refine ⟨?_, ?_⟩
                · have : ∀ k, k ≤ rops.length → lastM (lkAt rs) (Vd.below rops.length) i k = none := by
                    intro k hk
                    induction k with
                    | zero => rfl
                    | succ k ih =>
                      have hl : lkAt rs k i = none := by
                        cases hl : lkAt rs k i with
                        | none => rfl
                        | some x =>
                          exfalso
                          obtain ⟨r, hr, ht⟩ := lkAt_ne (rs := rs) (k := k) (i := i) (by rw [hl]; simp)
                          obtain ⟨o, r', ho, hr', _, _, e0, e1, hf', _⟩ := chain_at hch (k := k) (by omega)
                          rw [hr] at hr'
                          simp only [Option.some.injEq] at hr'; subst hr'
                          have m1 := mono_nn hc hch (j := 0) (k := k) (by omega) (by omega)
                          have m2 := mono_nn hc hch (j := k + 1) (k := rops.length) (by omega) (Nat.le_refl _)
                          have m3 := mono_nn hc hch (j := k) (k := k + 1) (by omega) (by omega)
                          rcases ht with ht | ht
                          · have hon : r.on = true := (touch_kind hc hf' (.inl ht)).1
                            have := (stepOp_facts hc (hf'.step hon).2).2.1 i ht
                            omega
                          · omega
                      simp only [lastM, hl, ih (by omega), ite_self]
                  simp only [stM, this _ (Nat.le_refl _)]
                  exact hf.1
                · rw [h3 i (by omega)]; exact hf.2
              · intro i hi
                exact h3 i (by simp only at hi; omega)
          · cases h
        · cases htr
      · cases htr
  | seq x y ihx ihy =>
    intro dc htr st e st' h hn M a w g dfs hx hd
    simp only [trCode] at htr
    split at htr
    · rename_i dx dy h1 h2
      simp only [Option.some.injEq] at htr; subst htr
      simp only [run] at h
      split at h
      · rename_i st1 e1
        have f1 := run_facts hc fuel rd dx st _ st1 e1
        have f2 := run_facts hc fuel rd dy st1 _ st' h
        have hwp := ihx dx h1 st _ st1 e1 (Nat.le_trans f2.le hn) M a w g dfs hx hd
        refine wpIn_seq (wpIn_mono hwp ?_)
        rintro e' a' w' ⟨rfl, M', g', dfs', hh, hd', hw⟩
        exact wpIn_mono (ihy dy h2 st1 e st' h hn M' a' w' g' dfs' hh hd') (fun e'' a'' w'' h => Post.trans hw h f1.le f2)
      · rename_i hne
        have hwp := ihx dx h1 st e st' h hn M a w g dfs hx hd
        refine wpIn_seq (wpIn_mono hwp ?_)
        rintro e' a' w' ⟨rfl, hp⟩
        cases e with
        | normal => exact absurd h (fun h => hne _ h)
        | ret => exact ⟨rfl, hp⟩
        | exit i => exact ⟨rfl, hp⟩
    · cases htr
  | cond c x y ihx ihy =>
    intro dc htr st e st' h hn M a w g dfs hx hd
    simp only [trCode] at htr
    split at htr
    · rename_i dcc dx dy h0 h1 h2
      simp only [Option.some.injEq] at htr; subst htr
      have hcv := hx.slots.arg h0
      simp only [run] at h
      split at h
      · rename_i ht
        rw [ht] at hcv
        exact wpIn_cond_true hcv.bool_inv (ihx dx h1 st e st' h hn M a w g dfs hx hd)
      · rename_i ht
        rw [ht] at hcv
        exact wpIn_cond_false hcv.bool_inv (ihy dy h2 st e st' h hn M a w g dfs hx hd)
      · cases h
    · cases htr
  | block i c ih =>
    intro dc htr st e st' h hn M a w g dfs hx hd
    simp only [trCode, Option.map_eq_some_iff] at htr
    obtain ⟨dcc, h1, rfl⟩ := htr
    simp only [run] at h
    split at h
    · rename_i j st1 e1
      split at h
      · rename_i hji
        subst hji
        simp only [Option.some.injEq, Prod.mk.injEq] at h
        obtain ⟨rfl, rfl⟩ := h
        refine wpIn_block (wpIn_mono (ih dcc h1 st _ st1 e1 hn M a w g dfs hx hd) ?_)
        rintro e' a' w' ⟨rfl, hp⟩
        simp only [Ex.toExit, Exit.inBlock, if_true]
        exact ⟨rfl, hp⟩
      · rename_i hji
        simp only [Option.some.injEq, Prod.mk.injEq] at h
        obtain ⟨rfl, rfl⟩ := h
        refine wpIn_block (wpIn_mono (ih dcc h1 st _ st1 e1 hn M a w g dfs hx hd) ?_)
        rintro e' a' w' ⟨rfl, hp⟩
        simp only [Ex.toExit, Exit.inBlock]
        rw [if_neg hji]
        exact ⟨rfl, hp⟩
    · rename_i hne
      refine wpIn_block (wpIn_mono (ih dcc h1 st e st' h hn M a w g dfs hx hd) ?_)
      rintro e' a' w' ⟨rfl, hp⟩
      cases e with
      | normal => exact ⟨rfl, hp⟩
      | ret => exact ⟨rfl, hp⟩
      | exit j => exact absurd h (fun h => hne _ _ h)
  | loop c ih =>
    intro dc htr st e st' h hn M a w g dfs hx hd
    simp only [trCode, Option.map_eq_some_iff] at htr
    obtain ⟨dcc, h1, rfl⟩ := htr
    simp only [run] at h
    have hrf := fun st e st' h => run_facts hc fuel rd dcc st e st' h
    refine wpIn_loop_n (fun k a' w' => ∃ st1 M1 g1 dfs1, InS P B w0 N nE st1.s st1.m st1.n dfs1 M1 a' w' g1 ∧ Dfs g1 st1.df dfs1 ∧ Went st.n st1.n st1.w M g M1 g1 ∧ st.n ≤ st1.n ∧ iter (run call fuel rd dcc) k st1 = some (e, st')) ?_ (n := fuel) ⟨st, M, g, dfs, hx, hd, Went.refl .., Nat.le_refl _, h⟩
    rintro k a1 w1 ⟨st1, M1, g1, dfs1, hh, hd1, hw, hle, hit⟩
    cases k with
    | zero => cases hit
    | succ k =>
      simp only [iter] at hit
      split at hit
      · rename_i st2 e2
        have f1 := hrf _ _ _ e2
        have f2 := iter_facts hrf k st2 e st' hit
        refine wpIn_mono (ih dcc h1 st1 _ st2 e2 (Nat.le_trans f2.le hn) M1 a1 w1 g1 dfs1 hh hd1) ?_
        rintro e' a' w' ⟨rfl, M2, g2, dfs2, hh2, hd2, hw2⟩
        exact ⟨k, Nat.lt_succ_self _, st2, M2, g2, dfs2, hh2, hd2, hw.trans hw2 hle f1.le f1.sub, Nat.le_trans hle f1.le, hit⟩
      · rename_i hne
        have f1 := hrf _ _ _ hit
        refine wpIn_mono (ih dcc h1 st1 e st' hit hn M1 a1 w1 g1 dfs1 hh hd1) ?_
        rintro e' a' w' hp
        have hp' := Post.trans hw hp hle f1
        obtain ⟨rfl, _⟩ := hp
        cases e with
        | normal => exact absurd hit (fun h => hne _ h)
        | ret => exact hp'
        | exit i => exact hp'
  | scope c ih =>
    intro dc htr st e st' h hn M a w g dfs hx hd
    simp only [trCode, Option.map_eq_some_iff] at htr
    obtain ⟨dcc, h1, rfl⟩ := htr
    simp only [run] at h
    cases rd with
    | true => cases h
    | false =>
      obtain rfl := hρ rfl
      have hw := wpIn_wide.1 (ih dcc h1 st e st' h hn M a w g dfs hx hd)
      refine wpIn_wide.2 (wp_scope_straight (wp_mono hw ?_))
      rintro e' a' w' ⟨rfl, hp⟩
      cases e with
      | normal => exact ⟨rfl, hp⟩
      | ret => exact ⟨rfl, hp⟩
      | exit j => exact ⟨rfl, hp⟩
  | rangeFunc gf ps x y _ _ =>
    intro dc htr st e st' h hn M a w g dfs hx hd
    simp only [trCode] at htr
    split at htr
    · rename_i dg da db h0 h1 h2
      split at htr
      · rename_i hps
        simp only [Option.some.injEq] at htr; subst htr
        simp only [run] at h
        cases rd with
        | true => cases h
        | false =>
          obtain rfl := hρ rfl
          simp only [cond_false] at h
          split at h
          · rename_i f caps hcal
            split at h
            · rename_i d m2 n2 w2 hcall
              obtain ⟨k, pd, s2, ps2, da2, db2, hk, ho, rfl, rfl⟩ := endLp_some h
              obtain ⟨p1, p2, p3, hrun⟩ := hc _ _ _ _ _ _ _ _ hcall
              simp only at hn
              have hf0 := hx.fresh st.n (Nat.le_refl _) (by omega)
              have hf1 := hx.fresh (st.n + 1) (by omega) (by omega)
              have hgv := hx.slots.arg h0
              rw [hcal] at hgv
              obtain ⟨lb, hg, hlb, hrep⟩ := hgv.fn_inv
              refine wpIn_rangeFunc (fun fid _ => ?_)
              obtain ⟨rec, hrec⟩ : ∃ rec : Loop, rec = { state := .ready, pending := none, fn := fid, tmps := a.tmps, params := ps, assign := x, body := y, defers := w.heap.size } := ⟨_, rfl⟩
              obtain ⟨W1, hW1⟩ : ∃ W1, (w.alloc (.deferred (some []))).alloc (.loop rec) = W1 := ⟨_, rfl⟩
              have hi1 : Inv P B w0 (M.put st.n (some (.dfr true))) (w.alloc (.deferred (some []))) (g.add st.n w.heap.size none) := hx.inv.new hf0.1 hf0.2 none (ob := .dfr true) rfl
              have hle1 : g.le (g.add st.n w.heap.size none) := Gm.add_le hf0.2
              have hi2 : Inv P B w0 ((M.put st.n (some (.dfr true))).put (st.n + 1) (some (.lp 0 .no st.s ps.toList da db))) W1 ((g.add st.n w.heap.size none).add (st.n + 1) (w.heap.size + 1) none) := by
                have hfr : (M.put st.n (some (.dfr true))) (st.n + 1) = none := by rw [Mem.put_other (by omega)]; exact hf1.1
                have hfg : (g.add st.n w.heap.size none) (st.n + 1) = none := by rw [Gm.add_other (by omega)]; exact hf1.2
                have := hi1.new hfr hfg none (ob := .lp 0 .no st.s ps.toList da db) (o := .loop rec) ⟨rec, rfl, by rw [hrec]; rfl, by rw [hrec]; rfl, by rw [hrec], by rw [hrec]; simp only; rw [hx.size]; exact hps, by rw [hrec]; simp only; rw [hx.size]; exact h1, by rw [hrec]; simp only; rw [hx.size]; exact h2, fun t => by rw [hrec]; exact (hx.slots t).ext hle1⟩
                rw [World.size_alloc, hW1] at this
                exact this
              have hle2 : g.le ((g.add st.n w.heap.size none).add (st.n + 1) (w.heap.size + 1) none) := hle1.trans (Gm.add_le (by rw [Gm.add_other (by omega)]; exact hf1.2))
              have hgL : ((g.add st.n w.heap.size none).add (st.n + 1) (w.heap.size + 1) none) (st.n + 1) = some (w.heap.size + 1, none) := Gm.add_same
              have hgD : ((g.add st.n w.heap.size none).add (st.n + 1) (w.heap.size + 1) none) st.n = some (w.heap.size, none) := by rw [Gm.add_other (by omega)]; exact Gm.add_same
              have hR := hrun B w0 W1 ((M.put st.n (some (.dfr true))).put (st.n + 1) (some (.lp 0 .no st.s ps.toList da db))) ((g.add st.n w.heap.size none).add (st.n + 1) (w.heap.size + 1) none) (.func (.yield (w.heap.size + 1)) #[] #[] :: lb) (.rng f) rfl
                (fun i ob hi => by
                  rw [Tr.get_put, Tr.get_put] at hi
                  by_cases e1 : i = st.n + 1
                  · subst e1; rw [Mem.put_same]; rw [if_pos rfl] at hi; exact hi
                  · rw [Mem.put_other e1]; rw [if_neg e1] at hi
                    by_cases e0 : i = st.n
                    · subst e0; rw [Mem.put_same]; rw [if_pos rfl] at hi; exact hi
                    · rw [Mem.put_other e0]; rw [if_neg e0] at hi; exact hx.sub i ob hi)
                hi2
                (fun i i1 i2 => by
                  have := hx.fresh i (by omega) (by omega)
                  rw [Mem.put_other (by omega), Mem.put_other (by omega), Gm.add_other (by omega), Gm.add_other (by omega)]
                  exact this)
                (by simp [hlb])
                (fun j d v hd' hv => by
                  cases j with
                  | zero => simp only [List.getElem?_cons_zero, Option.some.injEq] at hd' hv; subst hd' hv; exact .yld _ _ none hgL
                  | succ j => simp only [List.getElem?_cons_succ] at hd' hv; exact (hrep j d v hd' hv).ext hle2)
              simp only [Runs] at hR
              obtain ⟨⟨fn, hfn, hbody, hname⟩, hcalls⟩ := hR
              have hbn : fn.body.isNone = false := by cases hb : fn.body <;> simp_all
              have harr : (Value.func (.yield (w.heap.size + 1)) #[] #[] :: lb).toArray = #[.func (.yield (w.heap.size + 1)) #[] #[]] ++ lb.toArray := by simp
              rw [harr] at hcalls
              refine ⟨w.heap.size + 1, [{ target := .collected w.heap.size, args := #[] }], W1, { target := .fn (.func f) lb.toArray, args := #[.func (.yield (w.heap.size + 1)) #[] #[]] }, W1, f,
                #[.func (.yield (w.heap.size + 1)) #[] #[]] ++ lb.toArray, W1, ?_, ?_, fun _ _ => trivial, ?_, fe_dep, ?_⟩
              · rw [← hW1, hrec]; exact run_enterLoop_outer _ _ _ _ _
              · simp only [resolve, hg]
                simp [go_sem]
              · simp only [invoke]
                simp only [callFunc, Sem.run_bind, Sem.run_pure, Result.andThen_ok, run_program, hfn, hname, hbn, Bool.false_eq_true, if_false]
              · refine (callsIn_fe hcalls).mono ?_
                rintro e w3 ⟨v, rfl, M', g', hA, _⟩
                have hM' := hA.sub _ _ ho
                have hgL' := hA.le _ _ hgL
                obtain ⟨b, C, e1, e2, r, e3, e4, e5, e6, e7, e8, e9, e10⟩ := hA.inv.obj _ _ hM'
                rw [hgL'] at e1
                simp only [Option.some.injEq, Prod.mk.injEq] at e1
                obtain ⟨rfl, rfl⟩ := e1
                have hne : r.state ≠ .busy := by rcases hk with rfl | rfl <;> (simp only [LoopIs] at e4; rw [e4]; simp)
                have hst := hA.inv.putO (i := st.n + 1) (by rw [hM']; simp) hgL' (ob := .lp 3 pd s2 ps2 da2 db2) (o := .loop { r with state := .exhausted }) ⟨_, rfl, rfl, e5, e6, e7, e8, e9, e10⟩
                have hend := run_endLoop (P := P) e3 hne
                have hpost : Post P B w0 N nE st M g pd.ex ⟨st.s, m2.put (st.n + 1) (some (.lp 3 pd s2 ps2 da2 db2)), n2, w2.filter (fun i => Nat.blt i st.n) ++ st.w, st.n :: st.df⟩ pd.ex.toExit { a with defers := [{ target := .collected w.heap.size, args := #[] }] ++ a.defers } (w3.putObj (w.heap.size + 1) (.loop { r with state := .exhausted })) := by
                  refine ⟨rfl, _, g', { target := .collected w.heap.size, args := #[] } :: dfs, ⟨hst, ?_, fun t => (hx.slots t).ext (hle2.trans hA.le), hx.size, by rw [← hx.defers]; rfl, fun i i1 i2 => ?_⟩, ⟨w.heap.size, none, dfs, hA.le _ _ hgD, rfl, hd.ext (hle2.trans hA.le)⟩, ⟨hle2.trans hA.le, fun i hi => ?_, fun i hi hni => ?_⟩⟩
                  · intro i ob hi
                    simp only [Tr.get_put] at hi
                    by_cases e1 : i = st.n + 1
                    · subst e1; rw [Mem.put_same]; rw [if_pos rfl] at hi; exact hi
                    · rw [Mem.put_other e1]; rw [if_neg e1] at hi; exact hA.sub i ob hi
                  · simp only at i1
                    have := hx.fresh i (by omega) i2
                    rw [Mem.put_other (by omega), hA.keep i (fun h => by have := p2 i h; omega) (by omega), hA.out i (by omega), Mem.put_other (by omega), Mem.put_other (by omega), Gm.add_other (by omega), Gm.add_other (by omega)]
                    exact this
                  · simp only at hi
                    rw [hA.out i (by omega), Gm.add_other (by omega), Gm.add_other (by omega)]
                  · simp only at hi hni
                    rw [Mem.put_other (by omega), hA.keep i (fun h => hi (List.mem_append_left _ (List.mem_filter.2 ⟨h, Nat.ble_eq_true_of_le (by have := p2 i h; omega)⟩))) (by omega), Mem.put_other (by omega), Mem.put_other (by omega)]
                refine ⟨r.pending, _, hend, ?_⟩
                rw [e5]
                rw [e5] at hpost
                cases pd with
                | no => exact hpost
                | ret => exact wpIn_ret hpost
                | exit j => exact wpIn_exit hpost
            · cases h
          · cases h
      · cases htr
    · cases htr
  | refuse why =>
    intro dc htr st e st' h
    simp only [trCode, Option.some.injEq] at htr; subst htr
    simp [run] at h
  | _ =>
    intro dc htr
    simp [trCode] at htr
end
end Go.Ve

namespace Go.Ve
open Go.RowKit
set_option linter.unusedSimpArgs false
set_option linter.unusedVariables false

inductive RV where
  | t (n : Nat)
  | cell (k : Option Nat) (n : Nat)

def ldD (m : Mem) (k : Option Nat) : D → Option D
  | .ptr i o => match m i with
    | some (.cells cs _) => match k with
      | none => cs[o]?
      | some k => if o + k ≤ cs.length then some (.agg ((cs.drop o).take k)) else none
    | _ => none
  | _ => none

def RV.of (s : Nat → D) (m : Mem) : RV → Option D
  | .t n => some (s n)
  | .cell k n => ldD m k (s n)

def rvAll (s : Nat → D) (m : Mem) : List RV → Option (List D)
  | [] => some []
  | r :: l => match r.of s m, rvAll s m l with
    | some d, some ds => some (d :: ds)
    | _, _ => none

def resOf (rs : List RV) (s : Nat → D) (m : Mem) : Option D :=
  match rvAll s m rs with
  | some [d] => some d
  | some ds => some (.tup ds)
  | none => none

def trRes (P : Program) : List ResultVar → Option (List RV)
  | [] => some []
  | .tmp t :: r => (trRes P r).map (.t t :: ·)
  | .cell a t :: r => match Vd.kOf P t, trRes P r with
    | some k, some l => some (.cell k a :: l)
    | _, _ => none

structure FnR where
  dc : DC
  N : Nat
  rs : List RV

/-- What is fixed of a function. -/
structure FnOk (P : Program) (f : FuncId) (fr : FnR) : Prop where
  is : ∃ fn code, P.funcs[f]? = some fn ∧ fn.body = some code ∧ (fn.name == "runtime.NumGoroutine") = false ∧ fn.ntmps = fr.N ∧ trCode P fr.N code = some fr.dc ∧ trRes P fn.results.toList = some fr.rs

def slotsOf : List D → Nat → Sl → Sl
  | [], _, s => s
  | d :: l, k, s => slotsOf l (k + 1) (s.put k (some d))

def nub : List Nat → List Nat
  | [] => []
  | x :: l => bif (nub l).contains x then nub l else x :: nub l

/-- The blocks of the loops that a frame has gone through are shut. -/
def shut (n0 n1 : Nat) : List Nat → Mt → Option Mt
  | [], m => some m
  | i :: l, m => bif Nat.ble n0 i && Nat.blt i n1 then match m.get i with
    | some (.dfr true) => shut n0 n1 l (m.put i (some (.dfr false)))
    | _ => none
    else none

def runFn (call : CallF) (fuel : Nat) (fr : FnR) (ds : List D) (m : Mt) (n : Nat) : Option (D × Mt × Nat × List Nat) :=
  bif Nat.ble ds.length fr.N then
    match run call fuel false fr.dc ⟨slotsOf ds 0 .nil, m, n, [], []⟩ with
    | some (.exit _, _) => none
    | some (_, st) => match shut n st.n st.df st.m with
      | some m1 => match resOf fr.rs (sg st.s) m1.get with
        | some d => some (d, m1, st.n, nub (st.w.filter fun i => Nat.blt i n))
        | none => none
      | none => none
    | none => none
  else none

/-! ### Rounds -/

def putAll : List Nat → List D → Sl → Sl
  | p :: ps, d :: ds, s => putAll ps ds (s.put p (some d))
  | _, _, s => s

def Ex.lst : Ex → Nat
  | .normal => 0
  | _ => 2
/-- A round's end. -/
def roundE (n i : Nat) (e : Ex) (st : St) : Option Ob → Option (D × Mt × Nat × List Nat)
  | some (.lp 1 _ s ps da db) => match e with
    | .normal => some (.bool true, st.m.put i (some (.lp 0 .no s ps da db)), st.n, nub ((i :: st.w).filter fun j => Nat.blt j n))
    | e => some (.bool false, st.m.put i (some (.lp 2 e.pd s ps da db)), st.n, nub ((i :: st.w).filter fun j => Nat.blt j n))
  | _ => none
/-- A round's beginning. -/
def roundB (call : CallF) (fuel n i : Nat) (db : DC) (st : St) : Option Ob → Option (D × Mt × Nat × List Nat)
  | some (.lp 0 pd s ps da db') => match run call fuel true db ⟨st.s, st.m.put i (some (.lp 1 pd s ps da db')), st.n, st.w, st.df⟩ with
    | some (e, st2) => roundE n i e st2 (st2.m.get i)
    | none => none
  | _ => none
def roundF (call : CallF) (fuel : Nat) (i : Nat) (ds : List D) (m : Mt) (n : Nat) : Option (D × Mt × Nat × List Nat) :=
  bif Nat.blt i n then match m.get i with
    | some (.lp 0 _ s ps da db) => bif Nat.beq ps.length ds.length then
        match run call fuel true da ⟨putAll ps ds s, m, n, [], []⟩ with
        | some (.normal, st) => roundB call fuel n i db st (st.m.get i)
        | _ => none
      else none
    | _ => none
  else none

def callF (tab : FuncId → Option FnR) (spec : FuncId → Option (List D → Mt → Nat → Option (D × Mt × Nat × List Nat))) : Nat → CallF
  | 0 => fun _ _ _ _ => none
  | k + 1 => fun c ds m n => match c with
    | .fn f => match spec f with
      | some q => q ds m n
      | none => match tab f with
        | some fr => runFn (callF tab spec k) (k + 1) fr ds m n
        | none => none
    | .rng f => match tab f with
      | some fr => runFn (callF tab spec k) (k + 1) fr ds m n
      | none => none
    | .yld i => roundF (callF tab spec k) (k + 1) i ds m n

theorem mem_nub : ∀ (l : List Nat) (i : Nat), i ∈ nub l ↔ i ∈ l
  | [], i => by simp [nub]
  | x :: l, i => by
    simp only [nub]
    have ih := mem_nub l
    cases hc : (nub l).contains x with
    | true =>
      rw [List.contains_iff_mem] at hc
      simp only [cond_true, ih, List.mem_cons]
      constructor
      · exact .inr
      · rintro (rfl | h)
        · exact (ih _).1 hc
        · exact h
    | false => simp [ih]

theorem slotsOf_get : ∀ (ds : List D) (k : Nat) (s : Sl) (t : Nat), sg (slotsOf ds k s) t = if k ≤ t ∧ t < k + ds.length then ds.getD (t - k) .junk else sg s t
  | [], k, s, t => by
    simp only [slotsOf]
    rw [if_neg (by simp)]
  | d :: l, k, s, t => by
    simp only [slotsOf]
    rw [slotsOf_get l (k + 1)]
    by_cases h1 : k + 1 ≤ t ∧ t < k + 1 + l.length
    · rw [if_pos h1, if_pos (by simp; omega)]
      rw [show t - k = (t - (k + 1)) + 1 by omega, List.getD_cons_succ]
    · rw [if_neg h1]
      simp only [sg, Tr.get_put]
      by_cases ht : t = k
      · subst ht
        rw [if_pos rfl, if_pos (by simp)]
        simp
      · rw [if_neg ht, if_neg (by simp; omega)]

section
variable {P : Program} {B : Nat} {w0 w : World} {M : Mem} {g : Gm} {s : Nat → D} {a : Act}

def rvRun (tmps : Array Value) : ResultVar → Sem Value
  | .tmp t => pure (tmps.getD t undef)
  | .cell a t => do loadVar t (← asAddr (tmps.getD a undef))

theorem rvAll_sound {m : Mem} (hi : Inv P B w0 M w g) (hsub : Sub m M) (hs : Slots g s a) : ∀ {rvs : List ResultVar} {rs : List RV} {ds : List D}, trRes P rvs = some rs → rvAll s m rs = some ds →
    ∃ vs : List Value, (rvs.mapM (m := Sem) (rvRun a.tmps)).run P w = .ok vs w ∧ vs.length = ds.length ∧ ∀ (j : Nat) d v, ds[j]? = some d → vs[j]? = some v → Rep g d v
  | [], rs, ds, h1, h2 => by
    simp only [trRes, Option.some.injEq] at h1; subst h1
    simp only [rvAll, Option.some.injEq] at h2; subst h2
    exact ⟨[], by simp, rfl, by simp⟩
  | x :: r, rs, ds, h1, h2 => by
    have key : ∃ rv rs', rs = rv :: rs' ∧ trRes P r = some rs' ∧ ∀ d, rv.of s m = some d → ∃ v, (rvRun a.tmps x).run P w = .ok v w ∧ Rep g d v := by
      cases x with
      | tmp t =>
        simp only [trRes, Option.map_eq_some_iff] at h1
        obtain ⟨l, hl, rfl⟩ := h1
        refine ⟨.t t, l, rfl, hl, fun d hd => ?_⟩
        simp only [RV.of, Option.some.injEq] at hd; subst hd
        exact ⟨_, rfl, hs t⟩
      | cell y t =>
        simp only [trRes] at h1
        split at h1
        · rename_i k l hk hl
          simp only [Option.some.injEq] at h1; subst h1
          refine ⟨.cell k y, l, rfl, hl, fun d hd => ?_⟩
          simp only [RV.of] at hd
          unfold ldD at hd
          split at hd
          · rename_i i o e
            have hr := hs y
            rw [e] at hr
            obtain ⟨b, C, e1, hb⟩ := hr.ptr_inv
            split at hd
            · rename_i cs ee hm
              obtain ⟨_, vs, T, fz, hh, hsf, hl, hrp, _⟩ := hi.cells (hsub _ _ hm) hb
              split at hd
              · obtain ⟨v, q1, q2, q3⟩ := rep_at (b := b) hl hrp hd
                exact ⟨v, by simp [rvRun, e1, asAddr, Vd.run_loadVar_leaf hk (show w.cell? ⟨b, o, none⟩ = some v by rw [cell_row hh]; exact q1)], q3⟩
              · split at hd
                · rename_i k hkl
                  simp only [Option.some.injEq] at hd; subst hd
                  obtain ⟨r1, r2, r3⟩ := cells_at hh hl hrp hkl
                  have := Vd.run_loadVar_agg (P := P) (w := w) hk (ad := ⟨b, o, none⟩) r2 (fun j v hv => by rw [Vd.mk_add]; exact r3 j v hv)
                  exact ⟨_, by simp [rvRun, e1, asAddr, this], Rep.aggOf r1⟩
                · cases hd
            · cases hd
          · cases hd
        · cases h1
    obtain ⟨rv, rs', rfl, hl, hx⟩ := key
    unfold rvAll at h2
    split at h2
    · rename_i d ds' e1 e2
      simp only [Option.some.injEq] at h2; subst h2
      obtain ⟨v, q1, q2⟩ := hx d e1
      obtain ⟨vs, p1, p2, p3⟩ := rvAll_sound hi hsub hs hl e2
      refine ⟨v :: vs, ?_, by simp [p2], fun j d v hd hv => ?_⟩
      · rw [List.mapM_cons]
        simp only [Sem.run_bind, q1, Result.andThen_ok, p1, Sem.run_pure]
      · cases j with
        | zero => simp only [List.getElem?_cons_zero, Option.some.injEq] at hd hv; subst hd hv; exact q2
        | succ j => simp only [List.getElem?_cons_succ] at hd hv; exact p3 j d v hd hv
    · cases h2

theorem resOf_sound {fn : Func} {m : Mem} {rs : List RV} {d : D} (hi : Inv P B w0 M w g) (hsub : Sub m M) (hs : Slots g s a) (hr : trRes P fn.results.toList = some rs) (hd : resOf rs s m = some d) :
    ∃ v, (results fn a.tmps).run P w = .ok v w ∧ Rep g d v := by
  unfold resOf at hd
  have run : ∀ ds, rvAll s m rs = some ds → ∃ vs : List Value, (results fn a.tmps).run P w = .ok (if h : vs.toArray.size = 1 then vs.toArray[0] else .tuple vs.toArray) w ∧ vs.length = ds.length ∧ ∀ (j : Nat) d v, ds[j]? = some d → vs[j]? = some v → Rep g d v := by
    intro ds hds
    obtain ⟨vs, p1, p2, p3⟩ := rvAll_sound hi hsub hs hr hds
    refine ⟨vs, ?_, p2, p3⟩
    have hres : results fn a.tmps = (do
      let vs ← fn.results.mapM (rvRun a.tmps)
      pure (if h : vs.size = 1 then vs[0] else .tuple vs)) := by
      unfold results
      congr 1
    rw [hres]
    simp only [Sem.run_bind]
    rw [Array.mapM_eq_mapM_toList, Sem.run_map, p1]
    rfl
  split at hd
  · rename_i d' e
    simp only [Option.some.injEq] at hd; subst hd
    obtain ⟨vs, p1, p2, p3⟩ := run _ e
    match vs, p2 with
    | [v], _ => exact ⟨v, p1, p3 0 _ v rfl rfl⟩
  · rename_i ds hne e
    simp only [Option.some.injEq] at hd; subst hd
    obtain ⟨vs, p1, p2, p3⟩ := run _ e
    refine ⟨.tuple vs.toArray, ?_, .tup ds vs p2 p3⟩
    rw [p1, dif_neg]
    intro h1
    match ds, hne, p2 with
    | [], _, p2 => simp at p2; subst p2; simp at h1
    | [x], hne, _ => exact hne x rfl
    | x :: y :: r, _, p2 => simp at p2 h1; omega
  · cases hd
end

/-- What is so of a call's answer, whatever the model. -/
def Plain (m : Mt) (n : Nat) (m' : Mt) (n' : Nat) (W : List Nat) : Prop :=
  n ≤ n' ∧ (∀ i ∈ W, i < n) ∧ (∀ i, i ∉ W → ¬ (n ≤ i ∧ i < n') → m'.get i = m.get i)

theorem shut_same {n0 n1 : Nat} : ∀ {l : List Nat} {m m1 : Mt}, shut n0 n1 l m = some m1 → ∀ i, ¬ (n0 ≤ i ∧ i < n1) → m1.get i = m.get i
  | [], m, m1, h, i, _ => by simp only [shut, Option.some.injEq] at h; subst h; rfl
  | k :: l, m, m1, h, i, hi => by
    simp only [shut] at h
    cases hc : (Nat.ble n0 k && Nat.blt k n1) with
    | false => rw [hc] at h; cases h
    | true =>
      rw [hc] at h
      simp only [cond_true] at h
      rw [Bool.and_eq_true] at hc
      have h1 := Nat.le_of_ble_eq_true hc.1
      have h2 := Nat.le_of_ble_eq_true hc.2
      split at h
      · rw [shut_same h i hi, Tr.get_put, if_neg (by omega)]
      · cases h

theorem leaves_shut {P : Program} {B : Nat} {w0 : World} {g : Gm} {n0 n1 : Nat} {fn : Func} {tmps : Array Value} {R : Ending → World → Prop} :
    ∀ (l : List Nat) (m m1 : Mt) (dfs : List Deferred) (w : World) (M : Mem), shut n0 n1 l m = some m1 → Inv P B w0 M w g → Sub m.get M → Dfs g l dfs →
      (∀ w' M', Inv P B w0 M' w' g → Sub m1.get M' → (∀ i, ¬ (n0 ≤ i ∧ i < n1) → M' i = M i) → ∃ v, (results fn tmps).run P w' = .ok v w' ∧ R (.returned v) w') →
      LeavesInM Fence.wide 0 P fn tmps R dfs .returning w
  | [], m, m1, dfs, w, M, h, hi, hs, hd, hk => by
    simp only [shut, Option.some.injEq] at h; subst h
    obtain rfl : dfs = [] := hd
    exact hk w M hi hs (fun _ _ => rfl)
  | k :: l, m, m1, dfs, w, M, h, hi, hs, hd, hk => by
    simp only [shut] at h
    cases hc : (Nat.ble n0 k && Nat.blt k n1) with
    | false => rw [hc] at h; cases h
    | true =>
      rw [hc] at h
      simp only [cond_true] at h
      rw [Bool.and_eq_true] at hc
      have h1 := Nat.le_of_ble_eq_true hc.1
      have h2 := Nat.le_of_ble_eq_true hc.2
      split at h
      · rename_i hm
        obtain ⟨b, C, r, hg, rfl, hr⟩ := hd
        have hM := hs _ _ hm
        obtain ⟨b', C', e1, e2, e3⟩ := hi.obj _ _ hM
        rw [hg] at e1
        simp only [Option.some.injEq, Prod.mk.injEq] at e1
        obtain ⟨rfl, rfl⟩ := e1
        have hheap : w.heap[b]? = some (.deferred (some [])) := e3
        refine ⟨by simp, .inl ⟨b, _, rfl, run_takeDeferred hheap, ?_⟩⟩
        refine leaves_shut l _ m1 r _ (M.put k (some (.dfr false))) h (hi.putO (by rw [hM]; simp) hg (ob := .dfr false) (o := .deferred none) rfl) (fun i ob hi' => ?_) hr (fun w' M' h3 h4 h5 => hk w' M' h3 h4 (fun i hi' => ?_))
        · rw [Tr.get_put] at hi'
          by_cases e : i = k
          · subst e; rw [Mem.put_same]; rw [if_pos rfl] at hi'; exact hi'
          · rw [Mem.put_other e]; rw [if_neg e] at hi'; exact hs i ob hi'
        · rw [h5 i hi', Mem.put_other (by omega)]
      · cases h

theorem runFn_ok {P : Program} {call : CallF} (hc : CallOk P call) {f : FuncId} {fr : FnR} (hf : FnOk P f fr) {fuel : Nat} {ds : List D} {m : Mt} {n : Nat} {d : D} {m' : Mt} {n' : Nat} {W : List Nat} (h : runFn call fuel fr ds m n = some (d, m', n', W)) :
    Plain m n m' n' W ∧
    ∀ (B : Nat) (w0 w : World) (M : Mem) (g : Gm) (vs : List Value), Sub m.get M → Inv P B w0 M w g → (∀ i, n ≤ i → i < n' → M i = none ∧ g i = none) →
      vs.length = ds.length → (∀ (j : Nat) d v, ds[j]? = some d → vs[j]? = some v → Rep g d v) →
      Runs P (.rng f) vs w fun v w' => ∃ M' g', After P B w0 M g n m'.get n' W M' w' g' ∧ Rep g' d v := by
  unfold runFn at h
  cases hlen : Nat.ble ds.length fr.N with
  | false => rw [hlen] at h; cases h
  | true =>
    rw [hlen] at h
    simp only [cond_true] at h
    have hN : ds.length ≤ fr.N := Nat.le_of_ble_eq_true hlen
    have key : ∀ (e : Ex) (st : St) (m1 : Mt), run call fuel false fr.dc ⟨slotsOf ds 0 .nil, m, n, [], []⟩ = some (e, st) → (e = .normal ∨ e = .ret) → shut n st.n st.df st.m = some m1 → resOf fr.rs (sg st.s) m1.get = some d → m' = m1 → n' = st.n → W = nub (st.w.filter fun i => Nat.blt i n) →
        Plain m n m' n' W ∧
        ∀ (B : Nat) (w0 w : World) (M : Mem) (g : Gm) (vs : List Value), Sub m.get M → Inv P B w0 M w g → (∀ i, n ≤ i → i < n' → M i = none ∧ g i = none) →
          vs.length = ds.length → (∀ (j : Nat) d v, ds[j]? = some d → vs[j]? = some v → Rep g d v) →
          Runs P (.rng f) vs w fun v w' => ∃ M' g', After P B w0 M g n m'.get n' W M' w' g' ∧ Rep g' d v := by
      rintro e st m1 he hend hshut hres rfl rfl rfl
      have hfa := run_facts hc fuel false fr.dc _ _ _ he
      have hwlt := hfa.lt (by simp)
      have hmem : ∀ i, i ∈ nub (st.w.filter fun i => Nat.blt i n) ↔ (i ∈ st.w ∧ i < n) := by
        intro i
        rw [mem_nub, List.mem_filter]
        exact ⟨fun h => ⟨h.1, Nat.le_of_ble_eq_true h.2⟩, fun h => ⟨h.1, Nat.ble_eq_true_of_le h.2⟩⟩
      have hnot : ∀ i, i ∉ nub (st.w.filter fun i => Nat.blt i n) → ¬ (n ≤ i ∧ i < st.n) → i ∉ st.w := by
        intro i h1 h2 h3
        have := hwlt i h3
        exact h1 ((hmem i).2 ⟨h3, by omega⟩)
      refine ⟨⟨hfa.le, fun i hi => ((hmem i).1 hi).2, fun i h1 h2 => (shut_same hshut i h2).trans (hfa.same i (hnot i h1 h2) h2)⟩, ?_⟩
      intro B w0 w M g vs hsub hi hfresh hl hrep
      obtain ⟨fn, code, h1, h2, h3, h4, h5, h6⟩ := hf.is
      refine ⟨⟨fn, h1, by rw [h2]; rfl, h3⟩, ?_⟩
      refine (callsIn_wide (n := 0)).1 (callsIn_of_wp_marks h1 h2 trivial ?_)
      rw [h4]
      have hst : InS P B w0 fr.N st.n (slotsOf ds 0 .nil) m n [] M { tmps := vs.toArray ++ Array.replicate (fr.N - vs.toArray.size) undef, defers := [] } w g := by
        refine ⟨hi, hsub, fun t => ?_, by simp; omega, rfl, hfresh⟩
        rw [slotsOf_get]
        by_cases ht : t < ds.length
        · rw [if_pos (by omega), Nat.sub_zero]
          have e1 : ds.getD t .junk = ds[t] := by simp [List.getD, ht]
          have e2 : (vs.toArray ++ Array.replicate (fr.N - vs.toArray.size) undef).getD t undef = vs[t]'(by omega) := by
            rw [Array.getD_eq_getD_getElem?, Array.getElem?_append_left (by simp; omega)]
            simp [hl, ht]
          rw [e1, e2]
          exact hrep t _ _ (List.getElem?_eq_getElem ht) (List.getElem?_eq_getElem _)
        · rw [if_neg (by omega)]
          simp only [sg, Tr.get_nil]
          exact .junk _
      have hw := run_wp (ρ := none) hc fuel false (fun _ => rfl) code fr.dc h5 _ e st he (Nat.le_refl _) M _ w g [] hst rfl
      refine wpIn_mono (F := Fence.wide) hw ?_
      rintro e' a' w' ⟨rfl, M', g', dfs, hh, hd, hw⟩
      have hb : LeavesInM Fence.wide 0 P fn a'.tmps (fun e w' => ∃ v, e = .returned v ∧ ∃ M' g', After P B w0 M g n m'.get st.n (nub (st.w.filter fun i => Nat.blt i n)) M' w' g' ∧ Rep g' d v) a'.defers .returning w' := by
        rw [hh.defers]
        refine leaves_shut st.df st.m m' dfs w' M' hshut hh.inv hh.sub hd (fun w2 M2 i1 i2 i3 => ?_)
        obtain ⟨v, hv1, hv2⟩ := resOf_sound i1 i2 hh.slots h6 hres
        exact ⟨v, hv1, v, rfl, M2, g', ⟨i1, i2, hw.le, hw.out, fun i h1 h2 => (i3 i h2).trans (hw.keep i (hnot i h1 h2) h2)⟩, hv2⟩
      rcases hend with rfl | rfl
      · exact hb
      · exact hb
    split at h
    · cases h
    · rename_i e st hne he
      split at h
      · rename_i m1 hshut
        split at h
        · rename_i d' hres
          simp only [Option.some.injEq, Prod.mk.injEq] at h
          obtain ⟨rfl, rfl, rfl, rfl⟩ := h
          refine key e st _ he ?_ hshut hres rfl rfl rfl
          cases e with
          | normal => exact .inl rfl
          | ret => exact .inr rfl
          | exit i => exact absurd rfl (hne i)
        · cases h
      · cases h
    · cases h

/-! ### Rounds, at the model -/

theorem sg_put (s : Sl) (p : Nat) (d : D) (t : Nat) : sg (s.put p (some d)) t = if t = p then d else sg s t := by
  simp only [sg, Tr.get_put]
  split <;> rfl

theorem putAll_rep {g : Gm} : ∀ (ps : List Nat) (ds : List D) (vs : List Value) (s : Sl) (tm : Array Value), vs.length = ds.length → (∀ (j : Nat) d v, ds[j]? = some d → vs[j]? = some v → Rep g d v) →
    (ps.all fun p => Nat.blt p tm.size) = true → (∀ t, Rep g (sg s t) (tm.getD t undef)) → ∀ t, Rep g (sg (putAll ps ds s) t) (((ps.zip vs).foldl (fun tm (x : Nat × Value) => tm.setIfInBounds x.1 x.2) tm).getD t undef)
  | [], ds, vs, s, tm, _, _, _, h => by simpa [putAll] using h
  | p :: ps, [], [], s, tm, _, _, _, h => by simpa [putAll] using h
  | p :: ps, d :: ds, v :: vs, s, tm, hl, hr, hp, h => by
    simp only [List.all_cons, Bool.and_eq_true] at hp
    have hlt := Nat.le_of_ble_eq_true hp.1
    simp only [putAll, List.zip_cons_cons, List.foldl_cons]
    refine putAll_rep ps ds vs _ _ (by simpa using hl) (fun j d' v' h1 h2 => hr (j + 1) d' v' (by simpa using h1) (by simpa using h2)) (by simpa using hp.2) (fun t => ?_)
    rw [sg_put]
    by_cases ht : t = p
    · subst ht
      rw [if_pos rfl]
      have : (tm.setIfInBounds t v).getD t undef = v := by
        rw [Array.getD_eq_getD_getElem?, Array.getElem?_setIfInBounds_self_of_lt (by omega)]; rfl
      rw [this]
      exact hr 0 d v rfl rfl
    · rw [if_neg ht]
      have : (tm.setIfInBounds p v).getD t undef = tm.getD t undef := by
        rw [Array.getD_eq_getD_getElem?, Array.getElem?_setIfInBounds_ne (Ne.symm ht), Array.getD_eq_getD_getElem?]
      rw [this]
      exact h t
  | _ :: _, [], _ :: _, _, _, h, _, _, _ => by simp at h
  | _ :: _, _ :: _, [], _, _, h, _, _, _ => by simp at h

theorem fold_size : ∀ (l : List (Nat × Value)) (tm : Array Value), (l.foldl (fun tm (x : Nat × Value) => tm.setIfInBounds x.1 x.2) tm).size = tm.size
  | [], _ => rfl
  | x :: l, tm => by rw [List.foldl_cons, fold_size l]; simp

theorem roundE_some {n i : Nat} {e : Ex} {st : St} {o : Option Ob} {d : D} {m' : Mt} {n' : Nat} {W : List Nat} (h : roundE n i e st o = some (d, m', n', W)) :
    ∃ pd s ps da db k, o = some (.lp 1 pd s ps da db) ∧ k = e.lst ∧ d = .bool (e.pd.code.isNone) ∧ m' = st.m.put i (some (.lp k e.pd s ps da db)) ∧ n' = st.n ∧ W = nub ((i :: st.w).filter fun j => Nat.blt j n) := by
  unfold roundE at h
  split at h
  · split at h
    · simp only [Option.some.injEq, Prod.mk.injEq] at h
      obtain ⟨rfl, rfl, rfl, rfl⟩ := h
      exact ⟨_, _, _, _, _, 0, rfl, rfl, rfl, rfl, rfl, rfl⟩
    · rename_i hne
      simp only [Option.some.injEq, Prod.mk.injEq] at h
      obtain ⟨rfl, rfl, rfl, rfl⟩ := h
      cases e with
      | normal => exact absurd rfl hne
      | ret => exact ⟨_, _, _, _, _, 2, rfl, rfl, rfl, rfl, rfl, rfl⟩
      | exit j => exact ⟨_, _, _, _, _, 2, rfl, rfl, rfl, rfl, rfl, rfl⟩
  · cases h

theorem roundB_some {call : CallF} {fuel n i : Nat} {db : DC} {st : St} {o : Option Ob} {r : D × Mt × Nat × List Nat} (h : roundB call fuel n i db st o = some r) :
    ∃ pd s ps da db' e st2, o = some (.lp 0 pd s ps da db') ∧ run call fuel true db ⟨st.s, st.m.put i (some (.lp 1 pd s ps da db')), st.n, st.w, st.df⟩ = some (e, st2) ∧ roundE n i e st2 (st2.m.get i) = some r := by
  unfold roundB at h
  split at h
  · split at h
    · rename_i e st2 he
      exact ⟨_, _, _, _, _, e, st2, rfl, he, h⟩
    · cases h
  · cases h

theorem roundF_some {call : CallF} {fuel i : Nat} {ds : List D} {m : Mt} {n : Nat} {r : D × Mt × Nat × List Nat} (h : roundF call fuel i ds m n = some r) :
    i < n ∧ ∃ pd s ps da db st, m.get i = some (.lp 0 pd s ps da db) ∧ ps.length = ds.length ∧ run call fuel true da ⟨putAll ps ds s, m, n, [], []⟩ = some (.normal, st) ∧ roundB call fuel n i db st (st.m.get i) = some r := by
  unfold roundF at h
  cases hin : Nat.blt i n with
  | false => rw [hin] at h; cases h
  | true =>
    rw [hin] at h
    simp only [cond_true] at h
    refine ⟨Nat.le_of_ble_eq_true hin, ?_⟩
    split at h
    · rename_i pd s ps da db hm
      cases hl : Nat.beq ps.length ds.length with
      | false => rw [hl] at h; cases h
      | true =>
        rw [hl] at h
        simp only [cond_true] at h
        split at h
        · rename_i st he
          exact ⟨pd, s, ps, da, db, st, hm, Nat.eq_of_beq_eq_true hl, he, h⟩
        · cases h
    · cases h

theorem sub_put {m : Mt} {M : Mem} {i : Nat} {x : Option Ob} (h : Sub m.get M) : Sub (m.put i x).get (M.put i x) := by
  intro j ob hj
  rw [Tr.get_put] at hj
  by_cases e : j = i
  · subst e; rw [Mem.put_same]; rw [if_pos rfl] at hj; exact hj
  · rw [Mem.put_other e]; rw [if_neg e] at hj; exact h j ob hj

theorem roundF_ok {P : Program} {call : CallF} (hc : CallOk P call) {fuel i : Nat} {ds : List D} {m : Mt} {n : Nat} {d : D} {m' : Mt} {n' : Nat} {W : List Nat} (h : roundF call fuel i ds m n = some (d, m', n', W)) :
    Plain m n m' n' W ∧
    ∀ (B : Nat) (w0 w : World) (M : Mem) (g : Gm) (vs : List Value) (t : Tg), (Cal.yld i).tg g t → Sub m.get M → Inv P B w0 M w g → (∀ i, n ≤ i → i < n' → M i = none ∧ g i = none) →
      vs.length = ds.length → (∀ (j : Nat) d v, ds[j]? = some d → vs[j]? = some v → Rep g d v) →
      Runs P t vs w fun v w' => ∃ M' g', After P B w0 M g n m'.get n' W M' w' g' ∧ Rep g' d v := by
  obtain ⟨hin, pd0, s0, ps, da, db, st1, hm0, hpl, he1, hB⟩ := roundF_some h
  obtain ⟨pd1, s1, ps1, da1, db1, e2, st2, hm1, he2, hE⟩ := roundB_some hB
  obtain ⟨pd2, s2, ps2, da2, db2, k2, hm2, hk2, rfl, rfl, rfl, rfl⟩ := roundE_some hE
  have f1 := run_facts hc fuel true da _ _ _ he1
  have f2 := run_facts hc fuel true db _ _ _ he2
  have l1 : n ≤ st1.n := f1.le
  have l2 : st1.n ≤ st2.n := f2.le
  have hw1 := f1.lt (by simp)
  have hw2 := f2.lt hw1
  have hmem : ∀ j, j ∈ nub ((i :: st2.w).filter fun j => Nat.blt j n) ↔ ((j = i ∨ j ∈ st2.w) ∧ j < n) := by
    intro j
    rw [mem_nub, List.mem_filter, List.mem_cons]
    exact ⟨fun h => ⟨h.1, Nat.le_of_ble_eq_true h.2⟩, fun h => ⟨h.1, Nat.ble_eq_true_of_le h.2⟩⟩
  have hnot : ∀ j, j ∉ nub ((i :: st2.w).filter fun j => Nat.blt j n) → ¬ (n ≤ j ∧ j < st2.n) → j ≠ i ∧ j ∉ st2.w := by
    intro j h1 h2
    refine ⟨fun e => h1 ((hmem j).2 ⟨.inl e, by omega⟩), fun h3 => h1 ((hmem j).2 ⟨.inr h3, ?_⟩)⟩
    have := hw2 j h3
    omega
  refine ⟨⟨by omega, fun j hj => ((hmem j).1 hj).2, fun j h1 h2 => ?_⟩, ?_⟩
  · obtain ⟨q1, q2⟩ := hnot j h1 h2
    rw [Tr.get_put, if_neg q1, f2.same j q2 (by simp only; omega)]
    simp only
    rw [Tr.get_put, if_neg q1, f1.same j (fun hj => q2 (f2.sub j hj)) (by simp only; omega)]
  · intro B w0 w M g vs t ht hsub hi hfresh hl hrep
    obtain ⟨b, C, hg, rfl⟩ := ht
    obtain ⟨b', C', e1, e2', r, e3, e4, e5, e6, e7, e8, e9, e10⟩ := hi.obj _ _ (hsub _ _ hm0)
    rw [hg] at e1
    simp only [Option.some.injEq, Prod.mk.injEq] at e1
    obtain ⟨rfl, rfl⟩ := e1
    have hargs : vs.toArray.size = r.params.size := by
      have : r.params.size = ps.length := by rw [← e6]; simp
      simp; omega
    obtain ⟨tm, htm⟩ : ∃ tm, (r.params.zip vs.toArray).foldl (fun tmps (t, a) => tmps.setIfInBounds t a) r.tmps = tm := ⟨_, rfl⟩
    have htm2 : tm = (ps.zip vs).foldl (fun tm (x : Nat × Value) => tm.setIfInBounds x.1 x.2) r.tmps := by
      rw [← htm, ← e6, ← Array.foldl_toList, Array.toList_zip]
    have hsz : tm.size = r.tmps.size := by rw [htm2, fold_size]
    refine ⟨r.fn, tm, r.assign, r.body, by rw [← htm]; exact run_yield e3 hargs, ?_⟩
    refine roundIn_of_wpIn (F := Fence.wide) trivial ?_
    have hs1 : InS P B w0 r.tmps.size st2.n (putAll ps ds s0) m n [] M { tmps := tm, defers := [] } w g := by
      refine ⟨hi, hsub, fun t => ?_, hsz, rfl, hfresh⟩
      show Rep g _ (tm.getD t undef)
      rw [htm2]
      exact putAll_rep ps ds vs s0 r.tmps hl hrep e7 e10 t
    have hwp1 := run_wp (ρ := some b) hc fuel true (fun h => by cases h) r.assign da e8 _ _ st1 he1 l2 M _ w g [] hs1 rfl
    refine wpIn_mono (F := Fence.wide.inRound b) hwp1 ?_
    rintro e' a1 w1 ⟨rfl, M1, g1, dfs1, hx1, hd1, went1⟩
    have hg1 := went1.le _ _ hg
    have hM1 := hx1.sub _ _ hm1
    obtain ⟨b2, C2, q1, q2, r1, q3, q4, q5, q6, q7, q8, q9, q10⟩ := hx1.inv.obj _ _ hM1
    rw [hg1] at q1
    simp only [Option.some.injEq, Prod.mk.injEq] at q1
    obtain ⟨rfl, rfl⟩ := q1
    refine ⟨_, run_beginRound q3 q4, ?_⟩
    have hinv1 := hx1.inv.putO (i := i) (by rw [hM1]; simp) hg1 (ob := .lp 1 pd1 s1 ps1 da1 db1) (o := .loop { r1 with state := .busy }) ⟨_, rfl, rfl, q5, q6, q7, q8, q9, q10⟩
    have hs2 : InS P B w0 r.tmps.size st2.n st1.s (st1.m.put i (some (.lp 1 pd1 s1 ps1 da1 db1))) st1.n dfs1 (M1.put i (some (.lp 1 pd1 s1 ps1 da1 db1))) a1 (w1.putObj b (.loop { r1 with state := .busy })) g1 :=
      ⟨hinv1, sub_put hx1.sub, hx1.slots, hx1.size, hx1.defers, fun j j1 j2 => by rw [Mem.put_other (by omega)]; exact hx1.fresh j j1 j2⟩
    have hwp2 := run_wp (ρ := some b) hc fuel true (fun h => by cases h) r.body db e9 _ e2 st2 he2 (Nat.le_refl _) _ _ _ g1 dfs1 hs2 hd1
    refine wpIn_mono (F := Fence.wide.inRound b) hwp2 ?_
    rintro e' a2 w2 ⟨rfl, M2, g2, dfs2, hx2, hd2, went2⟩
    have hg2 := went2.le _ _ hg1
    have hM2 := hx2.sub _ _ hm2
    obtain ⟨b3, C3, p1, p2, r2, p3, p4, p5, p6, p7, p8, p9, p10⟩ := hx2.inv.obj _ _ hM2
    rw [hg2] at p1
    simp only [Option.some.injEq, Prod.mk.injEq] at p1
    obtain ⟨rfl, rfl⟩ := p1
    have fin : ∃ v w', (Instr.endRound b e2.pd.code).run P w2 = .ok v w' ∧ ∃ v', Ending.returned v = .returned v' ∧ ∃ M' g', After P B w0 M g n (st2.m.put i (some (.lp k2 e2.pd s2 ps2 da2 db2))).get st2.n (nub ((i :: st2.w).filter fun j => Nat.blt j n)) M' w' g' ∧ Rep g' (.bool (e2.pd.code.isNone)) v' := by
      refine ⟨_, _, run_endRound e2.pd.code p3, _, rfl, M2.put i (some (.lp k2 e2.pd s2 ps2 da2 db2)), g2, ⟨?_, sub_put hx2.sub, went1.le.trans went2.le, fun j hj => ?_, fun j h1 h2 => ?_⟩, .bool _⟩
      · refine hx2.inv.putO (i := i) (by rw [hM2]; simp) hg2 ⟨_, rfl, ?_, rfl, p6, p7, p8, p9, p10⟩
        rw [hk2]
        cases e2 <;> simp [Ex.pd, Pd.code, LoopIs, Ex.lst]
      · rw [went2.out j (by simp only; omega), went1.out j (by simp only; omega)]
      · obtain ⟨n1, n2⟩ := hnot j h1 h2
        rw [Mem.put_other n1, went2.keep j n2 (by simp only; omega), Mem.put_other n1, went1.keep j (fun hj => n2 (f2.sub j hj)) (by simp only; omega)]
    cases e2 with
    | normal => exact fin
    | ret => exact fin
    | exit j => exact fin

/-- A function that is known without its text. -/
def SpecOk (P : Program) (spec : FuncId → Option (List D → Mt → Nat → Option (D × Mt × Nat × List Nat))) : Prop :=
  ∀ f q, spec f = some q → ∀ ds m n d m' n' W, q ds m n = some (d, m', n', W) →
    n ≤ n' ∧ (∀ i ∈ W, i < n) ∧ (∀ i, i ∉ W → ¬ (n ≤ i ∧ i < n') → m'.get i = m.get i) ∧
    ∀ (B : Nat) (w0 w : World) (M : Mem) (g : Gm) (vs : List Value), Sub m.get M → Inv P B w0 M w g → (∀ i, n ≤ i → i < n' → M i = none ∧ g i = none) →
      vs.length = ds.length → (∀ (j : Nat) d v, ds[j]? = some d → vs[j]? = some v → Rep g d v) →
      RunsF P f vs w fun v w' => ∃ M' g', After P B w0 M g n m'.get n' W M' w' g' ∧ Rep g' d v

theorem callF_ok {P : Program} {tab : FuncId → Option FnR} {spec : FuncId → Option (List D → Mt → Nat → Option (D × Mt × Nat × List Nat))} (ht : ∀ f fr, tab f = some fr → FnOk P f fr) (hs : SpecOk P spec) : ∀ k, CallOk P (callF tab spec k)
  | 0 => by intro c ds m n d m' n' W h; cases h
  | k + 1 => by
    intro c ds m n d m' n' W h
    simp only [callF] at h
    split at h
    · rename_i f
      split at h
      · rename_i q hq
        obtain ⟨p1, p2, p3, p4⟩ := hs f q hq ds m n d m' n' W h
        refine ⟨p1, p2, p3, fun B w0 w M g vs t htg a1 a2 a3 a4 a5 => ?_⟩
        obtain rfl : t = .fn f := htg
        exact p4 B w0 w M g vs a1 a2 a3 a4 a5
      · split at h
        · rename_i fr hfr
          obtain ⟨⟨p1, p2, p3⟩, p4⟩ := runFn_ok (callF_ok ht hs k) (ht f fr hfr) h
          refine ⟨p1, p2, p3, fun B w0 w M g vs t htg a1 a2 a3 a4 a5 => ?_⟩
          obtain rfl : t = .fn f := htg
          exact .inl (p4 B w0 w M g vs a1 a2 a3 a4 a5)
        · cases h
    · rename_i f
      split at h
      · rename_i fr hfr
        obtain ⟨⟨p1, p2, p3⟩, p4⟩ := runFn_ok (callF_ok ht hs k) (ht f fr hfr) h
        refine ⟨p1, p2, p3, fun B w0 w M g vs t htg a1 a2 a3 a4 a5 => ?_⟩
        obtain rfl : t = .rng f := htg
        exact p4 B w0 w M g vs a1 a2 a3 a4 a5
      · cases h
    · rename_i i
      obtain ⟨⟨p1, p2, p3⟩, p4⟩ := roundF_ok (callF_ok ht hs k) h
      exact ⟨p1, p2, p3, p4⟩

/-- Does it hand back this bool? -/
def isBool (b : Bool) : Option (D × Mt × Nat × List Nat) → Bool
  | some (.bool b', _) => b' == b
  | _ => false

/-- A call whose arguments lean on no memory, and that hands back a bool. -/
theorem calls_bool {P : Program} {call : CallF} (hc : CallOk P call) {f : FuncId} {ds : List D} {b : Bool} (h : isBool b (call (.fn f) ds .nil 0) = true)
    (hent : ∃ fn, P.funcs[f]? = some fn ∧ fn.body.isSome = true) {vs : List Value} (hl : vs.length = ds.length) (hrep : ∀ (j : Nat) d v, ds[j]? = some d → vs[j]? = some v → Rep (fun _ => none) d v) (w : World) :
    Calls P f vs.toArray w fun e w' => e = .returned (.bool b) ∧ Below w.heap.size w w' := by
  unfold isBool at h
  split at h
  · rename_i b' x e
    obtain ⟨m', n', W⟩ := x
    have hb : b' = b := by simpa using h
    subst hb
    obtain ⟨_, _, _, hrun⟩ := hc _ _ _ _ _ _ _ _ e
    have hi : Inv P w.heap.size w (fun _ => none) w (fun _ => none) := ⟨Below.refl _ _, Nat.le_refl _, fun i ob h => by simp at h, fun i i' b C C' h => by simp at h⟩
    rcases hrun w.heap.size w w (fun _ => none) (fun _ => none) vs (.fn f) rfl (fun i ob h => by rw [Tr.get_nil] at h; cases h) hi (fun _ _ _ => ⟨rfl, rfl⟩) hl hrep with ⟨_, hcalls⟩ | ⟨v, w', hr, hp⟩
    · refine hcalls.mono ?_
      rintro e w' ⟨v, rfl, M', g', hA, hr⟩
      rw [hr.bool_inv]
      exact ⟨rfl, hA.inv.below⟩
    · exfalso
      obtain ⟨fn, h1, h2⟩ := hent
      have hbn : fn.body.isNone = false := by cases hb : fn.body <;> simp_all
      simp only [callFunc, Sem.run_bind, run_program, Result.andThen_ok, h1, hbn, Bool.false_eq_true, if_false] at hr
      split at hr <;> simp at hr
  · cases h
end Go.Ve
