/-
  A part of the proof: the program at hand. Nothing in it is assumed.
-/
import Derived.Test.YtcjfmpodkafceaaGreatDoorLinesP6
import Derived.Lib.Bytealg
import Derived.Lib.Builder
import Derived.Shelf.Strings.OnBuilder
import Derived.Test.YtcjfmpodkafceaaGreatDoorProg
import Derived.Shelf.Strings.Split

set_option linter.unusedSimpArgs false
set_option linter.unusedVariables false

namespace Go.Ve
open Go.RowKit Go.Shelf
set_option linter.unusedSimpArgs false
set_option linter.unusedVariables false
abbrev Sp := List D → Mt → Nat → Option (D × Mt × Nat × List Nat)
def SpOk (P : Program) (f : FuncId) (q : Sp) : Prop := ∀ ds m n d m' n' W, q ds m n = some (d, m', n', W) →
  n ≤ n' ∧ (∀ i ∈ W, i < n) ∧ (∀ i, i ∉ W → ¬ (n ≤ i ∧ i < n') → m'.get i = m.get i) ∧
  ∀ (B : Nat) (w0 w : World) (M : Mem) (g : Gm) (vs : List Value), Sub m.get M → Inv P B w0 M w g → (∀ i, n ≤ i → i < n' → M i = none ∧ g i = none) →
   vs.length = ds.length → (∀ (j : Nat) d v, ds[j]? = some d → vs[j]? = some v → Rep g d v) →
   Runs P f vs w fun v w' => ∃ M' g', After P B w0 M g n m'.get n' W M' w' g' ∧ Rep g' d v
theorem SpecOk.of {P : Program} {spec : FuncId → Option Sp} (h : ∀ f q, spec f = some q → SpOk P f q) : SpecOk P spec := fun f q hq => h f q hq
theorem Runs.mono {P : Program} {f : FuncId} {vs : List Value} {w : World} {p q : Value → World → Prop} (h : Runs P f vs w p) (k : ∀ v w', p v w' → q v w') : Runs P f vs w q := by
 rcases h with ⟨h1, h2⟩ | ⟨v, w', h1, h2⟩
 ·exact .inl ⟨h1, h2.mono fun e w' => by rintro ⟨v, rfl, hp⟩; exact ⟨v, rfl, k v w' hp⟩⟩
 ·exact .inr ⟨v, w', h1, k v w' h2⟩
def still (F : List D → Mem → Option D) : Sp := fun ds m n => (F ds m.get).map fun d => (d, m, n, [])
theorem SpOk.still {P : Program} {f : FuncId} {F : List D → Mem → Option D}
  (h : ∀ ds m d, F ds m = some d → ∀ (B : Nat) (w0 w : World) (M : Mem) (g : Gm) (vs : List Value), Sub m M → Inv P B w0 M w g →
   vs.length = ds.length → (∀ (j : Nat) d v, ds[j]? = some d → vs[j]? = some v → Rep g d v) → Runs P f vs w fun v w' => Rep g d v ∧ Below w.heap.size w w') : SpOk P f (still F) := by
 intro ds m n d m' n' W hq
 simp only [Ve.still, Option.map_eq_some_iff, Prod.mk.injEq] at hq
 obtain ⟨d', hF, rfl, rfl, rfl, rfl⟩ := hq
 refine ⟨Nat.le_refl _, by simp, fun i _ _ => rfl, fun B w0 w M g vs hsub hi _ hl hrep => ?_⟩
 refine (h ds m.get _ hF B w0 w M g vs hsub hi hl hrep).mono fun v w' ⟨h1, h2⟩ => ⟨M, g, ⟨hi.over h2, hsub, Gm.le.refl g, fun i _ => rfl, fun i _ _ => rfl⟩, h1⟩
theorem runs_extern {P : Program} {f : FuncId} {fn : Func} {e : Array Value → Sem Value} (hf : P.funcs[f]? = some fn) (hname : (fn.name == "runtime.NumGoroutine") = false)
  (hb : fn.body.isNone = true) (hn : Extern.findNext fn = none) (he : Extern.find fn = some e) {vs : List Value} {w w' : World} {v : Value} {post : Value → World → Prop} (hr : (e vs.toArray).run P w = .ok v w') (hp : post v w') : Runs P f vs w post :=
 .inr ⟨v, w', by rw [run_callFunc_extern hf hname hb hn he, hr]; rfl, hp⟩
theorem two_reps {g : Gm} {a b : D} {vs : List Value} (hl : vs.length = [a, b].length) (h : ∀ (j : Nat) d v, [a, b][j]? = some d → vs[j]? = some v → Rep g d v) : ∃ u v, vs = [u, v] ∧ Rep g a u ∧ Rep g b v := by
 match vs, hl with
 | [u, v], _ => exact ⟨u, v, rfl, h 0 _ _ rfl rfl, h 1 _ _ rfl rfl⟩
def fCount : List D → Mem → Option D
 | [.str s, .int .u8 c], _ => some (.int .i64 (Lib.countByte s c.toNat.toUInt8 : Nat))
 | _, _ => none
def fIndexByte : List D → Mem → Option D
 | [.str s, .int .u8 c], _ => some (.int .i64 (Lib.indexByte s c.toNat.toUInt8))
 | _, _ => none
theorem count_ok {P : Program} {f : FuncId} {fn : Func} (hf : P.funcs[f]? = some fn) (hname : (fn.name == "runtime.NumGoroutine") = false)
  (hb : fn.body.isNone = true) (hn : Extern.findNext fn = none) (he : Extern.find fn = some Extern.BytealgCount.count) : SpOk P f (still fCount) := by
 refine .still fun ds m d hF B w0 w M g vs hsub hi hl hrep => ?_
 unfold fCount at hF
 split at hF
 ·simp only [Option.some.injEq] at hF; subst hF
  obtain ⟨u, v, rfl, h1, h2⟩ := two_reps hl hrep
  rw [h1.str_inv, h2.int_inv]
  exact runs_extern hf hname hb hn he (Lib.run_countString _ _ w) ⟨.int _ _, Below.refl _ _⟩
 ·cases hF
theorem indexByte_ok {P : Program} {f : FuncId} {fn : Func} (hf : P.funcs[f]? = some fn) (hname : (fn.name == "runtime.NumGoroutine") = false)
  (hb : fn.body.isNone = true) (hn : Extern.findNext fn = none) (he : Extern.find fn = some Extern.BytealgIndexByte.indexByte) : SpOk P f (still fIndexByte) := by
 refine .still fun ds m d hF B w0 w M g vs hsub hi hl hrep => ?_
 unfold fIndexByte at hF
 split at hF
 ·simp only [Option.some.injEq] at hF; subst hF
  obtain ⟨u, v, rfl, h1, h2⟩ := two_reps hl hrep
  rw [h1.str_inv, h2.int_inv]
  exact runs_extern hf hname hb hn he (Lib.run_indexByteString _ _ w) ⟨.int _ _, Below.refl _ _⟩
 ·cases hF
def fSame : List D → Mem → Option D
 | [d], _ => some d
 | _, _ => none
theorem same_ok {P : Program} {f : FuncId} {fn : Func} (hf : P.funcs[f]? = some fn) (hname : (fn.name == "runtime.NumGoroutine") = false)
  (hb : fn.body.isNone = true) (hn : Extern.findNext fn = none) (he : Extern.find fn = some Extern.AbiNoEscape.same) : SpOk P f (still fSame) := by
 refine .still fun ds m d hF B w0 w M g vs hsub hi hl hrep => ?_
 unfold fSame at hF
 split at hF
 ·simp only [Option.some.injEq] at hF; subst hF
  match vs, hl with
  | [u], _ =>
   exact runs_extern hf hname hb hn he (Lib.run_noEscape w u) ⟨hrep 0 _ _ rfl rfl, Below.refl _ _⟩
 ·cases hF
def strsD : List D → Option (List (List UInt8))
 | [] => some []
 | .str s :: r => (strsD r).map (s :: ·)
 | _ => none
theorem strsD_some : ∀ {ds : List D} {xs : List (List UInt8)}, strsD ds = some xs → ds = xs.map D.str
 | [], xs, h => by simp only [strsD, Option.some.injEq] at h; subst h; rfl
 | d :: r, xs, h => by
  unfold strsD at h
  split at h
  ·rename_i heq; cases heq
  ·rename_i s r' heq
   cases heq
   simp only [Option.map_eq_some_iff] at h
   obtain ⟨ys, hy, rfl⟩ := h
   rw [strsD_some hy]; rfl
  ·cases h
def fJoin : List D → Mem → Option D
 | [sl, .str sep], m => match slCells m 1 sl with
  | some (k, cs) => match strsD cs with
   | some xs => bif Nat.ble xs.length 140737488355328 && Nat.ble (Lib.join xs sep).length 140737488355328 then some (.str (Lib.join xs sep)) else none
   | none => none
  | none => none
 | _, _ => none
theorem join_ok {P : Program} {ρ : Go.Shelf.Ren} (L : Go.Proofs.Lays.n156 P ρ) (X : Go.Proofs.Builder.Extra P ρ) (hb : ∃ fn, P.funcs[ρ.f 156]? = some fn ∧ fn.body.isSome = true ∧ (fn.name == "runtime.NumGoroutine") = false) : SpOk P (ρ.f 156) (still fJoin) := by
 refine .still fun ds m d hF B w0 w M g vs hsub hi hl hrep => ?_
 unfold fJoin at hF
 split at hF
 ·rename_i sl sep
  split at hF
  ·rename_i k cs hcs
   split at hF
   ·rename_i xs hxs
    cases hc : (Nat.ble xs.length 140737488355328 && Nat.ble (Lib.join xs sep).length 140737488355328) with
    | false => rw [hc] at hF; cases hF
    | true =>
     rw [hc] at hF
     simp only [cond_true, Option.some.injEq] at hF; subst hF
     rw [Bool.and_eq_true] at hc
     have l1 := Nat.le_of_ble_eq_true hc.1
     have l2 := Nat.le_of_ble_eq_true hc.2
     obtain ⟨u, v, rfl, h1, h2⟩ := two_reps hl hrep
     rw [h2.str_inv]
     have hcells := strsD_some hxs
     have empty : ∀ a c, u = .slice a 0 c → cs = [] → Runs P (ρ.f 156) [u, .string ⟨sep.toArray⟩] w fun v w' => Rep g (.str (Lib.join xs sep)) v ∧ Below w.heap.size w w' := by
      rintro a c rfl rfl
      have hx0 : xs = [] := by cases xs with | nil => rfl | cons x r => simp at hcells
      subst hx0
      refine .inl ⟨hb, (Go.Proofs.Any.strings_Join_none L X a c ⟨sep.toArray⟩ w).mono ?_⟩
      rintro e w' ⟨rfl, rfl⟩
      exact ⟨_, rfl, .str _, Below.refl _ _⟩
     unfold slCells at hcs
     split at hcs
     ·rename_i i o n
      obtain ⟨b, cc, C, rfl, hbk, hle, _⟩ := h1.rsl_inv
      split at hcs
      ·rename_i cs0 e hm
       split at hcs
       ·rename_i hk
        simp only [Option.some.injEq, Prod.mk.injEq] at hcs
        obtain ⟨rfl, rfl⟩ := hcs
        obtain ⟨hB, vs0, T, fz, hh, _, hlv, hrp, _⟩ := hi.cells (hsub _ _ hm) hbk
        obtain ⟨r1, r2, r3⟩ := cells_at hh hlv hrp hk
        have hxl : xs.length = n := by
         have := congrArg List.length hcells
         simp at this; omega
        have hlt : b < w.heap.size := (Array.getElem?_eq_some_iff.1 hh).1
        have hc2 : ∀ (j : Nat) x, (xs.map fun x => (⟨x.toArray⟩ : ByteArray))[j]? = some x → w.cell? ⟨b, o + j, none⟩ = some (.string x) := by
         intro j x hx
         rw [List.getElem?_map, Option.map_eq_some_iff] at hx
         obtain ⟨y, hy, rfl⟩ := hx
         have hjn : j < n := by rw [← hxl]; exact (List.getElem?_eq_some_iff.1 hy).1
         have hv := List.getElem?_eq_getElem (l := (vs0.toList.drop o).take (n * 1)) (i := j) (by omega)
         have hd : ((cs0.drop o).take (n * 1))[j]? = some (.str y) := by rw [hcells, List.getElem?_map, hy]; rfl
         have := (r1.2.2 j _ _ hd hv).str_inv
         rw [this] at hv
         exact r3 j _ hv
        have hmap : (xs.map fun x => (⟨x.toArray⟩ : ByteArray)).map (·.data.toList) = xs := by simp [List.map_map, Function.comp_def]
        have := Go.Proofs.Any.strings_Join L X b o cc (xs.map fun x => (⟨x.toArray⟩ : ByteArray)) ⟨sep.toArray⟩ w hc2 hlt (by simpa using l1) (by simp; omega) (by rw [hmap]; simpa using l2)
        rw [hmap] at this
        rw [List.length_map, hxl] at this
        refine .inl ⟨hb, this.mono ?_⟩
        rintro e w' ⟨rfl, hw⟩
        exact ⟨_, rfl, .str _, hw⟩
       ·cases hcs
      ·cases hcs
     ·simp only [Option.some.injEq, Prod.mk.injEq] at hcs
      obtain ⟨ad, c, e⟩ := h1.esl_inv
      exact empty _ _ e hcs.2.symm
     ·simp only [Option.some.injEq, Prod.mk.injEq] at hcs
      obtain ⟨ad, e⟩ := h1.esl0_inv
      exact empty _ _ e hcs.2.symm
     ·simp only [Option.some.injEq, Prod.mk.injEq] at hcs
      exact empty _ _ h1.nils_inv hcs.2.symm
     ·cases hcs
   ·cases hF
  ·cases hF
 ·cases hF
theorem tab_node {P : Program} {f fr k} {a b : Option FnR} (h1 : a = some fr → FnOk P f fr) (h2 : b = some fr → FnOk P f fr) : (bif Nat.blt f k then a else b) = some fr → FnOk P f fr := by
 cases Nat.blt f k with
 | true => exact h1
 | false => exact h2
theorem tab_leaf {P : Program} {f fr k r} (h : FnOk P k r) : (bif Nat.beq f k then some r else none) = some fr → FnOk P f fr := by
 intro e
 cases hk : Nat.beq f k with
 | true =>
  rw [hk] at e
  simp only [cond_true, Option.some.injEq] at e; subst e
  rw [Nat.eq_of_beq_eq_true hk]; exact h
 | false => rw [hk] at e; cases e
theorem spec_cons {P : Program} {f : FuncId} {q : Sp} {k : FuncId} {r : Sp} {b : Option Sp} (h : SpOk P k r) (h2 : b = some q → SpOk P f q) : (bif Nat.beq f k then some r else b) = some q → SpOk P f q := by
 intro e
 cases hk : Nat.beq f k with
 | true =>
  rw [hk] at e
  simp only [cond_true, Option.some.injEq] at e; subst e
  rw [Nat.eq_of_beq_eq_true hk]; exact h
 | false => rw [hk] at e; exact h2 e
end Go.Ve

namespace Go.Proofs
open Go.Shelf
def Tryz.lays156_ren : Go.Shelf.Ren := ⟨fun | 156 => 64 | 165 => 91 | 166 => 92 | 169 => 93 | 240 => 112 | 241 => 113 | 276 => 128 | 277 => 129 | n => n, fun | 31 => 23 | 9 => 9 | 3 => 3 | 4 => 4 | 0 => 0 | 20 => 20 | 72 => 150 | 76 => 154 | 70 => 148 | 37 => 77 | 75 => 153 | 127 => 170 | 164 => 184 | 5 => 5 | 80 => 117 | n => n, fun | n => n⟩
theorem Tryz.lays156 : Go.Proofs.Lays.n156 Tryz.prog Tryz.lays156_ren := {
 mixed := by kernel_rfl
 f156 := Tryz.func64.trans (congrArg some (by kernel_rfl))
 f165 := Tryz.func91.trans (congrArg some (by kernel_rfl))
 f166 := Tryz.func92.trans (congrArg some (by kernel_rfl))
 f169 := Tryz.func93.trans (congrArg some (by kernel_rfl))
 f240 := Tryz.func112.trans (congrArg some (by kernel_rfl))
 f241 := Tryz.func113.trans (congrArg some (by kernel_rfl))
 f276 := Tryz.func128.trans (congrArg some (by kernel_rfl))
 f277 := Tryz.func129.trans (congrArg some (by kernel_rfl))
 t0 := Tryz.underlying0
 a0 := Tryz.isAgg0
 z0 := Tryz.sizeOf0
 v0 := Tryz.zeroValue0
 t3 := Tryz.underlying3
 a3 := Tryz.isAgg3
 z3 := Tryz.sizeOf3
 v3 := Tryz.zeroValue3
 t4 := Tryz.underlying4
 a4 := Tryz.isAgg4
 z4 := Tryz.sizeOf4
 v4 := Tryz.zeroValue4
 t9 := Tryz.underlying9
 a9 := Tryz.isAgg9
 z9 := Tryz.sizeOf9
 v9 := Tryz.zeroValue9
 t20 := Tryz.underlying20
 a20 := Tryz.isAgg20
 z20 := Tryz.sizeOf20
 v20 := Tryz.zeroValue20
 t31 := Tryz.underlying23
 a31 := Tryz.isAgg23
 z31 := Tryz.sizeOf23
 v31 := Tryz.zeroValue23
 t37 := Tryz.underlying77
 a37 := Tryz.isAgg77
 z37 := Tryz.sizeOf77
 v37 := Tryz.zeroValue77
 t70 := Tryz.underlying148
 a70 := Tryz.isAgg148
 z70 := Tryz.sizeOf148
 v70 := Tryz.zeroValue148
 t72 := Tryz.underlying150
 a72 := Tryz.isAgg150
 z72 := Tryz.sizeOf150
 v72 := Tryz.zeroValue150
 t75 := Tryz.underlying153
 a75 := Tryz.isAgg153
 z75 := Tryz.sizeOf153
 v75 := Tryz.zeroValue153
 t76 := Tryz.underlying154
 a76 := Tryz.isAgg154
 z76 := Tryz.sizeOf154
 v76 := Tryz.zeroValue154
 t127 := Tryz.underlying170
 a127 := Tryz.isAgg170
 z127 := Tryz.sizeOf170
 v127 := Tryz.zeroValue170
 t164 := Tryz.underlying184
 a164 := Tryz.isAgg184
 z164 := Tryz.sizeOf184
 v164 := Tryz.zeroValue184 }
theorem Tryz.Builder_Extra_156 : Builder.Extra Tryz.prog Tryz.lays156_ren := {
 sizeBuilder := by kernel_rfl
 liesBuilder := by kernel_rfl
 t5 := Tryz.underlying5
 a5 := Tryz.isAgg5
 z5 := Tryz.sizeOf5
 v5 := Tryz.zeroValue5
 infoByte := by kernel_rfl
 cellsByte := by kernel_rfl
 sizeByte := by kernel_rfl
 neB5 := by decide }
end Go.Proofs

namespace Go.Ve
open Go.Proofs
set_option maxRecDepth 100000
def tab (f : FuncId) : Option FnR := bif Nat.blt f 84 then (bif Nat.blt f 53 then (bif Nat.blt f 30 then (bif Nat.blt f 21 then (bif Nat.blt f 13 then (bif Nat.blt f 10 then (bif Nat.beq f 9 then some fr9 else none) else (bif Nat.beq f 10 then some fr10 else none)) else (bif Nat.blt f 15 then (bif Nat.beq f 13 then some fr13 else none) else (bif Nat.blt f 20 then (bif Nat.beq f 15 then some fr15 else none) else (bif Nat.beq f 20 then some fr20 else none)))) else (bif Nat.blt f 25 then (bif Nat.blt f 23 then (bif Nat.beq f 21 then some fr21 else none) else (bif Nat.beq f 23 then some fr23 else none)) else (bif Nat.blt f 27 then (bif Nat.beq f 25 then some fr25 else none) else (bif Nat.blt f 29 then (bif Nat.beq f 27 then some fr27 else none) else (bif Nat.beq f 29 then some fr29 else none))))) else (bif Nat.blt f 43 then (bif Nat.blt f 35 then (bif Nat.blt f 31 then (bif Nat.beq f 30 then some fr30 else none) else (bif Nat.beq f 31 then some fr31 else none)) else (bif Nat.blt f 39 then (bif Nat.beq f 35 then some fr35 else none) else (bif Nat.blt f 40 then (bif Nat.beq f 39 then some fr39 else none) else (bif Nat.beq f 40 then some fr40 else none)))) else (bif Nat.blt f 46 then (bif Nat.blt f 44 then (bif Nat.beq f 43 then some fr43 else none) else (bif Nat.blt f 45 then (bif Nat.beq f 44 then some fr44 else none) else (bif Nat.beq f 45 then some fr45 else none))) else (bif Nat.blt f 47 then (bif Nat.beq f 46 then some fr46 else none) else (bif Nat.blt f 48 then (bif Nat.beq f 47 then some fr47 else none) else (bif Nat.beq f 48 then some fr48 else none)))))) else (bif Nat.blt f 69 then (bif Nat.blt f 58 then (bif Nat.blt f 55 then (bif Nat.blt f 54 then (bif Nat.beq f 53 then some fr53 else none) else (bif Nat.beq f 54 then some fr54 else none)) else (bif Nat.blt f 56 then (bif Nat.beq f 55 then some fr55 else none) else (bif Nat.blt f 57 then (bif Nat.beq f 56 then some fr56 else none) else (bif Nat.beq f 57 then some fr57 else none)))) else (bif Nat.blt f 65 then (bif Nat.blt f 59 then (bif Nat.beq f 58 then some fr58 else none) else (bif Nat.blt f 63 then (bif Nat.beq f 59 then some fr59 else none) else (bif Nat.beq f 63 then some fr63 else none))) else (bif Nat.blt f 67 then (bif Nat.beq f 65 then some fr65 else none) else (bif Nat.blt f 68 then (bif Nat.beq f 67 then some fr67 else none) else (bif Nat.beq f 68 then some fr68 else none))))) else (bif Nat.blt f 75 then (bif Nat.blt f 71 then (bif Nat.blt f 70 then (bif Nat.beq f 69 then some fr69 else none) else (bif Nat.beq f 70 then some fr70 else none)) else (bif Nat.blt f 72 then (bif Nat.beq f 71 then some fr71 else none) else (bif Nat.blt f 73 then (bif Nat.beq f 72 then some fr72 else none) else (bif Nat.beq f 73 then some fr73 else none)))) else (bif Nat.blt f 78 then (bif Nat.blt f 76 then (bif Nat.beq f 75 then some fr75 else none) else (bif Nat.blt f 77 then (bif Nat.beq f 76 then some fr76 else none) else (bif Nat.beq f 77 then some fr77 else none))) else (bif Nat.blt f 79 then (bif Nat.beq f 78 then some fr78 else none) else (bif Nat.blt f 80 then (bif Nat.beq f 79 then some fr79 else none) else (bif Nat.beq f 80 then some fr80 else none))))))) else (bif Nat.blt f 115 then (bif Nat.blt f 99 then (bif Nat.blt f 94 then (bif Nat.blt f 86 then (bif Nat.blt f 85 then (bif Nat.beq f 84 then some fr84 else none) else (bif Nat.beq f 85 then some fr85 else none)) else (bif Nat.blt f 87 then (bif Nat.beq f 86 then some fr86 else none) else (bif Nat.blt f 90 then (bif Nat.beq f 87 then some fr87 else none) else (bif Nat.beq f 90 then some fr90 else none)))) else (bif Nat.blt f 96 then (bif Nat.blt f 95 then (bif Nat.beq f 94 then some fr94 else none) else (bif Nat.beq f 95 then some fr95 else none)) else (bif Nat.blt f 97 then (bif Nat.beq f 96 then some fr96 else none) else (bif Nat.blt f 98 then (bif Nat.beq f 97 then some fr97 else none) else (bif Nat.beq f 98 then some fr98 else none))))) else (bif Nat.blt f 104 then (bif Nat.blt f 101 then (bif Nat.blt f 100 then (bif Nat.beq f 99 then some fr99 else none) else (bif Nat.beq f 100 then some fr100 else none)) else (bif Nat.blt f 102 then (bif Nat.beq f 101 then some fr101 else none) else (bif Nat.blt f 103 then (bif Nat.beq f 102 then some fr102 else none) else (bif Nat.beq f 103 then some fr103 else none)))) else (bif Nat.blt f 107 then (bif Nat.blt f 105 then (bif Nat.beq f 104 then some fr104 else none) else (bif Nat.blt f 106 then (bif Nat.beq f 105 then some fr105 else none) else (bif Nat.beq f 106 then some fr106 else none))) else (bif Nat.blt f 111 then (bif Nat.beq f 107 then some fr107 else none) else (bif Nat.blt f 114 then (bif Nat.beq f 111 then some fr111 else none) else (bif Nat.beq f 114 then some fr114 else none)))))) else (bif Nat.blt f 126 then (bif Nat.blt f 120 then (bif Nat.blt f 117 then (bif Nat.blt f 116 then (bif Nat.beq f 115 then some fr115 else none) else (bif Nat.beq f 116 then some fr116 else none)) else (bif Nat.blt f 118 then (bif Nat.beq f 117 then some fr117 else none) else (bif Nat.blt f 119 then (bif Nat.beq f 118 then some fr118 else none) else (bif Nat.beq f 119 then some fr119 else none)))) else (bif Nat.blt f 123 then (bif Nat.blt f 121 then (bif Nat.beq f 120 then some fr120 else none) else (bif Nat.blt f 122 then (bif Nat.beq f 121 then some fr121 else none) else (bif Nat.beq f 122 then some fr122 else none))) else (bif Nat.blt f 124 then (bif Nat.beq f 123 then some fr123 else none) else (bif Nat.blt f 125 then (bif Nat.beq f 124 then some fr124 else none) else (bif Nat.beq f 125 then some fr125 else none))))) else (bif Nat.blt f 135 then (bif Nat.blt f 131 then (bif Nat.blt f 130 then (bif Nat.beq f 126 then some fr126 else none) else (bif Nat.beq f 130 then some fr130 else none)) else (bif Nat.blt f 133 then (bif Nat.beq f 131 then some fr131 else none) else (bif Nat.blt f 134 then (bif Nat.beq f 133 then some fr133 else none) else (bif Nat.beq f 134 then some fr134 else none)))) else (bif Nat.blt f 139 then (bif Nat.blt f 136 then (bif Nat.beq f 135 then some fr135 else none) else (bif Nat.blt f 137 then (bif Nat.beq f 136 then some fr136 else none) else (bif Nat.beq f 137 then some fr137 else none))) else (bif Nat.blt f 140 then (bif Nat.beq f 139 then some fr139 else none) else (bif Nat.blt f 142 then (bif Nat.beq f 140 then some fr140 else none) else (bif Nat.beq f 142 then some fr142 else none)))))))
theorem tab_ok : ∀ f fr, tab f = some fr → FnOk Tryz.prog f fr := fun f fr => (tab_node (tab_node (tab_node (tab_node (tab_node (tab_node (tab_leaf ok9) (tab_leaf ok10)) (tab_node (tab_leaf ok13) (tab_node (tab_leaf ok15) (tab_leaf ok20)))) (tab_node (tab_node (tab_leaf ok21) (tab_leaf ok23)) (tab_node (tab_leaf ok25) (tab_node (tab_leaf ok27) (tab_leaf ok29))))) (tab_node (tab_node (tab_node (tab_leaf ok30) (tab_leaf ok31)) (tab_node (tab_leaf ok35) (tab_node (tab_leaf ok39) (tab_leaf ok40)))) (tab_node (tab_node (tab_leaf ok43) (tab_node (tab_leaf ok44) (tab_leaf ok45))) (tab_node (tab_leaf ok46) (tab_node (tab_leaf ok47) (tab_leaf ok48)))))) (tab_node (tab_node (tab_node (tab_node (tab_leaf ok53) (tab_leaf ok54)) (tab_node (tab_leaf ok55) (tab_node (tab_leaf ok56) (tab_leaf ok57)))) (tab_node (tab_node (tab_leaf ok58) (tab_node (tab_leaf ok59) (tab_leaf ok63))) (tab_node (tab_leaf ok65) (tab_node (tab_leaf ok67) (tab_leaf ok68))))) (tab_node (tab_node (tab_node (tab_leaf ok69) (tab_leaf ok70)) (tab_node (tab_leaf ok71) (tab_node (tab_leaf ok72) (tab_leaf ok73)))) (tab_node (tab_node (tab_leaf ok75) (tab_node (tab_leaf ok76) (tab_leaf ok77))) (tab_node (tab_leaf ok78) (tab_node (tab_leaf ok79) (tab_leaf ok80))))))) (tab_node (tab_node (tab_node (tab_node (tab_node (tab_leaf ok84) (tab_leaf ok85)) (tab_node (tab_leaf ok86) (tab_node (tab_leaf ok87) (tab_leaf ok90)))) (tab_node (tab_node (tab_leaf ok94) (tab_leaf ok95)) (tab_node (tab_leaf ok96) (tab_node (tab_leaf ok97) (tab_leaf ok98))))) (tab_node (tab_node (tab_node (tab_leaf ok99) (tab_leaf ok100)) (tab_node (tab_leaf ok101) (tab_node (tab_leaf ok102) (tab_leaf ok103)))) (tab_node (tab_node (tab_leaf ok104) (tab_node (tab_leaf ok105) (tab_leaf ok106))) (tab_node (tab_leaf ok107) (tab_node (tab_leaf ok111) (tab_leaf ok114)))))) (tab_node (tab_node (tab_node (tab_node (tab_leaf ok115) (tab_leaf ok116)) (tab_node (tab_leaf ok117) (tab_node (tab_leaf ok118) (tab_leaf ok119)))) (tab_node (tab_node (tab_leaf ok120) (tab_node (tab_leaf ok121) (tab_leaf ok122))) (tab_node (tab_leaf ok123) (tab_node (tab_leaf ok124) (tab_leaf ok125))))) (tab_node (tab_node (tab_node (tab_leaf ok126) (tab_leaf ok130)) (tab_node (tab_leaf ok131) (tab_node (tab_leaf ok133) (tab_leaf ok134)))) (tab_node (tab_node (tab_leaf ok135) (tab_node (tab_leaf ok136) (tab_leaf ok137))) (tab_node (tab_leaf ok139) (tab_node (tab_leaf ok140) (tab_leaf ok142))))))))
def spec (f : FuncId) : Option Sp := bif Nat.beq f 64 then some (still fJoin) else (bif Nat.beq f 132 then some (still fCount) else (bif Nat.beq f 141 then some (still fIndexByte) else (none)))
theorem spec_ok : SpecOk Tryz.prog spec := .of fun f q => (spec_cons (join_ok Tryz.lays156 Tryz.Builder_Extra_156 ⟨_, Tryz.func64, by kernel_rfl, by kernel_rfl⟩) (spec_cons (count_ok Tryz.func132 (by kernel_rfl) (by kernel_rfl) (by kernel_rfl) (by kernel_rfl)) (spec_cons (indexByte_ok Tryz.func141 (by kernel_rfl) (by kernel_rfl) (by kernel_rfl) (by kernel_rfl)) (fun h => by cases h))))
end Go.Ve

namespace Go.Ve
open Go.Proofs Go.RowKit
set_option linter.unusedVariables false
theorem awakeR1 : isBool true (callF tab spec 40 9 [] .nil 0) = true := by kernel_rfl
theorem awake (w : World) : Calls Tryz.prog 9 #[] w fun e w' => e = .returned (.bool true) ∧ Below w.heap.size w w' :=
 calls_bool (callF_ok tab_ok spec_ok 40) awakeR1 ⟨_, Tryz.func9, by kernel_rfl⟩ (vs := []) rfl (by simp) w
end Go.Ve

namespace Go.Proofs
open Go.Shelf
def Tryz.lays146_ren : Go.Shelf.Ren := ⟨fun | 146 => 67 | 221 => 94 | 268 => 114 | 138 => 115 | 143 => 116 | 195 => 130 | 197 => 131 | 218 => 132 | 219 => 133 | 260 => 136 | 217 => 137 | 225 => 138 | 224 => 139 | 267 => 140 | 266 => 141 | 314 => 142 | n => n, fun | 9 => 9 | 31 => 23 | 3 => 3 | 4 => 4 | 0 => 0 | 105 => 187 | 21 => 21 | 5 => 5 | 46 => 156 | 119 => 192 | 139 => 195 | 138 => 194 | 146 => 197 | 51 => 196 | n => n, fun | 1 => 0 | 3 => 1 | 4 => 2 | n => n⟩
theorem Tryz.lays146 : Go.Proofs.Lays.n146 Tryz.prog Tryz.lays146_ren := {
 mixed := by kernel_rfl
 f138 := Tryz.func115.trans (congrArg some (by kernel_rfl))
 f143 := Tryz.func116.trans (congrArg some (by kernel_rfl))
 f146 := Tryz.func67.trans (congrArg some (by kernel_rfl))
 f195 := Tryz.func130.trans (congrArg some (by kernel_rfl))
 f197 := Tryz.func131.trans (congrArg some (by kernel_rfl))
 f217 := Tryz.func137.trans (congrArg some (by kernel_rfl))
 f218 := Tryz.func132.trans (congrArg some (by kernel_rfl))
 f219 := Tryz.func133.trans (congrArg some (by kernel_rfl))
 f221 := Tryz.func94.trans (congrArg some (by kernel_rfl))
 f224 := Tryz.func139.trans (congrArg some (by kernel_rfl))
 f225 := Tryz.func138.trans (congrArg some (by kernel_rfl))
 f260 := Tryz.func136.trans (congrArg some (by kernel_rfl))
 f266 := Tryz.func141.trans (congrArg some (by kernel_rfl))
 f267 := Tryz.func140.trans (congrArg some (by kernel_rfl))
 f268 := Tryz.func114.trans (congrArg some (by kernel_rfl))
 f314 := Tryz.func142.trans (congrArg some (by kernel_rfl))
 t0 := Tryz.underlying0
 a0 := Tryz.isAgg0
 z0 := Tryz.sizeOf0
 v0 := Tryz.zeroValue0
 t3 := Tryz.underlying3
 a3 := Tryz.isAgg3
 z3 := Tryz.sizeOf3
 v3 := Tryz.zeroValue3
 t4 := Tryz.underlying4
 a4 := Tryz.isAgg4
 z4 := Tryz.sizeOf4
 v4 := Tryz.zeroValue4
 t5 := Tryz.underlying5
 a5 := Tryz.isAgg5
 z5 := Tryz.sizeOf5
 v5 := Tryz.zeroValue5
 t9 := Tryz.underlying9
 a9 := Tryz.isAgg9
 z9 := Tryz.sizeOf9
 v9 := Tryz.zeroValue9
 t21 := Tryz.underlying21
 a21 := Tryz.isAgg21
 z21 := Tryz.sizeOf21
 v21 := Tryz.zeroValue21
 t31 := Tryz.underlying23
 a31 := Tryz.isAgg23
 z31 := Tryz.sizeOf23
 v31 := Tryz.zeroValue23
 t46 := Tryz.underlying156
 a46 := Tryz.isAgg156
 z46 := Tryz.sizeOf156
 v46 := Tryz.zeroValue156
 t51 := Tryz.underlying196
 a51 := Tryz.isAgg196
 z51 := Tryz.sizeOf196
 v51 := Tryz.zeroValue196
 t105 := Tryz.underlying187
 a105 := Tryz.isAgg187
 z105 := Tryz.sizeOf187
 v105 := Tryz.zeroValue187
 t119 := Tryz.underlying192
 a119 := Tryz.isAgg192
 z119 := Tryz.sizeOf192
 t138 := Tryz.underlying194
 a138 := Tryz.isAgg194
 z138 := Tryz.sizeOf194
 v138 := Tryz.zeroValue194
 t139 := Tryz.underlying195
 a139 := Tryz.isAgg195
 z139 := Tryz.sizeOf195
 v139 := Tryz.zeroValue195
 t146 := Tryz.underlying197
 a146 := Tryz.isAgg197
 z146 := Tryz.sizeOf197
 v146 := Tryz.zeroValue197
 g1 := by kernel_rfl
 g3 := by kernel_rfl
 g4 := by kernel_rfl }
end Go.Proofs

namespace Go.Vd
open Go.Proofs Go.RowKit Go.ChangeShapes Go.WideShapes Go.Deep Go.Joins
set_option linter.unusedSimpArgs false
set_option linter.unusedVariables false
set_option maxRecDepth 100000
theorem dfn3 : Fn Tryz.prog 3 88 dc3 [.t 6] := ⟨Tryz.f3, _, Tryz.func3, rfl, by kernel_rfl, rfl, by kernel_rfl, by kernel_rfl⟩
theorem dfn7 : Fn Tryz.prog 7 54 dc7 [.t 2] := ⟨Tryz.f7, _, Tryz.func7, rfl, by kernel_rfl, rfl, by kernel_rfl, by kernel_rfl⟩
theorem dfn8 : Fn Tryz.prog 8 19 dc8 [.t 2] := ⟨Tryz.f8, _, Tryz.func8, rfl, by kernel_rfl, rfl, by kernel_rfl, by kernel_rfl⟩
theorem dfn10 : Fn Tryz.prog 10 77 dc10 [.t 2, .t 3] := ⟨Tryz.f10, _, Tryz.func10, rfl, by kernel_rfl, rfl, by kernel_rfl, by kernel_rfl⟩
theorem dfn11 : Fn Tryz.prog 11 15 dc11 [.cell (some 5) 2] := ⟨Tryz.f11, _, Tryz.func11, rfl, by kernel_rfl, rfl, by kernel_rfl, by kernel_rfl⟩
theorem dfn12 : Fn Tryz.prog 12 96 dc12 [.t 2, .t 3] := ⟨Tryz.f12, _, Tryz.func12, rfl, by kernel_rfl, rfl, by kernel_rfl, by kernel_rfl⟩
theorem dfn13 : Fn Tryz.prog 13 30 dc13 [.cell (some 5) 2, .t 3] := ⟨Tryz.f13, _, Tryz.func13, rfl, by kernel_rfl, rfl, by kernel_rfl, by kernel_rfl⟩
theorem dfn14 : Fn Tryz.prog 14 120 dc14 [.cell (some 5) 2, .t 3] := ⟨Tryz.f14, _, Tryz.func14, rfl, by kernel_rfl, rfl, by kernel_rfl, by kernel_rfl⟩
theorem dfn15 : Fn Tryz.prog 15 62 dc15 [.t 2] := ⟨Tryz.f15, _, Tryz.func15, rfl, by kernel_rfl, rfl, by kernel_rfl, by kernel_rfl⟩
theorem dfn16 : Fn Tryz.prog 16 92 dc16 [.t 2] := ⟨Tryz.f16, _, Tryz.func16, rfl, by kernel_rfl, rfl, by kernel_rfl, by kernel_rfl⟩
theorem dfn17 : Fn Tryz.prog 17 26 dc17 [.t 4] := ⟨Tryz.f17, _, Tryz.func17, rfl, by kernel_rfl, rfl, by kernel_rfl, by kernel_rfl⟩
theorem dfn18 : Fn Tryz.prog 18 60 dc18 [.t 4] := ⟨Tryz.f18, _, Tryz.func18, rfl, by kernel_rfl, rfl, by kernel_rfl, by kernel_rfl⟩
theorem dfn19 : Fn Tryz.prog 19 15 dc19 [.cell (some 5) 2] := ⟨Tryz.f19, _, Tryz.func19, rfl, by kernel_rfl, rfl, by kernel_rfl, by kernel_rfl⟩
theorem dfn20 : Fn Tryz.prog 20 38 dc20 [.t 4] := ⟨Tryz.f20, _, Tryz.func20, rfl, by kernel_rfl, rfl, by kernel_rfl, by kernel_rfl⟩
theorem dfn29 : Fn Tryz.prog 29 5 dc29 [.t 2] := ⟨Tryz.f29, _, Tryz.func29, rfl, by kernel_rfl, rfl, by kernel_rfl, by kernel_rfl⟩
theorem dfn30 : Fn Tryz.prog 30 4 dc30 [.t 2] := ⟨Tryz.f30, _, Tryz.func30, rfl, by kernel_rfl, rfl, by kernel_rfl, by kernel_rfl⟩
theorem dfn31 : Fn Tryz.prog 31 7 dc31 [.t 2] := ⟨Tryz.f31, _, Tryz.func31, rfl, by kernel_rfl, rfl, by kernel_rfl, by kernel_rfl⟩
theorem dfn32 : Fn Tryz.prog 32 19 dc32 [.t 2] := ⟨Tryz.f32, _, Tryz.func32, rfl, by kernel_rfl, rfl, by kernel_rfl, by kernel_rfl⟩
theorem dfn33 : Fn Tryz.prog 33 4 dc33 [.t 2] := ⟨Tryz.f33, _, Tryz.func33, rfl, by kernel_rfl, rfl, by kernel_rfl, by kernel_rfl⟩
theorem dfn34 : Fn Tryz.prog 34 7 dc34 [.t 2] := ⟨Tryz.f34, _, Tryz.func34, rfl, by kernel_rfl, rfl, by kernel_rfl, by kernel_rfl⟩
theorem dfn35 : Fn Tryz.prog 35 79 dc35 [.t 6] := ⟨Tryz.f35, _, Tryz.func35, rfl, by kernel_rfl, rfl, by kernel_rfl, by kernel_rfl⟩
theorem dfn36 : Fn Tryz.prog 36 35 dc36 [.t 4] := ⟨Tryz.f36, _, Tryz.func36, rfl, by kernel_rfl, rfl, by kernel_rfl, by kernel_rfl⟩
theorem dfn37 : Fn Tryz.prog 37 11 dc37 [.t 2] := ⟨Tryz.f37, _, Tryz.func37, rfl, by kernel_rfl, rfl, by kernel_rfl, by kernel_rfl⟩
theorem dfn38 : Fn Tryz.prog 38 11 dc38 [.t 2] := ⟨Tryz.f38, _, Tryz.func38, rfl, by kernel_rfl, rfl, by kernel_rfl, by kernel_rfl⟩
theorem dfn40 : Fn Tryz.prog 40 6 dc40 [.t 2] := ⟨Tryz.f40, _, Tryz.func40, rfl, by kernel_rfl, rfl, by kernel_rfl, by kernel_rfl⟩
theorem dfn42 : Fn Tryz.prog 42 19 dc42 [.t 2] := ⟨Tryz.f42, _, Tryz.func42, rfl, by kernel_rfl, rfl, by kernel_rfl, by kernel_rfl⟩
theorem dfn43 : Fn Tryz.prog 43 26 dc43 [.t 4] := ⟨Tryz.f43, _, Tryz.func43, rfl, by kernel_rfl, rfl, by kernel_rfl, by kernel_rfl⟩
theorem dfn44 : Fn Tryz.prog 44 26 dc44 [.t 4] := ⟨Tryz.f44, _, Tryz.func44, rfl, by kernel_rfl, rfl, by kernel_rfl, by kernel_rfl⟩
theorem dfn65 : Fn Tryz.prog 65 29 dc65 [.t 2] := ⟨Tryz.f65, _, Tryz.func65, rfl, by kernel_rfl, rfl, by kernel_rfl, by kernel_rfl⟩
theorem dfn66 : Fn Tryz.prog 66 29 dc66 [.t 2] := ⟨Tryz.f66, _, Tryz.func66, rfl, by kernel_rfl, rfl, by kernel_rfl, by kernel_rfl⟩
theorem dfn68 : Fn Tryz.prog 68 28 dc68 [.t 2] := ⟨Tryz.f68, _, Tryz.func68, rfl, by kernel_rfl, rfl, by kernel_rfl, by kernel_rfl⟩
theorem dfn69 : Fn Tryz.prog 69 23 dc69 [.t 2] := ⟨Tryz.f69, _, Tryz.func69, rfl, by kernel_rfl, rfl, by kernel_rfl, by kernel_rfl⟩
theorem dfn70 : Fn Tryz.prog 70 23 dc70 [.t 2] := ⟨Tryz.f70, _, Tryz.func70, rfl, by kernel_rfl, rfl, by kernel_rfl, by kernel_rfl⟩
theorem dfn71 : Fn Tryz.prog 71 16 dc71 [.t 2] := ⟨Tryz.f71, _, Tryz.func71, rfl, by kernel_rfl, rfl, by kernel_rfl, by kernel_rfl⟩
theorem dfn72 : Fn Tryz.prog 72 23 dc72 [.cell (some 7) 2] := ⟨Tryz.f72, _, Tryz.func72, rfl, by kernel_rfl, rfl, by kernel_rfl, by kernel_rfl⟩
theorem dfn73 : Fn Tryz.prog 73 31 dc73 [.t 2] := ⟨Tryz.f73, _, Tryz.func73, rfl, by kernel_rfl, rfl, by kernel_rfl, by kernel_rfl⟩
theorem dfn74 : Fn Tryz.prog 74 50 dc74 [.t 2, .t 3] := ⟨Tryz.f74, _, Tryz.func74, rfl, by kernel_rfl, rfl, by kernel_rfl, by kernel_rfl⟩
theorem dfn77 : Fn Tryz.prog 77 9 dc77 [.t 4] := ⟨Tryz.f77, _, Tryz.func77, rfl, by kernel_rfl, rfl, by kernel_rfl, by kernel_rfl⟩
theorem dfn78 : Fn Tryz.prog 78 6 dc78 [.t 2] := ⟨Tryz.f78, _, Tryz.func78, rfl, by kernel_rfl, rfl, by kernel_rfl, by kernel_rfl⟩
theorem dfn95 : Fn Tryz.prog 95 47 dc95 [.t 2, .t 3] := ⟨Tryz.f95, _, Tryz.func95, rfl, by kernel_rfl, rfl, by kernel_rfl, by kernel_rfl⟩
theorem dfn97 : Fn Tryz.prog 97 19 dc97 [.t 4] := ⟨Tryz.f97, _, Tryz.func97, rfl, by kernel_rfl, rfl, by kernel_rfl, by kernel_rfl⟩
theorem dfn117 : Fn Tryz.prog 117 24 dc117 [.t 2] := ⟨Tryz.f117, _, Tryz.func117, rfl, by kernel_rfl, rfl, by kernel_rfl, by kernel_rfl⟩
theorem desk : Desk Tryz.prog := ⟨dfn3, dfn7, dfn8, dfn10, dfn11, dfn12, dfn13, dfn14, dfn15, dfn16, dfn17, dfn18, dfn19, dfn20, dfn29, dfn30, dfn31, dfn32, dfn33, dfn34, dfn35, dfn36, dfn37, dfn38, dfn40, dfn42, dfn43, dfn44, dfn65, dfn66, dfn68, dfn69, dfn70, dfn71, dfn72, dfn73, dfn74, dfn77, dfn78, dfn95, dfn97, dfn117⟩
theorem okAwake : (funS trueF).ok Tryz.prog 9 := closed_ok ⟨_, Tryz.func9, by kernel_rfl, by kernel_rfl⟩ Go.Ve.awake
theorem hi146 : (Tryz.prog.info? (Tryz.lays146_ren.t 9)).map (fun i => (i.zero, i.size, i.bytes)) = some (some (.string ByteArray.empty), 1, 16) := by kernel_rfl
theorem okSplit : (funS Fsplit).ok Tryz.prog 67 := split_ok Tryz.lays146 hi146 ⟨_, Tryz.func67, by kernel_rfl, by kernel_rfl⟩
theorem okJoin : (funS Fjoin).ok Tryz.prog 64 := join_ok Tryz.lays156 Tryz.Builder_Extra_156 ⟨_, Tryz.func64, by kernel_rfl, by kernel_rfl⟩
theorem okLaw : (funS F3).ok Tryz.prog 3 :=
 have h15 := ok15 desk ok39
 have h16 := ok16 desk ok41
 have h12 := ok12 desk ok28 h16
 ok3 desk okAwake (ok10 desk ok27 h15 (ok29 desk okJoin)) h12 (ok13 desk ok25 okSplit h15) (ok14 desk ok26 h12) h15 h16
section
variable {H : Type} {enc : TypeId × Value → H} {w : World} {base : Nat} {spare : Nat → Bool} {held : Bool}
theorem done_rep {n : Nat} {v : Value} {y : DataW H × List MemPlace} (h : DataW.trod enc Tryz.prog w base spare held n 22 [v] = some y) :
  ∃ (nl : Bool) (l : List Dn), Rep w (startG (allG w)) (.slice nl [] (l.map dnD)) v ∧ v.oneCell' = true := by
 rcases open_slice_fields Tryz.underlying22 Tryz.underlying62 (by kernel_rfl) (by kernel_rfl) h with ⟨hcs, _⟩ | ⟨a, len, cap, m, D, Pl, hcs, _, hl, _, hm, _, hi⟩
 ·simp only [List.cons.injEq, and_true] at hcs
  subst hcs
  exact ⟨true, [], .nils [], rfl⟩
 ·simp only [List.cons.injEq, and_true] at hcs
  subst hcs
  have hlm : len ≤ m := by rw [hm]; split <;> omega
  obtain ⟨l, hr⟩ := dns_rep hl fun i hi' => by
   obtain ⟨ys, n, _, _, _, hff⟩ := hi i (by omega)
   obtain ⟨u0, y0, c0, _, t0⟩ := hff 0 _ rfl
   obtain ⟨u1, y1, c1, _, t1⟩ := hff 1 _ rfl
   obtain ⟨u2, y2, c2, _, t2⟩ := hff 2 _ rfl
   obtain ⟨u3, y3, c3, _, t3⟩ := hff 3 _ rfl
   obtain ⟨u4, y4, c4, _, t4⟩ := hff 4 _ rfl
   obtain ⟨u5, y5, c5, _, t5⟩ := hff 5 _ rfl
   obtain ⟨u6, y6, c6, _, t6⟩ := hff 6 _ rfl
   obtain ⟨n0, e0, _⟩ := DataW.trod_int Tryz.underlying3 t0
   obtain ⟨s1, e1, _, _⟩ := DataW.trod_string Tryz.underlying9 t1
   obtain ⟨s2, e2, _, _⟩ := DataW.trod_string Tryz.underlying9 t2
   obtain ⟨n3, e3, _⟩ := DataW.trod_int Tryz.underlying3 t3
   obtain ⟨n4, e4, _⟩ := DataW.trod_int Tryz.underlying3 t4
   obtain ⟨n5, e5, _⟩ := DataW.trod_int Tryz.underlying3 t5
   obtain ⟨b6, e6, _⟩ := DataW.trod_bool Tryz.underlying4 t6
   simp only [List.cons.injEq, and_true] at e0 e1 e2 e3 e4 e5 e6
   subst e0 e1 e2 e3 e4 e5 e6
   refine ⟨⟨n0, s1.data.toList, s2.data.toList, n3, n4, n5, b6⟩, fun j v hv => ?_⟩
   match j with
   | 0 => simp [dnV] at hv; subst hv; exact c0
   | 1 => simp [dnV] at hv; subst hv; exact c1
   | 2 => simp [dnV] at hv; subst hv; exact c2
   | 3 => simp [dnV] at hv; subst hv; exact c3
   | 4 => simp [dnV] at hv; subst hv; exact c4
   | 5 => simp [dnV] at hv; subst hv; exact c5
   | 6 => simp [dnV] at hv; subst hv; exact c6
   | j + 7 => simp [dnV] at hv
  exact ⟨false, l, hr, rfl⟩
theorem text_rep {n : Nat} {v : Value} {y : DataW H × List MemPlace} (h : DataW.trod enc Tryz.prog w base spare held n 23 [v] = some y) :
  ∃ (nl : Bool) (l : List Bs), Rep w (startG (allG w)) (.slice nl [] (l.map .str)) v ∧ v.oneCell' = true := by
 have hC : Tryz.prog.cellsOf 9 = 1 := by kernel_rfl
 rcases open_slice Tryz.underlying23 h with ⟨hcs, _⟩ | ⟨a, len, cap, m, n, D, Pl, hcs, _, hl, _, hm, _, hi⟩
 ·simp only [List.cons.injEq, and_true] at hcs
  subst hcs
  exact ⟨true, [], .nils [], rfl⟩
 ·simp only [List.cons.injEq, and_true] at hcs
  subst hcs
  rw [hC] at hi
  have hlm : len ≤ m := by rw [hm]; split <;> omega
  obtain ⟨l, hr⟩ := strs_rep hl fun i hi' => by
   obtain ⟨cs', hc, ht⟩ := hi i (by omega)
   obtain ⟨_, hcl, hat⟩ := World.cells?_some hc
   obtain ⟨s, e, _, _⟩ := DataW.trod_string Tryz.underlying9 ht
   have h0 := hat 0 (by omega)
   rw [e] at h0
   refine ⟨s.data.toList, ?_⟩
   have ha : (a.add (i * 1)).add 0 = a.add i := by rw [Go.Vd.add_add]; simp
   rw [ha] at h0
   simpa using h0
  exact ⟨false, l, hr, rfl⟩
theorem told_rep {b0 : Nat} {v : Value} {d : DataW H} {p : List MemPlace} (hv : Value.okWide Tryz.prog w .any b0 25 v) (h : DataW.Trod enc Tryz.prog w base spare held 25 v d p) :
  ∃ (nc nb : Bool) (t : Td), Rep w (startG (allG w)) (tdD nc nb t) v := by
 obtain ⟨c0, c1, c2, c3, c4, y0, y1, y2, y3, y4, n, rfl, _, _, t0, t1, t2, t3, t4⟩ := open_agg5 Tryz.underlying25 (by kernel_rfl) (by kernel_rfl) hv h
 obtain ⟨nc, cs, r0, o0⟩ := done_rep t0
 obtain ⟨n1, e1, _⟩ := DataW.trod_int Tryz.underlying3 t1
 obtain ⟨n2, e2, _⟩ := DataW.trod_int Tryz.underlying3 t2
 obtain ⟨b3, e3, _⟩ := DataW.trod_bool Tryz.underlying4 t3
 obtain ⟨nb, bs, r4, o4⟩ := text_rep t4
 simp only [List.cons.injEq, and_true] at e1 e2 e3
 subst e1 e2 e3
 refine ⟨nc, nb, ⟨cs, n1, n2, b3, bs⟩, .agg _ [c0, .int .i64 n1, .int .i64 n2, .bool b3, c4] rfl (fun v hv => ?_) (fun j d v hd hv => ?_)⟩
 ·simp only [List.mem_cons, List.mem_nil_iff, or_false] at hv
  rcases hv with rfl | rfl | rfl | rfl | rfl
  ·exact o0
  ·rfl
  ·rfl
  ·rfl
  ·exact o4
 ·match j with
  | 0 => simp only [tdCells, List.getElem?_cons_zero, Option.some.injEq] at hd hv; subst hd hv; exact r0
  | 1 => simp only [tdCells, List.getElem?_cons_succ, List.getElem?_cons_zero, Option.some.injEq] at hd hv; subst hd hv; exact .int _ _
  | 2 => simp only [tdCells, List.getElem?_cons_succ, List.getElem?_cons_zero, Option.some.injEq] at hd hv; subst hd hv; exact .int _ _
  | 3 => simp only [tdCells, List.getElem?_cons_succ, List.getElem?_cons_zero, Option.some.injEq] at hd hv; subst hd hv; exact .bool _
  | 4 => simp only [tdCells, List.getElem?_cons_succ, List.getElem?_cons_zero, Option.some.injEq] at hd hv; subst hd hv; exact r4
  | j + 5 => simp [tdCells] at hd
end
theorem un_tdD (nc nb : Bool) (t : Td) : (tdD nc nb t).un = tdD nc nb t := rfl
theorem calm_tdD (nc nb : Bool) (t : Td) : (tdD nc nb t).calm = true := rfl
theorem lines_law {w : World} {v0 v1 v2 : Value} (h0 : ∃ (nc nb : Bool) (t : Td), Rep w (startG (allG w)) (tdD nc nb t) v0) (h1 : ∃ (nc nb : Bool) (t : Td), Rep w (startG (allG w)) (tdD nc nb t) v1)
  (h2 : ∃ (nl : Bool) (l : List Bs), Rep w (startG (allG w)) (.slice nl [] (l.map .str)) v2) :
  Calls Tryz.prog 3 #[v0, v1, v2] w fun e w' => e = .returned (.bool true) ∧ Below w.heap.size w w' := by
 obtain ⟨nc, nb, t, r0⟩ := h0
 obtain ⟨nc2, nb2, u, r1⟩ := h1
 obtain ⟨nl, l, r2⟩ := h2
 refine row_true okLaw (G := allG w) (fun b hb => allG_out w b hb) (ds := [tdD nc nb t, tdD nc2 nb2 u, .slice nl [] (l.map .str)]) (vs := [v0, v1, v2]) rfl (fun j d v hd hv => ?_) rfl rfl ?_
 ·match j with
  | 0 => simp only [List.getElem?_cons_zero, Option.some.injEq] at hd hv; subst hd hv; exact r0
  | 1 => simp only [List.getElem?_cons_succ, List.getElem?_cons_zero, Option.some.injEq] at hd hv; subst hd hv; exact r1
  | 2 => simp only [List.getElem?_cons_succ, List.getElem?_cons_zero, Option.some.injEq] at hd hv; subst hd hv; exact r2
  | j + 3 => simp at hd
 ·simp only [F3, tdD, tdCells, tdOf_mk, strsOf_map]
end Go.Vd
