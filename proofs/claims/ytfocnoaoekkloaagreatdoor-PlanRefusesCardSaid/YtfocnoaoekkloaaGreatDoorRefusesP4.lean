/-
  A part of the proof: the layers over the model. Nothing in it is assumed.
-/
import Derived.Test.YtfocnoaoekkloaaGreatDoorRefusesP3
import Derived.Test.YtfocnoaoekkloaaGreatDoorProg
import Init
import Derived.Shelf.Strings.OnBuilder
import Derived.Shelf.Strings.BuilderRune
import Derived.Shelf.Strings.BuilderF
import Derived.WalkKit

set_option linter.unusedSimpArgs false
set_option linter.unusedVariables false
set_option linter.defProp false
set_option maxHeartbeats 4000000
set_option maxRecDepth 100000
namespace Go.Vd
open Go.Proofs
def dc107 : DC := (sr [mm 5 0, nn 6 false 5, mm 4 6] (.row [mm 7 0, mm 8 4, mm 9 4, oo 10 (.conv .u64 (.t 9)), cc 11 209 [(.t 10)], mm 12 1, cc 13 208 [(.t 7), (.c (.int .i64 0)), (.t 8), (.t 11), (.t 12)]]))
theorem fn107 : Fn Tryz.prog 107 14 dc107 [] := Ao Tryz.func107
def dc208l0 : DC := (.block 1 (sr [mm 21 2, mm 22 1, bt 23 .sub 21 22, mm 12 23] (.seq (sr [mm 24 12, bi 25 .leq 24 12] (cd 25 (sr [mm 26 0, mm 27 1, mm 28 2, mm 29 4, cc 30 302 [(.t 26), (.t 27), (.t 28), (.t 29)]] .ret) .skip)) (.seq (sr [mm 31 3, bi 32 .eql 31 0] (cd 32 (sr [mm 33 0, mm 34 1, mm 35 2, mm 36 4, cc 37 303 [(.t 33), (.t 34), (.t 35), (.t 36)]] .ret) .skip)) (.seq (sr [mm 38 10, oo 39 (.un .not (.t 38))] (cd 39 (sr [mm 40 0, mm 41 1, mm 42 2, mm 43 4, cc 44 304 [(.t 40), (.t 41), (.t 42), (.t 43)]] (.row [mm 45 3, bi 46 .sub 45 1, mm 3 46])) .skip)) (sr [mm 48 0, mm 49 1, mm 50 2, mm 51 4, cc 52 305 [(.t 48), (.t 49), (.t 50), (.t 51)], mm 47 52, xx 53 0 47, xx 54 1 47, mm 13 53, mm 14 54] (.seq (sr [mm 55 14, bi 56 .eql 55 2] (cd 56 (sr [mm 57 0, mm 58 1, mm 59 2, mm 60 4, cc 61 306 [(.t 57), (.t 58), (.t 59), (.t 60)]] (sr [mm 62 2, bi 63 .sub 62 1, mm 64 13, mm 65 1, bt 66 .sub 64 65, bt 67 .sub 63 66, mm 13 67] (.row [ci 14 1]))) .skip)) (.seq (sr [mm 68 10, mm 69 68, og 70 (.mv (.t 11)) 1 true, oo 71 (.pick (.t 69) (.t 70) (.c (.bool false))), mm 72 71, og 73 (.mv (.t 14)) 4 true, og 74 (.bin .eql (.t 73) (.c (.int .i64 1))) 4 true, oo 75 (.pick (.t 72) (.t 74) (.c (.bool false)))] (cd 75 (sr [mm 76 0, mm 77 1, mm 78 2, mm 79 4, cc 80 307 [(.t 76), (.t 77), (.t 78), (.t 79)]] (cd 80 .ret .skip)) .skip)) (.seq (.seq (.drawn [mm 81 1, bi 82 .gtr 81 0, mm 83 82, og 84 (.mv (.t 4)) 2 true, og 85 (.mv (.t 0)) 2 true, og 86 (.mv (.t 1)) 2 true, og 87 (.bin .sub (.t 86) (.c (.int .i64 1))) 2 true, og 88 (.iaddr 3 (.t 85) (.t 87)) 2 true, og 89 (.load (some 3) (.t 88)) 2 true, og 90 (.mv (.t 0)) 2 true, og 91 (.mv (.t 13)) 2 true, og 92 (.iaddr 3 (.t 90) (.t 91)) 2 true, og 93 (.load (some 3) (.t 92)) 2 true, og 94 (.call (.t 84) [(.t 89), (.t 93)]) 2 true, og 95 (.bin .lss (.t 94) (.c (.int .i64 0))) 2 true, og 96 (.un .not (.t 95)) 2 true, oo 97 (.pick (.t 83) (.t 96) (.c (.bool false)))] []) (cd 97 (sr [mm 98 0, mm 99 1, mm 100 2, mm 101 13, mm 102 4, cc 103 308 [(.t 98), (.t 99), (.t 100), (.t 101), (.t 102)], mm 15 103] (sr [mm 104 15, mm 1 104] (.exit 1))) .skip)) (sr [mm 106 0, mm 107 1, mm 108 2, mm 109 13, mm 110 4, cc 111 309 [(.t 106), (.t 107), (.t 108), (.t 109), (.t 110)], mm 105 111, xx 112 0 105, xx 113 1 105, mm 16 112, mm 17 113] (sr [mm 114 17, mm 11 114] (sr [mm 115 16, mm 116 1, bt 117 .sub 115 116, mm 118 2, mm 119 16, bt 120 .sub 118 119, mm 18 117, mm 19 120] (sr [mm 121 12, bi 122 .quo 121 8, mm 20 122] (sr [mm 123 18, mm 124 19, bt 125 .lss 123 124] (cd 125 (sr [mm 126 18, mm 127 20, bt 128 .geq 126 127, mm 10 128] (sr [mm 129 0, mm 130 1, mm 131 16, mm 132 3, mm 133 4, cc 134 208 [(.t 129), (.t 130), (.t 131), (.t 132), (.t 133)]] (.row [mm 135 16, bi 136 .add 135 1, mm 1 136]))) (sr [mm 137 19, mm 138 20, bt 139 .geq 137 138, mm 10 139] (sr [mm 140 0, mm 141 16, bi 142 .add 141 1, mm 143 2, mm 144 3, mm 145 4, cc 146 208 [(.t 140), (.t 142), (.t 143), (.t 144), (.t 145)]] (.row [mm 147 16, mm 2 147]))))))))))))))))))
def dc208 : DC := (sr [cb 10 true] (sr [cb 11 true] (.block 0 (.loop dc208l0))))
theorem fn208 : Fn Tryz.prog 208 148 dc208 [] := Ao Tryz.func208
def dc302l0 : DC := (.seq (.seq (.drawn [mm 18 9, mm 19 1, bt 20 .gtr 18 19, mm 21 20, og 22 (.mv (.t 3)) 3 true, og 23 (.mv (.t 0)) 3 true, og 24 (.mv (.t 9)) 3 true, og 25 (.iaddr 3 (.t 23) (.t 24)) 3 true, og 26 (.load (some 3) (.t 25)) 3 true, og 27 (.mv (.t 0)) 3 true, og 28 (.mv (.t 9)) 3 true, og 29 (.bin .sub (.t 28) (.c (.int .i64 1))) 3 true, og 30 (.iaddr 3 (.t 27) (.t 29)) 3 true, og 31 (.load (some 3) (.t 30)) 3 true, og 32 (.call (.t 22) [(.t 26), (.t 31)]) 3 true, og 33 (.bin .lss (.t 32) (.c (.int .i64 0))) 3 true, oo 34 (.pick (.t 21) (.t 33) (.c (.bool false)))] []) (cd 34 .skip (.exit 2))) (.seq (.block 3 (.drawn [mm 37 0, mm 38 9, mm 39 0, mm 40 9, bi 41 .sub 40 1, mm 42 0, mm 43 9, bi 44 .sub 43 1, ii 45 3 42 44, lk 46 3 45, mm 47 0, mm 48 9, ii 49 3 47 48, lk 50 3 49, ii 51 3 37 38, oz (.store 3 (.t 51) (.t 46)), ii 52 3 39 41, oz (.store 3 (.t 52) (.t 50))] [])) (.row [mm 35 9, bi 36 .sub 35 1, mm 9 36])))
def dc302l1 : DC := (.seq (sr [mm 12 8, mm 13 2, bt 14 .lss 12 13] (cd 14 .skip (.exit 0))) (.seq (.block 1 (sr [mm 17 8, mm 9 17] (.block 2 (.loop dc302l0)))) (.row [mm 15 8, bi 16 .add 15 1, mm 8 16])))
def dc302 : DC := (sr [mm 10 1, bi 11 .add 10 1, mm 8 11] (.block 0 (.loop dc302l1)))
theorem fn302 : Fn Tryz.prog 302 53 dc302 [] := Ao Tryz.func302
def dc209 : DC := (sr [ci 2 0] (.seq (.cond (.c (.bool false)) (sr [mm 3 0, oo 4 (.conv .u32 (.t 3)), cc 5 310 [(.t 4)], mm 2 5] .ret) .skip) (sr [mm 6 0, cc 7 311 [(.t 6)], mm 2 7] .ret)))
theorem fn209 : Fn Tryz.prog 209 8 dc209 [.t 2] := Ao Tryz.func209
def dc311 : DC := (sr [ci 2 0] (.seq (sr [mm 3 0, oo 4 (.bin .geq (.t 3) (.c (.int .u64 4294967296)))] (cd 4 (sr [mm 5 0, oo 6 (.bin .shr (.t 5) (.c (.int .u64 32))), mm 0 6] (.row [ci 2 32])) .skip)) (.seq (sr [mm 7 0, oo 8 (.bin .geq (.t 7) (.c (.int .u64 65536)))] (cd 8 (sr [mm 9 0, oo 10 (.bin .shr (.t 9) (.c (.int .u64 16))), mm 0 10] (.row [mm 11 2, bi 12 .add 11 16, mm 2 12])) .skip)) (.seq (sr [mm 13 0, oo 14 (.bin .geq (.t 13) (.c (.int .u64 256)))] (cd 14 (sr [mm 15 0, oo 16 (.bin .shr (.t 15) (.c (.int .u64 8))), mm 0 16] (.row [mm 17 2, bi 18 .add 17 8, mm 2 18])) .skip)) (sr [mm 19 2, mm 20 0, oo 21 (.conv .u8 (.t 20)), oo 22 (.idxs (.c (.str [0, 1, 2, 2, 3, 3, 3, 3, 4, 4, 4, 4, 4, 4, 4, 4, 5, 5, 5, 5, 5, 5, 5, 5, 5, 5, 5, 5, 5, 5, 5, 5, 6, 6, 6, 6, 6, 6, 6, 6, 6, 6, 6, 6, 6, 6, 6, 6, 6, 6, 6, 6, 6, 6, 6, 6, 6, 6, 6, 6, 6, 6, 6, 6, 7, 7, 7, 7, 7, 7, 7, 7, 7, 7, 7, 7, 7, 7, 7, 7, 7, 7, 7, 7, 7, 7, 7, 7, 7, 7, 7, 7, 7, 7, 7, 7, 7, 7, 7, 7, 7, 7, 7, 7, 7, 7, 7, 7, 7, 7, 7, 7, 7, 7, 7, 7, 7, 7, 7, 7, 7, 7, 7, 7, 7, 7, 7, 7, 8, 8, 8, 8, 8, 8, 8, 8, 8, 8, 8, 8, 8, 8, 8, 8, 8, 8, 8, 8, 8, 8, 8, 8, 8, 8, 8, 8, 8, 8, 8, 8, 8, 8, 8, 8, 8, 8, 8, 8, 8, 8, 8, 8, 8, 8, 8, 8, 8, 8, 8, 8, 8, 8, 8, 8, 8, 8, 8, 8, 8, 8, 8, 8, 8, 8, 8, 8, 8, 8, 8, 8, 8, 8, 8, 8, 8, 8, 8, 8, 8, 8, 8, 8, 8, 8, 8, 8, 8, 8, 8, 8, 8, 8, 8, 8, 8, 8, 8, 8, 8, 8, 8, 8, 8, 8, 8, 8, 8, 8, 8, 8, 8, 8, 8, 8, 8, 8, 8, 8, 8, 8, 8, 8, 8, 8, 8, 8])) (.t 21)), oo 23 (.conv .i64 (.t 22)), bt 24 .add 19 23, mm 2 24] .ret)))))
theorem fn311 : Fn Tryz.prog 311 25 dc311 [.t 2] := Ao Tryz.func311
def dc45 : DC := (sr [oo 2 (.box (.t 0)), oo 3 (.box (.t 1)), oo 4 (.alloc [(.slice true [] [])]), ci 5 0] (.seq (sr [lk 8 3 3, cc 9 102 [(.t 8)], mm 6 9] (sr [mm 10 6, bi 11 .neq 10 0] (cd 11 (sr [lk 12 1 2, mm 13 6, oz (.store 1 (.t 4) (.t 12)), mm 5 13] .ret) .skip))) (.seq (.block 0 (sr [lk 15 1 2, ff 16 0 3, ll 17 16, cc 18 103 [(.t 15), (.t 17)], bi 19 .geq 18 0, mm 14 19] (cd 14 (sr [lk 20 1 2, oz (.store 1 (.t 4) (.t 20)), ci 5 20] .ret) (.seq (.drawn [ff 22 0 3, ll 23 22, lk 24 1 2, cc 25 105 [(.t 24)], cc 26 104 [(.t 23), (.t 25)], mm 21 26] [(3, 1)]) (cd 21 (sr [lk 27 1 2, oz (.store 1 (.t 4) (.t 27)), ci 5 15] .ret) (sr [ff 29 0 2, ll 30 29, nn 31 false 30, bi 32 .geq 31 4, mm 28 32] (cd 28 (sr [lk 33 1 2, oz (.store 1 (.t 4) (.t 33)), ci 5 24] .ret) .skip))))))) (sr [ff 34 0 2, ll 35 34, lk 36 3 3, oo 37 (.bslice 124 3 [(.t 36)]), oo 38 (.bslice 50 1 [(.t 35), (.t 37)]), cc 39 106 [(.t 38)], mm 7 39] (sr [mm 40 7, cc 41 107 [(.t 40), (.c (.fn 108 []))]] (sr [mm 42 7, oo 43 (.build [(.slice true [] [])] [(0, 1, (.t 42))]), oz (.store 1 (.t 4) (.t 43)), ci 5 0] .ret))))))
theorem fn45 : Fn Tryz.prog 45 44 dc45 [.cell (some 1) 4, .t 5] := Ao Tryz.func45
end Go.Vd
namespace Go.Vd
section
variable {α : Type} (lt : α → α → Bool) (d : α)
def swp (xs : List α) (j : Nat) : List α := (xs.set (j + 1) (xs.getD j d)).set j (xs.getD (j + 1) d)
def insE (xs : List α) : Nat → List α
 | 0 => xs
 | j + 1 => if lt (xs.getD (j + 1) d) (xs.getD j d) = true then insE (swp d xs j) j else xs
def Cu : Nat → Nat → List α → List α
 | 0, _, xs => xs
 | f + 1, i, xs => Cu f (i + 1) (insE lt d xs i)
def kR (l : List α) (m : α) : Nat → Nat
 | 0 => 0
 | j + 1 => if lt m (l.getD j d) = true then kR l m j else j + 1
theorem kR_le (l : List α) (m : α) : ∀ j, kR lt d l m j ≤ j
 | 0 => Nat.le_refl _
 | j + 1 => by
  unfold kR
  split
  ·exact Nat.le_succ_of_le (kR_le l m j)
  ·exact Nat.le_refl _
theorem swp_len (xs : List α) (j : Nat) : (swp d xs j).length = xs.length := by simp [swp]
theorem insE_len : ∀ (j : Nat) (xs : List α), (insE lt d xs j).length = xs.length
 | 0, xs => rfl
 | j + 1, xs => by
  unfold insE
  split
  ·rw [insE_len j, swp_len]
  ·rfl
theorem isortR_len : ∀ (f i : Nat) (xs : List α), (Cu lt d f i xs).length = xs.length
 | 0, _, xs => rfl
 | f + 1, i, xs => by rw [Cu, isortR_len f, insE_len]
theorem swp_app (a b : List α) (x y : α) : swp d (a ++ x :: y :: b) a.length = a ++ y :: x :: b := by
 unfold swp
 have h1 : (a ++ x :: y :: b).getD a.length d = x := by simp [List.getD]
 have h2 : (a ++ x :: y :: b).getD (a.length + 1) d = y := by
  simp [List.getD]
 rw [h1, h2, List.set_append_right _ _ (by omega), show a.length + 1 - a.length = 1 by omega, List.set_append_right _ _ (Nat.le_refl _)]
 simp
theorem insE_app (l : List α) (m : α) : ∀ (j : Nat) (b : List α), j ≤ l.length → insE lt d (l.take j ++ m :: b) j = l.take (kR lt d l m j) ++ m :: ((l.take j).drop (kR lt d l m j) ++ b)
 | 0, b, _ => by simp [insE, kR]
 | j + 1, b, h => by
  have hlen : (l.take j).length = j := by rw [List.length_take]; omega
  have hx : l.take (j + 1) = l.take j ++ [l.getD j d] := by
   rw [List.take_succ_eq_append_getElem (by omega)]
   simp [List.getD, List.getElem?_eq_getElem (show j < l.length by omega)]
  have e : l.take (j + 1) ++ m :: b = l.take j ++ l.getD j d :: m :: b := by rw [hx]; simp
  have g1 : (l.take j ++ l.getD j d :: m :: b).getD (j + 1) d = m := by
   rw [List.getD, List.getElem?_append_right (by omega), hlen, show j + 1 - j = 1 by omega]; rfl
  have g2 : (l.take j ++ l.getD j d :: m :: b).getD j d = l.getD j d := by
   rw [List.getD, List.getElem?_append_right (by omega), hlen, Nat.sub_self]; rfl
  rw [e]
  unfold insE kR
  rw [g1, g2]
  split
  ·have hs := swp_app d (l.take j) b (l.getD j d) m
   rw [hlen] at hs
   rw [hs, insE_app l m j (l.getD j d :: b) (by omega), hx]
   have hk := kR_le lt d l m j
   rw [List.drop_append_of_le_length (by omega)]
   simp
  ·have : (l.take (j + 1)).drop (j + 1) = [] := List.drop_eq_nil_of_le (by rw [List.length_take]; omega)
   rw [this, hx]; simp
theorem insE_still {xs : List α} {i : Nat} (h : lt (xs.getD i d) (xs.getD (i - 1) d) = false) : insE lt d xs i = xs := by
 cases i with
 | zero => rfl
 | succ j =>
  unfold insE
  rw [Nat.add_sub_cancel] at h
  rw [if_neg (by rw [h]; exact Bool.false_ne_true)]
theorem isort_app (l : List α) (m : α) (hs : ∀ i, i + 1 < l.length → lt (l.getD (i + 1) d) (l.getD i d) = false) :
  ∀ (f i : Nat), 1 ≤ i → i + f = l.length + 1 → Cu lt d f i (l ++ [m]) = if f = 0 then l ++ [m] else l.take (kR lt d l m l.length) ++ m :: l.drop (kR lt d l m l.length)
 | 0, i, _, _ => by simp [Cu]
 | f + 1, i, hi, h => by
  rw [if_neg (Nat.succ_ne_zero f)]
  unfold Cu
  by_cases hf : f = 0
  ·subst hf
   have : i = l.length := by omega
   subst this
   have := insE_app lt d l m l.length [] (Nat.le_refl _)
   simp only [List.take_length, List.append_nil] at this
   unfold Cu
   exact this
  ·have hil : i < l.length := by omega
   have g1 : (l ++ [m]).getD i d = l.getD i d := by simp [List.getD, List.getElem?_append_left hil]
   have g2 : (l ++ [m]).getD (i - 1) d = l.getD (i - 1) d := by simp [List.getD, List.getElem?_append_left (show i - 1 < l.length by omega)]
   rw [insE_still lt d (by rw [g1, g2]; have := hs (i - 1) (by omega); rwa [show i - 1 + 1 = i by omega] at this), isort_app l m hs f (i + 1) (by omega) (by omega), if_neg hf]
end
end Go.Vd
namespace Go.Vd
open Go.Proofs Go.RowKit
def m0t : Mt := ([], 0, false)
def ltM (a b : Mt) : Bool := decide (Ep a.1 b.1 < 0)
def RowM (i : Id) (m : Mem) (xs : List Mt) : Prop := ∀ j, j < xs.length → m i (j * 3) = some (.str (xs.getD j m0t).1) ∧ m i (j * 3 + 1) = some (.int .i64 (xs.getD j m0t).2.1) ∧ m i (j * 3 + 2) = some (.bool (xs.getD j m0t).2.2)
structure RowI (i : Id) (m0 m : Mem) (xs : List Mt) : Prop where
 row : RowM i m xs
 out : ∀ i' o, (i' ≠ i ∨ xs.length * 3 ≤ o) → m i' o = m0 i' o
theorem RowI.put {i : Id} {m0 m : Mem} {xs : List Mt} (h : RowI i m0 m xs) {j : Nat} (hj : j < xs.length) {p : Bs} {q : Int} {b : Bool} : RowI i m0 (m.put i (j * 3) [.str p, .int .i64 q, .bool b]) (xs.set j (p, q, b)) := by
 refine ⟨fun k hk => ?_, fun i' o ho => ?_⟩
 ·rw [List.length_set] at hk
  by_cases e : k = j
  ·subst e
   have hg : (xs.set k (p, q, b)).getD k m0t = (p, q, b) := by simp [List.getD, hk]
   rw [hg]
   refine ⟨?_, ?_, ?_⟩
   ·rw [Ac, if_pos ⟨rfl, by omega, by simp⟩, Nat.sub_self]; rfl
   ·rw [Ac, if_pos ⟨rfl, by omega, by simp⟩, show k * 3 + 1 - k * 3 = 1 by omega]; rfl
   ·rw [Ac, if_pos ⟨rfl, by omega, by simp⟩, show k * 3 + 2 - k * 3 = 2 by omega]; rfl
  ·have hg : (xs.set j (p, q, b)).getD k m0t = xs.getD k m0t := by simp [List.getD, List.getElem?_set_ne (Ne.symm e)]
   rw [hg]
   have hn : ∀ d, d < 3 → ¬ (i = i ∧ j * 3 ≤ k * 3 + d ∧ k * 3 + d < j * 3 + [D.str p, .int .i64 q, .bool b].length) := by
    intro d hd; simp; omega
   obtain ⟨a1, a2, a3⟩ := h.row k hk
   exact ⟨by rw [Ac, if_neg (by have := hn 0 (by omega); rwa [Nat.add_zero] at this)]; exact a1, by rw [Ac, if_neg (hn 1 (by omega))]; exact a2, by rw [Ac, if_neg (hn 2 (by omega))]; exact a3⟩
 ·rw [List.length_set] at ho
  rw [Ac, if_neg (by rintro ⟨e, h1, h2⟩; simp at h2; rcases ho with ho | ho; exact ho e; omega)]
  exact h.out i' o ho
theorem RowI.swp {i : Id} {m0 m : Mem} {xs : List Mt} (h : RowI i m0 m xs) {j : Nat} (hj : j + 1 < xs.length) {x y : Mt} (hx : xs.getD j m0t = x) (hy : xs.getD (j + 1) m0t = y) :
  RowI i m0 ((m.put i ((j + 1) * 3) [.str x.1, .int .i64 x.2.1, .bool x.2.2]).put i (j * 3) [.str y.1, .int .i64 y.2.1, .bool y.2.2]) (Go.Vd.swp m0t xs j) := by
 unfold Go.Vd.swp
 rw [hx, hy]
 exact (h.put (j := j + 1) hj).put (by rw [List.length_set]; omega)
theorem h108 (a b : Mt) : F108 [mtD a, mtD b] = some (.int .i64 (Ep a.1 b.1)) := rfl
theorem loop302i {S : Summs} {fr i : Id} {n : Nat} {m0 : Mem} {i8 : Nat} {Q : Ex → St → Prop} (s108 : S 108 = some (Ai F108)) (hn : n ≤ 1000) :
  ∀ (j : Nat) (xs : List Mt) st g, xs.length = n → j < n → st.s 0 = .row i n → st.s 1 = .int .i64 0 → st.s 2 = .int .i64 (n : Int) → st.s 3 = .fn 108 [] → st.s 8 = .int .i64 (i8 : Int) → st.s 9 = .int .i64 (j : Int) → RowI i m0 st.m xs →
   (∀ st', st'.s 0 = .row i n → st'.s 1 = .int .i64 0 → st'.s 2 = .int .i64 (n : Int) → st'.s 3 = .fn 108 [] → st'.s 8 = .int .i64 (i8 : Int) → RowI i m0 st'.m (insE ltM m0t xs j) → Q (.exit 2) st') → AV S fr dc302l0 Q st g := by
 intro j
 induction j with
 | zero =>
  intro xs st g hl hj h0 h1 h2 h3 h8 h9 I hex
  refine Ad dc302l0.eq_1 ?_
  have hgt : ¬ ((0 : Int) < ((0 : Nat) : Int)) := by omega
  simp only [↓go1, go2, go4, reduceIte, Nat.reduceEqDiff, Nat.reduceAdd, h1, h9, hgt]
  refine AA.intro (Al rfl) ?_
  simp only [↓go1, go2, reduceIte, Nat.reduceEqDiff]
  exact hex _ h0 h1 h2 h3 h8 I
 | succ j ih =>
  intro xs st g hl hj h0 h1 h2 h3 h8 h9 I hex
  refine Ad dc302l0.eq_1 ?_
  have hgt : ((0 : Int) < ((j + 1 : Nat) : Int)) := by omega
  have w1 : IntKind.i64.wrap (((j + 1 : Nat) : Int) - 1) = (j : Int) := by rw [w64 (by omega) (by omega)]; omega
  have hj0 : (0 : Int) ≤ (j : Int) := by omega
  have hj1 : (0 : Int) ≤ ((j + 1 : Nat) : Int) := by omega
  have hjn : ((j : Int) < (n : Int)) := by omega
  have hj1n : (((j + 1 : Nat) : Int) < (n : Int)) := by omega
  have bn : (3 = 1) = False := by simp
  obtain ⟨a0, a1, a2⟩ := I.row j (by omega)
  obtain ⟨b0, b1, b2⟩ := I.row (j + 1) (by omega)
  obtain ⟨x, hx⟩ : ∃ x, xs.getD j m0t = x := ⟨_, rfl⟩
  obtain ⟨y, hy⟩ : ∃ y, xs.getD (j + 1) m0t = y := ⟨_, rfl⟩
  have hst := hex
  unfold insE at hst
  have hlt : ltM (xs.getD (j + 1) m0t) (xs.getD j m0t) = decide (Ep (xs.getD (j + 1) m0t).1 (xs.getD j m0t).1 < 0) := rfl
  rw [hlt] at hst
  rw [hx] at a0 a1 a2 hst
  rw [hy] at b0 b1 b2 hst
  clear hlt
  have hc := h108 y x
  simp only [mtD] at hc
  obtain ⟨st_s, st_m, st_c⟩ := st
  simp only at h0 h1 h2 h3 h8 h9 a0 a1 a2 b0 b1 b2 I
  by_cases hlt : Ep y.1 x.1 < 0
  ·rw [if_pos (by simpa using hlt)] at hst
   have q1 : ((j + 1) * 3 ≤ j * 3) = False := eq_false (by omega)
   have q2 : ((j + 1) * 3 ≤ j * 3 + 1) = False := eq_false (by omega)
   have q3 : ((j + 1) * 3 ≤ j * 3 + 1 + 1) = False := eq_false (by omega)
   have hlt' : decide (Ep y.1 x.1 < 0) = true := by simpa using hlt
   simp only [↓go1, go2, go3, go4, reduceIte, Nat.reduceEqDiff, Nat.reduceAdd, h0, h1, h3, h9, hgt, hj0, hj1, hjn, hj1n, w1, bn, Int.toNat_natCast, a0, a1, a2, b0, b1, b2, hlt, Aa s108, hc, Ag, Ah, and_self, Option.bind_some]
   refine AA.intro (Al rfl) ?_
   simp only [↓go1, go2, go3, reduceIte, Nat.reduceEqDiff, Nat.reduceAdd, h0, h9, hj0, hj1, hjn, hj1n, w1, bn, Int.toNat_natCast, a0, a1, a2, b0, b1, b2, q1, q2, q3, false_and, and_false, Ac, Ag, Ah, List.length_cons, List.length_nil, Nat.zero_add, and_self, Option.bind_some, Option.isSome_some]
   refine AA.intro (Al rfl) ?_
   simp only [↓go1, go2, reduceIte, Nat.reduceEqDiff, Nat.reduceAdd, h9, w1, bn]
   refine ih _ _ _ (by rw [swp_len]; exact hl) (by omega) h0 h1 h2 h3 h8 rfl ?_ hst
   exact I.swp (by omega) hx hy
  ·rw [if_neg (by simpa using hlt)] at hst
   simp only [↓go1, go2, go3, go4, reduceIte, Nat.reduceEqDiff, Nat.reduceAdd, h0, h1, h3, h9, hgt, hj0, hj1, hjn, hj1n, w1, bn, Int.toNat_natCast, a0, a1, a2, b0, b1, b2, hlt, Aa s108, hc, Ag, Ah, and_self, Option.bind_some]
   refine AA.intro (Al rfl) ?_
   simp only [↓go1, go2, reduceIte, Nat.reduceEqDiff, bn]
   exact hst _ h0 h1 h2 h3 h8 I
theorem loop302o {S : Summs} {fr i : Id} {n : Nat} {m0 : Mem} {Q : Ex → St → Prop} (s108 : S 108 = some (Ai F108)) (hn : n ≤ 1000) {zs : List Mt}
  (hexit : ∀ st, RowI i m0 st.m zs → Q (.exit 0) st) :
  ∀ (f k : Nat) (xs : List Mt) st g, xs.length = n → k + f = n → Cu ltM m0t f k xs = zs → st.s 0 = .row i n → st.s 1 = .int .i64 0 → st.s 2 = .int .i64 (n : Int) → st.s 3 = .fn 108 [] → st.s 8 = .int .i64 (k : Int) → RowI i m0 st.m xs →
   AV S fr dc302l1 Q st g := by
 intro f
 induction f with
 | zero =>
  intro k xs st g hl hk hz h0 h1 h2 h3 h8 I
  refine Ad dc302l1.eq_1 ?_
  have : ¬ ((k : Int) < n) := by omega
  simp only [↓go1, go2, go4, reduceIte, Nat.reduceEqDiff, Nat.reduceAdd, h2, h8, this]
  exact hexit _ (by rw [← hz]; exact I)
 | succ f ih =>
  intro k xs st g hl hk hz h0 h1 h2 h3 h8 I
  refine Ad dc302l1.eq_1 ?_
  have hlt : ((k : Int) < n) := by omega
  have hw : IntKind.i64.wrap ((k : Int) + 1) = ((k + 1 : Nat) : Int) := w64 (by omega) (by omega)
  simp only [↓go1, go2, go4, reduceIte, Nat.reduceEqDiff, Nat.reduceAdd, h2, h8, hlt]
  refine loop302i (i8 := k) (m0 := m0) s108 hn k xs _ _ hl (by omega) h0 h1 h2 h3 h8 rfl I (fun st' g0 g1 g2 g3 g8 I' => ?_)
  simp only [↓go1, go2, reduceIte, Nat.reduceEqDiff, Nat.reduceAdd, g8, hw]
  exact ih (k + 1) _ _ _ (by rw [insE_len]; exact hl) (by omega) hz g0 g1 g2 g3 rfl I'
def rowR (m : Mem) (i : Id) : Nat → Nat → Option (List Mt)
 | 0, _ => some []
 | f + 1, j => match m i (j * 3), m i (j * 3 + 1), m i (j * 3 + 2), rowR m i f (j + 1) with
  | some (.str p), some (.int .i64 q), some (.bool b), some l => some ((p, q, b) :: l)
  | _, _, _, _ => none
theorem rowR_some {m : Mem} {i : Id} : ∀ {f j : Nat} {xs : List Mt}, rowR m i f j = some xs → xs.length = f ∧ ∀ k, k < f → m i ((j + k) * 3) = some (.str (xs.getD k m0t).1) ∧ m i ((j + k) * 3 + 1) = some (.int .i64 (xs.getD k m0t).2.1) ∧ m i ((j + k) * 3 + 2) = some (.bool (xs.getD k m0t).2.2)
 | 0, j, xs, h => by
  simp only [rowR, Option.some.injEq] at h; subst h
  exact ⟨rfl, fun k hk => absurd hk (Nat.not_lt_zero _)⟩
 | f + 1, j, xs, h => by
  unfold rowR at h
  split at h
  ·rename_i p q b l e1 e2 e3 e4
   simp only [Option.some.injEq] at h; subst h
   obtain ⟨r1, r2⟩ := rowR_some e4
   refine ⟨by simp [r1], fun k hk => ?_⟩
   cases k with
   | zero => exact ⟨e1, e2, e3⟩
   | succ k =>
    have := r2 k (by omega)
    rw [show j + 1 + k = j + (k + 1) by omega] at this
    exact this
  ·cases h
theorem rowR_loc {m m' : Mem} {i : Id} : ∀ {f j n : Nat}, j + f ≤ n → (∀ o, o < n * 3 → m i o = m' i o) → rowR m i f j = rowR m' i f j
 | 0, j, n, _, _ => rfl
 | f + 1, j, n, hn, h => by
  unfold rowR
  rw [h (j * 3) (by omega), h (j * 3 + 1) (by omega), h (j * 3 + 2) (by omega), rowR_loc (f := f) (j := j + 1) (by omega) h]
theorem rowR_of {m : Mem} {i : Id} {xs : List Mt} (h : ∀ j d, (flat (Ar xs))[j]? = some d → m i j = some d) : rowR m i xs.length 0 = some xs := by
 have key : ∀ (ys pre : List Mt), pre ++ ys = xs → rowR m i ys.length pre.length = some ys := by
  intro ys
  induction ys with
  | nil => intro pre _; rfl
  | cons y r ih =>
   intro pre hp
   have hsz : ∀ x ∈ Ar xs, x.cells.length = 3 := fun x hx => by obtain ⟨z, _, rfl⟩ := List.mem_map.1 hx; rfl
   have hlt : pre.length < (Ar xs).length := by rw [Aq, ← hp]; simp
   have hg : (Ar xs)[pre.length] = mtD y := by simp [Ar, ← hp]
   have e0 := h _ _ ((DE hsz hlt (j := 0) (by omega)).trans (by rw [hg]; rfl))
   have e1 := h _ _ ((DE hsz hlt (j := 1) (by omega)).trans (by rw [hg]; rfl))
   have e2 := h _ _ ((DE hsz hlt (j := 2) (by omega)).trans (by rw [hg]; rfl))
   have := ih (pre ++ [y]) (by rw [← hp]; simp)
   rw [List.length_append] at this
   rw [Nat.add_zero] at e0
   have this : rowR m i r.length (pre.length + 1) = some r := this
   simp only [List.length_cons, rowR, e0, e1, e2, this]
 exact key xs [] rfl
def sortU (m : Mem) (i : Id) (n : Nat) : Option (D × Upd) := if n ≤ 12 ∧ 1 ≤ n then (rowR m i n 0).map fun xs => (.tup [], [(i, 0, flat (Ar (Cu ltM m0t (n - 1) 1 xs)))]) else none
def Ds (sh : List D → Option (Id × Nat)) : Summ where
 rd := fun ds _ => match sh ds with
  | some (i, n) => (List.range (n * 3)).map fun o => (i, o)
  | none => []
 ex := fun ds m _ => match sh ds with
  | some (i, n) => sortU m i n
  | none => none
theorem sortQ_loc (sh : List D → Option (Id × Nat)) : ∀ ds m m' fr, (∀ l ∈ (Ds sh).rd ds m, m l.1 l.2 = m' l.1 l.2) → (Ds sh).ex ds m fr = (Ds sh).ex ds m' fr := by
 intro ds m m' fr h
 simp only [Ds] at h ⊢
 cases hs : sh ds with
 | none => rfl
 | some p =>
  obtain ⟨i, n⟩ := p
  simp only [hs] at h ⊢
  unfold sortU
  split
  ·rw [rowR_loc (m := m) (m' := m') (n := n) (by omega) fun o ho => h (i, o) (List.mem_map.2 ⟨o, by simpa using ho, rfl⟩)]
  ·rfl
theorem sortQ_some {sh : List D → Option (Id × Nat)} {ds : List D} {m : Mem} {fr : Id} {r : D} {u : Upd} (h : (Ds sh).ex ds m fr = some (r, u)) :
  ∃ i n xs, sh ds = some (i, n) ∧ n ≤ 12 ∧ 1 ≤ n ∧ rowR m i n 0 = some xs ∧ xs.length = n ∧ RowI i m m xs ∧ r = .tup [] ∧ u = [(i, 0, flat (Ar (Cu ltM m0t (n - 1) 1 xs)))] := by
 simp only [Ds] at h
 cases hs : sh ds with
 | none => rw [hs] at h; cases h
 | some p =>
  obtain ⟨i, n⟩ := p
  simp only [hs] at h
  unfold sortU at h
  split at h
  ·rename_i hc
   rw [Option.map_eq_some_iff] at h
   obtain ⟨xs, hx, h⟩ := h
   simp only [Prod.mk.injEq] at h
   obtain ⟨rfl, rfl⟩ := h
   obtain ⟨r1, r2⟩ := rowR_some hx
   exact ⟨i, n, xs, rfl, hc.1, hc.2, hx, r1, ⟨fun j hj => by have := r2 j (by omega); rwa [Nat.zero_add] at this, fun _ _ _ => rfl⟩, rfl, rfl⟩
  ·cases h
theorem RowI.fin {i : Id} {m0 m : Mem} {xs : List Mt} (h : RowI i m0 m xs) : ∀ i' o x, (m0.put i 0 (flat (Ar xs))) i' o = some x → m i' o = some x := by
 intro i' o x hx
 have hsz : ∀ x ∈ Ar xs, x.cells.length = 3 := fun x hx => by obtain ⟨z, _, rfl⟩ := List.mem_map.1 hx; rfl
 have hfl := BP hsz
 rw [Aq] at hfl
 rw [Ac] at hx
 split at hx
 ·rename_i hc
  obtain ⟨rfl, _, ho⟩ := hc
  rw [Nat.sub_zero] at hx
  have hk : o / 3 < xs.length := by omega
  have hlt : o / 3 < (Ar xs).length := by rw [Aq]; exact hk
  have hg : (Ar xs)[o / 3] = mtD (xs.getD (o / 3) m0t) := by simp [Ar, List.getElem?_eq_getElem hk]
  obtain ⟨a0, a1, a2⟩ := h.row (o / 3) hk
  have hj : o % 3 < 3 := Nat.mod_lt _ (by omega)
  have e : o / 3 * 3 + o % 3 = o := by omega
  have := DE hsz hlt hj
  rw [e, hx, hg] at this
  have h3 : o % 3 = 0 ∨ o % 3 = 1 ∨ o % 3 = 2 := by omega
  rcases h3 with h3 | h3 | h3
  ·rw [h3] at this e; rw [Nat.add_zero] at e
   rw [← e, a0, this]; rfl
  ·rw [h3] at this e; rw [← e, a1, this]; rfl
  ·rw [h3] at this e; rw [← e, a2, this]; rfl
 ·rename_i hc
  rw [← hx]
  refine h.out i' o ?_
  by_cases e : i' = i
  ·right
   rcases Nat.lt_or_ge o (xs.length * 3) with hl | hl
   ·exact absurd ⟨e, Nat.zero_le _, by omega⟩ hc
   ·exact hl
  ·exact .inl e
def sh302 : List D → Option (Id × Nat)
 | [.row i n, .int .i64 0, .int .i64 k, .fn 108 []] => if k = (n : Int) then some (i, n) else none
 | _ => none
theorem ok302 : (Ds sh302).ok Tryz.prog 302 := by
 obtain ⟨S, hS, hl⟩ := AJ (Ab ok108 Ae)
 have s108 := hl 108 _ rfl
 clear hl
 refine opn_ok hS fn302 (sortQ_loc _) (fun ds m fr r u hex hfr => ?_)
 obtain ⟨i, n, xs, hsh, hn, hn1, hr, hl, I, rfl, rfl⟩ := sortQ_some hex
 unfold sh302 at hsh
 split at hsh
 ·split at hsh
  ·rename_i hk
   simp only [Option.some.injEq, Prod.mk.injEq] at hsh
   obtain ⟨rfl, rfl⟩ := hsh
   subst hk
   refine ⟨by simp, ?_⟩
   rename_i i n
   have hw : IntKind.i64.wrap ((0 : Int) + 1) = ((1 : Nat) : Int) := rfl
   unfold dc302
   simp only [↓go1, go2, reduceIte, Nat.reduceEqDiff, Nat.reduceAdd, hw]
   refine loop302o (m0 := m) (zs := Cu ltM m0t (n - 1) 1 xs) s108 (by omega) (fun st' I' => ?_) (n - 1) 1 xs _ _ hl (by omega) rfl rfl rfl rfl rfl rfl I
   simp only [↓go1, go2, go4, reduceIte]
   exact I'.fin
  ·cases hsh
 ·cases hsh
def sh208 : List D → Option (Id × Nat)
 | [.row i n, .int .i64 0, .int .i64 k, .int .i64 _, .fn 108 []] => if k = (n : Int) then some (i, n) else none
 | _ => none
theorem ok208 : (Ds sh208).ok Tryz.prog 208 := by
 obtain ⟨S, hS, hl⟩ := AJ (Ab ok302 Ae)
 have s302 := hl 302 _ rfl
 clear hl
 refine opn_ok hS fn208 (sortQ_loc _) (fun ds m fr r u hex hfr => ?_)
 obtain ⟨i, n, xs, hsh, hn, hn1, hr, hl, I, rfl, rfl⟩ := sortQ_some hex
 unfold sh208 at hsh
 split at hsh
 ·split at hsh
  ·rename_i hk
   simp only [Option.some.injEq, Prod.mk.injEq] at hsh
   obtain ⟨rfl, rfl⟩ := hsh
   subst hk
   refine ⟨by simp, ?_⟩
   rename_i i n _
   have hw : IntKind.i64.wrap ((n : Int) - 0) = (n : Int) := by rw [w64 (by omega) (by omega)]; omega
   have hle : ((n : Int) ≤ 12) := by omega
   have hg : ∀ fr, (Ds sh302).ex ([.row i n, .int .i64 0, .int .i64 (n : Int), .fn 108 []] ++ []) m fr = some (.tup [], [(i, 0, flat (Ar (Cu ltM m0t (n - 1) 1 xs)))]) := by
    intro fr
    simp only [Ds, sh302, List.append_nil, if_true, sortU, hn, hn1, and_self, hr, Option.map_some]
   unfold dc208
   simp only [↓go1, go2, Nat.reduceAdd]
   refine Ad dc208l0.eq_1 ?_
   simp only [↓go1, go2, go4, reduceIte, Nat.reduceEqDiff, Nat.reduceAdd, hw, hle]
   rw [AK s302]
   refine Got.intro (hg _) ?_
   simp only [↓go1, go2, go4]
   exact fun _ _ _ h => h
  ·cases hsh
 ·cases hsh
def R311 : List D → Option D := EG (fun _ => none) 25 dc311 [.t 2] 60
theorem ok311 : (Ai R311).ok Tryz.prog 311 := Dq Au fn311 60
def R209 : List D → Option D := EG (Dr [(311, Ai R311)]) 8 dc209 [.t 2] 60
theorem ok209 : (Ai R209).ok Tryz.prog 209 := Dq (Ab ok311 Ae) fn209 60
def isI : Option D → Bool
 | some (.int .i64 _) => true
 | _ => false
theorem R209_all : (List.range 13).all (fun n => isI (R209 [.int .u64 (n : Nat)])) = true := by kernel_rfl
theorem R209_get {n : Nat} (h : n ≤ 12) : ∃ k, R209 [.int .u64 (n : Nat)] = some (.int .i64 k) := by
 have := List.all_eq_true.1 R209_all n (by simp; omega)
 generalize R209 [.int .u64 (n : Nat)] = r at this
 unfold isI at this
 split at this
 ·exact ⟨_, rfl⟩
 ·cases this
def sh107 : List D → Option (Id × Nat)
 | [.row i n, .fn 108 []] => some (i, n)
 | _ => none
theorem ok107 : (Ds sh107).ok Tryz.prog 107 := by
 obtain ⟨S, hS, hl⟩ := AJ (Ab ok209 (Ab ok208 Ae))
 have s209 := hl 209 _ rfl
 have s208 := hl 208 _ rfl
 clear hl
 refine opn_ok hS fn107 (sortQ_loc _) (fun ds m fr r u hex hfr => ?_)
 obtain ⟨i, n, xs, hsh, hn, hn1, hr, hl, I, rfl, rfl⟩ := sortQ_some hex
 unfold sh107 at hsh
 split at hsh
 ·simp only [Option.some.injEq, Prod.mk.injEq] at hsh
  obtain ⟨rfl, rfl⟩ := hsh
  refine ⟨by simp, ?_⟩
  rename_i i n
  have hw : IntKind.u64.wrap ((n : Nat) : Int) = ((n : Nat) : Int) := by simp only [IntKind.wrap, IntKind.signed, IntKind.bits, Bool.false_and, Bool.false_eq_true, if_false]; omega
  obtain ⟨k, hk⟩ := R209_get hn
  have hg : ∀ fr, (Ds sh208).ex ([.row i n, .int .i64 0, .int .i64 (n : Int), .int .i64 k, .fn 108 []] ++ []) m fr = some (.tup [], [(i, 0, flat (Ar (Cu ltM m0t (n - 1) 1 xs)))]) := by
   intro fr
   simp only [Ds, sh208, List.append_nil, if_true, sortU, hn, hn1, and_self, hr, Option.map_some]
  unfold dc107
  simp only [↓go1, go2, go3, go4, reduceIte, Nat.reduceEqDiff, Nat.reduceAdd, hw, Aa s209, hk]
  rw [AK s208]
  refine Got.intro (hg _) ?_
  simp only [↓go1, go2, go4]
  exact fun _ _ _ h => h
 ·cases hsh
theorem fn106' : Fn Tryz.prog 106 36 (dcCat 9 124 3 32 207) [.t 2] := fn106
theorem own106 : (ownS fun ds => (FcatG 3 ds).bind fun ys => if (flat ys).all D.plain = true then some ys else none).ok Tryz.prog 106 := cat_own fn106' (by omega) ok207
def FC : List D → Option (List D) := fun ds => (FcatG 3 ds).bind fun ys => if (flat ys).all D.plain = true then some ys else none
theorem mtsD_plain (l : List Mt) : (flat (Ar l)).all D.plain = true := by
 induction l with
 | nil => rfl
 | cons m r ih => simp only [Ar, List.map_cons, flat, mtD, D.cells, List.all_append, List.all_cons, List.all_nil, D.plain, Bool.and_self, Bool.true_and]; exact ih
theorem mtsD_append (a b : List Mt) : Ar (a ++ b) = Ar a ++ Ar b := List.map_append
theorem mtsD_sz (l : List Mt) : (Ar l).all (szB 3) = true := by rw [List.all_eq_true]; intro x hx; obtain ⟨y, _, rfl⟩ := List.mem_map.1 hx; rfl
theorem FC_eq {l : List Mt} {m : Mt} {nl : Bool} (hl : l.length ≤ 1000) : FC [.slice false [] [.slice nl [] (Ar l), .slice false [] [mtD m]]] = some (Ar (l ++ [m])) := by
 have hc : EI [.slice nl [] (Ar l), .slice false [] [mtD m]] = some (Ar (l ++ [m])) := by
  simp only [EI, Option.map_some, List.append_nil, mtsD_append]; rfl
 have hlen : (Ar (l ++ [m])).length = l.length + 1 := by rw [Aq, List.length_append]; rfl
 simp only [FC, FcatG, hc]
 rw [if_pos ⟨by simp, by omega, by omega, mtsD_sz _⟩, Option.bind_some, if_pos (mtsD_plain _)]
def addE (l : List Mt) (m : Mt) : Option (List Mt) × Int :=
 if CT m.1 m.2.1 ≠ 0 then (none, CT m.1 m.2.1) else if 0 ≤ Cg l m.1 then (none, 20) else if DO m.1 (l.map (·.1)) = true then (none, 15) else if 4 ≤ l.length then (none, 24)
 else (some (Cu ltM m0t l.length 1 (l ++ [m])), 0)
def tabD (nl : Bool) (l : List Mt) (o : Option (List Mt)) : D := match o with
 | none => .agg [.slice nl [] (Ar l)]
 | some l' => .agg [.slice false [] (Ar l')]
open Classical in
noncomputable def F45 : List D → Option D
 | [.agg [.slice nl _ xs], .agg [.str p, .int .i64 q, .bool b]] => if mtsOk nl xs ∧ xs.length ≤ 1000 ∧ p.length ≤ 1000000 then some (.tup [tabD nl (Bw xs) (addE (Bw xs) (p, q, b)).1, .int .i64 (addE (Bw xs) (p, q, b)).2]) else none
 | _ => none
open Classical in
theorem F45_eq {nl : Bool} {t : Id} {l : List Mt} {m : Mt} (hl : l.length ≤ 1000) (hn : nl = true → l = []) (hp : m.1.length ≤ 1000000) : F45 [.agg [.slice nl t (Ar l)], mtD m] = some (.tup [tabD nl l (addE l m).1, .int .i64 (addE l m).2]) := by
 have h : mtsOk nl (Ar l) ∧ (Ar l).length ≤ 1000 ∧ m.1.length ≤ 1000000 := ⟨mtsOk_mk (by omega) hn, by rw [Aq]; exact hl, hp⟩
 show (if _ then _ else _) = _
 rw [if_pos h, AY]
theorem row_data {i : Id} {n : Nat} : (D.row i n).data = true := rfl
theorem row_cells {i : Id} {n : Nat} : (D.row i n).cells = [.row i n] := rfl
theorem mtsD_calmR (nl : Bool) (l : List Mt) (o : Option (List Mt)) (e : Int) : (D.tup [tabD nl l o, .int .i64 e]).calmR = true := by
 cases o <;> rfl
theorem ok45 : (Ai F45).ok Tryz.prog 45 := by
 obtain ⟨S, hS, hl⟩ := AJ (Ab ok102 (Ab ok103 (Ab ok104 (Ab ok105 (Ab own106 (Ab ok107 Ae))))))
 have s102 := hl 102 _ rfl
 have s103 := hl 103 _ rfl
 have s104 := hl 104 _ rfl
 have s105 := hl 105 _ rfl
 have s106 := hl 106 _ rfl
 have s107 := hl 107 _ rfl
 clear hl
 refine fun_set hS fn45 (fun ds r h => ?_) (fun ds r h => ?_)
 ·unfold F45 at h; split at h
  ·simp
  ·cases h
 ·unfold F45 at h; split at h
  ·rename_i nl t xs p q b
   split at h
   ·rename_i hc
    obtain ⟨hc, hlen, hp⟩ := hc
    obtain ⟨l, rfl, hl, hn, e⟩ := mtsOk_get hc
    rw [e] at h
    rw [Aq] at hlen
    simp only [Option.some.injEq] at h
    subst h
    refine ⟨mtsD_calmR .., ?_⟩
    have h102 : F102 [.agg [.str p, .int .i64 q, .bool b]] = some (.int .i64 (CT p q)) := if_pos hp
    have h103 := F103_eq (nl := nl) (t := []) (p := p) hl
    have h105 := F105_eq (nl := nl) (t := t) hl
    have h104 := F104_eq (s := p) (nl := false) (t := []) (l := l.map (·.1)) (by simpa using hl)
    have hown : ∀ mm fr, (ownS FC).ex [D.slice false [30] [D.slice nl [] (Ar l), D.slice false [] [D.agg [D.str p, D.int IntKind.i64 q, D.bool b]]]] mm fr = some (.row fr (l.length + 1), [(fr, 0, flat (Ar (l ++ [(p, q, b)])))]) := by
     intro mm fr
     have h1 : FC ([D.slice false [30] [D.slice nl [] (Ar l), D.slice false [] [D.agg [D.str p, D.int IntKind.i64 q, D.bool b]]]].map D.un) = some (Ar (l ++ [(p, q, b)])) := FC_eq (m := (p, q, b)) hlen
     simp only [ownS, h1]
     refine (if_pos rfl).trans ?_
     rw [Option.map_some, Aq, List.length_append]; rfl
    have hsort : l.length < 4 → ∀ mm fr, (∀ (j : Nat) d, (flat (Ar (l ++ [(p, q, b)])))[j]? = some d → mm [31] j = some d) → (Ds sh107).ex [.row [31] (l.length + 1), .fn 108 []] mm fr = some (.tup [], [([31], 0, flat (Ar (Cu ltM m0t l.length 1 (l ++ [(p, q, b)]))))]) := by
     intro hl4 mm fr hm
     have hr := rowR_of hm
     rw [List.length_append] at hr
     simp only [Ds, sh107, sortU]
     rw [if_pos ⟨by omega, by omega⟩, show l.length + 1 = l.length + [(p, q, b)].length from rfl, hr]; rfl
    unfold dc45 addE
    simp only
    generalize CT p q = e1 at *
    generalize Cg l p = e2 at *
    generalize DO p (l.map (·.1)) = e3 at *
    by_cases he : e1 = 0
    ·subst he
     by_cases he2 : 0 ≤ e2
     ·simp only [↓go1, gB0, reduceIte, Nat.reduceEqDiff, Nat.reduceAdd, Aa s102, h102, Aa s103, h103, ne_eq, Nat.reduceEqDiff, Ac, Ag, Ah, Nat.reduceLT, Option.bind_some, Option.isSome_some, List.cons.injEq, Nat.zero_ne_one, and_false, Nat.succ_ne_zero, AE, A3, he2]
      exact .inr ⟨_, _, rfl, rfl, .inl (.inl rfl), .inl (.inl rfl), trivial⟩
     ·cases e3 with
      | true =>
       simp only [↓go1, gB0, reduceIte, Nat.reduceEqDiff, Nat.reduceAdd, Aa s102, h102, Aa s103, h103, Aa s104, h104, AK s105, rowS, h105, ne_eq, Nat.reduceEqDiff, Ac, Ag, Ah, Nat.reduceLT, Option.bind_some, List.cons.injEq, Nat.zero_ne_one, and_false, Nat.succ_ne_zero, he2]
       refine AA.intro (Al rfl) ?_
       simp only [↓go1, gB1, reduceIte, Nat.reduceEqDiff, Nat.reduceAdd, Nat.reduceEqDiff, Ac, Ag, Ah, Nat.zero_le, Nat.reduceLT, Nat.sub_zero, List.getElem?_cons_zero, and_self, Option.bind_some, Option.isSome_some, List.cons.injEq, Nat.zero_ne_one, Nat.succ_ne_zero, AE, A3, he2]
       exact .inr ⟨_, _, rfl, rfl, .inl (.inl rfl), .inl (.inl rfl), trivial⟩
      | false =>
       by_cases h4 : 4 ≤ l.length
       ·have h4' : (4 : Int) ≤ (l.length : Int) := by omega
        simp only [↓go1, gB0, reduceIte, Nat.reduceEqDiff, Nat.reduceAdd, Aa s102, h102, Aa s103, h103, Aa s104, h104, AK s105, rowS, h105, ne_eq, Nat.reduceEqDiff, Ac, Ag, Ah, Nat.reduceLT, Option.bind_some, List.cons.injEq, Nat.zero_ne_one, and_false, Nat.succ_ne_zero, he2]
        refine AA.intro (Al rfl) ?_
        simp only [↓go1, gB1, reduceIte, Nat.reduceEqDiff, Nat.reduceAdd, Nat.reduceEqDiff, Aq, Ac, Ag, Ah, Nat.zero_le, Nat.reduceLT, Nat.sub_zero, List.getElem?_cons_zero, and_self, Option.bind_some, Option.isSome_some, List.cons.injEq, Nat.zero_ne_one, Nat.succ_ne_zero, AE, A3, he2, h4', h4]
        exact .inr ⟨_, _, rfl, rfl, .inl (.inl rfl), .inl (.inl rfl), trivial⟩
       ·have h4' : ¬ (4 : Int) ≤ (l.length : Int) := by omega
        simp only [↓go1, gB0, reduceIte, Nat.reduceEqDiff, Nat.reduceAdd, Aa s102, h102, Aa s103, h103, Aa s104, h104, AK s105, rowS, h105, ne_eq, Nat.reduceEqDiff, Ac, Ag, Ah, Nat.reduceLT, Option.bind_some, List.cons.injEq, Nat.zero_ne_one, and_false, Nat.succ_ne_zero, he2]
        refine AA.intro (Al rfl) ?_
        simp only [↓go1, gB0, reduceIte, Nat.reduceEqDiff, Nat.reduceAdd, AK s106, Nat.reduceEqDiff, Aq, Ac, Ag, Ah, Nat.reduceLT, Option.bind_some, List.cons.injEq, Nat.zero_ne_one, and_false, Nat.succ_ne_zero, h4']
        refine Got.intro (hown _ _) ?_
        simp only [↓go1, go2, go3, go4, reduceIte, Nat.reduceEqDiff, Nat.reduceAdd, AK s107, Nat.reduceEqDiff]
        refine Got.intro (hsort (by omega) _ _ (fun j d hd => ?_)) ?_
        ·rw [Ac, if_pos ⟨rfl, Nat.zero_le _, by rw [Nat.zero_add]; exact (List.getElem?_eq_some_iff.1 hd).1⟩]; exact hd
        simp only [↓go1, gB1, reduceIte, Nat.reduceEqDiff, Nat.reduceAdd, row_data, row_cells, A2, Bt, Nat.reduceEqDiff, Ac, Ag, Ah, Nat.zero_le, Nat.reduceLT, Nat.reduceLeDiff, Nat.sub_zero, List.getElem?_cons_zero, and_self, Option.bind_some, List.take_zero, Option.isSome_some, List.drop_zero, List.drop_succ_cons, List.cons.injEq, false_and, Nat.succ_ne_zero, AE, A3, he2, h4]
        refine .inr ⟨_, _, rfl, rfl, .inr ⟨_, _, rfl, rfl, .inr ⟨[31], _, 3, ?_, rfl, ?_, ?_⟩, trivial⟩, .inl (.inl rfl), trivial⟩
        ·rw [Aq, isortR_len, List.length_append]; rfl
        ·intro x hx
         obtain ⟨y, _, rfl⟩ := List.mem_map.1 hx
         exact ⟨rfl, rfl⟩
        ·intro j x hx
         rw [Mem.put_other (by decide), Ac, if_pos ⟨rfl, Nat.zero_le _, by rw [Nat.zero_add]; exact (List.getElem?_eq_some_iff.1 hx).1⟩]; exact hx
    ·simp only [↓go1, gB0, reduceIte, Nat.reduceEqDiff, Nat.reduceAdd, Aa s102, h102, ne_eq, Nat.reduceEqDiff, Ac, Ag, Ah, Nat.reduceLT, Option.bind_some, Option.isSome_some, List.cons.injEq, Nat.zero_ne_one, and_false, Nat.succ_ne_zero, AE, A3, he]
     exact .inr ⟨_, _, rfl, rfl, .inl (.inl rfl), .inl (.inl rfl), trivial⟩
   ·cases h
  ·cases h
end Go.Vd
namespace Go.Vd
open Go.Proofs
def dc248l0 : DC := (sr [bt 12 .lss 11 10] (.seq (cd 12 .skip (.exit 0)) (.seq (.block 1 (sr [ii 13 3 9 11, lk 14 3 13, oo 7 (.alloc [(.str []), (.int .i64 0), (.bool false)]), oz (.store 3 (.t 7) (.t 14))] (sr [mm 15 1, ff 16 0 7, ll 17 16, cc 18 301 [(.t 15), (.t 17)]] (cd 18 (sr [lk 19 3 7, oz (.store 3 (.t 4) (.t 19)), ci 5 0] .ret) .skip)))) (.row [bi 20 .add 11 1, mm 11 20]))))
def dc248 : DC := (sr [oo 2 (.box (.t 0)), oo 4 (.alloc [(.str []), (.int .i64 0), (.bool false)]), ci 5 0] (.seq (sr [ff 8 0 2, ll 9 8, nn 10 false 9, ci 11 0] (.block 0 (.loop dc248l0))) (sr [oo 21 (.build [(.str []), (.int .i64 0), (.bool false)] []), oz (.store 3 (.t 4) (.t 21)), ci 5 14] .ret)))
theorem fn248 : Fn Tryz.prog 248 22 dc248 [.cell (some 3) 4, .t 5] := Ao Tryz.func248
def dc159 : DC := (sr [oo 2 (.box (.t 0)), cb 4 false] (sr [ff 8 3 2, lk 9 1 8, mm 10 1, cc 11 248 [(.t 9), (.t 10)], mm 7 11, xx 12 0 7, xx 13 1 7, oo 5 (.alloc [(.str []), (.int .i64 0), (.bool false)]), oz (.store 3 (.t 5) (.t 12)), mm 6 13] (sr [mm 14 6, bi 15 .eql 14 0, mm 4 15] .ret)))
theorem fn159 : Fn Tryz.prog 159 16 dc159 [.t 4] := Ao Tryz.func159
def dc47l0 : DC := (.seq (sr [mm 21 8, mm 22 0, nn 23 false 22, bt 24 .lss 21 23] (cd 24 .skip (.exit 0))) (.seq (.block 1 (.seq (.seq (.drawn [mm 27 0, mm 28 8, ii 29 3 27 28, ff 30 0 29, ll 31 30, ff 32 0 3, ll 33 32, cc 34 111 [(.t 31), (.t 33)], mm 35 34, og 36 (.faddr 0 (.t 3)) 8 false, og 37 (.load none (.t 36)) 8 false, og 38 (.mv (.t 0)) 8 false, og 39 (.mv (.t 8)) 8 false, og 40 (.iaddr 3 (.t 38) (.t 39)) 8 false, og 41 (.faddr 0 (.t 40)) 8 false, og 42 (.load none (.t 41)) 8 false, og 43 (.call (.c (.fn 111 [])) [(.t 37), (.t 42)]) 8 false, oo 44 (.pick (.t 35) (.c (.bool true)) (.t 43))] []) (cd 44 (sr [mm 45 0, mm 4 45, ci 5 15] .ret) .skip)) (.seq (.drawn [mm 46 0, mm 47 8, ii 48 3 46 47, ff 49 0 48, ll 50 49, ff 51 0 3, ll 52 51, bt 53 .lss 50 52] []) (cd 53 (.row [mm 54 8, bi 55 .add 54 1, mm 7 55]) .skip)))) (.row [mm 25 8, bi 26 .add 25 1, mm 8 26])))
def dc47 : DC := (sr [oo 3 (.box (.t 1)), oo 4 (.mv (.c (.slice true [] []))), ci 5 0] (sr [lk 9 3 3, cc 10 110 [(.t 9)], mm 6 10] (.seq (sr [mm 11 6, bi 12 .neq 11 0] (cd 12 (sr [mm 13 0, mm 14 6, mm 4 13, mm 5 14] .ret) .skip)) (.seq (sr [mm 15 0, ff 16 0 3, ll 17 16, cc 18 74 [(.t 15), (.t 17)], bi 19 .geq 18 0] (cd 19 (sr [mm 20 0, mm 4 20, ci 5 20] .ret) .skip)) (sr [ci 7 0] (.seq (sr [ci 8 0] (.block 0 (.loop dc47l0))) (.seq (sr [mm 56 0, nn 57 false 56, bi 58 .geq 57 4] (cd 58 (sr [mm 59 0, mm 4 59, ci 5 24] .ret) .skip)) (.seq (.drawn [oo 60 (.bslice 118 3 []), mm 61 0, mm 62 7, oo 63 (.cutl 3 (.t 61) none (some (.t 62))), oo 64 (.app 118 3 32 (.t 60) (.t 63)), lk 65 3 3, oo 66 (.bslice 118 3 [(.t 65)]), oo 67 (.app 118 3 32 (.t 64) (.t 66)), mm 68 0, mm 69 7, oo 70 (.cutl 3 (.t 68) (some (.t 69)) none), oo 71 (.app 118 3 32 (.t 67) (.t 70)), mm 4 71, ci 5 0] [(0, 5), (4, 5), (4, 6), (6, 4)]) .ret))))))))
theorem fn47 : Fn Tryz.prog 47 72 dc47 [.t 4, .t 5] := Ao Tryz.func47
end Go.Vd
namespace Go.Vd
open Go.Proofs Go.RowKit
theorem loop248 {S : Summs} {l : List Mt} {p : Bs} {nl : Bool} {t : Id} {Q : Ex → St → Prop} (hb : l.length ≤ 1000000) (s301 : S 301 = some (Ai F301))
  (hret : ∀ st (m : Mt), BC l p ≠ -1 → m = AQ l (BC l p).toNat → st.s 4 = .ptr [1] 0 → st.s 5 = .int .i64 0 → st.m [1] 0 = some (.str m.1) → st.m [1] 1 = some (.int .i64 m.2.1) → st.m [1] 2 = some (.bool m.2.2) → Q .ret st)
  (hexit : ∀ st a b c, BC l p = -1 → st.s 4 = .ptr [1] 0 → st.m [1] 0 = some a → st.m [1] 1 = some b → st.m [1] 2 = some c → Q (.exit 0) st) :
  ∀ (f j : Nat) st g a b c, l.length = j + f → (∀ i, i < j → (l.map fun m => Bx p m.1)[i]? = some false) → 2 ≤ st.c → st.s 1 = .str p → st.s 4 = .ptr [1] 0 → st.s 9 = .slice nl t (Ar l) → st.s 10 = .int .i64 (l.length : Int) → st.s 11 = .int .i64 (j : Int) →
   st.m [1] 0 = some a → st.m [1] 1 = some b → st.m [1] 2 = some c → AV S [] dc248l0 Q st g := by
 intro f
 induction f with
 | zero =>
  intro j st g a b c hf hall hc h1 h4 h9 h10 h11 hm0 hm1 hm2
  refine Ad dc248l0.eq_1 ?_
  have hlt : ¬ ((j : Int) < l.length) := by omega
  simp only [↓go1, go2, go4, reduceIte, Nat.reduceAdd, h10, h11, hlt]
  exact hexit _ a b c (DT (by rw [List.length_map]; intro i hi; exact hall i (by omega))) h4 hm0 hm1 hm2
 | succ f ih =>
  intro j st g a b c hf hall hc h1 h4 h9 h10 h11 hm0 hm1 hm2
  refine Ad dc248l0.eq_1 ?_
  have hj : j < l.length := by omega
  have hlt : ((j : Int) < l.length) := by omega
  have hj0 : (0 : Int) ≤ (j : Int) := by omega
  have hw : IntKind.i64.wrap ((j : Int) + 1) = ((j + 1 : Nat) : Int) := w64 (by omega) (by omega)
  have hat : (Ar l)[j]? = some (.agg [.str (AQ l j).1, .int .i64 (AQ l j).2.1, .bool (AQ l j).2.2]) := Cp hj
  have hbj : (l.map fun m => Bx p m.1)[j]? = some (Bx p (AQ l j).1) := by simp [AQ, List.getElem?_eq_getElem hj]
  have hne1 : ([st.c + 1 + 2] = ([1] : Id)) = False := eq_false (by simp)
  have hne2 : (([1] : Id) = [st.c + 1 + 2]) = False := eq_false (by simp)
  obtain ⟨m, hmm⟩ : ∃ m, AQ l j = m := ⟨_, rfl⟩
  rw [hmm] at hat hbj
  have h301 : F301 [.str p, .str m.1] = some (.bool (Bx p m.1)) := rfl
  obtain ⟨st_s, st_m, st_c⟩ := st
  simp only at h1 h4 h9 h10 h11 hm0 hm1 hm2 hne1 hne2 hc
  cases hq : Bx p m.1 with
  | true =>
   rw [hq] at hbj h301
   have hr : BC l p = (j : Int) := C0 hbj hall
   simp only [↓go1, gB0, reduceIte, Nat.reduceEqDiff, Nat.reduceAdd, h1, h4, h9, h10, h11, hlt, hj0, Int.toNat_natCast, hat, hne2, hm0, hm1, hm2, Aa s301, h301, Nat.le_refl, Ac, Ag, Ah, Nat.reduceLT, Option.bind_some, List.take_succ_cons, List.take_zero, Option.isSome_some]
   refine hret _ m (by rw [hr]; omega) (by rw [hr]; exact hmm.symm) h4 rfl ?_ ?_ ?_ <;> simp only [go4, reduceIte, Nat.reduceAdd, hne2, hm0, hm1, hm2, Nat.le_refl, Ac, Nat.zero_le, Nat.reduceLT, Nat.sub_zero, List.length_cons, List.length_nil, Nat.zero_add, List.getElem?_cons_zero, List.getElem?_cons_succ, and_self]
  | false =>
   rw [hq] at hbj h301
   simp only [↓go1, gB0, reduceIte, Nat.reduceEqDiff, Nat.reduceAdd, h1, h9, h10, h11, hlt, hj0, hw, Int.toNat_natCast, hat, Aa s301, h301, Nat.le_refl, Ac, Ag, Ah, Nat.reduceLT, Option.bind_some, List.take_succ_cons, List.take_zero, Option.isSome_some]
   refine ih (j + 1) _ _ a b c (by omega) (fun i hi => ?_) (by simp only; omega) h1 h4 h9 h10 rfl ?_ ?_ ?_
   ·rcases Nat.lt_or_eq_of_le (Nat.le_of_lt_succ hi) with hi | rfl
    ·exact hall i hi
    ·exact hbj
   all_goals simp only [go3, go4, reduceIte, Nat.reduceAdd, hne2, hm0, hm1, hm2, Nat.le_refl, Ac, Nat.zero_le, Nat.reduceLT, Nat.sub_zero, List.length_cons, List.length_nil, Nat.zero_add, List.getElem?_cons_zero, List.getElem?_cons_succ, and_self]
def routeD (l : List Mt) (p : Bs) : D := if BC l p = -1 then .tup [mtD m0t, .int .i64 14] else .tup [mtD (AQ l (BC l p).toNat), .int .i64 0]
open Classical in
noncomputable def F248 : List D → Option D
 | [.agg [.slice _ _ xs], .str p] => if xs = Ar (Bw xs) ∧ xs.length ≤ 1000000 then some (routeD (Bw xs) p) else none
 | _ => none
open Classical in
theorem F248_eq {nl : Bool} {t : Id} {l : List Mt} {p : Bs} (hl : l.length ≤ 1000000) : F248 [.agg [.slice nl t (Ar l)], .str p] = some (routeD l p) := by
 have h : Ar l = Ar (Bw (Ar l)) ∧ (Ar l).length ≤ 1000000 := by rw [AY, Aq]; exact ⟨rfl, hl⟩
 show (if _ then _ else _) = _
 rw [if_pos h, AY]
theorem ok248 : (Ai F248).ok Tryz.prog 248 := by
 obtain ⟨S, hS, hl⟩ := AJ (Ab ok301 Ae)
 have s301 := hl 301 _ rfl
 clear hl
 refine As (S := S) hS fn248 (fun ds r h => ?_) (fun ds r h => ?_)
 ·unfold F248 at h; split at h
  ·simp
  ·cases h
 ·unfold F248 at h; split at h
  ·rename_i nl t xs p
   split at h
   ·rename_i hc
    obtain ⟨hx, hl⟩ := hc
    simp only [Option.some.injEq] at h
    subst h
    generalize Bw xs = l at hx
    subst hx
    rw [Aq] at hl
    unfold dc248
    simp only [↓go1, gB1, reduceIte, Nat.reduceEqDiff, Nat.reduceAdd, Aq, Ac, Nat.zero_le, Nat.reduceLT, Nat.sub_zero, List.getElem?_cons_zero, and_self, List.cons.injEq, Nat.zero_ne_one]
    refine loop248 (l := l) (p := p) (nl := nl) (t := t) hl s301 (fun st m h0 h1 h4 h5 m0 m1 m2 => ?_) (fun st a b c h0 h4 m0 m1 m2 => ?_) l.length 0 _ _ (.str []) (.int .i64 0) (.bool false) (by omega) (by simp) (by simp only; omega) rfl rfl rfl rfl rfl ?_ ?_ ?_
    ·unfold routeD
     rw [if_neg h0, ← h1]
     simp only [↓go1, go2, go3, go4, Nat.reduceAdd, h4, h5, m0, m1, m2, Ag, Ah, Nat.zero_add, Option.bind_some, AE, A3]
     exact ⟨rfl, rfl⟩
    ·unfold routeD
     rw [if_pos h0]
     simp only [↓go1, gB0, reduceIte, Nat.reduceEqDiff, Nat.reduceAdd, h4, m0, m1, m2, A2, Ac, Ag, Ah, Nat.reduceLT, Option.bind_some, Option.isSome_some, AE, A3]
     exact ⟨rfl, rfl⟩
    all_goals simp only [go3, go4, reduceIte, Nat.reduceAdd, Ac, Nat.zero_le, Nat.reduceLT, Nat.sub_zero, List.length_cons, List.length_nil, Nat.zero_add, List.getElem?_cons_zero, List.getElem?_cons_succ, and_self, List.cons.injEq, and_false, Nat.succ_ne_zero]
   ·cases h
  ·cases h
open Classical in
noncomputable def F159 : List D → Option D
 | [.agg [.bool se, .int .i64 te, .str key, .slice nlm tm xs, .slice nlt tt ys], .str p] => if xs = Ar (Bw xs) ∧ xs.length ≤ 1000000 then some (.bool (decide (BC (Bw xs) p ≠ -1))) else none
 | _ => none
theorem ok159 : (Ai F159).ok Tryz.prog 159 := by
 obtain ⟨S, hS, hl⟩ := AJ (Ab ok248 Ae)
 have s248 := hl 248 _ rfl
 clear hl
 refine As (S := S) hS fn159 (fun ds r h => ?_) (fun ds r h => ?_)
 ·unfold F159 at h; split at h
  ·simp
  ·cases h
 ·unfold F159 at h; split at h
  ·rename_i se te key nlm tm xs nlt tt ys p
   split at h
   ·rename_i hc
    obtain ⟨hx, hl⟩ := hc
    simp only [Option.some.injEq] at h
    subst h
    generalize Bw xs = l at hx
    subst hx
    rw [Aq] at hl
    have h248 := F248_eq (nl := nlm) (t := []) (p := p) hl
    unfold routeD at h248
    by_cases hr : BC l p = -1
    ·rw [if_pos hr] at h248
     simp only [hr, ne_eq, not_true_eq_false, decide_false]
     unfold dc159
     simp only [↓go1, gB0, reduceIte, Nat.reduceEqDiff, Nat.reduceAdd, Aa s248, h248, mtD, Ac, Ag, Ah, Nat.reduceLT, Option.bind_some, Option.isSome_some, List.cons.injEq, Nat.succ_ne_zero]
     all_goals rfl
    ·rw [if_neg hr] at h248
     simp only [hr, ne_eq, not_false_eq_true, decide_true]
     unfold dc159
     simp only [↓go1, gB0, reduceIte, Nat.reduceEqDiff, Nat.reduceAdd, Aa s248, h248, mtD, Ac, Ag, Ah, Nat.reduceLT, Option.bind_some, Option.isSome_some, List.cons.injEq, Nat.succ_ne_zero]
     all_goals rfl
   ·cases h
  ·cases h
def kFr (l : List Mt) (p : Bs) : Nat → Nat
 | 0 => 0
 | j + 1 => if Op.bytesLess (AQ l j).1 p = true then j + 1 else kFr l p j
theorem kFr_le (l : List Mt) (p : Bs) : ∀ j, kFr l p j ≤ j
 | 0 => Nat.le_refl _
 | j + 1 => by
  unfold kFr; split
  ·exact Nat.le_refl _
  ·exact Nat.le_succ_of_le (kFr_le l p j)
theorem nestB_at {l : List Mt} {s : Bs} {j : Nat} (hj : j < l.length) (h : (AT (AQ l j).1 s || AT s (AQ l j).1) = true) : DO s (l.map (·.1)) = true := by
 unfold DO
 rw [List.any_eq_true]
 refine ⟨(AQ l j).1, List.mem_map.2 ⟨AQ l j, by simp [AQ, List.getElem?_eq_getElem hj], rfl⟩, ?_⟩
 rw [Bool.or_comm]; exact h
theorem nestB_none {l : List Mt} {s : Bs} (h : ∀ i, i < l.length → (AT (AQ l i).1 s || AT s (AQ l i).1) = false) : DO s (l.map (·.1)) = false := by
 unfold DO
 rw [List.any_eq_false]
 intro q hq
 obtain ⟨m, hm, rfl⟩ := List.mem_map.1 hq
 obtain ⟨i, hi, rfl⟩ := List.getElem_of_mem hm
 have := h i hi
 simp only [AQ, List.getD, List.getElem?_eq_getElem hi, Option.getD_some] at this
 rw [Bool.or_comm, this]; exact Bool.false_ne_true
theorem loop47 {S : Summs} {l : List Mt} {p : Bs} {nl : Bool} {t : Id} {d1 d2 : D} {Q : Ex → St → Prop} (hb : l.length ≤ 1000) (s111 : S 111 = some (Ai F111)) (hp : ∀ m ∈ l, m.1.length ≤ 1000000) (hs : p.length ≤ 1000000)
  (hret : ∀ st, DO p (l.map (·.1)) = true → st.s 4 = .slice nl t (Ar l) → st.s 5 = .int .i64 15 → Q .ret st)
  (hexit : ∀ st, DO p (l.map (·.1)) = false → st.s 0 = .slice nl t (Ar l) → st.s 3 = .ptr [0] 0 → st.s 7 = .int .i64 (kFr l p l.length : Int) → st.m [0] 0 = some (.str p) → st.m [0] 1 = some d1 → st.m [0] 2 = some d2 → Q (.exit 0) st) :
  ∀ (f j : Nat) st g, l.length = j + f → (∀ i, i < j → (AT (AQ l i).1 p || AT p (AQ l i).1) = false) → st.s 0 = .slice nl t (Ar l) → st.s 3 = .ptr [0] 0 → st.s 7 = .int .i64 (kFr l p j : Int) → st.s 8 = .int .i64 (j : Int) →
   st.m [0] 0 = some (.str p) → st.m [0] 1 = some d1 → st.m [0] 2 = some d2 → AV S [] dc47l0 Q st g := by
 intro f
 induction f with
 | zero =>
  intro j st g hf hall h0 h3 h7 h8 hm0 hm1 hm2
  refine Ad dc47l0.eq_1 ?_
  have hlt : ¬ ((j : Int) < l.length) := by omega
  simp only [↓go1, go2, go4, reduceIte, Nat.reduceEqDiff, Nat.reduceAdd, h0, h8, hlt, Aq]
  obtain rfl : j = l.length := by omega
  exact hexit _ (nestB_none hall) h0 h3 h7 hm0 hm1 hm2
 | succ f ih =>
  intro j st g hf hall h0 h3 h7 h8 hm0 hm1 hm2
  refine Ad dc47l0.eq_1 ?_
  have hj : j < l.length := by omega
  have hlt : ((j : Int) < l.length) := by omega
  have hj0 : (0 : Int) ≤ (j : Int) := by omega
  have hw : IntKind.i64.wrap ((j : Int) + 1) = ((j + 1 : Nat) : Int) := w64 (by omega) (by omega)
  have hat : (Ar l)[j]? = some (.agg [.str (AQ l j).1, .int .i64 (AQ l j).2.1, .bool (AQ l j).2.2]) := Cp hj
  have hmem : AQ l j ∈ l := by simp [AQ, List.getElem?_eq_getElem hj]
  have hml := hp _ hmem
  have hn := nestB_at (s := p) hj
  have hk : kFr l p (j + 1) = if Op.bytesLess (AQ l j).1 p = true then j + 1 else kFr l p j := rfl
  have hall' : (AT (AQ l j).1 p || AT p (AQ l j).1) = false → ∀ i, i < j + 1 → (AT (AQ l i).1 p || AT p (AQ l i).1) = false := by
   intro hz i hi
   rcases Nat.lt_or_eq_of_le (Nat.le_of_lt_succ hi) with hi | rfl
   ·exact hall i hi
   ·exact hz
  generalize AQ l j = m at hat hml hn hk hall'
  have h111a : F111 [.str m.1, .str p] = some (.bool (AT m.1 p)) := if_pos ⟨hml, hs⟩
  have h111b : F111 [.str p, .str m.1] = some (.bool (AT p m.1)) := if_pos ⟨hs, hml⟩
  obtain ⟨st_s, st_m, st_c⟩ := st
  simp only at h0 h3 h7 h8 hm0 hm1 hm2
  cases hwa : AT m.1 p with
  | true =>
   rw [hwa] at hn h111a
   simp only [↓go1, gB1, reduceIte, Nat.reduceEqDiff, Nat.reduceAdd, h0, h3, h8, hlt, hj0, Int.toNat_natCast, hat, Aq, hm0, Aa s111, h111a, Nat.zero_le, List.drop_zero, List.head?_cons]
   refine AA.intro (Al rfl) ?_
   simp only [↓go1, go2, go3, reduceIte, Nat.reduceEqDiff, Nat.reduceAdd, h0]
   exact hret _ (hn rfl) rfl rfl
  | false =>
   cases hwb : AT p m.1 with
   | true =>
    rw [hwa, hwb] at hn; rw [hwa] at h111a; rw [hwb] at h111b
    simp only [↓go1, gB1, reduceIte, Nat.reduceEqDiff, Nat.reduceAdd, h0, h3, h8, hlt, hj0, Int.toNat_natCast, hat, Aq, hm0, Aa s111, h111a, h111b, Nat.zero_le, List.drop_zero, List.head?_cons]
    refine AA.intro (Al rfl) ?_
    simp only [↓go1, go2, go3, reduceIte, Nat.reduceEqDiff, Nat.reduceAdd, h0]
    exact hret _ (hn rfl) rfl rfl
   | false =>
    rw [hwa, hwb] at hall'; rw [hwa] at h111a; rw [hwb] at h111b
    cases hbl : Op.bytesLess m.1 p with
    | true =>
     rw [hbl, if_pos rfl] at hk
     simp only [↓go1, gB1, reduceIte, Nat.reduceEqDiff, Nat.reduceAdd, h0, h3, h8, hlt, hj0, Int.toNat_natCast, hat, Aq, hm0, Aa s111, h111a, h111b, Nat.zero_le, List.drop_zero, List.head?_cons]
     refine AA.intro (Al rfl) ?_
     simp only [↓go1, go2, go3, reduceIte, Nat.reduceEqDiff, Nat.reduceAdd, h0, h3, h8, hj0, Int.toNat_natCast, hat, hm0, Nat.zero_le, List.length_cons, List.length_nil, Nat.zero_add, List.drop_zero, List.head?_cons, v_slss, hbl]
     refine AA.intro (Al rfl) ?_
     simp only [↓go1, go2, go3, reduceIte, Nat.reduceEqDiff, Nat.reduceAdd, h8, hw]
     exact ih (j + 1) _ _ (by omega) (hall' rfl) h0 h3 (by rw [hk]; rfl) rfl hm0 hm1 hm2
    | false =>
     rw [hbl, if_neg Bool.false_ne_true] at hk
     simp only [↓go1, gB1, reduceIte, Nat.reduceEqDiff, Nat.reduceAdd, h0, h3, h8, hlt, hj0, Int.toNat_natCast, hat, Aq, hm0, Aa s111, h111a, h111b, Nat.zero_le, List.drop_zero, List.head?_cons]
     refine AA.intro (Al rfl) ?_
     simp only [↓go1, go2, go3, reduceIte, Nat.reduceEqDiff, Nat.reduceAdd, h0, h3, h8, hj0, Int.toNat_natCast, hat, hm0, Nat.zero_le, List.length_cons, List.length_nil, Nat.zero_add, List.drop_zero, List.head?_cons, v_slss, hbl]
     refine AA.intro (Al rfl) ?_
     simp only [↓go1, go2, go3, reduceIte, Nat.reduceEqDiff, Nat.reduceAdd, h8, hw]
     exact ih (j + 1) _ _ (by omega) (hall' rfl) h0 h3 (by rw [hk]; exact h7) rfl hm0 hm1 hm2
theorem mtsD_take (l : List Mt) (k : Nat) : List.take k (Ar l) = Ar (l.take k) := by simp [Ar]
theorem mtsD_drop (l : List Mt) (k : Nat) : List.drop k (Ar l) = Ar (l.drop k) := by simp [Ar]
def addR (l : List Mt) (m : Mt) : Option (List Mt) × Int :=
 if CT m.1 m.2.1 ≠ 0 then (none, CT m.1 m.2.1) else if 0 ≤ Cg l m.1 then (none, 20) else if DO m.1 (l.map (·.1)) = true then (none, 15) else if 4 ≤ l.length then (none, 24)
 else (some (l.take (kFr l m.1 l.length) ++ m :: l.drop (kFr l m.1 l.length)), 0)
def tabR (nl : Bool) (l : List Mt) (o : Option (List Mt)) : D := match o with
 | none => .slice nl [] (Ar l)
 | some l' => .slice false [] (Ar l')
open Classical in
noncomputable def F47 : List D → Option D
 | [.slice nl _ xs, .agg [.str p, .int .i64 q, .bool b]] => if mtsOk nl xs ∧ xs.length ≤ 1000 ∧ p.length ≤ 1000000 ∧ (∀ m ∈ Bw xs, m.1.length ≤ 1000000) then some (.tup [tabR nl (Bw xs) (addR (Bw xs) (p, q, b)).1, .int .i64 (addR (Bw xs) (p, q, b)).2]) else none
 | _ => none
open Classical in
theorem F47_eq {nl : Bool} {t : Id} {l : List Mt} {m : Mt} (hl : l.length ≤ 1000) (hn : nl = true → l = []) (hp : m.1.length ≤ 1000000) (hall : ∀ m ∈ l, m.1.length ≤ 1000000) : F47 [.slice nl t (Ar l), mtD m] = some (.tup [tabR nl l (addR l m).1, .int .i64 (addR l m).2]) := by
 have h : mtsOk nl (Ar l) ∧ (Ar l).length ≤ 1000 ∧ m.1.length ≤ 1000000 ∧ (∀ m ∈ Bw (Ar l), m.1.length ≤ 1000000) := ⟨mtsOk_mk (by omega) hn, by rw [Aq]; exact hl, hp, by rw [AY]; exact hall⟩
 show (if _ then _ else _) = _
 rw [if_pos h, AY]
open Classical in
theorem F74_eq {nl : Bool} {t : Id} {l : List Mt} {p : Bs} (hl : l.length ≤ 1000000) : F74 [.slice nl t (Ar l), .str p] = some (.int .i64 (Cg l p)) := by
 have h : Ar l = Ar (Bw (Ar l)) ∧ (Ar l).length ≤ 1000000 := by rw [AY, Aq]; exact ⟨rfl, hl⟩
 show (if _ then _ else _) = _
 rw [if_pos h, AY]
theorem ok47 : (Ai F47).ok Tryz.prog 47 := by
 obtain ⟨S, hS, hl⟩ := AJ (Ab ok110 (Ab ok74 (Ab ok111 Ae)))
 have s110 := hl 110 _ rfl
 have s74 := hl 74 _ rfl
 have s111 := hl 111 _ rfl
 clear hl
 refine As (S := S) hS fn47 (fun ds r h => ?_) (fun ds r h => ?_)
 ·unfold F47 at h; split at h
  ·simp
  ·cases h
 ·unfold F47 at h; split at h
  ·rename_i nl t xs p q b
   split at h
   ·rename_i hc
    obtain ⟨hc, hlen, hp, hall⟩ := hc
    obtain ⟨l, rfl, hl, hn, e⟩ := mtsOk_get hc
    rw [e] at h hall
    rw [Aq] at hlen
    simp only [Option.some.injEq] at h
    subst h
    have h110 : F110 [.agg [.str p, .int .i64 q, .bool b]] = some (.int .i64 (CT p q)) := if_pos hp
    have h74 := F74_eq (nl := nl) (t := []) (p := p) hl
    unfold dc47 addR
    simp only
    generalize CT p q = e1 at *
    generalize Cg l p = e2 at *
    by_cases he : e1 = 0
    ·subst he
     by_cases he2 : 0 ≤ e2
     ·simp only [↓go1, gB0, reduceIte, Nat.reduceEqDiff, Nat.reduceAdd, Aa s110, h110, Aa s74, h74, ne_eq, Ac, Ag, Ah, Nat.reduceLT, Option.bind_some, he2]
      cases nl <;> exact ⟨rfl, rfl⟩
     ·simp only [↓go1, gB0, reduceIte, Nat.reduceEqDiff, Nat.reduceAdd, Aa s110, h110, Aa s74, h74, ne_eq, Ac, Ag, Ah, Nat.reduceLT, Option.bind_some, he2]
      refine loop47 (l := l) (p := p) (nl := nl) (t := t) (d1 := .int .i64 q) (d2 := .bool b) hlen s111 hall hp (fun st h1 h4 h5 => ?_) (fun st h1 h0 h3 h7 m0 m1 m2 => ?_) l.length 0 _ _ (by omega) (fun i hi => absurd hi (Nat.not_lt_zero _)) rfl rfl rfl rfl ?_ ?_ ?_
      ·rw [h1]
       simp only [↓go1, go2, go3, go4, reduceIte, he2, h4, h5]
       cases nl <;> exact ⟨rfl, rfl⟩
      ·rw [h1]
       by_cases h4 : 4 ≤ l.length
       ·have h4' : (4 : Int) ≤ (l.length : Int) := by omega
        simp only [↓go1, go2, go3, go4, reduceIte, Nat.reduceEqDiff, Nat.reduceAdd, Aq, he2, h0, h4, h4']
        cases nl <;> exact ⟨rfl, rfl⟩
       ·have h4' : ¬ (4 : Int) ≤ (l.length : Int) := by omega
        have hk := kFr_le l p l.length
        generalize kFr l p l.length = k at h7 hk
        have hk0 : (0 : Int) ≤ (k : Int) := by omega
        have hkl : (k : Int) ≤ (l.length : Int) := by omega
        have hb1 : ((l.take k).length * 33 ≤ 140737488355328) = True := eq_true (by rw [List.length_take]; omega)
        have hb2 : (((l.take k).length + 1) * 33 ≤ 140737488355328) = True := eq_true (by rw [List.length_take]; omega)
        have hb3 : (((l.take k).length + 1 + (l.drop k).length) * 33 ≤ 140737488355328) = True := eq_true (by rw [List.length_take, List.length_drop]; omega)
        have hdr : List.take (l.length - k) (List.drop k l) = List.drop k l := List.take_of_length_le (by rw [List.length_drop]; exact Nat.le_refl _)
        have hd1 : D.headSz [D.agg [.str p, .int .i64 q, .bool b]] 3 = 3 := rfl
        have hkk : (k ≤ l.length) = True := eq_true hk
        simp only [↓go1, gB0, reduceIte, Nat.reduceEqDiff, Nat.reduceAdd, ne_eq, Aq, Ac, Ag, Ah, Nat.reduceLT, Option.bind_some, List.drop_zero, List.cons.injEq, false_and, and_false, h0, h3, h7, m0, m1, m2, h4', hk0, hkl, Int.toNat_natCast, DA, C_, List.nil_append, reduceCtorEq, mtsD_head, mtsD_take, mtsD_drop, List.drop_zero, List.length_append, hb1, hb2, hb3, or_true, hd1, ite_self, hdr]
        refine AA.intro (Al ?_) ?_
        ·simp only [Bh, List.all_cons, List.all_nil, List.getD, List.getElem?_cons_zero, List.getElem?_cons_succ, Option.getD_some, A1, List.length_cons, List.length_nil, List.flatMap_cons, List.flatMap_nil, rds, ↓go1, reduceIte, Nat.reduceEqDiff, h3]
         simp [AG]
        simp only [↓go1, go2, go3, go4, reduceIte, Nat.reduceEqDiff, List.drop_zero, he2, h4, mtsD_take, mtsD_drop, List.drop_zero, ite_self, hdr]
        have e9 : Ar (List.take k l) ++ [D.agg [.str p, .int .i64 q, .bool b]] ++ Ar (List.drop k l) = Ar (List.take k l ++ (p, q, b) :: List.drop k l) := by simp [Ar, mtD]
        rw [e9]
        exact ⟨rfl, rfl⟩
      all_goals simp only [go3, reduceIte, Nat.reduceAdd, Ac, Nat.zero_le, Nat.reduceLT, Nat.sub_zero, List.length_cons, List.length_nil, Nat.zero_add, List.getElem?_cons_zero, List.getElem?_cons_succ, and_self]
    ·simp only [↓go1, gB0, reduceIte, Nat.reduceEqDiff, Nat.reduceAdd, Aa s110, h110, ne_eq, Ac, Ag, Ah, Nat.reduceLT, Option.bind_some, he]
     cases nl <;> exact ⟨rfl, rfl⟩
   ·cases h
  ·cases h
theorem tksD_take (l : List Tk) (k : Nat) : List.take k (AC l) = AC (l.take k) := by simp [AC]
theorem tksD_drop (l : List Tk) (k : Nat) : List.drop k (AC l) = AC (l.drop k) := by simp [AC]
def CZ (l : List Tk) (n : Bs) : Nat → Nat → Nat
 | 0, j => j
 | f + 1, j => if Op.bytesLess (AO l j).1 n = true then CZ l n f (j + 1) else j
theorem intoR_le (l : List Tk) (n : Bs) : ∀ f j, CZ l n f j ≤ j + f
 | 0, j => Nat.le_refl _
 | f + 1, j => by
  unfold CZ; split
  ·have := intoR_le l n f (j + 1); omega
  ·omega
theorem loop119 {S : Summs} {l : List Tk} {n : Bs} {nl : Bool} {t : Id} {d1 d2 : D} {e : Nat} {Q : Ex → St → Prop} (hb : l.length ≤ 1000000)
  (hexit : ∀ st, 1 ≤ st.c → st.s 0 = .slice nl t (AC l) → st.s 3 = .ptr [0] 0 → st.s 5 = .int .i64 (e : Int) → st.m [0] 0 = some (.str n) → st.m [0] 1 = some d1 → st.m [0] 2 = some d2 → Q (.exit 0) st) :
  ∀ (f j : Nat) st g, l.length = j + f → CZ l n f j = e → 1 ≤ st.c → st.s 0 = .slice nl t (AC l) → st.s 3 = .ptr [0] 0 → st.s 5 = .int .i64 (j : Int) →
   st.m [0] 0 = some (.str n) → st.m [0] 1 = some d1 → st.m [0] 2 = some d2 → AV S [] dc119l0 Q st g := by
 intro f
 induction f with
 | zero =>
  intro j st g hf he hc h0 h3 h5 hm0 hm1 hm2
  refine Ad dc119l0.eq_1 ?_
  have hlt : ¬ ((j : Int) < l.length) := by omega
  simp only [↓go1, go2, go4, reduceIte, Nat.reduceEqDiff, Nat.reduceAdd, h0, h5, hlt, AI]
  refine AA.intro (Al rfl) ?_
  simp only [↓go1, go2, reduceIte, Nat.reduceEqDiff]
  exact hexit _ (by simp only; omega) h0 h3 (by rw [← he]; exact h5) hm0 hm1 hm2
 | succ f ih =>
  intro j st g hf he hc h0 h3 h5 hm0 hm1 hm2
  refine Ad dc119l0.eq_1 ?_
  have hj : j < l.length := by omega
  have hlt : ((j : Int) < l.length) := by omega
  have hj0 : (0 : Int) ≤ (j : Int) := by omega
  have hw : IntKind.i64.wrap ((j : Int) + 1) = ((j + 1 : Nat) : Int) := w64 (by omega) (by omega)
  have hat : (AC l)[j]? = some (.agg [.str (AO l j).1, .str (AO l j).2.1, .slice (AO l j).2.2.1 [] (Aj (AO l j).2.2.2)]) := CC hj
  unfold CZ at he
  generalize AO l j = m at hat he
  obtain ⟨st_s, st_m, st_c⟩ := st
  simp only at h0 h3 h5 hm0 hm1 hm2 hc
  cases hbl : Op.bytesLess m.1 n with
  | true =>
   rw [hbl, if_pos rfl] at he
   simp only [↓go1, gB1, reduceIte, Nat.reduceEqDiff, Nat.reduceAdd, h0, h3, h5, hlt, hj0, Int.toNat_natCast, hat, AI, hm0, v_slss, Nat.zero_le, List.drop_zero, List.head?_cons, hbl]
   refine AA.intro (Al rfl) ?_
   simp only [↓go1, go2, go3, reduceIte, Nat.reduceEqDiff, Nat.reduceAdd, h5, hw]
   exact ih (j + 1) _ _ (by omega) he (by simp only; omega) h0 h3 rfl hm0 hm1 hm2
  | false =>
   rw [hbl, if_neg Bool.false_ne_true] at he
   simp only [↓go1, gB1, reduceIte, Nat.reduceEqDiff, Nat.reduceAdd, h0, h3, h5, hlt, hj0, Int.toNat_natCast, hat, AI, hm0, v_slss, Nat.zero_le, List.drop_zero, List.head?_cons, hbl]
   refine AA.intro (Al rfl) ?_
   simp only [↓go1, go2, go3, reduceIte, Nat.reduceEqDiff]
   exact hexit _ (by simp only; omega) h0 h3 (by rw [← he]; exact h5) hm0 hm1 hm2
def withR (l : List Tk) (k : Tk) : List Tk := l.take (CZ l k.1 l.length 0) ++ k :: l.drop (CZ l k.1 l.length 0)
open Classical in
noncomputable def F119 : List D → Option D
 | [.slice _ _ xs, .agg [.str n, .str p, .slice nl _ ys]] => if (xs = AC (BD xs) ∧ xs.length ≤ 90000) ∧ ys = Aj (A0 ys) then some (.slice false [] (AC (withR (BD xs) (n, p, nl, A0 ys)))) else none
 | _ => none
open Classical in
theorem F119_eq {nl0 nl : Bool} {t0 t : Id} {l : List Tk} {n p : Bs} {rs : List Rl} (hl : l.length ≤ 90000) : F119 [.slice nl0 t0 (AC l), .agg [.str n, .str p, .slice nl t (Aj rs)]] = some (.slice false [] (AC (withR l (n, p, nl, rs)))) := by
 have h : (AC l = AC (BD (AC l)) ∧ (AC l).length ≤ 90000) ∧ Aj rs = Aj (A0 (Aj rs)) := by rw [A5, AI, AN]; exact ⟨⟨rfl, hl⟩, rfl⟩
 show (if _ then _ else _) = _
 rw [if_pos h, A5, AN]
theorem ok119 : (Ai F119).ok Tryz.prog 119 := by
 refine As (S := fun _ => none) Au fn119 (fun ds r h => ?_) (fun ds r h => ?_)
 ·unfold F119 at h; split at h
  ·simp
  ·cases h
 ·unfold F119 at h; split at h
  ·rename_i nl0 t0 xs n p nl t ys
   split at h
   ·rename_i hc
    obtain ⟨⟨hx, hlen⟩, hy⟩ := hc
    simp only [Option.some.injEq] at h
    subst h
    generalize BD xs = l at *
    generalize A0 ys = rs at *
    subst hx hy
    rw [AI] at hlen
    unfold dc119
    simp only [↓go1, go2, go3, Nat.reduceAdd, Nat.zero_add]
    refine loop119 (l := l) (n := n) (nl := nl0) (t := t0) (d1 := .str p) (d2 := .slice nl t (Aj rs)) (e := CZ l n l.length 0) (by omega) (fun st hc h0 h3 h5 m0 m1 m2 => ?_) l.length 0 _ _ (by omega) rfl (by simp only; omega) rfl rfl rfl ?_ ?_ ?_
    ·unfold withR
     simp only
     have hk := intoR_le l n l.length 0
     generalize CZ l n l.length 0 = k at h5 hk
     rw [Nat.zero_add] at hk
     have hk0 : (0 : Int) ≤ (k : Int) := by omega
     have hkl : (k : Int) ≤ (l.length : Int) := by omega
     have hb1 : ((l.take k).length * 57 ≤ 140737488355328) = True := eq_true (by rw [List.length_take]; omega)
     have hb2 : (((l.take k).length + 1) * 57 ≤ 140737488355328) = True := eq_true (by rw [List.length_take]; omega)
     have hb3 : (((l.take k).length + 1 + (l.drop k).length) * 57 ≤ 140737488355328) = True := eq_true (by rw [List.length_take, List.length_drop]; omega)
     have hdr : List.take (l.length - k) (List.drop k l) = List.drop k l := List.take_of_length_le (by rw [List.length_drop]; exact Nat.le_refl _)
     have hd1 : D.headSz [D.agg [.str n, .str p, .slice nl [] (Aj rs)]] 3 = 3 := rfl
     have hc0 : (0 = st.c + 0) = False := eq_false (by omega)
     have hkk : (k ≤ l.length) = True := eq_true hk
     simp only [↓go1, gB0, reduceIte, Nat.reduceEqDiff, Nat.reduceAdd, hc0, h0, h3, h5, m0, m1, m2, hk0, hkl, Int.toNat_natCast, DA, C_, List.nil_append, reduceCtorEq, tksD_head, tksD_take, tksD_drop, List.drop_zero, List.length_append, hb1, hb2, hb3, or_true, hd1, ite_self, hdr, AI, ne_eq, Ac, Ag, Ah, Nat.reduceLT, Option.bind_some, List.drop_zero, List.cons.injEq, false_and, and_false]
     refine AA.intro (Al ?_) ?_
     ·simp only [Bh, List.all_cons, List.all_nil, List.getD, List.getElem?_cons_zero, List.getElem?_cons_succ, Option.getD_some, A1, List.length_cons, List.length_nil, List.flatMap_cons, List.flatMap_nil, rds, ↓go1, reduceIte, Nat.reduceEqDiff, h3]
      simp [AG]
      omega
     simp only [↓go1, go2, go3, go4, reduceIte, Nat.reduceEqDiff, tksD_take, tksD_drop, List.drop_zero, ite_self, hdr, List.drop_zero]
     have e9 : AC (List.take k l) ++ [D.agg [.str n, .str p, .slice nl [] (Aj rs)]] ++ AC (List.drop k l) = AC (List.take k l ++ (n, p, nl, rs) :: List.drop k l) := by simp [AC, tkD]
     rw [e9]
    all_goals simp only [go3, reduceIte, Nat.reduceAdd, Ac, Nat.zero_le, Nat.reduceLT, Nat.sub_zero, List.length_cons, List.length_nil, Nat.zero_add, List.getElem?_cons_zero, List.getElem?_cons_succ, and_self]
   ·cases h
  ·cases h
def makeR (l : List Tk) (k : Tk) : Option (List Tk) × Int :=
 if tokE k.1 k.2.1 k.2.2.2 ≠ 0 then (none, tokE k.1 k.2.1 k.2.2.2) else if k.2.1 = [] then (none, 2) else if 0 ≤ B8 l k.1 then (none, 20) else if B8 l k.2.1 < 0 then (none, 6)
 else if CV k.2.2.2 (AO l (B8 l k.2.1).toNat).2.2.2 = false then (none, 13) else (some (withR l k), 0)
def setR (nl : Bool) (l : List Tk) (o : Option (List Tk)) : D := match o with
 | none => .slice nl [] (AC l)
 | some l' => .slice false [] (AC l')
open Classical in
noncomputable def F52 : List D → Option D
 | [.slice nl0 _ xs, .agg [.str n, .str p, .slice nl _ ys]] => if (Df xs ∧ xs.length ≤ 90000 ∧ ∀ k ∈ BD xs, DN k.2.2.2) ∧ rlsOk nl ys ∧ DN (A0 ys) ∧ n.length ≤ 1000000 ∧ p.length ≤ 1000000
   then some (.tup [setR nl0 (BD xs) (makeR (BD xs) (n, p, nl, A0 ys)).1, .int .i64 (makeR (BD xs) (n, p, nl, A0 ys)).2]) else none
 | _ => none
open Classical in
theorem F117_eq {nl : Bool} {t : Id} {l : List Tk} {p : Bs} (hl : l.length ≤ 1000000) : F117 [.slice nl t (AC l), .str p] = some (.int .i64 (B8 l p)) := by
 have h : AC l = AC (BD (AC l)) ∧ (AC l).length ≤ 1000000 := by rw [A5, AI]; exact ⟨rfl, hl⟩
 show (if _ then _ else _) = _
 rw [if_pos h, A5]
theorem findT_lt (l : List Tk) (p : Bs) : B8 l p < l.length := by
 have := firstT_lt (l.map fun m => decide (m.1 = p))
 rw [List.length_map] at this; exact this
theorem ok52 : (Ai F52).ok Tryz.prog 52 := by
 obtain ⟨S, hS, hl⟩ := AJ (Ab ok116 (Ab ok117 (Ab ok118 (Ab ok119 Ae))))
 have s116 := hl 116 _ rfl
 have s117 := hl 117 _ rfl
 have s118 := hl 118 _ rfl
 have s119 := hl 119 _ rfl
 clear hl
 refine As (S := S) hS fn52 (fun ds r h => ?_) (fun ds r h => ?_)
 ·unfold F52 at h; split at h
  ·simp
  ·cases h
 ·unfold F52 at h; split at h
  ·rename_i nl0 t0 xs n p nl t ys
   split at h
   ·rename_i hc
    obtain ⟨⟨hc, h9, hk⟩, hr, hpo, hn, hp⟩ := hc
    obtain ⟨l, rfl, hl, e⟩ := CO hc
    obtain ⟨rs, rfl, hrl, hrn, e2⟩ := Ef hr
    rw [e, e2] at h
    rw [e] at hk
    rw [e2] at hpo
    rw [AI] at h9
    simp only [Option.some.injEq] at h
    subst h
    have h116 := F113_eq (n := n) (p := p) (nl := nl) (t := []) hrl hpo.2.1 hn hp
    have h117n := F117_eq (nl := nl0) (t := []) (p := n) hl
    have h117p := F117_eq (nl := nl0) (t := []) (p := p) hl
    have h119 := F119_eq (nl0 := nl0) (t0 := []) (n := n) (p := p) (nl := nl) (t := []) (rs := rs) h9
    have hlt := findT_lt l p
    unfold dc52 makeR
    simp only
    generalize tokE n p rs = e at *
    generalize B8 l n = fn at *
    generalize B8 l p = fp at *
    by_cases he : e = 0
    ·subst he
     by_cases hp0 : p = []
     ·subst hp0
      simp only [↓go1, gB0, reduceIte, Nat.reduceEqDiff, Nat.reduceAdd, Aa s116, h116, ne_eq, Ac, Ag, Ah, Nat.reduceLT, Option.bind_some]
      simp [setR]; rfl
     ·by_cases h1 : 0 ≤ fn
      ·simp only [↓go1, gB0, reduceIte, Nat.reduceEqDiff, Nat.reduceAdd, Aa s116, h116, Aa s117, h117n, ne_eq, Ac, Ag, Ah, Nat.reduceLT, Option.bind_some, hp0, h1]
       simp [setR]; rfl
      ·by_cases h2 : fp < 0
       ·simp only [↓go1, gB0, reduceIte, Nat.reduceEqDiff, Nat.reduceAdd, Aa s116, h116, Aa s117, h117n, h117p, ne_eq, Ac, Ag, Ah, Nat.reduceLT, Option.bind_some, hp0, h1, h2]
        simp [setR]; rfl
       ·have hi0 : (0 : Int) ≤ fp := by omega
        have hi : fp.toNat < l.length := by omega
        have hat := CC (l := l) (j := fp.toNat) hi
        have hm : AO l fp.toNat ∈ l := by simp [AO, List.getElem?_eq_getElem hi]
        have hlk := hk _ hm
        generalize AO l fp.toNat = k at hat hlk
        obtain ⟨n2, p2, nl2, rs2⟩ := k
        replace hat : (AC l)[fp.toNat]? = some (.agg [.str n2, .str p2, .slice nl2 [] (Aj rs2)]) := hat
        have h118 := F118_eq (na := nl) (nb := nl2) (ta := []) (tb := []) hrl hlk.1 hpo.2.1 hlk.2.1 hpo.2.2 hlk.2.2
        simp only at h118
        cases h3 : CV rs rs2 with
        | false =>
         rw [h3] at h118
         simp only [↓go1, gB0, reduceIte, Nat.reduceEqDiff, Nat.reduceAdd, Aa s116, h116, Aa s117, h117n, h117p, ne_eq, Ac, Ag, Ah, Nat.reduceLT, Nat.reduceLeDiff, Option.bind_some, List.drop_zero, List.drop_succ_cons, List.head?_cons, hp0, h1, h2, hi0, hat, Aa s118, h118]
         refine AA.intro (Al rfl) ?_
         simp only [↓go1, go2, go3, go4, reduceIte, Nat.reduceEqDiff, Nat.reduceAdd, hp0, h1, h2]
         simp [setR]; rfl
        | true =>
         rw [h3] at h118
         simp only [↓go1, gB0, reduceIte, Nat.reduceEqDiff, Nat.reduceAdd, Aa s116, h116, Aa s117, h117n, h117p, ne_eq, Ac, Ag, Ah, Nat.reduceLT, Nat.reduceLeDiff, Option.bind_some, List.drop_zero, List.drop_succ_cons, List.head?_cons, hp0, h1, h2, hi0, hat, Aa s118, h118]
         refine AA.intro (Al rfl) ?_
         simp only [↓go1, gB0, reduceIte, Nat.reduceEqDiff, Nat.reduceAdd, Aa s119, h119, Ac, Ag, Ah, Nat.reduceLT, Option.bind_some, hp0, h1, h2]
         simp [setR]; rfl
    ·simp only [↓go1, gB0, reduceIte, Nat.reduceEqDiff, Nat.reduceAdd, Aa s116, h116, ne_eq, Ac, Ag, Ah, Nat.reduceLT, Option.bind_some, he]
     simp [setR]; rfl
   ·cases h
  ·cases h
end Go.Vd
namespace Go.Vd
open Go.Proofs
def dc257 : DC := (sr [ci 2 0] (.seq (sr [mm 3 0] (cd 3 (sr [ci 2 0] .ret) .skip)) (sr [ci 2 4] .ret)))
theorem fn257 : Fn Tryz.prog 257 4 dc257 [.t 2] := Ao Tryz.func257
def dc258 : DC := (sr [cb 2 false] (sr [mm 3 0, oo 4 (.build [(.int .u8 0), (.str []), (.int .i64 0)] [(0, 1, (.c (.int .u8 3))), (1, 1, (.t 3))]), cc 5 98 [(.t 4)], bi 6 .eql 5 0, mm 2 6] .ret))
theorem fn258 : Fn Tryz.prog 258 7 dc258 [.t 2] := Ao Tryz.func258
def dc260 : DC := (sr [cb 2 false] (sr [mm 3 0, nn 4 false 3, bi 5 .leq 4 6, mm 6 5, og 7 (.mv (.t 0)) 3 true, og 8 (.call (.c (.fn 343 [])) [(.t 7), (.c (.fn 344 []))]) 3 true, og 9 (.un .not (.t 8)) 3 true, oo 10 (.pick (.t 6) (.t 9) (.c (.bool false))), mm 2 10] .ret))
theorem fn260 : Fn Tryz.prog 260 11 dc260 [.t 2] := Ao Tryz.func260
def dc261l0 : DC := (sr [bt 14 .lss 13 12] (.seq (cd 14 .skip (.exit 0)) (.seq (.block 1 (sr [mm 15 13, mm 5 15] (.seq (.drawn [mm 16 0, mm 17 5, ii 18 1 16 17, ll 19 18, mm 20 1, mm 21 5, ii 22 1 20 21, ll 23 22, bt 24 .neq 19 23] []) (cd 24 (sr [cb 4 false] .ret) .skip)))) (.row [bi 25 .add 13 1, mm 13 25]))))
def dc261 : DC := (sr [cb 4 false] (.seq (sr [mm 6 0, nn 7 false 6, mm 8 1, nn 9 false 8, bt 10 .neq 7 9] (cd 10 (sr [cb 4 false] .ret) .skip)) (.seq (sr [mm 11 0, nn 12 false 11, ci 13 0] (.block 0 (.loop dc261l0))) (sr [cb 4 true] .ret))))
theorem fn261 : Fn Tryz.prog 261 26 dc261 [.t 4] := Ao Tryz.func261
def dc347 : DC := (sr [oo 2 (.mv (.c (.str [])))] (.seq (sr [mm 3 0, oo 4 (.bin .eql (.t 3) (.c (.str [])))] (cd 4 (sr [oo 2 (.mv (.c (.str [45])))] .ret) .skip)) (sr [mm 5 0, mm 2 5] .ret)))
theorem fn347 : Fn Tryz.prog 347 6 dc347 [.t 2] := Ao Tryz.func347
def dc346l0 : DC := (.seq (sr [mm 11 0, bi 12 .gtr 11 0] (cd 12 .skip (.exit 0))) (.seq (.block 1 (.row [mm 15 0, bi 16 .rem 15 10, oo 17 (.idxs (.c (.str [48, 49, 50, 51, 52, 53, 54, 55, 56, 57, 97, 98, 99, 100, 101, 102])) (.t 16)), oo 18 (.bslice 5 1 [(.t 17)]), oo 19 (.b2s (.t 18)), mm 20 3, bt 21 .add 19 20, mm 3 21])) (.row [mm 13 0, bi 14 .quo 13 10, mm 0 14])))
def dc346 : DC := (sr [oo 2 (.mv (.c (.str [])))] (sr [mm 4 0, bi 5 .rem 4 10, oo 6 (.idxs (.c (.str [48, 49, 50, 51, 52, 53, 54, 55, 56, 57, 97, 98, 99, 100, 101, 102])) (.t 5)), oo 7 (.bslice 5 1 [(.t 6)]), oo 8 (.b2s (.t 7)), mm 3 8] (.seq (sr [mm 9 0, bi 10 .quo 9 10, mm 0 10] (.block 0 (.loop dc346l0))) (sr [mm 22 3, mm 2 22] .ret))))
theorem fn346 : Fn Tryz.prog 346 23 dc346 [.t 2] := Ao Tryz.func346
def dc262 : DC := (sr [cb 4 false] (sr [mm 5 0, mm 6 1, cc 7 345 [(.t 5), (.t 6)], mm 4 7] .ret))
theorem fn262 : Fn Tryz.prog 262 8 dc262 [.t 4] := Ao Tryz.func262
def dc345l0 : DC := (sr [bt 14 .lss 13 12] (.seq (cd 14 .skip (.exit 0)) (.seq (.block 1 (sr [mm 15 13, mm 5 15] (.seq (.drawn [mm 16 0, mm 17 5, ii 18 2 16 17, lk 19 2 18, mm 20 1, mm 21 5, ii 22 2 20 21, lk 23 2 22, oo 24 (.seq true [(2, 0), (0, 1)] (.t 19) (.t 23))] []) (cd 24 (sr [cb 4 false] .ret) .skip)))) (.row [bi 25 .add 13 1, mm 13 25]))))
def dc345 : DC := (sr [cb 4 false] (.seq (sr [mm 6 0, nn 7 false 6, mm 8 1, nn 9 false 8, bt 10 .neq 7 9] (cd 10 (sr [cb 4 false] .ret) .skip)) (.seq (sr [mm 11 0, nn 12 false 11, ci 13 0] (.block 0 (.loop dc345l0))) (sr [cb 4 true] .ret))))
theorem fn345 : Fn Tryz.prog 345 26 dc345 [.t 4] := Ao Tryz.func345
def dc317l0 : DC := (sr [bt 14 .lss 13 12] (.seq (cd 14 .skip (.exit 0)) (.seq (.block 1 (sr [ii 15 1 11 13, ll 16 15, mm 5 16] (.drawn [mm 17 3, mm 18 5, oo 19 (.bin .shr (.t 18) (.c (.int .u64 4))), oo 20 (.idxs (.c (.str [48, 49, 50, 51, 52, 53, 54, 55, 56, 57, 97, 98, 99, 100, 101, 102])) (.t 19)), mm 21 5, oo 22 (.bin .and (.t 21) (.c (.int .u8 15))), oo 23 (.idxs (.c (.str [48, 49, 50, 51, 52, 53, 54, 55, 56, 57, 97, 98, 99, 100, 101, 102])) (.t 22)), oo 24 (.bslice 5 1 [(.t 20), (.t 23)]), oo 25 (.app 5 1 1 (.t 17) (.t 24)), mm 3 25] []))) (.row [bi 26 .add 13 1, mm 13 26]))))
def dc317 : DC := (sr [oo 2 (.mv (.c (.str [])))] (sr [mm 6 0, nn 7 true 6, oo 8 (.bin .mul (.c (.int .i64 2)) (.t 7)), oo 9 (.mksl 5 1 1 (.int .u8 0) (.c (.int .i64 0)) (.t 8)), mm 3 9] (.seq (sr [mm 10 0, oo 11 (.s2b (.t 10)), nn 12 false 11, ci 13 0] (.block 0 (.loop dc317l0))) (sr [mm 27 3, oo 28 (.b2s (.t 27)), mm 2 28] .ret))))
theorem fn317 : Fn Tryz.prog 317 29 dc317 [.t 2] := Ao Tryz.func317
def dc348l0 : DC := (sr [bt 12 .lss 11 10] (.seq (cd 12 .skip (.exit 0)) (.seq (.block 1 (sr [mm 13 11, ii 14 1 9 11, ll 15 14, mm 4 13, mm 5 15] (.row [mm 16 3, mm 17 4, mm 18 5, cc 19 346 [(.t 18)], ii 20 1 16 17, oz (.store 1 (.t 20) (.t 19))]))) (.row [bi 21 .add 11 1, mm 11 21]))))
def dc348 : DC := (sr [oo 2 (.mv (.c (.str [])))] (sr [mm 6 0, nn 7 false 6, oo 8 (.mksl 9 1 16 (.str []) (.t 7) (.t 7)), mm 3 8] (.seq (sr [mm 9 0, nn 10 false 9, ci 11 0] (.block 0 (.loop dc348l0))) (sr [mm 22 3, cc 23 221 [(.t 22), (.c (.str [44]))], mm 2 23] .ret))))
theorem fn348 : Fn Tryz.prog 348 24 dc348 [.t 2] := Ao Tryz.func348
def dc232l0 : DC := (sr [bt 19 .lss 18 17] (.seq (cd 19 .skip (.exit 0)) (.seq (.block 1 (sr [mm 20 18, ii 21 2 16 18, lk 22 2 21, oo 7 (.alloc [(.str []), (.int .u8 0)]), mm 6 20, oz (.store 2 (.t 7) (.t 22))] (.drawn [mm 23 5, mm 24 6, ff 25 0 7, ll 26 25, oo 27 (.bin .add (.t 26) (.c (.str [58]))), ff 28 1 7, ll 29 28, cc 30 328 [(.t 29)], bt 31 .add 27 30, ii 32 1 23 24, oz (.store 1 (.t 32) (.t 31))] [(7, 3)]))) (.row [bi 33 .add 18 1, mm 18 33]))))
def dc232 : DC := (sr [oo 2 (.mv (.c (.str []))), ci 3 0] (.seq (sr [mm 8 0, cc 9 214 [(.t 8)], mm 4 9] (sr [mm 10 4, bi 11 .neq 10 0] (cd 11 (sr [mm 12 4, oo 2 (.mv (.c (.str []))), mm 3 12] .ret) .skip))) (sr [mm 13 0, nn 14 false 13, oo 15 (.mksl 9 1 16 (.str []) (.t 14) (.t 14)), mm 5 15] (.seq (sr [mm 16 0, nn 17 false 16, ci 18 0] (.block 0 (.loop dc232l0))) (sr [mm 34 5, cc 35 221 [(.t 34), (.c (.str [44]))], mm 2 35, ci 3 0] .ret)))))
theorem fn232 : Fn Tryz.prog 232 36 dc232 [.t 2, .t 3] := Ao Tryz.func232
end Go.Vd
namespace Go.Vd
open Go.RowKit
def hexD (n : Nat) : UInt8 := if n < 10 then UInt8.ofNat (48 + n) else UInt8.ofNat (87 + n)
def hexB (s : List UInt8) : List UInt8 := s.flatMap fun b => [hexD (b.toNat / 16), hexD (b.toNat % 16)]
theorem hexB_len : ∀ s : List UInt8, (hexB s).length = 2 * s.length
 | [] => rfl
 | b :: r => by
  have := hexB_len r
  simp only [hexB, List.flatMap_cons, List.length_append, List.length_cons, List.length_nil] at this ⊢
  omega
theorem Ca (a b : List UInt8) : Ay (a ++ b) = Ay a ++ Ay b := by simp [Ay]
theorem Bo (a : List UInt8) : (Ay a).length = a.length := by simp [Ay]
theorem Cj : ∀ a : List UInt8, BJ (Ay a) = some a
 | [] => rfl
 | c :: r => by
  have h := c.toNat_lt
  show (BJ (Ay r)).map _ = _
  rw [Cj r]
  simp
theorem hexTab : ∀ n, n < 16 → ([48, 49, 50, 51, 52, 53, 54, 55, 56, 57, 97, 98, 99, 100, 101, 102] : List UInt8)[n]? = some (hexD n) := by decide +kernel
theorem and15 : ∀ n : Nat, n < 256 → bits .and .u8 (n : Int) 15 = ((n % 16 : Nat) : Int) := by decide +kernel
theorem shr4 : ∀ n : Nat, n < 256 → (n : Int).fdiv (2 ^ min (4 : Int).toNat IntKind.u8.bits) = ((n / 16 : Nat) : Int) := by decide +kernel
theorem hexB_snoc (s : List UInt8) (c : UInt8) : hexB (s ++ [c]) = hexB s ++ [hexD (c.toNat / 16), hexD (c.toNat % 16)] := by simp [hexB]
def sumL : List (List UInt8) → Nat
 | [] => 0
 | w :: r => w.length + sumL r
def strR (m : Mem) (i : Id) : Nat → Nat → Option (List (List UInt8))
 | 0, _ => some []
 | f + 1, j => match m i j, strR m i f (j + 1) with
  | some (.str p), some l => some (p :: l)
  | _, _ => none
theorem strR_some {m : Mem} {i : Id} : ∀ {f j : Nat} {xs : List (List UInt8)}, strR m i f j = some xs → xs.length = f ∧ ∀ k x, xs[k]? = some x → m i (j + k) = some (.str x)
 | 0, j, xs, h => by
  simp only [strR, Option.some.injEq] at h; subst h
  exact ⟨rfl, by simp⟩
 | f + 1, j, xs, h => by
  unfold strR at h
  split at h
  ·rename_i p l e1 e2
   simp only [Option.some.injEq] at h; subst h
   obtain ⟨r1, r2⟩ := strR_some e2
   refine ⟨by simp [r1], fun k x hx => ?_⟩
   cases k with
   | zero => simp only [List.getElem?_cons_zero, Option.some.injEq] at hx; subst hx; exact e1
   | succ k =>
    have := r2 k x (by simpa using hx)
    rw [show j + 1 + k = j + (k + 1) by omega] at this
    exact this
  ·cases h
theorem strR_loc {m m' : Mem} {i : Id} : ∀ {f j n : Nat}, j + f ≤ n → (∀ o, o < n → m i o = m' i o) → strR m i f j = strR m' i f j
 | 0, j, n, _, _ => rfl
 | f + 1, j, n, hn, h => by
  unfold strR
  rw [h j (by omega), strR_loc (f := f) (j := j + 1) (by omega) h]
theorem strR_of {m : Mem} {i : Id} : ∀ {xs : List (List UInt8)} {j : Nat}, (∀ k x, xs[k]? = some x → m i (j + k) = some (.str x)) → strR m i xs.length j = some xs
 | [], j, _ => rfl
 | x :: r, j, h => by
  have h0 := h 0 x rfl
  have hr := strR_of (xs := r) (j := j + 1) (fun k y hy => by have := h (k + 1) y (by simpa using hy); rw [show j + 1 + k = j + (k + 1) by omega]; exact this)
  simp only [List.length_cons, strR, Nat.add_zero] at h0 ⊢
  rw [h0, hr]
def Bp : List (List UInt8) → List UInt8
 | [] => []
 | [w] => w
 | w :: v :: r => w ++ 44 :: Bp (v :: r)
theorem Dp : ∀ l : List (List UInt8), (Bp l).length ≤ sumL l + l.length
 | [] => by simp [Bp]
 | [w] => by simp [Bp, sumL]
 | w :: v :: r => by
  have := Dp (v :: r)
  simp only [Bp, List.length_append, List.length_cons, sumL] at this ⊢
  omega
theorem joinC_eq : ∀ l : List (List UInt8), Lib.join l [44] = Bp l
 | [] => rfl
 | [w] => Lib.join_one w [44]
 | w :: v :: r => by
  have ih := joinC_eq (v :: r)
  rw [Lib.join_cons] at ih
  rw [Lib.join_cons, Bp, ← ih]
  simp [Lib.joinTail]
def joinQ : Summ where
 rd := fun ds _ => match ds with
  | [.row i n, _] => (List.range n).map fun o => (i, o)
  | _ => []
 ex := fun ds m _ => match ds with
  | [.row i n, .str [44]] => (strR m i n 0).bind fun l => if l.length ≤ 1000 ∧ sumL l ≤ 1000000 then some (.str (Bp l), []) else none
  | _ => none
theorem joinQ_ok {P : Program} {ρ : Go.Shelf.Ren} (L : Go.Proofs.Lays.n156 P ρ) (X : Go.Proofs.Builder.Extra P ρ) (ent : ∃ fn, P.funcs[ρ.f 156]? = some fn ∧ fn.body.isSome = true ∧ (fn.name == "runtime.NumGoroutine") = false) : joinQ.ok P (ρ.f 156) := by
 refine ⟨ent, fun ds m m' fr h => ?_, ?_⟩
 ·simp only [joinQ] at h ⊢
  split
  ·rename_i i n
   simp only at h
   rw [strR_loc (m := m) (m' := m') (n := n) (by omega) fun o ho => h (i, o) (List.mem_map.2 ⟨o, by simpa using ho, rfl⟩)]
  ·rfl
 intro B w0 w m g fr ds vs r u hi hfresh hl hrep hex
 simp only [joinQ] at hex
 split at hex
 ·rename_i i n
  rw [Option.bind_eq_some_iff] at hex
  obtain ⟨l, hls, hex⟩ := hex
  split at hex
  ·rename_i hc
   obtain ⟨c1, c2⟩ := hc
   simp only [Option.some.injEq, Prod.mk.injEq] at hex
   obtain ⟨rfl, rfl⟩ := hex
   match vs, hl with
   | [v, v1], _ =>
    have h0 := hrep 0 _ v rfl rfl
    have h1 := hrep 1 _ v1 rfl rfl
    rw [h1.str_inv]
    obtain ⟨b, c, rfl, hnc, hb⟩ := h0.row_inv
    obtain ⟨hl1, hl2⟩ := strR_some hls
    obtain ⟨hBb, hGb, cur, T, hheap, hobj⟩ := hi.obj i b hb
    have hcell : ∀ (j : Nat) z, l[j]? = some z → w.cell? ⟨b, 0 + j, none⟩ = some (.string ⟨z.toArray⟩) := by
     intro j z hz
     have hm := hl2 j z hz
     rw [Nat.zero_add] at hm
     obtain ⟨v', r1, r2, r3⟩ := hobj j _ hm
     rw [r3.str_inv] at r1
     simp [World.cell?, hheap, r1]
    have hmap : (l.map fun x => (⟨x.toArray⟩ : ByteArray)).map (·.data.toList) = l := by simp [List.map_map, Function.comp_def]
    have hj : (⟨#[44]⟩ : ByteArray).data.toList = [44] := rfl
    have hjl := Dp l
    have := Go.Proofs.Any.strings_Join L X b 0 c (l.map fun x => (⟨x.toArray⟩ : ByteArray)) ⟨#[44]⟩ w (fun j x hx => by
     rw [List.getElem?_map, Option.map_eq_some_iff] at hx
     obtain ⟨z, hz, rfl⟩ := hx
     exact hcell j z hz) (hi.lt hb) (by simp; omega) (by simp; omega) (by rw [hmap, hj, joinC_eq]; omega)
    rw [hmap, hj, joinC_eq, List.length_map, hl1] at this
    refine this.mono ?_
    rintro ev w' ⟨rfl, hb⟩
    exact ⟨_, g.over w w', rfl, hi.over hb, Ext.over hi.gz hb, .str _, fun i hf _ => hf⟩
  ·cases hex
 ·cases hex
section
variable {α : Type} {mk : α → List D} {ok : α → Prop} {res : α → D}
open Classical in
noncomputable def FX (mk : α → List D) (ok : α → Prop) (res : α → D) : List D → Option D := fun ds => if h : ∃ a, ok a ∧ mk a = ds then some (res (Classical.choose h)) else none
theorem AP (inj : ∀ a b, mk a = mk b → a = b) {a : α} (ha : ok a) : FX mk ok res (mk a) = some (res a) := by
 have h : ∃ b, ok b ∧ mk b = mk a := ⟨a, ha, rfl⟩
 unfold FX
 rw [dif_pos h, inj _ _ (Classical.choose_spec h).2]
theorem FX_get {ds : List D} {r : D} (h : FX mk ok res ds = some r) : ∃ a, ok a ∧ mk a = ds ∧ res a = r := by
 unfold FX at h
 split at h
 ·rename_i hx
  simp only [Option.some.injEq] at h
  exact ⟨_, (Classical.choose_spec hx).1, (Classical.choose_spec hx).2, h⟩
 ·cases h
theorem AL {P : Program} {S : Summs} {f : FuncId} {N : Nat} {dc : DC} {rs : List RV} (hS : Summs.ok P S) (hf : Fn P f N dc rs) (hN : ∀ a, (mk a).length ≤ N)
  (hF : ∀ a, ok a → dc.wp S [] (De rs fun d _ => d.unR = res a ∧ (res a).calmR = true) ⟨Bi (mk a), fun _ _ => none, 0⟩) : (Ai (FX mk ok res)).ok P f := by
 refine As hS hf (fun ds r h => ?_) (fun ds r h => ?_)
 ·obtain ⟨a, _, rfl, _⟩ := FX_get h
  exact hN a
 ·obtain ⟨a, ha, rfl, rfl⟩ := FX_get h
  exact hF a ha
end
end Go.Vd
namespace Go.Vd
open Go.Proofs Go.RowKit
structure Ak where
 op : Int
 tk : Bs
 pa : Bs
 ot : Bs
 n : Int
 cas : Int
 fl : Bool
 nln : Bool
 ns : List Int
 da : Bs
 nlr : Bool
 rs : List Rl
 key : Bs
def By (l : List Int) : List D := l.map (.int .i64)
theorem Bb (l : List Int) : (By l).length = l.length := List.length_map ..
theorem intsD_inj : ∀ {a b : List Int}, By a = By b → a = b
 | [], [], _ => rfl
 | [], _ :: _, h => by simp [By] at h
 | _ :: _, [], h => by simp [By] at h
 | x :: a, y :: b, h => by
  simp only [By, List.map_cons, List.cons.injEq, D.int.injEq, true_and] at h
  rw [h.1, intsD_inj (a := a) (b := b) h.2]
theorem intsD_el (l : List Int) : (By l).all (elB none) = true := by rw [List.all_eq_true]; intro x hx; obtain ⟨y, _, rfl⟩ := List.mem_map.1 hx; rfl
theorem rlsD_inj {a b : List Rl} (h : Aj a = Aj b) : a = b := by rw [← AN a, h, AN]
theorem mtsD_inj {a b : List Mt} (h : Ar a = Ar b) : a = b := by rw [← AY a, h, AY]
theorem tksD_inj {a b : List Tk} (h : AC a = AC b) : a = b := by rw [← A5 a, h, A5]
def akC (a : Ak) : List D := [.int .u8 a.op, .str a.tk, .str a.pa, .str a.ot, .int .i64 a.n, .int .i64 a.cas, .bool a.fl, .slice a.nln [] (By a.ns), .str a.da, .slice a.nlr [] (Aj a.rs), .str a.key]
def akD (a : Ak) : D := .agg (akC a)
theorem BI {a b : Ak} (h : akD a = akD b) : a = b := by
 cases a; cases b
 simp only [akD, akC, D.agg.injEq, List.cons.injEq, D.int.injEq, D.str.injEq, D.bool.injEq, D.slice.injEq, true_and, and_true] at h
 obtain ⟨h1, h2, h3, h4, h5, h6, h7, ⟨h8, h9⟩, h10, ⟨h11, h12⟩, h13⟩ := h
 have e9 := intsD_inj h9
 have e12 := rlsD_inj h12
 subst h1 h2 h3 h4 h5 h6 h7 h8 h10 h11 h13 e9 e12
 rfl
def fineE (b : Bool) : Int := if b = true then 0 else 4
noncomputable def F257 : List D → Option D := FX (fun b : Bool => [.bool b]) (fun _ => True) (fun b => .int .i64 (fineE b))
theorem F257_eq (b : Bool) : F257 [.bool b] = some (.int .i64 (fineE b)) := AP (mk := fun b : Bool => [.bool b]) (fun a b h => by simpa using h) trivial
theorem ok257 : (Ai F257).ok Tryz.prog 257 := by
 refine AL (S := fun _ => none) Au fn257 (fun _ => by simp) (fun b _ => ?_)
 unfold dc257
 cases b <;> simp only [↓go1, go2, go3, go4, reduceIte, Nat.reduceEqDiff, Nat.reduceAdd]
 all_goals (first | rfl | exact ⟨rfl, rfl⟩)
noncomputable def F258 : List D → Option D := FX (fun s : Bs => [.str s]) (fun s => s.length ≤ 1000000) (fun s => .bool (BF s))
theorem F258_eq {s : Bs} (h : s.length ≤ 1000000) : F258 [.str s] = some (.bool (BF s)) := AP (mk := fun s : Bs => [.str s]) (fun a b h => by simpa using h) h
theorem ok258 : (Ai F258).ok Tryz.prog 258 := by
 obtain ⟨S, hS, hl⟩ := AJ (Ab ok98 Ae)
 have s98 := hl 98 _ rfl
 clear hl
 refine AL hS fn258 (fun _ => by simp) (fun s hs => ?_)
 have h98 : F98 [.agg [.int .u8 3, .str s, .int .i64 0]] = some (.int .i64 (rowsE 3 s 0)) := if_pos hs
 have hr : rowsE 3 s 0 = if BF s = true then 0 else 2 := by simp [rowsE]
 rw [hr] at h98
 unfold dc258
 cases hn : BF s <;> rw [hn] at h98 <;> simp only [if_true, Bool.false_eq_true, if_false] at h98
 ·simp only [↓go1, gB1, reduceIte, Nat.reduceEqDiff, Nat.reduceAdd, Aa s98, h98, A2, Bt, Nat.reduceLeDiff, and_self, List.take_succ_cons, List.take_zero, List.drop_zero, List.drop_succ_cons]
  all_goals (first | rfl | exact ⟨rfl, rfl⟩)
 ·simp only [↓go1, gB1, reduceIte, Nat.reduceEqDiff, Nat.reduceAdd, Aa s98, h98, A2, Bt, Nat.reduceLeDiff, and_self, List.take_succ_cons, List.take_zero, List.drop_zero, List.drop_succ_cons]
  all_goals (first | rfl | exact ⟨rfl, rfl⟩)
def countB (l : List Int) : Bool := decide (l.length ≤ 6) && !(l.any fun x => !decide (1 ≤ x ∧ x ≤ 999))
noncomputable def F260 : List D → Option D := FX (fun p : Bool × List Int => [.slice p.1 [] (By p.2)]) (fun p => p.2.length ≤ 1000000) (fun p => .bool (countB p.2))
theorem F260_eq {nl : Bool} {l : List Int} (h : l.length ≤ 1000000) : F260 [.slice nl [] (By l)] = some (.bool (countB l)) :=
 AP (mk := fun p : Bool × List Int => [.slice p.1 [] (By p.2)]) (a := (nl, l)) (fun a b h => by
  simp only [List.cons.injEq, D.slice.injEq, true_and, and_true] at h
  exact Prod.ext h.1 (intsD_inj h.2)) h
theorem cn343_ex {l : List Int} {nl : Bool} {t : Id} (hl : l.length ≤ 1000000) (m : Mem) (fr : Id) :
  (cnS 344 none K344).ex [.slice nl t (By l), .fn 344 []] m fr = some (.bool (l.any fun x => !decide (1 ≤ x ∧ x ≤ 999)), []) := by
 have e : (By l).map (K344 .junk) = (l.map fun x => !decide (1 ≤ x ∧ x ≤ 999)).map fun b => some (.bool b) := by
  simp only [By, List.map_map]
  exact List.map_congr_left fun r _ => rfl
 simp only [cnS, Bb, hl, intsD_el, and_self, if_true, capV, Option.bind_some, e, DZ, Option.map_some, List.any_map]
 rfl
theorem ok260 : (Ai F260).ok Tryz.prog 260 := by
 obtain ⟨S, hS, hl⟩ := AJ (Ab cn343 Ae)
 have s343 := hl 343 _ rfl
 clear hl
 refine AL hS fn260 (fun _ => by simp) (fun p hs => ?_)
 obtain ⟨nl, l⟩ := p
 have h343 := cn343_ex (nl := nl) (t := []) hs
 unfold dc260 countB
 simp only
 generalize (l.any fun x => !decide (1 ≤ x ∧ x ≤ 999)) = b at h343
 by_cases h6 : l.length ≤ 6
 ·have h6' : ((l.length : Int) ≤ 6) := by omega
  simp only [↓go1, go2, go3, go4, reduceIte, Nat.reduceEqDiff, Nat.reduceAdd, AK s343, h343, h6, h6', Bb]
  all_goals (first | rfl | exact ⟨rfl, rfl⟩)
 ·have h6' : ¬ ((l.length : Int) ≤ 6) := by omega
  simp only [↓go1, go2, go3, go4, reduceIte, Nat.reduceEqDiff, Nat.reduceAdd, h6, h6', Bb, Bool.false_and, and_self]
  all_goals (first | rfl | exact ⟨rfl, rfl⟩)
noncomputable def F261 : List D → Option D := FX (fun p : Bool × List D × Bool => [.slice p.1 [] p.2.1, .slice p.2.2 [] []]) (fun p => p.2.1.length ≤ 1000000) (fun p => .bool p.2.1.isEmpty)
theorem F261_eq {nl nl' : Bool} {l : List D} (h : l.length ≤ 1000000) : F261 [.slice nl [] l, .slice nl' [] []] = some (.bool l.isEmpty) :=
 AP (mk := fun p : Bool × List D × Bool => [.slice p.1 [] p.2.1, .slice p.2.2 [] []]) (a := (nl, l, nl')) (fun a b h => by
  simp only [List.cons.injEq, D.slice.injEq, true_and, and_true] at h
  exact Prod.ext h.1.1 (Prod.ext h.1.2 h.2)) h
theorem ok261 : (Ai F261).ok Tryz.prog 261 := by
 refine AL (S := fun _ => none) Au fn261 (fun _ => by simp) (fun p hs => ?_)
 obtain ⟨nl, l, nl'⟩ := p
 unfold dc261
 cases l with
 | nil =>
  simp only [↓go1, go2, go4, reduceIte, Nat.reduceEqDiff, Nat.reduceAdd, List.length_nil]
  have h00 : ((0 : Int) < ((0 : Nat) : Int)) = False := by simp
  refine Ad dc261l0.eq_1 ?_
  simp only [↓go1, go2, go3, go4, reduceIte, Nat.reduceEqDiff, Nat.reduceAdd, h00]
  all_goals (first | rfl | exact ⟨rfl, rfl⟩)
 | cons x r =>
  have hne : (((r.length + 1 : Nat) : Int) = ((0 : Nat) : Int)) = False := eq_false (by omega)
  simp only [↓go1, go2, go3, go4, reduceIte, Nat.reduceEqDiff, Nat.reduceAdd, List.length_cons, List.length_nil, hne]
  all_goals (first | rfl | exact ⟨rfl, rfl⟩)
theorem ok345 : (Ai F261).ok Tryz.prog 345 := by
 refine AL (S := fun _ => none) Au fn345 (fun _ => by simp) (fun p hs => ?_)
 obtain ⟨nl, l, nl'⟩ := p
 unfold dc345
 cases l with
 | nil =>
  simp only [↓go1, go2, go4, reduceIte, Nat.reduceEqDiff, Nat.reduceAdd, List.length_nil]
  have h00 : ((0 : Int) < ((0 : Nat) : Int)) = False := by simp
  refine Ad dc345l0.eq_1 ?_
  simp only [↓go1, go2, go3, go4, reduceIte, Nat.reduceEqDiff, Nat.reduceAdd, h00]
  all_goals (first | rfl | exact ⟨rfl, rfl⟩)
 | cons x r =>
  have hne : (((r.length + 1 : Nat) : Int) = ((0 : Nat) : Int)) = False := eq_false (by omega)
  simp only [↓go1, go2, go3, go4, reduceIte, Nat.reduceEqDiff, Nat.reduceAdd, List.length_cons, List.length_nil, hne]
  all_goals (first | rfl | exact ⟨rfl, rfl⟩)
noncomputable def F347 : List D → Option D := FX (fun s : Bs => [.str s]) (fun _ => True) (fun s => .str (if s = [] then [45] else s))
theorem F347_eq (s : Bs) : F347 [.str s] = some (.str (if s = [] then [45] else s)) := AP (mk := fun s : Bs => [.str s]) (fun a b h => by simpa using h) trivial
theorem ok347 : (Ai F347).ok Tryz.prog 347 := by
  refine AL (S := fun _ => none) Au fn347 (fun _ => by simp) (fun s _ => ?_)
  unfold dc347
  cases s with
  | nil => simp only [↓go1, go2, go3, go4, reduceIte, Nat.reduceEqDiff, Nat.reduceAdd, and_self]
           all_goals (first | rfl | exact ⟨rfl, rfl⟩)
  | cons x r =>
    have he : ((x :: r) == ([] : Bs)) = false := rfl
    simp only [↓go1, go2, go3, go4, reduceIte, Nat.reduceEqDiff, Nat.reduceAdd, reduceCtorEq]
    all_goals (first | rfl | exact ⟨rfl, rfl⟩)
def Ek (n : Nat) : Bs := if n < 10 then [hexD n] else if n < 100 then [hexD (n / 10), hexD (n % 10)] else [hexD (n / 100), hexD (n / 10 % 10), hexD (n % 10)]
noncomputable def F346 : List D → Option D := FX (fun n : Nat => [.int .i64 (n : Int)]) (fun n => n < 1000) (fun n => .str (Ek n))
theorem F346_eq {n : Nat} (h : n < 1000) : F346 [.int .i64 (n : Int)] = some (.str (Ek n)) := AP (mk := fun n : Nat => [.int .i64 (n : Int)]) (fun a b h => by simp only [List.cons.injEq, D.int.injEq, true_and, and_true] at h; omega) h
theorem tmod10 (n : Nat) : (n : Int).tmod 10 = ((n % 10 : Nat) : Int) := by rw [Int.tmod_eq_emod_of_nonneg (by omega)]; omega
theorem tdiv10 (n : Nat) (h : n < 1000) : IntKind.i64.wrap ((n : Int).tdiv 10) = ((n / 10 : Nat) : Int) := by
 have e : (n : Int).tdiv 10 = ((n / 10 : Nat) : Int) := by rw [Int.tdiv_eq_ediv_of_nonneg (by omega)]; omega
 rw [e]; exact w64 (by omega) (by omega)
theorem ok346 : (Ai F346).ok Tryz.prog 346 := by
 refine AL (S := fun _ => none) Au fn346 (fun _ => by simp) (fun n hn => ?_)
 have t0 := hexTab (n % 10) (by omega)
 have t1 := hexTab (n / 10 % 10) (by omega)
 have t2 := hexTab (n / 10 / 10 % 10) (by omega)
 have m0 := tmod10 n
 have m1 := tmod10 (n / 10)
 have m2 := tmod10 (n / 10 / 10)
 have d0 := tdiv10 n hn
 have d1 := tdiv10 (n / 10) (by omega)
 have d2 := tdiv10 (n / 10 / 10) (by omega)
 have z0 : (0 : Int) ≤ ((n % 10 : Nat) : Int) := by omega
 have z1 : (0 : Int) ≤ ((n / 10 % 10 : Nat) : Int) := by omega
 have z2 : (0 : Int) ≤ ((n / 10 / 10 % 10 : Nat) : Int) := by omega
 have ten : ((10 : Int) = 0) = False := by simp
 unfold dc346 Ek
 by_cases h1 : n < 10
 ·have g : ¬ ((0 : Int) < ((n / 10 : Nat) : Int)) := by omega
  have e : n % 10 = n := by omega
  simp only [↓go1, gB1, reduceIte, Nat.reduceEqDiff, Nat.reduceAdd, m0, z0, t0, d0, ten, ne_eq, Int.toNat_natCast]
  refine Ad dc346l0.eq_1 ?_
  simp only [↓go1, go2, go3, go4, reduceIte, Nat.reduceEqDiff, Nat.reduceAdd, g, h1]
  rw [e, UInt8.ofNat_toNat]
  all_goals (first | rfl | exact ⟨rfl, rfl⟩)
 ·have g : ((0 : Int) < ((n / 10 : Nat) : Int)) := by omega
  by_cases h2 : n < 100
  ·have g2 : ¬ ((0 : Int) < ((n / 10 / 10 : Nat) : Int)) := by omega
   have e : n / 10 % 10 = n / 10 := by omega
   rw [e] at t1 m1 z1
   simp only [↓go1, gB1, reduceIte, Nat.reduceEqDiff, Nat.reduceAdd, m0, z0, t0, d0, ten, ne_eq, Int.toNat_natCast]
   refine Ad dc346l0.eq_1 ?_
   simp only [↓go1, gB1, reduceIte, Nat.reduceEqDiff, Nat.reduceAdd, g, m1, z1, t1, d1, ten, ne_eq, Int.toNat_natCast, Nat.reduceLeDiff, Nat.succ_ne_zero]
   refine Ad dc346l0.eq_1 ?_
   simp only [↓go1, go2, go3, go4, reduceIte, Nat.reduceEqDiff, Nat.reduceAdd, g2, h1, h2, UInt8.ofNat_toNat, List.cons_append, List.nil_append]
   all_goals (first | rfl | exact ⟨rfl, rfl⟩)
  ·have g2 : ((0 : Int) < ((n / 10 / 10 : Nat) : Int)) := by omega
   have g3 : ¬ ((0 : Int) < ((n / 10 / 10 / 10 : Nat) : Int)) := by omega
   have e : n / 10 / 10 % 10 = n / 100 := by omega
   rw [e] at t2 m2 z2
   simp only [↓go1, gB1, reduceIte, Nat.reduceEqDiff, Nat.reduceAdd, m0, z0, t0, d0, ten, ne_eq, Int.toNat_natCast]
   refine Ad dc346l0.eq_1 ?_
   simp only [↓go1, gB1, reduceIte, Nat.reduceEqDiff, Nat.reduceAdd, g, m1, z1, t1, d1, ten, ne_eq, Int.toNat_natCast, Nat.reduceLeDiff, Nat.succ_ne_zero]
   refine Ad dc346l0.eq_1 ?_
   simp only [↓go1, gB1, reduceIte, Nat.reduceEqDiff, Nat.reduceAdd, g2, m2, z2, t2, d2, ten, ne_eq, Int.toNat_natCast, List.length_append, Nat.reduceLeDiff, Nat.succ_ne_zero]
   refine Ad dc346l0.eq_1 ?_
   simp only [↓go1, go2, go3, go4, reduceIte, Nat.reduceEqDiff, Nat.reduceAdd, g3, h1, h2, UInt8.ofNat_toNat, List.cons_append, List.nil_append]
   all_goals (first | rfl | exact ⟨rfl, rfl⟩)
noncomputable def F317 : List D → Option D := FX (fun s : Bs => [.str s]) (fun s => s.length ≤ 1000000) (fun s => .str (hexB s))
theorem F317_eq {s : Bs} (h : s.length ≤ 1000000) : F317 [.str s] = some (.str (hexB s)) := AP (mk := fun s : Bs => [.str s]) (fun a b h => by simpa using h) h
theorem loop317 {S : Summs} {l : Bs} {Q : Ex → St → Prop} (hb : l.length ≤ 1000000)
  (hexit : ∀ st t, st.s 3 = .slice false t (Ay (hexB l)) → Q (.exit 0) st) :
  ∀ (n k : Nat) (t : Id) st g, n = l.length - k → k ≤ l.length → st.s 13 = .int .i64 (k : Int) → st.s 12 = .int .i64 (l.length : Int) → st.s 11 = .slice false [] (Ay l) → st.s 3 = .slice false t (Ay (hexB (l.take k))) → Gw st.m st.c 5 false t →
   AV S [] dc317l0 Q st g := by
 intro n
 induction n with
 | zero =>
  intro k t st g hn hk h13 h12 h11 h3 hg
  refine Ad dc317l0.eq_1 ?_
  have : ¬ ((k : Int) < l.length) := by omega
  simp only [↓go1, go2, go4, reduceIte, Nat.reduceAdd, h13, h12, this]
  refine hexit _ t ?_
  rw [List.take_of_length_le (by omega)] at h3
  simp only [↓go1, reduceIte, Nat.reduceEqDiff, h3]
 | succ n ih =>
  intro k t st g hn hk h13 h12 h11 h3 hg
  refine Ad dc317l0.eq_1 ?_
  have hlt : ((k : Int) < l.length) := by omega
  have hk0 : (0 : Int) ≤ (k : Int) := by omega
  have hkl : k < l.length := by omega
  have hx : (Ay l)[(k : Int).toNat]? = some (.int .u8 (l[k].toNat : Int)) := by simp [Ay, hkl]
  have hw : IntKind.i64.wrap ((k : Int) + 1) = (k : Int) + 1 := IntWalk.i64_in _ ⟨by omega, by omega⟩
  have hc := l[k].toNat_lt
  have htk : l.take (k + 1) = l.take k ++ [l[k]] := by rw [List.take_add_one, List.getElem?_eq_getElem hkl]; rfl
  have hlen : (l.take k).length = k := by simp; omega
  have h04 : (0 : Int) ≤ 4 := by decide
  have a1 := shr4 l[k].toNat (by omega)
  have a2 := and15 l[k].toNat (by omega)
  have p1 : (0 : Int) ≤ ((l[k].toNat / 16 : Nat) : Int) := by omega
  have p2 : (0 : Int) ≤ ((l[k].toNat % 16 : Nat) : Int) := by omega
  have q1 : (((l[k].toNat / 16 : Nat) : Int)).toNat = l[k].toNat / 16 := Int.toNat_natCast _
  have q2 : (((l[k].toNat % 16 : Nat) : Int)).toNat = l[k].toNat % 16 := Int.toNat_natCast _
  have t1 := hexTab (l[k].toNat / 16) (by omega)
  have t2 := hexTab (l[k].toNat % 16) (by omega)
  simp only [↓go1, go2, go3, go4, reduceIte, Nat.reduceEqDiff, Nat.reduceAdd, List.length_cons, List.length_nil, h13, h12, h11, h3, hlt, hk0, hx, h04, a1, a2, p1, p2, q1, q2, t1, t2, false_and, reduceCtorEq]
  refine AA.intro ⟨by rw [Bo, hexB_len, hlen]; omega, rfl, hg.grow (by omega)⟩ ?_
  simp only [↓go1, go2, go3, go4, reduceIte, Nat.reduceEqDiff, Nat.reduceAdd]
  refine AA.intro (Al rfl) ?_
  simp only [↓go1, go2, go3, go4, reduceIte, Nat.reduceEqDiff, Nat.reduceAdd, h13, hw]
  refine ih (k + 1) [st.c + 1 + 3 + 8] _ _ (by omega) (by omega) rfl h12 h11 ?_ ?_
  ·rw [htk, hexB_snoc, Ca]; rfl
  ·exact Gw.new (by simp only; omega)
theorem ok317 : (Ai F317).ok Tryz.prog 317 := by
 refine AL (S := fun _ => none) Au fn317 (fun _ => by simp) (fun s hb => ?_)
 have hw : IntKind.i64.wrap (2 * (s.length : Int)) = 2 * (s.length : Int) := IntWalk.i64_in _ ⟨by omega, by omega⟩
 have b1 : (0 : Int) ≤ 0 := by decide
 have b2 : (0 : Int) ≤ 2 * (s.length : Int) := by omega
 have b3 : 2 * (s.length : Int) * 2 ≤ 140737488355328 := by omega
 have e0 : (0 : Int).toNat = 0 := rfl
 unfold dc317
 simp only [↓go1, go2, go3, go4, reduceIte, Nat.reduceEqDiff, Nat.reduceAdd, hw, b1, b2]
 refine AA.intro (by omega) ?_
 simp only [↓go1, go2, reduceIte, Nat.reduceEqDiff, Nat.reduceAdd, e0, List.replicate_zero, Bo]
 refine loop317 (l := s) hb (fun st t' h1 => ?_) s.length 0 [4] _ _ rfl (by omega) rfl rfl rfl rfl (.inr ⟨4, rfl, by simp only; omega, by simp [Bd]⟩)
 simp only [↓go1, go2, go3, go4, reduceIte, Nat.reduceEqDiff, Nat.reduceAdd, h1, Cj]
 all_goals (first | rfl | exact ⟨rfl, rfl⟩)
end Go.Vd
namespace Go.Vd
open Go.Proofs
end Go.Vd
namespace Go.Proofs
open Go.Shelf
def Tryz.runes_ren : Go.Shelf.Ren := ⟨fun | 168 => 372 | 169 => 229 | 240 => 324 | 242 => 400 | 276 => 370 | 278 => 410 | 277 => 371 | n => n, fun | 31 => 28 | 9 => 9 | 3 => 3 | 4 => 4 | 0 => 0 | 20 => 20 | 21 => 21 | 72 => 322 | 76 => 326 | 70 => 320 | 37 => 264 | 75 => 325 | 127 => 402 | 164 => 439 | 5 => 5 | 80 => 216 | 46 => 137 | 51 => 392 | n => n, fun | n => n⟩
theorem Tryz.runes168 : Go.Proofs.Lays.n168 Tryz.prog Tryz.runes_ren := {
 mixed := by kernel_rfl
 f168 := Tryz.func372.trans (congrArg some (by kernel_rfl))
 f240 := Tryz.func324.trans (congrArg some (by kernel_rfl))
 f242 := Tryz.func400.trans (congrArg some (by kernel_rfl))
 f276 := Tryz.func370.trans (congrArg some (by kernel_rfl))
 f278 := Tryz.func410.trans (congrArg some (by kernel_rfl))
 t0 := Tryz.underlying0
 a0 := Tryz.isAgg0
 z0 := Tryz.sizeOf0
 v0 := Tryz.zeroValue0
 t3 := Tryz.underlying3
 a3 := Tryz.isAgg3
 z3 := Tryz.sizeOf3
 v3 := Tryz.zeroValue3
 t4 := Tryz.underlying4
 a4 := Tryz.isAgg4
 z4 := Tryz.sizeOf4
 v4 := Tryz.zeroValue4
 t5 := Tryz.underlying5
 a5 := Tryz.isAgg5
 z5 := Tryz.sizeOf5
 v5 := Tryz.zeroValue5
 t9 := Tryz.underlying9
 a9 := Tryz.isAgg9
 z9 := Tryz.sizeOf9
 v9 := Tryz.zeroValue9
 t20 := Tryz.underlying20
 a20 := Tryz.isAgg20
 z20 := Tryz.sizeOf20
 v20 := Tryz.zeroValue20
 t21 := Tryz.underlying21
 a21 := Tryz.isAgg21
 z21 := Tryz.sizeOf21
 v21 := Tryz.zeroValue21
 t37 := Tryz.underlying264
 a37 := Tryz.isAgg264
 z37 := Tryz.sizeOf264
 v37 := Tryz.zeroValue264
 t46 := Tryz.underlying137
 a46 := Tryz.isAgg137
 z46 := Tryz.sizeOf137
 v46 := Tryz.zeroValue137
 t51 := Tryz.underlying392
 a51 := Tryz.isAgg392
 z51 := Tryz.sizeOf392
 v51 := Tryz.zeroValue392
 t70 := Tryz.underlying320
 a70 := Tryz.isAgg320
 z70 := Tryz.sizeOf320
 v70 := Tryz.zeroValue320
 t72 := Tryz.underlying322
 a72 := Tryz.isAgg322
 z72 := Tryz.sizeOf322
 v72 := Tryz.zeroValue322
 t75 := Tryz.underlying325
 a75 := Tryz.isAgg325
 z75 := Tryz.sizeOf325
 v75 := Tryz.zeroValue325
 t164 := Tryz.underlying439
 a164 := Tryz.isAgg439
 z164 := Tryz.sizeOf439
 v164 := Tryz.zeroValue439 }
theorem Tryz.runes169 : Go.Proofs.Lays.n169 Tryz.prog Tryz.runes_ren := {
 mixed := by kernel_rfl
 f169 := Tryz.func229.trans (congrArg some (by kernel_rfl))
 t0 := Tryz.underlying0
 a0 := Tryz.isAgg0
 z0 := Tryz.sizeOf0
 v0 := Tryz.zeroValue0
 t3 := Tryz.underlying3
 a3 := Tryz.isAgg3
 z3 := Tryz.sizeOf3
 v3 := Tryz.zeroValue3
 t9 := Tryz.underlying9
 a9 := Tryz.isAgg9
 z9 := Tryz.sizeOf9
 v9 := Tryz.zeroValue9
 t37 := Tryz.underlying264
 a37 := Tryz.isAgg264
 z37 := Tryz.sizeOf264
 v37 := Tryz.zeroValue264
 t70 := Tryz.underlying320
 a70 := Tryz.isAgg320
 z70 := Tryz.sizeOf320
 v70 := Tryz.zeroValue320
 t72 := Tryz.underlying322
 a72 := Tryz.isAgg322
 z72 := Tryz.sizeOf322
 v72 := Tryz.zeroValue322
 t127 := Tryz.underlying402
 a127 := Tryz.isAgg402
 z127 := Tryz.sizeOf402
 v127 := Tryz.zeroValue402 }
theorem Tryz.runesX : Builder.Extra Tryz.prog Tryz.runes_ren := {
 sizeBuilder := by kernel_rfl
 liesBuilder := by kernel_rfl
 t5 := Tryz.underlying5
 a5 := Tryz.isAgg5
 z5 := Tryz.sizeOf5
 v5 := Tryz.zeroValue5
 infoByte := by kernel_rfl
 cellsByte := by kernel_rfl
 sizeByte := by kernel_rfl
 neB5 := by decide }
end Go.Proofs
namespace Go.Ve
open Go.Vd
open Go.Proofs Go.RowKit
def six : List UInt8 := [114, 119, 100, 120, 108, 115]
def Dg (c : Nat) : Nat → List UInt8
 | 0 => []
 | k + 1 => Dg c k ++ (if c / 2 ^ k % 2 = 1 then [six.getD k 0] else [])
structure J328 (w0 : World) (c k : Nat) (a : Act) (w : World) : Prop where
 slots : ∃ x4 x5 x7 x8 x9 x10 x11 x12 x13 x14 x15 x16 x17 : Value, a = { tmps := #[.int .u8 (c : Int), undef, .string ⟨#[]⟩, .pointer (some ⟨w0.heap.size, 0, none⟩), x4, x5, .pointer (some ⟨w0.heap.size + 1, 0, none⟩), x7, x8, x9, x10, x11, x12, x13, x14, x15, x16, x17, undef], defers := [] }
 iter : w.heap[w0.heap.size + 1]? = some (.stringIter ⟨#[114, 119, 100, 120, 108, 115]⟩ k)
 bld : Lib.IsBuilderF 322 5 w0.heap.size w0.heap.size (Lib.byteCells (Dg c k)) w
 bel : Below w0.heap.size w0 w
theorem run_next_at {P : Program} {w : World} {b : Nat} {s : ByteArray} {pos : Nat} {ty : TypeId} (h : w.heap[b]? = some (.stringIter s pos)) (hp : pos < s.size) :
  (Instr.next (.pointer (some ⟨b, 0, none⟩)) true ty).run P w = .ok (.tuple #[.bool true, .int .i64 (pos : Nat), .int .i32 (Utf8.decode s pos).1]) { w with heap := w.heap.setIfInBounds b (.stringIter s (pos + (Utf8.decode s pos).2)) } := by
 have hget : (getObj b).run P w = .ok (.stringIter s pos) w := by simp [getObj, Sem.run, h]
 have hset : ∀ o', (setObj b o').run P w = .ok () { w with heap := w.heap.setIfInBounds b o' } := by intro o'; simp [setObj, Sem.run, h]
 simp only [Instr.next, Sem.run_bind, hget, Result.andThen_ok, hp, if_true]
 cases hd : Utf8.decode s pos with
 | mk c wd =>
  simp only [hset, Result.andThen_ok, Sem.run_pure]
  rfl
theorem run_next_out {P : Program} {w : World} {b : Nat} {s : ByteArray} {pos : Nat} {ty : TypeId} (h : w.heap[b]? = some (.stringIter s pos)) (hp : ¬ pos < s.size) :
  (Instr.next (.pointer (some ⟨b, 0, none⟩)) true ty).run P w = .ok (.tuple #[.bool false]) w := by
 have hget : (getObj b).run P w = .ok (.stringIter s pos) w := by simp [getObj, Sem.run, h]
 simp only [Instr.next, Sem.run_bind, hget, Result.andThen_ok, hp, if_false, Sem.run_pure]
theorem dec_six : ∀ k, k < 6 → Utf8.decode ⟨#[114, 119, 100, 120, 108, 115]⟩ k = ((six.getD k 0).toNat, 1) := by decide +kernel
theorem bit_six : ∀ c : Nat, c < 64 → ∀ k, k < 6 → (bits BinOp.and IntKind.u8 ((c : Int) / 2 ^ k) 1 == 1) = decide (c / 2 ^ k % 2 = 1) := by decide +kernel
theorem rune_six : ∀ k, k < 6 → Lib.runeCells (((six[k]?.getD 0).toNat : Nat) : Int) = Lib.byteCells [six.getD k 0]
 | 0, _ => rfl
 | 1, _ => rfl
 | 2, _ => rfl
 | 3, _ => rfl
 | 4, _ => rfl
 | 5, _ => rfl
 | k + 6, h => absurd h (by omega)
theorem pickL_len (c : Nat) : ∀ k, (Dg c k).length ≤ k
 | 0 => Nat.le_refl _
 | k + 1 => by
  have := pickL_len c k
  unfold Dg
  rw [List.length_append]
  split <;> simp <;> omega
theorem set_other {w : World} {bi j : Nat} {o : Obj} (h : j ≠ bi) : (w.heap.setIfInBounds bi o)[j]? = w.heap[j]? := by
 rw [Array.getElem?_setIfInBounds, if_neg (fun e => h e.symm)]
theorem bldF_set {w : World} {B b bi : Nat} {bs : List Value} {o : Obj} {s : ByteArray} {p : Nat} (h : Lib.IsBuilderF 322 5 B b bs w) (hi : w.heap[bi]? = some (.stringIter s p)) : Lib.IsBuilderF 322 5 B b bs { w with heap := w.heap.setIfInBounds bi o } := by
 have key : ∀ q, Lib.BuilderAtF 322 5 B b q bs w → Lib.BuilderAtF 322 5 B b q bs { w with heap := w.heap.setIfInBounds bi o } := by
  rintro q ⟨h1, v, h2, h3, h4⟩
  have hb : b ≠ bi := fun e => by rw [e, hi] at h2; cases h2
  refine ⟨h1, v, by show (w.heap.setIfInBounds bi o)[b]? = _; rw [set_other hb]; exact h2, ⟨h3.1, ?_⟩, h4⟩
  rcases h3.2 with h | ⟨g, cap, cur, fz, e1, e2, e3, e4⟩
  ·exact .inl h
  ·have hg : g ≠ bi := fun e => by rw [e, hi] at e3; cases e3
   exact .inr ⟨g, cap, cur, fz, e1, e2, by show (w.heap.setIfInBounds bi o)[g]? = _; rw [set_other hg]; exact e3, e4⟩
 exact h.elim (fun x => .inl (key _ x)) (fun x => .inr (key _ x))
theorem below_set {B bi : Nat} {w w1 : World} {o : Obj} (h : Below B w w1) (hb : B ≤ bi) : Below B w { w1 with heap := w1.heap.setIfInBounds bi o } :=
 ⟨h.os, h.tape, h.output, by show _ ≤ (w1.heap.setIfInBounds bi o).size; rw [Array.size_setIfInBounds]; exact h.size, fun k hk => by
  show (w1.heap.setIfInBounds bi o)[k]? = _
  rw [set_other (by omega)]
  exact h.block k hk⟩
theorem w328 (w : World) (c : Nat) (hc : c < 64) :
  Calls Tryz.prog 328 #[.int .u8 (c : Int)] w fun e w' => e = .returned (.string ⟨(Dg c 6).toArray⟩) ∧ Below w.heap.size w w' := by
 have hz : (w.alloc (Obj.cells #[Value.pointer none, Value.slice none 0 0] 322)).heap.size = w.heap.size + 1 := Array.size_push _
 go_enter Tryz.func328, Tryz.ntmps328
 go_wp2
 refine wp_loop_n (fun n a w' => ∃ k, k ≤ 6 ∧ n = 6 - k ∧ J328 w c k a w') ?_ (n := 6) ⟨0, by omega, rfl, ⟨⟨_, _, _, _, _, _, _, _, _, _, _, _, _, rfl⟩, ?_, ?_, ?_⟩⟩
 ·rintro n a w1 ⟨k, hk, rfl, ⟨x4, x5, x7, x8, x9, x10, x11, x12, x13, x14, x15, x16, x17, rfl⟩, hi, hb, hB⟩
  go_wp2
  by_cases h6 : k < 6
  ·rw [run_next_at hi (by show k < 6; exact h6), dec_six k h6]
   simp only [Result.andThen]
   rw [Oper.upon_value]
   have hbit := bit_six c hc k h6
   have hpl := pickL_len c k
   have hi2 : (w1.heap.setIfInBounds (w.heap.size + 1) (.stringIter ⟨#[114, 119, 100, 120, 108, 115]⟩ (k + 1)))[w.heap.size + 1]? = some (.stringIter ⟨#[114, 119, 100, 120, 108, 115]⟩ (k + 1)) := by
    have hlt : w.heap.size + 1 < w1.heap.size := (Array.getElem?_eq_some_iff.1 hi).1
    rw [Array.getElem?_setIfInBounds, if_pos rfl, if_pos hlt]
   have hb2 := bldF_set (o := .stringIter ⟨#[114, 119, 100, 120, 108, 115]⟩ (k + 1)) hb hi
   have hB2 := below_set (o := .stringIter ⟨#[114, 119, 100, 120, 108, 115]⟩ (k + 1)) hB (Nat.le_succ w.heap.size)
   by_cases hcn : c / 2 ^ k % 2 = 1
   ·rw [decide_eq_true hcn] at hbit
    go_wp2_with fail
    refine (Go.Proofs.Any.Builder_WriteRune_k Tryz.runes168 Tryz.runesX w.heap.size w.heap.size (Lib.byteCells (Dg c k)) _ (by have := (six[k]?.getD 0).toNat_lt; omega) (by have := (six[k]?.getD 0).toNat_lt; omega) _ hb2 (by simp [Lib.byteCells]; omega) hB2.size).mono ?_
    rintro e w3 ⟨rfl, h3, hb3, hk3⟩
    rw [rune_six k h6] at h3
    go_wp2
    refine ⟨6 - (k + 1), by omega, k + 1, by omega, rfl, ⟨⟨_, _, _, _, _, _, _, _, _, _, _, _, _, rfl⟩, ?_, ?_, hB2.trans hb3⟩⟩
    ·exact hk3 _ _ hi2 (by simp) (fun _ _ => by simp)
    ·refine .inr ?_
     have e : Dg c (k + 1) = Dg c k ++ [six.getD k 0] := by simp only [Dg, hcn, if_true]
     rw [e]
     have e2 : Lib.byteCells (Dg c k ++ [six.getD k 0]) = Lib.byteCells (Dg c k) ++ Lib.byteCells [six.getD k 0] := by simp [Lib.byteCells]
     rw [e2]
     exact h3
   ·rw [decide_eq_false hcn] at hbit
    go_wp2_with fail
    refine ⟨6 - (k + 1), by omega, k + 1, by omega, rfl, ⟨⟨_, _, _, _, _, _, _, _, _, _, _, _, _, rfl⟩, hi2, ?_, hB2⟩⟩
    have e : Dg c (k + 1) = Dg c k := by simp only [Dg, hcn, if_false, List.append_nil]
    rw [e]
    exact hb2
  ·rw [run_next_out hi (by show ¬ k < 6; exact h6)]
   simp only [Result.andThen]
   rw [Oper.upon_value]
   obtain rfl : k = 6 := by omega
   go_wp2_with fail
   refine (Go.Proofs.Any.Builder_String_any_f Tryz.runes169 Tryz.runesX w.heap.size w.heap.size (Dg c 6) w1 hb hB.size).mono ?_
   rintro e w3 ⟨rfl, _, hb3⟩
   go_wp2
   go_ret
   exact ⟨rfl, hB.trans hb3⟩
 ·have e := heap_alloc_new (w.alloc (Obj.cells #[Value.pointer none, Value.slice none 0 0] 322)) (.stringIter ⟨#[114, 119, 100, 120, 108, 115]⟩ 0)
  rw [hz] at e
  exact e
 ·refine .inl ⟨Nat.le_refl _, .slice none 0 0, ?_, World.ownsRowF_nil _ _ _ _, by simp [Value.ownBlock]⟩
  have := heap_alloc_new w (Obj.cells #[Value.pointer none, Value.slice none 0 0] 322)
  exact (Below.heap_alloc _ _ _ (by rw [hz]; omega)).trans this
 ·exact ((Below.refl _ w).alloc (Nat.le_refl _) _).alloc (by rw [hz]; omega) _
def eqBs : List UInt8 → List UInt8 → Bool
 | [], [] => true
 | a :: r, b :: s => a == b && eqBs r s
 | _, _ => false
theorem eqBs_eq : ∀ {a b : List UInt8}, eqBs a b = true → a = b
 | [], [], _ => rfl
 | a :: r, b :: s, h => by
  simp only [eqBs, Bool.and_eq_true, beq_iff_eq] at h
  rw [h.1, eqBs_eq h.2]
 | [], _ :: _, h => by cases h
 | _ :: _, [], h => by cases h
def lettersN (c : Nat) : List UInt8 :=
 (if c % 2 = 1 then [114] else []) ++ ((if c / 2 % 2 = 1 then [119] else []) ++ ((if c / 4 % 2 = 1 then [100] else []) ++ ((if c / 8 % 2 = 1 then [120] else []) ++ ((if c / 16 % 2 = 1 then [108] else []) ++ (if c / 32 % 2 = 1 then [115] else [])))))
theorem pick_letters : ∀ c : Nat, c < 64 → Dg c 6 = lettersN c := by decide +kernel
theorem lay_calls {c : Nat} (h : c < 64) (w : World) : Calls Tryz.prog 328 #[.int .u8 (c : Nat)] w fun e w' => e = .returned (.string ⟨(lettersN c).toArray⟩) ∧ Below w.heap.size w w' := by
 have := w328 w c h
 rw [pick_letters c h] at this
 exact this
end Go.Ve
namespace Go.Proofs
open Go.Shelf
def Tryz.lays156_ren : Go.Shelf.Ren := ⟨fun | 156 => 221 | 165 => 226 | 166 => 227 | 169 => 229 | 240 => 324 | 241 => 325 | 276 => 370 | 277 => 371 | n => n, fun | 31 => 28 | 9 => 9 | 3 => 3 | 4 => 4 | 0 => 0 | 20 => 20 | 72 => 322 | 76 => 326 | 70 => 320 | 37 => 264 | 75 => 325 | 127 => 402 | 164 => 439 | 5 => 5 | 80 => 216 | n => n, fun | n => n⟩
theorem Tryz.lays156 : Go.Proofs.Lays.n156 Tryz.prog Tryz.lays156_ren := {
 mixed := by kernel_rfl
 f156 := Tryz.func221.trans (congrArg some (by kernel_rfl))
 f165 := Tryz.func226.trans (congrArg some (by kernel_rfl))
 f166 := Tryz.func227.trans (congrArg some (by kernel_rfl))
 f169 := Tryz.func229.trans (congrArg some (by kernel_rfl))
 f240 := Tryz.func324.trans (congrArg some (by kernel_rfl))
 f241 := Tryz.func325.trans (congrArg some (by kernel_rfl))
 f276 := Tryz.func370.trans (congrArg some (by kernel_rfl))
 f277 := Tryz.func371.trans (congrArg some (by kernel_rfl))
 t0 := Tryz.underlying0
 a0 := Tryz.isAgg0
 z0 := Tryz.sizeOf0
 v0 := Tryz.zeroValue0
 t3 := Tryz.underlying3
 a3 := Tryz.isAgg3
 z3 := Tryz.sizeOf3
 v3 := Tryz.zeroValue3
 t4 := Tryz.underlying4
 a4 := Tryz.isAgg4
 z4 := Tryz.sizeOf4
 v4 := Tryz.zeroValue4
 t9 := Tryz.underlying9
 a9 := Tryz.isAgg9
 z9 := Tryz.sizeOf9
 v9 := Tryz.zeroValue9
 t20 := Tryz.underlying20
 a20 := Tryz.isAgg20
 z20 := Tryz.sizeOf20
 v20 := Tryz.zeroValue20
 t31 := Tryz.underlying28
 a31 := Tryz.isAgg28
 z31 := Tryz.sizeOf28
 v31 := Tryz.zeroValue28
 t37 := Tryz.underlying264
 a37 := Tryz.isAgg264
 z37 := Tryz.sizeOf264
 v37 := Tryz.zeroValue264
 t70 := Tryz.underlying320
 a70 := Tryz.isAgg320
 z70 := Tryz.sizeOf320
 v70 := Tryz.zeroValue320
 t72 := Tryz.underlying322
 a72 := Tryz.isAgg322
 z72 := Tryz.sizeOf322
 v72 := Tryz.zeroValue322
 t75 := Tryz.underlying325
 a75 := Tryz.isAgg325
 z75 := Tryz.sizeOf325
 v75 := Tryz.zeroValue325
 t76 := Tryz.underlying326
 a76 := Tryz.isAgg326
 z76 := Tryz.sizeOf326
 v76 := Tryz.zeroValue326
 t127 := Tryz.underlying402
 a127 := Tryz.isAgg402
 z127 := Tryz.sizeOf402
 v127 := Tryz.zeroValue402
 t164 := Tryz.underlying439
 a164 := Tryz.isAgg439
 z164 := Tryz.sizeOf439
 v164 := Tryz.zeroValue439 }
theorem Tryz.Builder_Extra_156 : Builder.Extra Tryz.prog Tryz.lays156_ren := {
 sizeBuilder := by kernel_rfl
 liesBuilder := by kernel_rfl
 t5 := Tryz.underlying5
 a5 := Tryz.isAgg5
 z5 := Tryz.sizeOf5
 v5 := Tryz.zeroValue5
 infoByte := by kernel_rfl
 cellsByte := by kernel_rfl
 sizeByte := by kernel_rfl
 neB5 := by decide }
end Go.Proofs
namespace Go.Vd
open Go.Proofs Go.RowKit
theorem join221 : joinQ.ok Tryz.prog 221 := joinQ_ok Tryz.lays156 Tryz.Builder_Extra_156 ⟨_, Tryz.func221, by kernel_rfl, by kernel_rfl⟩
theorem joinQ_ex {m : Mem} {i fr : Id} {n : Nat} {l : List Bs} (hn : n = l.length) (h : ∀ k x, l[k]? = some x → m i k = some (.str x)) (h1 : l.length ≤ 1000) (h2 : sumL l ≤ 1000000) :
  joinQ.ex ([.row i n, .str [44]] ++ []) m fr = some (.str (Bp l), []) := by
 subst hn
 simp only [joinQ, List.append_nil]
 rw [strR_of (j := 0) (fun k x hx => by rw [Nat.zero_add]; exact h k x hx), Option.bind_some, if_pos ⟨h1, h2⟩]
theorem RI.strs {r : Id} {m0 m : Mem} {l : List Bs} (h : RI [] r m0 m l l.length) : ∀ k x, l[k]? = some x → m r k = some (.str x) := by
 intro k x hx
 have hk := (List.getElem?_eq_some_iff.1 hx).1
 rw [h.row k hk, if_pos hk]
 simp [List.getD, hx]
theorem sumL_le {l : List Bs} {b : Nat} (h : ∀ x ∈ l, x.length ≤ b) : sumL l ≤ b * l.length := by
 induction l with
 | nil => simp [sumL]
 | cons x r ih =>
  have h1 := h x (List.mem_cons_self ..)
  have h2 := ih fun y hy => h y (List.mem_cons_of_mem _ hy)
  simp only [sumL, List.length_cons, Nat.mul_add]
  omega
theorem Dv (n : Nat) : (Ek n).length ≤ 3 := by
 unfold Ek
 split
 ·simp
 ·split <;> simp
def BK (l : List Int) : List Bs := l.map fun x => Ek x.toNat
theorem Cd (l : List Int) : (BK l).length = l.length := List.length_map ..
noncomputable def F348 : List D → Option D := FX (fun p : Bool × List Int => [.slice p.1 [] (By p.2)]) (fun p => p.2.length ≤ 1000 ∧ ∀ x ∈ p.2, 0 ≤ x ∧ x < 1000) (fun p => .str (Bp (BK p.2)))
theorem F348_eq {nl : Bool} {l : List Int} (h : l.length ≤ 1000) (h2 : ∀ x ∈ l, 0 ≤ x ∧ x < 1000) : F348 [.slice nl [] (By l)] = some (.str (Bp (BK l))) :=
 AP (mk := fun p : Bool × List Int => [.slice p.1 [] (By p.2)]) (a := (nl, l)) (fun a b h => by
  simp only [List.cons.injEq, D.slice.injEq, true_and, and_true] at h
  exact Prod.ext h.1 (intsD_inj h.2)) ⟨h, h2⟩
theorem loop348 {S : Summs} {l : List Int} {nl : Bool} {m0 : Mem} {Q : Ex → St → Prop} (hb : l.length ≤ 1000) (hx : ∀ x ∈ l, 0 ≤ x ∧ x < 1000) (s346 : S 346 = some (Ai F346))
  (hexit : ∀ st, st.s 3 = .row [3] l.length → RI [] [3] m0 st.m (BK l) l.length → Q (.exit 0) st) :
  ∀ (f j : Nat) st g, l.length = j + f → st.s 3 = .row [3] l.length → st.s 9 = .slice nl [] (By l) → st.s 10 = .int .i64 (l.length : Int) → st.s 11 = .int .i64 (j : Int) → RI [] [3] m0 st.m (BK l) j → AV S [] dc348l0 Q st g := by
 intro f
 induction f with
 | zero =>
  intro j st g hf h3 h9 h10 h11 I
  refine Ad dc348l0.eq_1 ?_
  have : ¬ ((j : Int) < l.length) := by omega
  simp only [↓go1, go2, go4, reduceIte, Nat.reduceAdd, h10, h11, this]
  exact hexit _ h3 (by rw [show l.length = j by omega]; exact I)
 | succ f ih =>
  intro j st g hf h3 h9 h10 h11 I
  refine Ad dc348l0.eq_1 ?_
  have hj : j < l.length := by omega
  have hlt : ((j : Int) < l.length) := by omega
  have hj0 : (0 : Int) ≤ (j : Int) := by omega
  have hw : IntKind.i64.wrap ((j : Int) + 1) = ((j + 1 : Nat) : Int) := w64 (by omega) (by omega)
  have hmem := hx l[j] (List.getElem_mem hj)
  obtain ⟨n, hn⟩ : ∃ n : Nat, l[j] = (n : Int) := ⟨l[j].toNat, by omega⟩
  have hat : (By l)[j]? = some (.int .i64 (n : Int)) := by simp [By, List.getElem?_eq_getElem hj, hn]
  have hg : (BK l).getD j [] = Ek n := by simp [BK, List.getElem?_eq_getElem hj, hn]
  have h346 := F346_eq (n := n) (by omega)
  have hrow := I.row j (by rw [Cd]; exact hj)
  rw [if_neg (by omega)] at hrow
  obtain ⟨st_s, st_m, st_c⟩ := st
  simp only at h3 h9 h10 h11 hrow I
  simp only [↓go1, gB1, reduceIte, Nat.reduceEqDiff, Nat.reduceAdd, h3, h9, h10, h11, hlt, hj0, hw, Int.toNat_natCast, hat, hrow, Aa s346, h346, Ag, Ah, and_self, Option.bind_some, Option.isSome_some, List.head?_cons]
  refine ih (j + 1) _ _ (by omega) h3 h9 h10 rfl ?_
  rw [← hg]
  exact I.fill (List.nil_suffix)
theorem ok348 : (Ai F348).ok Tryz.prog 348 := by
 obtain ⟨S, hS, hl⟩ := AJ (Ab ok346 (Ab join221 Ae))
 have s346 := hl 346 _ rfl
 have s221 := hl 221 _ rfl
 clear hl
 refine AL hS fn348 (fun _ => by simp) (fun p hp => ?_)
 obtain ⟨nl, l⟩ := p
 obtain ⟨hl, hx⟩ := hp
 simp only at hl hx
 have hn0 : ((0 : Int) ≤ (l.length : Int)) := by omega
 have hnb : ((l.length : Int) * (((16 : Nat) : Int) + 1) ≤ 140737488355328) = True := eq_true (by omega)
 unfold dc348
 simp only [↓go1, go2, go3, reduceIte, Nat.reduceEqDiff, Nat.reduceAdd, hn0, hnb, Bb, Int.toNat_natCast, Int.le_refl, List.length_cons, List.length_nil, Nat.zero_add, and_self]
 refine loop348 (l := l) (nl := nl) (m0 := fun _ _ => none) hl hx s346 (fun st h3 I => ?_) l.length 0 _ _ (by omega) rfl rfl rfl rfl ?_
 ·simp only [↓go1, go2, go4, reduceIte, Nat.reduceAdd, h3]
  rw [AK s221]
  rw [← Cd] at I
  have hs : sumL (BK l) ≤ 1000000 := by
   have := sumL_le (l := BK l) (b := 3) fun x hx => by
    obtain ⟨y, _, rfl⟩ := List.mem_map.1 hx
    exact Dv _
   rw [Cd] at this; omega
  refine Got.intro (joinQ_ex (Cd l).symm I.strs (by rw [Cd]; exact hl) hs) ?_
  simp only [↓go1, go2, go3, go4, reduceIte, Nat.reduceEqDiff, Nat.reduceAdd]
  all_goals (first | rfl | exact ⟨rfl, rfl⟩)
 ·exact RI.start (Cd l).symm
open Classical in
noncomputable def F328 : List D → Option D
 | [.int .u8 c] => if 0 ≤ c ∧ c < 64 then some (.str (Go.Ve.lettersN c.toNat)) else none
 | _ => none
theorem ok328 : (Ai F328).ok Tryz.prog 328 := by
 refine ⟨⟨_, Tryz.func328, by kernel_rfl, by kernel_rfl⟩, fun ds m m' fr _ => rfl, ?_⟩
 intro B w0 w m g fr ds vs r u hi hfresh hl hrep hex
 simp only [Ai] at hex
 split at hex
 ·rw [Option.map_eq_some_iff] at hex
  obtain ⟨r', hr, hex⟩ := hex
  simp only [Prod.mk.injEq] at hex
  obtain ⟨rfl, rfl⟩ := hex
  unfold F328 at hr
  split at hr
  ·rename_i c e
   split at hr
   ·rename_i hc
    simp only [Option.some.injEq] at hr; subst hr
    match ds, vs, hl with
    | [d], [v], _ =>
     have hd : d = .int .u8 c := by
      simp only [List.map_cons, List.map_nil, List.cons.injEq, and_true] at e
      cases d <;> simp [D.un] at e
      rw [e.1, e.2]
     subst hd
     have hv := (hrep 0 _ v rfl rfl).int_inv
     subst hv
     have hcc : ((c.toNat : Nat) : Int) = c := Int.toNat_of_nonneg hc.1
     have := Go.Ve.lay_calls (c := c.toNat) (by omega) w
     rw [hcc] at this
     refine this.mono ?_
     rintro e w' ⟨rfl, hb⟩
     exact ⟨_, g.over w w', rfl, hi.over hb, Ext.over hi.gz hb, .str _, fun i hf _ => hf⟩
    | [], _, _ => simp at e
    | _ :: _ :: _, _, _ => simp at e
   ·cases hr
  ·cases hr
 ·cases hex
theorem rulesE_zero {l : List Rl} : ∀ f j, D3 l f j = 0 → ∀ i, j ≤ i → i < j + f → i < l.length → (Bf l i).2 ≤ 63
 | 0, j, _, i, h1, h2, _ => by omega
 | f + 1, j, h, i, h1, h2, hi => by
  unfold D3 at h
  rw [if_pos (by omega)] at h
  split at h
  ·rename_i hc; exact absurd h hc
  ·rename_i hc
   rcases Nat.eq_or_lt_of_le h1 with rfl | h1
   ·have hc : ruleE (Bf l j) (l.take j) = 0 := by
     rcases Classical.em (ruleE (Bf l j) (l.take j) = 0) with h | h
     ·exact h
     ·exact absurd h hc
    unfold ruleE at hc
    split at hc
    ·rename_i h9; exact absurd hc h9.2
    ·split at hc
     ·omega
     ·omega
   ·exact rulesE_zero f (j + 1) h i (by omega) (by omega) hi
theorem polE_zero {l : List Rl} (h : Cm l = 0) : l.length ≤ 4 ∧ ∀ r ∈ l, r.2 ≤ 63 := by
 unfold Cm at h
 split at h
 ·cases h
 ·refine ⟨by omega, fun r hr => ?_⟩
  obtain ⟨i, hi, rfl⟩ := List.getElem_of_mem hr
  have := rulesE_zero l.length 0 h i (Nat.zero_le _) (by omega) hi
  simpa [Bf, List.getElem?_eq_getElem hi] using this
def DK (r : Rl) : Bs := r.1 ++ [58] ++ Go.Ve.lettersN r.2.toNat
def Bk (l : List Rl) : List Bs := l.map DK
theorem BT (l : List Rl) : (Bk l).length = l.length := List.length_map ..
theorem Cy (n : Nat) : (Go.Ve.lettersN n).length ≤ 6 := by
 unfold Go.Ve.lettersN
 have h : ∀ (c : Prop) [Decidable c] (x : UInt8), (if c then [x] else []).length ≤ 1 := by
  intro c _ x; split <;> simp
 simp only [List.length_append]
 have h1 := h (n % 2 = 1) 114
 have h2 := h (n / 2 % 2 = 1) 119
 have h3 := h (n / 4 % 2 = 1) 100
 have h4 := h (n / 8 % 2 = 1) 120
 have h5 := h (n / 16 % 2 = 1) 108
 have h6 := h (n / 32 % 2 = 1) 115
 omega
theorem loop232 {S : Summs} {l : List Rl} {nl : Bool} {m0 : Mem} {Q : Ex → St → Prop} (hb : l.length ≤ 4) (hx : ∀ r ∈ l, r.1.length ≤ 1000 ∧ 0 ≤ r.2 ∧ r.2 < 64) (s328 : S 328 = some (Ai F328))
  (hexit : ∀ st, st.s 5 = .row [9] l.length → RI [] [9] m0 st.m (Bk l) l.length → Q (.exit 0) st) :
  ∀ (f j : Nat) st g, l.length = j + f → 10 ≤ st.c → st.s 5 = .row [9] l.length → st.s 16 = .slice nl [] (Aj l) → st.s 17 = .int .i64 (l.length : Int) → st.s 18 = .int .i64 (j : Int) → RI [] [9] m0 st.m (Bk l) j → AV S [] dc232l0 Q st g := by
 intro f
 induction f with
 | zero =>
  intro j st g hf hc h5 h16 h17 h18 I
  refine Ad dc232l0.eq_1 ?_
  have : ¬ ((j : Int) < l.length) := by omega
  simp only [↓go1, go2, go4, reduceIte, Nat.reduceAdd, h17, h18, this]
  exact hexit _ h5 (by rw [show l.length = j by omega]; exact I)
 | succ f ih =>
  intro j st g hf hc h5 h16 h17 h18 I
  refine Ad dc232l0.eq_1 ?_
  have hj : j < l.length := by omega
  have hlt : ((j : Int) < l.length) := by omega
  have hj0 : (0 : Int) ≤ (j : Int) := by omega
  have hw : IntKind.i64.wrap ((j : Int) + 1) = ((j + 1 : Nat) : Int) := w64 (by omega) (by omega)
  obtain ⟨hm1, hm2, hm3⟩ := hx l[j] (List.getElem_mem hj)
  have hat : (Aj l)[j]? = some (.agg [.str l[j].1, .int .u8 l[j].2]) := by simp [Aj, rlD, List.getElem?_eq_getElem hj]
  have hg : (Bk l).getD j [] = DK l[j] := by simp [Bk, List.getElem?_eq_getElem hj]
  generalize l[j] = r at hm1 hm2 hm3 hat hg
  have h328 : F328 [.int .u8 r.2] = some (.str (Go.Ve.lettersN r.2.toNat)) := if_pos ⟨hm2, hm3⟩
  have hrow := I.row j (by rw [BT]; exact hj)
  rw [if_neg (by omega)] at hrow
  have hll := Cy r.2.toNat
  have l1 : (r.1.length + 1 ≤ 9223372036854775807) = True := eq_true (by omega)
  have l2 : (r.1.length + 1 + (Go.Ve.lettersN r.2.toNat).length ≤ 9223372036854775807) = True := eq_true (by omega)
  have hne1 : ([st.c + 1 + 3] = ([9] : Id)) = False := eq_false (by simp; omega)
  have hne2 : (([9] : Id) = [st.c + 1 + 3]) = False := eq_false (by simp; omega)
  obtain ⟨st_s, st_m, st_c⟩ := st
  simp only at h5 h16 h17 h18 hrow I hc hne1 hne2
  simp only [↓go1, gB0, reduceIte, Nat.reduceEqDiff, Nat.reduceAdd, h5, h16, h17, h18, hlt, hj0, Int.toNat_natCast, hat, hrow, Aa s328, h328, hne2, l1, l2, Nat.le_refl, List.length_append, Ac, Ag, Ah, Nat.reduceLT, Option.bind_some, List.take_succ_cons, List.take_zero, Option.isSome_some, false_and]
  refine AA.intro (Al rfl) ?_
  simp only [↓go1, go2, go3, reduceIte, Nat.reduceEqDiff, Nat.reduceAdd, h18, hw]
  refine ih (j + 1) _ _ (by omega) (by simp only; omega) h5 h16 h17 rfl ?_
  have hb' : r.1 ++ [58] ++ Go.Ve.lettersN r.2.toNat = (Bk l).getD j [] := hg.symm
  rw [hb']
  exact ((I.put (by simp; omega)).put (by simp; omega)).fill (List.nil_suffix)
noncomputable def F232 : List D → Option D := FX (fun p : Bool × List Rl => [.slice p.1 [] (Aj p.2)]) (fun p => p.2.length ≤ 1000000 ∧ ∀ r ∈ p.2, r.1.length ≤ 1000 ∧ 0 ≤ r.2)
 (fun p => .tup [.str (if Cm p.2 = 0 then Bp (Bk p.2) else []), .int .i64 (Cm p.2)])
theorem F232_eq {nl : Bool} {l : List Rl} (h : l.length ≤ 1000000) (h2 : ∀ r ∈ l, r.1.length ≤ 1000 ∧ 0 ≤ r.2) : F232 [.slice nl [] (Aj l)] = some (.tup [.str (if Cm l = 0 then Bp (Bk l) else []), .int .i64 (Cm l)]) :=
 AP (mk := fun p : Bool × List Rl => [.slice p.1 [] (Aj p.2)]) (a := (nl, l)) (fun a b h => by
  simp only [List.cons.injEq, D.slice.injEq, true_and, and_true] at h
  exact Prod.ext h.1 (rlsD_inj h.2)) ⟨h, h2⟩
open Classical in
theorem Fpol_eq' {nl : Bool} {l : List Rl} (h : l.length ≤ 1000000) (h2 : ∀ r ∈ l, r.1.length ≤ 1000 ∧ 0 ≤ r.2) : Fpol [.slice nl [] (Aj l)] = some (.int .i64 (Cm l)) := by
 have hc : Aj l = Aj (A0 (Aj l)) ∧ (Aj l).length ≤ 1000000 ∧ Bu (A0 (Aj l)) := by
  rw [AN, An]; exact ⟨rfl, h, fun r hr => Nat.le_trans (h2 r hr).1 (by omega)⟩
 show (if _ then _ else _) = _
 rw [if_pos hc, AN]
theorem ok232 : (Ai F232).ok Tryz.prog 232 := by
 obtain ⟨S, hS, hl⟩ := AJ (Ab ok214 (Ab ok328 (Ab join221 Ae)))
 have s214 := hl 214 _ rfl
 have s328 := hl 328 _ rfl
 have s221 := hl 221 _ rfl
 clear hl
 refine AL hS fn232 (fun _ => by simp) (fun p hp => ?_)
 obtain ⟨nl, l⟩ := p
 obtain ⟨hl, hx⟩ := hp
 simp only at hl hx
 have h214 := Fpol_eq' (nl := nl) hl hx
 have hz := polE_zero (l := l)
 simp only
 unfold dc232
 generalize Cm l = e at h214 hz
 by_cases he : e = 0
 ·subst he
  obtain ⟨h4, h63⟩ := hz rfl
  have hn0 : ((0 : Int) ≤ (l.length : Int)) := by omega
  have hnb : ((l.length : Int) * (((16 : Nat) : Int) + 1) ≤ 140737488355328) = True := eq_true (by omega)
  simp only [↓go1, gB1, reduceIte, Nat.reduceEqDiff, Nat.reduceAdd, Aa s214, h214, hn0, hnb, An, Int.toNat_natCast, Int.le_refl, and_self]
  refine loop232 (l := l) (nl := nl) (m0 := fun _ _ => none) h4 (fun r hr => ⟨(hx r hr).1, (hx r hr).2, by have := h63 r hr; omega⟩) s328 (fun st h5 I => ?_) l.length 0 _ _ (by omega) (by simp only; omega) rfl rfl rfl rfl ?_
  ·simp only [↓go1, go2, go4, reduceIte, Nat.reduceAdd, h5]
   rw [AK s221]
   rw [← BT] at I
   have hs : sumL (Bk l) ≤ 1000000 := by
    have := sumL_le (l := Bk l) (b := 1007) fun x hx' => by
     obtain ⟨y, hy, rfl⟩ := List.mem_map.1 hx'
     have h1 := (hx y hy).1
     have h2 := Cy y.2.toNat
     simp only [DK, List.length_append, List.length_cons, List.length_nil]; omega
    rw [BT] at this; omega
   refine Got.intro (joinQ_ex (BT l).symm I.strs (by rw [BT]; omega) hs) ?_
   simp only [↓go1, go2, go3, go4, reduceIte, Nat.reduceEqDiff, Nat.reduceAdd]
   all_goals (first | rfl | exact ⟨rfl, rfl⟩)
  ·exact RI.start (BT l).symm
 ·simp only [↓go1, go2, go3, go4, reduceIte, Nat.reduceEqDiff, Nat.reduceAdd, Aa s214, h214, he, and_self]
  all_goals (first | rfl | exact ⟨rfl, rfl⟩)
end Go.Vd
namespace Go.Vd
open Go.Proofs
def dc151 : DC := (sr [oo 2 (.alloc [(.str []), (.str [])])] (sr [oo 4 (.build [(.str []), (.str [])] [(0, 1, (.c (.str [115, 116, 97, 116, 117, 115]))), (1, 1, (.c (.str [])))]), oo 5 (.build [(.str []), (.str [])] [(0, 1, (.c (.str [117, 110, 115, 101, 97, 108]))), (1, 1, (.c (.str [107])))]), oo 6 (.build [(.str []), (.str [])] [(0, 1, (.c (.str [115, 101, 97, 108]))), (1, 1, (.c (.str [116])))]), oo 7 (.build [(.str []), (.str [])] [(0, 1, (.c (.str [114, 111, 116, 97, 116, 101]))), (1, 1, (.c (.str [116])))]), oo 8 (.build [(.str []), (.str [])] [(0, 1, (.c (.str [109, 111, 117, 110, 116]))), (1, 1, (.c (.str [116, 112, 110, 102])))]), oo 9 (.build [(.str []), (.str [])] [(0, 1, (.c (.str [117, 110, 109, 111, 117, 110, 116]))), (1, 1, (.c (.str [116, 112])))]), oo 10 (.build [(.str []), (.str [])] [(0, 1, (.c (.str [109, 97, 107, 101]))), (1, 1, (.c (.str [116, 109, 114])))]), oo 11 (.build [(.str []), (.str [])] [(0, 1, (.c (.str [114, 101, 118, 111, 107, 101]))), (1, 1, (.c (.str [116, 109])))]), oo 12 (.build [(.str []), (.str [])] [(0, 1, (.c (.str [114, 101, 97, 100]))), (1, 1, (.c (.str [116, 112, 110])))]), oo 13 (.build [(.str []), (.str [])] [(0, 1, (.c (.str [119, 114, 105, 116, 101]))), (1, 1, (.c (.str [116, 112, 99, 100])))]), oo 14 (.build [(.str []), (.str [])] [(0, 1, (.c (.str [100, 101, 108, 101, 116, 101]))), (1, 1, (.c (.str [116, 112, 108])))]), oo 15 (.build [(.str []), (.str [])] [(0, 1, (.c (.str [117, 110, 100, 101, 108, 101, 116, 101]))), (1, 1, (.c (.str [116, 112, 108])))]), oo 16 (.build [(.str []), (.str [])] [(0, 1, (.c (.str [100, 101, 115, 116, 114, 111, 121]))), (1, 1, (.c (.str [116, 112, 108])))]), oo 17 (.build [(.str []), (.str [])] [(0, 1, (.c (.str [109, 101, 116, 97]))), (1, 1, (.c (.str [116, 112])))]), oo 18 (.build [(.str []), (.str [])] [(0, 1, (.c (.str [99, 111, 110, 102, 105, 103]))), (1, 1, (.c (.str [116, 112, 110, 102])))]), oo 19 (.build [(.str []), (.str [])] [(0, 1, (.c (.str [112, 117, 114, 103, 101]))), (1, 1, (.c (.str [116, 112])))]), oo 20 (.build [(.str []), (.str [])] [(0, 1, (.c (.str [108, 105, 115, 116]))), (1, 1, (.c (.str [116, 112])))]), oo 21 (.build [(.str []), (.str [])] [(0, 1, (.c (.str [99, 111, 112, 121]))), (1, 1, (.c (.str [116, 112, 113])))]), oo 22 (.build [(.str []), (.str []), (.str []), (.str []), (.str []), (.str []), (.str []), (.str []), (.str []), (.str []), (.str []), (.str []), (.str []), (.str []), (.str []), (.str []), (.str []), (.str []), (.str []), (.str []), (.str []), (.str []), (.str []), (.str []), (.str []), (.str []), (.str []), (.str []), (.str []), (.str []), (.str []), (.str []), (.str []), (.str []), (.str []), (.str []), (.str []), (.str [])] [(2, 2, (.t 4)), (4, 2, (.t 5)), (6, 2, (.t 6)), (8, 2, (.t 7)), (10, 2, (.t 8)), (12, 2, (.t 9)), (14, 2, (.t 10)), (16, 2, (.t 11)), (18, 2, (.t 12)), (20, 2, (.t 13)), (22, 2, (.t 14)), (24, 2, (.t 15)), (26, 2, (.t 16)), (28, 2, (.t 17)), (30, 2, (.t 18)), (32, 2, (.t 19)), (34, 2, (.t 20)), (36, 2, (.t 21))]), oo 3 (.alloc [(.str []), (.str []), (.str []), (.str []), (.str []), (.str []), (.str []), (.str []), (.str []), (.str []), (.str []), (.str []), (.str []), (.str []), (.str []), (.str []), (.str []), (.str []), (.str []), (.str []), (.str []), (.str []), (.str []), (.str []), (.str []), (.str []), (.str []), (.str []), (.str []), (.str []), (.str []), (.str []), (.str []), (.str []), (.str []), (.str []), (.str []), (.str [])]), oz (.store 38 (.t 3) (.t 22))] (.seq (sr [mm 23 0, oo 24 (.conv .i64 (.t 23)), bi 25 .geq 24 19] (cd 25 (sr [oo 26 (.build [(.str []), (.str [])] []), oz (.store 2 (.t 2) (.t 26))] .ret) .skip)) (sr [mm 27 0, oo 28 (.iadda 19 2 (.t 3) (.t 27)), lk 29 2 28, oz (.store 2 (.t 2) (.t 29))] .ret))))
theorem fn151 : Fn Tryz.prog 151 30 dc151 [.cell (some 2) 2] := Ao Tryz.func151
def dc152 : DC := (sr [oo 2 (.box (.t 0)), ci 4 0] (.seq (sr [mm 5 1] (.block 0 (sr [oo 7 (.bin .eql (.t 5) (.c (.int .i32 116))), mm 6 7] (cd 6 (sr [ff 8 1 2, ll 9 8, cc 10 258 [(.t 9)], cc 11 257 [(.t 10)], mm 4 11] .ret) (sr [oo 13 (.bin .eql (.t 5) (.c (.int .i32 109))), mm 12 13] (cd 12 (sr [ff 14 3 2, ll 15 14, cc 16 258 [(.t 15)], cc 17 257 [(.t 16)], mm 4 17] .ret) (sr [oo 19 (.bin .eql (.t 5) (.c (.int .i32 112))), mm 18 19] (cd 18 (sr [ff 20 2 2, ll 21 20, cc 22 201 [(.t 21)], mm 4 22] .ret) (sr [oo 24 (.bin .eql (.t 5) (.c (.int .i32 113))), mm 23 24] (cd 23 (sr [ff 25 3 2, ll 26 25, cc 27 201 [(.t 26)], mm 4 27] .ret) (sr [oo 29 (.bin .eql (.t 5) (.c (.int .i32 110))), mm 28 29] (cd 28 (sr [ff 30 4 2, ll 31 30, cc 32 259 [(.t 31), (.c (.int .i64 0)), (.c (.int .i64 999))], cc 33 257 [(.t 32)], mm 4 33] .ret) (sr [oo 35 (.bin .eql (.t 5) (.c (.int .i32 99))), mm 34 35] (cd 34 (sr [ff 36 5 2, ll 37 36, cc 38 259 [(.t 37), (.c (.int .i64 (-1))), (.c (.int .i64 999))], cc 39 257 [(.t 38)], mm 4 39] .ret) (sr [oo 41 (.bin .eql (.t 5) (.c (.int .i32 108))), mm 40 41] (cd 40 (sr [ff 42 7 2, ll 43 42, cc 44 260 [(.t 43)], cc 45 257 [(.t 44)], mm 4 45] .ret) (sr [oo 47 (.bin .eql (.t 5) (.c (.int .i32 114))), mm 46 47] (cd 46 (sr [ff 48 9 2, ll 49 48, cc 50 214 [(.t 49)], mm 4 50] .ret) (sr [oo 52 (.bin .eql (.t 5) (.c (.int .i32 107))), mm 51 52] (cd 51 (sr [ff 53 10 2, ll 54 53, nn 55 true 54, bi 56 .eql 55 16, cc 57 257 [(.t 56)], mm 4 57] .ret) .skip)))))))))))))))))))) (sr [ci 4 0] .ret)))
theorem fn152 : Fn Tryz.prog 152 58 dc152 [.t 4] := Ao Tryz.func152
def dc153 : DC := (sr [oo 2 (.box (.t 0)), oo 4 (.alloc [(.int .u8 0), (.str []), (.str []), (.str []), (.int .i64 0), (.int .i64 0), (.bool false), (.slice true [] []), (.str []), (.slice true [] []), (.str [])])] (.seq (sr [mm 5 1] (.block 0 (sr [oo 7 (.bin .eql (.t 5) (.c (.int .i32 116))), mm 6 7] (cd 6 (.row [ff 8 1 2, oz (.store 1 (.t 8) (.c (.str [])))]) (sr [oo 10 (.bin .eql (.t 5) (.c (.int .i32 112))), mm 9 10] (cd 9 (.row [ff 11 2 2, oz (.store 1 (.t 11) (.c (.str [])))]) (.seq (sr [oo 13 (.bin .eql (.t 5) (.c (.int .i32 109))), mm 12 13] (cd 12 .skip (.row [oo 14 (.bin .eql (.t 5) (.c (.int .i32 113))), mm 12 14]))) (cd 12 (.row [ff 15 3 2, oz (.store 1 (.t 15) (.c (.str [])))]) (sr [oo 17 (.bin .eql (.t 5) (.c (.int .i32 110))), mm 16 17] (cd 16 (.row [ff 18 4 2, oz (.store 1 (.t 18) (.c (.int .i64 0)))]) (sr [oo 20 (.bin .eql (.t 5) (.c (.int .i32 99))), mm 19 20] (cd 19 (.row [ff 21 5 2, oz (.store 1 (.t 21) (.c (.int .i64 0)))]) (sr [oo 23 (.bin .eql (.t 5) (.c (.int .i32 102))), mm 22 23] (cd 22 (.row [ff 24 6 2, oz (.store 1 (.t 24) (.c (.bool false)))]) (sr [oo 26 (.bin .eql (.t 5) (.c (.int .i32 108))), mm 25 26] (cd 25 (.row [ff 27 7 2, oz (.store 1 (.t 27) (.c (.slice true [] [])))]) (sr [oo 29 (.bin .eql (.t 5) (.c (.int .i32 100))), mm 28 29] (cd 28 (.row [ff 30 8 2, oz (.store 1 (.t 30) (.c (.str [])))]) (sr [oo 32 (.bin .eql (.t 5) (.c (.int .i32 114))), mm 31 32] (cd 31 (.row [ff 33 9 2, oz (.store 1 (.t 33) (.c (.slice true [] [])))]) (sr [oo 35 (.bin .eql (.t 5) (.c (.int .i32 107))), mm 34 35] (cd 34 (.row [ff 36 10 2, oz (.store 1 (.t 36) (.c (.str [])))]) .skip)))))))))))))))))))))) (sr [lk 37 11 2, oz (.store 11 (.t 4) (.t 37))] .ret)))
theorem fn153 : Fn Tryz.prog 153 38 dc153 [.cell (some 11) 4] := Ao Tryz.func153
def dc154 : DC := (sr [oo 2 (.box (.t 0)), oo 3 (.box (.t 1)), cb 4 false] (.seq (sr [ff 6 7 2, ll 7 6, ff 8 7 3, ll 9 8, cc 10 261 [(.t 7), (.t 9)], oo 11 (.un .not (.t 10)), mm 12 11, og 13 (.faddr 9 (.t 2)) 6 false, og 14 (.load none (.t 13)) 6 false, og 15 (.faddr 9 (.t 3)) 6 false, og 16 (.load none (.t 15)) 6 false, og 17 (.call (.c (.fn 262 [])) [(.t 14), (.t 16)]) 6 false, og 18 (.un .not (.t 17)) 6 false, oo 19 (.pick (.t 12) (.c (.bool true)) (.t 18))] (cd 19 (sr [cb 4 false] .ret) .skip)) (sr [ff 20 0 2, ll 21 20, ff 22 0 3, ll 23 22, bt 24 .eql 21 23, mm 25 24, og 26 (.faddr 1 (.t 2)) 5 true, og 27 (.load none (.t 26)) 5 true, og 28 (.faddr 1 (.t 3)) 5 true, og 29 (.load none (.t 28)) 5 true, og 30 (.bin .eql (.t 27) (.t 29)) 5 true, oo 31 (.pick (.t 25) (.t 30) (.c (.bool false))), mm 32 31, og 33 (.faddr 2 (.t 2)) 12 true, og 34 (.load none (.t 33)) 12 true, og 35 (.faddr 2 (.t 3)) 12 true, og 36 (.load none (.t 35)) 12 true, og 37 (.bin .eql (.t 34) (.t 36)) 12 true, oo 38 (.pick (.t 32) (.t 37) (.c (.bool false))), mm 39 38, og 40 (.faddr 3 (.t 2)) 19 true, og 41 (.load none (.t 40)) 19 true, og 42 (.faddr 3 (.t 3)) 19 true, og 43 (.load none (.t 42)) 19 true, og 44 (.bin .eql (.t 41) (.t 43)) 19 true, oo 45 (.pick (.t 39) (.t 44) (.c (.bool false))), mm 5 45] (sr [mm 46 5, mm 47 46, og 48 (.faddr 4 (.t 2)) 1 true, og 49 (.load none (.t 48)) 1 true, og 50 (.faddr 4 (.t 3)) 1 true, og 51 (.load none (.t 50)) 1 true, og 52 (.bin .eql (.t 49) (.t 51)) 1 true, oo 53 (.pick (.t 47) (.t 52) (.c (.bool false))), mm 54 53, og 55 (.faddr 5 (.t 2)) 8 true, og 56 (.load none (.t 55)) 8 true, og 57 (.faddr 5 (.t 3)) 8 true, og 58 (.load none (.t 57)) 8 true, og 59 (.bin .eql (.t 56) (.t 58)) 8 true, oo 60 (.pick (.t 54) (.t 59) (.c (.bool false))), mm 61 60, og 62 (.faddr 6 (.t 2)) 15 true, og 63 (.load none (.t 62)) 15 true, og 64 (.faddr 6 (.t 3)) 15 true, og 65 (.load none (.t 64)) 15 true, og 66 (.beq false (.t 63) (.t 65)) 15 true, oo 67 (.pick (.t 61) (.t 66) (.c (.bool false))), mm 68 67, og 69 (.faddr 8 (.t 2)) 22 true, og 70 (.load none (.t 69)) 22 true, og 71 (.faddr 8 (.t 3)) 22 true, og 72 (.load none (.t 71)) 22 true, og 73 (.bin .eql (.t 70) (.t 72)) 22 true, oo 74 (.pick (.t 68) (.t 73) (.c (.bool false))), mm 75 74, og 76 (.faddr 10 (.t 2)) 29 true, og 77 (.load none (.t 76)) 29 true, og 78 (.faddr 10 (.t 3)) 29 true, og 79 (.load none (.t 78)) 29 true, og 80 (.bin .eql (.t 77) (.t 79)) 29 true, oo 81 (.pick (.t 75) (.t 80) (.c (.bool false))), mm 4 81] .ret))))
theorem fn154 : Fn Tryz.prog 154 82 dc154 [.t 4] := Ao Tryz.func154
def dc155l0 : DC := (sr [oo 15 (.next (.t 14)), xx 16 0 15] (.seq (cd 16 .skip (.exit 0)) (.block 1 (sr [xx 17 2 15, mm 6 17] (.row [mm 18 4, lk 19 11 1, mm 20 6, cc 21 263 [(.t 19), (.t 20)], oo 22 (.bin .add (.c (.str [32])) (.t 21)), bt 23 .add 18 22, mm 4 23])))))
def dc155 : DC := (sr [oo 1 (.box (.t 0)), oo 2 (.mv (.c (.str [])))] (sr [ff 7 0 1, ll 8 7, cc 9 151 [(.t 8)], oo 3 (.alloc [(.str []), (.str [])]), oz (.store 2 (.t 3) (.t 9))] (sr [ff 10 0 3, ll 11 10, mm 4 11] (.seq (sr [ff 12 1 3, ll 13 12, oo 14 (.range (.t 13))] (.block 0 (.loop dc155l0))) (sr [mm 24 4, mm 2 24] .ret)))))
theorem fn155 : Fn Tryz.prog 155 25 dc155 [.t 2] := Ao Tryz.func155
def dc263 : DC := (sr [oo 2 (.box (.t 0)), oo 4 (.mv (.c (.str [])))] (.seq (sr [mm 7 1] (.block 0 (sr [oo 9 (.bin .eql (.t 7) (.c (.int .i32 116))), mm 8 9] (cd 8 (sr [ff 10 1 2, ll 11 10, mm 4 11] .ret) (sr [oo 13 (.bin .eql (.t 7) (.c (.int .i32 112))), mm 12 13] (cd 12 (sr [ff 14 2 2, ll 15 14, mm 4 15] .ret) (.seq (sr [oo 17 (.bin .eql (.t 7) (.c (.int .i32 109))), mm 16 17] (cd 16 .skip (.row [oo 18 (.bin .eql (.t 7) (.c (.int .i32 113))), mm 16 18]))) (cd 16 (sr [ff 19 3 2, ll 20 19, mm 4 20] .ret) (sr [oo 22 (.bin .eql (.t 7) (.c (.int .i32 110))), mm 21 22] (cd 21 (sr [ff 23 4 2, ll 24 23, cc 25 346 [(.t 24)], mm 4 25] .ret) (sr [oo 27 (.bin .eql (.t 7) (.c (.int .i32 99))), mm 26 27] (cd 26 (.seq (sr [ff 28 5 2, ll 29 28, oo 30 (.bin .eql (.t 29) (.c (.int .i64 (-1))))] (cd 30 (sr [oo 4 (.mv (.c (.str [45])))] .ret) .skip)) (sr [ff 31 5 2, ll 32 31, cc 33 346 [(.t 32)], mm 4 33] .ret)) (sr [oo 35 (.bin .eql (.t 7) (.c (.int .i32 102))), mm 34 35] (cd 34 (.seq (sr [ff 36 6 2, ll 37 36] (cd 37 (sr [oo 4 (.mv (.c (.str [49])))] .ret) .skip)) (sr [oo 4 (.mv (.c (.str [48])))] .ret)) (sr [oo 39 (.bin .eql (.t 7) (.c (.int .i32 108))), mm 38 39] (cd 38 (sr [ff 40 7 2, ll 41 40, cc 42 348 [(.t 41)], cc 43 347 [(.t 42)], mm 4 43] .ret) (sr [oo 45 (.bin .eql (.t 7) (.c (.int .i32 100))), mm 44 45] (cd 44 (sr [ff 46 8 2, ll 47 46, cc 48 317 [(.t 47)], cc 49 347 [(.t 48)], mm 4 49] .ret) (sr [oo 51 (.bin .eql (.t 7) (.c (.int .i32 114))), mm 50 51] (cd 50 (sr [ff 53 9 2, ll 54 53, cc 55 232 [(.t 54)], mm 52 55, xx 56 0 52, xx 57 1 52, mm 5 56, mm 6 57] (sr [mm 58 5, cc 59 347 [(.t 58)], mm 4 59] .ret)) .skip)))))))))))))))))))) (sr [ff 60 10 2, ll 61 60, cc 62 317 [(.t 61)], mm 4 62] .ret)))
theorem fn263 : Fn Tryz.prog 263 63 dc263 [.t 4] := Ao Tryz.func263
def dc68l0 : DC := (sr [oo 19 (.next (.t 18)), xx 20 0 19] (.seq (cd 20 .skip (.exit 0)) (.block 1 (sr [xx 21 2 19, mm 6 21] (.seq (sr [lk 22 11 1, mm 23 6, cc 24 152 [(.t 22), (.t 23)], mm 7 24] (sr [mm 25 7, bi 26 .neq 25 0] (cd 26 (sr [mm 27 7, mm 2 27] .ret) .skip))) (.row [lk 28 11 4, mm 29 6, cc 30 153 [(.t 28), (.t 29)], oz (.store 11 (.t 4) (.t 30))]))))))
def dc68 : DC := (sr [oo 1 (.box (.t 0)), ci 2 0] (sr [ff 8 0 1, ll 9 8, cc 10 151 [(.t 9)], oo 3 (.alloc [(.str []), (.str [])]), oz (.store 2 (.t 3) (.t 10))] (.seq (sr [ff 11 0 3, ll 12 11, oo 13 (.bin .eql (.t 12) (.c (.str [])))] (cd 13 (sr [ci 2 22] .ret) .skip)) (sr [lk 14 11 1, oo 4 (.alloc [(.int .u8 0), (.str []), (.str []), (.str []), (.int .i64 0), (.int .i64 0), (.bool false), (.slice true [] []), (.str []), (.slice true [] []), (.str [])]), oz (.store 11 (.t 4) (.t 14))] (sr [ff 15 0 4, oz (.store 1 (.t 15) (.c (.int .u8 0)))] (.seq (sr [ff 16 1 3, ll 17 16, oo 18 (.range (.t 17))] (.block 0 (.loop dc68l0))) (.seq (sr [lk 31 11 4, oo 32 (.build [(.int .u8 0), (.str []), (.str []), (.str []), (.int .i64 0), (.int .i64 0), (.bool false), (.slice true [] []), (.str []), (.slice true [] []), (.str [])] []), cc 33 154 [(.t 31), (.t 32)], oo 34 (.un .not (.t 33))] (cd 34 (sr [ci 2 2] .ret) .skip)) (.seq (sr [lk 35 11 1, cc 36 155 [(.t 35)], nn 37 true 36, bi 38 .gtr 37 400] (cd 38 (sr [ci 2 5] .ret) .skip)) (sr [ci 2 0] .ret)))))))))
theorem fn68 : Fn Tryz.prog 68 39 dc68 [.t 2] := Ao Tryz.func68
end Go.Vd
namespace Go.Vd
open Go.Proofs Go.RowKit
theorem ascii_dec {s : Bs} {p : Nat} {c : UInt8} (h : s[p]? = some c) (hc : c.toNat < 128) : Utf8.decode ⟨s.toArray⟩ p = (c.toNat, 1) := by
 have hp := (List.getElem?_eq_some_iff.1 h).1
 have ha : at' s p = c.toNat := by simp [at', h]
 unfold Utf8.decode
 simp only [get_at, Nat.add_zero, ha, hc, if_true]
def DB : List (Bs × Bs) := [([], []), ([115, 116, 97, 116, 117, 115], []), ([117, 110, 115, 101, 97, 108], [107]), ([115, 101, 97, 108], [116]), ([114, 111, 116, 97, 116, 101], [116]), ([109, 111, 117, 110, 116], [116, 112, 110, 102]), ([117, 110, 109, 111, 117, 110, 116], [116, 112]), ([109, 97, 107, 101], [116, 109, 114]), ([114, 101, 118, 111, 107, 101], [116, 109]), ([114, 101, 97, 100], [116, 112, 110]), ([119, 114, 105, 116, 101], [116, 112, 99, 100]), ([100, 101, 108, 101, 116, 101], [116, 112, 108]), ([117, 110, 100, 101, 108, 101, 116, 101], [116, 112, 108]), ([100, 101, 115, 116, 114, 111, 121], [116, 112, 108]), ([109, 101, 116, 97], [116, 112]), ([99, 111, 110, 102, 105, 103], [116, 112, 110, 102]), ([112, 117, 114, 103, 101], [116, 112]), ([108, 105, 115, 116], [116, 112]), ([99, 111, 112, 121], [116, 112, 113])]
def Cz (op : Int) : Bs := (DB.getD op.toNat ([], [])).1
def Bv (op : Int) : Bs := (DB.getD op.toNat ([], [])).2
def isForm (p : Bs × Bs) : Option D → Bool
 | some (.agg [.str a, .str b]) => Go.Ve.eqBs a p.1 && Go.Ve.eqBs b p.2
 | _ => false
def R151 : List D → Option D := EG (fun _ => none) 30 dc151 [.cell (some 2) 2] 60
theorem ok151 : (Ai R151).ok Tryz.prog 151 := Dq Au fn151 60
theorem R151_all : (List.range 256).all (fun op => isForm (DB.getD op ([], [])) (R151 [.int .u8 (op : Nat)])) = true := by kernel_rfl
theorem R151_eq {op : Int} (h0 : 0 ≤ op) (h : op < 256) : R151 [.int .u8 op] = some (.agg [.str (Cz op), .str (Bv op)]) := by
 have := List.all_eq_true.1 R151_all op.toNat (by simp; omega)
 rw [Int.toNat_of_nonneg h0] at this
 unfold Cz Bv
 generalize R151 [.int .u8 op] = r at this
 unfold isForm at this
 split at this
 ·rw [Bool.and_eq_true] at this
  rw [Go.Ve.eqBs_eq this.1, Go.Ve.eqBs_eq this.2]
 ·cases this
structure AkOk (a : Ak) : Prop where
 op0 : 0 ≤ a.op
 op : a.op < 256
 tk : a.tk.length ≤ 1000
 pa : a.pa.length ≤ 1000
 ot : a.ot.length ≤ 1000
 ns : a.ns.length ≤ 1000
 da : a.da.length ≤ 1000
 rl : a.rs.length ≤ 1000
 rs : ∀ r ∈ a.rs, r.1.length ≤ 1000 ∧ 0 ≤ r.2
 key : a.key.length ≤ 1000
def Bg (a : Ak) (c : Int) : Int := if c = 116 then fineE (BF a.tk) else if c = 109 then fineE (BF a.ot) else if c = 112 then Be a.pa else if c = 113 then Be a.ot else if c = 110 then fineE (decide (0 ≤ a.n ∧ a.n ≤ 999)) else if c = 99 then fineE (decide (-1 ≤ a.cas ∧ a.cas ≤ 999)) else if c = 108 then fineE (countB a.ns) else if c = 114 then Cm a.rs else if c = 107 then fineE (decide ((a.key.length : Int) = 16)) else 0
noncomputable def F152 : List D → Option D := FX (fun p : Ak × Int => [akD p.1, .int .i32 p.2]) (fun p => AkOk p.1) (fun p => .int .i64 (Bg p.1 p.2))
theorem F152_eq {a : Ak} {c : Int} (h : AkOk a) : F152 [akD a, .int .i32 c] = some (.int .i64 (Bg a c)) :=
 AP (mk := fun p : Ak × Int => [akD p.1, .int .i32 p.2]) (a := (a, c)) (fun x y e => by
  simp only [List.cons.injEq, D.int.injEq, true_and, and_true] at e
  exact Prod.ext (BI e.1) e.2) h
theorem ok152 : (Ai F152).ok Tryz.prog 152 := by
 obtain ⟨S, hS, hl⟩ := AJ (Ab ok258 (Ab ok257 (Ab ok201 (Ab ok259 (Ab ok260 (Ab ok214 Ae))))))
 have s258 := hl 258 _ rfl
 have s257 := hl 257 _ rfl
 have s201 := hl 201 _ rfl
 have s259 := hl 259 _ rfl
 have s260 := hl 260 _ rfl
 have s214 := hl 214 _ rfl
 clear hl
 refine AL hS fn152 (fun _ => by simp) (fun p hp => ?_)
 obtain ⟨a, c⟩ := p
 simp only at hp
 have hT := F258_eq (s := a.tk) (by have := hp.tk; omega)
 have hO := F258_eq (s := a.ot) (by have := hp.ot; omega)
 have hP : F201 [.str a.pa] = some (.int .i64 (Be a.pa)) := if_pos (by have := hp.pa; omega)
 have hQ : F201 [.str a.ot] = some (.int .i64 (Be a.ot)) := if_pos (by have := hp.ot; omega)
 have hN : F259 [.int .i64 a.n, .int .i64 0, .int .i64 999] = some (.bool (decide (0 ≤ a.n ∧ a.n ≤ 999))) := rfl
 have hC : F259 [.int .i64 a.cas, .int .i64 (-1), .int .i64 999] = some (.bool (decide (-1 ≤ a.cas ∧ a.cas ≤ 999))) := rfl
 have hL := F260_eq (nl := a.nln) (l := a.ns) (by have := hp.ns; omega)
 have hR := Fpol_eq' (nl := a.nlr) (l := a.rs) (by have := hp.rl; omega) hp.rs
 unfold Bg dc152 akD akC
 simp only
 by_cases h116 : c = 116
 ·subst h116
  simp only [↓go1, gB0, reduceIte, Nat.reduceEqDiff, Nat.reduceAdd, Aa s258, hT, Aa s257, F257_eq, Int.reduceEq, Ac, Nat.reduceLT]
  all_goals (first | rfl | exact ⟨rfl, rfl⟩)
 have g116 : decide (c = 116) = false := by simpa using h116
 by_cases h109 : c = 109
 ·subst h109
  simp only [↓go1, gB0, reduceIte, Nat.reduceEqDiff, Nat.reduceAdd, Aa s258, hO, Aa s257, F257_eq, Int.reduceEq, Ac, Nat.reduceLT]
  all_goals (first | rfl | exact ⟨rfl, rfl⟩)
 have g109 : decide (c = 109) = false := by simpa using h109
 by_cases h112 : c = 112
 ·subst h112
  simp only [↓go1, gB0, reduceIte, Nat.reduceEqDiff, Nat.reduceAdd, Aa s201, hP, Int.reduceEq, Ac, Nat.reduceLT]
  all_goals (first | rfl | exact ⟨rfl, rfl⟩)
 have g112 : decide (c = 112) = false := by simpa using h112
 by_cases h113 : c = 113
 ·subst h113
  simp only [↓go1, gB0, reduceIte, Nat.reduceEqDiff, Nat.reduceAdd, Aa s201, hQ, Int.reduceEq, Ac, Nat.reduceLT]
  all_goals (first | rfl | exact ⟨rfl, rfl⟩)
 have g113 : decide (c = 113) = false := by simpa using h113
 by_cases h110 : c = 110
 ·subst h110
  simp only [↓go1, gB0, reduceIte, Nat.reduceEqDiff, Nat.reduceAdd, Aa s259, hN, Aa s257, F257_eq, Int.reduceEq, Ac, Nat.reduceLT]
  all_goals (first | rfl | exact ⟨rfl, rfl⟩)
 have g110 : decide (c = 110) = false := by simpa using h110
 by_cases h99 : c = 99
 ·subst h99
  simp only [↓go1, gB0, reduceIte, Nat.reduceEqDiff, Nat.reduceAdd, Aa s259, hC, Aa s257, F257_eq, Int.reduceEq, Ac, Nat.reduceLT]
  all_goals (first | rfl | exact ⟨rfl, rfl⟩)
 have g99 : decide (c = 99) = false := by simpa using h99
 by_cases h108 : c = 108
 ·subst h108
  simp only [↓go1, gB0, reduceIte, Nat.reduceEqDiff, Nat.reduceAdd, Aa s260, hL, Aa s257, F257_eq, Int.reduceEq, Ac, Nat.reduceLT]
  all_goals (first | rfl | exact ⟨rfl, rfl⟩)
 have g108 : decide (c = 108) = false := by simpa using h108
 by_cases h114 : c = 114
 ·subst h114
  simp only [↓go1, gB0, reduceIte, Nat.reduceEqDiff, Nat.reduceAdd, Aa s214, hR, Int.reduceEq, Ac, Nat.reduceLT]
  all_goals (first | rfl | exact ⟨rfl, rfl⟩)
 have g114 : decide (c = 114) = false := by simpa using h114
 by_cases h107 : c = 107
 ·subst h107
  simp only [↓go1, gB0, reduceIte, Nat.reduceEqDiff, Nat.reduceAdd, Aa s257, F257_eq, Int.reduceEq, Ac, Nat.reduceLT]
  all_goals (first | rfl | exact ⟨rfl, rfl⟩)
 have g107 : decide (c = 107) = false := by simpa using h107
 simp only [↓go1, go2, go3, go4, reduceIte, Nat.reduceEqDiff, Nat.reduceAdd, h116, h109, h112, h113, h110, h99, h108, h114, h107, Nat.zero_add, and_self]
 all_goals (first | rfl | exact ⟨rfl, rfl⟩)
def A_ (a : Ak) (c : Int) : Ak := if c = 116 then { a with tk := [] } else if c = 112 then { a with pa := [] } else if c = 109 ∨ c = 113 then { a with ot := [] } else if c = 110 then { a with n := 0 } else if c = 99 then { a with cas := 0 } else if c = 102 then { a with fl := false } else if c = 108 then { a with nln := true, ns := [] } else if c = 100 then { a with da := [] } else if c = 114 then { a with nlr := true, rs := [] } else if c = 107 then { a with key := [] } else a
noncomputable def F153 : List D → Option D := FX (fun p : Ak × Int => [akD p.1, .int .i32 p.2]) (fun p => True) (fun p => akD (A_ p.1 p.2))
theorem F153_eq {a : Ak} {c : Int} : F153 [akD a, .int .i32 c] = some (akD (A_ a c)) :=
 AP (mk := fun p : Ak × Int => [akD p.1, .int .i32 p.2]) (a := (a, c)) (fun x y e => by
  simp only [List.cons.injEq, D.int.injEq, true_and, and_true] at e
  exact Prod.ext (BI e.1) e.2) trivial
theorem ok153 : (Ai F153).ok Tryz.prog 153 := by
 refine AL (S := fun _ => none) Au fn153 (fun _ => by simp) (fun p hp => ?_)
 obtain ⟨a, c⟩ := p
 unfold A_ dc153 akD akC
 simp only
 by_cases h116 : c = 116
 ·subst h116
  simp only [↓go1, gB0, reduceIte, Nat.reduceEqDiff, Nat.reduceAdd, Int.reduceEq, or_self, Int.reduceEq, Ac, Ag, Ah, Nat.reduceLT, Nat.reduceLeDiff, Nat.reduceSub, Option.bind_some, Option.isSome_some, List.cons.injEq, Nat.zero_ne_one, and_false, Nat.succ_ne_zero, AR, AE]
  all_goals (first | rfl | exact ⟨rfl, rfl⟩)
 by_cases h112 : c = 112
 ·subst h112
  simp only [↓go1, gB0, reduceIte, Nat.reduceEqDiff, Nat.reduceAdd, Int.reduceEq, or_self, Int.reduceEq, Ac, Ag, Ah, Nat.reduceLT, Nat.reduceLeDiff, Nat.reduceSub, Option.bind_some, Option.isSome_some, List.cons.injEq, Nat.zero_ne_one, and_false, Nat.succ_ne_zero, AR, AE]
  all_goals (first | rfl | exact ⟨rfl, rfl⟩)
 by_cases h109 : c = 109
 ·subst h109
  simp only [↓go1, gB0, reduceIte, Nat.reduceEqDiff, Nat.reduceAdd, true_or, Int.reduceEq, Int.reduceEq, Ac, Ag, Ah, Nat.reduceLT, Nat.reduceLeDiff, Nat.reduceSub, Option.bind_some, Option.isSome_some, List.cons.injEq, Nat.zero_ne_one, and_false, Nat.succ_ne_zero, AR, AE]
  all_goals (first | rfl | exact ⟨rfl, rfl⟩)
 by_cases h113 : c = 113
 ·subst h113
  simp only [↓go1, gB0, reduceIte, Nat.reduceEqDiff, Nat.reduceAdd, or_true, Int.reduceEq, Int.reduceEq, Ac, Ag, Ah, Nat.reduceLT, Nat.reduceLeDiff, Nat.reduceSub, Option.bind_some, Option.isSome_some, List.cons.injEq, Nat.zero_ne_one, and_false, Nat.succ_ne_zero, AR, AE]
  all_goals (first | rfl | exact ⟨rfl, rfl⟩)
 by_cases h110 : c = 110
 ·subst h110
  simp only [↓go1, gB0, reduceIte, Nat.reduceEqDiff, Nat.reduceAdd, Int.reduceEq, or_self, Int.reduceEq, Ac, Ag, Ah, Nat.reduceLT, Nat.reduceLeDiff, Nat.reduceSub, Option.bind_some, Option.isSome_some, List.cons.injEq, Nat.zero_ne_one, and_false, Nat.succ_ne_zero, AR, AE]
  all_goals (first | rfl | exact ⟨rfl, rfl⟩)
 by_cases h99 : c = 99
 ·subst h99
  simp only [↓go1, gB0, reduceIte, Nat.reduceEqDiff, Nat.reduceAdd, Int.reduceEq, or_self, Int.reduceEq, Ac, Ag, Ah, Nat.reduceLT, Nat.reduceLeDiff, Nat.reduceSub, Option.bind_some, Option.isSome_some, List.cons.injEq, Nat.zero_ne_one, and_false, Nat.succ_ne_zero, AR, AE]
  all_goals (first | rfl | exact ⟨rfl, rfl⟩)
 by_cases h102 : c = 102
 ·subst h102
  simp only [↓go1, gB0, reduceIte, Nat.reduceEqDiff, Nat.reduceAdd, Int.reduceEq, or_self, Int.reduceEq, Ac, Ag, Ah, Nat.reduceLT, Nat.reduceLeDiff, Nat.reduceSub, Option.bind_some, Option.isSome_some, List.cons.injEq, Nat.zero_ne_one, and_false, Nat.succ_ne_zero, AR, AE]
  all_goals (first | rfl | exact ⟨rfl, rfl⟩)
 by_cases h108 : c = 108
 ·subst h108
  simp only [↓go1, gB0, reduceIte, Nat.reduceEqDiff, Nat.reduceAdd, Int.reduceEq, or_self, Int.reduceEq, Ac, Ag, Ah, Nat.reduceLT, Nat.reduceLeDiff, Nat.reduceSub, Option.bind_some, Option.isSome_some, List.cons.injEq, Nat.zero_ne_one, and_false, Nat.succ_ne_zero, AR, AE]
  all_goals (first | rfl | exact ⟨rfl, rfl⟩)
 by_cases h100 : c = 100
 ·subst h100
  simp only [↓go1, gB0, reduceIte, Nat.reduceEqDiff, Nat.reduceAdd, Int.reduceEq, or_self, Int.reduceEq, Ac, Ag, Ah, Nat.reduceLT, Nat.reduceLeDiff, Nat.reduceSub, Option.bind_some, Option.isSome_some, List.cons.injEq, Nat.zero_ne_one, and_false, Nat.succ_ne_zero, AR, AE]
  all_goals (first | rfl | exact ⟨rfl, rfl⟩)
 by_cases h114 : c = 114
 ·subst h114
  simp only [↓go1, gB0, reduceIte, Nat.reduceEqDiff, Nat.reduceAdd, Int.reduceEq, or_self, Int.reduceEq, Ac, Ag, Ah, Nat.reduceLT, Nat.reduceLeDiff, Nat.reduceSub, Option.bind_some, Option.isSome_some, List.cons.injEq, Nat.zero_ne_one, and_false, Nat.succ_ne_zero, AR, AE]
  all_goals (first | rfl | exact ⟨rfl, rfl⟩)
 by_cases h107 : c = 107
 ·subst h107
  simp only [↓go1, gB0, reduceIte, Nat.reduceEqDiff, Nat.reduceAdd, Int.reduceEq, or_self, Int.reduceEq, Ac, Ag, Ah, Nat.reduceLT, Nat.reduceLeDiff, Nat.reduceSub, Option.bind_some, Option.isSome_some, List.cons.injEq, Nat.zero_ne_one, and_false, Nat.succ_ne_zero, AR, AE]
  all_goals (first | rfl | exact ⟨rfl, rfl⟩)
 simp only [↓go1, gB0, reduceIte, Nat.reduceEqDiff, Nat.reduceAdd, h116, h112, h109, h113, h110, h99, h102, h108, h100, h114, h107, or_self, Ac, Ag, Ah, Nat.reduceLT, Option.bind_some, Option.isSome_some, List.cons.injEq, Nat.zero_ne_one, Nat.succ_ne_zero, AR, AE]
 all_goals (first | rfl | exact ⟨rfl, rfl⟩)
def orN (s : Bs) : Bs := if s = [] then [45] else s
def C9 (a : Ak) (c : Int) : Bs := if c = 116 then a.tk else if c = 112 then a.pa else if c = 109 ∨ c = 113 then a.ot else if c = 110 then Ek a.n.toNat else if c = 99 then (if a.cas = -1 then [45] else Ek a.cas.toNat)
 else if c = 102 then (if a.fl = true then [49] else [48]) else if c = 108 then orN (Bp (BK a.ns)) else if c = 100 then orN (hexB a.da) else if c = 114 then orN (if Cm a.rs = 0 then Bp (Bk a.rs) else []) else hexB a.key
structure LayOk (a : Ak) (c : Int) : Prop where
 n : c = 110 → 0 ≤ a.n ∧ a.n < 1000
 cas : c = 99 → -1 ≤ a.cas ∧ a.cas < 1000
 ns : c = 108 → ∀ x ∈ a.ns, 0 ≤ x ∧ x < 1000
noncomputable def F263 : List D → Option D := FX (fun p : Ak × Int => [akD p.1, .int .i32 p.2]) (fun p => AkOk p.1 ∧ LayOk p.1 p.2) (fun p => .str (C9 p.1 p.2))
theorem F263_eq {a : Ak} {c : Int} (h : AkOk a) (h2 : LayOk a c) : F263 [akD a, .int .i32 c] = some (.str (C9 a c)) :=
 AP (mk := fun p : Ak × Int => [akD p.1, .int .i32 p.2]) (a := (a, c)) (fun x y e => by
  simp only [List.cons.injEq, D.int.injEq, true_and, and_true] at e
  exact Prod.ext (BI e.1) e.2) ⟨h, h2⟩
theorem ok263 : (Ai F263).ok Tryz.prog 263 := by
 obtain ⟨S, hS, hl⟩ := AJ (Ab ok346 (Ab ok347 (Ab ok348 (Ab ok317 (Ab ok232 Ae)))))
 have s346 := hl 346 _ rfl
 have s347 := hl 347 _ rfl
 have s348 := hl 348 _ rfl
 have s317 := hl 317 _ rfl
 have s232 := hl 232 _ rfl
 clear hl
 refine AL hS fn263 (fun _ => by simp) (fun p hp => ?_)
 obtain ⟨a, c⟩ := p
 obtain ⟨hp, hN, hC, hL⟩ := hp
 simp only at hp hN hC hL
 unfold C9 orN dc263 akD akC
 simp only
 by_cases h116 : c = 116
 ·subst h116
  simp only [↓go1, gB0, reduceIte, Nat.reduceEqDiff, Nat.reduceAdd, Int.reduceEq, or_self, Ac, Nat.reduceLT]
  all_goals (first | rfl | exact ⟨rfl, rfl⟩)
 by_cases h112 : c = 112
 ·subst h112
  simp only [↓go1, gB0, reduceIte, Nat.reduceEqDiff, Nat.reduceAdd, Int.reduceEq, or_self, Ac, Nat.reduceLT]
  all_goals (first | rfl | exact ⟨rfl, rfl⟩)
 by_cases h109 : c = 109
 ·subst h109
  simp only [↓go1, gB0, reduceIte, Nat.reduceEqDiff, Nat.reduceAdd, Int.reduceEq, true_or, Ac, Nat.reduceLT]
  all_goals (first | rfl | exact ⟨rfl, rfl⟩)
 by_cases h113 : c = 113
 ·subst h113
  simp only [↓go1, gB0, reduceIte, Nat.reduceEqDiff, Nat.reduceAdd, Int.reduceEq, or_true, Ac, Nat.reduceLT]
  all_goals (first | rfl | exact ⟨rfl, rfl⟩)
 by_cases h110 : c = 110
 ·subst h110
  have hn := hN rfl
  obtain ⟨n, hn'⟩ : ∃ n : Nat, a.n = (n : Int) := ⟨a.n.toNat, by omega⟩
  have h346 := F346_eq (n := n) (by omega)
  rw [hn']
  simp only [↓go1, gB0, reduceIte, Nat.reduceEqDiff, Nat.reduceAdd, Aa s346, h346, Int.toNat_natCast, Int.reduceEq, or_self, Ac, Nat.reduceLT]
  all_goals (first | rfl | exact ⟨rfl, rfl⟩)
 by_cases h99 : c = 99
 ·subst h99
  have hc := hC rfl
  by_cases h1 : a.cas = -1
  ·rw [h1]
   simp only [↓go1, gB0, reduceIte, Nat.reduceEqDiff, Nat.reduceAdd, Int.reduceEq, or_self, Ac, Nat.reduceLT]
   all_goals (first | rfl | exact ⟨rfl, rfl⟩)
  ·obtain ⟨n, hn'⟩ : ∃ n : Nat, a.cas = (n : Int) := ⟨a.cas.toNat, by omega⟩
   have h346 := F346_eq (n := n) (by omega)
   rw [hn'] at h1 ⊢
   simp only [↓go1, gB0, reduceIte, Nat.reduceEqDiff, Nat.reduceAdd, h1, Aa s346, h346, Int.toNat_natCast, Int.reduceEq, or_self, Ac, Nat.reduceLT]
   all_goals (first | rfl | exact ⟨rfl, rfl⟩)
 by_cases h102 : c = 102
 ·subst h102
  cases a.fl <;> simp only [↓go1, gB0, reduceIte, Nat.reduceEqDiff, Nat.reduceAdd, Int.reduceEq, or_self, Ac, Nat.reduceLT]
  all_goals (first | rfl | exact ⟨rfl, rfl⟩)
 by_cases h108 : c = 108
 ·subst h108
  have hl := hL rfl
  have h348 := F348_eq (nl := a.nln) (l := a.ns) hp.ns hl
  simp only [↓go1, gB0, reduceIte, Nat.reduceEqDiff, Nat.reduceAdd, Aa s348, h348, Aa s347, F347_eq, Int.reduceEq, or_self, Ac, Nat.reduceLT]
  all_goals (first | rfl | exact ⟨rfl, rfl⟩)
 by_cases h100 : c = 100
 ·subst h100
  have h317 := F317_eq (s := a.da) (by have := hp.da; omega)
  simp only [↓go1, gB0, reduceIte, Nat.reduceEqDiff, Nat.reduceAdd, Aa s317, h317, Aa s347, F347_eq, Int.reduceEq, or_self, Ac, Nat.reduceLT]
  all_goals (first | rfl | exact ⟨rfl, rfl⟩)
 by_cases h114 : c = 114
 ·subst h114
  have h232 := F232_eq (nl := a.nlr) (l := a.rs) (by have := hp.rl; omega) hp.rs
  simp only [↓go1, gB0, reduceIte, Nat.reduceEqDiff, Nat.reduceAdd, Aa s232, h232, Aa s347, F347_eq, Int.reduceEq, or_self, Ac, Nat.reduceLT]
  all_goals (first | rfl | exact ⟨rfl, rfl⟩)
 have h317 := F317_eq (s := a.key) (by have := hp.key; omega)
 simp only [↓go1, gB0, reduceIte, Nat.reduceEqDiff, Nat.reduceAdd, Aa s317, h317, h116, h112, h109, h113, h110, h99, h102, h108, h100, h114, or_self, Ac, Nat.reduceLT]
 all_goals (first | rfl | exact ⟨rfl, rfl⟩)
def zeroB (a : Ak) : Bool := a.ns.isEmpty && (a.rs.isEmpty && (decide (a.op = 0) && (decide (a.tk = []) && (decide (a.pa = []) && (decide (a.ot = []) && (decide (a.n = 0) && (decide (a.cas = 0) && (!a.fl && (decide (a.da = []) && decide (a.key = []))))))))))
def ak0 : Ak := ⟨0, [], [], [], 0, 0, false, true, [], [], true, [], []⟩
noncomputable def F154 : List D → Option D := FX (fun a : Ak => [akD a, akD ak0]) (fun a => AkOk a) (fun a => .bool (zeroB a))
theorem F154_eq {a : Ak} (h : AkOk a) : F154 [akD a, akD ak0] = some (.bool (zeroB a)) :=
 AP (mk := fun a : Ak => [akD a, akD ak0]) (fun x y e => by
  simp only [List.cons.injEq, and_true] at e
  exact BI e) h
theorem ok262 : (Ai F261).ok Tryz.prog 262 := by
 obtain ⟨S, hS, hl⟩ := AJ (Ab ok345 Ae)
 have s345 := hl 345 _ rfl
 clear hl
 refine AL hS fn262 (fun _ => by simp) (fun p hs => ?_)
 have h345 := F261_eq (nl := p.1) (nl' := p.2.2) (l := p.2.1) hs
 unfold dc262
 by_cases hcm : (([D.slice p.1 [] p.2.1, .slice p.2.2 [] []] : List D).map D.un).all D.calm = true
 ·simp only [↓go1, go2, go3, go4, reduceIte, Nat.reduceEqDiff, Nat.reduceAdd, Aa s345, h345, and_self]
  all_goals (first | rfl | exact ⟨rfl, rfl⟩)
 ·exact absurd rfl hcm
theorem ok154 : (Ai F154).ok Tryz.prog 154 := by
  obtain ⟨S, hS, hl⟩ := AJ (Ab ok261 (Ab ok262 Ae))
  have s261 := hl 261 _ rfl
  have s262 := hl 262 _ rfl
  clear hl
  refine AL hS fn154 (fun _ => by simp) (fun a hp => ?_)
  have h261 := F261_eq (nl := a.nln) (nl' := true) (l := By a.ns) (by rw [Bb]; have := hp.ns; omega)
  have h262 := F261_eq (nl := a.nlr) (nl' := true) (l := Aj a.rs) (by rw [An]; have := hp.rl; omega)
  have e1 : (By a.ns).isEmpty = a.ns.isEmpty := by cases a.ns <;> rfl
  have e2 : (Aj a.rs).isEmpty = a.rs.isEmpty := by cases a.rs <;> rfl
  rw [e1] at h261
  rw [e2] at h262
  unfold zeroB dc154 akD akC ak0
  simp only
  generalize a.ns.isEmpty = b1 at h261
  generalize a.rs.isEmpty = b2 at h262
  have n1 : By ([] : List Int) = [] := rfl
  have n2 : Aj ([] : List Rl) = [] := rfl
  cases b1 with
  | false => simp only [↓go1, gB0, reduceIte, Nat.reduceEqDiff, Nat.reduceAdd, n1, n2, Aa s261, h261, Bool.false_and, Ac, Nat.reduceLT, List.cons.injEq, Nat.zero_ne_one, Nat.succ_ne_zero]
             all_goals (first | rfl | exact ⟨rfl, rfl⟩)
  | true =>
    cases b2 with
    | false => simp only [↓go1, gB0, reduceIte, Nat.reduceEqDiff, Nat.reduceAdd, n1, n2, Aa s261, h261, Aa s262, h262, Bool.false_and, Bool.and_false, Ac, Nat.reduceLT, List.cons.injEq, Nat.zero_ne_one, Nat.succ_ne_zero]
               all_goals (first | rfl | exact ⟨rfl, rfl⟩)
    | true =>
      simp only [Bool.true_and]
      by_cases g1 : a.op = 0
      · by_cases g2 : a.tk = []
        · by_cases g3 : a.pa = []
          · by_cases g4 : a.ot = []
            · by_cases g5 : a.n = 0
              · by_cases g6 : a.cas = 0
                · cases g7 : a.fl with
                  | false =>
                    by_cases g8 : a.da = []
                    · simp only [↓go1, gB0, reduceIte, Nat.reduceEqDiff, Nat.reduceAdd, n1, n2, Aa s261, h261, Aa s262, h262, Ac, Nat.reduceLT, List.cons.injEq, Nat.zero_ne_one, Nat.succ_ne_zero, g1, g2, g3, g4, g5, g6, g8]
                      trace_state
                      all_goals (first | rfl | exact ⟨rfl, rfl⟩)
                    · simp only [↓go1, gB0, reduceIte, Nat.reduceEqDiff, Nat.reduceAdd, n1, n2, Aa s261, h261, Aa s262, h262, Bool.false_and, Bool.and_false, Ac, Nat.reduceLT, List.cons.injEq, Nat.zero_ne_one, Nat.succ_ne_zero, g1, g2, g3, g4, g5, g6, g8]
                      all_goals (first | rfl | exact ⟨rfl, rfl⟩)
                  | true => simp only [↓go1, gB0, reduceIte, Nat.reduceEqDiff, Nat.reduceAdd, n1, n2, Aa s261, h261, Aa s262, h262, Bool.false_and, Bool.and_false, Ac, Nat.reduceLT, List.cons.injEq, Nat.zero_ne_one, Nat.succ_ne_zero, g1, g2, g3, g4, g5, g6]
                            all_goals (first | rfl | exact ⟨rfl, rfl⟩)
                · simp only [↓go1, gB0, reduceIte, Nat.reduceEqDiff, Nat.reduceAdd, n1, n2, Aa s261, h261, Aa s262, h262, Bool.false_and, Bool.and_false, Ac, Nat.reduceLT, List.cons.injEq, Nat.zero_ne_one, Nat.succ_ne_zero, g1, g2, g3, g4, g5, g6]
                  all_goals (first | rfl | exact ⟨rfl, rfl⟩)
              · simp only [↓go1, gB0, reduceIte, Nat.reduceEqDiff, Nat.reduceAdd, n1, n2, Aa s261, h261, Aa s262, h262, Bool.false_and, Bool.and_false, Ac, Nat.reduceLT, List.cons.injEq, Nat.zero_ne_one, Nat.succ_ne_zero, g1, g2, g3, g4, g5]
                all_goals (first | rfl | exact ⟨rfl, rfl⟩)
            · simp only [↓go1, gB0, reduceIte, Nat.reduceEqDiff, Nat.reduceAdd, n1, n2, Aa s261, h261, Aa s262, h262, Bool.false_and, Bool.and_false, Ac, Nat.reduceLT, List.cons.injEq, Nat.zero_ne_one, Nat.succ_ne_zero, g1, g2, g3, g4]
              all_goals (first | rfl | exact ⟨rfl, rfl⟩)
          · simp only [↓go1, gB0, reduceIte, Nat.reduceEqDiff, Nat.reduceAdd, n1, n2, Aa s261, h261, Aa s262, h262, Bool.false_and, Bool.and_false, Ac, Nat.reduceLT, List.cons.injEq, Nat.zero_ne_one, Nat.succ_ne_zero, g1, g2, g3]
            all_goals (first | rfl | exact ⟨rfl, rfl⟩)
        · simp only [↓go1, gB0, reduceIte, Nat.reduceEqDiff, Nat.reduceAdd, n1, n2, Aa s261, h261, Aa s262, h262, Bool.false_and, Bool.and_false, Ac, Nat.reduceLT, List.cons.injEq, Nat.zero_ne_one, Nat.succ_ne_zero, g1, g2]
          all_goals (first | rfl | exact ⟨rfl, rfl⟩)
      · simp only [↓go1, gB0, reduceIte, Nat.reduceEqDiff, Nat.reduceAdd, n1, n2, Aa s261, h261, Aa s262, h262, Bool.false_and, Ac, Nat.reduceLT, List.cons.injEq, Nat.zero_ne_one, Nat.succ_ne_zero, g1]
        all_goals (first | rfl | exact ⟨rfl, rfl⟩)
theorem AD {m : Mem} {i j : Id} {o : Nat} {ds : List D} (h : j ≠ i) : ∀ {n p : Nat}, Af (m.put i o ds) j p n = Af m j p n
 | 0, p => rfl
 | n + 1, p => by
  simp only [Af, Mem.put_other h]
  rw [AD h]
theorem rdC_aux {i : Id} : ∀ {ds : List D} {m : Mem} {p : Nat}, (∀ k d, ds[k]? = some d → m i (p + k) = some d) → Af m i p ds.length = some ds
 | [], m, p, _ => rfl
 | d :: r, m, p, h => by
  have h0 := h 0 d rfl
  rw [Nat.add_zero] at h0
  have hr := rdC_aux (ds := r) (m := m) (p := p + 1) fun k x hx => by
   have := h (k + 1) x (by simpa using hx)
   rw [show p + 1 + k = p + (k + 1) by omega]; exact this
  simp only [List.length_cons, Af, h0, hr, Option.map_some]
theorem Av {m : Mem} {i : Id} {ds : List D} {n : Nat} (h : ds.length = n) : Af (m.put i 0 ds) i 0 n = some ds := by
 subst h
 exact rdC_aux fun k d hd => by
  have hk := (List.getElem?_eq_some_iff.1 hd).1
  rw [Ac, if_pos ⟨rfl, Nat.zero_le _, by omega⟩]
  simpa using hd
theorem Dk {m : Mem} {i : Id} {o : Nat} : Af m i o 1 = (m i o).map fun d => [d] := by
 simp only [Af]; cases m i o <;> rfl
theorem AW (a : Ak) : (akC a).map D.un1 = akC a := rfl
theorem AX (a : Ak) : (akC a).all D.calm1 = true := rfl
theorem Ap (a : Ak) : D.cells (.agg (akC a)) = akC a := rfl
theorem Ax (a : Ak) : (akC a).length = 11 := rfl
theorem layA_len {a : Ak} {c : Int} (h : AkOk a) : (C9 a c).length ≤ 100000 := by
 obtain ⟨_, _, h1, h2, h3, h4, h5, h6, h7, h8⟩ := h
 have n1 := Dv a.n.toNat
 have n2 := Dv a.cas.toNat
 have oN : ∀ s : Bs, s.length ≤ 100000 → (orN s).length ≤ 100000 := by
  intro s hs; unfold orN; split
  ·simp
  ·exact hs
 have j1 : (Bp (BK a.ns)).length ≤ 100000 := by
  have e1 := Dp (BK a.ns)
  have e2 := sumL_le (l := BK a.ns) (b := 3) fun x hx => by
   obtain ⟨y, _, rfl⟩ := List.mem_map.1 hx
   exact Dv _
  rw [Cd] at e1 e2; omega
 have j2 : (if Cm a.rs = 0 then Bp (Bk a.rs) else []).length ≤ 100000 := by
  split
  ·rename_i hz
   have e0 := (polE_zero hz).1
   have e1 := Dp (Bk a.rs)
   have e2 := sumL_le (l := Bk a.rs) (b := 1007) fun x hx => by
    obtain ⟨y, hy, rfl⟩ := List.mem_map.1 hx
    have h1 := (h7 y hy).1
    have h2 := Cy y.2.toNat
    simp only [DK, List.length_append, List.length_cons, List.length_nil]; omega
   rw [BT] at e1 e2; omega
  ·simp
 have x1 := hexB_len a.da
 have x2 := hexB_len a.key
 unfold C9
 split
 ·omega
 ·split
  ·omega
  ·split
   ·omega
   ·split
    ·omega
    ·split
     ·split
      ·simp
      ·omega
     ·split
      ·split <;> simp
      ·split
       ·exact oN _ j1
       ·split
        ·exact oN _ (by omega)
        ·split
         ·exact oN _ j2
         ·omega
def Dh (a : Ak) : Bs := Cz a.op ++ (Bv a.op).flatMap fun c => 32 :: C9 a (c.toNat : Int)
theorem forms_ok : DB.all (fun p => decide (p.1.length ≤ 20) && (decide (p.2.length ≤ 20) && p.2.all fun c => decide (c.toNat < 128))) = true := by decide +kernel
theorem form_at (op : Int) : (Cz op).length ≤ 20 ∧ (Bv op).length ≤ 20 ∧ ∀ c ∈ Bv op, c.toNat < 128 := by
 unfold Cz Bv
 have : ∀ p : Bs × Bs, p = ([], []) ∨ p ∈ DB → p.1.length ≤ 20 ∧ p.2.length ≤ 20 ∧ ∀ c ∈ p.2, c.toNat < 128 := by
  intro p hp
  rcases hp with rfl | hp
  ·simp
  ·have h := List.all_eq_true.1 forms_ok p hp
   simp only [Bool.and_eq_true, decide_eq_true_eq, List.all_eq_true] at h
   exact h
 refine this _ ?_
 by_cases h : op.toNat < DB.length
 ·right; simp [List.getD, List.getElem?_eq_getElem h]
 ·left; simp [List.getD, List.getElem?_eq_none (Nat.le_of_not_lt h)]
theorem loop155 {S : Summs} {a : Ak} (ha : AkOk a) (s263 : S 263 = some (Ai F263)) {ls : Bs} (hls : ls.length ≤ 20) (has : ∀ c ∈ ls, c.toNat < 128) (hlay : ∀ c ∈ ls, LayOk a (c.toNat : Int)) {ki : Id} (hki : ([0] : Id) ≠ ki) {w0 : Bs} (hw0 : w0.length ≤ 20) {Q : Ex → St → Prop}
  (hexit : ∀ st, st.s 4 = .str (w0 ++ ls.flatMap fun c => 32 :: C9 a (c.toNat : Int)) → Q (.exit 0) st) :
  ∀ (f p : Nat) st g, ls.length = p + f → st.s 1 = .ptr [0] 0 → st.s 4 = .str (w0 ++ (ls.take p).flatMap fun c => 32 :: C9 a (c.toNat : Int)) → st.s 14 = .itp ki → Af st.m [0] 0 11 = some (akC a) → st.m ki 1 = some (.it ls p) →
   AV S [] dc155l0 Q st g := by
 intro f
 induction f with
 | zero =>
  intro p st g hf h1 h4 h14 hm hit
  refine Ad dc155l0.eq_1 ?_
  have hp : ¬ (p < ls.length) := by omega
  simp only [↓go1, go2, reduceIte, Nat.reduceEqDiff, Nat.reduceAdd, h14, hp, hit, List.getElem?_cons_zero]
  refine hexit _ ?_
  simp only [↓go1, reduceIte, Nat.reduceEqDiff, h4]
  rw [List.take_of_length_le (by omega)]
 | succ f ih =>
  intro p st g hf h1 h4 h14 hm hit
  refine Ad dc155l0.eq_1 ?_
  have hp : p < ls.length := by omega
  have hat : ls[p]? = some ls[p] := List.getElem?_eq_getElem hp
  have hmem : ls[p] ∈ ls := List.getElem_mem hp
  have hdec := ascii_dec hat (has _ hmem)
  have h263 : F263 [.agg (akC a), .int .i32 (ls[p].toNat : Int)] = some (.str (C9 a (ls[p].toNat : Int))) := F263_eq ha (hlay _ hmem)
  have hll := layA_len (c := (ls[p].toNat : Int)) ha
  have htk : ls.take (p + 1) = ls.take p ++ [ls[p]] := by rw [List.take_add_one, hat]; rfl
  have hacc : ((ls.take p).flatMap fun c => 32 :: C9 a (c.toNat : Int)).length ≤ 100001 * 20 := by
   have : ∀ (l : Bs), ((l.flatMap fun c => 32 :: C9 a (c.toNat : Int))).length ≤ 100001 * l.length := by
    intro l
    induction l with
    | nil => simp
    | cons x r ih =>
     have := layA_len (c := (x.toNat : Int)) ha
     simp only [List.flatMap_cons, List.length_append, List.length_cons, Nat.mul_add]; omega
   have h := this (ls.take p)
   have h' : (ls.take p).length ≤ 20 := by rw [List.length_take]; omega
   omega
  have hb1 : (1 + (C9 a (ls[p].toNat : Int)).length ≤ 9223372036854775807) = True := eq_true (by omega)
  have hb2 : (w0.length + ((ls.take p).flatMap fun c => 32 :: C9 a (c.toNat : Int)).length + (1 + (C9 a (ls[p].toNat : Int)).length) ≤ 9223372036854775807) = True := eq_true (by omega)
  generalize ls[p] = c at hdec h263 htk hb1 hb2
  obtain ⟨st_s, st_m, st_c⟩ := st
  simp only at h1 h4 h14 hm hit
  simp only [↓go1, gB1, reduceIte, Nat.reduceEqDiff, Nat.reduceAdd, h1, h4, h14, hm, hdec, AD hki, Aa s263, h263, hb1, hb2, AW, AX, hp, hit, List.length_append, List.getElem?_cons_zero, List.getElem?_cons_succ]
  refine ih (p + 1) _ _ (by omega) ?_ ?_ ?_ ?_ ?_
  ·exact h1
  ·simp only [↓go1, reduceIte, Nat.reduceEqDiff]
   rw [htk]; simp
  ·exact h14
  ·simp only [hm, AD hki]
  ·simp only [reduceIte, Nat.reduceAdd, Ac, Nat.le_refl, and_self, List.length_cons, List.length_nil, Nat.lt_add_one, Nat.sub_self, List.getElem?_cons_zero, hdec]
noncomputable def F155 : List D → Option D := FX (fun a : Ak => [akD a]) (fun a => AkOk a ∧ ∀ c ∈ Bv a.op, LayOk a (c.toNat : Int)) (fun a => .str (Dh a))
theorem F155_eq {a : Ak} (h : AkOk a) (h2 : ∀ c ∈ Bv a.op, LayOk a (c.toNat : Int)) : F155 [akD a] = some (.str (Dh a)) :=
 AP (mk := fun a : Ak => [akD a]) (fun x y e => by
  simp only [List.cons.injEq, and_true] at e
  exact BI e) ⟨h, h2⟩
theorem ok155 : (Ai F155).ok Tryz.prog 155 := by
 obtain ⟨S, hS, hl⟩ := AJ (Ab ok151 (Ab ok263 Ae))
 have s151 := hl 151 _ rfl
 have s263 := hl 263 _ rfl
 clear hl
 refine AL hS fn155 (fun _ => by simp) (fun a hp => ?_)
 obtain ⟨ha, hlay⟩ := hp
 have h151 := R151_eq ha.op0 ha.op
 obtain ⟨f1, f2, f3⟩ := form_at a.op
 have hop : akC a = .int .u8 a.op :: (akC a).tail := rfl
 unfold Dh dc155 akD
 have hm0 : ∀ m : Mem, m.put [0] 0 (akC a) [0] 0 = some (.int .u8 a.op) := fun m => by
  rw [Ac, if_pos ⟨rfl, Nat.le_refl _, by rw [Ax]; omega⟩]; rfl
 simp only [↓go1, gB0, reduceIte, Nat.reduceEqDiff, Nat.reduceAdd, Aa s151, h151, hm0, Ap, Ax, Ac, Ag, Ah, Nat.reduceLT, Option.bind_some, Option.isSome_some, List.cons.injEq, Nat.succ_ne_zero]
 refine loop155 (ls := Bv a.op) (w0 := Cz a.op) ha s263 f2 f3 hlay (ki := _) ?_ f1 (fun st h4 => ?_) (Bv a.op).length 0 _ _ (by omega) rfl ?_ rfl ?_ ?_
 ·decide
 ·simp only [↓go1, go2, go3, go4, reduceIte, Nat.reduceEqDiff, Nat.reduceAdd, h4]
  all_goals (first | rfl | exact ⟨rfl, rfl⟩)
 ·simp only [↓go1, go2, reduceIte, Nat.reduceEqDiff, List.take_zero, List.flatMap_nil, List.append_nil]
 ·simp only [AD (show ([0] : Id) ≠ [12] by decide), AD (show ([0] : Id) ≠ [5] by decide), Av (Ax a)]
 ·simp only [go3, go4, reduceIte, Nat.reduceEqDiff, Nat.reduceAdd, Ac, Nat.zero_le, Nat.reduceLT, Nat.reduceLeDiff, Nat.sub_zero, Nat.reduceSub, List.length_cons, List.length_nil, Nat.zero_add, List.getElem?_cons_zero, List.getElem?_cons_succ, and_self, List.cons.injEq, false_and, Nat.succ_ne_zero]
def Er (a : Ak) : Ak → Bs → Int × Ak
 | b, [] => (0, b)
 | b, c :: r => if Bg a (c.toNat : Int) ≠ 0 then (Bg a (c.toNat : Int), b) else Er a (A_ b (c.toNat : Int)) r
def CJ (a : Ak) : Ak := { a with op := 0 }
def B9 (a : Ak) : Int := if Cz a.op = [] then 22 else if (Er a (CJ a) (Bv a.op)).1 ≠ 0 then (Er a (CJ a) (Bv a.op)).1 else if zeroB (Er a (CJ a) (Bv a.op)).2 = false then 2 else if 400 < (Dh a).length then 5 else 0
theorem AkOk.without {a : Ak} (h : AkOk a) (c : Int) : AkOk (A_ a c) := by
 unfold A_
 obtain ⟨h0, h1, h2, h3, h4, h5, h6, h7, h8, h9⟩ := h
 repeat' split
 all_goals exact ⟨by first | exact h0 | simp, by first | exact h1 | simp, by first | exact h2 | simp, by first | exact h3 | simp, by first | exact h4 | simp, by first | exact h5 | simp, by first | exact h6 | simp, by first | exact h7 | simp, by first | exact h8 | simp, by first | exact h9 | simp⟩
theorem rdC_bare {m : Mem} {i : Id} (a : Ak) : Af ((m.put i 0 (akC a)).put i 0 [.int .u8 0]) i 0 11 = some (akC (CJ a)) := by
 have := rdC_aux (i := i) (ds := akC (CJ a)) (m := (m.put i 0 (akC a)).put i 0 [.int .u8 0]) (p := 0) fun k d hd => by
  have hk := (List.getElem?_eq_some_iff.1 hd).1
  rw [Ax] at hk
  rw [Nat.zero_add]
  cases k with
  | zero =>
   rw [Ac, if_pos ⟨rfl, Nat.le_refl _, by simp⟩]
   exact hd
  | succ k =>
   rw [Ac, if_neg (by simp), Ac, if_pos ⟨rfl, Nat.zero_le _, by rw [Ax]; omega⟩]
   exact hd
 exact this
theorem loop68 {S : Summs} {a : Ak} (ha : AkOk a) (s152 : S 152 = some (Ai F152)) (s153 : S 153 = some (Ai F153)) {ls : Bs} (has : ∀ c ∈ ls, c.toNat < 128) {r : Int × Ak} {Q : Ex → St → Prop}
  (hret : ∀ st, r.1 ≠ 0 → st.s 2 = .int .i64 r.1 → Q .ret st)
  (hexit : ∀ st, r.1 = 0 → (∀ c ∈ ls, Bg a (c.toNat : Int) = 0) → AkOk r.2 → st.s 1 = .ptr [0] 0 → st.s 4 = .ptr [11] 0 → Af st.m [0] 0 11 = some (akC a) → Af st.m [11] 0 11 = some (akC r.2) → Q (.exit 0) st) :
  ∀ (f p : Nat) (b : Ak) st g, ls.length = p + f → Er a b (ls.drop p) = r → (∀ c ∈ ls.take p, Bg a (c.toNat : Int) = 0) → AkOk b → st.s 1 = .ptr [0] 0 → st.s 4 = .ptr [11] 0 → st.s 18 = .itp [17] → Af st.m [0] 0 11 = some (akC a) → Af st.m [11] 0 11 = some (akC b) → st.m [17] 1 = some (.it ls p) →
   AV S [] dc68l0 Q st g := by
 have ne1 : ([0] : Id) ≠ [17] := by decide
 have ne2 : ([11] : Id) ≠ [17] := by decide
 have ne3 : ([0] : Id) ≠ [11] := by decide
 have ne4 : ([17] : Id) ≠ [11] := by decide
 intro f
 induction f with
 | zero =>
  intro p b st g hf hr hz hb h1 h4 h18 hm hm2 hit
  refine Ad dc68l0.eq_1 ?_
  have hp : ¬ (p < ls.length) := by omega
  simp only [↓go1, go2, reduceIte, Nat.reduceEqDiff, Nat.reduceAdd, h18, hp, hit, List.getElem?_cons_zero]
  rw [List.drop_of_length_le (by omega)] at hr
  rw [List.take_of_length_le (by omega)] at hz
  simp only [Er] at hr
  subst hr
  exact hexit _ rfl hz hb h1 h4 hm hm2
 | succ f ih =>
  intro p b st g hf hr hz hb h1 h4 h18 hm hm2 hit
  refine Ad dc68l0.eq_1 ?_
  have hp : p < ls.length := by omega
  have hat : ls[p]? = some ls[p] := List.getElem?_eq_getElem hp
  have hmem : ls[p] ∈ ls := List.getElem_mem hp
  have hdec := ascii_dec hat (has _ hmem)
  have h152 : F152 [.agg (akC a), .int .i32 (ls[p].toNat : Int)] = some (.int .i64 (Bg a (ls[p].toNat : Int))) := F152_eq ha
  have h153 : F153 [.agg (akC b), .int .i32 (ls[p].toNat : Int)] = some (.agg (akC (A_ b (ls[p].toNat : Int)))) := F153_eq
  have htk : ls.take (p + 1) = ls.take p ++ [ls[p]] := by rw [List.take_add_one, hat]; rfl
  have hdr : ls.drop p = ls[p] :: ls.drop (p + 1) := List.drop_eq_getElem_cons hp
  have hb' := hb.without (ls[p].toNat : Int)
  rw [hdr] at hr
  unfold Er at hr
  generalize ls[p] = c at hdec h152 h153 htk hr hb'
  obtain ⟨st_s, st_m, st_c⟩ := st
  simp only at h1 h4 h18 hm hm2 hit
  by_cases he : Bg a (c.toNat : Int) = 0
  ·rw [if_neg (fun h => h he)] at hr
   rw [he] at h152
   simp only [↓go1, go2, go3, go4, reduceIte, Nat.reduceEqDiff, Nat.reduceAdd, h1, h4, h18, hm, hm2, hdec, AD ne1, AD ne2, Aa s152, h152, Aa s153, h153, AW, AX, Ap, Ax, hp, hit, and_self, List.getElem?_cons_zero, List.getElem?_cons_succ, Option.isSome_some]
   refine ih (p + 1) _ _ _ (by omega) hr (fun x hx => ?_) hb' ?_ ?_ ?_ ?_ ?_ ?_
   ·rw [htk] at hx
    rcases List.mem_append.1 hx with hx | hx
    ·exact hz x hx
    ·simp only [List.mem_cons, List.mem_nil_iff, or_false] at hx
     rw [hx]; exact he
   ·exact h1
   ·exact h4
   ·exact h18
   ·simp only [AD ne3, AD ne1, hm]
   ·simp only [Av (Ax _)]
   ·simp only [reduceIte, Nat.reduceAdd, Mem.put_other ne4, Ac, Nat.le_refl, and_self, List.length_cons, List.length_nil, Nat.lt_add_one, Nat.sub_self, List.getElem?_cons_zero, hdec]
  ·rw [if_pos he] at hr
   simp only [↓go1, go2, go3, go4, reduceIte, Nat.reduceEqDiff, Nat.reduceAdd, h1, h18, hm, hdec, AD ne1, Aa s152, h152, he, AW, AX, hp, hit, List.getElem?_cons_zero, List.getElem?_cons_succ]
   exact hret _ (by rw [← hr]; exact he) (by rw [← hr]; rfl)
theorem fineE_zero {b : Bool} (h : fineE b = 0) : b = true := by cases b with
 | true => rfl
 | false => cases h
theorem layOk_of {a : Ak} {c : Int} (h : Bg a c = 0) : LayOk a c := by
 refine ⟨?_, ?_, ?_⟩
 ·rintro rfl
  have e : Bg a 110 = fineE (decide (0 ≤ a.n ∧ a.n ≤ 999)) := by simp [Bg]
  rw [e] at h
  have := of_decide_eq_true (fineE_zero h)
  omega
 ·rintro rfl
  have e : Bg a 99 = fineE (decide (-1 ≤ a.cas ∧ a.cas ≤ 999)) := by simp [Bg]
  rw [e] at h
  have := of_decide_eq_true (fineE_zero h)
  omega
 ·rintro rfl
  have e : Bg a 108 = fineE (countB a.ns) := by simp [Bg]
  rw [e] at h
  have h2 := fineE_zero h
  unfold countB at h2
  rw [Bool.and_eq_true] at h2
  intro x hx
  have h3 : (a.ns.any fun x => !decide (1 ≤ x ∧ x ≤ 999)) = false := by simpa using h2.2
  rw [List.any_eq_false] at h3
  have h4 := h3 x hx
  have h5 : 1 ≤ x ∧ x ≤ 999 := by simpa using h4
  omega
noncomputable def F68 : List D → Option D := FX (fun a : Ak => [akD a]) (fun a => AkOk a) (fun a => .int .i64 (B9 a))
theorem F68_eq {a : Ak} (h : AkOk a) : F68 [akD a] = some (.int .i64 (B9 a)) :=
 AP (mk := fun a : Ak => [akD a]) (fun x y e => by
  simp only [List.cons.injEq, and_true] at e
  exact BI e) h
theorem ok68 : (Ai F68).ok Tryz.prog 68 := by
 obtain ⟨S, hS, hl⟩ := AJ (Ab ok151 (Ab ok152 (Ab ok153 (Ab ok154 (Ab ok155 Ae)))))
 have s151 := hl 151 _ rfl
 have s152 := hl 152 _ rfl
 have s153 := hl 153 _ rfl
 have s154 := hl 154 _ rfl
 have s155 := hl 155 _ rfl
 clear hl
 refine AL hS fn68 (fun _ => by simp) (fun a ha => ?_)
 have h151 := R151_eq ha.op0 ha.op
 obtain ⟨f1, f2, f3⟩ := form_at a.op
 have hm0 : ∀ m : Mem, m.put [0] 0 (akC a) [0] 0 = some (.int .u8 a.op) := fun m => by
  rw [Ac, if_pos ⟨rfl, Nat.le_refl _, by rw [Ax]; omega⟩]; rfl
 have ne1 : ([0] : Id) ≠ [17] := by decide
 have ne2 : ([11] : Id) ≠ [17] := by decide
 have ne3 : ([0] : Id) ≠ [11] := by decide
 have ne4 : ([0] : Id) ≠ [5] := by decide
 have hm1 : ∀ m : Mem, m.put [11] 0 (akC a) [11] 0 = some (.int .u8 a.op) := fun m => by
  rw [Ac, if_pos ⟨rfl, Nat.le_refl _, by rw [Ax]; omega⟩]; rfl
 have hb0 : AkOk (CJ a) := ⟨by simp [CJ], by simp [CJ], ha.tk, ha.pa, ha.ot, ha.ns, ha.da, ha.rl, ha.rs, ha.key⟩
 have hlay : (∀ c ∈ Bv a.op, Bg a (c.toNat : Int) = 0) → F155 [.agg (akC a)] = some (.str (Dh a)) := fun h => F155_eq ha fun c hc => layOk_of (h c hc)
 unfold B9 dc68 akD
 by_cases hw : Cz a.op = []
 ·have hw' : (Cz a.op == ([] : Bs)) = true := by rw [hw]; rfl
  simp only [↓go1, gB1, reduceIte, Nat.reduceEqDiff, Nat.reduceAdd, Ap, Ax, Aa s151, h151, hm0, Av, Ac, Nat.zero_le, Nat.reduceLT, Nat.sub_zero, List.getElem?_cons_zero, and_self, Option.isSome_some, List.cons.injEq, Nat.succ_ne_zero, hw]
  all_goals (first | rfl | exact ⟨rfl, rfl⟩)
 ·have hw' : (Cz a.op == ([] : Bs)) = false := by simpa using hw
  simp only [↓go1, gB0, reduceIte, Nat.reduceEqDiff, Nat.reduceAdd, Ap, Ax, Aa s151, h151, hm0, hm1, Dk, Av, Ac, Nat.reduceLT, Option.isSome_some, List.cons.injEq, and_false, Nat.succ_ne_zero, hw, AD ne4, Av (Ax a)]
  generalize hr : Er a (CJ a) (Bv a.op) = r
  refine loop68 (r := r) ha s152 s153 f3 (fun st h1 h2 => ?_) (fun st h1 hz hb h1' h4 hm hm2 => ?_) (Bv a.op).length 0 (CJ a) _ _ (by omega) hr (by simp) hb0 rfl rfl rfl ?_ ?_ ?_
  ·simp only [↓go1, go2, go3, go4, reduceIte, h1, h2, ne_eq]
   rw [if_neg hw]
  ·have h155 := hlay hz
   have h154 : F154 [.agg (akC r.2), .agg [.int .u8 0, .str [], .str [], .str [], .int .i64 0, .int .i64 0, .bool false, .slice true [] [], .str [], .slice true [] [], .str []]] = some (.bool (zeroB r.2)) := F154_eq hb
   cases hzb : zeroB r.2 with
   | false =>
    rw [hzb] at h154
    simp only [↓go1, go2, go3, go4, reduceIte, Nat.reduceEqDiff, Nat.reduceAdd, AW, AX, ne_eq, List.map_cons, List.map_nil, List.all_cons, List.all_nil, Bool.and_self, h1, h4, hm2, Aa s154, h154, A2, D.un1, D.calm1, List.isEmpty_nil]
    rw [if_neg hw]
   | true =>
    rw [hzb] at h154
    by_cases hl : 400 < (Dh a).length
    ·have hl' : ((400 : Int) < ((Dh a).length : Int)) := by omega
     simp only [↓go1, go2, go3, go4, reduceIte, Nat.reduceEqDiff, Nat.reduceAdd, AW, AX, ne_eq, List.map_cons, List.map_nil, List.all_cons, List.all_nil, Bool.and_self, h1, h1', h4, hm, hm2, Aa s154, h154, Aa s155, h155, A2, hl, hl', D.un1, D.calm1, List.isEmpty_nil]
     rw [if_neg hw]
    ·have hl' : ¬ ((400 : Int) < ((Dh a).length : Int)) := by omega
     simp only [↓go1, go2, go3, go4, reduceIte, Nat.reduceEqDiff, Nat.reduceAdd, AW, AX, ne_eq, List.map_cons, List.map_nil, List.all_cons, List.all_nil, Bool.and_self, h1, h1', h4, hm, hm2, Aa s154, h154, Aa s155, h155, A2, hl, hl', D.un1, D.calm1, List.isEmpty_nil]
     rw [if_neg hw]
  ·simp only [AD ne1, AD ne3, AD ne4, Av (Ax a)]
  ·simp only [AD ne2]
   exact rdC_bare a
  ·simp only [go3, go4, reduceIte, Nat.reduceEqDiff, Nat.reduceAdd, Ac, Nat.zero_le, Nat.reduceLT, Nat.reduceLeDiff, Nat.sub_zero, Nat.reduceSub, List.length_cons, List.length_nil, Nat.zero_add, List.getElem?_cons_zero, List.getElem?_cons_succ, and_self, List.cons.injEq, false_and, and_false, Nat.succ_ne_zero]
end Go.Vd
namespace Go.Vd
open Go.Proofs
def dc264 : DC := (sr [ci 2 0] (.seq (sr [mm 3 0] (cd 3 (sr [ci 2 0] .ret) .skip)) (sr [ci 2 4] .ret)))
theorem fn264 : Fn Tryz.prog 264 4 dc264 [.t 2] := Ao Tryz.func264
def dc265 : DC := (sr [cb 6 false] (sr [mm 7 0, mm 8 1, bt 9 .geq 7 8, mm 10 9, og 11 (.mv (.t 0)) 3 true, og 12 (.mv (.t 2)) 3 true, og 13 (.bin .leq (.t 11) (.t 12)) 3 true, oo 14 (.pick (.t 10) (.t 13) (.c (.bool false))), mm 6 14] .ret))
theorem fn265 : Fn Tryz.prog 265 15 dc265 [.t 6] := Ao Tryz.func265
def dc160 : DC := (sr [oo 2 (.mv (.c (.str [])))] (sr [oo 4 (.bslice 9 1 [(.c (.str [])), (.c (.str [])), (.c (.str [107])), (.c (.str [116])), (.c (.str [116])), (.c (.str [116, 112, 110, 102])), (.c (.str [116, 112])), (.c (.str [116, 109, 114])), (.c (.str [116, 109])), (.c (.str [116, 112, 110])), (.c (.str [116, 112, 99, 100])), (.c (.str [116, 112, 108])), (.c (.str [116, 112, 108])), (.c (.str [116, 112, 108])), (.c (.str [116, 112])), (.c (.str [116, 112, 110, 102])), (.c (.str [116, 112])), (.c (.str [116, 112])), (.c (.str [116, 112, 113]))]), mm 3 4] (sr [mm 5 3, mm 6 0, ii 7 1 5 6, ll 8 7, mm 2 8] .ret)))
theorem fn160 : Fn Tryz.prog 160 9 dc160 [.t 2] := Ao Tryz.func160
def dc267l0 : DC := (.seq (sr [mm 9 6, mm 10 5, nn 11 true 10, bt 12 .lss 9 11] (cd 12 .skip (.exit 0))) (.seq (.block 1 (sr [mm 15 5, mm 16 6, oo 17 (.idxs (.t 15) (.t 16)), mm 18 1, bt 19 .eql 17 18] (cd 19 (sr [cb 4 true] .ret) .skip))) (.row [mm 13 6, bi 14 .add 13 1, mm 6 14])))
def dc267 : DC := (sr [cb 4 false] (sr [mm 7 0, cc 8 160 [(.t 7)], mm 5 8] (.seq (sr [ci 6 0] (.block 0 (.loop dc267l0))) (sr [cb 4 false] .ret))))
theorem fn267 : Fn Tryz.prog 267 20 dc267 [.t 4] := Ao Tryz.func267
def dc268 : DC := (sr [oo 2 (.mv (.c (.str [])))] (sr [oo 4 (.bslice 9 1 [(.c (.str [])), (.c (.str [115, 116, 97, 116, 117, 115])), (.c (.str [117, 110, 115, 101, 97, 108])), (.c (.str [115, 101, 97, 108])), (.c (.str [114, 111, 116, 97, 116, 101])), (.c (.str [109, 111, 117, 110, 116])), (.c (.str [117, 110, 109, 111, 117, 110, 116])), (.c (.str [109, 97, 107, 101])), (.c (.str [114, 101, 118, 111, 107, 101])), (.c (.str [114, 101, 97, 100])), (.c (.str [119, 114, 105, 116, 101])), (.c (.str [100, 101, 108, 101, 116, 101])), (.c (.str [117, 110, 100, 101, 108, 101, 116, 101])), (.c (.str [100, 101, 115, 116, 114, 111, 121])), (.c (.str [109, 101, 116, 97])), (.c (.str [99, 111, 110, 102, 105, 103])), (.c (.str [112, 117, 114, 103, 101])), (.c (.str [108, 105, 115, 116])), (.c (.str [99, 111, 112, 121]))]), mm 3 4] (sr [mm 5 3, mm 6 0, ii 7 1 5 6, ll 8 7, mm 2 8] .ret)))
theorem fn268 : Fn Tryz.prog 268 9 dc268 [.t 2] := Ao Tryz.func268
def dc266l0 : DC := (.seq (sr [mm 4 3, mm 5 0, nn 6 false 5, bt 7 .lss 4 6] (cd 7 .skip (.exit 0))) (.seq (.block 1 (sr [mm 10 0, mm 11 3, ii 12 1 10 11, ll 13 12, cc 14 265 [(.t 13), (.c (.int .i64 1)), (.c (.int .i64 999))], oo 15 (.un .not (.t 14))] (cd 15 (sr [cb 2 false] .ret) .skip))) (.row [mm 8 3, bi 9 .add 8 1, mm 3 9])))
def dc266 : DC := (sr [cb 2 false] (.seq (sr [ci 3 0] (.block 0 (.loop dc266l0))) (sr [mm 16 0, nn 17 false 16, bi 18 .leq 17 6, mm 2 18] .ret)))
theorem fn266 : Fn Tryz.prog 266 19 dc266 [.t 2] := Ao Tryz.func266
def dc349 : DC := (sr [oo 2 (.mv (.c (.str [])))] (.seq (sr [mm 3 0, bi 4 .lss 3 10] (cd 4 (sr [mm 5 0, oo 6 (.bin .add (.c (.int .i64 48)) (.t 5)), oo 7 (.conv .u8 (.t 6)), oo 8 (.bslice 5 1 [(.t 7)]), oo 9 (.b2s (.t 8)), mm 2 9] .ret) .skip)) (.seq (.drawn [mm 10 0, bi 11 .quo 10 10, cc 12 349 [(.t 11)], mm 13 0, bi 14 .rem 13 10, oo 15 (.bin .add (.c (.int .i64 48)) (.t 14)), oo 16 (.conv .u8 (.t 15)), oo 17 (.bslice 5 1 [(.t 16)]), oo 18 (.b2s (.t 17)), bt 19 .add 12 18, mm 2 19] [(2, 7), (7, 2)]) .ret)))
theorem fn349 : Fn Tryz.prog 349 20 dc349 [.t 2] := Ao Tryz.func349
def dc350l0 : DC := (.seq (sr [mm 11 5, bi 12 .lss 11 6] (cd 12 .skip (.exit 0))) (.seq (.block 1 (.seq (sr [mm 15 4, oo 16 (.bin .rem (.t 15) (.c (.int .u8 2))), oo 17 (.bin .eql (.t 16) (.c (.int .u8 1)))] (cd 17 (.row [mm 18 3, mm 19 5, mm 20 5, bi 21 .add 20 1, oo 22 (.cuts (.c (.str [114, 119, 100, 120, 108, 115])) (some (.t 19)) (some (.t 21))), bt 23 .add 18 22, mm 3 23]) .skip)) (.row [mm 24 4, oo 25 (.bin .quo (.t 24) (.c (.int .u8 2))), mm 4 25]))) (.row [mm 13 5, bi 14 .add 13 1, mm 5 14])))
def dc350 : DC := (sr [oo 1 (.box (.t 0)), oo 2 (.mv (.c (.str [])))] (sr [ff 6 0 1, ll 7 6, oo 8 (.bin .add (.t 7) (.c (.str [58]))), mm 3 8] (sr [ff 9 1 1, ll 10 9, mm 4 10] (.seq (sr [ci 5 0] (.block 0 (.loop dc350l0))) (sr [mm 26 3, mm 2 26] .ret)))))
theorem fn350 : Fn Tryz.prog 350 27 dc350 [.t 2] := Ao Tryz.func350
def dc270l0 : DC := (.seq (sr [mm 12 6, mm 13 0, nn 14 false 13, bt 15 .lss 12 14] (cd 15 .skip (.exit 0))) (.seq (.block 1 (.seq (sr [mm 18 6, bi 19 .gtr 18 0] (cd 19 (.row [mm 20 5, oo 21 (.bin .add (.t 20) (.c (.str [44]))), mm 5 21]) .skip)) (.row [mm 22 5, mm 23 0, mm 24 6, ii 25 2 23 24, lk 26 2 25, cc 27 350 [(.t 26)], bt 28 .add 22 27, mm 5 28]))) (.row [mm 16 6, bi 17 .add 16 1, mm 6 17])))
def dc270 : DC := (sr [oo 2 (.mv (.c (.str []))), ci 3 0] (sr [mm 7 0, cc 8 218 [(.t 7)], mm 4 8] (.seq (sr [mm 9 4, bi 10 .neq 9 0] (cd 10 (sr [mm 11 4, oo 2 (.mv (.c (.str []))), mm 3 11] .ret) .skip)) (sr [oo 5 (.mv (.c (.str [])))] (.seq (sr [ci 6 0] (.block 0 (.loop dc270l0))) (sr [mm 29 5, mm 2 29, ci 3 0] .ret))))))
theorem fn270 : Fn Tryz.prog 270 30 dc270 [.t 2, .t 3] := Ao Tryz.func270
def dc282l0 : DC := (.seq (sr [mm 6 5, mm 7 0, nn 8 true 7, bt 9 .lss 6 8] (cd 9 .skip (.exit 0))) (.seq (.block 1 (.drawn [mm 12 4, mm 13 3, mm 14 0, mm 15 5, oo 16 (.idxs (.t 14) (.t 15)), oo 17 (.bin .quo (.t 16) (.c (.int .u8 16))), oo 18 (.idxs (.t 13) (.t 17)), mm 19 3, mm 20 0, mm 21 5, oo 22 (.idxs (.t 20) (.t 21)), oo 23 (.bin .rem (.t 22) (.c (.int .u8 16))), oo 24 (.idxs (.t 19) (.t 23)), oo 25 (.bslice 5 1 [(.t 18), (.t 24)]), oo 26 (.app 5 1 1 (.t 12) (.t 25)), mm 4 26] [])) (.row [mm 10 5, bi 11 .add 10 1, mm 5 11])))
def dc282 : DC := (sr [oo 2 (.mv (.c (.str [])))] (sr [oo 3 (.mv (.c (.str [48, 49, 50, 51, 52, 53, 54, 55, 56, 57, 97, 98, 99, 100, 101, 102])))] (sr [oo 4 (.mv (.c (.slice true [] [])))] (.seq (sr [ci 5 0] (.block 0 (.loop dc282l0))) (sr [mm 27 4, oo 28 (.b2s (.t 27)), mm 2 28] .ret)))))
theorem fn282 : Fn Tryz.prog 282 29 dc282 [.t 2] := Ao Tryz.func282
end Go.Vd
namespace Go.Vd
open Go.Proofs Go.RowKit
theorem ok264 : (Ai F257).ok Tryz.prog 264 := by
 refine AL (S := fun _ => none) Au fn264 (fun _ => by simp) (fun b _ => ?_)
 unfold dc264
 cases b <;> simp only [↓go1, go2, go3, go4, reduceIte, Nat.reduceEqDiff, Nat.reduceAdd]
 all_goals (first | rfl | exact ⟨rfl, rfl⟩)
theorem F259_get {ds : List D} {r : D} (h : F259 ds = some r) : ∃ n lo hi, ds = [.int .i64 n, .int .i64 lo, .int .i64 hi] ∧ r = .bool (decide (lo ≤ n ∧ n ≤ hi)) := by
 unfold F259 at h; split at h
 ·simp only [Option.some.injEq] at h; exact ⟨_, _, _, rfl, h.symm⟩
 ·cases h
theorem ok265 : (Ai F259).ok Tryz.prog 265 := by
 refine As (S := fun _ => none) Au fn265 (fun ds r h => ?_) (fun ds r h => ?_)
 ·obtain ⟨n, lo, hi, rfl, _⟩ := F259_get h; simp
 ·obtain ⟨n, lo, hi, rfl, rfl⟩ := F259_get h
  unfold dc265
  by_cases h1 : lo ≤ n
  ·by_cases h2 : n ≤ hi
   ·simp only [↓go1, go2, go3, go4, reduceIte, Nat.reduceEqDiff, Nat.reduceAdd, h1, h2, and_self]
    all_goals (first | rfl | exact ⟨rfl, rfl⟩)
   ·simp only [↓go1, go2, go3, go4, reduceIte, Nat.reduceEqDiff, Nat.reduceAdd, h1, h2, and_false]
    all_goals (first | rfl | exact ⟨rfl, rfl⟩)
  ·simp only [↓go1, go2, go3, go4, reduceIte, Nat.reduceEqDiff, Nat.reduceAdd, h1, false_and]
   all_goals (first | rfl | exact ⟨rfl, rfl⟩)
def R160 : List D → Option D := EG (fun _ => none) 9 dc160 [.t 2] 60
theorem ok160 : (Ai R160).ok Tryz.prog 160 := Dq Au fn160 60
def R268 : List D → Option D := EG (fun _ => none) 9 dc268 [.t 2] 60
theorem ok268 : (Ai R268).ok Tryz.prog 268 := Dq Au fn268 60
def isStrE (s : Bs) : Option D → Bool
 | some (.str a) => Go.Ve.eqBs a s
 | _ => false
theorem isStrE_get {s : Bs} {r : Option D} (h : isStrE s r = true) : r = some (.str s) := by
 unfold isStrE at h
 split at h
 ·rw [Go.Ve.eqBs_eq h]
 ·cases h
theorem R160_all : (List.range 19).all (fun op => isStrE (DB.getD op ([], [])).2 (R160 [.int .i64 (op : Nat)])) = true := by kernel_rfl
theorem R268_all : (List.range 19).all (fun op => isStrE (DB.getD op ([], [])).1 (R268 [.int .i64 (op : Nat)])) = true := by kernel_rfl
theorem R160_eq {op : Int} (h0 : 0 ≤ op) (h : op < 19) : R160 [.int .i64 op] = some (.str (Bv op)) := by
 have := List.all_eq_true.1 R160_all op.toNat (by simp; omega)
 rw [Int.toNat_of_nonneg h0] at this
 exact isStrE_get this
theorem R268_eq {op : Int} (h0 : 0 ≤ op) (h : op < 19) : R268 [.int .i64 op] = some (.str (Cz op)) := by
 have := List.all_eq_true.1 R268_all op.toNat (by simp; omega)
 rw [Int.toNat_of_nonneg h0] at this
 exact isStrE_get this
def Bz (op : Int) (c : Nat) : Bool := (Bv op).any fun x => x.toNat == c
def Dc : List D → Option D := EG (Dr [(160, Ai R160)]) 20 dc267 [.t 4] 60
theorem ok267 : (Ai Dc).ok Tryz.prog 267 := Dq (Ab ok160 Ae) fn267 60
def isBoolE (b : Bool) : Option D → Bool
 | some (.bool a) => a == b
 | _ => false
theorem isBoolE_get {b : Bool} {r : Option D} (h : isBoolE b r = true) : r = some (.bool b) := by
 unfold isBoolE at h
 split at h
 ·rw [beq_iff_eq.1 h]
 ·cases h
def lettersA : List Nat := [116, 112, 109, 113, 110, 99, 102, 108, 100, 114, 107]
theorem R267_all : (List.range 19).all (fun op => lettersA.all fun c => isBoolE (Bz (op : Nat) c) (Dc [.int .i64 (op : Nat), .int .u8 (c : Nat)])) = true := by kernel_rfl
theorem R267_eq {op : Int} {c : Nat} (h0 : 0 ≤ op) (h : op < 19) (hc : c ∈ lettersA) : Dc [.int .i64 op, .int .u8 (c : Nat)] = some (.bool (Bz op c)) := by
 have := List.all_eq_true.1 R267_all op.toNat (by simp; omega)
 rw [Int.toNat_of_nonneg h0] at this
 exact isBoolE_get (List.all_eq_true.1 this c hc)
theorem loop266 {S : Summs} {l : List Int} {nl : Bool} {Q : Ex → St → Prop} (hb : l.length ≤ 1000000) (s265 : S 265 = some (Ai F259))
  (hret : ∀ st, (l.any fun x => !decide (1 ≤ x ∧ x ≤ 999)) = true → st.s 2 = .bool false → Q .ret st) (hexit : ∀ st, (l.any fun x => !decide (1 ≤ x ∧ x ≤ 999)) = false → st.s 0 = .slice nl [] (By l) → Q (.exit 0) st) :
  ∀ (f j : Nat) st g, l.length = j + f → ((l.take j).any fun x => !decide (1 ≤ x ∧ x ≤ 999)) = false → st.s 0 = .slice nl [] (By l) → st.s 3 = .int .i64 (j : Int) → AV S [] dc266l0 Q st g := by
 intro f
 induction f with
 | zero =>
  intro j st g hf ha h0 h3
  refine Ad dc266l0.eq_1 ?_
  have : ¬ ((j : Int) < l.length) := by omega
  simp only [↓go1, go2, go4, reduceIte, Nat.reduceEqDiff, Nat.reduceAdd, h0, h3, this, Bb]
  rw [List.take_of_length_le (by omega)] at ha
  exact hexit _ ha h0
 | succ f ih =>
  intro j st g hf ha h0 h3
  refine Ad dc266l0.eq_1 ?_
  have hj : j < l.length := by omega
  have hlt : ((j : Int) < l.length) := by omega
  have hj0 : (0 : Int) ≤ (j : Int) := by omega
  have hw : IntKind.i64.wrap ((j : Int) + 1) = ((j + 1 : Nat) : Int) := w64 (by omega) (by omega)
  have hat : (By l)[j]? = some (.int .i64 l[j]) := by simp [By, List.getElem?_eq_getElem hj]
  have htk : l.take (j + 1) = l.take j ++ [l[j]] := by rw [List.take_add_one, List.getElem?_eq_getElem hj]; rfl
  have hmem : l[j] ∈ l := List.getElem_mem hj
  generalize l[j] = x at hat htk hmem
  have h265 : F259 [.int .i64 x, .int .i64 1, .int .i64 999] = some (.bool (decide (1 ≤ x ∧ x ≤ 999))) := rfl
  obtain ⟨st_s, st_m, st_c⟩ := st
  simp only at h0 h3
  by_cases hx : 1 ≤ x ∧ x ≤ 999
  ·rw [decide_eq_true hx] at h265
   simp only [↓go1, gB1, reduceIte, Nat.reduceEqDiff, Nat.reduceAdd, h0, h3, hlt, hj0, hw, Int.toNat_natCast, hat, Bb, Aa s265, h265, List.head?_cons]
   refine ih (j + 1) _ _ (by omega) ?_ h0 rfl
   rw [htk, List.any_append, ha]; simp [hx]
  ·rw [decide_eq_false hx] at h265
   simp only [↓go1, gB1, reduceIte, Nat.reduceEqDiff, Nat.reduceAdd, h0, h3, hlt, hj0, Int.toNat_natCast, hat, Bb, Aa s265, h265, List.head?_cons]
   refine hret _ ?_ rfl
   rw [List.any_eq_true]
   exact ⟨x, hmem, by simp [hx]⟩
theorem ok266 : (Ai F260).ok Tryz.prog 266 := by
 obtain ⟨S, hS, hl⟩ := AJ (Ab ok265 Ae)
 have s265 := hl 265 _ rfl
 clear hl
 refine AL hS fn266 (fun _ => by simp) (fun p hs => ?_)
 obtain ⟨nl, l⟩ := p
 simp only at hs
 unfold dc266 countB
 simp only
 simp only [↓go1, go2, Nat.reduceAdd]
 refine loop266 (l := l) (nl := nl) hs s265 (fun st h1 h2 => ?_) (fun st h1 h0 => ?_) l.length 0 _ _ (by omega) (by simp) rfl rfl
 ·rw [h1]
  simp only [↓go1, go2, go3, go4, h2, Bool.and_false]
  all_goals (first | rfl | exact ⟨rfl, rfl⟩)
 ·rw [h1]
  have hq : decide ((l.length : Int) ≤ 6) = decide (l.length ≤ 6) := by
   by_cases h : l.length ≤ 6
   ·rw [decide_eq_true h, decide_eq_true (by omega)]
   ·rw [decide_eq_false h, decide_eq_false (by omega)]
  simp only [↓go1, go2, go3, go4, reduceIte, Nat.reduceEqDiff, Nat.reduceAdd, h0, Bb, hq]
  all_goals (first | rfl | exact ⟨rfl, rfl⟩)
theorem isEmpty_take {α : Type} {l : List α} {k : Nat} (h : k < l.length) : (l.take (k + 1)).isEmpty = false := by
 cases l with
 | nil => simp at h
 | cons x r => rfl
theorem byte48 {n : Nat} (h : n < 10) : IntKind.u8.wrap (IntKind.i64.wrap (48 + (n : Int))) = ((hexD n).toNat : Int) := by
 have h1 : IntKind.i64.wrap (48 + (n : Int)) = ((48 + n : Nat) : Int) := by rw [w64 (by omega) (by omega)]; omega
 have h2 : (hexD n).toNat = 48 + n := by unfold hexD; rw [if_pos h, UInt8.toNat_ofNat']; omega
 rw [h1, h2]
 simp only [IntKind.wrap, IntKind.signed, IntKind.bits, Bool.false_and, Bool.false_eq_true, if_false]
 omega
noncomputable def F349 (b : Nat) : List D → Option D := FX (fun n : Nat => [.int .i64 (n : Int)]) (fun n => n < b ∧ n < 1000) (fun n => .str (Ek n))
theorem F349_eq {b n : Nat} (h : n < b ∧ n < 1000) : F349 b [.int .i64 (n : Int)] = some (.str (Ek n)) := AP (mk := fun n : Nat => [.int .i64 (n : Int)]) (fun a b h => by simp only [List.cons.injEq, D.int.injEq, true_and, and_true] at h; omega) h
theorem numB_small {n : Nat} (h : n < 10) : Ek n = [hexD n] := by unfold Ek; rw [if_pos h]
theorem numB_step {n : Nat} (h : ¬ n < 10) (h2 : n < 1000) : Ek n = Ek (n / 10) ++ [hexD (n % 10)] := by
 unfold Ek
 rw [if_neg h]
 by_cases h3 : n < 100
 ·rw [if_pos h3, if_pos (by omega)]; rfl
 ·rw [if_neg h3, if_neg (by omega), if_pos (by omega), show n / 10 / 10 = n / 100 by omega]; rfl
theorem step349 {b B : Nat} {S : Summs} (hS : Summs.ok Tryz.prog S) (hs : B ≤ 10 ∨ (B ≤ 10 * b ∧ S 349 = some (Ai (F349 b)))) : (Ai (F349 B)).ok Tryz.prog 349 := by
 refine AL hS fn349 (fun _ => by simp) (fun n hn => ?_)
 obtain ⟨hn1, hn2⟩ := hn
 have ten : ((10 : Int) = 0) = False := by simp
 unfold dc349
 by_cases h : n < 10
 ·have hlt : ((n : Int) < 10) := by omega
  have h48 := byte48 h
  simp only [↓go1, gB1, reduceIte, Nat.reduceEqDiff, Nat.reduceAdd, hlt, h48]
  simp only [numB_small h, Int.toNat_natCast, UInt8.ofNat_toNat]
  all_goals (first | rfl | exact ⟨rfl, rfl⟩)
 ·have hlt : ¬ ((n : Int) < 10) := by omega
  obtain ⟨hb, s349⟩ : B ≤ 10 * b ∧ S 349 = some (Ai (F349 b)) := hs.resolve_left (by omega)
  have h349 := F349_eq (b := b) (n := n / 10) ⟨by omega, by omega⟩
  have h48 := byte48 (n := n % 10) (by omega)
  have m0 := tmod10 n
  have d0 := tdiv10 n hn2
  have hl := Dv (n / 10)
  have hl2 : ((Ek (n / 10)).length + 1 ≤ 9223372036854775807) = True := eq_true (by omega)
  simp only [↓go1, gB1, reduceIte, Nat.reduceEqDiff, Nat.reduceAdd, hlt, h48, m0, d0, ten, ne_eq, Aa s349, h349, hl2]
  refine AA.intro (Al ?_) ?_
  ·simp only [Bh, List.all_cons, List.all_nil, List.getD, List.getElem?_cons_zero, List.getElem?_cons_succ, Option.getD_some, A1, List.length_cons, List.length_nil, List.flatMap_cons, List.flatMap_nil, rds, ↓go1, s349, Ai]
   simp [AG]
  simp only [↓go1, go2, go3, go4, reduceIte, Nat.reduceEqDiff]
  simp only [numB_step h hn2, Int.toNat_natCast, UInt8.ofNat_toNat]
  all_goals (first | rfl | exact ⟨rfl, rfl⟩)
theorem ok349 : (Ai (F349 1000)).ok Tryz.prog 349 := step349 (b := 100) (S := Dr [(349, Ai (F349 100))]) (Ab (step349 (b := 10) (S := Dr [(349, Ai (F349 10))]) (Ab (step349 (b := 0) Au (.inl (Nat.le_refl _))) Ae) (.inr ⟨by omega, rfl⟩)) Ae) (.inr ⟨by omega, rfl⟩)
theorem loop282 {S : Summs} {l : Bs} {Q : Ex → St → Prop} (hb : l.length ≤ 1000000)
  (hexit : ∀ st t, st.s 4 = .slice l.isEmpty t (Ay (hexB l)) → Q (.exit 0) st) :
  ∀ (n k : Nat) (t : Id) st g, n = l.length - k → k ≤ l.length → st.s 5 = .int .i64 (k : Int) → st.s 0 = .str l → st.s 3 = .str [48, 49, 50, 51, 52, 53, 54, 55, 56, 57, 97, 98, 99, 100, 101, 102] → st.s 4 = .slice (l.take k).isEmpty t (Ay (hexB (l.take k))) → Gw st.m st.c 5 (l.take k).isEmpty t →
   AV S [] dc282l0 Q st g := by
 intro n
 induction n with
 | zero =>
  intro k t st g hn hk h5 h0 h3 h4 hg
  refine Ad dc282l0.eq_1 ?_
  have : ¬ ((k : Int) < l.length) := by omega
  simp only [↓go1, go2, go4, reduceIte, Nat.reduceEqDiff, Nat.reduceAdd, h5, h0, this]
  refine hexit _ t ?_
  rw [List.take_of_length_le (by omega)] at h4
  simp only [↓go1, reduceIte, Nat.reduceEqDiff, h4]
 | succ n ih =>
  intro k t st g hn hk h5 h0 h3 h4 hg
  refine Ad dc282l0.eq_1 ?_
  have hlt : ((k : Int) < l.length) := by omega
  have hk0 : (0 : Int) ≤ (k : Int) := by omega
  have hkl : k < l.length := by omega
  have hx : l[(k : Int).toNat]? = some l[k] := by simp [hkl]
  have hw : IntKind.i64.wrap ((k : Int) + 1) = (k : Int) + 1 := IntWalk.i64_in _ ⟨by omega, by omega⟩
  have hc := l[k].toNat_lt
  have htk : l.take (k + 1) = l.take k ++ [l[k]] := by rw [List.take_add_one, List.getElem?_eq_getElem hkl]; rfl
  have hlen : (l.take k).length = k := by simp; omega
  have a1 : IntKind.u8.wrap ((l[k].toNat : Int).tdiv 16) = ((l[k].toNat / 16 : Nat) : Int) := by
   have : (l[k].toNat : Int).tdiv 16 = ((l[k].toNat / 16 : Nat) : Int) := by rw [Int.tdiv_eq_ediv_of_nonneg (by omega)]; omega
   rw [this]; exact IntWalk.u8_in _ ⟨by omega, by omega⟩
  have a2 : (l[k].toNat : Int).tmod 16 = ((l[k].toNat % 16 : Nat) : Int) := by rw [Int.tmod_eq_emod_of_nonneg (by omega)]; omega
  have n16 : ((16 : Int) ≠ 0) = True := by simp
  have p1 : (0 : Int) ≤ ((l[k].toNat / 16 : Nat) : Int) := by omega
  have p2 : (0 : Int) ≤ ((l[k].toNat % 16 : Nat) : Int) := by omega
  have q1 : (((l[k].toNat / 16 : Nat) : Int)).toNat = l[k].toNat / 16 := Int.toNat_natCast _
  have q2 : (((l[k].toNat % 16 : Nat) : Int)).toNat = l[k].toNat % 16 := Int.toNat_natCast _
  have t1 := hexTab (l[k].toNat / 16) (by omega)
  have t2 := hexTab (l[k].toNat % 16) (by omega)
  have hnil : (l.take k).isEmpty = true → Ay (hexB (l.take k)) = [] := fun h => by rw [List.isEmpty_iff] at h; rw [h]; rfl
  simp only [↓go1, go2, go3, go4, reduceIte, Nat.reduceEqDiff, Nat.reduceAdd, List.length_cons, List.length_nil, h5, h0, h3, h4, hlt, hk0, hx, n16, a1, a2, p1, p2, q1, q2, t1, t2, and_false, reduceCtorEq]
  refine AA.intro ⟨by rw [Bo, hexB_len, hlen]; omega, rfl, hg.grow (by omega)⟩ ?_
  rw [C3 hnil]
  simp only [↓go1, go2, go3, go4, reduceIte, Nat.reduceEqDiff, Nat.reduceAdd]
  refine AA.intro (Al rfl) ?_
  simp only [↓go1, go2, go3, go4, reduceIte, Nat.reduceEqDiff, Nat.reduceAdd, h5, hw]
  refine ih (k + 1) [st.c + 4 + 14] _ _ (by omega) (by omega) rfl h0 h3 ?_ ?_
  ·rw [isEmpty_take hkl, htk, hexB_snoc, Ca]; rfl
  ·rw [isEmpty_take hkl]
   exact Gw.new (by simp only; omega)
theorem ok282 : (Ai F317).ok Tryz.prog 282 := by
 refine AL (S := fun _ => none) Au fn282 (fun _ => by simp) (fun s hb => ?_)
 unfold dc282
 simp only [↓go1, go2, Nat.reduceAdd]
 refine loop282 (l := s) hb (fun st t' h1 => ?_) s.length 0 [] _ _ rfl (by omega) rfl rfl rfl rfl (.inl rfl)
 simp only [↓go1, go2, go3, go4, reduceIte, Nat.reduceEqDiff, Nat.reduceAdd, h1, Cj]
 all_goals (first | rfl | exact ⟨rfl, rfl⟩)
def lettR : Nat → Nat → Nat → Bs
 | 0, _, _ => []
 | f + 1, j, c => (if c % 2 = 1 then (([114, 119, 100, 120, 108, 115] : Bs).drop j).take 1 else []) ++ lettR f (j + 1) (c / 2)
theorem lettR_eq (c : Nat) : lettR 6 0 c = Go.Ve.lettersN c := by
 simp only [lettR, Go.Ve.lettersN, Nat.div_div_eq_div_mul, Nat.reduceMul, List.append_nil]
 rfl
theorem loop350 {S : Summs} {Q : Ex → St → Prop} {w : Bs} (hw : w.length ≤ 2000) (hexit : ∀ st, st.s 3 = .str w → Q (.exit 0) st) :
  ∀ (f j c : Nat) (acc : Bs) st g, j + f = 6 → c < 256 → acc ++ lettR f j c = w → st.s 3 = .str acc → st.s 4 = .int .u8 (c : Int) → st.s 5 = .int .i64 (j : Int) → AV S [] dc350l0 Q st g := by
 intro f
 induction f with
 | zero =>
  intro j c acc st g hf hc hacc h3 h4 h5
  refine Ad dc350l0.eq_1 ?_
  have hlt : ¬ ((j : Int) < 6) := by omega
  simp only [↓go1, go2, go4, reduceIte, Nat.reduceEqDiff, Nat.reduceAdd, h5, hlt]
  refine hexit _ ?_
  simp only [↓go1, reduceIte, Nat.reduceEqDiff, h3]
  rw [← hacc]; simp [lettR]
 | succ f ih =>
  intro j c acc st g hf hc hacc h3 h4 h5
  refine Ad dc350l0.eq_1 ?_
  have hlt : ((j : Int) < 6) := by omega
  have hj0 : (0 : Int) ≤ (j : Int) := by omega
  have hw1 : IntKind.i64.wrap ((j : Int) + 1) = ((j + 1 : Nat) : Int) := w64 (by omega) (by omega)
  have hmod : ((c : Int).tmod 2 = 1) = (c % 2 = 1) := by rw [Int.tmod_eq_emod_of_nonneg (by omega)]; exact propext ⟨fun h => by omega, fun h => by omega⟩
  have hdiv : IntKind.u8.wrap ((c : Int).tdiv 2) = ((c / 2 : Nat) : Int) := by
   rw [Int.tdiv_eq_ediv_of_nonneg (by omega)]
   simp only [IntKind.wrap, IntKind.signed, IntKind.bits, Bool.false_and, Bool.false_eq_true, if_false]; omega
  have two : ((2 : Int) = 0) = False := by simp
  have hb1 : ((j + 1 : Nat) : Int) ≤ ((6 : Nat) : Int) := by omega
  have hb2 : (j : Int) ≤ ((j + 1 : Nat) : Int) := by omega
  have hj1 : (0 : Int) ≤ ((j + 1 : Nat) : Int) := by omega
  have hsub : j + 1 - j = 1 := by omega
  have hacc2 := hacc
  unfold lettR at hacc2
  obtain ⟨st_s, st_m, st_c⟩ := st
  simp only at h3 h4 h5
  by_cases hbit : c % 2 = 1
  ·rw [if_pos hbit] at hacc2
   have hlen : (acc.length + (List.take 1 (List.drop j ([114, 119, 100, 120, 108, 115] : Bs))).length ≤ 9223372036854775807) = True := eq_true (by
    have := congrArg List.length hacc2
    rw [← List.append_assoc, List.length_append, List.length_append] at this
    omega)
   simp only [↓go1, go2, go4, reduceIte, Nat.reduceEqDiff, Nat.reduceAdd, h3, h4, h5, hlt, hj0, hj1, hw1, hmod, hbit, two, ne_eq, hdiv, hb1, hb2, hsub, Int.toNat_natCast, hlen, List.length_cons, List.length_nil, Nat.zero_add, and_self]
   exact ih (j + 1) (c / 2) _ _ _ (by omega) (by omega) (by rw [← hacc2]; simp) rfl rfl rfl
  ·rw [if_neg hbit] at hacc2
   simp only [↓go1, go2, go4, reduceIte, Nat.reduceEqDiff, Nat.reduceAdd, h4, h5, hlt, hw1, hmod, hbit, two, ne_eq, hdiv]
   exact ih (j + 1) (c / 2) acc _ _ (by omega) (by omega) (by rw [← hacc2]; simp) h3 rfl rfl
noncomputable def F350 : List D → Option D := FX (fun r : Rl => [rlD r]) (fun r => r.1.length ≤ 1000 ∧ 0 ≤ r.2 ∧ r.2 < 64) (fun r => .str (DK r))
theorem F350_eq {r : Rl} (h : r.1.length ≤ 1000 ∧ 0 ≤ r.2 ∧ r.2 < 64) : F350 [.agg [.str r.1, .int .u8 r.2]] = some (.str (DK r)) :=
 AP (mk := fun r : Rl => [rlD r]) (fun a b h => by
  simp only [rlD, List.cons.injEq, D.agg.injEq, D.str.injEq, D.int.injEq, true_and, and_true] at h
  exact Prod.ext h.1 h.2) h
theorem ok350 : (Ai F350).ok Tryz.prog 350 := by
 refine AL (S := fun _ => none) Au fn350 (fun _ => by simp) (fun r hr => ?_)
 obtain ⟨h1, h2, h3⟩ := hr
 obtain ⟨p, c⟩ := r
 simp only at h1 h2 h3
 obtain ⟨n, rfl⟩ : ∃ n : Nat, c = (n : Int) := ⟨c.toNat, by omega⟩
 have hl : (p.length + 1 ≤ 9223372036854775807) = True := eq_true (by omega)
 have hll := Cy n
 unfold dc350 rlD
 simp only [↓go1, go2, go3, reduceIte, Nat.reduceEqDiff, Nat.reduceAdd, hl, Ac, Nat.zero_le, Nat.reduceLT, Nat.sub_zero, List.length_cons, List.length_nil, Nat.zero_add, List.getElem?_cons_zero, List.getElem?_cons_succ, and_self]
 refine loop350 (w := DK (p, (n : Int))) (by simp only [DK, List.length_append, List.length_cons, List.length_nil, Int.toNat_natCast]; omega) (fun st h3 => ?_) 6 0 n (p ++ [58]) _ _ rfl (by omega) ?_ rfl rfl rfl
 ·simp only [↓go1, go2, go3, go4, reduceIte, Nat.reduceEqDiff, Nat.reduceAdd, h3]
  all_goals (first | rfl | exact ⟨rfl, rfl⟩)
 ·rw [lettR_eq]; rfl
theorem joinC_snoc (y : Bs) : ∀ xs : List Bs, xs ≠ [] → Bp (xs ++ [y]) = Bp xs ++ 44 :: y
 | [x], _ => rfl
 | x :: z :: r, _ => by
  have := joinC_snoc y (z :: r) (by simp)
  simp only [List.cons_append, Bp] at this ⊢
  rw [this]; simp
theorem loop270 {S : Summs} {l : List Rl} {nl : Bool} {Q : Ex → St → Prop} (hb : l.length ≤ 4) (hx : ∀ r ∈ l, r.1.length ≤ 1000 ∧ 0 ≤ r.2 ∧ r.2 < 64) (s350 : S 350 = some (Ai F350))
  (hexit : ∀ st, st.s 5 = .str (Bp (Bk l)) → Q (.exit 0) st) :
  ∀ (f j : Nat) st g, l.length = j + f → st.s 0 = .slice nl [] (Aj l) → st.s 5 = .str (Bp (Bk (l.take j))) → st.s 6 = .int .i64 (j : Int) → AV S [] dc270l0 Q st g := by
 intro f
 induction f with
 | zero =>
  intro j st g hf h0 h5 h6
  refine Ad dc270l0.eq_1 ?_
  have : ¬ ((j : Int) < l.length) := by omega
  simp only [↓go1, go2, go4, reduceIte, Nat.reduceEqDiff, Nat.reduceAdd, h0, h6, this, An]
  rw [List.take_of_length_le (by omega)] at h5
  exact hexit _ h5
 | succ f ih =>
  intro j st g hf h0 h5 h6
  refine Ad dc270l0.eq_1 ?_
  have hj : j < l.length := by omega
  have hlt : ((j : Int) < l.length) := by omega
  have hj0 : (0 : Int) ≤ (j : Int) := by omega
  have hw : IntKind.i64.wrap ((j : Int) + 1) = ((j + 1 : Nat) : Int) := w64 (by omega) (by omega)
  have hm := hx l[j] (List.getElem_mem hj)
  have hat : (Aj l)[j]? = some (.agg [.str l[j].1, .int .u8 l[j].2]) := by simp [Aj, rlD, List.getElem?_eq_getElem hj]
  have htk : l.take (j + 1) = l.take j ++ [l[j]] := by rw [List.take_add_one, List.getElem?_eq_getElem hj]; rfl
  have hll := Cy l[j].2.toNat
  have hrb : (DK l[j]).length ≤ 1007 := by
   simp only [DK, List.length_append, List.length_cons, List.length_nil]; omega
  have hjl : (Bp (Bk (l.take j))).length ≤ 10000 := by
   have e1 := Dp (Bk (l.take j))
   have e2 := sumL_le (l := Bk (l.take j)) (b := 1007) fun x hx' => by
    obtain ⟨y, hy, rfl⟩ := List.mem_map.1 hx'
    have h1 := (hx y (List.mem_of_mem_take hy)).1
    have h2 := Cy y.2.toNat
    simp only [DK, List.length_append, List.length_cons, List.length_nil]; omega
   rw [BT, List.length_take] at e1 e2; omega
  generalize l[j] = r at hm hat htk hrb
  have h350 := F350_eq hm
  have hrs : Bk (l.take (j + 1)) = Bk (l.take j) ++ [DK r] := by rw [htk]; simp [Bk]
  obtain ⟨st_s, st_m, st_c⟩ := st
  simp only at h0 h5 h6
  by_cases hz : 0 < j
  ·have hz' : ((0 : Int) < (j : Int)) := by omega
   have hne : Bk (l.take j) ≠ [] := by
    intro h
    have h' := congrArg List.length h
    rw [BT, List.length_take, List.length_nil] at h'
    omega
   have l1 : ((Bp (Bk (l.take j))).length + 1 ≤ 9223372036854775807) = True := eq_true (by omega)
   have l2 : ((Bp (Bk (l.take j))).length + 1 + (DK r).length ≤ 9223372036854775807) = True := eq_true (by omega)
   simp only [↓go1, gB1, reduceIte, Nat.reduceEqDiff, Nat.reduceAdd, h0, h5, h6, hlt, hj0, hw, hz', Int.toNat_natCast, hat, An, Aa s350, h350, l1, l2, List.length_append, Nat.reduceLeDiff, List.take_succ_cons, List.take_zero]
   refine ih (j + 1) _ _ (by omega) h0 ?_ rfl
   simp only [↓go1, go3, reduceIte, Nat.reduceEqDiff]
   rw [hrs, joinC_snoc _ _ hne]; simp
  ·have hz' : ¬ ((0 : Int) < (j : Int)) := by omega
   obtain rfl : j = 0 := by omega
   have l2 : ((Bp (Bk [])).length + (DK r).length ≤ 9223372036854775807) = True := eq_true (by have e : Bp (Bk []) = [] := rfl; rw [e, List.length_nil]; omega)
   simp only [↓go1, gB1, reduceIte, Nat.reduceEqDiff, Nat.reduceAdd, h0, h5, h6, hlt, hj0, hw, hz', Int.toNat_natCast, hat, An, Aa s350, h350, l2, Nat.reduceLeDiff, List.take_succ_cons, List.take_zero]
   refine ih (0 + 1) _ _ (by omega) ?_ ?_ ?_
   ·exact h0
   ·simp only [↓go1, go3, reduceIte, Nat.reduceEqDiff, Nat.reduceAdd]
    rw [hrs]; rfl
   ·rfl
theorem ok270 : (Ai F232).ok Tryz.prog 270 := by
 obtain ⟨S, hS, hl⟩ := AJ (Ab ok218 (Ab ok350 Ae))
 have s218 := hl 218 _ rfl
 have s350 := hl 350 _ rfl
 clear hl
 refine AL hS fn270 (fun _ => by simp) (fun p hp => ?_)
 obtain ⟨nl, l⟩ := p
 obtain ⟨hl, hx⟩ := hp
 simp only at hl hx
 have h218 := Fpol_eq' (nl := nl) hl hx
 have hz := polE_zero (l := l)
 simp only
 unfold dc270
 generalize Cm l = e at h218 hz
 by_cases he : e = 0
 ·subst he
  obtain ⟨h4, h63⟩ := hz rfl
  simp only [↓go1, go2, go3, go4, reduceIte, Nat.reduceEqDiff, Nat.reduceAdd, Aa s218, h218]
  refine loop270 (l := l) (nl := nl) h4 (fun r hr => ⟨(hx r hr).1, (hx r hr).2, by have := h63 r hr; omega⟩) s350 (fun st h5 => ?_) l.length 0 _ _ (by omega) rfl rfl rfl
  simp only [↓go1, go2, go3, go4, reduceIte, Nat.reduceEqDiff, Nat.reduceAdd, h5]
  all_goals (first | rfl | exact ⟨rfl, rfl⟩)
 ·simp only [↓go1, go2, go3, go4, reduceIte, Nat.reduceEqDiff, Nat.reduceAdd, Aa s218, h218, he, and_self]
  all_goals (first | rfl | exact ⟨rfl, rfl⟩)
end Go.Vd
namespace Go.Vd
open Go.Proofs
def dc71l0 : DC := (.seq (sr [mm 18 4, mm 19 3, nn 20 true 19, bt 21 .lss 18 20] (cd 21 .skip (.exit 0))) (.seq (.block 1 (.seq (.drawn [lk 24 11 1, mm 25 3, mm 26 4, oo 27 (.idxs (.t 25) (.t 26)), cc 28 161 [(.t 24), (.t 27)], mm 5 28] []) (sr [mm 29 5, bi 30 .neq 29 0] (cd 30 (sr [mm 31 5, mm 2 31] .ret) .skip)))) (.row [mm 22 4, bi 23 .add 22 1, mm 4 23])))
def dc71 : DC := (sr [oo 1 (.box (.t 0)), ci 2 0] (.seq (sr [ff 6 0 1, ll 7 6, oo 8 (.bin .lss (.t 7) (.c (.int .u8 1))), mm 9 8, og 10 (.faddr 0 (.t 1)) 3 false, og 11 (.load none (.t 10)) 3 false, og 12 (.bin .gtr (.t 11) (.c (.int .u8 18))) 3 false, oo 13 (.pick (.t 9) (.c (.bool true)) (.t 12))] (cd 13 (sr [ci 2 22] .ret) .skip)) (sr [ff 14 0 1, ll 15 14, oo 16 (.conv .i64 (.t 15)), cc 17 160 [(.t 16)], mm 3 17] (.seq (sr [ci 4 0] (.block 0 (.loop dc71l0))) (.seq (sr [lk 32 11 1, cc 33 162 [(.t 32)], oo 34 (.un .not (.t 33))] (cd 34 (sr [ci 2 2] .ret) .skip)) (.seq (sr [lk 35 11 1, cc 36 163 [(.t 35)], nn 37 true 36, bi 38 .gtr 37 400] (cd 38 (sr [ci 2 5] .ret) .skip)) (sr [ci 2 0] .ret)))))))
theorem fn71 : Fn Tryz.prog 71 39 dc71 [.t 2] := Ao Tryz.func71
def dc161 : DC := (sr [oo 2 (.box (.t 0)), ci 4 0] (.seq (sr [mm 5 1, oo 6 (.bin .eql (.t 5) (.c (.int .u8 116)))] (cd 6 (sr [ff 7 1 2, ll 8 7, cc 9 217 [(.t 8)], cc 10 264 [(.t 9)], mm 4 10] .ret) .skip)) (.seq (sr [mm 11 1, oo 12 (.bin .eql (.t 11) (.c (.int .u8 109)))] (cd 12 (sr [ff 13 3 2, ll 14 13, cc 15 217 [(.t 14)], cc 16 264 [(.t 15)], mm 4 16] .ret) .skip)) (.seq (sr [mm 17 1, oo 18 (.bin .eql (.t 17) (.c (.int .u8 112)))] (cd 18 (sr [ff 19 2 2, ll 20 19, cc 21 211 [(.t 20)], mm 4 21] .ret) .skip)) (.seq (sr [mm 22 1, oo 23 (.bin .eql (.t 22) (.c (.int .u8 113)))] (cd 23 (sr [ff 24 3 2, ll 25 24, cc 26 211 [(.t 25)], mm 4 26] .ret) .skip)) (.seq (sr [mm 27 1, oo 28 (.bin .eql (.t 27) (.c (.int .u8 110)))] (cd 28 (sr [ff 29 4 2, ll 30 29, cc 31 265 [(.t 30), (.c (.int .i64 0)), (.c (.int .i64 999))], cc 32 264 [(.t 31)], mm 4 32] .ret) .skip)) (.seq (sr [mm 33 1, oo 34 (.bin .eql (.t 33) (.c (.int .u8 99)))] (cd 34 (sr [ff 35 5 2, ll 36 35, cc 37 265 [(.t 36), (.c (.int .i64 (-1))), (.c (.int .i64 999))], cc 38 264 [(.t 37)], mm 4 38] .ret) .skip)) (.seq (sr [mm 39 1, oo 40 (.bin .eql (.t 39) (.c (.int .u8 108)))] (cd 40 (sr [ff 41 7 2, ll 42 41, cc 43 266 [(.t 42)], cc 44 264 [(.t 43)], mm 4 44] .ret) .skip)) (.seq (sr [mm 45 1, oo 46 (.bin .eql (.t 45) (.c (.int .u8 114)))] (cd 46 (sr [ff 47 9 2, ll 48 47, cc 49 218 [(.t 48)], mm 4 49] .ret) .skip)) (.seq (sr [mm 50 1, oo 51 (.bin .eql (.t 50) (.c (.int .u8 107)))] (cd 51 (sr [ff 52 10 2, ll 53 52, nn 54 true 53, bi 55 .eql 54 16, cc 56 264 [(.t 55)], mm 4 56] .ret) .skip)) (sr [ci 4 0] .ret)))))))))))
theorem fn161 : Fn Tryz.prog 161 57 dc161 [.t 4] := Ao Tryz.func161
def dc162 : DC := (sr [oo 1 (.box (.t 0)), cb 2 false] (sr [ff 4 0 1, ll 5 4, oo 6 (.conv .i64 (.t 5)), mm 3 6] (sr [mm 7 3, cc 8 267 [(.t 7), (.c (.int .u8 116))], mm 9 8, og 10 (.faddr 1 (.t 1)) 2 false, og 11 (.load none (.t 10)) 2 false, og 12 (.bin .eql (.t 11) (.c (.str []))) 2 false, oo 13 (.pick (.t 9) (.c (.bool true)) (.t 12)), mm 14 13, og 15 (.mv (.t 3)) 7 true, og 16 (.call (.c (.fn 267 [])) [(.t 15), (.c (.int .u8 112))]) 7 true, og 17 (.mv (.t 16)) 7 true, og 18 (.faddr 2 (.t 1)) 10 false, og 19 (.load none (.t 18)) 10 false, og 20 (.bin .eql (.t 19) (.c (.str []))) 10 false, og 21 (.pick (.t 17) (.c (.bool true)) (.t 20)) 7 true, oo 22 (.pick (.t 14) (.t 21) (.c (.bool false))), mm 23 22, og 24 (.mv (.t 3)) 16 true, og 25 (.call (.c (.fn 267 [])) [(.t 24), (.c (.int .u8 109))]) 16 true, og 26 (.mv (.t 25)) 16 true, og 27 (.mv (.t 3)) 19 false, og 28 (.call (.c (.fn 267 [])) [(.t 27), (.c (.int .u8 113))]) 19 false, og 29 (.pick (.t 26) (.c (.bool true)) (.t 28)) 16 true, og 30 (.mv (.t 29)) 16 true, og 31 (.faddr 3 (.t 1)) 23 false, og 32 (.load none (.t 31)) 23 false, og 33 (.bin .eql (.t 32) (.c (.str []))) 23 false, og 34 (.pick (.t 30) (.c (.bool true)) (.t 33)) 16 true, oo 35 (.pick (.t 23) (.t 34) (.c (.bool false))), mm 36 35, og 37 (.mv (.t 3)) 29 true, og 38 (.call (.c (.fn 267 [])) [(.t 37), (.c (.int .u8 110))]) 29 true, og 39 (.mv (.t 38)) 29 true, og 40 (.faddr 4 (.t 1)) 32 false, og 41 (.load none (.t 40)) 32 false, og 42 (.bin .eql (.t 41) (.c (.int .i64 0))) 32 false, og 43 (.pick (.t 39) (.c (.bool true)) (.t 42)) 29 true, oo 44 (.pick (.t 36) (.t 43) (.c (.bool false))), mm 45 44, og 46 (.mv (.t 3)) 38 true, og 47 (.call (.c (.fn 267 [])) [(.t 46), (.c (.int .u8 99))]) 38 true, og 48 (.mv (.t 47)) 38 true, og 49 (.faddr 5 (.t 1)) 41 false, og 50 (.load none (.t 49)) 41 false, og 51 (.bin .eql (.t 50) (.c (.int .i64 0))) 41 false, og 52 (.pick (.t 48) (.c (.bool true)) (.t 51)) 38 true, oo 53 (.pick (.t 45) (.t 52) (.c (.bool false))), mm 54 53, og 55 (.mv (.t 3)) 47 true, og 56 (.call (.c (.fn 267 [])) [(.t 55), (.c (.int .u8 102))]) 47 true, og 57 (.mv (.t 56)) 47 true, og 58 (.faddr 6 (.t 1)) 50 false, og 59 (.load none (.t 58)) 50 false, og 60 (.un .not (.t 59)) 50 false, og 61 (.pick (.t 57) (.c (.bool true)) (.t 60)) 47 true, oo 62 (.pick (.t 54) (.t 61) (.c (.bool false))), mm 63 62, og 64 (.mv (.t 3)) 56 true, og 65 (.call (.c (.fn 267 [])) [(.t 64), (.c (.int .u8 108))]) 56 true, og 66 (.mv (.t 65)) 56 true, og 67 (.faddr 7 (.t 1)) 59 false, og 68 (.load none (.t 67)) 59 false, og 69 (.len false (.t 68)) 59 false, og 70 (.bin .eql (.t 69) (.c (.int .i64 0))) 59 false, og 71 (.pick (.t 66) (.c (.bool true)) (.t 70)) 56 true, oo 72 (.pick (.t 63) (.t 71) (.c (.bool false))), mm 73 72, og 74 (.mv (.t 3)) 66 true, og 75 (.call (.c (.fn 267 [])) [(.t 74), (.c (.int .u8 100))]) 66 true, og 76 (.mv (.t 75)) 66 true, og 77 (.faddr 8 (.t 1)) 69 false, og 78 (.load none (.t 77)) 69 false, og 79 (.bin .eql (.t 78) (.c (.str []))) 69 false, og 80 (.pick (.t 76) (.c (.bool true)) (.t 79)) 66 true, oo 81 (.pick (.t 73) (.t 80) (.c (.bool false))), mm 82 81, og 83 (.mv (.t 3)) 75 true, og 84 (.call (.c (.fn 267 [])) [(.t 83), (.c (.int .u8 114))]) 75 true, og 85 (.mv (.t 84)) 75 true, og 86 (.faddr 9 (.t 1)) 78 false, og 87 (.load none (.t 86)) 78 false, og 88 (.len false (.t 87)) 78 false, og 89 (.bin .eql (.t 88) (.c (.int .i64 0))) 78 false, og 90 (.pick (.t 85) (.c (.bool true)) (.t 89)) 75 true, oo 91 (.pick (.t 82) (.t 90) (.c (.bool false))), mm 92 91, og 93 (.mv (.t 3)) 85 true, og 94 (.call (.c (.fn 267 [])) [(.t 93), (.c (.int .u8 107))]) 85 true, og 95 (.mv (.t 94)) 85 true, og 96 (.faddr 10 (.t 1)) 88 false, og 97 (.load none (.t 96)) 88 false, og 98 (.bin .eql (.t 97) (.c (.str []))) 88 false, og 99 (.pick (.t 95) (.c (.bool true)) (.t 98)) 85 true, oo 100 (.pick (.t 92) (.t 99) (.c (.bool false))), mm 2 100] .ret)))
theorem fn162 : Fn Tryz.prog 162 101 dc162 [.t 2] := Ao Tryz.func162
def dc163l0 : DC := (.seq (sr [mm 14 5, mm 15 4, nn 16 true 15, bt 17 .lss 14 16] (cd 17 .skip (.exit 0))) (.seq (.block 1 (.drawn [mm 20 3, oo 21 (.bin .add (.t 20) (.c (.str [32]))), lk 22 11 1, mm 23 4, mm 24 5, oo 25 (.idxs (.t 23) (.t 24)), cc 26 269 [(.t 22), (.t 25)], bt 27 .add 21 26, mm 3 27] [])) (.row [mm 18 5, bi 19 .add 18 1, mm 5 19])))
def dc163 : DC := (sr [oo 1 (.box (.t 0)), oo 2 (.mv (.c (.str [])))] (sr [ff 6 0 1, ll 7 6, oo 8 (.conv .i64 (.t 7)), cc 9 268 [(.t 8)], mm 3 9] (sr [ff 10 0 1, ll 11 10, oo 12 (.conv .i64 (.t 11)), cc 13 160 [(.t 12)], mm 4 13] (.seq (sr [ci 5 0] (.block 0 (.loop dc163l0))) (sr [mm 28 3, mm 2 28] .ret)))))
theorem fn163 : Fn Tryz.prog 163 29 dc163 [.t 2] := Ao Tryz.func163
def dc269l0 : DC := (.seq (sr [mm 66 6, ff 67 7 2, ll 68 67, nn 69 false 68, bt 70 .lss 66 69] (cd 70 .skip (.exit 0))) (.seq (.block 1 (.seq (sr [mm 73 6, bi 74 .gtr 73 0] (cd 74 (.row [mm 75 5, oo 76 (.bin .add (.t 75) (.c (.str [44]))), mm 5 76]) .skip)) (.row [mm 77 5, ff 78 7 2, ll 79 78, mm 80 6, ii 81 1 79 80, ll 82 81, cc 83 349 [(.t 82)], bt 84 .add 77 83, mm 5 84]))) (.row [mm 71 6, bi 72 .add 71 1, mm 6 72])))
def dc269 : DC := (sr [oo 2 (.box (.t 0)), oo 4 (.mv (.c (.str [])))] (sr [oo 5 (.mv (.c (.str [])))] (.seq (sr [mm 7 1, oo 8 (.bin .eql (.t 7) (.c (.int .u8 116)))] (cd 8 (sr [ff 9 1 2, ll 10 9, mm 4 10] .ret) .skip)) (.seq (sr [mm 11 1, oo 12 (.bin .eql (.t 11) (.c (.int .u8 112)))] (cd 12 (sr [ff 13 2 2, ll 14 13, mm 4 14] .ret) .skip)) (.seq (sr [mm 15 1, oo 16 (.bin .eql (.t 15) (.c (.int .u8 109))), mm 17 16, og 18 (.mv (.t 1)) 2 false, og 19 (.bin .eql (.t 18) (.c (.int .u8 113))) 2 false, oo 20 (.pick (.t 17) (.c (.bool true)) (.t 19))] (cd 20 (sr [ff 21 3 2, ll 22 21, mm 4 22] .ret) .skip)) (.seq (sr [mm 23 1, oo 24 (.bin .eql (.t 23) (.c (.int .u8 110)))] (cd 24 (sr [ff 25 4 2, ll 26 25, cc 27 349 [(.t 26)], mm 4 27] .ret) .skip)) (.seq (sr [mm 28 1, oo 29 (.bin .eql (.t 28) (.c (.int .u8 102))), mm 30 29, og 31 (.faddr 6 (.t 2)) 2 true, og 32 (.load none (.t 31)) 2 true, oo 33 (.pick (.t 30) (.t 32) (.c (.bool false)))] (cd 33 (sr [oo 4 (.mv (.c (.str [49])))] .ret) .skip)) (.seq (sr [mm 34 1, oo 35 (.bin .eql (.t 34) (.c (.int .u8 102)))] (cd 35 (sr [oo 4 (.mv (.c (.str [48])))] .ret) .skip)) (.seq (sr [mm 36 1, oo 37 (.bin .eql (.t 36) (.c (.int .u8 107)))] (cd 37 (sr [ff 38 10 2, ll 39 38, cc 40 282 [(.t 39)], mm 4 40] .ret) .skip)) (.seq (sr [mm 41 1, oo 42 (.bin .eql (.t 41) (.c (.int .u8 99))), mm 43 42, og 44 (.faddr 5 (.t 2)) 2 true, og 45 (.load none (.t 44)) 2 true, og 46 (.bin .geq (.t 45) (.c (.int .i64 0))) 2 true, oo 47 (.pick (.t 43) (.t 46) (.c (.bool false)))] (cd 47 (sr [ff 48 5 2, ll 49 48, cc 50 349 [(.t 49)], mm 4 50] .ret) .skip)) (.seq (sr [mm 51 1, oo 52 (.bin .eql (.t 51) (.c (.int .u8 100)))] (cd 52 (.row [ff 53 8 2, ll 54 53, cc 55 282 [(.t 54)], mm 5 55]) .skip)) (.seq (sr [mm 56 1, oo 57 (.bin .eql (.t 56) (.c (.int .u8 114)))] (cd 57 (.row [ff 59 9 2, ll 60 59, cc 61 270 [(.t 60)], mm 58 61, xx 62 0 58, xx 63 1 58, mm 5 62]) .skip)) (.seq (sr [mm 64 1, oo 65 (.bin .eql (.t 64) (.c (.int .u8 108)))] (cd 65 (sr [ci 6 0] (.block 0 (.loop dc269l0))) .skip)) (.seq (sr [mm 85 5, oo 86 (.bin .eql (.t 85) (.c (.str [])))] (cd 86 (sr [oo 4 (.mv (.c (.str [45])))] .ret) .skip)) (sr [mm 87 5, mm 4 87] .ret)))))))))))))))
theorem fn269 : Fn Tryz.prog 269 88 dc269 [.t 4] := Ao Tryz.func269
end Go.Vd
namespace Go.Vd
open Go.Proofs Go.RowKit
theorem ok161 : (Ai (FX (fun p : Ak × Int => [akD p.1, .int .u8 p.2]) (fun p => AkOk p.1) (fun p => .int .i64 (Bg p.1 p.2)))).ok Tryz.prog 161 := by
 obtain ⟨S, hS, hl⟩ := AJ (Ab ok217 (Ab ok264 (Ab ok211 (Ab ok265 (Ab ok266 (Ab ok218 Ae))))))
 have s217 := hl 217 _ rfl
 have s264 := hl 264 _ rfl
 have s211 := hl 211 _ rfl
 have s265 := hl 265 _ rfl
 have s266 := hl 266 _ rfl
 have s218 := hl 218 _ rfl
 clear hl
 refine AL hS fn161 (fun _ => by simp) (fun p hp => ?_)
 obtain ⟨a, c⟩ := p
 simp only at hp
 have hT : F217 [.str a.tk] = some (.bool (BF a.tk)) := rfl
 have hO : F217 [.str a.ot] = some (.bool (BF a.ot)) := rfl
 have hP : F211 [.str a.pa] = some (.int .i64 (Be a.pa)) := if_pos (by have := hp.pa; omega)
 have hQ : F211 [.str a.ot] = some (.int .i64 (Be a.ot)) := if_pos (by have := hp.ot; omega)
 have hN : F259 [.int .i64 a.n, .int .i64 0, .int .i64 999] = some (.bool (decide (0 ≤ a.n ∧ a.n ≤ 999))) := rfl
 have hC : F259 [.int .i64 a.cas, .int .i64 (-1), .int .i64 999] = some (.bool (decide (-1 ≤ a.cas ∧ a.cas ≤ 999))) := rfl
 have hL := F260_eq (nl := a.nln) (l := a.ns) (by have := hp.ns; omega)
 have hR := Fpol_eq' (nl := a.nlr) (l := a.rs) (by have := hp.rl; omega) hp.rs
 unfold Bg dc161 akD akC
 simp only
 by_cases h116 : c = 116
 ·subst h116
  simp only [↓go1, gB0, reduceIte, Nat.reduceEqDiff, Nat.reduceAdd, Aa s217, hT, Aa s264, F257_eq, Int.reduceEq, Ac, Nat.reduceLT]
  all_goals (first | rfl | exact ⟨rfl, rfl⟩)
 by_cases h109 : c = 109
 ·subst h109
  simp only [↓go1, gB0, reduceIte, Nat.reduceEqDiff, Nat.reduceAdd, Aa s217, hO, Aa s264, F257_eq, Int.reduceEq, Ac, Nat.reduceLT]
  all_goals (first | rfl | exact ⟨rfl, rfl⟩)
 by_cases h112 : c = 112
 ·subst h112
  simp only [↓go1, gB0, reduceIte, Nat.reduceEqDiff, Nat.reduceAdd, Aa s211, hP, Int.reduceEq, Ac, Nat.reduceLT]
  all_goals (first | rfl | exact ⟨rfl, rfl⟩)
 by_cases h113 : c = 113
 ·subst h113
  simp only [↓go1, gB0, reduceIte, Nat.reduceEqDiff, Nat.reduceAdd, Aa s211, hQ, Int.reduceEq, Ac, Nat.reduceLT]
  all_goals (first | rfl | exact ⟨rfl, rfl⟩)
 by_cases h110 : c = 110
 ·subst h110
  simp only [↓go1, gB0, reduceIte, Nat.reduceEqDiff, Nat.reduceAdd, Aa s265, hN, Aa s264, F257_eq, Int.reduceEq, Ac, Nat.reduceLT]
  all_goals (first | rfl | exact ⟨rfl, rfl⟩)
 by_cases h99 : c = 99
 ·subst h99
  simp only [↓go1, gB0, reduceIte, Nat.reduceEqDiff, Nat.reduceAdd, Aa s265, hC, Aa s264, F257_eq, Int.reduceEq, Ac, Nat.reduceLT]
  all_goals (first | rfl | exact ⟨rfl, rfl⟩)
 by_cases h108 : c = 108
 ·subst h108
  simp only [↓go1, gB0, reduceIte, Nat.reduceEqDiff, Nat.reduceAdd, Aa s266, hL, Aa s264, F257_eq, Int.reduceEq, Ac, Nat.reduceLT]
  all_goals (first | rfl | exact ⟨rfl, rfl⟩)
 by_cases h114 : c = 114
 ·subst h114
  simp only [↓go1, gB0, reduceIte, Nat.reduceEqDiff, Nat.reduceAdd, Aa s218, hR, Int.reduceEq, Ac, Nat.reduceLT]
  all_goals (first | rfl | exact ⟨rfl, rfl⟩)
 by_cases h107 : c = 107
 ·subst h107
  simp only [↓go1, gB0, reduceIte, Nat.reduceEqDiff, Nat.reduceAdd, Aa s264, F257_eq, Int.reduceEq, Ac, Nat.reduceLT]
  all_goals (first | rfl | exact ⟨rfl, rfl⟩)
 simp only [↓go1, go2, go3, go4, reduceIte, Nat.reduceEqDiff, Nat.reduceAdd, h116, h109, h112, h113, h110, h99, h108, h114, h107, Nat.zero_add, and_self]
 all_goals (first | rfl | exact ⟨rfl, rfl⟩)
noncomputable def F161 : List D → Option D := FX (fun p : Ak × Int => [akD p.1, .int .u8 p.2]) (fun p => AkOk p.1) (fun p => .int .i64 (Bg p.1 p.2))
theorem F161_eq {a : Ak} {c : Int} (h : AkOk a) : F161 [akD a, .int .u8 c] = some (.int .i64 (Bg a c)) :=
 AP (mk := fun p : Ak × Int => [akD p.1, .int .u8 p.2]) (a := (a, c)) (fun x y e => by
  simp only [List.cons.injEq, D.int.injEq, true_and, and_true] at e
  exact Prod.ext (BI e.1) e.2) h
theorem ok161' : (Ai F161).ok Tryz.prog 161 := ok161
theorem loop269 {S : Summs} {a : Ak} {Q : Ex → St → Prop} (hb : a.ns.length ≤ 1000) (hx : ∀ x ∈ a.ns, 0 ≤ x ∧ x < 1000) (s349 : S 349 = some (Ai (F349 1000)))
  (hexit : ∀ st, st.s 5 = .str (Bp (BK a.ns)) → Q (.exit 0) st) :
  ∀ (f j : Nat) st g, a.ns.length = j + f → st.s 2 = .ptr [0] 0 → st.m [0] 7 = some (.slice a.nln [] (By a.ns)) → st.s 5 = .str (Bp (BK (a.ns.take j))) → st.s 6 = .int .i64 (j : Int) → AV S [] dc269l0 Q st g := by
 intro f
 induction f with
 | zero =>
  intro j st g hf h2 hm h5 h6
  refine Ad dc269l0.eq_1 ?_
  have : ¬ ((j : Int) < a.ns.length) := by omega
  simp only [↓go1, go2, go4, reduceIte, Nat.reduceEqDiff, Nat.reduceAdd, h2, hm, h6, this, Bb, Nat.zero_add]
  rw [List.take_of_length_le (by omega)] at h5
  exact hexit _ h5
 | succ f ih =>
  intro j st g hf h2 hm h5 h6
  refine Ad dc269l0.eq_1 ?_
  have hj : j < a.ns.length := by omega
  have hlt : ((j : Int) < a.ns.length) := by omega
  have hj0 : (0 : Int) ≤ (j : Int) := by omega
  have hw : IntKind.i64.wrap ((j : Int) + 1) = ((j + 1 : Nat) : Int) := w64 (by omega) (by omega)
  have hmem := hx a.ns[j] (List.getElem_mem hj)
  obtain ⟨n, hn⟩ : ∃ n : Nat, a.ns[j] = (n : Int) := ⟨a.ns[j].toNat, by omega⟩
  have hat : (By a.ns)[j]? = some (.int .i64 (n : Int)) := by simp [By, List.getElem?_eq_getElem hj, hn]
  have h349 := F349_eq (b := 1000) (n := n) ⟨by omega, by omega⟩
  have hrs : BK (a.ns.take (j + 1)) = BK (a.ns.take j) ++ [Ek n] := by rw [List.take_add_one, List.getElem?_eq_getElem hj]; simp [BK, hn]
  have hnl := Dv n
  have hjl : (Bp (BK (a.ns.take j))).length ≤ 10000 := by
   have e1 := Dp (BK (a.ns.take j))
   have e2 := sumL_le (l := BK (a.ns.take j)) (b := 3) fun x hx' => by
    obtain ⟨y, hy, rfl⟩ := List.mem_map.1 hx'
    exact Dv _
   rw [Cd, List.length_take] at e1 e2; omega
  obtain ⟨st_s, st_m, st_c⟩ := st
  simp only at h2 hm h5 h6
  by_cases hz : 0 < j
  ·have hz' : ((0 : Int) < (j : Int)) := by omega
   have hne : BK (a.ns.take j) ≠ [] := by
    intro h
    have h' := congrArg List.length h
    rw [Cd, List.length_take, List.length_nil] at h'
    omega
   have l1 : ((Bp (BK (a.ns.take j))).length + 1 ≤ 9223372036854775807) = True := eq_true (by omega)
   have l2 : ((Bp (BK (a.ns.take j))).length + 1 + (Ek n).length ≤ 9223372036854775807) = True := eq_true (by omega)
   simp only [↓go1, gB1, reduceIte, Nat.reduceEqDiff, Nat.reduceAdd, h2, hm, h5, h6, hlt, hj0, hw, hz', Int.toNat_natCast, hat, Bb, Aa s349, h349, l1, l2, List.length_append]
   refine ih (j + 1) _ _ (by omega) ?_ ?_ ?_ ?_
   ·exact h2
   ·exact hm
   ·simp only [↓go1, go3, reduceIte, Nat.reduceEqDiff]
    rw [hrs, joinC_snoc _ _ hne]; simp
   ·rfl
  ·have hz' : ¬ ((0 : Int) < (j : Int)) := by omega
   obtain rfl : j = 0 := by omega
   have l2 : ((Bp (BK [])).length + (Ek n).length ≤ 9223372036854775807) = True := eq_true (by have e : Bp (BK []) = [] := rfl; rw [e, List.length_nil]; omega)
   simp only [↓go1, gB1, reduceIte, Nat.reduceEqDiff, Nat.reduceAdd, h2, hm, h5, h6, hlt, hj0, hw, hz', Int.toNat_natCast, hat, Bb, Aa s349, h349, l2, List.take_zero]
   refine ih (0 + 1) _ _ (by omega) ?_ ?_ ?_ ?_
   ·exact h2
   ·exact hm
   ·simp only [↓go1, go3, reduceIte, Nat.reduceEqDiff, Nat.reduceAdd]
    rw [hrs]; rfl
   ·rfl
noncomputable def F269 : List D → Option D := FX (fun p : Ak × Int => [akD p.1, .int .u8 p.2]) (fun p => AkOk p.1 ∧ LayOk p.1 p.2 ∧ p.2.toNat ∈ lettersA ∧ 0 ≤ p.2) (fun p => .str (C9 p.1 p.2))
theorem F269_eq {a : Ak} {c : Int} (h : AkOk a) (h2 : LayOk a c) (h3 : c.toNat ∈ lettersA) (h4 : 0 ≤ c) : F269 [akD a, .int .u8 c] = some (.str (C9 a c)) :=
 AP (mk := fun p : Ak × Int => [akD p.1, .int .u8 p.2]) (a := (a, c)) (fun x y e => by
  simp only [List.cons.injEq, D.int.injEq, true_and, and_true] at e
  exact Prod.ext (BI e.1) e.2) ⟨h, h2, h3, h4⟩
theorem ok269 : (Ai F269).ok Tryz.prog 269 := by
  obtain ⟨S, hS, hl⟩ := AJ (Ab ok349 (Ab ok282 (Ab ok270 Ae)))
  have s349 := hl 349 _ rfl
  have s282 := hl 282 _ rfl
  have s270 := hl 270 _ rfl
  clear hl
  refine AL hS fn269 (fun _ => by simp) (fun p hp => ?_)
  obtain ⟨a, c⟩ := p
  obtain ⟨hp, ⟨hN, hC, hL⟩, hm, hc0⟩ := hp
  simp only at hp hN hC hL hm hc0
  have hcc : c = 116 ∨ c = 112 ∨ c = 109 ∨ c = 113 ∨ c = 110 ∨ c = 99 ∨ c = 102 ∨ c = 108 ∨ c = 100 ∨ c = 114 ∨ c = 107 := by
    simp only [lettersA, List.mem_cons, List.mem_nil_iff, or_false] at hm; omega
  unfold C9 orN dc269 akD akC
  simp only
  rcases hcc with rfl | rfl | rfl | rfl | rfl | rfl | rfl | rfl | rfl | rfl | rfl
  · simp only [↓go1, gB0, reduceIte, Nat.reduceEqDiff, Nat.reduceAdd, Int.reduceEq, or_self, Ac, Nat.reduceLT]
    all_goals (first | rfl | exact ⟨rfl, rfl⟩)
  · simp only [↓go1, gB0, reduceIte, Nat.reduceEqDiff, Nat.reduceAdd, Int.reduceEq, or_self, Ac, Nat.reduceLT]
    all_goals (first | rfl | exact ⟨rfl, rfl⟩)
  · simp only [↓go1, gB0, reduceIte, Nat.reduceEqDiff, Nat.reduceAdd, Int.reduceEq, true_or, Ac, Nat.reduceLT]
    all_goals (first | rfl | exact ⟨rfl, rfl⟩)
  · simp only [↓go1, gB0, reduceIte, Nat.reduceEqDiff, Nat.reduceAdd, Int.reduceEq, or_true, Ac, Nat.reduceLT]
    all_goals (first | rfl | exact ⟨rfl, rfl⟩)
  · have hn := hN rfl
    obtain ⟨n, hn'⟩ : ∃ n : Nat, a.n = (n : Int) := ⟨a.n.toNat, by omega⟩
    have h349 := F349_eq (b := 1000) (n := n) (by omega)
    rw [hn']
    simp only [↓go1, gB0, reduceIte, Nat.reduceEqDiff, Nat.reduceAdd, Aa s349, h349, Int.toNat_natCast, Int.reduceEq, or_self, Ac, Nat.reduceLT]
    all_goals (first | rfl | exact ⟨rfl, rfl⟩)
  · have hc := hC rfl
    by_cases h1 : a.cas = -1
    · rw [h1]
      have hge : ¬ ((-1 : Int) ≥ 0) := by omega
      simp only [↓go1, gB0, reduceIte, Nat.reduceEqDiff, Nat.reduceAdd, hge, Int.reduceEq, or_self, Ac, Nat.reduceLT]
      all_goals (first | rfl | exact ⟨rfl, rfl⟩)
    · obtain ⟨n, hn'⟩ : ∃ n : Nat, a.cas = (n : Int) := ⟨a.cas.toNat, by omega⟩
      have h349 := F349_eq (b := 1000) (n := n) (by omega)
      have hge : ((n : Int) ≥ 0) := by omega
      rw [hn'] at h1 ⊢
      simp only [↓go1, gB0, reduceIte, Nat.reduceEqDiff, Nat.reduceAdd, h1, hge, Aa s349, h349, Int.toNat_natCast, Int.reduceEq, or_self, Ac, Nat.reduceLT]
      all_goals (first | rfl | exact ⟨rfl, rfl⟩)
  · cases a.fl <;> simp only [↓go1, gB0, reduceIte, Nat.reduceEqDiff, Nat.reduceAdd, Int.reduceEq, or_self, Ac, Nat.reduceLT]
    all_goals (first | rfl | exact ⟨rfl, rfl⟩)
  · have hl := hL rfl
    simp only [↓go1, go2, go3, go4, reduceIte, Nat.reduceEqDiff, Nat.reduceAdd, Int.reduceEq, Nat.zero_add]
    refine loop269 (a := a) hp.ns hl s349 (fun st h5 => ?_) a.ns.length 0 _ _ (by omega) rfl ?_ rfl rfl
    · cases hz : Bp (BK a.ns) with
      | nil => rw [hz] at h5
               simp only [↓go1, go2, go3, go4, reduceIte, Nat.reduceEqDiff, Nat.reduceAdd, h5, Int.reduceEq, or_self, and_self]
               all_goals (first | rfl | exact ⟨rfl, rfl⟩)
      | cons x r =>
        have hxr : ((x :: r) == ([] : Bs)) = false := rfl
        rw [hz] at h5
        simp only [↓go1, go2, go3, go4, reduceIte, Nat.reduceEqDiff, Nat.reduceAdd, h5, reduceCtorEq, Int.reduceEq, or_self, and_self]
        all_goals (first | rfl | exact ⟨rfl, rfl⟩)
    · simp only [go3, reduceIte, Nat.reduceAdd, Ac, Nat.zero_le, Nat.reduceLT, Nat.sub_zero, List.length_cons, List.length_nil, Nat.zero_add, List.getElem?_cons_zero, List.getElem?_cons_succ, and_self]
  · have h282 := F317_eq (s := a.da) (by have := hp.da; omega)
    cases hz : hexB a.da with
    | nil => rw [hz] at h282
             simp only [↓go1, gB0, reduceIte, Nat.reduceEqDiff, Nat.reduceAdd, Aa s282, h282, Int.reduceEq, or_self, Ac, Nat.reduceLT]
             all_goals (first | rfl | exact ⟨rfl, rfl⟩)
    | cons x r =>
      have hxr : ((x :: r) == ([] : Bs)) = false := rfl
      rw [hz] at h282
      simp only [↓go1, gB0, reduceIte, Nat.reduceEqDiff, Nat.reduceAdd, Aa s282, h282, reduceCtorEq, Int.reduceEq, or_self, Ac, Nat.reduceLT]
      all_goals (first | rfl | exact ⟨rfl, rfl⟩)
  · have h270 := F232_eq (nl := a.nlr) (l := a.rs) (by have := hp.rl; omega) hp.rs
    cases hz : (if Cm a.rs = 0 then Bp (Bk a.rs) else []) with
    | nil => rw [hz] at h270
             simp only [↓go1, gB0, reduceIte, Nat.reduceEqDiff, Nat.reduceAdd, Aa s270, h270, Int.reduceEq, or_self, Ac, Nat.reduceLT]
             all_goals (first | rfl | exact ⟨rfl, rfl⟩)
    | cons x r =>
      have hxr : ((x :: r) == ([] : Bs)) = false := rfl
      rw [hz] at h270
      simp only [↓go1, gB0, reduceIte, Nat.reduceEqDiff, Nat.reduceAdd, Aa s270, h270, reduceCtorEq, Int.reduceEq, or_self, Ac, Nat.reduceLT]
      all_goals (first | rfl | exact ⟨rfl, rfl⟩)
  · have h282 := F317_eq (s := a.key) (by have := hp.key; omega)
    simp only [↓go1, gB0, reduceIte, Nat.reduceEqDiff, Nat.reduceAdd, Aa s282, h282, Int.reduceEq, or_self, Ac, Nat.reduceLT]
    all_goals (first | rfl | exact ⟨rfl, rfl⟩)
theorem forms_let : DB.all (fun p => p.2.all fun c => lettersA.contains c.toNat) = true := by decide +kernel
theorem form_let (op : Int) : ∀ c ∈ Bv op, c.toNat ∈ lettersA := by
 unfold Bv
 have : ∀ p : Bs × Bs, p = ([], []) ∨ p ∈ DB → ∀ c ∈ p.2, c.toNat ∈ lettersA := by
  intro p hp
  rcases hp with rfl | hp
  ·simp
  ·have h := List.all_eq_true.1 forms_let p hp
   intro c hc
   have h2 := List.all_eq_true.1 h c hc
   simpa using h2
 refine this _ ?_
 by_cases h : op.toNat < DB.length
 ·right; simp [List.getD, List.getElem?_eq_getElem h]
 ·left; simp [List.getD, List.getElem?_eq_none (Nat.le_of_not_lt h)]
theorem loop163 {S : Summs} {a : Ak} (ha : AkOk a) (s269 : S 269 = some (Ai F269)) {ls : Bs} (hls : ls.length ≤ 20) (hlet : ∀ c ∈ ls, c.toNat ∈ lettersA) (hlay : ∀ c ∈ ls, LayOk a (c.toNat : Int)) {w0 : Bs} (hw0 : w0.length ≤ 20) {Q : Ex → St → Prop}
  (hexit : ∀ st, st.s 3 = .str (w0 ++ ls.flatMap fun c => 32 :: C9 a (c.toNat : Int)) → Q (.exit 0) st) :
  ∀ (f p : Nat) st g, ls.length = p + f → st.s 1 = .ptr [0] 0 → st.s 3 = .str (w0 ++ (ls.take p).flatMap fun c => 32 :: C9 a (c.toNat : Int)) → st.s 4 = .str ls → st.s 5 = .int .i64 (p : Int) → Af st.m [0] 0 11 = some (akC a) →
   AV S [] dc163l0 Q st g := by
 intro f
 induction f with
 | zero =>
  intro p st g hf h1 h3 h4 h5 hm
  refine Ad dc163l0.eq_1 ?_
  have hlt : ¬ ((p : Int) < (ls.length : Int)) := by omega
  simp only [↓go1, go2, go4, reduceIte, Nat.reduceEqDiff, Nat.reduceAdd, h4, h5, hlt]
  refine hexit _ ?_
  simp only [↓go1, reduceIte, Nat.reduceEqDiff, h3]
  rw [List.take_of_length_le (by omega)]
 | succ f ih =>
  intro p st g hf h1 h3 h4 h5 hm
  refine Ad dc163l0.eq_1 ?_
  have hlt : ((p : Int) < (ls.length : Int)) := by omega
  have hp0 : (0 : Int) ≤ (p : Int) := by omega
  have hp : p < ls.length := by omega
  have hw : IntKind.i64.wrap ((p : Int) + 1) = ((p + 1 : Nat) : Int) := w64 (by omega) (by omega)
  have hat : ls[p]? = some ls[p] := List.getElem?_eq_getElem hp
  have hmem : ls[p] ∈ ls := List.getElem_mem hp
  have h269 : F269 [.agg (akC a), .int .u8 (ls[p].toNat : Int)] = some (.str (C9 a (ls[p].toNat : Int))) := F269_eq ha (hlay _ hmem) (by rw [Int.toNat_natCast]; exact hlet _ hmem) (by omega)
  have hll := layA_len (c := (ls[p].toNat : Int)) ha
  have htk : ls.take (p + 1) = ls.take p ++ [ls[p]] := by rw [List.take_add_one, hat]; rfl
  have hacc : ((ls.take p).flatMap fun c => 32 :: C9 a (c.toNat : Int)).length ≤ 100001 * 20 := by
   have : ∀ (l : Bs), ((l.flatMap fun c => 32 :: C9 a (c.toNat : Int))).length ≤ 100001 * l.length := by
    intro l
    induction l with
    | nil => simp
    | cons x r ih =>
     have := layA_len (c := (x.toNat : Int)) ha
     simp only [List.flatMap_cons, List.length_append, List.length_cons, Nat.mul_add]; omega
   have h := this (ls.take p)
   have h' : (ls.take p).length ≤ 20 := by rw [List.length_take]; omega
   omega
  have hb1 : (w0.length + ((ls.take p).flatMap fun c => 32 :: C9 a (c.toNat : Int)).length + 1 ≤ 9223372036854775807) = True := eq_true (by omega)
  have hb2 : (w0.length + ((ls.take p).flatMap fun c => 32 :: C9 a (c.toNat : Int)).length + 1 + (C9 a (ls[p].toNat : Int)).length ≤ 9223372036854775807) = True := eq_true (by omega)
  generalize ls[p] = c at hat h269 htk hb2
  obtain ⟨st_s, st_m, st_c⟩ := st
  simp only at h1 h3 h4 h5 hm
  simp only [↓go1, gB1, reduceIte, Nat.reduceEqDiff, Nat.reduceAdd, h1, h3, h4, h5, hm, hlt, hp0, Int.toNat_natCast, hat, Aa s269, h269, hb1, hb2, AW, AX, List.length_append]
  refine AA.intro (Al ?_) ?_
  ·first | rfl | (simp [Bh, A1]; done)
  simp only [↓go1, go2, reduceIte, Nat.reduceEqDiff, Nat.reduceAdd, h5, hw]
  refine ih (p + 1) _ _ (by omega) ?_ ?_ ?_ ?_ ?_
  ·exact h1
  ·simp only [↓go1, reduceIte, Nat.reduceEqDiff]
   rw [htk]; simp
  ·exact h4
  ·rfl
  ·exact hm
noncomputable def F163 : List D → Option D := FX (fun a : Ak => [akD a]) (fun a => AkOk a ∧ a.op < 19 ∧ ∀ c ∈ Bv a.op, LayOk a (c.toNat : Int)) (fun a => .str (Dh a))
theorem F163_eq {a : Ak} (h : AkOk a) (h1 : a.op < 19) (h2 : ∀ c ∈ Bv a.op, LayOk a (c.toNat : Int)) : F163 [akD a] = some (.str (Dh a)) :=
 AP (mk := fun a : Ak => [akD a]) (fun x y e => by
  simp only [List.cons.injEq, and_true] at e
  exact BI e) ⟨h, h1, h2⟩
theorem u8i64 {n : Int} (h0 : 0 ≤ n) (h : n < 256) : IntKind.i64.wrap n = n := w64 (by omega) (by omega)
theorem ok163 : (Ai F163).ok Tryz.prog 163 := by
 obtain ⟨S, hS, hl⟩ := AJ (Ab ok268 (Ab ok160 (Ab ok269 Ae)))
 have s268 := hl 268 _ rfl
 have s160 := hl 160 _ rfl
 have s269 := hl 269 _ rfl
 clear hl
 refine AL hS fn163 (fun _ => by simp) (fun a hp => ?_)
 obtain ⟨ha, h19, hlay⟩ := hp
 have h268 := R268_eq ha.op0 h19
 have h160 := R160_eq ha.op0 h19
 obtain ⟨f1, f2, f3⟩ := form_at a.op
 have hu := u8i64 ha.op0 ha.op
 have hm0 : ∀ m : Mem, m.put [0] 0 (akC a) [0] 0 = some (.int .u8 a.op) := fun m => by
  rw [Ac, if_pos ⟨rfl, Nat.le_refl _, by rw [Ax]; omega⟩]; rfl
 unfold Dh dc163 akD
 simp only [↓go1, go2, go3, go4, reduceIte, Nat.reduceEqDiff, Nat.reduceAdd, Aa s268, h268, Aa s160, h160, hu, hm0, Ap, Nat.zero_add]
 refine loop163 (ls := Bv a.op) (w0 := Cz a.op) ha s269 f2 (form_let _) hlay f1 (fun st h4 => ?_) (Bv a.op).length 0 _ _ (by omega) rfl ?_ rfl rfl ?_
 ·simp only [↓go1, go2, go3, go4, reduceIte, Nat.reduceEqDiff, Nat.reduceAdd, h4]
  all_goals (first | rfl | exact ⟨rfl, rfl⟩)
 ·simp only [↓go1, go2, reduceIte, Nat.reduceEqDiff, List.take_zero, List.flatMap_nil, List.append_nil]
 ·exact Av (Ax a)
end Go.Vd
