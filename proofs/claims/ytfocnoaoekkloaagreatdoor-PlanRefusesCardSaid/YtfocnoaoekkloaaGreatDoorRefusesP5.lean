/-
  A part of the proof: the layers over the model. Nothing in it is assumed.
-/
import Derived.Test.YtfocnoaoekkloaaGreatDoorRefusesP4
import Derived.Test.YtfocnoaoekkloaaGreatDoorProg

set_option linter.unusedSimpArgs false
set_option linter.unusedVariables false
set_option linter.defProp false
set_option maxHeartbeats 4000000
set_option maxRecDepth 100000
namespace Go.Vd
open Go.Proofs Go.RowKit
def Am : List DOper := [⟨some 7, .mv (.t 3), [], none⟩, ⟨some 8, .call (.c (.fn 267 [])) [(.t 7), (.c (.int .u8 116))], [], none⟩, ⟨some 9, .mv (.t 8), [], none⟩, ⟨some 10, .faddr 1 (.t 1), [], some (2, false)⟩, ⟨some 11, .load none (.t 10), [], some (2, false)⟩, ⟨some 12, .bin .eql (.t 11) (.c (.str [])), [], some (2, false)⟩, ⟨some 13, .pick (.t 9) (.c (.bool true)) (.t 12), [], none⟩, ⟨some 14, .mv (.t 13), [], none⟩, ⟨some 15, .mv (.t 3), [], some (7, true)⟩, ⟨some 16, .call (.c (.fn 267 [])) [(.t 15), (.c (.int .u8 112))], [], some (7, true)⟩, ⟨some 17, .mv (.t 16), [], some (7, true)⟩, ⟨some 18, .faddr 2 (.t 1), [], some (10, false)⟩, ⟨some 19, .load none (.t 18), [], some (10, false)⟩, ⟨some 20, .bin .eql (.t 19) (.c (.str [])), [], some (10, false)⟩, ⟨some 21, .pick (.t 17) (.c (.bool true)) (.t 20), [], some (7, true)⟩, ⟨some 22, .pick (.t 14) (.t 21) (.c (.bool false)), [], none⟩, ⟨some 23, .mv (.t 22), [], none⟩, ⟨some 24, .mv (.t 3), [], some (16, true)⟩, ⟨some 25, .call (.c (.fn 267 [])) [(.t 24), (.c (.int .u8 109))], [], some (16, true)⟩, ⟨some 26, .mv (.t 25), [], some (16, true)⟩, ⟨some 27, .mv (.t 3), [], some (19, false)⟩, ⟨some 28, .call (.c (.fn 267 [])) [(.t 27), (.c (.int .u8 113))], [], some (19, false)⟩, ⟨some 29, .pick (.t 26) (.c (.bool true)) (.t 28), [], some (16, true)⟩, ⟨some 30, .mv (.t 29), [], some (16, true)⟩, ⟨some 31, .faddr 3 (.t 1), [], some (23, false)⟩, ⟨some 32, .load none (.t 31), [], some (23, false)⟩, ⟨some 33, .bin .eql (.t 32) (.c (.str [])), [], some (23, false)⟩, ⟨some 34, .pick (.t 30) (.c (.bool true)) (.t 33), [], some (16, true)⟩, ⟨some 35, .pick (.t 23) (.t 34) (.c (.bool false)), [], none⟩, ⟨some 36, .mv (.t 35), [], none⟩, ⟨some 37, .mv (.t 3), [], some (29, true)⟩, ⟨some 38, .call (.c (.fn 267 [])) [(.t 37), (.c (.int .u8 110))], [], some (29, true)⟩, ⟨some 39, .mv (.t 38), [], some (29, true)⟩, ⟨some 40, .faddr 4 (.t 1), [], some (32, false)⟩, ⟨some 41, .load none (.t 40), [], some (32, false)⟩, ⟨some 42, .bin .eql (.t 41) (.c (.int .i64 0)), [], some (32, false)⟩, ⟨some 43, .pick (.t 39) (.c (.bool true)) (.t 42), [], some (29, true)⟩, ⟨some 44, .pick (.t 36) (.t 43) (.c (.bool false)), [], none⟩, ⟨some 45, .mv (.t 44), [], none⟩, ⟨some 46, .mv (.t 3), [], some (38, true)⟩, ⟨some 47, .call (.c (.fn 267 [])) [(.t 46), (.c (.int .u8 99))], [], some (38, true)⟩, ⟨some 48, .mv (.t 47), [], some (38, true)⟩, ⟨some 49, .faddr 5 (.t 1), [], some (41, false)⟩, ⟨some 50, .load none (.t 49), [], some (41, false)⟩, ⟨some 51, .bin .eql (.t 50) (.c (.int .i64 0)), [], some (41, false)⟩, ⟨some 52, .pick (.t 48) (.c (.bool true)) (.t 51), [], some (38, true)⟩, ⟨some 53, .pick (.t 45) (.t 52) (.c (.bool false)), [], none⟩, ⟨some 54, .mv (.t 53), [], none⟩, ⟨some 55, .mv (.t 3), [], some (47, true)⟩, ⟨some 56, .call (.c (.fn 267 [])) [(.t 55), (.c (.int .u8 102))], [], some (47, true)⟩, ⟨some 57, .mv (.t 56), [], some (47, true)⟩, ⟨some 58, .faddr 6 (.t 1), [], some (50, false)⟩, ⟨some 59, .load none (.t 58), [], some (50, false)⟩, ⟨some 60, .un .not (.t 59), [], some (50, false)⟩, ⟨some 61, .pick (.t 57) (.c (.bool true)) (.t 60), [], some (47, true)⟩, ⟨some 62, .pick (.t 54) (.t 61) (.c (.bool false)), [], none⟩, ⟨some 63, .mv (.t 62), [], none⟩, ⟨some 64, .mv (.t 3), [], some (56, true)⟩, ⟨some 65, .call (.c (.fn 267 [])) [(.t 64), (.c (.int .u8 108))], [], some (56, true)⟩, ⟨some 66, .mv (.t 65), [], some (56, true)⟩, ⟨some 67, .faddr 7 (.t 1), [], some (59, false)⟩, ⟨some 68, .load none (.t 67), [], some (59, false)⟩, ⟨some 69, .len false (.t 68), [], some (59, false)⟩, ⟨some 70, .bin .eql (.t 69) (.c (.int .i64 0)), [], some (59, false)⟩, ⟨some 71, .pick (.t 66) (.c (.bool true)) (.t 70), [], some (56, true)⟩, ⟨some 72, .pick (.t 63) (.t 71) (.c (.bool false)), [], none⟩, ⟨some 73, .mv (.t 72), [], none⟩, ⟨some 74, .mv (.t 3), [], some (66, true)⟩, ⟨some 75, .call (.c (.fn 267 [])) [(.t 74), (.c (.int .u8 100))], [], some (66, true)⟩, ⟨some 76, .mv (.t 75), [], some (66, true)⟩, ⟨some 77, .faddr 8 (.t 1), [], some (69, false)⟩, ⟨some 78, .load none (.t 77), [], some (69, false)⟩, ⟨some 79, .bin .eql (.t 78) (.c (.str [])), [], some (69, false)⟩, ⟨some 80, .pick (.t 76) (.c (.bool true)) (.t 79), [], some (66, true)⟩, ⟨some 81, .pick (.t 73) (.t 80) (.c (.bool false)), [], none⟩, ⟨some 82, .mv (.t 81), [], none⟩, ⟨some 83, .mv (.t 3), [], some (75, true)⟩, ⟨some 84, .call (.c (.fn 267 [])) [(.t 83), (.c (.int .u8 114))], [], some (75, true)⟩, ⟨some 85, .mv (.t 84), [], some (75, true)⟩, ⟨some 86, .faddr 9 (.t 1), [], some (78, false)⟩, ⟨some 87, .load none (.t 86), [], some (78, false)⟩, ⟨some 88, .len false (.t 87), [], some (78, false)⟩, ⟨some 89, .bin .eql (.t 88) (.c (.int .i64 0)), [], some (78, false)⟩, ⟨some 90, .pick (.t 85) (.c (.bool true)) (.t 89), [], some (75, true)⟩, ⟨some 91, .pick (.t 82) (.t 90) (.c (.bool false)), [], none⟩, ⟨some 92, .mv (.t 91), [], none⟩, ⟨some 93, .mv (.t 3), [], some (85, true)⟩, ⟨some 94, .call (.c (.fn 267 [])) [(.t 93), (.c (.int .u8 107))], [], some (85, true)⟩, ⟨some 95, .mv (.t 94), [], some (85, true)⟩, ⟨some 96, .faddr 10 (.t 1), [], some (88, false)⟩, ⟨some 97, .load none (.t 96), [], some (88, false)⟩, ⟨some 98, .bin .eql (.t 97) (.c (.str [])), [], some (88, false)⟩, ⟨some 99, .pick (.t 95) (.c (.bool true)) (.t 98), [], some (85, true)⟩, ⟨some 100, .pick (.t 92) (.t 99) (.c (.bool false)), [], none⟩, ⟨some 2, .mv (.t 100), [], none⟩]
theorem len0 {α : Type} (l : List α) : (((l.length : Nat) : Int) = 0) = (l.isEmpty = true) := by cases l <;> simp <;> omega
theorem dec_em {b : Bool} : decide (b = true) = b := by cases b <;> rfl
theorem seg162_1 {S : Summs} (s267 : S 267 = some (Ai Dc)) {a : Ak} (k116 : Dc [.int .i64 a.op, .int .u8 116] = some (.bool (Bz a.op 116))) {c0 : Nat} {s : Nat → D} {m : Mem} {K : Nat → (Nat → D) → Mem → Prop} (h1 : s 1 = .ptr [0] 0) (h3 : s 3 = .int .i64 a.op) (hm : m [0] 1 = some (.str a.tk))
  (hk : ∀ s', s' 1 = .ptr [0] 0 → s' 3 = .int .i64 a.op → s' 13 = .bool (Bz a.op 116 || decide (a.tk = [])) → BW S [] c0 Am (Am.drop 7) 7 s' m K) : BW S [] c0 Am (Am.drop 0) 0 s m K := by
 have e : Am.drop 0 = ⟨some 7, .mv (.t 3), [], none⟩ :: ⟨some 8, .call (.c (.fn 267 [])) [(.t 7), (.c (.int .u8 116))], [], none⟩ :: ⟨some 9, .mv (.t 8), [], none⟩ :: ⟨some 10, .faddr 1 (.t 1), [], some (2, false)⟩ :: ⟨some 11, .load none (.t 10), [], some (2, false)⟩ :: ⟨some 12, .bin .eql (.t 11) (.c (.str [])), [], some (2, false)⟩ :: ⟨some 13, .pick (.t 9) (.c (.bool true)) (.t 12), [], none⟩ :: Am.drop 7 := rfl
 rw [e]
 have q2 : A7 Am 2 = some 9 := rfl
 generalize Am.drop 7 = r at hk ⊢
 generalize Am = ops at *
 generalize Bz a.op 116 = b116 at *
 cases b116 <;> (
  (simp only [↓go1, go2, go3, go4, reduceIte, Nat.reduceEqDiff, Nat.reduceAdd, h1, h3, hm, Aa s267, k116, q2, Nat.zero_add])
  (refine hk _ ?_ ?_ ?_ <;> simp only [↓go1, reduceIte, Nat.reduceEqDiff, h1, h3, Bool.true_or, Bool.false_or]))
theorem seg162_2 {S : Summs} (s267 : S 267 = some (Ai Dc)) {a : Ak} (k112 : Dc [.int .i64 a.op, .int .u8 112] = some (.bool (Bz a.op 112))) {c0 : Nat} {s : Nat → D} {m : Mem} {K : Nat → (Nat → D) → Mem → Prop} {b : Bool} (h1 : s 1 = .ptr [0] 0) (h3 : s 3 = .int .i64 a.op) (hacc : s 13 = .bool b) (hm : m [0] 2 = some (.str a.pa))
  (hk : ∀ s', s' 1 = .ptr [0] 0 → s' 3 = .int .i64 a.op → s' 22 = .bool (b && (Bz a.op 112 || decide (a.pa = []))) → BW S [] c0 Am (Am.drop 16) 16 s' m K) : BW S [] c0 Am (Am.drop 7) 7 s m K := by
 have e : Am.drop 7 = ⟨some 14, .mv (.t 13), [], none⟩ :: ⟨some 15, .mv (.t 3), [], some (7, true)⟩ :: ⟨some 16, .call (.c (.fn 267 [])) [(.t 15), (.c (.int .u8 112))], [], some (7, true)⟩ :: ⟨some 17, .mv (.t 16), [], some (7, true)⟩ :: ⟨some 18, .faddr 2 (.t 1), [], some (10, false)⟩ :: ⟨some 19, .load none (.t 18), [], some (10, false)⟩ :: ⟨some 20, .bin .eql (.t 19) (.c (.str [])), [], some (10, false)⟩ :: ⟨some 21, .pick (.t 17) (.c (.bool true)) (.t 20), [], some (7, true)⟩ :: ⟨some 22, .pick (.t 14) (.t 21) (.c (.bool false)), [], none⟩ :: Am.drop 16 := rfl
 rw [e]
 have q7 : A7 Am 7 = some 14 := rfl
 have q10 : A7 Am 10 = some 17 := rfl
 generalize Am.drop 16 = r at hk ⊢
 generalize Am = ops at *
 generalize Bz a.op 112 = b112 at *
 cases b <;> cases b112 <;> (
  (simp only [↓go1, go2, go3, go4, reduceIte, Nat.reduceEqDiff, Nat.reduceAdd, h1, h3, hm, Aa s267, k112, hacc, q7, q10, Nat.zero_add])
  (refine hk _ ?_ ?_ ?_ <;> simp only [↓go1, go4, reduceIte, Nat.reduceEqDiff, h1, h3, Bool.true_or, Bool.false_or, Bool.false_and]))
theorem seg162_3 {S : Summs} (s267 : S 267 = some (Ai Dc)) {a : Ak} (k109 : Dc [.int .i64 a.op, .int .u8 109] = some (.bool (Bz a.op 109))) (k113 : Dc [.int .i64 a.op, .int .u8 113] = some (.bool (Bz a.op 113))) {c0 : Nat} {s : Nat → D} {m : Mem} {K : Nat → (Nat → D) → Mem → Prop} {b : Bool} (h1 : s 1 = .ptr [0] 0) (h3 : s 3 = .int .i64 a.op) (hacc : s 22 = .bool b) (hm : m [0] 3 = some (.str a.ot))
  (hk : ∀ s', s' 1 = .ptr [0] 0 → s' 3 = .int .i64 a.op → s' 35 = .bool (b && (Bz a.op 109 || Bz a.op 113 || decide (a.ot = []))) → BW S [] c0 Am (Am.drop 29) 29 s' m K) : BW S [] c0 Am (Am.drop 16) 16 s m K := by
 have e : Am.drop 16 = ⟨some 23, .mv (.t 22), [], none⟩ :: ⟨some 24, .mv (.t 3), [], some (16, true)⟩ :: ⟨some 25, .call (.c (.fn 267 [])) [(.t 24), (.c (.int .u8 109))], [], some (16, true)⟩ :: ⟨some 26, .mv (.t 25), [], some (16, true)⟩ :: ⟨some 27, .mv (.t 3), [], some (19, false)⟩ :: ⟨some 28, .call (.c (.fn 267 [])) [(.t 27), (.c (.int .u8 113))], [], some (19, false)⟩ :: ⟨some 29, .pick (.t 26) (.c (.bool true)) (.t 28), [], some (16, true)⟩ :: ⟨some 30, .mv (.t 29), [], some (16, true)⟩ :: ⟨some 31, .faddr 3 (.t 1), [], some (23, false)⟩ :: ⟨some 32, .load none (.t 31), [], some (23, false)⟩ :: ⟨some 33, .bin .eql (.t 32) (.c (.str [])), [], some (23, false)⟩ :: ⟨some 34, .pick (.t 30) (.c (.bool true)) (.t 33), [], some (16, true)⟩ :: ⟨some 35, .pick (.t 23) (.t 34) (.c (.bool false)), [], none⟩ :: Am.drop 29 := rfl
 rw [e]
 have q16 : A7 Am 16 = some 23 := rfl
 have q19 : A7 Am 19 = some 26 := rfl
 have q23 : A7 Am 23 = some 30 := rfl
 generalize Am.drop 29 = r at hk ⊢
 generalize Am = ops at *
 generalize Bz a.op 109 = b109 at *
 generalize Bz a.op 113 = b113 at *
 cases b <;> cases b109 <;> cases b113 <;> (
  (simp only [↓go1, go2, go3, go4, reduceIte, Nat.reduceEqDiff, Nat.reduceAdd, h1, h3, hm, Aa s267, k109, k113, hacc, q16, q19, q23, Nat.zero_add])
  (refine hk _ ?_ ?_ ?_ <;> simp only [↓go1, go4, reduceIte, Nat.reduceEqDiff, h1, h3, Bool.true_or, Bool.false_or, Bool.or_true, Bool.or_false, Bool.false_and]))
theorem seg162_4 {S : Summs} (s267 : S 267 = some (Ai Dc)) {a : Ak} (k110 : Dc [.int .i64 a.op, .int .u8 110] = some (.bool (Bz a.op 110))) {c0 : Nat} {s : Nat → D} {m : Mem} {K : Nat → (Nat → D) → Mem → Prop} {b : Bool} (h1 : s 1 = .ptr [0] 0) (h3 : s 3 = .int .i64 a.op) (hacc : s 35 = .bool b) (hm : m [0] 4 = some (.int .i64 a.n))
  (hk : ∀ s', s' 1 = .ptr [0] 0 → s' 3 = .int .i64 a.op → s' 44 = .bool (b && (Bz a.op 110 || decide (a.n = 0))) → BW S [] c0 Am (Am.drop 38) 38 s' m K) : BW S [] c0 Am (Am.drop 29) 29 s m K := by
 have e : Am.drop 29 = ⟨some 36, .mv (.t 35), [], none⟩ :: ⟨some 37, .mv (.t 3), [], some (29, true)⟩ :: ⟨some 38, .call (.c (.fn 267 [])) [(.t 37), (.c (.int .u8 110))], [], some (29, true)⟩ :: ⟨some 39, .mv (.t 38), [], some (29, true)⟩ :: ⟨some 40, .faddr 4 (.t 1), [], some (32, false)⟩ :: ⟨some 41, .load none (.t 40), [], some (32, false)⟩ :: ⟨some 42, .bin .eql (.t 41) (.c (.int .i64 0)), [], some (32, false)⟩ :: ⟨some 43, .pick (.t 39) (.c (.bool true)) (.t 42), [], some (29, true)⟩ :: ⟨some 44, .pick (.t 36) (.t 43) (.c (.bool false)), [], none⟩ :: Am.drop 38 := rfl
 rw [e]
 have q29 : A7 Am 29 = some 36 := rfl
 have q32 : A7 Am 32 = some 39 := rfl
 generalize Am.drop 38 = r at hk ⊢
 generalize Am = ops at *
 generalize Bz a.op 110 = b110 at *
 cases b <;> cases b110 <;> (
  (simp only [↓go1, go2, go3, go4, reduceIte, Nat.reduceEqDiff, Nat.reduceAdd, h1, h3, hm, Aa s267, k110, hacc, q29, q32, Nat.zero_add])
  (refine hk _ ?_ ?_ ?_ <;> simp only [↓go1, go4, reduceIte, Nat.reduceEqDiff, h1, h3, Bool.true_or, Bool.false_or, Bool.false_and]))
theorem seg162_5 {S : Summs} (s267 : S 267 = some (Ai Dc)) {a : Ak} (k99 : Dc [.int .i64 a.op, .int .u8 99] = some (.bool (Bz a.op 99))) {c0 : Nat} {s : Nat → D} {m : Mem} {K : Nat → (Nat → D) → Mem → Prop} {b : Bool} (h1 : s 1 = .ptr [0] 0) (h3 : s 3 = .int .i64 a.op) (hacc : s 44 = .bool b) (hm : m [0] 5 = some (.int .i64 a.cas))
  (hk : ∀ s', s' 1 = .ptr [0] 0 → s' 3 = .int .i64 a.op → s' 53 = .bool (b && (Bz a.op 99 || decide (a.cas = 0))) → BW S [] c0 Am (Am.drop 47) 47 s' m K) : BW S [] c0 Am (Am.drop 38) 38 s m K := by
 have e : Am.drop 38 = ⟨some 45, .mv (.t 44), [], none⟩ :: ⟨some 46, .mv (.t 3), [], some (38, true)⟩ :: ⟨some 47, .call (.c (.fn 267 [])) [(.t 46), (.c (.int .u8 99))], [], some (38, true)⟩ :: ⟨some 48, .mv (.t 47), [], some (38, true)⟩ :: ⟨some 49, .faddr 5 (.t 1), [], some (41, false)⟩ :: ⟨some 50, .load none (.t 49), [], some (41, false)⟩ :: ⟨some 51, .bin .eql (.t 50) (.c (.int .i64 0)), [], some (41, false)⟩ :: ⟨some 52, .pick (.t 48) (.c (.bool true)) (.t 51), [], some (38, true)⟩ :: ⟨some 53, .pick (.t 45) (.t 52) (.c (.bool false)), [], none⟩ :: Am.drop 47 := rfl
 rw [e]
 have q38 : A7 Am 38 = some 45 := rfl
 have q41 : A7 Am 41 = some 48 := rfl
 generalize Am.drop 47 = r at hk ⊢
 generalize Am = ops at *
 generalize Bz a.op 99 = b99 at *
 cases b <;> cases b99 <;> (
  (simp only [↓go1, go2, go3, go4, reduceIte, Nat.reduceEqDiff, Nat.reduceAdd, h1, h3, hm, Aa s267, k99, hacc, q38, q41, Nat.zero_add])
  (refine hk _ ?_ ?_ ?_ <;> simp only [↓go1, go4, reduceIte, Nat.reduceEqDiff, h1, h3, Bool.true_or, Bool.false_or, Bool.false_and]))
theorem seg162_6 {S : Summs} (s267 : S 267 = some (Ai Dc)) {a : Ak} (k102 : Dc [.int .i64 a.op, .int .u8 102] = some (.bool (Bz a.op 102))) {c0 : Nat} {s : Nat → D} {m : Mem} {K : Nat → (Nat → D) → Mem → Prop} {b : Bool} (h1 : s 1 = .ptr [0] 0) (h3 : s 3 = .int .i64 a.op) (hacc : s 53 = .bool b) (hm : m [0] 6 = some (.bool a.fl))
  (hk : ∀ s', s' 1 = .ptr [0] 0 → s' 3 = .int .i64 a.op → s' 62 = .bool (b && (Bz a.op 102 || !a.fl)) → BW S [] c0 Am (Am.drop 56) 56 s' m K) : BW S [] c0 Am (Am.drop 47) 47 s m K := by
 have e : Am.drop 47 = ⟨some 54, .mv (.t 53), [], none⟩ :: ⟨some 55, .mv (.t 3), [], some (47, true)⟩ :: ⟨some 56, .call (.c (.fn 267 [])) [(.t 55), (.c (.int .u8 102))], [], some (47, true)⟩ :: ⟨some 57, .mv (.t 56), [], some (47, true)⟩ :: ⟨some 58, .faddr 6 (.t 1), [], some (50, false)⟩ :: ⟨some 59, .load none (.t 58), [], some (50, false)⟩ :: ⟨some 60, .un .not (.t 59), [], some (50, false)⟩ :: ⟨some 61, .pick (.t 57) (.c (.bool true)) (.t 60), [], some (47, true)⟩ :: ⟨some 62, .pick (.t 54) (.t 61) (.c (.bool false)), [], none⟩ :: Am.drop 56 := rfl
 rw [e]
 have q47 : A7 Am 47 = some 54 := rfl
 have q50 : A7 Am 50 = some 57 := rfl
 generalize Am.drop 56 = r at hk ⊢
 generalize Am = ops at *
 generalize Bz a.op 102 = b102 at *
 cases b <;> cases b102 <;> (
  (simp only [↓go1, go2, go3, go4, reduceIte, Nat.reduceEqDiff, Nat.reduceAdd, h1, h3, hm, Aa s267, k102, hacc, q47, q50, Nat.zero_add])
  (refine hk _ ?_ ?_ ?_ <;> simp only [↓go1, go4, reduceIte, Nat.reduceEqDiff, h1, h3, Bool.true_or, Bool.false_or, Bool.false_and]))
theorem seg162_7 {S : Summs} (s267 : S 267 = some (Ai Dc)) {a : Ak} (k108 : Dc [.int .i64 a.op, .int .u8 108] = some (.bool (Bz a.op 108))) {c0 : Nat} {s : Nat → D} {m : Mem} {K : Nat → (Nat → D) → Mem → Prop} {b : Bool} (h1 : s 1 = .ptr [0] 0) (h3 : s 3 = .int .i64 a.op) (hacc : s 62 = .bool b) (hm : m [0] 7 = some (.slice a.nln [] (By a.ns)))
  (hk : ∀ s', s' 1 = .ptr [0] 0 → s' 3 = .int .i64 a.op → s' 72 = .bool (b && (Bz a.op 108 || a.ns.isEmpty)) → BW S [] c0 Am (Am.drop 66) 66 s' m K) : BW S [] c0 Am (Am.drop 56) 56 s m K := by
 have e : Am.drop 56 = ⟨some 63, .mv (.t 62), [], none⟩ :: ⟨some 64, .mv (.t 3), [], some (56, true)⟩ :: ⟨some 65, .call (.c (.fn 267 [])) [(.t 64), (.c (.int .u8 108))], [], some (56, true)⟩ :: ⟨some 66, .mv (.t 65), [], some (56, true)⟩ :: ⟨some 67, .faddr 7 (.t 1), [], some (59, false)⟩ :: ⟨some 68, .load none (.t 67), [], some (59, false)⟩ :: ⟨some 69, .len false (.t 68), [], some (59, false)⟩ :: ⟨some 70, .bin .eql (.t 69) (.c (.int .i64 0)), [], some (59, false)⟩ :: ⟨some 71, .pick (.t 66) (.c (.bool true)) (.t 70), [], some (56, true)⟩ :: ⟨some 72, .pick (.t 63) (.t 71) (.c (.bool false)), [], none⟩ :: Am.drop 66 := rfl
 rw [e]
 have q56 : A7 Am 56 = some 63 := rfl
 have q59 : A7 Am 59 = some 66 := rfl
 generalize Am.drop 66 = r at hk ⊢
 generalize Am = ops at *
 generalize Bz a.op 108 = b108 at *
 cases b <;> cases b108 <;> (
  (simp only [↓go1, go2, go3, go4, reduceIte, Nat.reduceEqDiff, Nat.reduceAdd, h1, h3, hm, Aa s267, k108, hacc, q56, q59, Nat.zero_add, Bb, len0, dec_em])
  (refine hk _ ?_ ?_ ?_ <;> simp only [↓go1, go4, reduceIte, Nat.reduceEqDiff, h1, h3, Bool.true_or, Bool.false_or, Bool.false_and]))
theorem seg162_8 {S : Summs} (s267 : S 267 = some (Ai Dc)) {a : Ak} (k100 : Dc [.int .i64 a.op, .int .u8 100] = some (.bool (Bz a.op 100))) {c0 : Nat} {s : Nat → D} {m : Mem} {K : Nat → (Nat → D) → Mem → Prop} {b : Bool} (h1 : s 1 = .ptr [0] 0) (h3 : s 3 = .int .i64 a.op) (hacc : s 72 = .bool b) (hm : m [0] 8 = some (.str a.da))
  (hk : ∀ s', s' 1 = .ptr [0] 0 → s' 3 = .int .i64 a.op → s' 81 = .bool (b && (Bz a.op 100 || decide (a.da = []))) → BW S [] c0 Am (Am.drop 75) 75 s' m K) : BW S [] c0 Am (Am.drop 66) 66 s m K := by
 have e : Am.drop 66 = ⟨some 73, .mv (.t 72), [], none⟩ :: ⟨some 74, .mv (.t 3), [], some (66, true)⟩ :: ⟨some 75, .call (.c (.fn 267 [])) [(.t 74), (.c (.int .u8 100))], [], some (66, true)⟩ :: ⟨some 76, .mv (.t 75), [], some (66, true)⟩ :: ⟨some 77, .faddr 8 (.t 1), [], some (69, false)⟩ :: ⟨some 78, .load none (.t 77), [], some (69, false)⟩ :: ⟨some 79, .bin .eql (.t 78) (.c (.str [])), [], some (69, false)⟩ :: ⟨some 80, .pick (.t 76) (.c (.bool true)) (.t 79), [], some (66, true)⟩ :: ⟨some 81, .pick (.t 73) (.t 80) (.c (.bool false)), [], none⟩ :: Am.drop 75 := rfl
 rw [e]
 have q66 : A7 Am 66 = some 73 := rfl
 have q69 : A7 Am 69 = some 76 := rfl
 generalize Am.drop 75 = r at hk ⊢
 generalize Am = ops at *
 generalize Bz a.op 100 = b100 at *
 cases b <;> cases b100 <;> (
  (simp only [↓go1, go2, go3, go4, reduceIte, Nat.reduceEqDiff, Nat.reduceAdd, h1, h3, hm, Aa s267, k100, hacc, q66, q69, Nat.zero_add])
  (refine hk _ ?_ ?_ ?_ <;> simp only [↓go1, go4, reduceIte, Nat.reduceEqDiff, h1, h3, Bool.true_or, Bool.false_or, Bool.false_and]))
theorem seg162_9 {S : Summs} (s267 : S 267 = some (Ai Dc)) {a : Ak} (k114 : Dc [.int .i64 a.op, .int .u8 114] = some (.bool (Bz a.op 114))) {c0 : Nat} {s : Nat → D} {m : Mem} {K : Nat → (Nat → D) → Mem → Prop} {b : Bool} (h1 : s 1 = .ptr [0] 0) (h3 : s 3 = .int .i64 a.op) (hacc : s 81 = .bool b) (hm : m [0] 9 = some (.slice a.nlr [] (Aj a.rs)))
  (hk : ∀ s', s' 1 = .ptr [0] 0 → s' 3 = .int .i64 a.op → s' 91 = .bool (b && (Bz a.op 114 || a.rs.isEmpty)) → BW S [] c0 Am (Am.drop 85) 85 s' m K) : BW S [] c0 Am (Am.drop 75) 75 s m K := by
 have e : Am.drop 75 = ⟨some 82, .mv (.t 81), [], none⟩ :: ⟨some 83, .mv (.t 3), [], some (75, true)⟩ :: ⟨some 84, .call (.c (.fn 267 [])) [(.t 83), (.c (.int .u8 114))], [], some (75, true)⟩ :: ⟨some 85, .mv (.t 84), [], some (75, true)⟩ :: ⟨some 86, .faddr 9 (.t 1), [], some (78, false)⟩ :: ⟨some 87, .load none (.t 86), [], some (78, false)⟩ :: ⟨some 88, .len false (.t 87), [], some (78, false)⟩ :: ⟨some 89, .bin .eql (.t 88) (.c (.int .i64 0)), [], some (78, false)⟩ :: ⟨some 90, .pick (.t 85) (.c (.bool true)) (.t 89), [], some (75, true)⟩ :: ⟨some 91, .pick (.t 82) (.t 90) (.c (.bool false)), [], none⟩ :: Am.drop 85 := rfl
 rw [e]
 have q75 : A7 Am 75 = some 82 := rfl
 have q78 : A7 Am 78 = some 85 := rfl
 generalize Am.drop 85 = r at hk ⊢
 generalize Am = ops at *
 generalize Bz a.op 114 = b114 at *
 cases b <;> cases b114 <;> (
  (simp only [↓go1, go2, go3, go4, reduceIte, Nat.reduceEqDiff, Nat.reduceAdd, h1, h3, hm, Aa s267, k114, hacc, q75, q78, Nat.zero_add, An, len0, dec_em])
  (refine hk _ ?_ ?_ ?_ <;> simp only [↓go1, go4, reduceIte, Nat.reduceEqDiff, h1, h3, Bool.true_or, Bool.false_or, Bool.false_and]))
theorem seg162_10 {S : Summs} (s267 : S 267 = some (Ai Dc)) {a : Ak} (k107 : Dc [.int .i64 a.op, .int .u8 107] = some (.bool (Bz a.op 107))) {c0 : Nat} {s : Nat → D} {m : Mem} {K : Nat → (Nat → D) → Mem → Prop} {b : Bool} (h1 : s 1 = .ptr [0] 0) (h3 : s 3 = .int .i64 a.op) (hacc : s 91 = .bool b) (hm : m [0] 10 = some (.str a.key))
  (hk : ∀ s', s' 1 = .ptr [0] 0 → s' 3 = .int .i64 a.op → s' 100 = .bool (b && (Bz a.op 107 || decide (a.key = []))) → BW S [] c0 Am (Am.drop 94) 94 s' m K) : BW S [] c0 Am (Am.drop 85) 85 s m K := by
 have e : Am.drop 85 = ⟨some 92, .mv (.t 91), [], none⟩ :: ⟨some 93, .mv (.t 3), [], some (85, true)⟩ :: ⟨some 94, .call (.c (.fn 267 [])) [(.t 93), (.c (.int .u8 107))], [], some (85, true)⟩ :: ⟨some 95, .mv (.t 94), [], some (85, true)⟩ :: ⟨some 96, .faddr 10 (.t 1), [], some (88, false)⟩ :: ⟨some 97, .load none (.t 96), [], some (88, false)⟩ :: ⟨some 98, .bin .eql (.t 97) (.c (.str [])), [], some (88, false)⟩ :: ⟨some 99, .pick (.t 95) (.c (.bool true)) (.t 98), [], some (85, true)⟩ :: ⟨some 100, .pick (.t 92) (.t 99) (.c (.bool false)), [], none⟩ :: Am.drop 94 := rfl
 rw [e]
 have q85 : A7 Am 85 = some 92 := rfl
 have q88 : A7 Am 88 = some 95 := rfl
 generalize Am.drop 94 = r at hk ⊢
 generalize Am = ops at *
 generalize Bz a.op 107 = b107 at *
 cases b <;> cases b107 <;> (
  (simp only [↓go1, go2, go3, go4, reduceIte, Nat.reduceEqDiff, Nat.reduceAdd, h1, h3, hm, Aa s267, k107, hacc, q85, q88, Nat.zero_add])
  (refine hk _ ?_ ?_ ?_ <;> simp only [↓go1, go4, reduceIte, Nat.reduceEqDiff, h1, h3, Bool.true_or, Bool.false_or, Bool.false_and]))
def bareR (a : Ak) : Bool := ((((((((((Bz a.op 116 || decide (a.tk = [])) && (Bz a.op 112 || decide (a.pa = []))) && (Bz a.op 109 || Bz a.op 113 || decide (a.ot = []))) && (Bz a.op 110 || decide (a.n = 0))) && (Bz a.op 99 || decide (a.cas = 0))) && (Bz a.op 102 || !a.fl)) && (Bz a.op 108 || a.ns.isEmpty)) && (Bz a.op 100 || decide (a.da = []))) && (Bz a.op 114 || a.rs.isEmpty)) && (Bz a.op 107 || decide (a.key = [])))
theorem dc162_eq : dc162 = (.seq (.row [⟨some 1, .box (.t 0), [], none⟩, ⟨some 2, .mv (.c (.bool false)), [], none⟩]) (.seq (.row [⟨some 4, .faddr 0 (.t 1), [], none⟩, ⟨some 5, .load none (.t 4), [], none⟩, ⟨some 6, .conv .i64 (.t 5), [], none⟩, ⟨some 3, .mv (.t 6), [], none⟩]) (.seq (.row Am) .ret))) := rfl
noncomputable def F162 : List D → Option D := FX (fun a : Ak => [akD a]) (fun a => AkOk a ∧ 1 ≤ a.op ∧ a.op ≤ 18) (fun a => .bool (bareR a))
theorem F162_eq {a : Ak} (h : AkOk a) (h1 : 1 ≤ a.op) (h2 : a.op ≤ 18) : F162 [akD a] = some (.bool (bareR a)) :=
 AP (mk := fun a : Ak => [akD a]) (fun x y e => by
  simp only [List.cons.injEq, and_true] at e
  exact BI e) ⟨h, h1, h2⟩
theorem ok162 : (Ai F162).ok Tryz.prog 162 := by
 obtain ⟨S, hS, hl⟩ := AJ (Ab ok267 Ae)
 have s267 := hl 267 _ rfl
 clear hl
 refine AL hS fn162 (fun _ => by simp) (fun a hp => ?_)
 obtain ⟨ha, h1, h2⟩ := hp
 have h : ∀ c ∈ lettersA, Dc [.int .i64 a.op, .int .u8 ((c : Nat) : Int)] = some (.bool (Bz a.op c)) := fun c hc => R267_eq ha.op0 (by omega) hc
 have hu := u8i64 ha.op0 ha.op
 have hm : ∀ k d, (akC a)[k]? = some d → (Mem.put (fun _ _ => none) [0] 0 (akC a)) [0] k = some d := fun k d hd => by
  have hk := (List.getElem?_eq_some_iff.1 hd).1
  rw [Ac, if_pos ⟨rfl, Nat.zero_le _, by omega⟩]; exact hd
 have hm0 := hm 0 _ rfl
 unfold akD
 rw [dc162_eq]
 simp only [↓go1, go2, go3, go4, reduceIte, Nat.reduceEqDiff, Nat.reduceAdd, hu, hm0, Ap, Nat.zero_add]
 refine seg162_1 s267 (h 116 (by decide)) rfl rfl (hm 1 _ rfl) (fun s1 x1 y1 z1 => ?_)
 refine seg162_2 s267 (h 112 (by decide)) x1 y1 z1 (hm 2 _ rfl) (fun s2 x2 y2 z2 => ?_)
 refine seg162_3 s267 (h 109 (by decide)) (h 113 (by decide)) x2 y2 z2 (hm 3 _ rfl) (fun s3 x3 y3 z3 => ?_)
 refine seg162_4 s267 (h 110 (by decide)) x3 y3 z3 (hm 4 _ rfl) (fun s4 x4 y4 z4 => ?_)
 refine seg162_5 s267 (h 99 (by decide)) x4 y4 z4 (hm 5 _ rfl) (fun s5 x5 y5 z5 => ?_)
 refine seg162_6 s267 (h 102 (by decide)) x5 y5 z5 (hm 6 _ rfl) (fun s6 x6 y6 z6 => ?_)
 refine seg162_7 s267 (h 108 (by decide)) x6 y6 z6 (hm 7 _ rfl) (fun s7 x7 y7 z7 => ?_)
 refine seg162_8 s267 (h 100 (by decide)) x7 y7 z7 (hm 8 _ rfl) (fun s8 x8 y8 z8 => ?_)
 refine seg162_9 s267 (h 114 (by decide)) x8 y8 z8 (hm 9 _ rfl) (fun s9 x9 y9 z9 => ?_)
 refine seg162_10 s267 (h 107 (by decide)) x9 y9 z9 (hm 10 _ rfl) (fun s10 x10 y10 z10 => ?_)
 have e : Am.drop 94 = [⟨some 2, .mv (.t 100), [], none⟩] := rfl
 rw [e]
 simp only [↓go1, go2, go3, reduceIte, Nat.reduceAdd, z10]
 all_goals (first | rfl | exact ⟨rfl, rfl⟩)
def D8 (a : Ak) : Bs → Int
 | [] => 0
 | c :: r => if Bg a (c.toNat : Int) ≠ 0 then Bg a (c.toNat : Int) else D8 a r
theorem chk_first (a : Ak) : ∀ (ls : Bs) (b : Ak), (Er a b ls).1 = D8 a ls
 | [], b => rfl
 | c :: r, b => by
  unfold Er D8
  split
  ·rfl
  ·exact chk_first a r _
theorem chk_fold (a : Ak) : ∀ (ls : Bs) (b : Ak), D8 a ls = 0 → (Er a b ls).2 = ls.foldl (fun b c => A_ b (c.toNat : Int)) b
 | [], b, _ => rfl
 | c :: r, b, h => by
  unfold D8 at h
  unfold Er
  split at h
  ·rename_i hc; exact absurd h hc
  ·rename_i hc
   rw [if_neg hc, chk_fold a r _ h]; rfl
theorem first_zero (a : Ak) : ∀ (ls : Bs), D8 a ls = 0 → ∀ c ∈ ls, Bg a (c.toNat : Int) = 0
 | [], _, c, hc => by cases hc
 | x :: r, h, c, hc => by
  unfold D8 at h
  split at h
  ·rename_i hx; exact absurd h hx
  ·rename_i hx
   rcases List.mem_cons.1 hc with rfl | hc
   ·exact Classical.byContradiction hx
   ·exact first_zero a r h c hc
theorem bare_law {a : Ak} (h1 : 1 ≤ a.op) (h2 : a.op ≤ 18) : zeroB ((Bv a.op).foldl (fun b c => A_ b (c.toNat : Int)) (CJ a)) = bareR a := by
 have hop : a.op = 1 ∨ a.op = 2 ∨ a.op = 3 ∨ a.op = 4 ∨ a.op = 5 ∨ a.op = 6 ∨ a.op = 7 ∨ a.op = 8 ∨ a.op = 9 ∨ a.op = 10 ∨ a.op = 11 ∨ a.op = 12 ∨ a.op = 13 ∨ a.op = 14 ∨ a.op = 15 ∨ a.op = 16 ∨ a.op = 17 ∨ a.op = 18 := by omega
 rcases hop with e | e | e | e | e | e | e | e | e | e | e | e | e | e | e | e | e | e
 all_goals
  unfold bareR
  rw [e]
  simp [Bv, DB, A_, zeroB, CJ, Bz, Bool.and_assoc, Bool.and_comm, Bool.and_left_comm]
theorem form_nil {op : Int} (h0 : 0 ≤ op) : Cz op = [] ↔ ¬ (1 ≤ op ∧ op ≤ 18) := by
 by_cases h : op ≤ 18
 ·have hop : op = 0 ∨ op = 1 ∨ op = 2 ∨ op = 3 ∨ op = 4 ∨ op = 5 ∨ op = 6 ∨ op = 7 ∨ op = 8 ∨ op = 9 ∨ op = 10 ∨ op = 11 ∨ op = 12 ∨ op = 13 ∨ op = 14 ∨ op = 15 ∨ op = 16 ∨ op = 17 ∨ op = 18 := by omega
  rcases hop with rfl | rfl | rfl | rfl | rfl | rfl | rfl | rfl | rfl | rfl | rfl | rfl | rfl | rfl | rfl | rfl | rfl | rfl | rfl <;> simp [Cz, DB]
 ·have hlen : DB.length = 19 := rfl
  have : DB[op.toNat]? = none := List.getElem?_eq_none (by omega)
  simp [Cz, List.getD, this]; omega
theorem loop71 {S : Summs} {a : Ak} (ha : AkOk a) (s161 : S 161 = some (Ai F161)) {ls : Bs} (hls : ls.length ≤ 20) {r : Int} {Q : Ex → St → Prop}
  (hret : ∀ st, r ≠ 0 → st.s 2 = .int .i64 r → Q .ret st) (hexit : ∀ st, r = 0 → st.s 1 = .ptr [0] 0 → Af st.m [0] 0 11 = some (akC a) → Q (.exit 0) st) :
  ∀ (f p : Nat) st g, ls.length = p + f → D8 a (ls.drop p) = r → st.s 1 = .ptr [0] 0 → st.s 3 = .str ls → st.s 4 = .int .i64 (p : Int) → Af st.m [0] 0 11 = some (akC a) → AV S [] dc71l0 Q st g := by
 intro f
 induction f with
 | zero =>
  intro p st g hf hr h1 h3 h4 hm
  refine Ad dc71l0.eq_1 ?_
  have hlt : ¬ ((p : Int) < (ls.length : Int)) := by omega
  simp only [↓go1, go2, go4, reduceIte, Nat.reduceEqDiff, Nat.reduceAdd, h3, h4, hlt]
  rw [List.drop_of_length_le (by omega)] at hr
  exact hexit _ hr.symm h1 hm
 | succ f ih =>
  intro p st g hf hr h1 h3 h4 hm
  refine Ad dc71l0.eq_1 ?_
  have hlt : ((p : Int) < (ls.length : Int)) := by omega
  have hp0 : (0 : Int) ≤ (p : Int) := by omega
  have hp : p < ls.length := by omega
  have hw : IntKind.i64.wrap ((p : Int) + 1) = ((p + 1 : Nat) : Int) := w64 (by omega) (by omega)
  have hat : ls[p]? = some ls[p] := List.getElem?_eq_getElem hp
  have h161 : F161 [.agg (akC a), .int .u8 (ls[p].toNat : Int)] = some (.int .i64 (Bg a (ls[p].toNat : Int))) := F161_eq ha
  have hdr : ls.drop p = ls[p] :: ls.drop (p + 1) := List.drop_eq_getElem_cons hp
  rw [hdr] at hr
  unfold D8 at hr
  generalize ls[p] = c at hat h161 hr
  obtain ⟨st_s, st_m, st_c⟩ := st
  simp only at h1 h3 h4 hm
  by_cases he : Bg a (c.toNat : Int) = 0
  ·rw [if_neg (fun h => h he)] at hr
   rw [he] at h161
   simp only [↓go1, go2, go3, go4, reduceIte, Nat.reduceEqDiff, Nat.reduceAdd, h1, h3, h4, hm, hlt, hp0, Int.toNat_natCast, hat, Aa s161, h161, AW, AX]
   refine AA.intro (Al ?_) ?_
   ·first | rfl | (simp [Bh, A1]; done)
   simp only [↓go1, go2, go4, reduceIte, Nat.reduceEqDiff, Nat.reduceAdd, h4, hw]
   exact ih (p + 1) _ _ (by omega) hr h1 h3 rfl hm
  ·rw [if_pos he] at hr
   simp only [↓go1, go2, go3, go4, reduceIte, Nat.reduceEqDiff, Nat.reduceAdd, h1, h3, h4, hm, hlt, hp0, Int.toNat_natCast, hat, Aa s161, h161, AW, AX]
   refine AA.intro (Al ?_) ?_
   ·first | rfl | (simp [Bh, A1]; done)
   simp only [↓go1, go2, go4, reduceIte, Nat.reduceEqDiff, Nat.reduceAdd, he]
   exact hret _ (by rw [← hr]; exact he) (by rw [← hr]; rfl)
theorem ok71 : (Ai F68).ok Tryz.prog 71 := by
 obtain ⟨S, hS, hl⟩ := AJ (Ab ok160 (Ab ok161' (Ab ok162 (Ab ok163 Ae))))
 have s160 := hl 160 _ rfl
 have s161 := hl 161 _ rfl
 have s162 := hl 162 _ rfl
 have s163 := hl 163 _ rfl
 clear hl
 refine AL hS fn71 (fun _ => by simp) (fun a ha => ?_)
 have hu := u8i64 ha.op0 ha.op
 have hm0 : ∀ m : Mem, m.put [0] 0 (akC a) [0] 0 = some (.int .u8 a.op) := fun m => by
  rw [Ac, if_pos ⟨rfl, Nat.le_refl _, by rw [Ax]; omega⟩]; rfl
 have hnil := form_nil ha.op0
 obtain ⟨f1, f2, f3⟩ := form_at a.op
 unfold B9 dc71 akD
 rw [chk_first]
 by_cases g1 : a.op < 1
 ·have hw : Cz a.op = [] := hnil.2 (by omega)
  simp only [↓go1, go2, go3, go4, reduceIte, Nat.reduceEqDiff, Nat.reduceAdd, hm0, g1, hw, Ap, ne_eq, Nat.zero_add, and_self]
  all_goals (first | rfl | exact ⟨rfl, rfl⟩)
 ·by_cases g2 : 18 < a.op
  ·have hw : Cz a.op = [] := hnil.2 (by omega)
   simp only [↓go1, go2, go3, go4, reduceIte, Nat.reduceEqDiff, Nat.reduceAdd, hm0, g1, g2, hw, Ap, ne_eq, Nat.zero_add, and_self]
   all_goals (first | rfl | exact ⟨rfl, rfl⟩)
  ·have hw : Cz a.op ≠ [] := fun h => hnil.1 h (by omega)
   have hw' : (Cz a.op = []) = False := eq_false hw
   have h160 := R160_eq ha.op0 (by omega : a.op < 19)
   simp only [↓go1, go2, go3, go4, reduceIte, Nat.reduceEqDiff, Nat.reduceAdd, hu, hm0, g1, g2, Aa s160, h160, Ap, ne_eq, Nat.zero_add]
   generalize hr : D8 a (Bv a.op) = r
   refine loop71 (r := r) ha s161 f2 (fun st h1 h2 => ?_) (fun st h1 h1' hm => ?_) (Bv a.op).length 0 _ _ (by omega) hr rfl rfl rfl (Av (Ax a))
   ·simp only [↓go1, go2, go3, go4, reduceIte, h1, h2]
    rw [if_neg hw]
   ·subst h1
    have hfz := first_zero a _ hr
    have hb : (Er a (CJ a) (Bv a.op)).2 = (Bv a.op).foldl (fun b c => A_ b (c.toNat : Int)) (CJ a) := chk_fold a _ _ hr
    have h162 : F162 [.agg (akC a)] = some (.bool (bareR a)) := F162_eq ha (by omega) (by omega)
    have h163 : F163 [.agg (akC a)] = some (.str (Dh a)) := F163_eq ha (by omega) fun c hc => layOk_of (hfz c hc)
    rw [hb, bare_law (by omega) (by omega)]
    cases hbr : bareR a with
    | false =>
     rw [hbr] at h162
     simp only [↓go1, go2, go3, go4, reduceIte, Nat.reduceEqDiff, Nat.reduceAdd, AW, AX, h1', hm, Aa s162, h162]
     rw [if_neg hw]
    | true =>
     rw [hbr] at h162
     by_cases hl : 400 < (Dh a).length
     ·have hl' : ((400 : Int) < ((Dh a).length : Int)) := by omega
      simp only [↓go1, go2, go3, go4, reduceIte, Nat.reduceEqDiff, Nat.reduceAdd, AW, AX, h1', hm, Aa s162, h162, Aa s163, h163, hl, hl']
      rw [if_neg hw]
     ·have hl' : ¬ ((400 : Int) < ((Dh a).length : Int)) := by omega
      simp only [↓go1, go2, go3, go4, reduceIte, Nat.reduceEqDiff, Nat.reduceAdd, AW, AX, h1', hm, Aa s162, h162, Aa s163, h163, hl, hl']
      rw [if_neg hw]
end Go.Vd
namespace Go.Vd
open Go.Proofs
def dc156 : DC := (sr [cb 2 false] (sr [mm 3 0, oo 4 (.bin .leq (.t 3) (.c (.int .u8 8))), mm 2 4] .ret))
theorem fn156 : Fn Tryz.prog 156 5 dc156 [.t 2] := Ao Tryz.func156
def dc157 : DC := (sr [oo 4 (.box (.t 0)), cb 8 false] (sr [ff 12 4 4, lk 13 1 12, mm 14 1, cc 15 35 [(.t 13), (.t 14)], mm 11 15, xx 16 0 11, xx 17 1 11, oo 9 (.alloc [(.str []), (.str []), (.slice true [] [])]), oz (.store 3 (.t 9) (.t 16)), mm 10 17] (sr [mm 18 10, mm 19 18, og 20 (.mv (.t 3)) 1 true, og 21 (.faddr 4 (.t 4)) 1 true, og 22 (.load (some 1) (.t 21)) 1 true, og 23 (.mv (.t 1)) 1 true, og 24 (.mv (.t 2)) 1 true, og 25 (.call (.c (.fn 36 [])) [(.t 22), (.t 23), (.t 24)]) 1 true, og 26 (.bin .andNot (.t 20) (.t 25)) 1 true, og 27 (.bin .eql (.t 26) (.c (.int .u8 0))) 1 true, oo 28 (.pick (.t 19) (.t 27) (.c (.bool false))), mm 8 28] .ret)))
theorem fn157 : Fn Tryz.prog 157 29 dc157 [.t 8] := Ao Tryz.func157
def dc69 : DC := (sr [oo 2 (.box (.t 0)), oo 3 (.box (.t 1)), cb 4 false] (sr [ff 6 2 3, ll 7 6, mm 5 7] (.seq (sr [ff 8 0 3, ll 9 8, cc 10 156 [(.t 9)]] (cd 10 (.row [oo 5 (.mv (.c (.str [115, 121, 115])))]) .skip)) (.seq (.drawn [lk 11 5 2, ff 12 1 3, ll 13 12, mm 14 5, ff 15 0 3, ll 16 15, cc 17 27 [(.t 16)], cc 18 157 [(.t 11), (.t 13), (.t 14), (.t 17)], mm 19 18, og 20 (.faddr 0 (.t 3)) 8 true, og 21 (.load none (.t 20)) 8 true, og 22 (.bin .neq (.t 21) (.c (.int .u8 18))) 8 true, og 23 (.mv (.t 22)) 8 true, og 24 (.load (some 5) (.t 2)) 12 false, og 25 (.faddr 1 (.t 3)) 12 false, og 26 (.load none (.t 25)) 12 false, og 27 (.faddr 3 (.t 3)) 12 false, og 28 (.load none (.t 27)) 12 false, og 29 (.call (.c (.fn 157 [])) [(.t 24), (.t 26), (.t 28), (.c (.int .u8 2))]) 12 false, og 30 (.pick (.t 23) (.c (.bool true)) (.t 29)) 8 true, oo 31 (.pick (.t 19) (.t 30) (.c (.bool false))), mm 4 31] [(6, 0), (6, 2)]) .ret))))
theorem fn69 : Fn Tryz.prog 69 32 dc69 [.t 4] := Ao Tryz.func69
def dc70 : DC := (sr [oo 2 (.box (.t 0)), oo 3 (.box (.t 1)), cb 4 false] (.seq (sr [ff 8 0 3, ll 9 8, cc 10 156 [(.t 9)]] (cd 10 (sr [cb 4 true] .ret) .skip)) (sr [ff 12 3 2, lk 13 1 12, ff 14 2 3, ll 15 14, cc 16 158 [(.t 13), (.t 15)], mm 11 16, xx 17 0 11, xx 18 1 11, oo 5 (.alloc [(.str []), (.int .i64 0), (.bool false)]), oz (.store 3 (.t 5) (.t 17)), mm 6 18] (sr [ff 19 0 3, ll 20 19, oo 21 (.bin .eql (.t 20) (.c (.int .u8 17))), mm 22 21, og 23 (.mv (.t 6)) 3 true, og 24 (.bin .eql (.t 23) (.c (.int .i64 0))) 3 true, oo 25 (.pick (.t 22) (.t 24) (.c (.bool false))), mm 7 25] (sr [mm 26 7, mm 27 26, og 28 (.load (some 5) (.t 2)) 1 false, og 29 (.faddr 2 (.t 3)) 1 false, og 30 (.load none (.t 29)) 1 false, og 31 (.call (.c (.fn 159 [])) [(.t 28), (.t 30)]) 1 false, oo 32 (.pick (.t 27) (.c (.bool true)) (.t 31)), mm 33 32, og 34 (.faddr 0 (.t 3)) 7 true, og 35 (.load none (.t 34)) 7 true, og 36 (.bin .neq (.t 35) (.c (.int .u8 18))) 7 true, og 37 (.mv (.t 36)) 7 true, og 38 (.load (some 5) (.t 2)) 11 false, og 39 (.faddr 3 (.t 3)) 11 false, og 40 (.load none (.t 39)) 11 false, og 41 (.call (.c (.fn 159 [])) [(.t 38), (.t 40)]) 11 false, og 42 (.pick (.t 37) (.c (.bool true)) (.t 41)) 7 true, oo 43 (.pick (.t 33) (.t 42) (.c (.bool false))), mm 4 43] .ret)))))
theorem fn70 : Fn Tryz.prog 70 44 dc70 [.t 4] := Ao Tryz.func70
def dc25 : DC := (sr [oo 2 (.box (.t 0)), oo 3 (.box (.t 1)), ci 4 0] (.seq (sr [lk 6 11 3, cc 7 68 [(.t 6)], mm 5 7] (sr [mm 8 5, bi 9 .neq 8 0] (cd 9 (sr [mm 10 5, mm 4 10] .ret) .skip))) (.seq (.block 0 (sr [ff 12 0 3, ll 13 12, oo 14 (.bin .eql (.t 13) (.c (.int .u8 1))), mm 11 14] (cd 11 (sr [ci 4 0] .ret) (sr [ff 16 0 3, ll 17 16, oo 18 (.bin .eql (.t 17) (.c (.int .u8 2))), mm 19 18, og 20 (.faddr 0 (.t 2)) 3 true, og 21 (.load none (.t 20)) 3 true, og 22 (.un .not (.t 21)) 3 true, oo 23 (.pick (.t 19) (.t 22) (.c (.bool false))), mm 15 23] (cd 15 (sr [ci 4 9] .ret) (sr [ff 25 0 3, ll 26 25, oo 27 (.bin .eql (.t 26) (.c (.int .u8 2))), mm 28 27, og 29 (.faddr 10 (.t 3)) 3 true, og 30 (.load none (.t 29)) 3 true, og 31 (.faddr 2 (.t 2)) 3 true, og 32 (.load none (.t 31)) 3 true, og 33 (.bin .neq (.t 30) (.t 32)) 3 true, oo 34 (.pick (.t 28) (.t 33) (.c (.bool false))), mm 24 34] (cd 24 (sr [ci 4 11] .ret) (sr [ff 36 0 3, ll 37 36, oo 38 (.bin .eql (.t 37) (.c (.int .u8 2))), mm 35 38] (cd 35 (sr [ci 4 0] .ret) (sr [ff 40 0 2, ll 41 40, mm 39 41] (cd 39 (sr [ci 4 12] .ret) (sr [lk 43 5 2, lk 44 11 3, cc 45 69 [(.t 43), (.t 44)], oo 46 (.un .not (.t 45)), mm 42 46] (cd 42 (sr [ci 4 13] .ret) (sr [lk 48 5 2, lk 49 11 3, cc 50 70 [(.t 48), (.t 49)], oo 51 (.un .not (.t 50)), mm 47 51] (cd 47 (sr [ci 4 14] .ret) .skip))))))))))))))) (sr [ci 4 0] .ret))))
theorem fn25 : Fn Tryz.prog 25 52 dc25 [.t 4] := Ao Tryz.func25
def dc72 : DC := (sr [oo 4 (.box (.t 0)), cb 8 false] (sr [ff 10 4 4, ll 11 10, mm 12 1, cc 13 117 [(.t 11), (.t 12)], mm 9 13] (sr [mm 14 9, bi 15 .geq 14 0, mm 16 15, og 17 (.faddr 4 (.t 4)) 2 true, og 18 (.load none (.t 17)) 2 true, og 19 (.mv (.t 9)) 2 true, og 20 (.iaddr 3 (.t 18) (.t 19)) 2 true, og 21 (.faddr 2 (.t 20)) 2 true, og 22 (.load none (.t 21)) 2 true, og 23 (.mv (.t 2)) 2 true, og 24 (.mv (.t 3)) 2 true, og 25 (.call (.c (.fn 164 [])) [(.t 22), (.t 23), (.t 24)]) 2 true, oo 26 (.pick (.t 16) (.t 25) (.c (.bool false))), mm 8 26] .ret)))
theorem fn72 : Fn Tryz.prog 72 27 dc72 [.t 8] := Ao Tryz.func72
def dc26 : DC := (sr [oo 2 (.box (.t 0)), oo 3 (.box (.t 1)), ci 4 0] (sr [lk 8 11 3, cc 9 71 [(.t 8)], mm 5 9] (sr [ff 10 0 3, ll 11 10, oo 12 (.conv .i64 (.t 11)), mm 6 12] (.seq (sr [mm 13 5, bi 14 .neq 13 0, mm 15 14, og 16 (.mv (.t 6)) 2 false, og 17 (.bin .eql (.t 16) (.c (.int .i64 1))) 2 false, oo 18 (.pick (.t 15) (.c (.bool true)) (.t 17))] (cd 18 (sr [mm 19 5, mm 4 19] .ret) .skip)) (.seq (sr [mm 20 6, bi 21 .eql 20 2] (cd 21 (.seq (sr [ff 22 0 2, ll 23 22, oo 24 (.un .not (.t 23))] (cd 24 (sr [ci 4 9] .ret) .skip)) (.seq (sr [ff 25 10 3, ll 26 25, ff 27 2 2, ll 28 27, bt 29 .neq 26 28] (cd 29 (sr [ci 4 11] .ret) .skip)) (sr [ci 4 0] .ret))) .skip)) (.seq (sr [ff 30 0 2, ll 31 30] (cd 31 (sr [ci 4 12] .ret) .skip)) (sr [ff 32 2 3, ll 33 32, mm 7 33] (.seq (sr [mm 34 6, bi 35 .leq 34 8] (cd 35 (.row [oo 7 (.mv (.c (.str [115, 121, 115])))]) .skip)) (.seq (.seq (.drawn [lk 36 5 2, ff 37 1 3, ll 38 37, mm 39 7, mm 40 6, cc 41 28 [(.t 40)], cc 42 72 [(.t 36), (.t 38), (.t 39), (.t 41)], oo 43 (.un .not (.t 42)), mm 44 43, og 45 (.mv (.t 6)) 8 false, og 46 (.bin .eql (.t 45) (.c (.int .i64 18))) 8 false, og 47 (.mv (.t 46)) 8 false, og 48 (.load (some 5) (.t 2)) 11 true, og 49 (.faddr 1 (.t 3)) 11 true, og 50 (.load none (.t 49)) 11 true, og 51 (.faddr 3 (.t 3)) 11 true, og 52 (.load none (.t 51)) 11 true, og 53 (.call (.c (.fn 72 [])) [(.t 48), (.t 50), (.t 52), (.c (.int .u8 2))]) 11 true, og 54 (.un .not (.t 53)) 11 true, og 55 (.pick (.t 47) (.t 54) (.c (.bool false))) 8 false, oo 56 (.pick (.t 44) (.c (.bool true)) (.t 55))] [(5, 0), (5, 2)]) (cd 56 (sr [ci 4 13] .ret) .skip)) (.seq (sr [mm 57 6, bi 58 .leq 57 8] (cd 58 (sr [ci 4 0] .ret) .skip)) (.seq (sr [ff 59 3 2, ll 60 59, ff 61 2 3, ll 62 61, cc 63 73 [(.t 60), (.t 62)], bi 64 .lss 63 0, mm 65 64, og 66 (.mv (.t 6)) 6 true, og 67 (.bin .neq (.t 66) (.c (.int .i64 17))) 6 true, og 68 (.mv (.t 67)) 6 true, og 69 (.faddr 3 (.t 2)) 9 false, og 70 (.load none (.t 69)) 9 false, og 71 (.faddr 2 (.t 3)) 9 false, og 72 (.load none (.t 71)) 9 false, og 73 (.call (.c (.fn 74 [])) [(.t 70), (.t 72)]) 9 false, og 74 (.bin .lss (.t 73) (.c (.int .i64 0))) 9 false, og 75 (.pick (.t 68) (.c (.bool true)) (.t 74)) 6 true, oo 76 (.pick (.t 65) (.t 75) (.c (.bool false)))] (cd 76 (sr [ci 4 14] .ret) .skip)) (.seq (sr [mm 77 6, bi 78 .eql 77 18, mm 79 78, og 80 (.faddr 3 (.t 2)) 2 true, og 81 (.load none (.t 80)) 2 true, og 82 (.faddr 3 (.t 3)) 2 true, og 83 (.load none (.t 82)) 2 true, og 84 (.call (.c (.fn 73 [])) [(.t 81), (.t 83)]) 2 true, og 85 (.bin .lss (.t 84) (.c (.int .i64 0))) 2 true, oo 86 (.pick (.t 79) (.t 85) (.c (.bool false)))] (cd 86 (sr [ci 4 14] .ret) .skip)) (sr [ci 4 0] .ret)))))))))))))
theorem fn26 : Fn Tryz.prog 26 87 dc26 [.t 4] := Ao Tryz.func26
def dc23 : DC := (sr [oo 2 (.alloc [(.bool false), (.int .i64 0), (.str []), (.slice true [] []), (.slice true [] [])])] (sr [mm 3 0, cc 4 48 [], oo 5 (.build [(.bool false), (.int .i64 0), (.str []), (.slice true [] []), (.slice true [] [])] [(1, 1, (.c (.int .i64 1))), (2, 1, (.t 3)), (4, 1, (.t 4))]), oz (.store 5 (.t 2) (.t 5))] .ret))
theorem fn23 : Fn Tryz.prog 23 6 dc23 [.cell (some 5) 2] := Ao Tryz.func23
def dc24 : DC := (sr [oo 2 (.alloc [(.bool false), (.int .i64 0), (.str []), (.slice true [] []), (.slice true [] [])])] (sr [mm 3 0, cc 4 49 [], oo 5 (.build [(.bool false), (.int .i64 0), (.str []), (.slice true [] []), (.slice true [] [])] [(0, 1, (.c (.bool false))), (1, 1, (.c (.int .i64 1))), (2, 1, (.t 3)), (3, 1, (.c (.slice true [] []))), (4, 1, (.t 4))]), oz (.store 5 (.t 2) (.t 5))] .ret))
theorem fn24 : Fn Tryz.prog 24 6 dc24 [.cell (some 5) 2] := Ao Tryz.func24
end Go.Vd
namespace Go.Vd
open Go.Proofs Go.RowKit
structure Vw where
 se : Bool
 te : Int
 key : Bs
 nlm : Bool
 ms : List Mt
 nlt : Bool
 ks : List Tk
def vwC (v : Vw) : List D := [.bool v.se, .int .i64 v.te, .str v.key, .slice v.nlm [] (Ar v.ms), .slice v.nlt [] (AC v.ks)]
def vwD (v : Vw) : D := .agg (vwC v)
theorem DH {a b : Vw} (h : vwD a = vwD b) : a = b := by
 cases a; cases b
 simp only [vwD, vwC, D.agg.injEq, List.cons.injEq, D.int.injEq, D.str.injEq, D.bool.injEq, D.slice.injEq, true_and, and_true] at h
 obtain ⟨h1, h2, h3, ⟨h4, h5⟩, h6, h7⟩ := h
 have e5 := mtsD_inj h5
 have e7 := tksD_inj h7
 subst h1 h2 h3 h4 h6 e5 e7
 rfl
theorem Bn (v : Vw) : (vwC v).map D.un1 = vwC v := rfl
theorem Bj (v : Vw) : (vwC v).all D.calm1 = true := rfl
theorem Aw (v : Vw) : D.cells (.agg (vwC v)) = vwC v := rfl
theorem AM (v : Vw) : (vwC v).length = 5 := rfl
structure VwOk (v : Vw) : Prop where
 ml : v.ms.length ≤ 1000
 mp : ∀ m ∈ v.ms, m.1.length ≤ 1000
 kl : v.ks.length ≤ 1000
 kp : ∀ k ∈ v.ks, tkOk k ∧ DN k.2.2.2
theorem tkAt_mem {l : List Tk} {j : Nat} (h : j < l.length) : AO l j ∈ l := by simp [AO, List.getElem?_eq_getElem h]
theorem VwOk.set {v : Vw} (h : VwOk v) : Df (AC v.ks) := CX (by have := h.kl; omega)
def Db (ks : List Tk) (n p : Bs) (c : Int) : Bool := A9 ks n && hasB (BQ (AO ks (bsE ks n)).2.2.2 p).toNat c.toNat
def Cv (ks : List Tk) (n p : Bs) (c : Int) : Bool := decide (0 ≤ B8 ks n) && EJ (AO ks (B8 ks n).toNat).2.2.2 p c
open Classical in
theorem F35_eq {nl : Bool} {l : List Tk} {s : Bs} (hl : l.length ≤ 1000000) (hk : ∀ k ∈ l, tkOk k) : F35 [.agg [.slice nl [] (AC l)], .str s] = some (.tup (if A9 l s = true then [tkD (AO l (bsE l s)), .bool true] else [.agg [.str [], .str [], .slice true [] []], .bool false])) := by
 have h : Df (AC l) ∧ ∀ k ∈ BD (AC l), tkOk k := ⟨CX hl, by rw [A5]; exact hk⟩
 show (if _ then _ else _) = _
 rw [if_pos h, A5]
open Classical in
theorem F36_eq {nl : Bool} {l : List Tk} {s p : Bs} (hl : l.length ≤ 1000000) (hk : ∀ k ∈ l, k.2.2.2.length ≤ 1000000) : F36 [.agg [.slice nl [] (AC l)], .str s, .str p] = some (.int .u8 (if A9 l s = true then BQ (AO l (bsE l s)).2.2.2 p else 0)) := by
 have h : Df (AC l) ∧ ∀ k ∈ BD (AC l), k.2.2.2.length ≤ 1000000 := ⟨CX hl, by rw [A5]; exact hk⟩
 show (if _ then _ else _) = _
 rw [if_pos h, A5]
theorem caps_bd {l : List Rl} (h : Da l) (s : Bs) : 0 ≤ BQ l s ∧ BQ l s < 256 := by
 unfold BQ
 split
 ·omega
 ·generalize (Dx s (l.map (·.1))).toNat = j
  by_cases hj : j < l.length
  ·have : Bf l j = l[j] := by simp [Bf, List.getElem?_eq_getElem hj]
   rw [this]; exact h _ (List.getElem_mem hj)
  ·have : Bf l j = ([], 0) := by simp [Bf, List.getD, List.getElem?_eq_none (Nat.le_of_not_lt hj)]
   rw [this]; decide
def mkAl (p : Vw × Bs × Bs × Int) : List D := [vwD p.1, .str p.2.1, .str p.2.2.1, .int .u8 p.2.2.2]
theorem mkAl_inj (x y : Vw × Bs × Bs × Int) (e : mkAl x = mkAl y) : x = y := by
 simp only [mkAl, List.cons.injEq, D.int.injEq, D.str.injEq, true_and, and_true] at e
 exact Prod.ext (DH e.1) (Prod.ext e.2.1 (Prod.ext e.2.2.1 e.2.2.2))
noncomputable def F157 : List D → Option D := FX mkAl (fun p => VwOk p.1 ∧ 0 ≤ p.2.2.2 ∧ p.2.2.2 < 256) (fun p => .bool (Db p.1.ks p.2.1 p.2.2.1 p.2.2.2))
theorem F157_eq {v : Vw} {n p : Bs} {c : Int} (h : VwOk v) (h1 : 0 ≤ c ∧ c < 256) : F157 [vwD v, .str n, .str p, .int .u8 c] = some (.bool (Db v.ks n p c)) := AP (mk := mkAl) (a := (v, n, p, c)) mkAl_inj ⟨h, h1⟩
theorem ok157 : (Ai F157).ok Tryz.prog 157 := by
 obtain ⟨S, hS, hl⟩ := AJ (Ab ok35 (Ab ok36 Ae))
 have s35 := hl 35 _ rfl
 have s36 := hl 36 _ rfl
 clear hl
 refine AL hS fn157 (fun _ => by simp [mkAl]) (fun p hp => ?_)
 obtain ⟨v, n, q, c⟩ := p
 obtain ⟨hv, hc⟩ := hp
 simp only at hv hc
 have hkl := hv.kl
 have h35 := F35_eq (nl := v.nlt) (l := v.ks) (s := n) (by omega) (fun k hk => (hv.kp k hk).1)
 have h36 := F36_eq (nl := v.nlt) (l := v.ks) (s := n) (p := q) (by omega) (fun k hk => (hv.kp k hk).2.1)
 unfold dc157 mkAl vwD vwC Db
 simp only
 cases hf : A9 v.ks n with
 | false =>
  rw [hf] at h35
  simp only [Bool.false_eq_true, if_false] at h35
  simp only [↓go1, gB0, reduceIte, Nat.reduceEqDiff, Nat.reduceAdd, Aa s35, h35, Bool.false_and, Ac, Ag, Ah, Nat.reduceLT, Option.bind_some, Option.isSome_some, List.cons.injEq, Nat.succ_ne_zero]
  all_goals (first | rfl | exact ⟨rfl, rfl⟩)
 | true =>
  rw [hf] at h35 h36
  simp only [if_true] at h35 h36
  have hb : bsE v.ks n < v.ks.length := by
   unfold A9 at hf
   rw [Bool.and_eq_true, decide_eq_true_iff] at hf
   exact hf.1
  have hcap := (hv.kp _ (tkAt_mem hb)).2.2.2
  generalize AO v.ks (bsE v.ks n) = k at h35 h36 hcap
  have hbd := caps_bd hcap q
  generalize BQ k.2.2.2 q = cp at h36 hbd
  have hbit := andNot_nat (a := cp.toNat) (c := c.toNat) (by omega) (by omega)
  rw [Int.toNat_of_nonneg hc.1, Int.toNat_of_nonneg hbd.1] at hbit
  have hz : (((Nat.land c.toNat (255 - cp.toNat) : Nat) : Int) = 0) = (hasB cp.toNat c.toNat = true) := by
   unfold hasB
   rw [Nat.beq_eq]
   exact propext ⟨fun h => by omega, fun h => by omega⟩
  simp only [tkD] at h35
  simp only [↓go1, gB0, reduceIte, Nat.reduceEqDiff, Nat.reduceAdd, Aa s35, h35, Aa s36, h36, v_andNot, hbit, hz, dec_em, reduceCtorEq, Ac, Ag, Ah, Nat.reduceLT, Option.bind_some, Option.isSome_some, List.cons.injEq, and_false, Nat.succ_ne_zero]
  all_goals (first | rfl | exact ⟨rfl, rfl⟩)
noncomputable def F72 : List D → Option D := FX mkAl (fun p => VwOk p.1 ∧ 0 ≤ p.2.2.2 ∧ p.2.2.2 < 256 ∧ p.2.2.1.length ≤ 1000000) (fun p => .bool (Cv p.1.ks p.2.1 p.2.2.1 p.2.2.2))
theorem F72_eq {v : Vw} {n p : Bs} {c : Int} (h : VwOk v) (h1 : 0 ≤ c ∧ c < 256) (h2 : p.length ≤ 1000000) : F72 [vwD v, .str n, .str p, .int .u8 c] = some (.bool (Cv v.ks n p c)) := AP (mk := mkAl) (a := (v, n, p, c)) mkAl_inj ⟨h, h1.1, h1.2, h2⟩
theorem ok72 : (Ai F72).ok Tryz.prog 72 := by
 obtain ⟨S, hS, hl⟩ := AJ (Ab ok117 (Ab ok164 Ae))
 have s117 := hl 117 _ rfl
 have s164 := hl 164 _ rfl
 clear hl
 refine AL hS fn72 (fun _ => by simp [mkAl]) (fun p hp => ?_)
 obtain ⟨v, n, q, c⟩ := p
 obtain ⟨hv, hc0, hc1, hq⟩ := hp
 simp only at hv hc0 hc1 hq
 have hkl := hv.kl
 have h117 := F117_eq (nl := v.nlt) (t := []) (l := v.ks) (p := n) (by omega)
 have hlt := findT_lt v.ks n
 unfold dc72 mkAl vwD vwC Cv
 simp only
 generalize B8 v.ks n = i at h117 hlt
 by_cases hi : 0 ≤ i
 ·have hi2 : i.toNat < v.ks.length := by omega
  have hat := CC (l := v.ks) (j := i.toNat) hi2
  have hpo := (hv.kp _ (tkAt_mem hi2)).2
  generalize AO v.ks i.toNat = k at hat hpo
  obtain ⟨n2, p2, nl2, rs2⟩ := k
  simp only at hpo
  replace hat : (AC v.ks)[i.toNat]? = some (.agg [.str n2, .str p2, .slice nl2 [] (Aj rs2)]) := hat
  have h164 := F215_eq (nl := nl2) (t := []) (l := rs2) (s := q) (k := c) hpo.1 hpo.2.2 hpo.2.1 hq hc0 hc1
  simp only [↓go1, gB0, reduceIte, Nat.reduceEqDiff, Nat.reduceAdd, Aa s117, h117, Aa s164, h164, hi, hat, Ac, Nat.reduceLT, Nat.reduceLeDiff, List.drop_zero, List.drop_succ_cons, List.head?_cons]
  all_goals (first | rfl | exact ⟨rfl, rfl⟩)
 ·simp only [↓go1, gB0, reduceIte, Nat.reduceEqDiff, Nat.reduceAdd, Aa s117, h117, hi, Bool.false_and, Bool.false_and, Ac, Nat.reduceLT]
  all_goals (first | rfl | exact ⟨rfl, rfl⟩)
def sysB : Bs := [115, 121, 115]
def atA (a : Ak) : Bs := if a.op ≤ 8 then sysB else a.pa
def permA (v : Vw) (a : Ak) : Bool := Db v.ks a.tk (atA a) (Cn a.op) && (decide (a.op ≠ 18) || Db v.ks a.tk a.ot 2)
def ED (p : Vw × Ak) : List D := [vwD p.1, akD p.2]
theorem mkVa_inj (x y : Vw × Ak) (e : ED x = ED y) : x = y := by
 simp only [ED, List.cons.injEq, and_true] at e
 exact Prod.ext (DH e.1) (BI e.2)
theorem capsF_bd (op : Int) : 0 ≤ Cn op ∧ Cn op < 256 := by
 unfold Cn
 repeat' split
 all_goals omega
def F156 : List D → Option D
 | [.int .u8 op] => some (.bool (decide (op ≤ 8)))
 | _ => none
theorem ok156 : (Ai F156).ok Tryz.prog 156 := by
 refine As (S := fun _ => none) Au fn156 (fun ds r h => ?_) (fun ds r h => ?_)
 ·unfold F156 at h; split at h
  ·simp
  ·cases h
 ·unfold F156 at h; split at h
  ·simp only [Option.some.injEq] at h
   subst h
   unfold dc156
   simp only [↓go1, go2, go3, go4, reduceIte, Nat.reduceEqDiff, Nat.reduceAdd]
   all_goals (first | rfl | exact ⟨rfl, rfl⟩)
  ·cases h
noncomputable def F69 : List D → Option D := FX ED (fun p => VwOk p.1) (fun p => .bool (permA p.1 p.2))
theorem F69_eq {v : Vw} {a : Ak} (h : VwOk v) : F69 [vwD v, akD a] = some (.bool (permA v a)) := AP (mk := ED) (a := (v, a)) mkVa_inj h
theorem ok69 : (Ai F69).ok Tryz.prog 69 := by
 obtain ⟨S, hS, hl⟩ := AJ (Ab ok156 (Ab ok27 (Ab ok157 Ae)))
 have s156 := hl 156 _ rfl
 have s27 := hl 27 _ rfl
 have s157 := hl 157 _ rfl
 clear hl
 refine AL hS fn69 (fun _ => by simp [ED]) (fun p hv => ?_)
 obtain ⟨v, a⟩ := p
 simp only at hv
 have h156 : F156 [.int .u8 a.op] = some (.bool (decide (a.op ≤ 8))) := rfl
 have h27 : F27 [.int .u8 a.op] = some (.int .u8 (Cn a.op)) := rfl
 have h157 : ∀ q, F157 [.agg (vwC v), .str a.tk, .str q, .int .u8 (Cn a.op)] = some (.bool (Db v.ks a.tk q (Cn a.op))) := fun q => F157_eq hv (capsF_bd _)
 have h157' : F157 [.agg (vwC v), .str a.tk, .str a.ot, .int .u8 2] = some (.bool (Db v.ks a.tk a.ot 2)) := F157_eq hv (by omega)
 have hv0 : ∀ m : Mem, Af (m.put [1] 0 (akC a)) [0] 0 5 = Af m [0] 0 5 := fun m => AD (by decide)
 have hv1 : Af (Mem.put (fun _ _ => none) [0] 0 (vwC v)) [0] 0 5 = some (vwC v) := Av (AM v)
 have hm : ∀ m : Mem, ∀ k d, (akC a)[k]? = some d → (m.put [1] 0 (akC a)) [1] k = some d := fun m k d hd => by
  have hk := (List.getElem?_eq_some_iff.1 hd).1
  rw [Ac, if_pos ⟨rfl, Nat.zero_le _, by omega⟩]; exact hd
 have m0 := fun m => hm m 0 _ rfl
 have m1 := fun m => hm m 1 _ rfl
 have m2 := fun m => hm m 2 _ rfl
 have m3 := fun m => hm m 3 _ rfl
 unfold dc69 ED vwD akD permA atA
 simp only
 by_cases h8 : a.op ≤ 8
 ·have h18 : ¬ a.op = 18 := by omega
  rw [decide_eq_true h8] at h156
  have hh := h157 sysB
  simp only [h8, if_true]
  generalize Db v.ks a.tk sysB (Cn a.op) = b at hh
  unfold sysB at hh
  cases b <;> simp only [↓go1, go2, go3, go4, reduceIte, Nat.reduceEqDiff, Nat.reduceAdd, m0, m1, m2, hv0, hv1, Bn, Bj, Aw, Ap, Nat.zero_add, ne_eq, h18, Aa s156, h156, Aa s27, h27, Aa s157, hh] <;> refine AA.intro (Al rfl) ?_ <;> simp only [↓go1, go2, go3, go4, reduceIte, Nat.reduceEqDiff, Bool.true_or, h18]
  all_goals (first | rfl | exact ⟨rfl, rfl⟩)
 ·rw [decide_eq_false h8] at h156
  have hh := h157 a.pa
  simp only [h8, if_false]
  generalize Db v.ks a.tk a.pa (Cn a.op) = b at hh
  generalize Db v.ks a.tk a.ot 2 = b2 at h157'
  by_cases h18 : a.op = 18
  ·have h18' : (a.op = 18) = True := eq_true h18
   clear h18
   cases b <;> cases b2 <;> simp only [↓go1, go2, go3, go4, reduceIte, Nat.reduceEqDiff, Nat.reduceAdd, m0, m1, m2, m3, hv0, hv1, Bn, Bj, Aw, Ap, Nat.zero_add, ne_eq, Aa s156, h156, Aa s27, h27, Aa s157, hh, h157', h18'] <;> refine AA.intro (Al rfl) ?_ <;> simp only [↓go1, go2, go3, go4, reduceIte, Nat.reduceEqDiff, Bool.false_or, Bool.and_false, h18']
   all_goals (first | rfl | exact ⟨rfl, rfl⟩)
  ·cases b <;> simp only [↓go1, go2, go3, go4, reduceIte, Nat.reduceEqDiff, Nat.reduceAdd, m0, m1, m2, hv0, hv1, Bn, Bj, Aw, Ap, Nat.zero_add, ne_eq, h18, Aa s156, h156, Aa s27, h27, Aa s157, hh] <;> refine AA.intro (Al rfl) ?_ <;> simp only [↓go1, go2, go3, go4, reduceIte, Nat.reduceEqDiff, Bool.true_or, h18]
   all_goals (first | rfl | exact ⟨rfl, rfl⟩)
theorem BR (a : Ak) : (akC a)[0]? = some (.int .u8 a.op) := rfl
theorem ak_g1 (a : Ak) : (akC a)[1]? = some (.str a.tk) := rfl
theorem B2 (a : Ak) : (akC a)[2]? = some (.str a.pa) := rfl
theorem D0 (a : Ak) : (akC a)[3]? = some (.str a.ot) := rfl
theorem ak_g10 (a : Ak) : (akC a)[10]? = some (.str a.key) := rfl
theorem BN (v : Vw) : (vwC v)[0]? = some (.bool v.se) := rfl
theorem vw_g1 (v : Vw) : (vwC v)[1]? = some (.int .i64 v.te) := rfl
theorem B_ (v : Vw) : (vwC v)[2]? = some (.str v.key) := rfl
theorem DG (v : Vw) : (vwC v)[3]? = some (.slice v.nlm [] (Ar v.ms)) := rfl
theorem rdC0 {m : Mem} {v : Vw} {a : Ak} : Af ((m.put [0] 0 (vwC v)).put [1] 0 (akC a)) [0] 0 5 = some (vwC v) := by
 rw [AD (by decide), Av (AM v)]
theorem C6 {m : Mem} {a : Ak} : Af (m.put [1] 0 (akC a)) [1] 0 11 = some (akC a) := Av (Ax a)
theorem rdP0 {m : Mem} {x : List D} {n : Nat} : Af (m.put [14] 0 x) [0] 0 n = Af m [0] 0 n := AD (by decide)
open Classical in
theorem F158_eq {nl : Bool} {l : List Mt} {p : Bs} (hl : l.length ≤ 1000000) : F158 [.agg [.slice nl [] (Ar l)], .str p] = some (.tup (if Cg l p < 0 then [mtD ([], 0, false), .int .i64 14] else [mtD (AQ l (Cg l p).toNat), .int .i64 0])) := by
 have h : Ar l = Ar (Bw (Ar l)) ∧ (Ar l).length ≤ 1000000 := by rw [AY, Aq]; exact ⟨rfl, hl⟩
 show (if _ then _ else _) = _
 rw [if_pos h, AY]
open Classical in
theorem F159_eq {v : Vw} {p : Bs} (hl : v.ms.length ≤ 1000000) : F159 [vwD v, .str p] = some (.bool (decide (BC v.ms p ≠ -1))) := by
 have h : Ar v.ms = Ar (Bw (Ar v.ms)) ∧ (Ar v.ms).length ≤ 1000000 := by rw [AY, Aq]; exact ⟨rfl, hl⟩
 show (if _ then _ else _) = _
 rw [if_pos h, AY]
def D5 (v : Vw) (a : Ak) : Bool := decide (a.op ≤ 8) || (((decide (a.op = 17) && decide (0 ≤ Cg v.ms a.pa)) || decide (BC v.ms a.pa ≠ -1)) && (decide (a.op ≠ 18) || decide (BC v.ms a.ot ≠ -1)))
noncomputable def F70 : List D → Option D := FX ED (fun p => VwOk p.1) (fun p => .bool (D5 p.1 p.2))
theorem F70_eq {v : Vw} {a : Ak} (h : VwOk v) : F70 [vwD v, akD a] = some (.bool (D5 v a)) := AP (mk := ED) (a := (v, a)) mkVa_inj h
theorem ok70 : (Ai F70).ok Tryz.prog 70 := by
 obtain ⟨S, hS, hl⟩ := AJ (Ab ok156 (Ab ok158 (Ab ok159 Ae)))
 have s156 := hl 156 _ rfl
 have s158 := hl 158 _ rfl
 have s159 := hl 159 _ rfl
 clear hl
 refine AL hS fn70 (fun _ => by simp [ED]) (fun p hv => ?_)
 obtain ⟨v, a⟩ := p
 simp only at hv
 have hml := hv.ml
 have h156 : F156 [.int .u8 a.op] = some (.bool (decide (a.op ≤ 8))) := rfl
 have h158 := F158_eq (nl := v.nlm) (l := v.ms) (p := a.pa) (by omega)
 have h159 : ∀ q, F159 [.agg (vwC v), .str q] = some (.bool (decide (BC v.ms q ≠ -1))) := fun q => F159_eq (by omega)
 have h159a := h159 a.pa
 have h159b := h159 a.ot
 unfold dc70 ED vwD akD D5
 simp only
 by_cases h8 : a.op ≤ 8
 ·rw [decide_eq_true h8] at h156
  simp only [↓go1, go2, go3, go4, reduceIte, Nat.reduceEqDiff, Nat.reduceAdd, BR, BN, Aw, AM, Ap, Ax, Nat.zero_add, ne_eq, Bool.true_or, Ac, Nat.zero_le, Nat.reduceLT, Nat.sub_zero, Nat.zero_add, and_self, List.cons.injEq, Nat.succ_ne_zero, h8, Aa s156, h156]
 ·rw [decide_eq_false h8] at h156
  generalize decide (BC v.ms a.pa ≠ -1) = b1 at h159a ⊢
  generalize decide (BC v.ms a.ot ≠ -1) = b2 at h159b ⊢
  generalize Cg v.ms a.pa = fi at h158 ⊢
  clear h159
  by_cases h17 : a.op = 17
  ·have h17' : (a.op = 17) = True := eq_true h17
   have h18' : (a.op = 18) = False := eq_false (by omega)
   clear h17
   by_cases hf : fi < 0
   ·have hf' : ¬ 0 ≤ fi := by omega
    rw [if_pos hf] at h158
    cases b1 <;> simp only [↓go1, gB0, reduceIte, Nat.reduceEqDiff, Nat.reduceAdd, BR, B2, D0, BN, B_, DG, Int.reduceEq, Dk, rdP0, Av, rdC0, Bn, Bj, Aw, AM, Ap, Ax, ne_eq, Bool.true_or, Bool.false_or, Bool.or_true, Bool.and_false, Ac, Nat.reduceLT, Option.isSome_some, List.cons.injEq, Nat.zero_ne_one, Nat.succ_ne_zero, h8, hf', h17', h18', Aa s156, h156, Aa s158, h158, Aa s159, h159a, mtD]
   ·have hf' : 0 ≤ fi := by omega
    rw [if_neg hf] at h158
    generalize AQ v.ms fi.toNat = mt at h158
    simp only [↓go1, gB0, reduceIte, Nat.reduceEqDiff, Nat.reduceAdd, BR, B2, D0, BN, B_, DG, Dk, Av, Aw, AM, Ap, Ax, ne_eq, Bool.true_or, Bool.or_true, Ac, Nat.reduceLT, Option.isSome_some, List.cons.injEq, Nat.zero_ne_one, Nat.succ_ne_zero, h8, hf', h17', h18', Aa s156, h156, Aa s158, h158, mtD]
  ·have h17' : (a.op = 17) = False := eq_false h17
   obtain ⟨mt, e, he⟩ : ∃ (mt : Mt) (e : Int), F158 [.agg [.slice v.nlm [] (Ar v.ms)], .str a.pa] = some (.tup [mtD mt, .int .i64 e]) := by
    rw [h158]
    split
    ·exact ⟨_, _, rfl⟩
    ·exact ⟨_, _, rfl⟩
   clear h158
   by_cases h18 : a.op = 18
   ·have h18' : (a.op = 18) = True := eq_true h18
    clear h18 h17
    cases b1 <;> cases b2 <;> simp only [↓go1, gB0, reduceIte, Nat.reduceEqDiff, Nat.reduceAdd, BR, B2, D0, BN, B_, DG, Dk, rdP0, Av, rdC0, Bn, Bj, Aw, AM, Ap, Ax, ne_eq, Bool.false_and, Bool.false_or, Bool.or_true, Bool.and_false, Ac, Nat.reduceLT, Option.isSome_some, List.cons.injEq, Nat.zero_ne_one, and_false, Nat.succ_ne_zero, h8, h17', h18', Aa s156, h156, Aa s158, he, Aa s159, h159a, h159b, mtD]
   ·have h18' : (a.op = 18) = False := eq_false h18
    clear h18 h17
    cases b1 <;> simp only [↓go1, gB0, reduceIte, Nat.reduceEqDiff, Nat.reduceAdd, BR, B2, D0, BN, B_, DG, Dk, rdP0, Av, rdC0, Bn, Bj, Aw, AM, Ap, Ax, ne_eq, Bool.false_and, Bool.true_or, Bool.false_or, Bool.or_true, Ac, Nat.reduceLT, Option.isSome_some, List.cons.injEq, Nat.zero_ne_one, Nat.succ_ne_zero, h8, h17', h18', Aa s156, h156, Aa s158, he, Aa s159, h159a, mtD]
def refA (v : Vw) (a : Ak) : Int := if B9 a ≠ 0 then B9 a else if a.op = 1 then 0 else if a.op = 2 then (if v.se = false then 9 else if a.key ≠ v.key then 11 else 0) else if v.se = true then 12 else if permA v a = false then 13 else if D5 v a = false then 14 else 0
noncomputable def F25 : List D → Option D := FX ED (fun p => VwOk p.1 ∧ AkOk p.2) (fun p => .int .i64 (refA p.1 p.2))
theorem F25_eq {v : Vw} {a : Ak} (h : VwOk v) (h2 : AkOk a) : F25 [vwD v, akD a] = some (.int .i64 (refA v a)) := AP (mk := ED) (a := (v, a)) mkVa_inj ⟨h, h2⟩
theorem ok25 : (Ai F25).ok Tryz.prog 25 := by
 obtain ⟨S, hS, hl⟩ := AJ (Ab ok68 (Ab ok69 (Ab ok70 Ae)))
 have s68 := hl 68 _ rfl
 have s69 := hl 69 _ rfl
 have s70 := hl 70 _ rfl
 clear hl
 refine AL hS fn25 (fun _ => by simp [ED]) (fun p hp => ?_)
 obtain ⟨v, a⟩ := p
 obtain ⟨hv, ha⟩ := hp
 simp only at hv ha
 have h68 : F68 [.agg (akC a)] = some (.int .i64 (B9 a)) := F68_eq ha
 have h69 : F69 [.agg (vwC v), .agg (akC a)] = some (.bool (permA v a)) := F69_eq hv
 have h70 : F70 [.agg (vwC v), .agg (akC a)] = some (.bool (D5 v a)) := F70_eq hv
 unfold dc25 ED vwD akD refA
 simp only
 generalize B9 a = e at h68 ⊢
 generalize permA v a = b1 at h69 ⊢
 generalize D5 v a = b2 at h70 ⊢
 by_cases he : e = 0
 ·subst he
  by_cases h1 : a.op = 1
  ·have h1' : (a.op = 1) = True := eq_true h1
   clear h1
   simp only [↓go1, go2, go3, go4, reduceIte, Nat.reduceEqDiff, Nat.reduceAdd, BR, BN, C6, Aw, AM, AW, AX, Ap, Ax, Nat.zero_add, ne_eq, Ac, Nat.zero_le, Nat.reduceLT, Nat.sub_zero, Nat.zero_add, and_self, List.cons.injEq, Nat.succ_ne_zero, h1', Aa s68, h68]
  ·have h1' : (a.op = 1) = False := eq_false h1
   by_cases h2 : a.op = 2
   ·have h2' : (a.op = 2) = True := eq_true h2
    clear h1 h2
    cases hse : v.se with
    | false =>
     simp only [↓go1, go2, go3, go4, reduceIte, Nat.reduceEqDiff, Nat.reduceAdd, BR, BN, C6, Aw, AM, AW, AX, Ap, Ax, Nat.zero_add, ne_eq, Ac, Nat.zero_le, Nat.reduceLT, Nat.sub_zero, Nat.zero_add, and_self, List.cons.injEq, Nat.zero_ne_one, Nat.succ_ne_zero, h1', h2', hse, Aa s68, h68]
    | true =>
     by_cases hk : a.key = v.key
     ·have hk' : (a.key = v.key) = True := eq_true hk
      have hk2 : (a.key == v.key) = true := by rw [hk]; simp
      clear hk
      simp only [↓go1, go2, go3, go4, reduceIte, Nat.reduceEqDiff, Nat.reduceAdd, BR, B2, ak_g10, BN, B_, C6, Aw, AM, AW, AX, Ap, Ax, Nat.zero_add, ne_eq, Ac, Nat.zero_le, Nat.reduceLT, Nat.sub_zero, Nat.zero_add, and_self, List.cons.injEq, Nat.zero_ne_one, and_false, Nat.succ_ne_zero, h1', h2', hse, hk', Aa s68, h68]
     ·have hk' : (a.key = v.key) = False := eq_false hk
      have hk2 : (a.key == v.key) = false := by simpa using hk
      clear hk
      simp only [↓go1, go2, go3, go4, reduceIte, Nat.reduceEqDiff, Nat.reduceAdd, BR, B2, ak_g10, BN, B_, C6, Aw, AM, AW, AX, Ap, Ax, Nat.zero_add, ne_eq, Ac, Nat.zero_le, Nat.reduceLT, Nat.sub_zero, Nat.zero_add, and_self, List.cons.injEq, Nat.zero_ne_one, and_false, Nat.succ_ne_zero, h1', h2', hse, hk', Aa s68, h68]
   ·have h2' : (a.op = 2) = False := eq_false h2
    clear h1 h2
    cases hse : v.se with
    | true =>
     simp only [↓go1, go2, go3, go4, reduceIte, Nat.reduceEqDiff, Nat.reduceAdd, BR, BN, C6, Aw, AM, AW, AX, Ap, Ax, Nat.zero_add, ne_eq, Ac, Nat.zero_le, Nat.reduceLT, Nat.sub_zero, Nat.zero_add, and_self, List.cons.injEq, Nat.zero_ne_one, Nat.succ_ne_zero, h1', h2', hse, Aa s68, h68]
    | false =>
     cases b1 with
     | false =>
      simp only [↓go1, go2, go3, go4, reduceIte, Nat.reduceEqDiff, Nat.reduceAdd, BR, BN, C6, rdC0, Bn, Bj, Aw, AM, AW, AX, Ap, Ax, Nat.zero_add, ne_eq, Ac, Nat.zero_le, Nat.reduceLT, Nat.sub_zero, Nat.zero_add, and_self, List.cons.injEq, Nat.zero_ne_one, Nat.succ_ne_zero, h1', h2', hse, Aa s68, h68, Aa s69, h69]
     | true =>
      cases b2 <;> simp only [↓go1, go2, go3, go4, reduceIte, Nat.reduceEqDiff, Nat.reduceAdd, BR, BN, C6, rdC0, Bn, Bj, Aw, AM, AW, AX, Ap, Ax, Nat.zero_add, ne_eq, Ac, Nat.zero_le, Nat.reduceLT, Nat.sub_zero, Nat.zero_add, and_self, List.cons.injEq, Nat.zero_ne_one, Nat.succ_ne_zero, h1', h2', hse, Aa s68, h68, Aa s69, h69, Aa s70, h70]
 ·simp only [↓go1, go2, go3, go4, reduceIte, Nat.reduceEqDiff, Nat.reduceAdd, C6, Aw, AW, AX, Ap, Nat.zero_add, ne_eq, Nat.zero_add, and_self, he, Aa s68, h68]
open Classical in
theorem F73_eq {nl : Bool} {l : List Mt} {p : Bs} (hl : l.length ≤ 1000000) (hp : ∀ m ∈ l, m.1.length ≤ 1000000) (h : p.length ≤ 1000000) : F73 [.slice nl [] (Ar l), .str p] = some (.int .i64 (BC l p)) := by
 have h : Ar l = Ar (Bw (Ar l)) ∧ (Ar l).length ≤ 1000000 ∧ (∀ m ∈ Bw (Ar l), m.1.length ≤ 1000000) ∧ p.length ≤ 1000000 := by rw [AY, Aq]; exact ⟨rfl, hl, hp, h⟩
 show (if _ then _ else _) = _
 rw [if_pos h, AY]
def permB (v : Vw) (a : Ak) : Bool := Cv v.ks a.tk (atA a) (Cn a.op) && (decide (a.op ≠ 18) || Cv v.ks a.tk a.ot 2)
def mountB (v : Vw) (a : Ak) : Bool := (decide (0 ≤ BC v.ms a.pa) || (decide (a.op = 17) && decide (0 ≤ Cg v.ms a.pa))) && (decide (a.op ≠ 18) || decide (0 ≤ BC v.ms a.ot))
def refB (v : Vw) (a : Ak) : Int := if B9 a ≠ 0 then B9 a else if a.op = 1 then 0 else if a.op = 2 then (if v.se = false then 9 else if a.key ≠ v.key then 11 else 0) else if v.se = true then 12 else if permB v a = false then 13 else if a.op ≤ 8 then 0 else if mountB v a = false then 14 else 0
noncomputable def F26 : List D → Option D := FX ED (fun p => VwOk p.1 ∧ AkOk p.2) (fun p => .int .i64 (refB p.1 p.2))
theorem F26_eq {v : Vw} {a : Ak} (h : VwOk v) (h2 : AkOk a) : F26 [vwD v, akD a] = some (.int .i64 (refB v a)) := AP (mk := ED) (a := (v, a)) mkVa_inj ⟨h, h2⟩
theorem ok26 : (Ai F26).ok Tryz.prog 26 := by
 obtain ⟨S, hS, hl⟩ := AJ (Ab ok71 (Ab ok28 (Ab ok72 (Ab ok73 (Ab ok74 Ae)))))
 have s71 := hl 71 _ rfl
 have s28 := hl 28 _ rfl
 have s72 := hl 72 _ rfl
 have s73 := hl 73 _ rfl
 have s74 := hl 74 _ rfl
 clear hl
 refine AL hS fn26 (fun _ => by simp [ED]) (fun p hp => ?_)
 obtain ⟨v, a⟩ := p
 obtain ⟨hv, ha⟩ := hp
 simp only at hv ha
 have hu := u8i64 ha.op0 ha.op
 have hml := hv.ml
 have hmp : ∀ m ∈ v.ms, m.1.length ≤ 1000000 := fun m hm => Nat.le_trans (hv.mp m hm) (by omega)
 have hpa := ha.pa
 have hot := ha.ot
 have h71 : F68 [.agg (akC a)] = some (.int .i64 (B9 a)) := F68_eq ha
 have h28 : F28 [.int .i64 a.op] = some (.int .u8 (Cn a.op)) := rfl
 have h72 : ∀ q, q.length ≤ 1000000 → F72 [.agg (vwC v), .str a.tk, .str q, .int .u8 (Cn a.op)] = some (.bool (Cv v.ks a.tk q (Cn a.op))) := fun q hq => F72_eq hv (capsF_bd _) hq
 have h72b : F72 [.agg (vwC v), .str a.tk, .str a.ot, .int .u8 2] = some (.bool (Cv v.ks a.tk a.ot 2)) := F72_eq hv (by omega) (by omega)
 have h73a := F73_eq (nl := v.nlm) (l := v.ms) (p := a.pa) (by omega) hmp (by omega)
 have h73b := F73_eq (nl := v.nlm) (l := v.ms) (p := a.ot) (by omega) hmp (by omega)
 have h74 := F74_eq (nl := v.nlm) (t := []) (l := v.ms) (p := a.pa) (by omega)
 unfold dc26 ED vwD akD refB permB mountB atA
 simp only
 generalize B9 a = e at h71 ⊢
 generalize Cv v.ks a.tk a.ot 2 = b2 at h72b ⊢
 generalize BC v.ms a.pa = r1 at h73a ⊢
 generalize BC v.ms a.ot = r2 at h73b ⊢
 generalize Cg v.ms a.pa = f at h74 ⊢
 by_cases he : e = 0
 ·subst he
  by_cases h1 : a.op = 1
  ·have h1' : (a.op = 1) = True := eq_true h1
   clear h1
   simp only [↓go1, go2, go3, go4, reduceIte, Nat.reduceEqDiff, Nat.reduceAdd, hu, BR, BN, C6, Aw, AM, AW, AX, Ap, Ax, ne_eq, Ac, Nat.zero_le, Nat.reduceLT, Nat.sub_zero, Nat.zero_add, and_self, List.cons.injEq, Nat.succ_ne_zero, h1', Aa s71, h71]
  ·have h1' : (a.op = 1) = False := eq_false h1
   by_cases h2 : a.op = 2
   ·have h2' : (a.op = 2) = True := eq_true h2
    clear h1 h2
    cases hse : v.se with
    | false => simp only [↓go1, go2, go3, go4, reduceIte, Nat.reduceEqDiff, Nat.reduceAdd, hu, BR, BN, C6, Aw, AM, AW, AX, Ap, Ax, ne_eq, Ac, Nat.zero_le, Nat.reduceLT, Nat.sub_zero, Nat.zero_add, and_self, List.cons.injEq, Nat.zero_ne_one, Nat.succ_ne_zero, h1', h2', hse, Aa s71, h71]
    | true =>
     by_cases hk : a.key = v.key
     ·have hk' : (a.key = v.key) = True := eq_true hk
      have hk2 : (a.key == v.key) = true := by rw [hk]; simp
      clear hk
      simp only [↓go1, go2, go3, go4, reduceIte, Nat.reduceEqDiff, Nat.reduceAdd, hu, BR, B2, ak_g10, BN, B_, C6, Aw, AM, AW, AX, Ap, Ax, ne_eq, Ac, Nat.zero_le, Nat.reduceLT, Nat.sub_zero, Nat.zero_add, and_self, List.cons.injEq, Nat.zero_ne_one, and_false, Nat.succ_ne_zero, h1', h2', hse, hk', Aa s71, h71]
     ·have hk' : (a.key = v.key) = False := eq_false hk
      have hk2 : (a.key == v.key) = false := by simpa using hk
      clear hk
      simp only [↓go1, go2, go3, go4, reduceIte, Nat.reduceEqDiff, Nat.reduceAdd, hu, BR, B2, ak_g10, BN, B_, C6, Aw, AM, AW, AX, Ap, Ax, ne_eq, Ac, Nat.zero_le, Nat.reduceLT, Nat.sub_zero, Nat.zero_add, and_self, List.cons.injEq, Nat.zero_ne_one, and_false, Nat.succ_ne_zero, h1', h2', hse, hk', Aa s71, h71]
   ·have h2' : (a.op = 2) = False := eq_false h2
    cases hse : v.se with
    | true =>
     simp only [↓go1, go2, go3, go4, reduceIte, Nat.reduceEqDiff, Nat.reduceAdd, hu, BR, BN, C6, Aw, AM, AW, AX, Ap, Ax, ne_eq, Ac, Nat.zero_le, Nat.reduceLT, Nat.sub_zero, Nat.zero_add, and_self, List.cons.injEq, Nat.zero_ne_one, Nat.succ_ne_zero, h1', h2', hse, Aa s71, h71]
    | false =>
     by_cases h8 : a.op ≤ 8
     ·have h8' : (a.op ≤ 8) = True := eq_true h8
      have h18' : (a.op = 18) = False := eq_false (by omega)
      clear h1 h2 h8
      have hh := h72 sysB (by decide)
      simp only [h8', if_true]
      generalize Cv v.ks a.tk sysB (Cn a.op) = b at hh ⊢
      unfold sysB at hh
      cases b <;> simp only [↓go1, go2, go3, go4, reduceIte, Nat.reduceEqDiff, Nat.reduceAdd, hu, BR, ak_g1, B2, BN, vw_g1, B_, C6, rdC0, Bn, Bj, Aw, AM, AW, AX, Ap, Ax, ne_eq, Ac, Nat.zero_le, Nat.reduceLT, Nat.sub_zero, Nat.zero_add, and_self, List.cons.injEq, Nat.zero_ne_one, Nat.succ_ne_zero, h1', h2', hse, Aa s71, h71, Aa s28, h28, Aa s72, h8', h18', hh] <;> refine AA.intro (Al rfl) ?_ <;> simp only [↓go1, go2, go3, go4, reduceIte, Nat.reduceEqDiff, Nat.reduceAdd, Bool.true_or, and_self, h1', h2', h8', h18']
     ·have h8' : (a.op ≤ 8) = False := eq_false h8
      have hh := h72 a.pa (by omega)
      simp only [h8', if_false]
      generalize Cv v.ks a.tk a.pa (Cn a.op) = b at hh ⊢
      by_cases h18 : a.op = 18
      ·have h18' : (a.op = 18) = True := eq_true h18
       have h17' : (a.op = 17) = False := eq_false (by omega)
       clear h1 h2 h8 h18
       by_cases hr1 : r1 < 0
       ·have hr1' : ¬ 0 ≤ r1 := by omega
        cases b <;> cases b2 <;> simp only [↓go1, go2, go3, go4, reduceIte, Nat.reduceEqDiff, Nat.reduceAdd, hu, BR, ak_g1, B2, D0, BN, vw_g1, B_, DG, C6, rdC0, Bn, Bj, Aw, AM, AW, AX, Ap, Ax, ne_eq, Ac, Nat.zero_le, Nat.reduceLT, Nat.sub_zero, Nat.zero_add, and_self, List.cons.injEq, Nat.zero_ne_one, Nat.succ_ne_zero, h1', h2', hse, Aa s71, h71, Aa s28, h28, Aa s72, h72b, h8', h18', hh] <;> refine AA.intro (Al rfl) ?_ <;> simp only [↓go1, go2, go3, go4, reduceIte, Nat.reduceEqDiff, Nat.reduceAdd, B2, D0, B_, DG, AM, Ax, Bool.false_and, Bool.false_or, Bool.or_true, Bool.and_false, Ac, Nat.zero_le, Nat.reduceLT, Nat.sub_zero, Nat.zero_add, and_self, List.cons.injEq, Nat.zero_ne_one, Nat.succ_ne_zero, h1', h2', Aa s73, h73a, h8', h18', h17', hr1, hr1']
       ·have hr1' : 0 ≤ r1 := by omega
        by_cases hr2 : r2 < 0
        ·have hr2' : ¬ 0 ≤ r2 := by omega
         cases b <;> cases b2 <;> simp only [↓go1, go2, go3, go4, reduceIte, Nat.reduceEqDiff, Nat.reduceAdd, hu, BR, ak_g1, B2, D0, BN, vw_g1, B_, DG, C6, rdC0, Bn, Bj, Aw, AM, AW, AX, Ap, Ax, ne_eq, Ac, Nat.zero_le, Nat.reduceLT, Nat.sub_zero, Nat.zero_add, and_self, List.cons.injEq, Nat.zero_ne_one, Nat.succ_ne_zero, h1', h2', hse, Aa s71, h71, Aa s28, h28, Aa s72, h72b, h8', h18', hh] <;> refine AA.intro (Al rfl) ?_ <;> simp only [↓go1, go2, go3, go4, reduceIte, Nat.reduceEqDiff, Nat.reduceAdd, B2, D0, B_, DG, AM, Ax, Bool.false_and, Bool.true_or, Bool.false_or, Bool.or_true, Bool.and_false, Ac, Nat.zero_le, Nat.reduceLT, Nat.sub_zero, Nat.zero_add, and_self, List.cons.injEq, Nat.zero_ne_one, Nat.succ_ne_zero, h1', h2', Aa s73, h73a, h73b, h8', h18', h17', hr1, hr1', hr2, hr2']
        ·have hr2' : 0 ≤ r2 := by omega
         cases b <;> cases b2 <;> simp only [↓go1, go2, go3, go4, reduceIte, Nat.reduceEqDiff, Nat.reduceAdd, hu, BR, ak_g1, B2, D0, BN, vw_g1, B_, DG, C6, rdC0, Bn, Bj, Aw, AM, AW, AX, Ap, Ax, ne_eq, Ac, Nat.zero_le, Nat.reduceLT, Nat.sub_zero, Nat.zero_add, and_self, List.cons.injEq, Nat.zero_ne_one, Nat.succ_ne_zero, h1', h2', hse, Aa s71, h71, Aa s28, h28, Aa s72, h72b, h8', h18', hh] <;> refine AA.intro (Al rfl) ?_ <;> simp only [↓go1, go2, go3, go4, reduceIte, Nat.reduceEqDiff, Nat.reduceAdd, B2, D0, B_, DG, AM, Ax, Bool.false_and, Bool.true_or, Bool.false_or, Bool.or_true, Bool.and_false, Ac, Nat.zero_le, Nat.reduceLT, Nat.sub_zero, Nat.zero_add, and_self, List.cons.injEq, Nat.zero_ne_one, Nat.succ_ne_zero, h1', h2', Aa s73, h73a, h73b, h8', h18', h17', hr1, hr1', hr2, hr2']
      ·have h18' : (a.op = 18) = False := eq_false h18
       by_cases hr1 : r1 < 0
       ·have hr1' : ¬ 0 ≤ r1 := by omega
        by_cases h17 : a.op = 17
        ·have h17' : (a.op = 17) = True := eq_true h17
         clear h1 h2 h8 h18 h17
         by_cases hf : f < 0
         ·have hf' : ¬ 0 ≤ f := by omega
          cases b <;> simp only [↓go1, go2, go3, go4, reduceIte, Nat.reduceEqDiff, Nat.reduceAdd, hu, BR, ak_g1, B2, BN, vw_g1, B_, C6, rdC0, Bn, Bj, Aw, AM, AW, AX, Ap, Ax, ne_eq, Ac, Nat.zero_le, Nat.reduceLT, Nat.sub_zero, Nat.zero_add, and_self, List.cons.injEq, Nat.zero_ne_one, Nat.succ_ne_zero, h1', h2', hse, Aa s71, h71, Aa s28, h28, Aa s72, h8', h18', hh] <;> refine AA.intro (Al rfl) ?_ <;> simp only [↓go1, go2, go3, go4, reduceIte, Nat.reduceEqDiff, Nat.reduceAdd, B2, D0, B_, DG, AM, Ax, Bool.true_or, Bool.false_or, Bool.and_false, Ac, Nat.zero_le, Nat.reduceLT, Nat.sub_zero, Nat.zero_add, and_self, List.cons.injEq, Nat.zero_ne_one, Nat.succ_ne_zero, h1', h2', Aa s73, h73a, Aa s74, h74, h8', h18', h17', hr1, hr1', hf, hf']
         ·have hf' : 0 ≤ f := by omega
          cases b <;> simp only [↓go1, go2, go3, go4, reduceIte, Nat.reduceEqDiff, Nat.reduceAdd, hu, BR, ak_g1, B2, BN, vw_g1, B_, C6, rdC0, Bn, Bj, Aw, AM, AW, AX, Ap, Ax, ne_eq, Ac, Nat.zero_le, Nat.reduceLT, Nat.sub_zero, Nat.zero_add, and_self, List.cons.injEq, Nat.zero_ne_one, Nat.succ_ne_zero, h1', h2', hse, Aa s71, h71, Aa s28, h28, Aa s72, h8', h18', hh] <;> refine AA.intro (Al rfl) ?_ <;> simp only [↓go1, go2, go3, go4, reduceIte, Nat.reduceEqDiff, Nat.reduceAdd, B2, D0, B_, DG, AM, Ax, Bool.true_or, Bool.or_true, Ac, Nat.zero_le, Nat.reduceLT, Nat.sub_zero, Nat.zero_add, and_self, List.cons.injEq, Nat.zero_ne_one, Nat.succ_ne_zero, h1', h2', Aa s73, h73a, Aa s74, h74, h8', h18', h17', hr1, hr1', hf, hf']
        ·have h17' : (a.op = 17) = False := eq_false h17
         clear h1 h2 h8 h18 h17
         cases b <;> simp only [↓go1, go2, go3, go4, reduceIte, Nat.reduceEqDiff, Nat.reduceAdd, hu, BR, ak_g1, B2, BN, vw_g1, B_, C6, rdC0, Bn, Bj, Aw, AM, AW, AX, Ap, Ax, ne_eq, Ac, Nat.zero_le, Nat.reduceLT, Nat.sub_zero, Nat.zero_add, and_self, List.cons.injEq, Nat.zero_ne_one, Nat.succ_ne_zero, h1', h2', hse, Aa s71, h71, Aa s28, h28, Aa s72, h8', h18', hh] <;> refine AA.intro (Al rfl) ?_ <;> simp only [↓go1, go2, go3, go4, reduceIte, Nat.reduceEqDiff, Nat.reduceAdd, B2, D0, B_, DG, AM, Ax, Bool.false_and, Bool.true_or, Bool.false_or, Ac, Nat.zero_le, Nat.reduceLT, Nat.sub_zero, Nat.zero_add, and_self, List.cons.injEq, Nat.zero_ne_one, Nat.succ_ne_zero, h1', h2', Aa s73, h73a, h8', h18', h17', hr1, hr1']
       ·have hr1' : 0 ≤ r1 := by omega
        clear h1 h2 h8 h18
        cases b <;> simp only [↓go1, go2, go3, go4, reduceIte, Nat.reduceEqDiff, Nat.reduceAdd, hu, BR, ak_g1, B2, BN, vw_g1, B_, C6, rdC0, Bn, Bj, Aw, AM, AW, AX, Ap, Ax, ne_eq, Ac, Nat.zero_le, Nat.reduceLT, Nat.sub_zero, Nat.zero_add, and_self, List.cons.injEq, Nat.zero_ne_one, Nat.succ_ne_zero, h1', h2', hse, Aa s71, h71, Aa s28, h28, Aa s72, h8', h18', hh] <;> refine AA.intro (Al rfl) ?_ <;> simp only [↓go1, go2, go3, go4, reduceIte, Nat.reduceEqDiff, Nat.reduceAdd, B2, D0, B_, DG, AM, Ax, Bool.true_or, Ac, Nat.zero_le, Nat.reduceLT, Nat.sub_zero, Nat.zero_add, and_self, List.cons.injEq, Nat.zero_ne_one, Nat.succ_ne_zero, h1', h2', Aa s73, h73a, h8', h18', hr1, hr1']
 ·simp only [↓go1, go2, go3, go4, reduceIte, Nat.reduceEqDiff, Nat.reduceAdd, hu, BR, BN, C6, Aw, AM, AW, AX, Ap, Ax, ne_eq, Ac, Nat.zero_le, Nat.reduceLT, Nat.sub_zero, Nat.zero_add, and_self, List.cons.injEq, Nat.succ_ne_zero, he, Aa s71, h71]
end Go.Vd
namespace Go.Vd
open Go.Proofs
def dc43l0 : DC := (.seq (sr [mm 7 3, mm 8 0, nn 9 false 8, bt 10 .lss 7 9] (cd 10 .skip (.exit 0))) (.seq (.block 1 (sr [mm 13 0, mm 14 3, ii 15 3 13 14, ff 16 0 15, ll 17 16, nn 18 true 17, bi 19 .gtr 18 40, mm 20 19, og 21 (.mv (.t 0)) 7 false, og 22 (.mv (.t 3)) 7 false, og 23 (.iaddr 3 (.t 21) (.t 22)) 7 false, og 24 (.faddr 1 (.t 23)) 7 false, og 25 (.load none (.t 24)) 7 false, og 26 (.len true (.t 25)) 7 false, og 27 (.bin .gtr (.t 26) (.c (.int .i64 40))) 7 false, oo 28 (.pick (.t 20) (.c (.bool true)) (.t 27)), mm 29 28, og 30 (.mv (.t 0)) 16 false, og 31 (.mv (.t 3)) 16 false, og 32 (.iaddr 3 (.t 30) (.t 31)) 16 false, og 33 (.faddr 2 (.t 32)) 16 false, og 34 (.load none (.t 33)) 16 false, og 35 (.call (.c (.fn 44 [])) [(.t 34)]) 16 false, og 36 (.bin .gtr (.t 35) (.c (.int .i64 0))) 16 false, oo 37 (.pick (.t 29) (.c (.bool true)) (.t 36))] (cd 37 (sr [ci 2 1] .ret) .skip))) (.row [mm 11 3, bi 12 .add 11 1, mm 3 12])))
def dc43 : DC := (sr [ci 2 0] (.seq (sr [mm 4 0, nn 5 false 4, bi 6 .gtr 5 12] (cd 6 (sr [ci 2 1] .ret) .skip)) (.seq (sr [ci 3 0] (.block 0 (.loop dc43l0))) (sr [ci 2 0] .ret))))
theorem fn43 : Fn Tryz.prog 43 38 dc43 [.t 2] := Ao Tryz.func43
def dc15l0 : DC := (.seq (sr [mm 20 3, ff 21 3 1, ll 22 21, nn 23 false 22, bt 24 .lss 20 23] (cd 24 .skip (.exit 0))) (.seq (.block 1 (sr [ff 27 3 1, ll 28 27, mm 29 3, ii 30 3 28 29, ff 31 0 30, ll 32 31, nn 33 true 32, bi 34 .gtr 33 200] (cd 34 (sr [ci 2 1] .ret) .skip))) (.row [mm 25 3, bi 26 .add 25 1, mm 3 26])))
def dc15 : DC := (sr [oo 1 (.box (.t 0)), ci 2 0] (.seq (sr [ff 4 2 1, ll 5 4, nn 6 true 5, bi 7 .gtr 6 40, mm 8 7, og 9 (.faddr 3 (.t 1)) 4 false, og 10 (.load none (.t 9)) 4 false, og 11 (.len false (.t 10)) 4 false, og 12 (.bin .gtr (.t 11) (.c (.int .i64 8))) 4 false, oo 13 (.pick (.t 8) (.c (.bool true)) (.t 12)), mm 14 13, og 15 (.faddr 4 (.t 1)) 10 false, og 16 (.load none (.t 15)) 10 false, og 17 (.call (.c (.fn 43 [])) [(.t 16)]) 10 false, og 18 (.bin .gtr (.t 17) (.c (.int .i64 0))) 10 false, oo 19 (.pick (.t 14) (.c (.bool true)) (.t 18))] (cd 19 (sr [ci 2 1] .ret) .skip)) (.seq (sr [ci 3 0] (.block 0 (.loop dc15l0))) (sr [ci 2 0] .ret))))
theorem fn15 : Fn Tryz.prog 15 35 dc15 [.t 2] := Ao Tryz.func15
def dc16 : DC := (sr [oo 1 (.box (.t 0)), ci 2 0] (.seq (sr [ff 3 1 1, ll 4 3, nn 5 true 4, bi 6 .gtr 5 100, mm 7 6, og 8 (.faddr 2 (.t 1)) 4 false, og 9 (.load none (.t 8)) 4 false, og 10 (.len true (.t 9)) 4 false, og 11 (.bin .gtr (.t 10) (.c (.int .i64 200))) 4 false, oo 12 (.pick (.t 7) (.c (.bool true)) (.t 11)), mm 13 12, og 14 (.faddr 3 (.t 1)) 10 false, og 15 (.load none (.t 14)) 10 false, og 16 (.len true (.t 15)) 10 false, og 17 (.bin .gtr (.t 16) (.c (.int .i64 200))) 10 false, oo 18 (.pick (.t 13) (.c (.bool true)) (.t 17)), mm 19 18, og 20 (.faddr 7 (.t 1)) 16 false, og 21 (.load none (.t 20)) 16 false, og 22 (.len false (.t 21)) 16 false, og 23 (.bin .gtr (.t 22) (.c (.int .i64 20))) 16 false, oo 24 (.pick (.t 19) (.c (.bool true)) (.t 23)), mm 25 24, og 26 (.faddr 8 (.t 1)) 22 false, og 27 (.load none (.t 26)) 22 false, og 28 (.len true (.t 27)) 22 false, og 29 (.bin .gtr (.t 28) (.c (.int .i64 300))) 22 false, oo 30 (.pick (.t 25) (.c (.bool true)) (.t 29)), mm 31 30, og 32 (.faddr 9 (.t 1)) 28 false, og 33 (.load none (.t 32)) 28 false, og 34 (.call (.c (.fn 44 [])) [(.t 33)]) 28 false, og 35 (.bin .gtr (.t 34) (.c (.int .i64 0))) 28 false, oo 36 (.pick (.t 31) (.c (.bool true)) (.t 35)), mm 37 36, og 38 (.faddr 10 (.t 1)) 34 false, og 39 (.load none (.t 38)) 34 false, og 40 (.len true (.t 39)) 34 false, og 41 (.bin .gtr (.t 40) (.c (.int .i64 100))) 34 false, oo 42 (.pick (.t 37) (.c (.bool true)) (.t 41))] (cd 42 (sr [ci 2 1] .ret) .skip)) (sr [ci 2 0] .ret)))
theorem fn16 : Fn Tryz.prog 16 43 dc16 [.t 2] := Ao Tryz.func16
def dc53l0 : DC := (.seq (sr [mm 5 4, mm 6 0, nn 7 false 6, bt 8 .lss 5 7] (cd 8 .skip (.exit 0))) (.seq (.block 1 (.row [mm 11 3, mm 12 0, mm 13 4, ii 14 2 12 13, lk 15 2 14, oo 16 (.bslice 209 2 [(.t 15)]), oo 17 (.app 209 2 24 (.t 11) (.t 16)), mm 3 17])) (.row [mm 9 4, bi 10 .add 9 1, mm 4 10])))
def dc53 : DC := (sr [oo 2 (.mv (.c (.slice true [] [])))] (sr [oo 3 (.mv (.c (.slice true [] [])))] (.seq (sr [ci 4 0] (.block 0 (.loop dc53l0))) (sr [mm 18 3, mm 2 18] .ret))))
theorem fn53 : Fn Tryz.prog 53 19 dc53 [.t 2] := Ao Tryz.func53
def dc51 : DC := (sr [oo 1 (.box (.t 0)), oo 2 (.alloc [(.str []), (.str []), (.slice true [] [])])] (.seq (.drawn [ff 3 0 1, ll 4 3, ff 5 1 1, ll 6 5, ff 7 2 1, ll 8 7, cc 9 53 [(.t 8)], oo 10 (.build [(.str []), (.str []), (.slice true [] [])] [(0, 1, (.t 4)), (1, 1, (.t 6)), (2, 1, (.t 9))]), oz (.store 3 (.t 2) (.t 10))] [(6, 1), (6, 3)]) .ret))
theorem fn51 : Fn Tryz.prog 51 11 dc51 [.cell (some 3) 2] := Ao Tryz.func51
def dc46 : DC := (sr [oo 1 (.box (.t 0)), oo 2 (.alloc [(.str []), (.int .i64 0), (.bool false)])] (sr [ff 3 0 1, ll 4 3, ff 5 1 1, lk 6 2 5, oo 7 (.build [(.str []), (.int .i64 0), (.bool false)] [(0, 1, (.t 4)), (1, 2, (.t 6))]), oz (.store 3 (.t 2) (.t 7))] .ret))
theorem fn46 : Fn Tryz.prog 46 8 dc46 [.cell (some 3) 2] := Ao Tryz.func46
def dc18 : DC := (sr [oo 1 (.box (.t 0)), oo 2 (.alloc [(.int .u8 0), (.str []), (.str []), (.str []), (.int .i64 0), (.int .i64 0), (.bool false), (.slice true [] []), (.str []), (.slice true [] []), (.str [])])] (.seq (.drawn [ff 3 0 1, ll 4 3, ff 5 1 1, ll 6 5, ff 7 2 1, ll 8 7, ff 9 3 1, ll 10 9, ff 11 4 1, ll 12 11, ff 13 5 1, ll 14 13, ff 15 6 1, ll 16 15, ff 17 7 1, ll 18 17, ff 19 8 1, ll 20 19, ff 21 9 1, ll 22 21, cc 23 53 [(.t 22)], ff 24 10 1, ll 25 24, oo 26 (.build [(.int .u8 0), (.str []), (.str []), (.str []), (.int .i64 0), (.int .i64 0), (.bool false), (.slice true [] []), (.str []), (.slice true [] []), (.str [])] [(0, 1, (.t 4)), (1, 1, (.t 6)), (2, 1, (.t 8)), (3, 1, (.t 10)), (4, 1, (.t 12)), (5, 1, (.t 14)), (6, 1, (.t 16)), (7, 1, (.t 18)), (8, 1, (.t 20)), (9, 1, (.t 23)), (10, 1, (.t 25))]), oz (.store 11 (.t 2) (.t 26))] [(20, 1), (20, 3), (20, 5), (20, 7), (20, 9), (20, 11), (20, 13), (20, 15), (20, 17), (20, 22)]) .ret))
theorem fn18 : Fn Tryz.prog 18 27 dc18 [.cell (some 11) 2] := Ao Tryz.func18
def dc17l0 : DC := (.seq (sr [mm 11 6, ff 12 3 1, ll 13 12, nn 14 false 13, bt 15 .lss 11 14] (cd 15 .skip (.exit 0))) (.seq (.block 1 (.seq (.drawn [lk 19 1 4, ff 20 3 1, ll 21 20, mm 22 6, ii 23 3 21 22, lk 24 3 23, cc 25 46 [(.t 24)], cc 26 45 [(.t 19), (.t 25)], mm 18 26, xx 27 0 18, xx 28 1 18, oz (.store 1 (.t 4) (.t 27))] [(6, 0)]) (.row [mm 30 5, ff 31 3 1, ll 32 31, mm 33 6, ii 34 3 32 33, lk 35 3 34, cc 36 47 [(.t 30), (.t 35)], mm 29 36, xx 37 0 29, xx 38 1 29, mm 5 37]))) (.row [mm 16 6, bi 17 .add 16 1, mm 6 17])))
def dc17l1 : DC := (.seq (sr [mm 41 9, ff 42 4 1, ll 43 42, nn 44 false 43, bt 45 .lss 41 44] (cd 45 .skip (.exit 2))) (.seq (.block 3 (.seq (.drawn [lk 49 1 7, ff 50 4 1, ll 51 50, mm 52 9, ii 53 3 51 52, lk 54 3 53, cc 55 51 [(.t 54)], cc 56 50 [(.t 49), (.t 55)], mm 48 56, xx 57 0 48, xx 58 1 48, oz (.store 1 (.t 7) (.t 57))] [(6, 0)]) (.row [mm 60 8, ff 61 4 1, ll 62 61, mm 63 9, ii 64 3 62 63, lk 65 3 64, cc 66 52 [(.t 60), (.t 65)], mm 59 66, xx 67 0 59, xx 68 1 59, mm 8 67]))) (.row [mm 46 9, bi 47 .add 46 1, mm 9 47])))
def dc17 : DC := (sr [oo 1 (.box (.t 0)), oo 2 (.alloc [(.bool false), (.int .i64 0), (.str []), (.slice true [] []), (.slice true [] [])]), oo 3 (.alloc [(.bool false), (.int .i64 0), (.str []), (.slice true [] []), (.slice true [] [])])] (sr [oo 4 (.alloc [(.slice true [] [])])] (sr [oo 5 (.mv (.c (.slice true [] [])))] (.seq (sr [ci 6 0] (.block 0 (.loop dc17l0))) (sr [cc 39 48 [], cc 40 49 [], oo 7 (.alloc [(.slice true [] [])]), oz (.store 1 (.t 7) (.t 39)), mm 8 40] (.seq (sr [ci 9 0] (.block 2 (.loop dc17l1))) (sr [ff 69 1 1, ll 70 69, oo 71 (.conv .u64 (.t 70)), oo 72 (.bin .rem (.t 71) (.c (.int .u64 6))), oo 73 (.conv .i64 (.t 72)), oo 74 (.bin .add (.c (.int .i64 1)) (.t 73)), mm 10 74] (.seq (.drawn [ff 75 0 1, ll 76 75, mm 77 10, ff 78 2 1, ll 79 78, lk 80 1 4, lk 81 1 7, oo 82 (.build [(.bool false), (.int .i64 0), (.str []), (.slice true [] []), (.slice true [] [])] [(0, 1, (.t 76)), (1, 1, (.t 77)), (2, 1, (.t 79)), (3, 1, (.t 80)), (4, 1, (.t 81))]), ff 83 0 1, ll 84 83, mm 85 10, ff 86 2 1, ll 87 86, mm 88 5, mm 89 8, oo 90 (.build [(.bool false), (.int .i64 0), (.str []), (.slice true [] []), (.slice true [] [])] [(0, 1, (.t 84)), (1, 1, (.t 85)), (2, 1, (.t 87)), (3, 1, (.t 88)), (4, 1, (.t 89))]), oz (.store 5 (.t 2) (.t 82)), oz (.store 5 (.t 3) (.t 90))] [(16, 9), (16, 12)]) .ret))))))))
theorem fn17 : Fn Tryz.prog 17 91 dc17 [.cell (some 5) 2, .cell (some 5) 3] := Ao Tryz.func17
end Go.Vd
namespace Go.Vd
open Go.Proofs Go.RowKit
def bigR (r : Rl) : Bool := decide (100 < r.1.length)
def overR (l : List Rl) : Bool := decide (8 < l.length) || l.any bigR
def mkRl (p : Bool × List Rl) : List D := [.slice p.1 [] (Aj p.2)]
theorem mkRl_inj (x y : Bool × List Rl) (e : mkRl x = mkRl y) : x = y := by
 simp only [mkRl, List.cons.injEq, D.slice.injEq, true_and, and_true] at e
 exact Prod.ext e.1 (rlsD_inj e.2)
def oneI (b : Bool) : D := .int .i64 (if b = true then 1 else 0)
noncomputable def F44 : List D → Option D := FX mkRl (fun _ => True) (fun p => oneI (overR p.2))
theorem F44_eq {nl : Bool} {l : List Rl} : F44 [.slice nl [] (Aj l)] = some (oneI (overR l)) := AP (mk := mkRl) (a := (nl, l)) mkRl_inj trivial
theorem loop44 {S : Summs} {l : List Rl} {nl : Bool} {Q : Ex → St → Prop} (hb : l.length ≤ 8)
  (hret : ∀ st, l.any bigR = true → st.s 2 = .int .i64 1 → Q .ret st) (hexit : ∀ st, l.any bigR = false → Q (.exit 0) st) :
  ∀ (f j : Nat) st g, l.length = j + f → (l.take j).any bigR = false → st.s 0 = .slice nl [] (Aj l) → st.s 3 = .int .i64 (j : Int) → AV S [] dc44l0 Q st g := by
 intro f
 induction f with
 | zero =>
  intro j st g hf ha h0 h3
  refine Ad dc44l0.eq_1 ?_
  have : ¬ ((j : Int) < l.length) := by omega
  simp only [↓go1, go2, go4, reduceIte, Nat.reduceEqDiff, Nat.reduceAdd, h0, h3, this, An]
  rw [List.take_of_length_le (by omega)] at ha
  exact hexit _ ha
 | succ f ih =>
  intro j st g hf ha h0 h3
  refine Ad dc44l0.eq_1 ?_
  have hj : j < l.length := by omega
  have hlt : ((j : Int) < l.length) := by omega
  have hj0 : (0 : Int) ≤ (j : Int) := by omega
  have hw : IntKind.i64.wrap ((j : Int) + 1) = ((j + 1 : Nat) : Int) := w64 (by omega) (by omega)
  have hat : (Aj l)[j]? = some (.agg [.str l[j].1, .int .u8 l[j].2]) := by simp [Aj, List.getElem?_eq_getElem hj, rlD]
  have htk : l.take (j + 1) = l.take j ++ [l[j]] := by rw [List.take_add_one, List.getElem?_eq_getElem hj]; rfl
  have hmem : l[j] ∈ l := List.getElem_mem hj
  generalize l[j] = x at hat htk hmem
  obtain ⟨st_s, st_m, st_c⟩ := st
  simp only at h0 h3
  by_cases hx : 100 < x.1.length
  ·have hx' : (100 : Int) < (x.1.length : Int) := by omega
   simp only [↓go1, gB1, reduceIte, Nat.reduceEqDiff, Nat.reduceAdd, h0, h3, hlt, hj0, Int.toNat_natCast, hat, An, hx', Nat.zero_le, List.drop_zero, List.head?_cons]
   refine hret _ ?_ rfl
   rw [List.any_eq_true]
   exact ⟨x, hmem, by simp [bigR, hx]⟩
  ·have hx' : ¬ (100 : Int) < (x.1.length : Int) := by omega
   simp only [↓go1, gB1, reduceIte, Nat.reduceEqDiff, Nat.reduceAdd, h0, h3, hlt, hj0, hw, Int.toNat_natCast, hat, An, hx', Nat.zero_le, List.drop_zero, List.head?_cons]
   refine ih (j + 1) _ _ (by omega) ?_ h0 rfl
   rw [htk, List.any_append, ha]; simp [bigR, hx]
theorem ok44 : (Ai F44).ok Tryz.prog 44 := by
 refine AL (S := fun _ => none) Au fn44 (fun _ => by simp [mkRl]) (fun p _ => ?_)
 obtain ⟨nl, l⟩ := p
 unfold dc44 overR mkRl
 simp only
 by_cases h8 : 8 < l.length
 ·have h8' : (8 : Int) < (l.length : Int) := by omega
  simp only [↓go1, go2, go3, go4, reduceIte, Nat.reduceEqDiff, Nat.reduceAdd, h8', An]
  exact ⟨by simp [oneI, h8], rfl⟩
 ·have h8' : ¬ (8 : Int) < (l.length : Int) := by omega
  simp only [↓go1, go2, go4, reduceIte, Nat.reduceEqDiff, Nat.reduceAdd, h8', An]
  refine loop44 (l := l) (nl := nl) (by omega) (fun st h1 h2 => ?_) (fun st h1 => ?_) l.length 0 _ _ (by omega) (by simp) rfl rfl
  ·simp only [↓go1, go2, go3, h1, h2, Bool.or_true]
   all_goals (first | rfl | exact ⟨rfl, rfl⟩)
  ·simp only [↓go1, go2, go3, go4, reduceIte, Nat.reduceAdd, h1, h8, Bool.false_or]
   all_goals (first | rfl | exact ⟨rfl, rfl⟩)
def bigT (k : Tk) : Bool := decide (40 < k.1.length) || decide (40 < k.2.1.length) || overR k.2.2.2
def overT (l : List Tk) : Bool := decide (12 < l.length) || l.any bigT
def mkTl (p : Bool × List Tk) : List D := [.slice p.1 [] (AC p.2)]
theorem mkTl_inj (x y : Bool × List Tk) (e : mkTl x = mkTl y) : x = y := by
 simp only [mkTl, List.cons.injEq, D.slice.injEq, true_and, and_true] at e
 exact Prod.ext e.1 (tksD_inj e.2)
noncomputable def F43 : List D → Option D := FX mkTl (fun _ => True) (fun p => oneI (overT p.2))
theorem F43_eq {nl : Bool} {l : List Tk} : F43 [.slice nl [] (AC l)] = some (oneI (overT l)) := AP (mk := mkTl) (a := (nl, l)) mkTl_inj trivial
theorem CR : oneI true = .int .i64 1 := rfl
theorem oneI_f : oneI false = .int .i64 0 := rfl
theorem loop43 {S : Summs} {l : List Tk} {nl : Bool} {Q : Ex → St → Prop} (s44 : S 44 = some (Ai F44)) (hb : l.length ≤ 12)
  (hret : ∀ st, l.any bigT = true → st.s 2 = .int .i64 1 → Q .ret st) (hexit : ∀ st, l.any bigT = false → Q (.exit 0) st) :
  ∀ (f j : Nat) st g, l.length = j + f → (l.take j).any bigT = false → st.s 0 = .slice nl [] (AC l) → st.s 3 = .int .i64 (j : Int) → AV S [] dc43l0 Q st g := by
 intro f
 induction f with
 | zero =>
  intro j st g hf ha h0 h3
  refine Ad dc43l0.eq_1 ?_
  have : ¬ ((j : Int) < l.length) := by omega
  simp only [↓go1, go2, go4, reduceIte, Nat.reduceEqDiff, Nat.reduceAdd, h0, h3, this, AI]
  rw [List.take_of_length_le (by omega)] at ha
  exact hexit _ ha
 | succ f ih =>
  intro j st g hf ha h0 h3
  refine Ad dc43l0.eq_1 ?_
  have hj : j < l.length := by omega
  have hlt : ((j : Int) < l.length) := by omega
  have hj0 : (0 : Int) ≤ (j : Int) := by omega
  have hw : IntKind.i64.wrap ((j : Int) + 1) = ((j + 1 : Nat) : Int) := w64 (by omega) (by omega)
  have hat : (AC l)[j]? = some (.agg [.str l[j].1, .str l[j].2.1, .slice l[j].2.2.1 [] (Aj l[j].2.2.2)]) := by simp [AC, List.getElem?_eq_getElem hj, tkD]
  have htk : l.take (j + 1) = l.take j ++ [l[j]] := by rw [List.take_add_one, List.getElem?_eq_getElem hj]; rfl
  have hmem : l[j] ∈ l := List.getElem_mem hj
  generalize l[j] = x at hat htk hmem
  obtain ⟨x1, x2, x3, x4⟩ := x
  simp only at hat
  have hx4 : (bigT (x1, x2, x3, x4)) = (decide (40 < x1.length) || decide (40 < x2.length) || overR x4) := rfl
  have h44 := F44_eq (nl := x3) (l := x4)
  generalize overR x4 = b at h44 hx4
  obtain ⟨st_s, st_m, st_c⟩ := st
  simp only at h0 h3
  by_cases hx : 40 < x1.length
  ·have hx' : (40 : Int) < (x1.length : Int) := by omega
   simp only [↓go1, gB1, reduceIte, Nat.reduceEqDiff, Nat.reduceAdd, h0, h3, hlt, hj0, Int.toNat_natCast, hat, AI, Nat.zero_le, List.drop_zero, List.head?_cons, hx']
   refine hret _ ?_ rfl
   rw [List.any_eq_true]
   exact ⟨_, hmem, by rw [hx4, decide_eq_true hx]; rfl⟩
  ·have hx' : ¬ (40 : Int) < (x1.length : Int) := by omega
   by_cases hy : 40 < x2.length
   ·have hy' : (40 : Int) < (x2.length : Int) := by omega
    simp only [↓go1, gB1, reduceIte, Nat.reduceEqDiff, Nat.reduceAdd, h0, h3, hlt, hj0, Int.toNat_natCast, hat, AI, Nat.zero_le, Nat.reduceLeDiff, List.drop_zero, List.drop_succ_cons, List.head?_cons, hx', hy']
    refine hret _ ?_ rfl
    rw [List.any_eq_true]
    exact ⟨_, hmem, by rw [hx4, decide_eq_true hy]; simp⟩
   ·have hy' : ¬ (40 : Int) < (x2.length : Int) := by omega
    cases b with
    | true =>
     simp only [↓go1, gB1, reduceIte, Nat.reduceEqDiff, Nat.reduceAdd, h0, h3, hlt, hj0, Int.toNat_natCast, hat, AI, Aa s44, h44, CR, Int.reduceLT, Nat.zero_le, Nat.reduceLeDiff, List.drop_zero, List.drop_succ_cons, List.head?_cons, hx', hy']
     refine hret _ ?_ rfl
     rw [List.any_eq_true]
     exact ⟨_, hmem, by rw [hx4]; simp⟩
    | false =>
     simp only [↓go1, gB1, reduceIte, Nat.reduceEqDiff, Nat.reduceAdd, h0, h3, hlt, hj0, hw, Int.toNat_natCast, hat, AI, Aa s44, h44, oneI_f, Int.reduceLT, Nat.zero_le, Nat.reduceLeDiff, List.drop_zero, List.drop_succ_cons, List.head?_cons, hx', hy']
     refine ih (j + 1) _ _ (by omega) ?_ h0 rfl
     rw [htk, List.any_append, ha, List.any_cons, hx4, decide_eq_false hx, decide_eq_false hy]; rfl
theorem ok43 : (Ai F43).ok Tryz.prog 43 := by
 obtain ⟨S, hS, hl⟩ := AJ (Ab ok44 Ae)
 have s44 := hl 44 _ rfl
 clear hl
 refine AL hS fn43 (fun _ => by simp [mkTl]) (fun p _ => ?_)
 obtain ⟨nl, l⟩ := p
 unfold dc43 overT mkTl
 simp only
 by_cases h8 : 12 < l.length
 ·have h8' : (12 : Int) < (l.length : Int) := by omega
  simp only [↓go1, go2, go3, go4, reduceIte, Nat.reduceEqDiff, Nat.reduceAdd, h8', AI]
  exact ⟨by simp [oneI, h8], rfl⟩
 ·have h8' : ¬ (12 : Int) < (l.length : Int) := by omega
  simp only [↓go1, go2, go4, reduceIte, Nat.reduceEqDiff, Nat.reduceAdd, h8', AI]
  refine loop43 (l := l) (nl := nl) s44 (by omega) (fun st h1 h2 => ?_) (fun st h1 => ?_) l.length 0 _ _ (by omega) (by simp) rfl rfl
  ·simp only [↓go1, go2, go3, h1, h2, Bool.or_true]
   all_goals (first | rfl | exact ⟨rfl, rfl⟩)
  ·simp only [↓go1, go2, go3, go4, reduceIte, Nat.reduceAdd, h1, h8, Bool.false_or]
   all_goals (first | rfl | exact ⟨rfl, rfl⟩)
def bigM (m : Mt) : Bool := decide (200 < m.1.length)
def overS (v : Vw) : Bool := decide (40 < v.key.length) || decide (8 < v.ms.length) || overT v.ks || v.ms.any bigM
def mkV (v : Vw) : List D := [vwD v]
theorem mkV_inj (x y : Vw) (e : mkV x = mkV y) : x = y := by
 simp only [mkV, List.cons.injEq, and_true] at e
 exact DH e
noncomputable def F15 : List D → Option D := FX mkV (fun _ => True) (fun v => oneI (overS v))
theorem F15_eq {v : Vw} : F15 [vwD v] = some (oneI (overS v)) := AP (mk := mkV) (a := v) mkV_inj trivial
theorem vwP {m : Mem} {v : Vw} {k : Nat} {d : D} (hd : (vwC v)[k]? = some d) : (m.put [0] 0 (vwC v)) [0] k = some d := by
 have hk := (List.getElem?_eq_some_iff.1 hd).1
 rw [Ac, if_pos ⟨rfl, Nat.zero_le _, by omega⟩]; exact hd
theorem loop15 {S : Summs} {v : Vw} {Q : Ex → St → Prop} (hb : v.ms.length ≤ 8)
  (hret : ∀ st, v.ms.any bigM = true → st.s 2 = .int .i64 1 → Q .ret st) (hexit : ∀ st, v.ms.any bigM = false → Q (.exit 0) st) :
  ∀ (f j : Nat) st g, v.ms.length = j + f → (v.ms.take j).any bigM = false → st.s 1 = .ptr [0] 0 → st.m [0] 3 = some (.slice v.nlm [] (Ar v.ms)) → st.s 3 = .int .i64 (j : Int) → AV S [] dc15l0 Q st g := by
 intro f
 induction f with
 | zero =>
  intro j st g hf ha h1 hm h3
  refine Ad dc15l0.eq_1 ?_
  have : ¬ ((j : Int) < v.ms.length) := by omega
  simp only [↓go1, go2, go4, reduceIte, Nat.reduceEqDiff, Nat.reduceAdd, h1, hm, h3, this, Aq]
  rw [List.take_of_length_le (by omega)] at ha
  exact hexit _ ha
 | succ f ih =>
  intro j st g hf ha h1 hm h3
  refine Ad dc15l0.eq_1 ?_
  have hj : j < v.ms.length := by omega
  have hlt : ((j : Int) < v.ms.length) := by omega
  have hj0 : (0 : Int) ≤ (j : Int) := by omega
  have hw : IntKind.i64.wrap ((j : Int) + 1) = ((j + 1 : Nat) : Int) := w64 (by omega) (by omega)
  have hat : (Ar v.ms)[j]? = some (.agg [.str v.ms[j].1, .int .i64 v.ms[j].2.1, .bool v.ms[j].2.2]) := by simp [Ar, List.getElem?_eq_getElem hj, mtD]
  have htk : v.ms.take (j + 1) = v.ms.take j ++ [v.ms[j]] := by rw [List.take_add_one, List.getElem?_eq_getElem hj]; rfl
  have hmem : v.ms[j] ∈ v.ms := List.getElem_mem hj
  generalize v.ms[j] = x at hat htk hmem
  obtain ⟨st_s, st_m, st_c⟩ := st
  simp only at h1 hm h3
  by_cases hx : 200 < x.1.length
  ·have hx' : (200 : Int) < (x.1.length : Int) := by omega
   simp only [↓go1, gB1, reduceIte, Nat.reduceEqDiff, Nat.reduceAdd, h1, hm, h3, hlt, hj0, Int.toNat_natCast, hat, Aq, hx', Nat.zero_le, List.drop_zero, List.head?_cons]
   refine hret _ ?_ rfl
   rw [List.any_eq_true]
   exact ⟨x, hmem, by simp [bigM, hx]⟩
  ·have hx' : ¬ (200 : Int) < (x.1.length : Int) := by omega
   simp only [↓go1, gB1, reduceIte, Nat.reduceEqDiff, Nat.reduceAdd, h1, hm, h3, hlt, hj0, hw, Int.toNat_natCast, hat, Aq, hx', Nat.zero_le, List.drop_zero, List.head?_cons]
   refine ih (j + 1) _ _ (by omega) ?_ h1 hm rfl
   rw [htk, List.any_append, ha]; simp [bigM, hx]
theorem ok15 : (Ai F15).ok Tryz.prog 15 := by
 obtain ⟨S, hS, hl⟩ := AJ (Ab ok43 Ae)
 have s43 := hl 43 _ rfl
 clear hl
 refine AL hS fn15 (fun _ => by simp [mkV]) (fun v _ => ?_)
 have h43 := F43_eq (nl := v.nlt) (l := v.ks)
 have m2 := fun m : Mem => vwP (m := m) (v := v) (k := 2) rfl
 have m3 := fun m : Mem => vwP (m := m) (v := v) (k := 3) rfl
 have m4 := fun m : Mem => vwP (m := m) (v := v) (k := 4) rfl
 unfold dc15 overS mkV vwD
 generalize overT v.ks = b at h43
 by_cases h1 : 40 < v.key.length
 ·have h1' : (40 : Int) < (v.key.length : Int) := by omega
  simp only [↓go1, go2, go3, go4, reduceIte, Nat.reduceEqDiff, Nat.reduceAdd, m2, Aw, CR, Bool.true_or, h1', h1]
  all_goals (first | rfl | exact ⟨rfl, rfl⟩)
 ·have h1' : ¬ (40 : Int) < (v.key.length : Int) := by omega
  by_cases h2 : 8 < v.ms.length
  ·have h2' : (8 : Int) < (v.ms.length : Int) := by omega
   simp only [↓go1, go2, go3, go4, reduceIte, Nat.reduceEqDiff, Nat.reduceAdd, m2, m3, Aq, Aw, CR, Bool.true_or, Bool.or_true, h1', h1, h2', h2]
   all_goals (first | rfl | exact ⟨rfl, rfl⟩)
  ·have h2' : ¬ (8 : Int) < (v.ms.length : Int) := by omega
   cases b with
   | true =>
    simp only [↓go1, go2, go3, go4, reduceIte, Nat.reduceEqDiff, Nat.reduceAdd, m2, m3, m4, h43, Aa s43, Aq, Aw, CR, Int.reduceLT, Bool.true_or, Bool.or_true, Bool.or_false, h1', h1, h2', h2]
    all_goals (first | rfl | exact ⟨rfl, rfl⟩)
   | false =>
    simp only [↓go1, go2, go3, go4, reduceIte, Nat.reduceEqDiff, Nat.reduceAdd, m2, m3, m4, h43, Aa s43, Aq, Aw, oneI_f, Int.reduceLT, h1', h2']
    refine loop15 (v := v) (by omega) (fun st h3 h4 => ?_) (fun st h3 => ?_) v.ms.length 0 _ _ (by omega) (by simp) rfl (m3 (fun _ _ => none)) rfl
    ·simp only [↓go1, go2, go3, h3, h4, Bool.or_true]
     all_goals (first | rfl | exact ⟨rfl, rfl⟩)
    ·simp only [↓go1, go2, go3, go4, reduceIte, Nat.reduceAdd, h3, h1, h2, Bool.false_or]
     all_goals (first | rfl | exact ⟨rfl, rfl⟩)
def overA (a : Ak) : Bool := decide (100 < a.tk.length) || decide (200 < a.pa.length) || decide (200 < a.ot.length) || decide (20 < a.ns.length) || decide (300 < a.da.length) || overR a.rs || decide (100 < a.key.length)
def mkA (a : Ak) : List D := [akD a]
theorem mkA_inj (x y : Ak) (e : mkA x = mkA y) : x = y := by
 simp only [mkA, List.cons.injEq, and_true] at e
 exact BI e
theorem akP {m : Mem} {a : Ak} {k : Nat} {d : D} (hd : (akC a)[k]? = some d) : (m.put [0] 0 (akC a)) [0] k = some d := by
 have hk := (List.getElem?_eq_some_iff.1 hd).1
 rw [Ac, if_pos ⟨rfl, Nat.zero_le _, by omega⟩]; exact hd
noncomputable def F16 : List D → Option D := FX mkA (fun _ => True) (fun a => oneI (overA a))
theorem F16_eq {a : Ak} : F16 [akD a] = some (oneI (overA a)) := AP (mk := mkA) (a := a) mkA_inj trivial
theorem ok16 : (Ai F16).ok Tryz.prog 16 := by
 obtain ⟨S, hS, hl⟩ := AJ (Ab ok44 Ae)
 have s44 := hl 44 _ rfl
 clear hl
 refine AL hS fn16 (fun _ => by simp [mkA]) (fun a _ => ?_)
 have h44 := F44_eq (nl := a.nlr) (l := a.rs)
 have m1 := fun m : Mem => akP (m := m) (a := a) (k := 1) rfl
 have m2 := fun m : Mem => akP (m := m) (a := a) (k := 2) rfl
 have m3 := fun m : Mem => akP (m := m) (a := a) (k := 3) rfl
 have m7 := fun m : Mem => akP (m := m) (a := a) (k := 7) rfl
 have m8 := fun m : Mem => akP (m := m) (a := a) (k := 8) rfl
 have m9 := fun m : Mem => akP (m := m) (a := a) (k := 9) rfl
 have m10 := fun m : Mem => akP (m := m) (a := a) (k := 10) rfl
 have q1 : ((100 : Int) < (a.tk.length : Int)) = (100 < a.tk.length) := propext (by omega)
 have q2 : ((200 : Int) < (a.pa.length : Int)) = (200 < a.pa.length) := propext (by omega)
 have q3 : ((200 : Int) < (a.ot.length : Int)) = (200 < a.ot.length) := propext (by omega)
 have q4 : ((20 : Int) < (a.ns.length : Int)) = (20 < a.ns.length) := propext (by omega)
 have q5 : ((300 : Int) < (a.da.length : Int)) = (300 < a.da.length) := propext (by omega)
 have q6 : ((100 : Int) < (a.key.length : Int)) = (100 < a.key.length) := propext (by omega)
 unfold dc16 overA mkA akD
 generalize overR a.rs = b at h44
 by_cases h1 : 100 < a.tk.length
 ·simp only [↓go1, go2, go3, go4, reduceIte, Nat.reduceEqDiff, Nat.reduceAdd, m1, q1, Ap, CR, Bool.true_or, h1]
  all_goals (first | rfl | exact ⟨rfl, rfl⟩)
 by_cases h2 : 200 < a.pa.length
 ·simp only [↓go1, go2, go3, go4, reduceIte, Nat.reduceEqDiff, Nat.reduceAdd, m1, m2, q1, q2, Ap, CR, Bool.true_or, Bool.or_true, h1, h2]
  all_goals (first | rfl | exact ⟨rfl, rfl⟩)
 by_cases h3 : 200 < a.ot.length
 ·simp only [↓go1, go2, go3, go4, reduceIte, Nat.reduceEqDiff, Nat.reduceAdd, m1, m2, m3, q1, q2, q3, Ap, CR, Bool.true_or, Bool.or_true, Bool.or_false, h1, h2, h3]
  all_goals (first | rfl | exact ⟨rfl, rfl⟩)
 by_cases h4 : 20 < a.ns.length
 ·simp only [↓go1, go2, go3, go4, reduceIte, Nat.reduceEqDiff, Nat.reduceAdd, m1, m2, m3, m7, q1, q2, q3, q4, Bb, Ap, CR, Bool.true_or, Bool.or_true, Bool.or_false, h1, h2, h3, h4]
  all_goals (first | rfl | exact ⟨rfl, rfl⟩)
 by_cases h5 : 300 < a.da.length
 ·simp only [↓go1, go2, go3, go4, reduceIte, Nat.reduceEqDiff, Nat.reduceAdd, m1, m2, m3, m7, m8, q1, q2, q3, q4, q5, Bb, Ap, CR, Bool.true_or, Bool.or_true, Bool.or_false, h1, h2, h3, h4, h5]
  all_goals (first | rfl | exact ⟨rfl, rfl⟩)
 cases b with
 | true =>
  simp only [↓go1, go2, go3, go4, reduceIte, Nat.reduceEqDiff, Nat.reduceAdd, m1, m2, m3, m7, m8, m9, q1, q2, q3, q4, q5, h44, Aa s44, Bb, Ap, CR, Int.reduceLT, Bool.true_or, Bool.or_true, Bool.or_false, h1, h2, h3, h4, h5]
  all_goals (first | rfl | exact ⟨rfl, rfl⟩)
 | false =>
  by_cases h6 : 100 < a.key.length
  ·simp only [↓go1, go2, go3, go4, reduceIte, Nat.reduceEqDiff, Nat.reduceAdd, m1, m2, m3, m7, m8, m9, m10, q1, q2, q3, q4, q5, q6, h44, Aa s44, Bb, Ap, CR, oneI_f, Int.reduceLT, Bool.or_true, Bool.or_false, h1, h2, h3, h4, h5, h6]
   all_goals (first | rfl | exact ⟨rfl, rfl⟩)
  ·simp only [↓go1, go2, go3, go4, reduceIte, Nat.reduceEqDiff, Nat.reduceAdd, m1, m2, m3, m7, m8, m9, m10, q1, q2, q3, q4, q5, q6, h44, Aa s44, Bb, Ap, oneI_f, Int.reduceLT, Bool.or_false, h1, h2, h3, h4, h5, h6]
   all_goals (first | rfl | exact ⟨rfl, rfl⟩)
noncomputable def F53 : List D → Option D := FX mkRl (fun p => p.2.length ≤ 1000) (fun p => .slice p.2.isEmpty [] (Aj p.2))
theorem F53_eq {nl : Bool} {l : List Rl} (h : l.length ≤ 1000) : F53 [.slice nl [] (Aj l)] = some (.slice l.isEmpty [] (Aj l)) := AP (mk := mkRl) (a := (nl, l)) mkRl_inj h
theorem isE_take {l : List Rl} {j : Nat} (h : j < l.length) : (l.take (j + 1)).isEmpty = false := by
 cases l with
 | nil => simp at h
 | cons x r => rfl
theorem loop53 {S : Summs} {l : List Rl} {nl : Bool} {Q : Ex → St → Prop} (hb : l.length ≤ 1000)
  (hexit : ∀ st t, st.s 3 = .slice l.isEmpty t (Aj l) → Q (.exit 0) st) :
  ∀ (f j : Nat) (t : Id) st g, l.length = j + f → st.s 0 = .slice nl [] (Aj l) → st.s 3 = .slice (l.take j).isEmpty t (Aj (l.take j)) → Gw st.m st.c 209 (l.take j).isEmpty t → st.s 4 = .int .i64 (j : Int) → AV S [] dc53l0 Q st g := by
 intro f
 induction f with
 | zero =>
  intro j t st g hf h0 h3 hg h4
  refine Ad dc53l0.eq_1 ?_
  have : ¬ ((j : Int) < l.length) := by omega
  simp only [↓go1, go2, go4, reduceIte, Nat.reduceEqDiff, Nat.reduceAdd, h0, h4, this, An]
  rw [List.take_of_length_le (by omega)] at h3
  exact hexit _ t h3
 | succ f ih =>
  intro j t st g hf h0 h3 hg h4
  refine Ad dc53l0.eq_1 ?_
  have hj : j < l.length := by omega
  have hlt : ((j : Int) < l.length) := by omega
  have hj0 : (0 : Int) ≤ (j : Int) := by omega
  have hw : IntKind.i64.wrap ((j : Int) + 1) = ((j + 1 : Nat) : Int) := w64 (by omega) (by omega)
  have hat : (Aj l)[j]? = some (.agg [.str l[j].1, .int .u8 l[j].2]) := by simp [Aj, List.getElem?_eq_getElem hj, rlD]
  have htk : Aj (l.take (j + 1)) = Aj (l.take j) ++ [.agg [.str l[j].1, .int .u8 l[j].2]] := by
   have e : l.take (j + 1) = l.take j ++ [l[j]] := by rw [List.take_add_one, List.getElem?_eq_getElem hj]; rfl
   rw [e]; unfold Aj; rw [List.map_append]; rfl
  have hn : (l.take j).isEmpty = true → Aj (l.take j) = [] := fun h => by rw [List.isEmpty_iff.1 h]; rfl
  have hlen : (Aj (l.take j)).length ≤ 1000 := by rw [An, List.length_take]; omega
  have hlen2 : (l.take j).length ≤ 1000 := by rw [List.length_take]; omega
  have hem := isE_take hj
  obtain ⟨st_s, st_m, st_c⟩ := st
  simp only at h0 h3 hg h4
  simp only [↓go1, gB1, reduceIte, Nat.reduceEqDiff, Nat.reduceAdd, h0, h3, h4, hlt, hj0, Int.toNat_natCast, hat, An, and_false, reduceCtorEq, Nat.reduceLeDiff, List.take_succ_cons, List.take_zero, and_false]
  refine AA.intro ⟨by omega, rfl, hg.grow (by omega)⟩ ?_
  rw [C3 hn]
  simp only [↓go1, go2, go3, go4, reduceIte, Nat.reduceEqDiff, Nat.reduceAdd, h4, hw]
  refine ih (j + 1) [st_c + 4 + 6] _ _ (by omega) h0 ?_ ?_ rfl
  ·rw [hem, htk]; rfl
  ·rw [hem]
   exact Gw.new (by simp only; omega)
theorem ok53 : (Ai F53).ok Tryz.prog 53 := by
 refine AL (S := fun _ => none) Au fn53 (fun _ => by simp [mkRl]) (fun p hp => ?_)
 obtain ⟨nl, l⟩ := p
 simp only at hp
 unfold dc53 mkRl
 simp only [↓go1, go2, Nat.reduceAdd]
 refine loop53 (l := l) (nl := nl) hp (fun st t h => ?_) l.length 0 [] _ _ (by omega) rfl rfl (.inl rfl) rfl
 simp only [↓go1, go2, go3, go4, reduceIte, Nat.reduceEqDiff, Nat.reduceAdd, h]
def ownT (k : Tk) : Tk := (k.1, k.2.1, k.2.2.2.isEmpty, k.2.2.2)
noncomputable def F51 : List D → Option D := FX (fun k : Tk => [tkD k]) (fun k => k.2.2.2.length ≤ 1000) (fun k => tkD (ownT k))
theorem tkD_inj1 (x y : Tk) (e : [tkD x] = [tkD y]) : x = y := by
 simp only [List.cons.injEq, and_true] at e
 have : AC [x] = AC [y] := by simp [AC, e]
 simpa using tksD_inj this
theorem F51_eq {k : Tk} (h : k.2.2.2.length ≤ 1000) : F51 [tkD k] = some (tkD (ownT k)) := AP (mk := fun k : Tk => [tkD k]) (a := k) tkD_inj1 h
theorem ok51 : (Ai F51).ok Tryz.prog 51 := by
 obtain ⟨S, hS, hl⟩ := AJ (Ab ok53 Ae)
 have s53 := hl 53 _ rfl
 clear hl
 refine AL hS fn51 (fun _ => by simp) (fun k hk => ?_)
 obtain ⟨x1, x2, x3, x4⟩ := k
 simp only at hk
 have h53 := F53_eq (nl := x3) (l := x4) hk
 unfold dc51 tkD ownT
 simp only
 simp only [↓go1, gB0, reduceIte, Nat.reduceEqDiff, Nat.reduceAdd, A2, Bt, List.nil_append, List.map_cons, List.map_nil, Aa s53, h53, Ac, Ag, Ah, Nat.reduceLT, Nat.reduceLeDiff, Option.bind_some, List.take_succ_cons, List.take_zero, Option.isSome_some, List.drop_zero, List.drop_succ_cons, List.cons.injEq, Nat.zero_ne_one, Nat.succ_ne_zero]
 refine AA.intro (Al rfl) ?_
 simp only [↓go1, gB0, reduceIte, Nat.reduceEqDiff, Nat.reduceAdd, List.map_cons, List.map_nil, Ac, Ag, Ah, Nat.reduceLT, Option.bind_some, List.cons.injEq, Nat.succ_ne_zero, AR, AE]
 all_goals (first | rfl | exact ⟨rfl, rfl⟩)
noncomputable def F46 : List D → Option D := FX (fun m : Mt => [mtD m]) (fun _ => True) (fun m => mtD m)
theorem mtD_inj1 (x y : Mt) (e : [mtD x] = [mtD y]) : x = y := by
 simp only [List.cons.injEq, and_true] at e
 have : Ar [x] = Ar [y] := by simp [Ar, e]
 simpa using mtsD_inj this
theorem F46_eq {m : Mt} : F46 [mtD m] = some (mtD m) := AP (mk := fun m : Mt => [mtD m]) (a := m) mtD_inj1 trivial
theorem ok46 : (Ai F46).ok Tryz.prog 46 := by
 refine AL (S := fun _ => none) Au fn46 (fun _ => by simp) (fun m _ => ?_)
 obtain ⟨x1, x2, x3⟩ := m
 unfold dc46 mtD
 simp only
 simp only [↓go1, gB0, reduceIte, Nat.reduceEqDiff, Nat.reduceAdd, A2, Bt, List.nil_append, List.map_cons, List.map_nil, Ac, Ag, Ah, Nat.reduceLT, Nat.reduceLeDiff, Option.bind_some, List.take_succ_cons, List.take_zero, Option.isSome_some, List.drop_zero, List.drop_succ_cons, List.cons.injEq, Nat.zero_ne_one, Nat.succ_ne_zero, AR, AE]
 all_goals (first | rfl | exact ⟨rfl, rfl⟩)
def ownA (a : Ak) : Ak := { a with nlr := a.rs.isEmpty }
noncomputable def F18 : List D → Option D := FX mkA (fun a => a.rs.length ≤ 1000) (fun a => akD (ownA a))
theorem F18_eq {a : Ak} (h : a.rs.length ≤ 1000) : F18 [akD a] = some (akD (ownA a)) := AP (mk := mkA) (a := a) mkA_inj h
theorem ok18 : (Ai F18).ok Tryz.prog 18 := by
 obtain ⟨S, hS, hl⟩ := AJ (Ab ok53 Ae)
 have s53 := hl 53 _ rfl
 clear hl
 refine AL hS fn18 (fun _ => by simp [mkA]) (fun a ha => ?_)
 have h53 := F53_eq (nl := a.nlr) (l := a.rs) ha
 unfold dc18 mkA akD akC ownA
 simp only [↓go1, gB0, reduceIte, Nat.reduceEqDiff, Nat.reduceAdd, A2, Bt, List.nil_append, List.map_cons, List.map_nil, Aa s53, h53, Ac, Ag, Ah, Nat.reduceLT, Nat.reduceLeDiff, Option.bind_some, List.take_succ_cons, List.take_zero, Option.isSome_some, List.drop_zero, List.drop_succ_cons, List.cons.injEq, Nat.zero_ne_one, Nat.succ_ne_zero]
 refine AA.intro (Al rfl) ?_
 simp only [↓go1, gB0, reduceIte, Nat.reduceEqDiff, Nat.reduceAdd, List.map_cons, List.map_nil, Ac, Ag, Ah, Nat.reduceLT, Option.bind_some, List.cons.injEq, Nat.succ_ne_zero, AR, AE]
 all_goals (first | rfl | exact ⟨rfl, rfl⟩)
def keyV (k : Bs) (nl : Bool) : Vw := ⟨false, 1, k, true, [], nl, [firstTk]⟩
def F23 : List D → Option D
 | [.str k] => some (vwD (keyV k false))
 | _ => none
theorem ok23 : (Ai F23).ok Tryz.prog 23 := by
 obtain ⟨S, hS, hl⟩ := AJ (Ab ok48 Ae)
 have s48 := hl 48 _ rfl
 clear hl
 refine As (S := S) hS fn23 (fun ds r h => ?_) (fun ds r h => ?_)
 ·unfold F23 at h; split at h
  ·simp
  ·cases h
 ·unfold F23 at h; split at h
  ·simp only [Option.some.injEq] at h
   subst h
   have h48 : F48 [] = some (.agg [.slice false [] (AC [firstTk])]) := rfl
   unfold dc23
   simp only [↓go1, gB0, reduceIte, Nat.reduceEqDiff, Nat.reduceAdd, A2, Bt, List.nil_append, List.map_cons, List.map_nil, reduceCtorEq, Aa s48, h48, Ac, Ag, Ah, Nat.reduceLT, Nat.reduceLeDiff, Option.bind_some, List.take_succ_cons, List.take_zero, Option.isSome_some, List.drop_zero, List.drop_succ_cons, AR, AE]
   all_goals (first | rfl | exact ⟨rfl, rfl⟩)
  ·cases h
theorem ok24 : (Ai F23).ok Tryz.prog 24 := by
 obtain ⟨S, hS, hl⟩ := AJ (Ab ok49 Ae)
 have s49 := hl 49 _ rfl
 clear hl
 refine As (S := S) hS fn24 (fun ds r h => ?_) (fun ds r h => ?_)
 ·unfold F23 at h; split at h
  ·simp
  ·cases h
 ·unfold F23 at h; split at h
  ·simp only [Option.some.injEq] at h
   subst h
   have h49 : F49 [] = some (.slice false [] (AC [firstTk])) := rfl
   unfold dc24
   simp only [↓go1, gB0, reduceIte, Nat.reduceEqDiff, Nat.reduceAdd, A2, Bt, List.nil_append, List.map_cons, List.map_nil, reduceCtorEq, Aa s49, h49, Ac, Ag, Ah, Nat.reduceLT, Nat.reduceLeDiff, Option.bind_some, List.take_succ_cons, List.take_zero, Option.isSome_some, List.drop_zero, List.drop_succ_cons, AR, AE]
   all_goals (first | rfl | exact ⟨rfl, rfl⟩)
  ·cases h
theorem putS {m : Mem} {i : Id} {x y : D} : (m.put i 0 [x]).put i 0 [y] = m.put i 0 [y] := by
 funext j p
 rw [Ac, Ac, Ac]
 by_cases h : j = i ∧ 0 ≤ p ∧ p < 0 + [y].length
 ·rw [if_pos h, if_pos h]
 ·rw [if_neg h, if_neg h]; exact if_neg h
def Cb (s : Bool × List Mt) (m : Mt) : Bool × List Mt := match (addE s.2 m).1 with
 | none => s
 | some l => (false, l)
def BG (s : Bool × List Mt) (m : Mt) : Bool × List Mt := match (addR s.2 m).1 with
 | none => s
 | some l => (false, l)
theorem tabD_st (s : Bool × List Mt) (m : Mt) : tabD s.1 s.2 (addE s.2 m).1 = .agg [.slice (Cb s m).1 [] (Ar (Cb s m).2)] := by
 unfold Cb; cases (addE s.2 m).1 <;> rfl
theorem tabR_st (s : Bool × List Mt) (m : Mt) : tabR s.1 s.2 (addR s.2 m).1 = .slice (BG s m).1 [] (Ar (BG s m).2) := by
 unfold BG; cases (addR s.2 m).1 <;> rfl
def MtOk (s : Bool × List Mt) (n : Nat) : Prop := s.2.length ≤ n ∧ (s.1 = true → s.2 = [])
theorem addSt_ok {s : Bool × List Mt} {m : Mt} {n : Nat} (h : MtOk s n) : MtOk (Cb s m) (n + 1) := by
 unfold Cb addE
 repeat' split
 all_goals first | exact ⟨Nat.le_succ_of_le h.1, h.2⟩ | skip
 all_goals (rename_i he; revert he; repeat' split)
 all_goals intro he
 all_goals (cases he)
 all_goals exact ⟨by rw [isortR_len, List.length_append]; exact Nat.succ_le_succ h.1, fun h => by cases h⟩
theorem addRt_ok {s : Bool × List Mt} {m : Mt} {n : Nat} (h : MtOk s n) (hp : ∀ x ∈ s.2, x.1.length ≤ 1000) (hm : m.1.length ≤ 1000) : MtOk (BG s m) (n + 1) ∧ ∀ x ∈ (BG s m).2, x.1.length ≤ 1000 := by
 unfold BG addR
 repeat' split
 all_goals first | exact ⟨⟨Nat.le_succ_of_le h.1, h.2⟩, hp⟩ | skip
 all_goals (rename_i he; revert he; repeat' split)
 all_goals intro he
 all_goals (cases he)
 all_goals
  refine ⟨⟨?_, fun h => by cases h⟩, fun x hx => ?_⟩
  ·have := h.1
   simp only [List.length_append, List.length_cons, List.length_take, List.length_drop]; omega
  ·rcases List.mem_append.1 hx with h1 | h1
   ·exact hp x (List.mem_of_mem_take h1)
   ·rcases List.mem_cons.1 h1 with rfl | h1
    ·exact hm
    ·exact hp x (List.mem_of_mem_drop h1)
def Bl (s : Bool × List Tk) (k : Tk) : Bool × List Tk := match (El s.2 (ownT k)).1 with
 | none => s
 | some l => (false, l)
def BE (s : Bool × List Tk) (k : Tk) : Bool × List Tk := match (makeR s.2 k).1 with
 | none => s
 | some l => (false, l)
theorem setD_st (s : Bool × List Tk) (k : Tk) : setD s.1 s.2 (El s.2 (ownT k)).1 = .agg [.slice (Bl s k).1 [] (AC (Bl s k).2)] := by
 unfold Bl; cases (El s.2 (ownT k)).1 <;> rfl
theorem setR_st (s : Bool × List Tk) (k : Tk) : setR s.1 s.2 (makeR s.2 k).1 = .slice (BE s k).1 [] (AC (BE s k).2) := by
 unfold BE; cases (makeR s.2 k).1 <;> rfl
def TkG (k : Tk) : Prop := k.1.length ≤ 1000 ∧ k.2.1.length ≤ 1000 ∧ tkOk k ∧ DN k.2.2.2
def D1 (s : Bool × List Tk) (n : Nat) : Prop := s.2.length ≤ n ∧ ∀ k ∈ s.2, TkG k
theorem ownT_ok {k : Tk} (h : TkG k) : TkG (ownT k) := ⟨h.1, h.2.1, ⟨h.2.2.1.1, fun e => List.isEmpty_iff.1 e⟩, h.2.2.2⟩
theorem mid_ok {l : List Tk} {k : Tk} {j n : Nat} (h : l.length ≤ n) (hl : ∀ k ∈ l, TkG k) (hk : TkG k) : D1 (false, l.take j ++ k :: l.drop j) (n + 1) := by
 refine ⟨?_, fun x hx => ?_⟩
 ·simp only [List.length_append, List.length_cons, List.length_take, List.length_drop]; omega
 ·rcases List.mem_append.1 hx with h1 | h1
  ·exact hl x (List.mem_of_mem_take h1)
  ·rcases List.mem_cons.1 h1 with rfl | h1
   ·exact hk
   ·exact hl x (List.mem_of_mem_drop h1)
theorem makeSt_ok {s : Bool × List Tk} {k : Tk} {n : Nat} (h : D1 s n) (hk : TkG k) : D1 (Bl s k) (n + 1) := by
 unfold Bl El
 repeat' split
 all_goals first | exact ⟨Nat.le_succ_of_le h.1, h.2⟩ | skip
 all_goals (rename_i he; revert he; repeat' split)
 all_goals intro he
 all_goals (cases he)
 all_goals exact mid_ok h.1 h.2 (ownT_ok hk)
theorem makeRt_ok {s : Bool × List Tk} {k : Tk} {n : Nat} (h : D1 s n) (hk : TkG k) : D1 (BE s k) (n + 1) := by
 unfold BE makeR
 repeat' split
 all_goals first | exact ⟨Nat.le_succ_of_le h.1, h.2⟩ | skip
 all_goals (rename_i he; revert he; repeat' split)
 all_goals intro he
 all_goals (cases he)
 all_goals exact mid_ok h.1 h.2 hk
open Classical in
theorem F50_eq {nl0 nl : Bool} {l : List Tk} {n p : Bs} {rs : List Rl} (hl : l.length ≤ 90000) (hk : ∀ k ∈ l, DN k.2.2.2) (hn : nl = true → rs = []) (hr : DN rs) (h1 : n.length ≤ 1000000) (h2 : p.length ≤ 1000000) :
  F50 [.agg [.slice nl0 [] (AC l)], .agg [.str n, .str p, .slice nl [] (Aj rs)]] = some (.tup [setD nl0 l (El l (n, p, nl, rs)).1, .int .i64 (El l (n, p, nl, rs)).2]) := by
 have h : (Df (AC l) ∧ (AC l).length ≤ 90000 ∧ ∀ k ∈ BD (AC l), DN k.2.2.2) ∧ rlsOk nl (Aj rs) ∧ DN (A0 (Aj rs)) ∧ n.length ≤ 1000000 ∧ p.length ≤ 1000000 :=
  ⟨⟨CX (by omega), by rw [AI]; exact hl, by rw [A5]; exact hk⟩, rlsOk_mk hr.1 hn, by rw [AN]; exact hr, h1, h2⟩
 show (if _ then _ else _) = _
 rw [if_pos h, A5, AN]
open Classical in
theorem F52_eq {nl0 nl : Bool} {l : List Tk} {n p : Bs} {rs : List Rl} (hl : l.length ≤ 90000) (hk : ∀ k ∈ l, DN k.2.2.2) (hn : nl = true → rs = []) (hr : DN rs) (h1 : n.length ≤ 1000000) (h2 : p.length ≤ 1000000) :
  F52 [.slice nl0 [] (AC l), .agg [.str n, .str p, .slice nl [] (Aj rs)]] = some (.tup [setR nl0 l (makeR l (n, p, nl, rs)).1, .int .i64 (makeR l (n, p, nl, rs)).2]) := by
 have h : (Df (AC l) ∧ (AC l).length ≤ 90000 ∧ ∀ k ∈ BD (AC l), DN k.2.2.2) ∧ rlsOk nl (Aj rs) ∧ DN (A0 (Aj rs)) ∧ n.length ≤ 1000000 ∧ p.length ≤ 1000000 :=
  ⟨⟨CX (by omega), by rw [AI]; exact hl, by rw [A5]; exact hk⟩, rlsOk_mk hr.1 hn, by rw [AN]; exact hr, h1, h2⟩
 show (if _ then _ else _) = _
 rw [if_pos h, A5, AN]
structure SeenOk (v : Vw) : Prop where
 ml : v.ms.length ≤ 8
 mp : ∀ m ∈ v.ms, m.1.length ≤ 1000
 kl : v.ks.length ≤ 12
 kp : ∀ k ∈ v.ks, TkG k
 kr : ∀ k ∈ v.ks, k.2.2.2.length ≤ 1000
def z5 : List D := [.bool false, .int .i64 0, .str [], .slice true [] [], .slice true [] []]
def Eu (v : Vw) : Mem := (((Mem.put (fun _ _ => none) [0] 0 (vwC v)).put [1] 0 z5).put [2] 0 z5)
theorem vM0 {v : Vw} {k : Nat} {d : D} (hd : (vwC v)[k]? = some d) : Eu v [0] k = some d := by
 unfold Eu
 rw [Mem.put_other (by decide), Mem.put_other (by decide)]
 have hk := (List.getElem?_eq_some_iff.1 hd).1
 rw [Ac, if_pos ⟨rfl, Nat.zero_le _, by omega⟩]; exact hd
theorem loop17a {S : Summs} {v : Vw} {Q : Ex → St → Prop} (s46 : S 46 = some (Ai F46)) (s45 : S 45 = some (Ai F45)) (s47 : S 47 = some (Ai F47)) (hv : SeenOk v)
  (hexit : ∀ st : St, 6 ≤ st.c → st.s 1 = .ptr [0] 0 → st.s 2 = .ptr [1] 0 → st.s 3 = .ptr [2] 0 → st.s 4 = .ptr [3] 0 → st.s 5 = .slice (v.ms.foldl BG (true, [])).1 [] (Ar (v.ms.foldl BG (true, [])).2) → st.m = (Eu v).put [3] 0 [.slice (v.ms.foldl Cb (true, [])).1 [] (Ar (v.ms.foldl Cb (true, [])).2)] → Q (.exit 0) st) :
  ∀ (f j : Nat) (a r : Bool × List Mt) (st : St) g, v.ms.length = j + f → a = (v.ms.take j).foldl Cb (true, []) → r = (v.ms.take j).foldl BG (true, []) → MtOk a j → MtOk r j → (∀ x ∈ r.2, x.1.length ≤ 1000) →
   6 ≤ st.c → st.s 1 = .ptr [0] 0 → st.s 2 = .ptr [1] 0 → st.s 3 = .ptr [2] 0 → st.s 4 = .ptr [3] 0 → st.s 5 = .slice r.1 [] (Ar r.2) → st.s 6 = .int .i64 (j : Int) → st.m = (Eu v).put [3] 0 [.slice a.1 [] (Ar a.2)] → AV S [] dc17l0 Q st g := by
 have hml := hv.ml
 have m3 : ∀ x, (Eu v).put [3] 0 [x] [0] 3 = some (.slice v.nlm [] (Ar v.ms)) := fun x => by rw [Mem.put_other (by decide)]; exact vM0 rfl
 intro f
 induction f with
 | zero =>
  intro j a r st g hf ha hr oa or hp hc h1 h2 h3 h4 h5 h6 hm
  refine Ad dc17l0.eq_1 ?_
  have : ¬ ((j : Int) < v.ms.length) := by omega
  rw [List.take_of_length_le (by omega)] at ha hr
  subst ha hr
  simp only [↓go1, go2, go4, reduceIte, Nat.reduceEqDiff, Nat.reduceAdd, h1, h6, hm, m3, Aq, this]
  exact hexit _ (by simp only; omega) h1 h2 h3 h4 h5 rfl
 | succ f ih =>
  intro j a r st g hf ha hr oa or hp hc h1 h2 h3 h4 h5 h6 hm
  refine Ad dc17l0.eq_1 ?_
  have hj : j < v.ms.length := by omega
  have hlt : ((j : Int) < v.ms.length) := by omega
  have hj0 : (0 : Int) ≤ (j : Int) := by omega
  have hw : IntKind.i64.wrap ((j : Int) + 1) = ((j + 1 : Nat) : Int) := w64 (by omega) (by omega)
  have hat : (Ar v.ms)[j]? = some (.agg [.str v.ms[j].1, .int .i64 v.ms[j].2.1, .bool v.ms[j].2.2]) := by simp [Ar, List.getElem?_eq_getElem hj, mtD]
  have htk : v.ms.take (j + 1) = v.ms.take j ++ [v.ms[j]] := by rw [List.take_add_one, List.getElem?_eq_getElem hj]; rfl
  have hmem := hv.mp _ (List.getElem_mem hj)
  generalize v.ms[j] = x at hat htk hmem
  have ha' : Cb a x = (v.ms.take (j + 1)).foldl Cb (true, []) := by rw [htk, List.foldl_append, ← ha]; rfl
  have hr' : BG r x = (v.ms.take (j + 1)).foldl BG (true, []) := by rw [htk, List.foldl_append, ← hr]; rfl
  have oa' := addSt_ok (m := x) oa
  have or' := addRt_ok or hp hmem
  have h46 : F46 [.agg [.str x.1, .int .i64 x.2.1, .bool x.2.2]] = some (.agg [.str x.1, .int .i64 x.2.1, .bool x.2.2]) := F46_eq (m := x)
  have l1 := oa.1
  have l2 := or.1
  have h45 : F45 [.agg [.slice a.1 [] (Ar a.2)], .agg [.str x.1, .int .i64 x.2.1, .bool x.2.2]] = some (.tup [.agg [.slice (Cb a x).1 [] (Ar (Cb a x).2)], .int .i64 (addE a.2 x).2]) := by
   rw [← tabD_st]; exact F45_eq (m := x) (by omega) oa.2 (by omega)
  have h47 : F47 [.slice r.1 [] (Ar r.2), .agg [.str x.1, .int .i64 x.2.1, .bool x.2.2]] = some (.tup [.slice (BG r x).1 [] (Ar (BG r x).2), .int .i64 (addR r.2 x).2]) := by
   rw [← tabR_st]; exact F47_eq (m := x) (by omega) or.2 (by omega) (fun y hy => Nat.le_trans (hp y hy) (by omega))
  generalize (addE a.2 x).2 = e1 at h45
  generalize (addR r.2 x).2 = e2 at h47
  generalize Cb a x = a' at ha' oa' h45
  generalize BG r x = r' at hr' or' h47
  obtain ⟨st_s, st_m, st_c⟩ := st
  simp only at hc h1 h2 h3 h4 h5 h6 hm
  subst hm
  simp only [↓go1, gB0, reduceIte, Nat.reduceEqDiff, Nat.reduceAdd, h1, h4, h6, m3, Aq, hlt, hj0, Int.toNat_natCast, hat, Aa s46, h46, Aa s45, h45, Ac, Ag, Ah, Nat.reduceLT, Nat.reduceLeDiff, Option.bind_some, List.take_succ_cons, List.take_zero, Option.isSome_some]
  refine AA.intro (Al (by simp [Bh, A1, rds, AG]; done)) ?_
  simp only [↓go1, gB1, reduceIte, Nat.reduceEqDiff, Nat.reduceAdd, h1, h5, h6, m3, hj0, hw, Int.toNat_natCast, hat, Aa s47, h47, putS, Nat.reduceLeDiff, List.getElem?_cons_zero, List.getElem?_cons_succ, List.take_succ_cons, List.take_zero]
  exact ih (j + 1) a' r' _ _ (by omega) ha' hr' oa' or'.1 or'.2 (by simp only; omega) h1 h2 h3 h4 rfl rfl putS
theorem loop17b {S : Summs} {v : Vw} {M : Mem} {q : Nat} {s5 : D} {Q : Ex → St → Prop} (s51 : S 51 = some (Ai F51)) (s50 : S 50 = some (Ai F50)) (s52 : S 52 = some (Ai F52)) (hv : SeenOk v) (hq : 4 ≤ q) (hM : ∀ k d, (vwC v)[k]? = some d → M [0] k = some d)
  (hexit : ∀ st : St, q < st.c → st.s 1 = .ptr [0] 0 → st.s 2 = .ptr [1] 0 → st.s 3 = .ptr [2] 0 → st.s 4 = .ptr [3] 0 → st.s 7 = .ptr [q] 0 → st.s 8 = .slice (v.ks.foldl BE (false, [firstTk])).1 [] (AC (v.ks.foldl BE (false, [firstTk])).2) → st.s 5 = s5 → st.m = M.put [q] 0 [.slice (v.ks.foldl Bl (false, [firstTk])).1 [] (AC (v.ks.foldl Bl (false, [firstTk])).2)] → Q (.exit 2) st) :
  ∀ (f j : Nat) (a r : Bool × List Tk) (st : St) g, v.ks.length = j + f → a = (v.ks.take j).foldl Bl (false, [firstTk]) → r = (v.ks.take j).foldl BE (false, [firstTk]) → D1 a (j + 1) → D1 r (j + 1) →
   q < st.c → st.s 1 = .ptr [0] 0 → st.s 2 = .ptr [1] 0 → st.s 3 = .ptr [2] 0 → st.s 4 = .ptr [3] 0 → st.s 5 = s5 → st.s 7 = .ptr [q] 0 → st.s 8 = .slice r.1 [] (AC r.2) → st.s 9 = .int .i64 (j : Int) → st.m = M.put [q] 0 [.slice a.1 [] (AC a.2)] → AV S [] dc17l1 Q st g := by
 have hkl := hv.kl
 have m4 : ∀ x, M.put [q] 0 [x] [0] 4 = some (.slice v.nlt [] (AC v.ks)) := fun x => by rw [Mem.put_other (by simp; omega)]; exact hM _ _ rfl
 intro f
 induction f with
 | zero =>
  intro j a r st g hf ha hr oa or hc h1 h2 h3 h4 h5 h7 h8 h9 hm
  refine Ad dc17l1.eq_1 ?_
  have : ¬ ((j : Int) < v.ks.length) := by omega
  rw [List.take_of_length_le (by omega)] at ha hr
  subst ha hr
  simp only [↓go1, go2, go4, reduceIte, Nat.reduceEqDiff, Nat.reduceAdd, h1, h9, hm, m4, AI, this]
  exact hexit _ (by simp only; omega) h1 h2 h3 h4 h7 h8 h5 rfl
 | succ f ih =>
  intro j a r st g hf ha hr oa or hc h1 h2 h3 h4 h5 h7 h8 h9 hm
  refine Ad dc17l1.eq_1 ?_
  have hj : j < v.ks.length := by omega
  have hlt : ((j : Int) < v.ks.length) := by omega
  have hj0 : (0 : Int) ≤ (j : Int) := by omega
  have hw : IntKind.i64.wrap ((j : Int) + 1) = ((j + 1 : Nat) : Int) := w64 (by omega) (by omega)
  have hat : (AC v.ks)[j]? = some (.agg [.str v.ks[j].1, .str v.ks[j].2.1, .slice v.ks[j].2.2.1 [] (Aj v.ks[j].2.2.2)]) := by simp [AC, List.getElem?_eq_getElem hj, tkD]
  have htk : v.ks.take (j + 1) = v.ks.take j ++ [v.ks[j]] := by rw [List.take_add_one, List.getElem?_eq_getElem hj]; rfl
  have hmem := hv.kp _ (List.getElem_mem hj)
  have hx4 := hv.kr _ (List.getElem_mem hj)
  generalize v.ks[j] = x at hat htk hmem hx4
  have ha' : Bl a x = (v.ks.take (j + 1)).foldl Bl (false, [firstTk]) := by rw [htk, List.foldl_append, ← ha]; rfl
  have hr' : BE r x = (v.ks.take (j + 1)).foldl BE (false, [firstTk]) := by rw [htk, List.foldl_append, ← hr]; rfl
  have oa' := makeSt_ok oa hmem
  have or' := makeRt_ok or hmem
  obtain ⟨x1, x2, x3, x4⟩ := x
  obtain ⟨p1, p2, ⟨p3, p4⟩, p5⟩ := hmem
  simp only at p1 p2 p3 p4 p5
  simp only at hat
  simp only at hx4
  have h51 : F51 [.agg [.str x1, .str x2, .slice x3 [] (Aj x4)]] = some (.agg [.str x1, .str x2, .slice x4.isEmpty [] (Aj x4)]) := F51_eq (k := (x1, x2, x3, x4)) hx4
  have l1 := oa.1
  have l2 := or.1
  have h50 : F50 [.agg [.slice a.1 [] (AC a.2)], .agg [.str x1, .str x2, .slice x4.isEmpty [] (Aj x4)]] = some (.tup [.agg [.slice (Bl a (x1, x2, x3, x4)).1 [] (AC (Bl a (x1, x2, x3, x4)).2)], .int .i64 (El a.2 (x1, x2, x4.isEmpty, x4)).2]) := by
   rw [← setD_st]; exact F50_eq (by omega) (fun k hk => (oa.2 k hk).2.2.2) (fun e => List.isEmpty_iff.1 e) p5 (by omega) (by omega)
  have h52 : F52 [.slice r.1 [] (AC r.2), .agg [.str x1, .str x2, .slice x3 [] (Aj x4)]] = some (.tup [.slice (BE r (x1, x2, x3, x4)).1 [] (AC (BE r (x1, x2, x3, x4)).2), .int .i64 (makeR r.2 (x1, x2, x3, x4)).2]) := by
   rw [← setR_st]; exact F52_eq (by omega) (fun k hk => (or.2 k hk).2.2.2) p4 p5 (by omega) (by omega)
  generalize (El a.2 (x1, x2, x4.isEmpty, x4)).2 = e1 at h50
  generalize (makeR r.2 (x1, x2, x3, x4)).2 = e2 at h52
  generalize Bl a (x1, x2, x3, x4) = a' at ha' oa' h50
  generalize BE r (x1, x2, x3, x4) = r' at hr' or' h52
  obtain ⟨st_s, st_m, st_c⟩ := st
  simp only at hc h1 h2 h3 h4 h5 h7 h8 h9 hm
  subst hm
  simp only [↓go1, gB0, reduceIte, Nat.reduceEqDiff, Nat.reduceAdd, h1, h7, h9, m4, AI, hlt, hj0, Int.toNat_natCast, hat, Aa s51, h51, Aa s50, h50, Ac, Ag, Ah, Nat.reduceLT, Nat.reduceLeDiff, Option.bind_some, List.take_succ_cons, List.take_zero, Option.isSome_some]
  refine AA.intro (Al (by simp [Bh, A1, rds, AG]; done)) ?_
  simp only [↓go1, gB1, reduceIte, Nat.reduceEqDiff, Nat.reduceAdd, h1, h8, h9, m4, hj0, hw, Int.toNat_natCast, hat, Aa s52, h52, putS, Nat.reduceLeDiff, List.getElem?_cons_zero, List.getElem?_cons_succ, List.take_succ_cons, List.take_zero]
  exact ih (j + 1) a' r' _ _ (by omega) ha' hr' oa' or' (by simp only; omega) h1 h2 h3 h4 h5 h7 rfl rfl putS
theorem res_cells {s : Nat → D} {m : Mem} {k k' : Option Nat} {a b : Nat} : BX [.cell k a, .cell k' b] s m = (ldD m k (s a)).bind fun d => (ldD m k' (s b)).map fun d' => .tup [d, d'] := by
 simp only [BX, rvAll, RV.of]
 cases ldD m k (s a) <;> cases ldD m k' (s b) <;> rfl
def teV (n : Int) : Int := IntKind.i64.wrap (1 + IntKind.i64.wrap ((IntKind.u64.wrap n).tmod 6))
def Ee (v : Vw) : Vw := ⟨v.se, teV v.te, v.key, (v.ms.foldl Cb (true, [])).1, (v.ms.foldl Cb (true, [])).2, (v.ks.foldl Bl (false, [firstTk])).1, (v.ks.foldl Bl (false, [firstTk])).2⟩
def Eo (v : Vw) : Vw := ⟨v.se, teV v.te, v.key, (v.ms.foldl BG (true, [])).1, (v.ms.foldl BG (true, [])).2, (v.ks.foldl BE (false, [firstTk])).1, (v.ks.foldl BE (false, [firstTk])).2⟩
noncomputable def F17 : List D → Option D := FX mkV SeenOk (fun v => .tup [vwD (Ee v), vwD (Eo v)])
theorem F17_eq {v : Vw} (h : SeenOk v) : F17 [vwD v] = some (.tup [vwD (Ee v), vwD (Eo v)]) := AP (mk := mkV) (a := v) mkV_inj h
theorem first_ok : D1 (false, [firstTk]) 1 := ⟨by decide, fun k hk => by
 rw [List.mem_singleton.1 hk]
 refine ⟨by decide, by decide, ⟨by decide, by decide⟩, ⟨by decide, fun r hr => ?_, fun r hr => ?_⟩⟩
 ·rw [List.mem_singleton.1 hr]; decide
 ·rw [List.mem_singleton.1 hr]; decide⟩
theorem ok17 : (Ai F17).ok Tryz.prog 17 := by
 obtain ⟨S, hS, hl⟩ := AJ (Ab ok46 (Ab ok45 (Ab ok47 (Ab ok48 (Ab ok49 (Ab ok51 (Ab ok50 (Ab ok52 Ae))))))))
 have s46 := hl 46 _ rfl
 have s45 := hl 45 _ rfl
 have s47 := hl 47 _ rfl
 have s48 := hl 48 _ rfl
 have s49 := hl 49 _ rfl
 have s51 := hl 51 _ rfl
 have s50 := hl 50 _ rfl
 have s52 := hl 52 _ rfl
 clear hl
 refine AL hS fn17 (fun _ => by simp [mkV]) (fun v hv => ?_)
 have h48 : F48 [] = some (.agg [.slice false [] (AC [firstTk])]) := rfl
 have h49 : F49 [] = some (.slice false [] (AC [firstTk])) := rfl
 unfold dc17 mkV vwD
 simp only [↓go1, go2, go3, Nat.reduceAdd, Aw]
 refine loop17a (v := v) s46 s45 s47 hv (fun st hc h1 h2 h3 h4 h5 hm => ?_) v.ms.length 0 (true, []) (true, []) _ _ (by omega) rfl rfl ⟨Nat.le_refl _, fun _ => rfl⟩ ⟨Nat.le_refl _, fun _ => rfl⟩ (fun x hx => by cases hx) (by simp only; omega) rfl rfl rfl rfl rfl rfl rfl
 obtain ⟨st_s, st_m, st_c⟩ := st
 simp only at hc h1 h2 h3 h4 h5 hm
 subst hm
 have hM : ∀ x k d, (vwC v)[k]? = some d → (Eu v).put [3] 0 [x] [0] k = some d := fun x k d hd => by rw [Mem.put_other (by decide)]; exact vM0 hd
 generalize hA : v.ms.foldl Cb (true, []) = A
 generalize hR : v.ms.foldl BG (true, []) = R at h5
 simp only [↓go1, gB1, reduceIte, Nat.reduceEqDiff, Nat.reduceAdd, Aa s48, h48, Aa s49, h49, Ac, Ag, Ah, Nat.zero_le, Nat.reduceLT, Nat.sub_zero, List.getElem?_cons_zero, and_self, Option.bind_some, Option.isSome_some, List.cons.injEq]
 refine loop17b (v := v) (M := (Eu v).put [3] 0 [.slice A.1 [] (Ar A.2)]) (q := st_c + 2) (s5 := .slice R.1 [] (Ar R.2)) s51 s50 s52 hv (by omega) (hM _) (fun st hc1 h1 h2 h3 h4 h7 h8 h5 hm => ?_) v.ks.length 0 (false, [firstTk]) (false, [firstTk]) _ _ (by omega) rfl rfl first_ok first_ok (by simp only; omega) h1 h2 h3 h4 h5 rfl rfl rfl putS
 obtain ⟨u_s, u_m, u_c⟩ := st
 simp only at hc1 h1 h2 h3 h4 h5 h7 h8 hm
 have hA1 : Af u_m [3] 0 1 = some [.slice A.1 [] (Ar A.2)] := by rw [hm, AD (by simp <;> omega)]; exact Av rfl
 have hT1 : Af u_m [st_c + 2] 0 1 = some [.slice (Ee v).nlt [] (AC (Ee v).ks)] := by rw [hm]; exact Av rfl
 have k0 : u_m [0] 0 = some (.bool v.se) := by rw [hm, Mem.put_other (by simp <;> omega)] <;> exact hM _ _ _ rfl
 have k1 : u_m [0] 1 = some (.int .i64 v.te) := by rw [hm, Mem.put_other (by simp <;> omega)] <;> exact hM _ _ _ rfl
 have k2 : u_m [0] 2 = some (.str v.key) := by rw [hm, Mem.put_other (by simp <;> omega)] <;> exact hM _ _ _ rfl
 have z1 : Af u_m [1] 0 5 = some z5 := by rw [hm, AD (by simp <;> omega), AD (by decide)]; unfold Eu; rw [AD (by decide)]; exact Av rfl
 have z2 : Af u_m [2] 0 5 = some z5 := by rw [hm, AD (by simp <;> omega), AD (by decide)]; unfold Eu; exact Av rfl
 have o1 : ∀ x, Af (u_m.put [1] 0 x) [2] 0 5 = some z5 := fun x => by rw [AD (by decide)]; exact z2
 have e1 : ∀ x y, x.length = 5 → Af ((u_m.put [1] 0 x).put [2] 0 y) [1] 0 5 = some x := fun x y hx => by rw [AD (by decide), Av hx]
 have e2 : ∀ x y, y.length = 5 → Af ((u_m.put [1] 0 x).put [2] 0 y) [2] 0 5 = some y := fun x y hy => by rw [Av hy]
 have hA2 : A.1 = (Ee v).nlm ∧ A.2 = (Ee v).ms := by subst hA; exact ⟨rfl, rfl⟩
 have hR2 : R.1 = (Eo v).nlm ∧ R.2 = (Eo v).ms := by subst hR; exact ⟨rfl, rfl⟩
 rw [hA2.1, hA2.2] at hA1
 rw [hR2.1, hR2.2] at h5
 have hU : st_c + 2 ≠ 1 ∧ st_c + 2 ≠ 2 := by omega
 replace h8 : u_s 8 = .slice (Eo v).nlt [] (AC (Eo v).ks) := h8
 clear hm hA2 hR2 hA hR hM
 simp only [↓go1, go2, reduceIte, Nat.reduceEqDiff, Nat.reduceAdd, h1, k1, Nat.zero_add]
 refine AA.intro (by decide) ?_
 simp only [↓go1, gB1, reduceIte, Nat.reduceEqDiff, Nat.reduceAdd, h1, h2, h3, h4, h5, h7, h8, hA1, hT1, k0, k2, z1, o1, A2, Bt, List.nil_append, List.map_cons, List.map_nil, Nat.reduceLeDiff, and_self, List.take_succ_cons, List.take_zero, Option.isSome_some, List.drop_zero, List.drop_succ_cons]
 refine AA.intro (Al ?_) ?_
 ·simp only [Bh, List.all_cons, List.all_nil, List.getD, List.getElem?_cons_zero, List.getElem?_cons_succ, Option.getD_some, A1, List.length_cons, List.length_nil, List.flatMap_cons, List.flatMap_nil, rds, ↓go1, reduceIte, Nat.reduceEqDiff, h2, h3, h4, h7]
  simp [AG]
  try omega
 simp only [↓go1, gB1, reduceIte, Nat.reduceEqDiff, Nat.reduceAdd, h2, h3, e1, e2, Bj, res_cells, ldD, List.map_cons, List.map_nil, Option.bind_some]
 rfl
end Go.Vd
namespace Go.Vd
open Go.Proofs
def dc255l0 : DC := (.seq (sr [mm 11 5, mm 12 0, nn 13 false 12, bt 14 .lss 11 13] (cd 14 .skip (.exit 0))) (.seq (.block 1 (.seq (.drawn [mm 17 0, mm 18 5, ii 19 2 17 18, lk 20 2 19, mm 21 1, mm 22 5, ii 23 2 21 22, lk 24 2 23, oo 25 (.seq true [(2, 0), (0, 1)] (.t 20) (.t 24))] []) (cd 25 (sr [cb 4 false] .ret) .skip))) (.row [mm 15 5, bi 16 .add 15 1, mm 5 16])))
def dc255 : DC := (sr [cb 4 false] (.seq (sr [mm 6 0, nn 7 false 6, mm 8 1, nn 9 false 8, bt 10 .neq 7 9] (cd 10 (sr [cb 4 false] .ret) .skip)) (.seq (sr [ci 5 0] (.block 0 (.loop dc255l0))) (sr [cb 4 true] .ret))))
theorem fn255 : Fn Tryz.prog 255 26 dc255 [.t 4] := Ao Tryz.func255
def dc149 : DC := (sr [oo 2 (.box (.t 0)), oo 3 (.box (.t 1)), cb 4 false] (sr [ff 5 0 2, ll 6 5, ff 7 0 3, ll 8 7, bt 9 .eql 6 8, mm 10 9, og 11 (.faddr 1 (.t 2)) 5 true, og 12 (.load none (.t 11)) 5 true, og 13 (.faddr 1 (.t 3)) 5 true, og 14 (.load none (.t 13)) 5 true, og 15 (.bin .eql (.t 12) (.t 14)) 5 true, oo 16 (.pick (.t 10) (.t 15) (.c (.bool false))), mm 17 16, og 18 (.faddr 2 (.t 2)) 12 true, og 19 (.load none (.t 18)) 12 true, og 20 (.faddr 2 (.t 3)) 12 true, og 21 (.load none (.t 20)) 12 true, og 22 (.call (.c (.fn 255 [])) [(.t 19), (.t 21)]) 12 true, oo 23 (.pick (.t 17) (.t 22) (.c (.bool false))), mm 4 23] .ret))
theorem fn149 : Fn Tryz.prog 149 24 dc149 [.t 4] := Ao Tryz.func149
def dc256l0 : DC := (.seq (sr [mm 5 4, mm 6 0, nn 7 false 6, bt 8 .lss 5 7] (cd 8 .skip (.exit 0))) (.seq (.block 1 (.row [mm 11 3, mm 12 0, mm 13 4, ii 14 2 12 13, lk 15 2 14, oo 16 (.bslice 191 2 [(.t 15)]), oo 17 (.app 191 2 24 (.t 11) (.t 16)), mm 3 17])) (.row [mm 9 4, bi 10 .add 9 1, mm 4 10])))
def dc256 : DC := (sr [oo 2 (.mv (.c (.slice true [] [])))] (sr [oo 3 (.mv (.c (.slice true [] [])))] (.seq (sr [ci 4 0] (.block 0 (.loop dc256l0))) (sr [mm 18 3, mm 2 18] .ret))))
theorem fn256 : Fn Tryz.prog 256 19 dc256 [.t 2] := Ao Tryz.func256
def dc150 : DC := (sr [oo 1 (.box (.t 0)), oo 2 (.alloc [(.str []), (.str []), (.slice true [] [])])] (.seq (.drawn [ff 3 0 1, ll 4 3, ff 5 1 1, ll 6 5, ff 7 2 1, ll 8 7, cc 9 256 [(.t 8)], oo 10 (.build [(.str []), (.str []), (.slice true [] [])] [(0, 1, (.t 4)), (1, 1, (.t 6)), (2, 1, (.t 9))]), oz (.store 3 (.t 2) (.t 10))] [(6, 1), (6, 3)]) .ret))
theorem fn150 : Fn Tryz.prog 150 11 dc150 [.cell (some 3) 2] := Ao Tryz.func150
def dc67l0 : DC := (.seq (sr [mm 16 6, mm 17 1, nn 18 false 17, bt 19 .lss 16 18] (cd 19 .skip (.exit 0))) (.seq (.block 1 (.seq (.drawn [lk 23 1 2, mm 24 1, mm 25 6, ii 26 3 24 25, ff 27 0 26, ll 28 27, cc 29 35 [(.t 23), (.t 28)], mm 22 29, xx 30 0 22, xx 31 1 22, oo 7 (.alloc [(.str []), (.str []), (.slice true [] [])]), oz (.store 3 (.t 7) (.t 30)), mm 8 31] [(6, 10), (10, 0), (10, 5), (10, 6)]) (.seq (.drawn [mm 32 5, mm 33 6, ii 34 1 32 33, ll 35 34, mm 36 1, mm 37 6, ii 38 3 36 37, ff 39 0 38, ll 40 39, bt 41 .neq 35 40, mm 42 41, og 43 (.mv (.t 8)) 10 false, og 44 (.un .not (.t 43)) 10 false, oo 45 (.pick (.t 42) (.c (.bool true)) (.t 44)), mm 46 45, og 47 (.load (some 3) (.t 7)) 14 false, og 48 (.call (.c (.fn 150 [])) [(.t 47)]) 14 false, og 49 (.mv (.t 1)) 14 false, og 50 (.mv (.t 6)) 14 false, og 51 (.iaddr 3 (.t 49) (.t 50)) 14 false, og 52 (.load (some 3) (.t 51)) 14 false, og 53 (.call (.c (.fn 149 [])) [(.t 48), (.t 52)]) 14 false, og 54 (.un .not (.t 53)) 14 false, oo 55 (.pick (.t 46) (.c (.bool true)) (.t 54))] [(16, 20)]) (cd 55 (sr [cb 4 false] .ret) .skip)))) (.row [mm 20 6, bi 21 .add 20 1, mm 6 21])))
def dc67 : DC := (sr [oo 2 (.box (.t 0)), cb 4 false] (sr [lk 9 1 2, cc 10 129 [(.t 9)], mm 5 10] (.seq (sr [mm 11 5, nn 12 false 11, mm 13 1, nn 14 false 13, bt 15 .neq 12 14] (cd 15 (sr [cb 4 false] .ret) .skip)) (.seq (sr [ci 6 0] (.block 0 (.loop dc67l0))) (sr [cb 4 true] .ret)))))
theorem fn67 : Fn Tryz.prog 67 56 dc67 [.t 4] := Ao Tryz.func67
def dc66l0 : DC := (.seq (sr [mm 14 6, mm 15 1, nn 16 false 15, bt 17 .lss 14 16] (cd 17 .skip (.exit 0))) (.seq (.block 1 (.seq (.drawn [mm 20 5, mm 21 6, ii 22 3 20 21, lk 23 3 22, mm 24 1, mm 25 6, ii 26 3 24 25, lk 27 3 26, cc 28 46 [(.t 27)], oo 29 (.seq true [(2, 0), (0, 1), (1, 2)] (.t 23) (.t 28))] [(8, 3)]) (cd 29 (sr [cb 4 false] .ret) .skip))) (.row [mm 18 6, bi 19 .add 18 1, mm 6 19])))
def dc66 : DC := (sr [oo 2 (.box (.t 0)), cb 4 false] (sr [lk 7 1 2, cc 8 146 [(.t 7)], mm 5 8] (.seq (sr [mm 9 5, nn 10 false 9, mm 11 1, nn 12 false 11, bt 13 .neq 10 12] (cd 13 (sr [cb 4 false] .ret) .skip)) (.seq (sr [ci 6 0] (.block 0 (.loop dc66l0))) (sr [lk 30 1 2, cc 31 126 [(.t 30)], mm 32 1, cc 33 147 [(.t 32)], bt 34 .eql 31 33, mm 35 34, og 36 (.load (some 1) (.t 2)) 5 true, og 37 (.call (.c (.fn 148 [])) [(.t 36)]) 5 true, og 38 (.mv (.t 1)) 5 true, og 39 (.call (.c (.fn 147 [])) [(.t 38)]) 5 true, og 40 (.len true (.t 39)) 5 true, og 41 (.bin .eql (.t 37) (.t 40)) 5 true, oo 42 (.pick (.t 35) (.t 41) (.c (.bool false))), mm 4 42] .ret)))))
theorem fn66 : Fn Tryz.prog 66 43 dc66 [.t 4] := Ao Tryz.func66
def dc22 : DC := (sr [oo 2 (.box (.t 0)), oo 3 (.box (.t 1)), cb 4 false] (sr [ff 5 0 2, ll 6 5, ff 7 0 3, ll 8 7, oo 9 (.beq false (.t 6) (.t 8)), mm 10 9, og 11 (.faddr 1 (.t 2)) 5 true, og 12 (.load none (.t 11)) 5 true, og 13 (.faddr 1 (.t 3)) 5 true, og 14 (.load none (.t 13)) 5 true, og 15 (.bin .eql (.t 12) (.t 14)) 5 true, oo 16 (.pick (.t 10) (.t 15) (.c (.bool false))), mm 17 16, og 18 (.faddr 2 (.t 2)) 12 true, og 19 (.load none (.t 18)) 12 true, og 20 (.faddr 2 (.t 3)) 12 true, og 21 (.load none (.t 20)) 12 true, og 22 (.bin .eql (.t 19) (.t 21)) 12 true, oo 23 (.pick (.t 17) (.t 22) (.c (.bool false))), mm 24 23, og 25 (.faddr 3 (.t 2)) 19 true, og 26 (.load (some 1) (.t 25)) 19 true, og 27 (.faddr 3 (.t 3)) 19 true, og 28 (.load none (.t 27)) 19 true, og 29 (.call (.c (.fn 66 [])) [(.t 26), (.t 28)]) 19 true, oo 30 (.pick (.t 24) (.t 29) (.c (.bool false))), mm 31 30, og 32 (.faddr 4 (.t 2)) 26 true, og 33 (.load (some 1) (.t 32)) 26 true, og 34 (.faddr 4 (.t 3)) 26 true, og 35 (.load none (.t 34)) 26 true, og 36 (.call (.c (.fn 67 [])) [(.t 33), (.t 35)]) 26 true, oo 37 (.pick (.t 31) (.t 36) (.c (.bool false))), mm 4 37] .ret))
theorem fn22 : Fn Tryz.prog 22 38 dc22 [.t 4] := Ao Tryz.func22
end Go.Vd
namespace Go.Vd
open Go.Proofs Go.RowKit
theorem bne_tt : (true != true) = false := rfl
def mkRR (p : Bool × Bool × List Rl) : List D := [.slice p.1 [] (Aj p.2.2), .slice p.2.1 [] (Aj p.2.2)]
theorem mkRR_inj (x y : Bool × Bool × List Rl) (e : mkRR x = mkRR y) : x = y := by
 simp only [mkRR, List.cons.injEq, D.slice.injEq, true_and, and_true] at e
 exact Prod.ext e.1.1 (Prod.ext e.2.1 (rlsD_inj e.1.2))
noncomputable def F255 : List D → Option D := FX mkRR (fun p => p.2.2.length ≤ 1000) (fun _ => .bool true)
theorem F255_eq {n1 n2 : Bool} {l : List Rl} (h : l.length ≤ 1000) : F255 [.slice n1 [] (Aj l), .slice n2 [] (Aj l)] = some (.bool true) := AP (mk := mkRR) (a := (n1, n2, l)) mkRR_inj h
theorem loop255 {S : Summs} {l : List Rl} {n1 n2 : Bool} {Q : Ex → St → Prop} (hb : l.length ≤ 1000) (hexit : ∀ st, Q (.exit 0) st) :
  ∀ (f j : Nat) (st : St) g, l.length = j + f → st.s 0 = .slice n1 [] (Aj l) → st.s 1 = .slice n2 [] (Aj l) → st.s 5 = .int .i64 (j : Int) → AV S [] dc255l0 Q st g := by
 intro f
 induction f with
 | zero =>
  intro j st g hf h0 h1 h5
  refine Ad dc255l0.eq_1 ?_
  have : ¬ ((j : Int) < l.length) := by omega
  simp only [↓go1, go2, go4, reduceIte, Nat.reduceEqDiff, Nat.reduceAdd, h0, h5, this, An]
  exact hexit _
 | succ f ih =>
  intro j st g hf h0 h1 h5
  refine Ad dc255l0.eq_1 ?_
  have hj : j < l.length := by omega
  have hlt : ((j : Int) < l.length) := by omega
  have hj0 : (0 : Int) ≤ (j : Int) := by omega
  have hw : IntKind.i64.wrap ((j : Int) + 1) = ((j + 1 : Nat) : Int) := w64 (by omega) (by omega)
  have hat : (Aj l)[j]? = some (.agg [.str l[j].1, .int .u8 l[j].2]) := by simp [Aj, List.getElem?_eq_getElem hj, rlD]
  have hle : Bc [.str l[j].1, .int .u8 l[j].2] [.str l[j].1, .int .u8 l[j].2] [(2, 0), (0, 1)] = some true := by simp [Bc, leafEq]
  obtain ⟨st_s, st_m, st_c⟩ := st
  simp only at h0 h1 h5
  simp only [↓go1, gB1, reduceIte, Nat.reduceEqDiff, Nat.reduceAdd, h0, h1, h5, hlt, hj0, Int.toNat_natCast, hat, hle, An, bne_tt, Nat.reduceLeDiff, List.take_succ_cons, List.take_zero]
  refine AA.intro (Al rfl) ?_
  simp only [↓go1, go2, go3, reduceIte, Nat.reduceEqDiff, Nat.reduceAdd, h5, hw]
  exact ih (j + 1) _ _ (by omega) h0 h1 rfl
theorem ok255 : (Ai F255).ok Tryz.prog 255 := by
 refine AL (S := fun _ => none) Au fn255 (fun _ => by simp [mkRR]) (fun p hp => ?_)
 obtain ⟨n1, n2, l⟩ := p
 simp only at hp
 have hne : ((l.length : Int) = (l.length : Int)) = True := eq_true rfl
 unfold dc255 mkRR
 simp only
 simp only [↓go1, go2, go4, reduceIte, Nat.reduceEqDiff, Nat.reduceAdd, An]
 refine loop255 (l := l) (n1 := n1) (n2 := n2) hp (fun st => ?_) l.length 0 _ _ (by omega) rfl rfl rfl
 simp only [↓go1, go2, go3, go4, reduceIte, Nat.reduceAdd]
 all_goals (first | rfl | exact ⟨rfl, rfl⟩)
def mkTT (p : Bs × Bs × List Rl × Bool × Bool) : List D := [tkD (p.1, p.2.1, p.2.2.2.1, p.2.2.1), tkD (p.1, p.2.1, p.2.2.2.2, p.2.2.1)]
theorem mkTT_inj (x y : Bs × Bs × List Rl × Bool × Bool) (e : mkTT x = mkTT y) : x = y := by
 simp only [mkTT, tkD, List.cons.injEq, D.agg.injEq, D.str.injEq, D.slice.injEq, true_and, and_true] at e
 obtain ⟨⟨e1, e2, e3, e4⟩, _, _, e5, _⟩ := e
 exact Prod.ext e1 (Prod.ext e2 (Prod.ext (rlsD_inj e4) (Prod.ext e3 e5)))
noncomputable def F149 : List D → Option D := FX mkTT (fun p => p.2.2.1.length ≤ 1000) (fun _ => .bool true)
theorem F149_eq {n p : Bs} {n1 n2 : Bool} {l : List Rl} (h : l.length ≤ 1000) : F149 [.agg [.str n, .str p, .slice n1 [] (Aj l)], .agg [.str n, .str p, .slice n2 [] (Aj l)]] = some (.bool true) := AP (mk := mkTT) (a := (n, p, l, n1, n2)) mkTT_inj h
theorem ok149 : (Ai F149).ok Tryz.prog 149 := by
 obtain ⟨S, hS, hl⟩ := AJ (Ab ok255 Ae)
 have s255 := hl 255 _ rfl
 clear hl
 refine AL hS fn149 (fun _ => by simp [mkTT]) (fun p hp => ?_)
 obtain ⟨n, p, l, n1, n2⟩ := p
 simp only at hp
 have h255 := F255_eq (n1 := n1) (n2 := n2) hp
 unfold dc149 mkTT tkD
 simp only
 simp only [↓go1, gB0, reduceIte, Nat.reduceEqDiff, Nat.reduceAdd, Aa s255, h255, List.map_cons, List.map_nil, Ac, Nat.reduceLT, List.cons.injEq, Nat.zero_ne_one, Nat.succ_ne_zero]
 all_goals (first | rfl | exact ⟨rfl, rfl⟩)
noncomputable def F256 : List D → Option D := FX mkRl (fun p => p.2.length ≤ 1000) (fun p => .slice p.2.isEmpty [] (Aj p.2))
theorem F256_eq {nl : Bool} {l : List Rl} (h : l.length ≤ 1000) : F256 [.slice nl [] (Aj l)] = some (.slice l.isEmpty [] (Aj l)) := AP (mk := mkRl) (a := (nl, l)) mkRl_inj h
theorem loop256 {S : Summs} {l : List Rl} {nl : Bool} {Q : Ex → St → Prop} (hb : l.length ≤ 1000)
  (hexit : ∀ st t, st.s 3 = .slice l.isEmpty t (Aj l) → Q (.exit 0) st) :
  ∀ (f j : Nat) (t : Id) st g, l.length = j + f → st.s 0 = .slice nl [] (Aj l) → st.s 3 = .slice (l.take j).isEmpty t (Aj (l.take j)) → Gw st.m st.c 191 (l.take j).isEmpty t → st.s 4 = .int .i64 (j : Int) → AV S [] dc256l0 Q st g := by
 intro f
 induction f with
 | zero =>
  intro j t st g hf h0 h3 hg h4
  refine Ad dc256l0.eq_1 ?_
  have : ¬ ((j : Int) < l.length) := by omega
  simp only [↓go1, go2, go4, reduceIte, Nat.reduceEqDiff, Nat.reduceAdd, h0, h4, this, An]
  rw [List.take_of_length_le (by omega)] at h3
  exact hexit _ t h3
 | succ f ih =>
  intro j t st g hf h0 h3 hg h4
  refine Ad dc256l0.eq_1 ?_
  have hj : j < l.length := by omega
  have hlt : ((j : Int) < l.length) := by omega
  have hj0 : (0 : Int) ≤ (j : Int) := by omega
  have hw : IntKind.i64.wrap ((j : Int) + 1) = ((j + 1 : Nat) : Int) := w64 (by omega) (by omega)
  have hat : (Aj l)[j]? = some (.agg [.str l[j].1, .int .u8 l[j].2]) := by simp [Aj, List.getElem?_eq_getElem hj, rlD]
  have htk : Aj (l.take (j + 1)) = Aj (l.take j) ++ [.agg [.str l[j].1, .int .u8 l[j].2]] := by
   have e : l.take (j + 1) = l.take j ++ [l[j]] := by rw [List.take_add_one, List.getElem?_eq_getElem hj]; rfl
   rw [e]; unfold Aj; rw [List.map_append]; rfl
  have hn : (l.take j).isEmpty = true → Aj (l.take j) = [] := fun h => by rw [List.isEmpty_iff.1 h]; rfl
  have hlen : (Aj (l.take j)).length ≤ 1000 := by rw [An, List.length_take]; omega
  have hlen2 : (l.take j).length ≤ 1000 := by rw [List.length_take]; omega
  have hem := isE_take hj
  obtain ⟨st_s, st_m, st_c⟩ := st
  simp only at h0 h3 hg h4
  simp only [↓go1, gB1, reduceIte, Nat.reduceEqDiff, Nat.reduceAdd, h0, h3, h4, hlt, hj0, Int.toNat_natCast, hat, An, and_false, reduceCtorEq, Nat.reduceLeDiff, List.take_succ_cons, List.take_zero, and_false]
  refine AA.intro ⟨by omega, rfl, hg.grow (by omega)⟩ ?_
  rw [C3 hn]
  simp only [↓go1, go2, go3, go4, reduceIte, Nat.reduceEqDiff, Nat.reduceAdd, h4, hw]
  refine ih (j + 1) [st_c + 4 + 6] _ _ (by omega) h0 ?_ ?_ rfl
  ·rw [hem, htk]; rfl
  ·rw [hem]
   exact Gw.new (by simp only; omega)
theorem ok256 : (Ai F256).ok Tryz.prog 256 := by
 refine AL (S := fun _ => none) Au fn256 (fun _ => by simp [mkRl]) (fun p hp => ?_)
 obtain ⟨nl, l⟩ := p
 simp only at hp
 unfold dc256 mkRl
 simp only [↓go1, go2, Nat.reduceAdd]
 refine loop256 (l := l) (nl := nl) hp (fun st t h => ?_) l.length 0 [] _ _ (by omega) rfl rfl (.inl rfl) rfl
 simp only [↓go1, go2, go3, go4, reduceIte, Nat.reduceEqDiff, Nat.reduceAdd, h]
noncomputable def F150 : List D → Option D := FX (fun k : Tk => [tkD k]) (fun k => k.2.2.2.length ≤ 1000) (fun k => tkD (ownT k))
theorem F150_eq {k : Tk} (h : k.2.2.2.length ≤ 1000) : F150 [tkD k] = some (tkD (ownT k)) := AP (mk := fun k : Tk => [tkD k]) (a := k) tkD_inj1 h
theorem ok150 : (Ai F150).ok Tryz.prog 150 := by
 obtain ⟨S, hS, hl⟩ := AJ (Ab ok256 Ae)
 have s256 := hl 256 _ rfl
 clear hl
 refine AL hS fn150 (fun _ => by simp) (fun k hk => ?_)
 obtain ⟨x1, x2, x3, x4⟩ := k
 simp only at hk
 have h256 := F256_eq (nl := x3) (l := x4) hk
 unfold dc150 tkD ownT
 simp only
 simp only [↓go1, gB0, reduceIte, Nat.reduceEqDiff, Nat.reduceAdd, A2, Bt, List.nil_append, List.map_cons, List.map_nil, Aa s256, h256, Ac, Ag, Ah, Nat.reduceLT, Nat.reduceLeDiff, Option.bind_some, List.take_succ_cons, List.take_zero, Option.isSome_some, List.drop_zero, List.drop_succ_cons, List.cons.injEq, Nat.zero_ne_one, Nat.succ_ne_zero]
 refine AA.intro (Al rfl) ?_
 simp only [↓go1, gB0, reduceIte, Nat.reduceEqDiff, Nat.reduceAdd, List.map_cons, List.map_nil, Ac, Ag, Ah, Nat.reduceLT, Option.bind_some, List.cons.injEq, Nat.succ_ne_zero, AR, AE]
 all_goals (first | rfl | exact ⟨rfl, rfl⟩)
open Classical in
theorem F129_eq {nl : Bool} {l : List Tk} (hl : l.length ≤ 1000000) : F129 [.agg [.slice nl [] (AC l)]] = some (.slice (decide (l.length = 0)) [] (l.map fun k => .str k.1)) := by
 have h : Df (AC l) := CX hl
 show (if _ then _ else _) = _
 rw [if_pos h, A5]
structure LikeT (L M : List Tk) : Prop where
 len : L.length = M.length
 ll : L.length ≤ 1000
 ok : ∀ k ∈ L, tkOk k
 r : ∀ k ∈ L, k.2.2.2.length ≤ 1000
 each : ∀ j, j < M.length → (AO L j).1 = (AO M j).1 ∧ (AO L j).2.1 = (AO M j).2.1 ∧ (AO L j).2.2.2 = (AO M j).2.2.2 ∧ A9 L (AO M j).1 = true ∧ AO L (bsE L (AO M j).1) = AO L j
def mkLT (p : Bool × List Tk × Bool × List Tk) : List D := [.agg [.slice p.1 [] (AC p.2.1)], .slice p.2.2.1 [] (AC p.2.2.2)]
theorem mkLT_inj (x y : Bool × List Tk × Bool × List Tk) (e : mkLT x = mkLT y) : x = y := by
 simp only [mkLT, List.cons.injEq, D.agg.injEq, D.slice.injEq, true_and, and_true] at e
 obtain ⟨⟨e1, e2⟩, e3, e4⟩ := e
 exact Prod.ext e1 (Prod.ext (tksD_inj e2) (Prod.ext e3 (tksD_inj e4)))
noncomputable def F67 : List D → Option D := FX mkLT (fun p => LikeT p.2.1 p.2.2.2) (fun _ => .bool true)
theorem F67_eq {n1 n2 : Bool} {L M : List Tk} (h : LikeT L M) : F67 [.agg [.slice n1 [] (AC L)], .slice n2 [] (AC M)] = some (.bool true) := AP (mk := mkLT) (a := (n1, L, n2, M)) mkLT_inj h
theorem rd3 {m : Mem} {i : Id} {x y z : D} : Af (m.put i 0 [x, y, z]) i 0 3 = some [x, y, z] := Av rfl
theorem loop67 {S : Summs} {L M : List Tk} {n1 n2 n5 : Bool} {Q : Ex → St → Prop} (s35 : S 35 = some (Ai F35)) (s150 : S 150 = some (Ai F150)) (s149 : S 149 = some (Ai F149)) (hh : LikeT L M) (hexit : ∀ st, Q (.exit 0) st) :
  ∀ (f j : Nat) (st : St) g, M.length = j + f → 1 ≤ st.c → st.s 1 = .slice n2 [] (AC M) → st.s 2 = .ptr [0] 0 → st.s 5 = .slice n5 [] (L.map fun k => .str k.1) → st.s 6 = .int .i64 (j : Int) → Af st.m [0] 0 1 = some [.slice n1 [] (AC L)] → AV S [] dc67l0 Q st g := by
 have hlen := hh.len
 have hll := hh.ll
 intro f
 induction f with
 | zero =>
  intro j st g hf hc h1 h2 h5 h6 hm
  refine Ad dc67l0.eq_1 ?_
  have : ¬ ((j : Int) < M.length) := by omega
  simp only [↓go1, go2, go4, reduceIte, Nat.reduceEqDiff, Nat.reduceAdd, h1, h6, this, AI]
  exact hexit _
 | succ f ih =>
  intro j st g hf hc h1 h2 h5 h6 hm
  refine Ad dc67l0.eq_1 ?_
  have hj : j < M.length := by omega
  have hjL : j < L.length := by omega
  have hlt : ((j : Int) < M.length) := by omega
  have hltL : ((j : Int) < L.length) := by omega
  have hj0 : (0 : Int) ≤ (j : Int) := by omega
  have hw : IntKind.i64.wrap ((j : Int) + 1) = ((j + 1 : Nat) : Int) := w64 (by omega) (by omega)
  have hat : (AC M)[j]? = some (.agg [.str (AO M j).1, .str (AO M j).2.1, .slice (AO M j).2.2.1 [] (Aj (AO M j).2.2.2)]) := CC hj
  have hatN : (L.map fun k => D.str k.1)[j]? = some (.str (AO L j).1) := by simp [AO, List.getElem?_eq_getElem hjL]
  have hr := hh.r _ (tkAt_mem hjL)
  obtain ⟨e1, e2, e3, e4, e5⟩ := hh.each j hj
  have h35 : F35 [.agg [.slice n1 [] (AC L)], .str (AO M j).1] = some (.tup [.agg [.str (AO L j).1, .str (AO L j).2.1, .slice (AO L j).2.2.1 [] (Aj (AO L j).2.2.2)], .bool true]) := by
   rw [F35_eq (by omega) hh.ok, if_pos e4, e5]; rfl
  generalize AO M j = y at hat h35 e1 e2 e3
  generalize AO L j = x at hatN h35 hr e1 e2 e3
  obtain ⟨x1, x2, x3, x4⟩ := x
  obtain ⟨y1, y2, y3, y4⟩ := y
  simp only at e1 e2 e3 hat hatN h35 hr
  subst e1 e2 e3
  have h150 : F150 [.agg [.str x1, .str x2, .slice x3 [] (Aj x4)]] = some (.agg [.str x1, .str x2, .slice x4.isEmpty [] (Aj x4)]) := F150_eq (k := (x1, x2, x3, x4)) hr
  have h149 := F149_eq (n := x1) (p := x2) (n1 := x4.isEmpty) (n2 := y3) hr
  obtain ⟨st_s, st_m, st_c⟩ := st
  simp only at hc h1 h2 h5 h6 hm
  simp only [↓go1, gB1, reduceIte, Nat.reduceEqDiff, Nat.reduceAdd, h1, h2, h6, hm, hlt, hj0, Int.toNat_natCast, hat, AI, Aa s35, h35, rd3, Nat.zero_le, List.getElem?_cons_zero, List.getElem?_cons_succ, and_self, Option.isSome_some, List.drop_zero, List.head?_cons]
  refine AA.intro (Al ?_) ?_
  ·first | rfl | (simp only [Bh, List.all_cons, List.all_nil, List.getD, List.getElem?_cons_zero, List.getElem?_cons_succ, Option.getD_some, A1, List.map_cons, List.map_nil, List.length_cons, List.length_nil, List.flatMap_cons, List.flatMap_nil, rds, ↓go1, reduceIte, Nat.reduceEqDiff, h2]; simp [AG, s35, Ai]; done) | (simp only [Bh, List.all_cons, List.all_nil, List.getD, List.getElem?_cons_zero, List.getElem?_cons_succ, Option.getD_some, A1, List.map_cons, List.map_nil, List.length_cons, List.length_nil, List.flatMap_cons, List.flatMap_nil, rds, ↓go1, reduceIte, Nat.reduceEqDiff, h1, h2, h5, h6]; simp [AG, s35, s150, s149, Ai]; trace_state; omega)
  simp only [↓go1, gB1, reduceIte, Nat.reduceEqDiff, Nat.reduceAdd, h1, h5, h6, hj0, Int.toNat_natCast, hat, hatN, Aa s150, h150, Aa s149, h149, rd3, Nat.zero_le, Nat.reduceLeDiff, List.take_succ_cons, List.take_zero, List.drop_zero, List.head?_cons]
  refine AA.intro (Al ?_) ?_
  ·first | rfl | (simp only [Bh, List.all_cons, List.all_nil, List.getD, List.getElem?_cons_zero, List.getElem?_cons_succ, Option.getD_some, A1, List.map_cons, List.map_nil, List.length_cons, List.length_nil, List.flatMap_cons, List.flatMap_nil, rds, ↓go1, reduceIte, Nat.reduceEqDiff, h1, h2, h5, h6]; simp [AG, s35, s150, s149, Ai]; done) | (simp only [Bh, List.all_cons, List.all_nil, List.getD, List.getElem?_cons_zero, List.getElem?_cons_succ, Option.getD_some, A1, List.map_cons, List.map_nil, List.length_cons, List.length_nil, List.flatMap_cons, List.flatMap_nil, rds, ↓go1, reduceIte, Nat.reduceEqDiff, h1, h2, h5, h6]; simp [AG, s35, s150, s149, Ai]; trace_state; omega)
  simp only [↓go1, go2, go3, reduceIte, Nat.reduceEqDiff, Nat.reduceAdd, h6, hw]
  refine ih (j + 1) _ _ (by omega) (by simp only; omega) h1 h2 h5 rfl ?_
  have hne : ([0] : Id) ≠ [st_c + 4 + 10] := by simp
  show Af ((st_m.put [st_c + 4 + 10] 0 _).put [st_c + 4 + 10] 0 _) [0] 0 1 = _
  rw [AD hne, AD hne]
  exact hm
theorem ok67 : (Ai F67).ok Tryz.prog 67 := by
 obtain ⟨S, hS, hl⟩ := AJ (Ab ok129 (Ab ok35 (Ab ok150 (Ab ok149 Ae))))
 have s129 := hl 129 _ rfl
 have s35 := hl 35 _ rfl
 have s150 := hl 150 _ rfl
 have s149 := hl 149 _ rfl
 clear hl
 refine AL hS fn67 (fun _ => by simp [mkLT]) (fun p hp => ?_)
 obtain ⟨n1, L, n2, M⟩ := p
 simp only at hp
 have hlen := hp.len
 have hll := hp.ll
 have h129 := F129_eq (nl := n1) (l := L) (by omega)
 have hne : ((L.length : Int) = (M.length : Int)) = True := eq_true (by omega)
 have hun : (L.map fun k => D.str k.1).map D.un = L.map fun k => .str k.1 := by rw [List.map_map]; rfl
 unfold dc67 mkLT
 simp only
 simp only [↓go1, gB1, reduceIte, Nat.reduceEqDiff, Nat.reduceAdd, AI, List.length_map, Aa s129, h129, hne, Ac, Ag, Ah, Nat.zero_le, Nat.reduceLT, Nat.sub_zero, List.getElem?_cons_zero, and_self, Option.bind_some]
 refine loop67 (L := L) (M := M) (n1 := n1) (n2 := n2) s35 s150 s149 hp (fun st => ?_) M.length 0 _ _ (by omega) (by simp only; omega) rfl rfl rfl rfl rfl
 simp only [↓go1, go2, go3, go4, reduceIte, Nat.reduceAdd]
 all_goals (first | rfl | exact ⟨rfl, rfl⟩)
theorem bl_irr : ∀ a : Bs, Op.bytesLess a a = false
 | [] => rfl
 | x :: r => by simp [Op.bytesLess, bl_irr r]
theorem bl_tri : ∀ {a b : Bs}, a ≠ b → Op.bytesLess a b = !Op.bytesLess b a
 | [], [], h => absurd rfl h
 | [], y :: s, _ => rfl
 | x :: r, [], _ => rfl
 | x :: r, y :: s, h => by
  simp only [Op.bytesLess]
  by_cases hxy : x = y
  ·subst hxy
   have hrs : r ≠ s := fun e => h (by rw [e])
   have := bl_tri hrs
   simp [this]
  ·have hyx : ¬ y = x := fun e => hxy e.symm
   have h1 : (x == y) = false := by simpa using hxy
   have h2 : (y == x) = false := by simpa using hyx
   rw [h1, h2]
   simp only [Bool.false_and, Bool.or_false]
   have hn : x.toNat ≠ y.toNat := fun e => hxy (UInt8.toNat_inj.1 e)
   by_cases hlt : x < y
   ·have h3 : ¬ y < x := by rw [UInt8.lt_iff_toNat_lt] at hlt ⊢; omega
    simp [hlt, h3]
   ·have h3 : y < x := by rw [UInt8.lt_iff_toNat_lt] at hlt ⊢; omega
    simp [hlt, h3]
theorem bl_trans : ∀ {a b c : Bs}, Op.bytesLess a b = true → Op.bytesLess b c = true → Op.bytesLess a c = true
 | a, b, [], h1, h2 => by simp [Op.bytesLess] at h2
 | a, [], z :: t, h1, h2 => by cases a <;> simp [Op.bytesLess] at h1
 | [], y :: s, z :: t, h1, h2 => rfl
 | x :: r, y :: s, z :: t, h1, h2 => by
  simp only [Op.bytesLess, Bool.or_eq_true, Bool.and_eq_true, decide_eq_true_eq, beq_iff_eq] at h1 h2 ⊢
  rcases h1 with h1 | ⟨rfl, h1⟩
  ·rcases h2 with h2 | ⟨rfl, h2⟩
   ·left; rw [UInt8.lt_iff_toNat_lt] at h1 h2 ⊢; omega
   ·left; exact h1
  ·rcases h2 with h2 | ⟨rfl, h2⟩
   ·left; exact h2
   ·right; exact ⟨rfl, bl_trans h1 h2⟩
def SortM (l : List Mt) : Prop := ∀ i j, i < j → j < l.length → Op.bytesLess (l.getD i m0t).1 (l.getD j m0t).1 = true
theorem cmpS_lt {a b : Bs} : decide (Ep a b < 0) = Op.bytesLess a b := by
 unfold Ep
 split
 ·rename_i h; rw [h]; rfl
 ·rename_i h
  have : Op.bytesLess a b = false := by simpa using h
  rw [this]
  split <;> rfl
theorem kFr_kR {l : List Mt} {m : Mt} (hn : ∀ i, i < l.length → (l.getD i m0t).1 ≠ m.1) : ∀ j, j ≤ l.length → kR ltM m0t l m j = kFr l m.1 j
 | 0, _ => rfl
 | j + 1, hj => by
  have ih := kFr_kR hn j (by omega)
  have ht := bl_tri (hn j (by omega))
  have hlt : ltM m (l.getD j m0t) = Op.bytesLess m.1 (l.getD j m0t).1 := cmpS_lt
  unfold kR kFr
  rw [hlt, show AQ l j = l.getD j m0t from rfl, ht]
  cases Op.bytesLess m.1 (l.getD j m0t).1
  ·simp
  ·simpa using ih
theorem find_none {l : List Mt} {p : Bs} (h : ¬ 0 ≤ Cg l p) : ∀ i, i < l.length → (l.getD i m0t).1 ≠ p := by
 have h1 := firstT_any (l.map fun m => decide (m.1 = p))
 have h2 : decide (0 ≤ Bq (l.map fun m => decide (m.1 = p))) = false := decide_eq_false h
 rw [h2] at h1
 intro i hi e
 have h3 := List.any_eq_false.1 h1.symm (decide ((l.getD i m0t).1 = p)) (List.mem_map.2 ⟨l[i], List.getElem_mem hi, by simp [List.getD, hi]⟩)
 exact h3 (decide_eq_true e)
theorem addE_addR {l : List Mt} {m : Mt} (h : SortM l) : addE l m = addR l m := by
 unfold addE addR
 split
 ·rfl
 split
 ·rfl
 rename_i hf
 split
 ·rfl
 split
 ·rfl
 have hs : ∀ i, i + 1 < l.length → ltM (l.getD (i + 1) m0t) (l.getD i m0t) = false := fun i hi => by
  have h1 := h i (i + 1) (by omega) hi
  unfold ltM
  rw [cmpS_lt]
  have hne : (l.getD (i + 1) m0t).1 ≠ (l.getD i m0t).1 := fun e => by rw [e, bl_irr] at h1; cases h1
  rw [bl_tri hne, h1]; rfl
 have hi := isort_app ltM m0t l m hs l.length 1 (Nat.le_refl _) (by omega)
 rw [hi, kFr_kR (find_none hf) l.length (Nat.le_refl _)]
 split
 ·rename_i h0
  have : l = [] := List.eq_nil_of_length_eq_zero h0
  subst this; rfl
 ·rfl
theorem kFr_in {l : List Mt} {p : Bs} : ∀ j, kFr l p j = 0 ∨ Op.bytesLess (l.getD (kFr l p j - 1) m0t).1 p = true
 | 0 => .inl rfl
 | j + 1 => by
  unfold kFr
  split
  ·rename_i h
   right; exact h
  ·exact kFr_in j
theorem kFr_out {l : List Mt} {p : Bs} : ∀ j i, kFr l p j ≤ i → i < j → Op.bytesLess (l.getD i m0t).1 p = false
 | 0, i, _, h => by omega
 | j + 1, i, h1, h2 => by
  unfold kFr at h1
  split at h1
  ·omega
  ·rename_i h
   by_cases e : i = j
   ·subst e; exact Bool.eq_false_iff.2 h
   ·exact kFr_out j i h1 (by omega)
theorem mid_getD {α : Type} {l : List α} {m d : α} {k i : Nat} (hk : k ≤ l.length) : (l.take k ++ m :: l.drop k).getD i d = if i < k then l.getD i d else if i = k then m else l.getD (i - 1) d := by
 have ht : (l.take k).length = k := by rw [List.length_take]; omega
 simp only [List.getD]
 split
 ·rename_i h
  rw [List.getElem?_append_left (by omega), List.getElem?_take, if_pos h]
 ·rename_i h
  rw [List.getElem?_append_right (by omega), ht]
  split
  ·rename_i e; subst e; simp
  ·rename_i e
   obtain ⟨q, hq⟩ : ∃ q, i - k = q + 1 := ⟨i - k - 1, by omega⟩
   rw [hq, List.getElem?_cons_succ, List.getElem?_drop]
   congr 2; omega
theorem sort_mid {l : List Mt} {m : Mt} (h : SortM l) (hn : ∀ i, i < l.length → (l.getD i m0t).1 ≠ m.1) : SortM (l.take (kFr l m.1 l.length) ++ m :: l.drop (kFr l m.1 l.length)) := by
 have hk := kFr_le l m.1 l.length
 have h1 := kFr_in (l := l) (p := m.1) l.length
 have h2 := kFr_out (l := l) (p := m.1) l.length
 generalize kFr l m.1 l.length = k at hk h1 h2
 have lo : ∀ i, i < k → Op.bytesLess (l.getD i m0t).1 m.1 = true := fun i hi => by
  rcases h1 with h1 | h1
  ·omega
  ·by_cases e : i = k - 1
   ·rw [e]; exact h1
   ·exact bl_trans (h i (k - 1) (by omega) (by omega)) h1
 have hi : ∀ i, k ≤ i → i < l.length → Op.bytesLess m.1 (l.getD i m0t).1 = true := fun i h3 h4 => by
  rw [bl_tri (fun e => hn i h4 e.symm), h2 i h3 h4]; rfl
 intro i j hij hj
 have hlen : (l.take k ++ m :: l.drop k).length = l.length + 1 := by
  simp only [List.length_append, List.length_cons, List.length_take, List.length_drop]; omega
 rw [hlen] at hj
 rw [mid_getD hk, mid_getD hk]
 by_cases a1 : i < k
 ·rw [if_pos a1]
  by_cases b1 : j < k
  ·rw [if_pos b1]; exact h i j hij (by omega)
  ·rw [if_neg b1]
   by_cases b2 : j = k
   ·rw [if_pos b2]; exact lo i a1
   ·rw [if_neg b2]; exact h i (j - 1) (by omega) (by omega)
 ·rw [if_neg a1]
  have b1 : ¬ j < k := by omega
  have b2 : ¬ j = k := by omega
  rw [if_neg b1, if_neg b2]
  by_cases a2 : i = k
  ·rw [if_pos a2]; exact hi (j - 1) (by omega) (by omega)
  ·rw [if_neg a2]; exact h (i - 1) (j - 1) (by omega) (by omega)
theorem addRt_sort {s : Bool × List Mt} {m : Mt} (h : SortM s.2) : SortM (BG s m).2 := by
 unfold BG addR
 by_cases h1 : CT m.1 m.2.1 ≠ 0
 ·rw [if_pos h1]; exact h
 ·rw [if_neg h1]
  by_cases h2 : 0 ≤ Cg s.2 m.1
  ·rw [if_pos h2]; exact h
  ·rw [if_neg h2]
   by_cases h3 : DO m.1 (s.2.map (·.1)) = true
   ·rw [if_pos h3]; exact h
   ·rw [if_neg h3]
    by_cases h4 : 4 ≤ s.2.length
    ·rw [if_pos h4]; exact h
    ·rw [if_neg h4]; exact sort_mid h (find_none h2)
theorem addSt_addRt {s : Bool × List Mt} {m : Mt} (h : SortM s.2) : Cb s m = BG s m := by
 unfold Cb BG; rw [addE_addR h]
theorem fold_mounts (ms : List Mt) : ∀ s : Bool × List Mt, SortM s.2 → ms.foldl Cb s = ms.foldl BG s ∧ SortM (ms.foldl BG s).2 := by
 induction ms with
 | nil => exact fun s h => ⟨rfl, h⟩
 | cons m r ih =>
  intro s h
  rw [List.foldl_cons, List.foldl_cons, addSt_addRt h]
  exact ih _ (addRt_sort h)
theorem view_mounts (ms : List Mt) : ms.foldl Cb (true, []) = ms.foldl BG (true, []) ∧ SortM (ms.foldl BG (true, [])).2 := fold_mounts ms _ (fun i j _ h => absurd h (Nat.not_lt_zero _))
def CK (l : List Tk) : Prop := ∀ i j, i < j → j < l.length → Op.bytesLess (AO l i).1 (AO l j).1 = true
def AtT (l : List Tk) (s : Bs) (r : Nat) : Prop := r ≤ l.length ∧ (∀ i, i < r → Op.bytesLess (AO l i).1 s = true) ∧ ∀ i, r ≤ i → i < l.length → Op.bytesLess (AO l i).1 s = false
theorem AtT.uniq {l : List Tk} {s : Bs} {r q : Nat} (h : AtT l s r) (k : AtT l s q) : r = q := by
 rcases Nat.lt_trichotomy r q with e | e | e
 ·have h1 := h.2.2 r (Nat.le_refl _) (by have := k.1; omega)
  rw [k.2.1 r e] at h1; cases h1
 ·exact e
 ·have h1 := k.2.2 q (Nat.le_refl _) (by have := h.1; omega)
  rw [h.2.1 q e] at h1; cases h1
theorem less_down {l : List Tk} (h : CK l) {s : Bs} {i j : Nat} (hij : i ≤ j) (hj : j < l.length) (hl : Op.bytesLess (AO l j).1 s = true) : Op.bytesLess (AO l i).1 s = true := by
 by_cases e : i = j
 ·rw [e]; exact hl
 ·exact bl_trans (h i j (by omega) hj) hl
theorem bsR_at {l : List Tk} (h : CK l) {s : Bs} : ∀ (f lo hi : Nat), hi - lo ≤ f → lo ≤ hi → hi ≤ l.length → (∀ i, i < lo → Op.bytesLess (AO l i).1 s = true) → (∀ i, hi ≤ i → i < l.length → Op.bytesLess (AO l i).1 s = false) → AtT l s (bsR l s f lo hi)
 | 0, lo, hi, hf, h1, h2, h3, h4 => by
  have : lo = hi := by omega
  subst this
  exact ⟨h2, h3, h4⟩
 | f + 1, lo, hi, hf, h1, h2, h3, h4 => by
  unfold bsR
  split
  ·rename_i hlt
   have hm : (lo + hi) / 2 < hi := by omega
   have hm2 : lo ≤ (lo + hi) / 2 := by omega
   split
   ·rename_i hc
    have hc' : Op.bytesLess (AO l ((lo + hi) / 2)).1 s = true := by rw [← cmpS_lt]; exact decide_eq_true hc
    exact bsR_at h f _ hi (by omega) (by omega) h2 (fun i hi' => less_down h (show i ≤ (lo + hi) / 2 by omega) (by omega) hc') h4
   ·rename_i hc
    have hc' : Op.bytesLess (AO l ((lo + hi) / 2)).1 s = false := by rw [← cmpS_lt]; exact decide_eq_false hc
    refine bsR_at h f lo _ (by omega) hm2 (by omega) h3 (fun i h5 h6 => ?_)
    by_cases e : Op.bytesLess (AO l i).1 s = true
    ·rw [less_down h h5 h6 e] at hc'; cases hc'
    ·simpa using e
  ·have : lo = hi := by omega
   subst this
   exact ⟨h2, h3, h4⟩
theorem bsE_at {l : List Tk} (h : CK l) (s : Bs) : AtT l s (bsE l s) := bsR_at h l.length 0 l.length (by omega) (by omega) (Nat.le_refl _) (fun i hi => absurd hi (Nat.not_lt_zero _)) (fun i h1 h2 => by omega)
theorem into_at {l : List Tk} (h : CK l) {s : Bs} : ∀ (f j : Nat), l.length = j + f → (∀ i, i < j → Op.bytesLess (AO l i).1 s = true) → AtT l s (CZ l s f j)
 | 0, j, hj, h1 => ⟨by unfold CZ; omega, h1, fun i h2 h3 => by unfold CZ at h2; omega⟩
 | f + 1, j, hj, h1 => by
  unfold CZ
  split
  ·rename_i hc
   refine into_at h f (j + 1) (by omega) (fun i hi => ?_)
   by_cases e : i = j
   ·rw [e]; exact hc
   ·exact h1 i (by omega)
  ·rename_i hc
   refine ⟨by omega, h1, fun i h2 h3 => ?_⟩
   by_cases e : Op.bytesLess (AO l i).1 s = true
   ·exact absurd (less_down h h2 h3 e) hc
   ·simpa using e
theorem bsE_into {l : List Tk} (h : CK l) (s : Bs) : bsE l s = CZ l s l.length 0 := (bsE_at h s).uniq (into_at h l.length 0 (by omega) (fun i hi => absurd hi (Nat.not_lt_zero _)))
theorem cmpS_zero {a b : Bs} : decide (Ep a b = 0) = decide (a = b) := by
 unfold Ep
 split
 ·rename_i h
  have : a ≠ b := fun e => by rw [e, bl_irr] at h; cases h
  simp [this]
 ·split
  ·rename_i h; simp [h]
  ·rename_i h; simp [h]
theorem found_at {l : List Tk} (h : CK l) {j : Nat} (hj : j < l.length) : bsE l (AO l j).1 = j ∧ A9 l (AO l j).1 = true := by
 have e : bsE l (AO l j).1 = j := (bsE_at h _).uniq ⟨by omega, fun i hi => h i j hi hj, fun i h1 h2 => by
  by_cases e : i = j
  ·rw [e]; exact bl_irr _
  ·have h3 := h j i (by omega) h2
   have hne : (AO l i).1 ≠ (AO l j).1 := fun e => by rw [e, bl_irr] at h3; cases h3
   rw [bl_tri hne, h3]; rfl⟩
 refine ⟨e, ?_⟩
 unfold A9
 rw [e, cmpS_zero]
 simp [hj]
theorem tkAt_get {l : List Tk} {j : Nat} (h : j < l.length) : AO l j = l[j] := by simp [AO, List.getElem?_eq_getElem h]
theorem find_found {l : List Tk} (h : CK l) (s : Bs) : (A9 l s = true ∧ B8 l s = (bsE l s : Int) ∧ bsE l s < l.length) ∨ (A9 l s = false ∧ B8 l s = -1) := by
 by_cases hf : A9 l s = true
 ·left
  have h1 := hf
  unfold A9 at h1
  rw [cmpS_zero, Bool.and_eq_true, decide_eq_true_eq, decide_eq_true_eq] at h1
  obtain ⟨hl, hn⟩ := h1
  refine ⟨hf, ?_, hl⟩
  unfold B8
  refine C0 ?_ (fun i hi => ?_)
  ·rw [List.getElem?_map, List.getElem?_eq_getElem hl, Option.map_some]
   rw [tkAt_get hl] at hn
   rw [decide_eq_true hn]
  ·have hil : i < l.length := by omega
   rw [List.getElem?_map, List.getElem?_eq_getElem hil, Option.map_some]
   have h3 := (bsE_at h s).2.1 i hi
   rw [tkAt_get hil] at h3
   have hne : l[i].1 ≠ s := fun e => by rw [e, bl_irr] at h3; cases h3
   rw [decide_eq_false hne]
 ·right
  have hf' : A9 l s = false := by simpa using hf
  refine ⟨hf', ?_⟩
  have hall : ∀ j, j < l.length → (AO l j).1 ≠ s := fun j hj e => by
   have := (found_at h hj).2
   rw [e, hf'] at this; cases this
  unfold B8 Bq
  cases hx : (l.map fun m => decide (m.1 = s)).findIdx? id with
  | none => rfl
  | some k =>
   obtain ⟨hk, hp, _⟩ := List.findIdx?_eq_some_iff_getElem.1 hx
   rw [List.length_map] at hk
   simp only [List.getElem_map, id_eq, decide_eq_true_eq] at hp
   exact absurd (by rw [tkAt_get hk]; exact hp) (hall k hk)
theorem allow_eq {l : List Tk} (h : CK l) (n p : Bs) (c : Int) : Db l n p c = Cv l n p c := by
 unfold Db Cv
 rcases find_found h n with ⟨h1, h2, h3⟩ | ⟨h1, h2⟩
 ·rw [h1, h2]
  have : (0 : Int) ≤ (bsE l n : Int) := by omega
  rw [decide_eq_true this, Int.toNat_natCast]
  rfl
 ·rw [h1, h2]; rfl
def strT (k : Tk) : Bs × Bs × List Rl := (k.1, k.2.1, k.2.2.2)
def B3 (L M : List Tk) : Prop := L.map strT = M.map strT
theorem B3.len {L M : List Tk} (h : B3 L M) : L.length = M.length := by have := congrArg List.length h; simpa using this
theorem B3.at {L M : List Tk} (h : B3 L M) (j : Nat) : (AO L j).1 = (AO M j).1 ∧ (AO L j).2.1 = (AO M j).2.1 ∧ (AO L j).2.2.2 = (AO M j).2.2.2 := by
 have h1 : (L.map strT)[j]? = (M.map strT)[j]? := by rw [h]
 rw [List.getElem?_map, List.getElem?_map] at h1
 unfold AO
 simp only [List.getD]
 cases hL : L[j]? <;> cases hM : M[j]? <;> rw [hL, hM] at h1 <;> simp [strT] at h1 <;> simp [h1]
theorem B3.sort {L M : List Tk} (h : B3 L M) (hs : CK L) : CK M := fun i j hij hj => by
 rw [← (h.at i).1, ← (h.at j).1]; exact hs i j hij (by rw [h.len]; exact hj)
theorem B3.into {L M : List Tk} (h : B3 L M) (s : Bs) : ∀ f j, CZ L s f j = CZ M s f j
 | 0, _ => rfl
 | f + 1, j => by
  unfold CZ
  rw [(h.at j).1, B3.into h s f (j + 1)]
theorem B3.find {L M : List Tk} (h : B3 L M) (s : Bs) : B8 L s = B8 M s := by
 unfold B8
 have e : ∀ K : List Tk, (K.map fun m => decide (m.1 = s)) = (K.map strT).map fun x => decide (x.1 = s) := fun K => by rw [List.map_map]; rfl
 rw [e, e, h]
theorem B3.mid {L M : List Tk} (h : B3 L M) {k k' : Tk} (hk : strT k = strT k') (j : Nat) : B3 (L.take j ++ k :: L.drop j) (M.take j ++ k' :: M.drop j) := by
 unfold B3 at h ⊢
 rw [List.map_append, List.map_append, List.map_cons, List.map_cons, List.map_take, List.map_take, List.map_drop, List.map_drop, h, hk]
theorem sortT_mid {l : List Tk} {k : Tk} (h : CK l) (hf : A9 l k.1 = false) : CK (withT l k) := by
 have hat := bsE_at h k.1
 have hne : ∀ i, i < l.length → (AO l i).1 ≠ k.1 := fun i hi e => by
  have := (found_at h hi).2
  rw [e, hf] at this; cases this
 unfold withT
 generalize bsE l k.1 = q at hat
 obtain ⟨hq, lo, hi⟩ := hat
 have hi' : ∀ i, q ≤ i → i < l.length → Op.bytesLess k.1 (AO l i).1 = true := fun i h1 h2 => by
  rw [bl_tri (fun e => hne i h2 e.symm), hi i h1 h2]; rfl
 intro i j hij hj
 have hlen : (l.take q ++ k :: l.drop q).length = l.length + 1 := by
  simp only [List.length_append, List.length_cons, List.length_take, List.length_drop]; omega
 rw [hlen] at hj
 have em : ∀ i, AO (l.take q ++ k :: l.drop q) i = if i < q then AO l i else if i = q then k else AO l (i - 1) := fun i => mid_getD hq
 rw [em, em]
 by_cases a1 : i < q
 ·rw [if_pos a1]
  by_cases b1 : j < q
  ·rw [if_pos b1]; exact h i j hij (by omega)
  ·rw [if_neg b1]
   by_cases b2 : j = q
   ·rw [if_pos b2]; exact lo i a1
   ·rw [if_neg b2]; exact h i (j - 1) (by omega) (by omega)
 ·rw [if_neg a1]
  have b1 : ¬ j < q := by omega
  have b2 : ¬ j = q := by omega
  rw [if_neg b1, if_neg b2]
  by_cases a2 : i = q
  ·rw [if_pos a2]; exact hi' (j - 1) (by omega) (by omega)
  ·rw [if_neg a2]; exact h (i - 1) (j - 1) (by omega) (by omega)
theorem make_same {s r : Bool × List Tk} {k : Tk} (h : B3 s.2 r.2) (hs : CK s.2) : B3 (Bl s k).2 (BE r k).2 ∧ CK (Bl s k).2 := by
 unfold Bl BE El makeR
 have e1 : (ownT k).1 = k.1 := rfl
 have e2 : (ownT k).2.1 = k.2.1 := rfl
 have e3 : (ownT k).2.2.2 = k.2.2.2 := rfl
 rw [e1, e2, e3, ← h.find, ← h.find]
 by_cases h1 : tokE k.1 k.2.1 k.2.2.2 ≠ 0
 ·rw [if_pos h1, if_pos h1]; exact ⟨h, hs⟩
 rw [if_neg h1, if_neg h1]
 by_cases h2 : k.2.1 = []
 ·rw [if_pos h2, if_pos h2]; exact ⟨h, hs⟩
 rw [if_neg h2, if_neg h2]
 rcases find_found hs k.1 with ⟨f1, f2, f3⟩ | ⟨f1, f2⟩
 ·have n2 : 0 ≤ B8 s.2 k.1 := by rw [f2]; omega
  rw [if_pos f1, if_pos n2]; exact ⟨h, hs⟩
 have n1 : ¬ A9 s.2 k.1 = true := by rw [f1]; decide
 have n2 : ¬ 0 ≤ B8 s.2 k.1 := by rw [f2]; decide
 rw [if_neg n1, if_neg n2]
 rcases find_found hs k.2.1 with ⟨g1, g2, g3⟩ | ⟨g1, g2⟩
 ·have p1 : ¬ A9 s.2 k.2.1 = false := by rw [g1]; decide
  have p2 : ¬ B8 s.2 k.2.1 < 0 := by rw [g2]; omega
  rw [if_neg p1, if_neg p2, g2, Int.toNat_natCast, ← (h.at _).2.2]
  by_cases h5 : CV k.2.2.2 (AO s.2 (bsE s.2 k.2.1)).2.2.2 = false
  ·rw [if_pos h5, if_pos h5]; exact ⟨h, hs⟩
  rw [if_neg h5, if_neg h5]
  refine ⟨?_, sortT_mid (k := ownT k) hs f1⟩
  show B3 (withT s.2 (ownT k)) (withR r.2 k)
  unfold withT withR
  rw [e1, bsE_into hs, h.into, h.len]
  exact h.mid (k := ownT k) (k' := k) (show strT (ownT k) = strT k from rfl) _
 ·have p2 : B8 s.2 k.2.1 < 0 := by rw [g2]; decide
  rw [if_pos g1, if_pos p2]; exact ⟨h, hs⟩
theorem fold_tokens (ks : List Tk) : ∀ s r : Bool × List Tk, B3 s.2 r.2 → CK s.2 → B3 (ks.foldl Bl s).2 (ks.foldl BE r).2 ∧ CK (ks.foldl Bl s).2 := by
 induction ks with
 | nil => exact fun s r h hs => ⟨h, hs⟩
 | cons k t ih =>
  intro s r h hs
  rw [List.foldl_cons, List.foldl_cons]
  obtain ⟨h1, h2⟩ := make_same (k := k) h hs
  exact ih _ _ h1 h2
theorem view_tokens (ks : List Tk) : B3 (ks.foldl Bl (false, [firstTk])).2 (ks.foldl BE (false, [firstTk])).2 ∧ CK (ks.foldl Bl (false, [firstTk])).2 :=
 fold_tokens ks _ _ rfl (fun i j h1 h2 => by simp at h2; omega)
theorem B3.allow {L M : List Tk} (h : B3 L M) (n p : Bs) (c : Int) : Cv L n p c = Cv M n p c := by
 unfold Cv
 rw [h.find, (h.at _).2.2]
theorem firstT_neg (l : List Bool) : decide (Bq l ≠ -1) = decide (0 ≤ Bq l) := by
 unfold Bq
 cases l.findIdx? id with
 | none => rfl
 | some k =>
  have h1 : ((k : Int) ≠ -1) := by omega
  have h2 : ((0 : Int) ≤ (k : Int)) := by omega
  simp only [h2, decide_true]
  exact decide_eq_true h1
structure LikeV (v r : Vw) : Prop where
 se : v.se = r.se
 te : v.te = r.te
 key : v.key = r.key
 ms : v.ms = r.ms
 ks : B3 v.ks r.ks
 sort : CK v.ks
theorem ref_eq {v r : Vw} (h : LikeV v r) (a : Ak) : refA v a = refB r a := by
 have hp : permA v a = permB r a := by
  unfold permA permB
  rw [allow_eq h.sort, allow_eq h.sort, h.ks.allow, h.ks.allow]
 have hm : ¬ a.op ≤ 8 → D5 v a = mountB r a := fun h8 => by
  unfold D5 mountB BC
  rw [decide_eq_false h8, firstT_neg, firstT_neg, h.ms, Bool.false_or, Bool.or_comm]
 have hm8 : a.op ≤ 8 → D5 v a = true := fun h8 => by
  unfold D5
  rw [decide_eq_true h8, Bool.true_or]
 unfold refA refB
 rw [hp, h.se, h.key]
 by_cases h8 : a.op ≤ 8
 ·simp [hm8 h8, h8]
 ·simp [hm h8, h8]
theorem view_like {v : Vw} : LikeV (Ee v) (Eo v) := ⟨rfl, rfl, rfl, by show (v.ms.foldl Cb (true, [])).2 = _; rw [(view_mounts v.ms).1]; rfl, (view_tokens v.ks).1, (view_tokens v.ks).2⟩
theorem view_likeT {v : Vw} (h : SeenOk v) : LikeT (Ee v).ks (Eo v).ks := by
 obtain ⟨h1, h2⟩ := view_tokens v.ks
 have hfold : ∀ (ks : List Tk) (s : Bool × List Tk) (n : Nat), D1 s n → (∀ k ∈ s.2, k.2.2.2.length ≤ 1000) → (∀ k ∈ ks, TkG k ∧ k.2.2.2.length ≤ 1000) → D1 (ks.foldl Bl s) (n + ks.length) ∧ ∀ k ∈ (ks.foldl Bl s).2, k.2.2.2.length ≤ 1000 := by
  intro ks
  induction ks with
  | nil => exact fun s n h h' _ => ⟨h, h'⟩
  | cons k t ih =>
   intro s n hs hs' hk
   rw [List.foldl_cons, List.length_cons, show n + (t.length + 1) = n + 1 + t.length by omega]
   refine ih _ (n + 1) (makeSt_ok hs (hk k (List.mem_cons_self ..)).1) ?_ (fun x hx => hk x (List.mem_cons_of_mem _ hx))
   intro x hx
   unfold Bl at hx
   split at hx
   ·exact hs' x hx
   ·rename_i l hl
    unfold El at hl
    repeat' split at hl
    all_goals first | (cases hl; done) | skip
    simp only [Option.some.injEq] at hl
    subst hl
    unfold withT at hx
    rcases List.mem_append.1 hx with h1 | h1
    ·exact hs' x (List.mem_of_mem_take h1)
    ·rcases List.mem_cons.1 h1 with rfl | h1
     ·exact (hk k (List.mem_cons_self ..)).2
     ·exact hs' x (List.mem_of_mem_drop h1)
 obtain ⟨f1, f2⟩ := hfold v.ks (false, [firstTk]) 1 first_ok (fun k hk => by rw [List.mem_singleton.1 hk]; decide) (fun k hk => ⟨h.kp k hk, h.kr k hk⟩)
 have hl := h.kl
 refine ⟨h1.len, ?_, fun k hk => (f1.2 k hk).2.2.1, f2, fun j hj => ?_⟩
 ·have := f1.1
  show (v.ks.foldl Bl (false, [firstTk])).2.length ≤ 1000
  omega
 ·obtain ⟨e1, e2, e3⟩ := h1.at j
  have hjL : j < (Ee v).ks.length := by rw [show (Ee v).ks.length = (Eo v).ks.length from h1.len]; exact hj
  obtain ⟨g1, g2⟩ := found_at h2 hjL
  refine ⟨e1, e2, e3, ?_, ?_⟩
  ·rw [show (AO (Eo v).ks j).1 = (AO (Ee v).ks j).1 from e1.symm]; exact g2
  ·rw [show (AO (Eo v).ks j).1 = (AO (Ee v).ks j).1 from e1.symm]; exact congrArg (AO (Ee v).ks) g1
theorem foldR_ok : ∀ (ms : List Mt) (s : Bool × List Mt) (n : Nat), MtOk s n → (∀ x ∈ s.2, x.1.length ≤ 1000) → (∀ m ∈ ms, m.1.length ≤ 1000) → MtOk (ms.foldl BG s) (n + ms.length) ∧ ∀ x ∈ (ms.foldl BG s).2, x.1.length ≤ 1000
 | [], s, n, h, h', _ => ⟨h, h'⟩
 | m :: r, s, n, h, h', hm => by
  obtain ⟨h1, h2⟩ := addRt_ok h h' (hm m (List.mem_cons_self ..))
  rw [List.foldl_cons, List.length_cons, show n + (r.length + 1) = n + 1 + r.length by omega]
  exact foldR_ok r _ _ h1 h2 (fun x hx => hm x (List.mem_cons_of_mem _ hx))
theorem foldS_ok : ∀ (ks : List Tk) (s : Bool × List Tk) (n : Nat), D1 s n → (∀ k ∈ ks, TkG k) → D1 (ks.foldl Bl s) (n + ks.length)
 | [], s, n, h, _ => h
 | k :: r, s, n, h, hk => by
  rw [List.foldl_cons, List.length_cons, show n + (r.length + 1) = n + 1 + r.length by omega]
  exact foldS_ok r _ _ (makeSt_ok h (hk k (List.mem_cons_self ..))) (fun x hx => hk x (List.mem_cons_of_mem _ hx))
theorem foldT_ok : ∀ (ks : List Tk) (s : Bool × List Tk) (n : Nat), D1 s n → (∀ k ∈ ks, TkG k) → D1 (ks.foldl BE s) (n + ks.length)
 | [], s, n, h, _ => h
 | k :: r, s, n, h, hk => by
  rw [List.foldl_cons, List.length_cons, show n + (r.length + 1) = n + 1 + r.length by omega]
  exact foldT_ok r _ _ (makeRt_ok h (hk k (List.mem_cons_self ..))) (fun x hx => hk x (List.mem_cons_of_mem _ hx))
theorem doc_ok {v : Vw} (h : SeenOk v) : VwOk (Eo v) := by
 obtain ⟨h1, h2⟩ := foldR_ok v.ms (true, []) 0 ⟨Nat.le_refl _, fun _ => rfl⟩ (fun x hx => by cases hx) h.mp
 have h3 := foldT_ok v.ks (false, [firstTk]) 1 first_ok h.kp
 have hm := h.ml
 have hk := h.kl
 refine ⟨?_, h2, ?_, fun k hk => ⟨(h3.2 k hk).2.2.1, (h3.2 k hk).2.2.2⟩⟩
 ·have := h1.1
  show (v.ms.foldl BG (true, [])).2.length ≤ 1000
  omega
 ·have := h3.1
  show (v.ks.foldl BE (false, [firstTk])).2.length ≤ 1000
  omega
theorem see_ok {v : Vw} (h : SeenOk v) : VwOk (Ee v) := by
 have hd := doc_ok h
 have h3 := foldS_ok v.ks (false, [firstTk]) 1 first_ok h.kp
 have hk := h.kl
 have e : (Ee v).ms = (Eo v).ms := view_like.ms
 refine ⟨by rw [e]; exact hd.ml, by rw [e]; exact hd.mp, ?_, fun k hk => ⟨(h3.2 k hk).2.2.1, (h3.2 k hk).2.2.2⟩⟩
 have := h3.1
 show (v.ks.foldl Bl (false, [firstTk])).2.length ≤ 1000
 omega
theorem key_likeT : LikeT [firstTk] [firstTk] := ⟨rfl, by decide, fun k hk => by rw [List.mem_singleton.1 hk]; exact ⟨by decide, by decide⟩, fun k hk => by rw [List.mem_singleton.1 hk]; decide, fun j hj => by
 have : j = 0 := by simp at hj; omega
 subst this
 exact ⟨rfl, rfl, rfl, by decide, by decide⟩⟩
def rawT (k : Tk) : Prop := (k.2.2.1 = true → k.2.2.2 = []) ∧ Da k.2.2.2
theorem overR_false {l : List Rl} (h : overR l = false) : l.length ≤ 8 ∧ ∀ r ∈ l, r.1.length ≤ 100 := by
 unfold overR at h
 rw [Bool.or_eq_false_iff] at h
 refine ⟨by have := of_decide_eq_false h.1; omega, fun r hr => ?_⟩
 have h2 := List.any_eq_false.1 h.2 r hr
 unfold bigR at h2
 simp only [decide_eq_true_eq] at h2
 omega
theorem seen_of {v : Vw} (h : overS v = false) (hr : ∀ k ∈ v.ks, rawT k) : SeenOk v := by
 unfold overS at h
 rw [Bool.or_eq_false_iff, Bool.or_eq_false_iff, Bool.or_eq_false_iff] at h
 obtain ⟨⟨⟨h1, h2⟩, h3⟩, h4⟩ := h
 unfold overT at h3
 rw [Bool.or_eq_false_iff] at h3
 have hk : ∀ k ∈ v.ks, k.1.length ≤ 40 ∧ k.2.1.length ≤ 40 ∧ overR k.2.2.2 = false := fun k hk => by
  have h5 := List.any_eq_false.1 h3.2 k hk
  unfold bigT at h5
  rw [Bool.not_eq_true, Bool.or_eq_false_iff, Bool.or_eq_false_iff] at h5
  exact ⟨by have := of_decide_eq_false h5.1.1; omega, by have := of_decide_eq_false h5.1.2; omega, h5.2⟩
 refine ⟨by have := of_decide_eq_false h2; omega, fun m hm => ?_, by have := of_decide_eq_false h3.1; omega, fun k hk' => ?_, fun k hk' => ?_⟩
 ·have h5 := List.any_eq_false.1 h4 m hm
  unfold bigM at h5
  simp only [decide_eq_true_eq] at h5
  omega
 ·obtain ⟨a1, a2, a3⟩ := hk k hk'
  obtain ⟨b1, b2⟩ := overR_false a3
  obtain ⟨c1, c2⟩ := hr k hk'
  exact ⟨by omega, by omega, ⟨by omega, c1⟩, ⟨by omega, fun r hr => by have := b2 r hr; omega, c2⟩⟩
 ·obtain ⟨_, _, a3⟩ := hk k hk'
  have := (overR_false a3).1; omega
theorem ask_of {a : Ak} (h : overA a = false) (h0 : 0 ≤ a.op) (h1 : a.op < 256) (hr : Da a.rs) : AkOk a := by
 unfold overA at h
 simp only [Bool.or_eq_false_iff, decide_eq_false_iff_not] at h
 obtain ⟨⟨⟨⟨⟨⟨e1, e2⟩, e3⟩, e4⟩, e5⟩, e6⟩, e7⟩ := h
 obtain ⟨b1, b2⟩ := overR_false e6
 exact ⟨h0, h1, by omega, by omega, by omega, by omega, by omega, by omega, fun r hr' => ⟨by have := b2 r hr'; omega, (hr r hr').1⟩, by omega⟩
theorem without_nl (b : Ak) (y : Bool) (c : Int) : ∃ z, A_ { b with nlr := y } c = { A_ b c with nlr := z } := by
 by_cases c0 : c = 116
 ·exact ⟨y, by unfold A_; rw [if_pos c0, if_pos c0]⟩
 by_cases c1 : c = 112
 ·exact ⟨y, by unfold A_; rw [if_neg c0, if_pos c1, if_neg c0, if_pos c1]⟩
 by_cases c2 : c = 109 ∨ c = 113
 ·exact ⟨y, by unfold A_; rw [if_neg c0, if_neg c1, if_pos c2, if_neg c0, if_neg c1, if_pos c2]⟩
 by_cases c3 : c = 110
 ·exact ⟨y, by unfold A_; rw [if_neg c0, if_neg c1, if_neg c2, if_pos c3, if_neg c0, if_neg c1, if_neg c2, if_pos c3]⟩
 by_cases c4 : c = 99
 ·exact ⟨y, by unfold A_; rw [if_neg c0, if_neg c1, if_neg c2, if_neg c3, if_pos c4, if_neg c0, if_neg c1, if_neg c2, if_neg c3, if_pos c4]⟩
 by_cases c5 : c = 102
 ·exact ⟨y, by unfold A_; rw [if_neg c0, if_neg c1, if_neg c2, if_neg c3, if_neg c4, if_pos c5, if_neg c0, if_neg c1, if_neg c2, if_neg c3, if_neg c4, if_pos c5]⟩
 by_cases c6 : c = 108
 ·exact ⟨y, by unfold A_; rw [if_neg c0, if_neg c1, if_neg c2, if_neg c3, if_neg c4, if_neg c5, if_pos c6, if_neg c0, if_neg c1, if_neg c2, if_neg c3, if_neg c4, if_neg c5, if_pos c6]⟩
 by_cases c7 : c = 100
 ·exact ⟨y, by unfold A_; rw [if_neg c0, if_neg c1, if_neg c2, if_neg c3, if_neg c4, if_neg c5, if_neg c6, if_pos c7, if_neg c0, if_neg c1, if_neg c2, if_neg c3, if_neg c4, if_neg c5, if_neg c6, if_pos c7]⟩
 by_cases c8 : c = 114
 ·exact ⟨true, by unfold A_; rw [if_neg c0, if_neg c1, if_neg c2, if_neg c3, if_neg c4, if_neg c5, if_neg c6, if_neg c7, if_pos c8, if_neg c0, if_neg c1, if_neg c2, if_neg c3, if_neg c4, if_neg c5, if_neg c6, if_neg c7, if_pos c8]⟩
 by_cases c9 : c = 107
 ·exact ⟨y, by unfold A_; rw [if_neg c0, if_neg c1, if_neg c2, if_neg c3, if_neg c4, if_neg c5, if_neg c6, if_neg c7, if_neg c8, if_pos c9, if_neg c0, if_neg c1, if_neg c2, if_neg c3, if_neg c4, if_neg c5, if_neg c6, if_neg c7, if_neg c8, if_pos c9]⟩
 exact ⟨y, by unfold A_; rw [if_neg c0, if_neg c1, if_neg c2, if_neg c3, if_neg c4, if_neg c5, if_neg c6, if_neg c7, if_neg c8, if_neg c9, if_neg c0, if_neg c1, if_neg c2, if_neg c3, if_neg c4, if_neg c5, if_neg c6, if_neg c7, if_neg c8, if_neg c9]⟩
theorem chkR_nl (a : Ak) (x : Bool) : ∀ (l : Bs) (b : Ak) (y : Bool), ∃ z, Er { a with nlr := x } { b with nlr := y } l = ((Er a b l).1, { (Er a b l).2 with nlr := z })
 | [], b, y => ⟨y, rfl⟩
 | c :: r, b, y => by
  obtain ⟨z, hz⟩ := without_nl b y (c.toNat : Int)
  obtain ⟨u, hu⟩ := chkR_nl a x r (A_ b (c.toNat : Int)) z
  unfold Er
  rw [show Bg { a with nlr := x } (c.toNat : Int) = Bg a (c.toNat : Int) from rfl]
  by_cases h : Bg a (c.toNat : Int) ≠ 0
  ·rw [if_pos h, if_pos h]; exact ⟨y, rfl⟩
  ·rw [if_neg h, if_neg h, hz]; exact ⟨u, hu⟩
theorem check_nl (a : Ak) (x : Bool) : B9 { a with nlr := x } = B9 a := by
 obtain ⟨z, hz⟩ := chkR_nl a x (Bv a.op) (CJ a) x
 unfold B9
 show (if Cz a.op = [] then 22 else if (Er { a with nlr := x } { CJ a with nlr := x } (Bv a.op)).1 ≠ 0 then (Er { a with nlr := x } { CJ a with nlr := x } (Bv a.op)).1 else if zeroB (Er { a with nlr := x } { CJ a with nlr := x } (Bv a.op)).2 = false then 2 else if 400 < (Dh a).length then 5 else 0) = _
 rw [hz]
 rfl
theorem ref_own (v : Vw) (a : Ak) : refA v (ownA a) = refA v a := by
 unfold refA
 rw [show B9 (ownA a) = B9 a from check_nl a a.rs.isEmpty]
 rfl
def MsOk (l : List Mt) : Prop := l.length ≤ 1000 ∧ ∀ m ∈ l, m.1.length ≤ 1000
def mkMM (p : Bool × Bool × List Mt) : List D := [.agg [.slice p.1 [] (Ar p.2.2)], .slice p.2.1 [] (Ar p.2.2)]
theorem mkMM_inj (x y : Bool × Bool × List Mt) (e : mkMM x = mkMM y) : x = y := by
 simp only [mkMM, List.cons.injEq, D.agg.injEq, D.slice.injEq, true_and, and_true] at e
 exact Prod.ext e.1.1 (Prod.ext e.2.1 (mtsD_inj e.1.2))
noncomputable def F66 : List D → Option D := FX mkMM (fun p => MsOk p.2.2 ∧ (p.1 = true → p.2.2 = [])) (fun _ => .bool true)
theorem F66_eq {n1 n2 : Bool} {l : List Mt} (h : MsOk l) (hn : n1 = true → l = []) : F66 [.agg [.slice n1 [] (Ar l)], .slice n2 [] (Ar l)] = some (.bool true) := AP (mk := mkMM) (a := (n1, n2, l)) mkMM_inj ⟨h, hn⟩
def mkVV (p : Vw × Vw) : List D := [vwD p.1, vwD p.2]
theorem mkVV_inj (x y : Vw × Vw) (e : mkVV x = mkVV y) : x = y := by
 simp only [mkVV, List.cons.injEq, and_true] at e
 exact Prod.ext (DH e.1) (DH e.2)
structure AlikeV (v r : Vw) : Prop where
 se : v.se = r.se
 te : v.te = r.te
 key : v.key = r.key
 ms : v.ms = r.ms
 mo : MsOk v.ms
 mn : v.nlm = true → v.ms = []
 ks : LikeT v.ks r.ks
noncomputable def F22 : List D → Option D := FX mkVV (fun p => AlikeV p.1 p.2) (fun _ => .bool true)
theorem F22_eq {v r : Vw} (h : AlikeV v r) : F22 [vwD v, vwD r] = some (.bool true) := AP (mk := mkVV) (a := (v, r)) mkVV_inj h
theorem ok22 (ok66 : (Ai F66).ok Tryz.prog 66) : (Ai F22).ok Tryz.prog 22 := by
 obtain ⟨S, hS, hl⟩ := AJ (Ab ok66 (Ab ok67 Ae))
 have s66 := hl 66 _ rfl
 have s67 := hl 67 _ rfl
 clear hl
 refine AL hS fn22 (fun _ => by simp [mkVV]) (fun p hp => ?_)
 obtain ⟨⟨a1, a2, a3, a4, a5, a6, a7⟩, ⟨b1, b2, b3, b4, b5, b6, b7⟩⟩ := p
 obtain ⟨h1, h2, h3, h4, h5, h6, h7⟩ := hp
 simp only at h1 h2 h3 h4 h5 h6 h7
 subst h1 h2 h3 h4
 have h66 := F66_eq (n1 := a4) (n2 := b4) h5 h6
 have h67 := F67_eq (n1 := a6) (n2 := b6) h7
 unfold dc22 mkVV vwD vwC
 simp only
 cases a1 <;> simp only [↓go1, gB0, reduceIte, Nat.reduceEqDiff, Nat.reduceAdd, Aa s66, h66, Aa s67, h67, Ac, Ag, Ah, Nat.reduceLT, Option.bind_some, List.cons.injEq, Nat.zero_ne_one, Nat.succ_ne_zero] <;> (try (first | rfl | exact ⟨rfl, rfl⟩))
theorem alike_view {v : Vw} (h : SeenOk v) : AlikeV (Ee v) (Eo v) := by
 have hl := view_like (v := v)
 have hs := see_ok h
 obtain ⟨h1, _⟩ := foldR_ok v.ms (true, []) 0 ⟨Nat.le_refl _, fun _ => rfl⟩ (fun x hx => by cases hx) h.mp
 refine ⟨rfl, rfl, rfl, hl.ms, ⟨hs.ml, hs.mp⟩, fun e => ?_, view_likeT h⟩
 have e2 : (v.ms.foldl Cb (true, [])).1 = true := e
 rw [(view_mounts v.ms).1] at e2
 show (v.ms.foldl Cb (true, [])).2 = []
 rw [(view_mounts v.ms).1]
 exact h1.2 e2
theorem alike_key (k : Bs) : AlikeV (keyV k false) (keyV k false) := ⟨rfl, rfl, rfl, rfl, ⟨Nat.zero_le _, fun m hm => by cases hm⟩, fun _ => rfl, key_likeT⟩
end Go.Vd
namespace Go.Vd
open Go.Proofs
def dc5 : DC := (sr [oo 3 (.box (.t 0)), oo 4 (.box (.t 1)), cb 6 false] (.seq (sr [lk 9 5 3, cc 10 15 [(.t 9)], bi 11 .gtr 10 0, mm 12 11, og 13 (.load (some 11) (.t 4)) 3 false, og 14 (.call (.c (.fn 16 [])) [(.t 13)]) 3 false, og 15 (.bin .gtr (.t 14) (.c (.int .i64 0))) 3 false, oo 16 (.pick (.t 12) (.c (.bool true)) (.t 15))] (cd 16 (sr [cc 17 10 [], mm 6 17] .ret) .skip)) (sr [lk 19 5 3, cc 20 17 [(.t 19)], mm 18 20, xx 21 0 18, xx 22 1 18, oo 7 (.alloc [(.bool false), (.int .i64 0), (.str []), (.slice true [] []), (.slice true [] [])]), oo 8 (.alloc [(.bool false), (.int .i64 0), (.str []), (.slice true [] []), (.slice true [] [])]), oz (.store 5 (.t 7) (.t 21)), oz (.store 5 (.t 8) (.t 22))] (.seq (.seq (.drawn [lk 23 5 7, lk 24 5 8, cc 25 22 [(.t 23), (.t 24)], oo 26 (.un .not (.t 25)), mm 27 26, og 28 (.faddr 2 (.t 3)) 4 false, og 29 (.load none (.t 28)) 4 false, og 30 (.call (.c (.fn 23 [])) [(.t 29)]) 4 false, og 31 (.faddr 2 (.t 3)) 4 false, og 32 (.load none (.t 31)) 4 false, og 33 (.call (.c (.fn 24 [])) [(.t 32)]) 4 false, og 34 (.call (.c (.fn 22 [])) [(.t 30), (.t 33)]) 4 false, og 35 (.un .not (.t 34)) 4 false, oo 36 (.pick (.t 27) (.c (.bool true)) (.t 35))] [(7, 9)]) (cd 36 (sr [cb 6 false] .ret) .skip)) (.seq (.drawn [lk 37 5 7, lk 38 11 4, cc 39 18 [(.t 38)], cc 40 25 [(.t 37), (.t 39)], lk 41 5 8, lk 42 11 4, cc 43 26 [(.t 41), (.t 42)], bt 44 .eql 40 43, mm 45 44, og 46 (.mv (.t 2)) 8 true, og 47 (.call (.c (.fn 27 [])) [(.t 46)]) 8 true, og 48 (.mv (.t 2)) 8 true, og 49 (.conv .i64 (.t 48)) 8 true, og 50 (.call (.c (.fn 28 [])) [(.t 49)]) 8 true, og 51 (.bin .eql (.t 47) (.t 50)) 8 true, oo 52 (.pick (.t 45) (.t 51) (.c (.bool false))), mm 53 52, og 54 (.mv (.t 2)) 16 true, og 55 (.call (.c (.fn 29 [])) [(.t 54)]) 16 true, og 56 (.mv (.t 2)) 16 true, og 57 (.conv .i64 (.t 56)) 16 true, og 58 (.call (.c (.fn 30 [])) [(.t 57)]) 16 true, og 59 (.beq false (.t 55) (.t 58)) 16 true, oo 60 (.pick (.t 53) (.t 59) (.c (.bool false))), mm 61 60, og 62 (.call (.c (.fn 10 [])) []) 24 true, oo 63 (.pick (.t 61) (.t 62) (.c (.bool false))), mm 6 63] [(2, 0), (2, 4), (2, 5), (3, 4), (3, 5)]) .ret)))))
theorem fn5 : Fn Tryz.prog 5 64 dc5 [.t 6] := Ao Tryz.func5
end Go.Vd
namespace Go.Vd
open Go.Proofs Go.RowKit
def mkL (p : Vw × Ak × Int) : List D := [vwD p.1, akD p.2.1, .int .u8 p.2.2]
theorem mkL_inj (x y : Vw × Ak × Int) (e : mkL x = mkL y) : x = y := by
 simp only [mkL, List.cons.injEq, D.int.injEq, true_and, and_true] at e
 exact Prod.ext (DH e.1) (Prod.ext (BI e.2.1) e.2.2)
structure RawP (p : Vw × Ak × Int) : Prop where
 ks : ∀ k ∈ p.1.ks, rawT k
 rs : Da p.2.1.rs
 o0 : 0 ≤ p.2.1.op
 o1 : p.2.1.op < 256
 q0 : 0 ≤ p.2.2
 q1 : p.2.2 < 256
theorem rE {m : Mem} {i j : Nat} {x : List D} {n : Nat} (h : j ≠ i) : Af (m.put [i] 0 x) [j] 0 n = Af m [j] 0 n := AD (by simp [h])
theorem e1 {m : Mem} {x : List D} {n : Nat} : Af (m.put [16] 0 x) [0] 0 n = Af m [0] 0 n := rE (by decide)
theorem e2 {m : Mem} {x : List D} {n : Nat} : Af (m.put [17] 0 x) [0] 0 n = Af m [0] 0 n := rE (by decide)
theorem e3 {m : Mem} {x : List D} {n : Nat} : Af (m.put [16] 0 x) [1] 0 n = Af m [1] 0 n := rE (by decide)
theorem e4 {m : Mem} {x : List D} {n : Nat} : Af (m.put [17] 0 x) [1] 0 n = Af m [1] 0 n := rE (by decide)
theorem e5 {m : Mem} {x : List D} {n : Nat} : Af (m.put [17] 0 x) [16] 0 n = Af m [16] 0 n := rE (by decide)
theorem e6 {m : Mem} {x : List D} {n : Nat} : Af (m.put [16] 0 x) [17] 0 n = Af m [17] 0 n := rE (by decide)
theorem e7 {m : Mem} {v : Vw} {i : Id} : Af (m.put i 0 (vwC v)) i 0 5 = some (vwC v) := Av rfl
noncomputable def F5 : List D → Option D := FX mkL RawP (fun _ => .bool true)
theorem ok5 (ok22 : (Ai F22).ok Tryz.prog 22) (ok10 : (Ai trueF).ok Tryz.prog 10) : (Ai F5).ok Tryz.prog 5 := by
 obtain ⟨S, hS, hl⟩ := AJ (Ab ok15 (Ab ok16 (Ab ok10 (Ab ok17 (Ab ok22 (Ab ok23 (Ab ok24 (Ab ok18 (Ab ok25 (Ab ok26 (Ab ok27 (Ab ok28 (Ab ok29 (Ab ok30 Ae))))))))))))))
 have s15 := hl 15 _ rfl
 have s16 := hl 16 _ rfl
 have s10 := hl 10 _ rfl
 have s17 := hl 17 _ rfl
 have s22 := hl 22 _ rfl
 have s23 := hl 23 _ rfl
 have s24 := hl 24 _ rfl
 have s18 := hl 18 _ rfl
 have s25 := hl 25 _ rfl
 have s26 := hl 26 _ rfl
 have s27 := hl 27 _ rfl
 have s28 := hl 28 _ rfl
 have s29 := hl 29 _ rfl
 have s30 := hl 30 _ rfl
 clear hl
 refine AL hS fn5 (fun _ => by simp [mkL]) (fun p hp => ?_)
 obtain ⟨v, a, q⟩ := p
 obtain ⟨r1, r2, r3, r4, r5, r6⟩ := hp
 simp only at r1 r2 r3 r4 r5 r6
 have h15 : F15 [.agg (vwC v)] = some (oneI (overS v)) := F15_eq
 have h16 : F16 [.agg (akC a)] = some (oneI (overA a)) := F16_eq
 have h10 : trueF [] = some (.bool true) := rfl
 unfold dc5 mkL vwD akD
 simp only
 cases hs : overS v with
 | true =>
  rw [hs] at h15
  simp only [↓go1, go2, go3, go4, reduceIte, Nat.reduceEqDiff, Nat.reduceAdd, Int.reduceLT, CR, Aa s15, h15, Aa s10, h10, rdC0, Bn, Bj, Aw, Ap, Nat.zero_add, and_self]
  all_goals (first | rfl | exact ⟨rfl, rfl⟩)
 | false =>
  rw [hs] at h15
  cases ho : overA a with
  | true =>
   rw [ho] at h16
   simp only [↓go1, go2, go3, go4, reduceIte, Nat.reduceEqDiff, Nat.reduceAdd, Int.reduceLT, CR, oneI_f, Aa s15, h15, Aa s16, h16, Aa s10, h10, C6, rdC0, Bn, Bj, Aw, AW, AX, Ap, Nat.zero_add, and_self]
   all_goals (first | rfl | exact ⟨rfl, rfl⟩)
  | false =>
   rw [ho] at h16
   have sv := seen_of hs r1
   have sa := ask_of ho r3 r4 r2
   have sa' : AkOk (ownA a) := ⟨sa.op0, sa.op, sa.tk, sa.pa, sa.ot, sa.ns, sa.da, sa.rl, sa.rs, sa.key⟩
   have h17 : F17 [.agg (vwC v)] = some (.tup [.agg (vwC (Ee v)), .agg (vwC (Eo v))]) := F17_eq sv
   have h22 : F22 [.agg (vwC (Ee v)), .agg (vwC (Eo v))] = some (.bool true) := F22_eq (alike_view sv)
   have h23 : F23 [.str v.key] = some (.agg (vwC (keyV v.key false))) := rfl
   have h22' : F22 [.agg (vwC (keyV v.key false)), .agg (vwC (keyV v.key false))] = some (.bool true) := F22_eq (alike_key _)
   have h18 : F18 [.agg (akC a)] = some (.agg (akC (ownA a))) := F18_eq sa.rl
   have h25 : F25 [.agg (vwC (Ee v)), .agg (akC (ownA a))] = some (.int .i64 (refB (Eo v) a)) := by
    rw [← ref_eq view_like, ← ref_own]; exact F25_eq (see_ok sv) sa'
   have h26 : F26 [.agg (vwC (Eo v)), .agg (akC a)] = some (.int .i64 (refB (Eo v) a)) := F26_eq (doc_ok sv) sa
   have hu := u8i64 r5 r6
   have h27 : F27 [.int .u8 q] = some (.int .u8 (Cn q)) := rfl
   have h28 : F28 [.int .i64 q] = some (.int .u8 (Cn q)) := rfl
   have h29 : F29 [.int .u8 q] = some (.bool (writesF q)) := rfl
   have h30 : F30 [.int .i64 q] = some (.bool (writesF q)) := rfl
   generalize Ee v = V at h17 h22 h25
   generalize Eo v = R at h17 h22 h25 h26
   generalize refB R a = e at h25 h26
   generalize ownA a = A at h18 h25
   generalize keyV v.key false = K at h23 h22'
   simp only [↓go1, gB0, reduceIte, Nat.reduceEqDiff, Nat.reduceAdd, B2, B_, Int.reduceLT, oneI_f, Aa s15, h15, Aa s16, h16, C6, Av, rdC0, Bn, Bj, Aw, AM, AW, AX, Ap, Ax, Ac, Nat.reduceLT, Option.isSome_some, List.cons.injEq, Nat.zero_ne_one, e5, e6, e7, Aa s17, h17, Aa s22, h22, h22', Aa s23, Aa s24, h23]
   refine AA.intro (Al ?_) ?_
   ·first | rfl | (simp [Bh, A1, rds, AG]; done)
   simp only [↓go1, go2, go3, go4, reduceIte, Nat.reduceEqDiff, Nat.reduceAdd, Aa s10, h10, C6, Bn, Bj, AW, AX, e3, e4, e5, e7, hu, Aa s18, h18, Aa s25, h25, Aa s26, h26, Aa s27, h27, Aa s28, h28, Aa s29, h29, Aa s30, h30]
   refine AA.intro (Al ?_) ?_
   ·first | rfl | (simp [Bh, A1, rds, AG]; done)
   simp only [↓go1, go2, go3, reduceIte, Nat.reduceEqDiff, and_self]
   all_goals (first | rfl | exact ⟨rfl, rfl⟩)
end Go.Vd
namespace Go.Vd
open Go.RowKit
theorem Du {a : Act} {t : Nat} {d : Option Tmp} {v : Value} (h : d ≠ some t) : (a.put d v).tmps[t]? = a.tmps[t]? := by
 cases d with
 | none => rfl
 | some k =>
  have hk : k ≠ t := fun e => h (by rw [e])
  simp only [Act.put]
  rw [Array.getElem?_setIfInBounds]
  rw [if_neg hk]
theorem ops_keep {P : Program} {ops : Array Oper} {t : Nat} {x : Option Value} {Q : Exit → Act → World → Prop} (hn : ∀ (i : Nat) o, ops[i]? = some o → o.dst ≠ some t) : ∀ (l : List Nat) (a : Act) (w : World),
  a.tmps[t]? = x → wpOps P ops Q l a w → wpOps P ops (fun e a' w' => Q e a' w' ∧ (e = .normal → a'.tmps[t]? = x)) l a w
 | [], a, w, hx, h => ⟨h, fun _ => hx⟩
 | i :: l, a, w, hx, h => by
  have ih := ops_keep (P := P) (Q := Q) (x := x) hn l
  simp only [wpOps] at h ⊢
  cases ho : ops[i]? with
  | none => rw [ho] at h; exact ih a w hx h
  | some o =>
   rw [ho] at h
   simp only at h ⊢
   have hd := hn i o ho
   split at h
   ·rename_i hw
    rw [if_pos hw]
    rcases h with h | ⟨h1, h2⟩
    ·left
     unfold Oper.wp at h ⊢
     revert h
     generalize (execOp a.eval o).run P w = r
     intro h
     unfold Oper.upon at h ⊢
     split at h
     ·exact ih _ _ (by rw [Du hd]; exact hx) h
     ·exact ih _ _ (by rw [Du hd]; exact hx) h
     ·exact ih _ _ (by rw [Du hd]; exact hx) h
     ·refine h.mono (fun e w' he => ?_)
      cases e with
      | returned v => exact ih _ _ (by rw [Du hd]; exact hx) he
      | panicked c => exact ⟨he, fun e => nomatch e⟩
      | outgrown => obtain ⟨a0, w0, h0⟩ := he; exact ⟨a0, w0, h0, fun e => nomatch e⟩
     ·exact h.mono (fun v w' he => ih _ _ (by rw [Du hd]; exact hx) he)
     ·exact ⟨h, fun e => nomatch e⟩
     ·exact h.elim
    ·right
     obtain ⟨a0, w0, h0⟩ := h2
     exact ⟨h1, a0, w0, h0, fun e => nomatch e⟩
   ·rename_i hw
    rw [if_neg hw]
    exact ih _ _ (by rw [Du hd]; exact hx) h
def Ct (t : Nat) : Code → Bool
 | .region _ ops _ => ops.toList.all fun o => o.dst != some t
 | .seq a b => Ct t a && Ct t b
 | .cond _ a b => Ct t a && Ct t b
 | .block _ c => Ct t c
 | .loop c => Ct t c
 | _ => true
section
variable {P : Program} {B : Nat} {w0 : World} {N : Nat} {ns : Id} {S : Summs} {t : Nat}
theorem keeps_ops {ops : Array Oper} (h : (ops.toList.all fun o => o.dst != some t) = true) (i : Nat) (o : Oper) (ho : ops[i]? = some o) : o.dst ≠ some t := by
 have := List.all_eq_true.1 h o (by rw [← Array.getElem?_toList] at ho; exact List.mem_of_getElem? ho)
 simpa using this
theorem ev_keeps (hS : Summs.ok P S) : ∀ (code : Code) (dc : DC), AB P N code = some dc → Ct t code = true → ∀ (st : St) (e : Ex) (st' : St), Ev S ns dc st e st' → ∀ (a : Act) (w : World) (g : Gh), Co P B w0 N ns st a w g →
  code.wp P (fun e' a' w' => Post P B w0 N ns st w g e st' e' a' w' ∧ a'.tmps[t]? = a.tmps[t]?) a w := by
 intro code
 induction code with
 | skip =>
  intro dc htr hk st e st' hev a w g hx
  simp only [AB, Option.some.injEq] at htr; subst htr
  obtain ⟨rfl, rfl⟩ := hev
  exact wp_skip ⟨⟨rfl, g, hx, Ext.refl w g, Dn.refl _ _ _⟩, rfl⟩
 | ret =>
  intro dc htr hk st e st' hev a w g hx
  simp only [AB, Option.some.injEq] at htr; subst htr
  obtain ⟨rfl, rfl⟩ := hev
  exact wp_ret ⟨⟨rfl, g, hx, Ext.refl w g, Dn.refl _ _ _⟩, rfl⟩
 | exit i =>
  intro dc htr hk st e st' hev a w g hx
  simp only [AB, Option.some.injEq] at htr; subst htr
  obtain ⟨rfl, rfl⟩ := hev
  exact wp_exit ⟨⟨rfl, g, hx, Ext.refl w g, Dn.refl _ _ _⟩, rfl⟩
 | region id ops draw =>
  intro dc htr hk st e st' hev a w g hx
  cases draw with
  | false =>
   simp only [AB, Option.map_eq_some_iff] at htr
   obtain ⟨dops, hops, rfl⟩ := htr
   obtain ⟨rfl, he, hc⟩ := hev
   rw [evRow_strip, evRow_sched S ns st.c dops dops 0 _ _ rfl, ← List.range_eq_range'] at he
   have hl : dops.length = ops.size := by simpa using (BS hops).1
   have h0 : below 0 = fun _ => false := by funext j; simp [below]
   refine wp_mono (wp_region (ops_keep (x := a.tmps[t]?) (Q := Post P B w0 N ns st w g .normal st') (keeps_ops hk) _ a w rfl ?_)) (fun e' a' w' h => ⟨h.1, h.2 h.1.1⟩)
   rw [← hl]
   refine CY hS hops (List.range dops.length) (below 0) st.s st.m a w g st'.s st'.m ?_ he (hx.start _) (fun a' w' g' h1 h2 h3 => ⟨rfl, g', ?_, h2, h3⟩)
   ·rw [List.range_eq_range']; exact fits_range _ 0
   ·rw [List.range_eq_range', foldl_range] at h1
    rw [Nat.zero_add] at h1
    unfold Co
    rw [hc, List.length_map]
    exact h1.done
  | true =>
   simp only [AB] at htr
   obtain ⟨dops, befs, hops, hb, hs, hord, rfl⟩ := BU htr
   obtain ⟨rfl, ⟨f, he, hf⟩, hc⟩ := hev
   rw [EH] at he
   refine wp_mono (wp_region_draw (fun u => ops_keep (x := a.tmps[t]?) (Q := Post P B w0 N ns st w g .normal st') (keeps_ops hk) _ a _ rfl ?_)) (fun e' a' w' h => ⟨h.1, h.2 h.1.1⟩)
   obtain ⟨g1, g2⟩ := schedule_goes hops hb hord (P.follows .mixedOrders) u
   have hsch := text_sched (c := st.c) (ns := ns) hS hb hs he hf g1 g2
   have hx' : InS P B w0 N ns st.c st.s st.m a w.drew g := ⟨hx.inv.drew, fun t => (hx.slots t).ext (Ext.drew w g), hx.size, hx.defers, hx.fresh⟩
   refine CY hS hops _ (fun _ => false) st.s st.m a w.drew g st'.s st'.m (fits_goes g1) hsch (hx'.start _) (fun a' w' g' h1 h2 h3 => ⟨rfl, g', ?_, (Ext.drew w g).trans h2, h3⟩)
   unfold Co
   rw [hc, List.length_map]
   rw [g2] at h1
   exact h1.done
 | seq x y ihx ihy =>
  intro dc htr hk st e st' hev a w g hx
  simp only [Ct, Bool.and_eq_true] at hk
  simp only [AB] at htr
  split at htr
  ·rename_i dx dy h1 h2
   simp only [Option.some.injEq] at htr; subst htr
   obtain ⟨e1, st1, hev1, hor⟩ := hev
   have hwp := ihx dx h1 hk.1 st e1 st1 hev1 a w g hx
   refine wp_seq (wp_mono hwp ?_)
   rintro e' a' w' ⟨⟨rfl, g', hh, hxt, hkp⟩, hfr⟩
   rcases hor with ⟨rfl, hev2⟩ | ⟨hne, rfl, rfl⟩
   ·exact wp_mono (ihy dy h2 hk.2 st1 e st' hev2 a' w' g' hh) (fun e'' a'' w'' h => ⟨h.1.trans hxt hkp, h.2.trans hfr⟩)
   ·cases e with
    | normal => exact absurd rfl hne
    | ret => exact ⟨⟨rfl, g', hh, hxt, hkp⟩, hfr⟩
    | exit i => exact ⟨⟨rfl, g', hh, hxt, hkp⟩, hfr⟩
  ·cases htr
 | cond c x y ihx ihy =>
  intro dc htr hk st e st' hev a w g hx
  simp only [Ct, Bool.and_eq_true] at hk
  simp only [AB] at htr
  split at htr
  ·rename_i dcc dx dy h0 h1 h2
   simp only [Option.some.injEq] at htr; subst htr
   have hc := hx.slots.arg h0
   rcases hev with ⟨ht, hev⟩ | ⟨ht, hev⟩
   ·rw [ht] at hc
    exact wp_cond_true hc.bool_inv (ihx dx h1 hk.1 st e st' hev a w g hx)
   ·rw [ht] at hc
    exact wp_cond_false hc.bool_inv (ihy dy h2 hk.2 st e st' hev a w g hx)
  ·cases htr
 | block i c ih =>
  intro dc htr hk st e st' hev a w g hx
  simp only [Ct] at hk
  simp only [AB, Option.map_eq_some_iff] at htr
  obtain ⟨dcc, h1, rfl⟩ := htr
  obtain ⟨e1, hev1, hor⟩ := hev
  refine wp_block (wp_mono (ih dcc h1 hk st e1 st' hev1 a w g hx) ?_)
  rintro e' a' w' ⟨⟨rfl, g', hh, hxt, hkp⟩, hfr⟩
  rcases hor with ⟨rfl, rfl⟩ | ⟨hne, rfl⟩
  ·simp only [Ex.toExit, Exit.inBlock, if_true]
   exact ⟨⟨rfl, g', hh, hxt, hkp⟩, hfr⟩
  ·cases e with
   | normal => exact ⟨⟨rfl, g', hh, hxt, hkp⟩, hfr⟩
   | ret => exact ⟨⟨rfl, g', hh, hxt, hkp⟩, hfr⟩
   | exit j =>
    simp only [Ex.toExit, Exit.inBlock]
    rw [if_neg (fun e => hne (by rw [e]))]
    exact ⟨⟨rfl, g', hh, hxt, hkp⟩, hfr⟩
 | loop c ih =>
  intro dc htr hk st e st' hev a w g hx
  simp only [Ct] at hk
  simp only [AB, Option.map_eq_some_iff] at htr
  obtain ⟨dcc, h1, rfl⟩ := htr
  obtain ⟨n, hlp⟩ := hev
  refine wp_loop_n (fun n a' w' => ∃ st1 g1, Co P B w0 N ns st1 a' w' g1 ∧ Ext w g w' g1 ∧ Dn ns st.m g st1.m g1 ∧ Lp (Ev S ns dcc) n st1 e st' ∧ a'.tmps[t]? = a.tmps[t]?) ?_ ⟨st, g, hx, Ext.refl w g, Dn.refl _ _ _, hlp, rfl⟩
  rintro n a1 w1 ⟨st1, g1, hh, hxt, hkp, hlp1, hfr⟩
  cases hlp1 with
  | stop _ _ _ hr hne =>
   refine wp_mono (ih dcc h1 hk st1 e st' hr a1 w1 g1 hh) ?_
   rintro e' a' w' ⟨hp, hf2⟩
   have hp' := hp.trans hxt hkp
   obtain ⟨rfl, _⟩ := hp
   cases e with
   | normal => exact absurd rfl hne
   | ret => exact ⟨hp', hf2.trans hfr⟩
   | exit i => exact ⟨hp', hf2.trans hfr⟩
  | more n' _ st2 _ _ hr hlp2 =>
   refine wp_mono (ih dcc h1 hk st1 .normal st2 hr a1 w1 g1 hh) ?_
   rintro e' a' w' ⟨⟨rfl, g', hh', hxt', hkp'⟩, hf2⟩
   exact ⟨n', Nat.lt_succ_self _, st2, g', hh', hxt.trans hxt', hkp.trans hkp', hlp2, hf2.trans hfr⟩
 | _ =>
  intro dc htr
  simp [AB] at htr
end
section
variable {P : Program} {S : Summs} {f : FuncId} {N : Nat} {dc a b : DC} {rs : List RV} {code : Code}
theorem Ew (h : AB P N code = some (.seq a b)) : ∃ x y, code = .seq x y ∧ AB P N x = some a ∧ AB P N y = some b := by
 cases code with
 | seq x y =>
  simp only [AB] at h
  split at h
  ·rename_i h1 h2
   simp only [Option.some.injEq, DC.seq.injEq] at h
   obtain ⟨rfl, rfl⟩ := h
   exact ⟨x, y, rfl, h1, h2⟩
  ·cases h
 | region i ops d =>
  cases d with
  | false => simp [AB] at h
  | true =>
   simp only [AB] at h
   obtain ⟨_, _, _, _, _, _, h⟩ := BU h
   cases h
 | cond c x y =>
  simp only [AB] at h
  split at h
  ·simp at h
  ·cases h
 | _ => simp [AB] at h
theorem tr_block {i : Nat} (h : AB P N code = some (.block i a)) : ∃ x, code = .block i x ∧ AB P N x = some a := by
 cases code with
 | block j x =>
  simp only [AB, Option.map_eq_some_iff, DC.block.injEq] at h
  obtain ⟨c, h1, rfl, rfl⟩ := h
  exact ⟨x, rfl, h1⟩
 | region i ops d =>
  cases d with
  | false => simp [AB] at h
  | true =>
   simp only [AB] at h
   obtain ⟨_, _, _, _, _, _, h⟩ := BU h
   cases h
 | cond c x y =>
  simp only [AB] at h
  split at h
  ·simp at h
  ·cases h
 | seq x y =>
  simp only [AB] at h
  split at h
  ·simp at h
  ·cases h
 | _ => simp [AB] at h
theorem tr_loop (h : AB P N code = some (.loop a)) : ∃ x, code = .loop x ∧ AB P N x = some a := by
 cases code with
 | loop x =>
  simp only [AB, Option.map_eq_some_iff, DC.loop.injEq] at h
  obtain ⟨c, h1, rfl⟩ := h
  exact ⟨x, rfl, h1⟩
 | region i ops d =>
  cases d with
  | false => simp [AB] at h
  | true =>
   simp only [AB] at h
   obtain ⟨_, _, _, _, _, _, h⟩ := BU h
   cases h
 | cond c x y =>
  simp only [AB] at h
  split at h
  ·simp at h
  ·cases h
 | seq x y =>
  simp only [AB] at h
  split at h
  ·simp at h
  ·cases h
 | _ => simp [AB] at h
theorem tr_cond {c : Arg} (h : AB P N code = some (.cond c a b)) : ∃ o x y, code = .cond o x y ∧ AF o = some c ∧ AB P N x = some a ∧ AB P N y = some b := by
 cases code with
 | cond o x y =>
  simp only [AB] at h
  split at h
  ·rename_i h0 h1 h2
   simp only [Option.some.injEq, DC.cond.injEq] at h
   obtain ⟨rfl, rfl, rfl⟩ := h
   exact ⟨o, x, y, rfl, h0, h1, h2⟩
  ·cases h
 | region i ops d =>
  cases d with
  | false => simp [AB] at h
  | true =>
   simp only [AB] at h
   obtain ⟨_, _, _, _, _, _, h⟩ := BU h
   cases h
 | seq x y =>
  simp only [AB] at h
  split at h
  ·simp at h
  ·cases h
 | _ => simp [AB] at h
theorem tr_row {ops : List DOper} (h : AB P N code = some (.row ops)) : ∃ i os dops, code = .region i os false ∧ Cc P N os.toList = some dops ∧ ops = dops.map DOper.strip := by
 cases code with
 | region i os d =>
  cases d with
  | false =>
   simp only [AB, Option.map_eq_some_iff, DC.row.injEq] at h
   obtain ⟨dops, h1, rfl⟩ := h
   exact ⟨i, os, dops, rfl, h1, rfl⟩
  | true =>
   simp only [AB] at h
   obtain ⟨_, _, _, _, _, _, h⟩ := BU h
   cases h
 | cond c x y =>
  simp only [AB] at h
  split at h
  ·simp at h
  ·cases h
 | seq x y =>
  simp only [AB] at h
  split at h
  ·simp at h
  ·cases h
 | _ => simp [AB] at h
theorem ops_app {ops : Array Oper} {Q : Exit → Act → World → Prop} {l2 : List Nat} : ∀ (l : List Nat) (a : Act) (w : World),
  wpOps P ops (fun e a' w' => (e = .normal → wpOps P ops Q l2 a' w') ∧ (e ≠ .normal → Q e a' w')) l a w → wpOps P ops Q (l ++ l2) a w
 | [], a, w, h => h.1 rfl
 | i :: l, a, w, h => by
  have ih := ops_app (ops := ops) (Q := Q) (l2 := l2) l
  simp only [wpOps, List.cons_append] at h ⊢
  cases ho : ops[i]? with
  | none => rw [ho] at h; exact ih a w h
  | some o =>
   rw [ho] at h
   simp only at h ⊢
   split at h
   ·rename_i hw
    rw [if_pos hw]
    rcases h with h | ⟨h1, h2⟩
    ·left
     unfold Oper.wp at h ⊢
     revert h
     generalize (execOp a.eval o).run P w = r
     intro h
     unfold Oper.upon at h ⊢
     split at h
     ·exact ih _ _ h
     ·exact ih _ _ h
     ·exact ih _ _ h
     ·refine h.mono (fun e w' he => ?_)
      cases e with
      | returned v => exact ih _ _ he
      | panicked c => exact he.2 (fun e => nomatch e)
      | outgrown => obtain ⟨a0, w0, h0⟩ := he; exact ⟨a0, w0, h0.2 (fun e => nomatch e)⟩
     ·exact h.mono (fun v w' he => ih _ _ he)
     ·exact h.2 (fun e => nomatch e)
     ·exact h.elim
    ·right
     obtain ⟨a0, w0, h0⟩ := h2
     exact ⟨h1, a0, w0, h0.2 (fun e => nomatch e)⟩
   ·rename_i hw
    rw [if_neg hw]
    exact ih _ _ h
theorem fun_ok_wp (hf : Fn P f N dc rs) {F : List D → Option D} (hN : ∀ ds r, F ds = some r → ds.length ≤ N)
  (hF : ∀ ds r, F ds = some r → ∀ (fn : Func) (code : Code) (a : Act) (w : World) (g : Gh), P.funcs[f]? = some fn → fn.body = some code → AB P N code = some dc → (∀ i, g.dl i = none) → (∀ i, g.tb i = none) → g.G0 = g.G →
   Co P w.heap.size w N [] ⟨Bi ds, fun _ _ => none, 0⟩ a w g →
   code.wp P (fun e a' w' => (e = .normal ∨ e = .ret) ∧ ∃ st' g' d, Co P w.heap.size w N [] st' a' w' g' ∧ g'.G0 = g.G0 ∧ BX rs st'.s st'.m = some d ∧ d.unR = r ∧ r.calmR = true) a w) : (Ai F).ok P f := by
 obtain ⟨fn, code, h1, h2, h3, h4, h5, h6⟩ := hf.is
 refine ⟨⟨fn, h1, by rw [h2]; rfl, h3⟩, fun ds m m' fr _ => rfl, ?_⟩
 intro B w0 w m g fr ds vs r u hi hfresh hl hrep hex
 simp only [Ai] at hex
 split at hex
 ·rename_i hcalm
  rw [Option.map_eq_some_iff] at hex
  obtain ⟨r', hr, hex⟩ := hex
  simp only [Prod.mk.injEq] at hex
  obtain ⟨rfl, rfl⟩ := hex
  let g0 : Gh := { G := g.G, G0 := g.G, dl := fun _ => none, tb := fun _ => none }
  have hi0 : InvM P w.heap.size w (fun _ _ => none) w g0 :=
   ⟨Below.refl _ _, Nat.le_refl _, hi.gz, fun _ _ => rfl, fun i b h => by simp [g0] at h, fun i i' b h => by simp [g0] at h, fun i o d h => by simp at h, fun i e h => by simp at h, fun i i' e e' b x x' h => by simp at h, fun i s p h => by simp at h, fun i i' s p s' p' b x x' h => by simp at h⟩
  have hrep0 : ∀ (j : Nat) d v, (ds.map D.un)[j]? = some d → vs[j]? = some v → Rep w g0 d v := by
   intro j d v hd hv
   have hc := List.all_eq_true.1 hcalm d (List.mem_of_getElem? hd)
   rw [List.getElem?_map, Option.map_eq_some_iff] at hd
   obtain ⟨d', hd', rfl⟩ := hd
   exact (hrep j d' v hd' hv).un.calm_to hc (fun _ _ => rfl) (fun _ => Nat.le_refl _)
  have hNl := hN _ _ hr
  rw [List.length_map] at hNl
  have hst : Co P w.heap.size w N [] ⟨Bi (ds.map D.un), fun _ _ => none, 0⟩ { tmps := vs.toArray ++ Array.replicate (N - vs.toArray.size) undef, defers := [] } w g0 := by
   refine ⟨hi0, fun t => ?_, by simp; omega, rfl, fun k i _ hs => ⟨fun _ => rfl, rfl, rfl⟩⟩
   simp only [Bi]
   by_cases ht : t < (ds.map D.un).length
   ·have ht' : t < ds.length := by simpa using ht
    have e1 : (ds.map D.un).getD t .junk = (ds.map D.un)[t] := by simp [List.getD, ht']
    have e2 : (vs.toArray ++ Array.replicate (N - vs.toArray.size) undef).getD t undef = vs[t]'(by omega) := by
     rw [Array.getD_eq_getD_getElem?, Array.getElem?_append_left (by simp; omega)]
     simp [hl, ht']
    rw [e1, e2]
    exact hrep0 t _ _ (List.getElem?_eq_getElem ht) (List.getElem?_eq_getElem _)
   ·have e1 : (ds.map D.un).getD t .junk = .junk := by simp [List.getD, List.getElem?_eq_none (Nat.le_of_not_lt ht)]
    rw [e1]
    exact .junk _
  have hcalls : Calls P f vs.toArray w fun e w' => ∃ v d m' g', e = .returned v ∧ InvM P w.heap.size w m' w' g' ∧ g'.G0 = g0.G0 ∧ Rep w' g' d v ∧ d.unR = r' ∧ r'.calmR = true := by
   refine calls_of_wp h1 h2 ?_
   rw [h4]
   refine wp_mono (hF _ _ hr fn code _ w g0 h1 h2 h5 (fun _ => rfl) (fun _ => rfl) rfl hst) ?_
   rintro e' a' w' ⟨hend, st', g', d, hh, hG0, hd, hR⟩
   obtain ⟨v, hv1, hv2⟩ := resOf_sound hh.inv hh.slots h6 hd
   have hb : a'.defers = [] ∧ ∃ v, (results fn a'.tmps).run P w' = .ok v w' ∧ ∃ v' d m' g', Ending.returned v = .returned v' ∧ InvM P w.heap.size w m' w' g' ∧ g'.G0 = g0.G0 ∧ Rep w' g' d v' ∧ d.unR = r' ∧ r'.calmR = true :=
    ⟨hh.defers, v, hv1, v, d, st'.m, g', rfl, hh.inv, hG0, hv2, hR⟩
   rcases hend with rfl | rfl
   ·exact hb
   ·exact hb
  refine hcalls.mono ?_
  rintro e w' ⟨v, d, m', g', rfl, hinv, hG0, hrd, rfl, hcr⟩
  have hGeq : ∀ b, (g.glue w g'.G).G b = g'.G b := by
   intro b
   simp only [Gh.glue]
   split
   ·rename_i hlt
    rw [hinv.old b hlt, hG0]
   ·rfl
  refine ⟨v, g.glue w g'.G, rfl, hi.glue hinv.below hinv.gz, Ext.glue hi.gz hinv.below, ?_, fun i hf _ => hf⟩
  exact hrd.unR.calmR_to hcr (fun _ _ => rfl) (fun b => by rw [hGeq]; exact Nat.le_refl _)
 ·cases hex
end
section
variable {P : Program} {B : Nat} {w0 w : World} {m : Mem} {g g0 : Gh} {N : Nat}
def Gh.bare (g : Gh) (B b n : Nat) : Gh := { G := fun k => if k < B then g.G k else if k = b then n else 0, G0 := g.G0, dl := fun _ => none, tb := fun _ => none }
theorem bytesD_get {bs : List UInt8} {j : Nat} : (Ay bs)[j]? = (bs[j]?).map fun x => .int .u8 x.toNat := by
 simp [Ay]
theorem set_last (hi : InvM P B w0 m w g) (hg1 : ∀ i, g0.dl i = none) (hg2 : ∀ i, g0.tb i = none) (hg3 : g0.G0 = g0.G) (hg4 : ∀ b, B ≤ b → g0.G b = 0) (hG0 : g.G0 = g0.G0)
  {t : Id} {e n c b : Nat} {bs : List UInt8} {y : UInt8} (hne : bs ≠ []) (htok : m t 0 = some (.tok (e + 1))) (hrep : Rep w g (.slice false t (Ay bs)) (.slice (some ⟨b, 0, none⟩) n c)) (ht : t ≠ []) (htb : g.tb t = some (b, n, c, 1)) (hn : n = bs.length) :
  ∃ cur, w.heap[b]? = some (.cells cur e (0, 0)) ∧ n ≤ cur.size ∧ ∀ cs : Array Value, cs = (cur.toList.take (n - 1) ++ [Value.int .u8 y.toNat] ++ cur.toList.drop (n - 1 + 1)).toArray →
   InvM P B w0 (fun _ _ => none) (w.setRow b cs) (g.bare B b n) ∧ Ext w0 g0 (w.setRow b cs) (g.bare B b n) ∧ Rep (w.setRow b cs) (g.bare B b n) (.slice false [] (Ay (bs.set (bs.length - 1) y))) (.slice (some ⟨b, 0, none⟩) n c) := by
 obtain ⟨b1, n1, c1, sz, cur, t1, t2, t3, t4, t5, t6, t7, t8, t9, t10⟩ := hi.tok t e htok
 rw [htb] at t1
 simp only [Option.some.injEq, Prod.mk.injEq] at t1
 obtain ⟨rfl, rfl, rfl, rfl⟩ := t1
 have hlen : 0 < bs.length := List.length_pos_iff.2 hne
 rcases hrep.slice_inv with ⟨h, _⟩ | ⟨_, ad, n2, c2, sz2, vv, ev, r1, r2, r3, r4, r5, r6, r7, r8, r9⟩
 ·cases h
 simp only [Value.slice.injEq, Option.some.injEq] at ev
 obtain ⟨rfl, rfl, rfl⟩ := ev
 obtain ⟨_, _, q3⟩ := r8 ht
 rw [htb] at q3
 simp only [Option.some.injEq, Prod.mk.injEq, true_and] at q3
 subst q3
 refine ⟨cur, t5, by omega, fun cs hcs => ?_⟩
 have hsz : (w.setRow b cs).heap.size = w.heap.size := by simp [World.setRow]
 have hoth : ∀ k, k ≠ b → (w.setRow b cs).heap[k]? = w.heap[k]? := fun k hk => setRow_other w b k _ hk
 have hbel : Below B w0 (w.setRow b cs) := ⟨hi.below.os, hi.below.tape, hi.below.output, by rw [hsz]; exact hi.below.size, fun k hk => (hoth k (by omega)).trans (hi.below.block k hk)⟩
 have hblt : b < w.heap.size := (Array.getElem?_eq_some_iff.1 t5).1
 have hdl : ∀ i k, (g.bare B b n).dl i = some k → False := fun i k h => by simp [Gh.bare] at h
 have hmm : ∀ {d : D}, (none : Option D) = some d → False := fun h => by cases h
 have hd1 : ∀ i k, g0.dl i = some k → (g.bare B b n).dl i = some k := fun i k h => by rw [hg1] at h; cases h
 have hd2 : ∀ i x, g0.tb i = some x → (g.bare B b n).tb i = some x := fun i x h => by rw [hg2] at h; cases h
 refine ⟨⟨hbel, (by rw [hsz]; exact hi.size), fun k hk => ?_, fun k hk => ?_, fun i k h => (hdl i k h).elim, fun i i' k h => (hdl i k h).elim, fun i o d h => (hmm h).elim, fun i e h => (hmm h).elim, fun i i' e e' k x x' h => (hmm h).elim, ?_⟩, ⟨fun p hp => ?_, fun k => ?_, hd1, hG0, hd2⟩, ?_⟩
 ·rw [hsz] at hk
  have hB : ¬ k < B := by have := hi.size; omega
  have hb : ¬ k = b := by omega
  simp only [Gh.bare, if_neg hB, if_neg hb]
 ·simp only [Gh.bare, if_pos hk]
  exact hi.old k hk
 ·exact ⟨fun i s p h => (hmm h).elim, fun i i' s p s' p' b x x' h => (hmm h).elim⟩
 ·have hlt : p.block < B := by
   rcases Nat.lt_or_ge p.block B with h | h
   ·exact h
   ·rw [hg4 _ h] at hp; omega
  exact hbel.cell hlt
 ·rcases Nat.lt_or_ge k B with h | h
  ·simp only [Gh.bare, if_pos h]
   rw [hi.old k h, hG0, hg3]; exact Nat.le_refl _
  ·rw [hg4 _ h]; exact Nat.zero_le _
 ·have hcell : ∀ j, (w.setRow b cs).cell? ((Addr.mk b 0 none).add j) = cs[j]? := fun j => by
   rw [C7, Nat.zero_add]; exact cell_setRow_same w b j cur cs e (0, 0) t5
  have hcur : ∀ j, w.cell? ((Addr.mk b 0 none).add j) = cur[j]? := fun j => by
   rw [C7, Nat.zero_add]; simp [World.cell?, t5]
  have hcs2 : ∀ j, j < bs.length → cs[j]? = if j = bs.length - 1 then some (Value.int .u8 y.toNat) else cur[j]? := fun j hj => by
   subst hcs
   rw [hn]
   have hl : (cur.toList.take (bs.length - 1)).length = bs.length - 1 := by rw [List.length_take]; simp; omega
   simp only [List.getElem?_toArray, List.append_assoc]
   split
   ·rename_i e; subst e
    rw [List.getElem?_append_right (by omega), hl, Nat.sub_self]; rfl
   ·rename_i e
    rw [List.getElem?_append_left (by omega), List.getElem?_take, if_pos (by omega)]; simp
  have hset : ∀ j, j < bs.length → cs[j]? = some (Value.int .u8 ((bs.set (bs.length - 1) y).getD j 0).toNat) := fun j hj => by
   rw [hcs2 j hj]
   split
   ·rename_i e
    have hl1 : bs.length - 1 < bs.length := by omega
    rw [e, List.getD_eq_getElem?_getD, List.getElem?_set]; simp [hl1]
   ·rename_i e
    have h4 := r4 j (by omega)
    rw [hcur] at h4
    have h6 := r6 j (.int .u8 bs[j].toNat) (by rw [DS, bytesD_get, List.getElem?_eq_getElem hj]; rfl)
    rw [h4, h6.int_inv]
    simp [List.getD, Ne.symm e, hj]
  refine .slice [] _ ⟨b, 0, none⟩ n c 1 (fun j => Value.int .u8 ((bs.set (bs.length - 1) y).getD j 0).toNat) (by simp [Ay, hn]) r2 (fun d hd => ?_) (fun j hj => ?_) (fun j hj => rfl) (fun j d hd => ?_) (fun _ => ?_) (fun h => absurd rfl h) (fun d hd => ?_)
  ·obtain ⟨z, _, rfl⟩ := List.mem_map.1 (show d ∈ List.map _ _ from hd)
   rfl
  ·rw [hcell]; exact hset j (by omega)
  ·rw [DS, bytesD_get] at hd
   rw [Option.map_eq_some_iff] at hd
   obtain ⟨z, hz, rfl⟩ := hd
   have : (bs.set (bs.length - 1) y).getD j 0 = z := by simp [List.getD, hz]
   rw [this]
   exact .int _ _
  ·have hB : ¬ b < B := by omega
   simp only [Gh.bare, if_neg hB, if_true]; omega
  ·obtain ⟨z, _, rfl⟩ := List.mem_map.1 (show d ∈ List.map _ _ from hd)
   rfl
end
theorem ops_mono {P : Program} {ops : Array Oper} {Q Q' : Exit → Act → World → Prop} (hq : ∀ e a w, Q e a w → Q' e a w) : ∀ (l : List Nat) (a : Act) (w : World), wpOps P ops Q l a w → wpOps P ops Q' l a w
 | [], a, w, h => hq _ _ _ h
 | i :: l, a, w, h => by
  have ih := ops_mono (P := P) (ops := ops) hq l
  simp only [wpOps] at h ⊢
  cases ho : ops[i]? with
  | none => rw [ho] at h; exact ih a w h
  | some o =>
   rw [ho] at h
   simp only at h ⊢
   split at h
   ·rename_i hw
    rw [if_pos hw]
    rcases h with h | ⟨h1, h2⟩
    ·left
     unfold Oper.wp at h ⊢
     revert h
     generalize (execOp a.eval o).run P w = r
     intro h
     unfold Oper.upon at h ⊢
     split at h
     ·exact ih _ _ h
     ·exact ih _ _ h
     ·exact ih _ _ h
     ·refine h.mono (fun e w' he => ?_)
      cases e with
      | returned v => exact ih _ _ he
      | panicked c => exact hq _ _ _ he
      | outgrown => obtain ⟨a0, w0, h0⟩ := he; exact ⟨a0, w0, hq _ _ _ h0⟩
     ·exact h.mono (fun v w' he => ih _ _ he)
     ·exact hq _ _ _ h
     ·exact h.elim
    ·right
     obtain ⟨a0, w0, h0⟩ := h2
     exact ⟨h1, a0, w0, hq _ _ _ h0⟩
   ·rename_i hw
    rw [if_neg hw]
    exact ih _ _ h
theorem getD_stop {o : Option DOp} {d : DOp} (hd : d ≠ .stop) (h : o.getD .stop = d) : o = some d := by
 cases o with
 | none => exact absurd h.symm hd
 | some x => exact congrArg some h
theorem trEq_ni {P : Program} {ne : Bool} {t : TypeId} {x y : Operand} {a b : Arg} {n : Nat} {u v : Arg} : trEq P ne t x y a b ≠ some (.iaddr n u v) := by
 unfold trEq
 (repeat' split) <;> simp
theorem trEq_ns {P : Program} {ne : Bool} {t : TypeId} {x y : Operand} {a b : Arg} {n : Nat} {u v : Arg} : trEq P ne t x y a b ≠ some (.store n u v) := by
 unfold trEq
 (repeat' split) <;> simp
theorem trCall_ni {P : Program} {c : Call} {n : Nat} {u v : Arg} : Ey P c ≠ some (.iaddr n u v) := by
 unfold Ey
 (repeat' split) <;> simp
theorem trCall_ns {P : Program} {c : Call} {n : Nat} {u v : Arg} : Ey P c ≠ some (.store n u v) := by
 unfold Ey
 (repeat' split) <;> simp
theorem tr_iaddr {P : Program} {op : Op} {x i : Arg} (h : (tr P op).getD .stop = .iaddr 1 x i) : ∃ t X I e, op = .indexAddr t X I ∧ P.underlying t = some (.slice e) ∧ B5 P e = some 1 ∧ AF X = some x ∧ AF I = some i := by
 replace h := getD_stop (by simp) h
 unfold tr at h
 split at h
 all_goals try (simp only [Option.map_eq_some_iff, reduceCtorEq, and_false, exists_false] at h; done)
 all_goals try ((repeat' split at h) <;> simp only [Option.map_eq_some_iff, reduceCtorEq, and_false, exists_false, Option.some.injEq] at h <;> done)
 ·split at h
  ·exact absurd h trEq_ni
  ·cases h
 ·split at h
  ·exact absurd h trEq_ni
  ·cases h
 ·rename_i t X I
  split at h
  ·rename_i e x' i' h1 h2 h3
   rw [Option.map_eq_some_iff] at h
   obtain ⟨n, hn, h4⟩ := h
   simp only [DOp.iaddr.injEq] at h4
   obtain ⟨rfl, rfl, rfl⟩ := h4
   exact ⟨t, X, I, e, rfl, h1, hn, h2, h3⟩
  ·rw [Option.map_eq_some_iff] at h
   obtain ⟨n, hn, h4⟩ := h
   cases h4
  ·cases h
 ·exact absurd h trCall_ni
theorem tr_store {P : Program} {op : Op} {x v : Arg} (h : (tr P op).getD .stop = .store 1 x v) : ∃ t X V, op = .store t X V ∧ B5 P t = some 1 ∧ AF X = some x ∧ AF V = some v := by
 replace h := getD_stop (by simp) h
 unfold tr at h
 split at h
 all_goals try (simp only [Option.map_eq_some_iff, reduceCtorEq, and_false, exists_false] at h; done)
 all_goals try ((repeat' split at h) <;> simp only [Option.map_eq_some_iff, reduceCtorEq, and_false, exists_false, Option.some.injEq] at h <;> done)
 ·rename_i t X V
  split at h
  ·rename_i n x' v' h1 h2 h3
   simp only [Option.some.injEq, DOp.store.injEq] at h
   obtain ⟨h4, rfl, rfl⟩ := h
   exact ⟨t, X, V, rfl, by rw [h1]; exact congrArg some h4, h2, h3⟩
  ·cases h
 ·split at h
  ·exact absurd h trEq_ns
  ·cases h
 ·split at h
  ·exact absurd h trEq_ns
  ·cases h
 ·exact absurd h trCall_ns
def lastR : List DOper := [⟨some 37, .mv (.t 3), [], none⟩, ⟨some 38, .mv (.t 3), [], none⟩, ⟨some 39, .len false (.t 38), [], none⟩, ⟨some 40, .bin .sub (.t 39) (.c (.int .i64 1)), [], none⟩, ⟨some 41, .iaddr 1 (.t 37) (.t 40), [], none⟩, ⟨none, .store 1 (.t 41) (.c (.int .u8 1)), [], none⟩]
theorem Ed {d : DOper} {dst : Option Nat} {op : DOp} {gd : Option (Nat × Bool)} (h : d.strip = ⟨dst, op, [], gd⟩) : d.dst = dst ∧ d.op = op ∧ d.guard = gd := by
 unfold DOper.strip at h
 simp only [DOper.mk.injEq] at h
 exact ⟨h.1, h.2.1, h.2.2.2⟩
section
variable {P : Program} {B : Nat} {w0 : World} {N : Nat} {S : Summs}
theorem last_wp (hS : Summs.ok P S) {id : Nat} {ops : Array Oper} {dops : List DOper} (hops : Cc P N ops.toList = some dops) (hd : dops.map DOper.strip = lastR) {st : St} {a : Act} {w : World} {g g0 : Gh} (hx : Co P B w0 N [] st a w g)
  (hg1 : ∀ i, g0.dl i = none) (hg2 : ∀ i, g0.tb i = none) (hg3 : g0.G0 = g0.G) (hg4 : ∀ b, B ≤ b → g0.G b = 0) (hG0 : g.G0 = g0.G0) (harg : Rep w0 g0 (st.s 0) (a.tmps.getD 0 undef))
  {t : Id} {bs : List UInt8} (hne : bs ≠ []) (hlen : bs.length ≤ 1000000000) (ht : t ≠ []) (h3 : st.s 3 = .slice false t (Ay bs)) {n4 : Int} (h4 : st.s 4 = .int .i64 n4) {e : Nat} (htok : st.m t 0 = some (.tok (e + 1))) :
  (Code.region id ops false).wp P (fun e a' w' => e = .normal ∧ a'.tmps[0]? = a.tmps[0]? ∧ ∃ st' g', Co P B w0 N [] st' a' w' g' ∧ g'.G0 = g0.G0 ∧ st'.s 0 = st.s 0 ∧ st'.s 4 = st.s 4 ∧ st'.s 3 = .slice false [] (Ay (bs.set (bs.length - 1) 1))) a w := by
 have h6 : dops.length = 6 := by have := congrArg List.length hd; simpa [lastR] using this
 match dops, h6, hd, hops with
 | [d0, d1, d2, d3, d4, d5], _, hd, hops =>
  simp only [lastR, List.map_cons, List.map_nil, List.cons.injEq, and_true] at hd
  obtain ⟨q0, q1, q2, q3, q4, q5⟩ := hd
  obtain ⟨x0, y0, z0⟩ := Ed q0
  obtain ⟨x1, y1, z1⟩ := Ed q1
  obtain ⟨x2, y2, z2⟩ := Ed q2
  obtain ⟨x3, y3, z3⟩ := Ed q3
  obtain ⟨x4, y4, z4⟩ := Ed q4
  obtain ⟨x5, y5, z5⟩ := Ed q5
  clear q0 q1 q2 q3 q4 q5
  obtain ⟨hl, hall⟩ := BS hops
  have hsz : ops.size = 6 := by simpa using hl.symm
  have hop : ∀ k, k < 6 → ∃ o, ops[k]? = some o := fun k hk => ⟨ops[k], Array.getElem?_eq_getElem (by omega)⟩
  have hdst : ∀ (k : Nat) o, ops[k]? = some o → o.dst ≠ some 0 := by
   intro k o ho
   obtain ⟨d, e1, e2⟩ := hall k o (by simpa using ho)
   have e3 := (BO e2).2.1
   rw [← e3]
   match k, e1 with
   | 0, e1 => simp only [List.getElem?_cons_zero, Option.some.injEq] at e1; subst e1; rw [x0]; decide
   | 1, e1 => simp only [List.getElem?_cons_succ, List.getElem?_cons_zero, Option.some.injEq] at e1; subst e1; rw [x1]; decide
   | 2, e1 => simp only [List.getElem?_cons_succ, List.getElem?_cons_zero, Option.some.injEq] at e1; subst e1; rw [x2]; decide
   | 3, e1 => simp only [List.getElem?_cons_succ, List.getElem?_cons_zero, Option.some.injEq] at e1; subst e1; rw [x3]; decide
   | 4, e1 => simp only [List.getElem?_cons_succ, List.getElem?_cons_zero, Option.some.injEq] at e1; subst e1; rw [x4]; decide
   | 5, e1 => simp only [List.getElem?_cons_succ, List.getElem?_cons_zero, Option.some.injEq] at e1; subst e1; rw [x5]; decide
   | k + 6, e1 => simp at e1
  have hsub : A4 .sub (.int .i64 (bs.length : Int)) (.int .i64 1) = some (.int .i64 ((bs.length : Int) - 1)) := by
   rw [v_sub, IntWalk.i64_in _ ⟨by omega, by omega⟩]
  have he : B1 S [] st.c [d0, d1, d2, d3, d4, d5] [0, 1, 2, 3] st.s st.m = some (BH (BH (BH (BH st.s (some 37) (.slice false t (Ay bs))) (some 38) (.slice false t (Ay bs))) (some 39) (.int .i64 (bs.length : Int))) (some 40) (.int .i64 ((bs.length : Int) - 1)), st.m) := by
   have hbl : (Ay bs).length = bs.length := by simp [Ay]
   simp [B1, Br, Ba, x0, x1, x2, x3, y0, y1, y2, y3, z0, z1, z2, z3, Az, Arg.ev, BH, h3, Upd.app, hbl, hsub, lenD]
  refine wp_region ?_
  rw [hsz]
  show wpOps P ops _ ([0, 1, 2, 3] ++ [4, 5]) a w
  refine ops_app _ a w ?_
  have hpre : wpOps P ops (fun e' a' w' => e' = .normal ∧ ∃ g', InX P B w0 N [] st.c ([0, 1, 2, 3].foldl ins (fun _ => false)) (BH (BH (BH (BH st.s (some 37) (.slice false t (Ay bs))) (some 38) (.slice false t (Ay bs))) (some 39) (.int .i64 (bs.length : Int))) (some 40) (.int .i64 ((bs.length : Int) - 1))) st.m a' w' g' ∧ Ext w g w' g') [0, 1, 2, 3] a w :=
   CY hS hops [0, 1, 2, 3] (fun _ => false) st.s st.m a w g _ _ (by simp [Fits, ins]) he (hx.start _) (fun a' w' g' h1 h2 h3 => ⟨rfl, g', h1, h2⟩)
  refine ops_mono ?_ _ a w (ops_keep (x := a.tmps[0]?) hdst _ a w rfl hpre)
  rintro e1 a1 w1 ⟨⟨rfl, g1, hx1, hxt⟩, hfr⟩
  refine ⟨fun _ => ?_, fun h => absurd rfl h⟩
  replace hfr := hfr rfl
  obtain ⟨o4, ho4⟩ := hop 4 (by omega)
  obtain ⟨o5, ho5⟩ := hop 5 (by omega)
  obtain ⟨e4, f4, g4⟩ := hall 4 o4 (by simpa using ho4)
  obtain ⟨e5, f5, g5⟩ := hall 5 o5 (by simpa using ho5)
  simp only [List.getElem?_cons_succ, List.getElem?_cons_zero, Option.some.injEq] at f4 f5
  subst f4 f5
  obtain ⟨p4, r4, _, u4, _⟩ := BO g4
  obtain ⟨p5, r5, _, u5, _⟩ := BO g5
  rw [y4] at p4
  rw [y5] at p5
  rw [x4] at r4
  rw [x5] at r5
  rw [z4] at u4
  rw [z5] at u5
  obtain ⟨T4, X4, I4, E4, hop4, hu4, hs4, hX4, hI4⟩ := tr_iaddr p4
  obtain ⟨T5, X5, V5, hop5, hs5, hX5, hV5⟩ := tr_store p5
  have v37 := hx1.slots.arg hX4
  have v40 := hx1.slots.arg hI4
  replace v37 : Rep w1 g1 (.slice false t (Ay bs)) (a1.eval X4) := by simpa [Arg.ev, BH] using v37
  replace v40 : Rep w1 g1 (.int .i64 ((bs.length : Int) - 1)) (a1.eval I4) := by simpa [Arg.ev, BH] using v40
  have v3 : Rep w1 g1 (.slice false t (Ay bs)) (a1.tmps.getD 3 undef) := by have := hx1.slots 3; simpa [BH, h3] using this
  have v4 : Rep w1 g1 (.int .i64 n4) (a1.tmps.getD 4 undef) := by have := hx1.slots 4; simpa [BH, h4] using this
  have hpos : 0 < bs.length := List.length_pos_iff.2 hne
  have hone : ∀ {sz : Nat}, (∀ d ∈ Ay bs, d.cells.length = sz) → sz = 1 := fun h => by
   cases bs with
   | nil => exact absurd rfl hne
   | cons z r => exact (h _ (List.mem_cons_self ..)).symm
  rcases v37.slice_inv with ⟨h, _⟩ | ⟨_, ad, n, c, sz, vv, ev, i1, i2, i3, i4, i5, i6, i7, i8, i9⟩
  ·cases h
  obtain ⟨j1, j2, j3⟩ := i8 ht
  obtain rfl := hone i3
  obtain ⟨b, off, spot⟩ := ad
  simp only at j1 j2 j3
  subst j1 j2
  rcases v3.slice_inv with ⟨h, _⟩ | ⟨_, ad', n', c', sz', vv', ev', k1, k2, k3, k4, k5, k6, k7, k8, k9⟩
  ·cases h
  obtain ⟨l1, l2, l3⟩ := k8 ht
  obtain ⟨b', off', spot'⟩ := ad'
  simp only at l1 l2 l3
  subst l1 l2
  rw [j3] at l3
  simp only [Option.some.injEq, Prod.mk.injEq] at l3
  obtain ⟨rfl, rfl, rfl, _⟩ := l3
  have hbn : n = bs.length := by rw [i1]; simp [Ay]
  rw [ev] at v37
  have hG1 : g1.G0 = g0.G0 := by rw [hxt.G0, hG0]
  obtain ⟨cur, hh, hcs, hset⟩ := set_last (y := 1) hx1.inv hg1 hg2 hg3 hg4 hG1 hne htok v37 ht j3 hbn
  have hw4 : Region.wanted o4 (yielded ops a1.tmps) = true := Di hops hx1.slots (by rw [z4, ← u4]) (by unfold Ba; rw [z4])
  have run4 : (execOp a1.eval o4).run P w1 = .ok (.value (.pointer (some ⟨b, bs.length - 1, none⟩))) w1 := by
   have hin : (0 : Int) ≤ (bs.length : Int) - 1 ∧ (bs.length : Int) - 1 < (n : Int) := by omega
   have hadd : (Addr.mk b 0 none).add (((bs.length : Int) - 1).toNat * 1) = ⟨b, bs.length - 1, none⟩ := by
    rw [C7]; congr 1; omega
   rw [← hadd]
   simp [execOp, hop4, Instr.indexAt, asIntOf, v40.int_inv, ev, run_underlying hu4, hin, run_sizeOf' hs4]
   intro h; omega
  simp only [wpOps]
  rw [ho4]
  simp only
  rw [if_pos hw4]
  left
  unfold Oper.wp
  rw [run4, Oper.upon_value, ← r4]
  have hN41 : 41 < a1.tmps.size := by
   have := (BO g4).2.2.2.2 41 r4.symm
   rw [hx1.size]; exact this
  have hs2 : CA w1 g1 _ (a1.put (some 41) (.pointer (some ⟨b, bs.length - 1, none⟩))) := hx1.slots.put (dst := some 41) (d := .junk) (.junk _) (fun t ht => by cases ht; exact hN41)
  generalize ha2 : a1.put (some 41) (.pointer (some ⟨b, bs.length - 1, none⟩)) = a2 at hs2 ⊢
  have hat : ∀ k, k ≠ 41 → a2.tmps[k]? = a1.tmps[k]? := fun k hk => by
   rw [← ha2]; exact Du (fun e => hk (Option.some.inj e).symm)
  have hX5' : a2.eval X5 = .pointer (some ⟨b, bs.length - 1, none⟩) := by
   cases X5 with
   | tmp k =>
    simp only [AF, Option.some.injEq, Arg.t.injEq] at hX5
    subst hX5
    rw [← ha2]
    simp only [Act.eval, Act.put]
    rw [Array.getD_eq_getD_getElem?, Array.getElem?_setIfInBounds, if_pos rfl, if_pos hN41]; rfl
   | const v => simp [AF] at hX5
   | func f => simp [AF] at hX5
   | global k => simp [AF] at hX5
  have hV5' : a2.eval V5 = .int .u8 1 := (hs2.arg hV5).int_inv
  have hw5 : Region.wanted o5 (yielded ops a2.tmps) = true := Di hops hs2 (by rw [z5, ← u5]) (by unfold Ba; rw [z5])
  have hfin := hset _ rfl
  have run5 : (execOp a2.eval o5).run P w1 = .ok .skip (w1.setRow b (cur.toList.take (n - 1) ++ [Value.int .u8 ((1 : UInt8).toNat : Int)] ++ cur.toList.drop (n - 1 + 1)).toArray) := by
   have := run_storeVar' (P := P) (w := w1) (o := n - 1) hs5 hh (v := .int .u8 1) rfl (by simp [Value.cells, Value.oneCell']) (by omega)
   rw [hbn] at this ⊢
   simp only [execOp, hop5, Instr.storeAt, hX5', hV5', Instr.sureAddr, Sem.run_bind, Result.andThen_ok, Sem.run_pure, this]
   rfl
  rw [ho5]
  simp only
  rw [if_pos hw5]
  left
  rw [run5, Oper.upon_skip, ← r5]
  generalize hW : w1.setRow b (cur.toList.take (n - 1) ++ [Value.int .u8 ((1 : UInt8).toNat : Int)] ++ cur.toList.drop (n - 1 + 1)).toArray = w2 at hfin ⊢
  obtain ⟨F1, F2, F3⟩ := hfin
  show _ ∧ _
  have h0' : a2.tmps[0]? = a.tmps[0]? := by rw [hat 0 (by decide), hfr]
  have hgd : ∀ k, k ≠ 41 → a2.tmps.getD k undef = a1.tmps.getD k undef := fun k hk => by rw [Array.getD_eq_getD_getElem?, Array.getD_eq_getD_getElem?, hat k hk]
  refine ⟨by first | trivial | rfl, h0', ⟨fun k => if k = 0 then st.s 0 else if k = 4 then .int .i64 n4 else if k = 3 then .slice false [] (Ay (bs.set (bs.length - 1) 1)) else .junk, fun _ _ => none, 0⟩, g1.bare B b n, ⟨F1, fun k => ?_, ?_, ?_, fun k i _ _ => ⟨fun _ => rfl, rfl, rfl⟩⟩, hG1, rfl, h4.symm, rfl⟩
  ·show Rep w2 _ (if k = 0 then _ else if k = 4 then _ else if k = 3 then _ else _) (a2.tmps.getD k undef)
   split
   ·rename_i e; subst e
    rw [Array.getD_eq_getD_getElem?, h0', ← Array.getD_eq_getD_getElem?]
    exact harg.ext F2
   ·split
    ·rename_i e; subst e
     rw [hgd 4 (by decide), v4.int_inv]
     exact .int _ _
    ·split
     ·rename_i e; subst e
      rw [hgd 3 (by decide), ev']
      exact F3
     ·exact .junk _
  ·have : a2.tmps.size = a1.tmps.size := by rw [← ha2]; simp [Act.put]
   rw [show (a2.put none undef).tmps.size = a2.tmps.size from rfl, this]; exact hx1.size
  ·have : a2.defers = a1.defers := by rw [← ha2]; rfl
   rw [show (a2.put none undef).defers = a2.defers from rfl, this]; exact hx1.defers
end
def CI (m : Mem) (e : Nat) (nl : Bool) (t : Id) (emp : Bool) : Bool :=
 if nl = true then emp else match m t 0 with
  | some (.tok k) => k == e + 1 && !t.isEmpty
  | _ => false
theorem growT_grow {m : Mem} {e : Nat} {nl : Bool} {t : Id} {emp : Bool} {xs : List D} (h : CI m e nl t emp = true) : Grow m e (.slice nl t xs) := by
 unfold CI at h
 split at h
 ·rename_i h0; exact .inl h0
 ·split at h
  ·rename_i k hm
   simp only [Bool.and_eq_true, beq_iff_eq] at h
   rw [h.1] at hm
   exact .inr ⟨hm, by intro e; rw [e] at h; simp at h⟩
  ·cases h
theorem growT_congr {m m' : Mem} {e : Nat} {nl : Bool} {t : Id} {emp : Bool} (h : m t 0 = m' t 0) : CI m e nl t emp = CI m' e nl t emp := by
 unfold CI; rw [h]
theorem growT_grow' {m m' : Mem} {e : Nat} {nl : Bool} {t : Id} {emp : Bool} {xs : List D} (h : CI m e nl t emp = true) (hm : nl = false → m t 0 = some (.tok (e + 1)) → m' t 0 = m t 0) : Grow m' e (.slice nl t xs) := by
 rcases growT_grow (xs := xs) h with h0 | ⟨h1, h2⟩
 ·exact .inl h0
 ·cases nl with
  | true => exact .inl rfl
  | false => exact .inr ⟨by rw [hm rfl h1]; exact h1, h2⟩
theorem growT_tok {m : Mem} {e : Nat} {nl : Bool} {t : Id} {emp : Bool} (h : CI m e nl t emp = true) : nl = false → m t 0 = some (.tok (e + 1)) := by
 rintro rfl
 rcases growT_grow (xs := []) h with h0 | ⟨h1, h2⟩
 ·cases h0
 ·exact h1
theorem growU_rd {m : Mem} {e : Nat} {f t i : Id} {nl : Bool} {xs : List D} {o : Nat} : Upd.app m (BL e f (.slice nl t xs)) i o = if i = f ∧ o = 0 then some (.tok (e + 1)) else if nl = false ∧ i = t ∧ o = 0 then some (.tok 0) else m i o := by
 cases nl <;> simp [BL, Upd.app, Bd]
theorem CW {n : Nat} (h : n < 256) : (UInt8.ofNat n).toNat = n := by simp [UInt8.toNat_ofNat']; omega
theorem u8_wrap (n : Int) : IntKind.u8.wrap n = (((n % 256).toNat : Nat) : Int) := by
 have h1 : IntKind.u8.wrap n = n % 256 := by simp [IntKind.wrap, IntKind.bits, IntKind.signed]
 rw [h1]; omega
structure Gd (e : Nat) (fr : Id) (m0 : Mem) (nl0 : Bool) (t0 : Id) (m : Mem) (c : Nat) (t : Id) : Prop where
 name : ∃ l j, t = l ++ j :: fr ∧ j < c
 tok : m t 0 = some (.tok (e + 1))
 out : ∀ i o, ¬ fr <:+ i → m i o = (if nl0 = true then m0 else m0.put t0 0 [.tok 0]) i o
def Gs (e : Nat) (fr : Id) (m0 : Mem) (nl0 : Bool) (t0 : Id) (m : Mem) (c : Nat) (nl : Bool) (t : Id) : Prop :=
 (nl = nl0 ∧ t = t0 ∧ ∀ i o, ¬ fr <:+ i → m i o = m0 i o) ∨ (nl = false ∧ Gd e fr m0 nl0 t0 m c t)
theorem suf_mk (l : List Nat) (j : Nat) (fr : Id) : fr <:+ l ++ j :: fr := ⟨l ++ [j], by simp⟩
theorem mk_ne {l l' : List Nat} {j k : Nat} {fr : Id} (h : j ≠ k) : l ++ j :: fr ≠ l' ++ k :: fr := by
 intro e
 have e' := congrArg List.reverse e
 simp only [List.reverse_append, List.reverse_cons, List.append_assoc, List.append_cancel_left_eq] at e'
 simp only [List.cons_append, List.nil_append, List.cons.injEq] at e'
 exact h e'.1
section
variable {e : Nat} {fr : Id} {m0 m : Mem} {nl0 nl : Bool} {t0 t : Id} {c c' k o : Nat} {l : List Nat} {xs ds : List D} {emp : Bool}
theorem Gs.start : Gs e fr m0 nl0 t0 m0 c nl0 t0 := .inl ⟨rfl, rfl, fun _ _ _ => rfl⟩
theorem Gd.gs (h : Gd e fr m0 nl0 t0 m c t) : Gs e fr m0 nl0 t0 m c false t := .inr ⟨rfl, h⟩
theorem Gd.more (h : Gd e fr m0 nl0 t0 m c t) (hc : c ≤ c') : Gd e fr m0 nl0 t0 m c' t := ⟨by obtain ⟨l, j, b, b'⟩ := h.name; exact ⟨l, j, b, by omega⟩, h.tok, h.out⟩
theorem Gs.more (h : Gs e fr m0 nl0 t0 m c nl t) (hc : c ≤ c') : Gs e fr m0 nl0 t0 m c' nl t := h.imp id (fun ⟨a, b⟩ => ⟨a, b.more hc⟩)
theorem old_out (hfr : ∀ i o, fr <:+ i → m0 i o = none) (h : m0 t0 0 = some (.tok (e + 1))) : ¬ fr <:+ t0 := fun hs => by rw [hfr _ _ hs] at h; cases h
theorem out_put (i : Id) (o' : Nat) (hi : ¬ fr <:+ i) : m.put (l ++ k :: fr) o ds i o' = m i o' := Mem.put_other (fun e => hi (e ▸ suf_mk l k fr))
theorem Gd.put (h : Gd e fr m0 nl0 t0 m c t) (hk : c ≤ k) : Gd e fr m0 nl0 t0 (m.put (l ++ k :: fr) o ds) c t := by
 refine ⟨h.name, ?_, fun i o' hi => (out_put i o' hi).trans (h.out i o' hi)⟩
 obtain ⟨l', j, b, b'⟩ := h.name
 rw [Mem.put_other]
 ·exact h.tok
 ·rw [b]; exact mk_ne (by omega)
theorem Gs.put (h : Gs e fr m0 nl0 t0 m c nl t) (hk : c ≤ k) : Gs e fr m0 nl0 t0 (m.put (l ++ k :: fr) o ds) c nl t := by
 rcases h with ⟨a, b, d⟩ | ⟨a, h⟩
 ·exact .inl ⟨a, b, fun i o' hi => (out_put i o' hi).trans (d i o' hi)⟩
 ·exact .inr ⟨a, h.put hk⟩
theorem Gs.grow (h : Gs e fr m0 nl0 t0 m c nl t) (hfr : ∀ i o, fr <:+ i → m0 i o = none) (h0 : CI m0 e nl0 t0 emp = true) : Grow m e (.slice nl t xs) := by
 rcases h with ⟨rfl, rfl, d⟩ | ⟨a, h⟩
 ·exact growT_grow' h0 (fun e1 e2 => d _ _ (old_out hfr e2))
 ·obtain ⟨l', j, b, b'⟩ := h.name
  exact .inr ⟨h.tok, by rw [b]; simp⟩
theorem Gs.nil (h : Gs e fr m0 nl0 t0 m c nl t) (h0 : CI m0 e nl0 t0 emp = true) : nl = true → emp = true := by
 rcases h with ⟨rfl, rfl, d⟩ | ⟨a, _⟩
 ·rintro rfl
  unfold CI at h0; rw [if_pos rfl] at h0; exact h0
 ·rw [a]; intro h; cases h
theorem Gs.app (h : Gs e fr m0 nl0 t0 m c nl t) (hk : c ≤ k) (hk' : k < c') : Gd e fr m0 nl0 t0 (Upd.app m (BL e (l ++ k :: fr) (.slice nl t xs))) c' (l ++ k :: fr) := by
 refine ⟨⟨l, k, rfl, hk'⟩, by rw [growU_rd, if_pos ⟨rfl, rfl⟩], fun i o hi => ?_⟩
 have hne : i ≠ l ++ k :: fr := fun e => hi (e ▸ suf_mk l k fr)
 rw [growU_rd, if_neg (fun x => hne x.1)]
 rcases h with ⟨rfl, rfl, d⟩ | ⟨rfl, h⟩
 ·cases nl with
  | true => rw [if_neg (fun x => by simp at x), d i o hi]; rfl
  | false => rw [d i o hi]; simp [Bd]
 ·obtain ⟨l', j, b, b'⟩ := h.name
  have hni : i ≠ t := fun e => hi (by rw [e, b]; exact suf_mk l' j fr)
  rw [if_neg (fun x => hni x.2.1)]; exact h.out i o hi
theorem Gd.fin (h : Gd e fr m0 nl0 t0 m c t) (hfr : ∀ i o, fr <:+ i → m0 i o = none) (h0 : CI m0 e nl0 t0 emp = true) : ∀ i o x, Upd.app m0 (BL e t (.slice nl0 t0 xs)) i o = some x → m i o = some x := by
 intro i o x hx
 rw [growU_rd] at hx
 by_cases h1 : i = t ∧ o = 0
 ·rw [if_pos h1] at hx; rw [h1.1, h1.2, h.tok]; exact hx
 ·rw [if_neg h1] at hx
  by_cases h2 : nl0 = false ∧ i = t0 ∧ o = 0
  ·obtain ⟨rfl, rfl, rfl⟩ := h2
   rw [if_pos ⟨rfl, rfl, rfl⟩] at hx
   rw [h.out _ _ (old_out hfr (growT_tok h0 rfl)), if_neg (by simp), Bd, if_pos ⟨rfl, rfl⟩]; exact hx
  ·rw [if_neg h2] at hx
   by_cases hi : fr <:+ i
   ·rw [hfr i o hi] at hx; cases hx
   ·rw [h.out i o hi]
    cases nl0 with
    | true => exact hx
    | false => simp only [Bool.false_eq_true, if_false, Bd]; rw [if_neg (fun x => h2 ⟨rfl, x⟩)]; exact hx
end
theorem opn_ok2 {P : Program} {S : Summs} {f : FuncId} {N : Nat} {dc : DC} {rs : List RV} (hS : Summs.ok P S) (hf : Fn P f N dc rs) {q : Summ} (hloc : ∀ ds m m' fr, (∀ l ∈ q.rd ds m, m l.1 l.2 = m' l.1 l.2) → q.ex ds m fr = q.ex ds m' fr)
  (hq : ∀ ds m fr r u, q.ex ds m fr = some (r, u) → (∀ i o, fr <:+ i → m i o = none) → ds.length ≤ N ∧ dc.wp S fr (De rs fun d m' => d = r ∧ ∀ i o x, Upd.app m u i o = some x → m' i o = some x) ⟨Bi ds, m, 0⟩) : q.ok P f := by
 obtain ⟨fn, code, h1, h2, h3, h4, h5, h6⟩ := hf.is
 refine ⟨⟨fn, h1, by rw [h2]; rfl, h3⟩, hloc, ?_⟩
 intro B w0 w m g fr ds vs r u hi hfresh hl hrep hex
 have hfr : ∀ k i, (k :: fr) <:+ i → BB m g i := fun k i h => hfresh i ((List.suffix_cons k fr).trans h)
 obtain ⟨hN, hwp⟩ := hq ds m fr r u hex (fun i o h => (hfresh i h).1 o)
 have hcalls := Es (ns := fr) hS hf hN hi hfr hl hrep hwp
 refine hcalls.mono ?_
 rintro e w' ⟨v, d, m', g', rfl, hinv, hext, hkeep, hrd, rfl, hle⟩
 refine ⟨v, g', rfl, hinv.less hle, hext, hrd, fun i hf hn => ?_⟩
 obtain ⟨k1, k2, k3⟩ := hkeep i hf hn
 refine ⟨fun o => ?_, k2, k3⟩
 cases hx : Upd.app m u i o with
 | none => rfl
 | some x => exact absurd (k1 o) (by rw [hle i o x hx]; simp)
def gQ (e : Nat) (F : List D → Option (List D × List Nat)) : Summ where
 rd := fun ds _ => match ds with
  | .slice _ t _ :: _ => [(t, 0)]
  | _ => []
 ex := fun ds m fr => match ds with
  | .slice nl t xs :: rest => if CI m e nl t xs.isEmpty = true ∧ xs.length ≤ 100000000 then (F rest).map fun y => (.slice false (y.2 ++ fr) (xs ++ y.1), BL e (y.2 ++ fr) (.slice nl t xs)) else none
  | _ => none
theorem gQ_loc {e : Nat} {F : List D → Option (List D × List Nat)} (ds : List D) (m m' : Mem) (fr : Id) (h : ∀ l ∈ (gQ e F).rd ds m, m l.1 l.2 = m' l.1 l.2) : (gQ e F).ex ds m fr = (gQ e F).ex ds m' fr := by
 simp only [gQ] at h ⊢
 split
 ·rename_i nl t xs rest
  rw [growT_congr (h (t, 0) (by simp))]
 ·rfl
theorem gQ_inv {e : Nat} {F : List D → Option (List D × List Nat)} {ds : List D} {m : Mem} {fr : Id} {d : D} {u : Upd} (h : (gQ e F).ex ds m fr = some (d, u)) :
  ∃ nl t xs rest ys l, ds = .slice nl t xs :: rest ∧ CI m e nl t xs.isEmpty = true ∧ xs.length ≤ 100000000 ∧ F rest = some (ys, l) ∧ d = .slice false (l ++ fr) (xs ++ ys) ∧ u = BL e (l ++ fr) (.slice nl t xs) := by
 simp only [gQ] at h
 split at h
 ·rename_i nl t xs rest
  split at h
  ·rename_i hk
   rw [Option.map_eq_some_iff] at h
   obtain ⟨⟨ys, l⟩, hF, h⟩ := h
   simp only [Prod.mk.injEq] at h
   exact ⟨nl, t, xs, rest, ys, l, rfl, hk.1, hk.2, hF, h.1.symm, h.2.symm⟩
  ·cases h
 ·cases h
theorem got_g {e : Nat} {F : List D → Option (List D × List Nat)} {m : Mem} {fr : Id} {nl : Bool} {t : Id} {xs rest ys : List D} {l : List Nat} {K : D × Upd → Prop} {g} (h0 : Grow m e (.slice nl t xs)) (hn : nl = true → xs = []) (hl : xs.length ≤ 100000000) (hF : F rest = some (ys, l))
  (h : K (.slice false (l ++ fr) (xs ++ ys), BL e (l ++ fr) (.slice nl t xs))) : Got ((gQ e F).ex (.slice nl t xs :: rest) m fr) K g := by
 refine Got.intro ?_ h
 have hg : CI m e nl t xs.isEmpty = true := by
  unfold CI
  cases nl with
  | true => rw [if_pos rfl, hn rfl]; rfl
  | false =>
   rcases h0 with h0 | ⟨h1, h2⟩
   ·cases h0
   ·rw [if_neg (by simp), h1]
    cases t with
    | nil => exact absurd rfl h2
    | cons a b => simp
 simp only [gQ]
 rw [if_pos ⟨hg, hl⟩, hF]; rfl
def beB : Nat → Int → List UInt8
 | 0, _ => []
 | k + 1, n => UInt8.ofNat ((n.fdiv (2 ^ (8 * k))) % 256).toNat :: beB k n
theorem beB_len : ∀ k n, (beB k n).length = k
 | 0, _ => rfl
 | k + 1, n => by simp [beB, beB_len k n]
def DP : D → Bool
 | .int .u8 _ => true
 | _ => false
def grownQ : Summ where
 rd := fun _ _ => []
 ex := fun ds _ fr => match ds with
  | [.slice _ _ xs, .int .i64 k] => if 0 ≤ k ∧ xs.all DP = true ∧ (xs.length : Int) + k ≤ 140737488355328 then some (.slice false (0 :: fr) xs, [(0 :: fr, 0, [.tok 6])]) else none
  | _ => none
def cQ (e : Nat) (wr : D → D) (F : List D → Option (List D × List Nat)) : Summ where
 rd := fun _ _ => []
 ex := fun ds _ fr => match ds with
  | .slice _ _ xs :: rest => if xs.all DP = true ∧ xs.length ≤ 100000000 then (F rest).map fun y => (wr (.slice false (y.2 ++ fr) (xs ++ y.1)), [(y.2 ++ fr, 0, [.tok (e + 1)])]) else none
  | _ => none
theorem cQ_inv {e : Nat} {wr : D → D} {F : List D → Option (List D × List Nat)} {ds : List D} {m : Mem} {fr : Id} {d : D} {u : Upd} (h : (cQ e wr F).ex ds m fr = some (d, u)) :
  ∃ nl t xs rest ys l, ds = .slice nl t xs :: rest ∧ xs.all DP = true ∧ xs.length ≤ 100000000 ∧ F rest = some (ys, l) ∧ d = wr (.slice false (l ++ fr) (xs ++ ys)) ∧ u = [(l ++ fr, 0, [.tok (e + 1)])] := by
 simp only [cQ] at h
 split at h
 ·rename_i nl t xs rest
  split at h
  ·rename_i hk
   rw [Option.map_eq_some_iff] at h
   obtain ⟨⟨ys, l⟩, hF, h⟩ := h
   simp only [Prod.mk.injEq] at h
   exact ⟨nl, t, xs, rest, ys, l, rfl, hk.1, hk.2, hF, h.1.symm, h.2.symm⟩
  ·cases h
 ·cases h
theorem got_c {e : Nat} {wr : D → D} {F : List D → Option (List D × List Nat)} {m : Mem} {fr : Id} {nl : Bool} {t : Id} {xs rest ys : List D} {l : List Nat} {K : D × Upd → Prop} {g} (ha : xs.all DP = true) (hl : xs.length ≤ 100000000) (hF : F rest = some (ys, l))
  (h : K (wr (.slice false (l ++ fr) (xs ++ ys)), [(l ++ fr, 0, [.tok (e + 1)])])) : Got ((cQ e wr F).ex (.slice nl t xs :: rest) m fr) K g := by
 refine Got.intro ?_ h
 simp only [cQ]
 rw [if_pos ⟨ha, hl⟩, hF]; rfl
theorem bytes_all (a : List UInt8) : (Ay a).all DP = true := by
 rw [List.all_eq_true]
 intro x hx
 obtain ⟨c, _, rfl⟩ := List.mem_map.1 hx
 rfl
theorem Gd.finc {e : Nat} {fr : Id} {m0 m : Mem} {t0 t : Id} {c : Nat} (h : Gd e fr m0 true t0 m c t) (hfr : ∀ i o, fr <:+ i → m0 i o = none) : ∀ i o x, Upd.app m0 [(t, 0, [.tok (e + 1)])] i o = some x → m i o = some x :=
 h.fin (emp := true) (xs := []) hfr (by unfold CI; rfl)
theorem grown_ex {m : Mem} {fr : Id} {nl : Bool} {t : Id} {xs : List D} {k : Int} (hk : 0 ≤ k) (ha : xs.all DP = true) (hl : (xs.length : Int) + k ≤ 140737488355328) : grownQ.ex [.slice nl t xs, .int .i64 k] m fr = some (.slice false (0 :: fr) xs, [(0 :: fr, 0, [.tok 6])]) := by
 simp only [grownQ]; exact if_pos ⟨hk, ha, hl⟩
theorem u64_small {n : Int} (h : 0 ≤ n) (h' : n < 18446744073709551616) : IntKind.u64.wrap n = n := by
 have : IntKind.u64.wrap n = n % 18446744073709551616 := by simp [IntKind.wrap, IntKind.bits, IntKind.signed]
 rw [this]; omega
def rowW (d : D) : D := .tup [d, .int .i64 0]
theorem byte_step {n : Int} (h : 0 ≤ n) (h' : n < 18446744073709551616) (j : Nat) : IntKind.u64.wrap ((n.fdiv (2 ^ (8 * j))).tdiv 256) = n.fdiv (2 ^ (8 * (j + 1))) := by
 have p : (0 : Int) ≤ 2 ^ (8 * j) := Int.le_of_lt (Int.pow_pos (by decide))
 have p' : (0 : Int) ≤ 2 ^ (8 * (j + 1)) := Int.le_of_lt (Int.pow_pos (by decide))
 rw [Int.fdiv_eq_ediv_of_nonneg _ p, Int.fdiv_eq_ediv_of_nonneg _ p']
 have e : (2 : Int) ^ (8 * (j + 1)) = 2 ^ (8 * j) * 256 := by rw [show 8 * (j + 1) = 8 * j + 8 by omega, Int.pow_add]; rfl
 have q : 0 ≤ n / 2 ^ (8 * j) := Int.ediv_nonneg h p
 have q' : n / 2 ^ (8 * j) ≤ n := Int.ediv_le_self _ h
 rw [Int.tdiv_eq_ediv_of_nonneg q, e, ← Int.ediv_ediv_of_nonneg p]
 exact u64_small (Int.ediv_nonneg q (by decide)) (by omega)
theorem byte_last {n : Int} (h : 0 ≤ n) (j : Nat) : ((n.fdiv (2 ^ (8 * j))).tmod 256) % 256 = n.fdiv (2 ^ (8 * j)) % 256 := by
 have p : (0 : Int) ≤ 2 ^ (8 * j) := Int.le_of_lt (Int.pow_pos (by decide))
 rw [Int.fdiv_eq_ediv_of_nonneg _ p]
 have q : 0 ≤ n / 2 ^ (8 * j) := Int.ediv_nonneg h p
 rw [Int.tmod_eq_emod_of_nonneg q]; omega
def roundW : Nat → Nat
 | 0 => 0
 | k + 1 => 18 + 9 * k + roundW k
end Go.Vd
