/-
  A part of the proof: the layers over the model. Nothing in it is assumed.
-/
import Derived.Test.YtcjfmpodkafceaaGreatDoorLinesP3
import Derived.Shelf.Strings.Split
import Derived.Deep.Slices
import Derived.Deep.Fields
import Derived.ChangeSame
import Derived.ChangeArms
import Derived.Lib.SmallJoins

set_option linter.unusedSimpArgs false
set_option linter.unusedVariables false

namespace Go.Vd
open Go.RowKit
set_option linter.unusedSimpArgs false
set_option linter.unusedVariables false
set_option maxRecDepth 10000
def hv (c : UInt8) : Int := if 97 ≤ c.toNat then (c.toNat : Int) - 87 else (c.toNat : Int) - 48
theorem hv_range (c : UInt8) : -48 ≤ hv c ∧ hv c ≤ 168 := by
 have := c.toNat_lt
 unfold hv; split <;> omega
theorem pairV_hv (a b : UInt8) : pairV a b = UInt8.ofNat ((16 * hv a + hv b) % 256).toNat := rfl
theorem u8_wrap (n : Int) : IntKind.u8.wrap n = (((n % 256).toNat : Nat) : Int) := by
 have h1 : IntKind.u8.wrap n = n % 256 := by simp [IntKind.wrap, IntKind.bits, IntKind.signed]
 rw [h1]; omega
set_option maxHeartbeats 1000000 in
theorem in74 {S : Summs} {l : Bs} {k j : Nat} {v : Int} {x : D} {Q : Ex → St → Prop} {st : St} {g : Tag (S, [], dc74l0, Q, st)} (hb : l.length ≤ 1000000) (hj : j < 2) (hkj : k + j < l.length) (hv0 : -4000 ≤ v ∧ v ≤ 4000)
  (h7 : st.s 7 = .int .i64 (j : Int)) (h6 : st.s 6 = .int .i64 v) (h0 : st.s 0 = .str l) (h5 : st.s 5 = .int .i64 (k : Int)) (h4 : st.s 4 = x)
  (hnext : ∀ st' g', st'.s 7 = .int .i64 ((j + 1 : Nat) : Int) → st'.s 6 = .int .i64 (16 * v + hv l[k + j]) → st'.s 0 = .str l → st'.s 5 = .int .i64 (k : Int) → st'.s 4 = x → st'.m = st.m → st.c ≤ st'.c → loopW S [] dc74l0 Q st' g') :
  loopW S [] dc74l0 Q st g := by
 refine wp_loopd dc74l0.eq_1 ?_
 have hlt : ((j : Int) < 2) = True := eq_true (by omega)
 have hk0 : (0 : Int) ≤ (k : Int) + (j : Int) := by omega
 have hx : l[((k : Int) + (j : Int)).toNat]? = some l[k + j] := by
  rw [show ((k : Int) + (j : Int)).toNat = k + j by omega]; simp [hkj]
 have hcx := l[k + j].toNat_lt
 have w1 : IntKind.i64.wrap ((k : Int) + (j : Int)) = (k : Int) + (j : Int) := IntWalk.i64_in _ ⟨by omega, by omega⟩
 have w2 : IntKind.i64.wrap (l[k + j].toNat : Int) = (l[k + j].toNat : Int) := IntWalk.i64_in _ ⟨by omega, by omega⟩
 have w3 : IntKind.i64.wrap (16 * v) = 16 * v := IntWalk.i64_in _ ⟨by omega, by omega⟩
 have w4 : IntKind.i64.wrap (16 * v + (l[k + j].toNat : Int)) = 16 * v + (l[k + j].toNat : Int) := IntWalk.i64_in _ ⟨by omega, by omega⟩
 have w5 : IntKind.i64.wrap (16 * v + (l[k + j].toNat : Int) - 87) = 16 * v + ((l[k + j].toNat : Int) - 87) := by rw [IntWalk.i64_in _ ⟨by omega, by omega⟩]; omega
 have w6 : IntKind.i64.wrap (16 * v + (l[k + j].toNat : Int) - 48) = 16 * v + ((l[k + j].toNat : Int) - 48) := by rw [IntWalk.i64_in _ ⟨by omega, by omega⟩]; omega
 have w7 : IntKind.i64.wrap ((j : Int) + 1) = ((j + 1 : Nat) : Int) := by rw [IntWalk.i64_in _ ⟨by omega, by omega⟩]; omega
 by_cases hc : 97 ≤ l[k + j].toNat
 ·have hc' : ((97 : Int) ≤ (l[k + j].toNat : Int)) = True := eq_true (by omega)
  have he : hv l[k + j] = (l[k + j].toNat : Int) - 87 := if_pos hc
  simp only [↓go1, go2, go3, go4, reduceIte, Nat.reduceEqDiff, Nat.reduceAdd, h7, h6, h0, h5, h4, hlt, hk0, hx, w1, w2, w3, w4, w5, w7, hc']
  exact hnext _ _ rfl (by rw [he]; rfl) h0 h5 h4 rfl (by simp only; omega)
 ·have hc' : ((97 : Int) ≤ (l[k + j].toNat : Int)) = False := eq_false (by omega)
  have he : hv l[k + j] = (l[k + j].toNat : Int) - 48 := if_neg hc
  simp only [↓go1, go2, go3, go4, reduceIte, Nat.reduceEqDiff, Nat.reduceAdd, h7, h6, h0, h5, h4, hlt, hk0, hx, w1, w2, w3, w4, w6, w7, hc']
  exact hnext _ _ rfl (by rw [he]; rfl) h0 h5 h4 rfl (by simp only; omega)
theorem loop74i {S : Summs} {l : Bs} {k : Nat} {x : D} {Q : Ex → St → Prop} {st : St} {g : Tag (S, [], dc74l0, Q, st)} (hb : l.length ≤ 1000000) (hkl : k + 1 < l.length)
  (h7 : st.s 7 = .int .i64 0) (h6 : st.s 6 = .int .i64 0) (h0 : st.s 0 = .str l) (h5 : st.s 5 = .int .i64 (k : Int)) (h4 : st.s 4 = x)
  (hexit : ∀ st', st'.s 6 = .int .i64 (16 * hv l[k] + hv l[k + 1]) → st'.s 0 = .str l → st'.s 5 = .int .i64 (k : Int) → st'.s 4 = x → st'.m = st.m → st.c ≤ st'.c → Q (.exit 2) st') :
  loopW S [] dc74l0 Q st g := by
 have r1 := hv_range l[k]
 refine in74 (j := 0) (k := k) (v := 0) (x := x) hb (by omega) (by omega) (by omega) h7 h6 h0 h5 h4 (fun st1 g1 a7 a6 a0 a5 a4 am ac => ?_)
 refine in74 (j := 1) (k := k) (v := 16 * 0 + hv l[k]) (x := x) hb (by omega) hkl (by omega) a7 a6 a0 a5 a4 (fun st2 g2 b7 b6 b0 b5 b4 bm bc => ?_)
 refine wp_loopd dc74l0.eq_1 ?_
 have hlt : ¬ ((((1 + 1 : Nat) : Int)) < 2) := by omega
 simp only [↓go1, go2, go3, go4, reduceIte, Nat.reduceEqDiff, Nat.reduceAdd, b7, hlt]
 refine hexit _ ?_ b0 b5 b4 ?_ ?_
 ·simp only [↓go1, go2, go3, go4, reduceIte, Nat.reduceEqDiff, Nat.reduceAdd, b6]; simp
 ·simp only [bm, am, app_nil]
 ·simp only; omega
theorem pairs_drop {l : Bs} {k : Nat} (h : k + 1 < l.length) : pairsB (l.drop k) = pairV l[k] l[k + 1] :: pairsB (l.drop (k + 2)) := by
 rw [List.drop_eq_getElem_cons (by omega), List.drop_eq_getElem_cons h]; rfl
theorem pairs_end {l : Bs} {k : Nat} (h : ¬ k + 1 < l.length) : pairsB (l.drop k) = [] := by
 have : (l.drop k).length ≤ 1 := by simp; omega
 match h : l.drop k with
 | [] => rfl
 | [_] => rfl
 | _ :: _ :: _ => rw [h] at this; simp at this
theorem app_nil' {b : Bool} {xs : List D} {x : D} (h : b = true → xs = []) : (if b = true then [x] else xs ++ [x]) = xs ++ [x] := by
 cases b with
 | true => rw [h rfl]; rfl
 | false => rfl
set_option maxHeartbeats 1000000 in
theorem loop74 {S : Summs} {l : Bs} {Q : Ex → St → Prop} (hb : l.length ≤ 1000000)
  (hexit : ∀ st t, st.s 0 = .str l → st.s 4 = .slice (pairsB l).isEmpty t (bytesD (pairsB l)) → Q (.exit 0) st) :
  ∀ (n k : Nat) (t : Id) (acc : Bs) st g, n = l.length - k → k ≤ l.length → acc.length ≤ k → pairsB l = acc ++ pairsB (l.drop k) → st.s 5 = .int .i64 (k : Int) → st.s 0 = .str l → st.s 4 = .slice acc.isEmpty t (bytesD acc) → Gw st.m st.c 5 acc.isEmpty t →
   loopW S [] dc74l1 Q st g := by
 intro n
 induction n using Nat.strongRecOn with
 | _ n ih =>
  intro k t acc st g hn hk ha hu h5 h0 h4 hg
  refine wp_loopd dc74l1.eq_1 ?_
  have hw1 : IntKind.i64.wrap ((k : Int) + 1) = (k : Int) + 1 := IntWalk.i64_in _ ⟨by omega, by omega⟩
  by_cases hl : k + 1 < l.length
  ·have hlt : (((k : Int) + 1) < l.length) = True := eq_true (by omega)
   simp only [↓go1, go2, go3, go4, reduceIte, Nat.reduceEqDiff, Nat.reduceAdd, Nat.zero_le, Nat.sub_zero, Nat.reduceSub, Nat.reduceLT, List.length_cons, List.length_nil, Nat.le_refl, Nat.reduceLeDiff, h5, h0, h4, hw1, hlt]
   refine loop74i (k := k) (x := .slice acc.isEmpty t (bytesD acc)) hb hl rfl rfl h0 h5 h4 (fun st2 b6 b0 b5 b4 bm bc => ?_)
   have hw : IntKind.i64.wrap ((k : Int) + 2) = ((k + 2 : Nat) : Int) := by rw [IntWalk.i64_in _ ⟨by omega, by omega⟩]; omega
   have hm : st2.m = st.m := bm
   have hcc : st.c ≤ st2.c := by simp only at bc; omega
   have hnil : acc.isEmpty = true → bytesD acc = [] := fun h => by rw [List.isEmpty_iff] at h; rw [h]; rfl
   simp only [↓go1, go2, go3, go4, reduceIte, Nat.reduceEqDiff, Nat.reduceAdd, Nat.zero_le, Nat.sub_zero, Nat.reduceSub, Nat.reduceLT, List.length_cons, List.length_nil, Nat.le_refl, Nat.reduceLeDiff, b6, b0, b5, b4, u8_wrap, hw, and_false, reduceCtorEq]
   have hg2 : Gw st2.m st2.c 5 acc.isEmpty t := by rw [hm]; exact hg.more hcc
   refine Need.intro ⟨by rw [bytesD_len]; omega, rfl, (hg2.put (by omega)).toGrow⟩ ?_
   rw [app_fold hnil]
   simp only [↓go1, go2, go3, go4, reduceIte, Nat.reduceEqDiff, Nat.reduceAdd, Nat.zero_le, Nat.sub_zero, Nat.reduceSub, Nat.reduceLT, List.length_cons, List.length_nil, Nat.le_refl, Nat.reduceLeDiff, b6, b0, b5, b4, u8_wrap, hw, and_false, reduceCtorEq]
   have hne : (acc ++ [pairV l[k] l[k + 1]]).isEmpty = false := by cases acc <;> rfl
   refine ih (n - 2) (by omega) (k + 2) [st2.c + 4] (acc ++ [pairV l[k] l[k + 1]]) _ _ (by omega) (by omega) (by simp; omega) ?_ rfl b0 ?_ ?_
   ·rw [hu, pairs_drop hl, List.append_assoc]; rfl
   ·rw [hne, pairV_hv, ← bytesD_snoc acc (show ((16 * hv l[k] + hv l[k + 1]) % 256).toNat < 256 by omega)]; rfl
   ·rw [hne]; exact Gw.new (by simp only; omega)
  ·have hlt : (((k : Int) + 1) < l.length) = False := eq_false (by omega)
   simp only [↓go1, go2, go3, go4, reduceIte, Nat.reduceEqDiff, Nat.reduceAdd, Nat.zero_le, Nat.sub_zero, Nat.reduceSub, Nat.reduceLT, List.length_cons, List.length_nil, Nat.le_refl, Nat.reduceLeDiff, h5, h0, h4, hw1, hlt]
   rw [pairs_end hl, List.append_nil] at hu
   refine hexit _ t h0 ?_
   rw [hu]; exact h4
def F74 : List D → Option D
 | [.str s] => if s.length ≤ 1000000 then some (.tup [.str (unhexR s).1, .bool (unhexR s).2]) else none
 | _ => none
theorem pairs_len : ∀ l : Bs, (pairsB l).length ≤ l.length
 | [] => by simp [pairsB]
 | [_] => by simp [pairsB]
 | a :: b :: r => by simp only [pairsB, List.length_cons]; have := pairs_len r; omega
theorem ok74 {P : Program} (hd : Desk P) : (funS F74).ok P 74 := by
 have hS : Summs.ok P (tabL [(66, funS F65)]) := tabL_cons (ok66 hd) tabL_nil
 have s66 : tabL [(66, funS F65)] 66 = some (funS F65) := rfl
 generalize tabL [(66, funS F65)] = S at hS s66
 refine fun_ok (S := S) hS hd.f74 (fun ds r h => ?_) (fun ds r h => ?_)
 ·unfold F74 at h; split at h
  ·simp
  ·cases h
 ·unfold F74 at h; split at h
  ·rename_i s
   split at h
   ·rename_i hb
    simp only [Option.some.injEq] at h
    subst h
    unfold dc74
    simp only [↓go1, go2, go3, go4, reduceIte, Nat.reduceEqDiff, Nat.reduceAdd]
    refine loop74 (l := s) hb (fun st t h0 h4 => ?_) s.length 0 [] [] _ _ rfl (by omega) (by simp) (by simp) rfl rfl rfl (.inl rfl)
    have hl := pairs_len s
    have f65 : F65 [.str (pairsB s)] = some (.str (hexB (pairsB s))) := if_pos (by omega)
    simp only [↓go1, go2, go3, go4, reduceIte, Nat.reduceEqDiff, Nat.reduceAdd, h0, h4, unbytes_bytes, callK_fun s66, f65]
    by_cases he : hexB (pairsB s) = s
    ·have he' : (hexB (pairsB s) = s) = True := eq_true he
     simp only [↓go1, go2, go3, go4, reduceIte, Nat.reduceEqDiff, Nat.reduceAdd, h0, h4, unbytes_bytes, he']
     simp [unhexR, he]
    ·have he' : (hexB (pairsB s) = s) = False := eq_false he
     simp only [↓go1, go2, go3, go4, reduceIte, Nat.reduceEqDiff, Nat.reduceAdd, h0, h4, unbytes_bytes, he']
     simp [unhexR, he]
   ·cases h
  ·cases h
def F38 : List D → Option D
 | [.str s] => if s.length ≤ 1000000 then some (.str (unhexR s).1) else none
 | _ => none
theorem ok38 {P : Program} (hd : Desk P) : (funS F38).ok P 38 := by
 have hS : Summs.ok P (tabL [(74, funS F74)]) := tabL_cons (ok74 hd) tabL_nil
 have s74 : tabL [(74, funS F74)] 74 = some (funS F74) := rfl
 generalize tabL [(74, funS F74)] = S at hS s74
 refine fun_ok (S := S) hS hd.f38 (fun ds r h => ?_) (fun ds r h => ?_)
 ·unfold F38 at h; split at h
  ·simp
  ·cases h
 ·unfold F38 at h; split at h
  ·rename_i s
   split at h
   ·rename_i hb
    simp only [Option.some.injEq] at h
    subst h
    unfold dc38
    have f74 : F74 [.str s] = some (.tup [.str (unhexR s).1, .bool (unhexR s).2]) := if_pos hb
    simp only [↓go1, go2, go3, go4, reduceIte, Nat.reduceEqDiff, Nat.reduceAdd, callK_fun s74, f74]
   ·cases h
  ·cases h
def F37 : List D → Option D
 | [.str s] => some (.int .i64 (numB s).1)
 | _ => none
theorem ok37 {P : Program} (hd : Desk P) (h26 : (funS F26).ok P 26) : (funS F37).ok P 37 := by
 have hS : Summs.ok P (tabL [(26, funS F26)]) := tabL_cons h26 tabL_nil
 have s26 : tabL [(26, funS F26)] 26 = some (funS F26) := rfl
 generalize tabL [(26, funS F26)] = S at hS s26
 refine fun_ok (S := S) hS hd.f37 (fun ds r h => ?_) (fun ds r h => ?_)
 ·unfold F37 at h; split at h
  ·simp
  ·cases h
 ·unfold F37 at h; split at h
  ·rename_i s
   simp only [Option.some.injEq] at h
   subst h
   unfold dc37
   have f26 : F26 [.str s] = some (.tup [.int .i64 (numB s).1, .bool (numB s).2]) := rfl
   simp only [↓go1, go2, go3, go4, reduceIte, Nat.reduceEqDiff, Nat.reduceAdd, callK_fun s26, f26]
  ·cases h
end Go.Vd

namespace Go.Vd
open Go.RowKit
set_option linter.unusedSimpArgs false
set_option linter.unusedVariables false
set_option maxRecDepth 10000
def F36 : List D → Option D
 | [.str s, .int .u8 32] => if s.length ≤ 1000000 then some (.slice false [] ((splitB s).map .str)) else none
 | _ => none
theorem take_snoc {l : Bs} {a k : Nat} (ha : a ≤ k) (hk : k < l.length) : (l.drop a).take (k + 1 - a) = (l.drop a).take (k - a) ++ [l[k]] := by
 rw [show k + 1 - a = (k - a) + 1 by omega, List.take_add_one, List.getElem?_drop, show a + (k - a) = k by omega, List.getElem?_eq_getElem hk]; rfl
theorem drop_split {l : Bs} {a k : Nat} (ha : a ≤ k) (hk : k < l.length) : l.drop a = (l.drop a).take (k - a) ++ l[k] :: l.drop (k + 1) := by
 have h := List.take_append_drop (k - a) (l.drop a)
 rw [List.drop_drop, show a + (k - a) = k by omega, List.drop_eq_getElem_cons hk] at h
 exact h.symm
set_option maxHeartbeats 2000000 in
theorem loop36 {S : Summs} {l : Bs} {Q : Ex → St → Prop} (hb : l.length ≤ 1000000)
  (hexit : ∀ st t, st.s 5 = .slice false t ((splitB l).map .str) → Q (.exit 0) st) :
  ∀ (n k a : Nat) (t : Id) (pre : List Bs) st g, n = l.length - k → k ≤ l.length → a ≤ k → pre.length ≤ k → splitB l = pre ++ splitB (l.drop a) → (32 : UInt8) ∉ (l.drop a).take (k - a) → st.s 7 = .int .i64 (k : Int) → st.s 6 = .int .i64 (a : Int) → st.s 0 = .str l → st.s 1 = .int .u8 32 → st.s 5 = .slice pre.isEmpty t (pre.map .str) → Gw st.m st.c 9 pre.isEmpty t →
   loopW S [] dc36l0 Q st g := by
 intro n
 induction n with
 | zero =>
  intro k a t pre st g hn hk ha hp hu hw h7 h6 h0 h1 h5 hg
  refine wp_loopd dc36l0.eq_1 ?_
  obtain rfl : k = l.length := by omega
  have c1 : ((l.length : Int) ≤ (l.length : Int)) = True := eq_true (by omega)
  have c2 : ((0 : Int) ≤ (l.length : Int)) = True := eq_true (by omega)
  have c3 : ((a : Int) ≤ (l.length : Int)) = True := eq_true (by omega)
  have c4 : ((0 : Int) ≤ (a : Int)) = True := eq_true (by omega)
  have c5 : IntKind.i64.wrap ((l.length : Int) + 1) = (l.length : Int) + 1 := IntWalk.i64_in _ ⟨by omega, by omega⟩
  have c6 : (((l.length : Int) + 1) ≤ (l.length : Int)) = False := eq_false (by omega)
  have hnil : pre.isEmpty = true → pre.map D.str = [] := fun h => by rw [List.isEmpty_iff] at h; rw [h]; rfl
  simp only [↓go1, go2, go3, go4, reduceIte, Nat.reduceEqDiff, Nat.reduceAdd, Nat.zero_le, Nat.sub_zero, Nat.reduceSub, Nat.reduceLT, List.length_cons, List.length_nil, Nat.le_refl, Nat.reduceLeDiff, Int.toNat_natCast, h7, h6, h0, h1, h5, c1, c2, c3, c4, c5, c6, and_false, and_self, reduceCtorEq]
  refine Need.intro ⟨by simp only [List.length_map]; omega, rfl, (hg.put (by omega)).toGrow⟩ ?_
  rw [app_fold hnil]
  simp only [↓go1, go2, go3, go4, reduceIte, Nat.reduceEqDiff, Nat.reduceAdd, Nat.zero_le, Nat.sub_zero, Nat.reduceSub, Nat.reduceLT, List.length_cons, List.length_nil, Nat.le_refl, Nat.reduceLeDiff, Int.toNat_natCast, h7, h6, h0, h1, h5, c1, c2, c3, c4, c5, c6, and_false, and_self, reduceCtorEq]
  refine wp_loopd dc36l0.eq_1 ?_
  simp only [↓go1, go2, go3, go4, reduceIte, Nat.reduceEqDiff, Nat.reduceAdd, Nat.zero_le, Nat.sub_zero, Nat.reduceSub, Nat.reduceLT, List.length_cons, List.length_nil, Nat.le_refl, Nat.reduceLeDiff, Int.toNat_natCast, h7, h6, h0, h1, h5, c1, c2, c3, c4, c5, c6, and_false, and_self, reduceCtorEq]
  refine hexit _ [st.c + 4 + 11 + 6] ?_
  simp only [↓go1, go2, go3, go4, reduceIte, Nat.reduceEqDiff, Nat.reduceAdd]
  have e : (l.drop a).take (l.length - a) = l.drop a := List.take_of_length_le (by simp)
  rw [e] at hw
  rw [hu, split_one hw, e, List.map_append]; rfl
 | succ n ih =>
  intro k a t pre st g hn hk ha hp hu hw h7 h6 h0 h1 h5 hg
  refine wp_loopd dc36l0.eq_1 ?_
  have hkl : k < l.length := by omega
  have c1 : ((k : Int) ≤ (l.length : Int)) = True := eq_true (by omega)
  have c1' : ((k : Int) = (l.length : Int)) = False := eq_false (by omega)
  have c2 : ((0 : Int) ≤ (k : Int)) = True := eq_true (by omega)
  have c3 : ((a : Int) ≤ (k : Int)) = True := eq_true (by omega)
  have c4 : ((0 : Int) ≤ (a : Int)) = True := eq_true (by omega)
  have c5 : IntKind.i64.wrap ((k : Int) + 1) = ((k + 1 : Nat) : Int) := by rw [IntWalk.i64_in _ ⟨by omega, by omega⟩]; omega
  have hx : l[k]? = some l[k] := List.getElem?_eq_getElem hkl
  have hnil : pre.isEmpty = true → pre.map D.str = [] := fun h => by rw [List.isEmpty_iff] at h; rw [h]; rfl
  by_cases hc : l[k] = 32
  ·have hc' : ((l[k].toNat : Int) = 32) = True := eq_true (by rw [hc]; rfl)
   simp only [↓go1, go2, go3, go4, reduceIte, Nat.reduceEqDiff, Nat.reduceAdd, Nat.zero_le, Nat.sub_zero, Nat.reduceSub, Nat.reduceLT, List.length_cons, List.length_nil, Nat.le_refl, Nat.reduceLeDiff, Int.toNat_natCast, h7, h6, h0, h1, h5, c1, c2, c3, c4, c5, c1', hx, hc', and_false, and_self, reduceCtorEq]
   refine Need.intro ⟨by simp only [List.length_map]; omega, rfl, (hg.put (by omega)).toGrow⟩ ?_
   rw [app_fold hnil]
   simp only [↓go1, go2, go3, go4, reduceIte, Nat.reduceEqDiff, Nat.reduceAdd, Nat.zero_le, Nat.sub_zero, Nat.reduceSub, Nat.reduceLT, List.length_cons, List.length_nil, Nat.le_refl, Nat.reduceLeDiff, Int.toNat_natCast, h7, h6, h0, h1, h5, c1, c2, c3, c4, c5, c1', hx, hc', and_false, and_self, reduceCtorEq]
   have hne : (pre ++ [(l.drop a).take (k - a)]).isEmpty = false := by cases pre <;> rfl
   refine ih (k + 1) (k + 1) [st.c + 4 + 11 + 6] (pre ++ [(l.drop a).take (k - a)]) _ _ (by omega) (by omega) (by omega) (by simp; omega) ?_ (by simp) rfl rfl h0 h1 ?_ ?_
   ·have hds := drop_split ha hkl
    rw [hc] at hds
    rw [hu, List.append_assoc]
    congr 1
    conv => lhs; rw [hds]
    rw [split_word hw]; rfl
   ·rw [hne, List.map_append]; rfl
   ·rw [hne]; exact Gw.new (by simp only; omega)
  ·have hc' : ((l[k].toNat : Int) = 32) = False := eq_false (fun e => hc (by rw [← UInt8.toNat_inj]; have : ((32 : UInt8).toNat : Int) = 32 := rfl; omega))
   simp only [↓go1, go2, go3, go4, reduceIte, Nat.reduceEqDiff, Nat.reduceAdd, Nat.zero_le, Nat.sub_zero, Nat.reduceSub, Nat.reduceLT, List.length_cons, List.length_nil, Nat.le_refl, Nat.reduceLeDiff, Int.toNat_natCast, h7, h6, h0, h1, h5, c1, c2, c3, c4, c5, c1', hx, hc', and_false, and_self, reduceCtorEq]
   refine ih (k + 1) a t pre _ _ (by omega) (by omega) (by omega) (by omega) hu ?_ rfl h6 h0 h1 h5 (hg.more (by simp only; omega))
   rw [take_snoc ha hkl]
   simp only [List.mem_append, List.mem_singleton, not_or]
   exact ⟨hw, fun e => hc e.symm⟩
theorem ok36 {P : Program} (hd : Desk P) : (funS F36).ok P 36 := by
 refine fun_ok (S := fun _ => none) none_ok hd.f36 (fun ds r h => ?_) (fun ds r h => ?_)
 ·unfold F36 at h; split at h
  ·simp
  ·cases h
 ·unfold F36 at h; split at h
  ·rename_i s
   split at h
   ·rename_i hb
    simp only [Option.some.injEq] at h
    subst h
    unfold dc36
    simp only [↓go1, go2, go3, go4, reduceIte, Nat.reduceEqDiff, Nat.reduceAdd]
    refine loop36 (l := s) hb (fun st t h5 => ?_) s.length 0 0 [] [] _ _ rfl (by omega) (by omega) (by simp) (by simp) (by simp) rfl rfl rfl rfl rfl (.inl rfl)
    simp only [↓go1, go2, go3, go4, reduceIte, Nat.reduceEqDiff, Nat.reduceAdd, h5]
   ·cases h
  ·cases h
end Go.Vd

namespace Go.Proofs
open Go.Shelf Go.RowKit Go.Lib
variable {P : Program} {ρ : Ren}
theorem indexByte_hit {c : UInt8} {r : List UInt8} : ∀ {w : List UInt8}, c ∉ w → Lib.indexByte (w ++ c :: r) c = w.length
 | [], _ => by simp [Lib.indexByte]
 | b :: w, h => by
  simp only [List.mem_cons, not_or] at h
  have ih := indexByte_hit (r := r) h.2
  have hb : (b == c) = false := beq_eq_false_iff_ne.2 (fun e => h.1 e.symm)
  have h1 : ((w.length : Int) == -1) = false := beq_eq_false_iff_ne.2 (by omega)
  rw [List.cons_append, Lib.indexByte, hb, ih, h1]; simp
theorem indexByte_miss {c : UInt8} : ∀ {w : List UInt8}, c ∉ w → Lib.indexByte w c = -1
 | [], _ => rfl
 | b :: w, h => by
  simp only [List.mem_cons, not_or] at h
  have hb : (b == c) = false := beq_eq_false_iff_ne.2 (fun e => h.1 e.symm)
  rw [Lib.indexByte, hb, indexByte_miss h.2]; rfl
theorem splitK_eq : ∀ (n : Nat) (s : List UInt8), s.length ≤ n → Lib.splitK [32] 0 (s.count 32) s = Go.Vd.splitB s := by
 intro n
 induction n with
 | zero => intro s h; obtain rfl : s = [] := List.length_eq_zero_iff.1 (by omega); rfl
 | succ n ih =>
  intro s h
  by_cases hm : (32 : UInt8) ∈ s
  ·obtain ⟨w, r, rfl, hw⟩ := List.eq_append_cons_of_mem hm
   have hc : (w ++ 32 :: r).count 32 = r.count 32 + 1 := by rw [List.count_append, List.count_eq_zero_of_not_mem hw]; simp
   have hi : Lib.index (w ++ 32 :: r) [32] = w.length := by rw [Lib.index_one]; exact indexByte_hit hw
   have h1 : ¬ ((w.length : Int) == -1) = true := fun e => by have := beq_iff_eq.1 e; omega
   rw [hc, Lib.splitK, hi, if_neg h1, Go.Vd.split_word hw, Int.toNat_natCast]
   have e1 : (w ++ 32 :: r).take (w.length + 0) = w := by simp
   have e2 : (w ++ 32 :: r).drop (w.length + [(32 : UInt8)].length) = r := by
    rw [show w.length + [(32 : UInt8)].length = (w ++ [32]).length by simp, show w ++ 32 :: r = (w ++ [32]) ++ r by simp, List.drop_left]
   rw [e1, e2, ih r (by simp at h; omega)]
  ·rw [List.count_eq_zero_of_not_mem hm, Go.Vd.split_one hm]; rfl
set_option maxHeartbeats 1000000 in
theorem split_space (L : Lays.n146 P ρ) (hi9 : (P.info? (ρ.t 9)).map (fun i => (i.zero, i.size, i.bytes)) = some (some (.string ByteArray.empty), 1, 16)) (s : ByteArray) (w : World) (hs : s.size < 4294967281) :
  Calls P (ρ.f 146) #[.string s, .string ⟨#[32]⟩] w fun e w' =>
   e = .returned (.slice (some ⟨w.heap.size, 0, none⟩) (Lib.countB s ⟨#[32]⟩ + 1) (Lib.countB s ⟨#[32]⟩ + 1)) ∧ w' = w.alloc (.cells ((Lib.splitB ⟨#[32]⟩ 0 (Lib.countB s ⟨#[32]⟩) s).map Value.string).toArray (ρ.t 9)) := by
 have h1 : 1 ≤ (⟨#[32]⟩ : ByteArray).size := by decide
 have hle := Lib.countB_le ⟨#[32]⟩ h1 s.size s (Nat.le_refl _)
 have hlen := Lib.splitB_all ⟨#[32]⟩ h1 0 _ s rfl
 have c := Any.strings_genSplit_core { L with } hi9 s ⟨#[32]⟩ 0 (-1) (Lib.countB s ⟨#[32]⟩ + 1) w hs h1 (Nat.zero_le _)
  (fun x cc _ => (Any.strings_Index_one { L with } x 32 _).mono fun e w' ⟨he, hw⟩ => ⟨by rw [he, ← Lib.index_one], hw⟩)
  ((Any.strings_Count_one { L with } s 32 w).mono fun e w' ⟨he, hw⟩ => ⟨by rw [he]; show _ = Ending.returned (Value.int .i64 ((Lib.count s.data.toList [32] : Nat) : Int)); rw [Lib.count_one]; rfl, hw⟩)
  (by decide) (by decide) (by rw [if_pos (by decide)]; omega)
 rw [Nat.add_sub_cancel, hlen] at c
 have e2 : Lib.cellsOf (Lib.splitB ⟨#[32]⟩ 0 (Lib.countB s ⟨#[32]⟩) s) (Lib.countB s ⟨#[32]⟩ + 1) = ((Lib.splitB ⟨#[32]⟩ 0 (Lib.countB s ⟨#[32]⟩) s).map Value.string).toArray := by rw [← hlen]; exact Lib.cellsOf_full _
 rw [e2] at c
 have t3 := L.t3; have t9 := L.t9; have t31 := L.t31
 have a3 := L.a3; have a9 := L.a9; have a31 := L.a31
 have z3 := L.z3; have v3 := L.v3; have z9 := L.z9; have v9 := L.v9; have z31 := L.z31; have v31 := L.v31
 have e221 : ∀ args w, (callFunc (ρ.f 221) args).run P w = .ok (.enter (ρ.f 221) args) w := enters_of L.f221 (by kernel_rfl) rfl
 go_enter L.f146, Body.n146_ntmps ρ
 go_wp2_with (go_at_fn (ρ.f 221); refine c.mono ?_; rintro e w' ⟨rfl, hw⟩; rw [hw])
 go_ret
 exact ⟨rfl, rfl⟩
end Go.Proofs
namespace Go.Vd
open Go.RowKit
set_option linter.unusedSimpArgs false
set_option linter.unusedVariables false
def Fsplit : List D → Option D
 | [.str s, .str [32]] => if s.length ≤ 1000000 then some (.slice false [] ((splitB s).map .str)) else none
 | _ => none
theorem splitB_len : ∀ s : Bs, (splitB s).length ≤ s.length + 1
 | [] => by simp [splitB]
 | c :: r => by
  have ih := splitB_len r
  unfold splitB
  split
  ·simp; omega
  ·split
   ·rename_i h t e; rw [e] at ih; simp at ih ⊢; omega
   ·simp
theorem split_ok {P : Program} {ρ : Go.Shelf.Ren} (L : Go.Proofs.Lays.n146 P ρ) (hi9 : (P.info? (ρ.t 9)).map (fun i => (i.zero, i.size, i.bytes)) = some (some (.string ByteArray.empty), 1, 16)) (ent : ∃ fn, P.funcs[ρ.f 146]? = some fn ∧ fn.body.isSome = true ∧ (fn.name == "runtime.NumGoroutine") = false) : (funS Fsplit).ok P (ρ.f 146) := by
 refine ⟨ent, fun ds m m' fr _ => rfl, ?_⟩
 intro B w0 w m g fr ds vs r u hi hfresh hl hrep hex
 simp only [funS] at hex
 split at hex
 ·rw [Option.map_eq_some_iff] at hex
  obtain ⟨r', hr, hex⟩ := hex
  simp only [Prod.mk.injEq] at hex
  obtain ⟨rfl, rfl⟩ := hex
  match ds, vs, hl with
  | [d, d1], [v, v1], _ =>
   have h0 := hrep 0 d v rfl rfl
   have h1 := hrep 1 d1 v1 rfl rfl
   have hd : ∃ s, d = .str s := by
    cases d <;> first | exact ⟨_, rfl⟩ | (exfalso; simp [Fsplit, D.un] at hr; done)
   obtain ⟨s, rfl⟩ := hd
   have hd1 : d1 = .str [32] := by
    cases d1 with
    | str z =>
     simp only [List.map_cons, List.map_nil, D.un, Fsplit] at hr
     split at hr
     ·rename_i heq; simp at heq; rw [heq.2]
     ·cases hr
    | _ => exfalso; simp [Fsplit, D.un] at hr
   subst hd1
   simp only [List.map_cons, List.map_nil, D.un, Fsplit] at hr
   split at hr
   ·rename_i hc
    simp only [Option.some.injEq] at hr; subst hr
    rw [h0.str_inv, h1.str_inv]
    have hcnt : Lib.countB ⟨s.toArray⟩ ⟨#[32]⟩ = s.count 32 := by
     show Lib.count s [32] = _
     exact Lib.count_one 32 s
    have hpc : (Lib.splitB ⟨#[32]⟩ 0 (s.count 32) ⟨s.toArray⟩).map (·.data.toList) = splitB s := by
     rw [Lib.splitB_data]; exact Go.Proofs.splitK_eq s.length s (Nat.le_refl _)
    have hlen : (splitB s).length = s.count 32 + 1 := by
     rw [← hpc, List.length_map, ← hcnt]; exact Lib.splitB_all ⟨#[32]⟩ (by decide) 0 _ _ rfl
    refine (Go.Proofs.split_space L hi9 ⟨s.toArray⟩ w (by show s.length < _; omega)).mono ?_
    rintro ev w' ⟨rfl, rfl⟩
    have hb : Below w.heap.size w (w.alloc (.cells ((Lib.splitB ⟨#[32]⟩ 0 (Lib.countB ⟨s.toArray⟩ ⟨#[32]⟩) ⟨s.toArray⟩).map Value.string).toArray (ρ.t 9))) := (Below.refl _ _).alloc (Nat.le_refl _) _
    refine ⟨_, g.over w _, rfl, hi.over hb, Ext.over hi.gz hb, rep_own (e := ρ.t 9) (n := s.count 32 + 1) hi hb (strs_all _) (by rw [List.length_map, hlen]) ?_ (by simp), fun i hf _ => hf⟩
    have hl2 := splitB_len s
    have hmap : ((splitB s).map D.str).map (fun d => Value.string ⟨(strOf d).toArray⟩) = (Lib.splitB ⟨#[32]⟩ 0 (s.count 32) ⟨s.toArray⟩).map Value.string := by
     rw [← hpc, List.map_map, List.map_map]
     refine List.map_congr_left fun x _ => ?_
     rfl
    rw [hmap, hcnt]
    have hll : ((Lib.splitB ⟨#[32]⟩ 0 (s.count 32) ⟨s.toArray⟩).map Value.string).length = s.count 32 + 1 := by
     rw [← hlen, ← hpc]; simp
    refine ⟨by rw [hll]; omega, .inr ⟨w.heap.size, s.count 32 + 1, _, rfl, Nat.le_refl _, heap_alloc_new w _, Nat.le_refl _, ?_, ?_, ?_⟩⟩
    ·rw [hlen] at hl2; have : maxLen = 9223372036854775807 := rfl; omega
    ·rw [List.size_toArray, hll]; omega
    ·rw [List.take_of_length_le (by rw [hll]; omega)]
   ·cases hr
  | [], _, _ => simp [Fsplit] at hr
  | [_], _, _ => simp [Fsplit] at hr
  | _ :: _ :: _ :: _, _, _ => simp [Fsplit] at hr
 ·cases hex
end Go.Vd

namespace Go.Vd
set_option linter.unusedSimpArgs false
set_option linter.unusedVariables false
abbrev Rs := List Bs × Bool
def rNext : Rs → Bs × Rs
 | ([], b) => ([], ([], true))
 | (w :: ws, b) => (w, (ws, b))
def rNum (r : Rs) : Int × Rs := ((numB (rNext r).1).1, ((rNext r).2.1, (rNext r).2.2 || !(numB (rNext r).1).2))
def rFlag (r : Rs) : Bool × Rs := (decide ((rNext r).1 = [49]), ((rNext r).2.1, (rNext r).2.2 || (decide (¬ (rNext r).1 = [48]) && decide (¬ (rNext r).1 = [49]))))
def unhexP (w : Bs) : Bs × Bool := match unhexB w with
 | some s => (s, true)
 | none => ([], false)
def rText (r : Rs) : Bs × Rs := if (rNext r).1 = [45] then ([], (rNext r).2) else
 ((unhexP (rNext r).1).1, ((rNext r).2.1, (rNext r).2.2 || !(unhexP (rNext r).1).2 || decide ((unhexP (rNext r).1).1 = [])))
def rDone (r : Rs) : Bool := !r.2 && decide (r.1.length = 0)
def rCall (r : Rs) : Dn × Rs :=
 let a := rNum r; let b := rNum a.2; let c := rNum b.2; let d := rNum c.2; let f := rFlag d.2; let x := rText f.2; let y := rText x.2
 (⟨a.1, x.1, y.1, b.1, c.1, d.1, f.1⟩, y.2)
def readP (t : Td) (first : Bool) (s : Bs) : Td × Bool :=
 let k := rNext (splitB s, false)
 if first then
  let a := rNum k.2; let b := rNum a.2; let f := rFlag b.2
  ({ t with ticks := a.1, left := b.1, shut := f.1 }, decide (k.1 = kTold) && rDone f.2)
 else if k.1 = kCall then
  let d := rCall k.2
  ({ t with calls := t.calls ++ [d.1] }, decide (t.behind.length = 0) && rDone d.2)
 else if k.1 = kSaid then
  let x := rText k.2
  ({ t with behind := t.behind ++ [x.1] }, rDone x.2)
 else (t, false)
theorem next_bad (r : Rs) (h : r.2 = true) : (rNext r).2.2 = true := by
 obtain ⟨ws, b⟩ := r
 cases ws <;> simp_all [rNext]
theorem num_bad (r : Rs) (h : r.2 = true) : (rNum r).2.2 = true := by simp [rNum, next_bad r h]
theorem flag_bad (r : Rs) (h : r.2 = true) : (rFlag r).2.2 = true := by simp [rFlag, next_bad r h]
theorem text_bad (r : Rs) (h : r.2 = true) : (rText r).2.2 = true := by
 unfold rText
 split
 ·exact next_bad r h
 ·simp [next_bad r h]
theorem done_bad (r : Rs) (h : r.2 = true) : rDone r = false := by simp [rDone, h]
theorem num_nil (b : Bool) : (rNum ([], b)).2.2 = true := by simp [rNum, rNext]
theorem flag_nil (b : Bool) : (rFlag ([], b)).2.2 = true := by simp [rFlag, rNext]
theorem text_nil (b : Bool) : (rText ([], b)).2.2 = true := by simp [rText, rNext]
theorem num_cons (w : Bs) (ws : List Bs) : rNum (w :: ws, false) = match numO w with | some n => (n, (ws, false)) | none => ((numB w).1, (ws, true)) := by
 simp only [rNum, rNext, numO]
 cases (numB w).2 <;> simp
theorem flag_cons (w : Bs) (ws : List Bs) : rFlag (w :: ws, false) = match flagO w with | some n => (n, (ws, false)) | none => (decide (w = [49]), (ws, true)) := by
 simp only [rFlag, rNext, flagO]
 by_cases h1 : w = [49]
 ·subst h1; simp
 ·by_cases h0 : w = [48]
  ·subst h0; simp
  ·simp [h1, h0]
theorem text_cons (w : Bs) (ws : List Bs) : rText (w :: ws, false) = match textB w with | some n => (n, (ws, false)) | none => ((unhexP w).1, (ws, true)) := by
 simp only [rText, rNext, textB]
 by_cases h1 : w = [45]
 ·subst h1; simp
 ·simp only [h1, if_false, unhexP]
  rcases Option.eq_none_or_eq_some (unhexB w) with h | ⟨s, h⟩
  ·simp [h]
  ·by_cases hs : s = []
   ·simp [h, hs]
   ·simp [h, hs]
theorem told_iff (t : Td) (s : Bs) : readP t true s = match toldO (splitB s) with
  | some (a, b, f) => ({ t with ticks := a, left := b, shut := f }, true)
  | none => ((readP t true s).1, false) := by
 cases h : toldO (splitB s) with
 | none =>
  have key : (readP t true s).2 = false := by
   unfold readP
   simp only [if_true]
   generalize splitB s = ws at h
   match ws, h with
   | [], _ => simp only [rNext]; rw [done_bad _ (flag_bad _ (num_bad _ (num_bad _ rfl)))]; simp
   | [k], _ => simp only [rNext]; rw [done_bad _ (flag_bad _ (num_bad _ (num_nil _)))]; simp
   | [k, a], _ =>
    simp only [rNext, num_cons]
    cases numO a with
    | none => rw [done_bad _ (flag_bad _ (num_bad _ rfl))]; simp
    | some x => rw [done_bad _ (flag_bad _ (num_nil _))]; simp
   | [k, a, b], _ =>
    simp only [rNext, num_cons]
    cases numO a with
    | none => rw [done_bad _ (flag_bad _ (num_bad _ rfl))]; simp
    | some x =>
     simp only [num_cons]
     cases numO b with
     | none => rw [done_bad _ (flag_bad _ rfl)]; simp
     | some y => rw [done_bad _ (flag_nil _)]; simp
   | k :: a :: b :: f :: r, h =>
    simp only [rNext, num_cons]
    cases ha : numO a with
    | none => rw [done_bad _ (flag_bad _ (num_bad _ rfl))]; simp
    | some x =>
     simp only [num_cons]
     cases hb : numO b with
     | none => rw [done_bad _ (flag_bad _ rfl)]; simp
     | some y =>
      simp only [flag_cons]
      cases hf : flagO f with
      | none => rw [done_bad _ rfl]; simp
      | some z =>
       cases r with
       | cons x r => simp [rDone]
       | nil =>
        simp only [toldO, ha, hb, hf] at h
        by_cases hk : k = kTold
        ·rw [if_pos hk] at h; cases h
        ·simp [hk]
  exact Prod.ext rfl key
 | some p =>
  obtain ⟨a, b, f⟩ := p
  unfold toldO at h
  split at h
  ·rename_i k x y z hs
   split at h
   ·rename_i hk
    split at h
    ·rename_i h1 h2 h3
     simp only [Option.some.injEq, Prod.mk.injEq] at h
     obtain ⟨rfl, rfl, rfl⟩ := h
     unfold readP
     rw [hs]
     simp only [if_true, rNext, num_cons, h1, h2, flag_cons, h3, hk]
     simp [rDone]
    ·cases h
   ·cases h
  ·cases h
theorem callR (R : Rs) : (rCall R).2 = (rText (rText (rFlag (rNum (rNum (rNum (rNum R).2).2).2).2).2).2).2 := rfl
theorem call_iff (r : List Bs) : match callO (kCall :: r) with
  | some d => rCall (r, false) = (d, ([], false))
  | none => rDone (rCall (r, false)).2 = false := by
 have b7 : ∀ R : Rs, R.2 = true → rDone R = false := done_bad
 have b6 : ∀ R : Rs, R.2 = true → rDone (rText R).2 = false := fun R h => b7 _ (text_bad _ h)
 have b5 : ∀ R : Rs, R.2 = true → rDone (rText (rText R).2).2 = false := fun R h => b6 _ (text_bad _ h)
 have b4 : ∀ R : Rs, R.2 = true → rDone (rText (rText (rFlag R).2).2).2 = false := fun R h => b5 _ (flag_bad _ h)
 have b3 : ∀ R : Rs, R.2 = true → rDone (rText (rText (rFlag (rNum R).2).2).2).2 = false := fun R h => b4 _ (num_bad _ h)
 have b2 : ∀ R : Rs, R.2 = true → rDone (rText (rText (rFlag (rNum (rNum R).2).2).2).2).2 = false := fun R h => b3 _ (num_bad _ h)
 have b1 : ∀ R : Rs, R.2 = true → rDone (rText (rText (rFlag (rNum (rNum (rNum R).2).2).2).2).2).2 = false := fun R h => b2 _ (num_bad _ h)
 match r with
 | [] => simp only [callO, callR]; exact b1 _ (num_nil _)
 | a :: r =>
  cases ha : numO a with
  | none =>
   have hc : callO (kCall :: a :: r) = none := by
    unfold callO
    split
    ·rename_i h; simp only [List.cons.injEq] at h; obtain ⟨_, rfl, _⟩ := h; rw [ha]; simp
    ·rfl
   rw [hc, callR, num_cons, ha]; exact b1 _ rfl
  | some xa =>
   match r with
   | [] => simp only [callO, callR, num_cons, ha]; exact b2 _ (num_nil _)
   | b :: r =>
    cases hb : numO b with
    | none =>
     have hc : callO (kCall :: a :: b :: r) = none := by
      unfold callO
      split
      ·rename_i h; simp only [List.cons.injEq] at h; obtain ⟨_, rfl, rfl, _⟩ := h; rw [ha, hb]; simp
      ·rfl
     rw [hc, callR]; simp only [num_cons, ha, hb]; exact b2 _ rfl
    | some xb =>
     match r with
     | [] => simp only [callO, callR, num_cons, ha, hb]; exact b3 _ (num_nil _)
     | c :: r =>
      cases hcc : numO c with
      | none =>
       have hc : callO (kCall :: a :: b :: c :: r) = none := by
        unfold callO
        split
        ·rename_i h; simp only [List.cons.injEq] at h; obtain ⟨_, rfl, rfl, rfl, _⟩ := h; rw [ha, hb, hcc]; simp
        ·rfl
       rw [hc, callR]; simp only [num_cons, ha, hb, hcc]; exact b3 _ rfl
      | some xc =>
       match r with
       | [] => simp only [callO, callR, num_cons, ha, hb, hcc]; exact b4 _ (num_nil _)
       | d :: r =>
        cases hdd : numO d with
        | none =>
         have hc : callO (kCall :: a :: b :: c :: d :: r) = none := by
          unfold callO
          split
          ·rename_i h; simp only [List.cons.injEq] at h; obtain ⟨_, rfl, rfl, rfl, rfl, _⟩ := h; rw [ha, hb, hcc, hdd]; simp
          ·rfl
         rw [hc, callR]; simp only [num_cons, ha, hb, hcc, hdd]; exact b4 _ rfl
        | some xd =>
         match r with
         | [] => simp only [callO, callR, num_cons, ha, hb, hcc, hdd]; exact b5 _ (flag_nil _)
         | f :: r =>
          cases hf : flagO f with
          | none =>
           have hc : callO (kCall :: a :: b :: c :: d :: f :: r) = none := by
            unfold callO
            split
            ·rename_i h; simp only [List.cons.injEq] at h; obtain ⟨_, rfl, rfl, rfl, rfl, rfl, _⟩ := h; rw [ha, hb, hcc, hdd, hf]; simp
            ·rfl
           rw [hc, callR]; simp only [num_cons, flag_cons, ha, hb, hcc, hdd, hf]; exact b5 _ rfl
          | some xf =>
           match r with
           | [] => simp only [callO, callR, num_cons, flag_cons, ha, hb, hcc, hdd, hf]; exact b6 _ (text_nil _)
           | x :: r =>
            cases hx : textB x with
            | none =>
             have hc : callO (kCall :: a :: b :: c :: d :: f :: x :: r) = none := by
              unfold callO
              split
              ·rename_i h; simp only [List.cons.injEq] at h; obtain ⟨_, rfl, rfl, rfl, rfl, rfl, rfl, _⟩ := h; rw [ha, hb, hcc, hdd, hf, hx]; simp
              ·rfl
             rw [hc, callR]; simp only [num_cons, flag_cons, text_cons, ha, hb, hcc, hdd, hf, hx]; exact b6 _ rfl
            | some xx =>
             match r with
             | [] => simp only [callO, callR, num_cons, flag_cons, text_cons, ha, hb, hcc, hdd, hf, hx]; exact b7 _ (text_nil _)
             | y :: r =>
              cases hy : textB y with
              | none =>
               have hc : callO (kCall :: a :: b :: c :: d :: f :: x :: y :: r) = none := by
                unfold callO
                split
                ·rename_i h; simp only [List.cons.injEq] at h; obtain ⟨_, rfl, rfl, rfl, rfl, rfl, rfl, rfl, _⟩ := h; rw [ha, hb, hcc, hdd, hf, hx, hy]; simp
                ·rfl
               rw [hc, callR]; simp only [num_cons, flag_cons, text_cons, ha, hb, hcc, hdd, hf, hx, hy]; exact b7 _ rfl
              | some xy =>
               cases r with
               | nil =>
                simp only [callO, if_true, ha, hb, hcc, hdd, hf, hx, hy]
                simp only [rCall, num_cons, flag_cons, text_cons, ha, hb, hcc, hdd, hf, hx, hy]
               | cons z r =>
                simp only [callO, callR, num_cons, flag_cons, text_cons, ha, hb, hcc, hdd, hf, hx, hy]
                simp [rDone]
theorem said_iff (r : List Bs) : match saidO (kSaid :: r) with
  | some x => rText (r, false) = (x, ([], false))
  | none => rDone (rText (r, false)).2 = false := by
 match r with
 | [] => simp only [saidO]; exact done_bad _ (text_nil _)
 | x :: r =>
  rw [text_cons]
  cases hx : textB x with
  | none =>
   have hc : saidO (kSaid :: x :: r) = none := by
    unfold saidO
    split
    ·rename_i h; simp only [List.cons.injEq] at h; obtain ⟨_, rfl, _⟩ := h; rw [hx]; simp
    ·rfl
   rw [hc]; exact done_bad _ rfl
  | some xx =>
   cases r with
   | nil => simp only [saidO, if_true, hx]
   | cons z r => simp only [saidO]; simp [rDone]
theorem callO_kind {ws : List Bs} {d : Dn} (h : callO ws = some d) : ∃ r, ws = kCall :: r := by
 unfold callO at h
 split at h
 ·split at h
  ·rename_i hk; exact ⟨_, by rw [hk]⟩
  ·cases h
 ·cases h
theorem saidO_kind {ws : List Bs} {d : Bs} (h : saidO ws = some d) : ∃ r, ws = kSaid :: r := by
 unfold saidO at h
 split at h
 ·split at h
  ·rename_i hk; exact ⟨_, by rw [hk]⟩
  ·cases h
 ·cases h
theorem rest_iff (t : Td) (s : Bs) : match readB t s with
  | some t' => readP t false s = (t', true)
  | none => (readP t false s).2 = false := by
 unfold readB
 have hne := splitB_ne s
 cases hs : splitB s with
 | nil => exact absurd hs hne
 | cons k r =>
  have hP : readP t false s = if k = kCall then ({ t with calls := t.calls ++ [(rCall (r, false)).1] }, decide (t.behind.length = 0) && rDone (rCall (r, false)).2)
    else if k = kSaid then ({ t with behind := t.behind ++ [(rText (r, false)).1] }, rDone (rText (r, false)).2) else (t, false) := by
   unfold readP
   rw [hs]
   simp only [rNext]
   rfl
  rw [hP]
  by_cases hk : k = kCall
  ·subst hk
   rw [if_pos rfl]
   have hc := call_iff r
   cases hco : callO (kCall :: r) with
   | none =>
    rw [hco] at hc
    simp only at hc ⊢
    have : saidO (kCall :: r) = none := by
     cases hso : saidO (kCall :: r) with
     | none => rfl
     | some x => obtain ⟨r', e⟩ := saidO_kind hso; simp only [List.cons.injEq] at e; exact absurd e.1 (by decide)
    rw [this]
    simp [hc]
   | some d =>
    rw [hco] at hc
    simp only at hc ⊢
    rw [hc]
    by_cases hb : t.behind = []
    ·rw [if_pos hb]; simp [hb, rDone]
    ·rw [if_neg hb]
     have : t.behind.length ≠ 0 := fun e => hb (List.length_eq_zero_iff.1 e)
     simp [this]
  ·rw [if_neg hk]
   have hco : callO (k :: r) = none := by
    cases hco : callO (k :: r) with
    | none => rfl
    | some d => obtain ⟨r', e⟩ := callO_kind hco; simp only [List.cons.injEq] at e; exact absurd e.1 hk
   rw [hco]
   simp only
   by_cases hk2 : k = kSaid
   ·subst hk2
    rw [if_pos rfl]
    have hc := said_iff r
    cases hso : saidO (kSaid :: r) with
    | none => rw [hso] at hc; simp only at hc ⊢; exact hc
    | some x => rw [hso] at hc; simp only at hc ⊢; rw [hc]; simp [rDone]
   ·rw [if_neg hk2]
    have hso : saidO (k :: r) = none := by
     cases hso : saidO (k :: r) with
     | none => rfl
     | some d => obtain ⟨r', e⟩ := saidO_kind hso; simp only [List.cons.injEq] at e; exact absurd e.1 hk2
    rw [hso]
def goP : Bool → Td → List Bs → Option Td
 | _, t, [] => some t
 | first, t, s :: r => if (readP t first s).2 = true then goP false (readP t first s).1 r else none
theorem goP_rest : ∀ (l : List Bs) (t : Td), goP false t l = restB t l
 | [], t => rfl
 | s :: r, t => by
  simp only [goP, restB]
  have h := rest_iff t s
  cases hr : readB t s with
  | some t' => rw [hr] at h; simp only at h ⊢; rw [h]; simp only [if_true]; exact goP_rest r t'
  | none => rw [hr] at h; simp only at h ⊢; rw [if_neg (by rw [h]; simp)]
def zeroT : Td := ⟨[], 0, 0, false, []⟩
theorem parseP_eq (l : List Bs) : (match goP true zeroT l with
  | some t => if l.length = 0 ∨ checkB t ≠ 0 then none else some t
  | none => none) = parseB l := by
 cases l with
 | nil => exact if_pos (Or.inl rfl)
 | cons s r =>
  have ht := told_iff zeroT s
  cases h : toldO (splitB s) with
  | none =>
   rw [h] at ht
   have h2 : (readP zeroT true s).2 = false := by rw [ht]
   simp only [goP, parseB, h, h2]; simp
  | some p =>
   obtain ⟨a, b, f⟩ := p
   rw [h] at ht
   simp only at ht
   simp only [goP, parseB, h, ht, if_true, goP_rest]
   simp only [zeroT]
   cases restB ⟨[], a, b, f, []⟩ r with
   | none => rfl
   | some t => by_cases hc : checkB t = 0 <;> simp [hc]
end Go.Vd

namespace Go.Vd
open Go.RowKit
set_option linter.unusedSimpArgs false
set_option linter.unusedVariables false
set_option maxRecDepth 10000
def rdD (r : Rs) : List D := [.slice false [] (r.1.map .str), .bool r.2]
def okR (l : List Bs) : Prop := ∀ w ∈ l, w.length ≤ 1000000
instance (l : List Bs) : Decidable (okR l) := inferInstanceAs (Decidable (∀ w ∈ l, w.length ≤ 1000000))
def rdQ (F : Rs → D × Rs) : Summ where
 rd := fun ds _ => match ds with
  | [.ptr r 0] => [(r, 0), (r, 1)]
  | _ => []
 ex := fun ds m _ => match ds with
  | [.ptr r 0] => match m r 0, m r 1 with
   | some (.slice false [] xs), some (.bool b) => match strsOf xs with
    | some ws => if okR ws then some ((F (ws, b)).1, [(r, 0, rdD (F (ws, b)).2)]) else none
    | none => none
   | _, _ => none
  | _ => none
theorem rdQ_loc (F : Rs → D × Rs) (ds : List D) (m m' : Mem) (fr : Id) (h : ∀ l ∈ (rdQ F).rd ds m, m l.1 l.2 = m' l.1 l.2) : (rdQ F).ex ds m fr = (rdQ F).ex ds m' fr := by
 simp only [rdQ] at h ⊢
 split
 ·rename_i r
  rw [h (r, 0) (by simp), h (r, 1) (by simp)]
 ·rfl
theorem rdQ_inv {F : Rs → D × Rs} {ds : List D} {m : Mem} {fr : Id} {d : D} {u : Upd} (h : (rdQ F).ex ds m fr = some (d, u)) :
  ∃ r ws b, ds = [.ptr r 0] ∧ m r 0 = some (.slice false [] (ws.map .str)) ∧ m r 1 = some (.bool b) ∧ okR ws ∧ d = (F (ws, b)).1 ∧ u = [(r, 0, rdD (F (ws, b)).2)] := by
 simp only [rdQ] at h
 split at h
 ·rename_i r
  split at h
  ·rename_i h0 h1
   split at h
   ·rename_i hs
    obtain rfl := strsOf_some hs
    split at h
    ·rename_i hk
     simp only [Option.some.injEq, Prod.mk.injEq] at h
     exact ⟨_, _, _, rfl, h0, h1, hk, h.1.symm, h.2.symm⟩
    ·cases h
   ·cases h
  ·cases h
 ·cases h
theorem rdQ_ex {F : Rs → D × Rs} {m : Mem} {fr r : Id} {ws : List Bs} {b : Bool} (h0 : m r 0 = some (.slice false [] (ws.map .str))) (h1 : m r 1 = some (.bool b)) (hk : okR ws) : (rdQ F).ex [.ptr r 0] m fr = some ((F (ws, b)).1, [(r, 0, rdD (F (ws, b)).2)]) := by
 simp only [rdQ, h0, h1, strsOf_map]; exact if_pos hk
theorem got_rd {F : Rs → D × Rs} {m : Mem} {fr r : Id} {ws : List Bs} {b : Bool} {K : D × Upd → Prop} {g} (h0 : m r 0 = some (.slice false [] (ws.map .str))) (h1 : m r 1 = some (.bool b)) (hk : okR ws) (h : K ((F (ws, b)).1, [(r, 0, rdD (F (ws, b)).2)])) : Got ((rdQ F).ex ([.ptr r 0] ++ []) m fr) K g := by
 simp only [List.append_nil, rdQ_ex h0 h1 hk, Got_some]; exact h
theorem put2_rd {m : Mem} {r i : Id} {a b : D} {o : Nat} : m.put r 0 [a, b] i o = if i = r ∧ o = 0 then some a else if i = r ∧ o = 1 then some b else m i o := by
 rw [put_rd]
 by_cases hi : i = r
 ·match o with
  | 0 => simp [hi]
  | 1 => simp [hi]
  | o + 2 => rw [if_neg (by simp), if_neg (by simp), if_neg (by simp)]
 ·simp [hi]
theorem put1_rd {m : Mem} {r i : Id} {a : D} {k o : Nat} : m.put r k [a] i o = if i = r ∧ o = k then some a else m i o := by
 rw [put_rd]
 by_cases h : i = r ∧ o = k
 ·obtain ⟨rfl, rfl⟩ := h; simp
 ·rw [if_neg h, if_neg]
  rintro ⟨h1, h2, h3⟩
  simp at h3
  exact h ⟨h1, by omega⟩
theorem okR_tail {w : Bs} {ws : List Bs} (h : okR (w :: ws)) : okR ws := fun x hx => h x (List.mem_cons_of_mem _ hx)
theorem le_upd {m m' : Mem} {i : Id} {a b : D} (h0 : m' i 0 = some a) (h1 : m' i 1 = some b) (hr : ∀ j o, ¬ (j = i ∧ (o = 0 ∨ o = 1)) → m j o = none ∨ m' j o = m j o) : ∀ j o x, Upd.app m [(i, 0, [a, b])] j o = some x → m' j o = some x := by
 intro j o x hx
 simp only [Upd.app, put2_rd] at hx
 by_cases e0 : j = i ∧ o = 0
 ·rw [if_pos e0] at hx; rw [e0.1, e0.2, h0]; exact hx
 ·rw [if_neg e0] at hx
  by_cases e1 : j = i ∧ o = 1
  ·rw [if_pos e1] at hx; rw [e1.1, e1.2, h1]; exact hx
  ·rw [if_neg e1] at hx
   rcases hr j o (fun h => by rcases h.2 with h2 | h2; exact e0 ⟨h.1, h2⟩; exact e1 ⟨h.1, h2⟩) with h | h
   ·rw [h] at hx; cases hx
   ·rw [h]; exact hx
def rNextD (r : Rs) : D × Rs := (.str (rNext r).1, (rNext r).2)
theorem ok68 {P : Program} (hd : Desk P) : (rdQ rNextD).ok P 68 := by
 refine opn_ok (S := fun _ => none) none_ok hd.f68 (rdQ_loc _) (fun ds m fr r u h hfr => ?_)
 obtain ⟨i, ws, b, rfl, h0, h1, hk, rfl, rfl⟩ := rdQ_inv h
 refine ⟨by simp, ?_⟩
 unfold dc68
 cases ws with
 | nil =>
  have z0 : (((0 : Nat) : Int) = 0) = True := by simp
  simp only [↓go1, go2, go3, go4, reduceIte, Nat.reduceEqDiff, Nat.reduceAdd, Nat.zero_le, Nat.sub_zero, Nat.reduceSub, Nat.reduceLT, h0, h1, List.map_cons, List.map_nil, List.length_cons, List.length_nil, List.length_map, Nat.zero_add, rd_succ, rd_zero, Option.bind_some, Option.map_some, Option.isSome_some, z0]
  refine ⟨rfl, le_upd (a := .slice false [] []) (b := .bool true) (by simp [put1_rd, h0]) (by simp [put1_rd]) (fun j o hn => .inr (by rw [put1_rd, if_neg (fun h => hn ⟨h.1, .inr h.2⟩)]))⟩
 | cons w ws =>
  have z0 : (((ws.length + 1 : Nat) : Int) = 0) = False := eq_false (by omega)
  have z1 : ((0 : Int) ≤ 0) = True := by simp
  have z2 : ((0 : Int) ≤ 1) = True := by simp
  have z3 : ((1 : Int) ≤ ((ws.length + 1 : Nat) : Int)) = True := eq_true (by omega)
  have z4 : ((ws.map D.str).take ws.length) = ws.map D.str := List.take_of_length_le (by simp)
  have e0 : (0 : Int).toNat = 0 := rfl
  have e1 : (1 : Int).toNat = 1 := rfl
  simp only [↓go1, go2, go3, go4, reduceIte, Nat.reduceEqDiff, Nat.reduceAdd, Nat.zero_le, Nat.sub_zero, Nat.reduceSub, Nat.reduceLT, h0, h1, List.map_cons, List.map_nil, List.length_cons, List.length_nil, List.length_map, Nat.zero_add, rd_succ, rd_zero, Option.bind_some, Option.map_some, Option.isSome_some, z0, z1, z2, z3, z4, e0, e1, List.getElem?_cons_zero, List.drop_succ_cons, List.drop_zero, Nat.add_sub_cancel, and_self, D.headSz]
  refine ⟨rfl, le_upd (a := .slice false [] (ws.map .str)) (b := .bool b) (by simp [put1_rd]) (by simp [put1_rd, h1]) (fun j o hn => .inr (by rw [put1_rd, if_neg (fun h => hn ⟨h.1, .inl h.2⟩)]))⟩
theorem okR_next {ws : List Bs} {b : Bool} (h : okR ws) : okR (rNext (ws, b)).2.1 ∧ (rNext (ws, b)).1.length ≤ 1000000 := by
 cases ws with
 | nil => exact ⟨h, by simp [rNext]⟩
 | cons w r => exact ⟨okR_tail h, h w (List.mem_cons_self ..)⟩
theorem ite_upd {m : Mem} {i : Id} {a b b0 : D} : ∀ (j : Id) (o : Nat) (x : D), (if j = i ∧ o = 0 then some a else if j = i ∧ o = 1 then some b else m j o) = some x → (if j = i ∧ o = 1 then some b else if j = i ∧ o = 0 then some a else if j = i ∧ o = 1 then some b0 else m j o) = some x := by
 intro j o x hx
 by_cases e0 : j = i ∧ o = 0
 ·rw [if_pos e0] at hx
  rw [if_neg (fun e => by have := e.2; have := e0.2; omega), if_pos e0]; exact hx
 ·rw [if_neg e0] at hx
  by_cases e1 : j = i ∧ o = 1
  ·rw [if_pos e1] at hx ⊢; exact hx
  ·rw [if_neg e1] at hx
   rw [if_neg e1, if_neg e0, if_neg e1]; exact hx
def rNumD (r : Rs) : D × Rs := (.int .i64 (rNum r).1, (rNum r).2)
theorem ok69 {P : Program} (hd : Desk P) (h25 : (funS F25).ok P 25) : (rdQ rNumD).ok P 69 := by
 have hS : Summs.ok P (tabL [(68, rdQ rNextD), (25, funS F25)]) := tabL_cons (ok68 hd) (tabL_cons h25 tabL_nil)
 have s68 : tabL [(68, rdQ rNextD), (25, funS F25)] 68 = some (rdQ rNextD) := rfl
 have s25 : tabL [(68, rdQ rNextD), (25, funS F25)] 25 = some (funS F25) := rfl
 generalize tabL [(68, rdQ rNextD), (25, funS F25)] = S at hS s68 s25
 refine opn_ok (S := S) hS hd.f69 (rdQ_loc _) (fun ds m fr r u h hfr => ?_)
 obtain ⟨i, ws, b, rfl, h0, h1, hk, rfl, rfl⟩ := rdQ_inv h
 refine ⟨by simp, ?_⟩
 clear h
 unfold dc69
 simp only [↓go1, go2, go3, go4, reduceIte, Nat.reduceEqDiff, Nat.reduceAdd, Nat.zero_le, Nat.sub_zero, Nat.reduceSub, Nat.reduceLT, h0, h1, List.length_cons, List.length_nil, Nat.zero_add, rd_succ, rd_zero, Option.bind_some, Option.map_some, Option.isSome_some, true_and, and_true, and_false, and_self, put2_rd, put1_rd, Nat.one_ne_zero, Nat.zero_ne_one, callK_fn s68]
 refine got_rd h0 h1 hk ?_
 obtain ⟨hk', hw'⟩ := okR_next (b := b) hk
 simp only [rNumD, rNum, rNextD]
 generalize rNext (ws, b) = n at hk' hw' ⊢
 obtain ⟨w, ws', b'⟩ := n
 have f25 : F25 [.str w] = some (.tup [.int .i64 (numB w).1, .bool (numB w).2]) := rfl
 generalize numB w = q at f25 ⊢
 obtain ⟨x, y⟩ := q
 cases b' <;> cases y
 all_goals
  simp only [↓go1, go2, go3, go4, reduceIte, Nat.reduceEqDiff, Nat.reduceAdd, Nat.zero_le, Nat.sub_zero, Nat.reduceSub, Nat.reduceLT, h0, h1, List.length_cons, List.length_nil, Nat.zero_add, rd_succ, rd_zero, Option.bind_some, Option.map_some, Option.isSome_some, true_and, and_true, and_false, and_self, put2_rd, put1_rd, Nat.one_ne_zero, Nat.zero_ne_one, callK_fn s68, callK_fun s25, f25, Bool.or_true, Bool.or_false, Bool.true_or, Bool.false_or, rdD]
 all_goals exact ite_upd
def rFlagD (r : Rs) : D × Rs := (.bool (rFlag r).1, (rFlag r).2)
theorem ok70 {P : Program} (hd : Desk P) : (rdQ rFlagD).ok P 70 := by
 have hS : Summs.ok P (tabL [(68, rdQ rNextD)]) := tabL_cons (ok68 hd) tabL_nil
 have s68 : tabL [(68, rdQ rNextD)] 68 = some (rdQ rNextD) := rfl
 generalize tabL [(68, rdQ rNextD)] = S at hS s68
 refine opn_ok (S := S) hS hd.f70 (rdQ_loc _) (fun ds m fr r u h hfr => ?_)
 obtain ⟨i, ws, b, rfl, h0, h1, hk, rfl, rfl⟩ := rdQ_inv h
 refine ⟨by simp, ?_⟩
 clear h
 unfold dc70
 simp only [↓go1, go2, go3, go4, reduceIte, Nat.reduceEqDiff, Nat.reduceAdd, Nat.zero_le, Nat.sub_zero, Nat.reduceSub, Nat.reduceLT, h0, h1, List.length_cons, List.length_nil, List.length_map, Nat.zero_add, rd_succ, rd_zero, Option.bind_some, Option.map_some, Option.isSome_some, true_and, and_true, and_false, and_self, put2_rd, put1_rd, Nat.one_ne_zero, Nat.zero_ne_one, Bool.or_true, Bool.or_false, Bool.true_or, Bool.false_or, Bool.true_and, Bool.false_and, Bool.not_true, Bool.not_false, decide_true, decide_false, callK_fn s68]
 refine got_rd h0 h1 hk ?_
 simp only [rFlagD, rFlag, rNextD]
 generalize rNext (ws, b) = n
 obtain ⟨w, ws', b'⟩ := n
 by_cases w1 : w = [49]
 ·subst w1
  have w0 : (([49] : Bs) = [48]) = False := by simp
  have w2 : (([49] : Bs) = [49]) = True := by simp
  have w3 : (([49] : Bs) ≠ [48]) = True := by simp
  have w4 : (([49] : Bs) ≠ [49]) = False := by simp
  cases b'
  all_goals
  simp only [↓go1, go2, go3, go4, reduceIte, Nat.reduceEqDiff, Nat.reduceAdd, Nat.zero_le, Nat.sub_zero, Nat.reduceSub, Nat.reduceLT, h0, h1, List.length_cons, List.length_nil, List.length_map, Nat.zero_add, rd_succ, rd_zero, Option.bind_some, Option.map_some, Option.isSome_some, true_and, and_true, and_false, and_self, put2_rd, put1_rd, Nat.one_ne_zero, Nat.zero_ne_one, Bool.or_true, Bool.or_false, Bool.true_or, Bool.false_or, Bool.true_and, Bool.false_and, Bool.not_true, Bool.not_false, decide_true, decide_false, callK_fn s68, rdD, w0, w2, w3, w4]
  all_goals exact ite_upd
 ·have w2 : (w = [49]) = False := eq_false w1
  have w4 : (w ≠ [49]) = True := eq_true w1
  by_cases w00 : w = [48]
  ·have w0 : (w = [48]) = True := eq_true w00
   have w3 : (w ≠ [48]) = False := by simp [w00]
   cases b'
   all_goals
   simp only [↓go1, go2, go3, go4, reduceIte, Nat.reduceEqDiff, Nat.reduceAdd, Nat.zero_le, Nat.sub_zero, Nat.reduceSub, Nat.reduceLT, h0, h1, List.length_cons, List.length_nil, List.length_map, Nat.zero_add, rd_succ, rd_zero, Option.bind_some, Option.map_some, Option.isSome_some, true_and, and_true, and_false, and_self, put2_rd, put1_rd, Nat.one_ne_zero, Nat.zero_ne_one, Bool.or_true, Bool.or_false, Bool.true_or, Bool.false_or, Bool.true_and, Bool.false_and, Bool.not_true, Bool.not_false, decide_true, decide_false, callK_fn s68, rdD, w0, w2, w3, w4]
   all_goals exact ite_upd
  ·have w0 : (w = [48]) = False := eq_false w00
   have w3 : (w ≠ [48]) = True := eq_true w00
   cases b'
   all_goals
   simp only [↓go1, go2, go3, go4, reduceIte, Nat.reduceEqDiff, Nat.reduceAdd, Nat.zero_le, Nat.sub_zero, Nat.reduceSub, Nat.reduceLT, h0, h1, List.length_cons, List.length_nil, List.length_map, Nat.zero_add, rd_succ, rd_zero, Option.bind_some, Option.map_some, Option.isSome_some, true_and, and_true, and_false, and_self, put2_rd, put1_rd, Nat.one_ne_zero, Nat.zero_ne_one, Bool.or_true, Bool.or_false, Bool.true_or, Bool.false_or, Bool.true_and, Bool.false_and, Bool.not_true, Bool.not_false, decide_true, decide_false, callK_fn s68, rdD, w0, w2, w3, w4]
   all_goals exact ite_upd
def rDoneD (r : Rs) : D × Rs := (.bool (rDone r), r)
theorem ok71 {P : Program} (hd : Desk P) : (rdQ rDoneD).ok P 71 := by
 refine opn_ok (S := fun _ => none) none_ok hd.f71 (rdQ_loc _) (fun ds m fr r u h hfr => ?_)
 obtain ⟨i, ws, b, rfl, h0, h1, hk, rfl, rfl⟩ := rdQ_inv h
 refine ⟨by simp, ?_⟩
 clear h
 unfold dc71
 have key : ∀ (j : Id) (o : Nat) (x : D), Upd.app m [(i, 0, rdD (rDoneD (ws, b)).2)] j o = some x → m j o = some x := by
  intro j o x hx
  simp only [Upd.app, rDoneD, rdD, put2_rd] at hx
  by_cases e0 : j = i ∧ o = 0
  ·rw [if_pos e0] at hx; rw [e0.1, e0.2, h0]; exact hx
  ·rw [if_neg e0] at hx
   by_cases e1 : j = i ∧ o = 1
   ·rw [if_pos e1] at hx; rw [e1.1, e1.2, h1]; exact hx
   ·rw [if_neg e1] at hx; exact hx
 by_cases hl : ws.length = 0
 ·have hl' : (((ws.length : Nat) : Int) = 0) = True := eq_true (by omega)
  have hl2 : (ws.length = 0) = True := eq_true hl
  cases b
  all_goals
  simp only [↓go1, go2, go3, go4, reduceIte, Nat.reduceEqDiff, Nat.reduceAdd, Nat.zero_le, Nat.sub_zero, Nat.reduceSub, Nat.reduceLT, h0, h1, List.length_cons, List.length_nil, List.length_map, Nat.zero_add, rd_succ, rd_zero, Option.bind_some, Option.map_some, Option.isSome_some, true_and, and_true, and_false, and_self, put2_rd, put1_rd, Nat.one_ne_zero, Nat.zero_ne_one, Bool.or_true, Bool.or_false, Bool.true_or, Bool.false_or, Bool.true_and, Bool.false_and, Bool.not_true, Bool.not_false, decide_true, decide_false, hl', hl2]
  all_goals exact ⟨by simp [rDoneD, rDone, hl], key⟩
 ·have hl' : (((ws.length : Nat) : Int) = 0) = False := eq_false (by omega)
  have hl2 : (ws.length = 0) = False := eq_false hl
  cases b
  all_goals
  simp only [↓go1, go2, go3, go4, reduceIte, Nat.reduceEqDiff, Nat.reduceAdd, Nat.zero_le, Nat.sub_zero, Nat.reduceSub, Nat.reduceLT, h0, h1, List.length_cons, List.length_nil, List.length_map, Nat.zero_add, rd_succ, rd_zero, Option.bind_some, Option.map_some, Option.isSome_some, true_and, and_true, and_false, and_self, put2_rd, put1_rd, Nat.one_ne_zero, Nat.zero_ne_one, Bool.or_true, Bool.or_false, Bool.true_or, Bool.false_or, Bool.true_and, Bool.false_and, Bool.not_true, Bool.not_false, decide_true, decide_false, hl', hl2]
  all_goals exact ⟨by simp [rDoneD, rDone, hl], key⟩
def rTextD (r : Rs) : D × Rs := (.str (rText r).1, (rText r).2)
theorem ok73 {P : Program} (hd : Desk P) : (rdQ rTextD).ok P 73 := by
 have hS : Summs.ok P (tabL [(68, rdQ rNextD), (95, funS F95)]) := tabL_cons (ok68 hd) (tabL_cons (ok95 hd) tabL_nil)
 have s68 : tabL [(68, rdQ rNextD), (95, funS F95)] 68 = some (rdQ rNextD) := rfl
 have s95 : tabL [(68, rdQ rNextD), (95, funS F95)] 95 = some (funS F95) := rfl
 generalize tabL [(68, rdQ rNextD), (95, funS F95)] = S at hS s68 s95
 refine opn_ok (S := S) hS hd.f73 (rdQ_loc _) (fun ds m fr r u h hfr => ?_)
 obtain ⟨i, ws, b, rfl, h0, h1, hk, rfl, rfl⟩ := rdQ_inv h
 refine ⟨by simp, ?_⟩
 clear h
 unfold dc73
 simp only [↓go1, go2, go3, go4, reduceIte, Nat.reduceEqDiff, Nat.reduceAdd, Nat.zero_le, Nat.sub_zero, Nat.reduceSub, Nat.reduceLT, h0, h1, List.length_cons, List.length_nil, List.length_map, Nat.zero_add, rd_succ, rd_zero, Option.bind_some, Option.map_some, Option.isSome_some, true_and, and_true, and_false, and_self, put2_rd, put1_rd, Nat.one_ne_zero, Nat.zero_ne_one, Bool.or_true, Bool.or_false, Bool.true_or, Bool.false_or, Bool.true_and, Bool.false_and, Bool.not_true, Bool.not_false, decide_true, decide_false, callK_fn s68]
 refine got_rd h0 h1 hk ?_
 obtain ⟨hk', hw'⟩ := okR_next (b := b) hk
 simp only [rTextD, rText, rNextD]
 generalize rNext (ws, b) = n at hk' hw' ⊢
 obtain ⟨w, ws', b'⟩ := n
 simp only at hk' hw'
 by_cases w1 : w = [45]
 ·have w2 : (w = [45]) = True := eq_true w1
  simp only [↓go1, go2, go3, go4, reduceIte, Nat.reduceEqDiff, Nat.reduceAdd, Nat.zero_le, Nat.sub_zero, Nat.reduceSub, Nat.reduceLT, h0, h1, List.length_cons, List.length_nil, List.length_map, Nat.zero_add, rd_succ, rd_zero, Option.bind_some, Option.map_some, Option.isSome_some, true_and, and_true, and_false, and_self, put2_rd, put1_rd, Nat.one_ne_zero, Nat.zero_ne_one, Bool.or_true, Bool.or_false, Bool.true_or, Bool.false_or, Bool.true_and, Bool.false_and, Bool.not_true, Bool.not_false, decide_true, decide_false, callK_fn s68, rdD, w2]
  try (intro j o x hx; exact hx)
 ·have w2 : (w = [45]) = False := eq_false w1
  have f95 : F95 [.str w] = some (.tup [.str (unhexP w).1, .bool (unhexP w).2]) := by
   refine (if_pos hw').trans ?_
   unfold unhexP
   cases unhexB w <;> rfl
  generalize unhexP w = q at f95 ⊢
  obtain ⟨x, y⟩ := q
  by_cases hx0 : x = []
  ·have hx1 : (x = []) = True := eq_true hx0
   cases b' <;> cases y
   all_goals
   simp only [↓go1, go2, go3, go4, reduceIte, Nat.reduceEqDiff, Nat.reduceAdd, Nat.zero_le, Nat.sub_zero, Nat.reduceSub, Nat.reduceLT, h0, h1, List.length_cons, List.length_nil, List.length_map, Nat.zero_add, rd_succ, rd_zero, Option.bind_some, Option.map_some, Option.isSome_some, true_and, and_true, and_false, and_self, put2_rd, put1_rd, Nat.one_ne_zero, Nat.zero_ne_one, Bool.or_true, Bool.or_false, Bool.true_or, Bool.false_or, Bool.true_and, Bool.false_and, Bool.not_true, Bool.not_false, decide_true, decide_false, callK_fn s68, rdD, w2, callK_fun s95, f95, hx1]
   all_goals exact ite_upd
  ·have hx1 : (x = []) = False := eq_false hx0
   cases b' <;> cases y
   all_goals
   simp only [↓go1, go2, go3, go4, reduceIte, Nat.reduceEqDiff, Nat.reduceAdd, Nat.zero_le, Nat.sub_zero, Nat.reduceSub, Nat.reduceLT, h0, h1, List.length_cons, List.length_nil, List.length_map, Nat.zero_add, rd_succ, rd_zero, Option.bind_some, Option.map_some, Option.isSome_some, true_and, and_true, and_false, and_self, put2_rd, put1_rd, Nat.one_ne_zero, Nat.zero_ne_one, Bool.or_true, Bool.or_false, Bool.true_or, Bool.false_or, Bool.true_and, Bool.false_and, Bool.not_true, Bool.not_false, decide_true, decide_false, callK_fn s68, rdD, w2, callK_fun s95, f95, hx1]
   all_goals exact ite_upd
end Go.Vd

namespace Go.Vd
open Go.RowKit
set_option linter.unusedSimpArgs false
set_option linter.unusedVariables false
set_option maxRecDepth 10000
theorem okR_num {r : Rs} (h : okR r.1) : okR (rNum r).2.1 := (okR_next (b := r.2) h).1
theorem okR_flag {r : Rs} (h : okR r.1) : okR (rFlag r).2.1 := (okR_next (b := r.2) h).1
theorem okR_text {r : Rs} (h : okR r.1) : okR (rText r).2.1 := by
 have := (okR_next (b := r.2) h).1
 unfold rText; split
 ·exact this
 ·exact this
def rCallD (r : Rs) : D × Rs := (dnD (rCall r).1, (rCall r).2)
set_option maxHeartbeats 4000000 in
theorem ok72 {P : Program} (hd : Desk P) (h25 : (funS F25).ok P 25) : (rdQ rCallD).ok P 72 := by
 have hS : Summs.ok P (tabL [(69, rdQ rNumD), (70, rdQ rFlagD), (73, rdQ rTextD)]) := tabL_cons (ok69 hd h25) (tabL_cons (ok70 hd) (tabL_cons (ok73 hd) tabL_nil))
 have s69 : tabL [(69, rdQ rNumD), (70, rdQ rFlagD), (73, rdQ rTextD)] 69 = some (rdQ rNumD) := rfl
 have s70 : tabL [(69, rdQ rNumD), (70, rdQ rFlagD), (73, rdQ rTextD)] 70 = some (rdQ rFlagD) := rfl
 have s73 : tabL [(69, rdQ rNumD), (70, rdQ rFlagD), (73, rdQ rTextD)] 73 = some (rdQ rTextD) := rfl
 generalize tabL [(69, rdQ rNumD), (70, rdQ rFlagD), (73, rdQ rTextD)] = S at hS s69 s70 s73
 refine opn_ok (S := S) hS hd.f72 (rdQ_loc _) (fun ds m fr r u h hfr => ?_)
 obtain ⟨i, ws, b, rfl, h0, h1, hk, rfl, rfl⟩ := rdQ_inv h
 refine ⟨by simp, ?_⟩
 clear h
 have n0 : ∀ o, m (0 :: fr) o = none := fun o => hfr 0 _ o (List.suffix_refl _)
 have n10 : ∀ o, m (10 :: fr) o = none := fun o => hfr 10 _ o (List.suffix_refl _)
 have hi1 : (i = 0 :: fr) = False := eq_false (fun e => by rw [e, n0] at h0; cases h0)
 have hi2 : (0 :: fr = i) = False := eq_false (fun e => by rw [← e, n0] at h0; cases h0)
 have hi3 : (i = 10 :: fr) = False := eq_false (fun e => by rw [e, n10] at h0; cases h0)
 have hi4 : (10 :: fr = i) = False := eq_false (fun e => by rw [← e, n10] at h0; cases h0)
 have hfill : ∀ a b c d : Int, fillD [.int .i64 0, .str [], .str [], .int .i64 0, .int .i64 0, .int .i64 0, .bool false] [(0, 1, .int .i64 a), (3, 1, .int .i64 b), (4, 1, .int .i64 c), (5, 1, .int .i64 d)] = some [.int .i64 a, .str [], .str [], .int .i64 b, .int .i64 c, .int .i64 d, .bool false] := by
  intro a b c d; simp [fillD, putAt, D.data, D.cells]
 unfold dc72
 simp only [rCallD, rCall]
 simp only [↓go1, go2, go3, go4, reduceIte, Nat.reduceEqDiff, Nat.reduceAdd, Nat.zero_le, Nat.sub_zero, Nat.reduceSub, Nat.reduceLT, Nat.reduceLeDiff, h0, h1, List.length_cons, List.length_nil, List.length_map, Nat.zero_add, rd_succ, rd_zero, Option.bind_some, Option.map_some, Option.isSome_some, true_and, and_true, and_false, false_and, and_self, put2_rd, put1_rd, put_rd, Nat.one_ne_zero, Nat.zero_ne_one, List.cons.injEq, List.getElem?_cons_zero, List.getElem?_cons_succ, callK_fn s69, callK_fn s70, callK_fn s73, hi1, hi2, hi3, hi4, hfill, res_cell, ldD_agg]
 refine got_rd (ws := ws) (b := b) (by simp only [↓go1, go2, go3, go4, reduceIte, Nat.reduceEqDiff, Nat.reduceAdd, Nat.zero_le, Nat.sub_zero, Nat.reduceSub, Nat.reduceLT, Nat.reduceLeDiff, h0, h1, List.length_cons, List.length_nil, List.length_map, Nat.zero_add, rd_succ, rd_zero, Option.bind_some, Option.map_some, Option.isSome_some, true_and, and_true, and_false, false_and, and_self, put2_rd, put1_rd, put_rd, Nat.one_ne_zero, Nat.zero_ne_one, List.cons.injEq, List.getElem?_cons_zero, List.getElem?_cons_succ, callK_fn s69, callK_fn s70, callK_fn s73, hi1, hi2, hi3, hi4, hfill, res_cell, ldD_agg]) (by simp only [↓go1, go2, go3, go4, reduceIte, Nat.reduceEqDiff, Nat.reduceAdd, Nat.zero_le, Nat.sub_zero, Nat.reduceSub, Nat.reduceLT, Nat.reduceLeDiff, h0, h1, List.length_cons, List.length_nil, List.length_map, Nat.zero_add, rd_succ, rd_zero, Option.bind_some, Option.map_some, Option.isSome_some, true_and, and_true, and_false, false_and, and_self, put2_rd, put1_rd, put_rd, Nat.one_ne_zero, Nat.zero_ne_one, List.cons.injEq, List.getElem?_cons_zero, List.getElem?_cons_succ, callK_fn s69, callK_fn s70, callK_fn s73, hi1, hi2, hi3, hi4, hfill, res_cell, ldD_agg]) hk ?_
 have k1 := okR_num (r := (ws, b)) hk
 simp only [rNumD]
 generalize rNum (ws, b) = a1 at k1 ⊢
 obtain ⟨a1, ws1, b1⟩ := a1
 simp only [rdD]
 simp only [↓go1, go2, go3, go4, reduceIte, Nat.reduceEqDiff, Nat.reduceAdd, Nat.zero_le, Nat.sub_zero, Nat.reduceSub, Nat.reduceLT, Nat.reduceLeDiff, h0, h1, List.length_cons, List.length_nil, List.length_map, Nat.zero_add, rd_succ, rd_zero, Option.bind_some, Option.map_some, Option.isSome_some, true_and, and_true, and_false, false_and, and_self, put2_rd, put1_rd, put_rd, Nat.one_ne_zero, Nat.zero_ne_one, List.cons.injEq, List.getElem?_cons_zero, List.getElem?_cons_succ, callK_fn s69, callK_fn s70, callK_fn s73, hi1, hi2, hi3, hi4, hfill, res_cell, ldD_agg]
 refine got_rd (ws := ws1) (b := b1) (by simp only [↓go1, go2, go3, go4, reduceIte, Nat.reduceEqDiff, Nat.reduceAdd, Nat.zero_le, Nat.sub_zero, Nat.reduceSub, Nat.reduceLT, Nat.reduceLeDiff, h0, h1, List.length_cons, List.length_nil, List.length_map, Nat.zero_add, rd_succ, rd_zero, Option.bind_some, Option.map_some, Option.isSome_some, true_and, and_true, and_false, false_and, and_self, put2_rd, put1_rd, put_rd, Nat.one_ne_zero, Nat.zero_ne_one, List.cons.injEq, List.getElem?_cons_zero, List.getElem?_cons_succ, callK_fn s69, callK_fn s70, callK_fn s73, hi1, hi2, hi3, hi4, hfill, res_cell, ldD_agg]) (by simp only [↓go1, go2, go3, go4, reduceIte, Nat.reduceEqDiff, Nat.reduceAdd, Nat.zero_le, Nat.sub_zero, Nat.reduceSub, Nat.reduceLT, Nat.reduceLeDiff, h0, h1, List.length_cons, List.length_nil, List.length_map, Nat.zero_add, rd_succ, rd_zero, Option.bind_some, Option.map_some, Option.isSome_some, true_and, and_true, and_false, false_and, and_self, put2_rd, put1_rd, put_rd, Nat.one_ne_zero, Nat.zero_ne_one, List.cons.injEq, List.getElem?_cons_zero, List.getElem?_cons_succ, callK_fn s69, callK_fn s70, callK_fn s73, hi1, hi2, hi3, hi4, hfill, res_cell, ldD_agg]) k1 ?_
 have k2 := okR_num (r := (ws1, b1)) k1
 simp only [rNumD]
 generalize rNum (ws1, b1) = a2 at k2 ⊢
 obtain ⟨a2, ws2, b2⟩ := a2
 simp only [rdD]
 simp only [↓go1, go2, go3, go4, reduceIte, Nat.reduceEqDiff, Nat.reduceAdd, Nat.zero_le, Nat.sub_zero, Nat.reduceSub, Nat.reduceLT, Nat.reduceLeDiff, h0, h1, List.length_cons, List.length_nil, List.length_map, Nat.zero_add, rd_succ, rd_zero, Option.bind_some, Option.map_some, Option.isSome_some, true_and, and_true, and_false, false_and, and_self, put2_rd, put1_rd, put_rd, Nat.one_ne_zero, Nat.zero_ne_one, List.cons.injEq, List.getElem?_cons_zero, List.getElem?_cons_succ, callK_fn s69, callK_fn s70, callK_fn s73, hi1, hi2, hi3, hi4, hfill, res_cell, ldD_agg]
 refine got_rd (ws := ws2) (b := b2) (by simp only [↓go1, go2, go3, go4, reduceIte, Nat.reduceEqDiff, Nat.reduceAdd, Nat.zero_le, Nat.sub_zero, Nat.reduceSub, Nat.reduceLT, Nat.reduceLeDiff, h0, h1, List.length_cons, List.length_nil, List.length_map, Nat.zero_add, rd_succ, rd_zero, Option.bind_some, Option.map_some, Option.isSome_some, true_and, and_true, and_false, false_and, and_self, put2_rd, put1_rd, put_rd, Nat.one_ne_zero, Nat.zero_ne_one, List.cons.injEq, List.getElem?_cons_zero, List.getElem?_cons_succ, callK_fn s69, callK_fn s70, callK_fn s73, hi1, hi2, hi3, hi4, hfill, res_cell, ldD_agg]) (by simp only [↓go1, go2, go3, go4, reduceIte, Nat.reduceEqDiff, Nat.reduceAdd, Nat.zero_le, Nat.sub_zero, Nat.reduceSub, Nat.reduceLT, Nat.reduceLeDiff, h0, h1, List.length_cons, List.length_nil, List.length_map, Nat.zero_add, rd_succ, rd_zero, Option.bind_some, Option.map_some, Option.isSome_some, true_and, and_true, and_false, false_and, and_self, put2_rd, put1_rd, put_rd, Nat.one_ne_zero, Nat.zero_ne_one, List.cons.injEq, List.getElem?_cons_zero, List.getElem?_cons_succ, callK_fn s69, callK_fn s70, callK_fn s73, hi1, hi2, hi3, hi4, hfill, res_cell, ldD_agg]) k2 ?_
 have k3 := okR_num (r := (ws2, b2)) k2
 simp only [rNumD]
 generalize rNum (ws2, b2) = a3 at k3 ⊢
 obtain ⟨a3, ws3, b3⟩ := a3
 simp only [rdD]
 simp only [↓go1, go2, go3, go4, reduceIte, Nat.reduceEqDiff, Nat.reduceAdd, Nat.zero_le, Nat.sub_zero, Nat.reduceSub, Nat.reduceLT, Nat.reduceLeDiff, h0, h1, List.length_cons, List.length_nil, List.length_map, Nat.zero_add, rd_succ, rd_zero, Option.bind_some, Option.map_some, Option.isSome_some, true_and, and_true, and_false, false_and, and_self, put2_rd, put1_rd, put_rd, Nat.one_ne_zero, Nat.zero_ne_one, List.cons.injEq, List.getElem?_cons_zero, List.getElem?_cons_succ, callK_fn s69, callK_fn s70, callK_fn s73, hi1, hi2, hi3, hi4, hfill, res_cell, ldD_agg]
 refine got_rd (ws := ws3) (b := b3) (by simp only [↓go1, go2, go3, go4, reduceIte, Nat.reduceEqDiff, Nat.reduceAdd, Nat.zero_le, Nat.sub_zero, Nat.reduceSub, Nat.reduceLT, Nat.reduceLeDiff, h0, h1, List.length_cons, List.length_nil, List.length_map, Nat.zero_add, rd_succ, rd_zero, Option.bind_some, Option.map_some, Option.isSome_some, true_and, and_true, and_false, false_and, and_self, put2_rd, put1_rd, put_rd, Nat.one_ne_zero, Nat.zero_ne_one, List.cons.injEq, List.getElem?_cons_zero, List.getElem?_cons_succ, callK_fn s69, callK_fn s70, callK_fn s73, hi1, hi2, hi3, hi4, hfill, res_cell, ldD_agg]) (by simp only [↓go1, go2, go3, go4, reduceIte, Nat.reduceEqDiff, Nat.reduceAdd, Nat.zero_le, Nat.sub_zero, Nat.reduceSub, Nat.reduceLT, Nat.reduceLeDiff, h0, h1, List.length_cons, List.length_nil, List.length_map, Nat.zero_add, rd_succ, rd_zero, Option.bind_some, Option.map_some, Option.isSome_some, true_and, and_true, and_false, false_and, and_self, put2_rd, put1_rd, put_rd, Nat.one_ne_zero, Nat.zero_ne_one, List.cons.injEq, List.getElem?_cons_zero, List.getElem?_cons_succ, callK_fn s69, callK_fn s70, callK_fn s73, hi1, hi2, hi3, hi4, hfill, res_cell, ldD_agg]) k3 ?_
 have k4 := okR_num (r := (ws3, b3)) k3
 simp only [rNumD]
 generalize rNum (ws3, b3) = a4 at k4 ⊢
 obtain ⟨a4, ws4, b4⟩ := a4
 simp only [rdD]
 simp only [↓go1, go2, go3, go4, reduceIte, Nat.reduceEqDiff, Nat.reduceAdd, Nat.zero_le, Nat.sub_zero, Nat.reduceSub, Nat.reduceLT, Nat.reduceLeDiff, h0, h1, List.length_cons, List.length_nil, List.length_map, Nat.zero_add, rd_succ, rd_zero, Option.bind_some, Option.map_some, Option.isSome_some, true_and, and_true, and_false, false_and, and_self, put2_rd, put1_rd, put_rd, Nat.one_ne_zero, Nat.zero_ne_one, List.cons.injEq, List.getElem?_cons_zero, List.getElem?_cons_succ, callK_fn s69, callK_fn s70, callK_fn s73, hi1, hi2, hi3, hi4, hfill, res_cell, ldD_agg]
 refine got_rd (ws := ws4) (b := b4) (by simp only [↓go1, go2, go3, go4, reduceIte, Nat.reduceEqDiff, Nat.reduceAdd, Nat.zero_le, Nat.sub_zero, Nat.reduceSub, Nat.reduceLT, Nat.reduceLeDiff, h0, h1, List.length_cons, List.length_nil, List.length_map, Nat.zero_add, rd_succ, rd_zero, Option.bind_some, Option.map_some, Option.isSome_some, true_and, and_true, and_false, false_and, and_self, put2_rd, put1_rd, put_rd, Nat.one_ne_zero, Nat.zero_ne_one, List.cons.injEq, List.getElem?_cons_zero, List.getElem?_cons_succ, callK_fn s69, callK_fn s70, callK_fn s73, hi1, hi2, hi3, hi4, hfill, res_cell, ldD_agg]) (by simp only [↓go1, go2, go3, go4, reduceIte, Nat.reduceEqDiff, Nat.reduceAdd, Nat.zero_le, Nat.sub_zero, Nat.reduceSub, Nat.reduceLT, Nat.reduceLeDiff, h0, h1, List.length_cons, List.length_nil, List.length_map, Nat.zero_add, rd_succ, rd_zero, Option.bind_some, Option.map_some, Option.isSome_some, true_and, and_true, and_false, false_and, and_self, put2_rd, put1_rd, put_rd, Nat.one_ne_zero, Nat.zero_ne_one, List.cons.injEq, List.getElem?_cons_zero, List.getElem?_cons_succ, callK_fn s69, callK_fn s70, callK_fn s73, hi1, hi2, hi3, hi4, hfill, res_cell, ldD_agg]) k4 ?_
 have k5 := okR_flag (r := (ws4, b4)) k4
 simp only [rFlagD]
 generalize rFlag (ws4, b4) = a5 at k5 ⊢
 obtain ⟨a5, ws5, b5⟩ := a5
 simp only [rdD]
 simp only [↓go1, go2, go3, go4, reduceIte, Nat.reduceEqDiff, Nat.reduceAdd, Nat.zero_le, Nat.sub_zero, Nat.reduceSub, Nat.reduceLT, Nat.reduceLeDiff, h0, h1, List.length_cons, List.length_nil, List.length_map, Nat.zero_add, rd_succ, rd_zero, Option.bind_some, Option.map_some, Option.isSome_some, true_and, and_true, and_false, false_and, and_self, put2_rd, put1_rd, put_rd, Nat.one_ne_zero, Nat.zero_ne_one, List.cons.injEq, List.getElem?_cons_zero, List.getElem?_cons_succ, callK_fn s69, callK_fn s70, callK_fn s73, hi1, hi2, hi3, hi4, hfill, res_cell, ldD_agg]
 refine got_rd (ws := ws5) (b := b5) (by simp only [↓go1, go2, go3, go4, reduceIte, Nat.reduceEqDiff, Nat.reduceAdd, Nat.zero_le, Nat.sub_zero, Nat.reduceSub, Nat.reduceLT, Nat.reduceLeDiff, h0, h1, List.length_cons, List.length_nil, List.length_map, Nat.zero_add, rd_succ, rd_zero, Option.bind_some, Option.map_some, Option.isSome_some, true_and, and_true, and_false, false_and, and_self, put2_rd, put1_rd, put_rd, Nat.one_ne_zero, Nat.zero_ne_one, List.cons.injEq, List.getElem?_cons_zero, List.getElem?_cons_succ, callK_fn s69, callK_fn s70, callK_fn s73, hi1, hi2, hi3, hi4, hfill, res_cell, ldD_agg]) (by simp only [↓go1, go2, go3, go4, reduceIte, Nat.reduceEqDiff, Nat.reduceAdd, Nat.zero_le, Nat.sub_zero, Nat.reduceSub, Nat.reduceLT, Nat.reduceLeDiff, h0, h1, List.length_cons, List.length_nil, List.length_map, Nat.zero_add, rd_succ, rd_zero, Option.bind_some, Option.map_some, Option.isSome_some, true_and, and_true, and_false, false_and, and_self, put2_rd, put1_rd, put_rd, Nat.one_ne_zero, Nat.zero_ne_one, List.cons.injEq, List.getElem?_cons_zero, List.getElem?_cons_succ, callK_fn s69, callK_fn s70, callK_fn s73, hi1, hi2, hi3, hi4, hfill, res_cell, ldD_agg]) k5 ?_
 have k6 := okR_text (r := (ws5, b5)) k5
 simp only [rTextD]
 generalize rText (ws5, b5) = a6 at k6 ⊢
 obtain ⟨a6, ws6, b6⟩ := a6
 simp only [rdD]
 simp only [↓go1, go2, go3, go4, reduceIte, Nat.reduceEqDiff, Nat.reduceAdd, Nat.zero_le, Nat.sub_zero, Nat.reduceSub, Nat.reduceLT, Nat.reduceLeDiff, h0, h1, List.length_cons, List.length_nil, List.length_map, Nat.zero_add, rd_succ, rd_zero, Option.bind_some, Option.map_some, Option.isSome_some, true_and, and_true, and_false, false_and, and_self, put2_rd, put1_rd, put_rd, Nat.one_ne_zero, Nat.zero_ne_one, List.cons.injEq, List.getElem?_cons_zero, List.getElem?_cons_succ, callK_fn s69, callK_fn s70, callK_fn s73, hi1, hi2, hi3, hi4, hfill, res_cell, ldD_agg]
 refine got_rd (ws := ws6) (b := b6) (by simp only [↓go1, go2, go3, go4, reduceIte, Nat.reduceEqDiff, Nat.reduceAdd, Nat.zero_le, Nat.sub_zero, Nat.reduceSub, Nat.reduceLT, Nat.reduceLeDiff, h0, h1, List.length_cons, List.length_nil, List.length_map, Nat.zero_add, rd_succ, rd_zero, Option.bind_some, Option.map_some, Option.isSome_some, true_and, and_true, and_false, false_and, and_self, put2_rd, put1_rd, put_rd, Nat.one_ne_zero, Nat.zero_ne_one, List.cons.injEq, List.getElem?_cons_zero, List.getElem?_cons_succ, callK_fn s69, callK_fn s70, callK_fn s73, hi1, hi2, hi3, hi4, hfill, res_cell, ldD_agg]) (by simp only [↓go1, go2, go3, go4, reduceIte, Nat.reduceEqDiff, Nat.reduceAdd, Nat.zero_le, Nat.sub_zero, Nat.reduceSub, Nat.reduceLT, Nat.reduceLeDiff, h0, h1, List.length_cons, List.length_nil, List.length_map, Nat.zero_add, rd_succ, rd_zero, Option.bind_some, Option.map_some, Option.isSome_some, true_and, and_true, and_false, false_and, and_self, put2_rd, put1_rd, put_rd, Nat.one_ne_zero, Nat.zero_ne_one, List.cons.injEq, List.getElem?_cons_zero, List.getElem?_cons_succ, callK_fn s69, callK_fn s70, callK_fn s73, hi1, hi2, hi3, hi4, hfill, res_cell, ldD_agg]) k6 ?_
 have k7 := okR_text (r := (ws6, b6)) k6
 simp only [rTextD]
 generalize rText (ws6, b6) = a7 at k7 ⊢
 obtain ⟨a7, ws7, b7⟩ := a7
 simp only [rdD]
 simp only [↓go1, go2, go3, go4, reduceIte, Nat.reduceEqDiff, Nat.reduceAdd, Nat.zero_le, Nat.sub_zero, Nat.reduceSub, Nat.reduceLT, Nat.reduceLeDiff, h0, h1, List.length_cons, List.length_nil, List.length_map, Nat.zero_add, rd_succ, rd_zero, Option.bind_some, Option.map_some, Option.isSome_some, true_and, and_true, and_false, false_and, and_self, put2_rd, put1_rd, put_rd, Nat.one_ne_zero, Nat.zero_ne_one, List.cons.injEq, List.getElem?_cons_zero, List.getElem?_cons_succ, callK_fn s69, callK_fn s70, callK_fn s73, hi1, hi2, hi3, hi4, hfill, res_cell, ldD_agg]
 refine ⟨?_, ?_⟩
 ·rfl
 ·intro j o x hx
  by_cases e0 : j = 0 :: fr
  ·exfalso
   rw [e0] at hx
   simp only [hi2, false_and, if_false, n0] at hx
   cases hx
  ·by_cases e1 : j = 10 :: fr
   ·exfalso
    rw [e1] at hx
    simp only [hi4, false_and, if_false, n10] at hx
    cases hx
   ·have e0' : (j = 0 :: fr) = False := eq_false e0
    have e1' : (j = 10 :: fr) = False := eq_false e1
    simp only [e0', e1', false_and, if_false] at hx ⊢
    by_cases f0 : j = i ∧ o < 2
    ·rw [if_pos f0] at hx ⊢; exact hx
    ·simp only [if_neg f0] at hx ⊢; exact hx
end Go.Vd

namespace Go.Vd
open Go.RowKit
set_option linter.unusedSimpArgs false
set_option linter.unusedVariables false
set_option maxRecDepth 10000
def tdAt (m : Mem) (r : Id) : Option (Bool × Id × Bool × Id × Td) :=
 match m r 0, m r 1, m r 2, m r 3, m r 4 with
 | some (.slice nc tc xs), some (.int .i64 a), some (.int .i64 b), some (.bool f), some (.slice nb tb ys) =>
  match dnsOf xs, strsOf ys with
  | some cs, some bs => some (nc, tc, nb, tb, ⟨cs, a, b, f, bs⟩)
  | _, _ => none
 | _, _, _, _, _ => none
structure TdAt (m : Mem) (r : Id) (nc : Bool) (tc : Id) (nb : Bool) (tb : Id) (t : Td) : Prop where
 c0 : m r 0 = some (.slice nc tc (t.calls.map dnD))
 c1 : m r 1 = some (.int .i64 t.ticks)
 c2 : m r 2 = some (.int .i64 t.left)
 c3 : m r 3 = some (.bool t.shut)
 c4 : m r 4 = some (.slice nb tb (t.behind.map .str))
theorem tdAt_some {m : Mem} {r : Id} {nc : Bool} {tc : Id} {nb : Bool} {tb : Id} {t : Td} (h : tdAt m r = some (nc, tc, nb, tb, t)) : TdAt m r nc tc nb tb t := by
 unfold tdAt at h
 split at h
 ·rename_i h0 h1 h2 h3 h4
  split at h
  ·rename_i e1 e2
   simp only [Option.some.injEq, Prod.mk.injEq] at h
   obtain ⟨rfl, rfl, rfl, rfl, rfl⟩ := h
   obtain rfl := dnsOf_some e1
   obtain rfl := strsOf_some e2
   exact ⟨h0, h1, h2, h3, h4⟩
  ·cases h
 ·cases h
theorem tdAt_of {m : Mem} {r : Id} {nc : Bool} {tc : Id} {nb : Bool} {tb : Id} {t : Td} (h : TdAt m r nc tc nb tb t) : tdAt m r = some (nc, tc, nb, tb, t) := by
 unfold tdAt
 rw [h.c0, h.c1, h.c2, h.c3, h.c4]
 simp only [dnsOf_map, strsOf_map]
def growT (m : Mem) (e : Nat) (nl : Bool) (t : Id) (emp : Bool) : Bool :=
 if nl = true then emp else match m t 0 with
  | some (.tok k) => k == e + 1 && !t.isEmpty
  | _ => false
theorem growT_grow {m : Mem} {e : Nat} {nl : Bool} {t : Id} {emp : Bool} {xs : List D} (h : growT m e nl t emp = true) : Grow m e (.slice nl t xs) := by
 unfold growT at h
 split at h
 ·rename_i h0; exact .inl h0
 ·split at h
  ·rename_i k hm
   simp only [Bool.and_eq_true, beq_iff_eq] at h
   rw [h.1] at hm
   exact .inr ⟨hm, by intro e; rw [e] at h; simp at h⟩
  ·cases h
def readU (fr r : Id) (nc : Bool) (tc : Id) (nb : Bool) (tb : Id) (t : Td) (k : Int) (s : Bs) : Upd :=
 if k = 0 then [(r, 1, [.int .i64 (readP t true s).1.ticks, .int .i64 (readP t true s).1.left, .bool (readP t true s).1.shut])]
 else if (rNext (splitB s, false)).1 = kCall then growU 65 (23 :: fr) (.slice nc tc []) ++ [(r, 0, [.slice false (23 :: fr) ((readP t false s).1.calls.map dnD)])]
 else if (rNext (splitB s, false)).1 = kSaid then growU 9 (26 :: fr) (.slice nb tb []) ++ [(r, 4, [.slice false (26 :: fr) ((readP t false s).1.behind.map .str)])]
 else []
def okRd (m : Mem) (nc : Bool) (tc : Id) (nb : Bool) (tb : Id) (t : Td) (s : Bs) : Bool :=
 decide (s.length ≤ 1000000) && decide (t.calls.length ≤ 1000000) && decide (t.behind.length ≤ 1000000) && growT m 65 nc tc t.calls.isEmpty && growT m 9 nb tb t.behind.isEmpty
def slT : Option D → List (Id × Nat)
 | some (.slice _ t _) => [(t, 0)]
 | _ => []
def readQ : Summ where
 rd := fun ds m => match ds with
  | [.ptr r 0, _, _] => [(r, 0), (r, 1), (r, 2), (r, 3), (r, 4)] ++ slT (m r 0) ++ slT (m r 4)
  | _ => []
 ex := fun ds m fr => match ds with
  | [.ptr r 0, .int .i64 k, .str s] => match tdAt m r with
   | some (nc, tc, nb, tb, t) => if okRd m nc tc nb tb t s = true then some (.bool (readP t (decide (k = 0)) s).2, readU fr r nc tc nb tb t k s) else none
   | none => none
  | _ => none
theorem growT_congr {m m' : Mem} {e : Nat} {nl : Bool} {t : Id} {emp : Bool} (h : m t 0 = m' t 0) : growT m e nl t emp = growT m' e nl t emp := by
 unfold growT; rw [h]
theorem readQ_loc (ds : List D) (m m' : Mem) (fr : Id) (h : ∀ l ∈ readQ.rd ds m, m l.1 l.2 = m' l.1 l.2) : readQ.ex ds m fr = readQ.ex ds m' fr := by
 simp only [readQ] at h ⊢
 split
 ·rename_i r k s
  have e0 := h (r, 0) (by simp)
  have e1 := h (r, 1) (by simp)
  have e2 := h (r, 2) (by simp)
  have e3 := h (r, 3) (by simp)
  have e4 := h (r, 4) (by simp)
  have et : tdAt m' r = tdAt m r := by
   unfold tdAt
   simp only at e0 e1 e2 e3 e4
   rw [e0, e1, e2, e3, e4]
  rw [et]
  cases hT : tdAt m r with
  | none => rfl
  | some p =>
   obtain ⟨nc, tc, nb, tb, t⟩ := p
   have T := tdAt_some hT
   have g1 : m tc 0 = m' tc 0 := h (tc, 0) (by simp [T.c0, slT])
   have g2 : m tb 0 = m' tb 0 := h (tb, 0) (by simp [T.c4, slT])
   simp only [okRd, growT_congr g1, growT_congr g2]; rfl
 ·rfl
theorem readQ_inv {ds : List D} {m : Mem} {fr : Id} {d : D} {u : Upd} (h : readQ.ex ds m fr = some (d, u)) :
  ∃ r k s nc tc nb tb t, ds = [.ptr r 0, .int .i64 k, .str s] ∧ TdAt m r nc tc nb tb t ∧ okRd m nc tc nb tb t s = true ∧ d = .bool (readP t (decide (k = 0)) s).2 ∧ u = readU fr r nc tc nb tb t k s := by
 simp only [readQ] at h
 split at h
 ·rename_i r k s
  split at h
  ·rename_i nc tc nb tb t hT
   split at h
   ·rename_i hk
    simp only [Option.some.injEq, Prod.mk.injEq] at h
    exact ⟨r, k, s, nc, tc, nb, tb, t, rfl, tdAt_some hT, hk, h.1.symm, h.2.symm⟩
   ·cases h
  ·cases h
 ·cases h
theorem splitB_okR {s : Bs} (h : s.length ≤ 1000000) : okR (splitB s) := by
 have : ∀ (s : Bs) w, w ∈ splitB s → w.length ≤ s.length := by
  intro s
  induction s with
  | nil => intro w hw; simp [splitB] at hw; simp [hw]
  | cons c r ih =>
   intro w hw
   unfold splitB at hw
   split at hw
   ·rcases List.mem_cons.1 hw with rfl | hw
    ·simp
    ·have := ih w hw; simp; omega
   ·split at hw
    ·rename_i a b e
     rcases List.mem_cons.1 hw with rfl | hw
     ·have := ih a (by rw [e]; simp); simp; omega
     ·have := ih w (by rw [e]; simp [hw]); simp; omega
    ·simp at hw; subst hw; simp
 exact fun w hw => Nat.le_trans (this s w hw) h
end Go.Vd

namespace Go.Vd
open Go.RowKit
set_option linter.unusedSimpArgs false
set_option linter.unusedVariables false
set_option maxRecDepth 10000
theorem okR_call {r : Rs} (h : okR r.1) : okR (rCall r).2.1 :=
 okR_text (okR_text (okR_flag (okR_num (okR_num (okR_num (okR_num h))))))
theorem growT_grow' {m m' : Mem} {e : Nat} {nl : Bool} {t : Id} {emp : Bool} {xs : List D} (h : growT m e nl t emp = true) (hm : nl = false → m t 0 = some (.tok (e + 1)) → m' t 0 = m t 0) : Grow m' e (.slice nl t xs) := by
 rcases growT_grow (xs := xs) h with h0 | ⟨h1, h2⟩
 ·exact .inl h0
 ·cases nl with
  | true => exact .inl rfl
  | false => exact .inr ⟨by rw [hm rfl h1]; exact h1, h2⟩
theorem growT_tok {m : Mem} {e : Nat} {nl : Bool} {t : Id} {emp : Bool} (h : growT m e nl t emp = true) : nl = false → m t 0 = some (.tok (e + 1)) := by
 rintro rfl
 rcases growT_grow (xs := []) h with h0 | ⟨h1, h2⟩
 ·cases h0
 ·exact h1
theorem growU_rd {m : Mem} {e : Nat} {f t i : Id} {nl : Bool} {xs : List D} {o : Nat} : Upd.app m (growU e f (.slice nl t xs)) i o = if i = f ∧ o = 0 then some (.tok (e + 1)) else if nl = false ∧ i = t ∧ o = 0 then some (.tok 0) else m i o := by
 cases nl <;> simp [growU, Upd.app, put_tok]
theorem growT_nil {m : Mem} {e : Nat} {nl : Bool} {t : Id} {emp : Bool} {xs : List D} (h : growT m e nl t emp = true) (hx : emp = true → xs = []) : nl = true → xs = [] := by
 rintro rfl
 unfold growT at h
 rw [if_pos rfl] at h
 exact hx h
theorem feet_one {i j : Id} {l : Id × Nat} {ds : List D} {o n : Nat} (h : i ≠ j) (hl : l ∈ List.flatMap (fun x : Id × Nat × List D => cellLocs x.1 x.2.1 x.2.2.length) [(i, 0, ds)]) : ¬ l ∈ cellLocs j o n ∧ ¬ l ∈ ([] : List (Id × Nat)) := by
 refine ⟨fun hm => ?_, by simp⟩
 simp only [List.flatMap_cons, List.flatMap_nil, List.append_nil, cellLocs, List.mem_map, List.mem_range] at hl hm
 obtain ⟨_, _, rfl⟩ := hl
 obtain ⟨_, _, e⟩ := hm
 exact h (congrArg Prod.fst e).symm
theorem upd_append : ∀ {m : Mem} {u v : Upd}, Upd.app m (u ++ v) = Upd.app (Upd.app m u) v
 | m, [], v => rfl
 | m, (i, o, ds) :: u, v => by show Upd.app (m.put i o ds) (u ++ v) = _; rw [upd_append]; rfl
set_option maxHeartbeats 8000000 in
theorem ok35 {P : Program} (hd : Desk P) (h25 : (funS F25).ok P 25) (h67 : (funS Fsplit).ok P 67) : readQ.ok P 35 := by
 have hS : Summs.ok P (tabL [(67, funS Fsplit), (68, rdQ rNextD), (69, rdQ rNumD), (70, rdQ rFlagD), (71, rdQ rDoneD), (72, rdQ rCallD), (73, rdQ rTextD)]) :=
  tabL_cons h67 (tabL_cons (ok68 hd) (tabL_cons (ok69 hd h25) (tabL_cons (ok70 hd) (tabL_cons (ok71 hd) (tabL_cons (ok72 hd h25) (tabL_cons (ok73 hd) tabL_nil))))))
 have s67 : tabL [(67, funS Fsplit), (68, rdQ rNextD), (69, rdQ rNumD), (70, rdQ rFlagD), (71, rdQ rDoneD), (72, rdQ rCallD), (73, rdQ rTextD)] 67 = some (funS Fsplit) := rfl
 have s68 : tabL [(67, funS Fsplit), (68, rdQ rNextD), (69, rdQ rNumD), (70, rdQ rFlagD), (71, rdQ rDoneD), (72, rdQ rCallD), (73, rdQ rTextD)] 68 = some (rdQ rNextD) := rfl
 have s69 : tabL [(67, funS Fsplit), (68, rdQ rNextD), (69, rdQ rNumD), (70, rdQ rFlagD), (71, rdQ rDoneD), (72, rdQ rCallD), (73, rdQ rTextD)] 69 = some (rdQ rNumD) := rfl
 have s70 : tabL [(67, funS Fsplit), (68, rdQ rNextD), (69, rdQ rNumD), (70, rdQ rFlagD), (71, rdQ rDoneD), (72, rdQ rCallD), (73, rdQ rTextD)] 70 = some (rdQ rFlagD) := rfl
 have s71 : tabL [(67, funS Fsplit), (68, rdQ rNextD), (69, rdQ rNumD), (70, rdQ rFlagD), (71, rdQ rDoneD), (72, rdQ rCallD), (73, rdQ rTextD)] 71 = some (rdQ rDoneD) := rfl
 have s72 : tabL [(67, funS Fsplit), (68, rdQ rNextD), (69, rdQ rNumD), (70, rdQ rFlagD), (71, rdQ rDoneD), (72, rdQ rCallD), (73, rdQ rTextD)] 72 = some (rdQ rCallD) := rfl
 have s73 : tabL [(67, funS Fsplit), (68, rdQ rNextD), (69, rdQ rNumD), (70, rdQ rFlagD), (71, rdQ rDoneD), (72, rdQ rCallD), (73, rdQ rTextD)] 73 = some (rdQ rTextD) := rfl
 generalize tabL [(67, funS Fsplit), (68, rdQ rNextD), (69, rdQ rNumD), (70, rdQ rFlagD), (71, rdQ rDoneD), (72, rdQ rCallD), (73, rdQ rTextD)] = S at hS s67 s68 s69 s70 s71 s72 s73
 refine opn_ok (S := S) hS hd.f35 readQ_loc (fun ds m fr d u h hfr => ?_)
 obtain ⟨r, k, s, nc, tc, nb, tb, t, rfl, T, hok, rfl, rfl⟩ := readQ_inv h
 refine ⟨by simp, ?_⟩
 clear h
 obtain ⟨c0, c1, c2, c3, c4⟩ := T
 simp only [okRd, Bool.and_eq_true, decide_eq_true_eq] at hok
 obtain ⟨⟨⟨⟨o1, o2⟩, o3⟩, o4⟩, o5⟩ := hok
 have n4 : ∀ o, m (4 :: fr) o = none := fun o => hfr 4 _ o (List.suffix_refl _)
 have n22 : ∀ o, m (22 :: fr) o = none := fun o => hfr 22 _ o (List.suffix_refl _)
 have n23 : ∀ o, m (23 :: fr) o = none := fun o => hfr 23 _ o (List.suffix_refl _)
 have n25 : ∀ o, m (25 :: fr) o = none := fun o => hfr 25 _ o (List.suffix_refl _)
 have n26 : ∀ o, m (26 :: fr) o = none := fun o => hfr 26 _ o (List.suffix_refl _)
 have hnc := growT_nil (xs := t.calls.map dnD) o4 (fun h => by rw [List.isEmpty_iff] at h; rw [h]; rfl)
 have hnb := growT_nil (xs := t.behind.map D.str) o5 (fun h => by rw [List.isEmpty_iff] at h; rw [h]; rfl)
 have hr1 : (r = 4 :: fr) = False := eq_false (fun e => by rw [e, n4] at c0; cases c0)
 have hr2 : (4 :: fr = r) = False := eq_false (fun e => by rw [← e, n4] at c0; cases c0)
 have r22 : (r = 22 :: fr) = False := eq_false (fun e => by rw [e, n22] at c0; cases c0)
 have r23 : (r = 23 :: fr) = False := eq_false (fun e => by rw [e, n23] at c0; cases c0)
 have r25 : (r = 25 :: fr) = False := eq_false (fun e => by rw [e, n25] at c0; cases c0)
 have r26 : (r = 26 :: fr) = False := eq_false (fun e => by rw [e, n26] at c0; cases c0)
 have kc : nc = false → m tc 0 = some (.tok 66) := growT_tok o4
 have kb : nb = false → m tb 0 = some (.tok 10) := growT_tok o5
 have q1 : (nc = false ∧ r = tc) = False := eq_false (fun ⟨a, e⟩ => by have := kc a; rw [← e, c0] at this; cases this)
 have q2 : (nc = false ∧ 4 :: fr = tc) = False := eq_false (fun ⟨a, e⟩ => by have := kc a; rw [← e, n4] at this; cases this)
 have q3 : (nb = false ∧ r = tb) = False := eq_false (fun ⟨a, e⟩ => by have := kb a; rw [← e, c0] at this; cases this)
 have q4 : (nb = false ∧ 4 :: fr = tb) = False := eq_false (fun ⟨a, e⟩ => by have := kb a; rw [← e, n4] at this; cases this)
 have m23 : (4 :: fr = 23 :: fr) = False := eq_false (by simp)
 have m26 : (4 :: fr = 26 :: fr) = False := eq_false (by simp)
 have q5 : (nc = false ∧ 22 :: fr = tc) = False := eq_false (fun ⟨a, e⟩ => by have := kc a; rw [← e, n22] at this; cases this)
 have q6 : (nb = false ∧ 25 :: fr = tb) = False := eq_false (fun ⟨a, e⟩ => by have := kb a; rw [← e, n25] at this; cases this)
 have q2' : ∀ o : Nat, (nc = false ∧ 4 :: fr = tc ∧ o = 0) = False := fun o => eq_false (fun h => of_eq_false q2 ⟨h.1, h.2.1⟩)
 have q4' : ∀ o : Nat, (nb = false ∧ 4 :: fr = tb ∧ o = 0) = False := fun o => eq_false (fun h => of_eq_false q4 ⟨h.1, h.2.1⟩)
 have q5' : ∀ o : Nat, (nc = false ∧ 22 :: fr = tc ∧ o = 0) = False := fun o => eq_false (fun h => of_eq_false q5 ⟨h.1, h.2.1⟩)
 have q6' : ∀ o : Nat, (nb = false ∧ 25 :: fr = tb ∧ o = 0) = False := fun o => eq_false (fun h => of_eq_false q6 ⟨h.1, h.2.1⟩)
 have m22 : (22 :: fr = 23 :: fr) = False := eq_false (by simp)
 have m25 : (25 :: fr = 26 :: fr) = False := eq_false (by simp)
 have r22' : (22 :: fr = r) = False := eq_false (fun e => of_eq_false r22 e.symm)
 have r25' : (25 :: fr = r) = False := eq_false (fun e => of_eq_false r25 e.symm)
 have f67 : Fsplit [.str s, .str [32]] = some (.slice false [] ((splitB s).map .str)) := if_pos o1
 have hfill : ∀ xs, fillD [.slice true [] [], .bool false] [(0, 1, .slice false [] xs)] = some [.slice false [] xs, .bool false] := by
  intro xs; simp [fillD, putAt, D.data, D.cells]
 have hk0 := splitB_okR o1
 unfold dc35
 simp only [↓go1, go2, go3, go4, reduceIte, Nat.reduceEqDiff, Nat.reduceAdd, Nat.zero_le, Nat.sub_zero, Nat.reduceSub, Nat.reduceLT, Nat.reduceLeDiff, c0, c1, c2, c3, c4, List.length_cons, List.length_nil, List.length_map, Nat.zero_add, rd_succ, rd_zero, Option.bind_some, Option.map_some, Option.isSome_some, true_and, and_true, and_false, false_and, and_self, put2_rd, put1_rd, put_rd, Nat.one_ne_zero, Nat.zero_ne_one, List.cons.injEq, List.getElem?_cons_zero, List.getElem?_cons_succ, callK_fn s68, callK_fn s69, callK_fn s70, callK_fn s71, callK_fn s72, callK_fn s73, callK_fun s67, f67, hr1, hr2, hfill, reduceCtorEq, growU_rd, q1, q2, q3, q4, r22, r23, r25, r26]
 refine got_rd (ws := splitB s) (b := false) (by simp only [↓go1, go2, go3, go4, reduceIte, Nat.reduceEqDiff, Nat.reduceAdd, Nat.zero_le, Nat.sub_zero, Nat.reduceSub, Nat.reduceLT, Nat.reduceLeDiff, c0, c1, c2, c3, c4, List.length_cons, List.length_nil, List.length_map, Nat.zero_add, rd_succ, rd_zero, Option.bind_some, Option.map_some, Option.isSome_some, true_and, and_true, and_false, false_and, and_self, put2_rd, put1_rd, put_rd, Nat.one_ne_zero, Nat.zero_ne_one, List.cons.injEq, List.getElem?_cons_zero, List.getElem?_cons_succ, callK_fn s68, callK_fn s69, callK_fn s70, callK_fn s71, callK_fn s72, callK_fn s73, callK_fun s67, f67, hr1, hr2, hfill, reduceCtorEq, growU_rd, q1, q2, q3, q4, r22, r23, r25, r26]) (by simp only [↓go1, go2, go3, go4, reduceIte, Nat.reduceEqDiff, Nat.reduceAdd, Nat.zero_le, Nat.sub_zero, Nat.reduceSub, Nat.reduceLT, Nat.reduceLeDiff, c0, c1, c2, c3, c4, List.length_cons, List.length_nil, List.length_map, Nat.zero_add, rd_succ, rd_zero, Option.bind_some, Option.map_some, Option.isSome_some, true_and, and_true, and_false, false_and, and_self, put2_rd, put1_rd, put_rd, Nat.one_ne_zero, Nat.zero_ne_one, List.cons.injEq, List.getElem?_cons_zero, List.getElem?_cons_succ, callK_fn s68, callK_fn s69, callK_fn s70, callK_fn s71, callK_fn s72, callK_fn s73, callK_fun s67, f67, hr1, hr2, hfill, reduceCtorEq, growU_rd, q1, q2, q3, q4, r22, r23, r25, r26]) hk0 ?_
 have k0 := (okR_next (b := false) hk0).1
 simp only [rNextD]
 by_cases hz : k = 0
 ·have hz1 : (k = 0) = True := eq_true hz
  simp only [readU, readP, hz1, if_true, decide_true]
  generalize rNext (splitB s, false) = a0 at k0 ⊢
  obtain ⟨w, ws0, b0⟩ := a0
  simp only [rdD]
  simp only [↓go1, go2, go3, go4, reduceIte, Nat.reduceEqDiff, Nat.reduceAdd, Nat.zero_le, Nat.sub_zero, Nat.reduceSub, Nat.reduceLT, Nat.reduceLeDiff, c0, c1, c2, c3, c4, List.length_cons, List.length_nil, List.length_map, Nat.zero_add, rd_succ, rd_zero, Option.bind_some, Option.map_some, Option.isSome_some, true_and, and_true, and_false, false_and, and_self, put2_rd, put1_rd, put_rd, Nat.one_ne_zero, Nat.zero_ne_one, List.cons.injEq, List.getElem?_cons_zero, List.getElem?_cons_succ, callK_fn s68, callK_fn s69, callK_fn s70, callK_fn s71, callK_fn s72, callK_fn s73, callK_fun s67, f67, hr1, hr2, hfill, reduceCtorEq, growU_rd, q1, q2, q3, q4, r22, r23, r25, r26, hz1]
  refine got_rd (ws := ws0) (b := b0) (by simp only [↓go1, go2, go3, go4, reduceIte, Nat.reduceEqDiff, Nat.reduceAdd, Nat.zero_le, Nat.sub_zero, Nat.reduceSub, Nat.reduceLT, Nat.reduceLeDiff, c0, c1, c2, c3, c4, List.length_cons, List.length_nil, List.length_map, Nat.zero_add, rd_succ, rd_zero, Option.bind_some, Option.map_some, Option.isSome_some, true_and, and_true, and_false, false_and, and_self, put2_rd, put1_rd, put_rd, Nat.one_ne_zero, Nat.zero_ne_one, List.cons.injEq, List.getElem?_cons_zero, List.getElem?_cons_succ, callK_fn s68, callK_fn s69, callK_fn s70, callK_fn s71, callK_fn s72, callK_fn s73, callK_fun s67, f67, hr1, hr2, hfill, reduceCtorEq, growU_rd, q1, q2, q3, q4, r22, r23, r25, r26, hz1]) (by simp only [↓go1, go2, go3, go4, reduceIte, Nat.reduceEqDiff, Nat.reduceAdd, Nat.zero_le, Nat.sub_zero, Nat.reduceSub, Nat.reduceLT, Nat.reduceLeDiff, c0, c1, c2, c3, c4, List.length_cons, List.length_nil, List.length_map, Nat.zero_add, rd_succ, rd_zero, Option.bind_some, Option.map_some, Option.isSome_some, true_and, and_true, and_false, false_and, and_self, put2_rd, put1_rd, put_rd, Nat.one_ne_zero, Nat.zero_ne_one, List.cons.injEq, List.getElem?_cons_zero, List.getElem?_cons_succ, callK_fn s68, callK_fn s69, callK_fn s70, callK_fn s71, callK_fn s72, callK_fn s73, callK_fun s67, f67, hr1, hr2, hfill, reduceCtorEq, growU_rd, q1, q2, q3, q4, r22, r23, r25, r26, hz1]) k0 ?_
  have k1 := okR_num (r := (ws0, b0)) k0
  simp only [rNumD]
  generalize rNum (ws0, b0) = a1 at k1 ⊢
  obtain ⟨a1, ws1, b1⟩ := a1
  simp only [rdD]
  simp only [↓go1, go2, go3, go4, reduceIte, Nat.reduceEqDiff, Nat.reduceAdd, Nat.zero_le, Nat.sub_zero, Nat.reduceSub, Nat.reduceLT, Nat.reduceLeDiff, c0, c1, c2, c3, c4, List.length_cons, List.length_nil, List.length_map, Nat.zero_add, rd_succ, rd_zero, Option.bind_some, Option.map_some, Option.isSome_some, true_and, and_true, and_false, false_and, and_self, put2_rd, put1_rd, put_rd, Nat.one_ne_zero, Nat.zero_ne_one, List.cons.injEq, List.getElem?_cons_zero, List.getElem?_cons_succ, callK_fn s68, callK_fn s69, callK_fn s70, callK_fn s71, callK_fn s72, callK_fn s73, callK_fun s67, f67, hr1, hr2, hfill, reduceCtorEq, growU_rd, q1, q2, q3, q4, r22, r23, r25, r26, hz1]
  refine got_rd (ws := ws1) (b := b1) (by simp only [↓go1, go2, go3, go4, reduceIte, Nat.reduceEqDiff, Nat.reduceAdd, Nat.zero_le, Nat.sub_zero, Nat.reduceSub, Nat.reduceLT, Nat.reduceLeDiff, c0, c1, c2, c3, c4, List.length_cons, List.length_nil, List.length_map, Nat.zero_add, rd_succ, rd_zero, Option.bind_some, Option.map_some, Option.isSome_some, true_and, and_true, and_false, false_and, and_self, put2_rd, put1_rd, put_rd, Nat.one_ne_zero, Nat.zero_ne_one, List.cons.injEq, List.getElem?_cons_zero, List.getElem?_cons_succ, callK_fn s68, callK_fn s69, callK_fn s70, callK_fn s71, callK_fn s72, callK_fn s73, callK_fun s67, f67, hr1, hr2, hfill, reduceCtorEq, growU_rd, q1, q2, q3, q4, r22, r23, r25, r26, hz1]) (by simp only [↓go1, go2, go3, go4, reduceIte, Nat.reduceEqDiff, Nat.reduceAdd, Nat.zero_le, Nat.sub_zero, Nat.reduceSub, Nat.reduceLT, Nat.reduceLeDiff, c0, c1, c2, c3, c4, List.length_cons, List.length_nil, List.length_map, Nat.zero_add, rd_succ, rd_zero, Option.bind_some, Option.map_some, Option.isSome_some, true_and, and_true, and_false, false_and, and_self, put2_rd, put1_rd, put_rd, Nat.one_ne_zero, Nat.zero_ne_one, List.cons.injEq, List.getElem?_cons_zero, List.getElem?_cons_succ, callK_fn s68, callK_fn s69, callK_fn s70, callK_fn s71, callK_fn s72, callK_fn s73, callK_fun s67, f67, hr1, hr2, hfill, reduceCtorEq, growU_rd, q1, q2, q3, q4, r22, r23, r25, r26, hz1]) k1 ?_
  have k2 := okR_num (r := (ws1, b1)) k1
  simp only [rNumD]
  generalize rNum (ws1, b1) = a2 at k2 ⊢
  obtain ⟨a2, ws2, b2⟩ := a2
  simp only [rdD]
  simp only [↓go1, go2, go3, go4, reduceIte, Nat.reduceEqDiff, Nat.reduceAdd, Nat.zero_le, Nat.sub_zero, Nat.reduceSub, Nat.reduceLT, Nat.reduceLeDiff, c0, c1, c2, c3, c4, List.length_cons, List.length_nil, List.length_map, Nat.zero_add, rd_succ, rd_zero, Option.bind_some, Option.map_some, Option.isSome_some, true_and, and_true, and_false, false_and, and_self, put2_rd, put1_rd, put_rd, Nat.one_ne_zero, Nat.zero_ne_one, List.cons.injEq, List.getElem?_cons_zero, List.getElem?_cons_succ, callK_fn s68, callK_fn s69, callK_fn s70, callK_fn s71, callK_fn s72, callK_fn s73, callK_fun s67, f67, hr1, hr2, hfill, reduceCtorEq, growU_rd, q1, q2, q3, q4, r22, r23, r25, r26, hz1]
  refine got_rd (ws := ws2) (b := b2) (by simp only [↓go1, go2, go3, go4, reduceIte, Nat.reduceEqDiff, Nat.reduceAdd, Nat.zero_le, Nat.sub_zero, Nat.reduceSub, Nat.reduceLT, Nat.reduceLeDiff, c0, c1, c2, c3, c4, List.length_cons, List.length_nil, List.length_map, Nat.zero_add, rd_succ, rd_zero, Option.bind_some, Option.map_some, Option.isSome_some, true_and, and_true, and_false, false_and, and_self, put2_rd, put1_rd, put_rd, Nat.one_ne_zero, Nat.zero_ne_one, List.cons.injEq, List.getElem?_cons_zero, List.getElem?_cons_succ, callK_fn s68, callK_fn s69, callK_fn s70, callK_fn s71, callK_fn s72, callK_fn s73, callK_fun s67, f67, hr1, hr2, hfill, reduceCtorEq, growU_rd, q1, q2, q3, q4, r22, r23, r25, r26, hz1]) (by simp only [↓go1, go2, go3, go4, reduceIte, Nat.reduceEqDiff, Nat.reduceAdd, Nat.zero_le, Nat.sub_zero, Nat.reduceSub, Nat.reduceLT, Nat.reduceLeDiff, c0, c1, c2, c3, c4, List.length_cons, List.length_nil, List.length_map, Nat.zero_add, rd_succ, rd_zero, Option.bind_some, Option.map_some, Option.isSome_some, true_and, and_true, and_false, false_and, and_self, put2_rd, put1_rd, put_rd, Nat.one_ne_zero, Nat.zero_ne_one, List.cons.injEq, List.getElem?_cons_zero, List.getElem?_cons_succ, callK_fn s68, callK_fn s69, callK_fn s70, callK_fn s71, callK_fn s72, callK_fn s73, callK_fun s67, f67, hr1, hr2, hfill, reduceCtorEq, growU_rd, q1, q2, q3, q4, r22, r23, r25, r26, hz1]) k2 ?_
  have k3 := okR_flag (r := (ws2, b2)) k2
  simp only [rFlagD]
  generalize rFlag (ws2, b2) = a3 at k3 ⊢
  obtain ⟨a3, ws3, b3⟩ := a3
  simp only [rdD]
  by_cases hw : w = kTold
  ·have hw1 : (w = [116, 111, 108, 100]) = True := eq_true hw
   have hw2 : (w = kTold) = True := eq_true hw
   simp only [↓go1, go2, go3, go4, reduceIte, Nat.reduceEqDiff, Nat.reduceAdd, Nat.zero_le, Nat.sub_zero, Nat.reduceSub, Nat.reduceLT, Nat.reduceLeDiff, c0, c1, c2, c3, c4, List.length_cons, List.length_nil, List.length_map, Nat.zero_add, rd_succ, rd_zero, Option.bind_some, Option.map_some, Option.isSome_some, true_and, and_true, and_false, false_and, and_self, put2_rd, put1_rd, put_rd, Nat.one_ne_zero, Nat.zero_ne_one, List.cons.injEq, List.getElem?_cons_zero, List.getElem?_cons_succ, callK_fn s68, callK_fn s69, callK_fn s70, callK_fn s71, callK_fn s72, callK_fn s73, callK_fun s67, f67, hr1, hr2, hfill, reduceCtorEq, growU_rd, q1, q2, q3, q4, r22, r23, r25, r26, hz1, hw1, hw2, decide_true, decide_false, Bool.true_and, Bool.false_and]
   refine got_rd (ws := ws3) (b := b3) (by simp only [↓go1, go2, go3, go4, reduceIte, Nat.reduceEqDiff, Nat.reduceAdd, Nat.zero_le, Nat.sub_zero, Nat.reduceSub, Nat.reduceLT, Nat.reduceLeDiff, c0, c1, c2, c3, c4, List.length_cons, List.length_nil, List.length_map, Nat.zero_add, rd_succ, rd_zero, Option.bind_some, Option.map_some, Option.isSome_some, true_and, and_true, and_false, false_and, and_self, put2_rd, put1_rd, put_rd, Nat.one_ne_zero, Nat.zero_ne_one, List.cons.injEq, List.getElem?_cons_zero, List.getElem?_cons_succ, callK_fn s68, callK_fn s69, callK_fn s70, callK_fn s71, callK_fn s72, callK_fn s73, callK_fun s67, f67, hr1, hr2, hfill, reduceCtorEq, growU_rd, q1, q2, q3, q4, r22, r23, r25, r26, hz1, hw1, hw2, decide_true, decide_false, Bool.true_and, Bool.false_and]) (by simp only [↓go1, go2, go3, go4, reduceIte, Nat.reduceEqDiff, Nat.reduceAdd, Nat.zero_le, Nat.sub_zero, Nat.reduceSub, Nat.reduceLT, Nat.reduceLeDiff, c0, c1, c2, c3, c4, List.length_cons, List.length_nil, List.length_map, Nat.zero_add, rd_succ, rd_zero, Option.bind_some, Option.map_some, Option.isSome_some, true_and, and_true, and_false, false_and, and_self, put2_rd, put1_rd, put_rd, Nat.one_ne_zero, Nat.zero_ne_one, List.cons.injEq, List.getElem?_cons_zero, List.getElem?_cons_succ, callK_fn s68, callK_fn s69, callK_fn s70, callK_fn s71, callK_fn s72, callK_fn s73, callK_fun s67, f67, hr1, hr2, hfill, reduceCtorEq, growU_rd, q1, q2, q3, q4, r22, r23, r25, r26, hz1, hw1, hw2, decide_true, decide_false, Bool.true_and, Bool.false_and]) k3 ?_
   simp only [rDoneD, rdD]
   simp only [↓go1, go2, go3, go4, reduceIte, Nat.reduceEqDiff, Nat.reduceAdd, Nat.zero_le, Nat.sub_zero, Nat.reduceSub, Nat.reduceLT, Nat.reduceLeDiff, c0, c1, c2, c3, c4, List.length_cons, List.length_nil, List.length_map, Nat.zero_add, rd_succ, rd_zero, Option.bind_some, Option.map_some, Option.isSome_some, true_and, and_true, and_false, false_and, and_self, put2_rd, put1_rd, put_rd, Nat.one_ne_zero, Nat.zero_ne_one, List.cons.injEq, List.getElem?_cons_zero, List.getElem?_cons_succ, callK_fn s68, callK_fn s69, callK_fn s70, callK_fn s71, callK_fn s72, callK_fn s73, callK_fun s67, f67, hr1, hr2, hfill, reduceCtorEq, growU_rd, q1, q2, q3, q4, r22, r23, r25, r26, hz1, hw1, hw2, decide_true, decide_false, Bool.true_and, Bool.false_and]
   intro i o x hx
   by_cases e4 : i = 4 :: fr
   ·exfalso
    rw [e4] at hx
    simp only [hr2, false_and, if_false, n4] at hx
    cases hx
   ·have e4' : (i = 4 :: fr) = False := eq_false e4
    simp only [e4', false_and, if_false] at hx ⊢
    by_cases er : i = r
    ·match o, hx with
     | 0, hx => simpa [er] using hx
     | 1, hx => simpa [er] using hx
     | 2, hx => simpa [er] using hx
     | 3, hx => simpa [er] using hx
     | n + 4, hx =>
      rw [if_neg (by omega)] at hx
      rw [if_neg (by omega), if_neg (by omega), if_neg (by omega)]; exact hx
    ·simpa [er] using hx
  ·have hw1 : (w = [116, 111, 108, 100]) = False := eq_false hw
   have hw2 : (w = kTold) = False := eq_false hw
   simp only [↓go1, go2, go3, go4, reduceIte, Nat.reduceEqDiff, Nat.reduceAdd, Nat.zero_le, Nat.sub_zero, Nat.reduceSub, Nat.reduceLT, Nat.reduceLeDiff, c0, c1, c2, c3, c4, List.length_cons, List.length_nil, List.length_map, Nat.zero_add, rd_succ, rd_zero, Option.bind_some, Option.map_some, Option.isSome_some, true_and, and_true, and_false, false_and, and_self, put2_rd, put1_rd, put_rd, Nat.one_ne_zero, Nat.zero_ne_one, List.cons.injEq, List.getElem?_cons_zero, List.getElem?_cons_succ, callK_fn s68, callK_fn s69, callK_fn s70, callK_fn s71, callK_fn s72, callK_fn s73, callK_fun s67, f67, hr1, hr2, hfill, reduceCtorEq, growU_rd, q1, q2, q3, q4, r22, r23, r25, r26, hz1, hw1, hw2, decide_true, decide_false, Bool.true_and, Bool.false_and]
   intro i o x hx
   by_cases e4 : i = 4 :: fr
   ·exfalso
    rw [e4] at hx
    simp only [hr2, false_and, if_false, n4] at hx
    cases hx
   ·have e4' : (i = 4 :: fr) = False := eq_false e4
    simp only [e4', false_and, if_false] at hx ⊢
    by_cases er : i = r
    ·match o, hx with
     | 0, hx => simpa [er] using hx
     | 1, hx => simpa [er] using hx
     | 2, hx => simpa [er] using hx
     | 3, hx => simpa [er] using hx
     | n + 4, hx =>
      rw [if_neg (by omega)] at hx
      rw [if_neg (by omega), if_neg (by omega), if_neg (by omega)]; exact hx
    ·simpa [er] using hx
 ·have hz1 : (k = 0) = False := eq_false hz
  simp only [readU, readP, hz1, if_false, decide_false, Bool.false_eq_true]
  generalize rNext (splitB s, false) = a0 at k0 ⊢
  obtain ⟨w, ws0, b0⟩ := a0
  simp only [rdD]
  by_cases hw : w = kCall
  ·have hw1 : (w = [99, 97, 108, 108]) = True := eq_true hw
   have hw2 : (w = kCall) = True := eq_true hw
   simp only [hw2, if_true]
   simp only [↓go1, go2, go3, go4, reduceIte, Nat.reduceEqDiff, Nat.reduceAdd, Nat.zero_le, Nat.sub_zero, Nat.reduceSub, Nat.reduceLT, Nat.reduceLeDiff, c0, c1, c2, c3, c4, List.length_cons, List.length_nil, List.length_map, Nat.zero_add, rd_succ, rd_zero, Option.bind_some, Option.map_some, Option.isSome_some, true_and, and_true, and_false, false_and, and_self, put2_rd, put1_rd, put_rd, Nat.one_ne_zero, Nat.zero_ne_one, List.cons.injEq, List.getElem?_cons_zero, List.getElem?_cons_succ, callK_fn s68, callK_fn s69, callK_fn s70, callK_fn s71, callK_fn s72, callK_fn s73, callK_fun s67, f67, hr1, hr2, hfill, reduceCtorEq, growU_rd, q1, q2, q3, q4, r22, r23, r25, r26, hz1, hw1, hw2, decide_true, decide_false, Bool.true_and, Bool.false_and]
   refine got_rd (ws := ws0) (b := b0) (by simp only [↓go1, go2, go3, go4, reduceIte, Nat.reduceEqDiff, Nat.reduceAdd, Nat.zero_le, Nat.sub_zero, Nat.reduceSub, Nat.reduceLT, Nat.reduceLeDiff, c0, c1, c2, c3, c4, List.length_cons, List.length_nil, List.length_map, Nat.zero_add, rd_succ, rd_zero, Option.bind_some, Option.map_some, Option.isSome_some, true_and, and_true, and_false, false_and, and_self, put2_rd, put1_rd, put_rd, Nat.one_ne_zero, Nat.zero_ne_one, List.cons.injEq, List.getElem?_cons_zero, List.getElem?_cons_succ, callK_fn s68, callK_fn s69, callK_fn s70, callK_fn s71, callK_fn s72, callK_fn s73, callK_fun s67, f67, hr1, hr2, hfill, reduceCtorEq, growU_rd, q1, q2, q3, q4, r22, r23, r25, r26, hz1, hw1, hw2, decide_true, decide_false, Bool.true_and, Bool.false_and]) (by simp only [↓go1, go2, go3, go4, reduceIte, Nat.reduceEqDiff, Nat.reduceAdd, Nat.zero_le, Nat.sub_zero, Nat.reduceSub, Nat.reduceLT, Nat.reduceLeDiff, c0, c1, c2, c3, c4, List.length_cons, List.length_nil, List.length_map, Nat.zero_add, rd_succ, rd_zero, Option.bind_some, Option.map_some, Option.isSome_some, true_and, and_true, and_false, false_and, and_self, put2_rd, put1_rd, put_rd, Nat.one_ne_zero, Nat.zero_ne_one, List.cons.injEq, List.getElem?_cons_zero, List.getElem?_cons_succ, callK_fn s68, callK_fn s69, callK_fn s70, callK_fn s71, callK_fn s72, callK_fn s73, callK_fun s67, f67, hr1, hr2, hfill, reduceCtorEq, growU_rd, q1, q2, q3, q4, r22, r23, r25, r26, hz1, hw1, hw2, decide_true, decide_false, Bool.true_and, Bool.false_and]) k0 ?_
   have k1 : okR (rCall (ws0, b0)).2.1 := okR_call (r := (ws0, b0)) k0
   simp only [rCallD]
   generalize rCall (ws0, b0) = a1 at k1 ⊢
   obtain ⟨a1, ws1, b1⟩ := a1
   simp only [rdD, dnD_eq]
   simp only [↓go1, go2, go3, go4, reduceIte, Nat.reduceEqDiff, Nat.reduceAdd, Nat.zero_le, Nat.sub_zero, Nat.reduceSub, Nat.reduceLT, Nat.reduceLeDiff, c0, c1, c2, c3, c4, List.length_cons, List.length_nil, List.length_map, Nat.zero_add, rd_succ, rd_zero, Option.bind_some, Option.map_some, Option.isSome_some, true_and, and_true, and_false, false_and, and_self, put2_rd, put1_rd, put_rd, Nat.one_ne_zero, Nat.zero_ne_one, List.cons.injEq, List.getElem?_cons_zero, List.getElem?_cons_succ, callK_fn s68, callK_fn s69, callK_fn s70, callK_fn s71, callK_fn s72, callK_fn s73, callK_fun s67, f67, hr1, hr2, hfill, reduceCtorEq, growU_rd, q1, q2, q3, q4, r22, r23, r25, r26, hz1, hw1, hw2, decide_true, decide_false, Bool.true_and, Bool.false_and]
   refine Need.intro ⟨by omega, rfl, growT_grow' o4 (fun e1 e2 => ?_)⟩ ?_
   ·have t4 : (tc = 4 :: fr) = False := eq_false (fun e => by rw [e, n4] at e2; cases e2)
    have t22 : (tc = 22 :: fr) = False := eq_false (fun e => by rw [e, n22] at e2; cases e2)
    simp only [app_nil, put2_rd, put1_rd, put_rd, t4, t22, false_and, if_false, D.cells]
   rw [app_fold hnc]
   simp only [↓go1, go2, go3, go4, reduceIte, Nat.reduceEqDiff, Nat.reduceAdd, Nat.zero_le, Nat.sub_zero, Nat.reduceSub, Nat.reduceLT, Nat.reduceLeDiff, c0, c1, c2, c3, c4, List.length_cons, List.length_nil, List.length_map, Nat.zero_add, rd_succ, rd_zero, Option.bind_some, Option.map_some, Option.isSome_some, true_and, and_true, and_false, false_and, and_self, put2_rd, put1_rd, put_rd, Nat.one_ne_zero, Nat.zero_ne_one, List.cons.injEq, List.getElem?_cons_zero, List.getElem?_cons_succ, callK_fn s68, callK_fn s69, callK_fn s70, callK_fn s71, callK_fn s72, callK_fn s73, callK_fun s67, f67, hr1, hr2, hfill, reduceCtorEq, growU_rd, q1, q2, q3, q4, r22, r23, r25, r26, hz1, hw1, hw2, decide_true, decide_false, Bool.true_and, Bool.false_and]
   refine Need.intro (fun p hp l hl => ?_) ?_
   ·simp only [List.mem_cons, List.mem_nil_iff, or_false] at hp
    rcases hp with rfl | rfl
    all_goals
     simp only [List.getD_cons_succ, List.getD_cons_zero, wlocs, rds] at hl ⊢
     simp only [↓go1, go2, go3, go4, reduceIte, Nat.reduceEqDiff, Nat.reduceAdd, Nat.zero_le, Nat.sub_zero, Nat.reduceSub, Nat.reduceLT, Nat.reduceLeDiff, c0, c1, c2, c3, c4, List.length_cons, List.length_nil, List.length_map, Nat.zero_add, rd_succ, rd_zero, Option.bind_some, Option.map_some, Option.isSome_some, true_and, and_true, and_false, false_and, and_self, put2_rd, put1_rd, put_rd, Nat.one_ne_zero, Nat.zero_ne_one, List.cons.injEq, List.getElem?_cons_zero, List.getElem?_cons_succ, callK_fn s68, callK_fn s69, callK_fn s70, callK_fn s71, callK_fn s72, callK_fn s73, callK_fun s67, f67, hr1, hr2, hfill, reduceCtorEq, growU_rd, q1, q2, q3, q4, r22, r23, r25, r26, hz1, hw1, hw2, decide_true, decide_false, Bool.true_and, Bool.false_and] at hl ⊢
    ·exact feet_one (of_eq_false hr2) hl
    ·exact feet_one (fun e => of_eq_false r22 e.symm) hl
   ·simp only [↓go1, go2, go3, go4, reduceIte, Nat.reduceEqDiff, Nat.reduceAdd, Nat.zero_le, Nat.sub_zero, Nat.reduceSub, Nat.reduceLT, Nat.reduceLeDiff, c0, c1, c2, c3, c4, List.length_cons, List.length_nil, List.length_map, Nat.zero_add, rd_succ, rd_zero, Option.bind_some, Option.map_some, Option.isSome_some, true_and, and_true, and_false, false_and, and_self, put2_rd, put1_rd, put_rd, Nat.one_ne_zero, Nat.zero_ne_one, List.cons.injEq, List.getElem?_cons_zero, List.getElem?_cons_succ, callK_fn s68, callK_fn s69, callK_fn s70, callK_fn s71, callK_fn s72, callK_fn s73, callK_fun s67, f67, hr1, hr2, hfill, reduceCtorEq, growU_rd, q1, q2, q3, q4, r22, r23, r25, r26, hz1, hw1, hw2, decide_true, decide_false, Bool.true_and, Bool.false_and]
    by_cases hb0 : t.behind.length = 0
    ·have hb1 : ((t.behind.length : Int) = 0) = True := eq_true (by omega)
     have hb2 : (t.behind.length = 0) = True := eq_true hb0
     simp only [↓go1, go2, go3, go4, reduceIte, Nat.reduceEqDiff, Nat.reduceAdd, Nat.zero_le, Nat.sub_zero, Nat.reduceSub, Nat.reduceLT, Nat.reduceLeDiff, c0, c1, c2, c3, c4, List.length_cons, List.length_nil, List.length_map, Nat.zero_add, rd_succ, rd_zero, Option.bind_some, Option.map_some, Option.isSome_some, true_and, and_true, and_false, false_and, and_self, put2_rd, put1_rd, put_rd, Nat.one_ne_zero, Nat.zero_ne_one, List.cons.injEq, List.getElem?_cons_zero, List.getElem?_cons_succ, callK_fn s68, callK_fn s69, callK_fn s70, callK_fn s71, callK_fn s72, callK_fn s73, callK_fun s67, f67, hr1, hr2, hfill, reduceCtorEq, growU_rd, q1, q2, q3, q4, r22, r23, r25, r26, hz1, hw1, hw2, hb1, hb2, decide_true, decide_false, Bool.true_and, Bool.false_and, m23, upd_append, Upd.app]
     refine got_rd (ws := ws1) (b := b1) (by simp only [↓go1, go2, go3, go4, reduceIte, Nat.reduceEqDiff, Nat.reduceAdd, Nat.zero_le, Nat.sub_zero, Nat.reduceSub, Nat.reduceLT, Nat.reduceLeDiff, c0, c1, c2, c3, c4, List.length_cons, List.length_nil, List.length_map, Nat.zero_add, rd_succ, rd_zero, Option.bind_some, Option.map_some, Option.isSome_some, true_and, and_true, and_false, false_and, and_self, put2_rd, put1_rd, put_rd, Nat.one_ne_zero, Nat.zero_ne_one, List.cons.injEq, List.getElem?_cons_zero, List.getElem?_cons_succ, callK_fn s68, callK_fn s69, callK_fn s70, callK_fn s71, callK_fn s72, callK_fn s73, callK_fun s67, f67, hr1, hr2, hfill, reduceCtorEq, growU_rd, q1, q2, q3, q4, r22, r23, r25, r26, hz1, hw1, hw2, hb1, hb2, decide_true, decide_false, Bool.true_and, Bool.false_and, m23, upd_append, Upd.app]) (by simp only [↓go1, go2, go3, go4, reduceIte, Nat.reduceEqDiff, Nat.reduceAdd, Nat.zero_le, Nat.sub_zero, Nat.reduceSub, Nat.reduceLT, Nat.reduceLeDiff, c0, c1, c2, c3, c4, List.length_cons, List.length_nil, List.length_map, Nat.zero_add, rd_succ, rd_zero, Option.bind_some, Option.map_some, Option.isSome_some, true_and, and_true, and_false, false_and, and_self, put2_rd, put1_rd, put_rd, Nat.one_ne_zero, Nat.zero_ne_one, List.cons.injEq, List.getElem?_cons_zero, List.getElem?_cons_succ, callK_fn s68, callK_fn s69, callK_fn s70, callK_fn s71, callK_fn s72, callK_fn s73, callK_fun s67, f67, hr1, hr2, hfill, reduceCtorEq, growU_rd, q1, q2, q3, q4, r22, r23, r25, r26, hz1, hw1, hw2, hb1, hb2, decide_true, decide_false, Bool.true_and, Bool.false_and, m23, upd_append, Upd.app]) k1 ?_
     simp only [rDoneD, rdD]
     simp only [↓go1, go2, go3, go4, reduceIte, Nat.reduceEqDiff, Nat.reduceAdd, Nat.zero_le, Nat.sub_zero, Nat.reduceSub, Nat.reduceLT, Nat.reduceLeDiff, c0, c1, c2, c3, c4, List.length_cons, List.length_nil, List.length_map, Nat.zero_add, rd_succ, rd_zero, Option.bind_some, Option.map_some, Option.isSome_some, true_and, and_true, and_false, false_and, and_self, put2_rd, put1_rd, put_rd, Nat.one_ne_zero, Nat.zero_ne_one, List.cons.injEq, List.getElem?_cons_zero, List.getElem?_cons_succ, callK_fn s68, callK_fn s69, callK_fn s70, callK_fn s71, callK_fn s72, callK_fn s73, callK_fun s67, f67, hr1, hr2, hfill, reduceCtorEq, growU_rd, q1, q2, q3, q4, r22, r23, r25, r26, hz1, hw1, hw2, hb1, hb2, decide_true, decide_false, Bool.true_and, Bool.false_and, m23, upd_append, Upd.app]
     intro i o x hx
     by_cases e4 : i = 4 :: fr
     ·exfalso
      rw [e4] at hx
      simp only [hr2, m23, false_and, if_false, q2', n4] at hx
      cases hx
     ·by_cases e22 : i = 22 :: fr
      ·exfalso
       rw [e22] at hx
       simp only [r22', m22, false_and, if_false, q5', n22] at hx
       cases hx
      ·have e4' : (i = 4 :: fr) = False := eq_false e4
       have e22' : (i = 22 :: fr) = False := eq_false e22
       simp only [e4', e22', false_and, if_false] at hx ⊢
       rw [List.map_append] at hx
       exact hx
    ·have hb1 : ((t.behind.length : Int) = 0) = False := eq_false (by omega)
     have hb2 : (t.behind.length = 0) = False := eq_false hb0
     simp only [↓go1, go2, go3, go4, reduceIte, Nat.reduceEqDiff, Nat.reduceAdd, Nat.zero_le, Nat.sub_zero, Nat.reduceSub, Nat.reduceLT, Nat.reduceLeDiff, c0, c1, c2, c3, c4, List.length_cons, List.length_nil, List.length_map, Nat.zero_add, rd_succ, rd_zero, Option.bind_some, Option.map_some, Option.isSome_some, true_and, and_true, and_false, false_and, and_self, put2_rd, put1_rd, put_rd, Nat.one_ne_zero, Nat.zero_ne_one, List.cons.injEq, List.getElem?_cons_zero, List.getElem?_cons_succ, callK_fn s68, callK_fn s69, callK_fn s70, callK_fn s71, callK_fn s72, callK_fn s73, callK_fun s67, f67, hr1, hr2, hfill, reduceCtorEq, growU_rd, q1, q2, q3, q4, r22, r23, r25, r26, hz1, hw1, hw2, hb1, hb2, decide_true, decide_false, Bool.true_and, Bool.false_and, m23, upd_append, Upd.app]
     intro i o x hx
     by_cases e4 : i = 4 :: fr
     ·exfalso
      rw [e4] at hx
      simp only [hr2, m23, false_and, if_false, q2', n4] at hx
      cases hx
     ·by_cases e22 : i = 22 :: fr
      ·exfalso
       rw [e22] at hx
       simp only [r22', m22, false_and, if_false, q5', n22] at hx
       cases hx
      ·have e4' : (i = 4 :: fr) = False := eq_false e4
       have e22' : (i = 22 :: fr) = False := eq_false e22
       simp only [e4', e22', false_and, if_false] at hx ⊢
       rw [List.map_append] at hx
       exact hx
  ·have hwc1 : (w = [99, 97, 108, 108]) = False := eq_false hw
   have hwc2 : (w = kCall) = False := eq_false hw
   by_cases hs : w = kSaid
   ·have hw1 : (w = [115, 97, 105, 100]) = True := eq_true hs
    have hw2 : (w = kSaid) = True := eq_true hs
    simp only [hwc2, hw2, if_true, if_false]
    simp only [↓go1, go2, go3, go4, reduceIte, Nat.reduceEqDiff, Nat.reduceAdd, Nat.zero_le, Nat.sub_zero, Nat.reduceSub, Nat.reduceLT, Nat.reduceLeDiff, c0, c1, c2, c3, c4, List.length_cons, List.length_nil, List.length_map, Nat.zero_add, rd_succ, rd_zero, Option.bind_some, Option.map_some, Option.isSome_some, true_and, and_true, and_false, false_and, and_self, put2_rd, put1_rd, put_rd, Nat.one_ne_zero, Nat.zero_ne_one, List.cons.injEq, List.getElem?_cons_zero, List.getElem?_cons_succ, callK_fn s68, callK_fn s69, callK_fn s70, callK_fn s71, callK_fn s72, callK_fn s73, callK_fun s67, f67, hr1, hr2, hfill, reduceCtorEq, growU_rd, q1, q2, q3, q4, r22, r23, r25, r26, hz1, hw1, hw2, hwc1, hwc2, decide_true, decide_false, Bool.true_and, Bool.false_and, m26]
    refine got_rd (ws := ws0) (b := b0) (by simp only [↓go1, go2, go3, go4, reduceIte, Nat.reduceEqDiff, Nat.reduceAdd, Nat.zero_le, Nat.sub_zero, Nat.reduceSub, Nat.reduceLT, Nat.reduceLeDiff, c0, c1, c2, c3, c4, List.length_cons, List.length_nil, List.length_map, Nat.zero_add, rd_succ, rd_zero, Option.bind_some, Option.map_some, Option.isSome_some, true_and, and_true, and_false, false_and, and_self, put2_rd, put1_rd, put_rd, Nat.one_ne_zero, Nat.zero_ne_one, List.cons.injEq, List.getElem?_cons_zero, List.getElem?_cons_succ, callK_fn s68, callK_fn s69, callK_fn s70, callK_fn s71, callK_fn s72, callK_fn s73, callK_fun s67, f67, hr1, hr2, hfill, reduceCtorEq, growU_rd, q1, q2, q3, q4, r22, r23, r25, r26, hz1, hw1, hw2, hwc1, hwc2, decide_true, decide_false, Bool.true_and, Bool.false_and, m26]) (by simp only [↓go1, go2, go3, go4, reduceIte, Nat.reduceEqDiff, Nat.reduceAdd, Nat.zero_le, Nat.sub_zero, Nat.reduceSub, Nat.reduceLT, Nat.reduceLeDiff, c0, c1, c2, c3, c4, List.length_cons, List.length_nil, List.length_map, Nat.zero_add, rd_succ, rd_zero, Option.bind_some, Option.map_some, Option.isSome_some, true_and, and_true, and_false, false_and, and_self, put2_rd, put1_rd, put_rd, Nat.one_ne_zero, Nat.zero_ne_one, List.cons.injEq, List.getElem?_cons_zero, List.getElem?_cons_succ, callK_fn s68, callK_fn s69, callK_fn s70, callK_fn s71, callK_fn s72, callK_fn s73, callK_fun s67, f67, hr1, hr2, hfill, reduceCtorEq, growU_rd, q1, q2, q3, q4, r22, r23, r25, r26, hz1, hw1, hw2, hwc1, hwc2, decide_true, decide_false, Bool.true_and, Bool.false_and, m26]) k0 ?_
    have k1 : okR (rText (ws0, b0)).2.1 := okR_text (r := (ws0, b0)) k0
    simp only [rTextD]
    generalize rText (ws0, b0) = a1 at k1 ⊢
    obtain ⟨a1, ws1, b1⟩ := a1
    simp only [rdD]
    simp only [↓go1, go2, go3, go4, reduceIte, Nat.reduceEqDiff, Nat.reduceAdd, Nat.zero_le, Nat.sub_zero, Nat.reduceSub, Nat.reduceLT, Nat.reduceLeDiff, c0, c1, c2, c3, c4, List.length_cons, List.length_nil, List.length_map, Nat.zero_add, rd_succ, rd_zero, Option.bind_some, Option.map_some, Option.isSome_some, true_and, and_true, and_false, false_and, and_self, put2_rd, put1_rd, put_rd, Nat.one_ne_zero, Nat.zero_ne_one, List.cons.injEq, List.getElem?_cons_zero, List.getElem?_cons_succ, callK_fn s68, callK_fn s69, callK_fn s70, callK_fn s71, callK_fn s72, callK_fn s73, callK_fun s67, f67, hr1, hr2, hfill, reduceCtorEq, growU_rd, q1, q2, q3, q4, r22, r23, r25, r26, hz1, hw1, hw2, hwc1, hwc2, decide_true, decide_false, Bool.true_and, Bool.false_and, m26]
    refine Need.intro ⟨by omega, rfl, growT_grow' o5 (fun e1 e2 => ?_)⟩ ?_
    ·have t4 : (tb = 4 :: fr) = False := eq_false (fun e => by rw [e, n4] at e2; cases e2)
     have t25 : (tb = 25 :: fr) = False := eq_false (fun e => by rw [e, n25] at e2; cases e2)
     simp only [app_nil, put2_rd, put1_rd, put_rd, t4, t25, false_and, if_false, D.cells]
    rw [app_fold hnb]
    simp only [↓go1, go2, go3, go4, reduceIte, Nat.reduceEqDiff, Nat.reduceAdd, Nat.zero_le, Nat.sub_zero, Nat.reduceSub, Nat.reduceLT, Nat.reduceLeDiff, c0, c1, c2, c3, c4, List.length_cons, List.length_nil, List.length_map, Nat.zero_add, rd_succ, rd_zero, Option.bind_some, Option.map_some, Option.isSome_some, true_and, and_true, and_false, false_and, and_self, put2_rd, put1_rd, put_rd, Nat.one_ne_zero, Nat.zero_ne_one, List.cons.injEq, List.getElem?_cons_zero, List.getElem?_cons_succ, callK_fn s68, callK_fn s69, callK_fn s70, callK_fn s71, callK_fn s72, callK_fn s73, callK_fun s67, f67, hr1, hr2, hfill, reduceCtorEq, growU_rd, q1, q2, q3, q4, r22, r23, r25, r26, hz1, hw1, hw2, hwc1, hwc2, decide_true, decide_false, Bool.true_and, Bool.false_and, m26]
    refine Need.intro (fun p hp l hl => ?_) ?_
    ·simp only [List.mem_cons, List.mem_nil_iff, or_false] at hp
     rcases hp with rfl | rfl
     all_goals
      simp only [List.getD_cons_succ, List.getD_cons_zero, wlocs, rds] at hl ⊢
      simp only [↓go1, go2, go3, go4, reduceIte, Nat.reduceEqDiff, Nat.reduceAdd, Nat.zero_le, Nat.sub_zero, Nat.reduceSub, Nat.reduceLT, Nat.reduceLeDiff, c0, c1, c2, c3, c4, List.length_cons, List.length_nil, List.length_map, Nat.zero_add, rd_succ, rd_zero, Option.bind_some, Option.map_some, Option.isSome_some, true_and, and_true, and_false, false_and, and_self, put2_rd, put1_rd, put_rd, Nat.one_ne_zero, Nat.zero_ne_one, List.cons.injEq, List.getElem?_cons_zero, List.getElem?_cons_succ, callK_fn s68, callK_fn s69, callK_fn s70, callK_fn s71, callK_fn s72, callK_fn s73, callK_fun s67, f67, hr1, hr2, hfill, reduceCtorEq, growU_rd, q1, q2, q3, q4, r22, r23, r25, r26, hz1, hw1, hw2, hwc1, hwc2, decide_true, decide_false, Bool.true_and, Bool.false_and, m26] at hl ⊢
     ·exact feet_one (of_eq_false hr2) hl
     ·exact feet_one (fun e => of_eq_false r25 e.symm) hl
    ·simp only [↓go1, go2, go3, go4, reduceIte, Nat.reduceEqDiff, Nat.reduceAdd, Nat.zero_le, Nat.sub_zero, Nat.reduceSub, Nat.reduceLT, Nat.reduceLeDiff, c0, c1, c2, c3, c4, List.length_cons, List.length_nil, List.length_map, Nat.zero_add, rd_succ, rd_zero, Option.bind_some, Option.map_some, Option.isSome_some, true_and, and_true, and_false, false_and, and_self, put2_rd, put1_rd, put_rd, Nat.one_ne_zero, Nat.zero_ne_one, List.cons.injEq, List.getElem?_cons_zero, List.getElem?_cons_succ, callK_fn s68, callK_fn s69, callK_fn s70, callK_fn s71, callK_fn s72, callK_fn s73, callK_fun s67, f67, hr1, hr2, hfill, reduceCtorEq, growU_rd, q1, q2, q3, q4, r22, r23, r25, r26, hz1, hw1, hw2, hwc1, hwc2, decide_true, decide_false, Bool.true_and, Bool.false_and, m26]
     refine got_rd (ws := ws1) (b := b1) (by simp only [↓go1, go2, go3, go4, reduceIte, Nat.reduceEqDiff, Nat.reduceAdd, Nat.zero_le, Nat.sub_zero, Nat.reduceSub, Nat.reduceLT, Nat.reduceLeDiff, c0, c1, c2, c3, c4, List.length_cons, List.length_nil, List.length_map, Nat.zero_add, rd_succ, rd_zero, Option.bind_some, Option.map_some, Option.isSome_some, true_and, and_true, and_false, false_and, and_self, put2_rd, put1_rd, put_rd, Nat.one_ne_zero, Nat.zero_ne_one, List.cons.injEq, List.getElem?_cons_zero, List.getElem?_cons_succ, callK_fn s68, callK_fn s69, callK_fn s70, callK_fn s71, callK_fn s72, callK_fn s73, callK_fun s67, f67, hr1, hr2, hfill, reduceCtorEq, growU_rd, q1, q2, q3, q4, r22, r23, r25, r26, hz1, hw1, hw2, hwc1, hwc2, decide_true, decide_false, Bool.true_and, Bool.false_and, m26, upd_append, Upd.app]) (by simp only [↓go1, go2, go3, go4, reduceIte, Nat.reduceEqDiff, Nat.reduceAdd, Nat.zero_le, Nat.sub_zero, Nat.reduceSub, Nat.reduceLT, Nat.reduceLeDiff, c0, c1, c2, c3, c4, List.length_cons, List.length_nil, List.length_map, Nat.zero_add, rd_succ, rd_zero, Option.bind_some, Option.map_some, Option.isSome_some, true_and, and_true, and_false, false_and, and_self, put2_rd, put1_rd, put_rd, Nat.one_ne_zero, Nat.zero_ne_one, List.cons.injEq, List.getElem?_cons_zero, List.getElem?_cons_succ, callK_fn s68, callK_fn s69, callK_fn s70, callK_fn s71, callK_fn s72, callK_fn s73, callK_fun s67, f67, hr1, hr2, hfill, reduceCtorEq, growU_rd, q1, q2, q3, q4, r22, r23, r25, r26, hz1, hw1, hw2, hwc1, hwc2, decide_true, decide_false, Bool.true_and, Bool.false_and, m26, upd_append, Upd.app]) k1 ?_
     simp only [rDoneD, rdD]
     simp only [↓go1, go2, go3, go4, reduceIte, Nat.reduceEqDiff, Nat.reduceAdd, Nat.zero_le, Nat.sub_zero, Nat.reduceSub, Nat.reduceLT, Nat.reduceLeDiff, c0, c1, c2, c3, c4, List.length_cons, List.length_nil, List.length_map, Nat.zero_add, rd_succ, rd_zero, Option.bind_some, Option.map_some, Option.isSome_some, true_and, and_true, and_false, false_and, and_self, put2_rd, put1_rd, put_rd, Nat.one_ne_zero, Nat.zero_ne_one, List.cons.injEq, List.getElem?_cons_zero, List.getElem?_cons_succ, callK_fn s68, callK_fn s69, callK_fn s70, callK_fn s71, callK_fn s72, callK_fn s73, callK_fun s67, f67, hr1, hr2, hfill, reduceCtorEq, growU_rd, q1, q2, q3, q4, r22, r23, r25, r26, hz1, hw1, hw2, hwc1, hwc2, decide_true, decide_false, Bool.true_and, Bool.false_and, m26, upd_append, Upd.app]
     intro i o x hx
     by_cases e4 : i = 4 :: fr
     ·exfalso
      rw [e4] at hx
      simp only [hr2, m26, false_and, if_false, q4', n4] at hx
      cases hx
     ·by_cases e25 : i = 25 :: fr
      ·exfalso
       rw [e25] at hx
       simp only [r25', m25, false_and, if_false, q6', n25] at hx
       cases hx
      ·have e4' : (i = 4 :: fr) = False := eq_false e4
       have e25' : (i = 25 :: fr) = False := eq_false e25
       simp only [e4', e25', false_and, if_false] at hx ⊢
       rw [List.map_append] at hx
       exact hx
   ·have hw1 : (w = [115, 97, 105, 100]) = False := eq_false hs
    have hw2 : (w = kSaid) = False := eq_false hs
    simp only [hwc2, hw2, if_false]
    simp only [↓go1, go2, go3, go4, reduceIte, Nat.reduceEqDiff, Nat.reduceAdd, Nat.zero_le, Nat.sub_zero, Nat.reduceSub, Nat.reduceLT, Nat.reduceLeDiff, c0, c1, c2, c3, c4, List.length_cons, List.length_nil, List.length_map, Nat.zero_add, rd_succ, rd_zero, Option.bind_some, Option.map_some, Option.isSome_some, true_and, and_true, and_false, false_and, and_self, put2_rd, put1_rd, put_rd, Nat.one_ne_zero, Nat.zero_ne_one, List.cons.injEq, List.getElem?_cons_zero, List.getElem?_cons_succ, callK_fn s68, callK_fn s69, callK_fn s70, callK_fn s71, callK_fn s72, callK_fn s73, callK_fun s67, f67, hr1, hr2, hfill, reduceCtorEq, growU_rd, q1, q2, q3, q4, r22, r23, r25, r26, hz1, hw1, hw2, hwc1, hwc2, decide_true, decide_false, Bool.true_and, Bool.false_and, m26, upd_append, Upd.app]
    intro i o x hx
    by_cases e4 : i = 4 :: fr
    ·exfalso
     rw [e4, n4] at hx
     cases hx
    ·have e4' : (i = 4 :: fr) = False := eq_false e4
     simp only [e4', false_and, if_false] at hx ⊢
     exact hx
end Go.Vd

namespace Go.Vd
open Go.RowKit
set_option linter.unusedSimpArgs false
set_option linter.unusedVariables false
set_option maxRecDepth 10000
structure PInv (m : Mem) (c : Nat) (t : Td) (tc tb : Id) : Prop where
 td : TdAt m [2] t.calls.isEmpty tc t.behind.isEmpty tb t
 z : TdAt m [0] true [] true [] zeroT
 gc : growT m 65 t.calls.isEmpty tc t.calls.isEmpty = true
 gb : growT m 9 t.behind.isEmpty tb t.behind.isEmpty = true
 fc : tc = [] ∨ ∃ j, tc = [23, j] ∧ j < c
 fb : tb = [] ∨ ∃ j, tb = [26, j] ∧ j < c
theorem TdAt.congr {m m' : Mem} {r : Id} {nc : Bool} {tc : Id} {nb : Bool} {tb : Id} {t : Td} (h : TdAt m r nc tc nb tb t) (he : ∀ o, m' r o = m r o) : TdAt m' r nc tc nb tb t :=
 ⟨by rw [he]; exact h.c0, by rw [he]; exact h.c1, by rw [he]; exact h.c2, by rw [he]; exact h.c3, by rw [he]; exact h.c4⟩
theorem growT_new {m : Mem} {e : Nat} {f : Id} (hf : f ≠ []) (h : m f 0 = some (.tok (e + 1))) : growT m e false f false = true := by
 unfold growT
 rw [if_neg (by simp), h]
 cases f with
 | nil => exact absurd rfl hf
 | cons a b => simp
theorem PInv.more {m : Mem} {c c' : Nat} {t : Td} {tc tb : Id} (h : PInv m c t tc tb) (hc : c ≤ c') : PInv m c' t tc tb :=
 ⟨h.td, h.z, h.gc, h.gb, h.fc.imp id (fun ⟨j, e, hj⟩ => ⟨j, e, by omega⟩), h.fb.imp id (fun ⟨j, e, hj⟩ => ⟨j, e, by omega⟩)⟩
theorem isEmpty_snoc {α : Type} (l : List α) (x : α) : (l ++ [x]).isEmpty = false := by cases l <;> rfl
theorem read_inv {m : Mem} {c f : Nat} {t : Td} {tc tb : Id} {k : Int} {s : Bs} (h : PInv m c t tc tb) (hf : c ≤ f) :
  ∃ tc' tb', PInv (Upd.app m (readU [f] [2] t.calls.isEmpty tc t.behind.isEmpty tb t k s)) (f + 1) (readP t (decide (k = 0)) s).1 tc' tb' := by
 have n1 : tc ≠ [0] := by rcases h.fc with rfl | ⟨j, rfl, _⟩ <;> simp
 have n2 : tc ≠ [2] := by rcases h.fc with rfl | ⟨j, rfl, _⟩ <;> simp
 have n3 : tb ≠ [0] := by rcases h.fb with rfl | ⟨j, rfl, _⟩ <;> simp
 have n4 : tb ≠ [2] := by rcases h.fb with rfl | ⟨j, rfl, _⟩ <;> simp
 have n5 : tc ≠ [26, f] := by rcases h.fc with rfl | ⟨j, rfl, _⟩ <;> simp
 have n6 : tb ≠ [23, f] := by rcases h.fb with rfl | ⟨j, rfl, _⟩ <;> simp
 have n7 : t.calls.isEmpty = false → t.behind.isEmpty = false → tc ≠ tb := by
  intro a b e
  have g1 := growT_tok h.gc a
  have g2 := growT_tok h.gb b
  rw [e, g2] at g1; simp at g1
 have n8 : ([0] : Id) ≠ [2] := by simp
 have n9 : ([2] : Id) ≠ [0] := by simp
 have m1 : ([0] : Id) ≠ [23, f] := by simp
 have m2 : ([2] : Id) ≠ [23, f] := by simp
 have m3 : ([0] : Id) ≠ [26, f] := by simp
 have m4 : ([2] : Id) ≠ [26, f] := by simp
 have m5 : ([23, f] : Id) ≠ [2] := by simp
 have m6 : ([26, f] : Id) ≠ [2] := by simp
 unfold readU
 by_cases hz : k = 0
 ·rw [if_pos hz]
  have hd : decide (k = 0) = true := by simp [hz]
  rw [hd]
  have hc : (readP t true s).1.calls = t.calls := rfl
  have hb : (readP t true s).1.behind = t.behind := rfl
  generalize (readP t true s).1 = t' at hc hb ⊢
  refine ⟨tc, tb, ⟨?_, ?_, ?_, ?_, ?_⟩, h.z.congr (fun o => ?_), ?_, ?_, ?_, ?_⟩
  ·rw [hc]; simpa [Upd.app, put_rd] using h.td.c0
  ·simp [Upd.app, put_rd]
  ·simp [Upd.app, put_rd]
  ·simp [Upd.app, put_rd]
  ·rw [hb]; simpa [Upd.app, put_rd] using h.td.c4
  ·simp [Upd.app, put_rd]
  ·rw [hc, ← h.gc]; exact growT_congr (by simp [Upd.app, put_rd])
  ·rw [hb, ← h.gb]; exact growT_congr (by simp [Upd.app, put_rd])
  ·exact (h.more (by omega : c ≤ f + 1)).fc
  ·exact (h.more (by omega : c ≤ f + 1)).fb
 ·rw [if_neg hz]
  have hd : decide (k = 0) = false := by simp [hz]
  rw [hd]
  by_cases hk : (rNext (splitB s, false)).1 = kCall
  ·rw [if_pos hk]
   obtain ⟨d, hc⟩ : ∃ d, (readP t false s).1.calls = t.calls ++ [d] := ⟨(rCall (rNext (splitB s, false)).2).1, by simp [readP, hk]⟩
   have hb : (readP t false s).1.behind = t.behind := by simp [readP, hk]
   have e1 : (readP t false s).1.ticks = t.ticks := by simp [readP, hk]
   have e2 : (readP t false s).1.left = t.left := by simp [readP, hk]
   have e3 : (readP t false s).1.shut = t.shut := by simp [readP, hk]
   generalize (readP t false s).1 = t' at hc hb e1 e2 e3 ⊢
   simp only [upd_append]
   refine ⟨[23, f], tb, ⟨?_, ?_, ?_, ?_, ?_⟩, h.z.congr (fun o => ?_), ?_, ?_, ?_, ?_⟩
   ·rw [hc, isEmpty_snoc]; simp [Upd.app, put1_rd]
   ·rw [e1, ← h.td.c1]; simp [Upd.app, put1_rd, growU_rd]
   ·rw [e2, ← h.td.c2]; simp [Upd.app, put1_rd, growU_rd]
   ·rw [e3, ← h.td.c3]; simp [Upd.app, put1_rd, growU_rd]
   ·rw [hb, ← h.td.c4]; simp [Upd.app, put1_rd, growU_rd]
   ·simp [Upd.app, put1_rd, growU_rd, n1.symm]
   ·rw [hc, isEmpty_snoc]; exact growT_new (by simp) (by simp [Upd.app, put1_rd, growU_rd])
   ·rw [hb]
    by_cases hbe : t.behind.isEmpty = true
    ·simp [growT, hbe]
    ·have hbe : t.behind.isEmpty = false := by simpa using hbe
     rw [← h.gb]; refine growT_congr ?_
     by_cases hce : t.calls.isEmpty = true
     ·simp [Upd.app, put1_rd, growU_rd, n4, n6, hce]
     ·have hce : t.calls.isEmpty = false := by simpa using hce
      simp [Upd.app, put1_rd, growU_rd, n4, n6, (n7 hce hbe).symm]
   ·exact .inr ⟨f, rfl, by omega⟩
   ·exact (h.more (by omega : c ≤ f + 1)).fb
  ·rw [if_neg hk]
   by_cases hs : (rNext (splitB s, false)).1 = kSaid
   ·rw [if_pos hs]
    have hks : ¬ kSaid = kCall := by decide
    obtain ⟨d, hb⟩ : ∃ d, (readP t false s).1.behind = t.behind ++ [d] := ⟨(rText (rNext (splitB s, false)).2).1, by simp [readP, hs, hks]⟩
    have hc : (readP t false s).1.calls = t.calls := by simp [readP, hs, hks]
    have e1 : (readP t false s).1.ticks = t.ticks := by simp [readP, hs, hks]
    have e2 : (readP t false s).1.left = t.left := by simp [readP, hs, hks]
    have e3 : (readP t false s).1.shut = t.shut := by simp [readP, hs, hks]
    generalize (readP t false s).1 = t' at hc hb e1 e2 e3 ⊢
    simp only [upd_append]
    refine ⟨tc, [26, f], ⟨?_, ?_, ?_, ?_, ?_⟩, h.z.congr (fun o => ?_), ?_, ?_, ?_, ?_⟩
    ·rw [hc, ← h.td.c0]; simp [Upd.app, put1_rd, growU_rd, n4.symm]
    ·rw [e1, ← h.td.c1]; simp [Upd.app, put1_rd, growU_rd]
    ·rw [e2, ← h.td.c2]; simp [Upd.app, put1_rd, growU_rd]
    ·rw [e3, ← h.td.c3]; simp [Upd.app, put1_rd, growU_rd]
    ·rw [hb, isEmpty_snoc]; simp [Upd.app, put1_rd]
    ·simp [Upd.app, put1_rd, growU_rd, n3.symm]
    ·rw [hc]
     by_cases hce : t.calls.isEmpty = true
     ·simp [growT, hce]
     ·have hce : t.calls.isEmpty = false := by simpa using hce
      rw [← h.gc]; refine growT_congr ?_
      by_cases hbe : t.behind.isEmpty = true
      ·simp [Upd.app, put1_rd, growU_rd, n2, n5, hbe]
      ·have hbe : t.behind.isEmpty = false := by simpa using hbe
       simp [Upd.app, put1_rd, growU_rd, n2, n5, n7 hce hbe]
    ·rw [hb, isEmpty_snoc]; exact growT_new (by simp) (by simp [Upd.app, put1_rd, growU_rd])
    ·exact (h.more (by omega : c ≤ f + 1)).fc
    ·exact .inr ⟨f, rfl, by omega⟩
   ·rw [if_neg hs]
    have ht : (readP t false s).1 = t := by simp [readP, hk, hs]
    rw [ht]
    exact ⟨tc, tb, h.more (by omega)⟩
theorem fill_nil {cs : List D} : fillD cs [] = some cs := rfl
theorem rowU_any {S : Summs} {ns : Id} {c k : Nat} {ops l : List DOper} {s : Nat → D} {dst : Option Nat} {m : Mem} {K} {d : D} {u : Upd} : rowU S ns c ops l k s dst m K d u = rowK S ns c ops l k (setS s dst d) (Upd.app m u) K := rfl
theorem got_read {m : Mem} {fr r : Id} {nc : Bool} {tc : Id} {nb : Bool} {tb : Id} {t : Td} {k : Int} {s : Bs} {K : D × Upd → Prop} {g} (T : TdAt m r nc tc nb tb t) (hok : okRd m nc tc nb tb t s = true) (h : K (.bool (readP t (decide (k = 0)) s).2, readU fr r nc tc nb tb t k s)) : Got (readQ.ex ([.ptr r 0, .int .i64 k, .str s] ++ []) m fr) K g := by
 refine Got.intro ?_ h
 simp only [List.append_nil, readQ, tdAt_of T]
 exact if_pos hok
theorem readP_len (t : Td) (f : Bool) (s : Bs) : (readP t f s).1.calls.length ≤ t.calls.length + 1 ∧ (readP t f s).1.behind.length ≤ t.behind.length + 1 := by
 unfold readP
 cases f with
 | true => simp
 | false =>
  simp only [Bool.false_eq_true, if_false]
  split
  ·simp
  ·split
   ·simp
   ·simp
set_option maxHeartbeats 2000000 in
theorem loop13 {S : Summs} {l : List Bs} {nl0 : Bool} {t0 : Id} {Q : Ex → St → Prop} (s35 : S 35 = some readQ) (hb : l.length ≤ 1000) (hlen : ∀ s ∈ l, s.length ≤ 1000000) :
  ∀ (n k : Nat) (t : Td) (tc tb : Id) st g, n = l.length - k → k ≤ l.length → t.calls.length ≤ k → t.behind.length ≤ k → st.s 9 = .int .i64 (k : Int) → st.s 8 = .int .i64 (l.length : Int) → st.s 7 = .slice nl0 t0 (l.map .str) → st.s 4 = .ptr [2] 0 → st.s 2 = .ptr [0] 0 → st.s 0 = .slice nl0 t0 (l.map .str) → PInv st.m st.c t tc tb →
   (∀ st' t' tc' tb', goP (decide (k = 0)) t (l.drop k) = some t' → st'.s 4 = .ptr [2] 0 → st'.s 2 = .ptr [0] 0 → st'.s 0 = .slice nl0 t0 (l.map .str) → PInv st'.m st'.c t' tc' tb' → Q (.exit 0) st') →
   (∀ st', goP (decide (k = 0)) t (l.drop k) = none → st'.s 2 = .ptr [0] 0 → st'.s 3 = .int .i64 4 → TdAt st'.m [0] true [] true [] zeroT → Q .ret st') →
   loopW S [] dc13l0 Q st g := by
 intro n
 induction n with
 | zero =>
  intro k t tc tb st g hn hk hlc hlb h9 h8 h7 h4 h2 h0 hI hexit hret
  refine wp_loopd dc13l0.eq_1 ?_
  have : ¬ ((k : Int) < l.length) := by omega
  simp only [↓go1, go2, go3, go4, reduceIte, Nat.reduceEqDiff, Nat.reduceAdd, h9, h8, this]
  refine hexit _ t tc tb ?_ h4 h2 h0 (hI.more (by simp only; omega))
  rw [List.drop_of_length_le (by omega)]
  cases decide (k = 0) <;> rfl
 | succ n ih =>
  intro k t tc tb st g hn hk hlc hlb h9 h8 h7 h4 h2 h0 hI hexit hret
  refine wp_loopd dc13l0.eq_1 ?_
  have hlt : ((k : Int) < l.length) := by omega
  have hk0 : (0 : Int) ≤ (k : Int) := by omega
  have hkl : k < l.length := by omega
  have hx : (l.map D.str)[(k : Int).toNat]? = some (.str l[k]) := by simp [hkl]
  have hw : IntKind.i64.wrap ((k : Int) + 1) = (k : Int) + 1 := IntWalk.i64_in _ ⟨by omega, by omega⟩
  have hdr : l.drop k = l[k] :: l.drop (k + 1) := List.drop_eq_getElem_cons hkl
  have hls := hlen l[k] (List.getElem_mem hkl)
  have hok : okRd st.m t.calls.isEmpty tc t.behind.isEmpty tb t l[k] = true := by
   simp only [okRd, hI.gc, hI.gb, Bool.and_true, Bool.and_eq_true, decide_eq_true_eq]
   exact ⟨⟨hls, by omega⟩, by omega⟩
  simp only [↓go1, go2, go3, go4, reduceIte, Nat.reduceEqDiff, Nat.reduceAdd, Nat.zero_le, Nat.sub_zero, Nat.reduceSub, Nat.reduceLT, Nat.reduceLeDiff, List.length_cons, List.length_nil, List.length_map, Nat.zero_add, rd_succ, rd_zero, Option.bind_some, Option.map_some, Option.isSome_some, true_and, and_true, and_false, false_and, and_self, put_rd, Nat.one_ne_zero, Nat.zero_ne_one, List.cons.injEq, List.getElem?_cons_zero, List.getElem?_cons_succ, fill_nil, h9, h8, h7, h4, h2, h0, hlt, hk0, hx, hw, callK_fn s35]
  refine got_read hI.td hok ?_
  obtain ⟨tc', tb', hI'⟩ := read_inv (f := st.c + 1 + 5 + 2) (k := (k : Int)) (s := l[k]) hI (by omega)
  have hd : decide ((k : Int) = 0) = decide (k = 0) := by simp
  have hl := readP_len t (decide (k = 0)) l[k]
  simp only [rowU_any]
  generalize Upd.app st.m (readU [st.c + 1 + 5 + 2] [2] t.calls.isEmpty tc t.behind.isEmpty tb t (k : Int) l[k]) = m1 at hI' ⊢
  rw [hd] at hI' ⊢
  rw [hdr] at hexit hret
  simp only [goP] at hexit hret
  generalize readP t (decide (k = 0)) l[k] = p at hI' hl hexit hret ⊢
  obtain ⟨t', b⟩ := p
  cases b with
  | false =>
   simp only [Bool.false_eq_true, if_false] at hexit hret
   simp only [↓go1, go2, go3, go4, reduceIte, Nat.reduceEqDiff, Nat.reduceAdd, Nat.zero_le, Nat.sub_zero, Nat.reduceSub, Nat.reduceLT, Nat.reduceLeDiff, List.length_cons, List.length_nil, List.length_map, Nat.zero_add, rd_succ, rd_zero, Option.bind_some, Option.map_some, Option.isSome_some, true_and, and_true, and_false, false_and, and_self, put_rd, Nat.one_ne_zero, Nat.zero_ne_one, List.cons.injEq, List.getElem?_cons_zero, List.getElem?_cons_succ, fill_nil, h9, h8, h7, h4, h2, h0, hw, hI'.z.c0, hI'.z.c1, hI'.z.c2, hI'.z.c3, hI'.z.c4]
   exact hret _ trivial h2 rfl ⟨by simp [put_rd, zeroT], by simp [put_rd, zeroT], by simp [put_rd, zeroT], by simp [put_rd, zeroT], by simp [put_rd, zeroT]⟩
  | true =>
   simp only [if_true] at hexit hret
   simp only [↓go1, go2, go3, go4, reduceIte, Nat.reduceEqDiff, Nat.reduceAdd, Nat.zero_le, Nat.sub_zero, Nat.reduceSub, Nat.reduceLT, Nat.reduceLeDiff, List.length_cons, List.length_nil, List.length_map, Nat.zero_add, rd_succ, rd_zero, Option.bind_some, Option.map_some, Option.isSome_some, true_and, and_true, and_false, false_and, and_self, put_rd, Nat.one_ne_zero, Nat.zero_ne_one, List.cons.injEq, List.getElem?_cons_zero, List.getElem?_cons_succ, fill_nil, h9, h8, h7, h4, h2, h0, hw, hI'.z.c0, hI'.z.c1, hI'.z.c2, hI'.z.c3, hI'.z.c4]
   have hd2 : decide (k + 1 = 0) = false := by simp
   exact ih (k + 1) t' tc' tb' _ _ (by omega) (by omega) (by simp only at hl; omega) (by simp only at hl; omega) rfl h8 h7 h4 h2 h0 (hI'.more (by simp only; omega))
    (fun st' t2 tc2 tb2 e => by rw [hd2] at e; exact hexit st' t2 tc2 tb2 e) (fun st' e => by rw [hd2] at e; exact hret st' e)
theorem ldD_td {m : Mem} {r : Id} {nc : Bool} {tc : Id} {nb : Bool} {tb : Id} {t : Td} (h : TdAt m r nc tc nb tb t) : ldD m (some 5) (.ptr r 0) = some (.agg [.slice nc tc (t.calls.map dnD), .int .i64 t.ticks, .int .i64 t.left, .bool t.shut, .slice nb tb (t.behind.map .str)]) := by
 have : rdCells m r 0 5 = some [.slice nc tc (t.calls.map dnD), .int .i64 t.ticks, .int .i64 t.left, .bool t.shut, .slice nb tb (t.behind.map .str)] := by
  simp only [rd_succ, rd_zero, Nat.zero_add, Nat.reduceAdd, h.c0, h.c1, h.c2, h.c3, h.c4, Option.bind_some, Option.map_some]
 rw [ldD_agg, this]; rfl
theorem res_ct {s : Nat → D} {m : Mem} {k : Option Nat} {a t : Nat} : resOf [.cell k a, .t t] s m = (ldD m k (s a)).map fun d => .tup [d, s t] := by
 simp only [resOf, rvAll, RV.of]
 cases ldD m k (s a) <;> rfl
def parsed (o : Option Td) : D := match o with
 | some t => .tup [tdD t.calls.isEmpty t.behind.isEmpty t, .int .i64 0]
 | none => .tup [tdD true true zeroT, .int .i64 4]
def F13 : List D → Option D
 | [.slice _ _ xs] => match strsOf xs with
  | some l => if l.length ≤ 1000 ∧ ∀ s ∈ l, s.length ≤ 1000000 then some (parsed (parseB l)) else none
  | none => none
 | _ => none
set_option maxHeartbeats 2000000 in
theorem ok13 {P : Program} (hd : Desk P) (h25 : (funS F25).ok P 25) (h67 : (funS Fsplit).ok P 67) (h15 : (funS F15).ok P 15) : (funS F13).ok P 13 := by
 have hS : Summs.ok P (tabL [(35, readQ), (15, funS F15)]) := tabL_cons (ok35 hd h25 h67) (tabL_cons h15 tabL_nil)
 have s35 : tabL [(35, readQ), (15, funS F15)] 35 = some readQ := rfl
 have s15 : tabL [(35, readQ), (15, funS F15)] 15 = some (funS F15) := rfl
 generalize tabL [(35, readQ), (15, funS F15)] = S at hS s35 s15
 refine fun_ok (S := S) hS hd.f13 (fun ds r h => ?_) (fun ds r h => ?_)
 ·unfold F13 at h; split at h
  ·simp
  ·cases h
 ·unfold F13 at h; split at h
  ·rename_i nl t xs
   split at h
   ·rename_i l hl
    obtain rfl := strsOf_some hl
    split at h
    ·rename_i hb
     obtain ⟨hb1, hb2⟩ := hb
     simp only [Option.some.injEq] at h
     subst h
     unfold dc13
     simp only [↓go1, go2, go3, go4, reduceIte, Nat.reduceEqDiff, Nat.reduceAdd, Nat.zero_le, Nat.sub_zero, Nat.reduceSub, Nat.reduceLT, Nat.reduceLeDiff, List.length_cons, List.length_nil, List.length_map, Nat.zero_add, rd_succ, rd_zero, Option.bind_some, Option.map_some, Option.isSome_some, true_and, and_true, and_false, false_and, and_self, put_rd, Nat.one_ne_zero, Nat.zero_ne_one, List.cons.injEq, List.getElem?_cons_zero, List.getElem?_cons_succ, fill_nil]
     refine loop13 (l := l) s35 hb1 hb2 l.length 0 zeroT [] [] _ _ rfl (by omega) (by simp [zeroT]) (by simp [zeroT]) rfl rfl rfl rfl rfl rfl ?_ (fun st t' tc tb e h4 h2 h0 hI => ?_) (fun st e h2 h3 hz => ?_)
     ·refine ⟨⟨rfl, rfl, rfl, rfl, rfl⟩, ⟨rfl, rfl, rfl, rfl, rfl⟩, rfl, rfl, .inl rfl, .inl rfl⟩
     ·have hp := parseP_eq l
      have e' : goP true zeroT l = some t' := by simpa using e
      rw [e'] at hp
      simp only at hp
      rw [← hp]
      obtain ⟨T, Z, _, _, _, _⟩ := hI
      have x20 : ([0] : Id) = [2] ↔ False := by simp
      have f15 : ∀ x y, F15 [.agg [.slice t'.calls.isEmpty x (t'.calls.map dnD), .int .i64 t'.ticks, .int .i64 t'.left, .bool t'.shut, .slice t'.behind.isEmpty y (t'.behind.map .str)]] = some (.int .i64 (checkB t')) := fun x y => by
       simp only [F15, tdOf, dnsOf_map, strsOf_map]
      by_cases hl0 : l.length = 0
      ·have g1 : ((l.length : Int) = 0) = True := eq_true (by omega)
       have g2 : (l.length = 0) = True := eq_true hl0
       simp only [↓go1, go2, go3, go4, reduceIte, Nat.reduceEqDiff, Nat.reduceAdd, Nat.zero_le, Nat.sub_zero, Nat.reduceSub, Nat.reduceLT, Nat.reduceLeDiff, List.length_cons, List.length_nil, List.length_map, Nat.zero_add, rd_succ, rd_zero, Option.bind_some, Option.map_some, Option.isSome_some, true_and, and_true, and_false, false_and, and_self, put_rd, Nat.one_ne_zero, Nat.zero_ne_one, List.cons.injEq, List.getElem?_cons_zero, List.getElem?_cons_succ, fill_nil, h2, h0, h4, callK_fun s15, f15, T.c0, T.c1, T.c2, T.c3, T.c4, Z.c0, Z.c1, Z.c2, Z.c3, Z.c4, res_ct, ldD_agg, x20, g1, g2, true_or, false_or, or_true, or_false]
       exact ⟨rfl, rfl⟩
      ·have g1 : ((l.length : Int) = 0) = False := eq_false (by omega)
       have g2 : (l.length = 0) = False := eq_false hl0
       by_cases hc : checkB t' = 0
       ·have g3 : (checkB t' ≠ 0) = False := eq_false (fun h => h hc)
        have g4 : (checkB t' = 0) = True := eq_true hc
        simp only [↓go1, go2, go3, go4, reduceIte, Nat.reduceEqDiff, Nat.reduceAdd, Nat.zero_le, Nat.sub_zero, Nat.reduceSub, Nat.reduceLT, Nat.reduceLeDiff, List.length_cons, List.length_nil, List.length_map, Nat.zero_add, rd_succ, rd_zero, Option.bind_some, Option.map_some, Option.isSome_some, true_and, and_true, and_false, false_and, and_self, put_rd, Nat.one_ne_zero, Nat.zero_ne_one, List.cons.injEq, List.getElem?_cons_zero, List.getElem?_cons_succ, fill_nil, h2, h0, h4, callK_fun s15, f15, T.c0, T.c1, T.c2, T.c3, T.c4, Z.c0, Z.c1, Z.c2, Z.c3, Z.c4, res_ct, ldD_agg, x20, g1, g2, g3, g4, true_or, false_or, or_true, or_false]
        exact ⟨rfl, rfl⟩
       ·have g3 : (checkB t' ≠ 0) = True := eq_true hc
        have g4 : (checkB t' = 0) = False := eq_false hc
        simp only [↓go1, go2, go3, go4, reduceIte, Nat.reduceEqDiff, Nat.reduceAdd, Nat.zero_le, Nat.sub_zero, Nat.reduceSub, Nat.reduceLT, Nat.reduceLeDiff, List.length_cons, List.length_nil, List.length_map, Nat.zero_add, rd_succ, rd_zero, Option.bind_some, Option.map_some, Option.isSome_some, true_and, and_true, and_false, false_and, and_self, put_rd, Nat.one_ne_zero, Nat.zero_ne_one, List.cons.injEq, List.getElem?_cons_zero, List.getElem?_cons_succ, fill_nil, h2, h0, h4, callK_fun s15, f15, T.c0, T.c1, T.c2, T.c3, T.c4, Z.c0, Z.c1, Z.c2, Z.c3, Z.c4, res_ct, ldD_agg, x20, g1, g2, g3, g4, true_or, false_or, or_true, or_false]
        exact ⟨rfl, rfl⟩
     ·have hp := parseP_eq l
      have e' : goP true zeroT l = none := by simpa using e
      rw [e'] at hp
      simp only at hp
      rw [← hp]
      simp only [↓go1, go2, go3, go4, reduceIte, Nat.reduceEqDiff, Nat.reduceAdd, Nat.zero_le, Nat.sub_zero, Nat.reduceSub, Nat.reduceLT, Nat.reduceLeDiff, Nat.zero_add, rd_succ, rd_zero, Option.bind_some, Option.map_some, Option.isSome_some, res_ct, ldD_agg, h2, h3, hz.c0, hz.c1, hz.c2, hz.c3, hz.c4]
      exact ⟨rfl, rfl⟩
    ·cases h
   ·cases h
  ·cases h
end Go.Vd

namespace Go.Vd
open Go.RowKit
set_option linter.unusedSimpArgs false
set_option linter.unusedVariables false
set_option maxRecDepth 10000
structure LInv (m : Mem) (c : Nat) (t : Td) (tc tb : Id) : Prop where
 td : TdAt m [2] t.calls.isEmpty tc t.behind.isEmpty tb t
 z : TdAt m [0] true [] true [] zeroT
 gc : growT m 62 t.calls.isEmpty tc t.calls.isEmpty = true
 gb : growT m 9 t.behind.isEmpty tb t.behind.isEmpty = true
 fc : tc = [] ∨ ∃ j, tc = [j] ∧ 3 ≤ j ∧ j < c
 fb : tb = [] ∨ ∃ j, tb = [j] ∧ 3 ≤ j ∧ j < c
 c3 : 3 ≤ c
theorem LInv.more {m : Mem} {c c' : Nat} {t : Td} {tc tb : Id} (h : LInv m c t tc tb) (hc : c ≤ c') : LInv m c' t tc tb :=
 ⟨h.td, h.z, h.gc, h.gb, h.fc.imp id (fun ⟨j, e, a, hj⟩ => ⟨j, e, a, by omega⟩), h.fb.imp id (fun ⟨j, e, a, hj⟩ => ⟨j, e, a, by omega⟩), by have := h.c3; omega⟩
theorem LInv.call {m : Mem} {c c' a b : Nat} {t : Td} {tc tb : Id} (h : LInv m c t tc tb) (ha : c ≤ a) (hb : a < b) (hc : b < c') (d : Dn) :
  LInv ((Upd.app (m.put [a] 0 [.tok 63]) (growU 62 [b] (.slice t.calls.isEmpty tc (t.calls.map dnD)))).put [2] 0 [.slice false [b] (t.calls.map dnD ++ [dnD d])]) c' { t with calls := t.calls ++ [d] } [b] tb := by
 obtain ⟨⟨c0, c1, c2, c3, c4⟩, Z, gc, gb, fc, fb, hc3⟩ := h
 have n1 : ([2] : Id) ≠ tc := by rcases fc with rfl | ⟨j, rfl, h, _⟩ <;> simp; omega
 have n2 : tb ≠ [2] := by rcases fb with rfl | ⟨j, rfl, h, _⟩ <;> simp; omega
 have n3 : ([0] : Id) ≠ tc := by rcases fc with rfl | ⟨j, rfl, h, _⟩ <;> simp; omega
 have n5 : tb ≠ [a] := by rcases fb with rfl | ⟨j, rfl, h, _⟩ <;> simp; omega
 have n6 : tb ≠ [b] := by rcases fb with rfl | ⟨j, rfl, h, _⟩ <;> simp; omega
 have n7 : t.calls.isEmpty = false → t.behind.isEmpty = false → tb ≠ tc := by
  intro a b e
  have g1 := growT_tok gc a
  have g2 := growT_tok gb b
  rw [← e, g2] at g1; simp at g1
 have m1 : ([2] : Id) ≠ [a] := by simp; omega
 have m2 : ([2] : Id) ≠ [b] := by simp; omega
 have m3 : ([0] : Id) ≠ [a] := by simp; omega
 have m4 : ([0] : Id) ≠ [b] := by simp; omega
 have m5 : ([b] : Id) ≠ [2] := by simp; omega
 have m6 : ([0] : Id) ≠ [2] := by simp
 refine ⟨⟨?_, ?_, ?_, ?_, ?_⟩, Z.congr (fun o => ?_), ?_, ?_, ?_, ?_, by omega⟩
 ·simp only [isEmpty_snoc, put1_rd, and_self, if_true, List.map_append]; rfl
 ·simp [put1_rd, growU_rd, c1]
 ·simp [put1_rd, growU_rd, c2]
 ·simp [put1_rd, growU_rd, c3]
 ·simp [put1_rd, growU_rd, c4]
 ·simp only [put1_rd, growU_rd, m6, m4, m3, n3, false_and, and_false, if_false]
 ·simp only [isEmpty_snoc]; exact growT_new (by simp) (by simp only [put1_rd, growU_rd, m5, false_and, if_false, and_self, if_true])
 ·by_cases hbe : t.behind.isEmpty = true
  ·simp [growT, hbe]
  ·have hbe : t.behind.isEmpty = false := by simpa using hbe
   rw [← gb]; refine growT_congr ?_
   by_cases hce : t.calls.isEmpty = true
   ·simp only [put1_rd, growU_rd, n2, n5, n6, hce, false_and, if_false, Bool.true_eq_false]
   ·have hce : t.calls.isEmpty = false := by simpa using hce
    simp only [put1_rd, growU_rd, n2, n5, n6, n7 hce hbe, false_and, and_false, if_false]
 ·exact .inr ⟨b, rfl, by omega, hc⟩
 ·exact fb.imp id (fun ⟨j, e, x, y⟩ => ⟨j, e, x, by omega⟩)
theorem LInv.said {m : Mem} {c c' a b : Nat} {t : Td} {tc tb : Id} (h : LInv m c t tc tb) (ha : c ≤ a) (hb : a < b) (hc : b < c') (d : Bs) :
  LInv ((Upd.app (m.put [a] 0 [.tok 10]) (growU 9 [b] (.slice t.behind.isEmpty tb (t.behind.map .str)))).put [2] 4 [.slice false [b] (t.behind.map .str ++ [.str d])]) c' { t with behind := t.behind ++ [d] } tc [b] := by
 obtain ⟨⟨c0, c1, c2, c3, c4⟩, Z, gc, gb, fc, fb, hc3⟩ := h
 have n1 : ([2] : Id) ≠ tb := by rcases fb with rfl | ⟨j, rfl, h, _⟩ <;> simp; omega
 have n2 : tc ≠ [2] := by rcases fc with rfl | ⟨j, rfl, h, _⟩ <;> simp; omega
 have n3 : ([0] : Id) ≠ tb := by rcases fb with rfl | ⟨j, rfl, h, _⟩ <;> simp; omega
 have n5 : tc ≠ [a] := by rcases fc with rfl | ⟨j, rfl, h, _⟩ <;> simp; omega
 have n6 : tc ≠ [b] := by rcases fc with rfl | ⟨j, rfl, h, _⟩ <;> simp; omega
 have n7 : t.calls.isEmpty = false → t.behind.isEmpty = false → tc ≠ tb := by
  intro a b e
  have g1 := growT_tok gc a
  have g2 := growT_tok gb b
  rw [e, g2] at g1; simp at g1
 have m1 : ([2] : Id) ≠ [a] := by simp; omega
 have m2 : ([2] : Id) ≠ [b] := by simp; omega
 have m3 : ([0] : Id) ≠ [a] := by simp; omega
 have m4 : ([0] : Id) ≠ [b] := by simp; omega
 have m5 : ([b] : Id) ≠ [2] := by simp; omega
 have m6 : ([0] : Id) ≠ [2] := by simp
 refine ⟨⟨?_, ?_, ?_, ?_, ?_⟩, Z.congr (fun o => ?_), ?_, ?_, ?_, ?_, by omega⟩
 ·simp [put1_rd, growU_rd, c0, m1, m2, n1]
 ·simp [put1_rd, growU_rd, c1]
 ·simp [put1_rd, growU_rd, c2]
 ·simp [put1_rd, growU_rd, c3]
 ·simp only [isEmpty_snoc, put1_rd, and_self, if_true, List.map_append]; rfl
 ·simp only [put1_rd, growU_rd, m6, m4, m3, n3, false_and, and_false, if_false]
 ·by_cases hce : t.calls.isEmpty = true
  ·simp [growT, hce]
  ·have hce : t.calls.isEmpty = false := by simpa using hce
   rw [← gc]; refine growT_congr ?_
   by_cases hbe : t.behind.isEmpty = true
   ·simp only [put1_rd, growU_rd, n2, n5, n6, hbe, false_and, if_false, Bool.true_eq_false]
   ·have hbe : t.behind.isEmpty = false := by simpa using hbe
    simp only [put1_rd, growU_rd, n2, n5, n6, n7 hce hbe, false_and, and_false, if_false]
 ·simp only [isEmpty_snoc]; exact growT_new (by simp) (by simp only [put1_rd, growU_rd, m5, false_and, if_false, and_self, if_true])
 ·exact fc.imp id (fun ⟨j, e, x, y⟩ => ⟨j, e, x, by omega⟩)
 ·exact .inr ⟨b, rfl, by omega, hc⟩
theorem stepL_not4 {t : Td} {s : Bs} {k : Bs} {r : List Bs} (h : splitB s = k :: r) (h1 : ¬ (k = kTold ∧ r.length = 3)) (h2 : ¬ (k = kCall ∧ r.length = 7)) (h3 : ¬ (k = kSaid ∧ r.length = 1)) : stepL t s = t := by
 unfold stepL
 rw [h]
 match r with
 | [] => rfl
 | [x] => simp only; rw [if_neg (fun e => h3 ⟨e, rfl⟩)]
 | [_, _] => rfl
 | [a, b, f] => simp only; rw [if_neg (fun e => h1 ⟨e, rfl⟩)]
 | [_, _, _, _] => rfl
 | [_, _, _, _, _] => rfl
 | [_, _, _, _, _, _] => rfl
 | [a, b, c, d, f, x, y] => simp only; rw [if_neg (fun e => h2 ⟨e, rfl⟩)]
 | _ :: _ :: _ :: _ :: _ :: _ :: _ :: _ :: _ => rfl
set_option maxHeartbeats 8000000 in
theorem loop14 {S : Summs} {l : List Bs} {nl0 : Bool} {t0 : Id} {Q : Ex → St → Prop} (s36 : S 36 = some (funS F36)) (s37 : S 37 = some (funS F37)) (s38 : S 38 = some (funS F38)) (hb : l.length ≤ 1000) (hlen : ∀ s ∈ l, s.length ≤ 1000000)
  (hexit : ∀ st' tc' tb', st'.s 4 = .ptr [2] 0 → st'.s 2 = .ptr [0] 0 → st'.s 0 = .slice nl0 t0 (l.map .str) → LInv st'.m st'.c (looseB l) tc' tb' → Q (.exit 0) st') :
  ∀ (n k : Nat) (t : Td) (tc tb : Id) st g, n = l.length - k → k ≤ l.length → t.calls.length ≤ k → t.behind.length ≤ k → (l.drop k).foldl stepL t = looseB l → st.s 5 = .int .i64 (k : Int) → st.s 4 = .ptr [2] 0 → st.s 2 = .ptr [0] 0 → st.s 0 = .slice nl0 t0 (l.map .str) → LInv st.m st.c t tc tb →
   loopW S [] dc14l0 Q st g := by
 intro n
 induction n with
 | zero =>
  intro k t tc tb st g hn hk hlc hlb hf h5 h4 h2 h0 hI
  refine wp_loopd dc14l0.eq_1 ?_
  have : ¬ ((k : Int) < l.length) := by omega
  simp only [↓go1, go2, go3, go4, reduceIte, Nat.reduceEqDiff, Nat.reduceAdd, h5, h0, List.length_map, this]
  rw [List.drop_of_length_le (by omega)] at hf
  refine hexit _ tc tb h4 h2 h0 ?_
  have hf : t = looseB l := hf
  rw [← hf]; exact hI.more (by simp only; omega)
 | succ n ih =>
  intro k t tc tb st g hn hk hlc hlb hf h5 h4 h2 h0 hI
  refine wp_loopd dc14l0.eq_1 ?_
  have hlt : ((k : Int) < l.length) := by omega
  have hk0 : (0 : Int) ≤ (k : Int) := by omega
  have hkl : k < l.length := by omega
  have hx : (l.map D.str)[(k : Int).toNat]? = some (.str l[k]) := by simp [hkl]
  have hw : IntKind.i64.wrap ((k : Int) + 1) = (k : Int) + 1 := IntWalk.i64_in _ ⟨by omega, by omega⟩
  have hdr : l.drop k = l[k] :: l.drop (k + 1) := List.drop_eq_getElem_cons hkl
  have hls := hlen l[k] (List.getElem_mem hkl)
  rw [hdr, List.foldl_cons] at hf
  have f36 : F36 [.str l[k], .int .u8 32] = some (.slice false [] ((splitB l[k]).map .str)) := if_pos hls
  have f37 : ∀ w, F37 [.str w] = some (.int .i64 (numB w).1) := fun w => rfl
  have i0 : (0 : Int).toNat = 0 := rfl
  have i1 : (1 : Int).toNat = 1 := rfl
  have i2 : (2 : Int).toNat = 2 := rfl
  have i3 : (3 : Int).toNat = 3 := rfl
  have i4 : (4 : Int).toNat = 4 := rfl
  have i5 : (5 : Int).toNat = 5 := rfl
  have i6 : (6 : Int).toNat = 6 := rfl
  have i7 : (7 : Int).toNat = 7 := rfl
  obtain ⟨⟨c0, c1, c2, c3, c4⟩, Z, gc, gb, fc, fb, hc3⟩ := hI
  have n1 : tc ≠ [2] := by rcases fc with rfl | ⟨j, rfl, h, _⟩ <;> simp; omega
  have n2 : tb ≠ [2] := by rcases fb with rfl | ⟨j, rfl, h, _⟩ <;> simp; omega
  have n3 : tc ≠ [0] := by rcases fc with rfl | ⟨j, rfl, h, _⟩ <;> simp; omega
  have n4 : tb ≠ [0] := by rcases fb with rfl | ⟨j, rfl, h, _⟩ <;> simp; omega
  have n5 : ∀ i, tc ≠ [st.c + i] := fun i => by rcases fc with rfl | ⟨j, rfl, h, _⟩ <;> simp; omega
  have n6 : ∀ i, tb ≠ [st.c + i] := fun i => by rcases fb with rfl | ⟨j, rfl, h, _⟩ <;> simp; omega
  have n7 : t.calls.isEmpty = false → t.behind.isEmpty = false → tc ≠ tb := by
   intro a b e
   have g1 := growT_tok gc a
   have g2 := growT_tok gb b
   rw [e, g2] at g1; simp at g1
  have q1 : (t.calls.isEmpty = false ∧ [2] = tc) = False := eq_false (fun h => n1 h.2.symm)
  have q3 : (t.behind.isEmpty = false ∧ [2] = tb) = False := eq_false (fun h => n2 h.2.symm)
  have n8 : ∀ i, ([2] : Id) ≠ [st.c + i] := fun i => by simp; omega
  have n9 : ∀ i, ([0] : Id) ≠ [st.c + i] := fun i => by simp; omega
  have hnc := growT_nil (xs := t.calls.map dnD) gc (fun h => by rw [List.isEmpty_iff] at h; rw [h]; rfl)
  have hnb := growT_nil (xs := t.behind.map D.str) gb (fun h => by rw [List.isEmpty_iff] at h; rw [h]; rfl)
  have hokR := splitB_okR hls
  obtain ⟨w, r, hs⟩ : ∃ w r, splitB l[k] = w :: r := List.exists_cons_of_ne_nil (splitB_ne _)
  rw [hs] at f36 hokR
  by_cases wt : w = kTold
  ·subst wt
   have w1 : (kTold = [116, 111, 108, 100]) = True := eq_true rfl
   have w2 : (kTold = [99, 97, 108, 108]) = False := eq_false (by decide)
   have w3 : (kTold = [115, 97, 105, 100]) = False := eq_false (by decide)
   by_cases hr : r.length = 3
   ·match r, hr with
    | [a, b, f], _ =>
     have hr' : (((4 : Nat) : Int) = 4) = True := by simp
     simp only [↓go1, go2, go3, go4, reduceIte, Nat.reduceEqDiff, Nat.reduceAdd, Nat.zero_le, Nat.sub_zero, Nat.reduceSub, Nat.reduceLT, Nat.reduceLeDiff, c0, c1, c2, c3, c4, h5, h4, h0, hlt, hk0, hx, hw, List.map_cons, List.map_nil, List.length_cons, List.length_nil, List.length_map, Nat.zero_add, rd_succ, rd_zero, Option.bind_some, Option.map_some, Option.isSome_some, true_and, and_true, and_false, false_and, and_self, put1_rd, put_rd, Nat.one_ne_zero, Nat.zero_ne_one, List.cons.injEq, Int.reduceToNat, Int.reduceLE, Int.reduceEq, List.getElem?_cons_zero, List.getElem?_cons_succ, callK_fun s36, callK_fun s37, callK_fun s38, f36, f37, reduceCtorEq, growU_rd, q1, q3, w1, w2, w3, hr']
     refine Need.intro (feetB_ok rfl) ?_
     simp only [↓go1, go2, go3, go4, reduceIte, Nat.reduceEqDiff, Nat.reduceAdd, Nat.zero_le, Nat.sub_zero, Nat.reduceSub, Nat.reduceLT, Nat.reduceLeDiff, c0, c1, c2, c3, c4, h5, h4, h0, hlt, hk0, hx, hw, List.map_cons, List.map_nil, List.length_cons, List.length_nil, List.length_map, Nat.zero_add, rd_succ, rd_zero, Option.bind_some, Option.map_some, Option.isSome_some, true_and, and_true, and_false, false_and, and_self, put1_rd, put_rd, Nat.one_ne_zero, Nat.zero_ne_one, List.cons.injEq, Int.reduceToNat, Int.reduceLE, Int.reduceEq, List.getElem?_cons_zero, List.getElem?_cons_succ, callK_fun s36, callK_fun s37, callK_fun s38, f36, f37, reduceCtorEq, growU_rd, q1, q3, w1, w2, w3, hr']
     have he : stepL t l[k] = { t with ticks := (numB a).1, left := (numB b).1, shut := decide (f = [49]) } := by
      unfold stepL; rw [hs]; exact if_pos rfl
     rw [he] at hf
     refine ih (k + 1) _ tc tb _ _ (by omega) (by omega) (by simp only; omega) (by simp only; omega) hf rfl h4 h2 h0 ⟨⟨?_, ?_, ?_, ?_, ?_⟩, Z.congr (fun o => ?_), ?_, ?_, fc.imp id (fun ⟨j, e, a, hj⟩ => ⟨j, e, a, by simp only; omega⟩), fb.imp id (fun ⟨j, e, a, hj⟩ => ⟨j, e, a, by simp only; omega⟩), by simp only; omega⟩
     ·simpa [put1_rd, Upd.app, D.cells] using c0
     ·simp [put1_rd, Upd.app, D.cells]
     ·simp [put1_rd, Upd.app, D.cells]
     ·simp [put1_rd, Upd.app, D.cells]
     ·simpa [put1_rd, Upd.app, D.cells] using c4
     ·simp [put1_rd, Upd.app, D.cells]
     ·rw [← gc]; exact growT_congr (by simp [put1_rd, Upd.app, D.cells])
     ·rw [← gb]; exact growT_congr (by simp [put1_rd, Upd.app, D.cells])
   ·have hr' : (((r.length + 1 : Nat) : Int) = 4) = False := eq_false (by omega)
    simp only [↓go1, go2, go3, go4, reduceIte, Nat.reduceEqDiff, Nat.reduceAdd, Nat.zero_le, Nat.sub_zero, Nat.reduceSub, Nat.reduceLT, Nat.reduceLeDiff, c0, c1, c2, c3, c4, h5, h4, h0, hlt, hk0, hx, hw, List.map_cons, List.map_nil, List.length_cons, List.length_nil, List.length_map, Nat.zero_add, rd_succ, rd_zero, Option.bind_some, Option.map_some, Option.isSome_some, true_and, and_true, and_false, false_and, and_self, put1_rd, put_rd, Nat.one_ne_zero, Nat.zero_ne_one, List.cons.injEq, Int.reduceToNat, Int.reduceLE, Int.reduceEq, List.getElem?_cons_zero, List.getElem?_cons_succ, callK_fun s36, callK_fun s37, callK_fun s38, f36, f37, reduceCtorEq, growU_rd, q1, q3, w1, w2, w3, hr']
    have he : stepL t l[k] = t := stepL_not4 hs (fun h => hr h.2) (fun h => absurd h.1 (by decide)) (fun h => absurd h.1 (by decide))
    rw [he] at hf
    exact ih (k + 1) t tc tb _ _ (by omega) (by omega) (by omega) (by omega) hf rfl h4 h2 h0 (LInv.more ⟨⟨c0, c1, c2, c3, c4⟩, Z, gc, gb, fc, fb, hc3⟩ (by simp only; omega))
  ·by_cases wc : w = kCall
   ·subst wc
    have w1 : (kCall = [116, 111, 108, 100]) = False := eq_false (by decide)
    have w2 : (kCall = [99, 97, 108, 108]) = True := eq_true rfl
    have w3 : (kCall = [115, 97, 105, 100]) = False := eq_false (by decide)
    by_cases hr : r.length = 7
    ·match r, hr with
     | [a, b, c, d, f, x, y], _ =>
      have hr' : (((8 : Nat) : Int) = 8) = True := by simp
      have f38x : F38 [.str x] = some (.str (unhexR x).1) := if_pos (hokR x (by simp))
      have f38y : F38 [.str y] = some (.str (unhexR y).1) := if_pos (hokR y (by simp))
      have hfill : ∀ (a b c d : Int) (e : Bool) (x y : Bs), fillD [.int .i64 0, .str [], .str [], .int .i64 0, .int .i64 0, .int .i64 0, .bool false] [(0, 1, .int .i64 a), (3, 1, .int .i64 b), (4, 1, .int .i64 c), (5, 1, .int .i64 d), (6, 1, .bool e), (1, 1, .str x), (2, 1, .str y)] = some [.int .i64 a, .str x, .str y, .int .i64 b, .int .i64 c, .int .i64 d, .bool e] := by
       intro a b c d e x y; simp [fillD, putAt, D.data, D.cells]
      have a31 : (2 = st.c + 4 + 6 + 9 + 9 + 31) = False := eq_false (by omega)
      have a32 : (2 = st.c + 4 + 6 + 9 + 9 + 32) = False := eq_false (by omega)
      simp only [↓go1, go2, go3, go4, reduceIte, Nat.reduceEqDiff, Nat.reduceAdd, Nat.zero_le, Nat.sub_zero, Nat.reduceSub, Nat.reduceLT, Nat.reduceLeDiff, c0, c1, c2, c3, c4, h5, h4, h0, hlt, hk0, hx, hw, List.map_cons, List.map_nil, List.length_cons, List.length_nil, List.length_map, Nat.zero_add, rd_succ, rd_zero, Option.bind_some, Option.map_some, Option.isSome_some, true_and, and_true, and_false, false_and, and_self, put1_rd, put_rd, Nat.one_ne_zero, Nat.zero_ne_one, List.cons.injEq, Int.reduceToNat, Int.reduceLE, Int.reduceEq, List.getElem?_cons_zero, List.getElem?_cons_succ, callK_fun s36, callK_fun s37, callK_fun s38, f36, f37, reduceCtorEq, growU_rd, q1, q3, w1, w2, w3, hr', f38x, f38y, hfill]
      refine Need.intro ⟨by omega, rfl, growT_grow' gc (fun e1 e2 => ?_)⟩ ?_
      ·have q := n5 (4 + 6 + 9 + 9 + 31)
       simp only [← Nat.add_assoc] at q
       simp [app_nil, put1_rd, put_rd, D.cells, q]
      rw [app_fold hnc]
      simp only [↓go1, go2, go3, go4, reduceIte, Nat.reduceEqDiff, Nat.reduceAdd, Nat.zero_le, Nat.sub_zero, Nat.reduceSub, Nat.reduceLT, Nat.reduceLeDiff, c0, c1, c2, c3, c4, h5, h4, h0, hlt, hk0, hx, hw, List.map_cons, List.map_nil, List.length_cons, List.length_nil, List.length_map, Nat.zero_add, rd_succ, rd_zero, Option.bind_some, Option.map_some, Option.isSome_some, true_and, and_true, and_false, false_and, and_self, put1_rd, put_rd, Nat.one_ne_zero, Nat.zero_ne_one, List.cons.injEq, Int.reduceToNat, Int.reduceLE, Int.reduceEq, List.getElem?_cons_zero, List.getElem?_cons_succ, callK_fun s36, callK_fun s37, callK_fun s38, f36, f37, reduceCtorEq, growU_rd, q1, q3, w1, w2, w3, hr', f38x, f38y, hfill]
      refine Need.intro (fun p hp l' hl => ?_) ?_
      ·simp only [List.mem_cons, List.mem_nil_iff, or_false] at hp
       repeat' (rcases hp with rfl | hp)
       all_goals (try subst hp)
       all_goals simp only [List.getD_cons_succ, List.getD_cons_zero, wlocs, rds] at hl ⊢
       all_goals first
        | (cases hl; done)
        | skip
       simp only [↓go1, go2, go3, go4, reduceIte, Nat.reduceEqDiff, Nat.reduceAdd, Nat.zero_le, Nat.sub_zero, Nat.reduceSub, Nat.reduceLT, Nat.reduceLeDiff, c0, c1, c2, c3, c4, h5, h4, h0, hlt, hk0, hx, hw, List.map_cons, List.map_nil, List.length_cons, List.length_nil, List.length_map, Nat.zero_add, rd_succ, rd_zero, Option.bind_some, Option.map_some, Option.isSome_some, true_and, and_true, and_false, false_and, and_self, put1_rd, put_rd, Nat.one_ne_zero, Nat.zero_ne_one, List.cons.injEq, Int.reduceToNat, Int.reduceLE, Int.reduceEq, List.getElem?_cons_zero, List.getElem?_cons_succ, callK_fun s36, callK_fun s37, callK_fun s38, f36, f37, reduceCtorEq, growU_rd, q1, q3, w1, w2, w3, hr', f38x, f38y, hfill] at hl ⊢
       exact feet_one (by simp) hl
      ·simp only [↓go1, go2, go3, go4, reduceIte, Nat.reduceEqDiff, Nat.reduceAdd, Nat.zero_le, Nat.sub_zero, Nat.reduceSub, Nat.reduceLT, Nat.reduceLeDiff, c0, c1, c2, c3, c4, h5, h4, h0, hlt, hk0, hx, hw, List.map_cons, List.map_nil, List.length_cons, List.length_nil, List.length_map, Nat.zero_add, rd_succ, rd_zero, Option.bind_some, Option.map_some, Option.isSome_some, true_and, and_true, and_false, false_and, and_self, put1_rd, put_rd, Nat.one_ne_zero, Nat.zero_ne_one, List.cons.injEq, Int.reduceToNat, Int.reduceLE, Int.reduceEq, List.getElem?_cons_zero, List.getElem?_cons_succ, callK_fun s36, callK_fun s37, callK_fun s38, f36, f37, reduceCtorEq, growU_rd, q1, q3, w1, w2, w3, hr', f38x, f38y, hfill]
       have he : stepL t l[k] = { t with calls := t.calls ++ [⟨(numB a).1, (unhexR x).1, (unhexR y).1, (numB b).1, (numB c).1, (numB d).1, decide (f = [49])⟩] } := by
        unfold stepL; rw [hs]; exact if_pos rfl
       rw [he] at hf
       refine ih (k + 1) _ [st.c + 4 + 6 + 9 + 9 + 32] tb _ _ (by omega) (by omega) (by simp only [List.length_append, List.length_cons, List.length_nil]; omega) (by simp only; omega) hf rfl h4 h2 h0 ?_
       exact LInv.call (c' := st.c + 4 + 6 + 9 + 9 + 35 + 3) (a := st.c + 4 + 6 + 9 + 9 + 31) (b := st.c + 4 + 6 + 9 + 9 + 32) ⟨⟨c0, c1, c2, c3, c4⟩, Z, gc, gb, fc, fb, hc3⟩ (by omega) (by omega) (by omega) ⟨(numB a).1, (unhexR x).1, (unhexR y).1, (numB b).1, (numB c).1, (numB d).1, decide (f = [49])⟩
    ·have hr' : (((r.length + 1 : Nat) : Int) = 8) = False := eq_false (by omega)
     simp only [↓go1, go2, go3, go4, reduceIte, Nat.reduceEqDiff, Nat.reduceAdd, Nat.zero_le, Nat.sub_zero, Nat.reduceSub, Nat.reduceLT, Nat.reduceLeDiff, c0, c1, c2, c3, c4, h5, h4, h0, hlt, hk0, hx, hw, List.map_cons, List.map_nil, List.length_cons, List.length_nil, List.length_map, Nat.zero_add, rd_succ, rd_zero, Option.bind_some, Option.map_some, Option.isSome_some, true_and, and_true, and_false, false_and, and_self, put1_rd, put_rd, Nat.one_ne_zero, Nat.zero_ne_one, List.cons.injEq, Int.reduceToNat, Int.reduceLE, Int.reduceEq, List.getElem?_cons_zero, List.getElem?_cons_succ, callK_fun s36, callK_fun s37, callK_fun s38, f36, f37, reduceCtorEq, growU_rd, q1, q3, w1, w2, w3, hr']
     have he : stepL t l[k] = t := stepL_not4 hs (fun h => absurd h.1 (by decide)) (fun h => hr h.2) (fun h => absurd h.1 (by decide))
     rw [he] at hf
     exact ih (k + 1) t tc tb _ _ (by omega) (by omega) (by omega) (by omega) hf rfl h4 h2 h0 (LInv.more ⟨⟨c0, c1, c2, c3, c4⟩, Z, gc, gb, fc, fb, hc3⟩ (by simp only; omega))
   ·by_cases wsd : w = kSaid
    ·subst wsd
     have w1 : (kSaid = [116, 111, 108, 100]) = False := eq_false (by decide)
     have w2 : (kSaid = [99, 97, 108, 108]) = False := eq_false (by decide)
     have w3 : (kSaid = [115, 97, 105, 100]) = True := eq_true rfl
     by_cases hr : r.length = 1
     ·match r, hr with
      | [x], _ =>
       have hr' : (((2 : Nat) : Int) = 2) = True := by simp
       have f38x : F38 [.str x] = some (.str (unhexR x).1) := if_pos (hokR x (by simp))
       have a6 : (2 = st.c + 4 + 6 + 9 + 9 + 9 + 6) = False := eq_false (by omega)
       have a7 : (2 = st.c + 4 + 6 + 9 + 9 + 9 + 7) = False := eq_false (by omega)
       simp only [↓go1, go2, go3, go4, reduceIte, Nat.reduceEqDiff, Nat.reduceAdd, Nat.zero_le, Nat.sub_zero, Nat.reduceSub, Nat.reduceLT, Nat.reduceLeDiff, c0, c1, c2, c3, c4, h5, h4, h0, hlt, hk0, hx, hw, List.map_cons, List.map_nil, List.length_cons, List.length_nil, List.length_map, Nat.zero_add, rd_succ, rd_zero, Option.bind_some, Option.map_some, Option.isSome_some, true_and, and_true, and_false, false_and, and_self, put1_rd, put_rd, Nat.one_ne_zero, Nat.zero_ne_one, List.cons.injEq, Int.reduceToNat, Int.reduceLE, Int.reduceEq, List.getElem?_cons_zero, List.getElem?_cons_succ, callK_fun s36, callK_fun s37, callK_fun s38, f36, f37, reduceCtorEq, growU_rd, q1, q3, w1, w2, w3, hr', f38x]
       refine Need.intro ⟨by omega, rfl, growT_grow' gb (fun e1 e2 => ?_)⟩ ?_
       ·have q := n6 (4 + 6 + 9 + 9 + 9 + 6)
        simp only [← Nat.add_assoc] at q
        simp [app_nil, put1_rd, put_rd, D.cells, q]
       rw [app_fold hnb]
       simp only [↓go1, go2, go3, go4, reduceIte, Nat.reduceEqDiff, Nat.reduceAdd, Nat.zero_le, Nat.sub_zero, Nat.reduceSub, Nat.reduceLT, Nat.reduceLeDiff, c0, c1, c2, c3, c4, h5, h4, h0, hlt, hk0, hx, hw, List.map_cons, List.map_nil, List.length_cons, List.length_nil, List.length_map, Nat.zero_add, rd_succ, rd_zero, Option.bind_some, Option.map_some, Option.isSome_some, true_and, and_true, and_false, false_and, and_self, put1_rd, put_rd, Nat.one_ne_zero, Nat.zero_ne_one, List.cons.injEq, Int.reduceToNat, Int.reduceLE, Int.reduceEq, List.getElem?_cons_zero, List.getElem?_cons_succ, callK_fun s36, callK_fun s37, callK_fun s38, f36, f37, reduceCtorEq, growU_rd, q1, q3, w1, w2, w3, hr', f38x]
       refine Need.intro (fun p hp l' hl => ?_) ?_
       ·simp only [List.mem_cons, List.mem_nil_iff, or_false] at hp
        repeat' (rcases hp with rfl | hp)
        all_goals (try subst hp)
        all_goals simp only [List.getD_cons_succ, List.getD_cons_zero, wlocs, rds] at hl ⊢
        all_goals first
         | (cases hl; done)
         | skip
        simp only [↓go1, go2, go3, go4, reduceIte, Nat.reduceEqDiff, Nat.reduceAdd, Nat.zero_le, Nat.sub_zero, Nat.reduceSub, Nat.reduceLT, Nat.reduceLeDiff, c0, c1, c2, c3, c4, h5, h4, h0, hlt, hk0, hx, hw, List.map_cons, List.map_nil, List.length_cons, List.length_nil, List.length_map, Nat.zero_add, rd_succ, rd_zero, Option.bind_some, Option.map_some, Option.isSome_some, true_and, and_true, and_false, false_and, and_self, put1_rd, put_rd, Nat.one_ne_zero, Nat.zero_ne_one, List.cons.injEq, Int.reduceToNat, Int.reduceLE, Int.reduceEq, List.getElem?_cons_zero, List.getElem?_cons_succ, callK_fun s36, callK_fun s37, callK_fun s38, f36, f37, reduceCtorEq, growU_rd, q1, q3, w1, w2, w3, hr', f38x] at hl ⊢
        exact feet_one (by simp) hl
       ·simp only [↓go1, go2, go3, go4, reduceIte, Nat.reduceEqDiff, Nat.reduceAdd, Nat.zero_le, Nat.sub_zero, Nat.reduceSub, Nat.reduceLT, Nat.reduceLeDiff, c0, c1, c2, c3, c4, h5, h4, h0, hlt, hk0, hx, hw, List.map_cons, List.map_nil, List.length_cons, List.length_nil, List.length_map, Nat.zero_add, rd_succ, rd_zero, Option.bind_some, Option.map_some, Option.isSome_some, true_and, and_true, and_false, false_and, and_self, put1_rd, put_rd, Nat.one_ne_zero, Nat.zero_ne_one, List.cons.injEq, Int.reduceToNat, Int.reduceLE, Int.reduceEq, List.getElem?_cons_zero, List.getElem?_cons_succ, callK_fun s36, callK_fun s37, callK_fun s38, f36, f37, reduceCtorEq, growU_rd, q1, q3, w1, w2, w3, hr', f38x]
        have he : stepL t l[k] = { t with behind := t.behind ++ [(unhexR x).1] } := by
         unfold stepL; rw [hs]; exact if_pos rfl
        rw [he] at hf
        refine ih (k + 1) _ tc [st.c + 4 + 6 + 9 + 9 + 9 + 7] _ _ (by omega) (by omega) (by simp only; omega) (by simp; omega) hf rfl h4 h2 h0 ?_
        exact LInv.said (c' := st.c + 4 + 6 + 9 + 9 + 9 + 10 + 3) (a := st.c + 4 + 6 + 9 + 9 + 9 + 6) (b := st.c + 4 + 6 + 9 + 9 + 9 + 7) ⟨⟨c0, c1, c2, c3, c4⟩, Z, gc, gb, fc, fb, hc3⟩ (by omega) (by omega) (by omega) (unhexR x).1
     ·have hr' : (((r.length + 1 : Nat) : Int) = 2) = False := eq_false (by omega)
      simp only [↓go1, go2, go3, go4, reduceIte, Nat.reduceEqDiff, Nat.reduceAdd, Nat.zero_le, Nat.sub_zero, Nat.reduceSub, Nat.reduceLT, Nat.reduceLeDiff, c0, c1, c2, c3, c4, h5, h4, h0, hlt, hk0, hx, hw, List.map_cons, List.map_nil, List.length_cons, List.length_nil, List.length_map, Nat.zero_add, rd_succ, rd_zero, Option.bind_some, Option.map_some, Option.isSome_some, true_and, and_true, and_false, false_and, and_self, put1_rd, put_rd, Nat.one_ne_zero, Nat.zero_ne_one, List.cons.injEq, Int.reduceToNat, Int.reduceLE, Int.reduceEq, List.getElem?_cons_zero, List.getElem?_cons_succ, callK_fun s36, callK_fun s37, callK_fun s38, f36, f37, reduceCtorEq, growU_rd, q1, q3, w1, w2, w3, hr']
      have he : stepL t l[k] = t := stepL_not4 hs (fun h => absurd h.1 (by decide)) (fun h => absurd h.1 (by decide)) (fun h => hr h.2)
      rw [he] at hf
      exact ih (k + 1) t tc tb _ _ (by omega) (by omega) (by omega) (by omega) hf rfl h4 h2 h0 (LInv.more ⟨⟨c0, c1, c2, c3, c4⟩, Z, gc, gb, fc, fb, hc3⟩ (by simp only; omega))
    ·have w1 : (w = [116, 111, 108, 100]) = False := eq_false wt
     have w2 : (w = [99, 97, 108, 108]) = False := eq_false wc
     have w3 : (w = [115, 97, 105, 100]) = False := eq_false wsd
     simp only [↓go1, go2, go3, go4, reduceIte, Nat.reduceEqDiff, Nat.reduceAdd, Nat.zero_le, Nat.sub_zero, Nat.reduceSub, Nat.reduceLT, Nat.reduceLeDiff, c0, c1, c2, c3, c4, h5, h4, h0, hlt, hk0, hx, hw, List.map_cons, List.map_nil, List.length_cons, List.length_nil, List.length_map, Nat.zero_add, rd_succ, rd_zero, Option.bind_some, Option.map_some, Option.isSome_some, true_and, and_true, and_false, false_and, and_self, put1_rd, put_rd, Nat.one_ne_zero, Nat.zero_ne_one, List.cons.injEq, Int.reduceToNat, Int.reduceLE, Int.reduceEq, List.getElem?_cons_zero, List.getElem?_cons_succ, callK_fun s36, callK_fun s37, callK_fun s38, f36, f37, reduceCtorEq, growU_rd, q1, q3, w1, w2, w3]
     have he : stepL t l[k] = t := stepL_not4 hs (fun h => wt h.1) (fun h => wc h.1) (fun h => wsd h.1)
     rw [he] at hf
     exact ih (k + 1) t tc tb _ _ (by omega) (by omega) (by omega) (by omega) hf rfl h4 h2 h0 (LInv.more ⟨⟨c0, c1, c2, c3, c4⟩, Z, gc, gb, fc, fb, hc3⟩ (by simp only; omega))
theorem loose_len : ∀ (l : List Bs) (t : Td), (l.foldl stepL t).calls.length ≤ t.calls.length + l.length ∧ (l.foldl stepL t).behind.length ≤ t.behind.length + l.length := by
 intro l
 induction l with
 | nil => intro t; simp
 | cons s r ih =>
  intro t
  have h1 := ih (stepL t s)
  have h2 : (stepL t s).calls.length ≤ t.calls.length + 1 ∧ (stepL t s).behind.length ≤ t.behind.length + 1 := by
   unfold stepL
   split
   ·split <;> simp
   ·split <;> simp
   ·split <;> simp
   ·simp
  simp only [List.foldl_cons, List.length_cons]
  omega
set_option maxHeartbeats 2000000 in
theorem ok14 {P : Program} (hd : Desk P) (h26 : (funS F26).ok P 26) (h12 : (funS Flines).ok P 12) : (funS F13).ok P 14 := by
 have hS : Summs.ok P (tabL [(36, funS F36), (37, funS F37), (38, funS F38), (12, funS Flines), (17, funS Fst)]) := tabL_cons (ok36 hd) (tabL_cons (ok37 hd h26) (tabL_cons (ok38 hd) (tabL_cons h12 (tabL_cons (ok17 hd) tabL_nil))))
 have s36 : tabL [(36, funS F36), (37, funS F37), (38, funS F38), (12, funS Flines), (17, funS Fst)] 36 = some (funS F36) := rfl
 have s37 : tabL [(36, funS F36), (37, funS F37), (38, funS F38), (12, funS Flines), (17, funS Fst)] 37 = some (funS F37) := rfl
 have s38 : tabL [(36, funS F36), (37, funS F37), (38, funS F38), (12, funS Flines), (17, funS Fst)] 38 = some (funS F38) := rfl
 have s12 : tabL [(36, funS F36), (37, funS F37), (38, funS F38), (12, funS Flines), (17, funS Fst)] 12 = some (funS Flines) := rfl
 have s17 : tabL [(36, funS F36), (37, funS F37), (38, funS F38), (12, funS Flines), (17, funS Fst)] 17 = some (funS Fst) := rfl
 generalize tabL [(36, funS F36), (37, funS F37), (38, funS F38), (12, funS Flines), (17, funS Fst)] = S at hS s36 s37 s38 s12 s17
 refine fun_ok (S := S) hS hd.f14 (fun ds r h => ?_) (fun ds r h => ?_)
 ·unfold F13 at h; split at h
  ·simp
  ·cases h
 ·unfold F13 at h; split at h
  ·rename_i nl t xs
   split at h
   ·rename_i l hl
    obtain rfl := strsOf_some hl
    split at h
    ·rename_i hb
     obtain ⟨hb1, hb2⟩ := hb
     simp only [Option.some.injEq] at h
     subst h
     unfold dc14
     simp only [↓go1, go2, go3, go4, reduceIte, Nat.reduceEqDiff, Nat.reduceAdd, Nat.zero_le, Nat.sub_zero, Nat.reduceSub, Nat.reduceLT, Nat.reduceLeDiff, List.length_cons, List.length_nil, List.length_map, Nat.zero_add, rd_succ, rd_zero, Option.bind_some, Option.map_some, Option.isSome_some, true_and, and_true, and_false, false_and, and_self, put_rd, Nat.one_ne_zero, Nat.zero_ne_one, List.cons.injEq, List.getElem?_cons_zero, List.getElem?_cons_succ, fill_nil]
     refine loop14 (l := l) s36 s37 s38 hb1 hb2 (fun st tc tb h4 h2 h0 hI => ?_) l.length 0 zeroT [] [] _ _ rfl (by omega) (by simp [zeroT]) (by simp [zeroT]) rfl rfl rfl rfl rfl ?_
     ·obtain ⟨⟨T0, T1, T2, T3, T4⟩, ⟨Z0, Z1, Z2, Z3, Z4⟩, _, _, _, _, _⟩ := hI
      rw [← parse_eq, parseR]
      have f12 : ∀ x y, Flines [.agg [.slice (looseB l).calls.isEmpty x ((looseB l).calls.map dnD), .int .i64 (looseB l).ticks, .int .i64 (looseB l).left, .bool (looseB l).shut, .slice (looseB l).behind.isEmpty y ((looseB l).behind.map .str)]] = some (.tup [if checkB (looseB l) = 0 then .slice false [] ((linesB (looseB l)).map .str) else .slice true [] [], .int .i64 (checkB (looseB l))]) := fun x y => by
       simp only [Flines, tdOf, dnsOf_map, strsOf_map]
      by_cases hc : checkB (looseB l) = 0
      ·have g3 : (checkB (looseB l) ≠ 0) = False := eq_false (fun h => h hc)
       have g4 : (checkB (looseB l) = 0) = True := eq_true hc
       have hll : (linesB (looseB l)).length ≤ 1000000000 := by
        obtain ⟨b1, b2, _, _⟩ := lines_ok hc
        simp only [linesB, List.length_append, List.length_cons, List.length_map]; omega
       have f17 : ∀ n1 i1 n2 i2, Fst [.slice n1 i1 ((linesB (looseB l)).map .str), .slice n2 i2 (l.map .str)] = some (.bool (decide (linesB (looseB l) = l))) := fun _ _ _ _ => by
        simp only [Fst, strsOf_map]; exact if_pos hll
       simp only [g4, if_true] at f12
       by_cases he : linesB (looseB l) = l
       ·have g5 : (linesB (looseB l) = l) = True := eq_true he
        simp only [↓go1, go2, go3, go4, reduceIte, Nat.reduceEqDiff, Nat.reduceAdd, Nat.zero_le, Nat.sub_zero, Nat.reduceSub, Nat.reduceLT, Nat.reduceLeDiff, List.length_cons, List.length_nil, List.length_map, Nat.zero_add, rd_succ, rd_zero, Option.bind_some, Option.map_some, Option.isSome_some, true_and, and_true, and_false, false_and, and_self, put_rd, Nat.one_ne_zero, Nat.zero_ne_one, List.cons.injEq, List.getElem?_cons_zero, List.getElem?_cons_succ, fill_nil, h2, h0, h4, callK_fun s12, callK_fun s17, f12, T0, T1, T2, T3, T4, Z0, Z1, Z2, Z3, Z4, res_ct, ldD_agg, g3, g4, f17, g5]
        exact ⟨rfl, rfl⟩
       ·have g5 : (linesB (looseB l) = l) = False := eq_false he
        simp only [↓go1, go2, go3, go4, reduceIte, Nat.reduceEqDiff, Nat.reduceAdd, Nat.zero_le, Nat.sub_zero, Nat.reduceSub, Nat.reduceLT, Nat.reduceLeDiff, List.length_cons, List.length_nil, List.length_map, Nat.zero_add, rd_succ, rd_zero, Option.bind_some, Option.map_some, Option.isSome_some, true_and, and_true, and_false, false_and, and_self, put_rd, Nat.one_ne_zero, Nat.zero_ne_one, List.cons.injEq, List.getElem?_cons_zero, List.getElem?_cons_succ, fill_nil, h2, h0, h4, callK_fun s12, callK_fun s17, f12, T0, T1, T2, T3, T4, Z0, Z1, Z2, Z3, Z4, res_ct, ldD_agg, g3, g4, f17, g5]
        exact ⟨rfl, rfl⟩
      ·have g3 : (checkB (looseB l) ≠ 0) = True := eq_true hc
       have g4 : (checkB (looseB l) = 0) = False := eq_false hc
       simp only [g4, if_false] at f12
       simp only [↓go1, go2, go3, go4, reduceIte, Nat.reduceEqDiff, Nat.reduceAdd, Nat.zero_le, Nat.sub_zero, Nat.reduceSub, Nat.reduceLT, Nat.reduceLeDiff, List.length_cons, List.length_nil, List.length_map, Nat.zero_add, rd_succ, rd_zero, Option.bind_some, Option.map_some, Option.isSome_some, true_and, and_true, and_false, false_and, and_self, put_rd, Nat.one_ne_zero, Nat.zero_ne_one, List.cons.injEq, List.getElem?_cons_zero, List.getElem?_cons_succ, fill_nil, h2, h0, h4, callK_fun s12, callK_fun s17, f12, T0, T1, T2, T3, T4, Z0, Z1, Z2, Z3, Z4, res_ct, ldD_agg, g3, g4]
       exact ⟨rfl, rfl⟩
     ·exact ⟨⟨rfl, rfl, rfl, rfl, rfl⟩, ⟨rfl, rfl, rfl, rfl, rfl⟩, rfl, rfl, .inl rfl, .inl rfl, by simp⟩
    ·cases h
   ·cases h
  ·cases h
end Go.Vd

namespace Go.Vd
open Go.RowKit
set_option linter.unusedSimpArgs false
set_option linter.unusedVariables false
set_option maxRecDepth 10000
def F3 : List D → Option D
 | [a, b, .slice _ _ xs] => match tdOf a, tdOf b, strsOf xs with
  | some _, some _, some _ => some (.bool true)
  | _, _, _ => none
 | _ => none
theorem over_le {t : Td} (h : overB t = false) : t.calls.length ≤ 70 ∧ t.behind.length ≤ 70 := by
 simp only [overB, Bool.or_eq_false_iff, decide_eq_false_iff_not] at h
 omega
theorem many_le {l : List Bs} (h : manyB l = false) : l.length ≤ 1000 ∧ ∀ s ∈ l, s.length ≤ 1000000 := by
 simp only [manyB, Bool.or_eq_false_iff, decide_eq_false_iff_not, List.any_eq_false] at h
 refine ⟨by omega, fun s hs => ?_⟩
 have := h.2 s hs
 simp at this; omega
theorem tdOf_mk {nc nb : Bool} {x y : Id} {t : Td} : tdOf (.agg [.slice nc x (t.calls.map dnD), .int .i64 t.ticks, .int .i64 t.left, .bool t.shut, .slice nb y (t.behind.map .str)]) = some (nc, nb, t) := by
 simp only [tdOf, dnsOf_map, strsOf_map]
set_option maxHeartbeats 8000000 in
theorem ok3 {P : Program} (hd : Desk P) (h9 : (funS trueF).ok P 9) (h10 : (funS Flines).ok P 10) (h12 : (funS Flines).ok P 12) (h13 : (funS F13).ok P 13) (h14 : (funS F13).ok P 14) (h15 : (funS F15).ok P 15) (h16 : (funS F16).ok P 16) : (funS F3).ok P 3 := by
 have hS : Summs.ok P (tabL [(7, funS F7), (8, funS F8), (9, funS trueF), (10, funS Flines), (11, funS F11), (12, funS Flines), (13, funS F13), (14, funS F13), (15, funS F15), (16, funS F16), (17, funS Fst), (18, funS Fsame), (19, funS F11), (20, funS Fsame)]) := tabL_cons (ok7 hd) (tabL_cons (ok8 hd) (tabL_cons h9 (tabL_cons h10 (tabL_cons (ok11 hd) (tabL_cons h12 (tabL_cons h13 (tabL_cons h14 (tabL_cons h15 (tabL_cons h16 (tabL_cons (ok17 hd) (tabL_cons (ok18 hd) (tabL_cons (ok19 hd) (tabL_cons (ok20 hd) tabL_nil)))))))))))))
 have s7 : tabL [(7, funS F7), (8, funS F8), (9, funS trueF), (10, funS Flines), (11, funS F11), (12, funS Flines), (13, funS F13), (14, funS F13), (15, funS F15), (16, funS F16), (17, funS Fst), (18, funS Fsame), (19, funS F11), (20, funS Fsame)] 7 = some (funS F7) := rfl
 have s8 : tabL [(7, funS F7), (8, funS F8), (9, funS trueF), (10, funS Flines), (11, funS F11), (12, funS Flines), (13, funS F13), (14, funS F13), (15, funS F15), (16, funS F16), (17, funS Fst), (18, funS Fsame), (19, funS F11), (20, funS Fsame)] 8 = some (funS F8) := rfl
 have s9 : tabL [(7, funS F7), (8, funS F8), (9, funS trueF), (10, funS Flines), (11, funS F11), (12, funS Flines), (13, funS F13), (14, funS F13), (15, funS F15), (16, funS F16), (17, funS Fst), (18, funS Fsame), (19, funS F11), (20, funS Fsame)] 9 = some (funS trueF) := rfl
 have s10 : tabL [(7, funS F7), (8, funS F8), (9, funS trueF), (10, funS Flines), (11, funS F11), (12, funS Flines), (13, funS F13), (14, funS F13), (15, funS F15), (16, funS F16), (17, funS Fst), (18, funS Fsame), (19, funS F11), (20, funS Fsame)] 10 = some (funS Flines) := rfl
 have s11 : tabL [(7, funS F7), (8, funS F8), (9, funS trueF), (10, funS Flines), (11, funS F11), (12, funS Flines), (13, funS F13), (14, funS F13), (15, funS F15), (16, funS F16), (17, funS Fst), (18, funS Fsame), (19, funS F11), (20, funS Fsame)] 11 = some (funS F11) := rfl
 have s12 : tabL [(7, funS F7), (8, funS F8), (9, funS trueF), (10, funS Flines), (11, funS F11), (12, funS Flines), (13, funS F13), (14, funS F13), (15, funS F15), (16, funS F16), (17, funS Fst), (18, funS Fsame), (19, funS F11), (20, funS Fsame)] 12 = some (funS Flines) := rfl
 have s13 : tabL [(7, funS F7), (8, funS F8), (9, funS trueF), (10, funS Flines), (11, funS F11), (12, funS Flines), (13, funS F13), (14, funS F13), (15, funS F15), (16, funS F16), (17, funS Fst), (18, funS Fsame), (19, funS F11), (20, funS Fsame)] 13 = some (funS F13) := rfl
 have s14 : tabL [(7, funS F7), (8, funS F8), (9, funS trueF), (10, funS Flines), (11, funS F11), (12, funS Flines), (13, funS F13), (14, funS F13), (15, funS F15), (16, funS F16), (17, funS Fst), (18, funS Fsame), (19, funS F11), (20, funS Fsame)] 14 = some (funS F13) := rfl
 have s15 : tabL [(7, funS F7), (8, funS F8), (9, funS trueF), (10, funS Flines), (11, funS F11), (12, funS Flines), (13, funS F13), (14, funS F13), (15, funS F15), (16, funS F16), (17, funS Fst), (18, funS Fsame), (19, funS F11), (20, funS Fsame)] 15 = some (funS F15) := rfl
 have s16 : tabL [(7, funS F7), (8, funS F8), (9, funS trueF), (10, funS Flines), (11, funS F11), (12, funS Flines), (13, funS F13), (14, funS F13), (15, funS F15), (16, funS F16), (17, funS Fst), (18, funS Fsame), (19, funS F11), (20, funS Fsame)] 16 = some (funS F16) := rfl
 have s17 : tabL [(7, funS F7), (8, funS F8), (9, funS trueF), (10, funS Flines), (11, funS F11), (12, funS Flines), (13, funS F13), (14, funS F13), (15, funS F15), (16, funS F16), (17, funS Fst), (18, funS Fsame), (19, funS F11), (20, funS Fsame)] 17 = some (funS Fst) := rfl
 have s18 : tabL [(7, funS F7), (8, funS F8), (9, funS trueF), (10, funS Flines), (11, funS F11), (12, funS Flines), (13, funS F13), (14, funS F13), (15, funS F15), (16, funS F16), (17, funS Fst), (18, funS Fsame), (19, funS F11), (20, funS Fsame)] 18 = some (funS Fsame) := rfl
 have s19 : tabL [(7, funS F7), (8, funS F8), (9, funS trueF), (10, funS Flines), (11, funS F11), (12, funS Flines), (13, funS F13), (14, funS F13), (15, funS F15), (16, funS F16), (17, funS Fst), (18, funS Fsame), (19, funS F11), (20, funS Fsame)] 19 = some (funS F11) := rfl
 have s20 : tabL [(7, funS F7), (8, funS F8), (9, funS trueF), (10, funS Flines), (11, funS F11), (12, funS Flines), (13, funS F13), (14, funS F13), (15, funS F15), (16, funS F16), (17, funS Fst), (18, funS Fsame), (19, funS F11), (20, funS Fsame)] 20 = some (funS Fsame) := rfl
 generalize tabL [(7, funS F7), (8, funS F8), (9, funS trueF), (10, funS Flines), (11, funS F11), (12, funS Flines), (13, funS F13), (14, funS F13), (15, funS F15), (16, funS F16), (17, funS Fst), (18, funS Fsame), (19, funS F11), (20, funS Fsame)] = S at hS s7 s8 s9 s10 s11 s12 s13 s14 s15 s16 s17 s18 s19 s20
 refine fun_ok (S := S) hS hd.f3 (fun ds r h => ?_) (fun ds r h => ?_)
 ·unfold F3 at h; split at h
  ·simp
  ·cases h
 ·unfold F3 at h; split at h
  ·rename_i d e nl z xs
   split at h
   ·rename_i p q l ht hu hl
    obtain ⟨nc, nb, t⟩ := p
    obtain ⟨nc2, nb2, u⟩ := q
    obtain ⟨x, y, rfl⟩ := tdOf_some ht
    obtain ⟨x2, y2, rfl⟩ := tdOf_some hu
    obtain rfl := strsOf_some hl
    simp only [Option.some.injEq] at h
    subst h
    have f7t : ∀ x y, F7 [.agg [.slice nc x (t.calls.map dnD), .int .i64 t.ticks, .int .i64 t.left, .bool t.shut, .slice nb y (t.behind.map .str)]] = some (.bool (overB t)) := fun x y => by simp only [F7, tdOf_mk]
    have f7u : ∀ x y, F7 [.agg [.slice nc2 x (u.calls.map dnD), .int .i64 u.ticks, .int .i64 u.left, .bool u.shut, .slice nb2 y (u.behind.map .str)]] = some (.bool (overB u)) := fun x y => by simp only [F7, tdOf_mk]
    have f8 : ∀ n i, F8 [.slice n i (l.map .str)] = some (.bool (manyB l)) := fun n i => by simp only [F8, strsOf_map]
    have f9 : trueF [] = some (.bool true) := rfl
    have x10 : (([1] : Id) = [0]) = False := by simp
    unfold dc3
    cases o1 : overB t with
    | true =>
     simp only [o1] at f7t
     simp only [↓go1, go2, go3, go4, reduceIte, Nat.reduceEqDiff, Nat.reduceAdd, Nat.zero_le, Nat.sub_zero, Nat.reduceSub, Nat.reduceLT, Nat.reduceLeDiff, List.length_cons, List.length_nil, List.length_map, Nat.zero_add, rd_succ, rd_zero, Option.bind_some, Option.map_some, Option.isSome_some, true_and, and_true, and_false, false_and, and_self, put_rd, Nat.one_ne_zero, Nat.zero_ne_one, List.cons.injEq, List.getElem?_cons_zero, List.getElem?_cons_succ, fill_nil, tdCells, callK_fun s7, callK_fun s8, callK_fun s9, callK_fun s10, callK_fun s11, callK_fun s12, callK_fun s13, callK_fun s14, callK_fun s15, callK_fun s16, callK_fun s17, callK_fun s18, callK_fun s19, callK_fun s20, f7t, f7u, f8, f9, x10]
    | false =>
     cases o2 : overB u with
     | true =>
      simp only [o1] at f7t
      simp only [o2] at f7u
      simp only [↓go1, go2, go3, go4, reduceIte, Nat.reduceEqDiff, Nat.reduceAdd, Nat.zero_le, Nat.sub_zero, Nat.reduceSub, Nat.reduceLT, Nat.reduceLeDiff, List.length_cons, List.length_nil, List.length_map, Nat.zero_add, rd_succ, rd_zero, Option.bind_some, Option.map_some, Option.isSome_some, true_and, and_true, and_false, false_and, and_self, put_rd, Nat.one_ne_zero, Nat.zero_ne_one, List.cons.injEq, List.getElem?_cons_zero, List.getElem?_cons_succ, fill_nil, tdCells, callK_fun s7, callK_fun s8, callK_fun s9, callK_fun s10, callK_fun s11, callK_fun s12, callK_fun s13, callK_fun s14, callK_fun s15, callK_fun s16, callK_fun s17, callK_fun s18, callK_fun s19, callK_fun s20, f7t, f7u, f8, f9, x10]
     | false =>
      cases o3 : manyB l with
      | true =>
       simp only [o1] at f7t
       simp only [o2] at f7u
       simp only [o3] at f8
       simp only [↓go1, go2, go3, go4, reduceIte, Nat.reduceEqDiff, Nat.reduceAdd, Nat.zero_le, Nat.sub_zero, Nat.reduceSub, Nat.reduceLT, Nat.reduceLeDiff, List.length_cons, List.length_nil, List.length_map, Nat.zero_add, rd_succ, rd_zero, Option.bind_some, Option.map_some, Option.isSome_some, true_and, and_true, and_false, false_and, and_self, put_rd, Nat.one_ne_zero, Nat.zero_ne_one, List.cons.injEq, List.getElem?_cons_zero, List.getElem?_cons_succ, fill_nil, tdCells, callK_fun s7, callK_fun s8, callK_fun s9, callK_fun s10, callK_fun s11, callK_fun s12, callK_fun s13, callK_fun s14, callK_fun s15, callK_fun s16, callK_fun s17, callK_fun s18, callK_fun s19, callK_fun s20, f7t, f7u, f8, f9, x10]
      | false =>
       simp only [o1] at f7t
       simp only [o2] at f7u
       simp only [o3] at f8
       obtain ⟨t1, t2⟩ := over_le o1
       obtain ⟨u1, u2⟩ := over_le o2
       have hm := many_le o3
       have f11t : ∀ n x n' y, F11 [.agg [.slice n x (t.calls.map dnD), .int .i64 t.ticks, .int .i64 t.left, .bool t.shut, .slice n' y (t.behind.map .str)]] = some (tdD t.calls.isEmpty n' t) := fun n x n' y => by
        simp only [F11, tdOf_mk]; exact if_pos (by omega)
       have f11u : ∀ n x n' y, F11 [.agg [.slice n x (u.calls.map dnD), .int .i64 u.ticks, .int .i64 u.left, .bool u.shut, .slice n' y (u.behind.map .str)]] = some (tdD u.calls.isEmpty n' u) := fun n x n' y => by
        simp only [F11, tdOf_mk]; exact if_pos (by omega)
       have flt : ∀ n x n' y, Flines [.agg [.slice n x (t.calls.map dnD), .int .i64 t.ticks, .int .i64 t.left, .bool t.shut, .slice n' y (t.behind.map .str)]] = some (.tup [if checkB t = 0 then .slice false [] ((linesB t).map .str) else .slice true [] [], .int .i64 (checkB t)]) := fun n x n' y => by
        simp only [Flines, tdOf_mk]
       have f15 : ∀ n x n' y, F15 [.agg [.slice n x (t.calls.map dnD), .int .i64 t.ticks, .int .i64 t.left, .bool t.shut, .slice n' y (t.behind.map .str)]] = some (.int .i64 (checkB t)) := fun n x n' y => by simp only [F15, tdOf_mk]
       have f16 : ∀ n x n' y, F16 [.agg [.slice n x (t.calls.map dnD), .int .i64 t.ticks, .int .i64 t.left, .bool t.shut, .slice n' y (t.behind.map .str)]] = some (.int .i64 (checkB t)) := fun n x n' y => by simp only [F16, tdOf_mk]
       have f13 : ∀ n i, F13 [.slice n i (l.map .str)] = some (parsed (parseB l)) := fun n i => by simp only [F13, strsOf_map]; exact if_pos hm
       have fsame : ∀ n x n' y m z m' w, Fsame [.agg [.slice n x (t.calls.map dnD), .int .i64 t.ticks, .int .i64 t.left, .bool t.shut, .slice n' y (t.behind.map .str)], .agg [.slice m z (u.calls.map dnD), .int .i64 u.ticks, .int .i64 u.left, .bool u.shut, .slice m' w (u.behind.map .str)]] = some (.bool (decide (t = u))) := fun n x n' y m z m' w => by
        simp only [Fsame, tdOf_mk]; exact if_pos ⟨by omega, by omega⟩
       obtain ⟨p, np, ep, fp, hpl1, hpl2⟩ : ∃ (p : Td) (np : Int) , parsed (parseB l) = .tup [tdD p.calls.isEmpty p.behind.isEmpty p, .int .i64 np] ∧ True ∧ p.calls.length ≤ 1000 ∧ p.behind.length ≤ 1000 := by
        cases hp : parseB l with
        | none => exact ⟨zeroT, 4, rfl, trivial, by simp [zeroT], by simp [zeroT]⟩
        | some p =>
         obtain ⟨_, _, hc⟩ := parse_some hp
         obtain ⟨b1, b2, _, _⟩ := lines_ok hc
         exact ⟨p, 0, rfl, trivial, by omega, by omega⟩
       rw [ep] at f13
       have f11p : ∀ n x n' y, F11 [.agg [.slice n x (p.calls.map dnD), .int .i64 p.ticks, .int .i64 p.left, .bool p.shut, .slice n' y (p.behind.map .str)]] = some (tdD p.calls.isEmpty n' p) := fun n x n' y => by
        simp only [F11, tdOf_mk]; exact if_pos (by omega)
       have fsp : ∀ n x n' y m z m' w, Fsame [.agg [.slice n x (p.calls.map dnD), .int .i64 p.ticks, .int .i64 p.left, .bool p.shut, .slice n' y (p.behind.map .str)], .agg [.slice m z (p.calls.map dnD), .int .i64 p.ticks, .int .i64 p.left, .bool p.shut, .slice m' w (p.behind.map .str)]] = some (.bool true) := fun n x n' y m z m' w => by
        simp only [Fsame, tdOf_mk]; exact (if_pos ⟨by omega, by omega⟩).trans (by simp)
       by_cases hc : checkB t = 0
       ·have g4 : (checkB t = 0) = True := eq_true hc
        simp only [g4, if_true] at flt
        obtain ⟨b1, b2, _, _⟩ := lines_ok hc
        have f17 : ∀ n1 i1 n2 i2, Fst [.slice n1 i1 ((linesB t).map .str), .slice n2 i2 ((linesB t).map .str)] = some (.bool true) := fun _ _ _ _ => by
         simp only [Fst, strsOf_map]; exact (if_pos (by simp only [linesB, List.length_append, List.length_cons, List.length_map]; omega)).trans (by simp)
        simp only [↓go1, go2, go3, go4, reduceIte, Nat.reduceEqDiff, Nat.reduceAdd, Nat.zero_le, Nat.sub_zero, Nat.reduceSub, Nat.reduceLT, Nat.reduceLeDiff, List.length_cons, List.length_nil, List.length_map, Nat.zero_add, rd_succ, rd_zero, Option.bind_some, Option.map_some, Option.isSome_some, true_and, and_true, and_false, false_and, and_self, put_rd, Nat.one_ne_zero, Nat.zero_ne_one, List.cons.injEq, List.getElem?_cons_zero, List.getElem?_cons_succ, fill_nil, tdCells, callK_fun s7, callK_fun s8, callK_fun s9, callK_fun s10, callK_fun s11, callK_fun s12, callK_fun s13, callK_fun s14, callK_fun s15, callK_fun s16, callK_fun s17, callK_fun s18, callK_fun s19, callK_fun s20, f7t, f7u, f8, f9, x10, f11t, f11u, flt, f15, f16, f13, fsame, f11p, fsp, f17]
        refine Need.intro (feetB_ok rfl) ?_
        simp only [↓go1, go2, go3, go4, reduceIte, Nat.reduceEqDiff, Nat.reduceAdd, Nat.zero_le, Nat.sub_zero, Nat.reduceSub, Nat.reduceLT, Nat.reduceLeDiff, List.length_cons, List.length_nil, List.length_map, Nat.zero_add, rd_succ, rd_zero, Option.bind_some, Option.map_some, Option.isSome_some, true_and, and_true, and_false, false_and, and_self, put_rd, Nat.one_ne_zero, Nat.zero_ne_one, List.cons.injEq, List.getElem?_cons_zero, List.getElem?_cons_succ, fill_nil, tdCells, callK_fun s7, callK_fun s8, callK_fun s9, callK_fun s10, callK_fun s11, callK_fun s12, callK_fun s13, callK_fun s14, callK_fun s15, callK_fun s16, callK_fun s17, callK_fun s18, callK_fun s19, callK_fun s20, f7t, f7u, f8, f9, x10, f11t, f11u, flt, f15, f16, f13, fsame, f11p, fsp, f17]
       ·have g4 : (checkB t = 0) = False := eq_false hc
        simp only [g4, if_false] at flt
        have f17 : ∀ n1 i1 n2 i2, Fst [.slice n1 i1 [], .slice n2 i2 []] = some (.bool true) := fun _ _ _ _ => rfl
        simp only [↓go1, go2, go3, go4, reduceIte, Nat.reduceEqDiff, Nat.reduceAdd, Nat.zero_le, Nat.sub_zero, Nat.reduceSub, Nat.reduceLT, Nat.reduceLeDiff, List.length_cons, List.length_nil, List.length_map, Nat.zero_add, rd_succ, rd_zero, Option.bind_some, Option.map_some, Option.isSome_some, true_and, and_true, and_false, false_and, and_self, put_rd, Nat.one_ne_zero, Nat.zero_ne_one, List.cons.injEq, List.getElem?_cons_zero, List.getElem?_cons_succ, fill_nil, tdCells, callK_fun s7, callK_fun s8, callK_fun s9, callK_fun s10, callK_fun s11, callK_fun s12, callK_fun s13, callK_fun s14, callK_fun s15, callK_fun s16, callK_fun s17, callK_fun s18, callK_fun s19, callK_fun s20, f7t, f7u, f8, f9, x10, f11t, f11u, flt, f15, f16, f13, fsame, f11p, fsp, f17]
        refine Need.intro (feetB_ok rfl) ?_
        simp only [↓go1, go2, go3, go4, reduceIte, Nat.reduceEqDiff, Nat.reduceAdd, Nat.zero_le, Nat.sub_zero, Nat.reduceSub, Nat.reduceLT, Nat.reduceLeDiff, List.length_cons, List.length_nil, List.length_map, Nat.zero_add, rd_succ, rd_zero, Option.bind_some, Option.map_some, Option.isSome_some, true_and, and_true, and_false, false_and, and_self, put_rd, Nat.one_ne_zero, Nat.zero_ne_one, List.cons.injEq, List.getElem?_cons_zero, List.getElem?_cons_succ, fill_nil, tdCells, callK_fun s7, callK_fun s8, callK_fun s9, callK_fun s10, callK_fun s11, callK_fun s12, callK_fun s13, callK_fun s14, callK_fun s15, callK_fun s16, callK_fun s17, callK_fun s18, callK_fun s19, callK_fun s20, f7t, f7u, f8, f9, x10, f11t, f11u, flt, f15, f16, f13, fsame, f11p, fsp, f17]
   ·cases h
  ·cases h
end Go.Vd

namespace Go.Vd
open Go.Proofs Go.RowKit Go.ChangeShapes Go.WideShapes Go.Deep Go.Joins
set_option linter.unusedSimpArgs false
set_option linter.unusedVariables false
section
variable {H : Type} {enc : TypeId × Value → H} {P : Program} {w : World} {base : Nat} {spare : Nat → Bool} {held : Bool}
theorem open_slice_fields {t e : TypeId} {fs : Array Field} {fuel : Nat} {cs : List Value} {x : DataW H × List MemPlace} (ht : P.underlying t = some (.slice e)) (he : P.underlying e = some (.struct fs))
  (hone : oneCellFields P fs = true) (hC : P.cellsOf e = fs.size) (h : DataW.trod enc P w base spare held fuel t cs = some x) :
  (cs = [.slice none 0 0] ∧ x = (.nil, [])) ∨
  ∃ (a : Addr) (len cap m : Nat) (D : Nat → DataW H) (Pl : Nat → List MemPlace), cs = [.slice (some a) len cap] ∧ base ≤ a.block ∧ len ≤ cap ∧ cap ≤ maxLen ∧ m = (if spare a.block then cap else len) ∧
   x = (.slice ((List.range len).map D) ((List.range (m - len)).map fun j => D (len + j)), MemPlace.row a (m * fs.size) ++ (List.range m).flatMap Pl) ∧
   ∀ i, i < m → ∃ (ys : List (DataW H × List MemPlace)) (n : Nat), D i = .agg (ys.map (·.1)) ∧ Pl i = ys.flatMap (·.2) ∧ ys.length = fs.size ∧
    ∀ (j : Nat) (f : Field), fs[j]? = some f → ∃ (v : Value) (y : DataW H × List MemPlace), w.cell? (a.add (i * fs.size + j)) = some v ∧ ys[j]? = some y ∧ DataW.trod enc P w base spare held n f.type [v] = some y := by
 rcases open_slice ht h with h0 | ⟨a, len, cap, m, n, D, Pl, hcs, hb, hl, hm, hmm, hx, hi⟩
 ·exact .inl h0
 ·refine .inr ⟨a, len, cap, m, D, Pl, hcs, hb, hl, hm, hmm, by rw [hC] at hx; exact hx, fun i him => ?_⟩
  obtain ⟨cs', hc, ht'⟩ := hi i him
  rw [hC] at hc
  obtain ⟨ys, n', hn', hy, hlen, hyl, hf⟩ := DataW.trod_struct he ht'
  obtain ⟨_, hcl, hat⟩ := World.cells?_some hc
  simp only [Prod.mk.injEq] at hy
  refine ⟨ys, n', hy.1, hy.2, hyl, fun j f hj => ?_⟩
  obtain ⟨ho, hk⟩ := hone_of hone j f hj
  have hjl : j < fs.size := (Array.getElem?_eq_some_iff.1 hj).1
  have hcell := hat j hjl
  have hv : cs'[j]? = some (cs'[j]'(by omega)) := List.getElem?_eq_getElem (by omega)
  have h1 := hf j f hj
  rw [ho, hk] at h1
  have hone' : (cs'.drop j).take 1 = [cs'[j]'(by omega)] := by
   rw [List.drop_eq_getElem_cons (by omega)]
   rfl
  rw [hone'] at h1
  have hys : ys[j]? = some (ys[j]'(by omega)) := List.getElem?_eq_getElem (by omega)
  refine ⟨_, _, ?_, hys, h1.trans hys⟩
  rw [← Go.Deep.add_add, hcell, hv]
end
def allG (w : World) (b : Nat) : Nat := match w.heap[b]? with
 | some (.cells c _ _) => c.size
 | _ => 0
theorem allG_out (w : World) (b : Nat) (h : w.heap.size ≤ b) : allG w b = 0 := by
 simp [allG, Array.getElem?_eq_none h]
theorem cell_in {w : World} {p : Addr} {v : Value} (h : w.cell? p = some v) : p.off < allG w p.block := by
 unfold World.cell? at h
 unfold allG
 split at h
 ·rename_i c e fz hh
  split at h
  ·cases h
  ·rw [hh]; exact (Array.getElem?_eq_some_iff.1 h).1
 ·cases h
theorem exists_list {α : Type} {p : Nat → α → Prop} : ∀ n, (∀ i, i < n → ∃ x, p i x) → ∃ l : List α, l.length = n ∧ ∀ i x, l[i]? = some x → p i x
 | 0, _ => ⟨[], rfl, by simp⟩
 | n + 1, h => by
  obtain ⟨l, h1, h2⟩ := exists_list n (fun i hi => h i (by omega))
  obtain ⟨x, hx⟩ := h n (by omega)
  refine ⟨l ++ [x], by simp [h1], fun i y hy => ?_⟩
  by_cases hi : i < l.length
  ·rw [List.getElem?_append_left hi] at hy; exact h2 i y hy
  ·rw [List.getElem?_append_right (by omega)] at hy
   have hi0 : i - l.length = 0 := by
    rcases Nat.eq_zero_or_pos (i - l.length) with e | e
    ·exact e
    ·rw [List.getElem?_eq_none (by simp; omega)] at hy; cases hy
   rw [hi0] at hy
   simp only [List.getElem?_cons_zero, Option.some.injEq] at hy
   subst hy
   have : i = n := by omega
   subst this; exact hx
section
variable {H : Type} {enc : TypeId × Value → H} {P : Program} {w : World} {base : Nat} {spare : Nat → Bool} {held : Bool}
theorem open_agg5 {r : Reach} {b0 : Nat} {t : TypeId} {f0 f1 f2 f3 f4 : Field} {v : Value} {d : DataW H} {p : List MemPlace} (hs : P.underlying t = some (.struct #[f0, f1, f2, f3, f4])) (hone : oneCellFields P #[f0, f1, f2, f3, f4] = true) (hC : P.cellsOf t = 5)
  (hv : Value.okWide P w r b0 t v) (h : DataW.Trod enc P w base spare held t v d p) :
  ∃ (v0 v1 v2 v3 v4 : Value) (y0 y1 y2 y3 y4 : DataW H × List MemPlace) (n : Nat), v = .agg #[v0, v1, v2, v3, v4] ∧ d = .agg [y0.1, y1.1, y2.1, y3.1, y4.1] ∧ p = y0.2 ++ (y1.2 ++ (y2.2 ++ (y3.2 ++ y4.2))) ∧
   DataW.trod enc P w base spare held n f0.type [v0] = some y0 ∧ DataW.trod enc P w base spare held n f1.type [v1] = some y1 ∧ DataW.trod enc P w base spare held n f2.type [v2] = some y2 ∧ DataW.trod enc P w base spare held n f3.type [v3] = some y3 ∧ DataW.trod enc P w base spare held n f4.type [v4] = some y4 := by
 obtain ⟨cs, rfl, hsz⟩ := okWide_struct hs hv
 obtain ⟨l⟩ := cs
 match l, hsz.trans hC with
 | [c0, c1, c2, c3, c4], _ =>
  obtain ⟨fuel, hf⟩ := h
  obtain ⟨xs, n, _, hx, _, hlen, hg⟩ := DataW.trod_struct hs hf
  obtain ⟨o0, k0⟩ := hone_of hone 0 f0 rfl
  obtain ⟨o1, k1⟩ := hone_of hone 1 f1 rfl
  obtain ⟨o2, k2⟩ := hone_of hone 2 f2 rfl
  obtain ⟨o3, k3⟩ := hone_of hone 3 f3 rfl
  obtain ⟨o4, k4⟩ := hone_of hone 4 f4 rfl
  match xs, hlen with
  | [y0, y1, y2, y3, y4], _ =>
   simp only [Prod.mk.injEq] at hx
   exact ⟨c0, c1, c2, c3, c4, y0, y1, y2, y3, y4, n, rfl, by simpa using hx.1, by simpa using hx.2, by simpa [Value.cells, o0, k0] using hg 0 f0 rfl, by simpa [Value.cells, o1, k1] using hg 1 f1 rfl, by simpa [Value.cells, o2, k2] using hg 2 f2 rfl, by simpa [Value.cells, o3, k3] using hg 3 f3 rfl, by simpa [Value.cells, o4, k4] using hg 4 f4 rfl⟩
end
theorem flat_rows {α : Type} {sz : Nat} {mk : α → D} (hsz : ∀ x, (mk x).cells.length = sz) : ∀ (l : List α) (j : Nat) (d : D), (flat (l.map mk))[j]? = some d → ∃ x, l[j / sz]? = some x ∧ (mk x).cells[j % sz]? = some d
 | [], j, d, h => by simp [flat] at h
 | x :: r, j, d, h => by
  have e : flat ((x :: r).map mk) = (mk x).cells ++ flat (r.map mk) := rfl
  rw [e] at h
  by_cases hj : j < sz
  ·rw [List.getElem?_append_left (by rw [hsz]; exact hj)] at h
   exact ⟨x, by rw [Nat.div_eq_of_lt hj]; rfl, by rw [Nat.mod_eq_of_lt hj]; exact h⟩
  ·rw [List.getElem?_append_right (by rw [hsz]; omega), hsz] at h
   obtain ⟨y, h1, h2⟩ := flat_rows hsz r (j - sz) d h
   rcases Nat.eq_zero_or_pos sz with h0 | h0
   ·exfalso
    subst h0
    have := (List.getElem?_eq_some_iff.1 h2).1
    rw [hsz] at this; omega
   ·refine ⟨y, ?_, ?_⟩
    ·rw [Nat.div_eq_sub_div h0 (by omega)]; exact h1
    ·rw [Nat.mod_eq_sub_mod (by omega)]; exact h2
theorem rows_rep {α : Type} {sz : Nat} {mk : α → D} {vs : α → List Value} (h0 : 0 < sz) (hsz : ∀ x, (mk x).cells.length = sz) (hvl : ∀ x, (vs x).length = sz) (hone : ∀ x, ∀ v ∈ vs x, v.oneCell' = true)
  (hrep : ∀ x (w : World) (g : Gh) (j : Nat) d v, (mk x).cells[j]? = some d → (vs x)[j]? = some v → Rep w g d v) (hcalm : ∀ x, (mk x).calm = true)
  {w : World} {a : Addr} {len cap : Nat} (hc : len ≤ cap) (h : ∀ i, i < len → ∃ x : α, ∀ (j : Nat) v, (vs x)[j]? = some v → w.cell? (a.add (i * sz + j)) = some v) :
  ∃ l : List α, Rep w (startG (allG w)) (.slice false [] (l.map mk)) (.slice (some a) len cap) := by
 obtain ⟨l, hl, hp⟩ := exists_list len h
 have key : ∀ j, j < len * sz → ∃ x v, l[j / sz]? = some x ∧ (vs x)[j % sz]? = some v ∧ w.cell? (a.add j) = some v ∧ v.oneCell' = true := by
  intro j hj
  have hi : j / sz < l.length := by rw [hl]; exact (Nat.div_lt_iff_lt_mul h0).2 hj
  have hm : j % sz < sz := Nat.mod_lt _ h0
  have hx := List.getElem?_eq_getElem hi
  have hv : (vs l[j / sz])[j % sz]? = some _ := List.getElem?_eq_getElem (by rw [hvl]; exact hm)
  have hq := hp (j / sz) _ hx (j % sz) _ hv
  rw [Nat.mul_comm (j / sz) sz, Nat.div_add_mod] at hq
  exact ⟨_, _, hx, hv, hq, hone _ _ (List.mem_of_getElem? hv)⟩
 refine ⟨l, .slice [] _ a len cap sz (fun j => (w.cell? (a.add j)).getD undef) (by simp [hl]) hc (fun d hd => ?_) (fun j hj => ?_) (fun j hj => ?_) (fun j d hd => ?_) (fun h1 => ?_) (fun h => absurd rfl h) (fun d hd => ?_)⟩
 ·obtain ⟨it, _, rfl⟩ := List.mem_map.1 hd; exact hsz it
 ·obtain ⟨x, v, _, _, hv, _⟩ := key j hj
  simp only [hv, Option.getD_some]
 ·obtain ⟨x, v, _, _, hv, ho⟩ := key j hj
  simp only [hv, Option.getD_some, ho]
 ·obtain ⟨x, h1, h2⟩ := flat_rows hsz l j d hd
  have hi : j / sz < l.length := (List.getElem?_eq_some_iff.1 h1).1
  have hj : j < len * sz := (Nat.div_lt_iff_lt_mul h0).1 (by rw [← hl]; exact hi)
  obtain ⟨x', v, h1', hv, hcl, _⟩ := key j hj
  rw [h1] at h1'
  simp only [Option.some.injEq] at h1'; subst h1'
  simp only [hcl, Option.getD_some]
  exact hrep x w _ _ d v h2 hv
 ·obtain ⟨x, v, _, _, hv, _⟩ := key (len * sz - 1) (by omega)
  have := cell_in hv
  rw [add_off, add_block] at this
  show a.off + len * sz ≤ allG w a.block
  omega
 ·obtain ⟨it, _, rfl⟩ := List.mem_map.1 hd; exact hcalm it
def dnV (d : Dn) : List Value := [.int .i64 d.cl, .string ⟨d.line.toArray⟩, .string ⟨d.reply.toArray⟩, .int .i64 d.fr, .int .i64 d.at_, .int .i64 d.to, .bool d.is]
theorem dns_rep {w : World} {a : Addr} {len cap : Nat} (hc : len ≤ cap) (h : ∀ i, i < len → ∃ x : Dn, ∀ (j : Nat) v, (dnV x)[j]? = some v → w.cell? (a.add (i * 7 + j)) = some v) :
  ∃ l : List Dn, Rep w (startG (allG w)) (.slice false [] (l.map dnD)) (.slice (some a) len cap) := by
 refine rows_rep (sz := 7) (mk := dnD) (vs := dnV) (by decide) (fun _ => rfl) (fun _ => rfl) (fun x v hv => ?_) (fun x w g j d v hd hv => ?_) (fun _ => rfl) hc h
 ·simp only [dnV, List.mem_cons, List.mem_nil_iff, or_false] at hv
  rcases hv with rfl | rfl | rfl | rfl | rfl | rfl | rfl <;> rfl
 ·have hd' : ([.int .i64 x.cl, .str x.line, .str x.reply, .int .i64 x.fr, .int .i64 x.at_, .int .i64 x.to, .bool x.is] : List D)[j]? = some d := hd
  match j with
  | 0 => simp [dnV] at hd' hv; subst hd' hv; exact .int _ _
  | 1 => simp [dnV] at hd' hv; subst hd' hv; exact .str _
  | 2 => simp [dnV] at hd' hv; subst hd' hv; exact .str _
  | 3 => simp [dnV] at hd' hv; subst hd' hv; exact .int _ _
  | 4 => simp [dnV] at hd' hv; subst hd' hv; exact .int _ _
  | 5 => simp [dnV] at hd' hv; subst hd' hv; exact .int _ _
  | 6 => simp [dnV] at hd' hv; subst hd' hv; exact .bool _
  | j + 7 => simp at hd'
theorem strs_rep {w : World} {a : Addr} {len cap : Nat} (hc : len ≤ cap) (h : ∀ i, i < len → ∃ x : Bs, w.cell? (a.add i) = some (.string ⟨x.toArray⟩)) :
  ∃ l : List Bs, Rep w (startG (allG w)) (.slice false [] (l.map .str)) (.slice (some a) len cap) := by
 refine rows_rep (sz := 1) (mk := D.str) (vs := fun x => [Value.string ⟨x.toArray⟩]) (by decide) (fun _ => rfl) (fun _ => rfl) (fun x v hv => ?_) (fun x w g j d v hd hv => ?_) (fun _ => rfl) hc (fun i hi => ?_)
 ·simp only [List.mem_singleton] at hv; subst hv; rfl
 ·match j with
  | 0 => simp [D.cells] at hd hv; subst hd hv; exact .str _
  | j + 1 => simp at hv
 ·obtain ⟨x, hx⟩ := h i hi
  refine ⟨x, fun j v hv => ?_⟩
  match j with
  | 0 => simp only [List.getElem?_cons_zero, Option.some.injEq] at hv; subst hv; simpa using hx
  | j + 1 => simp at hv
end Go.Vd

namespace Go.Ve
open Go.RowKit
set_option linter.unusedSimpArgs false
set_option linter.unusedVariables false
inductive D where
 | junk
 | bool (b : Bool)
 | int (k : IntKind) (n : Int)
 | str (s : List UInt8)
 | ptr (i o : Nat)
 | nilptr
 | rsl (i o n : Nat)
 | esl
 | esl0
 | nilsl
 | agg (cs : List D)
 | tup (vs : List D)
 | iface (t : TypeId) (d : D)
 | nilIface
 | fn (f : FuncId) (caps : List D)
 | fnb (f : FuncId) (first : List D)
 | nilFunc
 | map (i : Nat)
 | nilMap
instance : Inhabited D := ⟨.junk⟩
def D.cells : D → List D
 | .agg cs => cs
 | d => [d]
inductive Kd where
 | row (t : TypeId)
 | var (t : TypeId)
inductive Ob where
 | cells (cs : List D) (e : Kd)
 | map (ks vs : List D)
 | it (s : List UInt8) (pos : Nat)
instance : Inhabited Ob := ⟨.cells [] (.var 0)⟩
abbrev Gm := Nat → Option (Nat × Option Nat)
inductive Rep (g : Gm) : D → Value → Prop
 | junk (v : Value) : Rep g .junk v
 | bool (b : Bool) : Rep g (.bool b) (.bool b)
 | int (k : IntKind) (n : Int) : Rep g (.int k n) (.int k n)
 | str (s : List UInt8) : Rep g (.str s) (.string ⟨s.toArray⟩)
 | ptr (i o b : Nat) (C : Option Nat) : g i = some (b, C) → Rep g (.ptr i o) (.pointer (some ⟨b, o, none⟩))
 | nilp : Rep g .nilptr (.pointer none)
 | rsl (i o n b c : Nat) (C : Option Nat) : g i = some (b, C) → n ≤ c → (∀ k, C = some k → o = 0 → c = k) → Rep g (.rsl i o n) (.slice (some ⟨b, o, none⟩) n c)
 | esl (a : Addr) (c : Nat) : Rep g .esl (.slice (some a) 0 c)
 | esl0 (a : Addr) : Rep g .esl0 (.slice (some a) 0 0)
 | nils : Rep g .nilsl (.slice none 0 0)
 | agg (ds : List D) (vs : List Value) : vs.length = ds.length → (∀ v ∈ vs, v.oneCell' = true) →
   (∀ (j : Nat) d v, ds[j]? = some d → vs[j]? = some v → Rep g d v) → Rep g (.agg ds) (.agg vs.toArray)
 | tup (ds : List D) (vs : List Value) : vs.length = ds.length →
   (∀ (j : Nat) d v, ds[j]? = some d → vs[j]? = some v → Rep g d v) → Rep g (.tup ds) (.tuple vs.toArray)
 | iface (t : TypeId) (d : D) (v : Value) : Rep g d v → Rep g (.iface t d) (.iface t v)
 | nili : Rep g .nilIface .nilIface
 | fn (f : FuncId) (ds : List D) (vs : List Value) : vs.length = ds.length →
   (∀ (j : Nat) d v, ds[j]? = some d → vs[j]? = some v → Rep g d v) → Rep g (.fn f ds) (.func (.func f) #[] vs.toArray)
 | fnb (f : FuncId) (ds : List D) (vs : List Value) : vs.length = ds.length →
   (∀ (j : Nat) d v, ds[j]? = some d → vs[j]? = some v → Rep g d v) → Rep g (.fnb f ds) (.func (.func f) vs.toArray #[])
 | nilf : Rep g .nilFunc .nilFunc
 | map (i b : Nat) (C : Option Nat) : g i = some (b, C) → Rep g (.map i) (.map (some b))
 | nilm : Rep g .nilMap (.map none)
def Gm.le (g g' : Gm) : Prop := ∀ i x, g i = some x → g' i = some x
theorem Gm.le.refl (g : Gm) : g.le g := fun _ _ h => h
theorem Gm.le.trans {g g' g'' : Gm} (h : g.le g') (k : g'.le g'') : g.le g'' := fun i x hi => k i x (h i x hi)
theorem Rep.ext {g g' : Gm} {d : D} {v : Value} (h : Rep g d v) (x : g.le g') : Rep g' d v := by
 induction h with
 | junk v => exact .junk v
 | bool b => exact .bool b
 | int k n => exact .int k n
 | str s => exact .str s
 | ptr i o b C h1 => exact .ptr i o b C (x _ _ h1)
 | nilp => exact .nilp
 | rsl i o n b c C h1 h2 h3 => exact .rsl i o n b c C (x _ _ h1) h2 h3
 | esl a c => exact .esl a c
 | esl0 a => exact .esl0 a
 | nils => exact .nils
 | agg ds vs h1 h2 _ ih => exact .agg ds vs h1 h2 ih
 | tup ds vs h1 _ ih => exact .tup ds vs h1 ih
 | iface t d v _ ih => exact .iface t d v ih
 | nili => exact .nili
 | fn f ds vs h1 _ ih => exact .fn f ds vs h1 ih
 | fnb f ds vs h1 _ ih => exact .fnb f ds vs h1 ih
 | nilf => exact .nilf
 | map i b C h1 => exact .map i b C (x _ _ h1)
 | nilm => exact .nilm
def Reps (g : Gm) (ds : List D) (vs : List Value) : Prop :=
 vs.length = ds.length ∧ (∀ v ∈ vs, v.oneCell' = true) ∧ ∀ (j : Nat) d v, ds[j]? = some d → vs[j]? = some v → Rep g d v
theorem Reps.ext {g g' : Gm} {ds : List D} {vs : List Value} (h : Reps g ds vs) (x : g.le g') : Reps g' ds vs :=
 ⟨h.1, h.2.1, fun j d v hd hv => (h.2.2 j d v hd hv).ext x⟩
theorem Reps.nil (g : Gm) : Reps g [] [] := ⟨rfl, by simp, by simp⟩
theorem Reps.one {g : Gm} {d : D} {v : Value} (h : Rep g d v) (hl : v.oneCell' = true) : Reps g [d] [v] := by
 refine ⟨rfl, by simpa using hl, fun j d' v' hd hv => ?_⟩
 cases j with
 | zero => simp at hd hv; subst hd hv; exact h
 | succ j => simp at hd
theorem Reps.append {g : Gm} {ds ds' : List D} {vs vs' : List Value} (h : Reps g ds vs) (k : Reps g ds' vs') : Reps g (ds ++ ds') (vs ++ vs') := by
 refine ⟨by simp [h.1, k.1], fun v hv => ?_, fun j d v hd hv => ?_⟩
 ·rcases List.mem_append.1 hv with hv | hv
  ·exact h.2.1 v hv
  ·exact k.2.1 v hv
 ·by_cases hj : j < ds.length
  ·rw [List.getElem?_append_left hj] at hd
   rw [List.getElem?_append_left (by rw [h.1]; exact hj)] at hv
   exact h.2.2 j d v hd hv
  ·rw [List.getElem?_append_right (by omega)] at hd
   rw [List.getElem?_append_right (by rw [h.1]; omega), h.1] at hv
   exact k.2.2 _ d v hd hv
theorem Reps.take {g : Gm} {ds : List D} {vs : List Value} (h : Reps g ds vs) (n : Nat) : Reps g (ds.take n) (vs.take n) := by
 refine ⟨by simp [h.1], fun v hv => h.2.1 v (List.mem_of_mem_take hv), fun j d v hd hv => ?_⟩
 have hj : j < n := by
  rcases Nat.lt_or_ge j n with h1 | h1
  ·exact h1
  ·rw [List.getElem?_eq_none (by simp; omega)] at hd; cases hd
 rw [List.getElem?_take_of_lt hj] at hd hv
 exact h.2.2 j d v hd hv
theorem Reps.drop {g : Gm} {ds : List D} {vs : List Value} (h : Reps g ds vs) (n : Nat) : Reps g (ds.drop n) (vs.drop n) := by
 refine ⟨by simp [h.1], fun v hv => h.2.1 v (List.mem_of_mem_drop hv), fun j d v hd hv => ?_⟩
 rw [List.getElem?_drop] at hd hv
 exact h.2.2 _ d v hd hv
abbrev Mem := Nat → Option Ob
abbrev Upd := List (Nat × Option Ob)
def Mem.put (m : Mem) (i : Nat) (x : Option Ob) : Mem := fun j => if j = i then x else m j
def Upd.app (m : Mem) : Upd → Mem
 | [] => m
 | (i, x) :: u => Upd.app (m.put i x) u
theorem Mem.put_same {m : Mem} {i : Nat} {x : Option Ob} : m.put i x i = x := by simp [Mem.put]
theorem Mem.put_other {m : Mem} {i j : Nat} {x : Option Ob} (h : j ≠ i) : m.put i x j = m j := by simp [Mem.put, h]
def Grows (P : Program) (e : TypeId) (C : Option Nat) (size : Nat) : Prop :=
 ∃ t z c, P.info? e = some t ∧ 0 < t.size ∧ t.zero = some z ∧ z.cells.size = t.size ∧ C = some c ∧ c ≤ maxLen ∧ size = c * t.size
def Soft (fz : Nat × Nat) (size : Nat) : Prop := fz.2 ≤ fz.1 ∨ size ≤ fz.1
def ObOk (P : Program) (g : Gm) (C : Option Nat) : Ob → Option Obj → Prop
 | .cells cs e, o => ∃ vs T fz, o = some (.cells vs T fz) ∧ Soft fz vs.size ∧ cs.length ≤ vs.size ∧ Reps g cs (vs.toList.take cs.length) ∧ (∀ t, e = .row t → T = t ∧ Grows P t C vs.size) ∧ (∀ t, e = .var t → T = t ∧ C = none ∧ vs.size = cs.length)
 | .map ks vs, o => ∃ es clock, o = some (.map es clock) ∧ Reps g ks (es.toList.map (·.key)) ∧ es.size = vs.length ∧
   (∀ (j : Nat) d v, vs[j]? = some d → (es.toList.map (·.val))[j]? = some v → Rep g d v)
 | .it s pos, o => o = some (.stringIter ⟨s.toArray⟩ pos)
structure Inv (P : Program) (B : Nat) (w0 : World) (m : Mem) (w : World) (g : Gm) : Prop where
 below : Below B w0 w
 size : B ≤ w.heap.size
 obj : ∀ i ob, m i = some ob → ∃ b C, g i = some (b, C) ∧ B ≤ b ∧ ObOk P g C ob w.heap[b]?
 inj : ∀ i i' b C C', m i ≠ none → m i' ≠ none → g i = some (b, C) → g i' = some (b, C') → i = i'
theorem ObOk.ext {P : Program} {g g' : Gm} {C : Option Nat} {ob : Ob} {o : Option Obj} (h : ObOk P g C ob o) (x : g.le g') : ObOk P g' C ob o := by
 cases ob with
 | cells cs e =>
  obtain ⟨vs, T, fz, h1, hs, h2, h3, h4⟩ := h
  exact ⟨vs, T, fz, h1, hs, h2, h3.ext x, h4⟩
 | map ks vs =>
  obtain ⟨es, cl, h1, h2, h3, h4⟩ := h
  exact ⟨es, cl, h1, h2.ext x, h3, fun j d v hd hv => (h4 j d v hd hv).ext x⟩
 | it s pos => exact h
theorem ObOk.lt {P : Program} {g : Gm} {C : Option Nat} {ob : Ob} {w : World} {b : Nat} (h : ObOk P g C ob w.heap[b]?) : b < w.heap.size := by
 cases ob with
 | cells cs e => obtain ⟨vs, T, fz, h1, _⟩ := h; exact (Array.getElem?_eq_some_iff.1 h1).1
 | map ks vs => obtain ⟨es, cl, h1, _⟩ := h; exact (Array.getElem?_eq_some_iff.1 h1).1
 | it s pos => exact (Array.getElem?_eq_some_iff.1 h).1
section
variable {P : Program} {B : Nat} {w0 w w' : World} {m : Mem} {g g' : Gm}
theorem Inv.less (h : Inv P B w0 m w g) {m' : Mem} (hle : ∀ i ob, m' i = some ob → m i = some ob) : Inv P B w0 m' w g := by
 have nn : ∀ i, m' i ≠ none → m i ≠ none := by
  intro i hi
  cases hm : m' i with
  | none => exact absurd hm hi
  | some ob => rw [hle i ob hm]; simp
 exact ⟨h.below, h.size, fun i ob hi => h.obj i ob (hle i ob hi), fun i i' b C C' h1 h2 => h.inj i i' b C C' (nn i h1) (nn i' h2)⟩
theorem Inv.drew (h : Inv P B w0 m w g) : Inv P B w0 m w.drew g := ⟨h.below.drew, h.size, h.obj, h.inj⟩
theorem Inv.over (h : Inv P B w0 m w g) (hb : Below w.heap.size w w') : Inv P B w0 m w' g := by
 refine ⟨h.below.trans (hb.mono h.size), Nat.le_trans h.size hb.size, fun i ob hi => ?_, h.inj⟩
 obtain ⟨b, C, h1, h2, h3⟩ := h.obj i ob hi
 refine ⟨b, C, h1, h2, ?_⟩
 rw [hb.block b h3.lt]; exact h3
def Gm.add (g : Gm) (i b : Nat) (C : Option Nat) : Gm := fun j => if j = i then some (b, C) else g j
theorem Gm.add_le {i b : Nat} {C : Option Nat} (h : g i = none) : g.le (g.add i b C) := by
 intro j x hj
 simp only [Gm.add]
 split
 ·rename_i e; subst e; rw [h] at hj; cases hj
 ·exact hj
theorem Gm.add_same {i b : Nat} {C : Option Nat} : g.add i b C i = some (b, C) := by simp [Gm.add]
theorem Gm.add_other {i j b : Nat} {C : Option Nat} (h : j ≠ i) : g.add i b C j = g j := by simp [Gm.add, h]
theorem Inv.new (h : Inv P B w0 m w g) {i : Nat} (hm : m i = none) (hg : g i = none) (C : Option Nat) {ob : Ob} {o : Obj} (ho : ObOk P g C ob (some o)) :
  Inv P B w0 (m.put i (some ob)) (w.alloc o) (g.add i w.heap.size C) := by
 have x := Gm.add_le (b := w.heap.size) (C := C) hg
 refine ⟨h.below.alloc h.size _, by have := h.size; simp; omega, fun j ob' hj => ?_, fun j j' b D D' h1 h2 h3 h4 => ?_⟩
 ·by_cases hji : j = i
  ·subst hji
   rw [Mem.put_same] at hj
   simp only [Option.some.injEq] at hj
   subst hj
   refine ⟨w.heap.size, C, Gm.add_same, h.size, ?_⟩
   rw [heap_alloc_new]
   exact ho.ext x
  ·rw [Mem.put_other hji] at hj
   obtain ⟨b, D, h1, h2, h3⟩ := h.obj j ob' hj
   refine ⟨b, D, x _ _ h1, h2, ?_⟩
   rw [Below.heap_alloc w _ b h3.lt]
   exact h3.ext x
 ·have old : ∀ j, j ≠ i → m.put i (some ob) j ≠ none → ∀ b D, g.add i w.heap.size C j = some (b, D) → m j ≠ none ∧ g j = some (b, D) ∧ b < w.heap.size := by
   intro j hj hn b D hb
   rw [Mem.put_other hj] at hn
   rw [Gm.add_other hj] at hb
   cases hmj : m j with
   | none => exact absurd hmj hn
   | some ob' =>
    obtain ⟨b', D', h1, h2, h3⟩ := h.obj j ob' hmj
    rw [hb] at h1
    simp only [Option.some.injEq, Prod.mk.injEq] at h1
    obtain ⟨rfl, rfl⟩ := h1
    exact ⟨by simp, hb, h3.lt⟩
  by_cases hj : j = i
  ·by_cases hj' : j' = i
   ·rw [hj, hj']
   ·obtain ⟨_, _, lt⟩ := old j' hj' h2 _ _ h4
    subst hj
    rw [Gm.add_same] at h3
    simp only [Option.some.injEq, Prod.mk.injEq] at h3
    omega
  ·by_cases hj' : j' = i
   ·obtain ⟨_, _, lt⟩ := old j hj h1 _ _ h3
    subst hj'
    rw [Gm.add_same] at h4
    simp only [Option.some.injEq, Prod.mk.injEq] at h4
    omega
   ·obtain ⟨a1, a2, _⟩ := old j hj h1 _ _ h3
    obtain ⟨b1, b2, _⟩ := old j' hj' h2 _ _ h4
    exact h.inj j j' b D D' a1 b1 a2 b2
def World.setObj (w : World) (b : Nat) (o : Obj) : World := { w with heap := w.heap.setIfInBounds b o }
theorem setObj_other {b k : Nat} {o : Obj} (h : k ≠ b) : (World.setObj w b o).heap[k]? = w.heap[k]? := by
 have h' : ¬ b = k := fun e => h e.symm
 simp [World.setObj, Array.getElem?_setIfInBounds, h']
theorem setObj_same {b : Nat} {o : Obj} (h : b < w.heap.size) : (World.setObj w b o).heap[b]? = some o := by
 simp [World.setObj, h]
theorem Inv.upd (h : Inv P B w0 m w g) {i b : Nat} {C : Option Nat} (hm : m i ≠ none) (hg : g i = some (b, C)) {ob : Ob}
  (hb : Below B w w') (hs : w'.heap.size = w.heap.size) (hoth : ∀ k, k ≠ b → w'.heap[k]? = w.heap[k]?) (ho : ObOk P g C ob w'.heap[b]?) :
  Inv P B w0 (m.put i (some ob)) w' g := by
 refine ⟨h.below.trans hb, by rw [hs]; exact h.size, fun j ob' hj => ?_, fun j j' b1 D D' h1 h2 h3 h4 => ?_⟩
 ·by_cases hji : j = i
  ·subst hji
   rw [Mem.put_same] at hj
   simp only [Option.some.injEq] at hj
   subst hj
   cases hmj : m j with
   | none => exact absurd hmj hm
   | some ob0 =>
    obtain ⟨b0, C0, h1, h2, h3⟩ := h.obj j ob0 hmj
    rw [hg] at h1
    simp only [Option.some.injEq, Prod.mk.injEq] at h1
    obtain ⟨rfl, rfl⟩ := h1
    exact ⟨b, C, hg, h2, ho⟩
  ·rw [Mem.put_other hji] at hj
   obtain ⟨b1, D, h1, h2, h3⟩ := h.obj j ob' hj
   refine ⟨b1, D, h1, h2, ?_⟩
   have : b1 ≠ b := by
    rintro rfl
    exact hji (h.inj j i b1 D C (by rw [hj]; simp) hm h1 hg)
   rw [hoth b1 this]; exact h3
 ·have nn : ∀ j, m.put i (some ob) j ≠ none → m j ≠ none := by
   intro j hj
   by_cases hji : j = i
   ·subst hji; exact hm
   ·rw [Mem.put_other hji] at hj; exact hj
  exact h.inj j j' b1 D D' (nn j h1) (nn j' h2) h3 h4
theorem Inv.move (h : Inv P B w0 m w g) {i j b : Nat} {C : Option Nat} (hm : m i ≠ none) (hg : g i = some (b, C)) (hmj : m j = none) (hgj : g j = none) {ob : Ob}
  (hb : Below B w w') (hs : w'.heap.size = w.heap.size) (hoth : ∀ k, k ≠ b → w'.heap[k]? = w.heap[k]?) (ho : ObOk P g C ob w'.heap[b]?) :
  Inv P B w0 ((m.put i none).put j (some ob)) w' (g.add j b C) := by
 have x := Gm.add_le (b := b) (C := C) hgj
 have hij : i ≠ j := by rintro rfl; exact hm hmj
 refine ⟨h.below.trans hb, by rw [hs]; exact h.size, fun k ob' hk => ?_, fun k k' b1 D D' h1 h2 h3 h4 => ?_⟩
 ·by_cases hkj : k = j
  ·subst hkj
   rw [Mem.put_same] at hk
   simp only [Option.some.injEq] at hk
   subst hk
   cases hmi : m i with
   | none => exact absurd hmi hm
   | some ob0 =>
    obtain ⟨b0, C0, h1, h2, h3⟩ := h.obj i ob0 hmi
    rw [hg] at h1
    simp only [Option.some.injEq, Prod.mk.injEq] at h1
    obtain ⟨rfl, rfl⟩ := h1
    exact ⟨b, C, Gm.add_same, h2, ho.ext x⟩
  ·rw [Mem.put_other hkj] at hk
   by_cases hki : k = i
   ·subst hki; rw [Mem.put_same] at hk; cases hk
   ·rw [Mem.put_other hki] at hk
    obtain ⟨b1, D, h1, h2, h3⟩ := h.obj k ob' hk
    refine ⟨b1, D, x _ _ h1, h2, ?_⟩
    have : b1 ≠ b := by
     rintro rfl
     exact hki (h.inj k i b1 D C (by rw [hk]; simp) hm h1 hg)
    rw [hoth b1 this]; exact h3.ext x
 ·have old : ∀ k, k ≠ j → (m.put i none).put j (some ob) k ≠ none → ∀ b' D, g.add j b C k = some (b', D) → k ≠ i ∧ m k ≠ none ∧ g k = some (b', D) := by
   intro k hk hn b' D hb'
   rw [Mem.put_other hk] at hn
   rw [Gm.add_other hk] at hb'
   have hki : k ≠ i := by rintro rfl; rw [Mem.put_same] at hn; exact hn rfl
   rw [Mem.put_other hki] at hn
   exact ⟨hki, hn, hb'⟩
  by_cases hk : k = j
  ·by_cases hk' : k' = j
   ·rw [hk, hk']
   ·obtain ⟨a1, a2, a3⟩ := old k' hk' h2 _ _ h4
    subst hk
    rw [Gm.add_same] at h3
    simp only [Option.some.injEq, Prod.mk.injEq] at h3
    obtain ⟨rfl, rfl⟩ := h3
    exact absurd (h.inj k' i b _ _ a2 hm a3 hg) a1
  ·by_cases hk' : k' = j
   ·obtain ⟨a1, a2, a3⟩ := old k hk h1 _ _ h3
    subst hk'
    rw [Gm.add_same] at h4
    simp only [Option.some.injEq, Prod.mk.injEq] at h4
    obtain ⟨rfl, rfl⟩ := h4
    exact absurd (h.inj k i b _ _ a2 hm a3 hg) a1
   ·obtain ⟨a1, a2, a3⟩ := old k hk h1 _ _ h3
    obtain ⟨b2, b3, b4⟩ := old k' hk' h2 _ _ h4
    exact h.inj k k' b1 D D' a2 b3 a3 b4
end
end Go.Ve
